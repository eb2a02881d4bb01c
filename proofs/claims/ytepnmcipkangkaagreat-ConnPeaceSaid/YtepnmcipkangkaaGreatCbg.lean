/- A part of the proof: lemmas; each with the conditions that it states. -/
import Derived.Test.YtepnmcipkangkaaGreatCbf
set_option linter.unusedVariables false
set_option linter.unusedSimpArgs false
set_option maxRecDepth 100000
set_option maxHeartbeats 40000000
namespace Go.Proofs.YtepnmcipkangkaaGreat
open Go Go.Proofs Go.Sl
attribute [local irreducible] aN fL cL bM aL aR aA dJ dK aU dI pt ro fC star sep bF
attribute [local irreducible] mp DG
variable {R C:List HP} {K:KP} {x mc i b p r j:Nat} {a:Ca} {s:Cn} {M:Option Addr} {B kind sg on w id n:Int} {xx:Bool} {m:Sm} {d:ByteArray} {u bs:List UInt8} {f:Fm} {l:List Sm} {z:Xs} {H:Hp}
def d8:List (Nat×Nat):= [(0,0),(1,0),(2,0),(3,0),(4,1),(5,1),(6,1),(7,1),(8,1),(9,1),(10,1),(11,0),(12,0),(13,0)]
def d9:List (Nat×Nat):= [(0,0),(1,0),(2,0),(3,0),(4,0),(5,1)]
theorem SQ (hI:bO B s) (hE:jP kind sg on w xx s≠0) (hK:K (.tuple #[I6 0,I6 (jP kind sg on w xx s)]) (cA x a (aD s) none 0 R)):CT 52 #[PO x,I6 kind,I6 sg,.agg #[I6 on,I6 w,.bool xx]] (cA x a s M mc R) K:=by
 have hnx:=hI.nx
 have hown:fQ (aD s) true=fQ s true:=rfl
 have hpe:(aD s).pe.st=s.pe.st:=rfl
 have h64:=hI.ou.1
 unfold jP at hE hK
 cases c1:s.dr.ov
 ·rw[c1,if_neg Bool.false_ne_true] at hE hK
  by_cases c2:kind≠1/\kind≠2
  ·rw[if_pos c2] at hK
   refine aH Tryz.func52 ?_
   repeat' (first|refine HG ?_|refine dw d8 ?_|refine dw d9 ?_|refine w5 ?_ ?_|((refine bh fun h=>?_) <;> try exact w6 h)|(refine aE fun hA=>?_;subst hA)|intro _|(show aA _ 104 _ _ _;refine CA (h:=cG (x:=x) (a:=a) (s:=s) (M:=M) (mc:=mc) ?_);rw[c1,if_neg Bool.false_ne_true])|(show aA _ 135 _ _ _;refine CA (h:=m6 (sd:=s.sd) (nx:=s.nx) (la:=s.la) ?_)))
   all_goals(refine aC ?_;exact aB (hK))
  ·rw[if_neg c2] at hE hK
   by_cases c3:sg<0\/2<sg
   ·rw[if_pos c3] at hK
    refine aH Tryz.func52 ?_
    repeat' (first|refine HG ?_|refine dw d8 ?_|refine dw d9 ?_|refine w5 ?_ ?_|((refine bh fun h=>?_) <;> try exact w6 h)|(refine aE fun hA=>?_;subst hA)|intro _|(show aA _ 104 _ _ _;refine CA (h:=cG (x:=x) (a:=a) (s:=s) (M:=M) (mc:=mc) ?_);rw[c1,if_neg Bool.false_ne_true])|(show aA _ 135 _ _ _;refine CA (h:=m6 (sd:=s.sd) (nx:=s.nx) (la:=s.la) ?_)))
    all_goals(refine aC ?_;exact aB (hK))
   ·rw[if_neg c3] at hE hK
    cases c4:KL s.dr
    ·rw[if_pos c4] at hK
     refine aH Tryz.func52 ?_
     repeat' (first|refine HG ?_|refine dw d8 ?_|refine dw d9 ?_|refine w5 ?_ ?_|((refine bh fun h=>?_) <;> try exact w6 h)|(refine aE fun hA=>?_;subst hA)|intro _|(show aA _ 104 _ _ _;refine CA (h:=cG (x:=x) (a:=a) (s:=s) (M:=M) (mc:=mc) ?_);rw[c1,if_neg Bool.false_ne_true])|(show aA _ 135 _ _ _;refine CA (h:=m6 (sd:=s.sd) (nx:=s.nx) (la:=s.la) ?_))|(show aA _ 136 _ _ _;refine CA (h:=B7 (d:=s.dr) ?_);rw[c4]))
     all_goals(refine aC ?_;exact aB (hK))
    ·rw[if_neg (by rw[c4];decide)] at hE hK
     by_cases c5:2147483647<s.nx\/min s.pe.st 32<=(fQ s true:Nat)
     ·rw[if_pos c5] at hK
      refine aH Tryz.func52 ?_
      repeat' (first|refine HG ?_|refine dw d8 ?_|refine dw d9 ?_|refine w5 ?_ ?_|((refine bh fun h=>?_) <;> try exact w6 h)|(refine aE fun hA=>?_;subst hA)|intro _|(show aA _ 104 _ _ _;refine CA (h:=cG (x:=x) (a:=a) (s:=s) (M:=M) (mc:=mc) ?_);rw[c1,if_neg Bool.false_ne_true])|(show aA _ 135 _ _ _;refine CA (h:=m6 (sd:=s.sd) (nx:=s.nx) (la:=s.la) ?_))|(show aA _ 136 _ _ _;refine CA (h:=B7 (d:=s.dr) ?_);rw[c4])|(show aA _ 61 _ _ _;refine CA (h:=tB (x:=x) (a:=a) (s:=aD s) (M:=none) (mc:=0) (bH hI) ?_);rw[hown]))
      all_goals(refine aC ?_;exact aB (hK))
     ·rw[if_neg c5] at hE hK
      cases c6:lZ (lV s.nx kind on w xx)
      ·rw[if_pos c6] at hK
       refine aH Tryz.func52 ?_
       repeat' (first|refine HG ?_|refine dw d8 ?_|refine dw d9 ?_|refine w5 ?_ ?_|((refine bh fun h=>?_) <;> try exact w6 h)|(refine aE fun hA=>?_;subst hA)|intro _|(show aA _ 104 _ _ _;refine CA (h:=cG (x:=x) (a:=a) (s:=s) (M:=M) (mc:=mc) ?_);rw[c1,if_neg Bool.false_ne_true])|(show aA _ 135 _ _ _;refine CA (h:=m6 (sd:=s.sd) (nx:=s.nx) (la:=s.la) ?_))|(show aA _ 136 _ _ _;refine CA (h:=B7 (d:=s.dr) ?_);rw[c4])|(show aA _ 61 _ _ _;refine CA (h:=tB (x:=x) (a:=a) (s:=aD s) (M:=none) (mc:=0) (bH hI) ?_);rw[hown])|(show aA _ 137 _ _ _;refine CA (h:=Cu (ps:= []) (show wM 2 s.nx false ⟨#[]⟩ kind on w xx 0 0 0 []=false from c6) eM rfl (show(0:Nat)<1000000000000000 by decide) ?_)))
       all_goals(refine aC ?_;exact aB (hK))
      ·rw[if_neg (by rw[c6];decide)] at hE hK
       by_cases c7:on=s.nx
       ·rw[if_pos c7] at hK
        refine aH Tryz.func52 ?_
        repeat' (first|refine HG ?_|refine dw d8 ?_|refine dw d9 ?_|refine w5 ?_ ?_|((refine bh fun h=>?_) <;> try exact w6 h)|(refine aE fun hA=>?_;subst hA)|intro _|(show aA _ 104 _ _ _;refine CA (h:=cG (x:=x) (a:=a) (s:=s) (M:=M) (mc:=mc) ?_);rw[c1,if_neg Bool.false_ne_true])|(show aA _ 135 _ _ _;refine CA (h:=m6 (sd:=s.sd) (nx:=s.nx) (la:=s.la) ?_))|(show aA _ 136 _ _ _;refine CA (h:=B7 (d:=s.dr) ?_);rw[c4])|(show aA _ 61 _ _ _;refine CA (h:=tB (x:=x) (a:=a) (s:=aD s) (M:=none) (mc:=0) (bH hI) ?_);rw[hown])|(show aA _ 137 _ _ _;refine CA (h:=jB (ps:= []) (show wM 2 s.nx false ⟨#[]⟩ kind on w xx 0 0 0 []=true from c6) eM rfl (show(0:Nat)<1000000000000000 by decide) ?_)))
        all_goals(refine aC ?_;exact aB (hK))
       ·rw[if_neg c7] at hE hK
        by_cases c8:64<=s.out.length
        ·rw[if_pos c8] at hK
         refine aH Tryz.func52 ?_
         repeat' (first|refine HG ?_|refine dw d8 ?_|refine dw d9 ?_|refine w5 ?_ ?_|((refine bh fun h=>?_) <;> try exact w6 h)|(refine aE fun hA=>?_;subst hA)|intro _|(show aA _ 104 _ _ _;refine CA (h:=cG (x:=x) (a:=a) (s:=s) (M:=M) (mc:=mc) ?_);rw[c1,if_neg Bool.false_ne_true])|(show aA _ 135 _ _ _;refine CA (h:=m6 (sd:=s.sd) (nx:=s.nx) (la:=s.la) ?_))|(show aA _ 136 _ _ _;refine CA (h:=B7 (d:=s.dr) ?_);rw[c4])|(show aA _ 61 _ _ _;refine CA (h:=tB (x:=x) (a:=a) (s:=aD s) (M:=none) (mc:=0) (bH hI) ?_);rw[hown])|(show aA _ 137 _ _ _;refine CA (h:=jB (ps:= []) (show wM 2 s.nx false ⟨#[]⟩ kind on w xx 0 0 0 []=true from c6) eM rfl (show(0:Nat)<1000000000000000 by decide) ?_))|(show aA _ 138 _ _ _;refine CA (h:=xY (out:=s.out) hI.ou ?_)))
         all_goals(refine aC ?_;exact aB (hK))
        ·rw[if_neg c8] at hE
         exact absurd rfl hE
 ·rw[c1,if_pos rfl] at hK
  refine aH Tryz.func52 ?_
  repeat' (first|refine HG ?_|refine dw d8 ?_|refine dw d9 ?_|refine w5 ?_ ?_|((refine bh fun h=>?_) <;> try exact w6 h)|(refine aE fun hA=>?_;subst hA)|intro _|(show aA _ 104 _ _ _;refine CA (h:=cG (x:=x) (a:=a) (s:=s) (M:=M) (mc:=mc) ?_);rw[c1,if_pos rfl]))
  all_goals(refine aC ?_;exact aB (hK))
section
variable {t:dR}
theorem Aj4 {cap:Nat} {en:Bool}:FB cap bs en d<=d.size:=by
 unfold FB
 split
 ·omega
 ·omega
theorem Akq {x:Xs}:L3 (AR x d)<=L3 x+d.size+1:=by
 cases x with
 |b z=>
  have:=Aj4 (cap:=z.cap) (bs:=z.bs) (en:=z.en) (d:=d)
  show z.ac+((FB z.cap z.bs z.en d:Nat):Int)<=z.ac+d.size+1
  omega
 |i z=>
  show(if z.en=true\/256<d.size then z else if z.l.length<z.cap then { z with l:=z.l++ [d],ac:=z.ac+1 } else if z.st=0 then z else if z.st=1\/z.cap=0 then { z with ac:=z.ac+1,dr:=z.dr+1 } else { z with l:=z.l.tail++ [d],ac:=z.ac+1,dr:=z.dr+1 }).ac<=z.ac+d.size+1
  repeat' split
  all_goals first|(dsimp only;omega)|omega
theorem Alj (h:FI B m):FI (B+d.size+1) (Bw m d):=by
 obtain⟨h1,h2,h3,h4⟩:=h
 unfold Bw
 split
 ·refine⟨h1,?_,by show Kq m.y<=_;omega,by show(iD m.y:Int)<=_;omega⟩
  have:=Akq (x:=m.x) (d:=d)
  show L3 (AR m.x d)<=_
  omega
 ·exact⟨h1,by omega,by omega,by omega⟩
theorem PN:(Bw m d).own=m.own:=by unfold Bw;split <;> rfl
theorem QB:(Bl m).own=m.own:=by unfold Bl;split <;> rfl
theorem Ai9 (h:FI B m):FI B (Bl m):=by
 obtain⟨h1,h2,h3,h4⟩:=h
 unfold Bl
 split
 ·refine⟨h1,?_,h3,h4⟩
  show L3 (Ko m.x)<=B
  cases hx:m.x with
  |b z=>rw[hx] at h2;exact h2
  |i z=>rw[hx] at h2;exact h2
 ·exact⟨h1,h2,h3,h4⟩
theorem Ah2 (h:FI B m):FI B { m with y:=G7 m.y n }:=by
 obtain⟨h1,h2,h3,h4⟩:=h
 refine⟨h1,h2,?_,?_⟩
 ·cases hy:m.y with
  |b z=>rw[hy] at h3;exact h3
  |i z=>
   rw[hy] at h3
   show(if 1<=n then { z with ask:=z.ask+min n (2147483647 - z.ask) } else z).ac<=B
   split <;> exact h3
 ·cases hy:m.y with
  |b z=>rw[hy] at h4;exact h4
  |i z=>
   rw[hy] at h4
   show((if 1<=n then { z with ask:=z.ask+min n (2147483647 - z.ask) } else z).l.length:Int)<=B
   split <;> exact h4
theorem X6 (h:bO B s) (hB:B+d.size+1<=250000000):bO (B+d.size+1) (kY id d s):=by
 have hb:=h.bb
 unfold kY
 split
 ·exact(bH h).mono (by omega) hB
 ·split
  ·rename_i m hm
   obtain⟨hi,hmid⟩:=aS hm
   rw[eN (id:=id) (Cc.trans hmid)]
   exact mN (s:=aD s) ((bH h).mono (by omega) hB) hi Cc PN (Alj (h.st m (List.mem_of_getElem? hi)))
  ·exact h.mono (by omega) hB
theorem Aig (h:bO B s):bO B (xF id s):=by
 unfold xF
 split
 ·exact bH h
 ·split
  ·rename_i m hm
   obtain⟨hi,hmid⟩:=aS hm
   rw[eN (id:=id) (Cb.trans hmid)]
   exact mN (s:=aD s) (bH h) hi Cb QB (Ai9 (h.st m (List.mem_of_getElem? hi)))
  ·exact h
theorem Aak (h:bO B s):bO B (mY id n s):=by
 unfold mY
 split
 ·exact bH h
 ·split
  ·rename_i m hm
   obtain⟨hi,hmid⟩:=aS hm
   split
   ·exact bH h
   ·rw[eN (id:=id) (show({ m with y:=Fi m.y n }:Sm).id=id from hmid)]
    have hI2:bO B { ({ aD s with rv:=fO s.rv ((CI m.y n).size:Nat) }:Cn) with l:=s.l.set (cI id s.l) { m with y:=Fi m.y n } }:=mN (s:= { aD s with rv:=fO s.rv ((CI m.y n).size:Nat) }) (rN (bH h)) hi rfl rfl (Tq (h.st m (List.mem_of_getElem? hi)))
    exact Ei hI2 (m7 (m':= { m with y:=Fi m.y n }) hm rfl)
  ·exact h
theorem Abb (h:bO B s):bO B (rJ id s):=by
 unfold rJ
 split
 ·exact bH h
 ·split
  ·rename_i m hm
   obtain⟨hi,hmid⟩:=aS hm
   split
   ·exact bH h
   ·rw[eN (id:=id) (show({ m with y:=FC m.y }:Sm).id=id from hmid)]
    have hI2:bO B { aD s with l:=s.l.set (cI id s.l) { m with y:=FC m.y } }:=mN (s:=aD s) (bH h) hi rfl rfl (Tt (h.st m (List.mem_of_getElem? hi)))
    exact Ei hI2 (m7 (m':= { m with y:=FC m.y }) hm rfl)
  ·exact h
theorem Ait (h:bO B s):bO B (wR id n s):=by
 unfold wR
 split
 ·exact bH h
 ·split
  ·rename_i m hm
   obtain⟨hi,hmid⟩:=aS hm
   rw[eN (id:=id) (show({ m with y:=G7 m.y n }:Sm).id=id from hmid)]
   exact mN (s:=aD s) (bH h) hi rfl rfl (Ah2 (h.st m (List.mem_of_getElem? hi)))
  ·exact h
theorem Adj (h:bO B s):bO B (pJ id on w xx s):=by
 unfold pJ
 split
 ·exact bH h
 ·exact Vx (s8 (bH h))
theorem Zr (h:bO B s):bO B (lU id n s):=by
 unfold lU
 split
 ·exact bH h
 ·split
  ·rename_i m hm
   exact tJ (s:= { aD s with out:=wL (fM id n) s.out }) (s8 (bH h)) hm
  ·exact h
theorem Amc (h:bO B s):bO B (AT s):=by
 unfold AT
 split
 ·exact bH h
 ·exact FN (s8 (bH h))
theorem Y0 {z:FA} (h:z.l.length<=4/\tC z.h/\tC z.g/\∀t∈z.l,tC t):(eC z t).l.length<=4/\tC (eC z t).h/\tC (eC z t).g/\∀q∈(eC z t).l,tC q:=by
 obtain⟨h1,h2,h3,h4⟩:=h
 unfold eC
 by_cases hq:iE z t=0
 ·rw[if_pos hq]
  unfold iE at hq
  split at hq
  ·cases hq
  ·rename_i hc
   split at hq
   ·cases hq
   ·rename_i hl
    have hc:sD t.w t.st t.it=true:=by simpa using hc
    refine⟨by show(z.l++ [t]).length<=4;rw[List.length_append,List.length_singleton];omega,h2,?_,?_⟩
    ·unfold tC sD at *
     rw[decide_eq_true_eq] at *
     show _
     simp only[Ou]
     omega
    ·intro q hq
     rcases List.mem_append.1 hq with hq|hq
     ·exact h4 q hq
     ·rw[List.mem_singleton.1 hq];exact hc
 ·rw[if_neg hq];exact⟨h1,h2,h3,h4⟩
theorem Add (h:bO B s):bO B (tD t s):=by
 unfold tD
 split
 ·exact bH h
 ·exact { s8 (f:=vS (CX (nD s.sh) t)) (bH h) with sh:=Y0 h.sh }
theorem Abe (h:bO B s) (hB:B+1<=250000000):bO (B+1) (s4 s):=
 { h.mono (B':=B+1) (by omega) hB with now:=by have:=h.now;show 0<=s.now+1/\s.now+1<=B+1;omega }
theorem Ad4 (h:bO B s) (hB:B+1<=250000000):bO (B+1) (lF kind sg on w xx s):=by
 unfold lF
 split
 ·exact(bH h).mono (by omega) hB
 ·rename_i hE
  have hE:jP kind sg on w xx s=0:=by simpa using hE
  obtain⟨e1,e2,e3,e4,e5,e6,e7,e8,e9⟩:=DK hE
  have hnx:=h.nx
  have h64:=h.sm.1
  have hmv:=h.mv
  have hI1:=(Jc (s8 (f:=lV s.nx kind on w xx) (bH h)) e5).mono (B':=B+1) (by omega) hB
  have hof:=VP h e5
  refine Wb (s:= { aD s with nx:=s.nx+2,out:=wL (lV s.nx kind on w xx) s.out }) hI1 (Fx h e5) (show s.l.length<64 from Nm h (by omega)) ⟨by omega,e5⟩ ?_ (by show fQ s true<32;omega) (by show(([]:List Mv).length:Int)+s.l.length+1<=B+1;simp only[List.length_nil];omega)
  show gI s.sd (s.nx+2) s.la s.nx=true
  unfold gI
  rw[hof]
  simp only[Bool.and_eq_true,decide_eq_true_eq,if_true]
  omega
theorem BD:∀ {fs:List Fm} {s:Cn} {B:Int},bO B s->(∀f∈fs,bR f)->B+300 * fs.length<=250000000->bO (B+300 * fs.length) (cC fs s)
 | [],s,B,h,_,hB=>h.mono (by simp) hB
 |f::r,s,B,h,hr,hB=>by
  have e:(f::r).length=r.length+1:=rfl
  rw[e] at hB ⊢
  have h1:=zS h (by omega) (hr f (List.mem_cons_self ..))
  unfold cC
  split
  ·exact h1.mono (by omega) hB
  ·exact(BD h1 (fun z hz=>hr z (List.mem_cons_of_mem _ hz)) (by omega)).mono (by omega) hB
theorem C4:∀f∈(pF bs).1.map GG,bR f:=fun f hf=>by
 obtain⟨p,hp,rfl⟩:=List.mem_map.1 hf
 exact PF (Ag2 bs.length bs (Nat.le_refl _) p hp)
theorem Acw (h:bO B s) (hB:B+u.length+300 * (pF (s.inb++u)).1.length<=250000000):bO (B+u.length+300 * (pF (s.inb++u)).1.length) (fJ u s):=by
 have hb:=h.bb
 unfold fJ
 split
 ·exact(bH h).mono (by omega) hB
 ·have h1:=Fa (u:=u) h (by omega)
  have hl:((pF (s.inb++u)).1.map GG).length=(pF (s.inb++u)).1.length:=List.length_map ..
  have h2:=BD (fs:=(eB u (aD s)).1) h1 C4 (by show B+u.length+300 * ((((pF (s.inb++u)).1.map GG).length:Nat):Int)<=250000000;rw[hl];exact hB)
  have h3:bO (B+u.length+300 * (pF (s.inb++u)).1.length) (cC (eB u (aD s)).1 (eB u (aD s)).2):=h2.mono (by show B+u.length+300 * ((((pF (s.inb++u)).1.map GG).length:Nat):Int)<=_;rw[hl];omega) hB
  split
  ·exact h3
  ·exact jN h3
end
section
variable {t:Nat} {y:Ys}
def Ack:Xs->Prop
 |.b x=>TB x.cap x.bs x.en x.ou x.ac x.se x.dr
 |.i x=>TI x.cap x.st x.l x.w x.en x.ou x.ac x.se x.dr
def QK:Ys->Prop
 |.b y=>RB y.cap y.most y.gr y.got y.us y.bs
 |.i y=>RI y.mr y.room y.op y.ask y.l y.ac y.tk y.dr
theorem Wm (h:bZ (BX t z::R) H):Ack z:=by
 cases z with
 |b z=>
  obtain⟨r,h⟩:=h.ex
  exact(aG.cons aG.unsep H (aG.unsep H h)).tail.tail.pure.1
 |i z=>
  obtain⟨q,h⟩:=h.ex
  obtain⟨d,h⟩:=h.ex
  exact(aG.cons (aG.cons aG.unsep) H (aG.cons aG.unsep H (aG.unsep H h))).tail.tail.tail.pure.1
theorem VW (h:bZ (Cs r y::R) H):QK y:=by
 cases y with
 |b y=>
  obtain⟨q,h⟩:=h.ex
  obtain⟨d,h⟩:=h.ex
  exact(aG.cons (aG.cons aG.unsep) H (aG.cons aG.unsep H (aG.unsep H h))).tail.tail.tail.pure.1
 |i y=>
  obtain⟨q,h⟩:=h.ex
  obtain⟨d,h⟩:=h.ex
  exact(aG.cons (aG.cons aG.unsep) H (aG.cons aG.unsep H (aG.unsep H h))).tail.tail.tail.pure.1
def J8 (m:Sm):Prop:=Ack m.x/\QK m.y/\xV m
theorem Aeb (h:bZ (tH b m::R) H):J8 m:=by
 obtain⟨li,h⟩:=h.ex
 obtain⟨t,h⟩:=h.ex
 obtain⟨r,h⟩:=h.ex
 obtain⟨hok,h⟩:=(tM H h).pure
 exact⟨Wm h.tail.tail,VW h.tail.tail.tail,hok⟩
theorem Ic:∀ {q:List (kD×Sm)} {R:List HP} {H:Hp},bZ (eH Sp q::R) H->∀e∈q,J8 e.2
 | [],_,_,_,e,he=>by cases he
 |e0::q,R,H,h,e,he=>by
  have h1:=Fe H h
  rcases List.mem_cons.1 he with rfl|he
  ·exact Aeb h1
  ·exact Ic h1.tail e he
theorem Aa7 (h:bZ (IH p l::R) H):∀m∈l,J8 m:=fun m hm=>by
 obtain⟨A,h⟩:=h.ex
 obtain⟨c,h⟩:=h.ex
 obtain⟨q,h⟩:=h.ex
 obtain⟨hI,h⟩:=(tI H h).pure
 rw[<- hI.1] at hm
 obtain⟨e,he,rfl⟩:=List.mem_map.1 hm
 exact Ic h.tail.tail e he
theorem I1 {f:FuncId} {args:Array Value} {P:Program} (h:(∀m∈s.l,J8 m)->aA P f args (cA x a s M mc R) K):aA P f args (cA x a s M mc R) K:=aA.fact (fun _ hs=>Aa7 hs.tail.tail) h
theorem Aiz (h:Ack z):JX z<=4096/\L3 z=xSe z+xDr z+JX z/\0<=xSe z/\0<=xDr z/\L3 z<=900000000:=by
 cases z with
 |b z=>obtain⟨h1,h2,h3,h4,h5,h6,h7⟩:=h;simp only[JX,L3,xSe,xDr];omega
 |i z=>obtain⟨h1,h2,h3,h4,h5,h6,h7⟩:=h;simp only[JX,L3,xSe,xDr];omega
theorem Aj9 (h:QK y):iD y<=4096:=by
 cases y with
 |b y=>obtain⟨h1,h2,h3,h4,h5,h6,h7,h8,h9⟩:=h;simp only[iD];omega
 |i y=>obtain⟨h1,h2,h3,h4,h5,h6,h7,h8,h9⟩:=h;simp only[iD];omega
theorem Ac9 (hK:JX z<=4096->K (I6 (JX z:Nat)) (BX t z::R)):CT 46 #[.agg #[I6 (L3 z),I6 (xSe z),I6 (xDr z)]] (BX t z::R) K:=aA.fact (fun _ hs=>Wm hs) fun hf=>by
 obtain⟨h1,h2,h3,h4,h5⟩:=Aiz hf
 have hK:=hK h1
 have e:((JX z:Nat):Int)=L3 z - xSe z - xDr z:=by omega
 rw[e] at hK
 exact iB ⟨h3,h4,by omega,by omega,by omega,by omega⟩ hK
theorem YM (hK:iD y<=4096->K (I6 (iD y:Nat)) (Cs r y::R)):CT 64 #[PO r] (Cs r y::R) K:=aA.fact (fun _ hs=>VW hs) fun hf=>HL (hK (Aj9 hf))
theorem Cw (hs:G6 l) (hm:l[i]?=some m) (hK:∀b li t r,xV m->K (.tuple #[I6 m.id,PO b,.bool true]) (pt b [PO li,PO t,PO r,I6 m.id,.bool m.own] 223::qU li m.sta::BX t m.x::Cs r m.y::OM p l i b::R)):CT 62 #[PO p,I6 i] (IH p l::R) K:=
 aA.satsK (K':=fun v C'=>∃b,v=.tuple #[I6 m.id,PO b,.bool true]/\C'=tH b m::OM p l i b::R) (FM hs hm fun b=>⟨b,rfl,rfl⟩) fun v C' H ⟨b,hv,hC⟩ hS=>by
  subst hv hC
  obtain⟨li,hS⟩:=hS.ex
  obtain⟨t,hS⟩:=hS.ex
  obtain⟨r,hS⟩:=hS.ex
  obtain⟨hok,hS⟩:=(tM H hS).pure
  exact⟨_,hS,hK b li t r hok⟩
theorem RP (hs:G6 l) (hm:bX id l=some m) (hK:∀b li t r,xV m->K (.tuple #[PO b,.bool true]) (pt b [PO li,PO t,PO r,I6 m.id,.bool m.own] 223::qU li m.sta::BX t m.x::Cs r m.y::OM p l (cI id l) b::R)):CT 126 #[PO p,I6 id] (IH p l::R) K:=
 aA.satsK (K':=fun v C'=>∃b,v=.tuple #[PO b,.bool true]/\C'=tH b m::OM p l (cI id l) b::R) (gR hs hm fun b=>⟨b,rfl,rfl⟩) fun v C' H ⟨b,hv,hC⟩ hS=>by
  subst hv hC
  obtain⟨li,hS⟩:=hS.ex
  obtain⟨t,hS⟩:=hS.ex
  obtain⟨r,hS⟩:=hS.ex
  obtain⟨hok,hS⟩:=(tM H hS).pure
  exact⟨_,hS,hK b li t r hok⟩
theorem RE (hI:bO B s) (hK:∀B d,K (.slice B (s.l.map Sm.id).length d) (bT B d 3 k8 (s.l.map Sm.id)::cA x a s M mc R)):CT 39 #[PO x] (cA x a s M mc R) K:=by
 dsimp only[cA,nF] at hK ⊢
 refine aH Tryz.func39 ?_
 repeat' (first|refine ZR ?_|refine w5 ?_ ?_|((refine bh fun h=>?_) <;> try exact w6 h)|(refine aE fun hA=>?_;subst hA)|intro _|(show aA _ 125 _ _ _;refine CA (h:=M6 (l:=s.l) hI.sm (fun _ _=>?_))))
 all_goals(refine aC ?_;exact aB (hK _ _))
theorem tE (hI:bO B s) (hm:bX id s.l=some m) (hK:∀b,K (PO b) (tH b m::cnH x a s M mc (cI id s.l) b R)):CT 41 #[PO x,I6 id] (cA x a s M mc R) K:=by
 dsimp only[cA,nF,cnH] at hK ⊢
 refine aH Tryz.func41 ?_
 repeat' (first|refine ZR ?_|refine w5 ?_ ?_|((refine bh fun h=>?_) <;> try exact w6 h)|(refine aE fun hA=>?_;subst hA)|intro _|(show aA _ 126 _ _ _;refine CA (h:=gR (l:=s.l) hI.sm hm (fun _=>?_))))
 all_goals(refine aC ?_;exact aB (hK _))
theorem Pq (hK:K (PO a.fr) (cA x a s M mc R)):CT 14 #[PO x] (cA x a s M mc R) K:=by
 dsimp only[cA,nF] at hK ⊢
 refine aH Tryz.func14 ?_
 repeat' (first|refine v4 ?_|refine w5 ?_ ?_|((refine bh fun h=>?_) <;> try exact w6 h)|(refine aE fun hA=>?_;subst hA)|intro _)
 all_goals(refine aC ?_;exact aB (hK))
theorem VE (hK:K (PO a.rc) (cA x a s M mc R)):CT 17 #[PO x] (cA x a s M mc R) K:=by
 dsimp only[cA,nF] at hK ⊢
 refine aH Tryz.func17 ?_
 repeat' (first|refine v4 ?_|refine w5 ?_ ?_|((refine bh fun h=>?_) <;> try exact w6 h)|(refine aE fun hA=>?_;subst hA)|intro _)
 all_goals(refine aC ?_;exact aB (hK))
theorem UL (hK:K (PO a.sh) (cA x a s M mc R)):CT 66 #[PO x] (cA x a s M mc R) K:=by
 dsimp only[cA,nF] at hK ⊢
 refine aH Tryz.func66 ?_
 repeat' (first|refine v4 ?_|refine w5 ?_ ?_|((refine bh fun h=>?_) <;> try exact w6 h)|(refine aE fun hA=>?_;subst hA)|intro _)
 all_goals(refine aC ?_;exact aB (hK))
theorem TW (hK:K (PO a.ou) (cA x a s M mc R)):CT 72 #[PO x] (cA x a s M mc R) K:=by
 dsimp only[cA,nF] at hK ⊢
 refine aH Tryz.func72 ?_
 repeat' (first|refine v4 ?_|refine w5 ?_ ?_|((refine bh fun h=>?_) <;> try exact w6 h)|(refine aE fun hA=>?_;subst hA)|intro _)
 all_goals(refine aC ?_;exact aB (hK))
def wtL (l:List Sm):Nat:=(l.map fun m=>JX m.x).sum
def kpL (l:List Sm):Nat:=(l.map fun m=>iD m.y).sum
theorem Ac6 (h:l[j]?=some m):wtL (l.take (j+1))=wtL (l.take j)+JX m.x:=by
 unfold wtL
 rw[List.take_add_one,h]
 simp
theorem Ac2 (h:l[j]?=some m):kpL (l.take (j+1))=kpL (l.take j)+iD m.y:=by
 unfold kpL
 rw[List.take_add_one,h]
 simp
def zN (s:Cn):Value:=.agg #[I6 s.l.length,I6 (fQ s true:Nat),I6 (wtL s.l:Nat),I6 (kpL s.l:Nat),.bool s.dr.ov,I6 s.dr.co,I6 s.now]
def qS:Tr:=(.br (.st 0 1 (.st 1 1 (.st 2 1 (.st 3 1 (.st 4 2 (.br (.st 5 2 (.st 6 2 (.st 14 3 (.st 7 3 (.st 8 3 (.st 9 3 (.st 10 3 (.st 11 3 (.st 12 3 (.st 13 1 (.st 15 1 .nil))))))))))) (.st 14 3 (.st 5 2 (.st 6 2 (.st 7 3 (.st 8 3 (.st 9 3 (.st 10 3 (.st 11 3 (.st 12 3 (.st 13 1 (.st 15 1 .nil))))))))))))))))) (.st 14 3 (.st 0 1 (.st 1 1 (.st 2 1 (.st 3 1 (.st 4 2 (.st 5 2 (.st 6 2 (.st 7 3 (.st 8 3 (.st 9 3 (.st 10 3 (.st 11 3 (.st 12 3 (.st 13 1 (.st 15 1 .nil)))))))))))))))))
def qP:List (Nat×Nat):= [(2,0),(3,1),(4,1),(5,1),(0,3),(1,3),(6,0),(7,0),(8,1)]
def pI:List (Nat×Nat):= [(2,0),(3,1),(4,1),(0,2),(1,2),(5,0),(6,0),(7,1)]
theorem Lp (hI:bO B s) (hK:K (zN s) (cA x a s M mc R)):CT 13 #[PO x] (cA x a s M mc R) K:=by
 have h64:=hI.sm.1
 unfold zN at hK
 dsimp only[cA,nF] at hK ⊢
 refine aH Tryz.func13 ?_
 repeat' (first|refine v79 ?_|refine Sf qS ?_|refine dw qP ?_|refine dw pI ?_|refine w5 ?_ ?_|((refine bh fun h=>?_) <;> try exact w6 h)|(refine aE fun hA=>?_;subst hA)|intro _|(show aA _ 59 _ _ _;refine CA (h:=JQ (d:=s.dr) ?_))|(show aA _ 60 _ _ _;refine CA (h:=Ad (l:=s.l) ?_))|(show aA _ 61 _ _ _;refine CA (h:=tB (x:=x) (a:=a) (s:=s) (M:=M) (mc:=mc) hI ?_)))
 all_goals
  rename_i r2 r5
  refine jA (fun n a' C'=>∃j:Nat,j+n=s.l.length/\wtL (s.l.take j)<=4096 * j/\kpL (s.l.take j)<=4096 * j/\dH a' [(0,PO x),(2,PO r2),(5,PO r5),(39,I6 s.l.length),(40,I6 j)]/\C'=pt r2 [I6 0,I6 0,I6 0,I6 0,.bool false,I6 0,I6 0] 37::pt r5 [I6 s.l.length,I6 (fQ s true:Nat),I6 (wtL (s.l.take j):Nat),I6 (kpL (s.l.take j):Nat),.bool s.dr.ov,I6 s.dr.co,I6 s.now] 37::cA x a s M mc R) s.l.length (cJ s.l.length ⟨0,by omega,by simp[wtL],by simp[kpL],⟨rfl,rfl,rfl,rfl,rfl,trivial⟩,rfl⟩ (by omega)) ?_
  rintro n a' C' ⟨j,hj,hw,hk,ha,rfl⟩
  refine i6 _ ha ?_
  simp only[gJ]
  by_cases hlt:j<s.l.length
  ·obtain⟨m,hm⟩:∃m,s.l[j]?=some m:=⟨_,List.getElem?_eq_getElem hlt⟩
   have hw2:=Ac6 hm
   have hk2:=Ac2 hm
   have hw3:((wtL (s.l.take j):Nat):Int)+((JX m.x:Nat):Int)=(wtL (s.l.take (j+1)):Nat):=by omega
   have hk3:((kpL (s.l.take j):Nat):Int)+((iD m.y:Nat):Int)=(kpL (s.l.take (j+1)):Nat):=by omega
   repeat' (first|refine v79 ?_|refine Sf qS ?_|refine dw qP ?_|refine dw pI ?_|refine w5 ?_ ?_|((refine bh fun h=>?_) <;> try exact w6 h)|(refine aE fun hA=>?_;subst hA)|intro _|(show aA _ 62 _ _ _;refine CA (h:=FM (l:=s.l) hI.sm hm (fun _=>?_)))|(show aA _ 42 _ _ _;refine CA (h:=OJ (m:=m) (fun _=>?_)))|(show aA _ 43 _ _ _;refine CA (h:=Acp (x:=m.x) ?_))|(show aA _ 46 _ _ _;refine CA (h:=Ac9 (z:=m.x) (fun hxl=>?_)))|(show aA _ 63 _ _ _;refine CA (h:=aA.ent (JK (m:=m) (z:=m.x) rfl) (o9 (m:=m) (fun _=>?_))))|(show aA _ 64 _ _ _;refine CA (h:=YM (y:=m.y) (fun hyl=>?_))))
   all_goals rw[hw3,hk3]
   all_goals(show aU _ _ _ _;exact qK (m:=n - 1) (C':=pt r2 [I6 0,I6 0,I6 0,I6 0,.bool false,I6 0,I6 0] 37::pt r5 [I6 s.l.length,I6 (fQ s true:Nat),I6 (wtL (s.l.take (j+1)):Nat),I6 (kpL (s.l.take (j+1)):Nat),.bool s.dr.ov,I6 s.dr.co,I6 s.now] 37::cA x a s M mc R) (by omega) (aG.trans (by exact aY) (aG.trans (aG.cons (A:=pt r2 [I6 0,I6 0,I6 0,I6 0,.bool false,I6 0,I6 0] 37) (aG.cons (A:=pt r5 [I6 s.l.length,I6 (fQ s true:Nat),I6 (wtL (s.l.take (j+1)):Nat),I6 (kpL (s.l.take (j+1)):Nat),.bool s.dr.ov,I6 s.dr.co,I6 s.now] 37) (lX (m:=m) (y:=m.y) rfl))) (aG.cons (aG.cons (dF (x:=x) (a:=a) (s:=s) (M:=M) (mc:=mc) (R:=R) hm))))) ⟨j+1,by omega,by omega,by omega,⟨rfl,rfl,rfl,rfl,rfl,trivial⟩,rfl⟩)
  ·obtain rfl:j=s.l.length:=by omega
   rw[List.take_length]
   repeat' (first|refine v79 ?_|refine Sf qS ?_|refine dw qP ?_|refine dw pI ?_|refine w5 ?_ ?_|((refine bh fun h=>?_) <;> try exact w6 h)|(refine aE fun hA=>?_;subst hA)|intro _)
   all_goals(refine aC ?_;exact aB (hK))
end
theorem Ah0:aG (pt r [I6 f.t,I6 f.st,.bool f.e,.string f.d,I6 f.k,I6 f.on,I6 f.w,.bool f.x,I6 f.c,I6 f.la,I6 f.n,.slice f.pa f.pn f.pc] 178::R) (bT (some ⟨r,0,none⟩) 1 178 wD [f]::R):=fun H hs=>by
 refine i4 (pre:= []) (post:= []) rfl ?_ (Nat.le_refl _) (by simp)
 rw[show [f].flatMap wD.enc=wD.enc f from by simp,List.nil_append,List.append_nil]
 exact hs
theorem NX (h:bO B s) (hB:B+1<=250000000):bO (B+1) { s with bt:=iA s.bt s.now }:=
 { h.mono (B':=B+1) (by omega) hB with
   bt:=by
    have h1:=h.bt
    have h2:=h.now
    show(0<=(iA s.bt s.now).no/\(iA s.bt s.now).no<=B+1)/\(0<=(iA s.bt s.now).he/\(iA s.bt s.now).he<=B+1)/\(0<=(iA s.bt s.now).si/\(iA s.bt s.now).si<=B+1)/\0<=(iA s.bt s.now).nn/\(iA s.bt s.now).nn<=B+1
    unfold iA
    repeat' split
    all_goals first|(dsimp only;omega)|omega }
theorem Hn {q:Bool} (h:bO B s):bO B { s with sl:=nW s.sl s.now q }:=
 { h with
   sl:=by
    have h1:=h.sl
    have h2:=h.now
    show(0<=(nW s.sl s.now q).nw/\(nW s.sl s.now q).nw<=B)/\0<=(nW s.sl s.now q).si/\(nW s.sl s.now q).si<=B
    unfold nW
    repeat' split
    all_goals first|(dsimp only;omega)|omega }
theorem Je (h:bO B s) (hB:B+1<=250000000):bO (B+1) (bI s):=by
 have h1:=NX h hB
 unfold bI
 split
 ·exact jN h1
 ·split
  ·exact jN (s:= { s with bt:=iA s.bt s.now,sl:=nW s.sl s.now (rW s) }) (Hn (q:=rW s) h1)
  ·exact Hn (q:=rW s) h1
theorem Acc {f:Sm->Bool} (h:l[j]?=some m):(l.take (j+1)).any f=((l.take j).any f || f m):=by
 rw[List.take_add_one,h]
 simp
def dP:List (Nat×Nat):= [(0,0),(1,0),(2,0),(3,0),(4,0),(5,0),(6,0),(7,0),(8,1),(9,0),(10,0),(11,0),(12,0),(13,0)]
def dO:List (Nat×Nat):= [(0,0),(1,0),(2,0),(3,0),(4,0),(5,0),(6,1),(7,0),(8,0),(9,1),(10,1),(11,1),(12,1),(13,1),(14,1),(15,1),(16,1),(17,0),(18,0),(19,0)]
def dL:List (Nat×Nat):= [(0,0),(1,0),(2,0),(3,0),(4,0),(5,0),(6,0),(7,0),(8,0),(9,1),(10,0)]
theorem GQ (hI:bO B s) (hB:B+1<=250000000) (hK:∀A c M mc,K (.slice A (fD s).length c) (bT A c 178 wD (fD s)::cA x a (bI s) M mc R)):CT 106 #[PO x] (cA x a s M mc R) K:=by
 have hbb:=hI.bb
 have hnw:=hI.now
 have hsl:=hI.sl
 have h64:=hI.sm.1
 have hI1:=NX hI hB
 have hld:=hI.ld.ok (by omega)
 dsimp only[cA,nF]
 refine aH Tryz.func106 ?_
 repeat' (first|refine ZS ?_|refine dw dP ?_|refine dw dO ?_|refine dw dL ?_|refine w5 ?_ ?_|((refine bh fun h=>?_) <;> try exact w6 h)|(refine aE fun hA=>?_;subst hA)|intro _|(show aA _ 179 _ _ _;refine CA (h:=X2 (b:=s.bt) (Al5 hI) (by omega) ?_))|(show aA _ 60 _ _ _;refine CA (h:=Ad (l:=s.l) ?_)))
 refine jA (fun n a' C'=>∃(j:Nat) (q:Bool),j+n=s.l.length/\q=(s.l.take j).any (HO s.ld)/\dH a' [(0,PO x),(3,I6 (QI s.bt s.now)),(4,.string (btD s.bt s.now)),(5,.bool q),(26,I6 s.l.length),(27,I6 j)]/\C'=cA x a { s with bt:=iA s.bt s.now } M mc R) s.l.length (cJ s.l.length ⟨0,false,by omega,by simp,⟨rfl,rfl,rfl,rfl,rfl,rfl,trivial⟩,rfl⟩ (by omega)) ?_
 rintro n a' C' ⟨j,q,hj,hq,ha,rfl⟩
 refine i6 _ ha ?_
 simp only[gJ]
 by_cases hlt:j<s.l.length
 ·obtain⟨m,hm⟩:∃m,s.l[j]?=some m:=⟨_,List.getElem?_eq_getElem hlt⟩
  have hany:=Acc (f:=HO s.ld) hm
  rw[<- hq] at hany
  dsimp only[cA,nF]
  cases q
  ·rw[Bool.false_or] at hany
   cases hg:Sw m
   ·have hs:HO s.ld m=false:=by unfold HO;rw[hg];rfl
    have hg2:decide (m.sta=1\/m.sta=3)=false:=hg
    repeat' (first|refine ZS ?_|refine dw dP ?_|refine dw dO ?_|refine dw dL ?_|refine w5 ?_ ?_|((refine bh fun h=>?_) <;> try exact w6 h)|(refine aE fun hA=>?_;subst hA)|intro _|(show aA _ 62 _ _ _;refine CA (h:=Cw (l:=s.l) hI.sm hm (fun bq li t r hok=>?_)))|(show aA _ 180 _ _ _;refine CA (h:=p6 (s:=m.sta) ?_);rw[hg2]))
    all_goals(show aU _ _ _ _;exact qK (m:=n - 1) (by omega) (aG.trans (by exact aY) (aG.trans (cS (m:=m) hok) (dF (x:=x) (a:=a) (s:= { s with bt:=iA s.bt s.now }) (M:=M) (mc:=mc) (R:=R) hm))) ⟨j+1,false,by omega,by rw[hany,hs],⟨rfl,rfl,rfl,rfl,rfl,rfl,trivial⟩,rfl⟩)
   ·have hs:HO s.ld m=Ahc m.x (bB m.id s.ld):=by unfold HO;rw[hg];rfl
    have hg2:decide (m.sta=1\/m.sta=3)=true:=hg
    repeat' (first|refine ZS ?_|refine dw dP ?_|refine dw dO ?_|refine dw dL ?_|refine w5 ?_ ?_|((refine bh fun h=>?_) <;> try exact w6 h)|(refine aE fun hA=>?_;subst hA)|intro _|(show aA _ 62 _ _ _;refine CA (h:=Cw (l:=s.l) hI.sm hm (fun bq li t r hok=>?_)))|(show aA _ 180 _ _ _;refine CA (h:=p6 (s:=m.sta) ?_);rw[hg2])|(show aA _ 42 _ _ _;refine CA (h:=Oj ?_))|(show aA _ 182 _ _ _;refine CA (h:=u9 (s:=s.ld) hld ?_))|(show aA _ 181 _ _ _;refine CA (h:=Ahb (x:=m.x) ?_)))
    all_goals(show aU _ _ _ _;exact qK (m:=n - 1) (by omega) (aG.trans (by exact aY) (aG.trans (cS (m:=m) hok) (dF (x:=x) (a:=a) (s:= { s with bt:=iA s.bt s.now }) (M:=M) (mc:=mc) (R:=R) hm))) ⟨j+1,Ahc m.x (bB m.id s.ld),by omega,by rw[hany,hs],⟨rfl,rfl,rfl,rfl,rfl,rfl,trivial⟩,rfl⟩)
  ·rw[Bool.true_or] at hany
   repeat' (first|refine ZS ?_|refine dw dP ?_|refine dw dO ?_|refine dw dL ?_|refine w5 ?_ ?_|((refine bh fun h=>?_) <;> try exact w6 h)|(refine aE fun hA=>?_;subst hA)|intro _|(show aA _ 62 _ _ _;refine CA (h:=FM (l:=s.l) hI.sm hm (fun _=>?_))))
   all_goals(show aU _ _ _ _;exact qK (m:=n - 1) (by omega) (aG.trans (by exact aY) (dF (x:=x) (a:=a) (s:= { s with bt:=iA s.bt s.now }) (M:=M) (mc:=mc) (R:=R) hm)) ⟨j+1,true,by omega,hany.symm,⟨rfl,rfl,rfl,rfl,rfl,rfl,trivial⟩,rfl⟩)
 ·obtain rfl:j=s.l.length:=by omega
  rw[List.take_length] at hq
  have hq:q=rW s:=hq
  subst hq
  dsimp only[cA,nF]
  unfold fD bI at hK
  by_cases h2:QI s.bt s.now=2
  ·rw[if_pos (.inl h2)] at hK
   simp only[if_pos h2] at hK
   repeat' (first|(show Br _ _ _;refine Br.t (by first|(simp <;> done)|simpa using h2) ?_)|refine ZS ?_|refine dw dP ?_|refine dw dO ?_|refine dw dL ?_|refine w5 ?_ ?_|((refine bh fun h=>?_) <;> try exact w6 h)|(refine aE fun hA=>?_;subst hA)|intro _|(show aA _ 118 _ _ _;refine CA (h:=dQ (x:=x) (a:=a) (s:= { s with bt:=iA s.bt s.now }) hI1 (by decide) (by decide) (fun _ _=>?_))))
   all_goals(refine aC ?_;exact aB (hK none 0 _ _))
  ·cases hf:Ae s.sl s.now (rW s)
   ·by_cases h1:QI s.bt s.now=1
    ·rw[if_neg (by rw[hf];simp[h1])] at hK
     simp only[if_neg h2,hf,Bool.false_eq_true,if_false] at hK
     repeat' (first|(show Br _ _ _;first|refine Br.f (by first|(simp <;> done)|simpa using h2) ?_|refine Br.t (by first|(simp <;> done)|simpa using h1) ?_)|refine ZS ?_|refine dw dP ?_|refine dw dO ?_|refine dw dL ?_|refine w5 ?_ ?_|((refine bh fun h=>?_) <;> try exact w6 h)|(refine aE fun hA=>?_;subst hA)|intro _|(show aA _ 183 _ _ _;refine CA (h:=Gp (s:=s.sl) (n:=s.now) (b:=rW s) (by omega) (by omega) (by omega) ?_);rw[hf]))
     all_goals(refine aC ?_;exact aM (aG.trans (by exact aY) ((Ah0 (f:=uD 7 0 (btD s.bt s.now) false)))) (hK _ _ _ _))
    ·rw[if_pos (.inr (.inr h1))] at hK
     simp only[if_neg h2,hf,Bool.false_eq_true,if_false] at hK
     repeat' (first|(show Br _ _ _;first|refine Br.f (by first|(simp <;> done)|simpa using h2) ?_|refine Br.f (by first|(simp <;> done)|simpa using h1) ?_)|refine ZS ?_|refine dw dP ?_|refine dw dO ?_|refine dw dL ?_|refine w5 ?_ ?_|((refine bh fun h=>?_) <;> try exact w6 h)|(refine aE fun hA=>?_;subst hA)|intro _|(show aA _ 183 _ _ _;refine CA (h:=Gp (s:=s.sl) (n:=s.now) (b:=rW s) (by omega) (by omega) (by omega) ?_);rw[hf]))
     all_goals(refine aC ?_;exact aB (hK none 0 _ _))
   ·rw[if_pos (.inr (.inl hf))] at hK
    simp only[if_neg h2,hf,if_true] at hK
    repeat' (first|(show Br _ _ _;refine Br.f (by first|(simp <;> done)|simpa using h2) ?_)|refine ZS ?_|refine dw dP ?_|refine dw dO ?_|refine dw dL ?_|refine w5 ?_ ?_|((refine bh fun h=>?_) <;> try exact w6 h)|(refine aE fun hA=>?_;subst hA)|intro _|(show aA _ 183 _ _ _;refine CA (h:=Gp (s:=s.sl) (n:=s.now) (b:=rW s) (by omega) (by omega) (by omega) ?_);rw[hf])|(show aA _ 118 _ _ _;refine CA (h:=dQ (x:=x) (a:=a) (s:= { s with bt:=iA s.bt s.now,sl:=nW s.sl s.now (rW s) }) (Hn (q:=rW s) hI1) (by decide) (by decide) (fun _ _=>?_))))
    all_goals(refine aC ?_;exact aB (hK none 0 _ _))
end Go.Proofs.YtepnmcipkangkaaGreat
