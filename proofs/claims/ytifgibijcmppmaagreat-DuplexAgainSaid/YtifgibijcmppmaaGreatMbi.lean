/- A part of the proof: lemmas; each with the conditions that it states. -/
import Derived.Test.YtifgibijcmppmaaGreatMbh
set_option linter.unusedVariables false
set_option linter.unusedSimpArgs false
namespace Go.Proofs.YtifgibijcmppmaaGreat
open Go Go.Proofs Go.Sl
set_option maxRecDepth 100000
set_option maxHeartbeats 40000000
attribute [local irreducible] aM fG cV bP aN aW aA dP dX aV dO pt ro eW star sep bH
attribute [local irreducible] mp Ec
section
structure Td where
 e:Int
 n:Int
 s:ByteArray
 is:Bool
 en:Bool
def KJ (e:Int):Td:=⟨e,0,⟨#[]⟩,false,false⟩
def p5 (t:Td):Value:=.agg #[.int .i64 t.e,.int .i64 t.n,.string t.s,.bool t.is,.bool t.en]
def caT (a:AC) (s:Cn):Td:=
 if a.kd=1 then⟨mY a.n a.cd a.on a.ww a.xx s,if mY a.n a.cd a.on a.ww a.xx s=0 then s.nx else 0,⟨#[]⟩,false,false⟩
 else if a.kd=2 then⟨(Ay a.id a.s s).2,(Ay a.id a.s s).1,⟨#[]⟩,false,false⟩
 else if a.kd=3 then KJ (Sc a.id s)
 else if a.kd=4 then⟨(vF a.id a.n s).2.2,((vF a.id a.n s).1.size:Nat),(vF a.id a.n s).1,false,(vF a.id a.n s).2.1⟩
 else if a.kd=5 then⟨(tA a.id s).2.2.2,0,(tA a.id s).1,(tA a.id s).2.1,(tA a.id s).2.2.1⟩
 else if a.kd=6 then KJ (QM a.id a.n s)
 else if a.kd=7 then KJ (Mb a.id a.on a.ww a.xx s)
 else KJ (lK a.id a.cd s)
def XF (a:AC) (s:Cn):Cn:=
 if a.kd=1 then rU a.n a.cd a.on a.ww a.xx s
 else if a.kd=2 then qK a.id a.s s
 else if a.kd=3 then BQ a.id s
 else if a.kd=4 then vQ a.id a.n s
 else if a.kd=5 then vO a.id s
 else if a.kd=6 then BJ a.id a.n s
 else if a.kd=7 then vR a.id a.on a.ww a.xx s
 else qQ a.id a.cd s
variable {R C:List HP} {K:Value→List HP→Prop} {x mc:Nat} {ad:Ca} {s:Cn} {M:Option Addr} {B:Int} {a:AC} {c:Cf}
theorem caI (h:bS B s) (ha:a.s.size≤599) (hB:B+600≤250000000):bS (B+600) (XF a s):=by
 unfold XF
 split
 ·exact(ZG h (by omega)).mono (by omega) hB
 ·split
  ·exact(U1 h (by omega)).mono (by omega) hB
  ·split
   ·exact(Agw h).mono (by omega) hB
   ·split
    ·exact(Y6 h).mono (by omega) hB
    ·split
     ·exact(Ya h).mono (by omega) hB
     ·split
      ·exact(Af0 h).mono (by omega) hB
      ·split
       ·exact(Z3 h).mono (by omega) hB
       ·exact(Ww h).mono (by omega) hB
theorem caK (hI:bS B s) (h:fR c s):fR c (XF a s):=by
 unfold XF
 split
 ·exact XX hI h
 ·split
  ·exact Wb h
  ·split
   ·exact Ad0 h
   ·split
    ·exact Yo hI h
    ·split
     ·exact Yd hI h
     ·split
      ·exact Ag1 h
      ·split
       ·exact Ab3 hI h
       ·exact W2 hI h
theorem caE (h:BP s):BP (XF a s):=by
 unfold XF
 split
 ·exact Zp h
 ·split
  ·exact VN h
  ·split
   ·exact Agj h
   ·split
    ·exact XV h
    ·split
     ·exact Aau h
     ·split
      ·exact Agv h
      ·split
       ·exact Aa2 h
       ·exact Xf h
theorem Dl {e:Int} (hK:K (p5 (KJ e)) R):aA Tryz.prog 123 #[.int .i64 e] R K:=by
 unfold p5 KJ at hK
 refine aH Tryz.func123 ?_
 repeat' (first|refine v5 ?_|refine wr ?_|refine w5 ?_ ?_|((refine bh fun h=>?_) <;> try exact w6 h)|(refine aE fun hA=>?_;subst hA)|intro _)
 all_goals(refine aC ?_;exact aB (hK))
theorem PY (hI:bS B s) (hd:a.s.size≤100000000) (hK:∀M mc,K (p5 (caT a s)) (bY x ad (XF a s) M mc R)):aA Tryz.prog 127 #[.pointer (some ⟨x,0,none⟩),.agg #[.int .i64 a.kd,.int .i64 a.sd,.int .i64 a.id,.int .i64 a.n,.int .i64 a.cd,.string a.s,.int .i64 a.on,.int .i64 a.ww,.bool a.xx,.int .i64 a.xw,.int .i64 a.xs,.int .i64 a.xi]] (bY x ad s M mc R) K:=by
 obtain⟨kd,sd,id,n,cd,z,on,ww,xx,xw,xs,xi⟩:=a
 dsimp only at hd ⊢
 unfold caT XF p5 at hK
 dsimp only at hK
 by_cases h1:kd=1
 ·subst h1
  simp only[if_true] at hK
  have hnn:s.nx+2 - 2=s.nx:=by omega
  by_cases hE:mY n cd on ww xx s=0
  ·rw[if_pos hE,hE] at hK
   refine aH Tryz.func127 ?_
   repeat' (first|refine Jc ?_|refine wr ?_|refine w5 ?_ ?_|((refine bh fun h=>?_) <;> try exact w6 h)|(refine aE fun hA=>?_;subst hA)|intro _|(show aA _ 25 _ _ _;refine CA (h:=R1 (x:=x) (a:=ad) (s:=s) (M:=M) (mc:=mc) hI hE ?_);rw[hnn]))
   all_goals(refine aC ?_;exact aB (hK _ _))
  ·rw[if_neg hE] at hK
   have eo:rU n cd on ww xx s=aD s:=by unfold rU;rw[if_pos hE]
   rw[eo] at hK
   refine aH Tryz.func127 ?_
   repeat' (first|refine Jc ?_|refine wr ?_|refine w5 ?_ ?_|((refine bh fun h=>?_) <;> try exact w6 h)|(refine aE fun hA=>?_;subst hA)|intro _|(show aA _ 25 _ _ _;refine CA (h:=Sw (x:=x) (a:=ad) (s:=s) (M:=M) (mc:=mc) hI hE ?_)))
   all_goals(refine aC ?_;exact aB (hK _ _))
 ·rw[if_neg h1,if_neg h1] at hK
  by_cases h2:kd=2
  ·subst h2
   simp only[if_true] at hK
   refine aH Tryz.func127 ?_
   repeat' (first|refine Jc ?_|refine wr ?_|refine w5 ?_ ?_|((refine bh fun h=>?_) <;> try exact w6 h)|(refine aE fun hA=>?_;subst hA)|intro _|(show aA _ 44 _ _ _;refine CA (h:=RL (x:=x) (a:=ad) (s:=s) (M:=M) (mc:=mc) hI hd ?_)))
   all_goals(refine aC ?_;exact aB (hK _ _))
  ·rw[if_neg h2,if_neg h2] at hK
   by_cases h3:kd=3
   ·subst h3
    simp only[if_true] at hK
    refine aH Tryz.func127 ?_
    repeat' (first|refine Jc ?_|refine wr ?_|refine w5 ?_ ?_|((refine bh fun h=>?_) <;> try exact w6 h)|(refine aE fun hA=>?_;subst hA)|intro _|(show aA _ 204 _ _ _;refine CA (h:=ZB (x:=x) (a:=ad) (s:=s) (M:=M) (mc:=mc) hI ?_))|(show aA _ 123 _ _ _;refine CA (h:=Dl ?_)))
    all_goals(refine aC ?_;exact aB (hK _ _))
   ·rw[if_neg h3,if_neg h3] at hK
    by_cases h4:kd=4
    ·subst h4
     simp only[if_true] at hK
     refine aH Tryz.func127 ?_
     repeat' (first|refine Jc ?_|refine wr ?_|refine w5 ?_ ?_|((refine bh fun h=>?_) <;> try exact w6 h)|(refine aE fun hA=>?_;subst hA)|intro _|(show aA _ 26 _ _ _;refine CA (h:=VK (x:=x) (a:=ad) (s:=s) (M:=M) (mc:=mc) hI (fun _ _=>?_))))
     all_goals(refine aC ?_;exact aB (hK _ _))
    ·rw[if_neg h4,if_neg h4] at hK
     by_cases h5:kd=5
     ·subst h5
      simp only[if_true] at hK
      refine aH Tryz.func127 ?_
      repeat' (first|refine Jc ?_|refine wr ?_|refine w5 ?_ ?_|((refine bh fun h=>?_) <;> try exact w6 h)|(refine aE fun hA=>?_;subst hA)|intro _|(show aA _ 27 _ _ _;refine CA (h:=Xx (x:=x) (a:=ad) (s:=s) (M:=M) (mc:=mc) hI (fun _ _=>?_))))
      all_goals(refine aC ?_;exact aB (hK _ _))
     ·rw[if_neg h5,if_neg h5] at hK
      by_cases h6:kd=6
      ·subst h6
       simp only[if_true] at hK
       refine aH Tryz.func127 ?_
       repeat' (first|refine Jc ?_|refine wr ?_|refine w5 ?_ ?_|((refine bh fun h=>?_) <;> try exact w6 h)|(refine aE fun hA=>?_;subst hA)|intro _|(show aA _ 205 _ _ _;refine CA (h:=Zc (x:=x) (a:=ad) (s:=s) (M:=M) (mc:=mc) hI ?_))|(show aA _ 123 _ _ _;refine CA (h:=Dl ?_)))
       all_goals(refine aC ?_;exact aB (hK _ _))
      ·rw[if_neg h6,if_neg h6] at hK
       by_cases h7:kd=7
       ·subst h7
        simp only[if_true] at hK
        refine aH Tryz.func127 ?_
        repeat' (first|refine Jc ?_|refine wr ?_|refine w5 ?_ ?_|((refine bh fun h=>?_) <;> try exact w6 h)|(refine aE fun hA=>?_;subst hA)|intro _|(show aA _ 206 _ _ _;refine CA (h:=Xw (x:=x) (a:=ad) (s:=s) (M:=M) (mc:=mc) hI (fun _ _=>?_)))|(show aA _ 123 _ _ _;refine CA (h:=Dl ?_)))
        all_goals(refine aC ?_;exact aB (hK _ _))
       ·rw[if_neg h7,if_neg h7] at hK
        refine aH Tryz.func127 ?_
        repeat' (first|refine Jc ?_|refine wr ?_|refine w5 ?_ ?_|((refine bh fun h=>?_) <;> try exact w6 h)|(refine aE fun hA=>?_;subst hA)|intro _|(show aA _ 207 _ _ _;refine CA (h:=Sa (x:=x) (a:=ad) (s:=s) (M:=M) (mc:=mc) hI (fun _ _=>?_)))|(show aA _ 123 _ _ _;refine CA (h:=Dl ?_)))
        all_goals(refine aC ?_;exact aB (hK _ _))
end
section
variable {R C:List HP} {K:Value→List HP→Prop} {d x y pl po mc:Nat} {ad:Ca} {c:Cn} {l o:Lk} {M:Option Addr} {B P side:Int} {a:AC} {cf:Cf} {b0 b1:Bool}
theorem iN (hK:K (.bool (decide (side=0∨side=1))) R):aA Tryz.prog 125 #[.int .i64 side] R K:=by
 have k1:∀v:Bool,v=decide (side=0∨side=1)→K (.bool v) R:=fun v hv=>hv▸hK
 refine aH Tryz.func125 ?_
 repeat' (first|refine v15 ?_|refine wr ?_|refine w5 ?_ ?_|((refine bh fun h=>?_) <;> try exact w6 h)|(refine aE fun hA=>?_;subst hA)|intro _)
 all_goals(refine aC ?_;exact aB (k1 _ (by simp[*] <;> rfl)))
def Bu (a:AC) (c:Cn) (l o:Lk):Td:=
 if a.kd=9 then KJ (XQ c)
 else if a.kd=10 then KJ (Qz ⟨a.xw,a.xs,a.xi⟩ c)
 else if a.kd=11 then⟨Vb ⟨(eR c).1.toArray⟩ o,((eR c).1.length:Nat),⟨#[]⟩,false,false⟩
 else if a.kd=12 then⟨Gn c,((l.b.take (CM a.n l)).length:Nat),⟨#[]⟩,false,false⟩
 else if a.kd=14 then KJ (Vb a.s l)
 else caT a c
def s6 (a:AC) (c:Cn) (l:Lk):Cn:=
 if a.kd=9 then Jp c
 else if a.kd=10 then BW ⟨a.xw,a.xs,a.xi⟩ c
 else if a.kd=11 then(eR c).2
 else if a.kd=12 then lB (l.b.take (CM a.n l)) c
 else if a.kd=14 then c
 else XF a c
def mQ (a:AC) (l:Lk):Lk:=if a.kd=12 then vS a.n l else if a.kd=14 then yB a.s l else l
def nY (a:AC) (c:Cn) (o:Lk):Lk:=if a.kd=11 then AA ⟨(eR c).1.toArray⟩ o else o
structure CnG (cf:Cf) (B:Int) (c:Cn):Prop where
 I:bS B c
 K:fR cf c
 E:BP c
def F3 (cf:Cf) (P:Int) (c:Cn):Prop:=∃B,CnG cf B c∧B+34 * c.inb.length≤P
theorem Tf:∀(k:Nat) (a:List UInt8),a.length≤k→9 * (pF a).1.length+(pF a).2.1.length≤a.length:=fun k=>by
 induction k with
 |zero=>
  intro a h
  obtain rfl:a= []:=List.length_eq_zero_iff.1 (by omega)
  have hs:Dk (kN [])=some 0:=by unfold Dk;rw[if_pos (by rw[pI];decide)]
  rw[x9 hs]
  exact Nat.le_refl _
 |succ k ih=>
  intro a h
  cases hs:Dk (kN a) with
  |some e=>rw[x9 hs];simp
  |none=>
   have hd:=wZ hs
   have i1:=ih (a.drop (9+sL (kN a)).toNat) (by omega)
   rw[F7 hs]
   show 9 * ((pF (a.drop (9+sL (kN a)).toNat)).1.length+1)+(pF (a.drop (9+sL (kN a)).toNat)).2.1.length≤a.length
   omega
theorem Yy {u:List UInt8} (h:F3 cf P c) (hB:P+35 * u.length≤248000000):F3 cf (P+35 * u.length) (lB u c):=by
 obtain⟨B,hG,hP⟩:=h
 have h9:=Tf (c.inb++u).length (c.inb++u) (Nat.le_refl _)
 rw[List.length_append] at h9
 have hB2:B+u.length+300 * (pF (c.inb++u)).1.length≤250000000:=by omega
 cases ho:c.dr.ov
 ·refine⟨B+u.length+300 * (pF (c.inb++u)).1.length,⟨YT hG.I hB2,Z0 hG.I hG.K hB2,YP hG.E⟩,?_⟩
  have key:∀z:Cn,pE z=((pF (c.inb++u)).2.2,if(pF (c.inb++u)).2.2=0 then(pF (c.inb++u)).2.1 else [])→z.inb.length≤(pF (c.inb++u)).2.1.length:=fun z hz=>by
   have:=congrArg Prod.snd hz
   have:z.inb=if(pF (c.inb++u)).2.2=0 then(pF (c.inb++u)).2.1 else []:=this
   rw[this]
   split
   ·exact Nat.le_refl _
   ·exact Nat.zero_le _
  have hin:(lB u c).inb.length≤(pF (c.inb++u)).2.1.length:=by
   unfold lB
   rw[if_neg (by rw[ho];decide)]
   have h1:pE (d4 (iQ u (aD c)).1 (iQ u (aD c)).2)=((pF (c.inb++u)).2.2,if(pF (c.inb++u)).2.2=0 then(pF (c.inb++u)).2.1 else []):=Cu
   split
   ·exact key _ h1
   ·exact key (iJ 0 (pF (c.inb++u)).2.2 (d4 (iQ u (aD c)).1 (iQ u (aD c)).2)) (jF.trans h1)
  omega
 ·have e:lB u c=aD c:=by unfold lB;rw[if_pos ho]
  rw[e]
  exact⟨B,⟨bF hG.I,cI hG.K,hG.E⟩,by show B+34 * (c.inb.length:Int)≤_;omega⟩
def yX (side:Int) (x y pl po:Nat) (b0 b1:Bool):List Value:=if side=0 then [.pointer (some ⟨x,0,none⟩),.pointer (some ⟨y,0,none⟩),.pointer (some ⟨pl,0,none⟩),.pointer (some ⟨po,0,none⟩),.bool b0,.bool b1] else [.pointer (some ⟨y,0,none⟩),.pointer (some ⟨x,0,none⟩),.pointer (some ⟨po,0,none⟩),.pointer (some ⟨pl,0,none⟩),.bool b0,.bool b1]
def Ci:List (Nat×Nat):= [(0,0),(1,0),(2,0),(3,0),(4,0),(5,0),(6,0),(7,1),(8,0)]
def CH:List (Nat×Nat):= [(0,0),(1,0),(2,0),(3,0),(4,0),(5,0),(6,0),(7,0),(8,0),(9,0)]
theorem KL (hs:side=0∨side=1) (hP:F3 cf P c) (hB:P≤200000000) (ho:I5 o) (ha:a.sd=side) (hK:∀M mc,K (p5 ⟨Vb ⟨(eR c).1.toArray⟩ o,((eR c).1.length:Nat),⟨#[]⟩,false,false⟩) (pt d (yX side x y pl po b0 b1) 196::mS po (AA ⟨(eR c).1.toArray⟩ o)::bY x ad (eR c).2 M mc R)):aA Tryz.prog 128 #[.pointer (some ⟨d,0,none⟩),.agg #[.int .i64 a.kd,.int .i64 a.sd,.int .i64 a.id,.int .i64 a.n,.int .i64 a.cd,.string a.s,.int .i64 a.on,.int .i64 a.ww,.bool a.xx,.int .i64 a.xw,.int .i64 a.xs,.int .i64 a.xi]] (pt d (yX side x y pl po b0 b1) 196::mS po o::bY x ad c M mc R) K:=by
 obtain⟨B,hG,hBP⟩:=hP
 obtain⟨kd,sd,id,n,cd,z,on,ww,xx,xw,xs,xi⟩:=a
 dsimp only at ha ⊢
 subst ha
 unfold p5 at hK
 have e:((⟨(eR c).1.toArray⟩:ByteArray).size:Int)=((eR c).1.length:Nat):=by simp[ByteArray.size]
 rcases hs with rfl|rfl
 all_goals
  simp only[yX,if_true,if_false,show ¬(1:Int)=0 by decide] at hK ⊢
  refine aH Tryz.func128 ?_
  repeat' (first|refine v75 ?_|refine dw Ci ?_|refine dw CH ?_|refine wr ?_|refine w5 ?_ ?_|((refine bh fun h=>?_) <;> try exact w6 h)|(refine aE fun hA=>?_;subst hA)|intro _|(show aA _ 21 _ _ _;refine CA (h:=Ab7 (s:=c) fun hF=>V0 (x:=x) (a:=ad) (s:=c) (M:=M) (mc:=mc) hG.I hG.K hF (by omega) (fun _ _=>?_)))|(show aA _ 226 _ _ _;refine CA (h:=VQ ho ?_)))
  all_goals(refine aC ?_;exact aB (hK _ _))
def yY:List (Nat×Nat):= [(0,0),(1,0),(2,0),(3,0),(4,0),(5,0),(6,0),(7,0),(8,0),(9,1),(10,0)]
def yU:List (Nat×Nat):= [(0,0),(1,0),(2,0),(3,0),(4,0),(5,0),(6,0),(7,0),(8,1),(9,1),(10,1),(11,0),(12,1)]
theorem DL (hs:side=0∨side=1) (hP:F3 cf P c) (hB:P≤200000000) (ho:I5 l) (ha:a.sd=side) (hK:∀M mc,K (p5 ⟨Gn c,((l.b.take (CM a.n l)).length:Nat),⟨#[]⟩,false,false⟩) (pt d (yX side x y pl po b0 b1) 196::mS pl (vS a.n l)::bY x ad (lB (l.b.take (CM a.n l)) c) M mc R)):aA Tryz.prog 129 #[.pointer (some ⟨d,0,none⟩),.agg #[.int .i64 a.kd,.int .i64 a.sd,.int .i64 a.id,.int .i64 a.n,.int .i64 a.cd,.string a.s,.int .i64 a.on,.int .i64 a.ww,.bool a.xx,.int .i64 a.xw,.int .i64 a.xs,.int .i64 a.xi]] (pt d (yX side x y pl po b0 b1) 196::mS pl l::bY x ad c M mc R) K:=by
 obtain⟨B,hG,hBP⟩:=hP
 obtain⟨kd,sd,id,n,cd,z,on,ww,xx,xw,xs,xi⟩:=a
 dsimp only at ha hK ⊢
 subst ha
 unfold p5 at hK
 have hIb:=hG.E.2
 have hl:=ho.1
 generalize hu:l.b.take (CM n l)=u at hK
 have hul:u.length≤1048576:=by rw[← hu,List.length_take];omega
 have e:((⟨u.toArray⟩:ByteArray).size:Int)=(u.length:Nat):=by simp[ByteArray.size]
 have e2:(⟨u.toArray⟩:ByteArray).data.toList=u:=by simp
 have h9:=Tf (c.inb++u).length (c.inb++u) (Nat.le_refl _)
 rw[List.length_append] at h9
 have hb2:B+((⟨u.toArray⟩:ByteArray).size:Int)+300 * ((pF (c.inb++(⟨u.toArray⟩:ByteArray).data.toList)).1.length:Int)≤248000000:=by rw[e,e2];omega
 rw[← e] at hK
 rw[← e2] at hK
 rcases hs with rfl|rfl
 all_goals
  simp only[yX,if_true,if_false,show ¬(1:Int)=0 by decide] at hK ⊢
  refine aH Tryz.func129 ?_
  repeat' (first|refine v75 ?_|refine dw yY ?_|refine dw yU ?_|refine wr ?_|refine w5 ?_ ?_|((refine bh fun h=>?_) <;> try exact w6 h)|(refine aE fun hA=>?_;subst hA)|intro _|(show aA _ 227 _ _ _;refine CA (h:=XA ho ?_);rw[hu])|(show aA _ 14 _ _ _;refine CA (h:=WQ (x:=x) (a:=ad) (s:=c) (M:=M) (mc:=mc) hG.I hG.E.1 (by omega) hb2 (fun _ _=>?_))))
  all_goals(refine aC ?_;exact aB (hK _ _))
end
section
variable {R C:List HP} {K:Value→List HP→Prop} {d x y pl po mc:Nat} {ad:Ca} {c:Cn} {l o:Lk} {M:Option Addr} {B P side:Int} {a:AC} {cf:Cf} {b0 b1:Bool}
theorem N3 {r5 r3:Nat} (hI:bS B c) (hd:a.s.size≤100000000) (hK:∀M mc,K (p5 (caT a c)) (pt r5 [.pointer (some ⟨x,0,none⟩)] 27::pt r3 [.int .i64 a.kd,.int .i64 a.sd,.int .i64 a.id,.int .i64 a.n,.int .i64 a.cd,.string a.s,.int .i64 a.on,.int .i64 a.ww,.bool a.xx,.int .i64 a.xw,.int .i64 a.xs,.int .i64 a.xi] 92::bY x ad (XF a c) M mc R)):aA Tryz.prog 126 #[.pointer (some ⟨r5,0,none⟩),.pointer (some ⟨r3,0,none⟩)] (pt r5 [.pointer (some ⟨x,0,none⟩)] 27::pt r3 [.int .i64 a.kd,.int .i64 a.sd,.int .i64 a.id,.int .i64 a.n,.int .i64 a.cd,.string a.s,.int .i64 a.on,.int .i64 a.ww,.bool a.xx,.int .i64 a.xw,.int .i64 a.xs,.int .i64 a.xi] 92::bY x ad c M mc R) K:=by
 unfold p5 at hK
 refine aH Tryz.func126 ?_
 repeat' (first|refine v31 ?_|refine wr ?_|refine w5 ?_ ?_|((refine bh fun h=>?_) <;> try exact w6 h)|(refine aE fun hA=>?_;subst hA)|intro _|(show aA _ 127 _ _ _;refine CA (h:=PY (x:=x) (ad:=ad) (s:=c) (a:=a) (M:=M) (mc:=mc) hI hd (fun _ _=>?_));unfold p5))
 all_goals(refine aC ?_;exact aB (hK _ _))
theorem rC {e:Int} (hK:K (.agg #[.int .i64 e,.int .i64 0,.string ⟨#[]⟩,.bool false,.bool false]) R):aA Tryz.prog 123 #[.int .i64 e] R K:=Dl hK
def bz (side i k:Int):Bool:=decide (side=i) && !decide (k=14)
def b9:List (Nat×Nat):= [(7,1),(0,1),(1,1),(2,1),(3,1),(4,1),(5,1),(6,1),(8,1)]
def cA:List (Nat×Nat):= [(0,0),(1,0),(2,0),(3,0),(4,0),(5,0),(6,0),(7,0),(8,0),(9,1)]
def b8:List (Nat×Nat):= [(0,0),(1,0),(2,0),(3,0),(4,0),(5,0),(6,0),(7,0),(8,0),(9,1),(10,1),(11,1)]
theorem VO {kd id n cd on ww xw xs xi:Int} {z:ByteArray} {xx:Bool} (hs:side=0∨side=1) (hP:F3 cf P c) (hB:P≤200000000) (hl:I5 l) (ho:I5 o) (hz:z.size≤599) (hK:∀M mc,K (p5 (Bu ⟨9,side,id,n,cd,z,on,ww,xx,xw,xs,xi⟩ c l o)) (pt d (yX side x y pl po (bz side 0 9) (bz side 1 9)) 196::mS pl (mQ ⟨9,side,id,n,cd,z,on,ww,xx,xw,xs,xi⟩ l)::mS po (nY ⟨9,side,id,n,cd,z,on,ww,xx,xw,xs,xi⟩ c o)::bY x ad (s6 ⟨9,side,id,n,cd,z,on,ww,xx,xw,xs,xi⟩ c l) M mc R)):aA Tryz.prog 33 #[.pointer (some ⟨d,0,none⟩),.agg #[.int .i64 9,.int .i64 side,.int .i64 id,.int .i64 n,.int .i64 cd,.string z,.int .i64 on,.int .i64 ww,.bool xx,.int .i64 xw,.int .i64 xs,.int .i64 xi]] (pt d (yX side x y pl po b0 b1) 196::mS pl l::mS po o::bY x ad c M mc R) K:=by
 have hP2:=hP
 obtain⟨B,hG,hBP⟩:=hP2
 simp only[Bu,mQ,nY,s6,Int.reduceEq,if_true,if_false,p5,KJ] at hK
 rcases hs with rfl|rfl
 ·simp only[yX,bz,Int.reduceEq,if_true,if_false,decide_true,decide_false,Bool.true_and,Bool.false_and,Bool.not_false,Bool.not_true] at hK ⊢
  refine aH Tryz.func33 ?_
  repeat' (first|refine Nk ?_|refine dw b9 ?_|refine dw cA ?_|refine dw b8 ?_|refine wr ?_|refine w5 ?_ ?_|((refine bh fun h=>?_) <;> try exact w6 h)|(refine aE fun hA=>?_;subst hA)|intro _|(show aA _ 125 _ _ _;refine CA (h:=iN ?_))|(show aA _ 123 _ _ _;refine CA (h:=rC ?_))|(show aA _ 100 _ _ _;refine CA (h:=T5 (x:=x) (a:=ad) (s:=c) (M:=M) (mc:=mc) hG.I ?_)))
  all_goals(refine aC ?_;exact aB (hK _ _))
 ·simp only[yX,bz,Int.reduceEq,if_true,if_false,decide_true,decide_false,Bool.true_and,Bool.false_and,Bool.not_false,Bool.not_true] at hK ⊢
  refine aH Tryz.func33 ?_
  repeat' (first|refine Nk ?_|refine dw b9 ?_|refine dw cA ?_|refine dw b8 ?_|refine wr ?_|refine w5 ?_ ?_|((refine bh fun h=>?_) <;> try exact w6 h)|(refine aE fun hA=>?_;subst hA)|intro _|(show aA _ 125 _ _ _;refine CA (h:=iN ?_))|(show aA _ 123 _ _ _;refine CA (h:=rC ?_))|(show aA _ 100 _ _ _;refine CA (h:=T5 (x:=x) (a:=ad) (s:=c) (M:=M) (mc:=mc) hG.I ?_)))
  all_goals(refine aC ?_;exact aB (hK _ _))
theorem Q8 {kd id n cd on ww xw xs xi:Int} {z:ByteArray} {xx:Bool} (hs:side=0∨side=1) (hP:F3 cf P c) (hB:P≤200000000) (hl:I5 l) (ho:I5 o) (hz:z.size≤599) (hK:∀M mc,K (p5 (Bu ⟨10,side,id,n,cd,z,on,ww,xx,xw,xs,xi⟩ c l o)) (pt d (yX side x y pl po (bz side 0 10) (bz side 1 10)) 196::mS pl (mQ ⟨10,side,id,n,cd,z,on,ww,xx,xw,xs,xi⟩ l)::mS po (nY ⟨10,side,id,n,cd,z,on,ww,xx,xw,xs,xi⟩ c o)::bY x ad (s6 ⟨10,side,id,n,cd,z,on,ww,xx,xw,xs,xi⟩ c l) M mc R)):aA Tryz.prog 33 #[.pointer (some ⟨d,0,none⟩),.agg #[.int .i64 10,.int .i64 side,.int .i64 id,.int .i64 n,.int .i64 cd,.string z,.int .i64 on,.int .i64 ww,.bool xx,.int .i64 xw,.int .i64 xs,.int .i64 xi]] (pt d (yX side x y pl po b0 b1) 196::mS pl l::mS po o::bY x ad c M mc R) K:=by
 have hP2:=hP
 obtain⟨B,hG,hBP⟩:=hP2
 simp only[Bu,mQ,nY,s6,Int.reduceEq,if_true,if_false,p5,KJ] at hK
 rcases hs with rfl|rfl
 ·simp only[yX,bz,Int.reduceEq,if_true,if_false,decide_true,decide_false,Bool.true_and,Bool.false_and,Bool.not_false,Bool.not_true] at hK ⊢
  refine aH Tryz.func33 ?_
  repeat' (first|refine Nk ?_|refine dw b9 ?_|refine dw cA ?_|refine dw b8 ?_|refine wr ?_|refine w5 ?_ ?_|((refine bh fun h=>?_) <;> try exact w6 h)|(refine aE fun hA=>?_;subst hA)|intro _|(show aA _ 125 _ _ _;refine CA (h:=iN ?_))|(show aA _ 123 _ _ _;refine CA (h:=rC ?_))|(show aA _ 101 _ _ _;refine CA (h:=Nq (x:=x) (a:=ad) (s:=c) (M:=M) (mc:=mc) (t:=⟨xw,xs,xi⟩) hG.I ?_)))
  all_goals(refine aC ?_;exact aB (hK _ _))
 ·simp only[yX,bz,Int.reduceEq,if_true,if_false,decide_true,decide_false,Bool.true_and,Bool.false_and,Bool.not_false,Bool.not_true] at hK ⊢
  refine aH Tryz.func33 ?_
  repeat' (first|refine Nk ?_|refine dw b9 ?_|refine dw cA ?_|refine dw b8 ?_|refine wr ?_|refine w5 ?_ ?_|((refine bh fun h=>?_) <;> try exact w6 h)|(refine aE fun hA=>?_;subst hA)|intro _|(show aA _ 125 _ _ _;refine CA (h:=iN ?_))|(show aA _ 123 _ _ _;refine CA (h:=rC ?_))|(show aA _ 101 _ _ _;refine CA (h:=Nq (x:=x) (a:=ad) (s:=c) (M:=M) (mc:=mc) (t:=⟨xw,xs,xi⟩) hG.I ?_)))
  all_goals(refine aC ?_;exact aB (hK _ _))
theorem RV {kd id n cd on ww xw xs xi:Int} {z:ByteArray} {xx:Bool} (hs:side=0∨side=1) (hP:F3 cf P c) (hB:P≤200000000) (hl:I5 l) (ho:I5 o) (hz:z.size≤599) (hK:∀M mc,K (p5 (Bu ⟨11,side,id,n,cd,z,on,ww,xx,xw,xs,xi⟩ c l o)) (pt d (yX side x y pl po (bz side 0 11) (bz side 1 11)) 196::mS pl (mQ ⟨11,side,id,n,cd,z,on,ww,xx,xw,xs,xi⟩ l)::mS po (nY ⟨11,side,id,n,cd,z,on,ww,xx,xw,xs,xi⟩ c o)::bY x ad (s6 ⟨11,side,id,n,cd,z,on,ww,xx,xw,xs,xi⟩ c l) M mc R)):aA Tryz.prog 33 #[.pointer (some ⟨d,0,none⟩),.agg #[.int .i64 11,.int .i64 side,.int .i64 id,.int .i64 n,.int .i64 cd,.string z,.int .i64 on,.int .i64 ww,.bool xx,.int .i64 xw,.int .i64 xs,.int .i64 xi]] (pt d (yX side x y pl po b0 b1) 196::mS pl l::mS po o::bY x ad c M mc R) K:=by
 have hP2:=hP
 obtain⟨B,hG,hBP⟩:=hP2
 simp only[Bu,mQ,nY,s6,Int.reduceEq,if_true,if_false,p5,KJ] at hK
 rcases hs with rfl|rfl
 ·simp only[yX,bz,Int.reduceEq,if_true,if_false,decide_true,decide_false,Bool.true_and,Bool.false_and,Bool.not_false,Bool.not_true] at hK ⊢
  refine aH Tryz.func33 ?_
  repeat' (first|refine Nk ?_|refine dw b9 ?_|refine dw cA ?_|refine dw b8 ?_|refine wr ?_|refine w5 ?_ ?_|((refine bh fun h=>?_) <;> try exact w6 h)|(refine aE fun hA=>?_;subst hA)|intro _|(show aA _ 125 _ _ _;refine CA (h:=iN ?_))|(show aA _ 128 _ _ _;refine CA (h:=KL (side:=0) (x:=x) (y:=y) (pl:=pl) (po:=po) (b0:=true) (b1:=false) (a:=⟨11,0,id,n,cd,z,on,ww,xx,xw,xs,xi⟩) (M:=M) (mc:=mc) (.inl rfl) hP hB ho rfl (fun _ _=>?_));simp only[yX,Int.reduceEq,if_true,if_false,p5]))
  all_goals(refine aC ?_;exact aB (hK _ _))
 ·simp only[yX,bz,Int.reduceEq,if_true,if_false,decide_true,decide_false,Bool.true_and,Bool.false_and,Bool.not_false,Bool.not_true] at hK ⊢
  refine aH Tryz.func33 ?_
  repeat' (first|refine Nk ?_|refine dw b9 ?_|refine dw cA ?_|refine dw b8 ?_|refine wr ?_|refine w5 ?_ ?_|((refine bh fun h=>?_) <;> try exact w6 h)|(refine aE fun hA=>?_;subst hA)|intro _|(show aA _ 125 _ _ _;refine CA (h:=iN ?_))|(show aA _ 128 _ _ _;refine CA (h:=KL (side:=1) (x:=x) (y:=y) (pl:=pl) (po:=po) (b0:=false) (b1:=true) (a:=⟨11,1,id,n,cd,z,on,ww,xx,xw,xs,xi⟩) (M:=M) (mc:=mc) (.inr rfl) hP hB ho rfl (fun _ _=>?_));simp only[yX,Int.reduceEq,if_true,if_false,p5]))
  all_goals(refine aC ?_;exact aB (hK _ _))
theorem Rr {kd id n cd on ww xw xs xi:Int} {z:ByteArray} {xx:Bool} (hs:side=0∨side=1) (hP:F3 cf P c) (hB:P≤200000000) (hl:I5 l) (ho:I5 o) (hz:z.size≤599) (hK:∀M mc,K (p5 (Bu ⟨12,side,id,n,cd,z,on,ww,xx,xw,xs,xi⟩ c l o)) (pt d (yX side x y pl po (bz side 0 12) (bz side 1 12)) 196::mS pl (mQ ⟨12,side,id,n,cd,z,on,ww,xx,xw,xs,xi⟩ l)::mS po (nY ⟨12,side,id,n,cd,z,on,ww,xx,xw,xs,xi⟩ c o)::bY x ad (s6 ⟨12,side,id,n,cd,z,on,ww,xx,xw,xs,xi⟩ c l) M mc R)):aA Tryz.prog 33 #[.pointer (some ⟨d,0,none⟩),.agg #[.int .i64 12,.int .i64 side,.int .i64 id,.int .i64 n,.int .i64 cd,.string z,.int .i64 on,.int .i64 ww,.bool xx,.int .i64 xw,.int .i64 xs,.int .i64 xi]] (pt d (yX side x y pl po b0 b1) 196::mS pl l::mS po o::bY x ad c M mc R) K:=by
 have hP2:=hP
 obtain⟨B,hG,hBP⟩:=hP2
 simp only[Bu,mQ,nY,s6,Int.reduceEq,if_true,if_false,p5,KJ] at hK
 rcases hs with rfl|rfl
 ·simp only[yX,bz,Int.reduceEq,if_true,if_false,decide_true,decide_false,Bool.true_and,Bool.false_and,Bool.not_false,Bool.not_true] at hK ⊢
  refine aH Tryz.func33 ?_
  repeat' (first|refine Nk ?_|refine dw b9 ?_|refine dw cA ?_|refine dw b8 ?_|refine wr ?_|refine w5 ?_ ?_|((refine bh fun h=>?_) <;> try exact w6 h)|(refine aE fun hA=>?_;subst hA)|intro _|(show aA _ 125 _ _ _;refine CA (h:=iN ?_))|(show aA _ 129 _ _ _;refine CA (h:=DL (side:=0) (x:=x) (y:=y) (pl:=pl) (po:=po) (b0:=true) (b1:=false) (a:=⟨12,0,id,n,cd,z,on,ww,xx,xw,xs,xi⟩) (M:=M) (mc:=mc) (.inl rfl) hP hB hl rfl (fun _ _=>?_));simp only[yX,Int.reduceEq,if_true,if_false,p5]))
  all_goals(refine aC ?_;exact aB (hK _ _))
 ·simp only[yX,bz,Int.reduceEq,if_true,if_false,decide_true,decide_false,Bool.true_and,Bool.false_and,Bool.not_false,Bool.not_true] at hK ⊢
  refine aH Tryz.func33 ?_
  repeat' (first|refine Nk ?_|refine dw b9 ?_|refine dw cA ?_|refine dw b8 ?_|refine wr ?_|refine w5 ?_ ?_|((refine bh fun h=>?_) <;> try exact w6 h)|(refine aE fun hA=>?_;subst hA)|intro _|(show aA _ 125 _ _ _;refine CA (h:=iN ?_))|(show aA _ 129 _ _ _;refine CA (h:=DL (side:=1) (x:=x) (y:=y) (pl:=pl) (po:=po) (b0:=false) (b1:=true) (a:=⟨12,1,id,n,cd,z,on,ww,xx,xw,xs,xi⟩) (M:=M) (mc:=mc) (.inr rfl) hP hB hl rfl (fun _ _=>?_));simp only[yX,Int.reduceEq,if_true,if_false,p5]))
  all_goals(refine aC ?_;exact aB (hK _ _))
theorem Rj {kd id n cd on ww xw xs xi:Int} {z:ByteArray} {xx:Bool} (hs:side=0∨side=1) (hP:F3 cf P c) (hB:P≤200000000) (hl:I5 l) (ho:I5 o) (hz:z.size≤599) (hK:∀M mc,K (p5 (Bu ⟨14,side,id,n,cd,z,on,ww,xx,xw,xs,xi⟩ c l o)) (pt d (yX side x y pl po (bz side 0 14) (bz side 1 14)) 196::mS pl (mQ ⟨14,side,id,n,cd,z,on,ww,xx,xw,xs,xi⟩ l)::mS po (nY ⟨14,side,id,n,cd,z,on,ww,xx,xw,xs,xi⟩ c o)::bY x ad (s6 ⟨14,side,id,n,cd,z,on,ww,xx,xw,xs,xi⟩ c l) M mc R)):aA Tryz.prog 33 #[.pointer (some ⟨d,0,none⟩),.agg #[.int .i64 14,.int .i64 side,.int .i64 id,.int .i64 n,.int .i64 cd,.string z,.int .i64 on,.int .i64 ww,.bool xx,.int .i64 xw,.int .i64 xs,.int .i64 xi]] (pt d (yX side x y pl po b0 b1) 196::mS pl l::mS po o::bY x ad c M mc R) K:=by
 have hP2:=hP
 obtain⟨B,hG,hBP⟩:=hP2
 simp only[Bu,mQ,nY,s6,Int.reduceEq,if_true,if_false,p5,KJ] at hK
 rcases hs with rfl|rfl
 ·simp only[yX,bz,Int.reduceEq,if_true,if_false,decide_true,decide_false,Bool.true_and,Bool.false_and,Bool.not_false,Bool.not_true] at hK ⊢
  refine aH Tryz.func33 ?_
  repeat' (first|refine Nk ?_|refine dw b9 ?_|refine dw cA ?_|refine dw b8 ?_|refine wr ?_|refine w5 ?_ ?_|((refine bh fun h=>?_) <;> try exact w6 h)|(refine aE fun hA=>?_;subst hA)|intro _|(show aA _ 125 _ _ _;refine CA (h:=iN ?_))|(show aA _ 123 _ _ _;refine CA (h:=rC ?_))|(show aA _ 130 _ _ _;refine CA (h:=H6 (p:=pl) hl ?_)))
  all_goals(refine aC ?_;exact aB (hK _ _))
 ·simp only[yX,bz,Int.reduceEq,if_true,if_false,decide_true,decide_false,Bool.true_and,Bool.false_and,Bool.not_false,Bool.not_true] at hK ⊢
  refine aH Tryz.func33 ?_
  repeat' (first|refine Nk ?_|refine dw b9 ?_|refine dw cA ?_|refine dw b8 ?_|refine wr ?_|refine w5 ?_ ?_|((refine bh fun h=>?_) <;> try exact w6 h)|(refine aE fun hA=>?_;subst hA)|intro _|(show aA _ 125 _ _ _;refine CA (h:=iN ?_))|(show aA _ 123 _ _ _;refine CA (h:=rC ?_))|(show aA _ 130 _ _ _;refine CA (h:=H6 (p:=pl) hl ?_)))
  all_goals(refine aC ?_;exact aB (hK _ _))
theorem Xt {kd id n cd on ww xw xs xi:Int} {z:ByteArray} {xx:Bool} (hs:side=0∨side=1) (hk:1≤kd∧kd≤8) (hP:F3 cf P c) (hB:P≤200000000) (hl:I5 l) (ho:I5 o) (hz:z.size≤599) (hK:∀M mc,K (p5 (Bu ⟨kd,side,id,n,cd,z,on,ww,xx,xw,xs,xi⟩ c l o)) (pt d (yX side x y pl po (bz side 0 kd) (bz side 1 kd)) 196::mS pl (mQ ⟨kd,side,id,n,cd,z,on,ww,xx,xw,xs,xi⟩ l)::mS po (nY ⟨kd,side,id,n,cd,z,on,ww,xx,xw,xs,xi⟩ c o)::bY x ad (s6 ⟨kd,side,id,n,cd,z,on,ww,xx,xw,xs,xi⟩ c l) M mc R)):aA Tryz.prog 33 #[.pointer (some ⟨d,0,none⟩),.agg #[.int .i64 kd,.int .i64 side,.int .i64 id,.int .i64 n,.int .i64 cd,.string z,.int .i64 on,.int .i64 ww,.bool xx,.int .i64 xw,.int .i64 xs,.int .i64 xi]] (pt d (yX side x y pl po b0 b1) 196::mS pl l::mS po o::bY x ad c M mc R) K:=by
 have hP2:=hP
 obtain⟨B,hG,hBP⟩:=hP2
 have n9:¬kd=9:=by omega
 have n10:¬kd=10:=by omega
 have n11:¬kd=11:=by omega
 have n12:¬kd=12:=by omega
 have n14:¬kd=14:=by omega
 have hbn:(kd != 14)=true:=by simpa using n14
 simp only[Bu,mQ,nY,s6,n9,n10,n11,n12,n14,if_false,p5] at hK
 rcases hs with rfl|rfl
 ·simp only[yX,bz,Int.reduceEq,if_true,if_false,decide_true,decide_false,Bool.true_and,Bool.false_and,Bool.not_false,Bool.not_true,n14] at hK ⊢
  refine aH Tryz.func33 ?_
  repeat' (first|(show cV _ _ _;rw[hbn])|refine Nk ?_|refine dw b9 ?_|refine dw cA ?_|refine dw b8 ?_|refine wr ?_|refine w5 ?_ ?_|((refine bh fun h=>?_) <;> try exact w6 h)|(refine aE fun hA=>?_;subst hA)|intro _|(show aA _ 125 _ _ _;refine CA (h:=iN ?_))|(show aA _ 126 _ _ _;refine CA (h:=N3 (x:=x) (ad:=ad) (c:=c) (a:=⟨kd,0,id,n,cd,z,on,ww,xx,xw,xs,xi⟩) (M:=M) (mc:=mc) hG.I (by show z.size≤100000000;omega) (fun _ _=>?_));unfold p5))
  all_goals(refine aC ?_;exact aB (hK _ _))
 ·simp only[yX,bz,Int.reduceEq,if_true,if_false,decide_true,decide_false,Bool.true_and,Bool.false_and,Bool.not_false,Bool.not_true,n14] at hK ⊢
  refine aH Tryz.func33 ?_
  repeat' (first|(show cV _ _ _;rw[hbn])|refine Nk ?_|refine dw b9 ?_|refine dw cA ?_|refine dw b8 ?_|refine wr ?_|refine w5 ?_ ?_|((refine bh fun h=>?_) <;> try exact w6 h)|(refine aE fun hA=>?_;subst hA)|intro _|(show aA _ 125 _ _ _;refine CA (h:=iN ?_))|(show aA _ 126 _ _ _;refine CA (h:=N3 (x:=x) (ad:=ad) (c:=c) (a:=⟨kd,1,id,n,cd,z,on,ww,xx,xw,xs,xi⟩) (M:=M) (mc:=mc) hG.I (by show z.size≤100000000;omega) (fun _ _=>?_));unfold p5))
  all_goals(refine aC ?_;exact aB (hK _ _))
end
end Go.Proofs.YtifgibijcmppmaaGreat
