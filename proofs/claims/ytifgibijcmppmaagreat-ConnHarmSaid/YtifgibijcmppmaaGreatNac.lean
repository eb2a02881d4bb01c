/- A part of the proof: lemmas; each with the conditions that it states. -/
import Derived.Test.YtifgibijcmppmaaGreatNab
set_option linter.unusedVariables false
set_option linter.unusedSimpArgs false
section
namespace Go.Sl
abbrev HP:=Hp→Prop
def sZ.le (b b':sZ):Prop:=b'=b∨∃cs e,b=.cells cs e false∧b'=.cells cs e true
theorem sZ.le_refl (b:sZ):b.le b:=.inl rfl
theorem sZ.le_trans {a b c:sZ} (h:a.le b) (k:b.le c):a.le c:=by
 rcases h with rfl|⟨cs,e,rfl,rfl⟩
 ·exact k
 ·rcases k with rfl|⟨cs',e',h1,h2⟩
  ·exact .inr ⟨cs,e,rfl,rfl⟩
  ·cases h1
theorem sZ.le_own {b b':sZ} (h:b.le b') (ho:b.own=true):b'=b:=by
 rcases h with rfl|⟨cs,e,rfl,rfl⟩
 ·rfl
 ·cases ho
theorem sZ.le_two {a b c:sZ} (h:a.le c) (k:b.le c) (ha:a.own=false) (hb:b.own=false):a=b:=by
 rcases h with rfl|⟨cs,e,rfl,rfl⟩
 ·rcases k with rfl|⟨cs,e,rfl,rfl⟩
  ·rfl
  ·cases ha
 ·rcases k with rfl|⟨cs',e',rfl,h2⟩
  ·cases hb
  ·cases h2;rfl
def Bo (H1 H:Hp):Prop:=∀B b,H1 B=some b→∃b',H B=some b'∧b.le b'
theorem Bo.refl (H:Hp):Bo H H:=fun _ b h=>⟨b,h,b.le_refl⟩
theorem Bo.trans {A B C:Hp} (h:Bo A B) (k:Bo B C):Bo A C:=fun r b hb=>by
 obtain⟨b1,h1,l1⟩:=h r b hb
 obtain⟨b2,h2,l2⟩:=k r b1 h1
 exact⟨b2,h2,sZ.le_trans l1 l2⟩
def tM (H1 H2:Hp):Prop:=∀B b c,H1 B=some b→H2 B=some c→b.own=false∧c.own=false
theorem tM.symm {H1 H2:Hp} (h:tM H1 H2):tM H2 H1:=fun B b c hb hc=>(h B c b hc hb).symm
theorem Ai5 {b b':sZ} (h:b.le b') (ho:b'.own=false):b.own=false:=by
 cases hb:b.own with
 |false=>rfl
 |true=>rw[sZ.le_own h hb,hb] at ho;cases ho
theorem tM.le {A B A':Hp} (h:tM A' B) (hl:Bo A A'):tM A B:=fun r b c hb hc=>by
 obtain⟨b',h1,l1⟩:=hl r b hb
 obtain⟨h2,h3⟩:=h r b' c h1 hc
 exact⟨Ai5 l1 h2,h3⟩
theorem tM.le2 {A B B':Hp} (h:tM A B') (hl:Bo B B'):tM A B:=(h.symm.le hl).symm
def s7 (A B:Hp):Hp:=fun r=>match A r with
 |some b=>some b
 |none=>B r
theorem qY (A B:Hp):Bo A (s7 A B):=fun r b h=>⟨b,by simp[s7,h],b.le_refl⟩
theorem o5 {A B H:Hp} (hc:tM A B) (h1:Bo A H) (h2:Bo B H):Bo B (s7 A B):=fun r b h=>by
 cases ha:A r with
 |none=>exact⟨b,by simp[s7,ha,h],b.le_refl⟩
 |some a=>
  obtain⟨o1,o2⟩:=hc r a b ha h
  obtain⟨a',h3,l3⟩:=h1 r a ha
  obtain⟨b',h4,l4⟩:=h2 r b h
  rw[h3] at h4;cases h4
  have:=sZ.le_two l3 l4 o1 o2
  subst this
  exact⟨a,by simp[s7,ha],a.le_refl⟩
theorem xF {A B H:Hp} (h1:Bo A H) (h2:Bo B H):Bo (s7 A B) H:=fun r b h=>by
 unfold s7 at h
 split at h
 ·rename_i a ha;cases h;exact h1 r b ha
 ·exact h2 r b h
theorem tM.join {A B C:Hp} (h1:tM A C) (h2:tM B C):tM (s7 A B) C:=fun r b c hb hc=>by
 unfold s7 at hb
 split at hb
 ·rename_i a ha;cases hb;exact h1 r b c ha hc
 ·exact h2 r b c hb hc
def bY:List HP→Hp→Prop
 | [],_=>True
 |A::l,H=>∃H1 H2,tM H1 H2∧Bo H1 H∧Bo H2 H∧A H1∧bY l H2
theorem bY.mono:∀ {C:List HP} {H H':Hp},bY C H→Bo H H'→bY C H'
 | [],_,_,_,_=>trivial
 |_::_,_,_,⟨H1,H2,hc,h1,h2,ha,hs⟩,hl=>⟨H1,H2,hc,h1.trans hl,h2.trans hl,ha,hs⟩
theorem bY.tail {A:HP} {C:List HP} {H:Hp} (h:bY (A::C) H):bY C H:=by
 obtain⟨H1,H2,hc,h1,h2,ha,hs⟩:=h
 exact hs.mono h2
theorem bY.swap {A B:HP} {C:List HP} {H:Hp} (h:bY (A::B::C) H):bY (B::A::C) H:=by
 obtain⟨H1,H2,hc,h1,h2,ha,G1,G2,kc,k1,k2,kb,ks⟩:=h
 refine⟨G1,s7 H1 G2,?_,k1.trans h2,xF h1 (k2.trans h2),kb,H1,G2,hc.le2 k2,qY _ _,o5 (hc.le2 k2) h1 (k2.trans h2),ha,ks⟩
 exact(tM.join (hc.le2 k1) kc.symm).symm
theorem bY.perm {C C':List HP} (hp:C.Perm C'):∀ {H:Hp},bY C H→bY C' H:=by
 induction hp with
 |nil=>exact fun h=>h
 |cons x _ ih=>exact fun⟨H1,H2,hc,h1,h2,ha,hs⟩=>⟨H1,H2,hc,h1,h2,ha,ih hs⟩
 |swap x y l=>exact fun h=>h.swap
 |trans _ _ ih1 ih2=>exact fun h=>ih2 (ih1 h)
theorem bY.append:∀ {C R:List HP} {H:Hp},bY (C++R) H→∃H1 H2,tM H1 H2∧Bo H1 H∧Bo H2 H∧bY C H1∧bY R H2
 | [],R,H,h=>⟨fun _=>none,H,(fun _ _ _ h=>by cases h),(fun _ _ h=>by cases h),Bo.refl H,trivial,h⟩
 |A::C,R,H,⟨H1,H2,hc,h1,h2,ha,hs⟩=>by
  obtain⟨G1,G2,kc,k1,k2,ka,ks⟩:=bY.append hs
  exact⟨s7 H1 G1,G2,tM.join (hc.le2 k2) kc,xF h1 (k1.trans h2),k2.trans h2,⟨H1,G1,hc.le2 k1,qY _ _,o5 (hc.le2 k1) h1 (k1.trans h2),ha,ka⟩,ks⟩
theorem bY.join:∀ {C R:List HP} {H1 H2 H:Hp},tM H1 H2→Bo H1 H→Bo H2 H→bY C H1→bY R H2→bY (C++R) H
 | [],_,_,_,_,_,_,h2,_,hs=>hs.mono h2
 |_::_,_,_,_,_,hc,h1,h2,⟨G1,G2,kc,k1,k2,ka,ks⟩,hs=>
  ⟨G1,s7 G2 _,(tM.join kc.symm (hc.symm.le2 k1)).symm,k1.trans h1,xF (k2.trans h1) h2,ka,
   bY.join (hc.le k2) (qY _ _) (o5 (hc.le k2) (k2.trans h1) h2) ks hs⟩
inductive aV (A:HP):List HP→List HP→Prop where
 |here {l:List HP}:aV A (A::l) l
 |there {B:HP} {l r:List HP}:aV A l r→aV A (B::l) (B::r)
theorem aV.perm {A:HP} {l r:List HP} (h:aV A l r):l.Perm (A::r):=by
 induction h with
 |here=>exact List.Perm.refl _
 |there _ ih=>exact(List.Perm.cons _ ih).trans (List.Perm.swap _ _ _)
theorem aV.sats {A:HP} {l r:List HP} (h:aV A l r) {H:Hp} (hs:bY l H):bY (A::r) H:=hs.perm h.perm
def aG (C C':List HP):Prop:=∀H,bY C H→bY C' H
theorem aG.refl (C:List HP):aG C C:=fun _ h=>h
theorem aG.trans {A B C:List HP} (h:aG A B) (k:aG B C):aG A C:=fun H x=>k H (h H x)
theorem aG.cons {A:HP} {C C':List HP} (h:aG C C'):aG (A::C) (A::C'):=fun _ ⟨H1,H2,hc,h1,h2,ha,hs⟩=>⟨H1,H2,hc,h1,h2,ha,h _ hs⟩
theorem aG.pick {A:HP} {C R C':List HP} (hp:aV A C R) (h:aG R C'):aG C (A::C'):=fun _ hs=>(aG.cons h) _ (hp.sats hs)
theorem aG.drop {A:HP} {C C':List HP} (h:aG C C'):aG (A::C) C':=fun H hs=>h H hs.tail
theorem aG.imp {A B:HP} {C C':List HP} (hab:∀H,A H→B H) (h:aG C C'):aG (A::C) (B::C'):=fun _ ⟨H1,H2,hc,h1,h2,ha,hs⟩=>⟨H1,H2,hc,h1,h2,hab _ ha,h _ hs⟩
def fF {α:Type} (g:α→HP):HP:=fun H=>∃x,g x H
def star (l:List HP):HP:=bY l
def bI (p:Prop):HP:=fun _=>p
def pt (r:Nat) (cs:List Value) (e:TypeId):HP:=fun H=>H r=some (.cells cs e true)
def ro (r:Nat) (cs:List Value) (e:TypeId):HP:=fun H=>H r=some (.cells cs e false)
theorem bY.ex {α:Type} {g:α→HP} {C:List HP} {H:Hp} (h:bY (fF g::C) H):∃x,bY (g x::C) H:=by
 obtain⟨H1,H2,hc,h1,h2,⟨x,ha⟩,hs⟩:=h
 exact⟨x,H1,H2,hc,h1,h2,ha,hs⟩
theorem bY.star {l C:List HP} {H:Hp} (h:bY (star l::C) H):bY (l++C) H:=by
 obtain⟨H1,H2,hc,h1,h2,ha,hs⟩:=h
 exact bY.join hc h1 h2 ha hs
theorem bY.pure {p:Prop} {C:List HP} {H:Hp} (h:bY (bI p::C) H):p∧bY C H:=⟨by obtain⟨_,_,_,_,_,ha,_⟩:=h;exact ha,h.tail⟩
theorem aG.ex {α:Type} {g:α→HP} {C C':List HP} (x:α) (h:aG C (g x::C')):aG C (fF g::C'):=fun H hs=>by
 obtain⟨H1,H2,hc,h1,h2,ha,hs⟩:=h H hs
 exact⟨H1,H2,hc,h1,h2,⟨x,ha⟩,hs⟩
theorem aG.star {l C C':List HP} (h:aG C (l++C')):aG C (star l::C'):=fun H hs=>by
 obtain⟨H1,H2,hc,h1,h2,ha,hs⟩:=(h H hs).append
 exact⟨H1,H2,hc,h1,h2,ha,hs⟩
theorem aG.pure {p:Prop} {C C':List HP} (hp:p) (h:aG C C'):aG C (bI p::C'):=fun H hs=>
 ⟨fun _=>none,H,(fun _ _ _ h=>by cases h),(fun _ _ h=>by cases h),Bo.refl H,hp,h H hs⟩
def Ed (A:HP):Prop:=∀H,A H→∃H',Bo H' H∧A H'∧∀B b,H' B=some b→b.own=false
def mZ (r:Nat) (b:sZ):Hp:=fun i=>if i=r then some b else none
theorem Dy {r:Nat} {b b':sZ} {H:Hp} (h:H r=some b') (hl:b.le b'):Bo (mZ r b) H:=fun i c hc=>by
 unfold mZ at hc;split at hc
 ·rename_i e;subst e;cases hc;exact⟨b',h,hl⟩
 ·cases hc
theorem D9 {r i:Nat} {b c:sZ} (h:mZ r b i=some c):i=r∧c=b:=by
 unfold mZ at h;split at h
 ·rename_i e;cases h;exact⟨e,rfl⟩
 ·cases h
theorem xP (r:Nat) (b:sZ):mZ r b r=some b:=by simp[mZ]
theorem bY.dup {A:HP} {C:List HP} {H:Hp} (hp:Ed A) (h:bY (A::C) H):bY (A::A::C) H:=by
 obtain⟨H1,H2,hc,h1,h2,ha,hs⟩:=h
 obtain⟨G,g1,g2,g3⟩:=hp H1 ha
 refine⟨G,s7 G H2,?_,g1.trans h1,xF (g1.trans h1) h2,g2,G,H2,hc.le g1,qY _ _,o5 (hc.le g1) (g1.trans h1) h2,g2,hs⟩
 refine(tM.join (fun B b c hb hc=>⟨g3 _ _ hb,g3 _ _ hc⟩) (hc.le g1).symm).symm
def upC (Q:Fr→List HP→Prop):Fr→Hp→Prop:=fun a H=>∃C,bY C H∧Q a C
def upV (K:Value→List HP→Prop):Value→Hp→Prop:=fun v H=>∃C,bY C H∧K v C
def upE (Q:Exit→Fr→List HP→Prop):Exit→Fr→Hp→Prop:=fun e=>upC (Q e)
def aA (P:Program) (f:FuncId) (args:Array Value) (C:List HP) (K:Value→List HP→Prop):Prop:=∀H,bY C H→tB P f args H (upV K)
def fB (P:Program) (c:Code) (Q:Exit→Fr→List HP→Prop) (a:Fr) (C:List HP):Prop:=∀H,bY C H→ev P c (upE Q) a H
theorem aA.ent {P:Program} {f:FuncId} {args:Array Value} {C C':List HP} {K:Value→List HP→Prop} (he:aG C C') (h:aA P f args C' K):aA P f args C K:=fun H hs=>h H (he H hs)
theorem aA.ex {P:Program} {f:FuncId} {args:Array Value} {α:Type} {g:α→HP} {C:List HP} {K:Value→List HP→Prop} (h:∀x,aA P f args (g x::C) K):aA P f args (fF g::C) K:=fun H hs=>by
 obtain⟨x,hx⟩:=hs.ex
 exact h x H hx
theorem aA.star {P:Program} {f:FuncId} {args:Array Value} {l C:List HP} {K:Value→List HP→Prop} (h:aA P f args (l++C) K):aA P f args (star l::C) K:=fun H hs=>h H hs.star
theorem aA.pure {P:Program} {f:FuncId} {args:Array Value} {p:Prop} {C:List HP} {K:Value→List HP→Prop} (h:p→aA P f args C K):aA P f args (bI p::C) K:=fun H hs=>h hs.pure.1 H hs.pure.2
theorem Iy {P:Program} {ops:Array Oper} {Q Q':Fr→Hp→Prop} (hq:∀a H,Q a H→Q' a H):∀(l:List Oper) (i:Nat) (a:Fr) (H:Hp),Ja P ops Q i l a H→Ja P ops Q' i l a H
 | [],_,a,H,h=>hq a H h
 |o::l,i,a,H,h=>by
  unfold Ja at h ⊢
  split
  ·rename_i hw
   rw[if_pos hw] at h
   refine oU (fun v H' hv=>?_) h
   rw[cI] at hv ⊢
   exact Iy hq l _ _ _ hv
  ·rename_i hw
   rw[if_neg hw] at h
   exact Iy hq l _ _ _ h
theorem Ak {P:Program} {ops:Array Oper} {Q Q':Fr→Hp→Prop} (hq:∀a H,Q a H→Q' a H):∀(l:List (Nat×Nat)) (hist:List Hp) (a:Fr) (H:Hp),zC P ops Q l hist a H→zC P ops Q' l hist a H
 | [],_,a,H,h=>hq a H h
 |(i,c)::l,hist,a,H,h=>by
  simp only[zC] at h ⊢
  split at h
  ·exact h.elim
  ·split
   ·rename_i hw
    rw[if_pos hw] at h
    split at h
    ·obtain⟨v,h1,h2⟩:=h
     rw[cI] at h2
     exact⟨v,h1,(cI _ _ _).2 (Ak hq l _ _ _ h2)⟩
    ·obtain⟨v,h1,h3,h2⟩:=h
     rw[cI] at h2
     exact⟨v,h1,h3,(cI _ _ _).2 (Ak hq l _ _ _ h2)⟩
    ·refine oU (fun v H' hv=>?_) h
     rw[cI] at hv ⊢
     exact Ak hq l _ _ _ hv
   ·rename_i hw
    rw[if_neg hw] at h
    exact Ak hq l _ _ _ h
theorem uX {P:Program} {ops:Array Oper} {Q Q':Fr→Hp→Prop} (hq:∀a H,Q a H→Q' a H):∀(t:Tr) (hist:List Hp) (a:Fr) (H:Hp),CQ P ops Q t hist a H→CQ P ops Q' t hist a H
 |.nil,_,a,H,h=>hq a H h
 |.br t u,_,_,_,h=>⟨uX hq t _ _ _ h.1,uX hq u _ _ _ h.2⟩
 |.st i c l,hist,a,H,h=>by
  simp only[CQ] at h ⊢
  split at h
  ·exact h.elim
  ·split
   ·rename_i hw
    rw[if_pos hw] at h
    split at h
    ·obtain⟨v,h1,h2⟩:=h
     rw[cI] at h2
     exact⟨v,h1,(cI _ _ _).2 (uX hq l _ _ _ h2)⟩
    ·obtain⟨v,h1,h3,h2⟩:=h
     rw[cI] at h2
     exact⟨v,h1,h3,(cI _ _ _).2 (uX hq l _ _ _ h2)⟩
    ·refine oU (fun v H' hv=>?_) h
     rw[cI] at hv ⊢
     exact uX hq l _ _ _ hv
   ·rename_i hw
    rw[if_neg hw] at h
    exact uX hq l _ _ _ h
theorem wM {P:Program} (c:Code):∀ {Q Q':Exit→Fr→Hp→Prop} (_:∀e a H,Q e a H→Q' e a H) (a:Fr) (H:Hp),ev P c Q a H→ev P c Q' a H:=by
 induction c with
 |region id ops d=>
  intro Q Q' hq a H h
  cases d
  ·exact Iy (hq .normal) _ _ _ _ h
  ·exact h.imp (fun h=>⟨h.1,Ak (hq .normal) _ _ _ _ h.2⟩) fun⟨t,h1,h2⟩=>⟨t,h1,uX (hq .normal) _ _ _ _ h2⟩
 |seq x y ihx ihy=>
  intro Q Q' hq a H h
  refine ihx (Q:=TW (ev P y Q) Q) (fun e a H h=>?_) a H h
  cases e <;> first|exact hq _ _ _ h|exact ihy hq a H h
 |cond c x y ihx ihy=>
  intro Q Q' hq a H h
  simp only[ev] at h ⊢
  split
  ·rename_i b hb;rw[hb] at h;exact⟨fun hb=>ihx hq a H (h.yes hb),fun hb=>ihy hq a H (h.no hb)⟩
  ·rename_i hb
   split at h
   ·rename_i b hb';exact absurd hb' (hb b)
   ·exact h
 |block id c ih=>
  intro Q Q' hq a H h
  refine ih (Q:=Ar id Q) (fun e a H h=>?_) a H h
  cases e <;> first
   |exact hq _ _ _ h
   |(simp only[Ar] at h ⊢;split <;> rename_i hj <;> simp only[hj,if_true,if_false] at h <;> exact hq _ _ _ h)
 |loop c ih=>
  intro Q Q' hq a H h
  obtain⟨I,n,h0,hr⟩:=h
  refine⟨I,n,h0,fun n a H hI=>ih (Q:=TW _ Q) (fun e a H h=>?_) a H (hr n a H hI)⟩
  cases e <;> first|exact h|exact hq _ _ _ h
 |scope c ih=>
  intro Q Q' hq a H h
  refine ih (Q:=Ul Q) (fun e a H h=>?_) a H h
  cases e <;> first|exact hq _ _ _ h|exact h.elim
 |skip=>exact fun hq a H h=>hq _ _ _ h
 |exit id=>exact fun hq a H h=>hq _ _ _ h
 |label l=>exact fun hq a H h=>hq _ _ _ h
 |ret=>exact fun hq a H h=>hq _ _ _ h
 |_=>exact fun hq a H h=>h.elim
end Go.Sl
namespace Go.Sl
def bO (K:Fr→List HP→Prop) (Q:Exit→Fr→List HP→Prop):Exit→Fr→List HP→Prop
 |Exit.normal=>K
 |e=>Q e
def aM (id:Nat) (Q:Exit→Fr→List HP→Prop):Exit→Fr→List HP→Prop
 |Exit.exit j=>if j=id then Q .normal else Q (.exit j)
 |e=>Q e
def aY (Q:Exit→Fr→List HP→Prop):Exit→Fr→List HP→Prop
 |Exit.goto _=>fun _ _=>False
 |e=>Q e
def sep (A B:HP):HP:=star [A,B]
theorem aA.sep {P:Program} {f:FuncId} {args:Array Value} {A B:HP} {C:List HP} {K:Value→List HP→Prop} (h:aA P f args (A::B::C) K):aA P f args (sep A B::C) K:=fun H hs=>h H hs.star
theorem aG.sep {A B:HP} {C C':List HP} (h:aG C (A::B::C')):aG C (sep A B::C'):=aG.star h
theorem Gr {P:Program} {c:Code} {Q:Exit→Fr→List HP→Prop} {a:Fr} {A B:HP} {C:List HP} (h:fB P c Q a (A::B::C)):fB P c Q a (sep A B::C):=fun H hs=>h H hs.star
section
variable {P:Program} {Q:Exit→Fr→List HP→Prop} {K:Fr→List HP→Prop} {a:Fr} {C:List HP} {x y:Code} {id:Nat}
theorem nR {C':List HP} (he:aG C C') (h:fB P x Q a C'):fB P x Q a C:=fun H hs=>h H (he H hs)
theorem wG {α:Type} {g:α→HP} (h:∀z,fB P x Q a (g z::C)):fB P x Q a (fF g::C):=fun H hs=>by
 obtain⟨z,hz⟩:=hs.ex
 exact h z H hz
theorem Abz (h:fB P x (bO (fB P y Q) Q) a C):fB P (.seq x y) Q a C:=fun H hs=>by
 refine wM x (fun e a H hq=>?_) a H (h H hs)
 obtain⟨C',h1,h2⟩:=hq
 cases e <;> first|exact⟨C',h1,h2⟩|exact h2 H h1
theorem Rh {c:Operand} {b:Bool} (hc:bK a c=.bool b) (h:Br b (fB P x Q a C) (fB P y Q a C)):fB P (.cond c x y) Q a C:=fun H hs=>by
 simp only[ev,hc]
 exact⟨fun hb=>h.yes hb H hs,fun hb=>h.no hb H hs⟩
theorem Gx (h:fB P x (aM id Q) a C):fB P (.block id x) Q a C:=fun H hs=>by
 refine wM x (fun e a H hq=>?_) a H (h H hs)
 obtain⟨C',h1,h2⟩:=hq
 cases e <;> first
  |exact⟨C',h1,h2⟩
  |(simp only[aM,Ar] at h2 ⊢;split <;> rename_i hj <;> simp only[hj,if_true,if_false] at h2 <;> exact⟨C',h1,h2⟩)
theorem Ml (h:fB P x (aY Q) a C):fB P (.scope x) Q a C:=fun H hs=>by
 refine wM x (fun e a H hq=>?_) a H (h H hs)
 obtain⟨C',h1,h2⟩:=hq
 cases e <;> first|exact⟨C',h1,h2⟩|exact h2.elim
theorem Rl (h:Q .normal a C):fB P .skip Q a C:=fun H hs=>⟨C,hs,h⟩
theorem Lt (h:Q .normal a C):fB P (.label id) Q a C:=fun H hs=>⟨C,hs,h⟩
theorem QT (h:Q (.exit id) a C):fB P (.exit id) Q a C:=fun H hs=>⟨C,hs,h⟩
theorem Aak (h:Q .ret a C):fB P .ret Q a C:=fun H hs=>⟨C,hs,h⟩
theorem t_n (h:K a C):bO K Q .normal a C:=h
theorem t_e (h:Q (.exit id) a C):bO K Q (.exit id) a C:=h
theorem t_r (h:Q .ret a C):bO K Q .ret a C:=h
theorem b_n (h:Q .normal a C):aM id Q .normal a C:=h
theorem b_r (h:Q .ret a C):aM id Q .ret a C:=h
theorem Y8 {j:Nat} (hj:(j == id)=true) (h:Q .normal a C):aM id Q (.exit j) a C:=by simp at hj;simp only[aM,hj,if_true];exact h
theorem RO {j:Nat} (hj:(j == id)=false) (h:Q (.exit j) a C):aM id Q (.exit j) a C:=by simp at hj;simp only[aM,hj,if_false];exact h
theorem g_r (h:Q .ret a C):aY Q .ret a C:=h
theorem Ajo (I:Nat→Fr→List HP→Prop) (n:Nat) (C0:List HP) (he:aG C C0) (h0:I n a C0)
  (hr:∀n a C,I n a C→fB P x (bO (fun a' C'=>∃m C'',m<n∧aG C' C''∧I m a' C'') Q) a C):fB P (.loop x) Q a C:=fun H hs=>by
 refine⟨fun n a H=>∃C,bY C H∧I n a C,n,⟨C0,he H hs,h0⟩,fun n a H ⟨C,hs,hI⟩=>?_⟩
 refine wM x (fun e a H hq=>?_) a H (hr n a C hI H hs)
 obtain⟨C',h1,h2⟩:=hq
 cases e <;> first
  |exact⟨C',h1,h2⟩
  |(obtain⟨m,C'',hm,hE,hI⟩:=h2;exact⟨m,hm,C'',hE H h1,hI⟩)
theorem gF (l:List (Nat×Value)) (h:cN a l) (he:fB P x Q (eQ a l) C):fB P x Q a C:=by rw[Ty h] at he;exact he
end
abbrev Alg:=Nat×Bool×Oper
inductive ET where
 |nil
 |cons (e:Alg) (l:ET)
 |br (l m:ET)
def NL (P:Program) (ops:Array Oper) (Q:Fr→Hp→Prop):ET→List Hp→Fr→Hp→Prop
 |.nil,_,a,H=>Q a H
 |.br l m,hist,a,H=>NL P ops Q l hist a H∧NL P ops Q m hist a H
 |ET.cons (c,_,o) l,hist,a,H=>
  if bF ops o a=true then
   match kd P o.op with
   |.pure=>∃v,bX P o a=some v∧NL P ops Q l hist (fE a o.dst v) H
   |.load=>∃v,I9 P o a H=some v∧(∀h∈hist.take c,I9 P o a h=some v)∧NL P ops Q l hist (fE a o.dst v) H
   |.other=>lY P o a H fun v H'=>NL P ops Q l (H::hist) (fE a o.dst v) H'
  else NL P ops Q l hist (fE a o.dst undef) H
def SB (ops:Array Oper):Nat→List Oper→Option (ET)
 |_,[]=>some .nil
 |i,o::l=>match Qu ops i with
  |true=>match SB ops (i+1) l with
   |some r=>some (ET.cons (0,true,o) r)
   |none=>none
  |false=>match SB ops (i+1) l with
   |some r=>some (ET.cons (0,false,o) r)
   |none=>none
def Jf (ops:Array Oper):List (Nat×Nat)→Option (ET)
 | []=>some .nil
 |(i,c)::l=>match ops[i]? with
  |none=>none
  |some o=>match Qu ops i with
   |true=>match Jf ops l with
    |some r=>some (ET.cons (c,true,o) r)
    |none=>none
   |false=>match Jf ops l with
    |some r=>some (ET.cons (c,false,o) r)
    |none=>none
theorem VT {ops:Array Oper} {i:Nat} {o:Oper} {l:List Oper} {es:ET} (h:SB ops i (o::l)=some es):∃g r,es=ET.cons (0,g,o) r∧SB ops (i+1) l=some r:=by
 simp only[SB] at h
 split at h <;> split at h <;> first|(cases h;done)|(rename_i r hr;cases h;exact⟨_,r,rfl,hr⟩)
theorem WQ {ops:Array Oper} {i c:Nat} {l:List (Nat×Nat)} {es:ET} (h:Jf ops ((i,c)::l)=some es):∃g r o,ops[i]?=some o∧es=ET.cons (c,g,o) r∧Jf ops l=some r:=by
 simp only[Jf] at h
 split at h
 ·cases h
 ·rename_i o ho
  split at h <;> split at h <;> first|(cases h;done)|(rename_i r hr;cases h;exact⟨_,r,o,ho,rfl,hr⟩)
theorem Ov {P:Program} {ops:Array Oper} {Q:Fr→Hp→Prop}:∀(l:List Oper) (i:Nat) (es:ET) (hist:List Hp) (a:Fr) (H:Hp),SB ops i l=some es→NL P ops Q es hist a H→Ja P ops Q i l a H
 | [],_,es,hist,a,H,he,h=>by cases he;exact h
 |o::l,i,es,hist,a,H,he,h=>by
  obtain⟨g,r,rfl,hr⟩:=VT he
  simp only[NL] at h
  split at h
  ·rename_i hw
   split at h
   ·obtain⟨v,hv,h⟩:=h
    exact Alk hw hv ((cI _ _ _).2 (Ov l _ r _ _ _ hr h))
   ·obtain⟨v,hv,_,h⟩:=h
    exact Aki hw hv ((cI _ _ _).2 (Ov l _ r _ _ _ hr h))
   ·refine Akz hw (oU (fun v H' hk=>?_) h)
    exact(cI _ _ _).2 (Ov l _ r _ _ _ hr hk)
  ·rename_i hw
   exact Aks (by simpa using hw) (Ov l _ r _ _ _ hr h)
theorem PF {P:Program} {ops:Array Oper} {Q:Fr→Hp→Prop}:∀(l:List (Nat×Nat)) (es:ET) (hist:List Hp) (a:Fr) (H:Hp),Jf ops l=some es→NL P ops Q es hist a H→zC P ops Q l hist a H
 | [],es,hist,a,H,he,h=>by cases he;exact h
 |(i,c)::l,es,hist,a,H,he,h=>by
  obtain⟨g,r,o,ho,rfl,hr⟩:=WQ he
  simp only[NL] at h
  split at h
  ·rename_i hw
   split at h
   ·rename_i hk
    obtain⟨v,hv,h⟩:=h
    exact Alc ho hk hw hv ((cI _ _ _).2 (PF l r _ _ _ hr h))
   ·rename_i hk
    obtain⟨v,hv,hh,h⟩:=h
    exact Alw ho hk hw hv hh ((cI _ _ _).2 (PF l r _ _ _ hr h))
   ·rename_i hk
    refine Ak0 ho hk hw (oU (fun v H' hk=>?_) h)
    exact(cI _ _ _).2 (PF l r _ _ _ hr hk)
  ·rename_i hw
   exact Al0 ho (by simpa using hw) (PF l r _ _ _ hr h)
def CY (ops:Array Oper):Tr→Option ET
 |.nil=>some .nil
 |.br t u=>match CY ops t with
  |some x=>match CY ops u with
   |some y=>some (.br x y)
   |none=>none
  |none=>none
 |.st i c l=>match ops[i]? with
  |none=>none
  |some o=>match Qu ops i with
   |true=>match CY ops l with
    |some r=>some (ET.cons (c,true,o) r)
    |none=>none
   |false=>match CY ops l with
    |some r=>some (ET.cons (c,false,o) r)
    |none=>none
theorem Ag3 {ops:Array Oper} {i c:Nat} {l:Tr} {es:ET} (h:CY ops (.st i c l)=some es):∃g r o,ops[i]?=some o∧es=ET.cons (c,g,o) r∧CY ops l=some r:=by
 simp only[CY] at h
 split at h
 ·cases h
 ·rename_i o ho
  split at h <;> split at h <;> first|(cases h;done)|(rename_i r hr;cases h;exact⟨_,r,o,ho,rfl,hr⟩)
theorem Ae3 {ops:Array Oper} {t u:Tr} {es:ET} (h:CY ops (.br t u)=some es):∃x y,es=.br x y∧CY ops t=some x∧CY ops u=some y:=by
 simp only[CY] at h
 split at h
 ·rename_i x hx
  split at h
  ·rename_i y hy;cases h;exact⟨x,y,rfl,hx,hy⟩
  ·cases h
 ·cases h
theorem GT {P:Program} {ops:Array Oper} {Q:Fr→Hp→Prop}:∀(t:Tr) (es:ET) (hist:List Hp) (a:Fr) (H:Hp),CY ops t=some es→NL P ops Q es hist a H→CQ P ops Q t hist a H
 |.nil,es,hist,a,H,he,h=>by cases he;exact h
 |.br t u,es,hist,a,H,he,h=>by
  obtain⟨x,y,rfl,hx,hy⟩:=Ae3 he
  exact⟨GT t x hist a H hx h.1,GT u y hist a H hy h.2⟩
 |.st i c l,es,hist,a,H,he,h=>by
  obtain⟨g,r,o,ho,rfl,hr⟩:=Ag3 he
  simp only[NL] at h
  simp only[CQ,ho]
  split at h
  ·rename_i hw
   rw[if_pos hw]
   split at h
   ·rename_i hkd;simp only[hkd];obtain⟨v,hv,h⟩:=h
    exact⟨v,hv,(cI _ _ _).2 (GT l r _ _ _ hr h)⟩
   ·rename_i hkd;simp only[hkd];obtain⟨v,hv,hh,h⟩:=h
    exact⟨v,hv,hh,(cI _ _ _).2 (GT l r _ _ _ hr h)⟩
   ·rename_i hkd;simp only[hkd];refine oU (fun v H' hk=>?_) h
    exact(cI _ _ _).2 (GT l r _ _ _ hr hk)
  ·rename_i hw
   rw[if_neg hw]
   exact GT l r _ _ _ hr h
def Rv (P:Program) (ops:Array Oper) (bs:Array Nat):Nat→List Nat→List Nat→Tr
 |n,acc,S=>
  let all:=List.range ops.size
  let cnt:=fun i=>jD P ops ((all.map fun j=>(j,0)).filter fun j=>!(bs.getD i 0).testBit j.1 && !(bs.getD j.1 0).testBit i)
  match n with
  |0=>(all.filter fun i=>!acc.contains i).foldr (fun i t=>.st i (cnt i) t) .nil
  |n+1=>
   let one:=fun e=>let new:=(all.filter fun i=>(bs.getD e 0).testBit i && !acc.contains i)++ [e]
    new.foldr (fun i t=>.st i (cnt i) t) (Rv P ops bs n (acc++new) (S.filter fun j=>!(j == e)))
   match S.filter fun e=>!S.any fun j=>(bs.getD e 0).testBit j with
   | []=>.nil
   |e::l=>l.foldl (fun t e=>.br t (one e)) (one e)
def Ea (P:Program) (ops:Array Oper):List Nat:=(List.range ops.size).filter fun i=>match ops[i]? with|some o=>bW P o.op|none=>false
def trF:Tr→Option Tr
 |.nil=>some .nil
 |.st i c t=>match y9 i with
  |some i=>match y9 c with
   |some c=>match trF t with
    |some t=>some (.st i c t)
    |none=>none
   |none=>none
  |none=>none
 |.br t u=>match trF t with
  |some t=>match trF u with
   |some u=>some (.br t u)
   |none=>none
  |none=>none
def Od:List (List HP)→List Hp→Prop
 | [],[]=>True
 |C::l,H::m=>bY C H∧Od l m
 |_,_=>False
theorem Od.take:∀ {l:List (List HP)} {m:List Hp},Od l m→∀ {c:Nat} {h:Hp},h∈m.take c→∃C∈l.take c,bY C h
 | [],[],_,_,_,hh=>by simp at hh
 |C::l,H::m,hs,0,_,hh=>by simp at hh
 |C::l,H::m,hs,c+1,h,hh=>by
  simp only[List.take_succ_cons,List.mem_cons] at hh
  rcases hh with rfl|hh
  ·exact⟨C,by simp,hs.1⟩
  ·obtain⟨C',h1,h2⟩:=Od.take hs.2 hh
   exact⟨C',by simp[h1],h2⟩
 | [],_::_,hs,_,_,_=>hs.elim
 |_::_,[],hs,_,_,_=>hs.elim
def aN (P:Program) (ops:Array Oper) (Q:Fr→List HP→Prop) (es:ET) (hist:List (List HP)) (a:Fr) (C:List HP):Prop:=
 ∀Hs H,Od hist Hs→bY C H→NL P ops (upC Q) es Hs a H
def RdC (P:Program) (o:Oper) (a:Fr) (C:List HP) (v:Value):Prop:=∀H,bY C H→I9 P o a H=some v
def yW (p:List HP→Prop):List (List HP)→Prop
 | []=>True
 |C::l=>p C∧yW p l
theorem G9 {p:List HP→Prop}:∀ {l:List (List HP)},yW p l→∀C∈l,p C
 | [],_,_,h=>by cases h
 |_::_,hp,C,h=>by
  rcases List.mem_cons.1 h with rfl|h
  ·exact hp.1
  ·exact G9 hp.2 C h
def zX (P:Program) (o:Oper) (a:Fr) (C:List HP) (k:Value→List HP→Prop):Prop:=∀H,bY C H→lY P o a H (upV k)
section
variable {P:Program} {ops:Array Oper} {Q:Fr→List HP→Prop} {a:Fr} {C:List HP} {c:Nat} {g:Bool} {o:Oper} {es:ET} {hist:List (List HP)} {v:Value}
theorem gI (hk:kd P o.op=.pure) (hw:bF ops o a=true) (hv:bX P o a=some v) (h:cJ g v fun v=>aN P ops Q es hist (fE a o.dst v) C):aN P ops Q (ET.cons (c,g,o) es) hist a C:=fun Hs H h1 h2=>by
 simp only[NL,hw,if_true,hk]
 rw[cI] at h
 exact⟨v,hv,h Hs H h1 h2⟩
theorem Qk (hk:kd P o.op=.load) (hw:bF ops o a=true) (hv:RdC P o a C v) (hh:yW (fun C'=>RdC P o a C' v) (hist.take c)) (h:cJ g v fun v=>aN P ops Q es hist (fE a o.dst v) C):aN P ops Q (ET.cons (c,g,o) es) hist a C:=fun Hs H h1 h2=>by
 simp only[NL,hw,if_true,hk]
 rw[cI] at h
 refine⟨v,hv H h2,fun x hx=>?_,h Hs H h1 h2⟩
 obtain⟨C',k1,k2⟩:=h1.take hx
 exact G9 hh C' k1 x k2
theorem xG (hk:kd P o.op=.other) (hw:bF ops o a=true) (h:zX P o a C fun v C'=>cJ g v fun v=>aN P ops Q es (C::hist) (fE a o.dst v) C'):aN P ops Q (ET.cons (c,g,o) es) hist a C:=fun Hs H h1 h2=>by
 simp only[NL,hw,if_true,hk]
 refine oU (fun v H' hk=>?_) (h H h2)
 obtain⟨C',k1,k2⟩:=hk
 rw[cI] at k2
 exact k2 (H::Hs) H' ⟨h2,h1⟩ k1
theorem Aly (hw:bF ops o a=false) (h:aN P ops Q es hist (fE a o.dst undef) C):aN P ops Q (ET.cons (c,g,o) es) hist a C:=fun Hs H h1 h2=>by
 simp only[NL,hw]
 exact h Hs H h1 h2
theorem Al4 {x y:ET} (h1:aN P ops Q x hist a C) (h2:aN P ops Q y hist a C):aN P ops Q (.br x y) hist a C:=fun Hs H k1 k2=>⟨h1 Hs H k1 k2,h2 Hs H k1 k2⟩
theorem aQ (h:Q a C):aN P ops Q .nil hist a C:=fun _ _ _ h2=>⟨C,h2,h⟩
theorem UM {C':List HP} (he:aG C C') (h:aN P ops Q es hist a C'):aN P ops Q es hist a C:=fun Hs H h1 h2=>h Hs H h1 (he H h2)
end
section
variable {P:Program} {Q:Exit→Fr→List HP→Prop} {a:Fr} {C:List HP} {id:Nat} {ol:List Oper} {es:ET}
theorem IZ (he:SB ol.toArray 0 ol=some es) (h:aN P ol.toArray (Q .normal) es [] a C):fB P (.region id ol.toArray false) Q a C:=fun H hs=>
 Ov ol 0 es [] a H he (h [] H trivial hs)
theorem Iw {l:List (Nat×Nat)} (hl:Cp (Ki P ol.toArray (Region.before ol.toArray))=some l) (hc:vG P ol.toArray (Region.before ol.toArray) l=true) (he:Jf ol.toArray l=some es)
  (h:aN P ol.toArray (Q .normal) es [] a C):fB P (.region id ol.toArray true) Q a C:=fun H hs=>by
 have e:=Wa hl
 exact .inl ⟨by rw[e];exact hc,by rw[e];exact PF l es [] a H he (h [] H trivial hs)⟩
theorem GB {t:Tr} (hl:trF (Rv P ol.toArray (Region.before ol.toArray) (Ea P ol.toArray).length [] (Ea P ol.toArray))=some t) (hc:HA P ol.toArray (Region.before ol.toArray) t=true) (he:CY ol.toArray t=some es)
  (h:aN P ol.toArray (Q .normal) es [] a C):fB P (.region id ol.toArray true) Q a C:=fun H hs=>
 .inr ⟨t,hc,GT t es [] a H he (h [] H trivial hs)⟩
end
def dM (P:Program) (fn:Func) (K:Value→List HP→Prop):Exit→Fr→List HP→Prop
 |Exit.normal=>fun a C=>∀H,bY C H→ZK P fn (upV K) a H
 |Exit.ret=>fun a C=>∀H,bY C H→ZK P fn (upV K) a H
 |_=>fun _ _=>False
theorem Nx {P:Program} (hm:P.follows .mixedOrders=true) {f:FuncId} {fn:Func} {c:Code} {args:Array Value} {C:List HP} {K:Value→List HP→Prop} (hf:P.funcs[f]?=some fn) (hb:fn.body=some c)
  (hn:(fn.name == "runtime.NumGoroutine")=false) (hc:qT fn.ntmps c=true) (hsz:args.size≤fn.ntmps) (h:fB P c (dM P fn K) (Gj args.toList) C):aA P f args C K:=fun H hs=>by
 refine N9 hm hf hb hn hc hsz (wM c (fun e a H hq=>?_) _ H (h H hs))
 obtain⟨C',h1,h2⟩:=hq
 cases e <;> first|exact h2 H h1|exact h2.elim
def Au (P:Program) (a:Fr) (C:List HP) (rs:List ResultVar) (vs:List Value):Prop:=∀H,bY C H→xH P a H rs=some vs
theorem bR {P:Program} {a:Fr} {C:List HP}:Au P a C [] []:=fun _ _=>rfl
theorem Aiw {P:Program} {a:Fr} {C:List HP} {t:Tmp} {rs:List ResultVar} {v:Value} {vs:List Value} (hx:iP (a t)=some v) (h:Au P a C rs vs):Au P a C (.tmp t::rs) (v::vs):=fun H hs=>Ajw hx (h H hs)
def XN (C:List HP) (B:Nat) (cs:List Value):Prop:=∀H,bY C H→∃e rw,H B=some (.cells cs e rw)
theorem s3 {C:List HP} {B:Nat} {cs:List Value} {e:TypeId}:XN (pt B cs e::C) B cs:=fun H ⟨H1,H2,_,h1,_,ha,_⟩=>by
 obtain⟨b,h,l⟩:=h1 B _ ha
 have:=sZ.le_own l rfl
 subst this
 exact⟨e,true,h⟩
theorem uB {A:HP} {C:List HP} {B:Nat} {cs:List Value} (h:XN C B cs):XN (A::C) B cs:=fun H hs=>h H hs.tail
theorem Afz {P:Program} {a:Fr} {C:List HP} {p:Tmp} {t:TypeId} {B off:Nat} {cs:List Value} {rs:List ResultVar} {v:Value} {vs:List Value} (hx:a p=.pointer (some ⟨B,off,none⟩)) (hb:XN C B cs) (hv:Nl P t cs off=some v)
  (h:Au P a C rs vs):Au P a C (.cell p t::rs) (v::vs):=fun H hs=>by
 obtain⟨e,rw,hB⟩:=hb H hs
 exact Afw hx hB hv (h H hs)
theorem Ajt {P:Program} {fn:Func} {K:Value→List HP→Prop} {a:Fr} {C C':List HP} {rs:List ResultVar} {vs:List Value} {v:Value} (hl:nE fn.results.toList=some rs) (hv:Au P a C rs vs) (ht:iP (SS vs)=some v) (he:aG C C') (hk:K v C'):
  dM P fn K .ret a C:=fun H hs=>⟨vs,by rw[lE hl];exact hv H hs,H,LO.refl H,C',he H hs,by rw[gM ht];exact hk⟩
end Go.Sl
namespace Go.Sl
theorem o9 (l:List UInt8):(ByteArray.mk l.toArray).size=l.length:=by simp[ByteArray.size]
theorem Adz (z:Int):IntKind.wrap .u8 z=z % 256:=by
 simp[IntKind.wrap,IntKind.bits,IntKind.signed]
theorem Abo (z:Int):IntKind.wrap .u64 z=z % 18446744073709551616:=by
 simp[IntKind.wrap,IntKind.bits,IntKind.signed]
theorem Aar {k:IntKind} {m n:Int} (h0:0≤m) (h1:0<n) (hm:k.wrap (m / n)=m / n):k.wrap (m / n)=m / n:=hm
section
variable {P:Program} {a:Fr} {d:Option Tmp} {ty:TypeId} {pos:String} {after:Array Edge} {g:Option (Nat×Bool)} {t yt:TypeId} {x y z:Operand}
theorem Ag5 {k:IntKind} {m n:Int} (hx:bK a x=.int k m) (hy:bK a y=.int k n) (h0:0≤m) (h1:0<n) (h2:k.wrap (m / n)=m / n):bX P ⟨d,.binOp .quo t x y yt,ty,pos,after,g⟩ a=some (.int k (m / n)):=by
 have:=Z6 (P:=P) (d:=d) (t:=t) (yt:=yt) (ty:=ty) (pos:=pos) (after:=after) (g:=g) hx hy (by omega)
 rw[this,Int.tdiv_eq_ediv_of_nonneg h0,h2]
theorem Ads {k:IntKind} {m n:Int} (hx:bK a x=.int k m) (hy:bK a y=.int k n) (h0:0≤m) (h1:0<n):bX P ⟨d,.binOp .rem t x y yt,ty,pos,after,g⟩ a=some (.int k (m % n)):=by
 have:=Aa1 (P:=P) (d:=d) (t:=t) (yt:=yt) (ty:=ty) (pos:=pos) (after:=after) (g:=g) hx hy (by omega)
 rw[this,Int.tmod_eq_emod_of_nonneg h0]
theorem Aey {k k':IntKind} {m n:Int} {Amc:Array Operand} {ts:Array TypeId} (hargs:Amc.toList.map (bK a)= [.int k m,.int k' n]):bX P ⟨d,.call { callee:=.builtin .min,args:=Amc,argTypes:=ts },ty,pos,after,g⟩ a=some (.int k (min m n)):=by
 rw[Aii hargs]
 congr 2
 split <;> omega
theorem Adr {k k':IntKind} {m n:Int} {Amc:Array Operand} {ts:Array TypeId} (hargs:Amc.toList.map (bK a)= [.int k m,.int k' n]):bX P ⟨d,.call { callee:=.builtin .max,args:=Amc,argTypes:=ts },ty,pos,after,g⟩ a=some (.int k (max m n)):=by
 rw[Aj6 hargs]
 congr 2
 split <;> omega
theorem Ac5 {t':TypeId} {k':IntKind} {n:Int} (hs:(P.underlying t).isSome=true) (ht:Qh P t'=some .u8) (hx:bK a x=.int k' n):bX P ⟨d,.convert t t' x,ty,pos,after,g⟩ a=some (.int .u8 (n % 256)):=by
 have:=L8 (P:=P) (d:=d) (ty:=ty) (pos:=pos) (after:=after) (g:=g) hs ht hx
 rw[Adz] at this;exact this
theorem Aab {t':TypeId} {k':IntKind} {n:Int} (hs:(P.underlying t).isSome=true) (ht:Qh P t'=some .u64) (hx:bK a x=.int k' n):bX P ⟨d,.convert t t' x,ty,pos,after,g⟩ a=some (.int .u64 (n % 18446744073709551616)):=by
 have:=L8 (P:=P) (d:=d) (ty:=ty) (pos:=pos) (after:=after) (g:=g) hs ht hx
 rw[Abo] at this;exact this
end
section
variable {P:Program} {ops:Array Oper} {Q:Fr→List HP→Prop} {a:Fr} {C:List HP} {c:Nat} {g:Bool} {o:Oper} {es:ET} {hist:List (List HP)} {v:Value} {k:Value→List HP→Prop}
end
section
variable {P:Program} {ops:Array Oper} {Q:Fr→List HP→Prop} {a:Fr} {C:List HP} {c:Nat} {gd:Bool} {es:ET} {hist:List (List HP)} {d':Tmp} {d:Option Tmp} {v:Value} {k:Value→List HP→Prop}
variable {ty:TypeId} {pos:String} {after:Array Edge} {g:Option (Nat×Bool)} {t yt:TypeId} {x y z:Operand} {op:Op}
theorem aX (h:aN P ops Q es hist (kP a d' undef) C) (hw:bF ops ⟨some d',op,ty,pos,after,g⟩ a=false:=by exact rfl):aN P ops Q (ET.cons (c,gd,⟨some d',op,ty,pos,after,g⟩) es) hist a C:=Aly hw h
theorem aF (h:aN P ops Q es hist (kP a d' v) C) (hv:opV P op a=some v:=by exact rfl) (hw:bF ops ⟨some d',op,ty,pos,after,g⟩ a=true:=by exact rfl):aN P ops Q (ET.cons (c,false,⟨some d',op,ty,pos,after,g⟩) es) hist a C:=
 gI (Aav hv) hw (OP hv) (EE rfl h)
theorem aI (h:cJ gd v fun v=>aN P ops Q es hist (kP a d' v) C) (hv:opV P op a=some v:=by exact rfl) (hw:bF ops ⟨some d',op,ty,pos,after,g⟩ a=true:=by exact rfl):aN P ops Q (ET.cons (c,gd,⟨some d',op,ty,pos,after,g⟩) es) hist a C:=
 gI (Aav hv) hw (OP hv) h
theorem cG {m n:Int} (h:cJ gd (.int .i64 (m+n)) fun v=>aN P ops Q es hist (kP a d' v) C) (hx:bK a x=.int .i64 m:=by exact rfl) (hy:bK a y=.int .i64 n:=by exact rfl) (h0:-9223372036854775808≤m+n:=by first|omega|assumption) (h1:m+n≤9223372036854775807:=by first|omega|assumption) (hw:bF ops ⟨some d',.binOp .add t x y yt,ty,pos,after,g⟩ a=true:=by exact rfl):aN P ops Q (ET.cons (c,gd,⟨some d',.binOp .add t x y yt,ty,pos,after,g⟩) es) hist a C:=
 gI rfl hw (X5 hx hy h0 h1) h
theorem gH {m n:Int} (h:cJ gd (.int .i64 (m - n)) fun v=>aN P ops Q es hist (kP a d' v) C) (hx:bK a x=.int .i64 m:=by exact rfl) (hy:bK a y=.int .i64 n:=by exact rfl) (h0:-9223372036854775808≤m - n:=by first|omega|assumption) (h1:m - n≤9223372036854775807:=by first|omega|assumption) (hw:bF ops ⟨some d',.binOp .sub t x y yt,ty,pos,after,g⟩ a=true:=by exact rfl):aN P ops Q (ET.cons (c,gd,⟨some d',.binOp .sub t x y yt,ty,pos,after,g⟩) es) hist a C:=
 gI rfl hw (ZO hx hy h0 h1) h
theorem xW {m n:Int} (h:cJ gd (.int .i64 (m * n)) fun v=>aN P ops Q es hist (kP a d' v) C) (hx:bK a x=.int .i64 m:=by exact rfl) (hy:bK a y=.int .i64 n:=by exact rfl) (h0:-9223372036854775808≤m * n:=by first|omega|assumption) (h1:m * n≤9223372036854775807:=by first|omega|assumption) (hw:bF ops ⟨some d',.binOp .mul t x y yt,ty,pos,after,g⟩ a=true:=by exact rfl):aN P ops Q (ET.cons (c,gd,⟨some d',.binOp .mul t x y yt,ty,pos,after,g⟩) es) hist a C:=
 gI rfl hw (Aam hx hy h0 h1) h
theorem JX {k:IntKind} {m n:Int} (h:cJ gd (.int k (m / n)) fun v=>aN P ops Q es hist (kP a d' v) C) (hx:bK a x=.int k m:=by exact rfl) (hy:bK a y=.int k n:=by exact rfl) (h0:0≤m:=by first|omega|assumption) (h1:0<n:=by first|omega|assumption) (h2:k.wrap (m / n)=m / n:=by first|(refine uS ?_ ?_ <;> omega)|(refine Aar ?_ ?_ (by assumption) <;> omega)) (hw:bF ops ⟨some d',.binOp .quo t x y yt,ty,pos,after,g⟩ a=true:=by exact rfl):aN P ops Q (ET.cons (c,gd,⟨some d',.binOp .quo t x y yt,ty,pos,after,g⟩) es) hist a C:=
 gI rfl hw (Ag5 hx hy h0 h1 h2) h
theorem yR {k:IntKind} {m n:Int} (h:cJ gd (.int k (m % n)) fun v=>aN P ops Q es hist (kP a d' v) C) (hx:bK a x=.int k m:=by exact rfl) (hy:bK a y=.int k n:=by exact rfl) (h0:0≤m:=by first|omega|assumption) (h1:0<n:=by first|omega|assumption) (hw:bF ops ⟨some d',.binOp .rem t x y yt,ty,pos,after,g⟩ a=true:=by exact rfl):aN P ops Q (ET.cons (c,gd,⟨some d',.binOp .rem t x y yt,ty,pos,after,g⟩) es) hist a C:=
 gI rfl hw (Ads hx hy h0 h1) h
theorem mF {b:Bool} {v:Value} (h:cJ gd (v) fun v=>aN P ops Q es hist (kP a d' v) C) (hx:bK a x=.bool b:=by exact rfl) (hv:iP (.bool !b)=some v:=by exact rfl) (hw:bF ops ⟨some d',.unOp .not t x,ty,pos,after,g⟩ a=true:=by exact rfl):aN P ops Q (ET.cons (c,gd,⟨some d',.unOp .not t x,ty,pos,after,g⟩) es) hist a C:=
 gI rfl hw (Ta hx hv) h
theorem fL {m n:ByteArray} (h:cJ gd (.string (m++n)) fun v=>aN P ops Q es hist (kP a d' v) C) (hx:bK a x=.string m:=by exact rfl) (hy:bK a y=.string n:=by exact rfl) (hs:m.size+n.size≤9223372036854775807:=by first|omega|(simp[o9] <;> omega)|decide) (hw:bF ops ⟨some d',.binOp .add t x y yt,ty,pos,after,g⟩ a=true:=by exact rfl):aN P ops Q (ET.cons (c,gd,⟨some d',.binOp .add t x y yt,ty,pos,after,g⟩) es) hist a C:=
 gI rfl hw (Akd hx hy hs) h
theorem dO {B off n cp sz:Nat} {k:IntKind} {j:Int} (h:cJ gd (.pointer (some ⟨B,off+j.toNat * sz,none⟩)) fun v=>aN P ops Q es hist (kP a d' v) C) (hx:bK a x=.slice (some ⟨B,off,none⟩) n cp:=by exact rfl) (hy:bK a y=.int k j:=by exact rfl) (ht:sY P t=some sz:=by exact rfl) (h0:0≤j:=by first|omega|assumption) (h1:j<n:=by first|omega|assumption) (hw:bF ops ⟨some d',.indexAddr t x y,ty,pos,after,g⟩ a=true:=by exact rfl):aN P ops Q (ET.cons (c,gd,⟨some d',.indexAddr t x y,ty,pos,after,g⟩) es) hist a C:=
 gI rfl hw (Hq ht hx hy h0 h1) h
theorem cP {B off n sz:Nat} {k:IntKind} {j:Int} (h:cJ gd (.pointer (some ⟨B,off+j.toNat * sz,none⟩)) fun v=>aN P ops Q es hist (kP a d' v) C) (hx:bK a x=.pointer (some ⟨B,off,none⟩):=by exact rfl) (hy:bK a y=.int k j:=by exact rfl) (ht:Ajv P t=some (n,sz):=by exact rfl) (h0:0≤j:=by first|omega|assumption) (h1:j<n:=by first|omega|assumption) (hw:bF ops ⟨some d',.indexAddr t x y,ty,pos,after,g⟩ a=true:=by exact rfl):aN P ops Q (ET.cons (c,gd,⟨some d',.indexAddr t x y,ty,pos,after,g⟩) es) hist a C:=
 gI rfl hw (VM ht hx hy h0 h1) h
theorem wU {s:ByteArray} {k:IntKind} {j:Int} (h:cJ gd (.string (s.extract j.toNat s.size)) fun v=>aN P ops Q es hist (kP a d' v) C) (hx:bK a x=.string s:=by exact rfl) (hy:bK a y=.int k j:=by exact rfl) (ht:m9 P t=true:=by exact rfl) (h0:0≤j:=by first|omega|assumption) (h1:j≤s.size:=by first|omega|assumption) (hw:bF ops ⟨some d',.slice t x (some y) none none,ty,pos,after,g⟩ a=true:=by exact rfl):aN P ops Q (ET.cons (c,gd,⟨some d',.slice t x (some y) none none,ty,pos,after,g⟩) es) hist a C:=
 gI rfl hw (GF ht hx hy h0 h1) h
theorem wX {s:ByteArray} {k:IntKind} {j:Int} (h:cJ gd (.string (s.extract 0 j.toNat)) fun v=>aN P ops Q es hist (kP a d' v) C) (hx:bK a x=.string s:=by exact rfl) (hy:bK a y=.int k j:=by exact rfl) (ht:m9 P t=true:=by exact rfl) (h0:0≤j:=by first|omega|assumption) (h1:j≤s.size:=by first|omega|assumption) (hw:bF ops ⟨some d',.slice t x none (some y) none,ty,pos,after,g⟩ a=true:=by exact rfl):aN P ops Q (ET.cons (c,gd,⟨some d',.slice t x none (some y) none,ty,pos,after,g⟩) es) hist a C:=
 gI rfl hw (GQ ht hx hy h0 h1) h
theorem w4 {s:ByteArray} {k k':IntKind} {j m:Int} (h:cJ gd (.string (s.extract j.toNat m.toNat)) fun v=>aN P ops Q es hist (kP a d' v) C) (hx:bK a x=.string s:=by exact rfl) (hy:bK a y=.int k j:=by exact rfl) (hz:bK a z=.int k' m:=by exact rfl) (ht:m9 P t=true:=by exact rfl) (h0:0≤j:=by first|omega|assumption) (h1:j≤m:=by first|omega|assumption) (h2:m≤s.size:=by first|omega|assumption) (hw:bF ops ⟨some d',.slice t x (some y) (some z) none,ty,pos,after,g⟩ a=true:=by exact rfl):aN P ops Q (ET.cons (c,gd,⟨some d',.slice t x (some y) (some z) none,ty,pos,after,g⟩) es) hist a C:=
 gI rfl hw (Pd ht hx hy hz h0 h1 h2) h
theorem dU {ps:Array (Nat×Operand)} {vs:List (Nat×Value)} {v:Value} (h:cJ gd (v) fun v=>aN P ops Q es hist (kP a d' v) C) (hps:B6 a ps.toList=some vs:=by exact rfl) (hv:MD P t vs=some v:=by exact rfl) (hw:bF ops ⟨some d',.build t ps,ty,pos,after,g⟩ a=true:=by exact rfl):aN P ops Q (ET.cons (c,gd,⟨some d',.build t ps,ty,pos,after,g⟩) es) hist a C:=
 gI rfl hw (Aaa hps hv) h
theorem y4 {k k':IntKind} {m n:Int} {Amc:Array Operand} {ts:Array TypeId} (h:cJ gd (.int k (min m n)) fun v=>aN P ops Q es hist (kP a d' v) C) (hargs:Amc.toList.map (bK a)= [.int k m,.int k' n]:=by exact rfl) (hw:bF ops ⟨some d',.call { callee:=.builtin .min,args:=Amc,argTypes:=ts },ty,pos,after,g⟩ a=true:=by exact rfl):aN P ops Q (ET.cons (c,gd,⟨some d',.call { callee:=.builtin .min,args:=Amc,argTypes:=ts },ty,pos,after,g⟩) es) hist a C:=
 gI rfl hw (Aey hargs) h
theorem zS {k k':IntKind} {m n:Int} {Amc:Array Operand} {ts:Array TypeId} (h:cJ gd (.int k (max m n)) fun v=>aN P ops Q es hist (kP a d' v) C) (hargs:Amc.toList.map (bK a)= [.int k m,.int k' n]:=by exact rfl) (hw:bF ops ⟨some d',.call { callee:=.builtin .max,args:=Amc,argTypes:=ts },ty,pos,after,g⟩ a=true:=by exact rfl):aN P ops Q (ET.cons (c,gd,⟨some d',.call { callee:=.builtin .max,args:=Amc,argTypes:=ts },ty,pos,after,g⟩) es) hist a C:=
 gI rfl hw (Adr hargs) h
theorem aS {xs ys:Array Value} {b:Bool} (h:cJ gd (.bool b) fun v=>aN P ops Q es hist (kP a d' v) C) (hx:bK a x=.agg xs:=by exact rfl) (hy:bK a y=.agg ys:=by exact rfl) (hg:(!P.eqGuardType P.depth t && Cr P 20 t)=true:=by decide +kernel) (he:eqV P 20 t (.agg xs) (.agg ys)=some b:=by exact rfl) (hw:bF ops ⟨some d',.binOp .eql t x y yt,ty,pos,after,g⟩ a=true:=by exact rfl):aN P ops Q (ET.cons (c,gd,⟨some d',.binOp .eql t x y yt,ty,pos,after,g⟩) es) hist a C:=
 gI rfl hw (Ri hx hy hg he) h
theorem bZ {xs ys:Array Value} {b:Bool} (h:cJ gd (.bool (!b)) fun v=>aN P ops Q es hist (kP a d' v) C) (hx:bK a x=.agg xs:=by exact rfl) (hy:bK a y=.agg ys:=by exact rfl) (hg:(!P.eqGuardType P.depth t && Cr P 20 t)=true:=by decide +kernel) (he:eqV P 20 t (.agg xs) (.agg ys)=some b:=by exact rfl) (hw:bF ops ⟨some d',.binOp .neq t x y yt,ty,pos,after,g⟩ a=true:=by exact rfl):aN P ops Q (ET.cons (c,gd,⟨some d',.binOp .neq t x y yt,ty,pos,after,g⟩) es) hist a C:=
 gI rfl hw (Sv hx hy hg he) h
theorem LF {yk:IntKind} {u:Int} (h:cJ gd (.int .i64 (u * 256)) fun v=>aN P ops Q es hist (kP a d' v) C) (hx:bK a x=.int .i64 u:=by exact rfl) (hy:bK a y=.int yk 8:=by exact rfl) (h0:0≤u:=by first|omega|assumption) (h1:u<18014398509481984:=by first|omega|assumption) (hw:bF ops ⟨some d',.binOp .shl t x y yt,ty,pos,after,g⟩ a=true:=by exact rfl):aN P ops Q (ET.cons (c,gd,⟨some d',.binOp .shl t x y yt,ty,pos,after,g⟩) es) hist a C:=
 gI rfl hw (Af7 hx hy h0 h1) h
theorem Aax {u b:Int} (h:cJ gd (.int .i64 (u * 256+b)) fun v=>aN P ops Q es hist (kP a d' v) C) (hx:bK a x=.int .i64 (u * 256):=by exact rfl) (hy:bK a y=.int .i64 b:=by exact rfl) (h0:0≤u:=by first|omega|assumption) (h1:u<18014398509481984:=by first|omega|assumption) (h2:0≤b:=by first|omega|assumption) (h3:b<256:=by first|omega|assumption) (hw:bF ops ⟨some d',.binOp .or t x y yt,ty,pos,after,g⟩ a=true:=by exact rfl):aN P ops Q (ET.cons (c,gd,⟨some d',.binOp .or t x y yt,ty,pos,after,g⟩) es) hist a C:=
 gI rfl hw (Ai3 hx hy h0 h1 h2 h3) h
theorem jH {t':TypeId} {k':IntKind} {n:Int} (h:cJ gd (.int .i64 n) fun v=>aN P ops Q es hist (kP a d' v) C) (hx:bK a x=.int k' n:=by exact rfl) (ht:Qh P t'=some .i64:=by exact rfl) (hs:(P.underlying t).isSome=true:=by exact rfl) (h0:-9223372036854775808≤n:=by first|omega|assumption) (h1:n≤9223372036854775807:=by first|omega|assumption) (hk:kd P (.convert t t' x)=.pure:=by exact rfl) (hw:bF ops ⟨some d',.convert t t' x,ty,pos,after,g⟩ a=true:=by exact rfl):aN P ops Q (ET.cons (c,gd,⟨some d',.convert t t' x,ty,pos,after,g⟩) es) hist a C:=
 gI hk hw (Xn hs ht hx h0 h1) h
theorem mS {t':TypeId} {k':IntKind} {n:Int} (h:cJ gd (.int .u8 (n % 256)) fun v=>aN P ops Q es hist (kP a d' v) C) (hx:bK a x=.int k' n:=by exact rfl) (ht:Qh P t'=some .u8:=by exact rfl) (hs:(P.underlying t).isSome=true:=by exact rfl) (hk:kd P (.convert t t' x)=.pure:=by exact rfl) (hw:bF ops ⟨some d',.convert t t' x,ty,pos,after,g⟩ a=true:=by exact rfl):aN P ops Q (ET.cons (c,gd,⟨some d',.convert t t' x,ty,pos,after,g⟩) es) hist a C:=
 gI hk hw (Ac5 hs ht hx) h
theorem lR {t':TypeId} {k':IntKind} {n:Int} (h:cJ gd (.int .u64 (n % 18446744073709551616)) fun v=>aN P ops Q es hist (kP a d' v) C) (hx:bK a x=.int k' n:=by exact rfl) (ht:Qh P t'=some .u64:=by exact rfl) (hs:(P.underlying t).isSome=true:=by exact rfl) (hk:kd P (.convert t t' x)=.pure:=by exact rfl) (hw:bF ops ⟨some d',.convert t t' x,ty,pos,after,g⟩ a=true:=by exact rfl):aN P ops Q (ET.cons (c,gd,⟨some d',.convert t t' x,ty,pos,after,g⟩) es) hist a C:=
 gI hk hw (Aab hs ht hx) h
theorem Ab7 {B off:Nat} {cs:List Value} (hb:XN C B cs) (hx:bK a x=.pointer (some ⟨B,off,none⟩)) (hv:Nl P t cs off=some v):RdC P ⟨d,.load t x,ty,pos,after,g⟩ a C v:=fun H hs=>by
 obtain⟨e,rw,hB⟩:=hb H hs
 exact Tm (by rw[hx];exact Ll hB hv)
def Ali (P:Program) (t:TypeId) (B off:Nat) (v:Value) (C:List HP):Prop:=∃cs,XN C B cs∧Nl P t cs off=some v
theorem Alf {B off:Nat} {cs:List Value} (hb:XN C B cs:=by((repeat (first|exact s3|exact has_ro|apply uB)) <;> exact s3)) (hv:Nl P t cs off=some v:=by exact rfl):Ali P t B off v C:=⟨cs,hb,hv⟩
theorem Ap {p:List HP→Prop}:yW p []:=trivial
theorem Gv {p:List HP→Prop} {l:List (List HP)} (h:p C) (hl:yW p l):yW p (C::l):=⟨h,hl⟩
theorem H6 {p q:List HP→Prop} (hpq:∀C,p C→q C):∀ {l:List (List HP)},yW p l→yW q l
 | [],_=>trivial
 |_::_,h=>⟨hpq _ h.1,H6 hpq h.2⟩
theorem bG {B off:Nat} {cs:List Value} (h:cJ gd v fun v=>aN P ops Q es hist (kP a d' v) C) (hx:bK a x=.pointer (some ⟨B,off,none⟩):=by exact rfl)
  (hb:XN C B cs:=by((repeat (first|exact s3|exact has_ro|apply uB)) <;> exact s3)) (hv:Nl P t cs off=some v:=by exact rfl)
  (hh:yW (Ali P t B off v) (hist.take c):=by((repeat (first|exact Ap|refine Gv Alf ?_)) <;> exact Ap))
  (hw:bF ops ⟨some d',.load t x,ty,pos,after,g⟩ a=true:=by exact rfl):aN P ops Q (ET.cons (c,gd,⟨some d',.load t x,ty,pos,after,g⟩) es) hist a C:=
 Qk rfl hw (Ab7 hb hx hv) (H6 (fun _ ⟨_,k1,k2⟩=>Ab7 k1 hx k2) hh) h
theorem nS {B:Nat} {cs:List Value} {e:TypeId} {H:Hp} (hs:bY (pt B cs e::C) H):H B=some (.cells cs e true)∧∀b:sZ,(∃cs',b=.cells cs' e true)→bY C (hupd H B b):=by
 obtain⟨H1,H2,hc,h1,h2,ha,hs⟩:=hs
 obtain⟨b,hb,l⟩:=h1 B _ ha
 have:=sZ.le_own l rfl
 subst this
 refine⟨hb,fun b _=>hs.mono fun r x hx=>?_⟩
 have hne:r≠B:=fun e=>by subst e;have:=(hc r _ x ha hx).1;cases this
 rw[j9 _ _ hne]
 exact h2 r x hx
theorem sB {r:Nat} {cs:List Value} {e:TypeId} {H:Hp} (hr:H r=none) (hs:bY C H):bY (pt r cs e::C) (hupd H r (.cells cs e true)):=
 ⟨mZ r (.cells cs e true),H,(fun B b x hb hx=>by rw[(D9 hb).1,hr] at hx;cases hx),Dy (kJ _ _ _) (sZ.le_refl _),
  (fun B b hb=>⟨b,by rw[j9 _ _ (fun e=>by subst e;rw[hr] at hb;cases hb)];exact hb,b.le_refl⟩),xP _ _,hs⟩
theorem rS {B:Nat} {cs cs':List Value} {e:TypeId} {H:Hp} (hs:bY (pt B cs e::C) H):bY (pt B cs' e::C) (hupd H B (.cells cs' e true)):=by
 obtain⟨H1,H2,hc,h1,h2,ha,hs⟩:=hs
 have hn:H2 B=none:=by
  cases hx:H2 B with
  |none=>rfl
  |some x=>have:=(hc B _ x ha hx).1;cases this
 refine⟨mZ B (.cells cs' e true),H2,(fun r b x hb hx=>by rw[(D9 hb).1,hn] at hx;cases hx),Dy (kJ _ _ _) (sZ.le_refl _),fun r b hb=>?_,xP _ _,hs⟩
 rw[j9 _ _ (fun e=>by subst e;rw[hn] at hb;cases hb)]
 exact h2 r b hb
theorem Yg (h:zX P ⟨some d',op,ty,pos,after,g⟩ a C fun v C'=>cJ gd v fun v=>aN P ops Q es (C::hist) (kP a d' v) C') (hk:kd P op=.other:=by exact rfl) (hw:bF ops ⟨some d',op,ty,pos,after,g⟩ a=true:=by exact rfl):
  aN P ops Q (ET.cons (c,gd,⟨some d',op,ty,pos,after,g⟩) es) hist a C:=xG hk hw h
theorem YE (h:zX P ⟨none,op,ty,pos,after,g⟩ a C fun _ C'=>aN P ops Q es (C::hist) a C') (hk:kd P op=.other:=by exact rfl) (hw:bF ops ⟨none,op,ty,pos,after,g⟩ a=true:=by exact rfl):
  aN P ops Q (ET.cons (c,gd,⟨none,op,ty,pos,after,g⟩) es) hist a C:=xG hk hw fun H hs=>oU (fun _ _ ⟨C',h1,h2⟩=>⟨C',h1,(cI _ _ _).2 h2⟩) (h H hs)
theorem bV {B off n:Nat} {cs cs' vs:List Value} {e:TypeId} {u:Value} {R:List HP} (h:aN P ops Q es (C::hist) a (pt B cs' e::R)) (hx:bK a x=.pointer (some ⟨B,off,none⟩):=by exact rfl)
  (hp:aV (pt B cs e) C R:=by((repeat (first|exact aV.here|apply aV.there)) <;> exact aV.here)) (hy:iP (bK a y)=some u:=by exact rfl) (hvs:nE u.cells.toList=some vs:=by exact rfl) (ht:o8 P t=some n:=by exact rfl)
  (hn:(vs.length == n)=true:=by exact rfl) (mZ:(vs.all Value.oneCell')=true:=by exact rfl) (hle:Nat.ble (off+n) cs.length=true:=by exact rfl) (hs:nE (uO cs off vs)=some cs':=by exact rfl)
  (hw:bF ops ⟨none,.store t x y,ty,pos,after,g⟩ a=true:=by exact rfl):aN P ops Q (ET.cons (c,gd,⟨none,.store t x y,ty,pos,after,g⟩) es) hist a C:=
 YE (hw:=hw) fun H hH=>by
  have h1:=hp.sats hH
  exact Sc hx hy hvs ht hn mZ (nS h1).1 hle hs ⟨_,rS h1,h⟩
theorem eY {zs zs':List Value} (h:∀r,cJ gd (.pointer (some ⟨r,0,none⟩)) fun v=>aN P ops Q es (C::hist) (kP a d' v) (pt r zs' t::C)) (hz:zW P t=some zs:=by exact rfl) (hc:nE zs=some zs':=by exact rfl)
  (hw:bF ops ⟨some d',.alloc t,ty,pos,after,g⟩ a=true:=by exact rfl):aN P ops Q (ET.cons (c,gd,⟨some d',.alloc t,ty,pos,after,g⟩) es) hist a C:=
 xG rfl hw fun H hH=>R3 hz hc fun r hr=>⟨_,sB hr hH,h r⟩
theorem fJ {u:Value} {vs:List Value} (h:∀r,cJ gd (.pointer (some ⟨r,0,none⟩)) fun v=>aN P ops Q es (C::hist) (kP a d' v) (pt r vs t::C)) (hx:iP (bK a x)=some u:=by exact rfl) (hvs:nE u.cells.toList=some vs:=by exact rfl)
  (hw:bF ops ⟨some d',.box t x,ty,pos,after,g⟩ a=true:=by exact rfl):aN P ops Q (ET.cons (c,gd,⟨some d',.box t x,ty,pos,after,g⟩) es) hist a C:=
 xG rfl hw fun H hH=>Aa2 hx hvs fun r hr=>⟨_,sB hr hH,h r⟩
theorem dP {ps:Array (Nat×Operand)} {n:Nat} {vs:List (Nat×Value)} {cs:List Value} {e:TypeId} (h:∀r,cJ gd (.slice (some ⟨r,0,none⟩) n n) fun v=>aN P ops Q es (C::hist) (kP a d' v) (pt r cs e::C))
  (hps:B6 a ps.toList=some vs:=by exact rfl) (he:D3 P t=some e:=by exact rfl) (hc:LB P t n vs=some cs:=by exact rfl)
  (hw:bF ops ⟨some d',.buildSlice t n ps,ty,pos,after,g⟩ a=true:=by exact rfl):aN P ops Q (ET.cons (c,gd,⟨some d',.buildSlice t n ps,ty,pos,after,g⟩) es) hist a C:=
 xG rfl hw fun H hH=>Jq hps he hc fun r hr=>⟨_,sB hr hH,h r⟩
theorem bN {f:FuncId} {Amc:Array Operand} {ts:Array TypeId} {vs:List Value} (h:aA P f vs.toArray C fun v C'=>cJ gd v fun v=>aN P ops Q es (C::hist) (kP a d' v) C') (hargs:uL a Amc.toList=some vs:=by exact rfl)
  (hw:bF ops ⟨some d',.call { callee:=.value (.func f),args:=Amc,argTypes:=ts },ty,pos,after,g⟩ a=true:=by exact rfl):
  aN P ops Q (ET.cons (c,gd,⟨some d',.call { callee:=.value (.func f),args:=Amc,argTypes:=ts },ty,pos,after,g⟩) es) hist a C:=
 xG rfl hw fun H hH=>Adn hargs (h H hH)
theorem iJ {f:FuncId} {fs cs:Array Value} {Amc:Array Operand} {ts:Array TypeId} {vs ws:List Value} (h:aA P f ws.toArray C fun v C'=>cJ gd v fun v=>aN P ops Q es (C::hist) (kP a d' v) C') (hx:bK a x=.func (.func f) fs cs:=by exact rfl) (hargs:uL a Amc.toList=some vs:=by exact rfl)
  (hws:nE (fs.toList++vs++cs.toList)=some ws:=by exact rfl) (hw:bF ops ⟨some d',.call { callee:=.value x,args:=Amc,argTypes:=ts },ty,pos,after,g⟩ a=true:=by exact rfl):
  aN P ops Q (ET.cons (c,gd,⟨some d',.call { callee:=.value x,args:=Amc,argTypes:=ts },ty,pos,after,g⟩) es) hist a C:=
 xG rfl hw fun H hH=>Oe hx hargs (by have e:=lE hws;have e2:(fs++vs.toArray++cs)=ws.toArray:=by apply Array.ext';simp[← e]
                                     rw[e2];exact h H hH)
end
end Go.Sl
namespace Go.Sl
theorem IC {P:Program} {H:Hp} {st xt ty e:TypeId} {inf:TypeInfo} {z x:Value} {A:Option Addr} {n m c:Nat} {xs news:List Value} {q:Value→Hp→Prop} (hst:P.underlying st=some (.slice e)) (hxt:Bi P xt=true) (hi:P.info? e=some inf) (hz:inf.zero=some z)
  (hzs:z.cells.size=inf.size) (hlen:(Builtin.lenOf x).pr P=some m) (hnews:(Builtin.firstCells inf.size m x).rd P H=some news.toArray) (hnl:news.length=m * inf.size) (mZ:(news.all Value.oneCell')=true) (hxl:xs.length=n * inf.size)
  (hrow:(A=none∧n=0∧c=0)∨∃B pre post e' rw,A=some ⟨B,pre.length,none⟩∧H B=some (.cells (pre++xs++post) e' rw)∧n≤c∧(c - n) * inf.size≤post.length∧(m=0∨rw=true∨c<n+m))
  (hbig:(2 * (n+m)+512) * inf.bytes≤281474976710656) (hby:inf.bytes≠0)
  (h0:m=0→q (.slice A n c) H)
  (h1:∀B pre post e',A=some ⟨B,pre.length,none⟩→H B=some (.cells (pre++xs++post) e' true)→n+m≤c→(c - n) * inf.size≤post.length→q (.slice A (n+m) c) (hupd H B (.cells (pre++(xs++news)++post.drop news.length) e' true)))
  (hk:∀r post N,H r=none→n+m≤N→post.length=(N - (n+m)) * inf.size→c<n+m→q (.slice (some ⟨r,0,none⟩) (n+m) N) (hupd H r (.cells (xs++news++post) e true))):
  (Builtin.append_ #[st,xt] ty #[.slice A n c,x]).ev P H q:=by
 obtain⟨D,hD,hDn⟩:=Eg hxt
 unfold Builtin.append_
 simp only[List.getElem?_toArray,List.getElem?_cons_zero,List.getElem?_cons_succ]
 rw[aJ,aP (aK hst)]
 simp only
 rw[aJ,aP (fK hi)]
 rw[aJ,aP (aK hD),pure_bind]
 simp only[Bool.false_eq_true,if_false,Bool.not_false,if_true,false_or]
 rw[aJ,aP hlen]
 by_cases hle:n+m≤c
 ·rw[if_pos hle,aJ]
  refine rT hnews ?_
  rcases hrow with⟨g1,g2,g3⟩|⟨B,pre,post,e',rw,g1,hb,hnc,hpl,hrw⟩
  ·subst g1 g2 g3
   have hm0:m=0:=by omega
   subst hm0
   exact h0 rfl
  ·subst g1
   simp only
   rw[aJ,nW]
   by_cases hm0:m=0
   ·subst hm0
    have:news= []:=by simpa using hnl
    subst this
    exact h0 rfl
   ·have hrt:rw=true:=by
     rcases hrw with h|h|h
     ·exact absurd h hm0
     ·exact h
     ·omega
    subst hrt
    have hml:m * inf.size≤post.length:=Nat.le_trans (Nat.mul_le_mul_right _ (by omega)) hpl
    refine nJ news 0 _ _ H _ hb (by simp[hxl,hnl];omega) mZ ?_
    have hset:mW (pre++xs++post) (pre.length+n * inf.size+0) news=pre++(xs++news)++post.drop news.length:=by
     have:=EM news (pre++xs) post (by rw[hnl];exact hml)
     rw[List.length_append,hxl] at this
     rw[Nat.add_zero,this]
     simp
    rw[hset]
    exact h1 B pre post e' rfl hb hle hpl
 ·rw[if_neg hle]
  have hmax:IntKind.i64.max=9223372036854775807:=by decide
  have hpos:0<inf.bytes:=Nat.pos_of_ne_zero hby
  have hcap:c<n+m:=by omega
  have hnc:=HU hcap
  have hle2:Builtin.nextslicecap (n+m) c * inf.bytes≤281474976710656:=Nat.le_trans (Nat.mul_le_mul_right _ hnc) hbig
  rw[aJ,aP (d5 hi),if_neg (by simp[hby])]
  rw[aJ,aP (d5 hi)]
  rw[if_neg (by have:(2:Nat) ^ 48=281474976710656:=by decide
                omega)]
  simp only[aJ]
  simp only[choose,Sem.ev]
  rw[if_neg (by simp[Question.forced])]
  intro t
  simp only[Question.cut]
  generalize hN:n+m+t % (2 ^ 63 - (n+m))=N
  have hNle:n+m≤N:=by omega
  rw[aP (d5 hi)]
  refine Cy ?_
  have hold:(Builtin.firstCells inf.size n (.slice A n c)).rd P H=some xs.toArray:=by
   rcases hrow with⟨g1,g2,g3⟩|⟨B,pre,post,e',rw,g1,hb,hnc,hpl,hrw⟩
   ·subst g1 g2 g3
    have:xs= []:=by simpa using hxl
    subst this
    rfl
   ·subst g1
    rw[nI hb (by simp[hxl])]
    congr 1
    have:(pre++xs++post).drop pre.length=xs++post:=by simp
    rw[this,← hxl]
    simp
  refine rT hold ?_
  refine rT hnews ?_
  rw[aP (show(zeroValue e).pr P=some z from by simp only[zeroValue,aT,d5 hi,Option.bind_some,hz];rfl)]
  simp only[newRow,aJ]
  intro r hr
  refine⟨rfl,?_⟩
  have hcells:(xs.toArray++news.toArray++Builtin.zeroCells z.cells (N - (n+m))).toList=xs++news++(Builtin.zeroCells z.cells (N - (n+m))).toList:=by simp
  have:=hk r (Builtin.zeroCells z.cells (N - (n+m))).toList N hr hNle (by simp[Builtin.zeroCells,hzs]) hcap
  rw[← hcells] at this
  exact this
theorem KD {P:Program} {st xt e:TypeId} {sz b:Nat} (h:NP P st xt=some (e,sz,b)):∃inf z,P.underlying st=some (.slice e)∧Bi P xt=true∧P.info? e=some inf∧inf.zero=some z∧z.cells.size=inf.size∧inf.bytes≠0∧inf.size=sz∧inf.bytes=b:=by
 have ht:=Wv h
 unfold O1 at ht
 split at ht
 ·rename_i e' hst
  split at ht
  ·rename_i inf hi
   split at ht
   ·rename_i z hz
    split at ht
    ·rename_i hc
     cases ht
     exact⟨inf,z,hst,hc.2.2,hi,hz,hc.1,hc.2.1,rfl,rfl⟩
    ·cases ht
   ·cases ht
  ·cases ht
 ·cases ht
structure t6 (α:Type) where
 enc:α→List Value
 sz:Nat
 dec:List Value→Option α
 len:∀x,(enc x).length=sz
 one:∀x,((enc x).all Value.oneCell')=true
 ok:∀cs y,dec cs=some y→enc y=cs
section
variable {α:Type}
theorem t6.flat_len (E:t6 α):∀l:List α,(l.flatMap E.enc).length=l.length * E.sz
 | []=>by simp
 |x::l=>by rw[List.flatMap_cons,List.length_append,E.len x,E.flat_len l,List.length_cons,Nat.add_mul,Nat.one_mul,Nat.add_comm]
theorem t6.flat_one (E:t6 α) (l:List α):((l.flatMap E.enc).all Value.oneCell')=true:=by
 rw[List.all_flatMap]
 exact List.all_eq_true.2 fun x _=>E.one x
def bT (A:Option Addr) (c:Nat) (e:TypeId) (E:t6 α) (xs:List α):HP:=fun H=>
 (A=none∧xs= []∧c=0)∨∃B pre post,A=some ⟨B,pre.length,none⟩∧H B=some (.cells (pre++xs.flatMap E.enc++post) e true)∧xs.length≤c∧(c - xs.length) * E.sz≤post.length
def nY (A:Option Addr) (E:t6 α) (xs:List α):HP:=fun H=>
 xs= []∨∃B pre post e rw,A=some ⟨B,pre.length,none⟩∧H B=some (.cells (pre++xs.flatMap E.enc++post) e rw)
def cZ (C:List HP) (A:Option Addr) (E:t6 α) (xs:List α):Prop:=∀H,bY C H→
 xs= []∨∃B pre post e rw,A=some ⟨B,pre.length,none⟩∧H B=some (.cells (pre++xs.flatMap E.enc++post) e rw)
theorem Ale (cs:List Value) (e:TypeId) (rw:Bool):(sZ.cells cs e false).le (.cells cs e rw):=by
 cases rw
 ·exact .inl rfl
 ·exact .inr ⟨cs,e,rfl,rfl⟩
def uU (A:HP):Prop:=∀H H',A H→Bo H H'→A H'
theorem Nt {H H':Hp} {B:Nat} {cs:List Value} {e:TypeId} {rw:Bool} (h:H B=some (.cells cs e rw)) (hl:Bo H H'):∃rw',H' B=some (.cells cs e rw'):=by
 obtain⟨b,hb,l⟩:=hl B _ h
 rcases l with rfl|⟨cs',e',g1,rfl⟩
 ·exact⟨rw,hb⟩
 ·cases g1;exact⟨true,hb⟩
theorem EF (A:Option Addr) (E:t6 α) (xs:List α):uU (nY A E xs):=fun H H' h hl=>by
 rcases h with h|⟨B,pre,post,e,rw,h1,h2⟩
 ·exact .inl h
 ·obtain⟨rw',h3⟩:=Nt h2 hl
  exact .inr ⟨B,pre,post,e,rw',h1,h3⟩
theorem mL (A:Option Addr) (E:t6 α) (xs:List α):Ed (nY A E xs):=fun H h2=>by
 rcases h2 with h3|⟨B,pre,post,e,rw,h2,h3⟩
 ·exact⟨fun _=>none,(fun _ _ h=>by cases h),.inl h3,(fun _ _ h=>by cases h)⟩
 ·exact⟨mZ B (.cells (pre++xs.flatMap E.enc++post) e false),Dy h3 (Ale _ _ _),.inr ⟨B,pre,post,e,false,h2,xP _ _⟩,fun r b hb=>by rw[(D9 hb).2];rfl⟩
def Ag7 (A B:HP):HP:=fun H=>A H∧B H
theorem Yh {A B:HP} {C:List HP} {H:Hp} (pa:Ed A) (pb:Ed B) (ma:uU A) (mb:uU B) (h:bY (A::B::C) H):bY (Ag7 A B::C) H:=by
 obtain⟨H1,H2,hc,h1,h2,ha,G1,G2,kc,k1,k2,kb,ks⟩:=h
 obtain⟨X,x1,x2,x3⟩:=pa H1 ha
 obtain⟨Y,y1,y2,y3⟩:=pb G1 kb
 have hxy:tM X Y:=fun r b c hb hc=>⟨x3 r b hb,y3 r c hc⟩
 have hx:Bo X H:=x1.trans h1
 have hy:Bo Y H:=y1.trans (k1.trans h2)
 refine⟨s7 X Y,G2,tM.join (hc.le x1 |>.le2 k2) (kc.le y1),xF hx hy,k2.trans h2,⟨ma _ _ x2 (qY _ _),mb _ _ y2 (o5 hxy hx hy)⟩,ks⟩
variable {C R:List HP} {A:Option Addr} {c:Nat} {e:TypeId} {E:t6 α} {xs:List α}
theorem d9:cZ (bT A c e E xs::C) A E xs:=fun H ⟨H1,H2,_,k1,_,h2,_⟩=>by
 rcases h2 with⟨h2,h3,_⟩|⟨B,pre,post,h2,h3,_⟩
 ·exact .inl h3
 ·obtain⟨b,hb,l⟩:=k1 B _ h3
  have:=sZ.le_own l rfl
  subst this
  exact .inr ⟨B,pre,post,e,true,h2,hb⟩
theorem iH:cZ (nY A E xs::C) A E xs:=fun H ⟨H1,H2,_,k1,_,h2,_⟩=>by
 rcases h2 with h3|⟨B,pre,post,e,rw,h2,h3⟩
 ·exact .inl h3
 ·obtain⟨rw',hb⟩:=Nt h3 k1
  exact .inr ⟨B,pre,post,e,rw',h2,hb⟩
theorem bB {X:HP} (h:cZ C A E xs):cZ (X::C) A E xs:=fun H hs=>h H hs.tail
theorem eH:cZ C A E ([]:List α):=fun _ _=>.inl rfl
theorem C9 {C':List HP} (he:aG C C') (h:cZ C' A E xs):cZ C A E xs:=fun H hs=>h H (he H hs)
theorem D5 {B off lo:Nat} {A':Option Addr} (h:cZ C (some ⟨B,off,none⟩) E xs) (k:Nat) (hlo:lo≤xs.length) (hA:A'=some ⟨B,off+lo * E.sz,none⟩):cZ C A' E ((xs.drop lo).take k):=fun H hs=>by
 rcases h H hs with h2|⟨B',pre,post,e,rw,h2,h3⟩
 ·subst h2;exact .inl (by simp)
 ·cases h2
  refine .inr ⟨B,pre++(xs.take lo).flatMap E.enc,((xs.drop lo).drop k).flatMap E.enc++post,e,rw,?_,?_⟩
  ·rw[hA,List.length_append,E.flat_len,List.length_take,Nat.min_eq_left hlo]
  ·rw[h3]
   have e1:xs=xs.take lo++((xs.drop lo).take k++(xs.drop lo).drop k):=by rw[List.take_append_drop,List.take_append_drop]
   have e2:xs.flatMap E.enc=(xs.take lo).flatMap E.enc++(((xs.drop lo).take k).flatMap E.enc++((xs.drop lo).drop k).flatMap E.enc):=by
    rw[← List.flatMap_append,← List.flatMap_append,← e1]
   rw[e2]
   simp only[List.append_assoc]
def Agt (E:t6 α):Nat→List Value→Option (List α)
 |_,[]=>some []
 |0,_::_=>none
 |n+1,v::cs=>match E.dec ((v::cs).take E.sz) with
  |some x=>match Agt E n ((v::cs).drop E.sz) with
   |some xs=>some (x::xs)
   |none=>none
  |none=>none
theorem JO (E:t6 α):∀(n:Nat) (cs:List Value) (xs:List α),Agt E n cs=some xs→xs.flatMap E.enc=cs
 |0,[],xs,h=>by cases h;rfl
 |n+1,[],xs,h=>by cases h;rfl
 |0,_::_,xs,h=>by cases h
 |n+1,v::cs,xs,h=>by
  simp only[Agt] at h
  split at h
  ·rename_i x hx
   split at h
   ·rename_i ys hy
    cases h
    have h1:=JO E n _ _ hy
    have h3:=E.ok _ _ hx
    rw[List.flatMap_cons,h1,h3,List.take_append_drop]
   ·cases h
  ·cases h
theorem rD {B:Nat} {cs:List Value} (hd:Agt E cs.length cs=some xs:=by exact rfl):cZ (pt B cs e::C) (some ⟨B,0,none⟩) E xs:=fun H ⟨H1,H2,_,k1,_,h3,_⟩=>by
 obtain⟨b,hb,l⟩:=k1 B _ h3
 have:=sZ.le_own l rfl
 subst this
 exact .inr ⟨B,[],[],e,true,rfl,by rw[JO E _ cs xs hd,List.nil_append,List.append_nil];exact hb⟩
theorem Vw {B off j:Nat} {x:α} {H:Hp} (h:cZ C (some ⟨B,off,none⟩) E xs) (hs:bY C H) (hx:xs[j]?=some x):∃cs e rw,H B=some (.cells cs e rw)∧off+j * E.sz+E.sz≤cs.length∧(cs.drop (off+j * E.sz)).take E.sz=E.enc x:=by
 rcases h H hs with h2|⟨B',pre,post,e,rw,h2,h3⟩
 ·subst h2;simp at hx
 ·cases h2
  have hj:j<xs.length:=by
   rcases Nat.lt_or_ge j xs.length with h|h
   ·exact h
   ·rw[List.getElem?_eq_none h] at hx;cases hx
  have hx':xs[j]=x:=by rw[List.getElem?_eq_getElem hj] at hx;exact Option.some.inj hx
  have e1:xs=xs.take j++x::xs.drop (j+1):=by
   conv=>lhs;rw[← List.take_append_drop j xs,List.drop_eq_getElem_cons hj,hx']
  have e2:xs.flatMap E.enc=(xs.take j).flatMap E.enc++(E.enc x++(xs.drop (j+1)).flatMap E.enc):=by
   conv=>lhs;rw[e1]
   simp
  have l1:((xs.take j).flatMap E.enc).length=j * E.sz:=by rw[E.flat_len,List.length_take,Nat.min_eq_left (by omega)]
  refine⟨_,e,rw,h3,?_,?_⟩
  ·simp only[List.length_append,E.flat_len]
   have:=Nat.mul_le_mul_right E.sz hj
   rw[Nat.succ_mul] at this
   omega
  ·rw[e2]
   have:pre++((xs.take j).flatMap E.enc++(E.enc x++(xs.drop (j+1)).flatMap E.enc))++post=(pre++(xs.take j).flatMap E.enc)++(E.enc x++((xs.drop (j+1)).flatMap E.enc++post)):=by simp[List.append_assoc]
   rw[this,List.drop_left' (by rw[List.length_append,l1]),List.take_left' (E.len x)]
end
theorem Aiu {P:Program} {t:TypeId} {cs ys:List Value} {o k:Nat} {v:Value} (hy:(cs.drop o).take ys.length=ys) (hl:o+ys.length≤cs.length) (h:Nl P t ys k=some v):Nl P t cs (o+k)=some v:=by
 unfold Nl at h ⊢
 split at h
 ·split at h
  ·rename_i i _
   split at h
   ·rename_i hle
    rw[if_pos (by omega)]
    have:(cs.drop (o+k)).take i.size=(ys.drop k).take i.size:=by
     rw[← hy,List.drop_take,List.drop_drop,List.take_take,Nat.min_eq_left (by omega)]
    rw[this];exact h
   ·cases h
  ·cases h
 ·have hk:k<ys.length:=by
   rcases Nat.lt_or_ge k ys.length with h'|h'
   ·exact h'
   ·rw[List.getElem?_eq_none h'] at h;cases h
  have e1:ys[k]?=cs[o+k]?:=by
   conv=>lhs;rw[← hy]
   rw[List.getElem?_take_of_lt hk,List.getElem?_drop]
  rw[← e1];exact h
 ·cases h
section
variable {P:Program} {ops:Array Oper} {Q:Fr→List HP→Prop} {a:Fr} {C:List HP} {c:Nat} {gd:Bool} {es:ET} {hist:List (List HP)} {d':Tmp} {d:Option Tmp} {v:Value}
variable {ty:TypeId} {pos:String} {after:Array Edge} {g:Option (Nat×Bool)} {t yt:TypeId} {x y z:Operand} {op:Op} {α:Type} {E:t6 α} {xs:List α}
theorem ZE {A:Option Addr} {j:Nat} (hv:cZ C A E xs) (hj:j<xs.length) (h:∀B off,A=some ⟨B,off,none⟩→aN P ops Q es hist a C):aN P ops Q es hist a C:=fun Hs H h1 h2=>by
 rcases hv H h2 with h3|⟨B,pre,post,e,rw,h3,_⟩
 ·subst h3;simp at hj
 ·exact h B pre.length h3 Hs H h1 h2
theorem wS {A:Option Addr} {n cp sz:Nat} {k:IntKind} {j:Int} (h:∀B off,A=some ⟨B,off,none⟩→cJ gd (.pointer (some ⟨B,off+j.toNat * sz,none⟩)) fun v=>aN P ops Q es hist (kP a d' v) C)
  (hx:bK a x=.slice A n cp:=by exact rfl) (hy:bK a y=.int k j:=by exact rfl) (ht:sY P t=some sz:=by exact rfl) (hv:cZ C A E xs:=by((repeat (first|exact d9|exact iH|exact rD|assumption|apply bB)) <;> exact d9))
  (hn:xs.length=n:=by first|exact rfl|assumption|omega) (h0:0≤j:=by first|omega|assumption) (h1:j<n:=by first|omega|assumption) (hw:bF ops ⟨some d',.indexAddr t x y,ty,pos,after,g⟩ a=true:=by exact rfl):
  aN P ops Q (ET.cons (c,gd,⟨some d',.indexAddr t x y,ty,pos,after,g⟩) es) hist a C:=
 ZE (j:=j.toNat) hv (by omega) fun B off hA=>by
  subst hA
  exact gI rfl hw (Hq ht hx hy h0 h1) (h B off rfl)
theorem AR {B off j k sz:Nat} {y:α} (hv:cZ C (some ⟨B,off,none⟩) E xs) (hsz:E.sz=sz) (hj:xs[j]?=some y) (hx:bK a x=.pointer (some ⟨B,off+j * sz+k,none⟩)) (hl:Nl P t (E.enc y) k=some v):RdC P ⟨d,.load t x,ty,pos,after,g⟩ a C v:=fun H hs=>by
 obtain⟨cs,e,rw,h1,h2,h3⟩:=Vw hv hs hj
 subst hsz
 exact Tm (by rw[hx];exact Ll h1 (Aiu (by rw[E.len];exact h3) (by rw[E.len];exact h2) hl))
def Adq (P:Program) (t:TypeId) (B off sz j k:Nat) (v:Value) (C:List HP):Prop:=∃(α:Type) (E:t6 α) (xs:List α) (y:α),cZ C (some ⟨B,off,none⟩) E xs∧E.sz=sz∧xs[j]?=some y∧Nl P t (E.enc y) k=some v
theorem Yb {B off sz j k:Nat} {y:α} (hv:cZ C (some ⟨B,off,none⟩) E xs:=by((repeat (first|exact d9|exact iH|exact rD|assumption|apply bB)) <;> exact d9)) (hs:E.sz=sz:=by exact rfl) (hj:xs[j]?=some y:=by first|assumption|exact rfl) (hl:Nl P t (E.enc y) k=some v:=by exact rfl):Adq P t B off sz j k v C:=⟨α,E,xs,y,hv,hs,hj,hl⟩
theorem aZ {B off sz j k:Nat} {u:α} (h:cJ gd v fun v=>aN P ops Q es hist (kP a d' v) C) (hx:bK a x=.pointer (some ⟨B,off+j * sz+k,none⟩):=by exact rfl)
  (hv:cZ C (some ⟨B,off,none⟩) E xs:=by((repeat (first|exact d9|exact iH|exact rD|assumption|apply bB)) <;> exact d9)) (hs:E.sz=sz:=by exact rfl) (hj:xs[j]?=some u:=by first|assumption|exact rfl) (hl:Nl P t (E.enc u) k=some v:=by exact rfl)
  (hh:yW (Adq P t B off sz j k v) (hist.take c):=by((repeat (first|exact Ap|refine Gv Yb ?_)) <;> exact Ap))
  (hw:bF ops ⟨some d',.load t x,ty,pos,after,g⟩ a=true:=by exact rfl):aN P ops Q (ET.cons (c,gd,⟨some d',.load t x,ty,pos,after,g⟩) es) hist a C:=
 Qk rfl hw (AR hv hs hj hx hl) (H6 (fun _ ⟨_,_,_,_,k1,k4,k2,k3⟩=>AR k1 k4 k2 hx k3) hh) h
theorem aR {B off sz j k k':Nat} {u:α} (h:cJ gd v fun v=>aN P ops Q es hist (kP a d' v) C) (hx:bK a x=.pointer (some ⟨B,off+j * sz+k+k',none⟩):=by exact rfl)
  (hv:cZ C (some ⟨B,off,none⟩) E xs:=by((repeat (first|exact d9|exact iH|exact rD|assumption|apply bB)) <;> exact d9)) (hs:E.sz=sz:=by exact rfl) (hj:xs[j]?=some u:=by first|assumption|exact rfl) (hl:Nl P t (E.enc u) (k+k')=some v:=by exact rfl)
  (hh:yW (Adq P t B off sz j (k+k') v) (hist.take c):=by((repeat (first|exact Ap|refine Gv Yb ?_)) <;> exact Ap))
  (hw:bF ops ⟨some d',.load t x,ty,pos,after,g⟩ a=true:=by exact rfl):aN P ops Q (ET.cons (c,gd,⟨some d',.load t x,ty,pos,after,g⟩) es) hist a C:=
 Qk rfl hw (AR (k:=k+k') hv hs hj (by rw[hx,Nat.add_assoc (off+j * sz)]) hl) (H6 (fun _ ⟨_,_,_,_,k1,k4,k2,k3⟩=>AR (k:=k+k') k1 k4 k2 (by rw[hx,Nat.add_assoc (off+j * sz)]) k3) hh) h
theorem aO {B off sz j:Nat} {u:α} (h:cJ gd v fun v=>aN P ops Q es hist (kP a d' v) C) (hx:bK a x=.pointer (some ⟨B,off+j * sz,none⟩):=by exact rfl)
  (hv:cZ C (some ⟨B,off,none⟩) E xs:=by((repeat (first|exact d9|exact iH|exact rD|assumption|apply bB)) <;> exact d9)) (hs:E.sz=sz:=by exact rfl) (hj:xs[j]?=some u:=by first|assumption|exact rfl) (hl:Nl P t (E.enc u) 0=some v:=by exact rfl)
  (hh:yW (Adq P t B off sz j 0 v) (hist.take c):=by((repeat (first|exact Ap|refine Gv Yb ?_)) <;> exact Ap))
  (hw:bF ops ⟨some d',.load t x,ty,pos,after,g⟩ a=true:=by exact rfl):aN P ops Q (ET.cons (c,gd,⟨some d',.load t x,ty,pos,after,g⟩) es) hist a C:=
 Qk rfl hw (AR (k:=0) hv hs hj (by rw[hx,Nat.add_zero]) hl) (H6 (fun _ ⟨_,_,_,_,k1,k4,k2,k3⟩=>AR (k:=0) k1 k4 k2 (by rw[hx,Nat.add_zero]) k3) hh) h
def sJ (n:Int):UInt8:=UInt8.ofNat (n % 256).toNat
theorem Pp (n:Int):kX (sJ n)=.int .u8 (n % 256):=by
 unfold kX sJ
 congr 1
 rw[UInt8.toNat_ofNat']
 omega
def Src (P:Program) (C:List HP) (u:Value) (E:t6 α) (ys:List α):Prop:=(Builtin.lenOf u).pr P=some ys.length∧∀H,bY C H→(Builtin.firstCells E.sz ys.length u).rd P H=some (ys.flatMap E.enc).toArray
theorem WW {A:Option Addr} {cp sz:Nat} {H:Hp}:(Builtin.firstCells sz ([]:List α).length (.slice A ([]:List α).length cp)).rd P H=some (([]:List α).flatMap E.enc).toArray:=by
 cases A with
 |none=>rfl
 |some ad=>
  simp only[Builtin.firstCells,List.length_nil,Nat.zero_mul,loadCells,loadCellsFrom]
  rfl
theorem rQ {A:Option Addr} {m cp:Nat} {ys:List α} (hv:cZ C A E ys:=by first|assumption|(((repeat (first|exact d9|exact iH|exact rD|assumption|apply bB)) <;> exact d9))) (hm:ys.length=m:=by first|exact rfl|assumption|omega):Src P C (.slice A m cp) E ys:=by
 subst hm
 refine⟨rfl,fun H hs=>?_⟩
 rcases hv H hs with rfl|⟨B,pre,post,e,rw,rfl,h3⟩
 ·exact WW
 ·rw[nI h3 (by simp[E.flat_len])]
  congr 1
  have:(pre++ys.flatMap E.enc++post).drop pre.length=ys.flatMap E.enc++post:=by simp
  rw[this,← E.flat_len]
  simp
theorem yD {B cp:Nat} {cs:List Value} {y:α} (hb:XN C B cs:=by((repeat (first|exact s3|exact has_ro|apply uB)) <;> exact s3)) (hd:E.dec cs=some y:=by exact rfl):Src P C (.slice (some ⟨B,0,none⟩) 1 cp) E [y]:=by
 refine⟨rfl,fun H hs=>?_⟩
 obtain⟨e,rw,h⟩:=hb H hs
 have hc:=E.ok _ _ hd
 have hl:=E.len y
 rw[hc] at hl
 rw[nI h (by simp[hl])]
 simp[hc,← hl]
def d8:t6 UInt8:= { enc:=fun b=> [kX b],sz:=1,dec:=fun _=>none,len:=fun _=>rfl,one:=fun _=>rfl,ok:=fun _ _ h=>by cases h }
theorem oM (l:List UInt8):l.flatMap d8.enc=l.map kX:=by
 induction l with
 |nil=>rfl
 |cons b l ih=>rw[List.flatMap_cons,ih];rfl
theorem Gm {s:ByteArray}:Src P C (.string s) d8 s.data.toList:=by
 refine⟨by simp[Builtin.lenOf];rfl,fun H hs=>?_⟩
 simp only[Builtin.firstCells]
 have:s.extract 0 s.data.toList.length=s:=by
  apply ByteArray.ext
  simp
 rw[this]
 simp only[xU]
 congr 1
 apply Array.ext'
 rw[oM]
 simp[kX]
theorem DK {B cp:Nat} {n:Int} (hb:XN C B [.int .u8 (n % 256)]:=by((repeat (first|exact s3|exact has_ro|apply uB)) <;> exact s3)):Src P C (.slice (some ⟨B,0,none⟩) 1 cp) d8 [sJ n]:=by
 refine⟨rfl,fun H hs=>?_⟩
 obtain⟨e,rw,h⟩:=hb H hs
 rw[nI h (by simp[d8])]
 simp[d8,Pp]
theorem lB {A:Option Addr} {c:Nat} {e:TypeId} {R:List HP} {H:Hp} (hs:bY (bT A c e E xs::R) H):
  (A=none∧xs= []∧c=0∧bY R H)∨∃B pre post,A=some ⟨B,pre.length,none⟩∧bY (pt B (pre++xs.flatMap E.enc++post) e::R) H∧xs.length≤c∧(c - xs.length) * E.sz≤post.length:=by
 obtain⟨H1,H2,hc,k1,k2,h2,hs⟩:=hs
 rcases h2 with⟨h2,h3,h4⟩|⟨B,pre,post,h2,h3,h4,h5⟩
 ·exact .inl ⟨h2,h3,h4,hs.mono k2⟩
 ·exact .inr ⟨B,pre,post,h2,⟨H1,H2,hc,k1,k2,h3,hs⟩,h4,h5⟩
theorem iN {B c:Nat} {e:TypeId} {pre post:List Value} {R:List HP} {H:Hp} {A:Option Addr} (hA:A=some ⟨B,pre.length,none⟩) (hs:bY (pt B (pre++xs.flatMap E.enc++post) e::R) H) (h4:xs.length≤c)
  (h5:(c - xs.length) * E.sz≤post.length):bY (bT A c e E xs::R) H:=by
 obtain⟨H1,H2,hc,k1,k2,h3,hs⟩:=hs
 exact⟨H1,H2,hc,k1,k2,.inr ⟨B,pre,post,hA,h3,h4,h5⟩,hs⟩
theorem tL {e:TypeId} {R:List HP} {H:Hp} (hs:bY R H):bY (bT none 0 e E ([]:List α)::R) H:=
 ⟨fun _=>none,H,(fun _ _ _ h=>by cases h),(fun _ _ h=>by cases h),Bo.refl H,.inl ⟨rfl,rfl,rfl⟩,hs⟩
theorem aG.nilrow (e:TypeId) (E:t6 α) (C:List HP):aG C (bT none 0 e E ([]:List α)::C):=fun _ hs=>tL hs
theorem aG.nilrow' {e:TypeId} {C C':List HP} (h:aG C C'):aG C (bT none 0 e E ([]:List α)::C'):=fun H hs=>tL (h H hs)
theorem Cd {A:Option Addr} {c:Nat} {e:TypeId} {R C C':List HP} (hp:aV (bT A c e E xs) C R) (h:aG (nY A E xs::R) C'):aG C C':=fun H hs=>by
 refine h H ?_
 obtain⟨H1,H2,hc,h1,h2,ha,hs⟩:=hp.sats hs
 refine⟨H1,H2,hc,h1,h2,?_,hs⟩
 rcases ha with⟨g1,g2,_⟩|⟨B,pre,post,g1,g2,_⟩
 ·exact .inl g2
 ·exact .inr ⟨B,pre,post,e,true,g1,g2⟩
theorem zX.ent {o:Oper} {C':List HP} {k:Value→List HP→Prop} (he:aG C C') (h:zX P o a C' k):zX P o a C k:=fun H hs=>h H (he H hs)
theorem Ko {st xt e:TypeId} {sz bytes cp c0 n:Nat} {A:Option Addr} {ys:List α} {u:Value} {R:List HP} {k:Value→List HP→Prop} (ht:NP P st xt=some (e,sz,bytes)) (hsz:E.sz=sz) (hx:bK a x=.slice A n cp) (hn:xs.length=n) (hy:bK a y=u) (hsrc:Src P C u E ys)
  (hp:aV (bT A c0 e E xs) C R) (hcc:cp=c0∨(n≤cp∧cp≤c0)) (hbig:(2 * (n+ys.length)+512) * bytes≤281474976710656)
  (hk:∀A' c',k (.slice A' (xs++ys).length c') (bT A' c' e E (xs++ys)::R)):zX P ⟨d,.call { callee:=.builtin .append,args:=#[x,y],argTypes:=#[st,xt] },ty,pos,after,g⟩ a C k:=fun H hs=>by
 obtain⟨inf,zz,h1,h2,h3,h4,h5,h6,h7,rfl⟩:=KD ht
 subst hsz
 have hrs:=hp.sats hs
 have hr:=lB hrs
 have hcl:n≤cp∧cp≤c0:=by
  rcases hcc with rfl|h
  ·rcases hr with⟨g1,g2,g3,g4⟩|⟨B,pre,post,g1,g2,g3,g4⟩
   ·subst g2 g3;simp at hn;omega
   ·omega
  ·exact h
 obtain⟨hcp,hc0⟩:=hcl
 have hmn:(xs++ys).length=n+ys.length:=by rw[List.length_append,hn]
 refine fP ?_
 simp only[execOp,resolve,List.map_toArray,List.map_cons,List.map_nil,hx,hy]
 rw[aJ,aP (show(pure _:Sem Deferred).pr P=some _ from rfl)]
 simp only[invoke,builtin,aJ]
 obtain⟨hlen,hcells⟩:=hsrc
 rw[hmn] at hk
 refine IC (xs:=xs.flatMap E.enc) (news:=ys.flatMap E.enc) h1 h2 h3 h4 h5 hlen (by rw[h7];exact hcells H hs) (by rw[E.flat_len,h7]) (E.flat_one ys) (by rw[E.flat_len,hn,h7]) ?_ hbig h6 ?_ ?_ ?_
 ·rcases hr with⟨g1,g2,g3,g4⟩|⟨B,pre,post,g1,g2,g3,g4⟩
  ·subst g2;simp at hn;exact .inl ⟨g1,by omega,by omega⟩
  ·refine .inr ⟨B,pre,post,e,true,g1,(nS g2).1,hcp,?_,.inr (.inl rfl)⟩
   rw[h7]
   exact Nat.le_trans (Nat.mul_le_mul_right _ (by omega)) g4
 ·intro hm0
  have hys:ys= []:=by simpa using hm0
  have hk':=hk A cp
  subst hys
  rw[List.append_nil,List.length_nil,Nat.add_zero] at hk'
  refine⟨_,?_,hk'⟩
  rcases hr with⟨g1,g2,g3,g4⟩|⟨B,pre,post,g1,g2,g3,g4⟩
  ·subst g1 g2 g3
   have:cp=0:=by omega
   subst this
   exact tL g4
  ·exact iN g1 g2 (by omega) (Nat.le_trans (Nat.mul_le_mul_right _ (by omega)) g4)
 ·intro B pre post e' hA hB hle hpl
  rcases hr with⟨g1,_⟩|⟨B',pre',post',g1,g2,g3,g4⟩
  ·rw[g1] at hA;cases hA
  ·rw[g1] at hA
   have hBB:B'=B:=congrArg Addr.block (Option.some.inj hA)
   subst hBB
   have hpre:pre'.length=pre.length:=congrArg Addr.off (Option.some.inj hA)
   have hB':=(nS g2).1
   rw[hB'] at hB
   injection hB with hB
   injection hB with hcs he _
   subst he
   rw[List.append_assoc,List.append_assoc] at hcs
   obtain⟨q1,q2⟩:=List.append_inj hcs hpre
   obtain⟨_,q3⟩:=List.append_inj q2 rfl
   subst q1 q3
   refine⟨_,iN (pre:=pre') (post:=post'.drop (ys.flatMap E.enc).length) g1 ?_ (by rw[hmn];exact hle) ?_,hk A cp⟩
   ·rw[List.flatMap_append]
    exact rS g2
   ·rw[hmn,List.length_drop,E.flat_len,← Nat.sub_sub,Nat.sub_mul,← h7]
    omega
 ·intro r post N hr0 hN hpl _
  refine⟨_,iN (pre:= []) (post:=post) rfl ?_ (by rw[hmn];exact hN) (by rw[hmn,hpl,h7];exact Nat.le_refl _),hk _ N⟩
  rw[List.flatMap_append,List.nil_append]
  exact sB hr0 hrs.tail
theorem cY {st xt e:TypeId} {sz bytes cp c0 n:Nat} {A:Option Addr} {ys:List α} {u:Value} {R:List HP} (h:∀A' c',cJ gd (.slice A' (xs++ys).length c') fun v=>aN P ops Q es (C::hist) (kP a d' v) (bT A' c' e E (xs++ys)::R))
  (hx:bK a x=.slice A n cp:=by exact rfl) (hy:bK a y=u:=by exact rfl) (ht:NP P st xt=some (e,sz,bytes):=by exact rfl) (hp:aV (bT A c0 e E xs) C R:=by((repeat (first|exact aV.here|apply aV.there)) <;> exact aV.here)) (hsrc:Src P C u E ys:=by first|exact DK|exact yD|exact Gm|exact rQ) (hsz:E.sz=sz:=by exact rfl) (hn:xs.length=n:=by first|exact rfl|assumption|omega)
  (hcc:cp=c0∨(n≤cp∧cp≤c0):=by first|exact .inl rfl|exact .inr ⟨by omega,by omega⟩) (hbig:(2 * (n+ys.length)+512) * bytes≤281474976710656:=by first|omega|assumption|(simp only[List.length_cons,List.length_nil];omega))
  (hw:bF ops ⟨some d',.call { callee:=.builtin .append,args:=#[x,y],argTypes:=#[st,xt] },ty,pos,after,g⟩ a=true:=by exact rfl):aN P ops Q (ET.cons (c,gd,⟨some d',.call { callee:=.builtin .append,args:=#[x,y],argTypes:=#[st,xt] },ty,pos,after,g⟩) es) hist a C:=
 Yg (hw:=hw) (Ko ht hsz hx hn hy hsrc hp hcc hbig h)
theorem dJ {st xt e:TypeId} {sz bytes:Nat} {ys:List α} {u:Value} (h:∀A' c',cJ gd (.slice A' ys.length c') fun v=>aN P ops Q es (C::hist) (kP a d' v) (bT A' c' e E ys::C))
  (hx:bK a x=.slice none 0 0:=by exact rfl) (hy:bK a y=u:=by exact rfl) (ht:NP P st xt=some (e,sz,bytes):=by exact rfl) (hsrc:Src P C u E ys:=by first|exact DK|exact yD|exact Gm|exact rQ) (hsz:E.sz=sz:=by exact rfl)
  (hbig:(2 * (0+ys.length)+512) * bytes≤281474976710656:=by first|omega|assumption|(simp only[List.length_cons,List.length_nil];omega))
  (hw:bF ops ⟨some d',.call { callee:=.builtin .append,args:=#[x,y],argTypes:=#[st,xt] },ty,pos,after,g⟩ a=true:=by exact rfl):aN P ops Q (ET.cons (c,gd,⟨some d',.call { callee:=.builtin .append,args:=#[x,y],argTypes:=#[st,xt] },ty,pos,after,g⟩) es) hist a C:=
 Yg (hw:=hw) (zX.ent (aG.nilrow e E C) (Ko (xs:= []) ht hsz hx rfl hy ⟨hsrc.1,fun H hs=>hsrc.2 H hs.tail⟩ aV.here (.inl rfl) hbig h))
end
end Go.Sl
namespace Go.Sl
def Hc (A A':Option Addr) (l m sz:Nat):Prop:=A'=(if m=l then A else A.map (·.add (l * sz)))
section
variable {α:Type} {C:List HP} {A A':Option Addr} {E:t6 α} {xs:List α} {l m k sz:Nat}
theorem EG (h:cZ C A E xs) (hs:Hc A A' l m E.sz) (hl:l≤xs.length) (hm:xs.length≤m∨l+k≤m):cZ C A' E ((xs.drop l).take k):=by
 unfold Hc at hs
 cases A with
 |none=>
  have:A'=none:=by rw[hs];split <;> rfl
  subst this
  intro H hH
  rcases h H hH with h2|⟨B,pre,post,e,rw,h2,_⟩
  ·subst h2;exact .inl (by simp)
  ·cases h2
 |some ad=>
  obtain⟨B,off,sp⟩:=ad
  intro H hH
  have hk:=h H hH
  rcases hk with h1|⟨B',pre,post,e,rw,h1,h2⟩
  ·subst h1;exact .inl (by simp)
  ·have hsp:sp=none:=by injection h1 with h1;injection h1
   subst hsp
   by_cases hml:m=l
   ·rw[if_pos hml] at hs
    have hnil:(xs.drop l).take k= []:=by
     rcases hm with hm|hm
     ·rw[List.drop_eq_nil_of_le (by omega)];simp
     ·have:k=0:=by omega
      subst this;simp
    rw[hnil,hs]
    cases h1
    exact .inr ⟨_,pre,xs.flatMap E.enc++post,e,rw,rfl,by rw[h2];simp⟩
   ·rw[if_neg hml] at hs
    refine D5 h k hl ?_ H hH
    rw[hs]
    simp only[Option.map_some,nW]
theorem Y5 {H:Hp} (h:nY A E xs H) (hs:Hc A A' l m E.sz) (hl:l≤xs.length) (hm:xs.length≤m∨l+k≤m):nY A' E ((xs.drop l).take k) H:=by
 have hv:cZ [nY A E xs] A E xs:=iH
 have hs1:bY [nY A E xs] H:=⟨H,fun _=>none,(fun _ _ _ _ h=>by cases h),Bo.refl _,(fun _ _ h=>by cases h),h,trivial⟩
 exact EG hv hs hl hm H hs1
theorem Adj {c c':Nat} {e:TypeId} {H:Hp} (h:bT A c e E xs H) (hs:Hc A A' l m E.sz) (hlk:l+k≤xs.length) (hlm:l+k≤m) (hm:m≤c):bT A' (m - l) e E ((xs.drop l).take k) H:=by
 unfold Hc at hs
 rcases h with⟨rfl,rfl,rfl⟩|⟨B,pre,post,rfl,h2,h3,h4⟩
 ·have:A'=none:=by rw[hs];split <;> rfl
  exact .inl ⟨this,by simp,by omega⟩
 ·have hlen:((xs.drop l).take k).length=k:=by simp;omega
  by_cases hml:m=l
  ·rw[if_pos hml] at hs
   have hk0:k=0:=by omega
   subst hk0
   refine .inr ⟨B,pre,xs.flatMap E.enc++post,hs,by rw[h2];simp,by simp,?_⟩
   rw[hml];simp
  ·rw[if_neg hml] at hs
   simp only[Option.map_some,nW] at hs
   refine .inr ⟨B,pre++(xs.take l).flatMap E.enc,((xs.drop l).drop k).flatMap E.enc++post,?_,?_,?_,?_⟩
   ·rw[hs,List.length_append,E.flat_len,List.length_take,Nat.min_eq_left (by omega)]
   ·rw[h2]
    have e1:xs=xs.take l++((xs.drop l).take k++(xs.drop l).drop k):=by rw[List.take_append_drop,List.take_append_drop]
    have e2:xs.flatMap E.enc=(xs.take l).flatMap E.enc++(((xs.drop l).take k).flatMap E.enc++((xs.drop l).drop k).flatMap E.enc):=by
     rw[← List.flatMap_append,← List.flatMap_append,← e1]
    rw[e2]
    simp only[List.append_assoc]
   ·rw[hlen];omega
   ·rw[hlen,List.length_append,E.flat_len]
    simp only[List.length_drop]
    have h5:(m - l - k) * E.sz≤(xs.length - l - k) * E.sz+(c - xs.length) * E.sz:=by
     rw[← Nat.add_mul]
     exact Nat.mul_le_mul_right _ (by omega)
    omega
end
section
variable {P:Program} {a:Fr} {d:Option Tmp} {ty:TypeId} {pos:String} {after:Array Edge} {g:Option (Nat×Bool)} {t yt:TypeId} {x y z:Operand}
def wO (a:Fr) (dflt:Int):Option Operand→Option Int
 |none=>some dflt
 |some o=>match bK a o with
  |.int _ n=>some n
  |_=>none
theorem QM {a:Fr} {dflt n:Int} {o:Option Operand} (h:wO a dflt o=some n):(o=none∧n=dflt)∨∃o' k,o=some o'∧bK a o'=.int k n:=by
 unfold wO at h
 split at h
 ·exact .inl ⟨rfl,(Option.some.inj h).symm⟩
 ·rename_i o'
  split at h
  ·rename_i k n' he;cases h;exact .inr ⟨o',k,rfl,he⟩
  ·cases h
theorem Jb {k:IntKind} {j:Int} {n:Nat} {code:BoundsCode} (h0:0≤j) (h1:j≤n):(Instr.sliceBound (.int k j) n code).pr P=some j.toNat:=by
 simp only[Instr.sliceBound,aT]
 rw[show(asIntOf (.int k j)).pr P=some (k,j) from rfl,Option.bind_some]
 simp only
 rw[if_pos ⟨h0,h1⟩]
 rfl
theorem zT {β:Type} (z:β):(Sem.pure z).pr P=some z:=rfl
theorem Wr {n cp:Nat} {lo hi mx:Option Operand} {l h m:Int} (hl:wO a 0 lo=some l) (hh:wO a n hi=some h) (hm:wO a cp mx=some m)
  (hmx:mx.isSome=true→hi.isSome=true) (h0:0≤l) (h1:l≤h) (h2:h≤m) (h3:m≤cp):(Instr.sliceBounds true n cp (lo.map (bK a)) (hi.map (bK a)) (mx.map (bK a))).pr P=some (l.toNat,h.toNat,m.toNat):=by
 have b:∀(k:IntKind) (j:Int) (n:Nat) (code:BoundsCode),0≤j→j≤n→(Instr.sliceBound (.int k j) n code).pr P=some j.toNat:=fun _ _ _ _ h0 h1=>Jb h0 h1
 rcases QM hm with⟨rfl,rfl⟩|⟨om,km,rfl,em⟩ <;> rcases QM hh with⟨rfl,rfl⟩|⟨oh,kh,rfl,eh⟩ <;> rcases QM hl with⟨rfl,rfl⟩|⟨ol,kl,rfl,el⟩
 ·rfl
 ·simp only[Instr.sliceBounds,aT,zT,pure,Option.bind_some,Option.map_none,Option.map_some,el]
  rw[b _ _ _ _ (by omega) (by omega)];rfl
 ·simp only[Instr.sliceBounds,aT,zT,pure,Option.bind_some,Option.map_none,Option.map_some,eh]
  rw[b _ _ _ _ (by omega) (by omega)];rfl
 ·simp only[Instr.sliceBounds,aT,zT,pure,Option.bind_some,Option.map_none,Option.map_some,eh,el]
  rw[b _ _ _ _ (by omega) (by omega),Option.bind_some,b _ _ _ _ (by omega) (by omega)];rfl
 ·exact absurd (hmx rfl) (by simp)
 ·exact absurd (hmx rfl) (by simp)
 ·simp only[Instr.sliceBounds,aT,zT,pure,Option.bind_some,Option.map_none,Option.map_some,eh,em]
  rw[b _ _ _ _ (by omega) (by omega),Option.bind_some,b _ _ _ _ (by omega) (by omega)];rfl
 ·simp only[Instr.sliceBounds,aT,zT,pure,Option.bind_some,Option.map_none,Option.map_some,eh,em,el]
  rw[b _ _ _ _ (by omega) (by omega),Option.bind_some,b _ _ _ _ (by omega) (by omega),Option.bind_some,b _ _ _ _ (by omega) (by omega)];rfl
theorem DF {A:Option Addr} {n cp sz:Nat} {lo hi mx:Option Operand} {l h m:Int} (ht:sY P t=some sz) (hx:bK a x=.slice A n cp) (hl:wO a 0 lo=some l) (hh:wO a n hi=some h) (hm:wO a cp mx=some m)
  (hmx:mx.isSome=true→hi.isSome=true) (h0:0≤l) (h1:l≤h) (h2:h≤m) (h3:m≤cp):bX P ⟨d,.slice t x lo hi mx,ty,pos,after,g⟩ a=some (.slice (if m.toNat=l.toNat then A else A.map (·.add (l.toNat * sz))) (h.toNat - l.toNat) (m.toNat - l.toNat)):=by
 obtain⟨e,i,hu,hi',rfl⟩:=Fx ht
 refine cD ?_
 simp only[execOp,hx,Instr.sliceAt,aT]
 rw[aK hu,Option.bind_some]
 simp only[Instr.slice,aT]
 rw[aK hu,Option.bind_some]
 simp only[aT]
 rw[Wr hl hh hm hmx h0 h1 h2 h3,Option.bind_some]
 simp only[aT]
 rw[fK hi',Option.bind_some];rfl
end
section
variable {P:Program} {ops:Array Oper} {Q:Fr→List HP→Prop} {a:Fr} {C:List HP} {c:Nat} {gd:Bool} {es:ET} {hist:List (List HP)} {d':Tmp} {d:Option Tmp} {v:Value}
variable {ty:TypeId} {pos:String} {after:Array Edge} {g:Option (Nat×Bool)} {t yt:TypeId} {x y z:Operand} {op:Op} {α:Type} {E:t6 α} {xs:List α}
theorem Vr {p:Prop} (hp:∀H,bY C H→p) (h:p→aN P ops Q es hist a C):aN P ops Q es hist a C:=fun Hs H h1 h2=>h (hp H h2) Hs H h1 h2
theorem nH {A:Option Addr} {n cp sz:Nat} {lo hi mx:Option Operand} {l h m:Int} (hk:∀A',Hc A A' l.toNat m.toNat sz→cJ gd (.slice A' (h.toNat - l.toNat) (m.toNat - l.toNat)) fun v=>aN P ops Q es hist (kP a d' v) C)
  (hx:bK a x=.slice A n cp:=by exact rfl) (ht:sY P t=some sz:=by exact rfl) (hl:wO a 0 lo=some l:=by exact rfl) (hh:wO a n hi=some h:=by exact rfl) (hm:wO a cp mx=some m:=by exact rfl) (hmx:mx.isSome=true→hi.isSome=true:=by first|exact fun h=>h|exact fun _=>rfl)
  (h0:0≤l:=by first|omega|assumption) (h1:l≤h:=by first|omega|assumption) (h2:h≤m:=by first|omega|assumption) (h3:m≤cp:=by first|omega|assumption) (hw:bF ops ⟨some d',.slice t x lo hi mx,ty,pos,after,g⟩ a=true:=by exact rfl):
  aN P ops Q (ET.cons (c,gd,⟨some d',.slice t x lo hi mx,ty,pos,after,g⟩) es) hist a C:=
 gI rfl hw (DF ht hx hl hh hm hmx h0 h1 h2 h3) (hk _ rfl)
theorem kF {A:Option Addr} {n cp sz:Nat} {lo hi mx:Option Operand} {l h m:Int} (hk:∀A',cJ gd (.slice A' (h.toNat - l.toNat) (m.toNat - l.toNat)) fun v=>aN P ops Q es hist (kP a d' v) (nY A' E ((xs.drop l.toNat).take (h.toNat - l.toNat))::C))
  (hx:bK a x=.slice A n cp:=by exact rfl) {R:List HP} (hp:aV (nY A E xs) C R:=by((repeat (first|exact aV.here|apply aV.there)) <;> exact aV.here)) (ht:sY P t=some sz:=by exact rfl) (hsz:E.sz=sz:=by exact rfl) (hn:xs.length=n:=by first|exact rfl|assumption|omega) (hl:wO a 0 lo=some l:=by exact rfl) (hh:wO a n hi=some h:=by exact rfl) (hm:wO a cp mx=some m:=by exact rfl) (hmx:mx.isSome=true→hi.isSome=true:=by first|exact fun h=>h|exact fun _=>rfl)
  (h0:0≤l:=by first|omega|assumption) (h1:l≤h:=by first|omega|assumption) (h2:h≤n:=by first|omega|assumption) (h2:h≤m:=by first|omega|assumption) (h3:m≤cp:=by first|omega|assumption) (hw:bF ops ⟨some d',.slice t x lo hi mx,ty,pos,after,g⟩ a=true:=by exact rfl):
  aN P ops Q (ET.cons (c,gd,⟨some d',.slice t x lo hi mx,ty,pos,after,g⟩) es) hist a C:=by
 refine gI rfl hw (DF ht hx hl hh hm hmx h0 h1 h2 h3) ?_
 refine(cI _ _ _).2 (UM (fun H hs=>?_) ((cI _ _ _).1 (hk _)))
 subst hsz
 have hd:=((hp.sats hs).dup (mL _ _ _))
 have h5:=(aG.imp (fun H hr=>Y5 (l:=l.toNat) (m:=m.toNat) (A':=if m.toNat=l.toNat then A else A.map (·.add (l.toNat * E.sz))) (k:=h.toNat - l.toNat) hr rfl (by omega) (.inr (by omega))) (aG.refl _)) H hd
 exact(bY.perm (List.Perm.cons _ hp.perm.symm) h5)
theorem iO {A:Option Addr} {n cp c0 sz:Nat} {e:TypeId} {lo hi mx:Option Operand} {l h m:Int} {R:List HP} (hk:∀A',cJ gd (.slice A' (h.toNat - l.toNat) (m.toNat - l.toNat)) fun v=>aN P ops Q es hist (kP a d' v) (bT A' (m.toNat - l.toNat) e E ((xs.drop l.toNat).take (h.toNat - l.toNat))::R))
  (hx:bK a x=.slice A n cp:=by exact rfl) (hp:aV (bT A c0 e E xs) C R:=by((repeat (first|exact aV.here|apply aV.there)) <;> exact aV.here)) (ht:sY P t=some sz:=by exact rfl) (hsz:E.sz=sz:=by exact rfl) (hn:xs.length=n:=by first|exact rfl|assumption|omega) (hl:wO a 0 lo=some l:=by exact rfl) (hh:wO a n hi=some h:=by exact rfl) (hm:wO a cp mx=some m:=by exact rfl) (hmx:mx.isSome=true→hi.isSome=true:=by first|exact fun h=>h|exact fun _=>rfl)
  (h0:0≤l:=by first|omega|assumption) (h1:l≤h:=by first|omega|assumption) (h4:h≤n:=by first|omega|assumption) (h2:(m=cp∧cp=c0)∨(h≤m∧m≤cp∧cp≤c0):=by first|exact .inl ⟨rfl,rfl⟩|exact .inr ⟨by omega,by omega,by omega⟩) (hw:bF ops ⟨some d',.slice t x lo hi mx,ty,pos,after,g⟩ a=true:=by exact rfl):
  aN P ops Q (ET.cons (c,gd,⟨some d',.slice t x lo hi mx,ty,pos,after,g⟩) es) hist a C:=by
 refine Vr (p:=xs.length≤c0) (fun H hs=>?_) fun hfact=>?_
 ·rcases lB (hp.sats hs) with⟨_,g2,_⟩|⟨_,_,_,_,_,g,_⟩
  ·subst g2;simp
  ·exact g
 have h6:h≤m∧m≤cp∧cp≤c0:=by
  rcases h2 with⟨q1,q2⟩|q
  ·exact⟨by omega,by omega,by omega⟩
  ·exact q
 obtain⟨h2,h3,h5⟩:=h6
 refine gI rfl hw (DF ht hx hl hh hm hmx h0 h1 h2 h3) ?_
 refine(cI _ _ _).2 (UM (fun H hs=>?_) ((cI _ _ _).1 (hk _)))
 subst hsz
 exact(aG.imp (fun H hr=>Adj (c':=0) (l:=l.toNat) (m:=m.toNat) (A':=if m.toNat=l.toNat then A else A.map (·.add (l.toNat * E.sz))) (k:=h.toNat - l.toNat) hr rfl (by omega) (by omega) (by omega)) (aG.refl _)) H (hp.sats hs)
theorem LZ {A:Option Addr} {n cp:Nat} {bs:List UInt8} {H:Hp} (hv:cZ C A d8 bs) (hn:bs.length=n) (hs:bY C H):(Conv.bytesToString (.slice A n cp)).rd P H=some (.string ⟨bs.toArray⟩):=by
 rcases hv H hs with h2|⟨B,pre,post,e,rw,h1,hb⟩
 ·subst h2
  subst hn
  cases A <;> rfl
 ·subst h1
  rw[oM] at hb
  simp only[Conv.bytesToString]
  rw[fY]
  have hc:(loadCells ⟨B,pre.length,none⟩ n).rd P H=some (bs.map kX).toArray:=by
   unfold loadCells
   rw[xY hb pre.length n 0 #[] (by simp;omega)]
   simp only[List.append_assoc,List.drop_left',Nat.add_zero]
   rw[List.take_append_of_le_length (by simp;omega),List.take_of_length_le (by simp;omega)]
   simp
  rw[hc,Option.bind_some,fY]
  rw[← Array.forIn_toList]
  rw[show(bs.map kX).toArray.toList=bs.map kX from rfl,OA]
  ·simp
   rfl
  ·intro b s
   simp[kX]
   rfl
theorem f5 {t' e:TypeId} {A:Option Addr} {n cp:Nat} {bs:List UInt8} (h:cJ gd (.string ⟨bs.toArray⟩) fun v=>aN P ops Q es (C::hist) (kP a d' v) C) (hx:bK a x=.slice A n cp:=by exact rfl) (hs:ED P t=some e:=by exact rfl) (ht:m9 P t'=true:=by exact rfl)
  (hv:cZ C A d8 bs:=by first|assumption|(((repeat (first|exact d9|exact iH|exact rD|assumption|apply bB)) <;> exact d9))) (hn:bs.length=n:=by first|assumption|exact rfl) (hk:kd P (.convert t t' x)=.other:=by exact rfl) (hw:bF ops ⟨some d',.convert t t' x,ty,pos,after,g⟩ a=true:=by exact rfl):aN P ops Q (ET.cons (c,gd,⟨some d',.convert t t' x,ty,pos,after,g⟩) es) hist a C:=
 Yg (hk:=hk) (hw:=hw) fun H hH=>by
  obtain⟨h1,h2⟩:=FC hs
  refine fP ?_
  simp only[execOp,hx,convert,aJ]
  rw[aP (aK h1),aP (aK (mA ht))]
  simp only[aJ]
  rw[aP (aK h2)]
  exact rT (LZ hv hn hH) ⟨C,hH,h⟩
end
end Go.Sl
namespace Go.Sl
theorem dS {P:Program} {a:Fr} {C:List HP} {t:Tmp} {rs:List ResultVar} {v:Value} {vs:List Value} (hx:iP (a t)=some v:=by exact rfl) (h:Au P a C rs vs):Au P a C (.tmp t::rs) (v::vs):=Aiw hx h
theorem cS {P:Program} {a:Fr} {C:List HP} {p:Tmp} {t:TypeId} {B off:Nat} {cs:List Value} {rs:List ResultVar} {v:Value} {vs:List Value} (hx:a p=.pointer (some ⟨B,off,none⟩):=by exact rfl) (hb:XN C B cs:=by((repeat (first|exact s3|exact has_ro|apply uB)) <;> exact s3)) (hv:Nl P t cs off=some v:=by exact rfl) (h:Au P a C rs vs):Au P a C (.cell p t::rs) (v::vs):=Afz hx hb hv h
section
variable {P:Program} {fn:Func} {K:Value→List HP→Prop} {a:Fr} {C:List HP} {v:Value} {f:FuncId} {args:Array Value}
def dQ (C:List HP) (K:Value→List HP→Prop) (v:Value):Prop:=∃C',aG C C'∧K v C'
def Ak8:Exit→Bool
 |.ret=>true
 |.normal=>true
 |_=>false
theorem aC {e:Exit} {rs:List ResultVar} {vs:List Value} (h:dQ C K v) (hE:Ak8 e=true:=by exact rfl) (hl:nE fn.results.toList=some rs:=by exact rfl)
  (hv:Au P a C rs vs:=by first|exact bR|exact dS (h:=by first|exact bR|exact dS (h:=by first|exact bR|exact dS (h:=by first|exact bR|exact dS (h:=by first|exact bR|exact dS (h:=by exact bR)|exact cS (h:=by exact bR))|exact cS (h:=by first|exact bR|exact dS (h:=by exact bR)|exact cS (h:=by exact bR)))|exact cS (h:=by first|exact bR|exact dS (h:=by first|exact bR|exact dS (h:=by exact bR)|exact cS (h:=by exact bR))|exact cS (h:=by first|exact bR|exact dS (h:=by exact bR)|exact cS (h:=by exact bR))))|exact cS (h:=by first|exact bR|exact dS (h:=by first|exact bR|exact dS (h:=by first|exact bR|exact dS (h:=by exact bR)|exact cS (h:=by exact bR))|exact cS (h:=by first|exact bR|exact dS (h:=by exact bR)|exact cS (h:=by exact bR)))|exact cS (h:=by first|exact bR|exact dS (h:=by first|exact bR|exact dS (h:=by exact bR)|exact cS (h:=by exact bR))|exact cS (h:=by first|exact bR|exact dS (h:=by exact bR)|exact cS (h:=by exact bR)))))|exact cS (h:=by first|exact bR|exact dS (h:=by first|exact bR|exact dS (h:=by first|exact bR|exact dS (h:=by first|exact bR|exact dS (h:=by exact bR)|exact cS (h:=by exact bR))|exact cS (h:=by first|exact bR|exact dS (h:=by exact bR)|exact cS (h:=by exact bR)))|exact cS (h:=by first|exact bR|exact dS (h:=by first|exact bR|exact dS (h:=by exact bR)|exact cS (h:=by exact bR))|exact cS (h:=by first|exact bR|exact dS (h:=by exact bR)|exact cS (h:=by exact bR))))|exact cS (h:=by first|exact bR|exact dS (h:=by first|exact bR|exact dS (h:=by first|exact bR|exact dS (h:=by exact bR)|exact cS (h:=by exact bR))|exact cS (h:=by first|exact bR|exact dS (h:=by exact bR)|exact cS (h:=by exact bR)))|exact cS (h:=by first|exact bR|exact dS (h:=by first|exact bR|exact dS (h:=by exact bR)|exact cS (h:=by exact bR))|exact cS (h:=by first|exact bR|exact dS (h:=by exact bR)|exact cS (h:=by exact bR)))))) (ht:iP (SS vs)=some v:=by exact rfl):
  dM P fn K e a C:=by
 obtain⟨C',he,hk⟩:=h
 cases e <;> first|(cases hE;done)|exact Ajt hl hv ht he hk|exact retC_n hl hv ht he hk
theorem aL {C':List HP} (he:aG C C') (hk:K v C'):dQ C K v:=⟨C',he,hk⟩
theorem aB {C':List HP} (hk:K v C') (he:aG C C':=by((iterate 30 (try(first|exact aG.refl _|exact aG.nil|(apply aG.pick;focus ((repeat (first|exact aV.here|apply aV.there)) <;> exact aV.here))|(apply aG.pickP;focus ((repeat (first|exact pers_ro _ _ _|exact mL _ _ _|exact pers_pure _|refine pers_sep ?_ ?_|refine pers_ex fun _=>?_)) <;> exact pers_pure _);focus ((repeat (first|exact aV.here|apply aV.there)) <;> exact aV.here))|(apply aG.pure;focus (first|assumption|exact rfl|omega))|apply aG.nilrow'|apply aG.ex|apply aG.sep|apply aG.drop))) <;> exact aG.nil)):dQ C K v:=⟨C',he,hk⟩
theorem CA {C':List HP} (he:aG C C':=by((iterate 30 (try(first|exact aG.refl _|exact aG.nil|(apply aG.pick;focus ((repeat (first|exact aV.here|apply aV.there)) <;> exact aV.here))|(apply aG.pickP;focus ((repeat (first|exact pers_ro _ _ _|exact mL _ _ _|exact pers_pure _|refine pers_sep ?_ ?_|refine pers_ex fun _=>?_)) <;> exact pers_pure _);focus ((repeat (first|exact aV.here|apply aV.there)) <;> exact aV.here))|(apply aG.pure;focus (first|assumption|exact rfl|omega))|apply aG.nilrow'|apply aG.ex|apply aG.sep|apply aG.drop))) <;> exact aG.nil)) (h:aA P f args C' K):aA P f args C K:=aA.ent he h
theorem kv {v v':Value} (h:K v C) (e:v=v'):K v' C:=e▸h
theorem ki {k:IntKind} {x y:Int} (h:K (.int k x) C) (e:x=y):K (.int k y) C:=e▸h
theorem kb {b c:Bool} (h:K (.bool b) C) (e:(b=true)↔(c=true)):K (.bool c) C:=by
 have:b=c:=by cases b <;> cases c <;> simp_all
 exact this▸h
end
def aW (n:Nat) (I:Nat→Fr→List HP→Prop) (a:Fr) (C:List HP):Prop:=∃m C'',m<n∧aG C C''∧I m a C''
section
variable {P:Program} {Q:Exit→Fr→List HP→Prop} {a:Fr} {C:List HP} {x:Code} {id:Nat}
theorem iF (I:Nat→Fr→List HP→Prop) (n:Nat) (h0:aW (n+1) I a C) (hr:∀n a C,I n a C→fB P x (bO (aW n I) Q) a C):fB P (.loop x) Q a C:=by
 obtain⟨m,C0,_,he,hI⟩:=h0
 exact Ajo I m C0 he hI hr
theorem b9 {n:Nat} {I:Nat→Fr→List HP→Prop} (m:Nat) {C':List HP} (hi:I m a C') (hm:m<n:=by omega) (he:aG C C':=by((iterate 30 (try(first|exact aG.refl _|exact aG.nil|(apply aG.pick;focus ((repeat (first|exact aV.here|apply aV.there)) <;> exact aV.here))|(apply aG.pickP;focus ((repeat (first|exact pers_ro _ _ _|exact mL _ _ _|exact pers_pure _|refine pers_sep ?_ ?_|refine pers_ex fun _=>?_)) <;> exact pers_pure _);focus ((repeat (first|exact aV.here|apply aV.there)) <;> exact aV.here))|(apply aG.pure;focus (first|assumption|exact rfl|omega))|apply aG.nilrow'|apply aG.ex|apply aG.sep|apply aG.drop))) <;> exact aG.nil)):aW n I a C:=⟨m,C',hm,he,hi⟩
def dK (I:Fr→List HP→Prop) (a:Fr) (C:List HP):Prop:=∃C'',aG C C''∧I a C''
theorem YL {I:Fr→List HP→Prop} {C':List HP} (hi:I a C') (he:aG C C':=by((iterate 30 (try(first|exact aG.refl _|exact aG.nil|(apply aG.pick;focus ((repeat (first|exact aV.here|apply aV.there)) <;> exact aV.here))|(apply aG.pickP;focus ((repeat (first|exact pers_ro _ _ _|exact mL _ _ _|exact pers_pure _|refine pers_sep ?_ ?_|refine pers_ex fun _=>?_)) <;> exact pers_pure _);focus ((repeat (first|exact aV.here|apply aV.there)) <;> exact aV.here))|(apply aG.pure;focus (first|assumption|exact rfl|omega))|apply aG.nilrow'|apply aG.ex|apply aG.sep|apply aG.drop))) <;> exact aG.nil)):dK I a C:=⟨C',he,hi⟩
end
structure Al1 (p:Prop):Prop where
 h:p
end Go.Sl
end
