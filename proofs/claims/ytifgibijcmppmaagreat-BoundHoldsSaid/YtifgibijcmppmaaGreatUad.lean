/- A part of the proof: lemmas; each with the conditions that it states. -/
import Derived.Test.YtifgibijcmppmaaGreatUac
set_option linter.unusedVariables false
set_option linter.unusedSimpArgs false
section
namespace Go.Sl
abbrev HP:=Hp→Prop
abbrev KP:=Value→List HP→Prop
def sP.le (b b':sP):Prop:=b'=b∨∃cs e,b=.cells cs e false∧b'=.cells cs e true
theorem sP.le_refl (b:sP):b.le b:=.inl rfl
theorem sP.le_trans {a b c:sP} (h:a.le b) (k:b.le c):a.le c:=by
 rcases h with rfl|⟨cs,e,rfl,rfl⟩
 ·exact k
 ·rcases k with rfl|⟨cs',e',h1,h2⟩
  ·exact .inr ⟨cs,e,rfl,rfl⟩
  ·cases h1
theorem sP.le_own {b b':sP} (h:b.le b') (ho:b.own=true):b'=b:=by
 rcases h with rfl|⟨cs,e,rfl,rfl⟩
 ·rfl
 ·cases ho
theorem sP.le_two {a b c:sP} (h:a.le c) (k:b.le c) (ha:a.own=false) (hb:b.own=false):a=b:=by
 rcases h with rfl|⟨cs,e,rfl,rfl⟩
 ·rcases k with rfl|⟨cs,e,rfl,rfl⟩
  ·rfl
  ·cases ha
 ·rcases k with rfl|⟨cs',e',rfl,h2⟩
  ·cases hb
  ·cases h2;rfl
def Be (H1 H:Hp):Prop:=∀B b,H1 B=some b→∃b',H B=some b'∧b.le b'
theorem Be.refl (H:Hp):Be H H:=fun _ b h=>⟨b,h,b.le_refl⟩
theorem Be.trans {A B C:Hp} (h:Be A B) (k:Be B C):Be A C:=fun r b hb=>by
 obtain⟨b1,h1,l1⟩:=h r b hb
 obtain⟨b2,h2,l2⟩:=k r b1 h1
 exact⟨b2,h2,sP.le_trans l1 l2⟩
def tE (H1 H2:Hp):Prop:=∀B b c,H1 B=some b→H2 B=some c→b.own=false∧c.own=false
theorem tE.symm {H1 H2:Hp} (h:tE H1 H2):tE H2 H1:=fun B b c hb hc=>(h B c b hc hb).symm
theorem Ak0 {b b':sP} (h:b.le b') (ho:b'.own=false):b.own=false:=by
 cases hb:b.own with
 |false=>rfl
 |true=>rw[sP.le_own h hb,hb] at ho;cases ho
theorem tE.le {A B A':Hp} (h:tE A' B) (hl:Be A A'):tE A B:=fun r b c hb hc=>by
 obtain⟨b',h1,l1⟩:=hl r b hb
 obtain⟨h2,h3⟩:=h r b' c h1 hc
 exact⟨Ak0 l1 h2,h3⟩
theorem tE.le2 {A B B':Hp} (h:tE A B') (hl:Be B B'):tE A B:=(h.symm.le hl).symm
def sX (A B:Hp):Hp:=fun r=>match A r with
 |some b=>some b
 |none=>B r
theorem p7 (A B:Hp):Be A (sX A B):=fun r b h=>⟨b,by simp[sX,h],b.le_refl⟩
theorem oP {A B H:Hp} (hc:tE A B) (h1:Be A H) (h2:Be B H):Be B (sX A B):=fun r b h=>by
 cases ha:A r with
 |none=>exact⟨b,by simp[sX,ha,h],b.le_refl⟩
 |some a=>
  obtain⟨o1,o2⟩:=hc r a b ha h
  obtain⟨a',h3,l3⟩:=h1 r a ha
  obtain⟨b',h4,l4⟩:=h2 r b h
  rw[h3] at h4;cases h4
  have:=sP.le_two l3 l4 o1 o2
  subst this
  exact⟨a,by simp[sX,ha],a.le_refl⟩
theorem xA {A B H:Hp} (h1:Be A H) (h2:Be B H):Be (sX A B) H:=fun r b h=>by
 unfold sX at h
 split at h
 ·rename_i a ha;cases h;exact h1 r b ha
 ·exact h2 r b h
theorem tE.join {A B C:Hp} (h1:tE A C) (h2:tE B C):tE (sX A B) C:=fun r b c hb hc=>by
 unfold sX at hb
 split at hb
 ·rename_i a ha;cases hb;exact h1 r b c ha hc
 ·exact h2 r b c hb hc
def bX:List HP→Hp→Prop
 | [],_=>True
 |A::l,H=>∃H1 H2,tE H1 H2∧Be H1 H∧Be H2 H∧A H1∧bX l H2
theorem bX.mono:∀ {C:List HP} {H H':Hp},bX C H→Be H H'→bX C H'
 | [],_,_,_,_=>trivial
 |_::_,_,_,⟨H1,H2,hc,h1,h2,ha,hs⟩,hl=>⟨H1,H2,hc,h1.trans hl,h2.trans hl,ha,hs⟩
theorem bX.tail {A:HP} {C:List HP} {H:Hp} (h:bX (A::C) H):bX C H:=by
 obtain⟨H1,H2,hc,h1,h2,ha,hs⟩:=h
 exact hs.mono h2
theorem bX.swap {A B:HP} {C:List HP} {H:Hp} (h:bX (A::B::C) H):bX (B::A::C) H:=by
 obtain⟨H1,H2,hc,h1,h2,ha,G1,G2,kc,k1,k2,kb,ks⟩:=h
 refine⟨G1,sX H1 G2,?_,k1.trans h2,xA h1 (k2.trans h2),kb,H1,G2,hc.le2 k2,p7 _ _,oP (hc.le2 k2) h1 (k2.trans h2),ha,ks⟩
 exact(tE.join (hc.le2 k1) kc.symm).symm
theorem bX.perm {C C':List HP} (hp:C.Perm C'):∀ {H:Hp},bX C H→bX C' H:=by
 induction hp with
 |nil=>exact fun h=>h
 |cons x _ ih=>exact fun⟨H1,H2,hc,h1,h2,ha,hs⟩=>⟨H1,H2,hc,h1,h2,ha,ih hs⟩
 |swap x y l=>exact fun h=>h.swap
 |trans _ _ ih1 ih2=>exact fun h=>ih2 (ih1 h)
theorem bX.append:∀ {C R:List HP} {H:Hp},bX (C++R) H→∃H1 H2,tE H1 H2∧Be H1 H∧Be H2 H∧bX C H1∧bX R H2
 | [],R,H,h=>⟨fun _=>none,H,(fun _ _ _ h=>by cases h),(fun _ _ h=>by cases h),Be.refl H,trivial,h⟩
 |A::C,R,H,⟨H1,H2,hc,h1,h2,ha,hs⟩=>by
  obtain⟨G1,G2,kc,k1,k2,ka,ks⟩:=bX.append hs
  exact⟨sX H1 G1,G2,tE.join (hc.le2 k2) kc,xA h1 (k1.trans h2),k2.trans h2,⟨H1,G1,hc.le2 k1,p7 _ _,oP (hc.le2 k1) h1 (k1.trans h2),ha,ka⟩,ks⟩
theorem bX.join:∀ {C R:List HP} {H1 H2 H:Hp},tE H1 H2→Be H1 H→Be H2 H→bX C H1→bX R H2→bX (C++R) H
 | [],_,_,_,_,_,_,h2,_,hs=>hs.mono h2
 |_::_,_,_,_,_,hc,h1,h2,⟨G1,G2,kc,k1,k2,ka,ks⟩,hs=>
  ⟨G1,sX G2 _,(tE.join kc.symm (hc.symm.le2 k1)).symm,k1.trans h1,xA (k2.trans h1) h2,ka,
   bX.join (hc.le k2) (p7 _ _) (oP (hc.le k2) (k2.trans h1) h2) ks hs⟩
inductive aV (A:HP):List HP→List HP→Prop where
 |here {l:List HP}:aV A (A::l) l
 |there {B:HP} {l r:List HP}:aV A l r→aV A (B::l) (B::r)
theorem aV.perm {A:HP} {l r:List HP} (h:aV A l r):l.Perm (A::r):=by
 induction h with
 |here=>exact List.Perm.refl _
 |there _ ih=>exact(List.Perm.cons _ ih).trans (List.Perm.swap _ _ _)
theorem aV.sats {A:HP} {l r:List HP} (h:aV A l r) {H:Hp} (hs:bX l H):bX (A::r) H:=hs.perm h.perm
def aG (C C':List HP):Prop:=∀H,bX C H→bX C' H
theorem aG.refl (C:List HP):aG C C:=fun _ h=>h
theorem aG.trans {A B C:List HP} (h:aG A B) (k:aG B C):aG A C:=fun H x=>k H (h H x)
theorem aG.cons {A:HP} {C C':List HP} (h:aG C C'):aG (A::C) (A::C'):=fun _ ⟨H1,H2,hc,h1,h2,ha,hs⟩=>⟨H1,H2,hc,h1,h2,ha,h _ hs⟩
theorem aG.pick {A:HP} {C R C':List HP} (hp:aV A C R) (h:aG R C'):aG C (A::C'):=fun _ hs=>(aG.cons h) _ (hp.sats hs)
theorem aG.drop {A:HP} {C C':List HP} (h:aG C C'):aG (A::C) C':=fun H hs=>h H hs.tail
theorem aG.imp {A B:HP} {C C':List HP} (hab:∀H,A H→B H) (h:aG C C'):aG (A::C) (B::C'):=fun _ ⟨H1,H2,hc,h1,h2,ha,hs⟩=>⟨H1,H2,hc,h1,h2,hab _ ha,h _ hs⟩
def eV {α:Type} (g:α→HP):HP:=fun H=>∃x,g x H
def star (l:List HP):HP:=bX l
def bH (p:Prop):HP:=fun _=>p
def pt (r:Nat) (cs:List Value) (e:TypeId):HP:=fun H=>H r=some (.cells cs e true)
def ro (r:Nat) (cs:List Value) (e:TypeId):HP:=fun H=>H r=some (.cells cs e false)
theorem bX.ex {α:Type} {g:α→HP} {C:List HP} {H:Hp} (h:bX (eV g::C) H):∃x,bX (g x::C) H:=by
 obtain⟨H1,H2,hc,h1,h2,⟨x,ha⟩,hs⟩:=h
 exact⟨x,H1,H2,hc,h1,h2,ha,hs⟩
theorem bX.star {l C:List HP} {H:Hp} (h:bX (star l::C) H):bX (l++C) H:=by
 obtain⟨H1,H2,hc,h1,h2,ha,hs⟩:=h
 exact bX.join hc h1 h2 ha hs
theorem bX.pure {p:Prop} {C:List HP} {H:Hp} (h:bX (bH p::C) H):p∧bX C H:=⟨by obtain⟨_,_,_,_,_,ha,_⟩:=h;exact ha,h.tail⟩
theorem aG.ex {α:Type} {g:α→HP} {C C':List HP} (x:α) (h:aG C (g x::C')):aG C (eV g::C'):=fun H hs=>by
 obtain⟨H1,H2,hc,h1,h2,ha,hs⟩:=h H hs
 exact⟨H1,H2,hc,h1,h2,⟨x,ha⟩,hs⟩
theorem aG.star {l C C':List HP} (h:aG C (l++C')):aG C (star l::C'):=fun H hs=>by
 obtain⟨H1,H2,hc,h1,h2,ha,hs⟩:=(h H hs).append
 exact⟨H1,H2,hc,h1,h2,ha,hs⟩
theorem aG.pure {p:Prop} {C C':List HP} (hp:p) (h:aG C C'):aG C (bH p::C'):=fun H hs=>
 ⟨fun _=>none,H,(fun _ _ _ h=>by cases h),(fun _ _ h=>by cases h),Be.refl H,hp,h H hs⟩
def Fj (A:HP):Prop:=∀H,A H→∃H',Be H' H∧A H'∧∀B b,H' B=some b→b.own=false
def mR (r:Nat) (b:sP):Hp:=fun i=>if i=r then some b else none
theorem Dq {r:Nat} {b b':sP} {H:Hp} (h:H r=some b') (hl:b.le b'):Be (mR r b) H:=fun i c hc=>by
 unfold mR at hc;split at hc
 ·rename_i e;subst e;cases hc;exact⟨b',h,hl⟩
 ·cases hc
theorem DL {r i:Nat} {b c:sP} (h:mR r b i=some c):i=r∧c=b:=by
 unfold mR at h;split at h
 ·rename_i e;cases h;exact⟨e,rfl⟩
 ·cases h
theorem wL (r:Nat) (b:sP):mR r b r=some b:=by simp[mR]
theorem bX.dup {A:HP} {C:List HP} {H:Hp} (hp:Fj A) (h:bX (A::C) H):bX (A::A::C) H:=by
 obtain⟨H1,H2,hc,h1,h2,ha,hs⟩:=h
 obtain⟨G,g1,g2,g3⟩:=hp H1 ha
 refine⟨G,sX G H2,?_,g1.trans h1,xA (g1.trans h1) h2,g2,G,H2,hc.le g1,p7 _ _,oP (hc.le g1) (g1.trans h1) h2,g2,hs⟩
 refine(tE.join (fun B b c hb hc=>⟨g3 _ _ hb,g3 _ _ hc⟩) (hc.le g1).symm).symm
def upC (Q:Fr→List HP→Prop):Fr→Hp→Prop:=fun a H=>∃C,bX C H∧Q a C
def upV (K:Value→List HP→Prop):Value→Hp→Prop:=fun v H=>∃C,bX C H∧K v C
def upE (Q:Exit→Fr→List HP→Prop):Exit→Fr→Hp→Prop:=fun e=>upC (Q e)
def aA (P:Program) (f:FuncId) (args:Array Value) (C:List HP) (K:Value→List HP→Prop):Prop:=∀H,bX C H→sN P f args H (upV K)
def fN (P:Program) (c:Code) (Q:Exit→Fr→List HP→Prop) (a:Fr) (C:List HP):Prop:=∀H,bX C H→ev P c (upE Q) a H
theorem aA.ent {P:Program} {f:FuncId} {args:Array Value} {C C':List HP} {K:Value→List HP→Prop} (he:aG C C') (h:aA P f args C' K):aA P f args C K:=fun H hs=>h H (he H hs)
theorem aA.ex {P:Program} {f:FuncId} {args:Array Value} {α:Type} {g:α→HP} {C:List HP} {K:Value→List HP→Prop} (h:∀x,aA P f args (g x::C) K):aA P f args (eV g::C) K:=fun H hs=>by
 obtain⟨x,hx⟩:=hs.ex
 exact h x H hx
theorem aA.star {P:Program} {f:FuncId} {args:Array Value} {l C:List HP} {K:Value→List HP→Prop} (h:aA P f args (l++C) K):aA P f args (star l::C) K:=fun H hs=>h H hs.star
theorem aA.pure {P:Program} {f:FuncId} {args:Array Value} {p:Prop} {C:List HP} {K:Value→List HP→Prop} (h:p→aA P f args C K):aA P f args (bH p::C) K:=fun H hs=>h hs.pure.1 H hs.pure.2
theorem Iv {P:Program} {ops:Array Oper} {Q Q':Fr→Hp→Prop} (hq:∀a H,Q a H→Q' a H):∀(l:List Oper) (i:Nat) (a:Fr) (H:Hp),JG P ops Q i l a H→JG P ops Q' i l a H
 | [],_,a,H,h=>hq a H h
 |o::l,i,a,H,h=>by
  unfold JG at h ⊢
  split
  ·rename_i hw
   rw[if_pos hw] at h
   refine oI (fun v H' hv=>?_) h
   rw[cG] at hv ⊢
   exact Iv hq l _ _ _ hv
  ·rename_i hw
   rw[if_neg hw] at h
   exact Iv hq l _ _ _ h
theorem AD {P:Program} {ops:Array Oper} {Q Q':Fr→Hp→Prop} (hq:∀a H,Q a H→Q' a H):∀(l:List (Nat×Nat)) (hist:List Hp) (a:Fr) (H:Hp),zE P ops Q l hist a H→zE P ops Q' l hist a H
 | [],_,a,H,h=>hq a H h
 |(i,c)::l,hist,a,H,h=>by
  simp only[zE] at h ⊢
  split at h
  ·exact h.elim
  ·split
   ·rename_i hw
    rw[if_pos hw] at h
    split at h
    ·obtain⟨v,h1,h2⟩:=h
     rw[cG] at h2
     exact⟨v,h1,(cG _ _ _).2 (AD hq l _ _ _ h2)⟩
    ·obtain⟨v,h1,h3,h2⟩:=h
     rw[cG] at h2
     exact⟨v,h1,h3,(cG _ _ _).2 (AD hq l _ _ _ h2)⟩
    ·refine oI (fun v H' hv=>?_) h
     rw[cG] at hv ⊢
     exact AD hq l _ _ _ hv
   ·rename_i hw
    rw[if_neg hw] at h
    exact AD hq l _ _ _ h
theorem uT {P:Program} {ops:Array Oper} {Q Q':Fr→Hp→Prop} (hq:∀a H,Q a H→Q' a H):∀(t:Tr) (hist:List Hp) (a:Fr) (H:Hp),Db P ops Q t hist a H→Db P ops Q' t hist a H
 |.nil,_,a,H,h=>hq a H h
 |.br t u,_,_,_,h=>⟨uT hq t _ _ _ h.1,uT hq u _ _ _ h.2⟩
 |.st i c l,hist,a,H,h=>by
  simp only[Db] at h ⊢
  split at h
  ·exact h.elim
  ·split
   ·rename_i hw
    rw[if_pos hw] at h
    split at h
    ·obtain⟨v,h1,h2⟩:=h
     rw[cG] at h2
     exact⟨v,h1,(cG _ _ _).2 (uT hq l _ _ _ h2)⟩
    ·obtain⟨v,h1,h3,h2⟩:=h
     rw[cG] at h2
     exact⟨v,h1,h3,(cG _ _ _).2 (uT hq l _ _ _ h2)⟩
    ·refine oI (fun v H' hv=>?_) h
     rw[cG] at hv ⊢
     exact uT hq l _ _ _ hv
   ·rename_i hw
    rw[if_neg hw] at h
    exact uT hq l _ _ _ h
theorem wI {P:Program} (c:Code):∀ {Q Q':Exit→Fr→Hp→Prop} (_:∀e a H,Q e a H→Q' e a H) (a:Fr) (H:Hp),ev P c Q a H→ev P c Q' a H:=by
 induction c with
 |region id ops d=>
  intro Q Q' hq a H h
  cases d
  ·exact Iv (hq .normal) _ _ _ _ h
  ·exact h.imp (fun h=>⟨h.1,AD (hq .normal) _ _ _ _ h.2⟩) fun⟨t,h1,h2⟩=>⟨t,h1,uT (hq .normal) _ _ _ _ h2⟩
 |seq x y ihx ihy=>
  intro Q Q' hq a H h
  refine ihx (Q:=UO (ev P y Q) Q) (fun e a H h=>?_) a H h
  cases e <;> first|exact hq _ _ _ h|exact ihy hq a H h
 |cond c x y ihx ihy=>
  intro Q Q' hq a H h
  simp only[ev] at h ⊢
  split
  ·rename_i b hb;rw[hb] at h;exact⟨fun hb=>ihx hq a H (h.yes hb),fun hb=>ihy hq a H (h.no hb)⟩
  ·rename_i hb
   split at h
   ·rename_i b hb';exact absurd hb' (hb b)
   ·exact h
 |block id c ih=>
  intro Q Q' hq a H h
  refine ih (Q:=Au id Q) (fun e a H h=>?_) a H h
  cases e <;> first
   |exact hq _ _ _ h
   |(simp only[Au] at h ⊢;split <;> rename_i hj <;> simp only[hj,if_true,if_false] at h <;> exact hq _ _ _ h)
 |loop c ih=>
  intro Q Q' hq a H h
  obtain⟨I,n,h0,hr⟩:=h
  refine⟨I,n,h0,fun n a H hI=>ih (Q:=UO _ Q) (fun e a H h=>?_) a H (hr n a H hI)⟩
  cases e <;> first|exact h|exact hq _ _ _ h
 |scope c ih=>
  intro Q Q' hq a H h
  refine ih (Q:=UU Q) (fun e a H h=>?_) a H h
  cases e <;> first|exact hq _ _ _ h|exact h.elim
 |skip=>exact fun hq a H h=>hq _ _ _ h
 |exit id=>exact fun hq a H h=>hq _ _ _ h
 |label l=>exact fun hq a H h=>hq _ _ _ h
 |ret=>exact fun hq a H h=>hq _ _ _ h
 |_=>exact fun hq a H h=>h.elim
end Go.Sl
namespace Go.Sl
def bP (K:Fr→List HP→Prop) (Q:Exit→Fr→List HP→Prop):Exit→Fr→List HP→Prop
 |Exit.normal=>K
 |e=>Q e
def aM (id:Nat) (Q:Exit→Fr→List HP→Prop):Exit→Fr→List HP→Prop
 |Exit.exit j=>if j=id then Q .normal else Q (.exit j)
 |e=>Q e
def aX (Q:Exit→Fr→List HP→Prop):Exit→Fr→List HP→Prop
 |Exit.goto _=>fun _ _=>False
 |e=>Q e
def sep (A B:HP):HP:=star [A,B]
theorem aA.sep {P:Program} {f:FuncId} {args:Array Value} {A B:HP} {C:List HP} {K:Value→List HP→Prop} (h:aA P f args (A::B::C) K):aA P f args (sep A B::C) K:=fun H hs=>h H hs.star
theorem aG.sep {A B:HP} {C C':List HP} (h:aG C (A::B::C')):aG C (sep A B::C'):=aG.star h
theorem EC {P:Program} {c:Code} {Q:Exit→Fr→List HP→Prop} {a:Fr} {A B:HP} {C:List HP} (h:fN P c Q a (A::B::C)):fN P c Q a (sep A B::C):=fun H hs=>h H hs.star
section
variable {P:Program} {Q:Exit→Fr→List HP→Prop} {K:Fr→List HP→Prop} {a:Fr} {C:List HP} {x y:Code} {id:Nat}
theorem l7 {C':List HP} (he:aG C C') (h:fN P x Q a C'):fN P x Q a C:=fun H hs=>h H (he H hs)
theorem qA {α:Type} {g:α→HP} (h:∀z,fN P x Q a (g z::C)):fN P x Q a (eV g::C):=fun H hs=>by
 obtain⟨z,hz⟩:=hs.ex
 exact h z H hz
theorem Abb (h:fN P x (bP (fN P y Q) Q) a C):fN P (.seq x y) Q a C:=fun H hs=>by
 refine wI x (fun e a H hq=>?_) a H (h H hs)
 obtain⟨C',h1,h2⟩:=hq
 cases e <;> first|exact⟨C',h1,h2⟩|exact h2 H h1
theorem RS {c:Operand} {b:Bool} (hc:bJ a c=.bool b) (h:Br b (fN P x Q a C) (fN P y Q a C)):fN P (.cond c x y) Q a C:=fun H hs=>by
 simp only[ev,hc]
 exact⟨fun hb=>h.yes hb H hs,fun hb=>h.no hb H hs⟩
theorem Gr (h:fN P x (aM id Q) a C):fN P (.block id x) Q a C:=fun H hs=>by
 refine wI x (fun e a H hq=>?_) a H (h H hs)
 obtain⟨C',h1,h2⟩:=hq
 cases e <;> first
  |exact⟨C',h1,h2⟩
  |(simp only[aM,Au] at h2 ⊢;split <;> rename_i hj <;> simp only[hj,if_true,if_false] at h2 <;> exact⟨C',h1,h2⟩)
theorem Ma (h:fN P x (aX Q) a C):fN P (.scope x) Q a C:=fun H hs=>by
 refine wI x (fun e a H hq=>?_) a H (h H hs)
 obtain⟨C',h1,h2⟩:=hq
 cases e <;> first|exact⟨C',h1,h2⟩|exact h2.elim
theorem Ru (h:Q .normal a C):fN P .skip Q a C:=fun H hs=>⟨C,hs,h⟩
theorem ML (h:Q .normal a C):fN P (.label id) Q a C:=fun H hs=>⟨C,hs,h⟩
theorem Tc (h:Q (.exit id) a C):fN P (.exit id) Q a C:=fun H hs=>⟨C,hs,h⟩
theorem Adt (h:Q .ret a C):fN P .ret Q a C:=fun H hs=>⟨C,hs,h⟩
theorem t_n (h:K a C):bP K Q .normal a C:=h
theorem t_e (h:Q (.exit id) a C):bP K Q (.exit id) a C:=h
theorem t_r (h:Q .ret a C):bP K Q .ret a C:=h
theorem b_n (h:Q .normal a C):aM id Q .normal a C:=h
theorem b_r (h:Q .ret a C):aM id Q .ret a C:=h
theorem Acn {j:Nat} (hj:(j == id)=true) (h:Q .normal a C):aM id Q (.exit j) a C:=by simp at hj;simp only[aM,hj,if_true];exact h
theorem Rf {j:Nat} (hj:(j == id)=false) (h:Q (.exit j) a C):aM id Q (.exit j) a C:=by simp at hj;simp only[aM,hj,if_false];exact h
theorem g_r (h:Q .ret a C):aX Q .ret a C:=h
theorem Ajf (I:Nat→Fr→List HP→Prop) (n:Nat) (C0:List HP) (he:aG C C0) (h0:I n a C0)
  (hr:∀n a C,I n a C→fN P x (bP (fun a' C'=>∃m C'',m<n∧aG C' C''∧I m a' C'') Q) a C):fN P (.loop x) Q a C:=fun H hs=>by
 refine⟨fun n a H=>∃C,bX C H∧I n a C,n,⟨C0,he H hs,h0⟩,fun n a H ⟨C,hs,hI⟩=>?_⟩
 refine wI x (fun e a H hq=>?_) a H (hr n a C hI H hs)
 obtain⟨C',h1,h2⟩:=hq
 cases e <;> first
  |exact⟨C',h1,h2⟩
  |(obtain⟨m,C'',hm,hE,hI⟩:=h2;exact⟨m,hm,C'',hE H h1,hI⟩)
theorem fP (l:List (Nat×Value)) (h:cJ a l) (he:fN P x Q (eP a l) C):fN P x Q a C:=by rw[Vj h] at he;exact he
end
abbrev Al7:=Nat×Bool×Oper
inductive ET where
 |nil
 |cons (e:Al7) (l:ET)
 |br (l m:ET)
def QH (P:Program) (ops:Array Oper) (Q:Fr→Hp→Prop):ET→List Hp→Fr→Hp→Prop
 |.nil,_,a,H=>Q a H
 |.br l m,hist,a,H=>QH P ops Q l hist a H∧QH P ops Q m hist a H
 |ET.cons (c,_,o) l,hist,a,H=>
  if bE ops o a=true then
   match kd P o.op with
   |.pure=>∃v,b6 P o a=some v∧QH P ops Q l hist (fA a o.dst v) H
   |.load=>∃v,Jk P o a H=some v∧(∀h∈hist.take c,Jk P o a h=some v)∧QH P ops Q l hist (fA a o.dst v) H
   |.other=>lJ P o a H fun v H'=>QH P ops Q l (H::hist) (fA a o.dst v) H'
  else QH P ops Q l hist (fA a o.dst undef) H
def SL (ops:Array Oper):Nat→List Oper→Option (ET)
 |_,[]=>some .nil
 |i,o::l=>match Ra ops i with
  |true=>match SL ops (i+1) l with
   |some r=>some (ET.cons (0,true,o) r)
   |none=>none
  |false=>match SL ops (i+1) l with
   |some r=>some (ET.cons (0,false,o) r)
   |none=>none
def Js (ops:Array Oper):List (Nat×Nat)→Option (ET)
 | []=>some .nil
 |(i,c)::l=>match ops[i]? with
  |none=>none
  |some o=>match Ra ops i with
   |true=>match Js ops l with
    |some r=>some (ET.cons (c,true,o) r)
    |none=>none
   |false=>match Js ops l with
    |some r=>some (ET.cons (c,false,o) r)
    |none=>none
theorem Yn {ops:Array Oper} {i:Nat} {o:Oper} {l:List Oper} {es:ET} (h:SL ops i (o::l)=some es):∃g r,es=ET.cons (0,g,o) r∧SL ops (i+1) l=some r:=by
 simp only[SL] at h
 split at h <;> split at h <;> first|(cases h;done)|(rename_i r hr;cases h;exact⟨_,r,rfl,hr⟩)
theorem Xx {ops:Array Oper} {i c:Nat} {l:List (Nat×Nat)} {es:ET} (h:Js ops ((i,c)::l)=some es):∃g r o,ops[i]?=some o∧es=ET.cons (c,g,o) r∧Js ops l=some r:=by
 simp only[Js] at h
 split at h
 ·cases h
 ·rename_i o ho
  split at h <;> split at h <;> first|(cases h;done)|(rename_i r hr;cases h;exact⟨_,r,o,ho,rfl,hr⟩)
theorem OK {P:Program} {ops:Array Oper} {Q:Fr→Hp→Prop}:∀(l:List Oper) (i:Nat) (es:ET) (hist:List Hp) (a:Fr) (H:Hp),SL ops i l=some es→QH P ops Q es hist a H→JG P ops Q i l a H
 | [],_,es,hist,a,H,he,h=>by cases he;exact h
 |o::l,i,es,hist,a,H,he,h=>by
  obtain⟨g,r,rfl,hr⟩:=Yn he
  simp only[QH] at h
  split at h
  ·rename_i hw
   split at h
   ·obtain⟨v,hv,h⟩:=h
    exact Alv hw hv ((cG _ _ _).2 (OK l _ r _ _ _ hr h))
   ·obtain⟨v,hv,_,h⟩:=h
    exact Al9 hw hv ((cG _ _ _).2 (OK l _ r _ _ _ hr h))
   ·refine Amc hw (oI (fun v H' hk=>?_) h)
    exact(cG _ _ _).2 (OK l _ r _ _ _ hr hk)
  ·rename_i hw
   exact Al8 (by simpa using hw) (OK l _ r _ _ _ hr h)
theorem O0 {P:Program} {ops:Array Oper} {Q:Fr→Hp→Prop}:∀(l:List (Nat×Nat)) (es:ET) (hist:List Hp) (a:Fr) (H:Hp),Js ops l=some es→QH P ops Q es hist a H→zE P ops Q l hist a H
 | [],es,hist,a,H,he,h=>by cases he;exact h
 |(i,c)::l,es,hist,a,H,he,h=>by
  obtain⟨g,r,o,ho,rfl,hr⟩:=Xx he
  simp only[QH] at h
  split at h
  ·rename_i hw
   split at h
   ·rename_i hk
    obtain⟨v,hv,h⟩:=h
    exact Amb ho hk hw hv ((cG _ _ _).2 (O0 l r _ _ _ hr h))
   ·rename_i hk
    obtain⟨v,hv,hh,h⟩:=h
    exact Alf ho hk hw hv hh ((cG _ _ _).2 (O0 l r _ _ _ hr h))
   ·rename_i hk
    refine Ak6 ho hk hw (oI (fun v H' hk=>?_) h)
    exact(cG _ _ _).2 (O0 l r _ _ _ hr hk)
  ·rename_i hw
   exact Alh ho (by simpa using hw) (O0 l r _ _ _ hr h)
def DG (ops:Array Oper):Tr→Option ET
 |.nil=>some .nil
 |.br t u=>match DG ops t with
  |some x=>match DG ops u with
   |some y=>some (.br x y)
   |none=>none
  |none=>none
 |.st i c l=>match ops[i]? with
  |none=>none
  |some o=>match Ra ops i with
   |true=>match DG ops l with
    |some r=>some (ET.cons (c,true,o) r)
    |none=>none
   |false=>match DG ops l with
    |some r=>some (ET.cons (c,false,o) r)
    |none=>none
theorem Ae7 {ops:Array Oper} {i c:Nat} {l:Tr} {es:ET} (h:DG ops (.st i c l)=some es):∃g r o,ops[i]?=some o∧es=ET.cons (c,g,o) r∧DG ops l=some r:=by
 simp only[DG] at h
 split at h
 ·cases h
 ·rename_i o ho
  split at h <;> split at h <;> first|(cases h;done)|(rename_i r hr;cases h;exact⟨_,r,o,ho,rfl,hr⟩)
theorem Afh {ops:Array Oper} {t u:Tr} {es:ET} (h:DG ops (.br t u)=some es):∃x y,es=.br x y∧DG ops t=some x∧DG ops u=some y:=by
 simp only[DG] at h
 split at h
 ·rename_i x hx
  split at h
  ·rename_i y hy;cases h;exact⟨x,y,rfl,hx,hy⟩
  ·cases h
 ·cases h
theorem Ha {P:Program} {ops:Array Oper} {Q:Fr→Hp→Prop}:∀(t:Tr) (es:ET) (hist:List Hp) (a:Fr) (H:Hp),DG ops t=some es→QH P ops Q es hist a H→Db P ops Q t hist a H
 |.nil,es,hist,a,H,he,h=>by cases he;exact h
 |.br t u,es,hist,a,H,he,h=>by
  obtain⟨x,y,rfl,hx,hy⟩:=Afh he
  exact⟨Ha t x hist a H hx h.1,Ha u y hist a H hy h.2⟩
 |.st i c l,es,hist,a,H,he,h=>by
  obtain⟨g,r,o,ho,rfl,hr⟩:=Ae7 he
  simp only[QH] at h
  simp only[Db,ho]
  split at h
  ·rename_i hw
   rw[if_pos hw]
   split at h
   ·rename_i hkd;simp only[hkd];obtain⟨v,hv,h⟩:=h
    exact⟨v,hv,(cG _ _ _).2 (Ha l r _ _ _ hr h)⟩
   ·rename_i hkd;simp only[hkd];obtain⟨v,hv,hh,h⟩:=h
    exact⟨v,hv,hh,(cG _ _ _).2 (Ha l r _ _ _ hr h)⟩
   ·rename_i hkd;simp only[hkd];refine oI (fun v H' hk=>?_) h
    exact(cG _ _ _).2 (Ha l r _ _ _ hr hk)
  ·rename_i hw
   rw[if_neg hw]
   exact Ha l r _ _ _ hr h
def RF (P:Program) (ops:Array Oper) (bs:Array Nat):Nat→List Nat→List Nat→Tr
 |n,acc,S=>
  let all:=List.range ops.size
  let cnt:=fun i=>iZ P ops ((all.map fun j=>(j,0)).filter fun j=>!(bs.getD i 0).testBit j.1 && !(bs.getD j.1 0).testBit i)
  match n with
  |0=>(all.filter fun i=>!acc.contains i).foldr (fun i t=>.st i (cnt i) t) .nil
  |n+1=>
   let one:=fun e=>let new:=(all.filter fun i=>(bs.getD e 0).testBit i && !acc.contains i)++ [e]
    new.foldr (fun i t=>.st i (cnt i) t) (RF P ops bs n (acc++new) (S.filter fun j=>!(j == e)))
   match S.filter fun e=>!S.any fun j=>(bs.getD e 0).testBit j with
   | []=>.nil
   |e::l=>l.foldl (fun t e=>.br t (one e)) (one e)
def DT (P:Program) (ops:Array Oper):List Nat:=(List.range ops.size).filter fun i=>match ops[i]? with|some o=>bW P o.op|none=>false
def trF:Tr→Option Tr
 |.nil=>some .nil
 |.st i c t=>match zC i with
  |some i=>match zC c with
   |some c=>match trF t with
    |some t=>some (.st i c t)
    |none=>none
   |none=>none
  |none=>none
 |.br t u=>match trF t with
  |some t=>match trF u with
   |some u=>some (.br t u)
   |none=>none
  |none=>none
def Oh:List (List HP)→List Hp→Prop
 | [],[]=>True
 |C::l,H::m=>bX C H∧Oh l m
 |_,_=>False
theorem Oh.take:∀ {l:List (List HP)} {m:List Hp},Oh l m→∀ {c:Nat} {h:Hp},h∈m.take c→∃C∈l.take c,bX C h
 | [],[],_,_,_,hh=>by simp at hh
 |C::l,H::m,hs,0,_,hh=>by simp at hh
 |C::l,H::m,hs,c+1,h,hh=>by
  simp only[List.take_succ_cons,List.mem_cons] at hh
  rcases hh with rfl|hh
  ·exact⟨C,by simp,hs.1⟩
  ·obtain⟨C',h1,h2⟩:=Oh.take hs.2 hh
   exact⟨C',by simp[h1],h2⟩
 | [],_::_,hs,_,_,_=>hs.elim
 |_::_,[],hs,_,_,_=>hs.elim
def aN (P:Program) (ops:Array Oper) (Q:Fr→List HP→Prop) (es:ET) (hist:List (List HP)) (a:Fr) (C:List HP):Prop:=
 ∀Hs H,Oh hist Hs→bX C H→QH P ops (upC Q) es Hs a H
def RdC (P:Program) (o:Oper) (a:Fr) (C:List HP) (v:Value):Prop:=∀H,bX C H→Jk P o a H=some v
def Ae (p:List HP→Prop):List (List HP)→Prop
 | []=>True
 |C::l=>p C∧Ae p l
theorem I0 {p:List HP→Prop}:∀ {l:List (List HP)},Ae p l→∀C∈l,p C
 | [],_,_,h=>by cases h
 |_::_,hp,C,h=>by
  rcases List.mem_cons.1 h with rfl|h
  ·exact hp.1
  ·exact I0 hp.2 C h
def Ap (P:Program) (o:Oper) (a:Fr) (C:List HP) (k:Value→List HP→Prop):Prop:=∀H,bX C H→lJ P o a H (upV k)
section
variable {P:Program} {ops:Array Oper} {Q:Fr→List HP→Prop} {a:Fr} {C:List HP} {c:Nat} {g:Bool} {o:Oper} {es:ET} {hist:List (List HP)} {v:Value}
theorem f8 (hk:kd P o.op=.pure) (hw:bE ops o a=true) (hv:b6 P o a=some v) (h:cX g v fun v=>aN P ops Q es hist (fA a o.dst v) C):aN P ops Q (ET.cons (c,g,o) es) hist a C:=fun Hs H h1 h2=>by
 simp only[QH,hw,if_true,hk]
 rw[cG] at h
 exact⟨v,hv,h Hs H h1 h2⟩
theorem UK (hk:kd P o.op=.load) (hw:bE ops o a=true) (hv:RdC P o a C v) (hh:Ae (fun C'=>RdC P o a C' v) (hist.take c)) (h:cX g v fun v=>aN P ops Q es hist (fA a o.dst v) C):aN P ops Q (ET.cons (c,g,o) es) hist a C:=fun Hs H h1 h2=>by
 simp only[QH,hw,if_true,hk]
 rw[cG] at h
 refine⟨v,hv H h2,fun x hx=>?_,h Hs H h1 h2⟩
 obtain⟨C',k1,k2⟩:=h1.take hx
 exact I0 hh C' k1 x k2
theorem xN (hk:kd P o.op=.other) (hw:bE ops o a=true) (h:Ap P o a C fun v C'=>cX g v fun v=>aN P ops Q es (C::hist) (fA a o.dst v) C'):aN P ops Q (ET.cons (c,g,o) es) hist a C:=fun Hs H h1 h2=>by
 simp only[QH,hw,if_true,hk]
 refine oI (fun v H' hk=>?_) (h H h2)
 obtain⟨C',k1,k2⟩:=hk
 rw[cG] at k2
 exact k2 (H::Hs) H' ⟨h2,h1⟩ k1
theorem Alk (hw:bE ops o a=false) (h:aN P ops Q es hist (fA a o.dst undef) C):aN P ops Q (ET.cons (c,g,o) es) hist a C:=fun Hs H h1 h2=>by
 simp only[QH,hw]
 exact h Hs H h1 h2
theorem Amg {x y:ET} (h1:aN P ops Q x hist a C) (h2:aN P ops Q y hist a C):aN P ops Q (.br x y) hist a C:=fun Hs H k1 k2=>⟨h1 Hs H k1 k2,h2 Hs H k1 k2⟩
theorem aQ (h:Q a C):aN P ops Q .nil hist a C:=fun _ _ _ h2=>⟨C,h2,h⟩
theorem Uh {C':List HP} (he:aG C C') (h:aN P ops Q es hist a C'):aN P ops Q es hist a C:=fun Hs H h1 h2=>h Hs H h1 (he H h2)
end
section
variable {P:Program} {Q:Exit→Fr→List HP→Prop} {a:Fr} {C:List HP} {id:Nat} {ol:List Oper} {es:ET}
theorem Hy (he:SL ol.toArray 0 ol=some es) (h:aN P ol.toArray (Q .normal) es [] a C):fN P (.region id ol.toArray false) Q a C:=fun H hs=>
 OK ol 0 es [] a H he (h [] H trivial hs)
theorem Mi {l:List (Nat×Nat)} (hl:CB (Kh P ol.toArray (Region.before ol.toArray))=some l) (hc:vF P ol.toArray (Region.before ol.toArray) l=true) (he:Js ol.toArray l=some es)
  (h:aN P ol.toArray (Q .normal) es [] a C):fN P (.region id ol.toArray true) Q a C:=fun H hs=>by
 have e:=VR hl
 exact .inl ⟨by rw[e];exact hc,by rw[e];exact O0 l es [] a H he (h [] H trivial hs)⟩
theorem Nr {t:Tr} (hl:trF (RF P ol.toArray (Region.before ol.toArray) (DT P ol.toArray).length [] (DT P ol.toArray))=some t) (hc:Iu P ol.toArray (Region.before ol.toArray) t=true) (he:DG ol.toArray t=some es)
  (h:aN P ol.toArray (Q .normal) es [] a C):fN P (.region id ol.toArray true) Q a C:=fun H hs=>
 .inr ⟨t,hc,Ha t es [] a H he (h [] H trivial hs)⟩
end
def dS (P:Program) (fn:Func) (K:Value→List HP→Prop):Exit→Fr→List HP→Prop
 |Exit.normal=>fun a C=>∀H,bX C H→Ab6 P fn (upV K) a H
 |Exit.ret=>fun a C=>∀H,bX C H→Ab6 P fn (upV K) a H
 |_=>fun _ _=>False
theorem PR {P:Program} (hm:P.follows .mixedOrders=true) {f:FuncId} {fn:Func} {c:Code} {args:Array Value} {C:List HP} {K:Value→List HP→Prop} (hf:P.funcs[f]?=some fn) (hb:fn.body=some c)
  (hn:(fn.name == "runtime.NumGoroutine")=false) (hc:qM fn.ntmps c=true) (hsz:args.size≤fn.ntmps) (h:fN P c (dS P fn K) (GL args.toList) C):aA P f args C K:=fun H hs=>by
 refine QW hm hf hb hn hc hsz (wI c (fun e a H hq=>?_) _ H (h H hs))
 obtain⟨C',h1,h2⟩:=hq
 cases e <;> first|exact h2 H h1|exact h2.elim
def zK (P:Program) (a:Fr) (C:List HP) (rs:List ResultVar) (vs:List Value):Prop:=∀H,bX C H→xE P a H rs=some vs
theorem bR {P:Program} {a:Fr} {C:List HP}:zK P a C [] []:=fun _ _=>rfl
theorem Akn {P:Program} {a:Fr} {C:List HP} {t:Tmp} {rs:List ResultVar} {v:Value} {vs:List Value} (hx:iC (a t)=some v) (h:zK P a C rs vs):zK P a C (.tmp t::rs) (v::vs):=fun H hs=>Ai6 hx (h H hs)
def YC (C:List HP) (B:Nat) (cs:List Value):Prop:=∀H,bX C H→∃e rw,H B=some (.cells cs e rw)
theorem sM {C:List HP} {B:Nat} {cs:List Value} {e:TypeId}:YC (pt B cs e::C) B cs:=fun H ⟨H1,H2,_,h1,_,ha,_⟩=>by
 obtain⟨b,h,l⟩:=h1 B _ ha
 have:=sP.le_own l rfl
 subst this
 exact⟨e,true,h⟩
theorem tP {A:HP} {C:List HP} {B:Nat} {cs:List Value} (h:YC C B cs):YC (A::C) B cs:=fun H hs=>h H hs.tail
theorem Afz {P:Program} {a:Fr} {C:List HP} {p:Tmp} {t:TypeId} {B off:Nat} {cs:List Value} {rs:List ResultVar} {v:Value} {vs:List Value} (hx:a p=.pointer (some ⟨B,off,none⟩)) (hb:YC C B cs) (hv:Q6 P t cs off=some v)
  (h:zK P a C rs vs):zK P a C (.cell p t::rs) (v::vs):=fun H hs=>by
 obtain⟨e,rw,hB⟩:=hb H hs
 exact Aid hx hB hv (h H hs)
theorem Aja {P:Program} {fn:Func} {K:Value→List HP→Prop} {a:Fr} {C C':List HP} {rs:List ResultVar} {vs:List Value} {v:Value} (hl:nB fn.results.toList=some rs) (hv:zK P a C rs vs) (ht:iC (RQ vs)=some v) (he:aG C C') (hk:K v C'):
  dS P fn K .ret a C:=fun H hs=>⟨vs,by rw[kN hl];exact hv H hs,H,NB.refl H,C',he H hs,by rw[gA ht];exact hk⟩
end Go.Sl
namespace Go.Sl
theorem vR (l:List UInt8):(ByteArray.mk l.toArray).size=l.length:=by simp[ByteArray.size]
theorem Aeq (z:Int):IntKind.wrap .u8 z=z % 256:=by
 simp[IntKind.wrap,IntKind.bits,IntKind.signed]
theorem Ac8 (z:Int):IntKind.wrap .u64 z=z % 18446744073709551616:=by
 simp[IntKind.wrap,IntKind.bits,IntKind.signed]
theorem ZX {k:IntKind} {m n:Int} (h0:0≤m) (h1:0<n) (hm:k.wrap (m / n)=m / n):k.wrap (m / n)=m / n:=hm
section
variable {P:Program} {a:Fr} {d:Option Tmp} {ty:TypeId} {pos:String} {after:Array Edge} {g:Option (Nat×Bool)} {t yt:TypeId} {x y z:Operand}
theorem Afu {k:IntKind} {m n:Int} (hx:bJ a x=.int k m) (hy:bJ a y=.int k n) (h0:0≤m) (h1:0<n) (h2:k.wrap (m / n)=m / n):b6 P ⟨d,.binOp .quo t x y yt,ty,pos,after,g⟩ a=some (.int k (m / n)):=by
 have:=ZJ (P:=P) (d:=d) (t:=t) (yt:=yt) (ty:=ty) (pos:=pos) (after:=after) (g:=g) hx hy (by omega)
 rw[this,Int.tdiv_eq_ediv_of_nonneg h0,h2]
theorem Agn {k:IntKind} {m n:Int} (hx:bJ a x=.int k m) (hy:bJ a y=.int k n) (h0:0≤m) (h1:0<n):b6 P ⟨d,.binOp .rem t x y yt,ty,pos,after,g⟩ a=some (.int k (m % n)):=by
 have:=Ads (P:=P) (d:=d) (t:=t) (yt:=yt) (ty:=ty) (pos:=pos) (after:=after) (g:=g) hx hy (by omega)
 rw[this,Int.tmod_eq_emod_of_nonneg h0]
theorem Ae1 {k k':IntKind} {m n:Int} {Amo:Array Operand} {ts:Array TypeId} (hargs:Amo.toList.map (bJ a)= [.int k m,.int k' n]):b6 P ⟨d,.call { callee:=.builtin .min,args:=Amo,argTypes:=ts },ty,pos,after,g⟩ a=some (.int k (min m n)):=by
 rw[Ajc hargs]
 congr 2
 split <;> omega
theorem Afv {k k':IntKind} {m n:Int} {Amo:Array Operand} {ts:Array TypeId} (hargs:Amo.toList.map (bJ a)= [.int k m,.int k' n]):b6 P ⟨d,.call { callee:=.builtin .max,args:=Amo,argTypes:=ts },ty,pos,after,g⟩ a=some (.int k (max m n)):=by
 rw[Akl hargs]
 congr 2
 split <;> omega
theorem Abz {t':TypeId} {k':IntKind} {n:Int} (hs:(P.underlying t).isSome=true) (ht:OZ P t'=some .u8) (hx:bJ a x=.int k' n):b6 P ⟨d,.convert t t' x,ty,pos,after,g⟩ a=some (.int .u8 (n % 256)):=by
 have:=MR (P:=P) (d:=d) (ty:=ty) (pos:=pos) (after:=after) (g:=g) hs ht hx
 rw[Aeq] at this;exact this
theorem ZE {t':TypeId} {k':IntKind} {n:Int} (hs:(P.underlying t).isSome=true) (ht:OZ P t'=some .u64) (hx:bJ a x=.int k' n):b6 P ⟨d,.convert t t' x,ty,pos,after,g⟩ a=some (.int .u64 (n % 18446744073709551616)):=by
 have:=MR (P:=P) (d:=d) (ty:=ty) (pos:=pos) (after:=after) (g:=g) hs ht hx
 rw[Ac8] at this;exact this
end
section
variable {P:Program} {ops:Array Oper} {Q:Fr→List HP→Prop} {a:Fr} {C:List HP} {c:Nat} {g:Bool} {o:Oper} {es:ET} {hist:List (List HP)} {v:Value} {k:Value→List HP→Prop}
end
section
variable {P:Program} {ops:Array Oper} {Q:Fr→List HP→Prop} {a:Fr} {C:List HP} {c:Nat} {gd:Bool} {es:ET} {hist:List (List HP)} {d':Tmp} {d:Option Tmp} {v:Value} {k:Value→List HP→Prop}
variable {ty:TypeId} {pos:String} {after:Array Edge} {g:Option (Nat×Bool)} {t yt:TypeId} {x y z:Operand} {op:Op}
theorem aW (h:aN P ops Q es hist (kJ a d' undef) C) (hw:bE ops ⟨some d',op,ty,pos,after,g⟩ a=false:=by exact rfl):aN P ops Q (ET.cons (c,gd,⟨some d',op,ty,pos,after,g⟩) es) hist a C:=Alk hw h
theorem aF (h:aN P ops Q es hist (kJ a d' v) C) (hv:opV P op a=some v:=by exact rfl) (hw:bE ops ⟨some d',op,ty,pos,after,g⟩ a=true:=by exact rfl):aN P ops Q (ET.cons (c,false,⟨some d',op,ty,pos,after,g⟩) es) hist a C:=
 f8 (Zr hv) hw (PM hv) (E2 rfl h)
theorem aI (h:cX gd v fun v=>aN P ops Q es hist (kJ a d' v) C) (hv:opV P op a=some v:=by exact rfl) (hw:bE ops ⟨some d',op,ty,pos,after,g⟩ a=true:=by exact rfl):aN P ops Q (ET.cons (c,gd,⟨some d',op,ty,pos,after,g⟩) es) hist a C:=
 f8 (Zr hv) hw (PM hv) h
theorem cB {m n:Int} (h:cX gd (.int .i64 (m+n)) fun v=>aN P ops Q es hist (kJ a d' v) C) (hx:bJ a x=.int .i64 m:=by exact rfl) (hy:bJ a y=.int .i64 n:=by exact rfl) (h0:-9223372036854775808≤m+n:=by first|omega|assumption) (h1:m+n≤9223372036854775807:=by first|omega|assumption) (hw:bE ops ⟨some d',.binOp .add t x y yt,ty,pos,after,g⟩ a=true:=by exact rfl):aN P ops Q (ET.cons (c,gd,⟨some d',.binOp .add t x y yt,ty,pos,after,g⟩) es) hist a C:=
 f8 rfl hw (YL hx hy h0 h1) h
theorem f4 {m n:Int} (h:cX gd (.int .i64 (m - n)) fun v=>aN P ops Q es hist (kJ a d' v) C) (hx:bJ a x=.int .i64 m:=by exact rfl) (hy:bJ a y=.int .i64 n:=by exact rfl) (h0:-9223372036854775808≤m - n:=by first|omega|assumption) (h1:m - n≤9223372036854775807:=by first|omega|assumption) (hw:bE ops ⟨some d',.binOp .sub t x y yt,ty,pos,after,g⟩ a=true:=by exact rfl):aN P ops Q (ET.cons (c,gd,⟨some d',.binOp .sub t x y yt,ty,pos,after,g⟩) es) hist a C:=
 f8 rfl hw (YZ hx hy h0 h1) h
theorem vI {m n:Int} (h:cX gd (.int .i64 (m * n)) fun v=>aN P ops Q es hist (kJ a d' v) C) (hx:bJ a x=.int .i64 m:=by exact rfl) (hy:bJ a y=.int .i64 n:=by exact rfl) (h0:-9223372036854775808≤m * n:=by first|omega|assumption) (h1:m * n≤9223372036854775807:=by first|omega|assumption) (hw:bE ops ⟨some d',.binOp .mul t x y yt,ty,pos,after,g⟩ a=true:=by exact rfl):aN P ops Q (ET.cons (c,gd,⟨some d',.binOp .mul t x y yt,ty,pos,after,g⟩) es) hist a C:=
 f8 rfl hw (Abw hx hy h0 h1) h
theorem QV {k:IntKind} {m n:Int} (h:cX gd (.int k (m / n)) fun v=>aN P ops Q es hist (kJ a d' v) C) (hx:bJ a x=.int k m:=by exact rfl) (hy:bJ a y=.int k n:=by exact rfl) (h0:0≤m:=by first|omega|assumption) (h1:0<n:=by first|omega|assumption) (h2:k.wrap (m / n)=m / n:=by first|(refine uV ?_ ?_ <;> omega)|(refine ZX ?_ ?_ (by assumption) <;> omega)) (hw:bE ops ⟨some d',.binOp .quo t x y yt,ty,pos,after,g⟩ a=true:=by exact rfl):aN P ops Q (ET.cons (c,gd,⟨some d',.binOp .quo t x y yt,ty,pos,after,g⟩) es) hist a C:=
 f8 rfl hw (Afu hx hy h0 h1 h2) h
theorem Ab {k:IntKind} {m n:Int} (h:cX gd (.int k (m % n)) fun v=>aN P ops Q es hist (kJ a d' v) C) (hx:bJ a x=.int k m:=by exact rfl) (hy:bJ a y=.int k n:=by exact rfl) (h0:0≤m:=by first|omega|assumption) (h1:0<n:=by first|omega|assumption) (hw:bE ops ⟨some d',.binOp .rem t x y yt,ty,pos,after,g⟩ a=true:=by exact rfl):aN P ops Q (ET.cons (c,gd,⟨some d',.binOp .rem t x y yt,ty,pos,after,g⟩) es) hist a C:=
 f8 rfl hw (Agn hx hy h0 h1) h
theorem lP {b:Bool} {v:Value} (h:cX gd (v) fun v=>aN P ops Q es hist (kJ a d' v) C) (hx:bJ a x=.bool b:=by exact rfl) (hv:iC (.bool !b)=some v:=by exact rfl) (hw:bE ops ⟨some d',.unOp .not t x,ty,pos,after,g⟩ a=true:=by exact rfl):aN P ops Q (ET.cons (c,gd,⟨some d',.unOp .not t x,ty,pos,after,g⟩) es) hist a C:=
 f8 rfl hw (Su hx hv) h
theorem fC {m n:ByteArray} (h:cX gd (.string (m++n)) fun v=>aN P ops Q es hist (kJ a d' v) C) (hx:bJ a x=.string m:=by exact rfl) (hy:bJ a y=.string n:=by exact rfl) (hs:m.size+n.size≤9223372036854775807:=by first|omega|(simp[vR] <;> omega)|decide) (hw:bE ops ⟨some d',.binOp .add t x y yt,ty,pos,after,g⟩ a=true:=by exact rfl):aN P ops Q (ET.cons (c,gd,⟨some d',.binOp .add t x y yt,ty,pos,after,g⟩) es) hist a C:=
 f8 rfl hw (Akz hx hy hs) h
theorem dK {B off n cp sz:Nat} {k:IntKind} {j:Int} (h:cX gd (.pointer (some ⟨B,off+j.toNat * sz,none⟩)) fun v=>aN P ops Q es hist (kJ a d' v) C) (hx:bJ a x=.slice (some ⟨B,off,none⟩) n cp:=by exact rfl) (hy:bJ a y=.int k j:=by exact rfl) (ht:sI P t=some sz:=by exact rfl) (h0:0≤j:=by first|omega|assumption) (h1:j<n:=by first|omega|assumption) (hw:bE ops ⟨some d',.indexAddr t x y,ty,pos,after,g⟩ a=true:=by exact rfl):aN P ops Q (ET.cons (c,gd,⟨some d',.indexAddr t x y,ty,pos,after,g⟩) es) hist a C:=
 f8 rfl hw (I1 ht hx hy h0 h1) h
theorem cK {B off n sz:Nat} {k:IntKind} {j:Int} (h:cX gd (.pointer (some ⟨B,off+j.toNat * sz,none⟩)) fun v=>aN P ops Q es hist (kJ a d' v) C) (hx:bJ a x=.pointer (some ⟨B,off,none⟩):=by exact rfl) (hy:bJ a y=.int k j:=by exact rfl) (ht:Ajj P t=some (n,sz):=by exact rfl) (h0:0≤j:=by first|omega|assumption) (h1:j<n:=by first|omega|assumption) (hw:bE ops ⟨some d',.indexAddr t x y,ty,pos,after,g⟩ a=true:=by exact rfl):aN P ops Q (ET.cons (c,gd,⟨some d',.indexAddr t x y,ty,pos,after,g⟩) es) hist a C:=
 f8 rfl hw (X8 ht hx hy h0 h1) h
theorem xG {s:ByteArray} {k:IntKind} {j:Int} (h:cX gd (.string (s.extract j.toNat s.size)) fun v=>aN P ops Q es hist (kJ a d' v) C) (hx:bJ a x=.string s:=by exact rfl) (hy:bJ a y=.int k j:=by exact rfl) (ht:nO P t=true:=by exact rfl) (h0:0≤j:=by first|omega|assumption) (h1:j≤s.size:=by first|omega|assumption) (hw:bE ops ⟨some d',.slice t x (some y) none none,ty,pos,after,g⟩ a=true:=by exact rfl):aN P ops Q (ET.cons (c,gd,⟨some d',.slice t x (some y) none none,ty,pos,after,g⟩) es) hist a C:=
 f8 rfl hw (Hh ht hx hy h0 h1) h
theorem wN {s:ByteArray} {k:IntKind} {j:Int} (h:cX gd (.string (s.extract 0 j.toNat)) fun v=>aN P ops Q es hist (kJ a d' v) C) (hx:bJ a x=.string s:=by exact rfl) (hy:bJ a y=.int k j:=by exact rfl) (ht:nO P t=true:=by exact rfl) (h0:0≤j:=by first|omega|assumption) (h1:j≤s.size:=by first|omega|assumption) (hw:bE ops ⟨some d',.slice t x none (some y) none,ty,pos,after,g⟩ a=true:=by exact rfl):aN P ops Q (ET.cons (c,gd,⟨some d',.slice t x none (some y) none,ty,pos,after,g⟩) es) hist a C:=
 f8 rfl hw (Hj ht hx hy h0 h1) h
theorem w9 {s:ByteArray} {k k':IntKind} {j m:Int} (h:cX gd (.string (s.extract j.toNat m.toNat)) fun v=>aN P ops Q es hist (kJ a d' v) C) (hx:bJ a x=.string s:=by exact rfl) (hy:bJ a y=.int k j:=by exact rfl) (hz:bJ a z=.int k' m:=by exact rfl) (ht:nO P t=true:=by exact rfl) (h0:0≤j:=by first|omega|assumption) (h1:j≤m:=by first|omega|assumption) (h2:m≤s.size:=by first|omega|assumption) (hw:bE ops ⟨some d',.slice t x (some y) (some z) none,ty,pos,after,g⟩ a=true:=by exact rfl):aN P ops Q (ET.cons (c,gd,⟨some d',.slice t x (some y) (some z) none,ty,pos,after,g⟩) es) hist a C:=
 f8 rfl hw (Qa ht hx hy hz h0 h1 h2) h
theorem dJ {ps:Array (Nat×Operand)} {vs:List (Nat×Value)} {v:Value} (h:cX gd (v) fun v=>aN P ops Q es hist (kJ a d' v) C) (hps:Cm a ps.toList=some vs:=by exact rfl) (hv:L2 P t vs=some v:=by exact rfl) (hw:bE ops ⟨some d',.build t ps,ty,pos,after,g⟩ a=true:=by exact rfl):aN P ops Q (ET.cons (c,gd,⟨some d',.build t ps,ty,pos,after,g⟩) es) hist a C:=
 f8 rfl hw (Aab hps hv) h
theorem yT {k k':IntKind} {m n:Int} {Amo:Array Operand} {ts:Array TypeId} (h:cX gd (.int k (min m n)) fun v=>aN P ops Q es hist (kJ a d' v) C) (hargs:Amo.toList.map (bJ a)= [.int k m,.int k' n]:=by exact rfl) (hw:bE ops ⟨some d',.call { callee:=.builtin .min,args:=Amo,argTypes:=ts },ty,pos,after,g⟩ a=true:=by exact rfl):aN P ops Q (ET.cons (c,gd,⟨some d',.call { callee:=.builtin .min,args:=Amo,argTypes:=ts },ty,pos,after,g⟩) es) hist a C:=
 f8 rfl hw (Ae1 hargs) h
theorem zY {k k':IntKind} {m n:Int} {Amo:Array Operand} {ts:Array TypeId} (h:cX gd (.int k (max m n)) fun v=>aN P ops Q es hist (kJ a d' v) C) (hargs:Amo.toList.map (bJ a)= [.int k m,.int k' n]:=by exact rfl) (hw:bE ops ⟨some d',.call { callee:=.builtin .max,args:=Amo,argTypes:=ts },ty,pos,after,g⟩ a=true:=by exact rfl):aN P ops Q (ET.cons (c,gd,⟨some d',.call { callee:=.builtin .max,args:=Amo,argTypes:=ts },ty,pos,after,g⟩) es) hist a C:=
 f8 rfl hw (Afv hargs) h
theorem aR {xs ys:Array Value} {b:Bool} (h:cX gd (.bool b) fun v=>aN P ops Q es hist (kJ a d' v) C) (hx:bJ a x=.agg xs:=by exact rfl) (hy:bJ a y=.agg ys:=by exact rfl) (hg:(!P.eqGuardType P.depth t && CM P 20 t)=true:=by decide +kernel) (he:eqV P 20 t (.agg xs) (.agg ys)=some b:=by exact rfl) (hw:bE ops ⟨some d',.binOp .eql t x y yt,ty,pos,after,g⟩ a=true:=by exact rfl):aN P ops Q (ET.cons (c,gd,⟨some d',.binOp .eql t x y yt,ty,pos,after,g⟩) es) hist a C:=
 f8 rfl hw (Rj hx hy hg he) h
theorem bZ {xs ys:Array Value} {b:Bool} (h:cX gd (.bool (!b)) fun v=>aN P ops Q es hist (kJ a d' v) C) (hx:bJ a x=.agg xs:=by exact rfl) (hy:bJ a y=.agg ys:=by exact rfl) (hg:(!P.eqGuardType P.depth t && CM P 20 t)=true:=by decide +kernel) (he:eqV P 20 t (.agg xs) (.agg ys)=some b:=by exact rfl) (hw:bE ops ⟨some d',.binOp .neq t x y yt,ty,pos,after,g⟩ a=true:=by exact rfl):aN P ops Q (ET.cons (c,gd,⟨some d',.binOp .neq t x y yt,ty,pos,after,g⟩) es) hist a C:=
 f8 rfl hw (TR hx hy hg he) h
theorem Nu {yk:IntKind} {u:Int} (h:cX gd (.int .i64 (u * 256)) fun v=>aN P ops Q es hist (kJ a d' v) C) (hx:bJ a x=.int .i64 u:=by exact rfl) (hy:bJ a y=.int yk 8:=by exact rfl) (h0:0≤u:=by first|omega|assumption) (h1:u<18014398509481984:=by first|omega|assumption) (hw:bE ops ⟨some d',.binOp .shl t x y yt,ty,pos,after,g⟩ a=true:=by exact rfl):aN P ops Q (ET.cons (c,gd,⟨some d',.binOp .shl t x y yt,ty,pos,after,g⟩) es) hist a C:=
 f8 rfl hw (Aei hx hy h0 h1) h
theorem Aaw {u b:Int} (h:cX gd (.int .i64 (u * 256+b)) fun v=>aN P ops Q es hist (kJ a d' v) C) (hx:bJ a x=.int .i64 (u * 256):=by exact rfl) (hy:bJ a y=.int .i64 b:=by exact rfl) (h0:0≤u:=by first|omega|assumption) (h1:u<18014398509481984:=by first|omega|assumption) (h2:0≤b:=by first|omega|assumption) (h3:b<256:=by first|omega|assumption) (hw:bE ops ⟨some d',.binOp .or t x y yt,ty,pos,after,g⟩ a=true:=by exact rfl):aN P ops Q (ET.cons (c,gd,⟨some d',.binOp .or t x y yt,ty,pos,after,g⟩) es) hist a C:=
 f8 rfl hw (Akh hx hy h0 h1 h2 h3) h
theorem kA {t':TypeId} {k':IntKind} {n:Int} (h:cX gd (.int .i64 n) fun v=>aN P ops Q es hist (kJ a d' v) C) (hx:bJ a x=.int k' n:=by exact rfl) (ht:OZ P t'=some .i64:=by exact rfl) (hs:(P.underlying t).isSome=true:=by exact rfl) (h0:-9223372036854775808≤n:=by first|omega|assumption) (h1:n≤9223372036854775807:=by first|omega|assumption) (hk:kd P (.convert t t' x)=.pure:=by exact rfl) (hw:bE ops ⟨some d',.convert t t' x,ty,pos,after,g⟩ a=true:=by exact rfl):aN P ops Q (ET.cons (c,gd,⟨some d',.convert t t' x,ty,pos,after,g⟩) es) hist a C:=
 f8 hk hw (Xl hs ht hx h0 h1) h
theorem nM {t':TypeId} {k':IntKind} {n:Int} (h:cX gd (.int .u8 (n % 256)) fun v=>aN P ops Q es hist (kJ a d' v) C) (hx:bJ a x=.int k' n:=by exact rfl) (ht:OZ P t'=some .u8:=by exact rfl) (hs:(P.underlying t).isSome=true:=by exact rfl) (hk:kd P (.convert t t' x)=.pure:=by exact rfl) (hw:bE ops ⟨some d',.convert t t' x,ty,pos,after,g⟩ a=true:=by exact rfl):aN P ops Q (ET.cons (c,gd,⟨some d',.convert t t' x,ty,pos,after,g⟩) es) hist a C:=
 f8 hk hw (Abz hs ht hx) h
theorem mA {t':TypeId} {k':IntKind} {n:Int} (h:cX gd (.int .u64 (n % 18446744073709551616)) fun v=>aN P ops Q es hist (kJ a d' v) C) (hx:bJ a x=.int k' n:=by exact rfl) (ht:OZ P t'=some .u64:=by exact rfl) (hs:(P.underlying t).isSome=true:=by exact rfl) (hk:kd P (.convert t t' x)=.pure:=by exact rfl) (hw:bE ops ⟨some d',.convert t t' x,ty,pos,after,g⟩ a=true:=by exact rfl):aN P ops Q (ET.cons (c,gd,⟨some d',.convert t t' x,ty,pos,after,g⟩) es) hist a C:=
 f8 hk hw (ZE hs ht hx) h
theorem Adn {B off:Nat} {cs:List Value} (hb:YC C B cs) (hx:bJ a x=.pointer (some ⟨B,off,none⟩)) (hv:Q6 P t cs off=some v):RdC P ⟨d,.load t x,ty,pos,after,g⟩ a C v:=fun H hs=>by
 obtain⟨e,rw,hB⟩:=hb H hs
 exact T4 (by rw[hx];exact L1 hB hv)
def Al0 (P:Program) (t:TypeId) (B off:Nat) (v:Value) (C:List HP):Prop:=∃cs,YC C B cs∧Q6 P t cs off=some v
theorem Ale {B off:Nat} {cs:List Value} (hb:YC C B cs:=by((repeat (first|exact sM|exact has_ro|apply tP)) <;> exact sM)) (hv:Q6 P t cs off=some v:=by exact rfl):Al0 P t B off v C:=⟨cs,hb,hv⟩
theorem Fx {p:List HP→Prop}:Ae p []:=trivial
theorem Mt {p:List HP→Prop} {l:List (List HP)} (h:p C) (hl:Ae p l):Ae p (C::l):=⟨h,hl⟩
theorem Mb {p q:List HP→Prop} (hpq:∀C,p C→q C):∀ {l:List (List HP)},Ae p l→Ae q l
 | [],_=>trivial
 |_::_,h=>⟨hpq _ h.1,Mb hpq h.2⟩
theorem bF {B off:Nat} {cs:List Value} (h:cX gd v fun v=>aN P ops Q es hist (kJ a d' v) C) (hx:bJ a x=.pointer (some ⟨B,off,none⟩):=by exact rfl)
  (hb:YC C B cs:=by((repeat (first|exact sM|exact has_ro|apply tP)) <;> exact sM)) (hv:Q6 P t cs off=some v:=by exact rfl)
  (hh:Ae (Al0 P t B off v) (hist.take c):=by((repeat (first|exact Fx|refine Mt Ale ?_)) <;> exact Fx))
  (hw:bE ops ⟨some d',.load t x,ty,pos,after,g⟩ a=true:=by exact rfl):aN P ops Q (ET.cons (c,gd,⟨some d',.load t x,ty,pos,after,g⟩) es) hist a C:=
 UK rfl hw (Adn hb hx hv) (Mb (fun _ ⟨_,k1,k2⟩=>Adn k1 hx k2) hh) h
theorem nH {B:Nat} {cs:List Value} {e:TypeId} {H:Hp} (hs:bX (pt B cs e::C) H):H B=some (.cells cs e true)∧∀b:sP,(∃cs',b=.cells cs' e true)→bX C (hupd H B b):=by
 obtain⟨H1,H2,hc,h1,h2,ha,hs⟩:=hs
 obtain⟨b,hb,l⟩:=h1 B _ ha
 have:=sP.le_own l rfl
 subst this
 refine⟨hb,fun b _=>hs.mono fun r x hx=>?_⟩
 have hne:r≠B:=fun e=>by subst e;have:=(hc r _ x ha hx).1;cases this
 rw[jT _ _ hne]
 exact h2 r x hx
theorem rS {r:Nat} {cs:List Value} {e:TypeId} {H:Hp} (hr:H r=none) (hs:bX C H):bX (pt r cs e::C) (hupd H r (.cells cs e true)):=
 ⟨mR r (.cells cs e true),H,(fun B b x hb hx=>by rw[(DL hb).1,hr] at hx;cases hx),Dq (j7 _ _ _) (sP.le_refl _),
  (fun B b hb=>⟨b,by rw[jT _ _ (fun e=>by subst e;rw[hr] at hb;cases hb)];exact hb,b.le_refl⟩),wL _ _,hs⟩
theorem rC {B:Nat} {cs cs':List Value} {e:TypeId} {H:Hp} (hs:bX (pt B cs e::C) H):bX (pt B cs' e::C) (hupd H B (.cells cs' e true)):=by
 obtain⟨H1,H2,hc,h1,h2,ha,hs⟩:=hs
 have hn:H2 B=none:=by
  cases hx:H2 B with
  |none=>rfl
  |some x=>have:=(hc B _ x ha hx).1;cases this
 refine⟨mR B (.cells cs' e true),H2,(fun r b x hb hx=>by rw[(DL hb).1,hn] at hx;cases hx),Dq (j7 _ _ _) (sP.le_refl _),fun r b hb=>?_,wL _ _,hs⟩
 rw[jT _ _ (fun e=>by subst e;rw[hn] at hb;cases hb)]
 exact h2 r b hb
theorem G_o (h:Ap P ⟨some d',op,ty,pos,after,g⟩ a C fun v C'=>cX gd v fun v=>aN P ops Q es (C::hist) (kJ a d' v) C') (hk:kd P op=.other:=by exact rfl) (hw:bE ops ⟨some d',op,ty,pos,after,g⟩ a=true:=by exact rfl):
  aN P ops Q (ET.cons (c,gd,⟨some d',op,ty,pos,after,g⟩) es) hist a C:=xN hk hw h
theorem Ach (h:Ap P ⟨none,op,ty,pos,after,g⟩ a C fun _ C'=>aN P ops Q es (C::hist) a C') (hk:kd P op=.other:=by exact rfl) (hw:bE ops ⟨none,op,ty,pos,after,g⟩ a=true:=by exact rfl):
  aN P ops Q (ET.cons (c,gd,⟨none,op,ty,pos,after,g⟩) es) hist a C:=xN hk hw fun H hs=>oI (fun _ _ ⟨C',h1,h2⟩=>⟨C',h1,(cG _ _ _).2 h2⟩) (h H hs)
theorem bS {B off n:Nat} {cs cs' vs:List Value} {e:TypeId} {u:Value} {R:List HP} (h:aN P ops Q es (C::hist) a (pt B cs' e::R)) (hx:bJ a x=.pointer (some ⟨B,off,none⟩):=by exact rfl)
  (hp:aV (pt B cs e) C R:=by((repeat (first|exact aV.here|apply aV.there)) <;> exact aV.here)) (hy:iC (bJ a y)=some u:=by exact rfl) (hvs:nB u.cells.toList=some vs:=by exact rfl) (ht:oZ P t=some n:=by exact rfl)
  (hn:(vs.length == n)=true:=by exact rfl) (mR:(vs.all Value.oneCell')=true:=by exact rfl) (hle:Nat.ble (off+n) cs.length=true:=by exact rfl) (hs:nB (uK cs off vs)=some cs':=by exact rfl)
  (hw:bE ops ⟨none,.store t x y,ty,pos,after,g⟩ a=true:=by exact rfl):aN P ops Q (ET.cons (c,gd,⟨none,.store t x y,ty,pos,after,g⟩) es) hist a C:=
 Ach (hw:=hw) fun H hH=>by
  have h1:=hp.sats hH
  exact SH hx hy hvs ht hn mR (nH h1).1 hle hs ⟨_,rC h1,h⟩
theorem eB {zs zs':List Value} (h:∀r,cX gd (.pointer (some ⟨r,0,none⟩)) fun v=>aN P ops Q es (C::hist) (kJ a d' v) (pt r zs' t::C)) (hz:AM P t=some zs:=by exact rfl) (hc:nB zs=some zs':=by exact rfl)
  (hw:bE ops ⟨some d',.alloc t,ty,pos,after,g⟩ a=true:=by exact rfl):aN P ops Q (ET.cons (c,gd,⟨some d',.alloc t,ty,pos,after,g⟩) es) hist a C:=
 xN rfl hw fun H hH=>Rm hz hc fun r hr=>⟨_,rS hr hH,h r⟩
theorem eS {u:Value} {vs:List Value} (h:∀r,cX gd (.pointer (some ⟨r,0,none⟩)) fun v=>aN P ops Q es (C::hist) (kJ a d' v) (pt r vs t::C)) (hx:iC (bJ a x)=some u:=by exact rfl) (hvs:nB u.cells.toList=some vs:=by exact rfl)
  (hw:bE ops ⟨some d',.box t x,ty,pos,after,g⟩ a=true:=by exact rfl):aN P ops Q (ET.cons (c,gd,⟨some d',.box t x,ty,pos,after,g⟩) es) hist a C:=
 xN rfl hw fun H hH=>Ab7 hx hvs fun r hr=>⟨_,rS hr hH,h r⟩
theorem dP {ps:Array (Nat×Operand)} {n:Nat} {vs:List (Nat×Value)} {cs:List Value} {e:TypeId} (h:∀r,cX gd (.slice (some ⟨r,0,none⟩) n n) fun v=>aN P ops Q es (C::hist) (kJ a d' v) (pt r cs e::C))
  (hps:Cm a ps.toList=some vs:=by exact rfl) (he:Ds P t=some e:=by exact rfl) (hc:Mu P t n vs=some cs:=by exact rfl)
  (hw:bE ops ⟨some d',.buildSlice t n ps,ty,pos,after,g⟩ a=true:=by exact rfl):aN P ops Q (ET.cons (c,gd,⟨some d',.buildSlice t n ps,ty,pos,after,g⟩) es) hist a C:=
 xN rfl hw fun H hH=>JP hps he hc fun r hr=>⟨_,rS hr hH,h r⟩
theorem bL {f:FuncId} {Amo:Array Operand} {ts:Array TypeId} {vs:List Value} (h:aA P f vs.toArray C fun v C'=>cX gd v fun v=>aN P ops Q es (C::hist) (kJ a d' v) C') (hargs:uY a Amo.toList=some vs:=by exact rfl)
  (hw:bE ops ⟨some d',.call { callee:=.value (.func f),args:=Amo,argTypes:=ts },ty,pos,after,g⟩ a=true:=by exact rfl):
  aN P ops Q (ET.cons (c,gd,⟨some d',.call { callee:=.value (.func f),args:=Amo,argTypes:=ts },ty,pos,after,g⟩) es) hist a C:=
 xN rfl hw fun H hH=>Ah6 hargs (h H hH)
theorem hM {f:FuncId} {fs cs:Array Value} {Amo:Array Operand} {ts:Array TypeId} {vs ws:List Value} (h:aA P f ws.toArray C fun v C'=>cX gd v fun v=>aN P ops Q es (C::hist) (kJ a d' v) C') (hx:bJ a x=.func (.func f) fs cs:=by exact rfl) (hargs:uY a Amo.toList=some vs:=by exact rfl)
  (hws:nB (fs.toList++vs++cs.toList)=some ws:=by exact rfl) (hw:bE ops ⟨some d',.call { callee:=.value x,args:=Amo,argTypes:=ts },ty,pos,after,g⟩ a=true:=by exact rfl):
  aN P ops Q (ET.cons (c,gd,⟨some d',.call { callee:=.value x,args:=Amo,argTypes:=ts },ty,pos,after,g⟩) es) hist a C:=
 xN rfl hw fun H hH=>OE hx hargs (by have e:=kN hws;have e2:(fs++vs.toArray++cs)=ws.toArray:=by apply Array.ext';simp[← e]
                                     rw[e2];exact h H hH)
end
end Go.Sl
namespace Go.Sl
theorem Ik {P:Program} {H:Hp} {st xt ty e:TypeId} {inf:TypeInfo} {z x:Value} {A:Option Addr} {n m c:Nat} {xs news:List Value} {q:Value→Hp→Prop} (hst:P.underlying st=some (.slice e)) (hxt:BA P xt=true) (hi:P.info? e=some inf) (hz:inf.zero=some z)
  (hzs:z.cells.size=inf.size) (hlen:(Builtin.lenOf x).pr P=some m) (hnews:(Builtin.firstCells inf.size m x).rd P H=some news.toArray) (hnl:news.length=m * inf.size) (mR:(news.all Value.oneCell')=true) (hxl:xs.length=n * inf.size)
  (hrow:(A=none∧n=0∧c=0)∨∃B pre post e' rw,A=some ⟨B,pre.length,none⟩∧H B=some (.cells (pre++xs++post) e' rw)∧n≤c∧(c - n) * inf.size≤post.length∧(m=0∨rw=true∨c<n+m))
  (hbig:(2 * (n+m)+512) * inf.bytes≤281474976710656) (hby:inf.bytes≠0)
  (h0:m=0→q (.slice A n c) H)
  (h1:∀B pre post e',A=some ⟨B,pre.length,none⟩→H B=some (.cells (pre++xs++post) e' true)→n+m≤c→(c - n) * inf.size≤post.length→q (.slice A (n+m) c) (hupd H B (.cells (pre++(xs++news)++post.drop news.length) e' true)))
  (hk:∀r post N,H r=none→n+m≤N→post.length=(N - (n+m)) * inf.size→c<n+m→q (.slice (some ⟨r,0,none⟩) (n+m) N) (hupd H r (.cells (xs++news++post) e true))):
  (Builtin.append_ #[st,xt] ty #[.slice A n c,x]).ev P H q:=by
 obtain⟨D,hD,hDn⟩:=DX hxt
 unfold Builtin.append_
 simp only[List.getElem?_toArray,List.getElem?_cons_zero,List.getElem?_cons_succ]
 rw[aJ,aP (aL hst)]
 simp only
 rw[aJ,aP (fF hi)]
 rw[aJ,aP (aL hD),pure_bind]
 simp only[Bool.false_eq_true,if_false,Bool.not_false,if_true,false_or]
 rw[aJ,aP hlen]
 by_cases hle:n+m≤c
 ·rw[if_pos hle,aJ]
  refine rN hnews ?_
  rcases hrow with⟨g1,g2,g3⟩|⟨B,pre,post,e',rw,g1,hb,hnc,hpl,hrw⟩
  ·subst g1 g2 g3
   have hm0:m=0:=by omega
   subst hm0
   exact h0 rfl
  ·subst g1
   simp only
   rw[aJ,nG]
   by_cases hm0:m=0
   ·subst hm0
    have:news= []:=by simpa using hnl
    subst this
    exact h0 rfl
   ·have hrt:rw=true:=by
     rcases hrw with h|h|h
     ·exact absurd h hm0
     ·exact h
     ·omega
    subst hrt
    have hml:m * inf.size≤post.length:=Nat.le_trans (Nat.mul_le_mul_right _ (by omega)) hpl
    refine m6 news 0 _ _ H _ hb (by simp[hxl,hnl];omega) mR ?_
    have hset:mI (pre++xs++post) (pre.length+n * inf.size+0) news=pre++(xs++news)++post.drop news.length:=by
     have:=EL news (pre++xs) post (by rw[hnl];exact hml)
     rw[List.length_append,hxl] at this
     rw[Nat.add_zero,this]
     simp
    rw[hset]
    exact h1 B pre post e' rfl hb hle hpl
 ·rw[if_neg hle]
  have hmax:IntKind.i64.max=9223372036854775807:=by decide
  have hpos:0<inf.bytes:=Nat.pos_of_ne_zero hby
  have hcap:c<n+m:=by omega
  have hnc:=Iy hcap
  have hle2:Builtin.nextslicecap (n+m) c * inf.bytes≤281474976710656:=Nat.le_trans (Nat.mul_le_mul_right _ hnc) hbig
  rw[aJ,aP (d3 hi),if_neg (by simp[hby])]
  rw[aJ,aP (d3 hi)]
  rw[if_neg (by have:(2:Nat) ^ 48=281474976710656:=by decide
                omega)]
  simp only[aJ]
  simp only[choose,Sem.ev]
  rw[if_neg (by simp[Question.forced])]
  intro t
  simp only[Question.cut]
  generalize hN:n+m+t % (2 ^ 63 - (n+m))=N
  have hNle:n+m≤N:=by omega
  rw[aP (d3 hi)]
  refine CW ?_
  have hold:(Builtin.firstCells inf.size n (.slice A n c)).rd P H=some xs.toArray:=by
   rcases hrow with⟨g1,g2,g3⟩|⟨B,pre,post,e',rw,g1,hb,hnc,hpl,hrw⟩
   ·subst g1 g2 g3
    have:xs= []:=by simpa using hxl
    subst this
    rfl
   ·subst g1
    rw[mT hb (by simp[hxl])]
    congr 1
    have:(pre++xs++post).drop pre.length=xs++post:=by simp
    rw[this,← hxl]
    simp
  refine rN hold ?_
  refine rN hnews ?_
  rw[aP (show(zeroValue e).pr P=some z from by simp only[zeroValue,aU,d3 hi,Option.bind_some,hz];rfl)]
  simp only[newRow,aJ]
  intro r hr
  refine⟨rfl,?_⟩
  have hcells:(xs.toArray++news.toArray++Builtin.zeroCells z.cells (N - (n+m))).toList=xs++news++(Builtin.zeroCells z.cells (N - (n+m))).toList:=by simp
  have:=hk r (Builtin.zeroCells z.cells (N - (n+m))).toList N hr hNle (by simp[Builtin.zeroCells,hzs]) hcap
  rw[← hcells] at this
  exact this
theorem Lw {P:Program} {st xt e:TypeId} {sz b:Nat} (h:O5 P st xt=some (e,sz,b)):∃inf z,P.underlying st=some (.slice e)∧BA P xt=true∧P.info? e=some inf∧inf.zero=some z∧z.cells.size=inf.size∧inf.bytes≠0∧inf.size=sz∧inf.bytes=b:=by
 have ht:=V7 h
 unfold PC at ht
 split at ht
 ·rename_i e' hst
  split at ht
  ·rename_i inf hi
   split at ht
   ·rename_i z hz
    split at ht
    ·rename_i hc
     cases ht
     exact⟨inf,z,hst,hc.2.2,hi,hz,hc.1,hc.2.1,rfl,rfl⟩
    ·cases ht
   ·cases ht
  ·cases ht
 ·cases ht
structure tJ (α:Type) where
 enc:α→List Value
 sz:Nat
 dec:List Value→Option α
 len:∀x,(enc x).length=sz
 one:∀x,((enc x).all Value.oneCell')=true
 ok:∀cs y,dec cs=some y→enc y=cs
section
variable {α:Type}
theorem tJ.flat_len (E:tJ α):∀l:List α,(l.flatMap E.enc).length=l.length * E.sz
 | []=>by simp
 |x::l=>by rw[List.flatMap_cons,List.length_append,E.len x,E.flat_len l,List.length_cons,Nat.add_mul,Nat.one_mul,Nat.add_comm]
theorem tJ.flat_one (E:tJ α) (l:List α):((l.flatMap E.enc).all Value.oneCell')=true:=by
 rw[List.all_flatMap]
 exact List.all_eq_true.2 fun x _=>E.one x
def bQ (A:Option Addr) (c:Nat) (e:TypeId) (E:tJ α) (xs:List α):HP:=fun H=>
 (A=none∧xs= []∧c=0)∨∃B pre post,A=some ⟨B,pre.length,none⟩∧H B=some (.cells (pre++xs.flatMap E.enc++post) e true)∧xs.length≤c∧(c - xs.length) * E.sz≤post.length
def m7 (A:Option Addr) (E:tJ α) (xs:List α):HP:=fun H=>
 xs= []∨∃B pre post e rw,A=some ⟨B,pre.length,none⟩∧H B=some (.cells (pre++xs.flatMap E.enc++post) e rw)
def dT (C:List HP) (A:Option Addr) (E:tJ α) (xs:List α):Prop:=∀H,bX C H→
 xs= []∨∃B pre post e rw,A=some ⟨B,pre.length,none⟩∧H B=some (.cells (pre++xs.flatMap E.enc++post) e rw)
theorem Al2 (cs:List Value) (e:TypeId) (rw:Bool):(sP.cells cs e false).le (.cells cs e rw):=by
 cases rw
 ·exact .inl rfl
 ·exact .inr ⟨cs,e,rfl,rfl⟩
def AN (A:HP):Prop:=∀H H',A H→Be H H'→A H'
theorem Qn {H H':Hp} {B:Nat} {cs:List Value} {e:TypeId} {rw:Bool} (h:H B=some (.cells cs e rw)) (hl:Be H H'):∃rw',H' B=some (.cells cs e rw'):=by
 obtain⟨b,hb,l⟩:=hl B _ h
 rcases l with rfl|⟨cs',e',g1,rfl⟩
 ·exact⟨rw,hb⟩
 ·cases g1;exact⟨true,hb⟩
theorem V8 (A:Option Addr) (E:tJ α) (xs:List α):AN (m7 A E xs):=fun H H' h hl=>by
 rcases h with h|⟨B,pre,post,e,rw,h1,h2⟩
 ·exact .inl h
 ·obtain⟨rw',h3⟩:=Qn h2 hl
  exact .inr ⟨B,pre,post,e,rw',h1,h3⟩
theorem oF (A:Option Addr) (E:tJ α) (xs:List α):Fj (m7 A E xs):=fun H h2=>by
 rcases h2 with h3|⟨B,pre,post,e,rw,h2,h3⟩
 ·exact⟨fun _=>none,(fun _ _ h=>by cases h),.inl h3,(fun _ _ h=>by cases h)⟩
 ·exact⟨mR B (.cells (pre++xs.flatMap E.enc++post) e false),Dq h3 (Al2 _ _ _),.inr ⟨B,pre,post,e,false,h2,wL _ _⟩,fun r b hb=>by rw[(DL hb).2];rfl⟩
def Ama (A B:HP):HP:=fun H=>A H∧B H
theorem Ze {A B:HP} {C:List HP} {H:Hp} (pa:Fj A) (pb:Fj B) (ma:AN A) (mb:AN B) (h:bX (A::B::C) H):bX (Ama A B::C) H:=by
 obtain⟨H1,H2,hc,h1,h2,ha,G1,G2,kc,k1,k2,kb,ks⟩:=h
 obtain⟨X,x1,x2,x3⟩:=pa H1 ha
 obtain⟨Y,y1,y2,y3⟩:=pb G1 kb
 have hxy:tE X Y:=fun r b c hb hc=>⟨x3 r b hb,y3 r c hc⟩
 have hx:Be X H:=x1.trans h1
 have hy:Be Y H:=y1.trans (k1.trans h2)
 refine⟨sX X Y,G2,tE.join (hc.le x1 |>.le2 k2) (kc.le y1),xA hx hy,k2.trans h2,⟨ma _ _ x2 (p7 _ _),mb _ _ y2 (oP hxy hx hy)⟩,ks⟩
variable {C R:List HP} {A:Option Addr} {c:Nat} {e:TypeId} {E:tJ α} {xs:List α}
theorem fG:dT (bQ A c e E xs::C) A E xs:=fun H ⟨H1,H2,_,k1,_,h2,_⟩=>by
 rcases h2 with⟨h2,h3,_⟩|⟨B,pre,post,h2,h3,_⟩
 ·exact .inl h3
 ·obtain⟨b,hb,l⟩:=k1 B _ h3
  have:=sP.le_own l rfl
  subst this
  exact .inr ⟨B,pre,post,e,true,h2,hb⟩
theorem j0:dT (m7 A E xs::C) A E xs:=fun H ⟨H1,H2,_,k1,_,h2,_⟩=>by
 rcases h2 with h3|⟨B,pre,post,e,rw,h2,h3⟩
 ·exact .inl h3
 ·obtain⟨rw',hb⟩:=Qn h3 k1
  exact .inr ⟨B,pre,post,e,rw',h2,hb⟩
theorem bM {X:HP} (h:dT C A E xs):dT (X::C) A E xs:=fun H hs=>h H hs.tail
theorem eI:dT C A E ([]:List α):=fun _ _=>.inl rfl
theorem Abc {C':List HP} (he:aG C C') (h:dT C' A E xs):dT C A E xs:=fun H hs=>h H (he H hs)
theorem Em {B off lo:Nat} {A':Option Addr} (h:dT C (some ⟨B,off,none⟩) E xs) (k:Nat) (hlo:lo≤xs.length) (hA:A'=some ⟨B,off+lo * E.sz,none⟩):dT C A' E ((xs.drop lo).take k):=fun H hs=>by
 rcases h H hs with h2|⟨B',pre,post,e,rw,h2,h3⟩
 ·subst h2;exact .inl (by simp)
 ·cases h2
  refine .inr ⟨B,pre++(xs.take lo).flatMap E.enc,((xs.drop lo).drop k).flatMap E.enc++post,e,rw,?_,?_⟩
  ·rw[hA,List.length_append,E.flat_len,List.length_take,Nat.min_eq_left hlo]
  ·rw[h3]
   have e1:xs=xs.take lo++((xs.drop lo).take k++(xs.drop lo).drop k):=by rw[List.take_append_drop,List.take_append_drop]
   have e2:xs.flatMap E.enc=(xs.take lo).flatMap E.enc++(((xs.drop lo).take k).flatMap E.enc++((xs.drop lo).drop k).flatMap E.enc):=by
    rw[← List.flatMap_append,← List.flatMap_append,← e1]
   rw[e2]
   simp only[List.append_assoc]
def Ahk (E:tJ α):Nat→List Value→Option (List α)
 |_,[]=>some []
 |0,_::_=>none
 |n+1,v::cs=>match E.dec ((v::cs).take E.sz) with
  |some x=>match Ahk E n ((v::cs).drop E.sz) with
   |some xs=>some (x::xs)
   |none=>none
  |none=>none
theorem Lx (E:tJ α):∀(n:Nat) (cs:List Value) (xs:List α),Ahk E n cs=some xs→xs.flatMap E.enc=cs
 |0,[],xs,h=>by cases h;rfl
 |n+1,[],xs,h=>by cases h;rfl
 |0,_::_,xs,h=>by cases h
 |n+1,v::cs,xs,h=>by
  simp only[Ahk] at h
  split at h
  ·rename_i x hx
   split at h
   ·rename_i ys hy
    cases h
    have h1:=Lx E n _ _ hy
    have h3:=E.ok _ _ hx
    rw[List.flatMap_cons,h1,h3,List.take_append_drop]
   ·cases h
  ·cases h
theorem vP {B:Nat} {cs:List Value} (hd:Ahk E cs.length cs=some xs:=by exact rfl):dT (pt B cs e::C) (some ⟨B,0,none⟩) E xs:=fun H ⟨H1,H2,_,k1,_,h3,_⟩=>by
 obtain⟨b,hb,l⟩:=k1 B _ h3
 have:=sP.le_own l rfl
 subst this
 exact .inr ⟨B,[],[],e,true,rfl,by rw[Lx E _ cs xs hd,List.nil_append,List.append_nil];exact hb⟩
theorem XT {B off j:Nat} {x:α} {H:Hp} (h:dT C (some ⟨B,off,none⟩) E xs) (hs:bX C H) (hx:xs[j]?=some x):∃cs e rw,H B=some (.cells cs e rw)∧off+j * E.sz+E.sz≤cs.length∧(cs.drop (off+j * E.sz)).take E.sz=E.enc x:=by
 rcases h H hs with h2|⟨B',pre,post,e,rw,h2,h3⟩
 ·subst h2;simp at hx
 ·cases h2
  have hj:j<xs.length:=by
   rcases Nat.lt_or_ge j xs.length with h|h
   ·exact h
   ·rw[List.getElem?_eq_none h] at hx;cases hx
  have hx':xs[j]=x:=by rw[List.getElem?_eq_getElem hj] at hx;exact Option.some.inj hx
  have e1:xs=xs.take j++x::xs.drop (j+1):=by
   conv=>lhs;rw[← List.take_append_drop j xs,List.drop_eq_getElem_cons hj,hx']
  have e2:xs.flatMap E.enc=(xs.take j).flatMap E.enc++(E.enc x++(xs.drop (j+1)).flatMap E.enc):=by
   conv=>lhs;rw[e1]
   simp
  have l1:((xs.take j).flatMap E.enc).length=j * E.sz:=by rw[E.flat_len,List.length_take,Nat.min_eq_left (by omega)]
  refine⟨_,e,rw,h3,?_,?_⟩
  ·simp only[List.length_append,E.flat_len]
   have:=Nat.mul_le_mul_right E.sz hj
   rw[Nat.succ_mul] at this
   omega
  ·rw[e2]
   have:pre++((xs.take j).flatMap E.enc++(E.enc x++(xs.drop (j+1)).flatMap E.enc))++post=(pre++(xs.take j).flatMap E.enc)++(E.enc x++((xs.drop (j+1)).flatMap E.enc++post)):=by simp[List.append_assoc]
   rw[this,List.drop_left' (by rw[List.length_append,l1]),List.take_left' (E.len x)]
end
theorem Ak4 {P:Program} {t:TypeId} {cs ys:List Value} {o k:Nat} {v:Value} (hy:(cs.drop o).take ys.length=ys) (hl:o+ys.length≤cs.length) (h:Q6 P t ys k=some v):Q6 P t cs (o+k)=some v:=by
 unfold Q6 at h ⊢
 split at h
 ·split at h
  ·rename_i i _
   split at h
   ·rename_i hle
    rw[if_pos (by omega)]
    have:(cs.drop (o+k)).take i.size=(ys.drop k).take i.size:=by
     rw[← hy,List.drop_take,List.drop_drop,List.take_take,Nat.min_eq_left (by omega)]
    rw[this];exact h
   ·cases h
  ·cases h
 ·have hk:k<ys.length:=by
   rcases Nat.lt_or_ge k ys.length with h'|h'
   ·exact h'
   ·rw[List.getElem?_eq_none h'] at h;cases h
  have e1:ys[k]?=cs[o+k]?:=by
   conv=>lhs;rw[← hy]
   rw[List.getElem?_take_of_lt hk,List.getElem?_drop]
  rw[← e1];exact h
 ·cases h
section
variable {P:Program} {ops:Array Oper} {Q:Fr→List HP→Prop} {a:Fr} {C:List HP} {c:Nat} {gd:Bool} {es:ET} {hist:List (List HP)} {d':Tmp} {d:Option Tmp} {v:Value}
variable {ty:TypeId} {pos:String} {after:Array Edge} {g:Option (Nat×Bool)} {t yt:TypeId} {x y z:Operand} {op:Op} {α:Type} {E:tJ α} {xs:List α}
theorem Adg {A:Option Addr} {j:Nat} (hv:dT C A E xs) (hj:j<xs.length) (h:∀B off,A=some ⟨B,off,none⟩→aN P ops Q es hist a C):aN P ops Q es hist a C:=fun Hs H h1 h2=>by
 rcases hv H h2 with h3|⟨B,pre,post,e,rw,h3,_⟩
 ·subst h3;simp at hj
 ·exact h B pre.length h3 Hs H h1 h2
theorem xK {A:Option Addr} {n cp sz:Nat} {k:IntKind} {j:Int} (h:∀B off,A=some ⟨B,off,none⟩→cX gd (.pointer (some ⟨B,off+j.toNat * sz,none⟩)) fun v=>aN P ops Q es hist (kJ a d' v) C)
  (hx:bJ a x=.slice A n cp:=by exact rfl) (hy:bJ a y=.int k j:=by exact rfl) (ht:sI P t=some sz:=by exact rfl) (hv:dT C A E xs:=by((repeat (first|exact fG|exact j0|exact vP|assumption|apply bM)) <;> exact fG))
  (hn:xs.length=n:=by first|exact rfl|assumption|omega) (h0:0≤j:=by first|omega|assumption) (h1:j<n:=by first|omega|assumption) (hw:bE ops ⟨some d',.indexAddr t x y,ty,pos,after,g⟩ a=true:=by exact rfl):
  aN P ops Q (ET.cons (c,gd,⟨some d',.indexAddr t x y,ty,pos,after,g⟩) es) hist a C:=
 Adg (j:=j.toNat) hv (by omega) fun B off hA=>by
  subst hA
  exact f8 rfl hw (I1 ht hx hy h0 h1) (h B off rfl)
theorem GD {B off j k sz:Nat} {y:α} (hv:dT C (some ⟨B,off,none⟩) E xs) (hsz:E.sz=sz) (hj:xs[j]?=some y) (hx:bJ a x=.pointer (some ⟨B,off+j * sz+k,none⟩)) (hl:Q6 P t (E.enc y) k=some v):RdC P ⟨d,.load t x,ty,pos,after,g⟩ a C v:=fun H hs=>by
 obtain⟨cs,e,rw,h1,h2,h3⟩:=XT hv hs hj
 subst hsz
 exact T4 (by rw[hx];exact L1 h1 (Ak4 (by rw[E.len];exact h3) (by rw[E.len];exact h2) hl))
def Alu (P:Program) (t:TypeId) (B off sz j k:Nat) (v:Value) (C:List HP):Prop:=∃(α:Type) (E:tJ α) (xs:List α) (y:α),dT C (some ⟨B,off,none⟩) E xs∧E.sz=sz∧xs[j]?=some y∧Q6 P t (E.enc y) k=some v
theorem aY {B off sz j k:Nat} {u:α} (h:cX gd v fun v=>aN P ops Q es hist (kJ a d' v) C) (hx:bJ a x=.pointer (some ⟨B,off+j * sz+k,none⟩):=by exact rfl)
  (hv:dT C (some ⟨B,off,none⟩) E xs:=by((repeat (first|exact fG|exact j0|exact vP|assumption|apply bM)) <;> exact fG)) (hs:E.sz=sz:=by exact rfl) (hj:xs[j]?=some u:=by first|assumption|exact rfl) (hl:Q6 P t (E.enc u) k=some v:=by exact rfl)
  (hh:Ae (Alu P t B off sz j k v) (hist.take c):=by((repeat (first|exact Fx|refine Mt hv_mk ?_)) <;> exact Fx))
  (hw:bE ops ⟨some d',.load t x,ty,pos,after,g⟩ a=true:=by exact rfl):aN P ops Q (ET.cons (c,gd,⟨some d',.load t x,ty,pos,after,g⟩) es) hist a C:=
 UK rfl hw (GD hv hs hj hx hl) (Mb (fun _ ⟨_,_,_,_,k1,k4,k2,k3⟩=>GD k1 k4 k2 hx k3) hh) h
theorem aO {B off sz j:Nat} {u:α} (h:cX gd v fun v=>aN P ops Q es hist (kJ a d' v) C) (hx:bJ a x=.pointer (some ⟨B,off+j * sz,none⟩):=by exact rfl)
  (hv:dT C (some ⟨B,off,none⟩) E xs:=by((repeat (first|exact fG|exact j0|exact vP|assumption|apply bM)) <;> exact fG)) (hs:E.sz=sz:=by exact rfl) (hj:xs[j]?=some u:=by first|assumption|exact rfl) (hl:Q6 P t (E.enc u) 0=some v:=by exact rfl)
  (hh:Ae (Alu P t B off sz j 0 v) (hist.take c):=by((repeat (first|exact Fx|refine Mt hv_mk ?_)) <;> exact Fx))
  (hw:bE ops ⟨some d',.load t x,ty,pos,after,g⟩ a=true:=by exact rfl):aN P ops Q (ET.cons (c,gd,⟨some d',.load t x,ty,pos,after,g⟩) es) hist a C:=
 UK rfl hw (GD (k:=0) hv hs hj (by rw[hx,Nat.add_zero]) hl) (Mb (fun _ ⟨_,_,_,_,k1,k4,k2,k3⟩=>GD (k:=0) k1 k4 k2 (by rw[hx,Nat.add_zero]) k3) hh) h
def Qk (n:Int):UInt8:=UInt8.ofNat (n % 256).toNat
theorem Ac6 (n:Int):lE (Qk n)=.int .u8 (n % 256):=by
 unfold lE Qk
 congr 1
 rw[UInt8.toNat_ofNat']
 omega
def Z8 (P:Program) (C:List HP) (u:Value) (E:tJ α) (ys:List α):Prop:=(Builtin.lenOf u).pr P=some ys.length∧∀H,bX C H→(Builtin.firstCells E.sz ys.length u).rd P H=some (ys.flatMap E.enc).toArray
theorem Xv {A:Option Addr} {cp sz:Nat} {H:Hp}:(Builtin.firstCells sz ([]:List α).length (.slice A ([]:List α).length cp)).rd P H=some (([]:List α).flatMap E.enc).toArray:=by
 cases A with
 |none=>rfl
 |some ad=>
  simp only[Builtin.firstCells,List.length_nil,Nat.zero_mul,loadCells,loadCellsFrom]
  rfl
theorem rD {A:Option Addr} {m cp:Nat} {ys:List α} (hv:dT C A E ys:=by first|assumption|(((repeat (first|exact fG|exact j0|exact vP|assumption|apply bM)) <;> exact fG))) (hm:ys.length=m:=by first|exact rfl|assumption|omega):Z8 P C (.slice A m cp) E ys:=by
 subst hm
 refine⟨rfl,fun H hs=>?_⟩
 rcases hv H hs with rfl|⟨B,pre,post,e,rw,rfl,h3⟩
 ·exact Xv
 ·rw[mT h3 (by simp[E.flat_len])]
  congr 1
  have:(pre++ys.flatMap E.enc++post).drop pre.length=ys.flatMap E.enc++post:=by simp
  rw[this,← E.flat_len]
  simp
theorem yO {B cp:Nat} {cs:List Value} {y:α} (hb:YC C B cs:=by((repeat (first|exact sM|exact has_ro|apply tP)) <;> exact sM)) (hd:E.dec cs=some y:=by exact rfl):Z8 P C (.slice (some ⟨B,0,none⟩) 1 cp) E [y]:=by
 refine⟨rfl,fun H hs=>?_⟩
 obtain⟨e,rw,h⟩:=hb H hs
 have hc:=E.ok _ _ hd
 have hl:=E.len y
 rw[hc] at hl
 rw[mT h (by simp[hl])]
 simp[hc,← hl]
def dL:tJ UInt8:= { enc:=fun b=> [lE b],sz:=1,dec:=fun _=>none,len:=fun _=>rfl,one:=fun _=>rfl,ok:=fun _ _ h=>by cases h }
theorem nQ (l:List UInt8):l.flatMap dL.enc=l.map lE:=by
 induction l with
 |nil=>rfl
 |cons b l ih=>rw[List.flatMap_cons,ih];rfl
theorem Gw {s:ByteArray}:Z8 P C (.string s) dL s.data.toList:=by
 refine⟨by simp[Builtin.lenOf];rfl,fun H hs=>?_⟩
 simp only[Builtin.firstCells]
 have:s.extract 0 s.data.toList.length=s:=by
  apply ByteArray.ext
  simp
 rw[this]
 simp only[x7]
 congr 1
 apply Array.ext'
 rw[nQ]
 simp[lE]
theorem Dy {B cp:Nat} {n:Int} (hb:YC C B [.int .u8 (n % 256)]:=by((repeat (first|exact sM|exact has_ro|apply tP)) <;> exact sM)):Z8 P C (.slice (some ⟨B,0,none⟩) 1 cp) dL [Qk n]:=by
 refine⟨rfl,fun H hs=>?_⟩
 obtain⟨e,rw,h⟩:=hb H hs
 rw[mT h (by simp[dL])]
 simp[dL,Ac6]
theorem kU {A:Option Addr} {c:Nat} {e:TypeId} {R:List HP} {H:Hp} (hs:bX (bQ A c e E xs::R) H):
  (A=none∧xs= []∧c=0∧bX R H)∨∃B pre post,A=some ⟨B,pre.length,none⟩∧bX (pt B (pre++xs.flatMap E.enc++post) e::R) H∧xs.length≤c∧(c - xs.length) * E.sz≤post.length:=by
 obtain⟨H1,H2,hc,k1,k2,h2,hs⟩:=hs
 rcases h2 with⟨h2,h3,h4⟩|⟨B,pre,post,h2,h3,h4,h5⟩
 ·exact .inl ⟨h2,h3,h4,hs.mono k2⟩
 ·exact .inr ⟨B,pre,post,h2,⟨H1,H2,hc,k1,k2,h3,hs⟩,h4,h5⟩
theorem iF {B c:Nat} {e:TypeId} {pre post:List Value} {R:List HP} {H:Hp} {A:Option Addr} (hA:A=some ⟨B,pre.length,none⟩) (hs:bX (pt B (pre++xs.flatMap E.enc++post) e::R) H) (h4:xs.length≤c)
  (h5:(c - xs.length) * E.sz≤post.length):bX (bQ A c e E xs::R) H:=by
 obtain⟨H1,H2,hc,k1,k2,h3,hs⟩:=hs
 exact⟨H1,H2,hc,k1,k2,.inr ⟨B,pre,post,hA,h3,h4,h5⟩,hs⟩
theorem s8 {e:TypeId} {R:List HP} {H:Hp} (hs:bX R H):bX (bQ none 0 e E ([]:List α)::R) H:=
 ⟨fun _=>none,H,(fun _ _ _ h=>by cases h),(fun _ _ h=>by cases h),Be.refl H,.inl ⟨rfl,rfl,rfl⟩,hs⟩
theorem aG.nilrow (e:TypeId) (E:tJ α) (C:List HP):aG C (bQ none 0 e E ([]:List α)::C):=fun _ hs=>s8 hs
theorem aG.nilrow' {e:TypeId} {C C':List HP} (h:aG C C'):aG C (bQ none 0 e E ([]:List α)::C'):=fun H hs=>s8 (h H hs)
theorem tZ {A:Option Addr} {c:Nat} {e:TypeId} {R C C':List HP} (hp:aV (bQ A c e E xs) C R) (h:aG (m7 A E xs::R) C'):aG C C':=fun H hs=>by
 refine h H ?_
 obtain⟨H1,H2,hc,h1,h2,ha,hs⟩:=hp.sats hs
 refine⟨H1,H2,hc,h1,h2,?_,hs⟩
 rcases ha with⟨g1,g2,_⟩|⟨B,pre,post,g1,g2,_⟩
 ·exact .inl g2
 ·exact .inr ⟨B,pre,post,e,true,g1,g2⟩
theorem Ap.ent {o:Oper} {C':List HP} {k:Value→List HP→Prop} (he:aG C C') (h:Ap P o a C' k):Ap P o a C k:=fun H hs=>h H (he H hs)
theorem KD {st xt e:TypeId} {sz bytes cp c0 n:Nat} {A:Option Addr} {ys:List α} {u:Value} {R:List HP} {k:Value→List HP→Prop} (ht:O5 P st xt=some (e,sz,bytes)) (hsz:E.sz=sz) (hx:bJ a x=.slice A n cp) (hn:xs.length=n) (hy:bJ a y=u) (hsrc:Z8 P C u E ys)
  (hp:aV (bQ A c0 e E xs) C R) (hcc:cp=c0∨(n≤cp∧cp≤c0)) (hbig:(2 * (n+ys.length)+512) * bytes≤281474976710656)
  (hk:∀A' c',k (.slice A' (xs++ys).length c') (bQ A' c' e E (xs++ys)::R)):Ap P ⟨d,.call { callee:=.builtin .append,args:=#[x,y],argTypes:=#[st,xt] },ty,pos,after,g⟩ a C k:=fun H hs=>by
 obtain⟨inf,zz,h1,h2,h3,h4,h5,h6,h7,rfl⟩:=Lw ht
 subst hsz
 have hrs:=hp.sats hs
 have hr:=kU hrs
 have hcl:n≤cp∧cp≤c0:=by
  rcases hcc with rfl|h
  ·rcases hr with⟨g1,g2,g3,g4⟩|⟨B,pre,post,g1,g2,g3,g4⟩
   ·subst g2 g3;simp at hn;omega
   ·omega
  ·exact h
 obtain⟨hcp,hc0⟩:=hcl
 have hmn:(xs++ys).length=n+ys.length:=by rw[List.length_append,hn]
 refine fK ?_
 simp only[execOp,resolve,List.map_toArray,List.map_cons,List.map_nil,hx,hy]
 rw[aJ,aP (show(pure _:Sem Deferred).pr P=some _ from rfl)]
 simp only[invoke,builtin,aJ]
 obtain⟨hlen,hcells⟩:=hsrc
 rw[hmn] at hk
 refine Ik (xs:=xs.flatMap E.enc) (news:=ys.flatMap E.enc) h1 h2 h3 h4 h5 hlen (by rw[h7];exact hcells H hs) (by rw[E.flat_len,h7]) (E.flat_one ys) (by rw[E.flat_len,hn,h7]) ?_ hbig h6 ?_ ?_ ?_
 ·rcases hr with⟨g1,g2,g3,g4⟩|⟨B,pre,post,g1,g2,g3,g4⟩
  ·subst g2;simp at hn;exact .inl ⟨g1,by omega,by omega⟩
  ·refine .inr ⟨B,pre,post,e,true,g1,(nH g2).1,hcp,?_,.inr (.inl rfl)⟩
   rw[h7]
   exact Nat.le_trans (Nat.mul_le_mul_right _ (by omega)) g4
 ·intro hm0
  have hys:ys= []:=by simpa using hm0
  have hk':=hk A cp
  subst hys
  rw[List.append_nil,List.length_nil,Nat.add_zero] at hk'
  refine⟨_,?_,hk'⟩
  rcases hr with⟨g1,g2,g3,g4⟩|⟨B,pre,post,g1,g2,g3,g4⟩
  ·subst g1 g2 g3
   have:cp=0:=by omega
   subst this
   exact s8 g4
  ·exact iF g1 g2 (by omega) (Nat.le_trans (Nat.mul_le_mul_right _ (by omega)) g4)
 ·intro B pre post e' hA hB hle hpl
  rcases hr with⟨g1,_⟩|⟨B',pre',post',g1,g2,g3,g4⟩
  ·rw[g1] at hA;cases hA
  ·rw[g1] at hA
   have hBB:B'=B:=congrArg Addr.block (Option.some.inj hA)
   subst hBB
   have hpre:pre'.length=pre.length:=congrArg Addr.off (Option.some.inj hA)
   have hB':=(nH g2).1
   rw[hB'] at hB
   injection hB with hB
   injection hB with hcs he _
   subst he
   rw[List.append_assoc,List.append_assoc] at hcs
   obtain⟨q1,q2⟩:=List.append_inj hcs hpre
   obtain⟨_,q3⟩:=List.append_inj q2 rfl
   subst q1 q3
   refine⟨_,iF (pre:=pre') (post:=post'.drop (ys.flatMap E.enc).length) g1 ?_ (by rw[hmn];exact hle) ?_,hk A cp⟩
   ·rw[List.flatMap_append]
    exact rC g2
   ·rw[hmn,List.length_drop,E.flat_len,← Nat.sub_sub,Nat.sub_mul,← h7]
    omega
 ·intro r post N hr0 hN hpl _
  refine⟨_,iF (pre:= []) (post:=post) rfl ?_ (by rw[hmn];exact hN) (by rw[hmn,hpl,h7];exact Nat.le_refl _),hk _ N⟩
  rw[List.flatMap_append,List.nil_append]
  exact rS hr0 hrs.tail
theorem cU {st xt e:TypeId} {sz bytes cp c0 n:Nat} {A:Option Addr} {ys:List α} {u:Value} {R:List HP} (h:∀A' c',cX gd (.slice A' (xs++ys).length c') fun v=>aN P ops Q es (C::hist) (kJ a d' v) (bQ A' c' e E (xs++ys)::R))
  (hx:bJ a x=.slice A n cp:=by exact rfl) (hy:bJ a y=u:=by exact rfl) (ht:O5 P st xt=some (e,sz,bytes):=by exact rfl) (hp:aV (bQ A c0 e E xs) C R:=by((repeat (first|exact aV.here|apply aV.there)) <;> exact aV.here)) (hsrc:Z8 P C u E ys:=by first|exact Dy|exact yO|exact Gw|exact rD) (hsz:E.sz=sz:=by exact rfl) (hn:xs.length=n:=by first|exact rfl|assumption|omega)
  (hcc:cp=c0∨(n≤cp∧cp≤c0):=by first|exact .inl rfl|exact .inr ⟨by omega,by omega⟩) (hbig:(2 * (n+ys.length)+512) * bytes≤281474976710656:=by first|omega|assumption|(simp only[List.length_cons,List.length_nil];omega))
  (hw:bE ops ⟨some d',.call { callee:=.builtin .append,args:=#[x,y],argTypes:=#[st,xt] },ty,pos,after,g⟩ a=true:=by exact rfl):aN P ops Q (ET.cons (c,gd,⟨some d',.call { callee:=.builtin .append,args:=#[x,y],argTypes:=#[st,xt] },ty,pos,after,g⟩) es) hist a C:=
 G_o (hw:=hw) (KD ht hsz hx hn hy hsrc hp hcc hbig h)
theorem dH {st xt e:TypeId} {sz bytes:Nat} {ys:List α} {u:Value} (h:∀A' c',cX gd (.slice A' ys.length c') fun v=>aN P ops Q es (C::hist) (kJ a d' v) (bQ A' c' e E ys::C))
  (hx:bJ a x=.slice none 0 0:=by exact rfl) (hy:bJ a y=u:=by exact rfl) (ht:O5 P st xt=some (e,sz,bytes):=by exact rfl) (hsrc:Z8 P C u E ys:=by first|exact Dy|exact yO|exact Gw|exact rD) (hsz:E.sz=sz:=by exact rfl)
  (hbig:(2 * (0+ys.length)+512) * bytes≤281474976710656:=by first|omega|assumption|(simp only[List.length_cons,List.length_nil];omega))
  (hw:bE ops ⟨some d',.call { callee:=.builtin .append,args:=#[x,y],argTypes:=#[st,xt] },ty,pos,after,g⟩ a=true:=by exact rfl):aN P ops Q (ET.cons (c,gd,⟨some d',.call { callee:=.builtin .append,args:=#[x,y],argTypes:=#[st,xt] },ty,pos,after,g⟩) es) hist a C:=
 G_o (hw:=hw) (Ap.ent (aG.nilrow e E C) (KD (xs:= []) ht hsz hx rfl hy ⟨hsrc.1,fun H hs=>hsrc.2 H hs.tail⟩ aV.here (.inl rfl) hbig h))
end
end Go.Sl
namespace Go.Sl
def Jd (A A':Option Addr) (l m sz:Nat):Prop:=A'=(if m=l then A else A.map (·.add (l * sz)))
section
variable {α:Type} {C:List HP} {A A':Option Addr} {E:tJ α} {xs:List α} {l m k sz:Nat}
theorem Fo (h:dT C A E xs) (hs:Jd A A' l m E.sz) (hl:l≤xs.length) (hm:xs.length≤m∨l+k≤m):dT C A' E ((xs.drop l).take k):=by
 unfold Jd at hs
 cases A with
 |none=>
  have:A'=none:=by rw[hs];split <;> rfl
  subst this
  intro H hH
  rcases h H hH with h2|⟨B,pre,post,e,rw,h2,_⟩
  ·subst h2;exact .inl (by simp)
  ·cases h2
 |some ad=>
  obtain⟨B,off,sp⟩:=ad
  intro H hH
  have hk:=h H hH
  rcases hk with h1|⟨B',pre,post,e,rw,h1,h2⟩
  ·subst h1;exact .inl (by simp)
  ·have hsp:sp=none:=by injection h1 with h1;injection h1
   subst hsp
   by_cases hml:m=l
   ·rw[if_pos hml] at hs
    have hnil:(xs.drop l).take k= []:=by
     rcases hm with hm|hm
     ·rw[List.drop_eq_nil_of_le (by omega)];simp
     ·have:k=0:=by omega
      subst this;simp
    rw[hnil,hs]
    cases h1
    exact .inr ⟨_,pre,xs.flatMap E.enc++post,e,rw,rfl,by rw[h2];simp⟩
   ·rw[if_neg hml] at hs
    refine Em h k hl ?_ H hH
    rw[hs]
    simp only[Option.map_some,nG]
theorem Ad7 {H:Hp} (h:m7 A E xs H) (hs:Jd A A' l m E.sz) (hl:l≤xs.length) (hm:xs.length≤m∨l+k≤m):m7 A' E ((xs.drop l).take k) H:=by
 have hv:dT [m7 A E xs] A E xs:=j0
 have hs1:bX [m7 A E xs] H:=⟨H,fun _=>none,(fun _ _ _ _ h=>by cases h),Be.refl _,(fun _ _ h=>by cases h),h,trivial⟩
 exact Fo hv hs hl hm H hs1
theorem Agh {c c':Nat} {e:TypeId} {H:Hp} (h:bQ A c e E xs H) (hs:Jd A A' l m E.sz) (hlk:l+k≤xs.length) (hlm:l+k≤m) (hm:m≤c):bQ A' (m - l) e E ((xs.drop l).take k) H:=by
 unfold Jd at hs
 rcases h with⟨rfl,rfl,rfl⟩|⟨B,pre,post,rfl,h2,h3,h4⟩
 ·have:A'=none:=by rw[hs];split <;> rfl
  exact .inl ⟨this,by simp,by omega⟩
 ·have hlen:((xs.drop l).take k).length=k:=by simp;omega
  by_cases hml:m=l
  ·rw[if_pos hml] at hs
   have hk0:k=0:=by omega
   subst hk0
   refine .inr ⟨B,pre,xs.flatMap E.enc++post,hs,by rw[h2];simp,by simp,?_⟩
   rw[hml];simp
  ·rw[if_neg hml] at hs
   simp only[Option.map_some,nG] at hs
   refine .inr ⟨B,pre++(xs.take l).flatMap E.enc,((xs.drop l).drop k).flatMap E.enc++post,?_,?_,?_,?_⟩
   ·rw[hs,List.length_append,E.flat_len,List.length_take,Nat.min_eq_left (by omega)]
   ·rw[h2]
    have e1:xs=xs.take l++((xs.drop l).take k++(xs.drop l).drop k):=by rw[List.take_append_drop,List.take_append_drop]
    have e2:xs.flatMap E.enc=(xs.take l).flatMap E.enc++(((xs.drop l).take k).flatMap E.enc++((xs.drop l).drop k).flatMap E.enc):=by
     rw[← List.flatMap_append,← List.flatMap_append,← e1]
    rw[e2]
    simp only[List.append_assoc]
   ·rw[hlen];omega
   ·rw[hlen,List.length_append,E.flat_len]
    simp only[List.length_drop]
    have h5:(m - l - k) * E.sz≤(xs.length - l - k) * E.sz+(c - xs.length) * E.sz:=by
     rw[← Nat.add_mul]
     exact Nat.mul_le_mul_right _ (by omega)
    omega
end
section
variable {P:Program} {a:Fr} {d:Option Tmp} {ty:TypeId} {pos:String} {after:Array Edge} {g:Option (Nat×Bool)} {t yt:TypeId} {x y z:Operand}
def wR (a:Fr) (dflt:Int):Option Operand→Option Int
 |none=>some dflt
 |some o=>match bJ a o with
  |.int _ n=>some n
  |_=>none
theorem SU {a:Fr} {dflt n:Int} {o:Option Operand} (h:wR a dflt o=some n):(o=none∧n=dflt)∨∃o' k,o=some o'∧bJ a o'=.int k n:=by
 unfold wR at h
 split at h
 ·exact .inl ⟨rfl,(Option.some.inj h).symm⟩
 ·rename_i o'
  split at h
  ·rename_i k n' he;cases h;exact .inr ⟨o',k,rfl,he⟩
  ·cases h
theorem JW {k:IntKind} {j:Int} {n:Nat} {code:BoundsCode} (h0:0≤j) (h1:j≤n):(Instr.sliceBound (.int k j) n code).pr P=some j.toNat:=by
 simp only[Instr.sliceBound,aU]
 rw[show(asIntOf (.int k j)).pr P=some (k,j) from rfl,Option.bind_some]
 simp only
 rw[if_pos ⟨h0,h1⟩]
 rfl
theorem Af {β:Type} (z:β):(Sem.pure z).pr P=some z:=rfl
theorem X7 {n cp:Nat} {lo hi mx:Option Operand} {l h m:Int} (hl:wR a 0 lo=some l) (hh:wR a n hi=some h) (hm:wR a cp mx=some m)
  (hmx:mx.isSome=true→hi.isSome=true) (h0:0≤l) (h1:l≤h) (h2:h≤m) (h3:m≤cp):(Instr.sliceBounds true n cp (lo.map (bJ a)) (hi.map (bJ a)) (mx.map (bJ a))).pr P=some (l.toNat,h.toNat,m.toNat):=by
 have b:∀(k:IntKind) (j:Int) (n:Nat) (code:BoundsCode),0≤j→j≤n→(Instr.sliceBound (.int k j) n code).pr P=some j.toNat:=fun _ _ _ _ h0 h1=>JW h0 h1
 rcases SU hm with⟨rfl,rfl⟩|⟨om,km,rfl,em⟩ <;> rcases SU hh with⟨rfl,rfl⟩|⟨oh,kh,rfl,eh⟩ <;> rcases SU hl with⟨rfl,rfl⟩|⟨ol,kl,rfl,el⟩
 ·rfl
 ·simp only[Instr.sliceBounds,aU,Af,pure,Option.bind_some,Option.map_none,Option.map_some,el]
  rw[b _ _ _ _ (by omega) (by omega)];rfl
 ·simp only[Instr.sliceBounds,aU,Af,pure,Option.bind_some,Option.map_none,Option.map_some,eh]
  rw[b _ _ _ _ (by omega) (by omega)];rfl
 ·simp only[Instr.sliceBounds,aU,Af,pure,Option.bind_some,Option.map_none,Option.map_some,eh,el]
  rw[b _ _ _ _ (by omega) (by omega),Option.bind_some,b _ _ _ _ (by omega) (by omega)];rfl
 ·exact absurd (hmx rfl) (by simp)
 ·exact absurd (hmx rfl) (by simp)
 ·simp only[Instr.sliceBounds,aU,Af,pure,Option.bind_some,Option.map_none,Option.map_some,eh,em]
  rw[b _ _ _ _ (by omega) (by omega),Option.bind_some,b _ _ _ _ (by omega) (by omega)];rfl
 ·simp only[Instr.sliceBounds,aU,Af,pure,Option.bind_some,Option.map_none,Option.map_some,eh,em,el]
  rw[b _ _ _ _ (by omega) (by omega),Option.bind_some,b _ _ _ _ (by omega) (by omega),Option.bind_some,b _ _ _ _ (by omega) (by omega)];rfl
theorem De {A:Option Addr} {n cp sz:Nat} {lo hi mx:Option Operand} {l h m:Int} (ht:sI P t=some sz) (hx:bJ a x=.slice A n cp) (hl:wR a 0 lo=some l) (hh:wR a n hi=some h) (hm:wR a cp mx=some m)
  (hmx:mx.isSome=true→hi.isSome=true) (h0:0≤l) (h1:l≤h) (h2:h≤m) (h3:m≤cp):b6 P ⟨d,.slice t x lo hi mx,ty,pos,after,g⟩ a=some (.slice (if m.toNat=l.toNat then A else A.map (·.add (l.toNat * sz))) (h.toNat - l.toNat) (m.toNat - l.toNat)):=by
 obtain⟨e,i,hu,hi',rfl⟩:=Ge ht
 refine cA ?_
 simp only[execOp,hx,Instr.sliceAt,aU]
 rw[aL hu,Option.bind_some]
 simp only[Instr.slice,aU]
 rw[aL hu,Option.bind_some]
 simp only[aU]
 rw[X7 hl hh hm hmx h0 h1 h2 h3,Option.bind_some]
 simp only[aU]
 rw[fF hi',Option.bind_some];rfl
end
section
variable {P:Program} {ops:Array Oper} {Q:Fr→List HP→Prop} {a:Fr} {C:List HP} {c:Nat} {gd:Bool} {es:ET} {hist:List (List HP)} {d':Tmp} {d:Option Tmp} {v:Value}
variable {ty:TypeId} {pos:String} {after:Array Edge} {g:Option (Nat×Bool)} {t yt:TypeId} {x y z:Operand} {op:Op} {α:Type} {E:tJ α} {xs:List α}
theorem V1 {p:Prop} (hp:∀H,bX C H→p) (h:p→aN P ops Q es hist a C):aN P ops Q es hist a C:=fun Hs H h1 h2=>h (hp H h2) Hs H h1 h2
theorem mZ {A:Option Addr} {n cp sz:Nat} {lo hi mx:Option Operand} {l h m:Int} (hk:∀A',Jd A A' l.toNat m.toNat sz→cX gd (.slice A' (h.toNat - l.toNat) (m.toNat - l.toNat)) fun v=>aN P ops Q es hist (kJ a d' v) C)
  (hx:bJ a x=.slice A n cp:=by exact rfl) (ht:sI P t=some sz:=by exact rfl) (hl:wR a 0 lo=some l:=by exact rfl) (hh:wR a n hi=some h:=by exact rfl) (hm:wR a cp mx=some m:=by exact rfl) (hmx:mx.isSome=true→hi.isSome=true:=by first|exact fun h=>h|exact fun _=>rfl)
  (h0:0≤l:=by first|omega|assumption) (h1:l≤h:=by first|omega|assumption) (h2:h≤m:=by first|omega|assumption) (h3:m≤cp:=by first|omega|assumption) (hw:bE ops ⟨some d',.slice t x lo hi mx,ty,pos,after,g⟩ a=true:=by exact rfl):
  aN P ops Q (ET.cons (c,gd,⟨some d',.slice t x lo hi mx,ty,pos,after,g⟩) es) hist a C:=
 f8 rfl hw (De ht hx hl hh hm hmx h0 h1 h2 h3) (hk _ rfl)
theorem jW {A:Option Addr} {n cp sz:Nat} {lo hi mx:Option Operand} {l h m:Int} (hk:∀A',cX gd (.slice A' (h.toNat - l.toNat) (m.toNat - l.toNat)) fun v=>aN P ops Q es hist (kJ a d' v) (m7 A' E ((xs.drop l.toNat).take (h.toNat - l.toNat))::C))
  (hx:bJ a x=.slice A n cp:=by exact rfl) {R:List HP} (hp:aV (m7 A E xs) C R:=by((repeat (first|exact aV.here|apply aV.there)) <;> exact aV.here)) (ht:sI P t=some sz:=by exact rfl) (hsz:E.sz=sz:=by exact rfl) (hn:xs.length=n:=by first|exact rfl|assumption|omega) (hl:wR a 0 lo=some l:=by exact rfl) (hh:wR a n hi=some h:=by exact rfl) (hm:wR a cp mx=some m:=by exact rfl) (hmx:mx.isSome=true→hi.isSome=true:=by first|exact fun h=>h|exact fun _=>rfl)
  (h0:0≤l:=by first|omega|assumption) (h1:l≤h:=by first|omega|assumption) (h2:h≤n:=by first|omega|assumption) (h2:h≤m:=by first|omega|assumption) (h3:m≤cp:=by first|omega|assumption) (hw:bE ops ⟨some d',.slice t x lo hi mx,ty,pos,after,g⟩ a=true:=by exact rfl):
  aN P ops Q (ET.cons (c,gd,⟨some d',.slice t x lo hi mx,ty,pos,after,g⟩) es) hist a C:=by
 refine f8 rfl hw (De ht hx hl hh hm hmx h0 h1 h2 h3) ?_
 refine(cG _ _ _).2 (Uh (fun H hs=>?_) ((cG _ _ _).1 (hk _)))
 subst hsz
 have hd:=((hp.sats hs).dup (oF _ _ _))
 have h5:=(aG.imp (fun H hr=>Ad7 (l:=l.toNat) (m:=m.toNat) (A':=if m.toNat=l.toNat then A else A.map (·.add (l.toNat * E.sz))) (k:=h.toNat - l.toNat) hr rfl (by omega) (.inr (by omega))) (aG.refl _)) H hd
 exact(bX.perm (List.Perm.cons _ hp.perm.symm) h5)
theorem iE {A:Option Addr} {n cp c0 sz:Nat} {e:TypeId} {lo hi mx:Option Operand} {l h m:Int} {R:List HP} (hk:∀A',cX gd (.slice A' (h.toNat - l.toNat) (m.toNat - l.toNat)) fun v=>aN P ops Q es hist (kJ a d' v) (bQ A' (m.toNat - l.toNat) e E ((xs.drop l.toNat).take (h.toNat - l.toNat))::R))
  (hx:bJ a x=.slice A n cp:=by exact rfl) (hp:aV (bQ A c0 e E xs) C R:=by((repeat (first|exact aV.here|apply aV.there)) <;> exact aV.here)) (ht:sI P t=some sz:=by exact rfl) (hsz:E.sz=sz:=by exact rfl) (hn:xs.length=n:=by first|exact rfl|assumption|omega) (hl:wR a 0 lo=some l:=by exact rfl) (hh:wR a n hi=some h:=by exact rfl) (hm:wR a cp mx=some m:=by exact rfl) (hmx:mx.isSome=true→hi.isSome=true:=by first|exact fun h=>h|exact fun _=>rfl)
  (h0:0≤l:=by first|omega|assumption) (h1:l≤h:=by first|omega|assumption) (h4:h≤n:=by first|omega|assumption) (h2:(m=cp∧cp=c0)∨(h≤m∧m≤cp∧cp≤c0):=by first|exact .inl ⟨rfl,rfl⟩|exact .inr ⟨by omega,by omega,by omega⟩) (hw:bE ops ⟨some d',.slice t x lo hi mx,ty,pos,after,g⟩ a=true:=by exact rfl):
  aN P ops Q (ET.cons (c,gd,⟨some d',.slice t x lo hi mx,ty,pos,after,g⟩) es) hist a C:=by
 refine V1 (p:=xs.length≤c0) (fun H hs=>?_) fun hfact=>?_
 ·rcases kU (hp.sats hs) with⟨_,g2,_⟩|⟨_,_,_,_,_,g,_⟩
  ·subst g2;simp
  ·exact g
 have h6:h≤m∧m≤cp∧cp≤c0:=by
  rcases h2 with⟨q1,q2⟩|q
  ·exact⟨by omega,by omega,by omega⟩
  ·exact q
 obtain⟨h2,h3,h5⟩:=h6
 refine f8 rfl hw (De ht hx hl hh hm hmx h0 h1 h2 h3) ?_
 refine(cG _ _ _).2 (Uh (fun H hs=>?_) ((cG _ _ _).1 (hk _)))
 subst hsz
 exact(aG.imp (fun H hr=>Agh (c':=0) (l:=l.toNat) (m:=m.toNat) (A':=if m.toNat=l.toNat then A else A.map (·.add (l.toNat * E.sz))) (k:=h.toNat - l.toNat) hr rfl (by omega) (by omega) (by omega)) (aG.refl _)) H (hp.sats hs)
theorem Nl {A:Option Addr} {n cp:Nat} {bs:List UInt8} {H:Hp} (hv:dT C A dL bs) (hn:bs.length=n) (hs:bX C H):(Conv.bytesToString (.slice A n cp)).rd P H=some (.string ⟨bs.toArray⟩):=by
 rcases hv H hs with h2|⟨B,pre,post,e,rw,h1,hb⟩
 ·subst h2
  subst hn
  cases A <;> rfl
 ·subst h1
  rw[nQ] at hb
  simp only[Conv.bytesToString]
  rw[fR]
  have hc:(loadCells ⟨B,pre.length,none⟩ n).rd P H=some (bs.map lE).toArray:=by
   unfold loadCells
   rw[x8 hb pre.length n 0 #[] (by simp;omega)]
   simp only[List.append_assoc,List.drop_left',Nat.add_zero]
   rw[List.take_append_of_le_length (by simp;omega),List.take_of_length_le (by simp;omega)]
   simp
  rw[hc,Option.bind_some,fR]
  rw[← Array.forIn_toList]
  rw[show(bs.map lE).toArray.toList=bs.map lE from rfl,Pf]
  ·simp
   rfl
  ·intro b s
   simp[lE]
   rfl
theorem iB {t' e:TypeId} {A:Option Addr} {n cp:Nat} {bs:List UInt8} (h:cX gd (.string ⟨bs.toArray⟩) fun v=>aN P ops Q es (C::hist) (kJ a d' v) C) (hx:bJ a x=.slice A n cp:=by exact rfl) (hs:HW P t=some e:=by exact rfl) (ht:nO P t'=true:=by exact rfl)
  (hv:dT C A dL bs:=by first|assumption|(((repeat (first|exact fG|exact j0|exact vP|assumption|apply bM)) <;> exact fG))) (hn:bs.length=n:=by first|assumption|exact rfl) (hk:kd P (.convert t t' x)=.other:=by exact rfl) (hw:bE ops ⟨some d',.convert t t' x,ty,pos,after,g⟩ a=true:=by exact rfl):aN P ops Q (ET.cons (c,gd,⟨some d',.convert t t' x,ty,pos,after,g⟩) es) hist a C:=
 G_o (hk:=hk) (hw:=hw) fun H hH=>by
  obtain⟨h1,h2⟩:=FW hs
  refine fK ?_
  simp only[execOp,hx,convert,aJ]
  rw[aP (aL h1),aP (aL (lK ht))]
  simp only[aJ]
  rw[aP (aL h2)]
  exact rN (Nl hv hn hH) ⟨C,hH,h⟩
end
end Go.Sl
namespace Go.Sl
theorem dR {P:Program} {a:Fr} {C:List HP} {t:Tmp} {rs:List ResultVar} {v:Value} {vs:List Value} (hx:iC (a t)=some v:=by exact rfl) (h:zK P a C rs vs):zK P a C (.tmp t::rs) (v::vs):=Akn hx h
theorem cR {P:Program} {a:Fr} {C:List HP} {p:Tmp} {t:TypeId} {B off:Nat} {cs:List Value} {rs:List ResultVar} {v:Value} {vs:List Value} (hx:a p=.pointer (some ⟨B,off,none⟩):=by exact rfl) (hb:YC C B cs:=by((repeat (first|exact sM|exact has_ro|apply tP)) <;> exact sM)) (hv:Q6 P t cs off=some v:=by exact rfl) (h:zK P a C rs vs):zK P a C (.cell p t::rs) (v::vs):=Afz hx hb hv h
section
variable {P:Program} {fn:Func} {K:Value→List HP→Prop} {a:Fr} {C:List HP} {v:Value} {f:FuncId} {args:Array Value}
def dV (C:List HP) (K:Value→List HP→Prop) (v:Value):Prop:=∃C',aG C C'∧K v C'
def Alq:Exit→Bool
 |.ret=>true
 |.normal=>true
 |_=>false
theorem aC {e:Exit} {rs:List ResultVar} {vs:List Value} (h:dV C K v) (hE:Alq e=true:=by exact rfl) (hl:nB fn.results.toList=some rs:=by exact rfl)
  (hv:zK P a C rs vs:=by first|exact bR|exact dR (h:=by first|exact bR|exact dR (h:=by first|exact bR|exact dR (h:=by first|exact bR|exact dR (h:=by first|exact bR|exact dR (h:=by exact bR)|exact cR (h:=by exact bR))|exact cR (h:=by first|exact bR|exact dR (h:=by exact bR)|exact cR (h:=by exact bR)))|exact cR (h:=by first|exact bR|exact dR (h:=by first|exact bR|exact dR (h:=by exact bR)|exact cR (h:=by exact bR))|exact cR (h:=by first|exact bR|exact dR (h:=by exact bR)|exact cR (h:=by exact bR))))|exact cR (h:=by first|exact bR|exact dR (h:=by first|exact bR|exact dR (h:=by first|exact bR|exact dR (h:=by exact bR)|exact cR (h:=by exact bR))|exact cR (h:=by first|exact bR|exact dR (h:=by exact bR)|exact cR (h:=by exact bR)))|exact cR (h:=by first|exact bR|exact dR (h:=by first|exact bR|exact dR (h:=by exact bR)|exact cR (h:=by exact bR))|exact cR (h:=by first|exact bR|exact dR (h:=by exact bR)|exact cR (h:=by exact bR)))))|exact cR (h:=by first|exact bR|exact dR (h:=by first|exact bR|exact dR (h:=by first|exact bR|exact dR (h:=by first|exact bR|exact dR (h:=by exact bR)|exact cR (h:=by exact bR))|exact cR (h:=by first|exact bR|exact dR (h:=by exact bR)|exact cR (h:=by exact bR)))|exact cR (h:=by first|exact bR|exact dR (h:=by first|exact bR|exact dR (h:=by exact bR)|exact cR (h:=by exact bR))|exact cR (h:=by first|exact bR|exact dR (h:=by exact bR)|exact cR (h:=by exact bR))))|exact cR (h:=by first|exact bR|exact dR (h:=by first|exact bR|exact dR (h:=by first|exact bR|exact dR (h:=by exact bR)|exact cR (h:=by exact bR))|exact cR (h:=by first|exact bR|exact dR (h:=by exact bR)|exact cR (h:=by exact bR)))|exact cR (h:=by first|exact bR|exact dR (h:=by first|exact bR|exact dR (h:=by exact bR)|exact cR (h:=by exact bR))|exact cR (h:=by first|exact bR|exact dR (h:=by exact bR)|exact cR (h:=by exact bR)))))) (ht:iC (RQ vs)=some v:=by exact rfl):
  dS P fn K e a C:=by
 obtain⟨C',he,hk⟩:=h
 cases e <;> first|(cases hE;done)|exact Aja hl hv ht he hk|exact retC_n hl hv ht he hk
theorem aK {C':List HP} (he:aG C C') (hk:K v C'):dV C K v:=⟨C',he,hk⟩
theorem aB {C':List HP} (hk:K v C') (he:aG C C':=by((iterate 30 (try(first|exact aG.refl _|exact aG.nil|(apply aG.pick;focus ((repeat (first|exact aV.here|apply aV.there)) <;> exact aV.here))|(apply aG.pickP;focus ((repeat (first|exact pers_ro _ _ _|exact oF _ _ _|exact pers_pure _|refine pers_sep ?_ ?_|refine pers_ex fun _=>?_)) <;> exact pers_pure _);focus ((repeat (first|exact aV.here|apply aV.there)) <;> exact aV.here))|(apply aG.pure;focus (first|assumption|exact rfl|omega))|apply aG.nilrow'|apply aG.ex|apply aG.sep|apply aG.drop))) <;> exact aG.nil)):dV C K v:=⟨C',he,hk⟩
theorem CA {C':List HP} (he:aG C C':=by((iterate 30 (try(first|exact aG.refl _|exact aG.nil|(apply aG.pick;focus ((repeat (first|exact aV.here|apply aV.there)) <;> exact aV.here))|(apply aG.pickP;focus ((repeat (first|exact pers_ro _ _ _|exact oF _ _ _|exact pers_pure _|refine pers_sep ?_ ?_|refine pers_ex fun _=>?_)) <;> exact pers_pure _);focus ((repeat (first|exact aV.here|apply aV.there)) <;> exact aV.here))|(apply aG.pure;focus (first|assumption|exact rfl|omega))|apply aG.nilrow'|apply aG.ex|apply aG.sep|apply aG.drop))) <;> exact aG.nil)) (h:aA P f args C' K):aA P f args C K:=aA.ent he h
theorem kv {v v':Value} (h:K v C) (e:v=v'):K v' C:=e▸h
theorem ki {k:IntKind} {x y:Int} (h:K (.int k x) C) (e:x=y):K (.int k y) C:=e▸h
theorem kb {b c:Bool} (h:K (.bool b) C) (e:(b=true)↔(c=true)):K (.bool c) C:=by
 have:b=c:=by cases b <;> cases c <;> simp_all
 exact this▸h
end
def aT (n:Nat) (I:Nat→Fr→List HP→Prop) (a:Fr) (C:List HP):Prop:=∃m C'',m<n∧aG C C''∧I m a C''
section
variable {P:Program} {Q:Exit→Fr→List HP→Prop} {a:Fr} {C:List HP} {x:Code} {id:Nat}
theorem fZ (I:Nat→Fr→List HP→Prop) (n:Nat) (h0:aT (n+1) I a C) (hr:∀n a C,I n a C→fN P x (bP (aT n I) Q) a C):fN P (.loop x) Q a C:=by
 obtain⟨m,C0,_,he,hI⟩:=h0
 exact Ajf I m C0 he hI hr
theorem bV {n:Nat} {I:Nat→Fr→List HP→Prop} (m:Nat) {C':List HP} (hi:I m a C') (hm:m<n:=by omega) (he:aG C C':=by((iterate 30 (try(first|exact aG.refl _|exact aG.nil|(apply aG.pick;focus ((repeat (first|exact aV.here|apply aV.there)) <;> exact aV.here))|(apply aG.pickP;focus ((repeat (first|exact pers_ro _ _ _|exact oF _ _ _|exact pers_pure _|refine pers_sep ?_ ?_|refine pers_ex fun _=>?_)) <;> exact pers_pure _);focus ((repeat (first|exact aV.here|apply aV.there)) <;> exact aV.here))|(apply aG.pure;focus (first|assumption|exact rfl|omega))|apply aG.nilrow'|apply aG.ex|apply aG.sep|apply aG.drop))) <;> exact aG.nil)):aT n I a C:=⟨m,C',hm,he,hi⟩
def dU (I:Fr→List HP→Prop) (a:Fr) (C:List HP):Prop:=∃C'',aG C C''∧I a C''
theorem ZP {I:Fr→List HP→Prop} {C':List HP} (hi:I a C') (he:aG C C':=by((iterate 30 (try(first|exact aG.refl _|exact aG.nil|(apply aG.pick;focus ((repeat (first|exact aV.here|apply aV.there)) <;> exact aV.here))|(apply aG.pickP;focus ((repeat (first|exact pers_ro _ _ _|exact oF _ _ _|exact pers_pure _|refine pers_sep ?_ ?_|refine pers_ex fun _=>?_)) <;> exact pers_pure _);focus ((repeat (first|exact aV.here|apply aV.there)) <;> exact aV.here))|(apply aG.pure;focus (first|assumption|exact rfl|omega))|apply aG.nilrow'|apply aG.ex|apply aG.sep|apply aG.drop))) <;> exact aG.nil)):dU I a C:=⟨C',he,hi⟩
end
structure Amj (p:Prop):Prop where
 h:p
end Go.Sl
end
