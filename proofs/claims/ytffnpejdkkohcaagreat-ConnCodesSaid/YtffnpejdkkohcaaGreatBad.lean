/- A part of the proof: lemmas; each with the conditions that it states. -/
import Derived.Test.YtffnpejdkkohcaaGreatBac
set_option linter.unusedVariables false
set_option linter.unusedSimpArgs false
section
namespace Go.Sl
variable {a b c b':sM} {B H:Hp} {α:Type} {p:Prop} {P:Program} {f:FuncId} {args:Array Value}
abbrev HP:=Hp->Prop
variable {A:HP} {C C' l r:List HP} {K:Value->List HP->Prop}
abbrev KP:=Value->List HP->Prop
def sM.le (b b':sM):Prop:=b'=b\/∃cs e,b=.cells cs e false/\b'=.cells cs e true
theorem sM.le_refl (b:sM):b.le b:=.inl rfl
theorem sM.le_trans (h:a.le b) (k:b.le c):a.le c:=by
 rcases h with rfl|⟨cs,e,rfl,rfl⟩
 ·exact k
 ·rcases k with rfl|⟨cs',e',h1,h2⟩
  ·exact .inr ⟨cs,e,rfl,rfl⟩
  ·cases h1
theorem sM.le_own (h:b.le b') (ho:b.own=true):b'=b:=by
 rcases h with rfl|⟨cs,e,rfl,rfl⟩
 ·rfl
 ·cases ho
theorem sM.le_two (h:a.le c) (k:b.le c) (ha:a.own=false) (hb:b.own=false):a=b:=by
 rcases h with rfl|⟨cs,e,rfl,rfl⟩
 ·rcases k with rfl|⟨cs,e,rfl,rfl⟩
  ·rfl
  ·cases ha
 ·rcases k with rfl|⟨cs',e',rfl,h2⟩
  ·cases hb
  ·cases h2;rfl
def AT (H1 H:Hp):Prop:=∀B b,H1 B=some b->∃b',H B=some b'/\b.le b'
theorem AT.refl (H:Hp):AT H H:=fun _ b h=>⟨b,h,b.le_refl⟩
theorem AT.trans {A C:Hp} (h:AT A B) (k:AT B C):AT A C:=fun r b hb=>by
 obtain⟨b1,h1,l1⟩:=h r b hb
 obtain⟨b2,h2,l2⟩:=k r b1 h1
 exact⟨b2,h2,sM.le_trans l1 l2⟩
def tH (H1 H2:Hp):Prop:=∀B b c,H1 B=some b->H2 B=some c->b.own=false/\c.own=false
theorem tH.symm {H1 H2:Hp} (h:tH H1 H2):tH H2 H1:=fun B b c hb hc=>(h B c b hc hb).symm
theorem Aiu (h:b.le b') (ho:b'.own=false):b.own=false:=by
 cases hb:b.own with
 |false=>rfl
 |true=>rw[sM.le_own h hb,hb] at ho;cases ho
theorem tH.le {A A':Hp} (h:tH A' B) (hl:AT A A'):tH A B:=fun r b c hb hc=>by
 obtain⟨b',h1,l1⟩:=hl r b hb
 obtain⟨h2,h3⟩:=h r b' c h1 hc
 exact⟨Aiu l1 h2,h3⟩
theorem tH.le2 {A B':Hp} (h:tH A B') (hl:AT B B'):tH A B:=(h.symm.le hl).symm
def sX (A B:Hp):Hp:=fun r=>match A r with
 |some b=>some b
 |none=>B r
theorem qS (A B:Hp):AT A (sX A B):=fun r b h=>⟨b,by simp[sX,h],b.le_refl⟩
theorem oI {A:Hp} (hc:tH A B) (h1:AT A H) (h2:AT B H):AT B (sX A B):=fun r b h=>by
 cases ha:A r with
 |none=>exact⟨b,by simp[sX,ha,h],b.le_refl⟩
 |some a=>
  obtain⟨o1,o2⟩:=hc r a b ha h
  obtain⟨a',h3,l3⟩:=h1 r a ha
  obtain⟨b',h4,l4⟩:=h2 r b h
  rw[h3] at h4;cases h4
  have:=sM.le_two l3 l4 o1 o2
  subst this
  exact⟨a,by simp[sX,ha],a.le_refl⟩
theorem wP {A:Hp} (h1:AT A H) (h2:AT B H):AT (sX A B) H:=fun r b h=>by
 unfold sX at h
 split at h
 ·rename_i a ha;cases h;exact h1 r b ha
 ·exact h2 r b h
theorem tH.join {A C:Hp} (h1:tH A C) (h2:tH B C):tH (sX A B) C:=fun r b c hb hc=>by
 unfold sX at hb
 split at hb
 ·rename_i a ha;cases hb;exact h1 r b c ha hc
 ·exact h2 r b c hb hc
def bZ:List HP->Hp->Prop
 | [],_=>True
 |A::l,H=>∃H1 H2,tH H1 H2/\AT H1 H/\AT H2 H/\A H1/\bZ l H2
theorem bZ.mono:∀ {C:List HP} {H H':Hp},bZ C H->AT H H'->bZ C H'
 | [],_,_,_,_=>trivial
 |_::_,_,_,⟨H1,H2,hc,h1,h2,ha,hs⟩,hl=>⟨H1,H2,hc,h1.trans hl,h2.trans hl,ha,hs⟩
theorem bZ.tail (h:bZ (A::C) H):bZ C H:=by
 obtain⟨H1,H2,hc,h1,h2,ha,hs⟩:=h
 exact hs.mono h2
theorem bZ.swap {B:HP} (h:bZ (A::B::C) H):bZ (B::A::C) H:=by
 obtain⟨H1,H2,hc,h1,h2,ha,G1,G2,kc,k1,k2,kb,ks⟩:=h
 refine⟨G1,sX H1 G2,?_,k1.trans h2,wP h1 (k2.trans h2),kb,H1,G2,hc.le2 k2,qS _ _,oI (hc.le2 k2) h1 (k2.trans h2),ha,ks⟩
 exact(tH.join (hc.le2 k1) kc.symm).symm
theorem bZ.perm (hp:C.Perm C'):∀ {H:Hp},bZ C H->bZ C' H:=by
 induction hp with
 |nil=>exact fun h=>h
 |cons x _ ih=>exact fun⟨H1,H2,hc,h1,h2,ha,hs⟩=>⟨H1,H2,hc,h1,h2,ha,ih hs⟩
 |swap x y l=>exact fun h=>h.swap
 |trans _ _ ih1 ih2=>exact fun h=>ih2 (ih1 h)
theorem bZ.append:∀ {C R:List HP} {H:Hp},bZ (C++R) H->∃H1 H2,tH H1 H2/\AT H1 H/\AT H2 H/\bZ C H1/\bZ R H2
 | [],R,H,h=>⟨fun _=>none,H,(fun _ _ _ h=>by cases h),(fun _ _ h=>by cases h),AT.refl H,trivial,h⟩
 |A::C,R,H,⟨H1,H2,hc,h1,h2,ha,hs⟩=>by
  obtain⟨G1,G2,kc,k1,k2,ka,ks⟩:=bZ.append hs
  exact⟨sX H1 G1,G2,tH.join (hc.le2 k2) kc,wP h1 (k1.trans h2),k2.trans h2,⟨H1,G1,hc.le2 k1,qS _ _,oI (hc.le2 k1) h1 (k1.trans h2),ha,ka⟩,ks⟩
theorem bZ.join:∀ {C R:List HP} {H1 H2 H:Hp},tH H1 H2->AT H1 H->AT H2 H->bZ C H1->bZ R H2->bZ (C++R) H
 | [],_,_,_,_,_,_,h2,_,hs=>hs.mono h2
 |_::_,_,_,_,_,hc,h1,h2,⟨G1,G2,kc,k1,k2,ka,ks⟩,hs=>
  ⟨G1,sX G2 _,(tH.join kc.symm (hc.symm.le2 k1)).symm,k1.trans h1,wP (k2.trans h1) h2,ka,
   bZ.join (hc.le k2) (qS _ _) (oI (hc.le k2) (k2.trans h1) h2) ks hs⟩
inductive aS (A:HP):List HP->List HP->Prop where
 |here {l:List HP}:aS A (A::l) l
 |there {B:HP} {l r:List HP}:aS A l r->aS A (B::l) (B::r)
theorem aS.perm (h:aS A l r):l.Perm (A::r):=by
 induction h with
 |here=>exact List.Perm.refl _
 |there _ ih=>exact(List.Perm.cons _ ih).trans (List.Perm.swap _ _ _)
theorem aS.sats (h:aS A l r) (hs:bZ l H):bZ (A::r) H:=hs.perm h.perm
def aG (C C':List HP):Prop:=∀H,bZ C H->bZ C' H
theorem aG.refl (C:List HP):aG C C:=fun _ h=>h
theorem aG.trans {A B:List HP} (h:aG A B) (k:aG B C):aG A C:=fun H x=>k H (h H x)
theorem aG.nil:aG C []:=fun _ _=>trivial
theorem aG.cons (h:aG C C'):aG (A::C) (A::C'):=fun _ ⟨H1,H2,hc,h1,h2,ha,hs⟩=>⟨H1,H2,hc,h1,h2,ha,h _ hs⟩
theorem aG.pick {R:List HP} (hp:aS A C R) (h:aG R C'):aG C (A::C'):=fun _ hs=>(aG.cons h) _ (hp.sats hs)
theorem aG.drop (h:aG C C'):aG (A::C) C':=fun H hs=>h H hs.tail
theorem aG.imp {B:HP} (hab:∀H,A H->B H) (h:aG C C'):aG (A::C) (B::C'):=fun _ ⟨H1,H2,hc,h1,h2,ha,hs⟩=>⟨H1,H2,hc,h1,h2,hab _ ha,h _ hs⟩
def fN {α:Type} (g:α->HP):HP:=fun H=>∃x,g x H
def star (l:List HP):HP:=bZ l
def bH (p:Prop):HP:=fun _=>p
def pt (r:Nat) (cs:List Value) (e:TypeId):HP:=fun H=>H r=some (.cells cs e true)
def ro (r:Nat) (cs:List Value) (e:TypeId):HP:=fun H=>H r=some (.cells cs e false)
theorem bZ.ex {g:α->HP} (h:bZ (fN g::C) H):∃x,bZ (g x::C) H:=by
 obtain⟨H1,H2,hc,h1,h2,⟨x,ha⟩,hs⟩:=h
 exact⟨x,H1,H2,hc,h1,h2,ha,hs⟩
theorem bZ.star (h:bZ (star l::C) H):bZ (l++C) H:=by
 obtain⟨H1,H2,hc,h1,h2,ha,hs⟩:=h
 exact bZ.join hc h1 h2 ha hs
theorem bZ.pure (h:bZ (bH p::C) H):p/\bZ C H:=⟨by obtain⟨_,_,_,_,_,ha,_⟩:=h;exact ha,h.tail⟩
theorem aG.ex {g:α->HP} (x:α) (h:aG C (g x::C')):aG C (fN g::C'):=fun H hs=>by
 obtain⟨H1,H2,hc,h1,h2,ha,hs⟩:=h H hs
 exact⟨H1,H2,hc,h1,h2,⟨x,ha⟩,hs⟩
theorem aG.star (h:aG C (l++C')):aG C (star l::C'):=fun H hs=>by
 obtain⟨H1,H2,hc,h1,h2,ha,hs⟩:=(h H hs).append
 exact⟨H1,H2,hc,h1,h2,ha,hs⟩
theorem aG.pure (hp:p) (h:aG C C'):aG C (bH p::C'):=fun H hs=>
 ⟨fun _=>none,H,(fun _ _ _ h=>by cases h),(fun _ _ h=>by cases h),AT.refl H,hp,h H hs⟩
def EI (A:HP):Prop:=∀H,A H->∃H',AT H' H/\A H'/\∀B b,H' B=some b->b.own=false
def mS (r:Nat) (b:sM):Hp:=fun i=>if i=r then some b else none
theorem Da {r:Nat} (h:H r=some b') (hl:b.le b'):AT (mS r b) H:=fun i c hc=>by
 unfold mS at hc;split at hc
 ·rename_i e;subst e;cases hc;exact⟨b',h,hl⟩
 ·cases hc
theorem Dv {r i:Nat} (h:mS r b i=some c):i=r/\c=b:=by
 unfold mS at h;split at h
 ·rename_i e;cases h;exact⟨e,rfl⟩
 ·cases h
theorem wJ (r:Nat) (b:sM):mS r b r=some b:=by simp[mS]
theorem bZ.dup (hp:EI A) (h:bZ (A::C) H):bZ (A::A::C) H:=by
 obtain⟨H1,H2,hc,h1,h2,ha,hs⟩:=h
 obtain⟨G,g1,g2,g3⟩:=hp H1 ha
 refine⟨G,sX G H2,?_,g1.trans h1,wP (g1.trans h1) h2,g2,G,H2,hc.le g1,qS _ _,oI (hc.le g1) (g1.trans h1) h2,g2,hs⟩
 refine(tH.join (fun B b c hb hc=>⟨g3 _ _ hb,g3 _ _ hc⟩) (hc.le g1).symm).symm
def upC (Q:Fr->List HP->Prop):Fr->Hp->Prop:=fun a H=>∃C,bZ C H/\Q a C
def upV (K:Value->List HP->Prop):Value->Hp->Prop:=fun v H=>∃C,bZ C H/\K v C
def upE (Q:Exit->Fr->List HP->Prop):Exit->Fr->Hp->Prop:=fun e=>upC (Q e)
def aA (P:Program) (f:FuncId) (args:Array Value) (C:List HP) (K:Value->List HP->Prop):Prop:=∀H,bZ C H->qG P f args H (upV K)
def eY (P:Program) (c:Code) (Q:Exit->Fr->List HP->Prop) (a:Fr) (C:List HP):Prop:=∀H,bZ C H->ev P c (upE Q) a H
theorem aA.ent (he:aG C C') (h:aA P f args C' K):aA P f args C K:=fun H hs=>h H (he H hs)
theorem aA.ex {g:α->HP} (h:∀x,aA P f args (g x::C) K):aA P f args (fN g::C) K:=fun H hs=>by
 obtain⟨x,hx⟩:=hs.ex
 exact h x H hx
theorem aA.star (h:aA P f args (l++C) K):aA P f args (star l::C) K:=fun H hs=>h H hs.star
theorem aA.pure (h:p->aA P f args C K):aA P f args (bH p::C) K:=fun H hs=>h hs.pure.1 H hs.pure.2
theorem aA.mono {K':Value->List HP->Prop} (h:aA P f args C K) (hk:∀v C,K v C->K' v C):aA P f args C K':=fun H hs=>(h H hs).mono fun v _ ⟨C',h1,h2⟩=>⟨C',h1,hk v C' h2⟩
theorem H8 {P:Program} {ops:Array Oper} {Q Q':Fr->Hp->Prop} (hq:∀a H,Q a H->Q' a H):∀(l:List Oper) (i:Nat) (a:Fr) (H:Hp),Jz P ops Q i l a H->Jz P ops Q' i l a H
 | [],_,a,H,h=>hq a H h
 |o::l,i,a,H,h=>by
  unfold Jz at h ⊢
  split
  ·rename_i hw
   rw[if_pos hw] at h
   refine oH (fun v H' hv=>?_) h
   rw[cH] at hv ⊢
   exact H8 hq l _ _ _ hv
  ·rename_i hw
   rw[if_neg hw] at h
   exact H8 hq l _ _ _ h
theorem Ac {P:Program} {ops:Array Oper} {Q Q':Fr->Hp->Prop} (hq:∀a H,Q a H->Q' a H):∀(l:List (Nat×Nat)) (hist:List Hp) (a:Fr) (H:Hp),zA P ops Q l hist a H->zA P ops Q' l hist a H
 | [],_,a,H,h=>hq a H h
 |(i,c)::l,hist,a,H,h=>by
  simp only[zA] at h ⊢
  split at h
  ·exact h.elim
  ·split
   ·rename_i hw
    rw[if_pos hw] at h
    split at h
    ·obtain⟨v,h1,h2⟩:=h
     rw[cH] at h2
     exact⟨v,h1,(cH _ _ _).2 (Ac hq l _ _ _ h2)⟩
    ·obtain⟨v,h1,h3,h2⟩:=h
     rw[cH] at h2
     exact⟨v,h1,h3,(cH _ _ _).2 (Ac hq l _ _ _ h2)⟩
    ·refine oH (fun v H' hv=>?_) h
     rw[cH] at hv ⊢
     exact Ac hq l _ _ _ hv
   ·rename_i hw
    rw[if_neg hw] at h
    exact Ac hq l _ _ _ h
theorem tV {P:Program} {ops:Array Oper} {Q Q':Fr->Hp->Prop} (hq:∀a H,Q a H->Q' a H):∀(t:Tr) (hist:List Hp) (a:Fr) (H:Hp),CY P ops Q t hist a H->CY P ops Q' t hist a H
 |.nil,_,a,H,h=>hq a H h
 |.br t u,_,_,_,h=>⟨tV hq t _ _ _ h.1,tV hq u _ _ _ h.2⟩
 |.st i c l,hist,a,H,h=>by
  simp only[CY] at h ⊢
  split at h
  ·exact h.elim
  ·split
   ·rename_i hw
    rw[if_pos hw] at h
    split at h
    ·obtain⟨v,h1,h2⟩:=h
     rw[cH] at h2
     exact⟨v,h1,(cH _ _ _).2 (tV hq l _ _ _ h2)⟩
    ·obtain⟨v,h1,h3,h2⟩:=h
     rw[cH] at h2
     exact⟨v,h1,h3,(cH _ _ _).2 (tV hq l _ _ _ h2)⟩
    ·refine oH (fun v H' hv=>?_) h
     rw[cH] at hv ⊢
     exact tV hq l _ _ _ hv
   ·rename_i hw
    rw[if_neg hw] at h
    exact tV hq l _ _ _ h
theorem wR (c:Code):∀ {Q Q':Exit->Fr->Hp->Prop} (_:∀e a H,Q e a H->Q' e a H) (a:Fr) (H:Hp),ev P c Q a H->ev P c Q' a H:=by
 induction c with
 |region id ops d=>
  intro Q Q' hq a H h
  cases d
  ·exact H8 (hq .normal) _ _ _ _ h
  ·exact h.imp (fun h=>⟨h.1,Ac (hq .normal) _ _ _ _ h.2⟩) fun⟨t,h1,h2⟩=>⟨t,h1,tV (hq .normal) _ _ _ _ h2⟩
 |seq x y ihx ihy=>
  intro Q Q' hq a H h
  refine ihx (Q:=T7 (ev P y Q) Q) (fun e a H h=>?_) a H h
  cases e <;> first|exact hq _ _ _ h|exact ihy hq a H h
 |cond c x y ihx ihy=>
  intro Q Q' hq a H h
  simp only[ev] at h ⊢
  split
  ·rename_i b hb;rw[hb] at h;exact⟨fun hb=>ihx hq a H (h.yes hb),fun hb=>ihy hq a H (h.no hb)⟩
  ·rename_i hb
   split at h
   ·rename_i b hb';exact absurd hb' (hb b)
   ·exact h
 |block id c ih=>
  intro Q Q' hq a H h
  refine ih (Q:=AK id Q) (fun e a H h=>?_) a H h
  cases e <;> first
   |exact hq _ _ _ h
   |(simp only[AK] at h ⊢;split <;> rename_i hj <;> simp only[hj,if_true,if_false] at h <;> exact hq _ _ _ h)
 |loop c ih=>
  intro Q Q' hq a H h
  obtain⟨I,n,h0,hr⟩:=h
  refine⟨I,n,h0,fun n a H hI=>ih (Q:=T7 _ Q) (fun e a H h=>?_) a H (hr n a H hI)⟩
  cases e <;> first|exact h|exact hq _ _ _ h
 |scope c ih=>
  intro Q Q' hq a H h
  refine ih (Q:=Tm Q) (fun e a H h=>?_) a H h
  cases e <;> first|exact hq _ _ _ h|exact h.elim
 |skip=>exact fun hq a H h=>hq _ _ _ h
 |exit id=>exact fun hq a H h=>hq _ _ _ h
 |label l=>exact fun hq a H h=>hq _ _ _ h
 |ret=>exact fun hq a H h=>hq _ _ _ h
 |_=>exact fun hq a H h=>h.elim
end Go.Sl
namespace Go.Sl
variable {P:Program} {f:FuncId} {args:Array Value} {A B:HP} {C C':List HP} {a:Fr} {K:Fr->List HP->Prop} {x y:Code} {id j i c:Nat} {ops:Array Oper} {o:Oper} {l:List (Nat×Nat)} {t:Tr} {g:Bool} {hist:List (List HP)} {v:Value} {ol:List Oper} {fn:Func} {rs:List ResultVar} {vs cs:List Value}
def bQ (K:Fr->List HP->Prop) (Q:Exit->Fr->List HP->Prop):Exit->Fr->List HP->Prop
 |Exit.normal=>K
 |e=>Q e
def aL (id:Nat) (Q:Exit->Fr->List HP->Prop):Exit->Fr->List HP->Prop
 |Exit.exit j=>if j=id then Q .normal else Q (.exit j)
 |e=>Q e
def aW (Q:Exit->Fr->List HP->Prop):Exit->Fr->List HP->Prop
 |Exit.goto _=>fun _ _=>False
 |e=>Q e
def sep (A B:HP):HP:=star [A,B]
theorem aA.sep {K:Value->List HP->Prop} (h:aA P f args (A::B::C) K):aA P f args (sep A B::C) K:=fun H hs=>h H hs.star
theorem aG.sep (h:aG C (A::B::C')):aG C (sep A B::C'):=aG.star h
theorem GB {c:Code} {Q:Exit->Fr->List HP->Prop} (h:eY P c Q a (A::B::C)):eY P c Q a (sep A B::C):=fun H hs=>h H hs.star
section
variable {Q:Exit->Fr->List HP->Prop}
theorem nN (he:aG C C') (h:eY P x Q a C'):eY P x Q a C:=fun H hs=>h H (he H hs)
theorem vX {α:Type} {g:α->HP} (h:∀z,eY P x Q a (g z::C)):eY P x Q a (fN g::C):=fun H hs=>by
 obtain⟨z,hz⟩:=hs.ex
 exact h z H hz
theorem Tt (h:eY P x (bQ (eY P y Q) Q) a C):eY P (.seq x y) Q a C:=fun H hs=>by
 refine wR x (fun e a H hq=>?_) a H (h H hs)
 obtain⟨C',h1,h2⟩:=hq
 cases e <;> first|exact⟨C',h1,h2⟩|exact h2 H h1
theorem MB {c:Operand} {b:Bool} (hc:bJ a c=.bool b) (h:Br b (eY P x Q a C) (eY P y Q a C)):eY P (.cond c x y) Q a C:=fun H hs=>by
 simp only[ev,hc]
 exact⟨fun hb=>h.yes hb H hs,fun hb=>h.no hb H hs⟩
theorem Eb (h:eY P x (aL id Q) a C):eY P (.block id x) Q a C:=fun H hs=>by
 refine wR x (fun e a H hq=>?_) a H (h H hs)
 obtain⟨C',h1,h2⟩:=hq
 cases e <;> first
  |exact⟨C',h1,h2⟩
  |(simp only[aL,AK] at h2 ⊢;split <;> rename_i hj <;> simp only[hj,if_true,if_false] at h2 <;> exact⟨C',h1,h2⟩)
theorem Gj (h:eY P x (aW Q) a C):eY P (.scope x) Q a C:=fun H hs=>by
 refine wR x (fun e a H hq=>?_) a H (h H hs)
 obtain⟨C',h1,h2⟩:=hq
 cases e <;> first|exact⟨C',h1,h2⟩|exact h2.elim
theorem MO (h:Q .normal a C):eY P .skip Q a C:=fun H hs=>⟨C,hs,h⟩
theorem Gi (h:Q .normal a C):eY P (.label id) Q a C:=fun H hs=>⟨C,hs,h⟩
theorem Mm (h:Q (.exit id) a C):eY P (.exit id) Q a C:=fun H hs=>⟨C,hs,h⟩
theorem Tl (h:Q .ret a C):eY P .ret Q a C:=fun H hs=>⟨C,hs,h⟩
theorem t_n (h:K a C):bQ K Q .normal a C:=h
theorem t_e (h:Q (.exit id) a C):bQ K Q (.exit id) a C:=h
theorem t_r (h:Q .ret a C):bQ K Q .ret a C:=h
theorem b_n (h:Q .normal a C):aL id Q .normal a C:=h
theorem b_r (h:Q .ret a C):aL id Q .ret a C:=h
theorem T6 (hj:(j == id)=true) (h:Q .normal a C):aL id Q (.exit j) a C:=by simp at hj;simp only[aL,hj,if_true];exact h
theorem MV (hj:(j == id)=false) (h:Q (.exit j) a C):aL id Q (.exit j) a C:=by simp at hj;simp only[aL,hj,if_false];exact h
theorem g_r (h:Q .ret a C):aW Q .ret a C:=h
theorem Ajw (I:Nat->Fr->List HP->Prop) (n:Nat) (C0:List HP) (he:aG C C0) (h0:I n a C0)
  (hr:∀n a C,I n a C->eY P x (bQ (fun a' C'=>∃m C'',m<n/\aG C' C''/\I m a' C'') Q) a C):eY P (.loop x) Q a C:=fun H hs=>by
 refine⟨fun n a H=>∃C,bZ C H/\I n a C,n,⟨C0,he H hs,h0⟩,fun n a H ⟨C,hs,hI⟩=>?_⟩
 refine wR x (fun e a H hq=>?_) a H (hr n a C hI H hs)
 obtain⟨C',h1,h2⟩:=hq
 cases e <;> first
  |exact⟨C',h1,h2⟩
  |(obtain⟨m,C'',hm,hE,hI⟩:=h2;exact⟨m,hm,C'',hE H h1,hI⟩)
theorem gJ (l:List (Nat×Value)) (h:cW a l) (he:eY P x Q (fF a l) C):eY P x Q a C:=by rw[Um h] at he;exact he
end
abbrev Akq:=Nat×Bool×Oper
inductive ET where
 |nil
 |cons (e:Akq) (l:ET)
 |br (l m:ET)
variable {es:ET}
def Pg (P:Program) (ops:Array Oper) (Q:Fr->Hp->Prop):ET->List Hp->Fr->Hp->Prop
 |.nil,_,a,H=>Q a H
 |.br l m,hist,a,H=>Pg P ops Q l hist a H/\Pg P ops Q m hist a H
 |ET.cons (c,_,o) l,hist,a,H=>
  if bD ops o a=true then
   match kd P o.op with
   |.pure=>∃v,cA P o a=some v/\Pg P ops Q l hist (fE a o.dst v) H
   |.load=>∃v,I7 P o a H=some v/\(∀h∈hist.take c,I7 P o a h=some v)/\Pg P ops Q l hist (fE a o.dst v) H
   |.other=>lD P o a H fun v H'=>Pg P ops Q l (H::hist) (fE a o.dst v) H'
  else Pg P ops Q l hist (fE a o.dst undef) H
def QU (ops:Array Oper):Nat->List Oper->Option (ET)
 |_,[]=>some .nil
 |i,o::l=>match Qh ops i with
  |true=>match QU ops (i+1) l with
   |some r=>some (ET.cons (0,true,o) r)
   |none=>none
  |false=>match QU ops (i+1) l with
   |some r=>some (ET.cons (0,false,o) r)
   |none=>none
def Jt (ops:Array Oper):List (Nat×Nat)->Option (ET)
 | []=>some .nil
 |(i,c)::l=>match ops[i]? with
  |none=>none
  |some o=>match Qh ops i with
   |true=>match Jt ops l with
    |some r=>some (ET.cons (c,true,o) r)
    |none=>none
   |false=>match Jt ops l with
    |some r=>some (ET.cons (c,false,o) r)
    |none=>none
theorem VD {l:List Oper} (h:QU ops i (o::l)=some es):∃g r,es=ET.cons (0,g,o) r/\QU ops (i+1) l=some r:=by
 simp only[QU] at h
 split at h <;> split at h <;> first|(cases h;done)|(rename_i r hr;cases h;exact⟨_,r,rfl,hr⟩)
theorem Wn (h:Jt ops ((i,c)::l)=some es):∃g r o,ops[i]?=some o/\es=ET.cons (c,g,o) r/\Jt ops l=some r:=by
 simp only[Jt] at h
 split at h
 ·cases h
 ·rename_i o ho
  split at h <;> split at h <;> first|(cases h;done)|(rename_i r hr;cases h;exact⟨_,r,o,ho,rfl,hr⟩)
theorem OE {P:Program} {ops:Array Oper} {Q:Fr->Hp->Prop}:∀(l:List Oper) (i:Nat) (es:ET) (hist:List Hp) (a:Fr) (H:Hp),QU ops i l=some es->Pg P ops Q es hist a H->Jz P ops Q i l a H
 | [],_,es,hist,a,H,he,h=>by cases he;exact h
 |o::l,i,es,hist,a,H,he,h=>by
  obtain⟨g,r,rfl,hr⟩:=VD he
  simp only[Pg] at h
  split at h
  ·rename_i hw
   split at h
   ·obtain⟨v,hv,h⟩:=h
    exact Alw hw hv ((cH _ _ _).2 (OE l _ r _ _ _ hr h))
   ·obtain⟨v,hv,_,h⟩:=h
    exact Alz hw hv ((cH _ _ _).2 (OE l _ r _ _ _ hr h))
   ·refine Alu hw (oH (fun v H' hk=>?_) h)
    exact(cH _ _ _).2 (OE l _ r _ _ _ hr hk)
  ·rename_i hw
   exact Akv (by simpa using hw) (OE l _ r _ _ _ hr h)
theorem NH {P:Program} {ops:Array Oper} {Q:Fr->Hp->Prop}:∀(l:List (Nat×Nat)) (es:ET) (hist:List Hp) (a:Fr) (H:Hp),Jt ops l=some es->Pg P ops Q es hist a H->zA P ops Q l hist a H
 | [],es,hist,a,H,he,h=>by cases he;exact h
 |(i,c)::l,es,hist,a,H,he,h=>by
  obtain⟨g,r,o,ho,rfl,hr⟩:=Wn he
  simp only[Pg] at h
  split at h
  ·rename_i hw
   split at h
   ·rename_i hk
    obtain⟨v,hv,h⟩:=h
    exact Ame ho hk hw hv ((cH _ _ _).2 (NH l r _ _ _ hr h))
   ·rename_i hk
    obtain⟨v,hv,hh,h⟩:=h
    exact Alf ho hk hw hv hh ((cH _ _ _).2 (NH l r _ _ _ hr h))
   ·rename_i hk
    refine Alk ho hk hw (oH (fun v H' hk=>?_) h)
    exact(cH _ _ _).2 (NH l r _ _ _ hr hk)
  ·rename_i hw
   exact Amf ho (by simpa using hw) (NH l r _ _ _ hr h)
def Ed (ops:Array Oper):Tr->Option ET
 |.nil=>some .nil
 |.br t u=>match Ed ops t with
  |some x=>match Ed ops u with
   |some y=>some (.br x y)
   |none=>none
  |none=>none
 |.st i c l=>match ops[i]? with
  |none=>none
  |some o=>match Qh ops i with
   |true=>match Ed ops l with
    |some r=>some (ET.cons (c,true,o) r)
    |none=>none
   |false=>match Ed ops l with
    |some r=>some (ET.cons (c,false,o) r)
    |none=>none
theorem Adq {l:Tr} (h:Ed ops (.st i c l)=some es):∃g r o,ops[i]?=some o/\es=ET.cons (c,g,o) r/\Ed ops l=some r:=by
 simp only[Ed] at h
 split at h
 ·cases h
 ·rename_i o ho
  split at h <;> split at h <;> first|(cases h;done)|(rename_i r hr;cases h;exact⟨_,r,o,ho,rfl,hr⟩)
theorem Ad3 {u:Tr} (h:Ed ops (.br t u)=some es):∃x y,es=.br x y/\Ed ops t=some x/\Ed ops u=some y:=by
 simp only[Ed] at h
 split at h
 ·rename_i x hx
  split at h
  ·rename_i y hy;cases h;exact⟨x,y,rfl,hx,hy⟩
  ·cases h
 ·cases h
theorem IK {P:Program} {ops:Array Oper} {Q:Fr->Hp->Prop}:∀(t:Tr) (es:ET) (hist:List Hp) (a:Fr) (H:Hp),Ed ops t=some es->Pg P ops Q es hist a H->CY P ops Q t hist a H
 |.nil,es,hist,a,H,he,h=>by cases he;exact h
 |.br t u,es,hist,a,H,he,h=>by
  obtain⟨x,y,rfl,hx,hy⟩:=Ad3 he
  exact⟨IK t x hist a H hx h.1,IK u y hist a H hy h.2⟩
 |.st i c l,es,hist,a,H,he,h=>by
  obtain⟨g,r,o,ho,rfl,hr⟩:=Adq he
  simp only[Pg] at h
  simp only[CY,ho]
  split at h
  ·rename_i hw
   rw[if_pos hw]
   split at h
   ·rename_i hkd;simp only[hkd];obtain⟨v,hv,h⟩:=h
    exact⟨v,hv,(cH _ _ _).2 (IK l r _ _ _ hr h)⟩
   ·rename_i hkd;simp only[hkd];obtain⟨v,hv,hh,h⟩:=h
    exact⟨v,hv,hh,(cH _ _ _).2 (IK l r _ _ _ hr h)⟩
   ·rename_i hkd;simp only[hkd];refine oH (fun v H' hk=>?_) h
    exact(cH _ _ _).2 (IK l r _ _ _ hr hk)
  ·rename_i hw
   rw[if_neg hw]
   exact IK l r _ _ _ hr h
def QW (P:Program) (ops:Array Oper) (bs:Array Nat):Nat->List Nat->List Nat->Tr
 |n,acc,S=>
  let all:=List.range ops.size
  let cnt:=fun i=>jC P ops ((all.map fun j=>(j,0)).filter fun j=>!(bs.getD i 0).testBit j.1 && !(bs.getD j.1 0).testBit i)
  match n with
  |0=>(all.filter fun i=>!acc.contains i).foldr (fun i t=>.st i (cnt i) t) .nil
  |n+1=>
   let one:=fun e=>let new:=(all.filter fun i=>(bs.getD e 0).testBit i && !acc.contains i)++ [e]
    new.foldr (fun i t=>.st i (cnt i) t) (QW P ops bs n (acc++new) (S.filter fun j=>!(j == e)))
   match S.filter fun e=>!S.any fun j=>(bs.getD e 0).testBit j with
   | []=>.nil
   |e::l=>l.foldl (fun t e=>.br t (one e)) (one e)
def C1 (P:Program) (ops:Array Oper):List Nat:=(List.range ops.size).filter fun i=>match ops[i]? with|some o=>bW P o.op|none=>false
def trF:Tr->Option Tr
 |.nil=>some .nil
 |.st i c t=>match yX i with
  |some i=>match yX c with
   |some c=>match trF t with
    |some t=>some (.st i c t)
    |none=>none
   |none=>none
  |none=>none
 |.br t u=>match trF t with
  |some t=>match trF u with
   |some u=>some (.br t u)
   |none=>none
  |none=>none
def P1:List (List HP)->List Hp->Prop
 | [],[]=>True
 |C::l,H::m=>bZ C H/\P1 l m
 |_,_=>False
theorem P1.take:∀ {l:List (List HP)} {m:List Hp},P1 l m->∀ {c:Nat} {h:Hp},h∈m.take c->∃C∈l.take c,bZ C h
 | [],[],_,_,_,hh=>by simp at hh
 |C::l,H::m,hs,0,_,hh=>by simp at hh
 |C::l,H::m,hs,c+1,h,hh=>by
  simp only[List.take_succ_cons,List.mem_cons] at hh
  rcases hh with rfl|hh
  ·exact⟨C,by simp,hs.1⟩
  ·obtain⟨C',h1,h2⟩:=P1.take hs.2 hh
   exact⟨C',by simp[h1],h2⟩
 | [],_::_,hs,_,_,_=>hs.elim
 |_::_,[],hs,_,_,_=>hs.elim
def aM (P:Program) (ops:Array Oper) (Q:Fr->List HP->Prop) (es:ET) (hist:List (List HP)) (a:Fr) (C:List HP):Prop:=
 ∀Hs H,P1 hist Hs->bZ C H->Pg P ops (upC Q) es Hs a H
def RdC (P:Program) (o:Oper) (a:Fr) (C:List HP) (v:Value):Prop:=∀H,bZ C H->I7 P o a H=some v
def yR (p:List HP->Prop):List (List HP)->Prop
 | []=>True
 |C::l=>p C/\yR p l
theorem HR {p:List HP->Prop}:∀ {l:List (List HP)},yR p l->∀C∈l,p C
 | [],_,_,h=>by cases h
 |_::_,hp,C,h=>by
  rcases List.mem_cons.1 h with rfl|h
  ·exact hp.1
  ·exact HR hp.2 C h
def AI (P:Program) (o:Oper) (a:Fr) (C:List HP) (k:Value->List HP->Prop):Prop:=∀H,bZ C H->lD P o a H (upV k)
section
variable {Q:Fr->List HP->Prop}
theorem f6 (hk:kd P o.op=.pure) (hw:bD ops o a=true) (hv:cA P o a=some v) (h:cU g v fun v=>aM P ops Q es hist (fE a o.dst v) C):aM P ops Q (ET.cons (c,g,o) es) hist a C:=fun Hs H h1 h2=>by
 simp only[Pg,hw,if_true,hk]
 rw[cH] at h
 exact⟨v,hv,h Hs H h1 h2⟩
theorem P6 (hk:kd P o.op=.load) (hw:bD ops o a=true) (hv:RdC P o a C v) (hh:yR (fun C'=>RdC P o a C' v) (hist.take c)) (h:cU g v fun v=>aM P ops Q es hist (fE a o.dst v) C):aM P ops Q (ET.cons (c,g,o) es) hist a C:=fun Hs H h1 h2=>by
 simp only[Pg,hw,if_true,hk]
 rw[cH] at h
 refine⟨v,hv H h2,fun x hx=>?_,h Hs H h1 h2⟩
 obtain⟨C',k1,k2⟩:=h1.take hx
 exact HR hh C' k1 x k2
theorem vF (hk:kd P o.op=.other) (hw:bD ops o a=true) (h:AI P o a C fun v C'=>cU g v fun v=>aM P ops Q es (C::hist) (fE a o.dst v) C'):aM P ops Q (ET.cons (c,g,o) es) hist a C:=fun Hs H h1 h2=>by
 simp only[Pg,hw,if_true,hk]
 refine oH (fun v H' hk=>?_) (h H h2)
 obtain⟨C',k1,k2⟩:=hk
 rw[cH] at k2
 exact k2 (H::Hs) H' ⟨h2,h1⟩ k1
theorem Akk (hw:bD ops o a=false) (h:aM P ops Q es hist (fE a o.dst undef) C):aM P ops Q (ET.cons (c,g,o) es) hist a C:=fun Hs H h1 h2=>by
 simp only[Pg,hw]
 exact h Hs H h1 h2
theorem Amm {x y:ET} (h1:aM P ops Q x hist a C) (h2:aM P ops Q y hist a C):aM P ops Q (.br x y) hist a C:=fun Hs H k1 k2=>⟨h1 Hs H k1 k2,h2 Hs H k1 k2⟩
theorem aP (h:Q a C):aM P ops Q .nil hist a C:=fun _ _ _ h2=>⟨C,h2,h⟩
theorem L1 (he:aG C C') (h:aM P ops Q es hist a C'):aM P ops Q es hist a C:=fun Hs H h1 h2=>h Hs H h1 (he H h2)
end
section
variable {Q:Exit->Fr->List HP->Prop}
theorem Ds (he:QU ol.toArray 0 ol=some es) (h:aM P ol.toArray (Q .normal) es [] a C):eY P (.region id ol.toArray false) Q a C:=fun H hs=>
 OE ol 0 es [] a H he (h [] H trivial hs)
theorem GW (hl:Cc (JR P ol.toArray (Region.before ol.toArray))=some l) (hc:vD P ol.toArray (Region.before ol.toArray) l=true) (he:Jt ol.toArray l=some es)
  (h:aM P ol.toArray (Q .normal) es [] a C):eY P (.region id ol.toArray true) Q a C:=fun H hs=>by
 have e:=Wb hl
 exact .inl ⟨by rw[e];exact hc,by rw[e];exact NH l es [] a H he (h [] H trivial hs)⟩
theorem Gz (hl:trF (QW P ol.toArray (Region.before ol.toArray) (C1 P ol.toArray).length [] (C1 P ol.toArray))=some t) (hc:HN P ol.toArray (Region.before ol.toArray) t=true) (he:Ed ol.toArray t=some es)
  (h:aM P ol.toArray (Q .normal) es [] a C):eY P (.region id ol.toArray true) Q a C:=fun H hs=>
 .inr ⟨t,hc,IK t es [] a H he (h [] H trivial hs)⟩
end
def dS (P:Program) (fn:Func) (K:Value->List HP->Prop):Exit->Fr->List HP->Prop
 |Exit.normal=>fun a C=>∀H,bZ C H->XX P fn (upV K) a H
 |Exit.ret=>fun a C=>∀H,bZ C H->XX P fn (upV K) a H
 |_=>fun _ _=>False
theorem P0 (hm:P.follows .mixedOrders=true) {c:Code} {K:Value->List HP->Prop} (hf:P.funcs[f]?=some fn) (hb:fn.body=some c)
  (hn:(fn.name == "runtime.NumGoroutine")=false) (hc:rC fn.ntmps c=true) (hsz:args.size<=fn.ntmps) (h:eY P c (dS P fn K) (GA args.toList) C):aA P f args C K:=fun H hs=>by
 refine O9 hm hf hb hn hc hsz (wR c (fun e a H hq=>?_) _ H (h H hs))
 obtain⟨C',h1,h2⟩:=hq
 cases e <;> first|exact h2 H h1|exact h2.elim
def zT (P:Program) (a:Fr) (C:List HP) (rs:List ResultVar) (vs:List Value):Prop:=∀H,bZ C H->wV P a H rs=some vs
theorem bS:zT P a C [] []:=fun _ _=>rfl
theorem Aiz {t:Tmp} (hx:iG (a t)=some v) (h:zT P a C rs vs):zT P a C (.tmp t::rs) (v::vs):=fun H hs=>Ain hx (h H hs)
def Xw (C:List HP) (B:Nat) (cs:List Value):Prop:=∀H,bZ C H->∃e rw,H B=some (.cells cs e rw)
theorem sN {B:Nat} {e:TypeId}:Xw (pt B cs e::C) B cs:=fun H ⟨H1,H2,_,h1,_,ha,_⟩=>by
 obtain⟨b,h,l⟩:=h1 B _ ha
 have:=sM.le_own l rfl
 subst this
 exact⟨e,true,h⟩
theorem tU {B:Nat} (h:Xw C B cs):Xw (A::C) B cs:=fun H hs=>h H hs.tail
theorem Adx {p:Tmp} {t:TypeId} {B off:Nat} (hx:a p=.pointer (some ⟨B,off,none⟩)) (hb:Xw C B cs) (hv:Nj P t cs off=some v)
  (h:zT P a C rs vs):zT P a C (.cell p t::rs) (v::vs):=fun H hs=>by
 obtain⟨e,rw,hB⟩:=hb H hs
 exact Aec hx hB hv (h H hs)
theorem Ah7 {K:Value->List HP->Prop} (hl:mU fn.results.toList=some rs) (hv:zT P a C rs vs) (ht:iG (Qy vs)=some v) (he:aG C C') (hk:K v C'):
  dS P fn K .ret a C:=fun H hs=>⟨vs,by rw[k6 hl];exact hv H hs,H,xR.refl H,C',he H hs,by rw[f5 ht];exact hk⟩
end Go.Sl
namespace Go.Sl
variable {m n j u:Int} {P:Program} {a:Fr} {d:Option Tmp} {ty t yt t' e:TypeId} {pos:String} {after:Array Edge} {x y z:Operand} {k':IntKind} {Amw:Array Operand} {ts:Array TypeId} {ops:Array Oper} {Q:Fr->List HP->Prop} {C:List HP} {c B off sz:Nat} {o:Oper} {es:ET} {hist:List (List HP)} {v:Value} {k:Value->List HP->Prop} {gd b:Bool} {d':Tmp} {op:Op} {s:ByteArray} {ps:Array (Nat×Operand)} {xs ys:Array Value} {cs cs' vs:List Value} {p:List HP->Prop} {H:Hp} {f:FuncId}
theorem pJ (l:List UInt8):(ByteArray.mk l.toArray).size=l.length:=by simp[ByteArray.size]
theorem Afs (z:Int):IntKind.wrap .u8 z=z % 256:=by
 simp[IntKind.wrap,IntKind.bits,IntKind.signed]
theorem Aa7 (z:Int):IntKind.wrap .u64 z=z % 18446744073709551616:=by
 simp[IntKind.wrap,IntKind.bits,IntKind.signed]
theorem X1 {k:IntKind} (h0:0<=m) (h1:0<n) (hm:k.wrap (m / n)=m / n):k.wrap (m / n)=m / n:=hm
section
variable {g:Option (Nat×Bool)}
theorem Ad2 {k:IntKind} (hx:bJ a x=.int k m) (hy:bJ a y=.int k n) (h0:0<=m) (h1:0<n) (h2:k.wrap (m / n)=m / n):cA P ⟨d,.binOp .quo t x y yt,ty,pos,after,g⟩ a=some (.int k (m / n)):=by
 have:=Ze (P:=P) (d:=d) (t:=t) (yt:=yt) (ty:=ty) (pos:=pos) (after:=after) (g:=g) hx hy (by omega)
 rw[this,Int.tdiv_eq_ediv_of_nonneg h0,h2]
theorem Ad8 {k:IntKind} (hx:bJ a x=.int k m) (hy:bJ a y=.int k n) (h0:0<=m) (h1:0<n):cA P ⟨d,.binOp .rem t x y yt,ty,pos,after,g⟩ a=some (.int k (m % n)):=by
 have:=ZC (P:=P) (d:=d) (t:=t) (yt:=yt) (ty:=ty) (pos:=pos) (after:=after) (g:=g) hx hy (by omega)
 rw[this,Int.tmod_eq_emod_of_nonneg h0]
theorem Aet {k:IntKind} (hargs:Amw.toList.map (bJ a)= [.int k m,.int k' n]):cA P ⟨d,.call { callee:=.builtin .min,args:=Amw,argTypes:=ts },ty,pos,after,g⟩ a=some (.int k (min m n)):=by
 rw[Ahv hargs]
 congr 2
 split <;> omega
theorem Ag6 {k:IntKind} (hargs:Amw.toList.map (bJ a)= [.int k m,.int k' n]):cA P ⟨d,.call { callee:=.builtin .max,args:=Amw,argTypes:=ts },ty,pos,after,g⟩ a=some (.int k (max m n)):=by
 rw[Aio hargs]
 congr 2
 split <;> omega
theorem ZI (hs:(P.underlying t).isSome=true) (ht:NY P t'=some .u8) (hx:bJ a x=.int k' n):cA P ⟨d,.convert t t' x,ty,pos,after,g⟩ a=some (.int .u8 (n % 256)):=by
 have:=LS (P:=P) (d:=d) (ty:=ty) (pos:=pos) (after:=after) (g:=g) hs ht hx
 rw[Afs] at this;exact this
theorem Aa0 (hs:(P.underlying t).isSome=true) (ht:NY P t'=some .u64) (hx:bJ a x=.int k' n):cA P ⟨d,.convert t t' x,ty,pos,after,g⟩ a=some (.int .u64 (n % 18446744073709551616)):=by
 have:=LS (P:=P) (d:=d) (ty:=ty) (pos:=pos) (after:=after) (g:=g) hs ht hx
 rw[Aa7] at this;exact this
end
section
variable {g:Bool}
end
section
variable {g:Option (Nat×Bool)}
theorem aV (h:aM P ops Q es hist (kH a d' undef) C) (hw:bD ops ⟨some d',op,ty,pos,after,g⟩ a=false:=by exact rfl):aM P ops Q (ET.cons (c,gd,⟨some d',op,ty,pos,after,g⟩) es) hist a C:=Akk hw h
theorem aE (h:aM P ops Q es hist (kH a d' v) C) (hv:opV P op a=some v:=by exact rfl) (hw:bD ops ⟨some d',op,ty,pos,after,g⟩ a=true:=by exact rfl):aM P ops Q (ET.cons (c,false,⟨some d',op,ty,pos,after,g⟩) es) hist a C:=
 f6 (Zo hv) hw (Ox hv) (CO rfl h)
theorem aH (h:cU gd v fun v=>aM P ops Q es hist (kH a d' v) C) (hv:opV P op a=some v:=by exact rfl) (hw:bD ops ⟨some d',op,ty,pos,after,g⟩ a=true:=by exact rfl):aM P ops Q (ET.cons (c,gd,⟨some d',op,ty,pos,after,g⟩) es) hist a C:=
 f6 (Zo hv) hw (Ox hv) h
theorem cE (h:cU gd (.int .i64 (m+n)) fun v=>aM P ops Q es hist (kH a d' v) C) (hx:bJ a x=.int .i64 m:=by exact rfl) (hy:bJ a y=.int .i64 n:=by exact rfl) (h0:-9223372036854775808<=m+n:=by first|omega|assumption) (h1:m+n<=9223372036854775807:=by first|omega|assumption) (hw:bD ops ⟨some d',.binOp .add t x y yt,ty,pos,after,g⟩ a=true:=by exact rfl):aM P ops Q (ET.cons (c,gd,⟨some d',.binOp .add t x y yt,ty,pos,after,g⟩) es) hist a C:=
 f6 rfl hw (Xz hx hy h0 h1) h
theorem f4 (h:cU gd (.int .i64 (m - n)) fun v=>aM P ops Q es hist (kH a d' v) C) (hx:bJ a x=.int .i64 m:=by exact rfl) (hy:bJ a y=.int .i64 n:=by exact rfl) (h0:-9223372036854775808<=m - n:=by first|omega|assumption) (h1:m - n<=9223372036854775807:=by first|omega|assumption) (hw:bD ops ⟨some d',.binOp .sub t x y yt,ty,pos,after,g⟩ a=true:=by exact rfl):aM P ops Q (ET.cons (c,gd,⟨some d',.binOp .sub t x y yt,ty,pos,after,g⟩) es) hist a C:=
 f6 rfl hw (Abn hx hy h0 h1) h
theorem AU (h:cU gd (.int .i64 (m * n)) fun v=>aM P ops Q es hist (kH a d' v) C) (hx:bJ a x=.int .i64 m:=by exact rfl) (hy:bJ a y=.int .i64 n:=by exact rfl) (h0:-9223372036854775808<=m * n:=by first|omega|assumption) (h1:m * n<=9223372036854775807:=by first|omega|assumption) (hw:bD ops ⟨some d',.binOp .mul t x y yt,ty,pos,after,g⟩ a=true:=by exact rfl):aM P ops Q (ET.cons (c,gd,⟨some d',.binOp .mul t x y yt,ty,pos,after,g⟩) es) hist a C:=
 f6 rfl hw (Acs hx hy h0 h1) h
theorem Kg {k:IntKind} (h:cU gd (.int k (m / n)) fun v=>aM P ops Q es hist (kH a d' v) C) (hx:bJ a x=.int k m:=by exact rfl) (hy:bJ a y=.int k n:=by exact rfl) (h0:0<=m:=by first|omega|assumption) (h1:0<n:=by first|omega|assumption) (h2:k.wrap (m / n)=m / n:=by first|(refine uT ?_ ?_ <;> omega)|(refine X1 ?_ ?_ (by assumption) <;> omega)) (hw:bD ops ⟨some d',.binOp .quo t x y yt,ty,pos,after,g⟩ a=true:=by exact rfl):aM P ops Q (ET.cons (c,gd,⟨some d',.binOp .quo t x y yt,ty,pos,after,g⟩) es) hist a C:=
 f6 rfl hw (Ad2 hx hy h0 h1 h2) h
theorem zD {k:IntKind} (h:cU gd (.int k (m % n)) fun v=>aM P ops Q es hist (kH a d' v) C) (hx:bJ a x=.int k m:=by exact rfl) (hy:bJ a y=.int k n:=by exact rfl) (h0:0<=m:=by first|omega|assumption) (h1:0<n:=by first|omega|assumption) (hw:bD ops ⟨some d',.binOp .rem t x y yt,ty,pos,after,g⟩ a=true:=by exact rfl):aM P ops Q (ET.cons (c,gd,⟨some d',.binOp .rem t x y yt,ty,pos,after,g⟩) es) hist a C:=
 f6 rfl hw (Ad8 hx hy h0 h1) h
theorem lQ (h:cU gd (v) fun v=>aM P ops Q es hist (kH a d' v) C) (hx:bJ a x=.bool b:=by exact rfl) (hv:iG (.bool !b)=some v:=by exact rfl) (hw:bD ops ⟨some d',.unOp .not t x,ty,pos,after,g⟩ a=true:=by exact rfl):aM P ops Q (ET.cons (c,gd,⟨some d',.unOp .not t x,ty,pos,after,g⟩) es) hist a C:=
 f6 rfl hw (QK hx hv) h
theorem fP {m n:ByteArray} (h:cU gd (.string (m++n)) fun v=>aM P ops Q es hist (kH a d' v) C) (hx:bJ a x=.string m:=by exact rfl) (hy:bJ a y=.string n:=by exact rfl) (hs:m.size+n.size<=9223372036854775807:=by first|omega|(simp[pJ] <;> omega)|decide) (hw:bD ops ⟨some d',.binOp .add t x y yt,ty,pos,after,g⟩ a=true:=by exact rfl):aM P ops Q (ET.cons (c,gd,⟨some d',.binOp .add t x y yt,ty,pos,after,g⟩) es) hist a C:=
 f6 rfl hw (Aie hx hy hs) h
theorem dQ {n cp:Nat} {k:IntKind} (h:cU gd (.pointer (some ⟨B,off+j.toNat * sz,none⟩)) fun v=>aM P ops Q es hist (kH a d' v) C) (hx:bJ a x=.slice (some ⟨B,off,none⟩) n cp:=by exact rfl) (hy:bJ a y=.int k j:=by exact rfl) (ht:sP P t=some sz:=by exact rfl) (h0:0<=j:=by first|omega|assumption) (h1:j<n:=by first|omega|assumption) (hw:bD ops ⟨some d',.indexAddr t x y,ty,pos,after,g⟩ a=true:=by exact rfl):aM P ops Q (ET.cons (c,gd,⟨some d',.indexAddr t x y,ty,pos,after,g⟩) es) hist a C:=
 f6 rfl hw (Hj ht hx hy h0 h1) h
theorem cR {n:Nat} {k:IntKind} (h:cU gd (.pointer (some ⟨B,off+j.toNat * sz,none⟩)) fun v=>aM P ops Q es hist (kH a d' v) C) (hx:bJ a x=.pointer (some ⟨B,off,none⟩):=by exact rfl) (hy:bJ a y=.int k j:=by exact rfl) (ht:Aij P t=some (n,sz):=by exact rfl) (h0:0<=j:=by first|omega|assumption) (h1:j<n:=by first|omega|assumption) (hw:bD ops ⟨some d',.indexAddr t x y,ty,pos,after,g⟩ a=true:=by exact rfl):aM P ops Q (ET.cons (c,gd,⟨some d',.indexAddr t x y,ty,pos,after,g⟩) es) hist a C:=
 f6 rfl hw (Wi ht hx hy h0 h1) h
theorem wZ {k:IntKind} (h:cU gd (.string (s.extract j.toNat s.size)) fun v=>aM P ops Q es hist (kH a d' v) C) (hx:bJ a x=.string s:=by exact rfl) (hy:bJ a y=.int k j:=by exact rfl) (ht:mN P t=true:=by exact rfl) (h0:0<=j:=by first|omega|assumption) (h1:j<=s.size:=by first|omega|assumption) (hw:bD ops ⟨some d',.slice t x (some y) none none,ty,pos,after,g⟩ a=true:=by exact rfl):aM P ops Q (ET.cons (c,gd,⟨some d',.slice t x (some y) none none,ty,pos,after,g⟩) es) hist a C:=
 f6 rfl hw (Hh ht hx hy h0 h1) h
theorem xN {k:IntKind} (h:cU gd (.string (s.extract 0 j.toNat)) fun v=>aM P ops Q es hist (kH a d' v) C) (hx:bJ a x=.string s:=by exact rfl) (hy:bJ a y=.int k j:=by exact rfl) (ht:mN P t=true:=by exact rfl) (h0:0<=j:=by first|omega|assumption) (h1:j<=s.size:=by first|omega|assumption) (hw:bD ops ⟨some d',.slice t x none (some y) none,ty,pos,after,g⟩ a=true:=by exact rfl):aM P ops Q (ET.cons (c,gd,⟨some d',.slice t x none (some y) none,ty,pos,after,g⟩) es) hist a C:=
 f6 rfl hw (HS ht hx hy h0 h1) h
theorem wD {k:IntKind} (h:cU gd (.string (s.extract j.toNat m.toNat)) fun v=>aM P ops Q es hist (kH a d' v) C) (hx:bJ a x=.string s:=by exact rfl) (hy:bJ a y=.int k j:=by exact rfl) (hz:bJ a z=.int k' m:=by exact rfl) (ht:mN P t=true:=by exact rfl) (h0:0<=j:=by first|omega|assumption) (h1:j<=m:=by first|omega|assumption) (h2:m<=s.size:=by first|omega|assumption) (hw:bD ops ⟨some d',.slice t x (some y) (some z) none,ty,pos,after,g⟩ a=true:=by exact rfl):aM P ops Q (ET.cons (c,gd,⟨some d',.slice t x (some y) (some z) none,ty,pos,after,g⟩) es) hist a C:=
 f6 rfl hw (N3 ht hx hy hz h0 h1 h2) h
theorem dP {vs:List (Nat×Value)} (h:cU gd (v) fun v=>aM P ops Q es hist (kH a d' v) C) (hps:Cz a ps.toList=some vs:=by exact rfl) (hv:M5 P t vs=some v:=by exact rfl) (hw:bD ops ⟨some d',.build t ps,ty,pos,after,g⟩ a=true:=by exact rfl):aM P ops Q (ET.cons (c,gd,⟨some d',.build t ps,ty,pos,after,g⟩) es) hist a C:=
 f6 rfl hw (Z4 hps hv) h
theorem yQ {k:IntKind} (h:cU gd (.int k (min m n)) fun v=>aM P ops Q es hist (kH a d' v) C) (hargs:Amw.toList.map (bJ a)= [.int k m,.int k' n]:=by exact rfl) (hw:bD ops ⟨some d',.call { callee:=.builtin .min,args:=Amw,argTypes:=ts },ty,pos,after,g⟩ a=true:=by exact rfl):aM P ops Q (ET.cons (c,gd,⟨some d',.call { callee:=.builtin .min,args:=Amw,argTypes:=ts },ty,pos,after,g⟩) es) hist a C:=
 f6 rfl hw (Aet hargs) h
theorem zJ {k:IntKind} (h:cU gd (.int k (max m n)) fun v=>aM P ops Q es hist (kH a d' v) C) (hargs:Amw.toList.map (bJ a)= [.int k m,.int k' n]:=by exact rfl) (hw:bD ops ⟨some d',.call { callee:=.builtin .max,args:=Amw,argTypes:=ts },ty,pos,after,g⟩ a=true:=by exact rfl):aM P ops Q (ET.cons (c,gd,⟨some d',.call { callee:=.builtin .max,args:=Amw,argTypes:=ts },ty,pos,after,g⟩) es) hist a C:=
 f6 rfl hw (Ag6 hargs) h
theorem aT (h:cU gd (.bool b) fun v=>aM P ops Q es hist (kH a d' v) C) (hx:bJ a x=.agg xs:=by exact rfl) (hy:bJ a y=.agg ys:=by exact rfl) (hg:(!P.eqGuardType P.depth t && Cp P 20 t)=true:=by decide +kernel) (he:eqV P 20 t (.agg xs) (.agg ys)=some b:=by exact rfl) (hw:bD ops ⟨some d',.binOp .eql t x y yt,ty,pos,after,g⟩ a=true:=by exact rfl):aM P ops Q (ET.cons (c,gd,⟨some d',.binOp .eql t x y yt,ty,pos,after,g⟩) es) hist a C:=
 f6 rfl hw (Q8 hx hy hg he) h
theorem bY (h:cU gd (.bool (!b)) fun v=>aM P ops Q es hist (kH a d' v) C) (hx:bJ a x=.agg xs:=by exact rfl) (hy:bJ a y=.agg ys:=by exact rfl) (hg:(!P.eqGuardType P.depth t && Cp P 20 t)=true:=by decide +kernel) (he:eqV P 20 t (.agg xs) (.agg ys)=some b:=by exact rfl) (hw:bD ops ⟨some d',.binOp .neq t x y yt,ty,pos,after,g⟩ a=true:=by exact rfl):aM P ops Q (ET.cons (c,gd,⟨some d',.binOp .neq t x y yt,ty,pos,after,g⟩) es) hist a C:=
 f6 rfl hw (Su hx hy hg he) h
theorem Ln {yk:IntKind} (h:cU gd (.int .i64 (u * 256)) fun v=>aM P ops Q es hist (kH a d' v) C) (hx:bJ a x=.int .i64 u:=by exact rfl) (hy:bJ a y=.int yk 8:=by exact rfl) (h0:0<=u:=by first|omega|assumption) (h1:u<18014398509481984:=by first|omega|assumption) (hw:bD ops ⟨some d',.binOp .shl t x y yt,ty,pos,after,g⟩ a=true:=by exact rfl):aM P ops Q (ET.cons (c,gd,⟨some d',.binOp .shl t x y yt,ty,pos,after,g⟩) es) hist a C:=
 f6 rfl hw (Afn hx hy h0 h1) h
theorem Z0 {b:Int} (h:cU gd (.int .i64 (u * 256+b)) fun v=>aM P ops Q es hist (kH a d' v) C) (hx:bJ a x=.int .i64 (u * 256):=by exact rfl) (hy:bJ a y=.int .i64 b:=by exact rfl) (h0:0<=u:=by first|omega|assumption) (h1:u<18014398509481984:=by first|omega|assumption) (h2:0<=b:=by first|omega|assumption) (h3:b<256:=by first|omega|assumption) (hw:bD ops ⟨some d',.binOp .or t x y yt,ty,pos,after,g⟩ a=true:=by exact rfl):aM P ops Q (ET.cons (c,gd,⟨some d',.binOp .or t x y yt,ty,pos,after,g⟩) es) hist a C:=
 f6 rfl hw (Aj1 hx hy h0 h1 h2 h3) h
theorem lO (h:cU gd (.int .i64 n) fun v=>aM P ops Q es hist (kH a d' v) C) (hx:bJ a x=.int k' n:=by exact rfl) (ht:NY P t'=some .i64:=by exact rfl) (hs:(P.underlying t).isSome=true:=by exact rfl) (h0:-9223372036854775808<=n:=by first|omega|assumption) (h1:n<=9223372036854775807:=by first|omega|assumption) (hk:kd P (.convert t t' x)=.pure:=by exact rfl) (hw:bD ops ⟨some d',.convert t t' x,ty,pos,after,g⟩ a=true:=by exact rfl):aM P ops Q (ET.cons (c,gd,⟨some d',.convert t t' x,ty,pos,after,g⟩) es) hist a C:=
 f6 hk hw (Vr hs ht hx h0 h1) h
theorem pE (h:cU gd (.int .u8 (n % 256)) fun v=>aM P ops Q es hist (kH a d' v) C) (hx:bJ a x=.int k' n:=by exact rfl) (ht:NY P t'=some .u8:=by exact rfl) (hs:(P.underlying t).isSome=true:=by exact rfl) (hk:kd P (.convert t t' x)=.pure:=by exact rfl) (hw:bD ops ⟨some d',.convert t t' x,ty,pos,after,g⟩ a=true:=by exact rfl):aM P ops Q (ET.cons (c,gd,⟨some d',.convert t t' x,ty,pos,after,g⟩) es) hist a C:=
 f6 hk hw (ZI hs ht hx) h
theorem oW (h:cU gd (.int .u64 (n % 18446744073709551616)) fun v=>aM P ops Q es hist (kH a d' v) C) (hx:bJ a x=.int k' n:=by exact rfl) (ht:NY P t'=some .u64:=by exact rfl) (hs:(P.underlying t).isSome=true:=by exact rfl) (hk:kd P (.convert t t' x)=.pure:=by exact rfl) (hw:bD ops ⟨some d',.convert t t' x,ty,pos,after,g⟩ a=true:=by exact rfl):aM P ops Q (ET.cons (c,gd,⟨some d',.convert t t' x,ty,pos,after,g⟩) es) hist a C:=
 f6 hk hw (Aa0 hs ht hx) h
theorem Aa2 (hb:Xw C B cs) (hx:bJ a x=.pointer (some ⟨B,off,none⟩)) (hv:Nj P t cs off=some v):RdC P ⟨d,.load t x,ty,pos,after,g⟩ a C v:=fun H hs=>by
 obtain⟨e,rw,hB⟩:=hb H hs
 exact TZ (by rw[hx];exact M7 hB hv)
def Aky (P:Program) (t:TypeId) (B off:Nat) (v:Value) (C:List HP):Prop:=∃cs,Xw C B cs/\Nj P t cs off=some v
theorem Alt (hb:Xw C B cs:=by((repeat (first|exact sN|exact has_ro|apply tU)) <;> exact sN)) (hv:Nj P t cs off=some v:=by exact rfl):Aky P t B off v C:=⟨cs,hb,hv⟩
theorem AA:yR p []:=trivial
theorem Gu {l:List (List HP)} (h:p C) (hl:yR p l):yR p (C::l):=⟨h,hl⟩
theorem Hl {p q:List HP->Prop} (hpq:∀C,p C->q C):∀ {l:List (List HP)},yR p l->yR q l
 | [],_=>trivial
 |_::_,h=>⟨hpq _ h.1,Hl hpq h.2⟩
theorem bG (h:cU gd v fun v=>aM P ops Q es hist (kH a d' v) C) (hx:bJ a x=.pointer (some ⟨B,off,none⟩):=by exact rfl)
  (hb:Xw C B cs:=by((repeat (first|exact sN|exact has_ro|apply tU)) <;> exact sN)) (hv:Nj P t cs off=some v:=by exact rfl)
  (hh:yR (Aky P t B off v) (hist.take c):=by((repeat (first|exact AA|refine Gu Alt ?_)) <;> exact AA))
  (hw:bD ops ⟨some d',.load t x,ty,pos,after,g⟩ a=true:=by exact rfl):aM P ops Q (ET.cons (c,gd,⟨some d',.load t x,ty,pos,after,g⟩) es) hist a C:=
 P6 rfl hw (Aa2 hb hx hv) (Hl (fun _ ⟨_,k1,k2⟩=>Aa2 k1 hx k2) hh) h
theorem nG (hs:bZ (pt B cs e::C) H):H B=some (.cells cs e true)/\∀b:sM,(∃cs',b=.cells cs' e true)->bZ C (hupd H B b):=by
 obtain⟨H1,H2,hc,h1,h2,ha,hs⟩:=hs
 obtain⟨b,hb,l⟩:=h1 B _ ha
 have:=sM.le_own l rfl
 subst this
 refine⟨hb,fun b _=>hs.mono fun r x hx=>?_⟩
 have hne:r≠B:=fun e=>by subst e;have:=(hc r _ x ha hx).1;cases this
 rw[jJ _ _ hne]
 exact h2 r x hx
theorem oZ {r:Nat} (hr:H r=none) (hs:bZ C H):bZ (pt r cs e::C) (hupd H r (.cells cs e true)):=
 ⟨mS r (.cells cs e true),H,(fun B b x hb hx=>by rw[(Dv hb).1,hr] at hx;cases hx),Da (kL _ _ _) (sM.le_refl _),
  (fun B b hb=>⟨b,by rw[jJ _ _ (fun e=>by subst e;rw[hr] at hb;cases hb)];exact hb,b.le_refl⟩),wJ _ _,hs⟩
theorem rZ (hs:bZ (pt B cs e::C) H):bZ (pt B cs' e::C) (hupd H B (.cells cs' e true)):=by
 obtain⟨H1,H2,hc,h1,h2,ha,hs⟩:=hs
 have hn:H2 B=none:=by
  cases hx:H2 B with
  |none=>rfl
  |some x=>have:=(hc B _ x ha hx).1;cases this
 refine⟨mS B (.cells cs' e true),H2,(fun r b x hb hx=>by rw[(Dv hb).1,hn] at hx;cases hx),Da (kL _ _ _) (sM.le_refl _),fun r b hb=>?_,wJ _ _,hs⟩
 rw[jJ _ _ (fun e=>by subst e;rw[hn] at hb;cases hb)]
 exact h2 r b hb
theorem G_o (h:AI P ⟨some d',op,ty,pos,after,g⟩ a C fun v C'=>cU gd v fun v=>aM P ops Q es (C::hist) (kH a d' v) C') (hk:kd P op=.other:=by exact rfl) (hw:bD ops ⟨some d',op,ty,pos,after,g⟩ a=true:=by exact rfl):
  aM P ops Q (ET.cons (c,gd,⟨some d',op,ty,pos,after,g⟩) es) hist a C:=vF hk hw h
theorem Yq (h:AI P ⟨none,op,ty,pos,after,g⟩ a C fun _ C'=>aM P ops Q es (C::hist) a C') (hk:kd P op=.other:=by exact rfl) (hw:bD ops ⟨none,op,ty,pos,after,g⟩ a=true:=by exact rfl):
  aM P ops Q (ET.cons (c,gd,⟨none,op,ty,pos,after,g⟩) es) hist a C:=vF hk hw fun H hs=>oH (fun _ _ ⟨C',h1,h2⟩=>⟨C',h1,(cH _ _ _).2 h2⟩) (h H hs)
theorem bT {n:Nat} {u:Value} {R:List HP} (h:aM P ops Q es (C::hist) a (pt B cs' e::R)) (hx:bJ a x=.pointer (some ⟨B,off,none⟩):=by exact rfl)
  (hp:aS (pt B cs e) C R:=by((repeat (first|exact aS.here|apply aS.there)) <;> exact aS.here)) (hy:iG (bJ a y)=some u:=by exact rfl) (hvs:mU u.cells.toList=some vs:=by exact rfl) (ht:mJ P t=some n:=by exact rfl)
  (hn:(vs.length == n)=true:=by exact rfl) (mS:(vs.all Value.oneCell')=true:=by exact rfl) (hle:Nat.ble (off+n) cs.length=true:=by exact rfl) (hs:mU (uK cs off vs)=some cs':=by exact rfl)
  (hw:bD ops ⟨none,.store t x y,ty,pos,after,g⟩ a=true:=by exact rfl):aM P ops Q (ET.cons (c,gd,⟨none,.store t x y,ty,pos,after,g⟩) es) hist a C:=
 Yq (hw:=hw) fun H hH=>by
  have h1:=hp.sats hH
  exact Q0 hx hy hvs ht hn mS (nG h1).1 hle hs ⟨_,rZ h1,h⟩
theorem eF {zs zs':List Value} (h:∀r,cU gd (.pointer (some ⟨r,0,none⟩)) fun v=>aM P ops Q es (C::hist) (kH a d' v) (pt r zs' t::C)) (hz:Ak P t=some zs:=by exact rfl) (hc:mU zs=some zs':=by exact rfl)
  (hw:bD ops ⟨some d',.alloc t,ty,pos,after,g⟩ a=true:=by exact rfl):aM P ops Q (ET.cons (c,gd,⟨some d',.alloc t,ty,pos,after,g⟩) es) hist a C:=
 vF rfl hw fun H hH=>Rn hz hc fun r hr=>⟨_,oZ hr hH,h r⟩
theorem fH {u:Value} (h:∀r,cU gd (.pointer (some ⟨r,0,none⟩)) fun v=>aM P ops Q es (C::hist) (kH a d' v) (pt r vs t::C)) (hx:iG (bJ a x)=some u:=by exact rfl) (hvs:mU u.cells.toList=some vs:=by exact rfl)
  (hw:bD ops ⟨some d',.box t x,ty,pos,after,g⟩ a=true:=by exact rfl):aM P ops Q (ET.cons (c,gd,⟨some d',.box t x,ty,pos,after,g⟩) es) hist a C:=
 vF rfl hw fun H hH=>Z6 hx hvs fun r hr=>⟨_,oZ hr hH,h r⟩
theorem cZ {n:Nat} {vs:List (Nat×Value)} (h:∀r,cU gd (.slice (some ⟨r,0,none⟩) n n) fun v=>aM P ops Q es (C::hist) (kH a d' v) (pt r cs e::C))
  (hps:Cz a ps.toList=some vs:=by exact rfl) (he:xY P t=some e:=by exact rfl) (hc:MQ P t n vs=some cs:=by exact rfl)
  (hw:bD ops ⟨some d',.buildSlice t n ps,ty,pos,after,g⟩ a=true:=by exact rfl):aM P ops Q (ET.cons (c,gd,⟨some d',.buildSlice t n ps,ty,pos,after,g⟩) es) hist a C:=
 vF rfl hw fun H hH=>Ji hps he hc fun r hr=>⟨_,oZ hr hH,h r⟩
theorem bP (h:aA P f vs.toArray C fun v C'=>cU gd v fun v=>aM P ops Q es (C::hist) (kH a d' v) C') (hargs:uJ a Amw.toList=some vs:=by exact rfl)
  (hw:bD ops ⟨some d',.call { callee:=.value (.func f),args:=Amw,argTypes:=ts },ty,pos,after,g⟩ a=true:=by exact rfl):
  aM P ops Q (ET.cons (c,gd,⟨some d',.call { callee:=.value (.func f),args:=Amw,argTypes:=ts },ty,pos,after,g⟩) es) hist a C:=
 vF rfl hw fun H hH=>Ael hargs (h H hH)
theorem g9 {fs cs:Array Value} {ws:List Value} (h:aA P f ws.toArray C fun v C'=>cU gd v fun v=>aM P ops Q es (C::hist) (kH a d' v) C') (hx:bJ a x=.func (.func f) fs cs:=by exact rfl) (hargs:uJ a Amw.toList=some vs:=by exact rfl)
  (hws:mU (fs.toList++vs++cs.toList)=some ws:=by exact rfl) (hw:bD ops ⟨some d',.call { callee:=.value x,args:=Amw,argTypes:=ts },ty,pos,after,g⟩ a=true:=by exact rfl):
  aM P ops Q (ET.cons (c,gd,⟨some d',.call { callee:=.value x,args:=Amw,argTypes:=ts },ty,pos,after,g⟩) es) hist a C:=
 vF rfl hw fun H hH=>O1 hx hargs (by have e:=k6 hws;have e2:(fs++vs.toArray++cs)=ws.toArray:=by apply Array.ext';simp[← e]
                                     rw[e2];exact h H hH)
end
end Go.Sl
namespace Go.Sl
variable {P:Program} {H:Hp} {st xt ty e t yt:TypeId} {A:Option Addr} {n m c B off j k cp bytes c0:Nat} {α:Type} {cs:List Value} {C R C':List HP} {v:Value} {ops:Array Oper} {Q:Fr->List HP->Prop} {a:Fr} {gd:Bool} {es:ET} {hist:List (List HP)} {d':Tmp} {d:Option Tmp} {pos:String} {after:Array Edge} {g:Option (Nat×Bool)} {x y z:Operand} {op:Op}
theorem He {inf:TypeInfo} {z x:Value} {xs news:List Value} {q:Value->Hp->Prop} (hst:P.underlying st=some (.slice e)) (hxt:Be P xt=true) (hi:P.info? e=some inf) (hz:inf.zero=some z)
  (hzs:z.cells.size=inf.size) (hlen:(Builtin.lenOf x).pr P=some m) (hnews:(Builtin.firstCells inf.size m x).rd P H=some news.toArray) (hnl:news.length=m * inf.size) (mS:(news.all Value.oneCell')=true) (hxl:xs.length=n * inf.size)
  (hrow:(A=none/\n=0/\c=0)\/∃B pre post e' rw,A=some ⟨B,pre.length,none⟩/\H B=some (.cells (pre++xs++post) e' rw)/\n<=c/\(c - n) * inf.size<=post.length/\(m=0\/rw=true\/c<n+m))
  (hbig:(2 * (n+m)+512) * inf.bytes<=281474976710656) (hby:inf.bytes≠0)
  (h0:m=0->q (.slice A n c) H)
  (h1:∀B pre post e',A=some ⟨B,pre.length,none⟩->H B=some (.cells (pre++xs++post) e' true)->n+m<=c->(c - n) * inf.size<=post.length->q (.slice A (n+m) c) (hupd H B (.cells (pre++(xs++news)++post.drop news.length) e' true)))
  (hk:∀r post N,H r=none->n+m<=N->post.length=(N - (n+m)) * inf.size->c<n+m->q (.slice (some ⟨r,0,none⟩) (n+m) N) (hupd H r (.cells (xs++news++post) e true))):
  (Builtin.append_ #[st,xt] ty #[.slice A n c,x]).ev P H q:=by
 obtain⟨D,hD,hDn⟩:=C8 hxt
 unfold Builtin.append_
 simp only[List.getElem?_toArray,List.getElem?_cons_zero,List.getElem?_cons_succ]
 rw[aI,aN (aK hst)]
 simp only
 rw[aI,aN (fC hi)]
 rw[aI,aN (aK hD),pure_bind]
 simp only[Bool.false_eq_true,if_false,Bool.not_false,if_true,false_or]
 rw[aI,aN hlen]
 by_cases hle:n+m<=c
 ·rw[if_pos hle,aI]
  refine rU hnews ?_
  rcases hrow with⟨g1,g2,g3⟩|⟨B,pre,post,e',rw,g1,hb,hnc,hpl,hrw⟩
  ·subst g1 g2 g3
   have hm0:m=0:=by omega
   subst hm0
   exact h0 rfl
  ·subst g1
   simp only
   rw[aI,nO]
   by_cases hm0:m=0
   ·subst hm0
    have:news= []:=by simpa using hnl
    subst this
    exact h0 rfl
   ·have hrt:rw=true:=by
     rcases hrw with h|h|h
     ·exact absurd h hm0
     ·exact h
     ·omega
    subst hrt
    have hml:m * inf.size<=post.length:=Nat.le_trans (Nat.mul_le_mul_right _ (by omega)) hpl
    refine nA news 0 _ _ H _ hb (by simp[hxl,hnl];omega) mS ?_
    have hset:mE (pre++xs++post) (pre.length+n * inf.size+0) news=pre++(xs++news)++post.drop news.length:=by
     have:=E5 news (pre++xs) post (by rw[hnl];exact hml)
     rw[List.length_append,hxl] at this
     rw[Nat.add_zero,this]
     simp
    rw[hset]
    exact h1 B pre post e' rfl hb hle hpl
 ·rw[if_neg hle]
  have hmax:IntKind.i64.max=9223372036854775807:=by decide
  have hpos:0<inf.bytes:=Nat.pos_of_ne_zero hby
  have hcap:c<n+m:=by omega
  have hnc:=Hg hcap
  have hle2:Builtin.nextslicecap (n+m) c * inf.bytes<=281474976710656:=Nat.le_trans (Nat.mul_le_mul_right _ hnc) hbig
  rw[aI,aN (d3 hi),if_neg (by simp[hby])]
  rw[aI,aN (d3 hi)]
  rw[if_neg (by have:(2:Nat) ^ 48=281474976710656:=by decide
                omega)]
  simp only[aI]
  simp only[choose,Sem.ev]
  rw[if_neg (by simp[Question.forced])]
  intro t
  simp only[Question.cut]
  generalize hN:n+m+t % (2 ^ 63 - (n+m))=N
  have hNle:n+m<=N:=by omega
  rw[aN (d3 hi)]
  refine CE ?_
  have hold:(Builtin.firstCells inf.size n (.slice A n c)).rd P H=some xs.toArray:=by
   rcases hrow with⟨g1,g2,g3⟩|⟨B,pre,post,e',rw,g1,hb,hnc,hpl,hrw⟩
   ·subst g1 g2 g3
    have:xs= []:=by simpa using hxl
    subst this
    rfl
   ·subst g1
    rw[mZ hb (by simp[hxl])]
    congr 1
    have:(pre++xs++post).drop pre.length=xs++post:=by simp
    rw[this,<- hxl]
    simp
  refine rU hold ?_
  refine rU hnews ?_
  rw[aN (show(zeroValue e).pr P=some z from by simp only[zeroValue,aU,d3 hi,Option.bind_some,hz];rfl)]
  simp only[newRow,aI]
  intro r hr
  refine⟨rfl,?_⟩
  have hcells:(xs.toArray++news.toArray++Builtin.zeroCells z.cells (N - (n+m))).toList=xs++news++(Builtin.zeroCells z.cells (N - (n+m))).toList:=by simp
  have:=hk r (Builtin.zeroCells z.cells (N - (n+m))).toList N hr hNle (by simp[Builtin.zeroCells,hzs]) hcap
  rw[<- hcells] at this
  exact this
theorem JJ {sz b:Nat} (h:Ol P st xt=some (e,sz,b)):∃inf z,P.underlying st=some (.slice e)/\Be P xt=true/\P.info? e=some inf/\inf.zero=some z/\z.cells.size=inf.size/\inf.bytes≠0/\inf.size=sz/\inf.bytes=b:=by
 have ht:=WV h
 unfold OL at ht
 split at ht
 ·rename_i e' hst
  split at ht
  ·rename_i inf hi
   split at ht
   ·rename_i z hz
    split at ht
    ·rename_i hc
     cases ht
     exact⟨inf,z,hst,hc.2.2,hi,hz,hc.1,hc.2.1,rfl,rfl⟩
    ·cases ht
   ·cases ht
  ·cases ht
 ·cases ht
structure tP (α:Type) where
 enc:α->List Value
 sz:Nat
 dec:List Value->Option α
 len:∀x,(enc x).length=sz
 one:∀x,((enc x).all Value.oneCell')=true
 ok:∀cs y,dec cs=some y->enc y=cs
section
theorem tP.flat_len (E:tP α):∀l:List α,(l.flatMap E.enc).length=l.length * E.sz
 | []=>by simp
 |x::l=>by rw[List.flatMap_cons,List.length_append,E.len x,E.flat_len l,List.length_cons,Nat.add_mul,Nat.one_mul,Nat.add_comm]
theorem tP.flat_one (E:tP α) (l:List α):((l.flatMap E.enc).all Value.oneCell')=true:=by
 rw[List.all_flatMap]
 exact List.all_eq_true.2 fun x _=>E.one x
def bU (A:Option Addr) (c:Nat) (e:TypeId) (E:tP α) (xs:List α):HP:=fun H=>
 (A=none/\xs= []/\c=0)\/∃B pre post,A=some ⟨B,pre.length,none⟩/\H B=some (.cells (pre++xs.flatMap E.enc++post) e true)/\xs.length<=c/\(c - xs.length) * E.sz<=post.length
def pD (A:Option Addr) (E:tP α) (xs:List α):HP:=fun H=>
 xs= []\/∃B pre post e rw,A=some ⟨B,pre.length,none⟩/\H B=some (.cells (pre++xs.flatMap E.enc++post) e rw)
def dE (C:List HP) (A:Option Addr) (E:tP α) (xs:List α):Prop:=∀H,bZ C H->
 xs= []\/∃B pre post e rw,A=some ⟨B,pre.length,none⟩/\H B=some (.cells (pre++xs.flatMap E.enc++post) e rw)
theorem Ama (cs:List Value) (e:TypeId) (rw:Bool):(sM.cells cs e false).le (.cells cs e rw):=by
 cases rw
 ·exact .inl rfl
 ·exact .inr ⟨cs,e,rfl,rfl⟩
def Al (A:HP):Prop:=∀H H',A H->AT H H'->A H'
theorem Po {H':Hp} {rw:Bool} (h:H B=some (.cells cs e rw)) (hl:AT H H'):∃rw',H' B=some (.cells cs e rw'):=by
 obtain⟨b,hb,l⟩:=hl B _ h
 rcases l with rfl|⟨cs',e',g1,rfl⟩
 ·exact⟨rw,hb⟩
 ·cases g1;exact⟨true,hb⟩
theorem V1 (A:Option Addr) (E:tP α) (xs:List α):Al (pD A E xs):=fun H H' h hl=>by
 rcases h with h|⟨B,pre,post,e,rw,h1,h2⟩
 ·exact .inl h
 ·obtain⟨rw',h3⟩:=Po h2 hl
  exact .inr ⟨B,pre,post,e,rw',h1,h3⟩
theorem qT (A:Option Addr) (E:tP α) (xs:List α):EI (pD A E xs):=fun H h2=>by
 rcases h2 with h3|⟨B,pre,post,e,rw,h2,h3⟩
 ·exact⟨fun _=>none,(fun _ _ h=>by cases h),.inl h3,(fun _ _ h=>by cases h)⟩
 ·exact⟨mS B (.cells (pre++xs.flatMap E.enc++post) e false),Da h3 (Ama _ _ _),.inr ⟨B,pre,post,e,false,h2,wJ _ _⟩,fun r b hb=>by rw[(Dv hb).2];rfl⟩
def Al4 (A B:HP):HP:=fun H=>A H/\B H
theorem Ack {A B:HP} (pa:EI A) (pb:EI B) (ma:Al A) (mb:Al B) (h:bZ (A::B::C) H):bZ (Al4 A B::C) H:=by
 obtain⟨H1,H2,hc,h1,h2,ha,G1,G2,kc,k1,k2,kb,ks⟩:=h
 obtain⟨X,x1,x2,x3⟩:=pa H1 ha
 obtain⟨Y,y1,y2,y3⟩:=pb G1 kb
 have hxy:tH X Y:=fun r b c hb hc=>⟨x3 r b hb,y3 r c hc⟩
 have hx:AT X H:=x1.trans h1
 have hy:AT Y H:=y1.trans (k1.trans h2)
 refine⟨sX X Y,G2,tH.join (hc.le x1 |>.le2 k2) (kc.le y1),wP hx hy,k2.trans h2,⟨ma _ _ x2 (qS _ _),mb _ _ y2 (oI hxy hx hy)⟩,ks⟩
variable {E:tP α} {xs:List α}
theorem eA:dE (bU A c e E xs::C) A E xs:=fun H ⟨H1,H2,_,k1,_,h2,_⟩=>by
 rcases h2 with⟨h2,h3,_⟩|⟨B,pre,post,h2,h3,_⟩
 ·exact .inl h3
 ·obtain⟨b,hb,l⟩:=k1 B _ h3
  have:=sM.le_own l rfl
  subst this
  exact .inr ⟨B,pre,post,e,true,h2,hb⟩
theorem jF:dE (pD A E xs::C) A E xs:=fun H ⟨H1,H2,_,k1,_,h2,_⟩=>by
 rcases h2 with h3|⟨B,pre,post,e,rw,h2,h3⟩
 ·exact .inl h3
 ·obtain⟨rw',hb⟩:=Po h3 k1
  exact .inr ⟨B,pre,post,e,rw',h2,hb⟩
theorem bF {X:HP} (h:dE C A E xs):dE (X::C) A E xs:=fun H hs=>h H hs.tail
theorem nD:dE C A E ([]:List α):=fun _ _=>.inl rfl
theorem Pk (he:aG C C') (h:dE C' A E xs):dE C A E xs:=fun H hs=>h H (he H hs)
theorem D7 {lo:Nat} {A':Option Addr} (h:dE C (some ⟨B,off,none⟩) E xs) (k:Nat) (hlo:lo<=xs.length) (hA:A'=some ⟨B,off+lo * E.sz,none⟩):dE C A' E ((xs.drop lo).take k):=fun H hs=>by
 rcases h H hs with h2|⟨B',pre,post,e,rw,h2,h3⟩
 ·subst h2;exact .inl (by simp)
 ·cases h2
  refine .inr ⟨B,pre++(xs.take lo).flatMap E.enc,((xs.drop lo).drop k).flatMap E.enc++post,e,rw,?_,?_⟩
  ·rw[hA,List.length_append,E.flat_len,List.length_take,Nat.min_eq_left hlo]
  ·rw[h3]
   have e1:xs=xs.take lo++((xs.drop lo).take k++(xs.drop lo).drop k):=by rw[List.take_append_drop,List.take_append_drop]
   have e2:xs.flatMap E.enc=(xs.take lo).flatMap E.enc++(((xs.drop lo).take k).flatMap E.enc++((xs.drop lo).drop k).flatMap E.enc):=by
    rw[<- List.flatMap_append,<- List.flatMap_append,<- e1]
   rw[e2]
   simp only[List.append_assoc]
def Adu (E:tP α):Nat->List Value->Option (List α)
 |_,[]=>some []
 |0,_::_=>none
 |n+1,v::cs=>match E.dec ((v::cs).take E.sz) with
  |some x=>match Adu E n ((v::cs).drop E.sz) with
   |some xs=>some (x::xs)
   |none=>none
  |none=>none
theorem Ku (E:tP α):∀(n:Nat) (cs:List Value) (xs:List α),Adu E n cs=some xs->xs.flatMap E.enc=cs
 |0,[],xs,h=>by cases h;rfl
 |n+1,[],xs,h=>by cases h;rfl
 |0,_::_,xs,h=>by cases h
 |n+1,v::cs,xs,h=>by
  simp only[Adu] at h
  split at h
  ·rename_i x hx
   split at h
   ·rename_i ys hy
    cases h
    have h1:=Ku E n _ _ hy
    have h3:=E.ok _ _ hx
    rw[List.flatMap_cons,h1,h3,List.take_append_drop]
   ·cases h
  ·cases h
theorem rO (hd:Adu E cs.length cs=some xs:=by exact rfl):dE (pt B cs e::C) (some ⟨B,0,none⟩) E xs:=fun H ⟨H1,H2,_,k1,_,h3,_⟩=>by
 obtain⟨b,hb,l⟩:=k1 B _ h3
 have:=sM.le_own l rfl
 subst this
 exact .inr ⟨B,[],[],e,true,rfl,by rw[Ku E _ cs xs hd,List.nil_append,List.append_nil];exact hb⟩
theorem WP {x:α} (h:dE C (some ⟨B,off,none⟩) E xs) (hs:bZ C H) (hx:xs[j]?=some x):∃cs e rw,H B=some (.cells cs e rw)/\off+j * E.sz+E.sz<=cs.length/\(cs.drop (off+j * E.sz)).take E.sz=E.enc x:=by
 rcases h H hs with h2|⟨B',pre,post,e,rw,h2,h3⟩
 ·subst h2;simp at hx
 ·cases h2
  have hj:j<xs.length:=by
   rcases Nat.lt_or_ge j xs.length with h|h
   ·exact h
   ·rw[List.getElem?_eq_none h] at hx;cases hx
  have hx':xs[j]=x:=by rw[List.getElem?_eq_getElem hj] at hx;exact Option.some.inj hx
  have e1:xs=xs.take j++x::xs.drop (j+1):=by
   conv=>lhs;rw[<- List.take_append_drop j xs,List.drop_eq_getElem_cons hj,hx']
  have e2:xs.flatMap E.enc=(xs.take j).flatMap E.enc++(E.enc x++(xs.drop (j+1)).flatMap E.enc):=by
   conv=>lhs;rw[e1]
   simp
  have l1:((xs.take j).flatMap E.enc).length=j * E.sz:=by rw[E.flat_len,List.length_take,Nat.min_eq_left (by omega)]
  refine⟨_,e,rw,h3,?_,?_⟩
  ·simp only[List.length_append,E.flat_len]
   have:=Nat.mul_le_mul_right E.sz hj
   rw[Nat.succ_mul] at this
   omega
  ·rw[e2]
   have:pre++((xs.take j).flatMap E.enc++(E.enc x++(xs.drop (j+1)).flatMap E.enc))++post=(pre++(xs.take j).flatMap E.enc)++(E.enc x++((xs.drop (j+1)).flatMap E.enc++post)):=by simp[List.append_assoc]
   rw[this,List.drop_left' (by rw[List.length_append,l1]),List.take_left' (E.len x)]
end
theorem Ail {ys:List Value} {o:Nat} (hy:(cs.drop o).take ys.length=ys) (hl:o+ys.length<=cs.length) (h:Nj P t ys k=some v):Nj P t cs (o+k)=some v:=by
 unfold Nj at h ⊢
 split at h
 ·split at h
  ·rename_i i _
   split at h
   ·rename_i hle
    rw[if_pos (by omega)]
    have:(cs.drop (o+k)).take i.size=(ys.drop k).take i.size:=by
     rw[<- hy,List.drop_take,List.drop_drop,List.take_take,Nat.min_eq_left (by omega)]
    rw[this];exact h
   ·cases h
  ·cases h
 ·have hk:k<ys.length:=by
   rcases Nat.lt_or_ge k ys.length with h'|h'
   ·exact h'
   ·rw[List.getElem?_eq_none h'] at h;cases h
  have e1:ys[k]?=cs[o+k]?:=by
   conv=>lhs;rw[<- hy]
   rw[List.getElem?_take_of_lt hk,List.getElem?_drop]
  rw[<- e1];exact h
 ·cases h
section
variable {E:tP α} {xs:List α}
theorem XG (hv:dE C A E xs) (hj:j<xs.length) (h:∀B off,A=some ⟨B,off,none⟩->aM P ops Q es hist a C):aM P ops Q es hist a C:=fun Hs H h1 h2=>by
 rcases hv H h2 with h3|⟨B,pre,post,e,rw,h3,_⟩
 ·subst h3;simp at hj
 ·exact h B pre.length h3 Hs H h1 h2
theorem wT {sz:Nat} {k:IntKind} {j:Int} (h:∀B off,A=some ⟨B,off,none⟩->cU gd (.pointer (some ⟨B,off+j.toNat * sz,none⟩)) fun v=>aM P ops Q es hist (kH a d' v) C)
  (hx:bJ a x=.slice A n cp:=by exact rfl) (hy:bJ a y=.int k j:=by exact rfl) (ht:sP P t=some sz:=by exact rfl) (hv:dE C A E xs:=by((repeat (first|exact eA|exact jF|exact rO|assumption|apply bF)) <;> exact eA))
  (hn:xs.length=n:=by first|exact rfl|assumption|omega) (h0:0<=j:=by first|omega|assumption) (h1:j<n:=by first|omega|assumption) (hw:bD ops ⟨some d',.indexAddr t x y,ty,pos,after,g⟩ a=true:=by exact rfl):
  aM P ops Q (ET.cons (c,gd,⟨some d',.indexAddr t x y,ty,pos,after,g⟩) es) hist a C:=
 XG (j:=j.toNat) hv (by omega) fun B off hA=>by
  subst hA
  exact f6 rfl hw (Hj ht hx hy h0 h1) (h B off rfl)
theorem AQ {sz:Nat} {y:α} (hv:dE C (some ⟨B,off,none⟩) E xs) (hsz:E.sz=sz) (hj:xs[j]?=some y) (hx:bJ a x=.pointer (some ⟨B,off+j * sz+k,none⟩)) (hl:Nj P t (E.enc y) k=some v):RdC P ⟨d,.load t x,ty,pos,after,g⟩ a C v:=fun H hs=>by
 obtain⟨cs,e,rw,h1,h2,h3⟩:=WP hv hs hj
 subst hsz
 exact TZ (by rw[hx];exact M7 h1 (Ail (by rw[E.len];exact h3) (by rw[E.len];exact h2) hl))
def Ado (P:Program) (t:TypeId) (B off sz j k:Nat) (v:Value) (C:List HP):Prop:=∃(α:Type) (E:tP α) (xs:List α) (y:α),dE C (some ⟨B,off,none⟩) E xs/\E.sz=sz/\xs[j]?=some y/\Nj P t (E.enc y) k=some v
theorem Aan {sz:Nat} {y:α} (hv:dE C (some ⟨B,off,none⟩) E xs:=by((repeat (first|exact eA|exact jF|exact rO|assumption|apply bF)) <;> exact eA)) (hs:E.sz=sz:=by exact rfl) (hj:xs[j]?=some y:=by first|assumption|exact rfl) (hl:Nj P t (E.enc y) k=some v:=by exact rfl):Ado P t B off sz j k v C:=⟨α,E,xs,y,hv,hs,hj,hl⟩
theorem aY {sz:Nat} {u:α} (h:cU gd v fun v=>aM P ops Q es hist (kH a d' v) C) (hx:bJ a x=.pointer (some ⟨B,off+j * sz+k,none⟩):=by exact rfl)
  (hv:dE C (some ⟨B,off,none⟩) E xs:=by((repeat (first|exact eA|exact jF|exact rO|assumption|apply bF)) <;> exact eA)) (hs:E.sz=sz:=by exact rfl) (hj:xs[j]?=some u:=by first|assumption|exact rfl) (hl:Nj P t (E.enc u) k=some v:=by exact rfl)
  (hh:yR (Ado P t B off sz j k v) (hist.take c):=by((repeat (first|exact AA|refine Gu Aan ?_)) <;> exact AA))
  (hw:bD ops ⟨some d',.load t x,ty,pos,after,g⟩ a=true:=by exact rfl):aM P ops Q (ET.cons (c,gd,⟨some d',.load t x,ty,pos,after,g⟩) es) hist a C:=
 P6 rfl hw (AQ hv hs hj hx hl) (Hl (fun _ ⟨_,_,_,_,k1,k4,k2,k3⟩=>AQ k1 k4 k2 hx k3) hh) h
theorem aR {sz k':Nat} {u:α} (h:cU gd v fun v=>aM P ops Q es hist (kH a d' v) C) (hx:bJ a x=.pointer (some ⟨B,off+j * sz+k+k',none⟩):=by exact rfl)
  (hv:dE C (some ⟨B,off,none⟩) E xs:=by((repeat (first|exact eA|exact jF|exact rO|assumption|apply bF)) <;> exact eA)) (hs:E.sz=sz:=by exact rfl) (hj:xs[j]?=some u:=by first|assumption|exact rfl) (hl:Nj P t (E.enc u) (k+k')=some v:=by exact rfl)
  (hh:yR (Ado P t B off sz j (k+k') v) (hist.take c):=by((repeat (first|exact AA|refine Gu Aan ?_)) <;> exact AA))
  (hw:bD ops ⟨some d',.load t x,ty,pos,after,g⟩ a=true:=by exact rfl):aM P ops Q (ET.cons (c,gd,⟨some d',.load t x,ty,pos,after,g⟩) es) hist a C:=
 P6 rfl hw (AQ (k:=k+k') hv hs hj (by rw[hx,Nat.add_assoc (off+j * sz)]) hl) (Hl (fun _ ⟨_,_,_,_,k1,k4,k2,k3⟩=>AQ (k:=k+k') k1 k4 k2 (by rw[hx,Nat.add_assoc (off+j * sz)]) k3) hh) h
theorem aO {sz:Nat} {u:α} (h:cU gd v fun v=>aM P ops Q es hist (kH a d' v) C) (hx:bJ a x=.pointer (some ⟨B,off+j * sz,none⟩):=by exact rfl)
  (hv:dE C (some ⟨B,off,none⟩) E xs:=by((repeat (first|exact eA|exact jF|exact rO|assumption|apply bF)) <;> exact eA)) (hs:E.sz=sz:=by exact rfl) (hj:xs[j]?=some u:=by first|assumption|exact rfl) (hl:Nj P t (E.enc u) 0=some v:=by exact rfl)
  (hh:yR (Ado P t B off sz j 0 v) (hist.take c):=by((repeat (first|exact AA|refine Gu Aan ?_)) <;> exact AA))
  (hw:bD ops ⟨some d',.load t x,ty,pos,after,g⟩ a=true:=by exact rfl):aM P ops Q (ET.cons (c,gd,⟨some d',.load t x,ty,pos,after,g⟩) es) hist a C:=
 P6 rfl hw (AQ (k:=0) hv hs hj (by rw[hx,Nat.add_zero]) hl) (Hl (fun _ ⟨_,_,_,_,k1,k4,k2,k3⟩=>AQ (k:=0) k1 k4 k2 (by rw[hx,Nat.add_zero]) k3) hh) h
def qK (n:Int):UInt8:=UInt8.ofNat (n % 256).toNat
theorem HZ (n:Int):kN (qK n)=.int .u8 (n % 256):=by
 unfold kN qK
 congr 1
 rw[UInt8.toNat_ofNat']
 omega
def Xu (P:Program) (C:List HP) (u:Value) (E:tP α) (ys:List α):Prop:=(Builtin.lenOf u).pr P=some ys.length/\∀H,bZ C H->(Builtin.firstCells E.sz ys.length u).rd P H=some (ys.flatMap E.enc).toArray
theorem Xh {sz:Nat}:(Builtin.firstCells sz ([]:List α).length (.slice A ([]:List α).length cp)).rd P H=some (([]:List α).flatMap E.enc).toArray:=by
 cases A with
 |none=>rfl
 |some ad=>
  simp only[Builtin.firstCells,List.length_nil,Nat.zero_mul,loadCells,loadCellsFrom]
  rfl
theorem pH {ys:List α} (hv:dE C A E ys:=by first|assumption|(((repeat (first|exact eA|exact jF|exact rO|assumption|apply bF)) <;> exact eA))) (hm:ys.length=m:=by first|exact rfl|assumption|omega):Xu P C (.slice A m cp) E ys:=by
 subst hm
 refine⟨rfl,fun H hs=>?_⟩
 rcases hv H hs with rfl|⟨B,pre,post,e,rw,rfl,h3⟩
 ·exact Xh
 ·rw[mZ h3 (by simp[E.flat_len])]
  congr 1
  have:(pre++ys.flatMap E.enc++post).drop pre.length=ys.flatMap E.enc++post:=by simp
  rw[this,<- E.flat_len]
  simp
theorem vI {y:α} (hb:Xw C B cs:=by((repeat (first|exact sN|exact has_ro|apply tU)) <;> exact sN)) (hd:E.dec cs=some y:=by exact rfl):Xu P C (.slice (some ⟨B,0,none⟩) 1 cp) E [y]:=by
 refine⟨rfl,fun H hs=>?_⟩
 obtain⟨e,rw,h⟩:=hb H hs
 have hc:=E.ok _ _ hd
 have hl:=E.len y
 rw[hc] at hl
 rw[mZ h (by simp[hl])]
 simp[hc,<- hl]
def dX:tP UInt8:= { enc:=fun b=> [kN b],sz:=1,dec:=fun _=>none,len:=fun _=>rfl,one:=fun _=>rfl,ok:=fun _ _ h=>by cases h }
theorem nY (l:List UInt8):l.flatMap dX.enc=l.map kN:=by
 induction l with
 |nil=>rfl
 |cons b l ih=>rw[List.flatMap_cons,ih];rfl
theorem Ep {s:ByteArray}:Xu P C (.string s) dX s.data.toList:=by
 refine⟨by simp[Builtin.lenOf];rfl,fun H hs=>?_⟩
 simp only[Builtin.firstCells]
 have:s.extract 0 s.data.toList.length=s:=by
  apply ByteArray.ext
  simp
 rw[this]
 simp only[yK]
 congr 1
 apply Array.ext'
 rw[nY]
 simp[kN]
theorem zS {n:Int} (hb:Xw C B [.int .u8 (n % 256)]:=by((repeat (first|exact sN|exact has_ro|apply tU)) <;> exact sN)):Xu P C (.slice (some ⟨B,0,none⟩) 1 cp) dX [qK n]:=by
 refine⟨rfl,fun H hs=>?_⟩
 obtain⟨e,rw,h⟩:=hb H hs
 rw[mZ h (by simp[dX])]
 simp[dX,HZ]
theorem kV (hs:bZ (bU A c e E xs::R) H):
  (A=none/\xs= []/\c=0/\bZ R H)\/∃B pre post,A=some ⟨B,pre.length,none⟩/\bZ (pt B (pre++xs.flatMap E.enc++post) e::R) H/\xs.length<=c/\(c - xs.length) * E.sz<=post.length:=by
 obtain⟨H1,H2,hc,k1,k2,h2,hs⟩:=hs
 rcases h2 with⟨h2,h3,h4⟩|⟨B,pre,post,h2,h3,h4,h5⟩
 ·exact .inl ⟨h2,h3,h4,hs.mono k2⟩
 ·exact .inr ⟨B,pre,post,h2,⟨H1,H2,hc,k1,k2,h3,hs⟩,h4,h5⟩
theorem gQ {pre post:List Value} (hA:A=some ⟨B,pre.length,none⟩) (hs:bZ (pt B (pre++xs.flatMap E.enc++post) e::R) H) (h4:xs.length<=c)
  (h5:(c - xs.length) * E.sz<=post.length):bZ (bU A c e E xs::R) H:=by
 obtain⟨H1,H2,hc,k1,k2,h3,hs⟩:=hs
 exact⟨H1,H2,hc,k1,k2,.inr ⟨B,pre,post,hA,h3,h4,h5⟩,hs⟩
theorem tF (hs:bZ R H):bZ (bU none 0 e E ([]:List α)::R) H:=
 ⟨fun _=>none,H,(fun _ _ _ h=>by cases h),(fun _ _ h=>by cases h),AT.refl H,.inl ⟨rfl,rfl,rfl⟩,hs⟩
theorem aG.nilrow (e:TypeId) (E:tP α) (C:List HP):aG C (bU none 0 e E ([]:List α)::C):=fun _ hs=>tF hs
theorem aG.nilrow' (h:aG C C'):aG C (bU none 0 e E ([]:List α)::C'):=fun H hs=>tF (h H hs)
theorem yH (hp:aS (bU A c e E xs) C R) (h:aG (pD A E xs::R) C'):aG C C':=fun H hs=>by
 refine h H ?_
 obtain⟨H1,H2,hc,h1,h2,ha,hs⟩:=hp.sats hs
 refine⟨H1,H2,hc,h1,h2,?_,hs⟩
 rcases ha with⟨g1,g2,_⟩|⟨B,pre,post,g1,g2,_⟩
 ·exact .inl g2
 ·exact .inr ⟨B,pre,post,e,true,g1,g2⟩
theorem AI.ent {o:Oper} {k:Value->List HP->Prop} (he:aG C C') (h:AI P o a C' k):AI P o a C k:=fun H hs=>h H (he H hs)
theorem KA {sz:Nat} {ys:List α} {u:Value} {k:Value->List HP->Prop} (ht:Ol P st xt=some (e,sz,bytes)) (hsz:E.sz=sz) (hx:bJ a x=.slice A n cp) (hn:xs.length=n) (hy:bJ a y=u) (hsrc:Xu P C u E ys)
  (hp:aS (bU A c0 e E xs) C R) (hcc:cp=c0\/(n<=cp/\cp<=c0)) (hbig:(2 * (n+ys.length)+512) * bytes<=281474976710656)
  (hk:∀A' c',k (.slice A' (xs++ys).length c') (bU A' c' e E (xs++ys)::R)):AI P ⟨d,.call { callee:=.builtin .append,args:=#[x,y],argTypes:=#[st,xt] },ty,pos,after,g⟩ a C k:=fun H hs=>by
 obtain⟨inf,zz,h1,h2,h3,h4,h5,h6,h7,rfl⟩:=JJ ht
 subst hsz
 have hrs:=hp.sats hs
 have hr:=kV hrs
 have hcl:n<=cp/\cp<=c0:=by
  rcases hcc with rfl|h
  ·rcases hr with⟨g1,g2,g3,g4⟩|⟨B,pre,post,g1,g2,g3,g4⟩
   ·subst g2 g3;simp at hn;omega
   ·omega
  ·exact h
 obtain⟨hcp,hc0⟩:=hcl
 have hmn:(xs++ys).length=n+ys.length:=by rw[List.length_append,hn]
 refine fI ?_
 simp only[execOp,resolve,List.map_toArray,List.map_cons,List.map_nil,hx,hy]
 rw[aI,aN (show(pure _:Sem Deferred).pr P=some _ from rfl)]
 simp only[invoke,builtin,aI]
 obtain⟨hlen,hcells⟩:=hsrc
 rw[hmn] at hk
 refine He (xs:=xs.flatMap E.enc) (news:=ys.flatMap E.enc) h1 h2 h3 h4 h5 hlen (by rw[h7];exact hcells H hs) (by rw[E.flat_len,h7]) (E.flat_one ys) (by rw[E.flat_len,hn,h7]) ?_ hbig h6 ?_ ?_ ?_
 ·rcases hr with⟨g1,g2,g3,g4⟩|⟨B,pre,post,g1,g2,g3,g4⟩
  ·subst g2;simp at hn;exact .inl ⟨g1,by omega,by omega⟩
  ·refine .inr ⟨B,pre,post,e,true,g1,(nG g2).1,hcp,?_,.inr (.inl rfl)⟩
   rw[h7]
   exact Nat.le_trans (Nat.mul_le_mul_right _ (by omega)) g4
 ·intro hm0
  have hys:ys= []:=by simpa using hm0
  have hk':=hk A cp
  subst hys
  rw[List.append_nil,List.length_nil,Nat.add_zero] at hk'
  refine⟨_,?_,hk'⟩
  rcases hr with⟨g1,g2,g3,g4⟩|⟨B,pre,post,g1,g2,g3,g4⟩
  ·subst g1 g2 g3
   have:cp=0:=by omega
   subst this
   exact tF g4
  ·exact gQ g1 g2 (by omega) (Nat.le_trans (Nat.mul_le_mul_right _ (by omega)) g4)
 ·intro B pre post e' hA hB hle hpl
  rcases hr with⟨g1,_⟩|⟨B',pre',post',g1,g2,g3,g4⟩
  ·rw[g1] at hA;cases hA
  ·rw[g1] at hA
   have hBB:B'=B:=congrArg Addr.block (Option.some.inj hA)
   subst hBB
   have hpre:pre'.length=pre.length:=congrArg Addr.off (Option.some.inj hA)
   have hB':=(nG g2).1
   rw[hB'] at hB
   injection hB with hB
   injection hB with hcs he _
   subst he
   rw[List.append_assoc,List.append_assoc] at hcs
   obtain⟨q1,q2⟩:=List.append_inj hcs hpre
   obtain⟨_,q3⟩:=List.append_inj q2 rfl
   subst q1 q3
   refine⟨_,gQ (pre:=pre') (post:=post'.drop (ys.flatMap E.enc).length) g1 ?_ (by rw[hmn];exact hle) ?_,hk A cp⟩
   ·rw[List.flatMap_append]
    exact rZ g2
   ·rw[hmn,List.length_drop,E.flat_len,<- Nat.sub_sub,Nat.sub_mul,<- h7]
    omega
 ·intro r post N hr0 hN hpl _
  refine⟨_,gQ (pre:= []) (post:=post) rfl ?_ (by rw[hmn];exact hN) (by rw[hmn,hpl,h7];exact Nat.le_refl _),hk _ N⟩
  rw[List.flatMap_append,List.nil_append]
  exact oZ hr0 hrs.tail
theorem cN {sz:Nat} {ys:List α} {u:Value} (h:∀A' c',cU gd (.slice A' (xs++ys).length c') fun v=>aM P ops Q es (C::hist) (kH a d' v) (bU A' c' e E (xs++ys)::R))
  (hx:bJ a x=.slice A n cp:=by exact rfl) (hy:bJ a y=u:=by exact rfl) (ht:Ol P st xt=some (e,sz,bytes):=by exact rfl) (hp:aS (bU A c0 e E xs) C R:=by((repeat (first|exact aS.here|apply aS.there)) <;> exact aS.here)) (hsrc:Xu P C u E ys:=by first|exact zS|exact vI|exact Ep|exact pH) (hsz:E.sz=sz:=by exact rfl) (hn:xs.length=n:=by first|exact rfl|assumption|omega)
  (hcc:cp=c0\/(n<=cp/\cp<=c0):=by first|exact .inl rfl|exact .inr ⟨by omega,by omega⟩) (hbig:(2 * (n+ys.length)+512) * bytes<=281474976710656:=by first|omega|assumption|(simp only[List.length_cons,List.length_nil];omega))
  (hw:bD ops ⟨some d',.call { callee:=.builtin .append,args:=#[x,y],argTypes:=#[st,xt] },ty,pos,after,g⟩ a=true:=by exact rfl):aM P ops Q (ET.cons (c,gd,⟨some d',.call { callee:=.builtin .append,args:=#[x,y],argTypes:=#[st,xt] },ty,pos,after,g⟩) es) hist a C:=
 G_o (hw:=hw) (KA ht hsz hx hn hy hsrc hp hcc hbig h)
theorem dG {sz:Nat} {ys:List α} {u:Value} (h:∀A' c',cU gd (.slice A' ys.length c') fun v=>aM P ops Q es (C::hist) (kH a d' v) (bU A' c' e E ys::C))
  (hx:bJ a x=.slice none 0 0:=by exact rfl) (hy:bJ a y=u:=by exact rfl) (ht:Ol P st xt=some (e,sz,bytes):=by exact rfl) (hsrc:Xu P C u E ys:=by first|exact zS|exact vI|exact Ep|exact pH) (hsz:E.sz=sz:=by exact rfl)
  (hbig:(2 * (0+ys.length)+512) * bytes<=281474976710656:=by first|omega|assumption|(simp only[List.length_cons,List.length_nil];omega))
  (hw:bD ops ⟨some d',.call { callee:=.builtin .append,args:=#[x,y],argTypes:=#[st,xt] },ty,pos,after,g⟩ a=true:=by exact rfl):aM P ops Q (ET.cons (c,gd,⟨some d',.call { callee:=.builtin .append,args:=#[x,y],argTypes:=#[st,xt] },ty,pos,after,g⟩) es) hist a C:=
 G_o (hw:=hw) (AI.ent (aG.nilrow e E C) (KA (xs:= []) ht hsz hx rfl hy ⟨hsrc.1,fun H hs=>hsrc.2 H hs.tail⟩ aS.here (.inl rfl) hbig h))
end
end Go.Sl
namespace Go.Sl
variable {α:Type} {C R:List HP} {A A':Option Addr} {l m k sz c n cp:Nat} {H:Hp} {e ty t yt:TypeId} {P:Program} {a:Fr} {d:Option Tmp} {pos:String} {after:Array Edge} {g:Option (Nat×Bool)} {x y z:Operand} {lo hi mx:Option Operand} {h:Int} {ops:Array Oper} {Q:Fr->List HP->Prop} {gd:Bool} {es:ET} {hist:List (List HP)} {d':Tmp} {v:Value} {op:Op} {bs:List UInt8}
def HA (A A':Option Addr) (l m sz:Nat):Prop:=A'=(if m=l then A else A.map (·.add (l * sz)))
section
variable {E:tP α} {xs:List α}
theorem E3 (h:dE C A E xs) (hs:HA A A' l m E.sz) (hl:l<=xs.length) (hm:xs.length<=m\/l+k<=m):dE C A' E ((xs.drop l).take k):=by
 unfold HA at hs
 cases A with
 |none=>
  have:A'=none:=by rw[hs];split <;> rfl
  subst this
  intro H hH
  rcases h H hH with h2|⟨B,pre,post,e,rw,h2,_⟩
  ·subst h2;exact .inl (by simp)
  ·cases h2
 |some ad=>
  obtain⟨B,off,sp⟩:=ad
  intro H hH
  have hk:=h H hH
  rcases hk with h1|⟨B',pre,post,e,rw,h1,h2⟩
  ·subst h1;exact .inl (by simp)
  ·have hsp:sp=none:=by injection h1 with h1;injection h1
   subst hsp
   by_cases hml:m=l
   ·rw[if_pos hml] at hs
    have hnil:(xs.drop l).take k= []:=by
     rcases hm with hm|hm
     ·rw[List.drop_eq_nil_of_le (by omega)];simp
     ·have:k=0:=by omega
      subst this;simp
    rw[hnil,hs]
    cases h1
    exact .inr ⟨_,pre,xs.flatMap E.enc++post,e,rw,rfl,by rw[h2];simp⟩
   ·rw[if_neg hml] at hs
    refine D7 h k hl ?_ H hH
    rw[hs]
    simp only[Option.map_some,nO]
theorem ZJ (h:pD A E xs H) (hs:HA A A' l m E.sz) (hl:l<=xs.length) (hm:xs.length<=m\/l+k<=m):pD A' E ((xs.drop l).take k) H:=by
 have hv:dE [pD A E xs] A E xs:=jF
 have hs1:bZ [pD A E xs] H:=⟨H,fun _=>none,(fun _ _ _ _ h=>by cases h),AT.refl _,(fun _ _ h=>by cases h),h,trivial⟩
 exact E3 hv hs hl hm H hs1
theorem Ac5 {c':Nat} (h:bU A c e E xs H) (hs:HA A A' l m E.sz) (hlk:l+k<=xs.length) (hlm:l+k<=m) (hm:m<=c):bU A' (m - l) e E ((xs.drop l).take k) H:=by
 unfold HA at hs
 rcases h with⟨rfl,rfl,rfl⟩|⟨B,pre,post,rfl,h2,h3,h4⟩
 ·have:A'=none:=by rw[hs];split <;> rfl
  exact .inl ⟨this,by simp,by omega⟩
 ·have hlen:((xs.drop l).take k).length=k:=by simp;omega
  by_cases hml:m=l
  ·rw[if_pos hml] at hs
   have hk0:k=0:=by omega
   subst hk0
   refine .inr ⟨B,pre,xs.flatMap E.enc++post,hs,by rw[h2];simp,by simp,?_⟩
   rw[hml];simp
  ·rw[if_neg hml] at hs
   simp only[Option.map_some,nO] at hs
   refine .inr ⟨B,pre++(xs.take l).flatMap E.enc,((xs.drop l).drop k).flatMap E.enc++post,?_,?_,?_,?_⟩
   ·rw[hs,List.length_append,E.flat_len,List.length_take,Nat.min_eq_left (by omega)]
   ·rw[h2]
    have e1:xs=xs.take l++((xs.drop l).take k++(xs.drop l).drop k):=by rw[List.take_append_drop,List.take_append_drop]
    have e2:xs.flatMap E.enc=(xs.take l).flatMap E.enc++(((xs.drop l).take k).flatMap E.enc++((xs.drop l).drop k).flatMap E.enc):=by
     rw[<- List.flatMap_append,<- List.flatMap_append,<- e1]
    rw[e2]
    simp only[List.append_assoc]
   ·rw[hlen];omega
   ·rw[hlen,List.length_append,E.flat_len]
    simp only[List.length_drop]
    have h5:(m - l - k) * E.sz<=(xs.length - l - k) * E.sz+(c - xs.length) * E.sz:=by
     rw[<- Nat.add_mul]
     exact Nat.mul_le_mul_right _ (by omega)
    omega
end
def xL (a:Fr) (dflt:Int):Option Operand->Option Int
 |none=>some dflt
 |some o=>match bJ a o with
  |.int _ n=>some n
  |_=>none
theorem R0 {dflt n:Int} {o:Option Operand} (h:xL a dflt o=some n):(o=none/\n=dflt)\/∃o' k,o=some o'/\bJ a o'=.int k n:=by
 unfold xL at h
 split at h
 ·exact .inl ⟨rfl,(Option.some.inj h).symm⟩
 ·rename_i o'
  split at h
  ·rename_i k n' he;cases h;exact .inr ⟨o',k,rfl,he⟩
  ·cases h
theorem Jq {k:IntKind} {j:Int} {code:BoundsCode} (h0:0<=j) (h1:j<=n):(Instr.sliceBound (.int k j) n code).pr P=some j.toNat:=by
 simp only[Instr.sliceBound,aU]
 rw[show(asIntOf (.int k j)).pr P=some (k,j) from rfl,Option.bind_some]
 simp only
 rw[if_pos ⟨h0,h1⟩]
 rfl
theorem As {β:Type} (z:β):(Sem.pure z).pr P=some z:=rfl
theorem Wq {l m:Int} (hl:xL a 0 lo=some l) (hh:xL a n hi=some h) (hm:xL a cp mx=some m)
  (hmx:mx.isSome=true->hi.isSome=true) (h0:0<=l) (h1:l<=h) (h2:h<=m) (h3:m<=cp):(Instr.sliceBounds true n cp (lo.map (bJ a)) (hi.map (bJ a)) (mx.map (bJ a))).pr P=some (l.toNat,h.toNat,m.toNat):=by
 have b:∀(k:IntKind) (j:Int) (n:Nat) (code:BoundsCode),0<=j->j<=n->(Instr.sliceBound (.int k j) n code).pr P=some j.toNat:=fun _ _ _ _ h0 h1=>Jq h0 h1
 rcases R0 hm with⟨rfl,rfl⟩|⟨om,km,rfl,em⟩ <;> rcases R0 hh with⟨rfl,rfl⟩|⟨oh,kh,rfl,eh⟩ <;> rcases R0 hl with⟨rfl,rfl⟩|⟨ol,kl,rfl,el⟩
 ·rfl
 ·simp only[Instr.sliceBounds,aU,As,pure,Option.bind_some,Option.map_none,Option.map_some,el]
  rw[b _ _ _ _ (by omega) (by omega)];rfl
 ·simp only[Instr.sliceBounds,aU,As,pure,Option.bind_some,Option.map_none,Option.map_some,eh]
  rw[b _ _ _ _ (by omega) (by omega)];rfl
 ·simp only[Instr.sliceBounds,aU,As,pure,Option.bind_some,Option.map_none,Option.map_some,eh,el]
  rw[b _ _ _ _ (by omega) (by omega),Option.bind_some,b _ _ _ _ (by omega) (by omega)];rfl
 ·exact absurd (hmx rfl) (by simp)
 ·exact absurd (hmx rfl) (by simp)
 ·simp only[Instr.sliceBounds,aU,As,pure,Option.bind_some,Option.map_none,Option.map_some,eh,em]
  rw[b _ _ _ _ (by omega) (by omega),Option.bind_some,b _ _ _ _ (by omega) (by omega)];rfl
 ·simp only[Instr.sliceBounds,aU,As,pure,Option.bind_some,Option.map_none,Option.map_some,eh,em,el]
  rw[b _ _ _ _ (by omega) (by omega),Option.bind_some,b _ _ _ _ (by omega) (by omega),Option.bind_some,b _ _ _ _ (by omega) (by omega)];rfl
theorem Ec {l m:Int} (ht:sP P t=some sz) (hx:bJ a x=.slice A n cp) (hl:xL a 0 lo=some l) (hh:xL a n hi=some h) (hm:xL a cp mx=some m)
  (hmx:mx.isSome=true->hi.isSome=true) (h0:0<=l) (h1:l<=h) (h2:h<=m) (h3:m<=cp):cA P ⟨d,.slice t x lo hi mx,ty,pos,after,g⟩ a=some (.slice (if m.toNat=l.toNat then A else A.map (·.add (l.toNat * sz))) (h.toNat - l.toNat) (m.toNat - l.toNat)):=by
 obtain⟨e,i,hu,hi',rfl⟩:=FW ht
 refine cD ?_
 simp only[execOp,hx,Instr.sliceAt,aU]
 rw[aK hu,Option.bind_some]
 simp only[Instr.slice,aU]
 rw[aK hu,Option.bind_some]
 simp only[aU]
 rw[Wq hl hh hm hmx h0 h1 h2 h3,Option.bind_some]
 simp only[aU]
 rw[fC hi',Option.bind_some];rfl
section
variable {E:tP α} {xs:List α}
theorem Vp {p:Prop} (hp:∀H,bZ C H->p) (h:p->aM P ops Q es hist a C):aM P ops Q es hist a C:=fun Hs H h1 h2=>h (hp H h2) Hs H h1 h2
theorem mX {l m:Int} (hk:∀A',HA A A' l.toNat m.toNat sz->cU gd (.slice A' (h.toNat - l.toNat) (m.toNat - l.toNat)) fun v=>aM P ops Q es hist (kH a d' v) C)
  (hx:bJ a x=.slice A n cp:=by exact rfl) (ht:sP P t=some sz:=by exact rfl) (hl:xL a 0 lo=some l:=by exact rfl) (hh:xL a n hi=some h:=by exact rfl) (hm:xL a cp mx=some m:=by exact rfl) (hmx:mx.isSome=true->hi.isSome=true:=by first|exact fun h=>h|exact fun _=>rfl)
  (h0:0<=l:=by first|omega|assumption) (h1:l<=h:=by first|omega|assumption) (h2:h<=m:=by first|omega|assumption) (h3:m<=cp:=by first|omega|assumption) (hw:bD ops ⟨some d',.slice t x lo hi mx,ty,pos,after,g⟩ a=true:=by exact rfl):
  aM P ops Q (ET.cons (c,gd,⟨some d',.slice t x lo hi mx,ty,pos,after,g⟩) es) hist a C:=
 f6 rfl hw (Ec ht hx hl hh hm hmx h0 h1 h2 h3) (hk _ rfl)
theorem kF {l m:Int} (hk:∀A',cU gd (.slice A' (h.toNat - l.toNat) (m.toNat - l.toNat)) fun v=>aM P ops Q es hist (kH a d' v) (pD A' E ((xs.drop l.toNat).take (h.toNat - l.toNat))::C))
  (hx:bJ a x=.slice A n cp:=by exact rfl) (hp:aS (pD A E xs) C R:=by((repeat (first|exact aS.here|apply aS.there)) <;> exact aS.here)) (ht:sP P t=some sz:=by exact rfl) (hsz:E.sz=sz:=by exact rfl) (hn:xs.length=n:=by first|exact rfl|assumption|omega) (hl:xL a 0 lo=some l:=by exact rfl) (hh:xL a n hi=some h:=by exact rfl) (hm:xL a cp mx=some m:=by exact rfl) (hmx:mx.isSome=true->hi.isSome=true:=by first|exact fun h=>h|exact fun _=>rfl)
  (h0:0<=l:=by first|omega|assumption) (h1:l<=h:=by first|omega|assumption) (h2:h<=n:=by first|omega|assumption) (h2:h<=m:=by first|omega|assumption) (h3:m<=cp:=by first|omega|assumption) (hw:bD ops ⟨some d',.slice t x lo hi mx,ty,pos,after,g⟩ a=true:=by exact rfl):
  aM P ops Q (ET.cons (c,gd,⟨some d',.slice t x lo hi mx,ty,pos,after,g⟩) es) hist a C:=by
 refine f6 rfl hw (Ec ht hx hl hh hm hmx h0 h1 h2 h3) ?_
 refine(cH _ _ _).2 (L1 (fun H hs=>?_) ((cH _ _ _).1 (hk _)))
 subst hsz
 have hd:=((hp.sats hs).dup (qT _ _ _))
 have h5:=(aG.imp (fun H hr=>ZJ (l:=l.toNat) (m:=m.toNat) (A':=if m.toNat=l.toNat then A else A.map (·.add (l.toNat * E.sz))) (k:=h.toNat - l.toNat) hr rfl (by omega) (.inr (by omega))) (aG.refl _)) H hd
 exact(bZ.perm (List.Perm.cons _ hp.perm.symm) h5)
theorem iF {c0:Nat} {l m:Int} (hk:∀A',cU gd (.slice A' (h.toNat - l.toNat) (m.toNat - l.toNat)) fun v=>aM P ops Q es hist (kH a d' v) (bU A' (m.toNat - l.toNat) e E ((xs.drop l.toNat).take (h.toNat - l.toNat))::R))
  (hx:bJ a x=.slice A n cp:=by exact rfl) (hp:aS (bU A c0 e E xs) C R:=by((repeat (first|exact aS.here|apply aS.there)) <;> exact aS.here)) (ht:sP P t=some sz:=by exact rfl) (hsz:E.sz=sz:=by exact rfl) (hn:xs.length=n:=by first|exact rfl|assumption|omega) (hl:xL a 0 lo=some l:=by exact rfl) (hh:xL a n hi=some h:=by exact rfl) (hm:xL a cp mx=some m:=by exact rfl) (hmx:mx.isSome=true->hi.isSome=true:=by first|exact fun h=>h|exact fun _=>rfl)
  (h0:0<=l:=by first|omega|assumption) (h1:l<=h:=by first|omega|assumption) (h4:h<=n:=by first|omega|assumption) (h2:(m=cp/\cp=c0)\/(h<=m/\m<=cp/\cp<=c0):=by first|exact .inl ⟨rfl,rfl⟩|exact .inr ⟨by omega,by omega,by omega⟩) (hw:bD ops ⟨some d',.slice t x lo hi mx,ty,pos,after,g⟩ a=true:=by exact rfl):
  aM P ops Q (ET.cons (c,gd,⟨some d',.slice t x lo hi mx,ty,pos,after,g⟩) es) hist a C:=by
 refine Vp (p:=xs.length<=c0) (fun H hs=>?_) fun hfact=>?_
 ·rcases kV (hp.sats hs) with⟨_,g2,_⟩|⟨_,_,_,_,_,g,_⟩
  ·subst g2;simp
  ·exact g
 have h6:h<=m/\m<=cp/\cp<=c0:=by
  rcases h2 with⟨q1,q2⟩|q
  ·exact⟨by omega,by omega,by omega⟩
  ·exact q
 obtain⟨h2,h3,h5⟩:=h6
 refine f6 rfl hw (Ec ht hx hl hh hm hmx h0 h1 h2 h3) ?_
 refine(cH _ _ _).2 (L1 (fun H hs=>?_) ((cH _ _ _).1 (hk _)))
 subst hsz
 exact(aG.imp (fun H hr=>Ac5 (c':=0) (l:=l.toNat) (m:=m.toNat) (A':=if m.toNat=l.toNat then A else A.map (·.add (l.toNat * E.sz))) (k:=h.toNat - l.toNat) hr rfl (by omega) (by omega) (by omega)) (aG.refl _)) H (hp.sats hs)
theorem L5 (hv:dE C A dX bs) (hn:bs.length=n) (hs:bZ C H):(Conv.bytesToString (.slice A n cp)).rd P H=some (.string ⟨bs.toArray⟩):=by
 rcases hv H hs with h2|⟨B,pre,post,e,rw,h1,hb⟩
 ·subst h2
  subst hn
  cases A <;> rfl
 ·subst h1
  rw[nY] at hb
  simp only[Conv.bytesToString]
  rw[fW]
  have hc:(loadCells ⟨B,pre.length,none⟩ n).rd P H=some (bs.map kN).toArray:=by
   unfold loadCells
   rw[xW hb pre.length n 0 #[] (by simp;omega)]
   simp only[List.append_assoc,List.drop_left',Nat.add_zero]
   rw[List.take_append_of_le_length (by simp;omega),List.take_of_length_le (by simp;omega)]
   simp
  rw[hc,Option.bind_some,fW]
  rw[<- Array.forIn_toList]
  rw[show(bs.map kN).toArray.toList=bs.map kN from rfl,PD]
  ·simp
   rfl
  ·intro b s
   simp[kN]
   rfl
theorem hZ {t':TypeId} (h:cU gd (.string ⟨bs.toArray⟩) fun v=>aM P ops Q es (C::hist) (kH a d' v) C) (hx:bJ a x=.slice A n cp:=by exact rfl) (hs:EJ P t=some e:=by exact rfl) (ht:mN P t'=true:=by exact rfl)
  (hv:dE C A dX bs:=by first|assumption|(((repeat (first|exact eA|exact jF|exact rO|assumption|apply bF)) <;> exact eA))) (hn:bs.length=n:=by first|assumption|exact rfl) (hk:kd P (.convert t t' x)=.other:=by exact rfl) (hw:bD ops ⟨some d',.convert t t' x,ty,pos,after,g⟩ a=true:=by exact rfl):aM P ops Q (ET.cons (c,gd,⟨some d',.convert t t' x,ty,pos,after,g⟩) es) hist a C:=
 G_o (hk:=hk) (hw:=hw) fun H hH=>by
  obtain⟨h1,h2⟩:=FZ hs
  refine fI ?_
  simp only[execOp,hx,convert,aI]
  rw[aN (aK h1),aN (aK (lX ht))]
  simp only[aI]
  rw[aN (aK h2)]
  exact rU (L5 hv hn hH) ⟨C,hH,h⟩
end
end Go.Sl
namespace Go.Sl
variable {P:Program} {a:Fr} {C C':List HP} {rs:List ResultVar} {v:Value} {vs:List Value} {fn:Func} {K:Value->List HP->Prop} {f:FuncId} {args:Array Value} {Q:Exit->Fr->List HP->Prop} {x:Code} {id:Nat}
theorem dL {t:Tmp} (hx:iG (a t)=some v:=by exact rfl) (h:zT P a C rs vs):zT P a C (.tmp t::rs) (v::vs):=Aiz hx h
theorem cM {p:Tmp} {t:TypeId} {B off:Nat} {cs:List Value} (hx:a p=.pointer (some ⟨B,off,none⟩):=by exact rfl) (hb:Xw C B cs:=by((repeat (first|exact sN|exact has_ro|apply tU)) <;> exact sN)) (hv:Nj P t cs off=some v:=by exact rfl) (h:zT P a C rs vs):zT P a C (.cell p t::rs) (v::vs):=Adx hx hb hv h
def dT (C:List HP) (K:Value->List HP->Prop) (v:Value):Prop:=∃C',aG C C'/\K v C'
def Al3:Exit->Bool
 |.ret=>true
 |.normal=>true
 |_=>false
theorem aC {e:Exit} (h:dT C K v) (hE:Al3 e=true:=by exact rfl) (hl:mU fn.results.toList=some rs:=by exact rfl)
  (hv:zT P a C rs vs:=by first|exact bS|exact dL (h:=by first|exact bS|exact dL (h:=by first|exact bS|exact dL (h:=by first|exact bS|exact dL (h:=by first|exact bS|exact dL (h:=by exact bS)|exact cM (h:=by exact bS))|exact cM (h:=by first|exact bS|exact dL (h:=by exact bS)|exact cM (h:=by exact bS)))|exact cM (h:=by first|exact bS|exact dL (h:=by first|exact bS|exact dL (h:=by exact bS)|exact cM (h:=by exact bS))|exact cM (h:=by first|exact bS|exact dL (h:=by exact bS)|exact cM (h:=by exact bS))))|exact cM (h:=by first|exact bS|exact dL (h:=by first|exact bS|exact dL (h:=by first|exact bS|exact dL (h:=by exact bS)|exact cM (h:=by exact bS))|exact cM (h:=by first|exact bS|exact dL (h:=by exact bS)|exact cM (h:=by exact bS)))|exact cM (h:=by first|exact bS|exact dL (h:=by first|exact bS|exact dL (h:=by exact bS)|exact cM (h:=by exact bS))|exact cM (h:=by first|exact bS|exact dL (h:=by exact bS)|exact cM (h:=by exact bS)))))|exact cM (h:=by first|exact bS|exact dL (h:=by first|exact bS|exact dL (h:=by first|exact bS|exact dL (h:=by first|exact bS|exact dL (h:=by exact bS)|exact cM (h:=by exact bS))|exact cM (h:=by first|exact bS|exact dL (h:=by exact bS)|exact cM (h:=by exact bS)))|exact cM (h:=by first|exact bS|exact dL (h:=by first|exact bS|exact dL (h:=by exact bS)|exact cM (h:=by exact bS))|exact cM (h:=by first|exact bS|exact dL (h:=by exact bS)|exact cM (h:=by exact bS))))|exact cM (h:=by first|exact bS|exact dL (h:=by first|exact bS|exact dL (h:=by first|exact bS|exact dL (h:=by exact bS)|exact cM (h:=by exact bS))|exact cM (h:=by first|exact bS|exact dL (h:=by exact bS)|exact cM (h:=by exact bS)))|exact cM (h:=by first|exact bS|exact dL (h:=by first|exact bS|exact dL (h:=by exact bS)|exact cM (h:=by exact bS))|exact cM (h:=by first|exact bS|exact dL (h:=by exact bS)|exact cM (h:=by exact bS)))))) (ht:iG (Qy vs)=some v:=by exact rfl):
  dS P fn K e a C:=by
 obtain⟨C',he,hk⟩:=h
 cases e <;> first|(cases hE;done)|exact Ah7 hl hv ht he hk|exact retC_n hl hv ht he hk
theorem aQ (he:aG C C') (hk:K v C'):dT C K v:=⟨C',he,hk⟩
theorem aB (hk:K v C') (he:aG C C':=by((iterate 30 (try(first|exact aG.refl _|exact aG.nil|(apply aG.pick;focus ((repeat (first|exact aS.here|apply aS.there)) <;> exact aS.here))|(apply aG.pickP;focus ((repeat (first|exact pers_ro _ _ _|exact qT _ _ _|exact pers_pure _|refine pers_sep ?_ ?_|refine pers_ex fun _=>?_)) <;> exact pers_pure _);focus ((repeat (first|exact aS.here|apply aS.there)) <;> exact aS.here))|(apply aG.pure;focus (first|assumption|exact rfl|omega))|apply aG.nilrow'|apply aG.ex|apply aG.sep|apply aG.drop))) <;> exact aG.nil)):dT C K v:=⟨C',he,hk⟩
theorem CA (he:aG C C':=by((iterate 30 (try(first|exact aG.refl _|exact aG.nil|(apply aG.pick;focus ((repeat (first|exact aS.here|apply aS.there)) <;> exact aS.here))|(apply aG.pickP;focus ((repeat (first|exact pers_ro _ _ _|exact qT _ _ _|exact pers_pure _|refine pers_sep ?_ ?_|refine pers_ex fun _=>?_)) <;> exact pers_pure _);focus ((repeat (first|exact aS.here|apply aS.there)) <;> exact aS.here))|(apply aG.pure;focus (first|assumption|exact rfl|omega))|apply aG.nilrow'|apply aG.ex|apply aG.sep|apply aG.drop))) <;> exact aG.nil)) (h:aA P f args C' K):aA P f args C K:=aA.ent he h
theorem kv {v':Value} (h:K v C) (e:v=v'):K v' C:=e▸h
theorem ki {k:IntKind} {x y:Int} (h:K (.int k x) C) (e:x=y):K (.int k y) C:=e▸h
theorem kb {b c:Bool} (h:K (.bool b) C) (e:(b=true)↔(c=true)):K (.bool c) C:=by
 have:b=c:=by cases b <;> cases c <;> simp_all
 exact this▸h
def aZ (n:Nat) (I:Nat->Fr->List HP->Prop) (a:Fr) (C:List HP):Prop:=∃m C'',m<n/\aG C C''/\I m a C''
theorem iH (I:Nat->Fr->List HP->Prop) (n:Nat) (h0:aZ (n+1) I a C) (hr:∀n a C,I n a C->eY P x (bQ (aZ n I) Q) a C):eY P (.loop x) Q a C:=by
 obtain⟨m,C0,_,he,hI⟩:=h0
 exact Ajw I m C0 he hI hr
theorem cG {n:Nat} {I:Nat->Fr->List HP->Prop} (m:Nat) (hi:I m a C') (hm:m<n:=by omega) (he:aG C C':=by((iterate 30 (try(first|exact aG.refl _|exact aG.nil|(apply aG.pick;focus ((repeat (first|exact aS.here|apply aS.there)) <;> exact aS.here))|(apply aG.pickP;focus ((repeat (first|exact pers_ro _ _ _|exact qT _ _ _|exact pers_pure _|refine pers_sep ?_ ?_|refine pers_ex fun _=>?_)) <;> exact pers_pure _);focus ((repeat (first|exact aS.here|apply aS.there)) <;> exact aS.here))|(apply aG.pure;focus (first|assumption|exact rfl|omega))|apply aG.nilrow'|apply aG.ex|apply aG.sep|apply aG.drop))) <;> exact aG.nil)):aZ n I a C:=⟨m,C',hm,he,hi⟩
def dR (I:Fr->List HP->Prop) (a:Fr) (C:List HP):Prop:=∃C'',aG C C''/\I a C''
theorem Abs {I:Fr->List HP->Prop} (hi:I a C') (he:aG C C':=by((iterate 30 (try(first|exact aG.refl _|exact aG.nil|(apply aG.pick;focus ((repeat (first|exact aS.here|apply aS.there)) <;> exact aS.here))|(apply aG.pickP;focus ((repeat (first|exact pers_ro _ _ _|exact qT _ _ _|exact pers_pure _|refine pers_sep ?_ ?_|refine pers_ex fun _=>?_)) <;> exact pers_pure _);focus ((repeat (first|exact aS.here|apply aS.there)) <;> exact aS.here))|(apply aG.pure;focus (first|assumption|exact rfl|omega))|apply aG.nilrow'|apply aG.ex|apply aG.sep|apply aG.drop))) <;> exact aG.nil)):dR I a C:=⟨C',he,hi⟩
structure Amq (p:Prop):Prop where
 h:p
end Go.Sl
end
