/- A part of the proof: lemmas; each with the conditions that it states. -/
import Derived.Test.YtepnmcipkangkaaGreatCac
set_option linter.unusedVariables false
set_option linter.unusedSimpArgs false
section
namespace Go.Sl
variable {a b c b':uE} {B H:Hp} {α:Type} {p:Prop} {P:Program} {f:FuncId} {args:Array Value}
abbrev HP:=Hp->Prop
variable {A:HP} {C C' l r:List HP} {K:Value->List HP->Prop}
abbrev KP:=Value->List HP->Prop
def uE.le (b b':uE):Prop:=b'=b\/∃cs e,b=.cells cs e false/\b'=.cells cs e true
theorem uE.le_refl (b:uE):b.le b:=.inl rfl
theorem uE.le_trans (h:a.le b) (k:b.le c):a.le c:=by
 rcases h with rfl|⟨cs,e,rfl,rfl⟩
 ·exact k
 ·rcases k with rfl|⟨cs',e',h1,h2⟩
  ·exact .inr ⟨cs,e,rfl,rfl⟩
  ·cases h1
theorem uE.le_own (h:b.le b') (ho:b.own=true):b'=b:=by
 rcases h with rfl|⟨cs,e,rfl,rfl⟩
 ·rfl
 ·cases ho
theorem uE.le_two (h:a.le c) (k:b.le c) (ha:a.own=false) (hb:b.own=false):a=b:=by
 rcases h with rfl|⟨cs,e,rfl,rfl⟩
 ·rcases k with rfl|⟨cs,e,rfl,rfl⟩
  ·rfl
  ·cases ha
 ·rcases k with rfl|⟨cs',e',rfl,h2⟩
  ·cases hb
  ·cases h2;rfl
def Cx (H1 H:Hp):Prop:=∀B b,H1 B=some b->∃b',H B=some b'/\b.le b'
theorem Cx.refl (H:Hp):Cx H H:=fun _ b h=>⟨b,h,b.le_refl⟩
theorem Cx.trans {A C:Hp} (h:Cx A B) (k:Cx B C):Cx A C:=fun r b hb=>by
 obtain⟨b1,h1,l1⟩:=h r b hb
 obtain⟨b2,h2,l2⟩:=k r b1 h1
 exact⟨b2,h2,uE.le_trans l1 l2⟩
def uT (H1 H2:Hp):Prop:=∀B b c,H1 B=some b->H2 B=some c->b.own=false/\c.own=false
theorem uT.symm {H1 H2:Hp} (h:uT H1 H2):uT H2 H1:=fun B b c hb hc=>(h B c b hc hb).symm
theorem Ana (h:b.le b') (ho:b'.own=false):b.own=false:=by
 cases hb:b.own with
 |false=>rfl
 |true=>rw[uE.le_own h hb,hb] at ho;cases ho
theorem uT.le {A A':Hp} (h:uT A' B) (hl:Cx A A'):uT A B:=fun r b c hb hc=>by
 obtain⟨b',h1,l1⟩:=hl r b hb
 obtain⟨h2,h3⟩:=h r b' c h1 hc
 exact⟨Ana l1 h2,h3⟩
theorem uT.le2 {A B':Hp} (h:uT A B') (hl:Cx B B'):uT A B:=(h.symm.le hl).symm
def uM (A B:Hp):Hp:=fun r=>match A r with
 |some b=>some b
 |none=>B r
theorem sJ (A B:Hp):Cx A (uM A B):=fun r b h=>⟨b,by simp[uM,h],b.le_refl⟩
theorem pV {A:Hp} (hc:uT A B) (h1:Cx A H) (h2:Cx B H):Cx B (uM A B):=fun r b h=>by
 cases ha:A r with
 |none=>exact⟨b,by simp[uM,ha,h],b.le_refl⟩
 |some a=>
  obtain⟨o1,o2⟩:=hc r a b ha h
  obtain⟨a',h3,l3⟩:=h1 r a ha
  obtain⟨b',h4,l4⟩:=h2 r b h
  rw[h3] at h4;cases h4
  have:=uE.le_two l3 l4 o1 o2
  subst this
  exact⟨a,by simp[uM,ha],a.le_refl⟩
theorem y4 {A:Hp} (h1:Cx A H) (h2:Cx B H):Cx (uM A B) H:=fun r b h=>by
 unfold uM at h
 split at h
 ·rename_i a ha;cases h;exact h1 r b ha
 ·exact h2 r b h
theorem uT.join {A C:Hp} (h1:uT A C) (h2:uT B C):uT (uM A B) C:=fun r b c hb hc=>by
 unfold uM at hb
 split at hb
 ·rename_i a ha;cases hb;exact h1 r b c ha hc
 ·exact h2 r b c hb hc
def bZ:List HP->Hp->Prop
 | [],_=>True
 |A::l,H=>∃H1 H2,uT H1 H2/\Cx H1 H/\Cx H2 H/\A H1/\bZ l H2
theorem bZ.mono:∀ {C:List HP} {H H':Hp},bZ C H->Cx H H'->bZ C H'
 | [],_,_,_,_=>trivial
 |_::_,_,_,⟨H1,H2,hc,h1,h2,ha,hs⟩,hl=>⟨H1,H2,hc,h1.trans hl,h2.trans hl,ha,hs⟩
theorem bZ.tail (h:bZ (A::C) H):bZ C H:=by
 obtain⟨H1,H2,hc,h1,h2,ha,hs⟩:=h
 exact hs.mono h2
theorem bZ.swap {B:HP} (h:bZ (A::B::C) H):bZ (B::A::C) H:=by
 obtain⟨H1,H2,hc,h1,h2,ha,G1,G2,kc,k1,k2,kb,ks⟩:=h
 refine⟨G1,uM H1 G2,?_,k1.trans h2,y4 h1 (k2.trans h2),kb,H1,G2,hc.le2 k2,sJ _ _,pV (hc.le2 k2) h1 (k2.trans h2),ha,ks⟩
 exact(uT.join (hc.le2 k1) kc.symm).symm
theorem bZ.perm (hp:C.Perm C'):∀ {H:Hp},bZ C H->bZ C' H:=by
 induction hp with
 |nil=>exact fun h=>h
 |cons x _ ih=>exact fun⟨H1,H2,hc,h1,h2,ha,hs⟩=>⟨H1,H2,hc,h1,h2,ha,ih hs⟩
 |swap x y l=>exact fun h=>h.swap
 |trans _ _ ih1 ih2=>exact fun h=>ih2 (ih1 h)
theorem bZ.append:∀ {C R:List HP} {H:Hp},bZ (C++R) H->∃H1 H2,uT H1 H2/\Cx H1 H/\Cx H2 H/\bZ C H1/\bZ R H2
 | [],R,H,h=>⟨fun _=>none,H,(fun _ _ _ h=>by cases h),(fun _ _ h=>by cases h),Cx.refl H,trivial,h⟩
 |A::C,R,H,⟨H1,H2,hc,h1,h2,ha,hs⟩=>by
  obtain⟨G1,G2,kc,k1,k2,ka,ks⟩:=bZ.append hs
  exact⟨uM H1 G1,G2,uT.join (hc.le2 k2) kc,y4 h1 (k1.trans h2),k2.trans h2,⟨H1,G1,hc.le2 k1,sJ _ _,pV (hc.le2 k1) h1 (k1.trans h2),ha,ka⟩,ks⟩
theorem bZ.join:∀ {C R:List HP} {H1 H2 H:Hp},uT H1 H2->Cx H1 H->Cx H2 H->bZ C H1->bZ R H2->bZ (C++R) H
 | [],_,_,_,_,_,_,h2,_,hs=>hs.mono h2
 |_::_,_,_,_,_,hc,h1,h2,⟨G1,G2,kc,k1,k2,ka,ks⟩,hs=>
  ⟨G1,uM G2 _,(uT.join kc.symm (hc.symm.le2 k1)).symm,k1.trans h1,y4 (k2.trans h1) h2,ka,
   bZ.join (hc.le k2) (sJ _ _) (pV (hc.le k2) (k2.trans h1) h2) ks hs⟩
inductive aW (A:HP):List HP->List HP->Prop where
 |here {l:List HP}:aW A (A::l) l
 |there {B:HP} {l r:List HP}:aW A l r->aW A (B::l) (B::r)
theorem aW.perm (h:aW A l r):l.Perm (A::r):=by
 induction h with
 |here=>exact List.Perm.refl _
 |there _ ih=>exact(List.Perm.cons _ ih).trans (List.Perm.swap _ _ _)
theorem aW.sats (h:aW A l r) (hs:bZ l H):bZ (A::r) H:=hs.perm h.perm
def aG (C C':List HP):Prop:=∀H,bZ C H->bZ C' H
theorem aG.refl (C:List HP):aG C C:=fun _ h=>h
theorem aG.trans {A B:List HP} (h:aG A B) (k:aG B C):aG A C:=fun H x=>k H (h H x)
theorem aG.nil:aG C []:=fun _ _=>trivial
theorem aG.cons (h:aG C C'):aG (A::C) (A::C'):=fun _ ⟨H1,H2,hc,h1,h2,ha,hs⟩=>⟨H1,H2,hc,h1,h2,ha,h _ hs⟩
theorem aG.pick {R:List HP} (hp:aW A C R) (h:aG R C'):aG C (A::C'):=fun _ hs=>(aG.cons h) _ (hp.sats hs)
theorem aG.drop (h:aG C C'):aG (A::C) C':=fun H hs=>h H hs.tail
theorem aG.imp {B:HP} (hab:∀H,A H->B H) (h:aG C C'):aG (A::C) (B::C'):=fun _ ⟨H1,H2,hc,h1,h2,ha,hs⟩=>⟨H1,H2,hc,h1,h2,hab _ ha,h _ hs⟩
def fC {α:Type} (g:α->HP):HP:=fun H=>∃x,g x H
def star (l:List HP):HP:=bZ l
def bF (p:Prop):HP:=fun _=>p
def pt (r:Nat) (cs:List Value) (e:TypeId):HP:=fun H=>H r=some (.cells cs e true)
def ro (r:Nat) (cs:List Value) (e:TypeId):HP:=fun H=>H r=some (.cells cs e false)
theorem bZ.ex {g:α->HP} (h:bZ (fC g::C) H):∃x,bZ (g x::C) H:=by
 obtain⟨H1,H2,hc,h1,h2,⟨x,ha⟩,hs⟩:=h
 exact⟨x,H1,H2,hc,h1,h2,ha,hs⟩
theorem bZ.star (h:bZ (star l::C) H):bZ (l++C) H:=by
 obtain⟨H1,H2,hc,h1,h2,ha,hs⟩:=h
 exact bZ.join hc h1 h2 ha hs
theorem bZ.pure (h:bZ (bF p::C) H):p/\bZ C H:=⟨by obtain⟨_,_,_,_,_,ha,_⟩:=h;exact ha,h.tail⟩
theorem aG.ex {g:α->HP} (x:α) (h:aG C (g x::C')):aG C (fC g::C'):=fun H hs=>by
 obtain⟨H1,H2,hc,h1,h2,ha,hs⟩:=h H hs
 exact⟨H1,H2,hc,h1,h2,⟨x,ha⟩,hs⟩
theorem aG.star (h:aG C (l++C')):aG C (star l::C'):=fun H hs=>by
 obtain⟨H1,H2,hc,h1,h2,ha,hs⟩:=(h H hs).append
 exact⟨H1,H2,hc,h1,h2,ha,hs⟩
theorem aG.pure (hp:p) (h:aG C C'):aG C (bF p::C'):=fun H hs=>
 ⟨fun _=>none,H,(fun _ _ _ h=>by cases h),(fun _ _ h=>by cases h),Cx.refl H,hp,h H hs⟩
def FZ (A:HP):Prop:=∀H,A H->∃H',Cx H' H/\A H'/\∀B b,H' B=some b->b.own=false
def nR (r:Nat) (b:uE):Hp:=fun i=>if i=r then some b else none
theorem EA {r:Nat} (h:H r=some b') (hl:b.le b'):Cx (nR r b) H:=fun i c hc=>by
 unfold nR at hc;split at hc
 ·rename_i e;subst e;cases hc;exact⟨b',h,hl⟩
 ·cases hc
theorem D5 {r i:Nat} (h:nR r b i=some c):i=r/\c=b:=by
 unfold nR at h;split at h
 ·rename_i e;cases h;exact⟨e,rfl⟩
 ·cases h
theorem yU (r:Nat) (b:uE):nR r b r=some b:=by simp[nR]
theorem bZ.dup (hp:FZ A) (h:bZ (A::C) H):bZ (A::A::C) H:=by
 obtain⟨H1,H2,hc,h1,h2,ha,hs⟩:=h
 obtain⟨G,g1,g2,g3⟩:=hp H1 ha
 refine⟨G,uM G H2,?_,g1.trans h1,y4 (g1.trans h1) h2,g2,G,H2,hc.le g1,sJ _ _,pV (hc.le g1) (g1.trans h1) h2,g2,hs⟩
 refine(uT.join (fun B b c hb hc=>⟨g3 _ _ hb,g3 _ _ hc⟩) (hc.le g1).symm).symm
def upC (Q:Fr->List HP->Prop):Fr->Hp->Prop:=fun a H=>∃C,bZ C H/\Q a C
def upV (K:Value->List HP->Prop):Value->Hp->Prop:=fun v H=>∃C,bZ C H/\K v C
def upE (Q:Exit->Fr->List HP->Prop):Exit->Fr->Hp->Prop:=fun e=>upC (Q e)
def aA (P:Program) (f:FuncId) (args:Array Value) (C:List HP) (K:Value->List HP->Prop):Prop:=∀H,bZ C H->rU P f args H (upV K)
def fL (P:Program) (c:Code) (Q:Exit->Fr->List HP->Prop) (a:Fr) (C:List HP):Prop:=∀H,bZ C H->ev P c (upE Q) a H
theorem aA.ent (he:aG C C') (h:aA P f args C' K):aA P f args C K:=fun H hs=>h H (he H hs)
theorem aA.ex {g:α->HP} (h:∀x,aA P f args (g x::C) K):aA P f args (fC g::C) K:=fun H hs=>by
 obtain⟨x,hx⟩:=hs.ex
 exact h x H hx
theorem aA.star (h:aA P f args (l++C) K):aA P f args (star l::C) K:=fun H hs=>h H hs.star
theorem aA.pure (h:p->aA P f args C K):aA P f args (bF p::C) K:=fun H hs=>h hs.pure.1 H hs.pure.2
theorem aA.mono {K':Value->List HP->Prop} (h:aA P f args C K) (hk:∀v C,K v C->K' v C):aA P f args C K':=fun H hs=>(h H hs).mono fun v _ ⟨C',h1,h2⟩=>⟨C',h1,hk v C' h2⟩
theorem IM {P:Program} {ops:Array Oper} {Q Q':Fr->Hp->Prop} (hq:∀a H,Q a H->Q' a H):∀(l:List Oper) (i:Nat) (a:Fr) (H:Hp),Ke P ops Q i l a H->Ke P ops Q' i l a H
 | [],_,a,H,h=>hq a H h
 |o::l,i,a,H,h=>by
  unfold Ke at h ⊢
  split
  ·rename_i hw
   rw[if_pos hw] at h
   refine pY (fun v H' hv=>?_) h
   rw[cM] at hv ⊢
   exact IM hq l _ _ _ hv
  ·rename_i hw
   rw[if_neg hw] at h
   exact IM hq l _ _ _ h
theorem BM {P:Program} {ops:Array Oper} {Q Q':Fr->Hp->Prop} (hq:∀a H,Q a H->Q' a H):∀(l:List (Nat×Nat)) (hist:List Hp) (a:Fr) (H:Hp),AF P ops Q l hist a H->AF P ops Q' l hist a H
 | [],_,a,H,h=>hq a H h
 |(i,c)::l,hist,a,H,h=>by
  simp only[AF] at h ⊢
  split at h
  ·exact h.elim
  ·split
   ·rename_i hw
    rw[if_pos hw] at h
    split at h
    ·obtain⟨v,h1,h2⟩:=h
     rw[cM] at h2
     exact⟨v,h1,(cM _ _ _).2 (BM hq l _ _ _ h2)⟩
    ·obtain⟨v,h1,h3,h2⟩:=h
     rw[cM] at h2
     exact⟨v,h1,h3,(cM _ _ _).2 (BM hq l _ _ _ h2)⟩
    ·refine pY (fun v H' hv=>?_) h
     rw[cM] at hv ⊢
     exact BM hq l _ _ _ hv
   ·rename_i hw
    rw[if_neg hw] at h
    exact BM hq l _ _ _ h
theorem wC {P:Program} {ops:Array Oper} {Q Q':Fr->Hp->Prop} (hq:∀a H,Q a H->Q' a H):∀(t:Tr) (hist:List Hp) (a:Fr) (H:Hp),DY P ops Q t hist a H->DY P ops Q' t hist a H
 |.nil,_,a,H,h=>hq a H h
 |.br t u,_,_,_,h=>⟨wC hq t _ _ _ h.1,wC hq u _ _ _ h.2⟩
 |.st i c l,hist,a,H,h=>by
  simp only[DY] at h ⊢
  split at h
  ·exact h.elim
  ·split
   ·rename_i hw
    rw[if_pos hw] at h
    split at h
    ·obtain⟨v,h1,h2⟩:=h
     rw[cM] at h2
     exact⟨v,h1,(cM _ _ _).2 (wC hq l _ _ _ h2)⟩
    ·obtain⟨v,h1,h3,h2⟩:=h
     rw[cM] at h2
     exact⟨v,h1,h3,(cM _ _ _).2 (wC hq l _ _ _ h2)⟩
    ·refine pY (fun v H' hv=>?_) h
     rw[cM] at hv ⊢
     exact wC hq l _ _ _ hv
   ·rename_i hw
    rw[if_neg hw] at h
    exact wC hq l _ _ _ h
theorem xS (c:Code):∀ {Q Q':Exit->Fr->Hp->Prop} (_:∀e a H,Q e a H->Q' e a H) (a:Fr) (H:Hp),ev P c Q a H->ev P c Q' a H:=by
 induction c with
 |region id ops d=>
  intro Q Q' hq a H h
  cases d
  ·exact IM (hq .normal) _ _ _ _ h
  ·exact h.imp (fun h=>⟨h.1,BM (hq .normal) _ _ _ _ h.2⟩) fun⟨t,h1,h2⟩=>⟨t,h1,wC (hq .normal) _ _ _ _ h2⟩
 |seq x y ihx ihy=>
  intro Q Q' hq a H h
  refine ihx (Q:=VY (ev P y Q) Q) (fun e a H h=>?_) a H h
  cases e <;> first|exact hq _ _ _ h|exact ihy hq a H h
 |cond c x y ihx ihy=>
  intro Q Q' hq a H h
  simp only[ev] at h ⊢
  split
  ·rename_i b hb;rw[hb] at h;exact⟨fun hb=>ihx hq a H (h.yes hb),fun hb=>ihy hq a H (h.no hb)⟩
  ·rename_i hb
   split at h
   ·rename_i b hb';exact absurd hb' (hb b)
   ·exact h
 |block id c ih=>
  intro Q Q' hq a H h
  refine ih (Q:=BA id Q) (fun e a H h=>?_) a H h
  cases e <;> first
   |exact hq _ _ _ h
   |(simp only[BA] at h ⊢;split <;> rename_i hj <;> simp only[hj,if_true,if_false] at h <;> exact hq _ _ _ h)
 |loop c ih=>
  intro Q Q' hq a H h
  obtain⟨I,n,h0,hr⟩:=h
  refine⟨I,n,h0,fun n a H hI=>ih (Q:=VY _ Q) (fun e a H h=>?_) a H (hr n a H hI)⟩
  cases e <;> first|exact h|exact hq _ _ _ h
 |scope c ih=>
  intro Q Q' hq a H h
  refine ih (Q:=VL Q) (fun e a H h=>?_) a H h
  cases e <;> first|exact hq _ _ _ h|exact h.elim
 |skip=>exact fun hq a H h=>hq _ _ _ h
 |exit id=>exact fun hq a H h=>hq _ _ _ h
 |label l=>exact fun hq a H h=>hq _ _ _ h
 |ret=>exact fun hq a H h=>hq _ _ _ h
 |_=>exact fun hq a H h=>h.elim
end Go.Sl
namespace Go.Sl
variable {P:Program} {f:FuncId} {args:Array Value} {A B:HP} {C C':List HP} {a:Fr} {K:Fr->List HP->Prop} {x y:Code} {id j i c:Nat} {ops:Array Oper} {o:Oper} {l:List (Nat×Nat)} {t:Tr} {g:Bool} {hist:List (List HP)} {v:Value} {ol:List Oper} {fn:Func} {rs:List ResultVar} {vs cs:List Value}
def bM (K:Fr->List HP->Prop) (Q:Exit->Fr->List HP->Prop):Exit->Fr->List HP->Prop
 |Exit.normal=>K
 |e=>Q e
def aL (id:Nat) (Q:Exit->Fr->List HP->Prop):Exit->Fr->List HP->Prop
 |Exit.exit j=>if j=id then Q .normal else Q (.exit j)
 |e=>Q e
def aR (Q:Exit->Fr->List HP->Prop):Exit->Fr->List HP->Prop
 |Exit.goto _=>fun _ _=>False
 |e=>Q e
def sep (A B:HP):HP:=star [A,B]
theorem aA.sep {K:Value->List HP->Prop} (h:aA P f args (A::B::C) K):aA P f args (sep A B::C) K:=fun H hs=>h H hs.star
theorem aG.sep (h:aG C (A::B::C')):aG C (sep A B::C'):=aG.star h
theorem HA {c:Code} {Q:Exit->Fr->List HP->Prop} (h:fL P c Q a (A::B::C)):fL P c Q a (sep A B::C):=fun H hs=>h H hs.star
section
variable {Q:Exit->Fr->List HP->Prop}
theorem o7 (he:aG C C') (h:fL P x Q a C'):fL P x Q a C:=fun H hs=>h H (he H hs)
theorem xL {α:Type} {g:α->HP} (h:∀z,fL P x Q a (g z::C)):fL P x Q a (fC g::C):=fun H hs=>by
 obtain⟨z,hz⟩:=hs.ex
 exact h z H hz
theorem Z3 (h:fL P x (bM (fL P y Q) Q) a C):fL P (.seq x y) Q a C:=fun H hs=>by
 refine xS x (fun e a H hq=>?_) a H (h H hs)
 obtain⟨C',h1,h2⟩:=hq
 cases e <;> first|exact⟨C',h1,h2⟩|exact h2 H h1
theorem TU {c:Operand} {b:Bool} (hc:bL a c=.bool b) (h:Br b (fL P x Q a C) (fL P y Q a C)):fL P (.cond c x y) Q a C:=fun H hs=>by
 simp only[ev,hc]
 exact⟨fun hb=>h.yes hb H hs,fun hb=>h.no hb H hs⟩
theorem Hd (h:fL P x (aL id Q) a C):fL P (.block id x) Q a C:=fun H hs=>by
 refine xS x (fun e a H hq=>?_) a H (h H hs)
 obtain⟨C',h1,h2⟩:=hq
 cases e <;> first
  |exact⟨C',h1,h2⟩
  |(simp only[aL,BA] at h2 ⊢;split <;> rename_i hj <;> simp only[hj,if_true,if_false] at h2 <;> exact⟨C',h1,h2⟩)
theorem NK (h:fL P x (aR Q) a C):fL P (.scope x) Q a C:=fun H hs=>by
 refine xS x (fun e a H hq=>?_) a H (h H hs)
 obtain⟨C',h1,h2⟩:=hq
 cases e <;> first|exact⟨C',h1,h2⟩|exact h2.elim
theorem T6 (h:Q .normal a C):fL P .skip Q a C:=fun H hs=>⟨C,hs,h⟩
theorem MI (h:Q .normal a C):fL P (.label id) Q a C:=fun H hs=>⟨C,hs,h⟩
theorem Tj (h:Q (.exit id) a C):fL P (.exit id) Q a C:=fun H hs=>⟨C,hs,h⟩
theorem Abi (h:Q .ret a C):fL P .ret Q a C:=fun H hs=>⟨C,hs,h⟩
theorem t_n (h:K a C):bM K Q .normal a C:=h
theorem t_e (h:Q (.exit id) a C):bM K Q (.exit id) a C:=h
theorem t_r (h:Q .ret a C):bM K Q .ret a C:=h
theorem b_n (h:Q .normal a C):aL id Q .normal a C:=h
theorem b_r (h:Q .ret a C):aL id Q .ret a C:=h
theorem Aao (hj:(j == id)=true) (h:Q .normal a C):aL id Q (.exit j) a C:=by simp at hj;simp only[aL,hj,if_true];exact h
theorem T0 (hj:(j == id)=false) (h:Q (.exit j) a C):aL id Q (.exit j) a C:=by simp at hj;simp only[aL,hj,if_false];exact h
theorem g_r (h:Q .ret a C):aR Q .ret a C:=h
theorem Amj (I:Nat->Fr->List HP->Prop) (n:Nat) (C0:List HP) (he:aG C C0) (h0:I n a C0)
  (hr:∀n a C,I n a C->fL P x (bM (fun a' C'=>∃m C'',m<n/\aG C' C''/\I m a' C'') Q) a C):fL P (.loop x) Q a C:=fun H hs=>by
 refine⟨fun n a H=>∃C,bZ C H/\I n a C,n,⟨C0,he H hs,h0⟩,fun n a H ⟨C,hs,hI⟩=>?_⟩
 refine xS x (fun e a H hq=>?_) a H (hr n a C hI H hs)
 obtain⟨C',h1,h2⟩:=hq
 cases e <;> first
  |exact⟨C',h1,h2⟩
  |(obtain⟨m,C'',hm,hE,hI⟩:=h2;exact⟨m,hm,C'',hE H h1,hI⟩)
theorem i6 (l:List (Nat×Value)) (h:dH a l) (he:fL P x Q (gJ a l) C):fL P x Q a C:=by rw[V0 h] at he;exact he
end
abbrev Apk:=Nat×Bool×Oper
inductive ET where
 |nil
 |cons (e:Apk) (l:ET)
 |br (l m:ET)
variable {es:ET}
def P6 (P:Program) (ops:Array Oper) (Q:Fr->Hp->Prop):ET->List Hp->Fr->Hp->Prop
 |.nil,_,a,H=>Q a H
 |.br l m,hist,a,H=>P6 P ops Q l hist a H/\P6 P ops Q m hist a H
 |ET.cons (c,_,o) l,hist,a,H=>
  if bE ops o a=true then
   match kd P o.op with
   |.pure=>∃v,bY P o a=some v/\P6 P ops Q l hist (fK a o.dst v) H
   |.load=>∃v,Ka P o a H=some v/\(∀h∈hist.take c,Ka P o a h=some v)/\P6 P ops Q l hist (fK a o.dst v) H
   |.other=>mS P o a H fun v H'=>P6 P ops Q l (H::hist) (fK a o.dst v) H'
  else P6 P ops Q l hist (fK a o.dst undef) H
def SA (ops:Array Oper):Nat->List Oper->Option (ET)
 |_,[]=>some .nil
 |i,o::l=>match Se ops i with
  |true=>match SA ops (i+1) l with
   |some r=>some (ET.cons (0,true,o) r)
   |none=>none
  |false=>match SA ops (i+1) l with
   |some r=>some (ET.cons (0,false,o) r)
   |none=>none
def Kg (ops:Array Oper):List (Nat×Nat)->Option (ET)
 | []=>some .nil
 |(i,c)::l=>match ops[i]? with
  |none=>none
  |some o=>match Se ops i with
   |true=>match Kg ops l with
    |some r=>some (ET.cons (c,true,o) r)
    |none=>none
   |false=>match Kg ops l with
    |some r=>some (ET.cons (c,false,o) r)
    |none=>none
theorem X8 {l:List Oper} (h:SA ops i (o::l)=some es):∃g r,es=ET.cons (0,g,o) r/\SA ops (i+1) l=some r:=by
 simp only[SA] at h
 split at h <;> split at h <;> first|(cases h;done)|(rename_i r hr;cases h;exact⟨_,r,rfl,hr⟩)
theorem Zd (h:Kg ops ((i,c)::l)=some es):∃g r o,ops[i]?=some o/\es=ET.cons (c,g,o) r/\Kg ops l=some r:=by
 simp only[Kg] at h
 split at h
 ·cases h
 ·rename_i o ho
  split at h <;> split at h <;> first|(cases h;done)|(rename_i r hr;cases h;exact⟨_,r,o,ho,rfl,hr⟩)
theorem Qo {P:Program} {ops:Array Oper} {Q:Fr->Hp->Prop}:∀(l:List Oper) (i:Nat) (es:ET) (hist:List Hp) (a:Fr) (H:Hp),SA ops i l=some es->P6 P ops Q es hist a H->Ke P ops Q i l a H
 | [],_,es,hist,a,H,he,h=>by cases he;exact h
 |o::l,i,es,hist,a,H,he,h=>by
  obtain⟨g,r,rfl,hr⟩:=X8 he
  simp only[P6] at h
  split at h
  ·rename_i hw
   split at h
   ·obtain⟨v,hv,h⟩:=h
    exact Apj hw hv ((cM _ _ _).2 (Qo l _ r _ _ _ hr h))
   ·obtain⟨v,hv,_,h⟩:=h
    exact App hw hv ((cM _ _ _).2 (Qo l _ r _ _ _ hr h))
   ·refine Ao4 hw (pY (fun v H' hk=>?_) h)
    exact(cM _ _ _).2 (Qo l _ r _ _ _ hr hk)
  ·rename_i hw
   exact Apo (by simpa using hw) (Qo l _ r _ _ _ hr h)
theorem Rv {P:Program} {ops:Array Oper} {Q:Fr->Hp->Prop}:∀(l:List (Nat×Nat)) (es:ET) (hist:List Hp) (a:Fr) (H:Hp),Kg ops l=some es->P6 P ops Q es hist a H->AF P ops Q l hist a H
 | [],es,hist,a,H,he,h=>by cases he;exact h
 |(i,c)::l,es,hist,a,H,he,h=>by
  obtain⟨g,r,o,ho,rfl,hr⟩:=Zd he
  simp only[P6] at h
  split at h
  ·rename_i hw
   split at h
   ·rename_i hk
    obtain⟨v,hv,h⟩:=h
    exact Ao9 ho hk hw hv ((cM _ _ _).2 (Rv l r _ _ _ hr h))
   ·rename_i hk
    obtain⟨v,hv,hh,h⟩:=h
    exact Apm ho hk hw hv hh ((cM _ _ _).2 (Rv l r _ _ _ hr h))
   ·rename_i hk
    refine Ao6 ho hk hw (pY (fun v H' hk=>?_) h)
    exact(cM _ _ _).2 (Rv l r _ _ _ hr hk)
  ·rename_i hw
   exact Ao1 ho (by simpa using hw) (Rv l r _ _ _ hr h)
def ES (ops:Array Oper):Tr->Option ET
 |.nil=>some .nil
 |.br t u=>match ES ops t with
  |some x=>match ES ops u with
   |some y=>some (.br x y)
   |none=>none
  |none=>none
 |.st i c l=>match ops[i]? with
  |none=>none
  |some o=>match Se ops i with
   |true=>match ES ops l with
    |some r=>some (ET.cons (c,true,o) r)
    |none=>none
   |false=>match ES ops l with
    |some r=>some (ET.cons (c,false,o) r)
    |none=>none
theorem Ale {l:Tr} (h:ES ops (.st i c l)=some es):∃g r o,ops[i]?=some o/\es=ET.cons (c,g,o) r/\ES ops l=some r:=by
 simp only[ES] at h
 split at h
 ·cases h
 ·rename_i o ho
  split at h <;> split at h <;> first|(cases h;done)|(rename_i r hr;cases h;exact⟨_,r,o,ho,rfl,hr⟩)
theorem Aia {u:Tr} (h:ES ops (.br t u)=some es):∃x y,es=.br x y/\ES ops t=some x/\ES ops u=some y:=by
 simp only[ES] at h
 split at h
 ·rename_i x hx
  split at h
  ·rename_i y hy;cases h;exact⟨x,y,rfl,hx,hy⟩
  ·cases h
 ·cases h
theorem Ja {P:Program} {ops:Array Oper} {Q:Fr->Hp->Prop}:∀(t:Tr) (es:ET) (hist:List Hp) (a:Fr) (H:Hp),ES ops t=some es->P6 P ops Q es hist a H->DY P ops Q t hist a H
 |.nil,es,hist,a,H,he,h=>by cases he;exact h
 |.br t u,es,hist,a,H,he,h=>by
  obtain⟨x,y,rfl,hx,hy⟩:=Aia he
  exact⟨Ja t x hist a H hx h.1,Ja u y hist a H hy h.2⟩
 |.st i c l,es,hist,a,H,he,h=>by
  obtain⟨g,r,o,ho,rfl,hr⟩:=Ale he
  simp only[P6] at h
  simp only[DY,ho]
  split at h
  ·rename_i hw
   rw[if_pos hw]
   split at h
   ·rename_i hkd;simp only[hkd];obtain⟨v,hv,h⟩:=h
    exact⟨v,hv,(cM _ _ _).2 (Ja l r _ _ _ hr h)⟩
   ·rename_i hkd;simp only[hkd];obtain⟨v,hv,hh,h⟩:=h
    exact⟨v,hv,hh,(cM _ _ _).2 (Ja l r _ _ _ hr h)⟩
   ·rename_i hkd;simp only[hkd];refine pY (fun v H' hk=>?_) h
    exact(cM _ _ _).2 (Ja l r _ _ _ hr hk)
  ·rename_i hw
   rw[if_neg hw]
   exact Ja l r _ _ _ hr h
def Tg (P:Program) (ops:Array Oper) (bs:Array Nat):Nat->List Nat->List Nat->Tr
 |n,acc,S=>
  let all:=List.range ops.size
  let cnt:=fun i=>jU P ops ((all.map fun j=>(j,0)).filter fun j=>!(bs.getD i 0).testBit j.1 && !(bs.getD j.1 0).testBit i)
  match n with
  |0=>(all.filter fun i=>!acc.contains i).foldr (fun i t=>.st i (cnt i) t) .nil
  |n+1=>
   let one:=fun e=>let new:=(all.filter fun i=>(bs.getD e 0).testBit i && !acc.contains i)++ [e]
    new.foldr (fun i t=>.st i (cnt i) t) (Tg P ops bs n (acc++new) (S.filter fun j=>!(j == e)))
   match S.filter fun e=>!S.any fun j=>(bs.getD e 0).testBit j with
   | []=>.nil
   |e::l=>l.foldl (fun t e=>.br t (one e)) (one e)
def EU (P:Program) (ops:Array Oper):List Nat:=(List.range ops.size).filter fun i=>match ops[i]? with|some o=>bV P o.op|none=>false
def trF:Tr->Option Tr
 |.nil=>some .nil
 |.st i c t=>match Aw i with
  |some i=>match Aw c with
   |some c=>match trF t with
    |some t=>some (.st i c t)
    |none=>none
   |none=>none
  |none=>none
 |.br t u=>match trF t with
  |some t=>match trF u with
   |some u=>some (.br t u)
   |none=>none
  |none=>none
def R2:List (List HP)->List Hp->Prop
 | [],[]=>True
 |C::l,H::m=>bZ C H/\R2 l m
 |_,_=>False
theorem R2.take:∀ {l:List (List HP)} {m:List Hp},R2 l m->∀ {c:Nat} {h:Hp},h∈m.take c->∃C∈l.take c,bZ C h
 | [],[],_,_,_,hh=>by simp at hh
 |C::l,H::m,hs,0,_,hh=>by simp at hh
 |C::l,H::m,hs,c+1,h,hh=>by
  simp only[List.take_succ_cons,List.mem_cons] at hh
  rcases hh with rfl|hh
  ·exact⟨C,by simp,hs.1⟩
  ·obtain⟨C',h1,h2⟩:=R2.take hs.2 hh
   exact⟨C',by simp[h1],h2⟩
 | [],_::_,hs,_,_,_=>hs.elim
 |_::_,[],hs,_,_,_=>hs.elim
def aN (P:Program) (ops:Array Oper) (Q:Fr->List HP->Prop) (es:ET) (hist:List (List HP)) (a:Fr) (C:List HP):Prop:=
 ∀Hs H,R2 hist Hs->bZ C H->P6 P ops (upC Q) es Hs a H
def RdC (P:Program) (o:Oper) (a:Fr) (C:List HP) (v:Value):Prop:=∀H,bZ C H->Ka P o a H=some v
def BF (p:List HP->Prop):List (List HP)->Prop
 | []=>True
 |C::l=>p C/\BF p l
theorem HW {p:List HP->Prop}:∀ {l:List (List HP)},BF p l->∀C∈l,p C
 | [],_,_,h=>by cases h
 |_::_,hp,C,h=>by
  rcases List.mem_cons.1 h with rfl|h
  ·exact hp.1
  ·exact HW hp.2 C h
def By (P:Program) (o:Oper) (a:Fr) (C:List HP) (k:Value->List HP->Prop):Prop:=∀H,bZ C H->mS P o a H (upV k)
section
variable {Q:Fr->List HP->Prop}
theorem gT (hk:kd P o.op=.pure) (hw:bE ops o a=true) (hv:bY P o a=some v) (h:cL g v fun v=>aN P ops Q es hist (fK a o.dst v) C):aN P ops Q (ET.cons (c,g,o) es) hist a C:=fun Hs H h1 h2=>by
 simp only[P6,hw,if_true,hk]
 rw[cM] at h
 exact⟨v,hv,h Hs H h1 h2⟩
theorem Vt (hk:kd P o.op=.load) (hw:bE ops o a=true) (hv:RdC P o a C v) (hh:BF (fun C'=>RdC P o a C' v) (hist.take c)) (h:cL g v fun v=>aN P ops Q es hist (fK a o.dst v) C):aN P ops Q (ET.cons (c,g,o) es) hist a C:=fun Hs H h1 h2=>by
 simp only[P6,hw,if_true,hk]
 rw[cM] at h
 refine⟨v,hv H h2,fun x hx=>?_,h Hs H h1 h2⟩
 obtain⟨C',k1,k2⟩:=h1.take hx
 exact HW hh C' k1 x k2
theorem x9 (hk:kd P o.op=.other) (hw:bE ops o a=true) (h:By P o a C fun v C'=>cL g v fun v=>aN P ops Q es (C::hist) (fK a o.dst v) C'):aN P ops Q (ET.cons (c,g,o) es) hist a C:=fun Hs H h1 h2=>by
 simp only[P6,hw,if_true,hk]
 refine pY (fun v H' hk=>?_) (h H h2)
 obtain⟨C',k1,k2⟩:=hk
 rw[cM] at k2
 exact k2 (H::Hs) H' ⟨h2,h1⟩ k1
theorem Apf (hw:bE ops o a=false) (h:aN P ops Q es hist (fK a o.dst undef) C):aN P ops Q (ET.cons (c,g,o) es) hist a C:=fun Hs H h1 h2=>by
 simp only[P6,hw]
 exact h Hs H h1 h2
theorem Aql {x y:ET} (h1:aN P ops Q x hist a C) (h2:aN P ops Q y hist a C):aN P ops Q (.br x y) hist a C:=fun Hs H k1 k2=>⟨h1 Hs H k1 k2,h2 Hs H k1 k2⟩
theorem aQ (h:Q a C):aN P ops Q .nil hist a C:=fun _ _ _ h2=>⟨C,h2,h⟩
theorem Wp (he:aG C C') (h:aN P ops Q es hist a C'):aN P ops Q es hist a C:=fun Hs H h1 h2=>h Hs H h1 (he H h2)
end
section
variable {Q:Exit->Fr->List HP->Prop}
theorem JD (he:SA ol.toArray 0 ol=some es) (h:aN P ol.toArray (Q .normal) es [] a C):fL P (.region id ol.toArray false) Q a C:=fun H hs=>
 Qo ol 0 es [] a H he (h [] H trivial hs)
theorem Na (hl:Dq (LK P ol.toArray (Region.before ol.toArray))=some l) (hc:wS P ol.toArray (Region.before ol.toArray) l=true) (he:Kg ol.toArray l=some es)
  (h:aN P ol.toArray (Q .normal) es [] a C):fL P (.region id ol.toArray true) Q a C:=fun H hs=>by
 have e:=ZF hl
 exact .inl ⟨by rw[e];exact hc,by rw[e];exact Rv l es [] a H he (h [] H trivial hs)⟩
theorem Oi (hl:trF (Tg P ol.toArray (Region.before ol.toArray) (EU P ol.toArray).length [] (EU P ol.toArray))=some t) (hc:I7 P ol.toArray (Region.before ol.toArray) t=true) (he:ES ol.toArray t=some es)
  (h:aN P ol.toArray (Q .normal) es [] a C):fL P (.region id ol.toArray true) Q a C:=fun H hs=>
 .inr ⟨t,hc,Ja t es [] a H he (h [] H trivial hs)⟩
end
def dJ (P:Program) (fn:Func) (K:Value->List HP->Prop):Exit->Fr->List HP->Prop
 |Exit.normal=>fun a C=>∀H,bZ C H->Aag P fn (upV K) a H
 |Exit.ret=>fun a C=>∀H,bZ C H->Aag P fn (upV K) a H
 |_=>fun _ _=>False
theorem Q6 (hm:P.follows .mixedOrders=true) {c:Code} {K:Value->List HP->Prop} (hf:P.funcs[f]?=some fn) (hb:fn.body=some c)
  (hn:(fn.name == "runtime.NumGoroutine")=false) (hc:sE fn.ntmps c=true) (hsz:args.size<=fn.ntmps) (h:fL P c (dJ P fn K) (HD args.toList) C):aA P f args C K:=fun H hs=>by
 refine Q1 hm hf hb hn hc hsz (xS c (fun e a H hq=>?_) _ H (h H hs))
 obtain⟨C',h1,h2⟩:=hq
 cases e <;> first|exact h2 H h1|exact h2.elim
def Bc (P:Program) (a:Fr) (C:List HP) (rs:List ResultVar) (vs:List Value):Prop:=∀H,bZ C H->yB P a H rs=some vs
theorem bS:Bc P a C [] []:=fun _ _=>rfl
theorem Am8 {t:Tmp} (hx:iW (a t)=some v) (h:Bc P a C rs vs):Bc P a C (.tmp t::rs) (v::vs):=fun H hs=>An4 hx (h H hs)
def ZM (C:List HP) (B:Nat) (cs:List Value):Prop:=∀H,bZ C H->∃e rw,H B=some (.cells cs e rw)
theorem t6 {B:Nat} {e:TypeId}:ZM (pt B cs e::C) B cs:=fun H ⟨H1,H2,_,h1,_,ha,_⟩=>by
 obtain⟨b,h,l⟩:=h1 B _ ha
 have:=uE.le_own l rfl
 subst this
 exact⟨e,true,h⟩
theorem vB {B:Nat} (h:ZM C B cs):ZM (A::C) B cs:=fun H hs=>h H hs.tail
theorem Ake {p:Tmp} {t:TypeId} {B off:Nat} (hx:a p=.pointer (some ⟨B,off,none⟩)) (hb:ZM C B cs) (hv:Sj P t cs off=some v)
  (h:Bc P a C rs vs):Bc P a C (.cell p t::rs) (v::vs):=fun H hs=>by
 obtain⟨e,rw,hB⟩:=hb H hs
 exact Ajw hx hB hv (h H hs)
theorem Ann {K:Value->List HP->Prop} (hl:oT fn.results.toList=some rs) (hv:Bc P a C rs vs) (ht:iW (U0 vs)=some v) (he:aG C C') (hk:K v C'):
  dJ P fn K .ret a C:=fun H hs=>⟨vs,by rw[l5 hl];exact hv H hs,H,Dy.refl H,C',he H hs,by rw[gV ht];exact hk⟩
end Go.Sl
namespace Go.Sl
variable {m n j u:Int} {P:Program} {a:Fr} {d:Option Tmp} {ty t yt t' e:TypeId} {pos:String} {after:Array Edge} {x y z:Operand} {k':IntKind} {Aqp:Array Operand} {ts:Array TypeId} {ops:Array Oper} {Q:Fr->List HP->Prop} {C:List HP} {c B off sz:Nat} {o:Oper} {es:ET} {hist:List (List HP)} {v:Value} {k:Value->List HP->Prop} {gd b:Bool} {d':Tmp} {op:Op} {s:ByteArray} {ps:Array (Nat×Operand)} {xs ys:Array Value} {cs cs' vs:List Value} {p:List HP->Prop} {H:Hp} {f:FuncId}
theorem xE (l:List UInt8):(ByteArray.mk l.toArray).size=l.length:=by simp[ByteArray.size]
theorem Ai1 (z:Int):IntKind.wrap .u8 z=z % 256:=by
 simp[IntKind.wrap,IntKind.bits,IntKind.signed]
theorem Aga (z:Int):IntKind.wrap .u64 z=z % 18446744073709551616:=by
 simp[IntKind.wrap,IntKind.bits,IntKind.signed]
theorem Aau {k:IntKind} (h0:0<=m) (h1:0<n) (hm:k.wrap (m / n)=m / n):k.wrap (m / n)=m / n:=hm
section
variable {g:Option (Nat×Bool)}
theorem Ak7 {k:IntKind} (hx:bL a x=.int k m) (hy:bL a y=.int k n) (h0:0<=m) (h1:0<n) (h2:k.wrap (m / n)=m / n):bY P ⟨d,.binOp .quo t x y yt,ty,pos,after,g⟩ a=some (.int k (m / n)):=by
 have:=Adm (P:=P) (d:=d) (t:=t) (yt:=yt) (ty:=ty) (pos:=pos) (after:=after) (g:=g) hx hy (by omega)
 rw[this,Int.tdiv_eq_ediv_of_nonneg h0,h2]
theorem Ajf {k:IntKind} (hx:bL a x=.int k m) (hy:bL a y=.int k n) (h0:0<=m) (h1:0<n):bY P ⟨d,.binOp .rem t x y yt,ty,pos,after,g⟩ a=some (.int k (m % n)):=by
 have:=Abk (P:=P) (d:=d) (t:=t) (yt:=yt) (ty:=ty) (pos:=pos) (after:=after) (g:=g) hx hy (by omega)
 rw[this,Int.tmod_eq_emod_of_nonneg h0]
theorem Aiv {k:IntKind} (hargs:Aqp.toList.map (bL a)= [.int k m,.int k' n]):bY P ⟨d,.call { callee:=.builtin .min,args:=Aqp,argTypes:=ts },ty,pos,after,g⟩ a=some (.int k (min m n)):=by
 rw[Aoj hargs]
 congr 2
 split <;> omega
theorem Alk {k:IntKind} (hargs:Aqp.toList.map (bL a)= [.int k m,.int k' n]):bY P ⟨d,.call { callee:=.builtin .max,args:=Aqp,argTypes:=ts },ty,pos,after,g⟩ a=some (.int k (max m n)):=by
 rw[Ane hargs]
 congr 2
 split <;> omega
theorem Aft (hs:(P.underlying t).isSome=true) (ht:Pg P t'=some .u8) (hx:bL a x=.int k' n):bY P ⟨d,.convert t t' x,ty,pos,after,g⟩ a=some (.int .u8 (n % 256)):=by
 have:=OF (P:=P) (d:=d) (ty:=ty) (pos:=pos) (after:=after) (g:=g) hs ht hx
 rw[Ai1] at this;exact this
theorem Acd (hs:(P.underlying t).isSome=true) (ht:Pg P t'=some .u64) (hx:bL a x=.int k' n):bY P ⟨d,.convert t t' x,ty,pos,after,g⟩ a=some (.int .u64 (n % 18446744073709551616)):=by
 have:=OF (P:=P) (d:=d) (ty:=ty) (pos:=pos) (after:=after) (g:=g) hs ht hx
 rw[Aga] at this;exact this
end
section
variable {g:Bool}
end
section
variable {g:Option (Nat×Bool)}
theorem aX (h:aN P ops Q es hist (lT a d' undef) C) (hw:bE ops ⟨some d',op,ty,pos,after,g⟩ a=false:=by exact rfl):aN P ops Q (ET.cons (c,gd,⟨some d',op,ty,pos,after,g⟩) es) hist a C:=Apf hw h
theorem aF (h:aN P ops Q es hist (lT a d' v) C) (hv:opV P op a=some v:=by exact rfl) (hw:bE ops ⟨some d',op,ty,pos,after,g⟩ a=true:=by exact rfl):aN P ops Q (ET.cons (c,false,⟨some d',op,ty,pos,after,g⟩) es) hist a C:=
 gT (Aek hv) hw (QA hv) (F3 rfl h)
theorem aI (h:cL gd v fun v=>aN P ops Q es hist (lT a d' v) C) (hv:opV P op a=some v:=by exact rfl) (hw:bE ops ⟨some d',op,ty,pos,after,g⟩ a=true:=by exact rfl):aN P ops Q (ET.cons (c,gd,⟨some d',op,ty,pos,after,g⟩) es) hist a C:=
 gT (Aek hv) hw (QA hv) h
theorem cK (h:cL gd (.int .i64 (m+n)) fun v=>aN P ops Q es hist (lT a d' v) C) (hx:bL a x=.int .i64 m:=by exact rfl) (hy:bL a y=.int .i64 n:=by exact rfl) (h0:-9223372036854775808<=m+n:=by first|omega|assumption) (h1:m+n<=9223372036854775807:=by first|omega|assumption) (hw:bE ops ⟨some d',.binOp .add t x y yt,ty,pos,after,g⟩ a=true:=by exact rfl):aN P ops Q (ET.cons (c,gd,⟨some d',.binOp .add t x y yt,ty,pos,after,g⟩) es) hist a C:=
 gT rfl hw (Abx hx hy h0 h1) h
theorem gQ (h:cL gd (.int .i64 (m - n)) fun v=>aN P ops Q es hist (lT a d' v) C) (hx:bL a x=.int .i64 m:=by exact rfl) (hy:bL a y=.int .i64 n:=by exact rfl) (h0:-9223372036854775808<=m - n:=by first|omega|assumption) (h1:m - n<=9223372036854775807:=by first|omega|assumption) (hw:bE ops ⟨some d',.binOp .sub t x y yt,ty,pos,after,g⟩ a=true:=by exact rfl):aN P ops Q (ET.cons (c,gd,⟨some d',.binOp .sub t x y yt,ty,pos,after,g⟩) es) hist a C:=
 gT rfl hw (Afj hx hy h0 h1) h
theorem zD (h:cL gd (.int .i64 (m * n)) fun v=>aN P ops Q es hist (lT a d' v) C) (hx:bL a x=.int .i64 m:=by exact rfl) (hy:bL a y=.int .i64 n:=by exact rfl) (h0:-9223372036854775808<=m * n:=by first|omega|assumption) (h1:m * n<=9223372036854775807:=by first|omega|assumption) (hw:bE ops ⟨some d',.binOp .mul t x y yt,ty,pos,after,g⟩ a=true:=by exact rfl):aN P ops Q (ET.cons (c,gd,⟨some d',.binOp .mul t x y yt,ty,pos,after,g⟩) es) hist a C:=
 gT rfl hw (Z8 hx hy h0 h1) h
theorem OX {k:IntKind} (h:cL gd (.int k (m / n)) fun v=>aN P ops Q es hist (lT a d' v) C) (hx:bL a x=.int k m:=by exact rfl) (hy:bL a y=.int k n:=by exact rfl) (h0:0<=m:=by first|omega|assumption) (h1:0<n:=by first|omega|assumption) (h2:k.wrap (m / n)=m / n:=by first|(refine vM ?_ ?_ <;> omega)|(refine Aau ?_ ?_ (by assumption) <;> omega)) (hw:bE ops ⟨some d',.binOp .quo t x y yt,ty,pos,after,g⟩ a=true:=by exact rfl):aN P ops Q (ET.cons (c,gd,⟨some d',.binOp .quo t x y yt,ty,pos,after,g⟩) es) hist a C:=
 gT rfl hw (Ak7 hx hy h0 h1 h2) h
theorem Bv {k:IntKind} (h:cL gd (.int k (m % n)) fun v=>aN P ops Q es hist (lT a d' v) C) (hx:bL a x=.int k m:=by exact rfl) (hy:bL a y=.int k n:=by exact rfl) (h0:0<=m:=by first|omega|assumption) (h1:0<n:=by first|omega|assumption) (hw:bE ops ⟨some d',.binOp .rem t x y yt,ty,pos,after,g⟩ a=true:=by exact rfl):aN P ops Q (ET.cons (c,gd,⟨some d',.binOp .rem t x y yt,ty,pos,after,g⟩) es) hist a C:=
 gT rfl hw (Ajf hx hy h0 h1) h
theorem mT (h:cL gd (v) fun v=>aN P ops Q es hist (lT a d' v) C) (hx:bL a x=.bool b:=by exact rfl) (hv:iW (.bool !b)=some v:=by exact rfl) (hw:bE ops ⟨some d',.unOp .not t x,ty,pos,after,g⟩ a=true:=by exact rfl):aN P ops Q (ET.cons (c,gd,⟨some d',.unOp .not t x,ty,pos,after,g⟩) es) hist a C:=
 gT rfl hw (UA hx hv) h
theorem f5 {m n:ByteArray} (h:cL gd (.string (m++n)) fun v=>aN P ops Q es hist (lT a d' v) C) (hx:bL a x=.string m:=by exact rfl) (hy:bL a y=.string n:=by exact rfl) (hs:m.size+n.size<=9223372036854775807:=by first|omega|(simp[xE] <;> omega)|decide) (hw:bE ops ⟨some d',.binOp .add t x y yt,ty,pos,after,g⟩ a=true:=by exact rfl):aN P ops Q (ET.cons (c,gd,⟨some d',.binOp .add t x y yt,ty,pos,after,g⟩) es) hist a C:=
 gT rfl hw (Amg hx hy hs) h
theorem dV {n cp:Nat} {k:IntKind} (h:cL gd (.pointer (some ⟨B,off+j.toNat * sz,none⟩)) fun v=>aN P ops Q es hist (lT a d' v) C) (hx:bL a x=.slice (some ⟨B,off,none⟩) n cp:=by exact rfl) (hy:bL a y=.int k j:=by exact rfl) (ht:uC P t=some sz:=by exact rfl) (h0:0<=j:=by first|omega|assumption) (h1:j<n:=by first|omega|assumption) (hw:bE ops ⟨some d',.indexAddr t x y,ty,pos,after,g⟩ a=true:=by exact rfl):aN P ops Q (ET.cons (c,gd,⟨some d',.indexAddr t x y,ty,pos,after,g⟩) es) hist a C:=
 gT rfl hw (Ia ht hx hy h0 h1) h
theorem cU {n:Nat} {k:IntKind} (h:cL gd (.pointer (some ⟨B,off+j.toNat * sz,none⟩)) fun v=>aN P ops Q es hist (lT a d' v) C) (hx:bL a x=.pointer (some ⟨B,off,none⟩):=by exact rfl) (hy:bL a y=.int k j:=by exact rfl) (ht:Amz P t=some (n,sz):=by exact rfl) (h0:0<=j:=by first|omega|assumption) (h1:j<n:=by first|omega|assumption) (hw:bE ops ⟨some d',.indexAddr t x y,ty,pos,after,g⟩ a=true:=by exact rfl):aN P ops Q (ET.cons (c,gd,⟨some d',.indexAddr t x y,ty,pos,after,g⟩) es) hist a C:=
 gT rfl hw (Zj ht hx hy h0 h1) h
theorem yY {k:IntKind} (h:cL gd (.string (s.extract j.toNat s.size)) fun v=>aN P ops Q es hist (lT a d' v) C) (hx:bL a x=.string s:=by exact rfl) (hy:bL a y=.int k j:=by exact rfl) (ht:pS P t=true:=by exact rfl) (h0:0<=j:=by first|omega|assumption) (h1:j<=s.size:=by first|omega|assumption) (hw:bE ops ⟨some d',.slice t x (some y) none none,ty,pos,after,g⟩ a=true:=by exact rfl):aN P ops Q (ET.cons (c,gd,⟨some d',.slice t x (some y) none none,ty,pos,after,g⟩) es) hist a C:=
 gT rfl hw (J0 ht hx hy h0 h1) h
theorem yK {k:IntKind} (h:cL gd (.string (s.extract 0 j.toNat)) fun v=>aN P ops Q es hist (lT a d' v) C) (hx:bL a x=.string s:=by exact rfl) (hy:bL a y=.int k j:=by exact rfl) (ht:pS P t=true:=by exact rfl) (h0:0<=j:=by first|omega|assumption) (h1:j<=s.size:=by first|omega|assumption) (hw:bE ops ⟨some d',.slice t x none (some y) none,ty,pos,after,g⟩ a=true:=by exact rfl):aN P ops Q (ET.cons (c,gd,⟨some d',.slice t x none (some y) none,ty,pos,after,g⟩) es) hist a C:=
 gT rfl hw (H7 ht hx hy h0 h1) h
theorem yT {k:IntKind} (h:cL gd (.string (s.extract j.toNat m.toNat)) fun v=>aN P ops Q es hist (lT a d' v) C) (hx:bL a x=.string s:=by exact rfl) (hy:bL a y=.int k j:=by exact rfl) (hz:bL a z=.int k' m:=by exact rfl) (ht:pS P t=true:=by exact rfl) (h0:0<=j:=by first|omega|assumption) (h1:j<=m:=by first|omega|assumption) (h2:m<=s.size:=by first|omega|assumption) (hw:bE ops ⟨some d',.slice t x (some y) (some z) none,ty,pos,after,g⟩ a=true:=by exact rfl):aN P ops Q (ET.cons (c,gd,⟨some d',.slice t x (some y) (some z) none,ty,pos,after,g⟩) es) hist a C:=
 gT rfl hw (Qk ht hx hy hz h0 h1 h2) h
theorem dY {vs:List (Nat×Value)} (h:cL gd (v) fun v=>aN P ops Q es hist (lT a d' v) C) (hps:Do a ps.toList=some vs:=by exact rfl) (hv:OB P t vs=some v:=by exact rfl) (hw:bE ops ⟨some d',.build t ps,ty,pos,after,g⟩ a=true:=by exact rfl):aN P ops Q (ET.cons (c,gd,⟨some d',.build t ps,ty,pos,after,g⟩) es) hist a C:=
 gT rfl hw (Afo hps hv) h
theorem Al {k:IntKind} (h:cL gd (.int k (min m n)) fun v=>aN P ops Q es hist (lT a d' v) C) (hargs:Aqp.toList.map (bL a)= [.int k m,.int k' n]:=by exact rfl) (hw:bE ops ⟨some d',.call { callee:=.builtin .min,args:=Aqp,argTypes:=ts },ty,pos,after,g⟩ a=true:=by exact rfl):aN P ops Q (ET.cons (c,gd,⟨some d',.call { callee:=.builtin .min,args:=Aqp,argTypes:=ts },ty,pos,after,g⟩) es) hist a C:=
 gT rfl hw (Aiv hargs) h
theorem AP {k:IntKind} (h:cL gd (.int k (max m n)) fun v=>aN P ops Q es hist (lT a d' v) C) (hargs:Aqp.toList.map (bL a)= [.int k m,.int k' n]:=by exact rfl) (hw:bE ops ⟨some d',.call { callee:=.builtin .max,args:=Aqp,argTypes:=ts },ty,pos,after,g⟩ a=true:=by exact rfl):aN P ops Q (ET.cons (c,gd,⟨some d',.call { callee:=.builtin .max,args:=Aqp,argTypes:=ts },ty,pos,after,g⟩) es) hist a C:=
 gT rfl hw (Alk hargs) h
theorem aV (h:cL gd (.bool b) fun v=>aN P ops Q es hist (lT a d' v) C) (hx:bL a x=.agg xs:=by exact rfl) (hy:bL a y=.agg ys:=by exact rfl) (hg:(!P.eqGuardType P.depth t && C9 P 20 t)=true:=by decide +kernel) (he:eqV P 20 t (.agg xs) (.agg ys)=some b:=by exact rfl) (hw:bE ops ⟨some d',.binOp .eql t x y yt,ty,pos,after,g⟩ a=true:=by exact rfl):aN P ops Q (ET.cons (c,gd,⟨some d',.binOp .eql t x y yt,ty,pos,after,g⟩) es) hist a C:=
 gT rfl hw (Sx hx hy hg he) h
theorem cB (h:cL gd (.bool (!b)) fun v=>aN P ops Q es hist (lT a d' v) C) (hx:bL a x=.agg xs:=by exact rfl) (hy:bL a y=.agg ys:=by exact rfl) (hg:(!P.eqGuardType P.depth t && C9 P 20 t)=true:=by decide +kernel) (he:eqV P 20 t (.agg xs) (.agg ys)=some b:=by exact rfl) (hw:bE ops ⟨some d',.binOp .neq t x y yt,ty,pos,after,g⟩ a=true:=by exact rfl):aN P ops Q (ET.cons (c,gd,⟨some d',.binOp .neq t x y yt,ty,pos,after,g⟩) es) hist a C:=
 gT rfl hw (S2 hx hy hg he) h
theorem Mq {yk:IntKind} (h:cL gd (.int .i64 (u * 256)) fun v=>aN P ops Q es hist (lT a d' v) C) (hx:bL a x=.int .i64 u:=by exact rfl) (hy:bL a y=.int yk 8:=by exact rfl) (h0:0<=u:=by first|omega|assumption) (h1:u<18014398509481984:=by first|omega|assumption) (hw:bE ops ⟨some d',.binOp .shl t x y yt,ty,pos,after,g⟩ a=true:=by exact rfl):aN P ops Q (ET.cons (c,gd,⟨some d',.binOp .shl t x y yt,ty,pos,after,g⟩) es) hist a C:=
 gT rfl hw (Aj1 hx hy h0 h1) h
theorem Aer {b:Int} (h:cL gd (.int .i64 (u * 256+b)) fun v=>aN P ops Q es hist (lT a d' v) C) (hx:bL a x=.int .i64 (u * 256):=by exact rfl) (hy:bL a y=.int .i64 b:=by exact rfl) (h0:0<=u:=by first|omega|assumption) (h1:u<18014398509481984:=by first|omega|assumption) (h2:0<=b:=by first|omega|assumption) (h3:b<256:=by first|omega|assumption) (hw:bE ops ⟨some d',.binOp .or t x y yt,ty,pos,after,g⟩ a=true:=by exact rfl):aN P ops Q (ET.cons (c,gd,⟨some d',.binOp .or t x y yt,ty,pos,after,g⟩) es) hist a C:=
 gT rfl hw (Anx hx hy h0 h1 h2 h3) h
theorem l6 (h:cL gd (.int .i64 n) fun v=>aN P ops Q es hist (lT a d' v) C) (hx:bL a x=.int k' n:=by exact rfl) (ht:Pg P t'=some .i64:=by exact rfl) (hs:(P.underlying t).isSome=true:=by exact rfl) (h0:-9223372036854775808<=n:=by first|omega|assumption) (h1:n<=9223372036854775807:=by first|omega|assumption) (hk:kd P (.convert t t' x)=.pure:=by exact rfl) (hw:bE ops ⟨some d',.convert t t' x,ty,pos,after,g⟩ a=true:=by exact rfl):aN P ops Q (ET.cons (c,gd,⟨some d',.convert t t' x,ty,pos,after,g⟩) es) hist a C:=
 gT hk hw (Zp hs ht hx h0 h1) h
theorem qY (h:cL gd (.int .u8 (n % 256)) fun v=>aN P ops Q es hist (lT a d' v) C) (hx:bL a x=.int k' n:=by exact rfl) (ht:Pg P t'=some .u8:=by exact rfl) (hs:(P.underlying t).isSome=true:=by exact rfl) (hk:kd P (.convert t t' x)=.pure:=by exact rfl) (hw:bE ops ⟨some d',.convert t t' x,ty,pos,after,g⟩ a=true:=by exact rfl):aN P ops Q (ET.cons (c,gd,⟨some d',.convert t t' x,ty,pos,after,g⟩) es) hist a C:=
 gT hk hw (Aft hs ht hx) h
theorem oZ (h:cL gd (.int .u64 (n % 18446744073709551616)) fun v=>aN P ops Q es hist (lT a d' v) C) (hx:bL a x=.int k' n:=by exact rfl) (ht:Pg P t'=some .u64:=by exact rfl) (hs:(P.underlying t).isSome=true:=by exact rfl) (hk:kd P (.convert t t' x)=.pure:=by exact rfl) (hw:bE ops ⟨some d',.convert t t' x,ty,pos,after,g⟩ a=true:=by exact rfl):aN P ops Q (ET.cons (c,gd,⟨some d',.convert t t' x,ty,pos,after,g⟩) es) hist a C:=
 gT hk hw (Acd hs ht hx) h
theorem Ads (hb:ZM C B cs) (hx:bL a x=.pointer (some ⟨B,off,none⟩)) (hv:Sj P t cs off=some v):RdC P ⟨d,.load t x,ty,pos,after,g⟩ a C v:=fun H hs=>by
 obtain⟨e,rw,hB⟩:=hb H hs
 exact Wc (by rw[hx];exact N5 hB hv)
def Apr (P:Program) (t:TypeId) (B off:Nat) (v:Value) (C:List HP):Prop:=∃cs,ZM C B cs/\Sj P t cs off=some v
theorem Ap3 (hb:ZM C B cs:=by((repeat (first|exact t6|exact has_ro|apply vB)) <;> exact t6)) (hv:Sj P t cs off=some v:=by exact rfl):Apr P t B off v C:=⟨cs,hb,hv⟩
theorem F6:BF p []:=trivial
theorem NW {l:List (List HP)} (h:p C) (hl:BF p l):BF p (C::l):=⟨h,hl⟩
theorem L8 {p q:List HP->Prop} (hpq:∀C,p C->q C):∀ {l:List (List HP)},BF p l->BF q l
 | [],_=>trivial
 |_::_,h=>⟨hpq _ h.1,L8 hpq h.2⟩
theorem bG (h:cL gd v fun v=>aN P ops Q es hist (lT a d' v) C) (hx:bL a x=.pointer (some ⟨B,off,none⟩):=by exact rfl)
  (hb:ZM C B cs:=by((repeat (first|exact t6|exact has_ro|apply vB)) <;> exact t6)) (hv:Sj P t cs off=some v:=by exact rfl)
  (hh:BF (Apr P t B off v) (hist.take c):=by((repeat (first|exact F6|refine NW Ap3 ?_)) <;> exact F6))
  (hw:bE ops ⟨some d',.load t x,ty,pos,after,g⟩ a=true:=by exact rfl):aN P ops Q (ET.cons (c,gd,⟨some d',.load t x,ty,pos,after,g⟩) es) hist a C:=
 Vt rfl hw (Ads hb hx hv) (L8 (fun _ ⟨_,k1,k2⟩=>Ads k1 hx k2) hh) h
theorem pC (hs:bZ (pt B cs e::C) H):H B=some (.cells cs e true)/\∀b:uE,(∃cs',b=.cells cs' e true)->bZ C (hupd H B b):=by
 obtain⟨H1,H2,hc,h1,h2,ha,hs⟩:=hs
 obtain⟨b,hb,l⟩:=h1 B _ ha
 have:=uE.le_own l rfl
 subst this
 refine⟨hb,fun b _=>hs.mono fun r x hx=>?_⟩
 have hne:r≠B:=fun e=>by subst e;have:=(hc r _ x ha hx).1;cases this
 rw[kH _ _ hne]
 exact h2 r x hx
theorem tO {r:Nat} (hr:H r=none) (hs:bZ C H):bZ (pt r cs e::C) (hupd H r (.cells cs e true)):=
 ⟨nR r (.cells cs e true),H,(fun B b x hb hx=>by rw[(D5 hb).1,hr] at hx;cases hx),EA (lA _ _ _) (uE.le_refl _),
  (fun B b hb=>⟨b,by rw[kH _ _ (fun e=>by subst e;rw[hr] at hb;cases hb)];exact hb,b.le_refl⟩),yU _ _,hs⟩
theorem tK (hs:bZ (pt B cs e::C) H):bZ (pt B cs' e::C) (hupd H B (.cells cs' e true)):=by
 obtain⟨H1,H2,hc,h1,h2,ha,hs⟩:=hs
 have hn:H2 B=none:=by
  cases hx:H2 B with
  |none=>rfl
  |some x=>have:=(hc B _ x ha hx).1;cases this
 refine⟨nR B (.cells cs' e true),H2,(fun r b x hb hx=>by rw[(D5 hb).1,hn] at hx;cases hx),EA (lA _ _ _) (uE.le_refl _),fun r b hb=>?_,yU _ _,hs⟩
 rw[kH _ _ (fun e=>by subst e;rw[hn] at hb;cases hb)]
 exact h2 r b hb
theorem G_o (h:By P ⟨some d',op,ty,pos,after,g⟩ a C fun v C'=>cL gd v fun v=>aN P ops Q es (C::hist) (lT a d' v) C') (hk:kd P op=.other:=by exact rfl) (hw:bE ops ⟨some d',op,ty,pos,after,g⟩ a=true:=by exact rfl):
  aN P ops Q (ET.cons (c,gd,⟨some d',op,ty,pos,after,g⟩) es) hist a C:=x9 hk hw h
theorem Agq (h:By P ⟨none,op,ty,pos,after,g⟩ a C fun _ C'=>aN P ops Q es (C::hist) a C') (hk:kd P op=.other:=by exact rfl) (hw:bE ops ⟨none,op,ty,pos,after,g⟩ a=true:=by exact rfl):
  aN P ops Q (ET.cons (c,gd,⟨none,op,ty,pos,after,g⟩) es) hist a C:=x9 hk hw fun H hs=>pY (fun _ _ ⟨C',h1,h2⟩=>⟨C',h1,(cM _ _ _).2 h2⟩) (h H hs)
theorem bU {n:Nat} {u:Value} {R:List HP} (h:aN P ops Q es (C::hist) a (pt B cs' e::R)) (hx:bL a x=.pointer (some ⟨B,off,none⟩):=by exact rfl)
  (hp:aW (pt B cs e) C R:=by((repeat (first|exact aW.here|apply aW.there)) <;> exact aW.here)) (hy:iW (bL a y)=some u:=by exact rfl) (hvs:oT u.cells.toList=some vs:=by exact rfl) (ht:qJ P t=some n:=by exact rfl)
  (hn:(vs.length == n)=true:=by exact rfl) (nR:(vs.all Value.oneCell')=true:=by exact rfl) (hle:Nat.ble (off+n) cs.length=true:=by exact rfl) (hs:oT (vQ cs off vs)=some cs':=by exact rfl)
  (hw:bE ops ⟨none,.store t x y,ty,pos,after,g⟩ a=true:=by exact rfl):aN P ops Q (ET.cons (c,gd,⟨none,.store t x y,ty,pos,after,g⟩) es) hist a C:=
 Agq (hw:=hw) fun H hH=>by
  have h1:=hp.sats hH
  exact UU hx hy hvs ht hn nR (pC h1).1 hle hs ⟨_,tK h1,h⟩
theorem fB {zs zs':List Value} (h:∀r,cL gd (.pointer (some ⟨r,0,none⟩)) fun v=>aN P ops Q es (C::hist) (lT a d' v) (pt r zs' t::C)) (hz:Bp P t=some zs:=by exact rfl) (hc:oT zs=some zs':=by exact rfl)
  (hw:bE ops ⟨some d',.alloc t,ty,pos,after,g⟩ a=true:=by exact rfl):aN P ops Q (ET.cons (c,gd,⟨some d',.alloc t,ty,pos,after,g⟩) es) hist a C:=
 x9 rfl hw fun H hH=>SC hz hc fun r hr=>⟨_,tO hr hH,h r⟩
theorem fN {u:Value} (h:∀r,cL gd (.pointer (some ⟨r,0,none⟩)) fun v=>aN P ops Q es (C::hist) (lT a d' v) (pt r vs t::C)) (hx:iW (bL a x)=some u:=by exact rfl) (hvs:oT u.cells.toList=some vs:=by exact rfl)
  (hw:bE ops ⟨some d',.box t x,ty,pos,after,g⟩ a=true:=by exact rfl):aN P ops Q (ET.cons (c,gd,⟨some d',.box t x,ty,pos,after,g⟩) es) hist a C:=
 x9 rfl hw fun H hH=>Aey hx hvs fun r hr=>⟨_,tO hr hH,h r⟩
theorem eD {n:Nat} {vs:List (Nat×Value)} (h:∀r,cL gd (.slice (some ⟨r,0,none⟩) n n) fun v=>aN P ops Q es (C::hist) (lT a d' v) (pt r cs e::C))
  (hps:Do a ps.toList=some vs:=by exact rfl) (he:EL P t=some e:=by exact rfl) (hc:Mk P t n vs=some cs:=by exact rfl)
  (hw:bE ops ⟨some d',.buildSlice t n ps,ty,pos,after,g⟩ a=true:=by exact rfl):aN P ops Q (ET.cons (c,gd,⟨some d',.buildSlice t n ps,ty,pos,after,g⟩) es) hist a C:=
 x9 rfl hw fun H hH=>Ks hps he hc fun r hr=>⟨_,tO hr hH,h r⟩
theorem bP (h:aA P f vs.toArray C fun v C'=>cL gd v fun v=>aN P ops Q es (C::hist) (lT a d' v) C') (hargs:vO a Aqp.toList=some vs:=by exact rfl)
  (hw:bE ops ⟨some d',.call { callee:=.value (.func f),args:=Aqp,argTypes:=ts },ty,pos,after,g⟩ a=true:=by exact rfl):
  aN P ops Q (ET.cons (c,gd,⟨some d',.call { callee:=.value (.func f),args:=Aqp,argTypes:=ts },ty,pos,after,g⟩) es) hist a C:=
 x9 rfl hw fun H hH=>Ah1 hargs (h H hH)
theorem iQ {fs cs:Array Value} {ws:List Value} (h:aA P f ws.toArray C fun v C'=>cL gd v fun v=>aN P ops Q es (C::hist) (lT a d' v) C') (hx:bL a x=.func (.func f) fs cs:=by exact rfl) (hargs:vO a Aqp.toList=some vs:=by exact rfl)
  (hws:oT (fs.toList++vs++cs.toList)=some ws:=by exact rfl) (hw:bE ops ⟨some d',.call { callee:=.value x,args:=Aqp,argTypes:=ts },ty,pos,after,g⟩ a=true:=by exact rfl):
  aN P ops Q (ET.cons (c,gd,⟨some d',.call { callee:=.value x,args:=Aqp,argTypes:=ts },ty,pos,after,g⟩) es) hist a C:=
 x9 rfl hw fun H hH=>O8 hx hargs (by have e:=l5 hws;have e2:(fs++vs.toArray++cs)=ws.toArray:=by apply Array.ext';simp[← e]
                                     rw[e2];exact h H hH)
end
end Go.Sl
namespace Go.Sl
variable {P:Program} {H:Hp} {st xt ty e t yt:TypeId} {A:Option Addr} {n m c B off j k cp bytes c0:Nat} {α:Type} {cs:List Value} {C R C':List HP} {v u:Value} {ops:Array Oper} {Q:Fr->List HP->Prop} {a:Fr} {gd:Bool} {es:ET} {hist:List (List HP)} {d':Tmp} {d:Option Tmp} {pos:String} {after:Array Edge} {g:Option (Nat×Bool)} {x y z:Operand} {op:Op}
theorem Ib {inf:TypeInfo} {z x:Value} {xs news:List Value} {q:Value->Hp->Prop} (hst:P.underlying st=some (.slice e)) (hxt:BS P xt=true) (hi:P.info? e=some inf) (hz:inf.zero=some z)
  (hzs:z.cells.size=inf.size) (hlen:(Builtin.lenOf x).pr P=some m) (hnews:(Builtin.firstCells inf.size m x).rd P H=some news.toArray) (hnl:news.length=m * inf.size) (nR:(news.all Value.oneCell')=true) (hxl:xs.length=n * inf.size)
  (hrow:(A=none/\n=0/\c=0)\/∃B pre post e' rw,A=some ⟨B,pre.length,none⟩/\H B=some (.cells (pre++xs++post) e' rw)/\n<=c/\(c - n) * inf.size<=post.length/\(m=0\/rw=true\/c<n+m))
  (hbig:(2 * (n+m)+512) * inf.bytes<=281474976710656) (hby:inf.bytes≠0)
  (h0:m=0->q (.slice A n c) H)
  (h1:∀B pre post e',A=some ⟨B,pre.length,none⟩->H B=some (.cells (pre++xs++post) e' true)->n+m<=c->(c - n) * inf.size<=post.length->q (.slice A (n+m) c) (hupd H B (.cells (pre++(xs++news)++post.drop news.length) e' true)))
  (hk:∀r post N,H r=none->n+m<=N->post.length=(N - (n+m)) * inf.size->c<n+m->q (.slice (some ⟨r,0,none⟩) (n+m) N) (hupd H r (.cells (xs++news++post) e true))):
  (Builtin.append_ #[st,xt] ty #[.slice A n c,x]).ev P H q:=by
 obtain⟨D,hD,hDn⟩:=E8 hxt
 unfold Builtin.append_
 simp only[List.getElem?_toArray,List.getElem?_cons_zero,List.getElem?_cons_succ]
 rw[aJ,aP (aK hst)]
 simp only
 rw[aJ,aP (fV hi)]
 rw[aJ,aP (aK hD),pure_bind]
 simp only[Bool.false_eq_true,if_false,Bool.not_false,if_true,false_or]
 rw[aJ,aP hlen]
 by_cases hle:n+m<=c
 ·rw[if_pos hle,aJ]
  refine tQ hnews ?_
  rcases hrow with⟨g1,g2,g3⟩|⟨B,pre,post,e',rw,g1,hb,hnc,hpl,hrw⟩
  ·subst g1 g2 g3
   have hm0:m=0:=by omega
   subst hm0
   exact h0 rfl
  ·subst g1
   simp only
   rw[aJ,oV]
   by_cases hm0:m=0
   ·subst hm0
    have:news= []:=by simpa using hnl
    subst this
    exact h0 rfl
   ·have hrt:rw=true:=by
     rcases hrw with h|h|h
     ·exact absurd h hm0
     ·exact h
     ·omega
    subst hrt
    have hml:m * inf.size<=post.length:=Nat.le_trans (Nat.mul_le_mul_right _ (by omega)) hpl
    refine oF news 0 _ _ H _ hb (by simp[hxl,hnl];omega) nR ?_
    have hset:nO (pre++xs++post) (pre.length+n * inf.size+0) news=pre++(xs++news)++post.drop news.length:=by
     have:=FR news (pre++xs) post (by rw[hnl];exact hml)
     rw[List.length_append,hxl] at this
     rw[Nat.add_zero,this]
     simp
    rw[hset]
    exact h1 B pre post e' rfl hb hle hpl
 ·rw[if_neg hle]
  have hmax:IntKind.i64.max=9223372036854775807:=by decide
  have hpos:0<inf.bytes:=Nat.pos_of_ne_zero hby
  have hcap:c<n+m:=by omega
  have hnc:=I2 hcap
  have hle2:Builtin.nextslicecap (n+m) c * inf.bytes<=281474976710656:=Nat.le_trans (Nat.mul_le_mul_right _ hnc) hbig
  rw[aJ,aP (d7 hi),if_neg (by simp[hby])]
  rw[aJ,aP (d7 hi)]
  rw[if_neg (by have:(2:Nat) ^ 48=281474976710656:=by decide
                omega)]
  simp only[aJ]
  simp only[choose,Sem.ev]
  rw[if_neg (by simp[Question.forced])]
  intro t
  simp only[Question.cut]
  generalize hN:n+m+t % (2 ^ 63 - (n+m))=N
  have hNle:n+m<=N:=by omega
  rw[aP (d7 hi)]
  refine Da ?_
  have hold:(Builtin.firstCells inf.size n (.slice A n c)).rd P H=some xs.toArray:=by
   rcases hrow with⟨g1,g2,g3⟩|⟨B,pre,post,e',rw,g1,hb,hnc,hpl,hrw⟩
   ·subst g1 g2 g3
    have:xs= []:=by simpa using hxl
    subst this
    rfl
   ·subst g1
    rw[oP hb (by simp[hxl])]
    congr 1
    have:(pre++xs++post).drop pre.length=xs++post:=by simp
    rw[this,<- hxl]
    simp
  refine tQ hold ?_
  refine tQ hnews ?_
  rw[aP (show(zeroValue e).pr P=some z from by simp only[zeroValue,aT,d7 hi,Option.bind_some,hz];rfl)]
  simp only[newRow,aJ]
  intro r hr
  refine⟨rfl,?_⟩
  have hcells:(xs.toArray++news.toArray++Builtin.zeroCells z.cells (N - (n+m))).toList=xs++news++(Builtin.zeroCells z.cells (N - (n+m))).toList:=by simp
  have:=hk r (Builtin.zeroCells z.cells (N - (n+m))).toList N hr hNle (by simp[Builtin.zeroCells,hzs]) hcap
  rw[<- hcells] at this
  exact this
theorem KM {sz b:Nat} (h:QF P st xt=some (e,sz,b)):∃inf z,P.underlying st=some (.slice e)/\BS P xt=true/\P.info? e=some inf/\inf.zero=some z/\z.cells.size=inf.size/\inf.bytes≠0/\inf.size=sz/\inf.bytes=b:=by
 have ht:=ZG h
 unfold Pk at ht
 split at ht
 ·rename_i e' hst
  split at ht
  ·rename_i inf hi
   split at ht
   ·rename_i z hz
    split at ht
    ·rename_i hc
     cases ht
     exact⟨inf,z,hst,hc.2.2,hi,hz,hc.1,hc.2.1,rfl,rfl⟩
    ·cases ht
   ·cases ht
  ·cases ht
 ·cases ht
structure u6 (α:Type) where
 enc:α->List Value
 sz:Nat
 dec:List Value->Option α
 len:∀x,(enc x).length=sz
 one:∀x,((enc x).all Value.oneCell')=true
 ok:∀cs y,dec cs=some y->enc y=cs
section
theorem u6.flat_len (E:u6 α):∀l:List α,(l.flatMap E.enc).length=l.length * E.sz
 | []=>by simp
 |x::l=>by rw[List.flatMap_cons,List.length_append,E.len x,E.flat_len l,List.length_cons,Nat.add_mul,Nat.one_mul,Nat.add_comm]
theorem u6.flat_one (E:u6 α) (l:List α):((l.flatMap E.enc).all Value.oneCell')=true:=by
 rw[List.all_flatMap]
 exact List.all_eq_true.2 fun x _=>E.one x
def bT (A:Option Addr) (c:Nat) (e:TypeId) (E:u6 α) (xs:List α):HP:=fun H=>
 (A=none/\xs= []/\c=0)\/∃B pre post,A=some ⟨B,pre.length,none⟩/\H B=some (.cells (pre++xs.flatMap E.enc++post) e true)/\xs.length<=c/\(c - xs.length) * E.sz<=post.length
def rF (A:Option Addr) (E:u6 α) (xs:List α):HP:=fun H=>
 xs= []\/∃B pre post e rw,A=some ⟨B,pre.length,none⟩/\H B=some (.cells (pre++xs.flatMap E.enc++post) e rw)
def dW (C:List HP) (A:Option Addr) (E:u6 α) (xs:List α):Prop:=∀H,bZ C H->
 xs= []\/∃B pre post e rw,A=some ⟨B,pre.length,none⟩/\H B=some (.cells (pre++xs.flatMap E.enc++post) e rw)
theorem Ao5 (cs:List Value) (e:TypeId) (rw:Bool):(uE.cells cs e false).le (.cells cs e rw):=by
 cases rw
 ·exact .inl rfl
 ·exact .inr ⟨cs,e,rfl,rfl⟩
def Bb (A:HP):Prop:=∀H H',A H->Cx H H'->A H'
theorem QS {H':Hp} {rw:Bool} (h:H B=some (.cells cs e rw)) (hl:Cx H H'):∃rw',H' B=some (.cells cs e rw'):=by
 obtain⟨b,hb,l⟩:=hl B _ h
 rcases l with rfl|⟨cs',e',g1,rfl⟩
 ·exact⟨rw,hb⟩
 ·cases g1;exact⟨true,hb⟩
theorem ZE (A:Option Addr) (E:u6 α) (xs:List α):Bb (rF A E xs):=fun H H' h hl=>by
 rcases h with h|⟨B,pre,post,e,rw,h1,h2⟩
 ·exact .inl h
 ·obtain⟨rw',h3⟩:=QS h2 hl
  exact .inr ⟨B,pre,post,e,rw',h1,h3⟩
theorem pZ (A:Option Addr) (E:u6 α) (xs:List α):FZ (rF A E xs):=fun H h2=>by
 rcases h2 with h3|⟨B,pre,post,e,rw,h2,h3⟩
 ·exact⟨fun _=>none,(fun _ _ h=>by cases h),.inl h3,(fun _ _ h=>by cases h)⟩
 ·exact⟨nR B (.cells (pre++xs.flatMap E.enc++post) e false),EA h3 (Ao5 _ _ _),.inr ⟨B,pre,post,e,false,h2,yU _ _⟩,fun r b hb=>by rw[(D5 hb).2];rfl⟩
def Aqe (A B:HP):HP:=fun H=>A H/\B H
theorem Abq {A B:HP} (pa:FZ A) (pb:FZ B) (ma:Bb A) (mb:Bb B) (h:bZ (A::B::C) H):bZ (Aqe A B::C) H:=by
 obtain⟨H1,H2,hc,h1,h2,ha,G1,G2,kc,k1,k2,kb,ks⟩:=h
 obtain⟨X,x1,x2,x3⟩:=pa H1 ha
 obtain⟨Y,y1,y2,y3⟩:=pb G1 kb
 have hxy:uT X Y:=fun r b c hb hc=>⟨x3 r b hb,y3 r c hc⟩
 have hx:Cx X H:=x1.trans h1
 have hy:Cx Y H:=y1.trans (k1.trans h2)
 refine⟨uM X Y,G2,uT.join (hc.le x1 |>.le2 k2) (kc.le y1),y4 hx hy,k2.trans h2,⟨ma _ _ x2 (sJ _ _),mb _ _ y2 (pV hxy hx hy)⟩,ks⟩
variable {E:u6 α} {xs:List α}
theorem fT:dW (bT A c e E xs::C) A E xs:=fun H ⟨H1,H2,_,k1,_,h2,_⟩=>by
 rcases h2 with⟨h2,h3,_⟩|⟨B,pre,post,h2,h3,_⟩
 ·exact .inl h3
 ·obtain⟨b,hb,l⟩:=k1 B _ h3
  have:=uE.le_own l rfl
  subst this
  exact .inr ⟨B,pre,post,e,true,h2,hb⟩
theorem lH:dW (rF A E xs::C) A E xs:=fun H ⟨H1,H2,_,k1,_,h2,_⟩=>by
 rcases h2 with h3|⟨B,pre,post,e,rw,h2,h3⟩
 ·exact .inl h3
 ·obtain⟨rw',hb⟩:=QS h3 k1
  exact .inr ⟨B,pre,post,e,rw',h2,hb⟩
theorem bN {X:HP} (h:dW C A E xs):dW (X::C) A E xs:=fun H hs=>h H hs.tail
theorem eM:dW C A E ([]:List α):=fun _ _=>.inl rfl
theorem Acf (he:aG C C') (h:dW C' A E xs):dW C A E xs:=fun H hs=>h H (he H hs)
theorem D3 {lo:Nat} {A':Option Addr} (h:dW C (some ⟨B,off,none⟩) E xs) (k:Nat) (hlo:lo<=xs.length) (hA:A'=some ⟨B,off+lo * E.sz,none⟩):dW C A' E ((xs.drop lo).take k):=fun H hs=>by
 rcases h H hs with h2|⟨B',pre,post,e,rw,h2,h3⟩
 ·subst h2;exact .inl (by simp)
 ·cases h2
  refine .inr ⟨B,pre++(xs.take lo).flatMap E.enc,((xs.drop lo).drop k).flatMap E.enc++post,e,rw,?_,?_⟩
  ·rw[hA,List.length_append,E.flat_len,List.length_take,Nat.min_eq_left hlo]
  ·rw[h3]
   have e1:xs=xs.take lo++((xs.drop lo).take k++(xs.drop lo).drop k):=by rw[List.take_append_drop,List.take_append_drop]
   have e2:xs.flatMap E.enc=(xs.take lo).flatMap E.enc++(((xs.drop lo).take k).flatMap E.enc++((xs.drop lo).drop k).flatMap E.enc):=by
    rw[<- List.flatMap_append,<- List.flatMap_append,<- e1]
   rw[e2]
   simp only[List.append_assoc]
def Ajb (E:u6 α):Nat->List Value->Option (List α)
 |_,[]=>some []
 |0,_::_=>none
 |n+1,v::cs=>match E.dec ((v::cs).take E.sz) with
  |some x=>match Ajb E n ((v::cs).drop E.sz) with
   |some xs=>some (x::xs)
   |none=>none
  |none=>none
theorem K9 (E:u6 α):∀(n:Nat) (cs:List Value) (xs:List α),Ajb E n cs=some xs->xs.flatMap E.enc=cs
 |0,[],xs,h=>by cases h;rfl
 |n+1,[],xs,h=>by cases h;rfl
 |0,_::_,xs,h=>by cases h
 |n+1,v::cs,xs,h=>by
  simp only[Ajb] at h
  split at h
  ·rename_i x hx
   split at h
   ·rename_i ys hy
    cases h
    have h1:=K9 E n _ _ hy
    have h3:=E.ok _ _ hx
    rw[List.flatMap_cons,h1,h3,List.take_append_drop]
   ·cases h
  ·cases h
theorem wT (hd:Ajb E cs.length cs=some xs:=by exact rfl):dW (pt B cs e::C) (some ⟨B,0,none⟩) E xs:=fun H ⟨H1,H2,_,k1,_,h3,_⟩=>by
 obtain⟨b,hb,l⟩:=k1 B _ h3
 have:=uE.le_own l rfl
 subst this
 exact .inr ⟨B,[],[],e,true,rfl,by rw[K9 E _ cs xs hd,List.nil_append,List.append_nil];exact hb⟩
theorem Yq {x:α} (h:dW C (some ⟨B,off,none⟩) E xs) (hs:bZ C H) (hx:xs[j]?=some x):∃cs e rw,H B=some (.cells cs e rw)/\off+j * E.sz+E.sz<=cs.length/\(cs.drop (off+j * E.sz)).take E.sz=E.enc x:=by
 rcases h H hs with h2|⟨B',pre,post,e,rw,h2,h3⟩
 ·subst h2;simp at hx
 ·cases h2
  have hj:j<xs.length:=by
   rcases Nat.lt_or_ge j xs.length with h|h
   ·exact h
   ·rw[List.getElem?_eq_none h] at hx;cases hx
  have hx':xs[j]=x:=by rw[List.getElem?_eq_getElem hj] at hx;exact Option.some.inj hx
  have e1:xs=xs.take j++x::xs.drop (j+1):=by
   conv=>lhs;rw[<- List.take_append_drop j xs,List.drop_eq_getElem_cons hj,hx']
  have e2:xs.flatMap E.enc=(xs.take j).flatMap E.enc++(E.enc x++(xs.drop (j+1)).flatMap E.enc):=by
   conv=>lhs;rw[e1]
   simp
  have l1:((xs.take j).flatMap E.enc).length=j * E.sz:=by rw[E.flat_len,List.length_take,Nat.min_eq_left (by omega)]
  refine⟨_,e,rw,h3,?_,?_⟩
  ·simp only[List.length_append,E.flat_len]
   have:=Nat.mul_le_mul_right E.sz hj
   rw[Nat.succ_mul] at this
   omega
  ·rw[e2]
   have:pre++((xs.take j).flatMap E.enc++(E.enc x++(xs.drop (j+1)).flatMap E.enc))++post=(pre++(xs.take j).flatMap E.enc)++(E.enc x++((xs.drop (j+1)).flatMap E.enc++post)):=by simp[List.append_assoc]
   rw[this,List.drop_left' (by rw[List.length_append,l1]),List.take_left' (E.len x)]
end
theorem Aoq {ys:List Value} {o:Nat} (hy:(cs.drop o).take ys.length=ys) (hl:o+ys.length<=cs.length) (h:Sj P t ys k=some v):Sj P t cs (o+k)=some v:=by
 unfold Sj at h ⊢
 split at h
 ·split at h
  ·rename_i i _
   split at h
   ·rename_i hle
    rw[if_pos (by omega)]
    have:(cs.drop (o+k)).take i.size=(ys.drop k).take i.size:=by
     rw[<- hy,List.drop_take,List.drop_drop,List.take_take,Nat.min_eq_left (by omega)]
    rw[this];exact h
   ·cases h
  ·cases h
 ·have hk:k<ys.length:=by
   rcases Nat.lt_or_ge k ys.length with h'|h'
   ·exact h'
   ·rw[List.getElem?_eq_none h'] at h;cases h
  have e1:ys[k]?=cs[o+k]?:=by
   conv=>lhs;rw[<- hy]
   rw[List.getElem?_take_of_lt hk,List.getElem?_drop]
  rw[<- e1];exact h
 ·cases h
section
variable {E:u6 α} {xs:List α}
theorem Abw (hv:dW C A E xs) (hj:j<xs.length) (h:∀B off,A=some ⟨B,off,none⟩->aN P ops Q es hist a C):aN P ops Q es hist a C:=fun Hs H h1 h2=>by
 rcases hv H h2 with h3|⟨B,pre,post,e,rw,h3,_⟩
 ·subst h3;simp at hj
 ·exact h B pre.length h3 Hs H h1 h2
theorem xZ {sz:Nat} {k:IntKind} {j:Int} (h:∀B off,A=some ⟨B,off,none⟩->cL gd (.pointer (some ⟨B,off+j.toNat * sz,none⟩)) fun v=>aN P ops Q es hist (lT a d' v) C)
  (hx:bL a x=.slice A n cp:=by exact rfl) (hy:bL a y=.int k j:=by exact rfl) (ht:uC P t=some sz:=by exact rfl) (hv:dW C A E xs:=by((repeat (first|exact fT|exact lH|exact wT|assumption|apply bN)) <;> exact fT))
  (hn:xs.length=n:=by first|exact rfl|assumption|omega) (h0:0<=j:=by first|omega|assumption) (h1:j<n:=by first|omega|assumption) (hw:bE ops ⟨some d',.indexAddr t x y,ty,pos,after,g⟩ a=true:=by exact rfl):
  aN P ops Q (ET.cons (c,gd,⟨some d',.indexAddr t x y,ty,pos,after,g⟩) es) hist a C:=
 Abw (j:=j.toNat) hv (by omega) fun B off hA=>by
  subst hA
  exact gT rfl hw (Ia ht hx hy h0 h1) (h B off rfl)
theorem Hy {sz:Nat} {y:α} (hv:dW C (some ⟨B,off,none⟩) E xs) (hsz:E.sz=sz) (hj:xs[j]?=some y) (hx:bL a x=.pointer (some ⟨B,off+j * sz+k,none⟩)) (hl:Sj P t (E.enc y) k=some v):RdC P ⟨d,.load t x,ty,pos,after,g⟩ a C v:=fun H hs=>by
 obtain⟨cs,e,rw,h1,h2,h3⟩:=Yq hv hs hj
 subst hsz
 exact Wc (by rw[hx];exact N5 h1 (Aoq (by rw[E.len];exact h3) (by rw[E.len];exact h2) hl))
def Apv (P:Program) (t:TypeId) (B off sz j k:Nat) (v:Value) (C:List HP):Prop:=∃(α:Type) (E:u6 α) (xs:List α) (y:α),dW C (some ⟨B,off,none⟩) E xs/\E.sz=sz/\xs[j]?=some y/\Sj P t (E.enc y) k=some v
theorem aZ {sz:Nat} {u:α} (h:cL gd v fun v=>aN P ops Q es hist (lT a d' v) C) (hx:bL a x=.pointer (some ⟨B,off+j * sz+k,none⟩):=by exact rfl)
  (hv:dW C (some ⟨B,off,none⟩) E xs:=by((repeat (first|exact fT|exact lH|exact wT|assumption|apply bN)) <;> exact fT)) (hs:E.sz=sz:=by exact rfl) (hj:xs[j]?=some u:=by first|assumption|exact rfl) (hl:Sj P t (E.enc u) k=some v:=by exact rfl)
  (hh:BF (Apv P t B off sz j k v) (hist.take c):=by((repeat (first|exact F6|refine NW hv_mk ?_)) <;> exact F6))
  (hw:bE ops ⟨some d',.load t x,ty,pos,after,g⟩ a=true:=by exact rfl):aN P ops Q (ET.cons (c,gd,⟨some d',.load t x,ty,pos,after,g⟩) es) hist a C:=
 Vt rfl hw (Hy hv hs hj hx hl) (L8 (fun _ ⟨_,_,_,_,k1,k4,k2,k3⟩=>Hy k1 k4 k2 hx k3) hh) h
theorem aO {sz:Nat} {u:α} (h:cL gd v fun v=>aN P ops Q es hist (lT a d' v) C) (hx:bL a x=.pointer (some ⟨B,off+j * sz,none⟩):=by exact rfl)
  (hv:dW C (some ⟨B,off,none⟩) E xs:=by((repeat (first|exact fT|exact lH|exact wT|assumption|apply bN)) <;> exact fT)) (hs:E.sz=sz:=by exact rfl) (hj:xs[j]?=some u:=by first|assumption|exact rfl) (hl:Sj P t (E.enc u) 0=some v:=by exact rfl)
  (hh:BF (Apv P t B off sz j 0 v) (hist.take c):=by((repeat (first|exact F6|refine NW hv_mk ?_)) <;> exact F6))
  (hw:bE ops ⟨some d',.load t x,ty,pos,after,g⟩ a=true:=by exact rfl):aN P ops Q (ET.cons (c,gd,⟨some d',.load t x,ty,pos,after,g⟩) es) hist a C:=
 Vt rfl hw (Hy (k:=0) hv hs hj (by rw[hx,Nat.add_zero]) hl) (L8 (fun _ ⟨_,_,_,_,k1,k4,k2,k3⟩=>Hy (k:=0) k1 k4 k2 (by rw[hx,Nat.add_zero]) k3) hh) h
def Ix (n:Int):UInt8:=UInt8.ofNat (n % 256).toNat
theorem Ph (n:Int):l9 (Ix n)=.int .u8 (n % 256):=by
 unfold l9 Ix
 congr 1
 rw[UInt8.toNat_ofNat']
 omega
def Src (P:Program) (C:List HP) (u:Value) (E:u6 α) (ys:List α):Prop:=(Builtin.lenOf u).pr P=some ys.length/\∀H,bZ C H->(Builtin.firstCells E.sz ys.length u).rd P H=some (ys.flatMap E.enc).toArray
theorem ZI {sz:Nat}:(Builtin.firstCells sz ([]:List α).length (.slice A ([]:List α).length cp)).rd P H=some (([]:List α).flatMap E.enc).toArray:=by
 cases A with
 |none=>rfl
 |some ad=>
  simp only[Builtin.firstCells,List.length_nil,Nat.zero_mul,loadCells,loadCellsFrom]
  rfl
theorem tA {ys:List α} (hv:dW C A E ys:=by first|assumption|(((repeat (first|exact fT|exact lH|exact wT|assumption|apply bN)) <;> exact fT))) (hm:ys.length=m:=by first|exact rfl|assumption|omega):Src P C (.slice A m cp) E ys:=by
 subst hm
 refine⟨rfl,fun H hs=>?_⟩
 rcases hv H hs with rfl|⟨B,pre,post,e,rw,rfl,h3⟩
 ·exact ZI
 ·rw[oP h3 (by simp[E.flat_len])]
  congr 1
  have:(pre++ys.flatMap E.enc++post).drop pre.length=ys.flatMap E.enc++post:=by simp
  rw[this,<- E.flat_len]
  simp
theorem zV {y:α} (hb:ZM C B cs:=by((repeat (first|exact t6|exact has_ro|apply vB)) <;> exact t6)) (hd:E.dec cs=some y:=by exact rfl):Src P C (.slice (some ⟨B,0,none⟩) 1 cp) E [y]:=by
 refine⟨rfl,fun H hs=>?_⟩
 obtain⟨e,rw,h⟩:=hb H hs
 have hc:=E.ok _ _ hd
 have hl:=E.len y
 rw[hc] at hl
 rw[oP h (by simp[hl])]
 simp[hc,<- hl]
def eG:u6 UInt8:= { enc:=fun b=> [l9 b],sz:=1,dec:=fun _=>none,len:=fun _=>rfl,one:=fun _=>rfl,ok:=fun _ _ h=>by cases h }
theorem pQ (l:List UInt8):l.flatMap eG.enc=l.map l9:=by
 induction l with
 |nil=>rfl
 |cons b l ih=>rw[List.flatMap_cons,ih];rfl
theorem Hf {s:ByteArray}:Src P C (.string s) eG s.data.toList:=by
 refine⟨by simp[Builtin.lenOf];rfl,fun H hs=>?_⟩
 simp only[Builtin.firstCells]
 have:s.extract 0 s.data.toList.length=s:=by
  apply ByteArray.ext
  simp
 rw[this]
 simp only[zG]
 congr 1
 apply Array.ext'
 rw[pQ]
 simp[l9]
theorem En {n:Int} (hb:ZM C B [.int .u8 (n % 256)]:=by((repeat (first|exact t6|exact has_ro|apply vB)) <;> exact t6)):Src P C (.slice (some ⟨B,0,none⟩) 1 cp) eG [Ix n]:=by
 refine⟨rfl,fun H hs=>?_⟩
 obtain⟨e,rw,h⟩:=hb H hs
 rw[oP h (by simp[eG])]
 simp[eG,Ph]
theorem lY (hs:bZ (bT A c e E xs::R) H):
  (A=none/\xs= []/\c=0/\bZ R H)\/∃B pre post,A=some ⟨B,pre.length,none⟩/\bZ (pt B (pre++xs.flatMap E.enc++post) e::R) H/\xs.length<=c/\(c - xs.length) * E.sz<=post.length:=by
 obtain⟨H1,H2,hc,k1,k2,h2,hs⟩:=hs
 rcases h2 with⟨h2,h3,h4⟩|⟨B,pre,post,h2,h3,h4,h5⟩
 ·exact .inl ⟨h2,h3,h4,hs.mono k2⟩
 ·exact .inr ⟨B,pre,post,h2,⟨H1,H2,hc,k1,k2,h3,hs⟩,h4,h5⟩
theorem i4 {pre post:List Value} (hA:A=some ⟨B,pre.length,none⟩) (hs:bZ (pt B (pre++xs.flatMap E.enc++post) e::R) H) (h4:xs.length<=c)
  (h5:(c - xs.length) * E.sz<=post.length):bZ (bT A c e E xs::R) H:=by
 obtain⟨H1,H2,hc,k1,k2,h3,hs⟩:=hs
 exact⟨H1,H2,hc,k1,k2,.inr ⟨B,pre,post,hA,h3,h4,h5⟩,hs⟩
theorem uY (hs:bZ R H):bZ (bT none 0 e E ([]:List α)::R) H:=
 ⟨fun _=>none,H,(fun _ _ _ h=>by cases h),(fun _ _ h=>by cases h),Cx.refl H,.inl ⟨rfl,rfl,rfl⟩,hs⟩
theorem aG.nilrow (e:TypeId) (E:u6 α) (C:List HP):aG C (bT none 0 e E ([]:List α)::C):=fun _ hs=>uY hs
theorem aG.nilrow' (h:aG C C'):aG C (bT none 0 e E ([]:List α)::C'):=fun H hs=>uY (h H hs)
theorem Ds (hp:aW (bT A c e E xs) C R) (h:aG (rF A E xs::R) C'):aG C C':=fun H hs=>by
 refine h H ?_
 obtain⟨H1,H2,hc,h1,h2,ha,hs⟩:=hp.sats hs
 refine⟨H1,H2,hc,h1,h2,?_,hs⟩
 rcases ha with⟨g1,g2,_⟩|⟨B,pre,post,g1,g2,_⟩
 ·exact .inl g2
 ·exact .inr ⟨B,pre,post,e,true,g1,g2⟩
theorem By.ent {o:Oper} {k:Value->List HP->Prop} (he:aG C C') (h:By P o a C' k):By P o a C k:=fun H hs=>h H (he H hs)
theorem KI {sz:Nat} {ys:List α} {k:Value->List HP->Prop} (ht:QF P st xt=some (e,sz,bytes)) (hsz:E.sz=sz) (hx:bL a x=.slice A n cp) (hn:xs.length=n) (hy:bL a y=u) (hsrc:Src P C u E ys)
  (hp:aW (bT A c0 e E xs) C R) (hcc:cp=c0\/(n<=cp/\cp<=c0)) (hbig:(2 * (n+ys.length)+512) * bytes<=281474976710656)
  (hk:∀A' c',k (.slice A' (xs++ys).length c') (bT A' c' e E (xs++ys)::R)):By P ⟨d,.call { callee:=.builtin .append,args:=#[x,y],argTypes:=#[st,xt] },ty,pos,after,g⟩ a C k:=fun H hs=>by
 obtain⟨inf,zz,h1,h2,h3,h4,h5,h6,h7,rfl⟩:=KM ht
 subst hsz
 have hrs:=hp.sats hs
 have hr:=lY hrs
 have hcl:n<=cp/\cp<=c0:=by
  rcases hcc with rfl|h
  ·rcases hr with⟨g1,g2,g3,g4⟩|⟨B,pre,post,g1,g2,g3,g4⟩
   ·subst g2 g3;simp at hn;omega
   ·omega
  ·exact h
 obtain⟨hcp,hc0⟩:=hcl
 have hmn:(xs++ys).length=n+ys.length:=by rw[List.length_append,hn]
 refine fW ?_
 simp only[execOp,resolve,List.map_toArray,List.map_cons,List.map_nil,hx,hy]
 rw[aJ,aP (show(pure _:Sem Deferred).pr P=some _ from rfl)]
 simp only[invoke,builtin,aJ]
 obtain⟨hlen,hcells⟩:=hsrc
 rw[hmn] at hk
 refine Ib (xs:=xs.flatMap E.enc) (news:=ys.flatMap E.enc) h1 h2 h3 h4 h5 hlen (by rw[h7];exact hcells H hs) (by rw[E.flat_len,h7]) (E.flat_one ys) (by rw[E.flat_len,hn,h7]) ?_ hbig h6 ?_ ?_ ?_
 ·rcases hr with⟨g1,g2,g3,g4⟩|⟨B,pre,post,g1,g2,g3,g4⟩
  ·subst g2;simp at hn;exact .inl ⟨g1,by omega,by omega⟩
  ·refine .inr ⟨B,pre,post,e,true,g1,(pC g2).1,hcp,?_,.inr (.inl rfl)⟩
   rw[h7]
   exact Nat.le_trans (Nat.mul_le_mul_right _ (by omega)) g4
 ·intro hm0
  have hys:ys= []:=by simpa using hm0
  have hk':=hk A cp
  subst hys
  rw[List.append_nil,List.length_nil,Nat.add_zero] at hk'
  refine⟨_,?_,hk'⟩
  rcases hr with⟨g1,g2,g3,g4⟩|⟨B,pre,post,g1,g2,g3,g4⟩
  ·subst g1 g2 g3
   have:cp=0:=by omega
   subst this
   exact uY g4
  ·exact i4 g1 g2 (by omega) (Nat.le_trans (Nat.mul_le_mul_right _ (by omega)) g4)
 ·intro B pre post e' hA hB hle hpl
  rcases hr with⟨g1,_⟩|⟨B',pre',post',g1,g2,g3,g4⟩
  ·rw[g1] at hA;cases hA
  ·rw[g1] at hA
   have hBB:B'=B:=congrArg Addr.block (Option.some.inj hA)
   subst hBB
   have hpre:pre'.length=pre.length:=congrArg Addr.off (Option.some.inj hA)
   have hB':=(pC g2).1
   rw[hB'] at hB
   injection hB with hB
   injection hB with hcs he _
   subst he
   rw[List.append_assoc,List.append_assoc] at hcs
   obtain⟨q1,q2⟩:=List.append_inj hcs hpre
   obtain⟨_,q3⟩:=List.append_inj q2 rfl
   subst q1 q3
   refine⟨_,i4 (pre:=pre') (post:=post'.drop (ys.flatMap E.enc).length) g1 ?_ (by rw[hmn];exact hle) ?_,hk A cp⟩
   ·rw[List.flatMap_append]
    exact tK g2
   ·rw[hmn,List.length_drop,E.flat_len,<- Nat.sub_sub,Nat.sub_mul,<- h7]
    omega
 ·intro r post N hr0 hN hpl _
  refine⟨_,i4 (pre:= []) (post:=post) rfl ?_ (by rw[hmn];exact hN) (by rw[hmn,hpl,h7];exact Nat.le_refl _),hk _ N⟩
  rw[List.flatMap_append,List.nil_append]
  exact tO hr0 hrs.tail
theorem dD {sz:Nat} {ys:List α} (h:∀A' c',cL gd (.slice A' (xs++ys).length c') fun v=>aN P ops Q es (C::hist) (lT a d' v) (bT A' c' e E (xs++ys)::R))
  (hx:bL a x=.slice A n cp:=by exact rfl) (hy:bL a y=u:=by exact rfl) (ht:QF P st xt=some (e,sz,bytes):=by exact rfl) (hp:aW (bT A c0 e E xs) C R:=by((repeat (first|exact aW.here|apply aW.there)) <;> exact aW.here)) (hsrc:Src P C u E ys:=by first|exact En|exact zV|exact Hf|exact tA) (hsz:E.sz=sz:=by exact rfl) (hn:xs.length=n:=by first|exact rfl|assumption|omega)
  (hcc:cp=c0\/(n<=cp/\cp<=c0):=by first|exact .inl rfl|exact .inr ⟨by omega,by omega⟩) (hbig:(2 * (n+ys.length)+512) * bytes<=281474976710656:=by first|omega|assumption|(simp only[List.length_cons,List.length_nil];omega))
  (hw:bE ops ⟨some d',.call { callee:=.builtin .append,args:=#[x,y],argTypes:=#[st,xt] },ty,pos,after,g⟩ a=true:=by exact rfl):aN P ops Q (ET.cons (c,gd,⟨some d',.call { callee:=.builtin .append,args:=#[x,y],argTypes:=#[st,xt] },ty,pos,after,g⟩) es) hist a C:=
 G_o (hw:=hw) (KI ht hsz hx hn hy hsrc hp hcc hbig h)
theorem d3 {sz:Nat} {ys:List α} (h:∀A' c',cL gd (.slice A' ys.length c') fun v=>aN P ops Q es (C::hist) (lT a d' v) (bT A' c' e E ys::C))
  (hx:bL a x=.slice none 0 0:=by exact rfl) (hy:bL a y=u:=by exact rfl) (ht:QF P st xt=some (e,sz,bytes):=by exact rfl) (hsrc:Src P C u E ys:=by first|exact En|exact zV|exact Hf|exact tA) (hsz:E.sz=sz:=by exact rfl)
  (hbig:(2 * (0+ys.length)+512) * bytes<=281474976710656:=by first|omega|assumption|(simp only[List.length_cons,List.length_nil];omega))
  (hw:bE ops ⟨some d',.call { callee:=.builtin .append,args:=#[x,y],argTypes:=#[st,xt] },ty,pos,after,g⟩ a=true:=by exact rfl):aN P ops Q (ET.cons (c,gd,⟨some d',.call { callee:=.builtin .append,args:=#[x,y],argTypes:=#[st,xt] },ty,pos,after,g⟩) es) hist a C:=
 G_o (hw:=hw) (By.ent (aG.nilrow e E C) (KI (xs:= []) ht hsz hx rfl hy ⟨hsrc.1,fun H hs=>hsrc.2 H hs.tail⟩ aW.here (.inl rfl) hbig h))
end
end Go.Sl
namespace Go.Sl
variable {α:Type} {C R:List HP} {A A':Option Addr} {l m k sz c n cp:Nat} {H:Hp} {e ty t yt:TypeId} {P:Program} {a:Fr} {d:Option Tmp} {pos:String} {after:Array Edge} {g:Option (Nat×Bool)} {x y z:Operand} {lo hi mx:Option Operand} {h:Int} {ops:Array Oper} {Q:Fr->List HP->Prop} {gd:Bool} {es:ET} {hist:List (List HP)} {d':Tmp} {v:Value} {op:Op} {bs:List UInt8}
def Ig (A A':Option Addr) (l m sz:Nat):Prop:=A'=(if m=l then A else A.map (·.add (l * sz)))
section
variable {E:u6 α} {xs:List α}
theorem F2 (h:dW C A E xs) (hs:Ig A A' l m E.sz) (hl:l<=xs.length) (hm:xs.length<=m\/l+k<=m):dW C A' E ((xs.drop l).take k):=by
 unfold Ig at hs
 cases A with
 |none=>
  have:A'=none:=by rw[hs];split <;> rfl
  subst this
  intro H hH
  rcases h H hH with h2|⟨B,pre,post,e,rw,h2,_⟩
  ·subst h2;exact .inl (by simp)
  ·cases h2
 |some ad=>
  obtain⟨B,off,sp⟩:=ad
  intro H hH
  have hk:=h H hH
  rcases hk with h1|⟨B',pre,post,e,rw,h1,h2⟩
  ·subst h1;exact .inl (by simp)
  ·have hsp:sp=none:=by injection h1 with h1;injection h1
   subst hsp
   by_cases hml:m=l
   ·rw[if_pos hml] at hs
    have hnil:(xs.drop l).take k= []:=by
     rcases hm with hm|hm
     ·rw[List.drop_eq_nil_of_le (by omega)];simp
     ·have:k=0:=by omega
      subst this;simp
    rw[hnil,hs]
    cases h1
    exact .inr ⟨_,pre,xs.flatMap E.enc++post,e,rw,rfl,by rw[h2];simp⟩
   ·rw[if_neg hml] at hs
    refine D3 h k hl ?_ H hH
    rw[hs]
    simp only[Option.map_some,oV]
theorem Abp (h:rF A E xs H) (hs:Ig A A' l m E.sz) (hl:l<=xs.length) (hm:xs.length<=m\/l+k<=m):rF A' E ((xs.drop l).take k) H:=by
 have hv:dW [rF A E xs] A E xs:=lH
 have hs1:bZ [rF A E xs] H:=⟨H,fun _=>none,(fun _ _ _ _ h=>by cases h),Cx.refl _,(fun _ _ h=>by cases h),h,trivial⟩
 exact F2 hv hs hl hm H hs1
theorem Akc {c':Nat} (h:bT A c e E xs H) (hs:Ig A A' l m E.sz) (hlk:l+k<=xs.length) (hlm:l+k<=m) (hm:m<=c):bT A' (m - l) e E ((xs.drop l).take k) H:=by
 unfold Ig at hs
 rcases h with⟨rfl,rfl,rfl⟩|⟨B,pre,post,rfl,h2,h3,h4⟩
 ·have:A'=none:=by rw[hs];split <;> rfl
  exact .inl ⟨this,by simp,by omega⟩
 ·have hlen:((xs.drop l).take k).length=k:=by simp;omega
  by_cases hml:m=l
  ·rw[if_pos hml] at hs
   have hk0:k=0:=by omega
   subst hk0
   refine .inr ⟨B,pre,xs.flatMap E.enc++post,hs,by rw[h2];simp,by simp,?_⟩
   rw[hml];simp
  ·rw[if_neg hml] at hs
   simp only[Option.map_some,oV] at hs
   refine .inr ⟨B,pre++(xs.take l).flatMap E.enc,((xs.drop l).drop k).flatMap E.enc++post,?_,?_,?_,?_⟩
   ·rw[hs,List.length_append,E.flat_len,List.length_take,Nat.min_eq_left (by omega)]
   ·rw[h2]
    have e1:xs=xs.take l++((xs.drop l).take k++(xs.drop l).drop k):=by rw[List.take_append_drop,List.take_append_drop]
    have e2:xs.flatMap E.enc=(xs.take l).flatMap E.enc++(((xs.drop l).take k).flatMap E.enc++((xs.drop l).drop k).flatMap E.enc):=by
     rw[<- List.flatMap_append,<- List.flatMap_append,<- e1]
    rw[e2]
    simp only[List.append_assoc]
   ·rw[hlen];omega
   ·rw[hlen,List.length_append,E.flat_len]
    simp only[List.length_drop]
    have h5:(m - l - k) * E.sz<=(xs.length - l - k) * E.sz+(c - xs.length) * E.sz:=by
     rw[<- Nat.add_mul]
     exact Nat.mul_le_mul_right _ (by omega)
    omega
end
def xT (a:Fr) (dflt:Int):Option Operand->Option Int
 |none=>some dflt
 |some o=>match bL a o with
  |.int _ n=>some n
  |_=>none
theorem Tz {dflt n:Int} {o:Option Operand} (h:xT a dflt o=some n):(o=none/\n=dflt)\/∃o' k,o=some o'/\bL a o'=.int k n:=by
 unfold xT at h
 split at h
 ·exact .inl ⟨rfl,(Option.some.inj h).symm⟩
 ·rename_i o'
  split at h
  ·rename_i k n' he;cases h;exact .inr ⟨o',k,rfl,he⟩
  ·cases h
theorem KA {k:IntKind} {j:Int} {code:BoundsCode} (h0:0<=j) (h1:j<=n):(Instr.sliceBound (.int k j) n code).pr P=some j.toNat:=by
 simp only[Instr.sliceBound,aT]
 rw[show(asIntOf (.int k j)).pr P=some (k,j) from rfl,Option.bind_some]
 simp only
 rw[if_pos ⟨h0,h1⟩]
 rfl
theorem AS {β:Type} (z:β):(Sem.pure z).pr P=some z:=rfl
theorem Y1 {l m:Int} (hl:xT a 0 lo=some l) (hh:xT a n hi=some h) (hm:xT a cp mx=some m)
  (hmx:mx.isSome=true->hi.isSome=true) (h0:0<=l) (h1:l<=h) (h2:h<=m) (h3:m<=cp):(Instr.sliceBounds true n cp (lo.map (bL a)) (hi.map (bL a)) (mx.map (bL a))).pr P=some (l.toNat,h.toNat,m.toNat):=by
 have b:∀(k:IntKind) (j:Int) (n:Nat) (code:BoundsCode),0<=j->j<=n->(Instr.sliceBound (.int k j) n code).pr P=some j.toNat:=fun _ _ _ _ h0 h1=>KA h0 h1
 rcases Tz hm with⟨rfl,rfl⟩|⟨om,km,rfl,em⟩ <;> rcases Tz hh with⟨rfl,rfl⟩|⟨oh,kh,rfl,eh⟩ <;> rcases Tz hl with⟨rfl,rfl⟩|⟨ol,kl,rfl,el⟩
 ·rfl
 ·simp only[Instr.sliceBounds,aT,AS,pure,Option.bind_some,Option.map_none,Option.map_some,el]
  rw[b _ _ _ _ (by omega) (by omega)];rfl
 ·simp only[Instr.sliceBounds,aT,AS,pure,Option.bind_some,Option.map_none,Option.map_some,eh]
  rw[b _ _ _ _ (by omega) (by omega)];rfl
 ·simp only[Instr.sliceBounds,aT,AS,pure,Option.bind_some,Option.map_none,Option.map_some,eh,el]
  rw[b _ _ _ _ (by omega) (by omega),Option.bind_some,b _ _ _ _ (by omega) (by omega)];rfl
 ·exact absurd (hmx rfl) (by simp)
 ·exact absurd (hmx rfl) (by simp)
 ·simp only[Instr.sliceBounds,aT,AS,pure,Option.bind_some,Option.map_none,Option.map_some,eh,em]
  rw[b _ _ _ _ (by omega) (by omega),Option.bind_some,b _ _ _ _ (by omega) (by omega)];rfl
 ·simp only[Instr.sliceBounds,aT,AS,pure,Option.bind_some,Option.map_none,Option.map_some,eh,em,el]
  rw[b _ _ _ _ (by omega) (by omega),Option.bind_some,b _ _ _ _ (by omega) (by omega),Option.bind_some,b _ _ _ _ (by omega) (by omega)];rfl
theorem Et {l m:Int} (ht:uC P t=some sz) (hx:bL a x=.slice A n cp) (hl:xT a 0 lo=some l) (hh:xT a n hi=some h) (hm:xT a cp mx=some m)
  (hmx:mx.isSome=true->hi.isSome=true) (h0:0<=l) (h1:l<=h) (h2:h<=m) (h3:m<=cp):bY P ⟨d,.slice t x lo hi mx,ty,pos,after,g⟩ a=some (.slice (if m.toNat=l.toNat then A else A.map (·.add (l.toNat * sz))) (h.toNat - l.toNat) (m.toNat - l.toNat)):=by
 obtain⟨e,i,hu,hi',rfl⟩:=Gy ht
 refine cE ?_
 simp only[execOp,hx,Instr.sliceAt,aT]
 rw[aK hu,Option.bind_some]
 simp only[Instr.slice,aT]
 rw[aK hu,Option.bind_some]
 simp only[aT]
 rw[Y1 hl hh hm hmx h0 h1 h2 h3,Option.bind_some]
 simp only[aT]
 rw[fV hi',Option.bind_some];rfl
section
variable {E:u6 α} {xs:List α}
theorem W7 {p:Prop} (hp:∀H,bZ C H->p) (h:p->aN P ops Q es hist a C):aN P ops Q es hist a C:=fun Hs H h1 h2=>h (hp H h2) Hs H h1 h2
theorem oG {l m:Int} (hk:∀A',Ig A A' l.toNat m.toNat sz->cL gd (.slice A' (h.toNat - l.toNat) (m.toNat - l.toNat)) fun v=>aN P ops Q es hist (lT a d' v) C)
  (hx:bL a x=.slice A n cp:=by exact rfl) (ht:uC P t=some sz:=by exact rfl) (hl:xT a 0 lo=some l:=by exact rfl) (hh:xT a n hi=some h:=by exact rfl) (hm:xT a cp mx=some m:=by exact rfl) (hmx:mx.isSome=true->hi.isSome=true:=by first|exact fun h=>h|exact fun _=>rfl)
  (h0:0<=l:=by first|omega|assumption) (h1:l<=h:=by first|omega|assumption) (h2:h<=m:=by first|omega|assumption) (h3:m<=cp:=by first|omega|assumption) (hw:bE ops ⟨some d',.slice t x lo hi mx,ty,pos,after,g⟩ a=true:=by exact rfl):
  aN P ops Q (ET.cons (c,gd,⟨some d',.slice t x lo hi mx,ty,pos,after,g⟩) es) hist a C:=
 gT rfl hw (Et ht hx hl hh hm hmx h0 h1 h2 h3) (hk _ rfl)
theorem lI {l m:Int} (hk:∀A',cL gd (.slice A' (h.toNat - l.toNat) (m.toNat - l.toNat)) fun v=>aN P ops Q es hist (lT a d' v) (rF A' E ((xs.drop l.toNat).take (h.toNat - l.toNat))::C))
  (hx:bL a x=.slice A n cp:=by exact rfl) (hp:aW (rF A E xs) C R:=by((repeat (first|exact aW.here|apply aW.there)) <;> exact aW.here)) (ht:uC P t=some sz:=by exact rfl) (hsz:E.sz=sz:=by exact rfl) (hn:xs.length=n:=by first|exact rfl|assumption|omega) (hl:xT a 0 lo=some l:=by exact rfl) (hh:xT a n hi=some h:=by exact rfl) (hm:xT a cp mx=some m:=by exact rfl) (hmx:mx.isSome=true->hi.isSome=true:=by first|exact fun h=>h|exact fun _=>rfl)
  (h0:0<=l:=by first|omega|assumption) (h1:l<=h:=by first|omega|assumption) (h2:h<=n:=by first|omega|assumption) (h2:h<=m:=by first|omega|assumption) (h3:m<=cp:=by first|omega|assumption) (hw:bE ops ⟨some d',.slice t x lo hi mx,ty,pos,after,g⟩ a=true:=by exact rfl):
  aN P ops Q (ET.cons (c,gd,⟨some d',.slice t x lo hi mx,ty,pos,after,g⟩) es) hist a C:=by
 refine gT rfl hw (Et ht hx hl hh hm hmx h0 h1 h2 h3) ?_
 refine(cM _ _ _).2 (Wp (fun H hs=>?_) ((cM _ _ _).1 (hk _)))
 subst hsz
 have hd:=((hp.sats hs).dup (pZ _ _ _))
 have h5:=(aG.imp (fun H hr=>Abp (l:=l.toNat) (m:=m.toNat) (A':=if m.toNat=l.toNat then A else A.map (·.add (l.toNat * E.sz))) (k:=h.toNat - l.toNat) hr rfl (by omega) (.inr (by omega))) (aG.refl _)) H hd
 exact(bZ.perm (List.Perm.cons _ hp.perm.symm) h5)
theorem i5 {c0:Nat} {l m:Int} (hk:∀A',cL gd (.slice A' (h.toNat - l.toNat) (m.toNat - l.toNat)) fun v=>aN P ops Q es hist (lT a d' v) (bT A' (m.toNat - l.toNat) e E ((xs.drop l.toNat).take (h.toNat - l.toNat))::R))
  (hx:bL a x=.slice A n cp:=by exact rfl) (hp:aW (bT A c0 e E xs) C R:=by((repeat (first|exact aW.here|apply aW.there)) <;> exact aW.here)) (ht:uC P t=some sz:=by exact rfl) (hsz:E.sz=sz:=by exact rfl) (hn:xs.length=n:=by first|exact rfl|assumption|omega) (hl:xT a 0 lo=some l:=by exact rfl) (hh:xT a n hi=some h:=by exact rfl) (hm:xT a cp mx=some m:=by exact rfl) (hmx:mx.isSome=true->hi.isSome=true:=by first|exact fun h=>h|exact fun _=>rfl)
  (h0:0<=l:=by first|omega|assumption) (h1:l<=h:=by first|omega|assumption) (h4:h<=n:=by first|omega|assumption) (h2:(m=cp/\cp=c0)\/(h<=m/\m<=cp/\cp<=c0):=by first|exact .inl ⟨rfl,rfl⟩|exact .inr ⟨by omega,by omega,by omega⟩) (hw:bE ops ⟨some d',.slice t x lo hi mx,ty,pos,after,g⟩ a=true:=by exact rfl):
  aN P ops Q (ET.cons (c,gd,⟨some d',.slice t x lo hi mx,ty,pos,after,g⟩) es) hist a C:=by
 refine W7 (p:=xs.length<=c0) (fun H hs=>?_) fun hfact=>?_
 ·rcases lY (hp.sats hs) with⟨_,g2,_⟩|⟨_,_,_,_,_,g,_⟩
  ·subst g2;simp
  ·exact g
 have h6:h<=m/\m<=cp/\cp<=c0:=by
  rcases h2 with⟨q1,q2⟩|q
  ·exact⟨by omega,by omega,by omega⟩
  ·exact q
 obtain⟨h2,h3,h5⟩:=h6
 refine gT rfl hw (Et ht hx hl hh hm hmx h0 h1 h2 h3) ?_
 refine(cM _ _ _).2 (Wp (fun H hs=>?_) ((cM _ _ _).1 (hk _)))
 subst hsz
 exact(aG.imp (fun H hr=>Akc (c':=0) (l:=l.toNat) (m:=m.toNat) (A':=if m.toNat=l.toNat then A else A.map (·.add (l.toNat * E.sz))) (k:=h.toNat - l.toNat) hr rfl (by omega) (by omega) (by omega)) (aG.refl _)) H (hp.sats hs)
theorem NU (hv:dW C A eG bs) (hn:bs.length=n) (hs:bZ C H):(Conv.bytesToString (.slice A n cp)).rd P H=some (.string ⟨bs.toArray⟩):=by
 rcases hv H hs with h2|⟨B,pre,post,e,rw,h1,hb⟩
 ·subst h2
  subst hn
  cases A <;> rfl
 ·subst h1
  rw[pQ] at hb
  simp only[Conv.bytesToString]
  rw[f9]
  have hc:(loadCells ⟨B,pre.length,none⟩ n).rd P H=some (bs.map l9).toArray:=by
   unfold loadCells
   rw[zU hb pre.length n 0 #[] (by simp;omega)]
   simp only[List.append_assoc,List.drop_left',Nat.add_zero]
   rw[List.take_append_of_le_length (by simp;omega),List.take_of_length_le (by simp;omega)]
   simp
  rw[hc,Option.bind_some,f9]
  rw[<- Array.forIn_toList]
  rw[show(bs.map l9).toArray.toList=bs.map l9 from rfl,Ry]
  ·simp
   rfl
  ·intro b s
   simp[l9]
   rfl
theorem jK {t':TypeId} (h:cL gd (.string ⟨bs.toArray⟩) fun v=>aN P ops Q es (C::hist) (lT a d' v) C) (hx:bL a x=.slice A n cp:=by exact rfl) (hs:J1 P t=some e:=by exact rfl) (ht:pS P t'=true:=by exact rfl)
  (hv:dW C A eG bs:=by first|assumption|(((repeat (first|exact fT|exact lH|exact wT|assumption|apply bN)) <;> exact fT))) (hn:bs.length=n:=by first|assumption|exact rfl) (hk:kd P (.convert t t' x)=.other:=by exact rfl) (hw:bE ops ⟨some d',.convert t t' x,ty,pos,after,g⟩ a=true:=by exact rfl):aN P ops Q (ET.cons (c,gd,⟨some d',.convert t t' x,ty,pos,after,g⟩) es) hist a C:=
 G_o (hk:=hk) (hw:=hw) fun H hH=>by
  obtain⟨h1,h2⟩:=Gu hs
  refine fW ?_
  simp only[execOp,hx,convert,aJ]
  rw[aP (aK h1),aP (aK (mW ht))]
  simp only[aJ]
  rw[aP (aK h2)]
  exact tQ (NU hv hn hH) ⟨C,hH,h⟩
end
end Go.Sl
namespace Go.Sl
variable {P:Program} {a:Fr} {C C':List HP} {rs:List ResultVar} {v:Value} {vs:List Value} {fn:Func} {K:Value->List HP->Prop} {f:FuncId} {args:Array Value} {Q:Exit->Fr->List HP->Prop} {x:Code} {id:Nat}
theorem dU {t:Tmp} (hx:iW (a t)=some v:=by exact rfl) (h:Bc P a C rs vs):Bc P a C (.tmp t::rs) (v::vs):=Am8 hx h
theorem cT {p:Tmp} {t:TypeId} {B off:Nat} {cs:List Value} (hx:a p=.pointer (some ⟨B,off,none⟩):=by exact rfl) (hb:ZM C B cs:=by((repeat (first|exact t6|exact has_ro|apply vB)) <;> exact t6)) (hv:Sj P t cs off=some v:=by exact rfl) (h:Bc P a C rs vs):Bc P a C (.cell p t::rs) (v::vs):=Ake hx hb hv h
def dK (C:List HP) (K:Value->List HP->Prop) (v:Value):Prop:=∃C',aG C C'/\K v C'
def Apn:Exit->Bool
 |.ret=>true
 |.normal=>true
 |_=>false
theorem aC {e:Exit} (h:dK C K v) (hE:Apn e=true:=by exact rfl) (hl:oT fn.results.toList=some rs:=by exact rfl)
  (hv:Bc P a C rs vs:=by first|exact bS|exact dU (h:=by first|exact bS|exact dU (h:=by first|exact bS|exact dU (h:=by first|exact bS|exact dU (h:=by first|exact bS|exact dU (h:=by exact bS)|exact cT (h:=by exact bS))|exact cT (h:=by first|exact bS|exact dU (h:=by exact bS)|exact cT (h:=by exact bS)))|exact cT (h:=by first|exact bS|exact dU (h:=by first|exact bS|exact dU (h:=by exact bS)|exact cT (h:=by exact bS))|exact cT (h:=by first|exact bS|exact dU (h:=by exact bS)|exact cT (h:=by exact bS))))|exact cT (h:=by first|exact bS|exact dU (h:=by first|exact bS|exact dU (h:=by first|exact bS|exact dU (h:=by exact bS)|exact cT (h:=by exact bS))|exact cT (h:=by first|exact bS|exact dU (h:=by exact bS)|exact cT (h:=by exact bS)))|exact cT (h:=by first|exact bS|exact dU (h:=by first|exact bS|exact dU (h:=by exact bS)|exact cT (h:=by exact bS))|exact cT (h:=by first|exact bS|exact dU (h:=by exact bS)|exact cT (h:=by exact bS)))))|exact cT (h:=by first|exact bS|exact dU (h:=by first|exact bS|exact dU (h:=by first|exact bS|exact dU (h:=by first|exact bS|exact dU (h:=by exact bS)|exact cT (h:=by exact bS))|exact cT (h:=by first|exact bS|exact dU (h:=by exact bS)|exact cT (h:=by exact bS)))|exact cT (h:=by first|exact bS|exact dU (h:=by first|exact bS|exact dU (h:=by exact bS)|exact cT (h:=by exact bS))|exact cT (h:=by first|exact bS|exact dU (h:=by exact bS)|exact cT (h:=by exact bS))))|exact cT (h:=by first|exact bS|exact dU (h:=by first|exact bS|exact dU (h:=by first|exact bS|exact dU (h:=by exact bS)|exact cT (h:=by exact bS))|exact cT (h:=by first|exact bS|exact dU (h:=by exact bS)|exact cT (h:=by exact bS)))|exact cT (h:=by first|exact bS|exact dU (h:=by first|exact bS|exact dU (h:=by exact bS)|exact cT (h:=by exact bS))|exact cT (h:=by first|exact bS|exact dU (h:=by exact bS)|exact cT (h:=by exact bS)))))) (ht:iW (U0 vs)=some v:=by exact rfl):
  dJ P fn K e a C:=by
 obtain⟨C',he,hk⟩:=h
 cases e <;> first|(cases hE;done)|exact Ann hl hv ht he hk|exact retC_n hl hv ht he hk
theorem aM (he:aG C C') (hk:K v C'):dK C K v:=⟨C',he,hk⟩
theorem aB (hk:K v C') (he:aG C C':=by((iterate 30 (try(first|exact aG.refl _|exact aG.nil|(apply aG.pick;focus ((repeat (first|exact aW.here|apply aW.there)) <;> exact aW.here))|(apply aG.pickP;focus ((repeat (first|exact pers_ro _ _ _|exact pZ _ _ _|exact pers_pure _|refine pers_sep ?_ ?_|refine pers_ex fun _=>?_)) <;> exact pers_pure _);focus ((repeat (first|exact aW.here|apply aW.there)) <;> exact aW.here))|(apply aG.pure;focus (first|assumption|exact rfl|omega))|apply aG.nilrow'|apply aG.ex|apply aG.sep|apply aG.drop))) <;> exact aG.nil)):dK C K v:=⟨C',he,hk⟩
theorem CA (he:aG C C':=by((iterate 30 (try(first|exact aG.refl _|exact aG.nil|(apply aG.pick;focus ((repeat (first|exact aW.here|apply aW.there)) <;> exact aW.here))|(apply aG.pickP;focus ((repeat (first|exact pers_ro _ _ _|exact pZ _ _ _|exact pers_pure _|refine pers_sep ?_ ?_|refine pers_ex fun _=>?_)) <;> exact pers_pure _);focus ((repeat (first|exact aW.here|apply aW.there)) <;> exact aW.here))|(apply aG.pure;focus (first|assumption|exact rfl|omega))|apply aG.nilrow'|apply aG.ex|apply aG.sep|apply aG.drop))) <;> exact aG.nil)) (h:aA P f args C' K):aA P f args C K:=aA.ent he h
theorem kv {v':Value} (h:K v C) (e:v=v'):K v' C:=e▸h
theorem ki {k:IntKind} {x y:Int} (h:K (.int k x) C) (e:x=y):K (.int k y) C:=e▸h
theorem kb {b c:Bool} (h:K (.bool b) C) (e:(b=true)↔(c=true)):K (.bool c) C:=by
 have:b=c:=by cases b <;> cases c <;> simp_all
 exact this▸h
def aU (n:Nat) (I:Nat->Fr->List HP->Prop) (a:Fr) (C:List HP):Prop:=∃m C'',m<n/\aG C C''/\I m a C''
theorem jA (I:Nat->Fr->List HP->Prop) (n:Nat) (h0:aU (n+1) I a C) (hr:∀n a C,I n a C->fL P x (bM (aU n I) Q) a C):fL P (.loop x) Q a C:=by
 obtain⟨m,C0,_,he,hI⟩:=h0
 exact Amj I m C0 he hI hr
theorem cJ {n:Nat} {I:Nat->Fr->List HP->Prop} (m:Nat) (hi:I m a C') (hm:m<n:=by omega) (he:aG C C':=by((iterate 30 (try(first|exact aG.refl _|exact aG.nil|(apply aG.pick;focus ((repeat (first|exact aW.here|apply aW.there)) <;> exact aW.here))|(apply aG.pickP;focus ((repeat (first|exact pers_ro _ _ _|exact pZ _ _ _|exact pers_pure _|refine pers_sep ?_ ?_|refine pers_ex fun _=>?_)) <;> exact pers_pure _);focus ((repeat (first|exact aW.here|apply aW.there)) <;> exact aW.here))|(apply aG.pure;focus (first|assumption|exact rfl|omega))|apply aG.nilrow'|apply aG.ex|apply aG.sep|apply aG.drop))) <;> exact aG.nil)):aU n I a C:=⟨m,C',hm,he,hi⟩
def dI (I:Fr->List HP->Prop) (a:Fr) (C:List HP):Prop:=∃C'',aG C C''/\I a C''
theorem Acu {I:Fr->List HP->Prop} (hi:I a C') (he:aG C C':=by((iterate 30 (try(first|exact aG.refl _|exact aG.nil|(apply aG.pick;focus ((repeat (first|exact aW.here|apply aW.there)) <;> exact aW.here))|(apply aG.pickP;focus ((repeat (first|exact pers_ro _ _ _|exact pZ _ _ _|exact pers_pure _|refine pers_sep ?_ ?_|refine pers_ex fun _=>?_)) <;> exact pers_pure _);focus ((repeat (first|exact aW.here|apply aW.there)) <;> exact aW.here))|(apply aG.pure;focus (first|assumption|exact rfl|omega))|apply aG.nilrow'|apply aG.ex|apply aG.sep|apply aG.drop))) <;> exact aG.nil)):dI I a C:=⟨C',he,hi⟩
structure Aqf (p:Prop):Prop where
 h:p
end Go.Sl
end
