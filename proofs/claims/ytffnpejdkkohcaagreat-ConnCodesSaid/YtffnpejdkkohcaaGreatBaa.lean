/- A part of the proof: lemmas; each with the conditions that it states. -/
import Derived.Calls
import Derived.Laws.Sem
import Derived.Laws.World
import Derived.Orders
import Derived.Below
import Derived.Tactics
import Derived.Scope
set_option linter.unusedVariables false
set_option linter.unusedSimpArgs false
section
namespace Go.Sl
variable {r B:Nat} {w w':World}
abbrev PO (x:Nat):Value:=.pointer (some ⟨x,0,none⟩)
abbrev I6 (n:Int):Value:=.int .i64 n
abbrev Fr:=Nat->Value
inductive sM where
 |cells (cs:List Value) (e:TypeId) (rw:Bool)
 |obj (o:Obj)
variable {b:sM}
def sM.own:sM->Bool
 |.cells _ _ rw=>rw
 |.obj _=>true
abbrev Hp:=Nat->Option sM
variable {H H1 H2 H':Hp}
def hupd (H:Hp) (r:Nat) (b:sM):Hp:=fun i=>if i=r then some b else H i
theorem kL (H:Hp) (r:Nat) (b:sM):hupd H r b r=some b:=by simp[hupd]
theorem jJ (H:Hp) {i:Nat} (b:sM) (h:i≠r):hupd H r b i=H i:=by simp[hupd,h]
def vB:Obj->Bool
 |.cells ..=>false
 |_=>true
def xJ (w:World) (B:Nat):sM->Prop
 |.cells cs e rw=>∃arr fz,w.heap[B]?=some (.cells arr e fz)/\arr.toList=cs/\(rw=true->cs.length<=fz.1\/fz.1=fz.2)
 |.obj o=>w.heap[B]?=some o/\vB o=true
theorem xJ.lt (h:xJ w B b):B<w.heap.size:=by
 have key:∀o,w.heap[B]?=some o->B<w.heap.size:=fun o ho=>by
  rcases Nat.lt_or_ge B w.heap.size with h'|h'
  ·exact h'
  ·rw[Array.getElem?_eq_none h'] at ho;cases ho
 cases b with
 |cells cs e rw=>obtain⟨arr,fz,h1,_⟩:=h;exact key _ h1
 |obj o=>exact key _ h.1
theorem xJ.of_heap (h:xJ w B b) (hh:w'.heap[B]?=w.heap[B]?):xJ w' B b:=by
 cases b with
 |cells cs e rw=>obtain⟨arr,fz,h1,h2⟩:=h;exact⟨arr,fz,hh.trans h1,h2⟩
 |obj o=>exact⟨hh.trans h.1,h.2⟩
structure AX (own:Nat->Prop) (H:Hp) (w:World):Prop where
 is:∀B b,H B=some b->xJ w B b
 mine:∀B b,H B=some b->b.own=true->own B
 tail:∀i,w.heap.size<=i->own i
structure I5 (own:Nat->Prop) (w w':World):Prop where
 os:w'.os=w.os
 tape:w'.tape=w.tape
 output:w'.output=w.output
 size:w.heap.size<=w'.heap.size
 kept:∀i,i<w.heap.size->¬own i->w'.heap[i]?=w.heap[i]?
theorem I5.refl (own:Nat->Prop) (w:World):I5 own w w:=⟨rfl,rfl,rfl,Nat.le_refl _,fun _ _ _=>rfl⟩
theorem I5.trans {own:Nat->Prop} {a b c:World} (h:I5 own a b) (k:I5 own b c):I5 own a c:=
 ⟨k.os.trans h.os,k.tape.trans h.tape,k.output.trans h.output,Nat.le_trans h.size k.size,
  fun i hi ho=>(k.kept i (Nat.lt_of_lt_of_le hi h.size) ho).trans (h.kept i hi ho)⟩
structure To (own:Nat->Prop) (w:World) (H:Hp) (w':World) (H':Hp):Prop where
 sat:AX own H' w'
 chg:I5 own w w'
 dom:∀B,B<w.heap.size->H B=none->H' B=none
theorem To.refl {own:Nat->Prop} (h:AX own H w):To own w H w H:=⟨h,.refl _ _,fun _ _ h=>h⟩
theorem To.trans {own:Nat->Prop} {w1 w2:World} (h:To own w H w1 H1) (k:To own w1 H1 w2 H2):To own w H w2 H2:=
 ⟨k.sat,h.chg.trans k.chg,fun B hB hn=>k.dom B (Nat.lt_of_lt_of_le hB h.chg.size) (h.dom B hB hn)⟩
def xR (H' H:Hp):Prop:=∀B b,H' B=some b->H B=some b
theorem xR.refl (H:Hp):xR H H:=fun _ _ h=>h
theorem xR.trans {A B C:Hp} (h:xR A B) (k:xR B C):xR A C:=fun _ _ x=>k _ _ (h _ _ x)
theorem xR.hupd_fresh (h:xR H' H) (hr:H r=none):xR H' (hupd H r b):=fun B c hc=>by
 have:=h B c hc
 rw[jJ _ _ (fun e=>by subst e;rw[hr] at this;cases this)]
 exact this
theorem AX.sub {own:Nat->Prop} (h:AX own H w) (hs:xR H' H):AX own H' w:=
 ⟨fun B b hb=>h.is B b (hs B b hb),fun B b hb=>h.mine B b (hs B b hb),h.tail⟩
theorem To.sub {own:Nat->Prop} (h:To own w H w' H1) (hs:xR H2 H1):To own w H w' H2:=
 ⟨h.sat.sub hs,h.chg,fun B hB hn=>by
  have:=h.dom B hB hn
  cases h2:H2 B with
  |none=>rfl
  |some b=>have:=hs B b h2;simp_all⟩
theorem AX.lt {own:Nat->Prop} (h:AX own H w) (hb:H B=some b):B<w.heap.size:=(h.is B b hb).lt
theorem AX.fresh {own:Nat->Prop} (h:AX own H w) (hB:w.heap.size<=B):H B=none:=by
 cases hb:H B with
 |none=>rfl
 |some b=>have:=h.lt hb;omega
end Go.Sl
namespace Go
open Go.Sl
def Sem.ev (P:Program) {α:Type}:Sem α->Hp->(α->Hp->Prop)->Prop
 |.pure a,H,k=>k a H
 |.load _ a c,H,k=>∃cs e rw v,H a.block=some (.cells cs e rw)/\a.spot=none/\cs[a.off]?=some v/\(c v).ev P H k
 |.store _ a v c,H,k=>v.oneCell'=true/\∃cs e,H a.block=some (.cells cs e true)/\a.spot=none/\a.off<cs.length/\
   c.ev P (hupd H a.block (.cells (cs.set a.off v) e true)) k
 |.new o c,H,k=>∀r,H r=none->match o with
   |.cells arr e fz=>fz=(0,0)/\(c r).ev P (hupd H r (.cells arr.toList e true)) k
   |o=>(c r).ev P (hupd H r (.obj o)) k
 |.shape r c,H,k=>match H r with
   |some (.cells cs e _)=>(c (some (e,cs.length))).ev P H k
   |some (.obj _)=>(c none).ev P H k
   |none=>False
 |.freeze a n c,H,k=>if n=0 then c.ev P H k else ∃cs e,H a.block=some (.cells cs e true)/\cs.length<=a.off/\c.ev P H k
 |.frozen a c,H,k=>match H a.block with
   |some (.cells cs _ true)=>if a.off<cs.length then(c false).ev P H k else ∀b,(c b).ev P H k
   |_=>∀b,(c b).ev P H k
 |.getObj r c,H,k=>∃o,H r=some (.obj o)/\(c o).ev P H k
 |.setObj r o c,H,k=>(∃o',H r=some (.obj o'))/\vB o=true/\c.ev P (hupd H r (.obj o)) k
 |.choose q c,H,k=>if q.forced then(c 0).ev P H k else ∀n,(c (q.cut n)).ev P H k
 |.sys _ _,_,_=>False
 |.program c,H,k=>(c P).ev P H k
 |.mark _ c,H,k=>c.ev P H k
 |.halt _,_,_=>False
end Go
namespace Go.Sl
variable {w:World} {B off r:Nat} {cs:List Value} {e:TypeId} {own:Nat->Prop} {H:Hp} {a:Addr} {o:Obj} {b:sM} {α β:Type}
theorem xJ.cell {rw:Bool} (h:xJ w B (.cells cs e rw)) (off:Nat):
  w.cell? ⟨B,off,none⟩=cs[off]?:=by
 obtain⟨arr,fz,h1,h2,_⟩:=h
 simp[World.cell?,h1,<- h2]
theorem xJ.free (h:xJ w B (.cells cs e true)) (ho:off<cs.length) (sp:Option Nat):
  w.frozen? ⟨B,off,sp⟩=false:=by
 obtain⟨arr,fz,h1,h2,h3⟩:=h
 have:=h3 rfl
 simp only[World.frozen?,h1,Bool.and_eq_false_iff,decide_eq_false_iff_not]
 omega
theorem AX.setCell (h:AX own H w) (hb:H B=some (.cells cs e true)) (v:Value):
  AX own (hupd H B (.cells (cs.set off v) e true)) (w.setCell ⟨B,off,none⟩ v):=by
 refine⟨fun C c hc=>?_,fun C c hc ho=>?_,fun i hi=>h.tail i (by simpa using hi)⟩
 ·by_cases hC:C=B
  ·subst hC
   rw[kL] at hc
   cases hc
   obtain⟨arr,fz,h1,h2,h3⟩:=h.is _ _ hb
   refine⟨arr.setIfInBounds off v,fz,?_,by simp[<- h2],?_⟩
   ·simp[World.setCell,Array.getElem?_modify,h1]
   ·simpa using h3
  ·rw[jJ _ _ hC] at hc
   refine(h.is C c hc).of_heap ?_
   simp only[World.setCell,Array.getElem?_modify]
   simp[Ne.symm hC]
 ·by_cases hC:C=B
  ·subst hC;exact h.mine _ _ hb rfl
  ·rw[jJ _ _ hC] at hc;exact h.mine C c hc ho
theorem I5.setCell (h:own a.block) (v:Value):I5 own w (w.setCell a v):=by
 refine⟨rfl,rfl,rfl,by simp,fun i _ ho=>?_⟩
 have hne:a.block≠i:=fun e=>ho (e▸h)
 simp only[World.setCell,Array.getElem?_modify]
 simp[hne]
theorem AX.alloc (h:AX own H w) (hb:∀w',w'.heap[w.heap.size]?=some o->xJ w' w.heap.size b):
  AX own (hupd H w.heap.size b) (w.alloc o):=by
 have hn:(w.alloc o).heap[w.heap.size]?=some o:=by simp only[World.alloc,Array.getElem?_push];simp
 refine⟨fun C c hc=>?_,fun C c hc ho=>?_,fun i hi=>h.tail i (by simp at hi;omega)⟩
 ·by_cases hC:C=w.heap.size
  ·subst hC;rw[kL] at hc;cases hc;exact hb _ hn
  ·rw[jJ _ _ hC] at hc
   refine(h.is C c hc).of_heap ?_
   exact RowKit.Below.heap_alloc w o C (h.lt hc)
 ·by_cases hC:C=w.heap.size
  ·subst hC;exact h.tail _ (Nat.le_refl _)
  ·rw[jJ _ _ hC] at hc;exact h.mine C c hc ho
theorem I5.alloc (own:Nat->Prop) (w:World) (o:Obj):I5 own w (w.alloc o):=
 ⟨rfl,rfl,rfl,by simp,fun i hi _=>RowKit.Below.heap_alloc w o i hi⟩
theorem AX.setObj (h:AX own H w) {o':Obj} (hr:H r=some (.obj o')) (hn:vB o=true):
  AX own (hupd H r (.obj o)) { w with heap:=w.heap.setIfInBounds r o }:=by
 have hlt:=h.lt hr
 refine⟨fun C c hc=>?_,fun C c hc ho=>?_,fun i hi=>h.tail i (by simpa using hi)⟩
 ·by_cases hC:C=r
  ·subst hC;rw[kL] at hc;cases hc
   exact⟨by simp[hlt],hn⟩
  ·rw[jJ _ _ hC] at hc
   exact(h.is C c hc).of_heap (by simp[Array.getElem?_setIfInBounds_ne (Ne.symm hC)])
 ·by_cases hC:C=r
  ·subst hC;exact h.mine _ _ hr rfl
  ·rw[jJ _ _ hC] at hc;exact h.mine C c hc ho
theorem AX.freeze (h:AX own H w) {n:Nat} (hb:H a.block=some (.cells cs e true)) (ho:cs.length<=a.off):
  AX own H (w.freeze a n):=by
 by_cases h0:n=0
 ·simpa[World.freeze,h0] using h
 refine⟨fun C c hc=>?_,h.mine,fun i hi=>h.tail i (by simpa[World.freeze,h0] using hi)⟩
 by_cases hC:C=a.block
 ·subst hC
  rw[hb] at hc;cases hc
  obtain⟨arr,fz,h1,h2,h3⟩:=h.is _ _ hb
  obtain⟨lo,hi⟩:=fz
  refine⟨arr,(if lo == hi then(a.off,a.off+n) else(min lo a.off,max hi (a.off+n))),?_,h2,fun _=>?_⟩
  ·simp[World.freeze,h0,Array.getElem?_modify,h1]
  ·have h3':=h3 rfl
   by_cases hl:lo=hi
   ·simp[hl];omega
   ·have hbe:(lo == hi)=false:=by simp[hl]
    simp only[hbe,Bool.false_eq_true,if_false]
    simp only at h3' ⊢
    omega
 ·refine(h.is C c hc).of_heap ?_
  simp[World.freeze,h0,Array.getElem?_modify,Ne.symm hC]
theorem I5.freeze (h:own a.block) (n:Nat):I5 own w (w.freeze a n):=by
 by_cases h0:n=0
 ·simpa[World.freeze,h0] using I5.refl own w
 refine⟨by simp[World.freeze,h0],by simp[World.freeze,h0],by simp[World.freeze,h0],by simp[World.freeze,h0],fun i _ ho=>?_⟩
 have hne:a.block≠i:=fun e=>ho (e▸h)
 simp[World.freeze,h0,Array.getElem?_modify,hne]
theorem AX.drew (h:AX own H w):AX own H { w with drawn:=w.drawn+1 }:=
 ⟨fun B b hb=>(h.is B b hb).of_heap rfl,h.mine,h.tail⟩
theorem I5.drew (own:Nat->Prop) (w:World):I5 own w { w with drawn:=w.drawn+1 }:=⟨rfl,rfl,rfl,Nat.le_refl _,fun _ _ _=>rfl⟩
theorem IF (hr:H r≠none\/w.heap.size<=r):∀B,B<w.heap.size->H B=none->hupd H r b B=none:=fun B hB hn=>by
 rw[jJ]
 ·exact hn
 ·rintro rfl
  rcases hr with hr|hr
  ·exact hr hn
  ·omega
theorem OS (P:Program) (own:Nat->Prop) (s:Sem α):∀(H:Hp) (w:World) (k:α->Hp->Prop),s.ev P H k->AX own H w->
  ∃x w' H',s.run P w=.ok x w'/\k x H'/\To own w H w' H':=by
 induction s with
 |pure a=>exact fun H w k h hs=>⟨a,w,H,rfl,h,.refl hs⟩
 |load m a c ih=>
  intro H w k h hs
  obtain⟨cs,e,rw,v,hb,hsp,hv,hk⟩:=h
  obtain⟨x,w',H',hr,hk',ht⟩:=ih v H w k hk hs
  obtain⟨B,off,sp⟩:=a
  simp only at hsp hb hv
  subst hsp
  have hc:=(hs.is _ _ hb).cell off
  exact⟨x,w',H',by simp only[Sem.run,hc,hv];exact hr,hk',ht⟩
 |store m a v c ih=>
  intro H w k h hs
  obtain⟨mS,cs,e,hb,hsp,hlt,hk⟩:=h
  obtain⟨B,off,sp⟩:=a
  simp only at hsp hb hlt hk
  subst hsp
  have hc:=(hs.is _ _ hb).cell off
  have hf:=(hs.is _ _ hb).free hlt none
  obtain⟨x,w',H',hr,hk',ht⟩:=ih _ (w.setCell ⟨B,off,none⟩ v) k hk (hs.setCell hb v)
  have hcv:w.cell? ⟨B,off,none⟩=some cs[off]:=by rw[hc,List.getElem?_eq_getElem hlt]
  refine⟨x,w',H',?_,hk',⟨ht.sat,(I5.setCell (hs.mine _ _ hb rfl) v).trans ht.chg,?_⟩⟩
  ·cases v <;> first|(simp[Value.oneCell'] at mS;done)|(simp only[Sem.run,hcv,hf];simpa using hr)
  ·intro C hC hn
   exact ht.dom C (by simpa using hC) (IF (.inl (by rw[hb];simp)) C hC hn)
 |new o c ih=>
  intro H w k h hs
  have h0:=h w.heap.size (hs.fresh (Nat.le_refl _))
  have hfin:∀b,(∀w',w'.heap[w.heap.size]?=some o->xJ w' w.heap.size b)->(c w.heap.size).ev P (hupd H w.heap.size b) k->
    ∃x w' H',(Sem.new o c).run P w=.ok x w'/\k x H'/\To own w H w' H':=fun b hb hk=>by
   obtain⟨x,w',H',hr,hk',ht⟩:=ih _ _ (w.alloc o) k hk (hs.alloc hb)
   exact⟨x,w',H',by simp only[Sem.run,World.alloc_eq];exact hr,hk',ht.sat,(I5.alloc own w o).trans ht.chg,
    fun C hC hn=>ht.dom C (by simp;omega) (IF (.inr (Nat.le_refl _)) C hC hn)⟩
  cases o with
  |cells arr e fz=>
   obtain⟨rfl,hk⟩:=h0
   exact hfin (.cells arr.toList e true) (fun w' hw'=>⟨arr,(0,0),hw',rfl,fun _=>.inr rfl⟩) hk
  |_=>exact hfin (.obj _) (fun w' hw'=>⟨hw',rfl⟩) h0
 |shape r c ih=>
  intro H w k h hs
  simp only[Sem.ev] at h
  cases hb:H r with
  |none=>rw[hb] at h;exact h.elim
  |some b=>
   rw[hb] at h
   cases b with
   |cells cs e rw=>
    obtain⟨arr,fz,h1,h2,_⟩:=hs.is _ _ hb
    obtain⟨x,w',H',hr,hk',ht⟩:=ih _ H w k h hs
    refine⟨x,w',H',?_,hk',ht⟩
    have:w.shape? r=some (e,cs.length):=by simp[World.shape?,h1,<- h2]
    simp only[Sem.run,this];exact hr
   |obj o=>
    obtain⟨h1,h2⟩:=hs.is _ _ hb
    obtain⟨x,w',H',hr,hk',ht⟩:=ih _ H w k h hs
    refine⟨x,w',H',?_,hk',ht⟩
    have:w.shape? r=none:=by
     simp only[World.shape?,h1]
     cases o <;> simp_all [vB]
    simp only[Sem.run,this];exact hr
 |freeze a n c ih=>
  intro H w k h hs
  simp only[Sem.ev] at h
  by_cases h0:n=0
  ·simp only[h0,if_true] at h
   obtain⟨x,w',H',hr,hk',ht⟩:=ih H w k h hs
   exact⟨x,w',H',by simp only[Sem.run];simpa[World.freeze,h0] using hr,hk',ht⟩
  ·simp only[h0,if_false] at h
   obtain⟨cs,e,hb,hle,hk⟩:=h
   obtain⟨x,w',H',hr,hk',ht⟩:=ih H (w.freeze a n) k hk (hs.freeze hb hle)
   have hsz:(w.freeze a n).heap.size=w.heap.size:=by simp[World.freeze,h0]
   exact⟨x,w',H',by simp only[Sem.run];exact hr,hk',ht.sat,(I5.freeze (hs.mine _ _ hb rfl) n).trans ht.chg,fun C hC hn=>ht.dom C (by omega) hn⟩
 |frozen a c ih=>
  intro H w k h hs
  have fin:∀b,w.frozen? a=b->(c b).ev P H k->∃x w' H',(Sem.frozen a c).run P w=.ok x w'/\k x H'/\To own w H w' H':=fun b hb hk=>by
   obtain⟨x,w',H',hr,hk',ht⟩:=ih b H w k hk hs
   exact⟨x,w',H',by simp only[Sem.run,hb];exact hr,hk',ht⟩
  simp only[Sem.ev] at h
  split at h
  ·rename_i cs e hb
   split at h
   ·rename_i hlt
    exact fin false ((hs.is _ _ hb).free hlt a.spot) h
   ·exact fin _ rfl (h _)
  ·exact fin _ rfl (h _)
 |getObj r c ih=>
  intro H w k h hs
  obtain⟨o,hb,hk⟩:=h
  obtain⟨h1,h2⟩:=hs.is _ _ hb
  obtain⟨x,w',H',hr,hk',ht⟩:=ih o H w k hk hs
  refine⟨x,w',H',?_,hk',ht⟩
  simp only[Sem.run,h1]
  cases o <;> simp_all [vB]
 |setObj r o c ih=>
  intro H w k h hs
  obtain⟨⟨o',hb⟩,hn,hk⟩:=h
  obtain⟨h1,h2⟩:=hs.is _ _ hb
  obtain⟨x,w',H',hr,hk',ht⟩:=ih _ { w with heap:=w.heap.setIfInBounds r o } k hk (hs.setObj hb hn)
  have hc:I5 own w { w with heap:=w.heap.setIfInBounds r o }:=⟨rfl,rfl,rfl,by simp,fun i hi ho=>by
   have:r≠i:=fun e=>ho (e▸hs.mine _ _ hb rfl)
   exact Array.getElem?_setIfInBounds_ne this⟩
  refine⟨x,w',H',?_,hk',ht.sat,hc.trans ht.chg,fun C hC hn'=>ht.dom C (by simpa using hC) (IF (.inl (by rw[hb];simp)) C hC hn')⟩
  simp only[Sem.run,h1]
  cases o' <;> simp_all [vB]
 |choose q c ih=>
  intro H w k h hs
  simp only[Sem.ev] at h
  by_cases hq:q.forced=true
  ·simp only[hq,if_true] at h
   obtain⟨x,w',H',hr,hk',ht⟩:=ih 0 H w k h hs
   exact⟨x,w',H',by simp only[Sem.run,hq,if_true];exact hr,hk',ht⟩
  ·simp only[hq] at h
   obtain⟨x,w',H',hr,hk',ht⟩:=ih _ H { w with drawn:=w.drawn+1 } k (h (w.tape w.drawn q)) hs.drew
   exact⟨x,w',H',by simp only[Sem.run,hq];simpa using hr,hk',ht.sat,(I5.drew own w).trans ht.chg,fun C hC hn=>ht.dom C hC hn⟩
 |sys c k ih=>exact fun H w k h hs=>h.elim
 |program c ih=>
  intro H w k h hs
  obtain⟨x,w',H',hr,hk',ht⟩:=ih P H w k h hs
  exact⟨x,w',H',by simp only[Sem.run];exact hr,hk',ht⟩
 |mark m c ih=>
  intro H w k h hs
  obtain⟨x,w',H',hr,hk',ht⟩:=ih H w k h hs
  exact⟨x,w',H',by simp only[Sem.run];exact hr,hk',ht⟩
 |halt h=>exact fun H w k h hs=>h.elim
theorem Mn (P:Program) (s:Sem α):∀(H:Hp) (k k':α->Hp->Prop),(∀x H,k x H->k' x H)->s.ev P H k->s.ev P H k':=by
 induction s with
 |pure a=>exact fun H k k' hk h=>hk _ _ h
 |load m a c ih=>exact fun H k k' hk ⟨cs,e,rw,v,h1,h2,h3,h⟩=>⟨cs,e,rw,v,h1,h2,h3,ih v H k k' hk h⟩
 |store m a v c ih=>exact fun H k k' hk ⟨h0,cs,e,h1,h2,h3,h⟩=>⟨h0,cs,e,h1,h2,h3,ih _ k k' hk h⟩
 |new o c ih=>
  intro H k k' hk h r hr
  have:=h r hr
  cases o with
  |cells arr e fz=>exact⟨this.1,ih r _ k k' hk this.2⟩
  |_=>exact ih r _ k k' hk this
 |shape r c ih=>
  intro H k k' hk h
  simp only[Sem.ev] at h ⊢
  split at h
  ·exact ih _ H k k' hk h
  ·exact ih _ H k k' hk h
  ·exact h
 |freeze a n c ih=>
  intro H k k' hk h
  simp only[Sem.ev] at h ⊢
  by_cases hn:n=0
  ·simp only[hn,if_true] at h ⊢;exact ih H k k' hk h
  ·simp only[hn,if_false] at h ⊢;obtain⟨cs,e,h1,h2,h⟩:=h;exact⟨cs,e,h1,h2,ih H k k' hk h⟩
 |frozen a c ih=>
  intro H k k' hk h
  simp only[Sem.ev] at h ⊢
  split at h
  ·rename_i cs e hb
   by_cases hl:a.off<cs.length
   ·simp only[hl,if_true] at h ⊢;exact ih _ H k k' hk h
   ·simp only[hl,if_false] at h ⊢;exact fun b=>ih _ H k k' hk (h b)
  ·exact fun b=>ih _ H k k' hk (h b)
 |getObj r c ih=>exact fun H k k' hk ⟨o,h1,h⟩=>⟨o,h1,ih o H k k' hk h⟩
 |setObj r o c ih=>exact fun H k k' hk ⟨h1,h2,h⟩=>⟨h1,h2,ih _ k k' hk h⟩
 |choose q c ih=>
  intro H k k' hk h
  simp only[Sem.ev] at h ⊢
  by_cases hq:q.forced=true
  ·simp only[hq,if_true] at h ⊢;exact ih 0 H k k' hk h
  ·simp only[hq] at h ⊢;exact fun n=>ih _ H k k' hk (h n)
 |sys c k ih=>exact fun H k k' hk h=>h
 |program c ih=>exact fun H k k' hk h=>ih P H k k' hk h
 |mark m c ih=>exact fun H k k' hk h=>ih H k k' hk h
 |halt h=>exact fun H k k' hk h=>h
theorem Aew (P:Program) (s:Sem α) (f:α->Sem β):∀(H:Hp) (k:β->Hp->Prop),(s.bind f).ev P H k=s.ev P H (fun x H'=>(f x).ev P H' k):=by
 induction s with
 |pure a=>exact fun H k=>rfl
 |load m a c ih=>intro H k;simp only[Sem.bind,Sem.ev,ih]
 |store m a v c ih=>intro H k;simp only[Sem.bind,Sem.ev,ih]
 |new o c ih=>intro H k;simp only[Sem.bind,Sem.ev];cases o <;> simp only[ih]
 |shape r c ih=>intro H k;simp only[Sem.bind,Sem.ev];split <;> simp only[ih]
 |freeze a n c ih=>intro H k;simp only[Sem.bind,Sem.ev,ih]
 |frozen a c ih=>intro H k;simp only[Sem.bind,Sem.ev];split <;> simp only[ih]
 |getObj r c ih=>intro H k;simp only[Sem.bind,Sem.ev,ih]
 |setObj r o c ih=>intro H k;simp only[Sem.bind,Sem.ev,ih]
 |choose q c ih=>intro H k;simp only[Sem.bind,Sem.ev,ih]
 |sys c k ih=>intro H k;rfl
 |program c ih=>intro H k;simp only[Sem.bind,Sem.ev,ih]
 |mark m c ih=>intro H k;simp only[Sem.bind,Sem.ev,ih]
 |halt h=>intro H k;rfl
theorem aI (P:Program) (s:Sem α) (f:α->Sem β) (H:Hp) (k:β->Hp->Prop):(s >>= f).ev P H k=s.ev P H (fun x H'=>(f x).ev P H' k):=Aew P s f H k
end Go.Sl
namespace Go.Sl
variable {i j n:Nat} {a:Fr} {A:Act} {P:Program} {H:Hp} {k k':Value->Hp->Prop} {o:Oper} {own:Nat->Prop}
def kH (a:Fr) (i:Nat) (v:Value):Fr:=fun j=>if j=i then v else a j
theorem ZY (a:Fr) (v:Value) (h:j≠i):kH a i v j=a j:=by simp[kH,h]
theorem Aae (a:Fr) (v u:Value) (h:i≠j):kH (kH a i v) j u=kH (kH a j u) i v:=by
 funext k;unfold kH
 by_cases h1:k=j <;> by_cases h2:k=i <;> simp_all
def fE (a:Fr) (d:Option Tmp) (v:Value):Fr:=match d with
 |some d=>kH a d v
 |none=>a
def bJ (a:Fr):Operand->Value
 |.tmp t=>a t
 |.const v=>v
 |.global g=>.pointer (some ⟨g,0,none⟩)
 |.func f=>.func (.func f) #[] #[]
structure xX (n:Nat) (a:Fr) (A:Act):Prop where
 size:A.tmps.size=n
 get:∀t,A.tmps.getD t undef=a t
 defers:A.defers= []
theorem xX.eval (h:xX n a A):A.eval=bJ a:=by
 funext x
 cases x with
 |tmp t=>exact h.get t
 |_=>rfl
theorem xX.put (h:xX n a A) (d:Option Tmp) (hd:∀t,d=some t->t<n) (v:Value):xX n (fE a d v) (A.put d v):=by
 cases d with
 |none=>exact h
 |some d=>
  refine⟨by simpa[Act.put] using h.size,fun t=>?_,h.defers⟩
  have hlt:d<A.tmps.size:=by rw[h.size];exact hd d rfl
  have hg:=h.get t
  simp only[Act.put,fE,kH,Array.getD_eq_getD_getElem?] at hg ⊢
  by_cases ht:t=d
  ·subst ht;simp[hlt]
  ·rw[Array.getElem?_setIfInBounds_ne (Ne.symm ht)];simp[ht,hg]
def Ft (ops:Array Oper) (a:Fr) (j:Nat):Option Bool:=
 match ((ops[j]?).bind (·.dst)).map a with
 |some (.bool b)=>some b
 |_=>none
theorem GK (b:Bool):undef≠.bool b:=by unfold undef;simp
theorem xX.yielded (h:xX n a A) (ops:Array Oper) (j:Nat):Go.yielded ops A.tmps j=Ft ops a j:=by
 unfold Go.yielded Ft
 cases hd:(ops[j]?).bind (·.dst) with
 |none=>rfl
 |some t=>
  have hg:=h.get t
  simp only[Option.bind_some,Option.map_some]
  rw[Array.getD_eq_getD_getElem?] at hg
  cases ht:A.tmps[t]? with
  |some v=>rw[ht] at hg;simp at hg;subst hg;rfl
  |none=>
   rw[ht] at hg;simp at hg
   rw[<- hg]
   simp only
   split
   ·rename_i b hb;exact absurd (Option.some.inj hb) (GK b)
   ·rfl
def bD (ops:Array Oper) (o:Oper) (a:Fr):Bool:=Region.wanted o (Ft ops a)
theorem xX.wanted (h:xX n a A) (ops:Array Oper) (o:Oper):Region.wanted o (Go.yielded ops A.tmps)=bD ops o a:=by
 unfold bD Region.wanted
 split
 ·rfl
 ·rw[h.yielded]
structure qG (P:Program) (f:FuncId) (args:Array Value) (H:Hp) (K:Value->Hp->Prop):Prop where
 has:∃fn,P.funcs[f]?=some fn/\fn.body.isNone=false/\(fn.name == "runtime.NumGoroutine")=false
 run:∀own w,AX own H w->Calls P f args w fun e w'=>∃v H',e=.returned v/\K v H'/\To own w H w' H'
theorem qG.mono {f:FuncId} {args:Array Value} {K K':Value->Hp->Prop} (h:qG P f args H K) (hk:∀v H',K v H'->K' v H'):qG P f args H K':=
 ⟨h.has,fun own w hs=>(h.run own w hs).mono fun _ _ ⟨v,H',he,hv,ht⟩=>⟨v,H',he,hk _ _ hv,ht⟩⟩
def nxt (P:Program) (k:Value->Hp->Prop):Next->Hp->Prop
 |.value v,H=>k v H
 |.skip,H=>k undef H
 |.enter f args,H=>qG P f args H k
 |_,_=>False
theorem NX (h:∀v H,k v H->k' v H):∀x H,nxt P k x H->nxt P k' x H:=fun x H hx=>by
 cases x <;> first|exact hx|exact h _ _ hx|exact qG.mono hx h
def wk (k:Value->Hp->Prop):Value->Hp->Prop:=fun v H=>∃H',xR H' H/\k v H'
theorem Ad7 (h:∀v H,k v H->k' v H):∀v H,wk k v H->wk k' v H:=fun _ _ ⟨H',hs,hk⟩=>⟨H',hs,h _ _ hk⟩
def lD (P:Program) (o:Oper) (a:Fr) (H:Hp) (k:Value->Hp->Prop):Prop:=(execOp (bJ a) o).ev P H (nxt P (wk k))
theorem fI (h:(execOp (bJ a) o).ev P H (nxt P k)):lD P o a H k:=
 Mn P _ H _ _ (NX fun _ H hk=>⟨H,xR.refl _,hk⟩) h
theorem oH (h:∀v H,k v H->k' v H) (hh:lD P o a H k):lD P o a H k':=
 Mn P _ H _ _ (NX (Ad7 h)) hh
theorem Cx {w:World} (h:lD P o a H k) (hs:AX own H w) (hf:xX n a A)
  {K:Act->World->Prop} {Q:Exit->Act->World->Prop} (hK:∀v w' H',k v H'->To own w H w' H'->K (A.put o.dst v) w'):o.wp P A w K Q:=by
 obtain⟨x,w',H',hr,hk,ht⟩:=OS P own _ H w _ h hs
 unfold Oper.wp
 rw[hf.eval,hr]
 cases x with
 |value v=>obtain⟨H'',hsub,hk⟩:=hk;exact hK v w' H'' hk (ht.sub hsub)
 |skip=>obtain⟨H'',hsub,hk⟩:=hk;exact hK undef w' H'' hk (ht.sub hsub)
 |enter f args=>
  refine(qG.run hk own w' ht.sat).mono ?_
  rintro e w'' ⟨v,H'',rfl,⟨H3,hsub,hv⟩,ht'⟩
  exact hK v w'' H3 hv (ht.trans (ht'.sub hsub))
 |_=>exact hk.elim
structure Br (b:Bool) (t e:Prop):Prop where
 yes:b=true->t
 no:b=false->e
def cU (g:Bool) (v:Value) (k:Value->Prop):Prop:=
 match g,v with
 |true,.bool b=>Br b (k (.bool true)) (k (.bool false))
 |_,v=>k v
theorem cH (g:Bool) (v:Value) (k:Value->Prop):cU g v k↔k v:=by
 unfold cU
 split
 ·rename_i b
  cases b
  ·exact⟨fun h=>h.no rfl,fun h=>⟨fun h'=>(by cases h'),fun _=>h⟩⟩
  ·exact⟨fun h=>h.yes rfl,fun h=>⟨fun _=>h,fun h'=>(by cases h')⟩⟩
 ·exact Iff.rfl
def Qh (ops:Array Oper) (i:Nat):Bool:=ops.toList.any fun o=>match o.guard with
 |some (j,_)=>Nat.beq j i
 |none=>false
def Jz (P:Program) (ops:Array Oper) (Q:Fr->Hp->Prop):Nat->List Oper->Fr->Hp->Prop
 |_,[],a,H=>Q a H
 |i,o::rest,a,H=>
  if bD ops o a=true then lD P o a H fun v H'=>cU (Qh ops i) v fun v=>Jz P ops Q (i+1) rest (fE a o.dst v) H'
  else Jz P ops Q (i+1) rest (fE a o.dst undef) H
def B8 (n:Nat) (o:Oper):Bool:=match o.dst with
 |some d=>Nat.blt d n
 |none=>true
theorem Ck (h:B8 n o=true):∀t,o.dst=some t->t<n:=fun t ht=>by
 unfold B8 at h;rw[ht] at h;simpa using h
def Vv (own:Nat->Prop) (n:Nat) (w0:World) (H0:Hp) (Q:Exit->Fr->Hp->Prop):Exit->Act->World->Prop:=
 fun e A w=>∃a H,Q e a H/\xX n a A/\To own w0 H0 w H
theorem Xg {ops:Array Oper} {w0:World} {H0:Hp} {Q:Exit->Fr->Hp->Prop} (l:List Oper):
  ∀(i:Nat) (a:Fr) (H:Hp) (A:Act) (w:World),(∀o∈l,B8 n o=true)->Jz P ops (Q .normal) i l a H->xX n a A->To own w0 H0 w H->
   wpList P ops (Vv own n w0 H0 Q) l A w:=by
 induction l with
 |nil=>exact fun i a H A w _ h hf ht=>⟨a,H,h,hf,ht⟩
 |cons o rest ih=>
  intro i a H A w hd h hf ht
  have hdo:=Ck (hd o (by simp))
  have hdr:∀o∈rest,B8 n o=true:=fun x hx=>hd x (by simp[hx])
  refine wpList_step fun K hK=>?_
  rw[hf.wanted]
  unfold Jz at h
  split at h
  ·rename_i hw
   rw[if_pos hw]
   refine Cx h ht.sat hf fun v w' H' hk ht'=>hK _ _ ?_
   rw[cH] at hk
   exact ih (i+1) _ _ _ _ hdr hk (hf.put o.dst hdo v) (ht.trans ht')
  ·rename_i hw
   rw[if_neg hw]
   exact hK _ _ (ih (i+1) _ _ _ _ hdr h (hf.put o.dst hdo undef) ht)
def T7 (K:Fr->Hp->Prop) (Q:Exit->Fr->Hp->Prop):Exit->Fr->Hp->Prop
 |Exit.normal=>K
 |e=>Q e
def AK (id:Nat) (Q:Exit->Fr->Hp->Prop):Exit->Fr->Hp->Prop
 |Exit.exit j=>if j=id then Q .normal else Q (.exit j)
 |e=>Q e
def Tm (Q:Exit->Fr->Hp->Prop):Exit->Fr->Hp->Prop
 |Exit.goto _=>fun _ _=>False
 |e=>Q e
end Go.Sl
namespace Go.Sl
end Go.Sl
namespace Go
open Go.Sl
def Sem.pr (P:Program) {α:Type}:Sem α->Option α
 |.pure a=>some a
 |.program k=>(k P).pr P
 |.mark _ k=>k.pr P
 |_=>none
end Go
namespace Go.Sl
end Go.Sl
namespace Go
open Go.Sl
def Sem.rd (P:Program) {α:Type}:Sem α->Hp->Option α
 |.pure a,_=>some a
 |.load _ a c,H=>match H a.block with
   |some (.cells cs _ _)=>if a.spot.isNone then match cs[a.off]? with
     |some v=>(c v).rd P H
     |none=>none
    else none
   |_=>none
 |.program k,H=>(k P).rd P H
 |.mark _ k,H=>k.rd P H
 |.getObj r c,H=>match H r with
   |some (.obj o)=>(c o).rd P H
   |_=>none
 |_,_=>none
end Go
namespace Go.Sl
variable {α:Type} {own:Nat->Prop} {H:Hp} {w:World} {P:Program} {o:Oper} {a:Fr} {v:Value} {ops:Array Oper} {k:Value->Hp->Prop} {Q:Fr->Hp->Prop} {i c:Nat} {rest:List (Nat×Nat)} {hist:List Hp}
theorem Ahm (P:Program) (s:Sem α):∀(H:Hp) (x:α),s.pr P=some x->s.rd P H=some x:=by
 induction s with
 |pure a=>exact fun H x h=>h
 |program k ih=>exact fun H x h=>ih P H x h
 |mark m k ih=>exact fun H x h=>ih H x h
 |_=>exact fun H x h=>by cases h
theorem XC (P:Program) (hs:AX own H w) (s:Sem α):∀(x:α),s.rd P H=some x->s.run P w=.ok x w:=by
 induction s with
 |pure a=>exact fun x h=>by simp[Sem.rd] at h;subst h;rfl
 |program k ih=>exact fun x h=>ih P x h
 |mark m k ih=>exact fun x h=>ih x h
 |getObj r c ih=>
  intro x h
  simp only[Sem.rd] at h
  split at h
  ·rename_i o hb
   obtain⟨h1,h2⟩:=hs.is _ _ hb
   simp only[Sem.run,h1]
   cases o <;> first|(simp[vB] at h2;done)|exact ih _ x h
  ·cases h
 |load m a c ih=>
  intro x h
  obtain⟨B,off,sp⟩:=a
  simp only[Sem.rd] at h
  split at h
  ·rename_i cs e rw hb
   split at h
   ·rename_i hsp
    cases sp with
    |some _=>simp at hsp
    |none=>
     split at h
     ·rename_i v hv
      have:=(hs.is _ _ hb).cell off
      simp only[Sem.run,this,hv]
      exact ih v x h
     ·cases h
   ·cases h
  ·cases h
 |_=>exact fun x h=>by cases h
theorem Ahe (P:Program) (s:Sem α):∀(x:α) (k:α->Hp->Prop),s.rd P H=some x->k x H->s.ev P H k:=by
 induction s with
 |pure a=>exact fun x k h hk=>by simp[Sem.rd] at h;subst h;exact hk
 |program k ih=>exact fun x k h hk=>ih P x k h hk
 |mark m k ih=>exact fun x k h hk=>ih x k h hk
 |getObj r c ih=>
  intro x k h hk
  simp only[Sem.rd] at h
  split at h
  ·rename_i o hb;exact⟨o,hb,ih o x k h hk⟩
  ·cases h
 |load m a c ih=>
  intro x k h hk
  obtain⟨B,off,sp⟩:=a
  simp only[Sem.rd] at h
  split at h
  ·rename_i cs e rw hb
   split at h
   ·rename_i hsp
    cases sp with
    |some _=>simp at hsp
    |none=>
     split at h
     ·rename_i v hv
      exact⟨cs,e,rw,v,hb,rfl,hv,ih v x k h hk⟩
     ·cases h
   ·cases h
  ·cases h
 |_=>exact fun x k h hk=>by cases h
def JB:Option Next->Option Value
 |some (.value v)=>some v
 |_=>none
def cA (P:Program) (o:Oper) (a:Fr):Option Value:=JB ((execOp (bJ a) o).pr P)
def I7 (P:Program) (o:Oper) (a:Fr) (H:Hp):Option Value:=JB ((execOp (bJ a) o).rd P H)
inductive Kd where|pure|load|other
def Agd (P:Program) (t t':TypeId):Bool:=match P.underlying t,P.underlying t' with
 |some (.int _),some (.int _)=>true
 |_,_=>false
def Fa (P:Program) (ts:Array TypeId):Bool:=match ts[0]? with
 |some t=>match P.underlying t with
  |some (.map _ _)=>true
  |_=>false
 |none=>false
def kd (P:Program):Op->Kd
 |.move _|.assign _|.pick ..|.build ..|.nilCheck _|.binOp ..|.unOp ..|.fieldAddr ..|.field ..|.indexAddr ..|.index ..|.slice ..|.extract ..|.makeFunc ..|.makeInterface ..=>.pure
 |.call { callee:=.builtin .len,argTypes:=ts,.. }=>match Fa P ts with
  |true=>.load
  |false=>.pure
 |.call { callee:=.builtin .cap,.. }|.call { callee:=.builtin .min,.. }|.call { callee:=.builtin .max,.. }=>.pure
 |.load ..=>.load
 |.convert t t' _=>match Agd P t t' with
  |true=>.pure
  |false=>.other
 |_=>.other
def bW (P:Program) (o:Op):Bool:=match kd P o with
 |.other=>true
 |_=>false
def qV (P:Program) (o:Oper) (a:Fr) (H:Hp):Option Value:=match kd P o.op with
 |.pure=>cA P o a
 |_=>I7 P o a H
theorem Ak5 (h:qV P o a H=some v):(execOp (bJ a) o).rd P H=some (.value v):=by
 have key:∀ {x:Option Next},JB x=some v->x=some (.value v):=fun {x} hx=>by
  cases x with
  |none=>cases hx
  |some n=>cases n <;> first|(simp[JB] at hx;subst hx;rfl)|cases hx
 unfold qV at h
 split at h
 ·exact Ahm P _ H _ (key h)
 ·exact key h
def zA (P:Program) (ops:Array Oper) (Q:Fr->Hp->Prop):List (Nat×Nat)->List Hp->Fr->Hp->Prop
 | [],_,a,H=>Q a H
 |(i,c)::rest,hist,a,H=>match ops[i]? with
  |none=>False
  |some o=>
   if bD ops o a=true then
    match kd P o.op with
    |.pure=>∃v,cA P o a=some v/\cU (Qh ops i) v fun v=>zA P ops Q rest hist (fE a o.dst v) H
    |.load=>∃v,I7 P o a H=some v/\(∀h∈hist.take c,I7 P o a h=some v)/\cU (Qh ops i) v fun v=>zA P ops Q rest hist (fE a o.dst v) H
    |.other=>lD P o a H fun v H'=>cU (Qh ops i) v fun v=>zA P ops Q rest (H::hist) (fE a o.dst v) H'
   else zA P ops Q rest hist (fE a o.dst undef) H
def Yv (P:Program) (ops:Array Oper) (o:Oper) (a:Fr) (H:Hp) (v:Value):Prop:=
 if bD ops o a=true then qV P o a H=some v else v=undef
theorem Yv.eq {u:Value} (h:Yv P ops o a H v) (k:Yv P ops o a H u):u=v:=by
 unfold Yv at h k
 split at h
 ·rw[if_pos ‹_›] at k;rw[h] at k;exact(Option.some.inj k).symm
 ·rw[if_neg ‹_›] at k;rw[h,k]
def kW (H:Hp):Prop:=∃w,AX (fun _=>True) H w
theorem AX.satis (h:AX own H w):kW H:=⟨w,h.is,fun _ _ _ _=>trivial,fun _ _=>trivial⟩
theorem kW.hupd (h:kW H) (r:Nat) (b:sM) (o:Obj) (hb:∀w',w'.heap[r]?=some o->xJ w' r b):kW (hupd H r b):=by
 obtain⟨w,hs⟩:=h
 refine⟨{ w with heap:=(w.heap++Array.replicate (r+1) o).setIfInBounds r o },fun C c hc=>?_,fun _ _ _ _=>trivial,fun _ _=>trivial⟩
 by_cases hC:C=r
 ·subst hC
  rw[kL] at hc;cases hc
  refine hb _ ?_
  have:C<(w.heap++Array.replicate (C+1) o).size:=by simp;omega
  exact Array.getElem?_setIfInBounds_self_of_lt this
 ·rw[jJ _ _ hC] at hc
  refine(hs.is C c hc).of_heap ?_
  have hlt:=hs.lt hc
  simp only
  rw[Array.getElem?_setIfInBounds_ne (Ne.symm hC),Array.getElem?_append_left hlt]
theorem kW.cells (h:kW H) (r:Nat) (arr:Array Value) (e:TypeId) (rw:Bool):kW (Sl.hupd H r (.cells arr.toList e rw)):=
 h.hupd r _ (.cells arr e (0,0)) fun _ hw=>⟨arr,(0,0),hw,rfl,fun _=>.inr rfl⟩
theorem kW.obj (h:kW H) (r:Nat) (o:Obj) (hn:vB o=true):kW (Sl.hupd H r (.obj o)):=
 h.hupd r _ o fun _ hw=>⟨hw,hn⟩
theorem Pw (P:Program) (s:Sem α):∀(H:Hp) (k k':α->Hp->Prop),(∀x H,kW H->k x H->k' x H)->kW H->s.ev P H k->s.ev P H k':=by
 induction s with
 |pure a=>exact fun H k k' hk hs h=>hk _ _ hs h
 |load m a c ih=>exact fun H k k' hk hs ⟨cs,e,rw,v,h1,h2,h3,h⟩=>⟨cs,e,rw,v,h1,h2,h3,ih v H k k' hk hs h⟩
 |store m a v c ih=>exact fun H k k' hk hs ⟨h0,cs,e,h1,h2,h3,h⟩=>⟨h0,cs,e,h1,h2,h3,ih _ k k' hk (by simpa using hs.cells a.block (cs.set a.off v).toArray e true) h⟩
 |new o c ih=>
  intro H k k' hk hs h r hr
  have:=h r hr
  cases o with
  |cells arr e fz=>exact⟨this.1,ih r _ k k' hk (hs.cells r arr e true) this.2⟩
  |_=>exact ih r _ k k' hk (hs.obj r _ rfl) this
 |shape r c ih=>
  intro H k k' hk hs h
  simp only[Sem.ev] at h ⊢
  split at h
  ·exact ih _ H k k' hk hs h
  ·exact ih _ H k k' hk hs h
  ·exact h
 |freeze a n c ih=>
  intro H k k' hk hs h
  simp only[Sem.ev] at h ⊢
  by_cases hn:n=0
  ·simp only[hn,if_true] at h ⊢;exact ih H k k' hk hs h
  ·simp only[hn,if_false] at h ⊢;obtain⟨cs,e,h1,h2,h⟩:=h;exact⟨cs,e,h1,h2,ih H k k' hk hs h⟩
 |frozen a c ih=>
  intro H k k' hk hs h
  simp only[Sem.ev] at h ⊢
  split at h
  ·rename_i cs e hb
   by_cases hl:a.off<cs.length
   ·simp only[hl,if_true] at h ⊢;exact ih _ H k k' hk hs h
   ·simp only[hl,if_false] at h ⊢;exact fun b=>ih _ H k k' hk hs (h b)
  ·exact fun b=>ih _ H k k' hk hs (h b)
 |getObj r c ih=>exact fun H k k' hk hs ⟨o,h1,h⟩=>⟨o,h1,ih o H k k' hk hs h⟩
 |setObj r o c ih=>exact fun H k k' hk hs ⟨h1,h2,h⟩=>⟨h1,h2,ih _ k k' hk (hs.obj r o h2) h⟩
 |choose q c ih=>
  intro H k k' hk hs h
  simp only[Sem.ev] at h ⊢
  by_cases hq:q.forced=true
  ·simp only[hq,if_true] at h ⊢;exact ih 0 H k k' hk hs h
  ·simp only[hq] at h ⊢;exact fun n=>ih _ H k k' hk hs (h n)
 |sys c k ih=>exact fun H k k' hk hs h=>h
 |program c ih=>exact fun H k k' hk hs h=>ih P H k k' hk hs h
 |mark m c ih=>exact fun H k k' hk hs h=>ih H k k' hk hs h
 |halt h=>exact fun H k k' hk hs h=>h
theorem qG.mono_sat {f:FuncId} {args:Array Value} {K K':Value->Hp->Prop} (h:qG P f args H K) (hk:∀v H',kW H'->K v H'->K' v H'):qG P f args H K':=
 ⟨h.has,fun own w hs=>(h.run own w hs).mono fun _ _ ⟨v,H',he,hv,ht⟩=>⟨v,H',he,hk _ _ ht.sat.satis hv,ht⟩⟩
theorem kW.sub {H':Hp} (h:kW H) (hs:xR H' H):kW H':=by
 obtain⟨w,hw⟩:=h
 exact⟨w,hw.sub hs⟩
theorem B3 {k':Value->Hp->Prop} (hs:kW H) (h:∀v H,kW H->k v H->k' v H) (hh:lD P o a H k):lD P o a H k':=by
 have hw:∀v H,kW H->wk k v H->wk k' v H:=fun v H hs ⟨H',hsub,hk⟩=>⟨H',hsub,h v H' (hs.sub hsub) hk⟩
 exact Pw P _ H _ _ (fun x H' hs' hx=>by cases x <;> first|exact hx|exact hw _ _ hs' hx|exact qG.mono_sat hx hw) hs hh
theorem KH (hs:kW H) (hh:lD P o a H k):∃v H',kW H'/\k v H':=by
 obtain⟨w,hw⟩:=hs
 obtain⟨x,w',H',hr,hk,ht⟩:=OS P _ _ H w _ hh hw
 cases x with
 |value v=>obtain⟨H'',hsub,hk⟩:=hk;exact⟨v,H'',ht.sat.satis.sub hsub,hk⟩
 |skip=>obtain⟨H'',hsub,hk⟩:=hk;exact⟨undef,H'',ht.sat.satis.sub hsub,hk⟩
 |enter f args=>
  obtain⟨e,w'',fr,⟨v,H'',_,⟨H3,hsub,hv⟩,ht'⟩,_⟩:=qG.run hk _ w' ht.sat []
  exact⟨v,H3,ht'.sat.satis.sub hsub,hv⟩
 |_=>exact hk.elim
theorem Afi {d:Option Tmp} {x:Operand} (h:∀t,d=some t->x≠.tmp t):bJ (fE a d v) x=bJ a x:=by
 cases d with
 |none=>rfl
 |some t=>
  cases x with
  |tmp u=>exact ZY a v (fun e=>h t rfl (by rw[e]))
  |_=>rfl
theorem Ae (o:Oper) (hs:∀cs b,o.op≠.select cs b) (a:Fr) (d:Option Tmp) (v:Value) (h:∀t,d=some t->t ∉ o.looksAt ops):
  execOp (bJ (fE a d v)) o=execOp (bJ a) o:=
 execOp_congr o hs fun x hx=>Afi fun t ht hxt=>h t ht (by
  subst hxt
  exact List.mem_append_left _ (List.mem_filterMap.2 ⟨.tmp t,by simpa using hx,rfl⟩))
theorem uA (o:Oper) (a:Fr) (d:Option Tmp) (v:Value) (h:∀t,d=some t->t ∉ o.looksAt ops):bD ops o (fE a d v)=bD ops o a:=by
 cases d with
 |none=>rfl
 |some t=>
  unfold bD Region.wanted
  cases hg:o.guard with
  |none=>rfl
  |some gw=>
   obtain⟨g,want⟩:=gw
   have hy:Ft ops (fE a (some t) v) g=Ft ops a g:=by
    unfold Ft
    cases hd:(ops[g]?).bind (·.dst) with
    |none=>rfl
    |some u=>
     have hne:u≠t:=fun e=>h t rfl (by subst e;simp[Oper.looksAt,hg,hd])
     simp[fE,ZY a v hne]
   simp only[hy]
theorem JQ (a:Fr) {x y:Option Tmp} (v u:Value) (h:∀d,x=some d->y≠some d):fE (fE a x v) y u=fE (fE a y u) x v:=by
 cases x with
 |none=>rfl
 |some d=>
  cases y with
  |none=>rfl
  |some e=>exact Aae a v u (fun he=>h d rfl (by rw[he]))
theorem Afo (o:Oper) (hs:∀cs b,o.op≠.select cs b) (a:Fr) (d:Option Tmp) (v:Value) (h:∀t,d=some t->t ∉ o.looksAt ops) (H:Hp):
  qV P o (fE a d v) H=qV P o a H:=by
 unfold qV cA I7
 rw[Ae o hs a d v h]
theorem jX (o:Oper) (hs:∀cs b,o.op≠.select cs b) (a:Fr) (d:Option Tmp) (v:Value) (h:∀t,d=some t->t ∉ o.looksAt ops) (H:Hp) (u:Value):
  Yv P ops o (fE a d v) H u↔Yv P ops o a H u:=by
 unfold Yv
 rw[uA o a d v h,Afo o hs a d v h]
def B6 (o:Oper):Prop:=∀cs b,o.op≠.select cs b
def jC (P:Program) (ops:Array Oper) (l:List (Nat×Nat)):Nat:=(l.filter fun x=>match ops[x.1]? with
 |some o=>bW P o.op
 |none=>false).length
theorem Fh (ho:ops[i]?=some o) (hq:bW P o.op=false):
  zA P ops Q ((i,c)::rest) hist a H↔∃v,Yv P ops o a H v/\(∀h∈hist.take c,Yv P ops o a h v)/\zA P ops Q rest hist (fE a o.dst v) H:=by
 simp only[zA,ho]
 by_cases hw:bD ops o a=true
 ·simp only[hw,if_true]
  cases hk:kd P o.op with
  |pure=>
   have hqv:∀h,qV P o a h=cA P o a:=fun h=>by simp[qV,hk]
   simp only[Yv,hw,if_true,hqv]
   constructor
   ·rintro⟨v,hv,h⟩;rw[cH] at h;exact⟨v,hv,fun _ _=>hv,h⟩
   ·rintro⟨v,hv,_,h⟩;exact⟨v,hv,(cH _ _ _).2 h⟩
  |load=>
   have hqv:∀h,qV P o a h=I7 P o a h:=fun h=>by simp[qV,hk]
   simp only[Yv,hw,if_true,hqv]
   constructor
   ·rintro⟨v,hv,hh,h⟩;rw[cH] at h;exact⟨v,hv,hh,h⟩
   ·rintro⟨v,hv,hh,h⟩;exact⟨v,hv,hh,(cH _ _ _).2 h⟩
  |other=>simp[bW,hk] at hq
 ·simp only[hw,Yv]
  constructor
  ·exact fun h=>⟨undef,by simp,fun _ _=>by simp,h⟩
  ·rintro⟨v,hv,_,h⟩;simp at hv;subst hv;exact h
theorem Bj (ho:ops[i]?=some o) (hq:bW P o.op=true):
  zA P ops Q ((i,c)::rest) hist a H↔if bD ops o a=true then lD P o a H fun v H'=>zA P ops Q rest (H::hist) (fE a o.dst v) H' else zA P ops Q rest hist (fE a o.dst undef) H:=by
 simp only[zA,ho]
 have hk:kd P o.op=.other:=by
  unfold bW at hq
  split at hq
  ·assumption
  ·cases hq
 by_cases hw:bD ops o a=true
 ·simp only[hw,if_true,hk]
  simp only[cH]
 ·rw[if_neg hw,if_neg hw]
theorem sB (ho:ops[i]?=some o) (l:List (Nat×Nat)):jC P ops ((i,c)::l)=(if bW P o.op=true then 1 else 0)+jC P ops l:=by
 unfold jC
 rw[List.filter_cons]
 simp only[ho]
 split <;> simp <;> omega
theorem WI (ho:ops[i]?=some o) (hq:bW P o.op=false) (hso:B6 o) (l2:List (Nat×Nat)):
  ∀(l1:List (Nat×Nat)) (hist:List Hp) (a:Fr) (H:Hp),kW H->(∀x∈l1,∀oj,ops[x.1]?=some oj->oj.apart ops o=true/\B6 oj)->jC P ops l1<=c->
   zA P ops Q (l1++(i,c)::l2) hist a H->
   ∃v,Yv P ops o a H v/\(∀h∈hist.take (c - jC P ops l1),Yv P ops o a h v)/\zA P ops Q (l1++l2) hist (fE a o.dst v) H:=by
 intro l1
 induction l1 with
 |nil=>
  intro hist a H hs _ _ h
  obtain⟨v,h1,h2,h3⟩:=(Fh ho hq).1 h
  exact⟨v,h1,by simpa[jC] using h2,h3⟩
 |cons x l1 ih=>
  obtain⟨j,cj⟩:=x
  intro hist a H hs hap hc h
  cases hj:ops[j]? with
  |none=>simp only[List.cons_append,zA,hj] at h
  |some oj=>
   obtain⟨hapj,hsj⟩:=hap (j,cj) (by simp) oj hj
   obtain⟨p1,p2,p3⟩:=Oper.apart_spec hapj
   have hap':∀x∈l1,∀oj,ops[x.1]?=some oj->oj.apart ops o=true/\B6 oj:=fun x hx=>hap x (by simp[hx])
   rw[sB hj] at hc
   have hcomm:∀(u v:Value),fE (fE a oj.dst u) o.dst v=fE (fE a o.dst v) oj.dst u:=fun u v=>JQ a u v p2
   by_cases hoj:bW P oj.op=true
   ·simp only[hoj,if_true] at hc
    rw[List.cons_append,Bj hj hoj] at h
    by_cases hw:bD ops oj a=true
    ·rw[if_pos hw] at h
     have key:∀u H',kW H'->zA P ops Q (l1++(i,c)::l2) (H::hist) (fE a oj.dst u) H'->
       ∃v,Yv P ops o a H v/\(∀h∈hist.take (c - (1+jC P ops l1)),Yv P ops o a h v)/\zA P ops Q (l1++l2) (H::hist) (fE (fE a oj.dst u) o.dst v) H':=by
      intro u H' hs' hk
      obtain⟨v,_,h2,h3⟩:=ih (H::hist) _ H' hs' hap' (by omega) hk
      have hsucc:c - jC P ops l1=(c - (1+jC P ops l1))+1:=by omega
      rw[hsucc,List.take_succ_cons] at h2
      refine⟨v,(jX o hso a oj.dst u p1 H v).1 (h2 H (by simp)),fun h hh=>(jX o hso a oj.dst u p1 h v).1 (h2 h (by simp[hh])),h3⟩
     obtain⟨u,H',hs',hk⟩:=KH hs h
     obtain⟨v,h1,h2,_⟩:=key u H' hs' hk
     refine⟨v,h1,by rw[sB hj];simpa[hoj] using h2,?_⟩
     rw[List.cons_append,Bj hj hoj,uA oj a o.dst v p3,if_pos hw]
     have hmono:=B3 (k':=fun u H'=>zA P ops Q (l1++l2) (H::hist) (fE (fE a o.dst v) oj.dst u) H') hs (fun u H' hs' hk=>by
      obtain⟨v',g1,_,g3⟩:=key u H' hs' hk
      rw[Yv.eq h1 g1,hcomm] at g3
      exact g3) h
     unfold lD at hmono ⊢
     rw[Ae oj hsj a o.dst v p3]
     exact hmono
    ·rw[if_neg hw] at h
     obtain⟨v,h1,h2,h3⟩:=ih hist _ H hs hap' (by omega) h
     refine⟨v,(jX o hso a oj.dst undef p1 H v).1 h1,fun h hh=>(jX o hso a oj.dst undef p1 h v).1 (h2 h ?_),?_⟩
     ·rw[sB hj] at hh
      simp only[hoj,if_true] at hh
      exact List.take_subset_take_left _ (by omega) hh
     ·rw[List.cons_append,Bj hj hoj,uA oj a o.dst v p3,if_neg hw,<- hcomm]
      exact h3
   ·have hoj':bW P oj.op=false:=by simpa using hoj
    simp only[hoj',Bool.false_eq_true,if_false,Nat.zero_add] at hc
    rw[List.cons_append,Fh hj hoj'] at h
    obtain⟨u,g1,g2,g3⟩:=h
    obtain⟨v,h1,h2,h3⟩:=ih hist _ H hs hap' hc g3
    refine⟨v,(jX o hso a oj.dst u p1 H v).1 h1,fun h hh=>(jX o hso a oj.dst u p1 h v).1 (h2 h ?_),?_⟩
    ·rw[sB hj] at hh
     simpa[hoj'] using hh
    ·rw[List.cons_append,Fh hj hoj']
     exact⟨u,(jX oj hsj a o.dst v p3 H u).2 g1,fun h hh=>(jX oj hsj a o.dst v p3 h u).2 (g2 h hh),by rw[<- hcomm];exact h3⟩
end Go.Sl
namespace Go.Sl
variable {o:Oper} {P:Program} {ops:Array Oper} {bs:Array Nat} {L l:List (Nat×Nat)} {listed:Array Bool} {i c n:Nat} {a:Fr} {H H0:Hp} {own:Nat->Prop} {w w0:World} {Q:Exit->Fr->Hp->Prop}
def preds (o:Oper):List Nat:=(o.after.toList.filter fun e=>Region.binds .any e).map (·.on)
def Al1 (ops:Array Oper) (bs:Array Nat):Bool:=
 (List.range ops.size).all fun i=>match ops[i]? with
  |some o=>(preds o).all (fun e=>Nat.blt e ops.size) && !(bs.getD i 0).testBit i && (bs.getD i 0 == (preds o).foldl (fun s e=>s ||| 2 ^ e ||| bs.getD e 0) 0)
  |none=>false
def E4 (o:Oper):Bool:=match o.op with
 |.select ..=>false
 |_=>true
def HX (P:Program) (ops:Array Oper) (bs:Array Nat) (x y:Nat×Nat):Bool:=
 !(bs.getD x.1 0).testBit y.1 && ((bs.getD y.1 0).testBit x.1 || match ops[x.1]?,ops[y.1]? with
  |some ox,some oy=>ox.apart ops oy && !bW P oy.op
  |_,_=>false)
def pw (P:Program) (ops:Array Oper) (bs:Array Nat):List (Nat×Nat)->Bool
 | []=>true
 |x::xs=>xs.all (HX P ops bs x) && pw P ops bs xs
def Ahs (P:Program) (ops:Array Oper) (bs:Array Nat) (L:List (Nat×Nat)):Bool:=
 L.all fun d=>Nat.ble (jC P ops (L.filter fun j=>!(bs.getD d.1 0).testBit j.1 && !(bs.getD j.1 0).testBit d.1)) d.2
def nd:List Nat->Bool
 | []=>true
 |x::xs=>!xs.contains x && nd xs
def vD (P:Program) (ops:Array Oper) (bs:Array Nat) (L:List (Nat×Nat)):Bool:=
 Al1 ops bs && ops.all E4 && (L.map (·.1)).all (fun i=>Nat.blt i ops.size) && nd (L.map (·.1)) && (L.length == ops.size) &&
 (List.range ops.size).all (fun i=>(L.map (·.1)).contains i) && pw P ops bs L && Ahs P ops bs L
theorem PS (bs:Array Nat) (j:Nat):∀(l:List Nat) (s:Nat),(l.foldl (fun s e=>s ||| 2 ^ e ||| bs.getD e 0) s).testBit j=true->
  s.testBit j=true\/∃e∈l,e=j\/(bs.getD e 0).testBit j=true:=by
 intro l
 induction l with
 |nil=>exact fun s h=>.inl h
 |cons e l ih=>
  intro s h
  rcases ih _ h with h|⟨e',he,h⟩
  ·rw[Nat.testBit_or,Nat.testBit_or,Bool.or_eq_true,Bool.or_eq_true,Nat.testBit_two_pow] at h
   rcases h with(h|h)|h
   ·exact .inl h
   ·exact .inr ⟨e,by simp,.inl (by simpa using h)⟩
   ·exact .inr ⟨e,by simp,.inr h⟩
  ·exact .inr ⟨e',by simp[he],h⟩
theorem Jw (bs:Array Nat) (j:Nat):∀(l:List Nat) (s:Nat),s.testBit j=true->(l.foldl (fun s e=>s ||| 2 ^ e ||| bs.getD e 0) s).testBit j=true:=by
 intro l
 induction l with
 |nil=>exact fun s h=>h
 |cons e l ih=>exact fun s h=>ih _ (by rw[Nat.testBit_or,Nat.testBit_or,h];simp)
theorem Dc (bs:Array Nat) (j:Nat):∀(l:List Nat) (s:Nat),j∈l->(l.foldl (fun s e=>s ||| 2 ^ e ||| bs.getD e 0) s).testBit j=true:=by
 intro l
 induction l with
 |nil=>exact fun s h=>by cases h
 |cons e l ih=>
  intro s h
  rcases List.mem_cons.1 h with rfl|h
  ·exact Jw bs j l _ (by rw[Nat.testBit_or,Nat.testBit_or,Nat.testBit_two_pow];simp)
  ·exact ih _ h
theorem Bh {j:Nat}:j∈preds o↔∃e∈o.after,Region.binds .any e=true/\e.on=j:=by
 simp only[preds,List.mem_map,List.mem_filter,Array.mem_toList_iff]
 exact⟨fun⟨e,⟨h1,h2⟩,h3⟩=>⟨e,h1,h2,h3⟩,fun⟨e,h1,h2,h3⟩=>⟨e,⟨h1,h2⟩,h3⟩⟩
structure yU (P:Program) (ops:Array Oper) (bs:Array Nat) (l:List (Nat×Nat)):Prop where
 up:∀(i:Nat) (o:Oper),ops[i]?=some o->(∀j,(bs.getD i 0).testBit j=true->∃e∈preds o,e=j\/(bs.getD e 0).testBit j=true)/\∀j∈preds o,j<ops.size/\(bs.getD i 0).testBit j=true
 self:∀i,i<ops.size->(bs.getD i 0).testBit i=false
 sel:∀(i:Nat) (o:Oper),ops[i]?=some o->B6 o
 lt:∀d∈l,d.1<ops.size
 nodup:(l.map (·.1)).Nodup
 pair:l.Pairwise fun x y=>HX P ops bs x y=true
 cnt:∀d∈l,jC P ops (l.filter fun j=>!(bs.getD d.1 0).testBit j.1 && !(bs.getD j.1 0).testBit d.1)<=d.2
theorem Ae6:∀ {L:List (Nat×Nat)},pw P ops bs L=true->L.Pairwise fun x y=>HX P ops bs x y=true:=by
 intro L
 induction L with
 |nil=>exact fun _=>.nil
 |cons x xs ih=>
  intro h
  simp only[pw,Bool.and_eq_true,List.all_eq_true] at h
  exact .cons (fun y hy=>h.1 y hy) (ih h.2)
theorem Tz {l:List Nat} (h:nd l=true):l.Nodup:=by
 induction l with
 |nil=>exact .nil
 |cons x xs ih=>
  simp only[nd,Bool.and_eq_true,Bool.not_eq_true'] at h
  exact List.nodup_cons.2 ⟨fun hx=>by simp[hx] at h,ih h.2⟩
theorem L2 (h:vD P ops bs L=true):
  yU P ops bs L/\L.length=ops.size/\∀i,i<ops.size->i∈L.map (·.1):=by
 unfold vD at h
 simp only[Bool.and_eq_true] at h
 obtain⟨⟨⟨⟨⟨⟨⟨h1,h2⟩,h3⟩,h4⟩,h5⟩,h6⟩,h7⟩,h8⟩:=h
 refine⟨⟨fun i o ho=>?_,fun i hi=>?_,fun i o ho=>?_,fun d hd=>?_,?_,Ae6 h7,fun d hd=>?_⟩,by simpa using h5,fun i hi=>?_⟩
 ·have hi:i<ops.size:=(Array.getElem?_eq_some_iff.1 ho).1
  have:=List.all_eq_true.1 h1 i (List.mem_range.2 hi)
  rw[ho] at this
  simp only[Bool.and_eq_true,List.all_eq_true,beq_iff_eq] at this
  obtain⟨⟨ha,_⟩,hb⟩:=this
  refine⟨fun j hj=>?_,fun j hj=>⟨by simpa using ha j hj,?_⟩⟩
  ·rw[hb] at hj
   rcases PS bs j _ 0 hj with h|h
   ·simp at h
   ·exact h
  ·rw[hb];exact Dc bs j _ 0 hj
 ·have:=List.all_eq_true.1 h1 i (List.mem_range.2 hi)
  have ho:ops[i]?=some ops[i]:=by simp[hi]
  rw[ho] at this
  simp only[Bool.and_eq_true,Bool.not_eq_true'] at this
  exact this.1.2
 ·have hm:E4 o=true:=by
   have:=Array.all_eq_true_iff_forall_mem.1 h2 o (Array.mem_of_getElem? ho)
   exact this
  intro cs b hop
  unfold E4 at hm
  rw[hop] at hm
  cases hm
 ·have:=List.all_eq_true.1 h3 d.1 (List.mem_map.2 ⟨d,hd,rfl⟩)
  simpa using this
 ·exact Tz h4
 ·have:=List.all_eq_true.1 h8 d hd
  simpa using this
 ·have:=List.all_eq_true.1 h6 i (List.mem_range.2 hi)
  simpa using this
theorem yU.sub {l':List (Nat×Nat)} (h:yU P ops bs l) (hs:l'.Sublist l):yU P ops bs l':=
 ⟨h.up,h.self,h.sel,fun d hd=>h.lt d (hs.subset hd),h.nodup.sublist (hs.map _),h.pair.sublist hs,fun d hd=>
  Nat.le_trans (by unfold jC;exact((hs.filter _).filter _).length_le) (h.cnt d (hs.subset hd))⟩
structure JV (ops:Array Oper) (bs:Array Nat) (l:List (Nat×Nat)) (listed:Array Bool):Prop where
 size:listed.size=ops.size
 mem:∀i,i<ops.size->(listed.getD i true=false↔i∈l.map (·.1))
 closed:∀i,i<ops.size->i ∉ l.map (·.1)->∀j,(bs.getD i 0).testBit j=true->j ∉ l.map (·.1)
theorem nM (hi:i<listed.size):listed.getD i false=true↔¬listed.getD i true=false:=by
 simp[Array.getD,hi]
theorem JV.preds (hI:JV ops bs l listed) (hC:yU P ops bs l) (hr:i∈Region.ready .any ops listed):
  i∈l.map (·.1)/\∀j,(bs.getD i 0).testBit j=true->j ∉ l.map (·.1):=by
 obtain⟨h0,o,ho,hall⟩:=mem_ready.1 hr
 have hi:i<ops.size:=(Array.getElem?_eq_some_iff.1 ho).1
 refine⟨(hI.mem i hi).1 h0,fun j hj=>?_⟩
 obtain⟨e,he,h⟩:=(hC.up i o ho).1 j hj
 obtain⟨ed,hed,hb,rfl⟩:=Bh.1 he
 have hlt:=((hC.up i o ho).2 ed.on he).1
 have hl:=hall ed hed hb
 have hnot:ed.on ∉ l.map (·.1):=fun hm=>by
  have:=(nM (by rw[hI.size];exact hlt)).1 hl
  exact this ((hI.mem _ hlt).2 hm)
 rcases h with rfl|h
 ·exact hnot
 ·exact hI.closed ed.on hlt hnot j h
theorem JV.step {l1 l2:List (Nat×Nat)} (hI:JV ops bs (l1++(i,c)::l2) listed) (hC:yU P ops bs (l1++(i,c)::l2))
  (hp:∀j,(bs.getD i 0).testBit j=true->j ∉ (l1++(i,c)::l2).map (·.1)):JV ops bs (l1++l2) (listed.setIfInBounds i true):=by
 have hi:i<ops.size:=hC.lt (i,c) (by simp)
 have hnd:=hC.nodup
 have hni:i ∉ (l1++l2).map (·.1):=by
  rw[List.map_append,List.map_cons] at hnd
  rw[List.map_append]
  have:=List.nodup_append.1 hnd
  have h2:=List.nodup_cons.1 this.2.1
  intro hm
  rcases List.mem_append.1 hm with h|h
  ·exact this.2.2 i h i (by simp) rfl
  ·exact h2.1 h
 have hmem:∀k,k∈(l1++(i,c)::l2).map (·.1)↔k=i\/k∈(l1++l2).map (·.1):=fun k=>by
  simp only[List.map_append,List.map_cons,List.mem_append,List.mem_cons]
  constructor
  ·rintro(h|h|h)
   ·exact .inr (.inl h)
   ·exact .inl h
   ·exact .inr (.inr h)
  ·rintro(h|h|h)
   ·exact .inr (.inl h)
   ·exact .inl h
   ·exact .inr (.inr h)
 refine⟨by simpa using hI.size,fun k hk=>?_,fun k hk hkn j hj=>?_⟩
 ·by_cases hki:k=i
  ·subst hki
   have:k<listed.size:=by rw[hI.size];exact hk
   have h1:(listed.setIfInBounds k true).getD k true=true:=by simp[Array.getD,this]
   rw[h1]
   exact⟨fun h=>(by cases h),fun h=>absurd h hni⟩
  ·have h1:=hI.mem k hk
   rw[hmem] at h1
   have:(listed.setIfInBounds i true).getD k true=listed.getD k true:=by
    simp only[Array.getD_eq_getD_getElem?,Array.getElem?_setIfInBounds_ne (Ne.symm hki)]
   rw[this,h1]
   simp[hki]
 ·by_cases hki:k=i
  ·subst hki
   have:=hp j hj
   rw[hmem] at this
   exact fun h=>this (.inr h)
  ·have:=hI.closed k hk (by rw[hmem];rintro(h|h);exact hki h;exact hkn h) j hj
   rw[hmem] at this
   exact fun h=>this (.inr h)
theorem JV.first (hI:JV ops bs ((i,c)::l) listed) (hC:yU P ops bs ((i,c)::l)):i∈Region.ready .any ops listed:=by
 have hi:i<ops.size:=hC.lt (i,c) (by simp)
 refine mem_ready.2 ⟨(hI.mem i hi).2 (by simp),ops[i],by simp[hi],fun e he hb=>?_⟩
 have ho:ops[i]?=some ops[i]:=by simp[hi]
 obtain⟨hlt,hbit⟩:=(hC.up i _ ho).2 e.on (Bh.2 ⟨e,he,hb,rfl⟩)
 rw[nM (by rw[hI.size];exact hlt),hI.mem _ hlt]
 intro hm
 simp only[List.map_cons,List.mem_cons] at hm
 rcases hm with hm|hm
 ·have:=hC.self i hi
  rw[<- hm] at this
  simp only[hm] at this hbit
  rw[this] at hbit
  cases hbit
 ·obtain⟨d,hd,hde⟩:=List.mem_map.1 hm
  have:=(List.pairwise_cons.1 hC.pair).1 d hd
  simp only[HX,Bool.and_eq_true,Bool.not_eq_true'] at this
  have h1:=this.1
  rw[hde] at h1
  rw[h1] at hbit
  cases hbit
theorem XE {v:Value} (h:qV P o a H=some v) (hs:AX own H w):(execOp (bJ a) o).run P w=.ok (.value v) w:=
 XC P hs _ _ (Ak5 h)
theorem Ad5 (hd:∀(i:Nat) (o:Oper),ops[i]?=some o->B8 n o=true):
  ∀(k:Nat) (l:List (Nat×Nat)) (hist:List Hp) (a:Fr) (H:Hp) (A:Act) (w:World) (listed:Array Bool),l.length=k->yU P ops bs l->JV ops bs l listed->
   zA P ops (Q .normal) l hist a H->xX n a A->To own w0 H0 w H->wpAny P .any ops (Vv own n w0 H0 Q) k listed A w:=by
 intro k
 induction k with
 |zero=>
  intro l hist a H A w listed hl hC hI h hf ht
  have hl0:l= []:=List.eq_nil_of_length_eq_zero hl
  subst hl0
  refine⟨?_,a,H,h,hf,ht⟩
  cases hr:Region.ready .any ops listed with
  |nil=>rfl
  |cons i is=>
   have:=(hI.preds hC (i:=i) (by rw[hr];simp)).1
   simp at this
 |succ k ih=>
  intro l hist a H A w listed hl hC hI h hf ht
  constructor
  ·intro hr
   cases l with
   |nil=>simp at hl
   |cons x xs=>exact absurd (hr▸hI.first (i:=x.1) (c:=x.2) hC) (by simp)
  ·intro i hi
   obtain⟨hm,hp⟩:=hI.preds hC hi
   obtain⟨d,hdl,hdi⟩:=List.mem_map.1 hm
   obtain⟨l1,l2,hsplit⟩:=List.append_of_mem hdl
   obtain⟨i',c⟩:=d
   simp only at hdi
   subst hdi
   subst hsplit
   have hilt:i'<ops.size:=hC.lt (i',c) (by simp)
   have ho:ops[i']?=some ops[i']:=by simp[hilt]
   generalize ops[i']=o at ho
   have hlen:(l1++l2).length=k:=by simp at hl ⊢;omega
   have hC':yU P ops bs (l1++l2):=hC.sub (List.Sublist.append_left (List.sublist_cons_self _ _) _)
   have hI':=hI.step hC hp
   have hpair:=List.pairwise_append.1 hC.pair
   have hfree:∀x∈l1,(bs.getD i' 0).testBit x.1=false:=fun x hx=>by
    cases hb:(bs.getD i' 0).testBit x.1 with
    |false=>rfl
    |true=>exact absurd (List.mem_map.2 ⟨x,by simp[hx],rfl⟩) (hp x.1 hb)
   have hpo:∀x∈l1,(bs.getD x.1 0).testBit i'=false/\∃ox,ops[x.1]?=some ox/\ox.apart ops o=true/\bW P o.op=false:=fun x hx=>by
    have:=hpair.2.2 x hx (i',c) (by simp)
    simp only[HX,Bool.and_eq_true,Bool.not_eq_true',Bool.or_eq_true,hfree x hx,Bool.false_eq_true,false_or] at this
    obtain⟨hb,hz⟩:=this
    refine⟨hb,?_⟩
    split at hz
    ·rename_i ox oy h1 h2
     rw[ho] at h2
     cases h2
     simp only[Bool.and_eq_true,Bool.not_eq_true'] at hz
     exact⟨ox,h1,hz.1,hz.2⟩
    ·cases hz
   have hdo:=Ck (hd i' o ho)
   by_cases hq:bW P o.op=true
   ·have hl1:l1= []:=by
     cases l1 with
     |nil=>rfl
     |cons x xs=>obtain⟨_,_,_,_,h⟩:=hpo x (by simp);rw[hq] at h;cases h
    subst hl1
    rw[List.nil_append,Bj ho hq] at h
    unfold wpOp
    simp only[ho,hf.wanted]
    by_cases hw:bD ops o a=true
    ·rw[if_pos hw] at h
     rw[if_pos hw]
     refine .inl (Cx h ht.sat hf fun v w' H' hk ht'=>?_)
     exact ih l2 (H::hist) _ H' _ _ _ hlen hC' hI' hk (hf.put o.dst hdo v) (ht.trans ht')
    ·rw[if_neg hw] at h
     rw[if_neg hw]
     exact ih l2 hist _ H _ _ _ hlen hC' hI' h (hf.put o.dst hdo undef) ht
   ·have hq':bW P o.op=false:=by simpa using hq
    have hcnt:jC P ops l1<=c:=by
     refine Nat.le_trans ?_ (hC.cnt (i',c) (by simp))
     have:l1=l1.filter fun j=>!(bs.getD i' 0).testBit j.1 && !(bs.getD j.1 0).testBit i':=by
      refine(List.filter_eq_self.2 fun x hx=>?_).symm
      rw[hfree x hx,(hpo x hx).1];rfl
     unfold jC
     refine List.Sublist.length_le (List.Sublist.filter _ ?_)
     conv=>lhs;rw[this]
     exact List.Sublist.filter _ (List.sublist_append_left _ _)
    obtain⟨v,h1,_,h3⟩:=WI ho hq' (hC.sel i' o ho) l2 l1 hist a H ht.sat.satis (fun x hx oj hoj=>by
     obtain⟨_,ox,hox,hap,_⟩:=hpo x hx
     rw[hoj] at hox
     cases hox
     exact⟨hap,hC.sel _ _ hoj⟩) hcnt h
    have hnext:=ih (l1++l2) hist _ H _ w _ hlen hC' hI' h3 (hf.put o.dst hdo v) ht
    unfold wpOp
    simp only[ho,hf.wanted]
    unfold Yv at h1
    by_cases hw:bD ops o a=true
    ·rw[if_pos hw] at h1
     rw[if_pos hw]
     refine .inl ?_
     unfold Oper.wp
     rw[hf.eval,XE h1 ht.sat]
     exact hnext
    ·rw[if_neg hw] at h1
     subst h1
     rw[if_neg hw]
     exact hnext
theorem yU.inv (hm:∀i,i<ops.size->i∈L.map (·.1)):JV ops bs L (Array.replicate ops.size false):=
 ⟨by simp,fun i hi=>⟨fun _=>hm i hi,fun _=>by simp[Array.getD,hi]⟩,fun i hi hn=>absurd (hm i hi) hn⟩
theorem To.drew (h:To own w0 H0 w H):To own w0 H0 { w with drawn:=w.drawn+1 } H:=
 ⟨h.sat.drew,h.chg.trans (I5.drew own w),h.dom⟩
theorem RH {A:Act} {id:Nat}
  (hm:P.follows .mixedOrders=true) (hd:∀(i:Nat) (o:Oper),ops[i]?=some o->B8 n o=true) (hc:vD P ops bs L=true) (h:zA P ops (Q .normal) L [] a H) (hf:xX n a A) (ht:To own w0 H0 w H):
  (Code.region id ops true).wp P (Vv own n w0 H0 Q) A w:=by
 obtain⟨hC,hlen,hmem⟩:=L2 hc
 refine wp_region_any hm ?_
 exact Ad5 hd ops.size L [] a H A _ _ hlen hC (yU.inv hmem) h hf ht.drew
end Go.Sl
namespace Go.Sl
open Go
variable {P:Program} {ops:Array Oper} {Q:Fr->Hp->Prop} {i c n:Nat} {o:Oper} {hist:List Hp} {a:Fr} {H H0:Hp} {bs:Array Nat} {l:List (Nat×Nat)} {listed:Array Bool} {own:Nat->Prop} {w0:World}
inductive Tr where
 |nil
 |st (i c:Nat) (t:Tr)
 |br (t u:Tr)
variable {rest:Tr}
def CY (P:Program) (ops:Array Oper) (Q:Fr->Hp->Prop):Tr->List Hp->Fr->Hp->Prop
 |.nil,_,a,H=>Q a H
 |.br t u,hist,a,H=>CY P ops Q t hist a H/\CY P ops Q u hist a H
 |.st i c rest,hist,a,H=>match ops[i]? with
  |none=>False
  |some o=>
   if bD ops o a=true then
    match kd P o.op with
    |.pure=>∃v,cA P o a=some v/\cU (Qh ops i) v fun v=>CY P ops Q rest hist (fE a o.dst v) H
    |.load=>∃v,I7 P o a H=some v/\(∀h∈hist.take c,I7 P o a h=some v)/\cU (Qh ops i) v fun v=>CY P ops Q rest hist (fE a o.dst v) H
    |.other=>lD P o a H fun v H'=>cU (Qh ops i) v fun v=>CY P ops Q rest (H::hist) (fE a o.dst v) H'
   else CY P ops Q rest hist (fE a o.dst undef) H
theorem Fs (ho:ops[i]?=some o) (hq:bW P o.op=false):
  CY P ops Q (.st i c rest) hist a H↔∃v,Yv P ops o a H v/\(∀h∈hist.take c,Yv P ops o a h v)/\CY P ops Q rest hist (fE a o.dst v) H:=by
 simp only[CY,ho]
 by_cases hw:bD ops o a=true
 ·simp only[hw,if_true]
  cases hk:kd P o.op with
  |pure=>
   have hqv:∀h,qV P o a h=cA P o a:=fun h=>by simp[qV,hk]
   simp only[Yv,hw,if_true,hqv]
   constructor
   ·rintro⟨v,hv,h⟩;rw[cH] at h;exact⟨v,hv,fun _ _=>hv,h⟩
   ·rintro⟨v,hv,_,h⟩;exact⟨v,hv,(cH _ _ _).2 h⟩
  |load=>
   have hqv:∀h,qV P o a h=I7 P o a h:=fun h=>by simp[qV,hk]
   simp only[Yv,hw,if_true,hqv]
   constructor
   ·rintro⟨v,hv,hh,h⟩;rw[cH] at h;exact⟨v,hv,hh,h⟩
   ·rintro⟨v,hv,hh,h⟩;exact⟨v,hv,hh,(cH _ _ _).2 h⟩
  |other=>simp[bW,hk] at hq
 ·simp only[hw,Yv]
  constructor
  ·exact fun h=>⟨undef,by simp,fun _ _=>by simp,h⟩
  ·rintro⟨v,hv,_,h⟩;simp at hv;subst hv;exact h
theorem AR (ho:ops[i]?=some o) (hq:bW P o.op=true):
  CY P ops Q (.st i c rest) hist a H↔if bD ops o a=true then lD P o a H fun v H'=>CY P ops Q rest (H::hist) (fE a o.dst v) H' else CY P ops Q rest hist (fE a o.dst undef) H:=by
 simp only[CY,ho]
 have hk:kd P o.op=.other:=by
  unfold bW at hq
  split at hq
  ·assumption
  ·cases hq
 by_cases hw:bD ops o a=true
 ·simp only[hw,if_true,hk]
  simp only[cH]
 ·rw[if_neg hw,if_neg hw]
def rm (i:Nat):Tr->Tr
 |.nil=>.nil
 |.st j c t=>if j=i then t else .st j c (rm i t)
 |.br t u=>.br (rm i t) (rm i u)
def fit (P:Program) (ops:Array Oper) (i:Nat) (o:Oper):Tr->Nat->Prop
 |.nil,_=>False
 |.st j c t,d=>if j=i then d<=c else(∀oj,ops[j]?=some oj->(oj.apart ops o=true/\B6 oj)/\fit P ops i o t (d+if bW P oj.op=true then 1 else 0))
 |.br t u,d=>fit P ops i o t d/\fit P ops i o u d
theorem U7 (ho:ops[i]?=some o) (hq:bW P o.op=false) (hso:B6 o):
  ∀(t:Tr) (d:Nat) (hist:List Hp) (a:Fr) (H:Hp),kW H->fit P ops i o t d->CY P ops Q t hist a H->
   ∃v,Yv P ops o a H v/\(∀h∈hist.take d,Yv P ops o a h v)/\CY P ops Q (rm i t) hist (fE a o.dst v) H:=by
 intro t
 induction t with
 |nil=>exact fun d hist a H _ hf _=>hf.elim
 |br t u ih1 ih2=>
  intro d hist a H hs hf h
  obtain⟨v,h1,h2,h3⟩:=ih1 d hist a H hs hf.1 h.1
  obtain⟨v',g1,_,g3⟩:=ih2 d hist a H hs hf.2 h.2
  rw[Yv.eq h1 g1] at g3
  exact⟨v,h1,h2,h3,g3⟩
 |st j c t ih=>
  intro d hist a H hs hf h
  unfold fit at hf
  by_cases hji:j=i
  ·subst hji
   rw[if_pos rfl] at hf
   obtain⟨v,h1,h2,h3⟩:=(Fs ho hq).1 h
   refine⟨v,h1,fun h hh=>h2 h (List.take_subset_take_left _ hf hh),?_⟩
   unfold rm;rw[if_pos rfl];exact h3
  ·rw[if_neg hji] at hf
   have hrm:rm i (.st j c t)=.st j c (rm i t):=by simp only[rm,if_neg hji]
   rw[hrm]
   cases hj:ops[j]? with
   |none=>simp only[CY,hj] at h
   |some oj=>
    obtain⟨⟨hapj,hsj⟩,hfit⟩:=hf oj hj
    obtain⟨p1,p2,p3⟩:=Oper.apart_spec hapj
    have hcomm:∀(u v:Value),fE (fE a oj.dst u) o.dst v=fE (fE a o.dst v) oj.dst u:=fun u v=>JQ a u v p2
    by_cases hoj:bW P oj.op=true
    ·simp only[hoj,if_true] at hfit
     rw[AR hj hoj] at h
     by_cases hw:bD ops oj a=true
     ·rw[if_pos hw] at h
      have key:∀u H',kW H'->CY P ops Q t (H::hist) (fE a oj.dst u) H'->
        ∃v,Yv P ops o a H v/\(∀h∈hist.take d,Yv P ops o a h v)/\CY P ops Q (rm i t) (H::hist) (fE (fE a oj.dst u) o.dst v) H':=by
       intro u H' hs' hk
       obtain⟨v,_,h2,h3⟩:=ih (d+1) (H::hist) _ H' hs' hfit hk
       rw[List.take_succ_cons] at h2
       exact⟨v,(jX o hso a oj.dst u p1 H v).1 (h2 H (by simp)),fun h hh=>(jX o hso a oj.dst u p1 h v).1 (h2 h (by simp[hh])),h3⟩
      obtain⟨u,H',hs',hk⟩:=KH hs h
      obtain⟨v,h1,h2,_⟩:=key u H' hs' hk
      refine⟨v,h1,h2,?_⟩
      rw[AR hj hoj,uA oj a o.dst v p3,if_pos hw]
      have hmono:=B3 (k':=fun u H'=>CY P ops Q (rm i t) (H::hist) (fE (fE a o.dst v) oj.dst u) H') hs (fun u H' hs' hk=>by
       obtain⟨v',g1,_,g3⟩:=key u H' hs' hk
       rw[Yv.eq h1 g1,hcomm] at g3
       exact g3) h
      unfold lD at hmono ⊢
      rw[Ae oj hsj a o.dst v p3]
      exact hmono
     ·rw[if_neg hw] at h
      obtain⟨v,h1,h2,h3⟩:=ih (d+1) hist _ H hs hfit h
      refine⟨v,(jX o hso a oj.dst undef p1 H v).1 h1,fun h hh=>(jX o hso a oj.dst undef p1 h v).1 (h2 h (List.take_subset_take_left _ (by omega) hh)),?_⟩
      rw[AR hj hoj,uA oj a o.dst v p3,if_neg hw,<- hcomm]
      exact h3
    ·have hoj':bW P oj.op=false:=by simpa using hoj
     simp only[hoj',Bool.false_eq_true,if_false,Nat.add_zero] at hfit
     rw[Fs hj hoj'] at h
     obtain⟨u,g1,g2,g3⟩:=h
     obtain⟨v,h1,h2,h3⟩:=ih d hist _ H hs hfit g3
     refine⟨v,(jX o hso a oj.dst u p1 H v).1 h1,fun h hh=>(jX o hso a oj.dst u p1 h v).1 (h2 h hh),?_⟩
     rw[Fs hj hoj']
     exact⟨u,(jX oj hsj a o.dst v p3 H u).2 g1,fun h hh=>(jX oj hsj a o.dst v p3 h u).2 (g2 h hh),by rw[<- hcomm];exact h3⟩
def Do (P:Program) (ops:Array Oper) (bs:Array Nat) (x:Nat×Nat):Bool->List (Nat×Nat)->Bool
 |_,[]=>true
 |s,y::ys=>(!(bs.getD x.1 0).testBit y.1 && ((bs.getD y.1 0).testBit x.1 || match ops[x.1]?,ops[y.1]? with
  |some ox,some oy=>(bW P ox.op && bW P oy.op) || (ox.apart ops oy && !bW P oy.op) || (s && bW P oy.op)
  |_,_=>false)) && Do P ops bs x (s || ((bs.getD y.1 0).testBit x.1 && match ops[y.1]? with|some oy=>bW P oy.op|none=>false)) ys
def TH (P:Program) (ops:Array Oper) (bs:Array Nat):List (Nat×Nat)->Bool
 | []=>true
 |x::xs=>Do P ops bs x false xs && TH P ops bs xs
theorem Hu {P:Program} {ops:Array Oper} {bs:Array Nat} {x:Nat×Nat}:∀ {l:List (Nat×Nat)} {s:Bool},Do P ops bs x s l=true->∀y∈l,(bs.getD x.1 0).testBit y.1=false
 |y::ys,s,h,z,hz=>by
  simp only[Do,Bool.and_eq_true,Bool.not_eq_true'] at h
  rcases List.mem_cons.1 hz with rfl|hz
  ·exact h.1.1
  ·exact Hu h.2 z hz
theorem T4 {P:Program} {ops:Array Oper} {bs:Array Nat} {x:Nat×Nat} {i c:Nat} {o:Oper} (ho:ops[i]?=some o) (hq:bW P o.op=false):∀ {l1 l2:List (Nat×Nat)} {s:Bool},Do P ops bs x s (l1++(i,c)::l2)=true->Do P ops bs x s (l1++l2)=true
 | [],l2,s,h=>by
  simp only[List.nil_append,Do,Bool.and_eq_true,ho,hq,Bool.and_false,Bool.or_false] at h
  exact h.2
 |y::l1,l2,s,h=>by
  simp only[List.cons_append,Do,Bool.and_eq_true] at h ⊢
  exact⟨h.1,T4 ho hq h.2⟩
theorem XM {P:Program} {ops:Array Oper} {bs:Array Nat} {i c:Nat} {o:Oper} (ho:ops[i]?=some o) (hq:bW P o.op=false):∀ {l1 l2:List (Nat×Nat)},TH P ops bs (l1++(i,c)::l2)=true->TH P ops bs (l1++l2)=true
 | [],l2,h=>by
  simp only[List.nil_append,TH,Bool.and_eq_true] at h
  exact h.2
 |y::l1,l2,h=>by
  simp only[List.cons_append,TH,Bool.and_eq_true] at h ⊢
  exact⟨T4 ho hq h.1,XM ho hq h.2⟩
theorem JK {P:Program} {ops:Array Oper} {bs:Array Nat} {i c:Nat} {o:Oper} (ho:ops[i]?=some o) (hq:bW P o.op=false):∀ {l1 l2:List (Nat×Nat)},TH P ops bs (l1++(i,c)::l2)=true->∀x∈l1,(bs.getD i 0).testBit x.1=false->
  (bs.getD x.1 0).testBit i=false/\∃ox,ops[x.1]?=some ox/\ox.apart ops o=true
 |y::l1,l2,h,x,hx,hb=>by
  simp only[List.cons_append,TH,Bool.and_eq_true] at h
  rcases List.mem_cons.1 hx with rfl|hx
  ·have key:∀ {l1:List (Nat×Nat)} {s:Bool},Do P ops bs x s (l1++(i,c)::l2)=true->(bs.getD x.1 0).testBit i=false/\∃ox,ops[x.1]?=some ox/\ox.apart ops o=true:=by
    intro l1
    induction l1 with
    |nil=>
     intro s h
     simp only[List.nil_append,Do,Bool.and_eq_true,Bool.not_eq_true',hb,Bool.false_or,ho,hq] at h
     refine⟨h.1.1,?_⟩
     have h2:=h.1.2
     split at h2
     ·rename_i ox oy h1 h3
      cases h3
      simp only[Bool.and_false,Bool.or_false,Bool.false_or,hq,Bool.not_false,Bool.and_true] at h2
      exact⟨ox,h1,h2⟩
     ·cases h2
    |cons z l1 ih=>
     intro s h
     simp only[List.cons_append,Do,Bool.and_eq_true] at h
     exact ih h.2
   exact key h.1
  ·exact JK ho hq h.2 x hx hb
def I0 (P:Program) (ops:Array Oper) (bs:Array Nat) (L:List (Nat×Nat)):Bool:=
 Al1 ops bs && ops.all E4 && (L.map (·.1)).all (fun i=>Nat.blt i ops.size) && nd (L.map (·.1)) && (L.length == ops.size) &&
 (List.range ops.size).all (fun i=>(L.map (·.1)).contains i) && TH P ops bs L && Ahs P ops bs L
structure rF (P:Program) (ops:Array Oper) (bs:Array Nat) (l:List (Nat×Nat)):Prop where
 up:∀(i:Nat) (o:Oper),ops[i]?=some o->(∀j,(bs.getD i 0).testBit j=true->∃e∈preds o,e=j\/(bs.getD e 0).testBit j=true)/\∀j∈preds o,j<ops.size/\(bs.getD i 0).testBit j=true
 self:∀i,i<ops.size->(bs.getD i 0).testBit i=false
 sel:∀(i:Nat) (o:Oper),ops[i]?=some o->B6 o
 lt:∀d∈l,d.1<ops.size
 nodup:(l.map (·.1)).Nodup
 pair:TH P ops bs l=true
 cnt:∀d∈l,jC P ops (l.filter fun j=>!(bs.getD d.1 0).testBit j.1 && !(bs.getD j.1 0).testBit d.1)<=d.2
theorem Jd {L:List (Nat×Nat)} (h:I0 P ops bs L=true):
  rF P ops bs L/\L.length=ops.size/\∀i,i<ops.size->i∈L.map (·.1):=by
 unfold I0 at h
 simp only[Bool.and_eq_true] at h
 obtain⟨⟨⟨⟨⟨⟨⟨h1,h2⟩,h3⟩,h4⟩,h5⟩,h6⟩,h7⟩,h8⟩:=h
 refine⟨⟨fun i o ho=>?_,fun i hi=>?_,fun i o ho=>?_,fun d hd=>?_,?_,h7,fun d hd=>?_⟩,by simpa using h5,fun i hi=>?_⟩
 ·have hi:i<ops.size:=(Array.getElem?_eq_some_iff.1 ho).1
  have:=List.all_eq_true.1 h1 i (List.mem_range.2 hi)
  rw[ho] at this
  simp only[Bool.and_eq_true,List.all_eq_true,beq_iff_eq] at this
  obtain⟨⟨ha,_⟩,hb⟩:=this
  refine⟨fun j hj=>?_,fun j hj=>⟨by simpa using ha j hj,?_⟩⟩
  ·rw[hb] at hj
   rcases PS bs j _ 0 hj with h|h
   ·simp at h
   ·exact h
  ·rw[hb];exact Dc bs j _ 0 hj
 ·have:=List.all_eq_true.1 h1 i (List.mem_range.2 hi)
  have ho:ops[i]?=some ops[i]:=by simp[hi]
  rw[ho] at this
  simp only[Bool.and_eq_true,Bool.not_eq_true'] at this
  exact this.1.2
 ·have hm:E4 o=true:=by
   have:=Array.all_eq_true_iff_forall_mem.1 h2 o (Array.mem_of_getElem? ho)
   exact this
  intro cs b hop
  unfold E4 at hm
  rw[hop] at hm
  cases hm
 ·have:=List.all_eq_true.1 h3 d.1 (List.mem_map.2 ⟨d,hd,rfl⟩)
  simpa using this
 ·exact Tz h4
 ·have:=List.all_eq_true.1 h8 d hd
  simpa using this
 ·have:=List.all_eq_true.1 h6 i (List.mem_range.2 hi)
  simpa using this
theorem rF.subP {l':List (Nat×Nat)} (h:rF P ops bs l) (hs:l'.Sublist l) (hp:TH P ops bs l'=true):rF P ops bs l':=
 ⟨h.up,h.self,h.sel,fun d hd=>h.lt d (hs.subset hd),h.nodup.sublist (hs.map _),hp,fun d hd=>
  Nat.le_trans (by unfold jC;exact((hs.filter _).filter _).length_le) (h.cnt d (hs.subset hd))⟩
theorem rF.tail {d:Nat×Nat} (h:rF P ops bs (d::l)):rF P ops bs l:=
 h.subP (List.sublist_cons_self _ _) (by have:=h.pair;simp only[TH,Bool.and_eq_true] at this;exact this.2)
theorem JV.predsT (hI:JV ops bs l listed) (hC:rF P ops bs l) (hr:i∈Region.ready .any ops listed):
  i∈l.map (·.1)/\∀j,(bs.getD i 0).testBit j=true->j ∉ l.map (·.1):=by
 obtain⟨h0,o,ho,hall⟩:=mem_ready.1 hr
 have hi:i<ops.size:=(Array.getElem?_eq_some_iff.1 ho).1
 refine⟨(hI.mem i hi).1 h0,fun j hj=>?_⟩
 obtain⟨e,he,h⟩:=(hC.up i o ho).1 j hj
 obtain⟨ed,hed,hb,rfl⟩:=Bh.1 he
 have hlt:=((hC.up i o ho).2 ed.on he).1
 have hl:=hall ed hed hb
 have hnot:ed.on ∉ l.map (·.1):=fun hm=>by
  have:=(nM (by rw[hI.size];exact hlt)).1 hl
  exact this ((hI.mem _ hlt).2 hm)
 rcases h with rfl|h
 ·exact hnot
 ·exact hI.closed ed.on hlt hnot j h
theorem JV.stepT {l1 l2:List (Nat×Nat)} (hI:JV ops bs (l1++(i,c)::l2) listed) (hC:rF P ops bs (l1++(i,c)::l2))
  (hp:∀j,(bs.getD i 0).testBit j=true->j ∉ (l1++(i,c)::l2).map (·.1)):JV ops bs (l1++l2) (listed.setIfInBounds i true):=by
 have hi:i<ops.size:=hC.lt (i,c) (by simp)
 have hnd:=hC.nodup
 have hni:i ∉ (l1++l2).map (·.1):=by
  rw[List.map_append,List.map_cons] at hnd
  rw[List.map_append]
  have:=List.nodup_append.1 hnd
  have h2:=List.nodup_cons.1 this.2.1
  intro hm
  rcases List.mem_append.1 hm with h|h
  ·exact this.2.2 i h i (by simp) rfl
  ·exact h2.1 h
 have hmem:∀k,k∈(l1++(i,c)::l2).map (·.1)↔k=i\/k∈(l1++l2).map (·.1):=fun k=>by
  simp only[List.map_append,List.map_cons,List.mem_append,List.mem_cons]
  constructor
  ·rintro(h|h|h)
   ·exact .inr (.inl h)
   ·exact .inl h
   ·exact .inr (.inr h)
  ·rintro(h|h|h)
   ·exact .inr (.inl h)
   ·exact .inl h
   ·exact .inr (.inr h)
 refine⟨by simpa using hI.size,fun k hk=>?_,fun k hk hkn j hj=>?_⟩
 ·by_cases hki:k=i
  ·subst hki
   have:k<listed.size:=by rw[hI.size];exact hk
   have h1:(listed.setIfInBounds k true).getD k true=true:=by simp[Array.getD,this]
   rw[h1]
   exact⟨fun h=>(by cases h),fun h=>absurd h hni⟩
  ·have h1:=hI.mem k hk
   rw[hmem] at h1
   have:(listed.setIfInBounds i true).getD k true=listed.getD k true:=by
    simp only[Array.getD_eq_getD_getElem?,Array.getElem?_setIfInBounds_ne (Ne.symm hki)]
   rw[this,h1]
   simp[hki]
 ·by_cases hki:k=i
  ·subst hki
   have:=hp j hj
   rw[hmem] at this
   exact fun h=>this (.inr h)
  ·have:=hI.closed k hk (by rw[hmem];rintro(h|h);exact hki h;exact hkn h) j hj
   rw[hmem] at this
   exact fun h=>this (.inr h)
theorem JV.firstT (hI:JV ops bs ((i,c)::l) listed) (hC:rF P ops bs ((i,c)::l)):i∈Region.ready .any ops listed:=by
 have hi:i<ops.size:=hC.lt (i,c) (by simp)
 refine mem_ready.2 ⟨(hI.mem i hi).2 (by simp),ops[i],by simp[hi],fun e he hb=>?_⟩
 have ho:ops[i]?=some ops[i]:=by simp[hi]
 obtain⟨hlt,hbit⟩:=(hC.up i _ ho).2 e.on (Bh.2 ⟨e,he,hb,rfl⟩)
 rw[nM (by rw[hI.size];exact hlt),hI.mem _ hlt]
 intro hm
 simp only[List.map_cons,List.mem_cons] at hm
 rcases hm with hm|hm
 ·have:=hC.self i hi
  rw[<- hm] at this
  simp only[hm] at this hbit
  rw[this] at hbit
  cases hbit
 ·obtain⟨d,hd,hde⟩:=List.mem_map.1 hm
  have h0:=hC.pair
  simp only[TH,Bool.and_eq_true] at h0
  have h1:=Hu h0.1 d hd
  rw[hde] at h1
  rw[h1] at hbit
  cases hbit
def lN:Tr->List (List (Nat×Nat))
 |.nil=> [[]]
 |.st i c t=>(lN t).map ((i,c)::·)
 |.br t u=>lN t++lN u
theorem rX:∀(t:Tr),∃l,l∈lN t
 |.nil=>⟨[],by simp[lN]⟩
 |.st i c t=>by
  obtain⟨l,hl⟩:=rX t
  exact⟨(i,c)::l,List.mem_map.2 ⟨l,hl,rfl⟩⟩
 |.br t u=>by
  obtain⟨l,hl⟩:=rX t
  exact⟨l,List.mem_append.2 (.inl hl)⟩
theorem Tp {P:Program} {ops:Array Oper} {Q:Fr->Hp->Prop} {hist:List Hp} {a:Fr} {H:Hp}:∀(t:Tr),(∀l∈lN t,l= [])->CY P ops Q t hist a H->Q a H
 |.nil,_,h=>h
 |.st i c t,hp,_=>by
  obtain⟨l,hl⟩:=rX (.st i c t)
  have e:=hp l hl
  obtain⟨l',_,e'⟩:=List.mem_map.1 hl
  rw[e] at e';cases e'
 |.br t u,hp,h=>Tp t (fun l hl=>hp l (List.mem_append.2 (.inl hl))) h.1
def iS (P:Program) (ops:Array Oper) (i:Nat):Tr->Option Tr
 |.nil=>none
 |.st j c t=>if j=i then some t else match ops[j]? with
  |some oj=>if bW P oj.op=true then none else(iS P ops i t).map (.st j c ·)
  |none=>none
 |.br t u=>match iS P ops i t with
  |some x=>some x
  |none=>iS P ops i u
def Nx (P:Program) (ops:Array Oper) (bs:Array Nat):Nat->List Nat->Tr->Bool
 |0,S,_=>S.isEmpty
 |n+1,S,t=>S.all fun i=>S.any (fun j=>(bs.getD i 0).testBit j) || match iS P ops i t with
  |some t'=>Nx P ops bs n (S.filter fun j=>!(j == i)) t'
  |none=>false
theorem BC {P:Program} {ops:Array Oper} {i p:Nat} {op:Oper} (hp:ops[p]?=some op) (hq:bW P op.op=false) (hne:p≠i):∀(t:Tr),iS P ops i (rm p t)=(iS P ops i t).map (rm p)
 |.nil=>rfl
 |.st j c t=>by
  by_cases hjp:j=p
  ·subst hjp
   have h1:rm j (.st j c t)=t:=by simp only[rm,if_true]
   rw[h1]
   simp only[iS,if_neg hne,hp,hq,Bool.false_eq_true,if_false]
   cases iS P ops i t with
   |none=>rfl
   |some x=>simp only[Option.map_some,rm,if_true]
  ·have h1:rm p (.st j c t)=.st j c (rm p t):=by simp only[rm,if_neg hjp]
   rw[h1]
   simp only[iS]
   by_cases hji:j=i
   ·rw[if_pos hji,if_pos hji];rfl
   ·rw[if_neg hji,if_neg hji]
    cases ops[j]? with
    |none=>rfl
    |some oj=>
     by_cases ho:bW P oj.op=true
     ·simp only[ho,if_true];rfl
     ·simp only[if_neg ho,BC hp hq hne t]
      cases iS P ops i t with
      |none=>rfl
      |some x=>simp only[Option.map_some,rm,if_neg hjp]
 |.br t u=>by
  simp only[rm,iS,BC hp hq hne t,BC hp hq hne u]
  cases iS P ops i t <;> rfl
theorem Tv {P:Program} {ops:Array Oper} {bs:Array Nat} {p:Nat} {op:Oper} (hp:ops[p]?=some op) (hq:bW P op.op=false):∀(n:Nat) (S:List Nat) (t:Tr),p ∉ S->Nx P ops bs n S t=true->Nx P ops bs n S (rm p t)=true
 |0,_,_,_,h=>h
 |n+1,S,t,hS,h=>by
  simp only[Nx,List.all_eq_true] at h ⊢
  intro i hi
  have hk:=h i hi
  rw[Bool.or_eq_true] at hk ⊢
  refine hk.imp id fun hk=>?_
  rw[BC hp hq (fun e=>hS (e▸hi))]
  cases hf:iS P ops i t with
  |none=>rw[hf] at hk;cases hk
  |some x=>
   rw[hf] at hk
   exact Tv hp hq n _ x (fun hm=>hS (List.mem_filter.1 hm).1) hk
theorem xS {P:Program} {ops:Array Oper} {i:Nat}:∀ {t t':Tr},iS P ops i t=some t'->∃l∈lN t,∃l1 c l2,l=l1++(i,c)::l2/\∀d∈l1,∃o,ops[d.1]?=some o/\bW P o.op=false
 |.nil,_,h=>by cases h
 |.st j c t,t',h=>by
  by_cases hji:j=i
  ·obtain⟨l,hl⟩:=rX t
   exact⟨(j,c)::l,List.mem_map.2 ⟨l,hl,rfl⟩,[],c,l,by simp[hji],fun d hd=>by cases hd⟩
  ·simp only[iS,if_neg hji] at h
   split at h
   ·rename_i oj hj
    split at h
    ·cases h
    ·rename_i hoj
     cases hf:iS P ops i t with
     |none=>rw[hf] at h;cases h
     |some x=>
      obtain⟨l,hl,l1,c',l2,e,hm⟩:=xS hf
      refine⟨(j,c)::l,List.mem_map.2 ⟨l,hl,rfl⟩,(j,c)::l1,c',l2,by rw[e];rfl,fun d hd=>?_⟩
      rcases List.mem_cons.1 hd with rfl|hd
      ·exact⟨oj,hj,by simpa using hoj⟩
      ·exact hm d hd
   ·cases h
 |.br t u,t',h=>by
  simp only[iS] at h
  split at h
  ·rename_i x hx
   obtain⟨l,hl,hm⟩:=xS hx
   exact⟨l,List.mem_append.2 (.inl hl),hm⟩
  ·obtain⟨l,hl,hm⟩:=xS h
   exact⟨l,List.mem_append.2 (.inr hl),hm⟩
theorem G8 {P:Program} {ops:Array Oper} {bs:Array Nat} {j c i c':Nat} {oj o:Oper} (hj:ops[j]?=some oj) (hqj:bW P oj.op=false) (ho:ops[i]?=some o) (hq:bW P o.op=true):∀ {l1 l2:List (Nat×Nat)},(∀d∈l1,∃o,ops[d.1]?=some o/\bW P o.op=false)->
  Do P ops bs (j,c) false (l1++(i,c')::l2)=true->(bs.getD i 0).testBit j=true
 | [],l2,_,h=>by
  simp only[List.nil_append,Do,Bool.and_eq_true,hj,ho,hqj,hq,Bool.not_true,Bool.and_false,Bool.false_and,Bool.or_false] at h
  exact h.1.2
 |d::l1,l2,hm,h=>by
  obtain⟨od,hd,hqd⟩:=hm d (by simp)
  simp only[List.cons_append,Do,Bool.and_eq_true,hd,hqd,Bool.and_false,Bool.or_false] at h
  exact G8 hj hqj ho hq (fun d hd=>hm d (by simp[hd])) h.2
theorem z7 {P:Program} {ops:Array Oper} {bs:Array Nat} {Q:Fr->Hp->Prop} {i:Nat} {o:Oper} (ho:ops[i]?=some o) (hq:bW P o.op=true):∀ {t t':Tr},(∀l∈lN t,TH P ops bs l=true)->
  (∀j,(bs.getD i 0).testBit j=true->∀l∈lN t,j ∉ l.map (·.1))->iS P ops i t=some t'->
  ∃c,(∀hist a H,CY P ops Q t hist a H->CY P ops Q (.st i c t') hist a H)/\∀l∈lN t',(i,c)::l∈lN t
 |.nil,_,_,_,h=>by cases h
 |.st j c t,t',hP,hp,h=>by
  by_cases hji:j=i
  ·subst hji
   simp only[iS,if_true] at h
   cases h
   exact⟨c,fun _ _ _ h=>h,fun l hl=>List.mem_map.2 ⟨l,hl,rfl⟩⟩
  ·exfalso
   simp only[iS,if_neg hji] at h
   split at h
   ·rename_i oj hj
    split at h
    ·cases h
    ·rename_i hoj
     cases hf:iS P ops i t with
     |none=>rw[hf] at h;cases h
     |some x=>
      obtain⟨l,hl,l1,c',l2,e,hm⟩:=xS hf
      have hl':(j,c)::l∈lN (.st j c t):=List.mem_map.2 ⟨l,hl,rfl⟩
      have hpr:=hP _ hl'
      simp only[TH,Bool.and_eq_true] at hpr
      have hb:(bs.getD i 0).testBit j=true:=G8 hj (by simpa using hoj) ho hq hm (by rw[<- e];exact hpr.1)
      exact hp j hb _ hl' (by simp)
   ·cases h
 |.br t u,t',hP,hp,h=>by
  simp only[iS] at h
  split at h
  ·rename_i x hx
   cases h
   obtain⟨c,h1,h2⟩:=z7 (P:=P) (Q:=Q) ho hq (fun l hl=>hP l (List.mem_append.2 (.inl hl))) (fun j hj l hl=>hp j hj l (List.mem_append.2 (.inl hl))) hx
   exact⟨c,fun hist a H h=>h1 _ _ _ h.1,fun l hl=>List.mem_append.2 (.inl (h2 l hl))⟩
  ·obtain⟨c,h1,h2⟩:=z7 (P:=P) (Q:=Q) ho hq (fun l hl=>hP l (List.mem_append.2 (.inr hl))) (fun j hj l hl=>hp j hj l (List.mem_append.2 (.inr hl))) h
   exact⟨c,fun hist a H h=>h1 _ _ _ h.2,fun l hl=>List.mem_append.2 (.inr (h2 l hl))⟩
theorem MU {P:Program} {ops:Array Oper} {i:Nat} {o:Oper}:∀(t:Tr) (d:Nat),(∀l∈lN t,∃l1 c l2,l=l1++(i,c)::l2/\(∀x∈l1,x.1≠i/\∀oj,ops[x.1]?=some oj->oj.apart ops o=true/\B6 oj)/\d+jC P ops l1<=c)->fit P ops i o t d
 |.nil,d,h=>by
  obtain⟨l1,c,l2,e,_⟩:=h [] (by simp[lN])
  simp at e
 |.st j c t,d,h=>by
  unfold fit
  by_cases hji:j=i
  ·rw[if_pos hji]
   obtain⟨l,hl⟩:=rX t
   obtain⟨l1,c',l2,e,hx,hd⟩:=h _ (List.mem_map.2 ⟨l,hl,rfl⟩)
   cases l1 with
   |nil=>simp at e;simp[jC] at hd;omega
   |cons x l1=>
    simp at e
    exact absurd (by rw[<- e.1];exact hji) (hx x (by simp)).1
  ·rw[if_neg hji]
   intro oj hj
   have key:∀l∈lN t,∃l1 c' l2,l=l1++(i,c')::l2/\(∀x∈(j,c)::l1,x.1≠i/\∀oj,ops[x.1]?=some oj->oj.apart ops o=true/\B6 oj)/\d+jC P ops ((j,c)::l1)<=c':=by
    intro l hl
    obtain⟨l1,c',l2,e,hx,hd⟩:=h _ (List.mem_map.2 ⟨l,hl,rfl⟩)
    cases l1 with
    |nil=>simp at e;exact absurd e.1.1 hji
    |cons x l1=>
     simp at e
     obtain⟨e1,e2⟩:=e
     subst e1
     exact⟨l1,c',l2,e2,hx,hd⟩
   refine⟨?_,MU t _ fun l hl=>?_⟩
   ·obtain⟨l,hl⟩:=rX t
    obtain⟨l1,c',l2,e,hx,hd⟩:=key l hl
    exact(hx (j,c) (by simp)).2 oj hj
   ·obtain⟨l1,c',l2,e,hx,hd⟩:=key l hl
    rw[sB hj] at hd
    exact⟨l1,c',l2,e,fun x hm=>hx x (by simp[hm]),by omega⟩
 |.br t u,d,h=>⟨MU t d fun l hl=>h l (List.mem_append.2 (.inl hl)),MU u d fun l hl=>h l (List.mem_append.2 (.inr hl))⟩
theorem DC {i:Nat}:∀(t:Tr),(∀l∈lN t,i∈l.map (·.1))->∀l∈lN (rm i t),∃l1 c l2,l=l1++l2/\l1++(i,c)::l2∈lN t
 |.nil,h,l,_=>by have:=h [] (by simp[lN]);simp at this
 |.st j c t,h,l,hl=>by
  by_cases hji:j=i
  ·subst hji
   simp only[rm,if_true] at hl
   exact⟨[],c,l,rfl,List.mem_map.2 ⟨l,hl,rfl⟩⟩
  ·simp only[rm,if_neg hji] at hl
   obtain⟨l',hl',rfl⟩:=List.mem_map.1 hl
   obtain⟨l1,c',l2,e,hm⟩:=DC t (fun l hl=>by
    have:=h _ (List.mem_map.2 ⟨l,hl,rfl⟩)
    simp only[List.map_cons,List.mem_cons] at this
    exact this.resolve_left (Ne.symm hji)) l' hl'
   exact⟨(j,c)::l1,c',l2,by simp[e],List.mem_map.2 ⟨_,hm,rfl⟩⟩
 |.br t u,h,l,hl=>by
  rcases List.mem_append.1 hl with hl|hl
  ·obtain⟨l1,c,l2,e,hm⟩:=DC t (fun l hl=>h l (List.mem_append.2 (.inl hl))) l hl
   exact⟨l1,c,l2,e,List.mem_append.2 (.inl hm)⟩
  ·obtain⟨l1,c,l2,e,hm⟩:=DC u (fun l hl=>h l (List.mem_append.2 (.inr hl))) l hl
   exact⟨l1,c,l2,e,List.mem_append.2 (.inr hm)⟩
theorem Af3 {Q:Exit->Fr->Hp->Prop} (hd:∀(i:Nat) (o:Oper),ops[i]?=some o->B8 n o=true):
  ∀(k m:Nat) (S:List Nat) (t:Tr) (hist:List Hp) (a:Fr) (H:Hp) (A:Act) (w:World) (listed:Array Bool),(∀l∈lN t,l.length=k/\rF P ops bs l/\JV ops bs l listed)->
   Nx P ops bs m S t=true->(∀i∈S,∃o,ops[i]?=some o/\bW P o.op=true)->(∀i o,ops[i]?=some o->bW P o.op=true->(i∈S↔listed.getD i true=false))->
   CY P ops (Q .normal) t hist a H->xX n a A->To own w0 H0 w H->wpAny P .any ops (Vv own n w0 H0 Q) k listed A w:=by
 intro k
 induction k with
 |zero=>
  intro m S t hist a H A w listed hp hc hS1 hS2 h hf ht
  refine⟨?_,a,H,Tp t (fun l hl=>List.eq_nil_of_length_eq_zero (hp l hl).1) h,hf,ht⟩
  obtain⟨l,hl⟩:=rX t
  obtain⟨h1,hC,hI⟩:=hp l hl
  have hl0:l= []:=List.eq_nil_of_length_eq_zero h1
  subst hl0
  cases hr:Region.ready .any ops listed with
  |nil=>rfl
  |cons i is=>
   have:=(hI.predsT hC (i:=i) (by rw[hr];simp)).1
   simp at this
 |succ k ih=>
  intro m S t hist a H A w listed hp hc hS1 hS2 h hf ht
  obtain⟨l0,hl0⟩:=rX t
  constructor
  ·intro hr
   obtain⟨h1,hC,hI⟩:=hp l0 hl0
   cases l0 with
   |nil=>simp at h1
   |cons x xs=>exact absurd (hr▸hI.firstT (i:=x.1) (c:=x.2) hC) (by simp)
  ·intro i hi
   have hpr:=fun l hl=>(hp l hl).2.2.predsT (hp l hl).2.1 hi
   obtain⟨hl1,hC0,hI0⟩:=hp l0 hl0
   have hilt:i<ops.size:=by
    obtain⟨d,hd,hde⟩:=List.mem_map.1 (hpr l0 hl0).1
    have:=hC0.lt d hd
    omega
   have ho:ops[i]?=some ops[i]:=by simp[hilt]
   generalize ops[i]=o at ho
   have hdo:=Ck (hd i o ho)
   have hset:∀j,(listed.setIfInBounds i true).getD j true=if j=i then true else listed.getD j true:=fun j=>by
    by_cases hj:j=i
    ·subst hj
     have:j<listed.size:=by rw[hI0.size];exact hilt
     simp[Array.getD,this]
    ·rw[if_neg hj]
     simp only[Array.getD_eq_getD_getElem?,Array.getElem?_setIfInBounds_ne (Ne.symm hj)]
   by_cases hq:bW P o.op=true
   ·have hiS:i∈S:=(hS2 i o ho hq).2 (by obtain⟨h0,_⟩:=mem_ready.1 hi;exact h0)
    cases m with
    |zero=>
     simp only[Nx,List.isEmpty_iff] at hc
     rw[hc] at hiS;cases hiS
    |succ m=>
     simp only[Nx,List.all_eq_true] at hc
     have hci:=hc i hiS
     have hany:S.any (fun j=>(bs.getD i 0).testBit j)=false:=by
      rw[Bool.eq_false_iff]
      intro hany
      obtain⟨j,hjS,hj⟩:=List.any_eq_true.1 hany
      obtain⟨oj,hoj,hqj⟩:=hS1 j hjS
      have hlt:j<ops.size:=(Array.getElem?_eq_some_iff.1 hoj).1
      exact(hpr l0 hl0).2 j hj ((hI0.mem j hlt).1 ((hS2 j oj hoj hqj).1 hjS))
     rw[hany,Bool.false_or] at hci
     cases hfr:iS P ops i t with
     |none=>rw[hfr] at hci;cases hci
     |some t'=>
      rw[hfr] at hci
      obtain⟨c,hev,hpt⟩:=z7 (P:=P) (Q:=Q .normal) ho hq (fun l hl=>(hp l hl).2.1.pair) (fun j hj l hl=>(hpr l hl).2 j hj) hfr
      have h:=hev _ _ _ h
      have hp':∀l∈lN t',l.length=k/\rF P ops bs l/\JV ops bs l (listed.setIfInBounds i true):=fun l hl=>by
       obtain⟨g1,g2,g3⟩:=hp _ (hpt l hl)
       exact⟨by simpa using g1,g2.tail,JV.stepT (l1:= []) g3 g2 (hpr _ (hpt l hl)).2⟩
      have hS1':∀j∈S.filter (fun j=>!(j == i)),∃o,ops[j]?=some o/\bW P o.op=true:=fun j hj=>hS1 j (List.mem_filter.1 hj).1
      have hS2':∀j o,ops[j]?=some o->bW P o.op=true->(j∈S.filter (fun j=>!(j == i))↔(listed.setIfInBounds i true).getD j true=false):=fun j o hj hqj=>by
       rw[hset,List.mem_filter,hS2 j o hj hqj]
       by_cases e:j=i <;> simp[e]
      rw[AR ho hq] at h
      unfold wpOp
      simp only[ho,hf.wanted]
      by_cases hw:bD ops o a=true
      ·rw[if_pos hw] at h
       rw[if_pos hw]
       refine .inl (Cx h ht.sat hf fun v w' H' hk ht'=>?_)
       exact ih m _ t' (H::hist) _ H' _ _ _ hp' hci hS1' hS2' hk (hf.put o.dst hdo v) (ht.trans ht')
      ·rw[if_neg hw] at h
       rw[if_neg hw]
       exact ih m _ t' hist _ H _ _ _ hp' hci hS1' hS2' h (hf.put o.dst hdo undef) ht
   ·have hq':bW P o.op=false:=by simpa using hq
    have hsel:B6 o:=hC0.sel i o ho
    have hfit:fit P ops i o t 0:=by
     refine MU t 0 fun l hl=>?_
     obtain⟨hl1,hC,hI⟩:=hp l hl
     obtain⟨hm,hpb⟩:=hpr l hl
     obtain⟨d,hdl,hdi⟩:=List.mem_map.1 hm
     obtain⟨l1,l2,hsplit⟩:=List.append_of_mem hdl
     obtain⟨i',c⟩:=d
     simp only at hdi
     subst hdi
     subst hsplit
     have hfree:∀x∈l1,(bs.getD i' 0).testBit x.1=false:=fun x hx=>by
      cases hb:(bs.getD i' 0).testBit x.1 with
      |false=>rfl
      |true=>exact absurd (List.mem_map.2 ⟨x,by simp[hx],rfl⟩) (hpb x.1 hb)
     have hpo:∀x∈l1,(bs.getD x.1 0).testBit i'=false/\∃ox,ops[x.1]?=some ox/\ox.apart ops o=true:=fun x hx=>JK ho hq' hC.pair x hx (hfree x hx)
     refine⟨l1,c,l2,rfl,fun x hx=>⟨fun e=>?_,fun oj hj=>?_⟩,?_⟩
     ·have hnd:=hC.nodup
      rw[List.map_append,List.map_cons] at hnd
      exact(List.nodup_append.1 hnd).2.2 x.1 (List.mem_map.2 ⟨x,hx,rfl⟩) i' (by simp) e
     ·obtain⟨_,ox,hox,hap⟩:=hpo x hx
      rw[hj] at hox
      cases hox
      exact⟨hap,hC.sel _ _ hj⟩
     ·rw[Nat.zero_add]
      refine Nat.le_trans ?_ (hC.cnt (i',c) (by simp))
      have:l1=l1.filter fun j=>!(bs.getD i' 0).testBit j.1 && !(bs.getD j.1 0).testBit i':=by
       refine(List.filter_eq_self.2 fun x hx=>?_).symm
       rw[hfree x hx,(hpo x hx).1];rfl
      unfold jC
      refine List.Sublist.length_le (List.Sublist.filter _ ?_)
      conv=>lhs;rw[this]
      exact List.Sublist.filter _ (List.sublist_append_left _ _)
    obtain⟨v,h1,_,h3⟩:=U7 ho hq' hsel t 0 hist a H ht.sat.satis hfit h
    have hp':∀l∈lN (rm i t),l.length=k/\rF P ops bs l/\JV ops bs l (listed.setIfInBounds i true):=fun l hl=>by
     obtain⟨l1,c,l2,e,hm⟩:=DC t (fun l hl=>(hpr l hl).1) l hl
     subst e
     obtain⟨g1,g2,g3⟩:=hp _ hm
     exact⟨by simp at g1 ⊢;omega,g2.subP (List.Sublist.append_left (List.sublist_cons_self _ _) _) (XM ho hq' g2.pair),g3.stepT g2 (hpr _ hm).2⟩
    have hiS:i ∉ S:=fun hm=>by
     obtain⟨o',ho',hq''⟩:=hS1 i hm
     rw[ho] at ho';cases ho'
     exact hq hq''
    have hS2':∀j o,ops[j]?=some o->bW P o.op=true->(j∈S↔(listed.setIfInBounds i true).getD j true=false):=fun j oj hj hqj=>by
     rw[hset,hS2 j oj hj hqj]
     by_cases e:j=i
     ·subst e;rw[ho] at hj;cases hj;exact absurd hqj hq
     ·rw[if_neg e]
    have hnext:=ih m S (rm i t) hist _ H _ w _ hp' (Tv ho hq' m S t hiS hc) hS1 hS2' h3 (hf.put o.dst hdo v) ht
    unfold wpOp
    simp only[ho,hf.wanted]
    unfold Yv at h1
    by_cases hw:bD ops o a=true
    ·rw[if_pos hw] at h1
     rw[if_pos hw]
     refine .inl ?_
     unfold Oper.wp
     rw[hf.eval,XE h1 ht.sat]
     exact hnext
    ·rw[if_neg hw] at h1
     subst h1
     rw[if_neg hw]
     exact hnext
def HN (P:Program) (ops:Array Oper) (bs:Array Nat) (t:Tr):Bool:=
 (lN t).all (I0 P ops bs) && Nx P ops bs ops.size ((List.range ops.size).filter fun i=>match ops[i]? with|some o=>bW P o.op|none=>false) t
theorem Qz {t:Tr} {w:World} {Q:Exit->Fr->Hp->Prop} {A:Act} {id:Nat}
  (hm:P.follows .mixedOrders=true) (hd:∀(i:Nat) (o:Oper),ops[i]?=some o->B8 n o=true) (hc:HN P ops bs t=true) (h:CY P ops (Q .normal) t [] a H) (hf:xX n a A) (ht:To own w0 H0 w H):
  (Code.region id ops true).wp P (Vv own n w0 H0 Q) A w:=by
 simp only[HN,Bool.and_eq_true,List.all_eq_true] at hc
 refine wp_region_any hm ?_
 refine Af3 hd ops.size ops.size _ t [] a H A _ _ (fun l hl=>?_) hc.2 (fun i hi=>?_) (fun i o ho hq=>?_) h hf ht.drew
 ·obtain⟨hC,hlen,hmem⟩:=Jd (hc.1 l hl)
  exact⟨hlen,hC,yU.inv hmem⟩
 ·have:=(List.mem_filter.1 hi).2
  split at this
  ·rename_i o ho;exact⟨o,ho,this⟩
  ·cases this
 ·have hi:i<ops.size:=(Array.getElem?_eq_some_iff.1 ho).1
  rw[List.mem_filter,ho]
  simp[hi,hq,Array.getD]
end Go.Sl
namespace Go.Sl
variable {P:Program} {c:Code} {n B:Nat} {w:World} {own:Nat->Prop} {α β:Type} {H:Hp} {cs:List Value} {e t:TypeId} {rw:Bool} {i:TypeInfo} {v:Value} {a:Fr} {fn:Func}
def Aay (P:Program) (ops:Array Oper) (bs:Array Nat):List Nat:=
 let all:=List.range ops.size
 let acc:=(all.filter fun i=>match ops[i]? with
  |some o=>bW P o.op
  |none=>false).foldl (fun acc e=>if acc.contains e then acc else acc++(all.filter fun i=>(bs.getD e 0).testBit i && !acc.contains i)++ [e]) []
 acc++all.filter fun i=>!acc.contains i
def JR (P:Program) (ops:Array Oper) (bs:Array Nat):List (Nat×Nat):=
 let l:=(Aay P ops bs).map fun i=>(i,0)
 l.map fun d=>(d.1,jC P ops (l.filter fun j=>!(bs.getD d.1 0).testBit j.1 && !(bs.getD j.1 0).testBit d.1))
def ev (P:Program):Code->(Exit->Fr->Hp->Prop)->Fr->Hp->Prop
 |.skip,Q=>Q .normal
 |.region _ ops false,Q=>Jz P ops (Q .normal) 0 ops.toList
 |.region _ ops true,Q=>fun a H=>(vD P ops (Region.before ops) (JR P ops (Region.before ops))=true/\zA P ops (Q .normal) (JR P ops (Region.before ops)) [] a H)\/∃t,HN P ops (Region.before ops) t=true/\CY P ops (Q .normal) t [] a H
 |.seq x y,Q=>ev P x (T7 (ev P y Q) Q)
 |.cond c x y,Q=>fun a H=>match bJ a c with
  |.bool b=>Br b (ev P x Q a H) (ev P y Q a H)
  |_=>False
 |.block id c,Q=>ev P c (AK id Q)
 |.loop c,Q=>fun a H=>∃(I:Nat->Fr->Hp->Prop) (n:Nat),I n a H/\∀n a H,I n a H->ev P c (T7 (fun a' H'=>∃m,m<n/\I m a' H') Q) a H
 |.exit id,Q=>Q (.exit id)
 |.scope c,Q=>ev P c (Tm Q)
 |.label _,Q=>Q .normal
 |.ret,Q=>Q .ret
 |_,_=>fun _ _=>False
def rC (n:Nat):Code->Bool
 |.region _ ops _=>ops.all (B8 n)
 |.seq x y=>rC n x && rC n y
 |.cond _ x y=>rC n x && rC n y
 |.block _ c=>rC n c
 |.loop c=>rC n c
 |.scope c=>rC n c
 |_=>true
theorem QI {Q:Exit->Act->World->Prop} (I:Nat->Act->World->Prop)
  (round:∀n a w,I n a w->c.wp P (Exit.then (fun a' w'=>∃m,m<n/\I m a' w') Q) a w) {a:Act} (h:I n a w):(Code.loop c).wp P Q a w:=by
 intro b k cs
 have key:∀n a w,I n a w->∃e a' w',Q e a' w'/\Arrives P (lone (b.at a (.code c::.inLoop c::k)) cs w) b k cs e a' w':=by
  intro n
  induction n using Nat.strongRecOn with
  |_ n ih=>
   intro a w hI
   obtain⟨e,a₁,w₁,hq,harr⟩:=round n a w hI b (.inLoop c::k) cs
   cases e with
   |normal=>
    obtain⟨m,hlt,hI₁⟩:=hq
    obtain⟨e₂,a₂,w₂,hq₂,harr₂⟩:=ih m hlt a₁ w₁ hI₁
    exact⟨e₂,a₂,w₂,hq₂,.of_steps (Steps.trans harr (.one step_inLoop)) harr₂⟩
   |exit id=>exact⟨_,a₁,w₁,hq,.pass (x:=.inLoop c) rfl (fun _ _=>.inl (by simp)) harr⟩
   |goto l=>exact⟨_,a₁,w₁,hq,.pass (x:=.inLoop c) rfl (fun _ _=>.inl (by simp)) harr⟩
   |ret=>exact⟨_,a₁,w₁,hq,.pass (x:=.inLoop c) rfl (fun _ _=>.inl (by simp)) harr⟩
   |panic ch=>exact⟨_,a₁,w₁,hq,.pass (x:=.inLoop c) rfl (fun _ _=>.inl (by simp)) harr⟩
   |outgrown=>exact⟨_,a₁,w₁,hq,.pass (x:=.inLoop c) rfl (fun _ _=>.inl (by simp)) harr⟩
 obtain⟨e,a',w',hq,harr⟩:=key n a w h
 exact⟨e,a',w',hq,.of_steps (.one step_loop) harr⟩
theorem Ae8 (hm:P.follows .mixedOrders=true) {w0:World} {H0:Hp} (c:Code):∀(Q:Exit->Fr->Hp->Prop) (a:Fr) (H:Hp) (A:Act) (w:World),
  rC n c=true->ev P c Q a H->xX n a A->To own w0 H0 w H->c.wp P (Vv own n w0 H0 Q) A w:=by
 induction c with
 |skip=>exact fun Q a H A w _ h hf ht=>wp_skip ⟨a,H,h,hf,ht⟩
 |region id ops d=>
  intro Q a H A w hc h hf ht
  have hd:∀o∈ops.toList,B8 n o=true:=fun o ho=>Array.all_eq_true_iff_forall_mem.1 hc o (Array.mem_toList_iff.1 ho)
  cases d with
  |false=>exact wp_region_list (Xg ops.toList 0 a H A w hd h hf ht)
  |true=>
   rcases h with h|⟨t,h1,h2⟩
   ·exact RH hm (fun i o ho=>hd o (Array.mem_toList_iff.2 (Array.mem_of_getElem? ho))) h.1 h.2 hf ht
   ·exact Qz hm (fun i o ho=>hd o (Array.mem_toList_iff.2 (Array.mem_of_getElem? ho))) h1 h2 hf ht
 |seq x y ihx ihy=>
  intro Q a H A w hc h hf ht
  simp only[rC,Bool.and_eq_true] at hc
  refine wp_seq (wp_mono (ihx _ a H A w hc.1 h hf ht) fun e A' w' hq=>?_)
  obtain⟨a',H',hq,hf',ht'⟩:=hq
  cases e with
  |normal=>exact ihy Q a' H' A' w' hc.2 hq hf' ht'
  |_=>exact⟨a',H',hq,hf',ht'⟩
 |cond c x y ihx ihy=>
  intro Q a H A w hc h hf ht
  simp only[rC,Bool.and_eq_true] at hc
  simp only[ev] at h
  split at h
  ·rename_i b hb
   refine wp_cond_split (t:=b) (by rw[hf.eval];exact hb) (fun hb=>ihx Q a H A w hc.1 (h.yes hb) hf ht) (fun hb=>ihy Q a H A w hc.2 (h.no hb) hf ht)
  ·exact h.elim
 |block id c ih=>
  intro Q a H A w hc h hf ht
  refine wp_block (wp_mono (ih _ a H A w hc h hf ht) fun e A' w' hq=>?_)
  obtain⟨a',H',hq,hf',ht'⟩:=hq
  cases e with
  |exit j=>
   simp only[AK] at hq
   simp only[Exit.inBlock]
   split <;> rename_i hj
   ·rw[if_pos hj] at hq;exact⟨a',H',hq,hf',ht'⟩
   ·rw[if_neg hj] at hq;exact⟨a',H',hq,hf',ht'⟩
  |_=>exact⟨a',H',hq,hf',ht'⟩
 |loop c ih=>
  intro Q a H A w hc h hf ht
  obtain⟨I,k,h0,hround⟩:=h
  refine QI (fun k A w=>∃a H,I k a H/\xX n a A/\To own w0 H0 w H) (fun k A w hI=>?_) ⟨a,H,h0,hf,ht⟩
  obtain⟨a,H,hI,hf,ht⟩:=hI
  refine wp_mono (ih _ a H A w hc (hround k a H hI) hf ht) fun e A' w' hq=>?_
  obtain⟨a',H',hq,hf',ht'⟩:=hq
  cases e with
  |normal=>obtain⟨m,hm,hI⟩:=hq;exact⟨m,hm,a',H',hI,hf',ht'⟩
  |_=>exact⟨a',H',hq,hf',ht'⟩
 |exit id=>exact fun Q a H A w _ h hf ht=>wp_exit ⟨a,H,h,hf,ht⟩
 |scope c ih=>
  intro Q a H A w hc h hf ht
  refine wp_scope_straight (wp_mono (ih _ a H A w hc h hf ht) fun e A' w' hq=>?_)
  obtain⟨a',H',hq,hf',ht'⟩:=hq
  cases e with
  |goto l=>exact hq.elim
  |_=>exact⟨a',H',hq,hf',ht'⟩
 |label l=>exact fun Q a H A w _ h hf ht=>wp_label ⟨a,H,h,hf,ht⟩
 |ret=>exact fun Q a H A w _ h hf ht=>wp_ret ⟨a,H,h,hf,ht⟩
 |_=>exact fun Q a H A w _ h hf ht=>h.elim
def CG (P:Program) (t:TypeId):Option Bool:=match P.underlying t with
 |some (.struct _)|some (.array _ _)=>some true
 |some _=>some false
 |none=>none
def Xx (P:Program) (H:Hp) (t:TypeId):Value->Option Value
 |.pointer (some ⟨B,off,none⟩)=>match H B with
  |some (.cells cs _ _)=>match CG P t with
   |some true=>match P.info? t with
    |some i=>if off+i.size<=cs.length then some (.agg ((cs.drop off).take i.size).toArray) else none
    |none=>none
   |some false=>cs[off]?
   |none=>none
  |_=>none
 |_=>none
theorem fW (P:Program) (s:Sem α) (f:α->Sem β) (H:Hp):(s >>= f).rd P H=(s.rd P H).bind fun x=>(f x).rd P H:=by
 change(s.bind f).rd P H=_
 induction s with
 |pure a=>rfl
 |load m a c ih=>
  simp only[Sem.bind,Sem.rd]
  split
  ·split
   ·split
    ·exact ih _
    ·rfl
   ·rfl
  ·rfl
 |program k ih=>simp only[Sem.bind,Sem.rd];exact ih _
 |mark m k ih=>simp only[Sem.bind,Sem.rd];exact ih
 |getObj r c ih=>
  simp only[Sem.bind,Sem.rd]
  split
  ·exact ih _
  ·rfl
 |_=>rfl
theorem aU (P:Program) (s:Sem α) (f:α->Sem β):(s >>= f).pr P=(s.pr P).bind fun x=>(f x).pr P:=by
 change(s.bind f).pr P=_
 induction s with
 |pure a=>rfl
 |program k ih=>simp only[Sem.bind,Sem.pr];exact ih _
 |mark m k ih=>simp only[Sem.bind,Sem.pr];exact ih
 |_=>rfl
theorem nO (B off n:Nat):(⟨B,off,none⟩:Addr).add n=⟨B,off+n,none⟩:=by
 unfold Addr.add
 split
 ·rename_i h;subst h;rfl
 ·rfl
theorem Ub {off:Nat} (hb:H B=some (.cells cs e rw)) (m:Mode):(load ⟨B,off,none⟩ m).rd P H=cs[off]?:=by
 simp only[load,Sem.rd,hb,Option.isNone_none,if_true]
 cases cs[off]? <;> rfl
theorem xW (hb:H B=some (.cells cs e rw)) (off:Nat):∀(n i:Nat) (acc:Array Value),off+i+n<=cs.length->
  (loadCellsFrom ⟨B,off,none⟩ i n acc).rd P H=some (acc++((cs.drop (off+i)).take n).toArray):=by
 intro n
 induction n with
 |zero=>intro i acc _;simp[loadCellsFrom,pure,Sem.rd]
 |succ n ih=>
  intro i acc hle
  unfold loadCellsFrom
  have hlt:off+i<cs.length:=by omega
  rw[fW,nO,Ub hb,List.getElem?_eq_getElem hlt,Option.bind_some,ih (i+1) _ (by omega)]
  rw[List.drop_eq_getElem_cons hlt,List.take_succ_cons]
  congr 1
  apply Array.ext'
  simp[Nat.add_assoc]
theorem ID:program.rd P H=some P:=rfl
theorem yK (x:α):(pure x:Sem α).rd P H=some x:=rfl
theorem Ny (h:P.info? t=some i):(typeInfo t).rd P H=some i:=by
 simp only[typeInfo,fW,ID,Option.bind_some,h];rfl
theorem rP {d:TypeDesc} (h:P.underlying t=some d):(underlying t).rd P H=some d:=by
 simp only[underlying,fW,ID,Option.bind_some,h];rfl
theorem U8 (h:P.info? t=some i):(sizeOf t).rd P H=some i.size:=by
 simp only[sizeOf,fW,Ny h,Option.bind_some];rfl
theorem NT {b:Bool} (h:CG P t=some b):(isAgg t).rd P H=some b:=by
 unfold CG at h
 unfold isAgg
 split at h
 ·rename_i fs hu;rw[fW,rP hu];exact h
 ·rename_i n e hu;rw[fW,rP hu];exact h
 ·rename_i d h1 h2 hu
  rw[fW,rP hu,Option.bind_some]
  split
  ·exact(h1 _ rfl).elim
  ·exact(h2 _ _ rfl).elim
  ·exact h
 ·cases h
theorem IS {a:Addr} (h:Xx P H t (.pointer (some a))=some v):(loadVar t a).rd P H=some v:=by
 obtain⟨B,off,sp⟩:=a
 cases sp with
 |some s=>simp[Xx] at h
 |none=>
  simp only[Xx] at h
  split at h
  ·rename_i cs e rw hb
   split at h
   ·rename_i hag
    split at h
    ·rename_i i hi
     split at h
     ·rename_i hle
      simp only[loadVar,fW,NT hag,Option.bind_some,if_true,U8 hi,loadCells]
      rw[xW hb off i.size 0 #[] (by omega)]
      simpa[yK] using h
     ·cases h
    ·cases h
   ·rename_i hag
    simp only[loadVar,fW,NT hag,Option.bind_some]
    exact(Ub hb _).trans h
   ·cases h
  ·cases h
theorem WX {x:Value} (h:Xx P H t x=some v):(Instr.loadAt t x).rd P H=some v:=by
 unfold Instr.loadAt
 rw[fW]
 cases x with
 |pointer a=>
  cases a with
  |none=>simp[Xx] at h
  |some a=>exact IS h
 |_=>simp[Xx] at h
def NG (P:Program) (a:Fr) (H:Hp):ResultVar->Option Value
 |.tmp t=>some (a t)
 |.cell p t=>Xx P H t (a p)
def wV (P:Program) (a:Fr) (H:Hp):List ResultVar->Option (List Value)
 | []=>some []
 |r::rs=>match NG P a H r,wV P a H rs with
  |some v,some vs=>some (v::vs)
  |_,_=>none
def Qy:List Value->Value
 | [v]=>v
 |vs=>.tuple vs.toArray
def XX (P:Program) (fn:Func) (K:Value->Hp->Prop) (a:Fr) (H:Hp):Prop:=
 ∃vs,wV P a H fn.results.toList=some vs/\∃H',xR H' H/\K (Qy vs) H'
def Aml (P:Program) (fn:Func) (K:Value->Hp->Prop):Exit->Fr->Hp->Prop
 |Exit.normal=>XX P fn K
 |Exit.ret=>XX P fn K
 |_=>fun _ _=>False
theorem Lr {f:ResultVar->Sem Value} {g:ResultVar->Option Value} (hfg:∀r v,g r=some v->(f r).rd P H=some v):
  ∀(l:List ResultVar) (vs:List Value),(match l with|l=>l.foldr (fun r acc=>(g r).bind fun v=>acc.map (v::·)) (some []))=some vs->(l.mapM f).rd P H=some vs:=by
 intro l
 induction l with
 |nil=>intro vs h;simp at h;subst h;rfl
 |cons r l ih=>
  intro vs h
  simp only[List.foldr_cons] at h
  cases hg:g r with
  |none=>rw[hg] at h;cases h
  |some v=>
   rw[hg] at h
   simp only[Option.bind_some,Option.map_eq_some_iff] at h
   obtain⟨vs',h',rfl⟩:=h
   rw[List.mapM_cons,fW,hfg r v hg,Option.bind_some,fW,ih vs' h']
   rfl
theorem RV:∀(l:List ResultVar),wV P a H l=l.foldr (fun r acc=>(NG P a H r).bind fun v=>acc.map (v::·)) (some []):=by
 intro l
 induction l with
 |nil=>rfl
 |cons r l ih=>
  simp only[wV,List.foldr_cons,<- ih]
  cases NG P a H r <;> cases wV P a H l <;> rfl
theorem NS {A:Act} {vs:List Value} (hf:xX n a A) (hs:AX own H w) (h:wV P a H fn.results.toList=some vs):
  (results fn A.tmps).run P w=.ok (Qy vs) w:=by
 refine XC P hs _ _ ?_
 unfold results
 rw[fW,Array.mapM_eq_mapM_toList]
 rw[RV] at h
 have key:∀f:ResultVar->Sem Value,(∀r v,NG P a H r=some v->(f r).rd P H=some v)->(fn.results.toList.mapM f).rd P H=some vs:=fun f hf=>Lr hf _ _ h
 rw[map_eq_pure_bind,fW,key]
 ·simp only[Option.bind_some,yK]
  match vs with
  | []=>rfl
  | [v]=>rfl
  |_::_::_=>simp[Qy]
 ·intro r v hr
  cases r with
  |tmp t=>simp only[NG,Option.some.injEq] at hr;subst hr;rw[<- hf.get t];rfl
  |cell p t=>
   simp only[NG] at hr
   simp only[fW]
   rw[hf.get p]
   cases hp:a p with
   |pointer ad=>
    cases ad with
    |none=>rw[hp] at hr;simp[Xx] at hr
    |some ad=>
     rw[hp] at hr
     exact IS hr
   |_=>rw[hp] at hr;simp[Xx] at hr
def GA (args:List Value):Fr:=fun t=>args.getD t undef
theorem O9 (hm:P.follows .mixedOrders=true) {f:FuncId} {args:Array Value} {K:Value->Hp->Prop} (hf:P.funcs[f]?=some fn) (hb:fn.body=some c)
  (hn:(fn.name == "runtime.NumGoroutine")=false) (hc:rC fn.ntmps c=true) (hsz:args.size<=fn.ntmps) (h:ev P c (Aml P fn K) (GA args.toList) H):qG P f args H K:=by
 refine⟨⟨fn,hf,by rw[hb];rfl,hn⟩,fun own w hs=>?_⟩
 refine calls_of_wp hf hb (wp_mono (Ae8 hm (n:=fn.ntmps) c _ _ H _ w hc h ⟨?_,fun t=>?_,rfl⟩ (To.refl hs)) fun e A' w' hq=>?_)
 ·simp;omega
 ·simp only[GA,Array.getD_eq_getD_getElem?,List.getD_eq_getElem?_getD]
  by_cases ht:t<args.size
  ·rw[Array.getElem?_append_left ht,Array.getElem?_toList]
  ·rw[Array.getElem?_append_right (by omega)]
   have h1:args.toList[t]?=none:=by simp;omega
   rw[h1]
   by_cases h2:t - args.size<fn.ntmps - args.size
   ·simp[h2]
   ·simp[h2]
 ·obtain⟨a,H',hq,hf',ht⟩:=hq
  have fin:XX P fn K a H'->A'.defers= []/\∃v,(results fn A'.tmps).run P w'=.ok v w'/\∃v_1 H',Ending.returned v=.returned v_1/\K v_1 H'/\To own w H w' H':=fun⟨vs,h1,H'',h2,h3⟩=>
   ⟨hf'.defers,Qy vs,NS hf' ht.sat h1,Qy vs,H'',rfl,h3,ht.sub h2⟩
  cases e with
  |normal=>exact fin hq
  |ret=>exact fin hq
  |_=>exact hq.elim
end Go.Sl
end
