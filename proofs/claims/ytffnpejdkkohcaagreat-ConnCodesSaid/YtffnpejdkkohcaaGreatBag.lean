/- A part of the proof: lemmas; each with the conditions that it states. -/
import Derived.Test.YtffnpejdkkohcaaGreatBaf
set_option linter.unusedVariables false
set_option linter.unusedSimpArgs false
namespace Go.Sl
variable {p X Y:Prop} {α:Type} {P:Program} {es:ET} {a:Fr} {C:List HP} {Q:Exit->Fr->List HP->Prop} {id:Nat} {ol:List Oper} {l:List (Nat×Nat)}
structure BrH (p:Prop):Prop where
 h:p
theorem bh (f:p->X):BrH p->X:=fun h=>f h.h
structure EqS {α:Type} (a b:α):Prop where
 h:a=b
theorem aF {a b:α} (f:a=b->X):EqS a b->X:=fun h=>f h.h
theorem iR {E:tP α} {xs:List α} {ops:Array Oper} {Q:Fr->List HP->Prop} {hist:List (List HP)} {gd:Bool} {d':Nat} {c:Nat} {t:TypeId} {x y:Operand} {ty:TypeId} {pos:String} {after:Array Edge} {g:Option (Nat×Bool)} {A:Option Addr} {n cp sz:Nat} {k:IntKind} {j:Int} (h:∀B off,EqS A (some ⟨B,off,none⟩)->cU gd (.pointer (some ⟨B,off+j.toNat * sz,none⟩)) fun v=>aM P ops Q es hist (kH a d' v) C)
  (hx:bJ a x=.slice A n cp:=by exact rfl) (hy:bJ a y=.int k j:=by exact rfl) (ht:sP P t=some sz:=by exact rfl) (hv:dE C A E xs:=by((repeat (first|exact eA|exact jF|exact rO|assumption|apply bF)) <;> exact eA))
  (hn:xs.length=n:=by first|exact rfl|assumption|omega) (h0:0<=j:=by first|omega|assumption) (h1:j<n:=by first|omega|assumption) (hw:bD ops ⟨some d',.indexAddr t x y,ty,pos,after,g⟩ a=true:=by exact rfl):
  aM P ops Q (ET.cons (c,gd,⟨some d',.indexAddr t x y,ty,pos,after,g⟩) es) hist a C:=
 wT (fun B off e=>h B off ⟨e⟩) hx hy ht hv hn h0 h1 hw
theorem Br.mkW {b:Bool} {q:Prop} (hX:BrH p->X) (hY:BrH q->Y)
 (hp:b=true->p:=by
  intro h
  first
  |(simp only[Bool.and_eq_true,Bool.or_eq_true,Bool.and_eq_false_iff,Bool.or_eq_false_iff,decide_eq_true_eq,decide_eq_false_iff_not,beq_iff_eq,bne_iff_ne,beq_eq_false_iff_ne,bne_eq_false_iff_eq,ne_eq,Bool.not_eq_true',Bool.not_eq_false',not_true_eq_false,not_false_eq_true,Int.not_lt,Int.not_le,gt_iff_lt,ge_iff_le] at h;exact h)
  |exact h)
 (hq:b=false->q:=by
  intro h
  first
  |(simp only[Bool.and_eq_true,Bool.or_eq_true,Bool.and_eq_false_iff,Bool.or_eq_false_iff,decide_eq_true_eq,decide_eq_false_iff_not,beq_iff_eq,bne_iff_ne,beq_eq_false_iff_ne,bne_eq_false_iff_eq,ne_eq,Bool.not_eq_true',Bool.not_eq_false',not_true_eq_false,not_false_eq_true,Int.not_lt,Int.not_le,gt_iff_lt,ge_iff_le] at h;exact h)
  |exact h):Br b X Y:=Br.mk (fun h=>hX ⟨hp h⟩) (fun h=>hY ⟨hq h⟩)
theorem w5 {Z:Prop} (h1:X) (h2:Y) (hs:X->Y->Z:=by
 first
 |(show _->_->aM _ _ _ _ _ _ _;exact fun h k=>Amm h k)
 |(show _->_->Br _ _ _;first|exact fun h k=>Br.mkW h k|exact fun h k=>Br.mkV h k)):Z:=hs h1 h2
theorem w6 (h:p) (hs:p->False:=by
 intro h
 first
 |contradiction
 |omega
 |(simp at h <;> contradiction)):Y:=(hs h).elim
def Ahp (_:List (Nat×Nat)) (X Y:Prop):Prop:=X->Y
def Ahk (_ _:List Nat) (_:List (Nat×Nat)) (X Y:Prop):Prop:=X->Y
def Ahc (_:Tr) (X Y:Prop):Prop:=X->Y
theorem Yz (hl:Cc (JR P ol.toArray (Region.before ol.toArray))=some l) (hc:vD P ol.toArray (Region.before ol.toArray) l=true) (he:Jt ol.toArray l=some es):Ahp l (aM P ol.toArray (Q .normal) es [] a C) (eY P (.region id ol.toArray true) Q a C):=fun h=>GW hl hc he h
theorem X2 {bl br:List Nat} (hb:Wu ol [] 0=some br) (hr:br.reverse=bl) (hl:Cc (JR P ol.toArray bl.toArray)=some l) (hc:vD P ol.toArray bl.toArray l=true) (he:Jt ol.toArray l=some es):Ahk bl br l (aM P ol.toArray (Q .normal) es [] a C) (eY P (.region id ol.toArray true) Q a C):=fun h=>Aff hb hr hl hc he h
theorem Aak {t:Tr} (hl:trF (QW P ol.toArray (Region.before ol.toArray) (C1 P ol.toArray).length [] (C1 P ol.toArray))=some t) (hc:HN P ol.toArray (Region.before ol.toArray) t=true) (he:Ed ol.toArray t=some es):Ahc t (aM P ol.toArray (Q .normal) es [] a C) (eY P (.region id ol.toArray true) Q a C):=fun h=>Gz hl hc he h
theorem dw (l:List (Nat×Nat)) (h:X) (hs:Ahp l X Y:=by exact Yz (by decide +kernel) (by decide +kernel) (by exact rfl)):Y:=hs h
theorem ON (bl br:List Nat) (l:List (Nat×Nat)) (h:X) (hs:Ahk bl br l X Y:=by exact X2 (by decide +kernel) (by decide +kernel) (by decide +kernel) (by decide +kernel) (by exact rfl)):Y:=hs h
theorem Hq (t:Tr) (h:X) (hs:Ahc t X Y:=by exact Aak (by kernel_rfl) (by decide +kernel) (by exact rfl)):Y:=hs h
theorem wr (h:X) (hs:X->Y:=by
 first
 |(show _->cU _ _ _;first|exact fun h=>CO rfl h|exact fun h=>GC rfl h)
 |(show _->eY _ _ _ _ _;first|exact fun h=>Tt h|exact fun h=>Ds (by exact rfl) h|exact fun h=>MB (by exact rfl) h|exact fun h=>Tl h|exact fun h=>MO h|exact fun h=>Eb h|exact fun h=>Mm h|exact fun h=>Gj h|exact fun h=>Gi h|exact fun h=>GW (by exact rfl) (by decide +kernel) (by exact rfl) h|exact fun h=>Gz (by exact rfl) (by decide +kernel) (by exact rfl) h)
 |(show _->Br _ _ _;first|exact fun h=>Br.t rfl h|exact fun h=>Br.f rfl h|exact fun h=>Br.t (beq_self_eq_true _) h|exact fun h=>Br.f (tD _) h|exact fun h=>Br.t (by assumption) h|exact fun h=>Br.f (by assumption) h|exact fun h=>Br.t (Aee (by assumption)) h|exact fun h=>Br.f (Adj (by assumption)) h)
 |(show _->bQ _ _ _ _ _;first|exact fun h=>t_n h|exact fun h=>t_r h|exact fun h=>t_e h)
 |(show _->aL _ _ _ _ _;first|exact fun h=>b_n h|exact fun h=>b_r h|exact fun h=>T6 rfl h|exact fun h=>MV rfl h)
 |(show _->aW _ _ _ _;first|exact fun h=>g_n h|exact fun h=>g_r h|exact fun h=>g_e h)):Y:=hs h
theorem w1 (h:X) (hs:X->Y:=by
 first
 |(show _->aM _ _ _ _ _ _ _;first
  |(show _->aM _ _ _ (ET.cons (_,_,⟨_,.move _,_,_,_,_⟩) _) _ _ _;first|exact fun h=>aE h|exact fun h=>aH h|exact fun h=>aV h|exact fun h=>G_skip0 h)
  |(show _->aM _ _ _ (ET.cons (_,_,⟨_,.assign _,_,_,_,_⟩) _) _ _ _;first|exact fun h=>aE h|exact fun h=>aH h|exact fun h=>aV h|exact fun h=>G_skip0 h)
  |(show _->aM _ _ _ (ET.cons (_,_,⟨_,.load _ _,_,_,_,_⟩) _) _ _ _;first|exact fun h=>aE h|exact fun h=>bG h|exact fun h=>aH h|exact fun h=>aY h|exact fun h=>aO h|exact fun h=>aR h|exact fun h=>aV h|exact fun h=>G_skip0 h)
  |(show _->aM _ _ _ (ET.cons (_,_,⟨_,.fieldAddr _ _ _,_,_,_,_⟩) _) _ _ _;first|exact fun h=>aE h|exact fun h=>bB h|exact fun h=>aH h|exact fun h=>aV h|exact fun h=>G_skip0 h)
  |(show _->aM _ _ _ (ET.cons (_,_,⟨_,.call _,_,_,_,_⟩) _) _ _ _;first|exact fun h=>aE h|exact fun h=>aH h|exact fun h=>cN h|exact fun h=>dG h|exact fun h=>yQ h|exact fun h=>zJ h|exact fun h=>bP h|exact fun h=>G_call0 h|exact fun h=>g9 h|exact fun h=>G_callv0 h|exact fun h=>aV h|exact fun h=>G_skip0 h)
  |(show _->aM _ _ _ (ET.cons (_,_,⟨_,.nilCheck _,_,_,_,_⟩) _) _ _ _;first|exact fun h=>aE h|exact fun h=>aH h|exact fun h=>aV h|exact fun h=>G_skip0 h)
  |exact fun h=>aP h
  |(show _->aM _ _ _ (ET.cons (_,_,⟨_,.extract _ _,_,_,_,_⟩) _) _ _ _;first|exact fun h=>aE h|exact fun h=>aH h|exact fun h=>aV h|exact fun h=>G_skip0 h)
  |(show _->aM _ _ _ (ET.cons (_,_,⟨_,.binOp _ _ _ _ _,_,_,_,_⟩) _) _ _ _;first|(show _->aM _ _ _ (ET.cons (_,_,⟨_,.binOp .eql _ _ _ _,_,_,_,_⟩) _) _ _ _;first|exact fun h=>aE h|exact fun h=>aH h|exact fun h=>aT h|exact fun h=>aV h|exact fun h=>G_skip0 h)|(show _->aM _ _ _ (ET.cons (_,_,⟨_,.binOp .add _ _ _ _,_,_,_,_⟩) _) _ _ _;first|exact fun h=>cE h|exact fun h=>aE h|exact fun h=>aH h|exact fun h=>fP h|exact fun h=>aV h|exact fun h=>G_skip0 h)|(show _->aM _ _ _ (ET.cons (_,_,⟨_,.binOp .neq _ _ _ _,_,_,_,_⟩) _) _ _ _;first|exact fun h=>aE h|exact fun h=>aH h|exact fun h=>bY h|exact fun h=>aV h|exact fun h=>G_skip0 h)|(show _->aM _ _ _ (ET.cons (_,_,⟨_,.binOp .sub _ _ _ _,_,_,_,_⟩) _) _ _ _;first|exact fun h=>f4 h|exact fun h=>aE h|exact fun h=>aH h|exact fun h=>aV h|exact fun h=>G_skip0 h)|(show _->aM _ _ _ (ET.cons (_,_,⟨_,.binOp .rem _ _ _ _,_,_,_,_⟩) _) _ _ _;first|exact fun h=>zD h|exact fun h=>aE h|exact fun h=>aH h|exact fun h=>aV h|exact fun h=>G_skip0 h)|(show _->aM _ _ _ (ET.cons (_,_,⟨_,.binOp .mul _ _ _ _,_,_,_,_⟩) _) _ _ _;first|exact fun h=>AU h|exact fun h=>aE h|exact fun h=>aH h|exact fun h=>aV h|exact fun h=>G_skip0 h)|(show _->aM _ _ _ (ET.cons (_,_,⟨_,.binOp .quo _ _ _ _,_,_,_,_⟩) _) _ _ _;first|exact fun h=>Kg h|exact fun h=>aE h|exact fun h=>aH h|exact fun h=>aV h|exact fun h=>G_skip0 h)|(show _->aM _ _ _ (ET.cons (_,_,⟨_,.binOp .shr _ _ _ _,_,_,_,_⟩) _) _ _ _;first|exact fun h=>Pm h|exact fun h=>aE h|exact fun h=>aH h|exact fun h=>aV h|exact fun h=>G_skip0 h)|(show _->aM _ _ _ (ET.cons (_,_,⟨_,.binOp .shl _ _ _ _,_,_,_,_⟩) _) _ _ _;first|exact fun h=>Ln h|exact fun h=>aE h|exact fun h=>aH h|exact fun h=>aV h|exact fun h=>G_skip0 h)|(show _->aM _ _ _ (ET.cons (_,_,⟨_,.binOp .or _ _ _ _,_,_,_,_⟩) _) _ _ _;first|exact fun h=>Z0 h|exact fun h=>aE h|exact fun h=>aH h|exact fun h=>aV h|exact fun h=>G_skip0 h)|(show _->aM _ _ _ (ET.cons (_,_,⟨_,.binOp .andNot _ _ _ _,_,_,_,_⟩) _) _ _ _;first|exact fun h=>E9 h|exact fun h=>EA h|exact fun h=>aE h|exact fun h=>aH h|exact fun h=>aV h|exact fun h=>G_skip0 h)|exact fun h=>aE h|exact fun h=>aH h|exact fun h=>aV h)
  |(show _->aM _ _ _ (ET.cons (_,_,⟨_,.store _ _ _,_,_,_,_⟩) _) _ _ _;first|exact fun h=>aE h|exact fun h=>aH h|exact fun h=>bT h|exact fun h=>aV h|exact fun h=>G_skip0 h)
  |(show _->aM _ _ _ (ET.cons (_,_,⟨_,.pick _ _ _,_,_,_,_⟩) _) _ _ _;first|exact fun h=>aE h|exact fun h=>aH h|exact fun h=>aV h|exact fun h=>G_skip0 h)
  |(show _->aM _ _ _ (ET.cons (_,_,⟨_,.indexAddr _ _ _,_,_,_,_⟩) _) _ _ _;first|exact fun h=>aE h|exact fun h=>aH h|exact fun h=>dQ h|exact fun h=>cR h|exact fun h=>iR h|exact fun h=>aV h|exact fun h=>G_skip0 h)
  |(show _->aM _ _ _ (ET.cons (_,_,⟨_,.build _ _,_,_,_,_⟩) _) _ _ _;first|exact fun h=>aE h|exact fun h=>aH h|exact fun h=>dP h|exact fun h=>aV h|exact fun h=>G_skip0 h)
  |(show _->aM _ _ _ (ET.cons (_,_,⟨_,.box _ _,_,_,_,_⟩) _) _ _ _;first|exact fun h=>aE h|exact fun h=>aH h|exact fun h=>fH h|exact fun h=>aV h|exact fun h=>G_skip0 h)
  |(show _->aM _ _ _ (ET.cons (_,_,⟨_,.alloc _,_,_,_,_⟩) _) _ _ _;first|exact fun h=>aE h|exact fun h=>aH h|exact fun h=>eF h|exact fun h=>aV h|exact fun h=>G_skip0 h)
  |(show _->aM _ _ _ (ET.cons (_,_,⟨_,.unOp _ _ _,_,_,_,_⟩) _) _ _ _;first|(show _->aM _ _ _ (ET.cons (_,_,⟨_,.unOp .not _ _,_,_,_,_⟩) _) _ _ _;first|exact fun h=>aE h|exact fun h=>aH h|exact fun h=>lQ h|exact fun h=>aV h|exact fun h=>G_skip0 h)|(show _->aM _ _ _ (ET.cons (_,_,⟨_,.unOp .neg _ _,_,_,_,_⟩) _) _ _ _;first|exact fun h=>aE h|exact fun h=>aH h|exact fun h=>G_neg64 h|exact fun h=>aV h|exact fun h=>G_skip0 h)|exact fun h=>aE h|exact fun h=>aH h|exact fun h=>aV h)
  |(show _->aM _ _ _ (ET.cons (_,_,⟨_,.slice _ _ _ _ _,_,_,_,_⟩) _) _ _ _;first|exact fun h=>aE h|exact fun h=>aH h|exact fun h=>wD h|exact fun h=>wZ h|exact fun h=>xN h|exact fun h=>kF h|exact fun h=>iF h|exact fun h=>aV h|exact fun h=>G_skip0 h)
  |(show _->aM _ _ _ (ET.cons (_,_,⟨_,.convert _ _ _,_,_,_,_⟩) _) _ _ _;first|exact fun h=>aE h|exact fun h=>aH h|exact fun h=>lO h|exact fun h=>pE h|exact fun h=>oW h|exact fun h=>G_conv h|exact fun h=>lV h|exact fun h=>hZ h|exact fun h=>lP h|exact fun h=>aV h|exact fun h=>G_skip0 h)
  |(show _->aM _ _ _ (ET.cons (_,_,⟨_,.buildSlice _ _ _,_,_,_,_⟩) _) _ _ _;first|exact fun h=>aE h|exact fun h=>aH h|exact fun h=>cZ h|exact fun h=>aV h|exact fun h=>G_skip0 h)
  |(show _->aM _ _ _ (ET.cons (_,_,⟨_,.index _ _ _,_,_,_,_⟩) _) _ _ _;first|exact fun h=>aE h|exact fun h=>aH h|exact fun h=>G_indexS h|exact fun h=>aV h|exact fun h=>G_skip0 h)
  |exact fun h=>aE h|exact fun h=>aH h|exact fun h=>aV h|exact fun h=>G_skip0 h)
 |(show _->cU _ _ _;first|exact fun h=>CO rfl h|exact fun h=>GC rfl h)
 |(show _->eY _ _ _ _ _;first|exact fun h=>Tt h|exact fun h=>Ds (by exact rfl) h|exact fun h=>MB (by exact rfl) h|exact fun h=>Tl h|exact fun h=>MO h|exact fun h=>Eb h|exact fun h=>Mm h|exact fun h=>Gj h|exact fun h=>Gi h|exact fun h=>GW (by exact rfl) (by decide +kernel) (by exact rfl) h|exact fun h=>Gz (by exact rfl) (by decide +kernel) (by exact rfl) h)
 |(show _->Br _ _ _;first|exact fun h=>Br.t rfl h|exact fun h=>Br.f rfl h|exact fun h=>Br.t (beq_self_eq_true _) h|exact fun h=>Br.f (tD _) h|exact fun h=>Br.t (by assumption) h|exact fun h=>Br.f (by assumption) h|exact fun h=>Br.t (Aee (by assumption)) h|exact fun h=>Br.f (Adj (by assumption)) h)
 |(show _->bQ _ _ _ _ _;first|exact fun h=>t_n h|exact fun h=>t_r h|exact fun h=>t_e h)
 |(show _->aL _ _ _ _ _;first|exact fun h=>b_n h|exact fun h=>b_r h|exact fun h=>T6 rfl h|exact fun h=>MV rfl h)
 |(show _->aW _ _ _ _;first|exact fun h=>g_n h|exact fun h=>g_r h|exact fun h=>g_e h)):Y:=hs h
theorem wq (h:X) (hs:X->Y:=by
 first
 |(show _->cU _ _ _;first|exact fun h=>CO rfl h|exact fun h=>GC rfl h)
 |(show _->eY _ _ _ _ _;first|exact fun h=>Tt h|exact fun h=>Ds (by exact rfl) h|exact fun h=>MB (by exact rfl) h|exact fun h=>Tl h|exact fun h=>MO h|exact fun h=>Eb h|exact fun h=>Mm h|exact fun h=>Gj h|exact fun h=>Gi h)
 |(show _->Br _ _ _;first|exact fun h=>Br.t rfl h|exact fun h=>Br.f rfl h|exact fun h=>Br.t (beq_self_eq_true _) h|exact fun h=>Br.f (tD _) h|exact fun h=>Br.t (by assumption) h|exact fun h=>Br.f (by assumption) h|exact fun h=>Br.t (Aee (by assumption)) h|exact fun h=>Br.f (Adj (by assumption)) h)
 |(show _->bQ _ _ _ _ _;first|exact fun h=>t_n h|exact fun h=>t_r h|exact fun h=>t_e h)
 |(show _->aL _ _ _ _ _;first|exact fun h=>b_n h|exact fun h=>b_r h|exact fun h=>T6 rfl h|exact fun h=>MV rfl h)
 |(show _->aW _ _ _ _;first|exact fun h=>g_n h|exact fun h=>g_r h|exact fun h=>g_e h)):Y:=hs h
theorem v0 (h:X) (hs:X->Y:=by
 first
 |(show _->aM _ _ _ _ _ _ _;intro h;first|exact aE h|exact aP h|exact aH h|exact bP h|exact G_call0 h)
 |exact fun h=>wq h):Y:=hs h
theorem v1 (h:X) (hs:X->Y:=by
 first
 |(show _->aM _ _ _ _ _ _ _;intro h;first|exact aE h|exact aP h|exact aH h|exact aV h|exact G_skip0 h)
 |exact fun h=>wq h):Y:=hs h
theorem v2 (h:X) (hs:X->Y:=by
 first
 |(show _->aM _ _ _ _ _ _ _;intro h;first|exact aE h|exact aP h|exact aH h|exact bY h|exact bP h|exact G_call0 h)
 |exact fun h=>wq h):Y:=hs h
theorem v3 (h:X) (hs:X->Y:=by
 first
 |(show _->aM _ _ _ _ _ _ _;intro h;first|exact aE h|exact aP h|exact aH h|exact aT h|exact bP h|exact G_call0 h)
 |exact fun h=>wq h):Y:=hs h
theorem v4 (h:X) (hs:X->Y:=by
 first
 |(show _->aM _ _ _ _ _ _ _;intro h;first|exact aE h|exact bG h|exact aP h|exact bB h|exact aH h|exact aY h|exact aO h|exact aR h|exact aT h)
 |exact fun h=>wq h):Y:=hs h
theorem v5 (h:X) (hs:X->Y:=by
 first
 |(show _->aM _ _ _ _ _ _ _;intro h;first|exact aE h|exact aP h|exact aH h|exact bT h|exact dP h|exact eF h)
 |exact fun h=>wq h):Y:=hs h
theorem v6 (h:X) (hs:X->Y:=by
 first
 |(show _->aM _ _ _ _ _ _ _;intro h;first|exact aE h|exact aP h|exact aH h|exact dP h|exact fH h|exact aV h|exact G_skip0 h)
 |exact fun h=>wq h):Y:=hs h
theorem v8 (h:X) (hs:X->Y:=by
 first
 |(show _->aM _ _ _ _ _ _ _;intro h;first|exact f4 h|exact aE h|exact aP h|exact aH h|exact wD h|exact wZ h|exact xN h|exact bP h|exact G_call0 h|exact kF h|exact iF h)
 |exact fun h=>wq h):Y:=hs h
theorem v9 (h:X) (hs:X->Y:=by
 first
 |(show _->aM _ _ _ _ _ _ _;intro h;first|exact aE h|exact aP h|exact aH h|exact cN h|exact dG h|exact wD h|exact wZ h|exact xN h|exact aT h|exact kF h|exact iF h)
 |exact fun h=>wq h):Y:=hs h
theorem Y9 (h:X) (hs:X->Y:=by
 first
 |(show _->aM _ _ _ _ _ _ _;intro h;first|exact aE h|exact bG h|exact aP h|exact bB h|exact aH h|exact aY h|exact aO h|exact aR h|exact aT h|exact bP h|exact G_call0 h)
 |exact fun h=>wq h):Y:=hs h
theorem TO (h:X) (hs:X->Y:=by
 first
 |(show _->aM _ _ _ _ _ _ _;intro h;first|exact aE h|exact bG h|exact aP h|exact bB h|exact aH h|exact aY h|exact aO h|exact aR h|exact bY h|exact bP h|exact G_call0 h)
 |exact fun h=>wq h):Y:=hs h
theorem v13 (h:X) (hs:X->Y:=by
 first
 |(show _->aM _ _ _ _ _ _ _;intro h;first|exact aE h|exact aP h|exact bB h|exact aH h|exact bT h|exact aT h|exact bP h|exact G_call0 h)
 |exact fun h=>wq h):Y:=hs h
theorem v14 (h:X) (hs:X->Y:=by
 first
 |(show _->aM _ _ _ _ _ _ _;intro h;first|exact aE h|exact bG h|exact aP h|exact bB h|exact aH h|exact bT h|exact aY h|exact aO h|exact aR h|exact zJ h)
 |exact fun h=>wq h):Y:=hs h
theorem v15 (h:X) (hs:X->Y:=by
 first
 |(show _->aM _ _ _ _ _ _ _;intro h;first|exact f4 h|exact aE h|exact aP h|exact aH h|exact aT h|exact bP h|exact G_call0 h|exact aV h|exact G_skip0 h)
 |exact fun h=>wq h):Y:=hs h
theorem v16 (h:X) (hs:X->Y:=by
 first
 |(show _->aM _ _ _ _ _ _ _;intro h;first|exact aE h|exact bG h|exact aP h|exact bB h|exact aH h|exact aY h|exact aO h|exact aR h|exact bY h|exact aV h|exact G_skip0 h)
 |exact fun h=>wq h):Y:=hs h
theorem v17 (h:X) (hs:X->Y:=by
 first
 |(show _->aM _ _ _ _ _ _ _;intro h;first|exact aE h|exact bG h|exact aP h|exact aH h|exact aY h|exact aO h|exact aR h|exact yQ h|exact zJ h|exact bP h|exact G_call0 h)
 |exact fun h=>wq h):Y:=hs h
theorem v19 (h:X) (hs:X->Y:=by
 first
 |(show _->aM _ _ _ _ _ _ _;intro h;first|exact aE h|exact bG h|exact aP h|exact bB h|exact aH h|exact aY h|exact aO h|exact aR h|exact bP h|exact G_call0 h|exact fH h|exact aV h|exact G_skip0 h)
 |exact fun h=>wq h):Y:=hs h
theorem v21 (h:X) (hs:X->Y:=by
 first
 |(show _->aM _ _ _ _ _ _ _;intro h;first|exact aE h|exact aP h|exact aH h|exact lQ h|exact dP h|exact bY h|exact bP h|exact G_call0 h|exact fH h)
 |exact fun h=>wq h):Y:=hs h
theorem v22 (h:X) (hs:X->Y:=by
 first
 |(show _->aM _ _ _ _ _ _ _;intro h;first|exact f4 h|exact aE h|exact bG h|exact aP h|exact bB h|exact aH h|exact aY h|exact aO h|exact aR h|exact aT h|exact fH h)
 |exact fun h=>wq h):Y:=hs h
theorem v23 (h:X) (hs:X->Y:=by
 first
 |(show _->aM _ _ _ _ _ _ _;intro h;first|exact aE h|exact bG h|exact aP h|exact bB h|exact aH h|exact aY h|exact aO h|exact aR h|exact aT h|exact fH h|exact aV h|exact G_skip0 h)
 |exact fun h=>wq h):Y:=hs h
theorem v24 (h:X) (hs:X->Y:=by
 first
 |(show _->aM _ _ _ _ _ _ _;intro h;first|exact cE h|exact f4 h|exact Kg h|exact aE h|exact aP h|exact aH h|exact fP h|exact bP h|exact G_call0 h|exact aV h|exact G_skip0 h)
 |exact fun h=>wq h):Y:=hs h
theorem v25 (h:X) (hs:X->Y:=by
 first
 |(show _->aM _ _ _ _ _ _ _;intro h;first|exact aE h|exact bG h|exact aP h|exact bB h|exact aH h|exact aY h|exact aO h|exact aR h|exact G_indexS h|exact dP h|exact bP h|exact G_call0 h)
 |exact fun h=>wq h):Y:=hs h
theorem v26 (h:X) (hs:X->Y:=by
 first
 |(show _->aM _ _ _ _ _ _ _;intro h;first|exact aE h|exact bG h|exact aP h|exact aH h|exact aY h|exact aO h|exact aR h|exact aT h|exact g9 h|exact G_callv0 h|exact fH h|exact aV h|exact G_skip0 h)
 |exact fun h=>wq h):Y:=hs h
theorem v27 (h:X) (hs:X->Y:=by
 first
 |(show _->aM _ _ _ _ _ _ _;intro h;first|exact zD h|exact aE h|exact bG h|exact aP h|exact bB h|exact aH h|exact aY h|exact aO h|exact aR h|exact aT h|exact aV h|exact G_skip0 h)
 |exact fun h=>wq h):Y:=hs h
theorem v28 (h:X) (hs:X->Y:=by
 first
 |(show _->aM _ _ _ _ _ _ _;intro h;first|exact cE h|exact f4 h|exact aE h|exact bG h|exact aP h|exact aH h|exact bT h|exact aY h|exact aO h|exact aR h|exact dQ h|exact cR h|exact fP h|exact iR h)
 |exact fun h=>wq h):Y:=hs h
theorem v29 (h:X) (hs:X->Y:=by
 first
 |(show _->aM _ _ _ _ _ _ _;intro h;first|exact cE h|exact aE h|exact bG h|exact aP h|exact bB h|exact aH h|exact aY h|exact aO h|exact aR h|exact dQ h|exact cR h|exact fP h|exact aT h|exact bY h|exact iR h)
 |exact fun h=>wq h):Y:=hs h
theorem v30 (h:X) (hs:X->Y:=by
 first
 |(show _->aM _ _ _ _ _ _ _;intro h;first|exact aE h|exact bG h|exact aP h|exact bB h|exact aH h|exact bT h|exact aY h|exact aO h|exact aR h|exact dP h|exact aT h|exact eF h)
 |exact fun h=>wq h):Y:=hs h
theorem v31 (h:X) (hs:X->Y:=by
 first
 |(show _->aM _ _ _ _ _ _ _;intro h;first|exact aE h|exact bG h|exact aP h|exact bB h|exact aH h|exact bT h|exact aY h|exact aO h|exact aR h|exact bP h|exact G_call0 h|exact fH h|exact eF h)
 |exact fun h=>wq h):Y:=hs h
theorem Hf (h:X) (hs:X->Y:=by
 first
 |(show _->aM _ _ _ _ _ _ _;intro h;first|exact cE h|exact aE h|exact bG h|exact aP h|exact bB h|exact aH h|exact bT h|exact aY h|exact aO h|exact aR h|exact fP h|exact aT h|exact bP h|exact G_call0 h)
 |exact fun h=>wq h):Y:=hs h
theorem v33 (h:X) (hs:X->Y:=by
 first
 |(show _->aM _ _ _ _ _ _ _;intro h;first|exact cE h|exact f4 h|exact aE h|exact bG h|exact aP h|exact bB h|exact aH h|exact bT h|exact aY h|exact aO h|exact aR h|exact fP h|exact aT h)
 |exact fun h=>wq h):Y:=hs h
theorem I3 (h:X) (hs:X->Y:=by
 first
 |(show _->aM _ _ _ _ _ _ _;intro h;first|exact aE h|exact bG h|exact aP h|exact bB h|exact aH h|exact aY h|exact aO h|exact aR h|exact lQ h|exact aT h|exact bP h|exact G_call0 h|exact aV h|exact G_skip0 h)
 |exact fun h=>wq h):Y:=hs h
theorem v35 (h:X) (hs:X->Y:=by
 first
 |(show _->aM _ _ _ _ _ _ _;intro h;first|exact aE h|exact bG h|exact aP h|exact bB h|exact aH h|exact aY h|exact aO h|exact aR h|exact yQ h|exact aT h|exact bY h|exact bP h|exact G_call0 h)
 |exact fun h=>wq h):Y:=hs h
theorem v36 (h:X) (hs:X->Y:=by
 first
 |(show _->aM _ _ _ _ _ _ _;intro h;first|exact aE h|exact bG h|exact aP h|exact aH h|exact bT h|exact aY h|exact aO h|exact aR h|exact cN h|exact dG h|exact dP h|exact bY h|exact cZ h)
 |exact fun h=>wq h):Y:=hs h
theorem v37 (h:X) (hs:X->Y:=by
 first
 |(show _->aM _ _ _ _ _ _ _;intro h;first|exact cE h|exact aE h|exact bG h|exact aP h|exact bB h|exact aH h|exact bT h|exact aY h|exact aO h|exact aR h|exact lQ h|exact fP h|exact g9 h|exact G_callv0 h)
 |exact fun h=>wq h):Y:=hs h
theorem v38 (h:X) (hs:X->Y:=by
 first
 |(show _->aM _ _ _ _ _ _ _;intro h;first|exact cE h|exact Kg h|exact zD h|exact aE h|exact aP h|exact aH h|exact lO h|exact pE h|exact oW h|exact G_conv h|exact fP h|exact aT h|exact lV h|exact hZ h|exact cZ h|exact lP h)
 |exact fun h=>wq h):Y:=hs h
theorem v39 (h:X) (hs:X->Y:=by
 first
 |(show _->aM _ _ _ _ _ _ _;intro h;first|exact aE h|exact bG h|exact aP h|exact bB h|exact aH h|exact aY h|exact aO h|exact aR h|exact yQ h|exact zJ h|exact aT h|exact fH h)
 |exact fun h=>wq h):Y:=hs h
theorem v40 (h:X) (hs:X->Y:=by
 first
 |(show _->aM _ _ _ _ _ _ _;intro h;first|exact aE h|exact bG h|exact aP h|exact bB h|exact aH h|exact bT h|exact aY h|exact aO h|exact aR h|exact cN h|exact dG h|exact dQ h|exact cR h|exact wD h|exact wZ h|exact xN h|exact iR h|exact kF h|exact iF h)
 |exact fun h=>wq h):Y:=hs h
theorem v41 (h:X) (hs:X->Y:=by
 first
 |(show _->aM _ _ _ _ _ _ _;intro h;first|exact aE h|exact bG h|exact aP h|exact bB h|exact aH h|exact aY h|exact aO h|exact aR h|exact lQ h|exact dQ h|exact cR h|exact aT h|exact bP h|exact G_call0 h|exact iR h|exact aV h|exact G_skip0 h)
 |exact fun h=>wq h):Y:=hs h
theorem v42 (h:X) (hs:X->Y:=by
 first
 |(show _->aM _ _ _ _ _ _ _;intro h;first|exact cE h|exact aE h|exact aP h|exact aH h|exact dP h|exact fP h|exact aT h|exact bY h|exact bP h|exact G_call0 h|exact fH h|exact aV h|exact G_skip0 h)
 |exact fun h=>wq h):Y:=hs h
theorem v43 (h:X) (hs:X->Y:=by
 first
 |(show _->aM _ _ _ _ _ _ _;intro h;first|exact cE h|exact AU h|exact Kg h|exact aE h|exact bG h|exact aP h|exact bB h|exact aH h|exact aY h|exact aO h|exact aR h|exact fP h|exact zJ h|exact fH h)
 |exact fun h=>wq h):Y:=hs h
theorem v44 (h:X) (hs:X->Y:=by
 first
 |(show _->aM _ _ _ _ _ _ _;intro h;first|exact aE h|exact bG h|exact aP h|exact bB h|exact aH h|exact aY h|exact aO h|exact aR h|exact lQ h|exact aT h|exact bP h|exact G_call0 h|exact fH h|exact aV h|exact G_skip0 h)
 |exact fun h=>wq h):Y:=hs h
theorem v45 (h:X) (hs:X->Y:=by
 first
 |(show _->aM _ _ _ _ _ _ _;intro h;first|exact cE h|exact aE h|exact bG h|exact aP h|exact bB h|exact aH h|exact aY h|exact aO h|exact aR h|exact cN h|exact dG h|exact dQ h|exact cR h|exact fP h|exact bP h|exact G_call0 h|exact cZ h|exact iR h)
 |exact fun h=>wq h):Y:=hs h
theorem v46 (h:X) (hs:X->Y:=by
 first
 |(show _->aM _ _ _ _ _ _ _;intro h;first|exact aE h|exact bG h|exact aP h|exact bB h|exact aH h|exact aY h|exact aO h|exact aR h|exact dP h|exact aT h|exact bY h|exact bP h|exact G_call0 h|exact fH h)
 |exact fun h=>wq h):Y:=hs h
theorem v47 (h:X) (hs:X->Y:=by
 first
 |(show _->aM _ _ _ _ _ _ _;intro h;first|exact aE h|exact bG h|exact aP h|exact bB h|exact aH h|exact aY h|exact aO h|exact aR h|exact aT h|exact bP h|exact G_call0 h|exact g9 h|exact G_callv0 h|exact fH h|exact eF h)
 |exact fun h=>wq h):Y:=hs h
theorem v48 (h:X) (hs:X->Y:=by
 first
 |(show _->aM _ _ _ _ _ _ _;intro h;first|exact aE h|exact bG h|exact aP h|exact bB h|exact aH h|exact bT h|exact aY h|exact aO h|exact aR h|exact lQ h|exact bY h|exact bP h|exact G_call0 h|exact aV h|exact G_skip0 h)
 |exact fun h=>wq h):Y:=hs h
theorem Yw (h:X) (hs:X->Y:=by
 first
 |(show _->aM _ _ _ _ _ _ _;intro h;first|exact cE h|exact aE h|exact bG h|exact aP h|exact bB h|exact aH h|exact bT h|exact aY h|exact aO h|exact aR h|exact fP h|exact aT h|exact bY h|exact bP h|exact G_call0 h)
 |exact fun h=>wq h):Y:=hs h
theorem JE (h:X) (hs:X->Y:=by
 first
 |(show _->aM _ _ _ _ _ _ _;intro h;first|exact cE h|exact f4 h|exact aE h|exact aP h|exact aH h|exact cN h|exact dG h|exact lQ h|exact wD h|exact wZ h|exact xN h|exact fP h|exact aT h|exact bP h|exact G_call0 h|exact kF h|exact iF h)
 |exact fun h=>wq h):Y:=hs h
theorem v51 (h:X) (hs:X->Y:=by
 first
 |(show _->aM _ _ _ _ _ _ _;intro h;first|exact aE h|exact bG h|exact aP h|exact aH h|exact bT h|exact aY h|exact aO h|exact aR h|exact cN h|exact dG h|exact dP h|exact bP h|exact G_call0 h|exact fH h|exact eF h|exact cZ h)
 |exact fun h=>wq h):Y:=hs h
theorem v53 (h:X) (hs:X->Y:=by
 first
 |(show _->aM _ _ _ _ _ _ _;intro h;first|exact f4 h|exact aE h|exact aP h|exact aH h|exact lQ h|exact dP h|exact aT h|exact bP h|exact G_call0 h|exact g9 h|exact G_callv0 h|exact fH h|exact aV h|exact G_skip0 h)
 |exact fun h=>wq h):Y:=hs h
theorem v54 (h:X) (hs:X->Y:=by
 first
 |(show _->aM _ _ _ _ _ _ _;intro h;first|exact aE h|exact bG h|exact aP h|exact bB h|exact aH h|exact bT h|exact aY h|exact aO h|exact aR h|exact cN h|exact dG h|exact dQ h|exact cR h|exact bP h|exact G_call0 h|exact fH h|exact cZ h|exact iR h)
 |exact fun h=>wq h):Y:=hs h
theorem v55 (h:X) (hs:X->Y:=by
 first
 |(show _->aM _ _ _ _ _ _ _;intro h;first|exact cE h|exact aE h|exact bG h|exact aP h|exact aH h|exact bT h|exact aY h|exact aO h|exact aR h|exact dQ h|exact cR h|exact fP h|exact yQ h|exact bP h|exact G_call0 h|exact g9 h|exact G_callv0 h|exact eF h|exact iR h)
 |exact fun h=>wq h):Y:=hs h
theorem v56 (h:X) (hs:X->Y:=by
 first
 |(show _->aM _ _ _ _ _ _ _;intro h;first|exact AU h|exact Ln h|exact Pm h|exact aE h|exact bG h|exact aP h|exact bB h|exact aH h|exact bT h|exact aY h|exact aO h|exact aR h|exact fH h|exact aV h|exact G_skip0 h)
 |exact fun h=>wq h):Y:=hs h
theorem zB (h:X) (hs:X->Y:=by
 first
 |(show _->aM _ _ _ _ _ _ _;intro h;first|exact aE h|exact bG h|exact aP h|exact bB h|exact aH h|exact bT h|exact aY h|exact aO h|exact aR h|exact dP h|exact aT h|exact bY h|exact bP h|exact G_call0 h|exact fH h|exact aV h|exact G_skip0 h)
 |exact fun h=>wq h):Y:=hs h
theorem v58 (h:X) (hs:X->Y:=by
 first
 |(show _->aM _ _ _ _ _ _ _;intro h;first|exact zD h|exact aE h|exact bG h|exact aP h|exact bB h|exact aH h|exact aY h|exact aO h|exact aR h|exact aT h|exact bY h|exact bP h|exact G_call0 h|exact g9 h|exact G_callv0 h|exact fH h|exact aV h|exact G_skip0 h)
 |exact fun h=>wq h):Y:=hs h
theorem Qo (h:X) (hs:X->Y:=by
 first
 |(show _->aM _ _ _ _ _ _ _;intro h;first|exact cE h|exact aE h|exact bG h|exact aP h|exact bB h|exact aH h|exact bT h|exact aY h|exact aO h|exact aR h|exact dQ h|exact cR h|exact dP h|exact fP h|exact bY h|exact bP h|exact G_call0 h|exact eF h|exact iR h)
 |exact fun h=>wq h):Y:=hs h
theorem Wy (h:X) (hs:X->Y:=by
 first
 |(show _->aM _ _ _ _ _ _ _;intro h;first|exact cE h|exact aE h|exact bG h|exact aP h|exact bB h|exact aH h|exact aY h|exact aO h|exact aR h|exact dQ h|exact cR h|exact dP h|exact fP h|exact bY h|exact bP h|exact G_call0 h|exact fH h|exact cZ h|exact iR h)
 |exact fun h=>wq h):Y:=hs h
theorem v61 (h:X) (hs:X->Y:=by
 first
 |(show _->aM _ _ _ _ _ _ _;intro h;first|exact zD h|exact aE h|exact bG h|exact aP h|exact bB h|exact aH h|exact bT h|exact aY h|exact aO h|exact aR h|exact lO h|exact pE h|exact oW h|exact G_conv h|exact dP h|exact zJ h|exact lV h|exact hZ h|exact fH h|exact eF h|exact lP h)
 |exact fun h=>wq h):Y:=hs h
theorem v62 (h:X) (hs:X->Y:=by
 first
 |(show _->aM _ _ _ _ _ _ _;intro h;first|exact cE h|exact aE h|exact bG h|exact aP h|exact bB h|exact aH h|exact bT h|exact aY h|exact aO h|exact aR h|exact dQ h|exact cR h|exact wD h|exact wZ h|exact xN h|exact fP h|exact aT h|exact bP h|exact G_call0 h|exact iR h|exact kF h|exact iF h|exact aV h|exact G_skip0 h)
 |exact fun h=>wq h):Y:=hs h
theorem By (h:X) (hs:X->Y:=by
 first
 |(show _->aM _ _ _ _ _ _ _;intro h;first|exact aE h|exact bG h|exact aP h|exact bB h|exact aH h|exact aY h|exact aO h|exact aR h|exact lQ h|exact dP h|exact aT h|exact bY h|exact bP h|exact G_call0 h|exact fH h|exact aV h|exact G_skip0 h)
 |exact fun h=>wq h):Y:=hs h
theorem v64 (h:X) (hs:X->Y:=by
 first
 |(show _->aM _ _ _ _ _ _ _;intro h;first|exact aE h|exact bG h|exact aP h|exact bB h|exact aH h|exact bT h|exact aY h|exact aO h|exact aR h|exact dP h|exact aT h|exact bY h|exact bP h|exact G_call0 h|exact fH h|exact eF h)
 |exact fun h=>wq h):Y:=hs h
theorem LK (h:X) (hs:X->Y:=by
 first
 |(show _->aM _ _ _ _ _ _ _;intro h;first|exact f4 h|exact aE h|exact bG h|exact aP h|exact bB h|exact aH h|exact bT h|exact aY h|exact aO h|exact aR h|exact lQ h|exact aT h|exact bY h|exact bP h|exact G_call0 h|exact aV h|exact G_skip0 h)
 |exact fun h=>wq h):Y:=hs h
theorem v66 (h:X) (hs:X->Y:=by
 first
 |(show _->aM _ _ _ _ _ _ _;intro h;first|exact cE h|exact f4 h|exact aE h|exact bG h|exact aP h|exact bB h|exact aH h|exact bT h|exact aY h|exact aO h|exact aR h|exact lO h|exact pE h|exact oW h|exact G_conv h|exact fP h|exact yQ h|exact zJ h|exact aT h|exact lV h|exact hZ h|exact lP h)
 |exact fun h=>wq h):Y:=hs h
theorem v67 (h:X) (hs:X->Y:=by
 first
 |(show _->aM _ _ _ _ _ _ _;intro h;first|exact cE h|exact f4 h|exact zD h|exact aE h|exact bG h|exact aP h|exact bB h|exact aH h|exact bT h|exact aY h|exact aO h|exact aR h|exact fP h|exact yQ h|exact zJ h|exact bP h|exact G_call0 h)
 |exact fun h=>wq h):Y:=hs h
theorem v68 (h:X) (hs:X->Y:=by
 first
 |(show _->aM _ _ _ _ _ _ _;intro h;first|exact cE h|exact f4 h|exact aE h|exact bG h|exact aP h|exact bB h|exact aH h|exact bT h|exact aY h|exact aO h|exact aR h|exact lQ h|exact fP h|exact zJ h|exact aT h|exact bP h|exact G_call0 h)
 |exact fun h=>wq h):Y:=hs h
theorem v70 (h:X) (hs:X->Y:=by
 first
 |(show _->aM _ _ _ _ _ _ _;intro h;first|exact cE h|exact aE h|exact bG h|exact aP h|exact bB h|exact aH h|exact bT h|exact aY h|exact aO h|exact aR h|exact cN h|exact dG h|exact dQ h|exact cR h|exact fP h|exact aT h|exact bY h|exact eF h|exact cZ h|exact iR h)
 |exact fun h=>wq h):Y:=hs h
theorem v71 (h:X) (hs:X->Y:=by
 first
 |(show _->aM _ _ _ _ _ _ _;intro h;first|exact cE h|exact f4 h|exact aE h|exact bG h|exact aP h|exact bB h|exact aH h|exact bT h|exact aY h|exact aO h|exact aR h|exact dQ h|exact cR h|exact fP h|exact aT h|exact bP h|exact G_call0 h|exact eF h|exact iR h|exact aV h|exact G_skip0 h)
 |exact fun h=>wq h):Y:=hs h
theorem Xt (h:X) (hs:X->Y:=by
 first
 |(show _->aM _ _ _ _ _ _ _;intro h;first|exact cE h|exact aE h|exact bG h|exact aP h|exact bB h|exact aH h|exact aY h|exact aO h|exact aR h|exact cN h|exact dG h|exact dQ h|exact cR h|exact dP h|exact fP h|exact aT h|exact bP h|exact G_call0 h|exact cZ h|exact iR h|exact aV h|exact G_skip0 h)
 |exact fun h=>wq h):Y:=hs h
theorem v73 (h:X) (hs:X->Y:=by
 first
 |(show _->aM _ _ _ _ _ _ _;intro h;first|exact aE h|exact bG h|exact aP h|exact bB h|exact aH h|exact bT h|exact aY h|exact aO h|exact aR h|exact cN h|exact dG h|exact dQ h|exact cR h|exact dP h|exact wD h|exact wZ h|exact xN h|exact aT h|exact bP h|exact G_call0 h|exact eF h|exact iR h|exact kF h|exact iF h)
 |exact fun h=>wq h):Y:=hs h
theorem v74 (h:X) (hs:X->Y:=by
 first
 |(show _->aM _ _ _ _ _ _ _;intro h;first|exact cE h|exact aE h|exact bG h|exact aP h|exact aH h|exact bT h|exact aY h|exact aO h|exact aR h|exact cN h|exact dG h|exact dQ h|exact cR h|exact lO h|exact pE h|exact oW h|exact G_conv h|exact fP h|exact bY h|exact lV h|exact hZ h|exact bP h|exact G_call0 h|exact g9 h|exact G_callv0 h|exact eF h|exact lP h|exact iR h)
 |exact fun h=>wq h):Y:=hs h
theorem v75 (h:X) (hs:X->Y:=by
 first
 |(show _->aM _ _ _ _ _ _ _;intro h;first|exact f4 h|exact aE h|exact bG h|exact aP h|exact bB h|exact aH h|exact bT h|exact aY h|exact aO h|exact aR h|exact dQ h|exact cR h|exact dP h|exact bP h|exact G_call0 h|exact g9 h|exact G_callv0 h|exact fH h|exact eF h|exact iR h)
 |exact fun h=>wq h):Y:=hs h
theorem Qk (h:X) (hs:X->Y:=by
 first
 |(show _->aM _ _ _ _ _ _ _;intro h;first|exact cE h|exact aE h|exact bG h|exact aP h|exact bB h|exact aH h|exact bT h|exact aY h|exact aO h|exact aR h|exact lQ h|exact fP h|exact aT h|exact bP h|exact G_call0 h|exact g9 h|exact G_callv0 h|exact fH h|exact aV h|exact G_skip0 h)
 |exact fun h=>wq h):Y:=hs h
theorem Sg (h:X) (hs:X->Y:=by
 first
 |(show _->aM _ _ _ _ _ _ _;intro h;first|exact cE h|exact aE h|exact bG h|exact aP h|exact bB h|exact aH h|exact aY h|exact aO h|exact aR h|exact lQ h|exact dQ h|exact cR h|exact dP h|exact fP h|exact aT h|exact bY h|exact bP h|exact G_call0 h|exact fH h|exact iR h|exact aV h|exact G_skip0 h)
 |exact fun h=>wq h):Y:=hs h
theorem v79 (h:X) (hs:X->Y:=by
 first
 |(show _->aM _ _ _ _ _ _ _;intro h;first|exact cE h|exact aE h|exact bG h|exact aP h|exact bB h|exact aH h|exact bT h|exact aY h|exact aO h|exact aR h|exact dQ h|exact cR h|exact dP h|exact fP h|exact aT h|exact bP h|exact G_call0 h|exact g9 h|exact G_callv0 h|exact fH h|exact eF h|exact iR h)
 |exact fun h=>wq h):Y:=hs h
theorem Qj (h:X) (hs:X->Y:=by
 first
 |(show _->aM _ _ _ _ _ _ _;intro h;first|exact cE h|exact aE h|exact bG h|exact aP h|exact bB h|exact aH h|exact bT h|exact aY h|exact aO h|exact aR h|exact cN h|exact dG h|exact lQ h|exact wD h|exact wZ h|exact xN h|exact fP h|exact aT h|exact bP h|exact G_call0 h|exact eF h|exact cZ h|exact kF h|exact iF h)
 |exact fun h=>wq h):Y:=hs h
theorem v82 (h:X) (hs:X->Y:=by
 first
 |(show _->aM _ _ _ _ _ _ _;intro h;first|exact aE h|exact bG h|exact aP h|exact bB h|exact aH h|exact bT h|exact aY h|exact aO h|exact aR h|exact dQ h|exact cR h|exact dP h|exact aT h|exact bY h|exact bP h|exact G_call0 h|exact fH h|exact eF h|exact iR h|exact aV h|exact G_skip0 h)
 |exact fun h=>wq h):Y:=hs h
theorem v83 (h:X) (hs:X->Y:=by
 first
 |(show _->aM _ _ _ _ _ _ _;intro h;first|exact cE h|exact f4 h|exact zD h|exact aE h|exact bG h|exact aP h|exact bB h|exact aH h|exact aY h|exact aO h|exact aR h|exact dQ h|exact cR h|exact lO h|exact pE h|exact oW h|exact G_conv h|exact fP h|exact aT h|exact lV h|exact hZ h|exact bP h|exact G_call0 h|exact fH h|exact cZ h|exact lP h|exact iR h)
 |exact fun h=>wq h):Y:=hs h
theorem v84 (h:X) (hs:X->Y:=by
 first
 |(show _->aM _ _ _ _ _ _ _;intro h;first|exact cE h|exact f4 h|exact Kg h|exact aE h|exact bG h|exact aP h|exact bB h|exact aH h|exact aY h|exact aO h|exact aR h|exact dQ h|exact cR h|exact fP h|exact aT h|exact bP h|exact G_call0 h|exact g9 h|exact G_callv0 h|exact fH h|exact iR h|exact aV h|exact G_skip0 h)
 |exact fun h=>wq h):Y:=hs h
theorem v85 (h:X) (hs:X->Y:=by
 first
 |(show _->aM _ _ _ _ _ _ _;intro h;first|exact cE h|exact zD h|exact aE h|exact bG h|exact aP h|exact bB h|exact aH h|exact bT h|exact aY h|exact aO h|exact aR h|exact lQ h|exact wD h|exact wZ h|exact xN h|exact fP h|exact yQ h|exact aT h|exact bP h|exact G_call0 h|exact kF h|exact iF h|exact aV h|exact G_skip0 h)
 |exact fun h=>wq h):Y:=hs h
theorem v86 (h:X) (hs:X->Y:=by
 first
 |(show _->aM _ _ _ _ _ _ _;intro h;first|exact cE h|exact Ln h|exact Z0 h|exact Pm h|exact aE h|exact bG h|exact aP h|exact aH h|exact aY h|exact aO h|exact aR h|exact dQ h|exact cR h|exact lO h|exact pE h|exact oW h|exact G_conv h|exact fP h|exact aT h|exact lV h|exact hZ h|exact bP h|exact G_call0 h|exact g9 h|exact G_callv0 h|exact lP h|exact iR h|exact aV h|exact G_skip0 h)
 |exact fun h=>wq h):Y:=hs h
theorem Xv (h:X) (hs:X->Y:=by
 first
 |(show _->aM _ _ _ _ _ _ _;intro h;first|exact cE h|exact aE h|exact bG h|exact aP h|exact bB h|exact aH h|exact bT h|exact aY h|exact aO h|exact aR h|exact lQ h|exact dQ h|exact cR h|exact dP h|exact fP h|exact aT h|exact bP h|exact G_call0 h|exact g9 h|exact G_callv0 h|exact eF h|exact iR h|exact aV h|exact G_skip0 h)
 |exact fun h=>wq h):Y:=hs h
theorem Gr (h:X) (hs:X->Y:=by
 first
 |(show _->aM _ _ _ _ _ _ _;intro h;first|exact aE h|exact bG h|exact aP h|exact bB h|exact aH h|exact bT h|exact aY h|exact aO h|exact aR h|exact lQ h|exact dP h|exact yQ h|exact aT h|exact bY h|exact bP h|exact G_call0 h|exact fH h|exact eF h|exact aV h|exact G_skip0 h)
 |exact fun h=>wq h):Y:=hs h
theorem v90 (h:X) (hs:X->Y:=by
 first
 |(show _->aM _ _ _ _ _ _ _;intro h;first|exact zD h|exact aE h|exact bG h|exact aP h|exact bB h|exact aH h|exact bT h|exact aY h|exact aO h|exact aR h|exact cN h|exact dG h|exact dP h|exact aT h|exact bY h|exact bP h|exact G_call0 h|exact fH h|exact cZ h|exact aV h|exact G_skip0 h)
 |exact fun h=>wq h):Y:=hs h
theorem v91 (h:X) (hs:X->Y:=by
 first
 |(show _->aM _ _ _ _ _ _ _;intro h;first|exact cE h|exact f4 h|exact AU h|exact Pm h|exact aE h|exact bG h|exact aP h|exact bB h|exact aH h|exact bT h|exact aY h|exact aO h|exact aR h|exact cN h|exact dG h|exact lO h|exact pE h|exact oW h|exact G_conv h|exact fP h|exact aT h|exact lV h|exact hZ h|exact fH h|exact cZ h|exact lP h)
 |exact fun h=>wq h):Y:=hs h
theorem v92 (h:X) (hs:X->Y:=by
 first
 |(show _->aM _ _ _ _ _ _ _;intro h;first|exact aE h|exact bG h|exact aP h|exact bB h|exact aH h|exact bT h|exact aY h|exact aO h|exact aR h|exact cN h|exact dG h|exact lQ h|exact wD h|exact wZ h|exact xN h|exact aT h|exact bY h|exact bP h|exact G_call0 h|exact g9 h|exact G_callv0 h|exact fH h|exact eF h|exact cZ h|exact kF h|exact iF h)
 |exact fun h=>wq h):Y:=hs h
theorem v93 (h:X) (hs:X->Y:=by
 first
 |(show _->aM _ _ _ _ _ _ _;intro h;first|exact cE h|exact aE h|exact bG h|exact aP h|exact bB h|exact aH h|exact bT h|exact aY h|exact aO h|exact aR h|exact lO h|exact pE h|exact oW h|exact G_conv h|exact dP h|exact wD h|exact wZ h|exact xN h|exact fP h|exact aT h|exact bY h|exact lV h|exact hZ h|exact bP h|exact G_call0 h|exact g9 h|exact G_callv0 h|exact fH h|exact eF h|exact lP h|exact kF h|exact iF h)
 |exact fun h=>wq h):Y:=hs h
theorem v94 (h:X) (hs:X->Y:=by
 first
 |(show _->aM _ _ _ _ _ _ _;intro h;first|exact cE h|exact AU h|exact aE h|exact bG h|exact aP h|exact bB h|exact aH h|exact bT h|exact aY h|exact aO h|exact aR h|exact dQ h|exact cR h|exact fP h|exact yQ h|exact aT h|exact bP h|exact G_call0 h|exact g9 h|exact G_callv0 h|exact fH h|exact eF h|exact iR h|exact aV h|exact G_skip0 h)
 |exact fun h=>wq h):Y:=hs h
theorem TJ (h:X) (hs:X->Y:=by
 first
 |(show _->aM _ _ _ _ _ _ _;intro h;first|exact cE h|exact f4 h|exact aE h|exact bG h|exact aP h|exact bB h|exact aH h|exact bT h|exact aY h|exact aO h|exact aR h|exact lQ h|exact dQ h|exact cR h|exact dP h|exact fP h|exact aT h|exact bY h|exact bP h|exact G_call0 h|exact fH h|exact eF h|exact iR h|exact aV h|exact G_skip0 h)
 |exact fun h=>wq h):Y:=hs h
theorem v96 (h:X) (hs:X->Y:=by
 first
 |(show _->aM _ _ _ _ _ _ _;intro h;first|exact E9 h|exact EA h|exact aE h|exact bG h|exact aP h|exact bB h|exact aH h|exact bT h|exact aY h|exact aO h|exact aR h|exact lQ h|exact dQ h|exact cR h|exact dP h|exact aT h|exact bY h|exact bP h|exact G_call0 h|exact g9 h|exact G_callv0 h|exact fH h|exact eF h|exact iR h|exact aV h|exact G_skip0 h)
 |exact fun h=>wq h):Y:=hs h
theorem Uk (h:X) (hs:X->Y:=by
 first
 |(show _->aM _ _ _ _ _ _ _;intro h;first|exact cE h|exact aE h|exact bG h|exact aP h|exact bB h|exact aH h|exact bT h|exact aY h|exact aO h|exact aR h|exact cN h|exact dG h|exact lQ h|exact dQ h|exact cR h|exact dP h|exact fP h|exact aT h|exact bY h|exact bP h|exact G_call0 h|exact fH h|exact eF h|exact cZ h|exact iR h|exact aV h|exact G_skip0 h)
 |exact fun h=>wq h):Y:=hs h
theorem I9 (h:X) (hs:X->Y:=by
 first
 |(show _->aM _ _ _ _ _ _ _;intro h;first|exact cE h|exact f4 h|exact aE h|exact bG h|exact aP h|exact bB h|exact aH h|exact bT h|exact aY h|exact aO h|exact aR h|exact cN h|exact dG h|exact dQ h|exact cR h|exact fP h|exact aT h|exact bY h|exact bP h|exact G_call0 h|exact g9 h|exact G_callv0 h|exact fH h|exact eF h|exact cZ h|exact iR h|exact aV h|exact G_skip0 h)
 |exact fun h=>wq h):Y:=hs h
theorem v99 (h:X) (hs:X->Y:=by
 first
 |(show _->aM _ _ _ _ _ _ _;intro h;first|exact cE h|exact f4 h|exact zD h|exact aE h|exact bG h|exact aP h|exact bB h|exact aH h|exact bT h|exact aY h|exact aO h|exact aR h|exact cN h|exact dG h|exact dQ h|exact cR h|exact lO h|exact pE h|exact oW h|exact G_conv h|exact wD h|exact wZ h|exact xN h|exact fP h|exact yQ h|exact zJ h|exact aT h|exact lV h|exact hZ h|exact bP h|exact G_call0 h|exact g9 h|exact G_callv0 h|exact fH h|exact lP h|exact iR h|exact kF h|exact iF h)
 |exact fun h=>wq h):Y:=hs h
end Go.Sl
