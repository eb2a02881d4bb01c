/- A part of the proof: lemmas; each with the conditions that it states. -/
import Derived.Test.YtifgibijcmppmaaGreatProg
import Derived.Shelf.Sort.Plain
import Derived.Shelf.Slices.In.SortNone
import Derived.Test.YtifgibijcmppmaaGreatNad
set_option linter.unusedVariables false
set_option linter.unusedSimpArgs false
namespace Go.Sl
section
structure BrH (p:Prop):Prop where
 h:p
theorem bh {p X:Prop} (f:p→X):BrH p→X:=fun h=>f h.h
structure EqS {α:Type} (a b:α):Prop where
 h:a=b
theorem aE {α:Type} {a b:α} {X:Prop} (f:a=b→X):EqS a b→X:=fun h=>f h.h
theorem jB {α:Type} {E:t6 α} {xs:List α} {P:Program} {ops:Array Oper} {Q:Fr→List HP→Prop} {es:ET} {hist:List (List HP)} {a:Fr} {C:List HP} {gd:Bool} {d':Nat} {c:Nat} {t:TypeId} {x y:Operand} {ty:TypeId} {pos:String} {after:Array Edge} {g:Option (Nat×Bool)} {A:Option Addr} {n cp sz:Nat} {k:IntKind} {j:Int} (h:∀B off,EqS A (some ⟨B,off,none⟩)→cJ gd (.pointer (some ⟨B,off+j.toNat * sz,none⟩)) fun v=>aN P ops Q es hist (kP a d' v) C)
  (hx:bK a x=.slice A n cp:=by exact rfl) (hy:bK a y=.int k j:=by exact rfl) (ht:sY P t=some sz:=by exact rfl) (hv:cZ C A E xs:=by((repeat (first|exact d9|exact iH|exact rD|assumption|apply bB)) <;> exact d9))
  (hn:xs.length=n:=by first|exact rfl|assumption|omega) (h0:0≤j:=by first|omega|assumption) (h1:j<n:=by first|omega|assumption) (hw:bF ops ⟨some d',.indexAddr t x y,ty,pos,after,g⟩ a=true:=by exact rfl):
  aN P ops Q (ET.cons (c,gd,⟨some d',.indexAddr t x y,ty,pos,after,g⟩) es) hist a C:=
 wS (fun B off e=>h B off ⟨e⟩) hx hy ht hv hn h0 h1 hw
theorem Br.mkW {b:Bool} {X Y p q:Prop} (hX:BrH p→X) (hY:BrH q→Y)
 (hp:b=true→p:=by
  intro h
  first
  |(simp only[Bool.and_eq_true,Bool.or_eq_true,Bool.and_eq_false_iff,Bool.or_eq_false_iff,decide_eq_true_eq,decide_eq_false_iff_not,beq_iff_eq,bne_iff_ne,beq_eq_false_iff_ne,bne_eq_false_iff_eq,ne_eq,Bool.not_eq_true',Bool.not_eq_false',not_true_eq_false,not_false_eq_true,Int.not_lt,Int.not_le,gt_iff_lt,ge_iff_le] at h;exact h)
  |exact h)
 (hq:b=false→q:=by
  intro h
  first
  |(simp only[Bool.and_eq_true,Bool.or_eq_true,Bool.and_eq_false_iff,Bool.or_eq_false_iff,decide_eq_true_eq,decide_eq_false_iff_not,beq_iff_eq,bne_iff_ne,beq_eq_false_iff_ne,bne_eq_false_iff_eq,ne_eq,Bool.not_eq_true',Bool.not_eq_false',not_true_eq_false,not_false_eq_true,Int.not_lt,Int.not_le,gt_iff_lt,ge_iff_le] at h;exact h)
  |exact h):Br b X Y:=Br.mk (fun h=>hX ⟨hp h⟩) (fun h=>hY ⟨hq h⟩)
theorem w5 {X Y Z:Prop} (h1:X) (h2:Y) (hs:X→Y→Z:=by
 first
 |(show _→_→aN _ _ _ _ _ _ _;exact fun h k=>Al4 h k)
 |(show _→_→Br _ _ _;first|exact fun h k=>Br.mkW h k|exact fun h k=>Br.mkV h k)):Z:=hs h1 h2
theorem w6 {p Y:Prop} (h:p) (hs:p→False:=by
 intro h
 first
 |contradiction
 |omega
 |(simp at h <;> contradiction)):Y:=(hs h).elim
def Aho (_:List (Nat×Nat)) (X Y:Prop):Prop:=X→Y
def Ah3 (_ _:List Nat) (_:List (Nat×Nat)) (X Y:Prop):Prop:=X→Y
def Ah0 (_:Tr) (X Y:Prop):Prop:=X→Y
section
variable {P:Program} {Q:Exit→Fr→List HP→Prop} {a:Fr} {C:List HP} {id:Nat} {ol:List Oper} {es:ET}
theorem YD {l:List (Nat×Nat)} (hl:Cp (Ki P ol.toArray (Region.before ol.toArray))=some l) (hc:vG P ol.toArray (Region.before ol.toArray) l=true) (he:Jf ol.toArray l=some es):Aho l (aN P ol.toArray (Q .normal) es [] a C) (fB P (.region id ol.toArray true) Q a C):=fun h=>Iw hl hc he h
theorem ZC {l:List (Nat×Nat)} {bl br:List Nat} (hb:Vl ol [] 0=some br) (hr:br.reverse=bl) (hl:Cp (Ki P ol.toArray bl.toArray)=some l) (hc:vG P ol.toArray bl.toArray l=true) (he:Jf ol.toArray l=some es):Ah3 bl br l (aN P ol.toArray (Q .normal) es [] a C) (fB P (.region id ol.toArray true) Q a C):=fun h=>Af2 hb hr hl hc he h
theorem Zc {t:Tr} (hl:trF (Rv P ol.toArray (Region.before ol.toArray) (Ea P ol.toArray).length [] (Ea P ol.toArray))=some t) (hc:HA P ol.toArray (Region.before ol.toArray) t=true) (he:CY ol.toArray t=some es):Ah0 t (aN P ol.toArray (Q .normal) es [] a C) (fB P (.region id ol.toArray true) Q a C):=fun h=>GB hl hc he h
end
theorem dw (l:List (Nat×Nat)) {X Y:Prop} (h:X) (hs:Aho l X Y:=by exact YD (by decide +kernel) (by decide +kernel) (by exact rfl)):Y:=hs h
theorem Iu (bl br:List Nat) (l:List (Nat×Nat)) {X Y:Prop} (h:X) (hs:Ah3 bl br l X Y:=by exact ZC (by decide +kernel) (by decide +kernel) (by decide +kernel) (by decide +kernel) (by exact rfl)):Y:=hs h
theorem Hi (t:Tr) {X Y:Prop} (h:X) (hs:Ah0 t X Y:=by exact Zc (by kernel_rfl) (by decide +kernel) (by exact rfl)):Y:=hs h
theorem wr {X Y:Prop} (h:X) (hs:X→Y:=by
 first
 |(show _→cJ _ _ _;first|exact fun h=>EE rfl h|exact fun h=>M8 rfl h)
 |(show _→fB _ _ _ _ _;first|exact fun h=>Abz h|exact fun h=>IZ (by exact rfl) h|exact fun h=>Rh (by exact rfl) h|exact fun h=>Aak h|exact fun h=>Rl h|exact fun h=>Gx h|exact fun h=>QT h|exact fun h=>Ml h|exact fun h=>Lt h|exact fun h=>Iw (by exact rfl) (by decide +kernel) (by exact rfl) h|exact fun h=>GB (by exact rfl) (by decide +kernel) (by exact rfl) h)
 |(show _→Br _ _ _;first|exact fun h=>Br.t rfl h|exact fun h=>Br.f rfl h|exact fun h=>Br.t (beq_self_eq_true _) h|exact fun h=>Br.f (x6 _) h|exact fun h=>Br.t (by assumption) h|exact fun h=>Br.f (by assumption) h|exact fun h=>Br.t (Ai8 (by assumption)) h|exact fun h=>Br.f (Aka (by assumption)) h)
 |(show _→bO _ _ _ _ _;first|exact fun h=>t_n h|exact fun h=>t_r h|exact fun h=>t_e h)
 |(show _→aM _ _ _ _ _;first|exact fun h=>b_n h|exact fun h=>b_r h|exact fun h=>Y8 rfl h|exact fun h=>RO rfl h)
 |(show _→aY _ _ _ _;first|exact fun h=>g_n h|exact fun h=>g_r h|exact fun h=>g_e h)):Y:=hs h
theorem w1 {X Y:Prop} (h:X) (hs:X→Y:=by
 first
 |(show _→aN _ _ _ _ _ _ _;first
  |(show _→aN _ _ _ (ET.cons (_,_,⟨_,.move _,_,_,_,_⟩) _) _ _ _;first|exact fun h=>aF h|exact fun h=>aI h|exact fun h=>aX h|exact fun h=>G_skip0 h)
  |(show _→aN _ _ _ (ET.cons (_,_,⟨_,.assign _,_,_,_,_⟩) _) _ _ _;first|exact fun h=>aF h|exact fun h=>aI h|exact fun h=>aX h|exact fun h=>G_skip0 h)
  |(show _→aN _ _ _ (ET.cons (_,_,⟨_,.load _ _,_,_,_,_⟩) _) _ _ _;first|exact fun h=>aF h|exact fun h=>bG h|exact fun h=>aI h|exact fun h=>aZ h|exact fun h=>aO h|exact fun h=>aR h|exact fun h=>aX h|exact fun h=>G_skip0 h)
  |(show _→aN _ _ _ (ET.cons (_,_,⟨_,.fieldAddr _ _ _,_,_,_,_⟩) _) _ _ _;first|exact fun h=>aF h|exact fun h=>bC h|exact fun h=>aI h|exact fun h=>aX h|exact fun h=>G_skip0 h)
  |(show _→aN _ _ _ (ET.cons (_,_,⟨_,.call _,_,_,_,_⟩) _) _ _ _;first|exact fun h=>aF h|exact fun h=>aI h|exact fun h=>cY h|exact fun h=>dJ h|exact fun h=>y4 h|exact fun h=>zS h|exact fun h=>bN h|exact fun h=>G_call0 h|exact fun h=>iJ h|exact fun h=>G_callv0 h|exact fun h=>aX h|exact fun h=>G_skip0 h)
  |(show _→aN _ _ _ (ET.cons (_,_,⟨_,.nilCheck _,_,_,_,_⟩) _) _ _ _;first|exact fun h=>aF h|exact fun h=>aI h|exact fun h=>aX h|exact fun h=>G_skip0 h)
  |exact fun h=>aQ h
  |(show _→aN _ _ _ (ET.cons (_,_,⟨_,.extract _ _,_,_,_,_⟩) _) _ _ _;first|exact fun h=>aF h|exact fun h=>aI h|exact fun h=>aX h|exact fun h=>G_skip0 h)
  |(show _→aN _ _ _ (ET.cons (_,_,⟨_,.binOp _ _ _ _ _,_,_,_,_⟩) _) _ _ _;first|(show _→aN _ _ _ (ET.cons (_,_,⟨_,.binOp .eql _ _ _ _,_,_,_,_⟩) _) _ _ _;first|exact fun h=>aF h|exact fun h=>aI h|exact fun h=>aS h|exact fun h=>aX h|exact fun h=>G_skip0 h)|(show _→aN _ _ _ (ET.cons (_,_,⟨_,.binOp .add _ _ _ _,_,_,_,_⟩) _) _ _ _;first|exact fun h=>cG h|exact fun h=>aF h|exact fun h=>aI h|exact fun h=>fL h|exact fun h=>aX h|exact fun h=>G_skip0 h)|(show _→aN _ _ _ (ET.cons (_,_,⟨_,.binOp .neq _ _ _ _,_,_,_,_⟩) _) _ _ _;first|exact fun h=>aF h|exact fun h=>aI h|exact fun h=>bZ h|exact fun h=>aX h|exact fun h=>G_skip0 h)|(show _→aN _ _ _ (ET.cons (_,_,⟨_,.binOp .sub _ _ _ _,_,_,_,_⟩) _) _ _ _;first|exact fun h=>gH h|exact fun h=>aF h|exact fun h=>aI h|exact fun h=>aX h|exact fun h=>G_skip0 h)|(show _→aN _ _ _ (ET.cons (_,_,⟨_,.binOp .rem _ _ _ _,_,_,_,_⟩) _) _ _ _;first|exact fun h=>yR h|exact fun h=>aF h|exact fun h=>aI h|exact fun h=>aX h|exact fun h=>G_skip0 h)|(show _→aN _ _ _ (ET.cons (_,_,⟨_,.binOp .mul _ _ _ _,_,_,_,_⟩) _) _ _ _;first|exact fun h=>xW h|exact fun h=>aF h|exact fun h=>aI h|exact fun h=>aX h|exact fun h=>G_skip0 h)|(show _→aN _ _ _ (ET.cons (_,_,⟨_,.binOp .quo _ _ _ _,_,_,_,_⟩) _) _ _ _;first|exact fun h=>JX h|exact fun h=>aF h|exact fun h=>aI h|exact fun h=>aX h|exact fun h=>G_skip0 h)|(show _→aN _ _ _ (ET.cons (_,_,⟨_,.binOp .shr _ _ _ _,_,_,_,_⟩) _) _ _ _;first|exact fun h=>Qr h|exact fun h=>aF h|exact fun h=>aI h|exact fun h=>aX h|exact fun h=>G_skip0 h)|(show _→aN _ _ _ (ET.cons (_,_,⟨_,.binOp .shl _ _ _ _,_,_,_,_⟩) _) _ _ _;first|exact fun h=>LF h|exact fun h=>aF h|exact fun h=>aI h|exact fun h=>aX h|exact fun h=>G_skip0 h)|(show _→aN _ _ _ (ET.cons (_,_,⟨_,.binOp .or _ _ _ _,_,_,_,_⟩) _) _ _ _;first|exact fun h=>Aax h|exact fun h=>aF h|exact fun h=>aI h|exact fun h=>aX h|exact fun h=>G_skip0 h)|(show _→aN _ _ _ (ET.cons (_,_,⟨_,.binOp .andNot _ _ _ _,_,_,_,_⟩) _) _ _ _;first|exact fun h=>EV h|exact fun h=>E3 h|exact fun h=>aF h|exact fun h=>aI h|exact fun h=>aX h|exact fun h=>G_skip0 h)|exact fun h=>aF h|exact fun h=>aI h|exact fun h=>aX h)
  |(show _→aN _ _ _ (ET.cons (_,_,⟨_,.store _ _ _,_,_,_,_⟩) _) _ _ _;first|exact fun h=>aF h|exact fun h=>aI h|exact fun h=>bV h|exact fun h=>aX h|exact fun h=>G_skip0 h)
  |(show _→aN _ _ _ (ET.cons (_,_,⟨_,.pick _ _ _,_,_,_,_⟩) _) _ _ _;first|exact fun h=>aF h|exact fun h=>aI h|exact fun h=>aX h|exact fun h=>G_skip0 h)
  |(show _→aN _ _ _ (ET.cons (_,_,⟨_,.indexAddr _ _ _,_,_,_,_⟩) _) _ _ _;first|exact fun h=>aF h|exact fun h=>aI h|exact fun h=>dO h|exact fun h=>cP h|exact fun h=>jB h|exact fun h=>aX h|exact fun h=>G_skip0 h)
  |(show _→aN _ _ _ (ET.cons (_,_,⟨_,.build _ _,_,_,_,_⟩) _) _ _ _;first|exact fun h=>aF h|exact fun h=>aI h|exact fun h=>dU h|exact fun h=>aX h|exact fun h=>G_skip0 h)
  |(show _→aN _ _ _ (ET.cons (_,_,⟨_,.box _ _,_,_,_,_⟩) _) _ _ _;first|exact fun h=>aF h|exact fun h=>aI h|exact fun h=>fJ h|exact fun h=>aX h|exact fun h=>G_skip0 h)
  |(show _→aN _ _ _ (ET.cons (_,_,⟨_,.alloc _,_,_,_,_⟩) _) _ _ _;first|exact fun h=>aF h|exact fun h=>aI h|exact fun h=>eY h|exact fun h=>aX h|exact fun h=>G_skip0 h)
  |(show _→aN _ _ _ (ET.cons (_,_,⟨_,.unOp _ _ _,_,_,_,_⟩) _) _ _ _;first|(show _→aN _ _ _ (ET.cons (_,_,⟨_,.unOp .not _ _,_,_,_,_⟩) _) _ _ _;first|exact fun h=>aF h|exact fun h=>aI h|exact fun h=>mF h|exact fun h=>aX h|exact fun h=>G_skip0 h)|(show _→aN _ _ _ (ET.cons (_,_,⟨_,.unOp .neg _ _,_,_,_,_⟩) _) _ _ _;first|exact fun h=>aF h|exact fun h=>aI h|exact fun h=>G_neg64 h|exact fun h=>aX h|exact fun h=>G_skip0 h)|exact fun h=>aF h|exact fun h=>aI h|exact fun h=>aX h)
  |(show _→aN _ _ _ (ET.cons (_,_,⟨_,.slice _ _ _ _ _,_,_,_,_⟩) _) _ _ _;first|exact fun h=>aF h|exact fun h=>aI h|exact fun h=>w4 h|exact fun h=>wU h|exact fun h=>wX h|exact fun h=>kF h|exact fun h=>iO h|exact fun h=>aX h|exact fun h=>G_skip0 h)
  |(show _→aN _ _ _ (ET.cons (_,_,⟨_,.convert _ _ _,_,_,_,_⟩) _) _ _ _;first|exact fun h=>aF h|exact fun h=>aI h|exact fun h=>jH h|exact fun h=>mS h|exact fun h=>lR h|exact fun h=>G_conv h|exact fun h=>kG h|exact fun h=>f5 h|exact fun h=>kL h|exact fun h=>aX h|exact fun h=>G_skip0 h)
  |(show _→aN _ _ _ (ET.cons (_,_,⟨_,.buildSlice _ _ _,_,_,_,_⟩) _) _ _ _;first|exact fun h=>aF h|exact fun h=>aI h|exact fun h=>dP h|exact fun h=>aX h|exact fun h=>G_skip0 h)
  |(show _→aN _ _ _ (ET.cons (_,_,⟨_,.index _ _ _,_,_,_,_⟩) _) _ _ _;first|exact fun h=>aF h|exact fun h=>aI h|exact fun h=>G_indexS h|exact fun h=>aX h|exact fun h=>G_skip0 h)
  |exact fun h=>aF h|exact fun h=>aI h|exact fun h=>aX h|exact fun h=>G_skip0 h)
 |(show _→cJ _ _ _;first|exact fun h=>EE rfl h|exact fun h=>M8 rfl h)
 |(show _→fB _ _ _ _ _;first|exact fun h=>Abz h|exact fun h=>IZ (by exact rfl) h|exact fun h=>Rh (by exact rfl) h|exact fun h=>Aak h|exact fun h=>Rl h|exact fun h=>Gx h|exact fun h=>QT h|exact fun h=>Ml h|exact fun h=>Lt h|exact fun h=>Iw (by exact rfl) (by decide +kernel) (by exact rfl) h|exact fun h=>GB (by exact rfl) (by decide +kernel) (by exact rfl) h)
 |(show _→Br _ _ _;first|exact fun h=>Br.t rfl h|exact fun h=>Br.f rfl h|exact fun h=>Br.t (beq_self_eq_true _) h|exact fun h=>Br.f (x6 _) h|exact fun h=>Br.t (by assumption) h|exact fun h=>Br.f (by assumption) h|exact fun h=>Br.t (Ai8 (by assumption)) h|exact fun h=>Br.f (Aka (by assumption)) h)
 |(show _→bO _ _ _ _ _;first|exact fun h=>t_n h|exact fun h=>t_r h|exact fun h=>t_e h)
 |(show _→aM _ _ _ _ _;first|exact fun h=>b_n h|exact fun h=>b_r h|exact fun h=>Y8 rfl h|exact fun h=>RO rfl h)
 |(show _→aY _ _ _ _;first|exact fun h=>g_n h|exact fun h=>g_r h|exact fun h=>g_e h)):Y:=hs h
theorem v0 {X Y:Prop} (h:X) (hs:X→Y:=by
 show _→aN _ _ _ _ _ _ _
 intro h
 first|exact aF h|exact aQ h|exact aI h|exact bN h|exact G_call0 h):Y:=hs h
theorem v1 {X Y:Prop} (h:X) (hs:X→Y:=by
 show _→aN _ _ _ _ _ _ _
 intro h
 first|exact aF h|exact aQ h|exact aI h|exact aX h|exact G_skip0 h):Y:=hs h
theorem v2 {X Y:Prop} (h:X) (hs:X→Y:=by
 show _→aN _ _ _ _ _ _ _
 intro h
 first|exact aF h|exact aQ h|exact aI h|exact bZ h|exact bN h|exact G_call0 h):Y:=hs h
theorem v3 {X Y:Prop} (h:X) (hs:X→Y:=by
 show _→aN _ _ _ _ _ _ _
 intro h
 first|exact aF h|exact aQ h|exact aI h|exact aS h|exact bN h|exact G_call0 h):Y:=hs h
theorem v4 {X Y:Prop} (h:X) (hs:X→Y:=by
 show _→aN _ _ _ _ _ _ _
 intro h
 first|exact aF h|exact bG h|exact aQ h|exact bC h|exact aI h|exact aZ h|exact aO h|exact aR h|exact aS h):Y:=hs h
theorem v5 {X Y:Prop} (h:X) (hs:X→Y:=by
 show _→aN _ _ _ _ _ _ _
 intro h
 first|exact aF h|exact aQ h|exact aI h|exact bV h|exact dU h|exact eY h):Y:=hs h
theorem v6 {X Y:Prop} (h:X) (hs:X→Y:=by
 show _→aN _ _ _ _ _ _ _
 intro h
 first|exact aF h|exact aQ h|exact aI h|exact dU h|exact fJ h|exact aX h|exact G_skip0 h):Y:=hs h
theorem v8 {X Y:Prop} (h:X) (hs:X→Y:=by
 show _→aN _ _ _ _ _ _ _
 intro h
 first|exact gH h|exact aF h|exact aQ h|exact aI h|exact w4 h|exact wU h|exact wX h|exact bN h|exact G_call0 h|exact kF h|exact iO h):Y:=hs h
theorem v9 {X Y:Prop} (h:X) (hs:X→Y:=by
 show _→aN _ _ _ _ _ _ _
 intro h
 first|exact aF h|exact aQ h|exact aI h|exact cY h|exact dJ h|exact w4 h|exact wU h|exact wX h|exact aS h|exact kF h|exact iO h):Y:=hs h
theorem SL {X Y:Prop} (h:X) (hs:X→Y:=by
 show _→aN _ _ _ _ _ _ _
 intro h
 first|exact aF h|exact bG h|exact aQ h|exact bC h|exact aI h|exact aZ h|exact aO h|exact aR h|exact aS h|exact bN h|exact G_call0 h):Y:=hs h
theorem I6 {X Y:Prop} (h:X) (hs:X→Y:=by
 show _→aN _ _ _ _ _ _ _
 intro h
 first|exact aF h|exact bG h|exact aQ h|exact bC h|exact aI h|exact aZ h|exact aO h|exact aR h|exact bZ h|exact bN h|exact G_call0 h):Y:=hs h
theorem v13 {X Y:Prop} (h:X) (hs:X→Y:=by
 show _→aN _ _ _ _ _ _ _
 intro h
 first|exact aF h|exact aQ h|exact bC h|exact aI h|exact bV h|exact aS h|exact bN h|exact G_call0 h):Y:=hs h
theorem v14 {X Y:Prop} (h:X) (hs:X→Y:=by
 show _→aN _ _ _ _ _ _ _
 intro h
 first|exact aF h|exact bG h|exact aQ h|exact bC h|exact aI h|exact bV h|exact aZ h|exact aO h|exact aR h|exact zS h):Y:=hs h
theorem v15 {X Y:Prop} (h:X) (hs:X→Y:=by
 show _→aN _ _ _ _ _ _ _
 intro h
 first|exact gH h|exact aF h|exact aQ h|exact aI h|exact aS h|exact bN h|exact G_call0 h|exact aX h|exact G_skip0 h):Y:=hs h
theorem v16 {X Y:Prop} (h:X) (hs:X→Y:=by
 show _→aN _ _ _ _ _ _ _
 intro h
 first|exact aF h|exact bG h|exact aQ h|exact bC h|exact aI h|exact aZ h|exact aO h|exact aR h|exact bZ h|exact aX h|exact G_skip0 h):Y:=hs h
theorem v17 {X Y:Prop} (h:X) (hs:X→Y:=by
 show _→aN _ _ _ _ _ _ _
 intro h
 first|exact aF h|exact bG h|exact aQ h|exact aI h|exact aZ h|exact aO h|exact aR h|exact y4 h|exact zS h|exact bN h|exact G_call0 h):Y:=hs h
theorem v19 {X Y:Prop} (h:X) (hs:X→Y:=by
 show _→aN _ _ _ _ _ _ _
 intro h
 first|exact aF h|exact bG h|exact aQ h|exact bC h|exact aI h|exact aZ h|exact aO h|exact aR h|exact bN h|exact G_call0 h|exact fJ h|exact aX h|exact G_skip0 h):Y:=hs h
theorem v20 {X Y:Prop} (h:X) (hs:X→Y:=by
 show _→aN _ _ _ _ _ _ _
 intro h
 first|exact aF h|exact bG h|exact aQ h|exact bC h|exact aI h|exact aZ h|exact aO h|exact aR h|exact cY h|exact dJ h|exact jH h|exact mS h|exact lR h|exact G_conv h|exact aS h|exact kG h|exact f5 h|exact kL h):Y:=hs h
theorem v21 {X Y:Prop} (h:X) (hs:X→Y:=by
 show _→aN _ _ _ _ _ _ _
 intro h
 first|exact aF h|exact aQ h|exact aI h|exact mF h|exact dU h|exact bZ h|exact bN h|exact G_call0 h|exact fJ h):Y:=hs h
theorem v22 {X Y:Prop} (h:X) (hs:X→Y:=by
 show _→aN _ _ _ _ _ _ _
 intro h
 first|exact gH h|exact aF h|exact bG h|exact aQ h|exact bC h|exact aI h|exact aZ h|exact aO h|exact aR h|exact aS h|exact fJ h):Y:=hs h
theorem v23 {X Y:Prop} (h:X) (hs:X→Y:=by
 show _→aN _ _ _ _ _ _ _
 intro h
 first|exact aF h|exact bG h|exact aQ h|exact bC h|exact aI h|exact aZ h|exact aO h|exact aR h|exact aS h|exact fJ h|exact aX h|exact G_skip0 h):Y:=hs h
theorem v24 {X Y:Prop} (h:X) (hs:X→Y:=by
 show _→aN _ _ _ _ _ _ _
 intro h
 first|exact cG h|exact gH h|exact JX h|exact aF h|exact aQ h|exact aI h|exact fL h|exact bN h|exact G_call0 h|exact aX h|exact G_skip0 h):Y:=hs h
theorem v25 {X Y:Prop} (h:X) (hs:X→Y:=by
 show _→aN _ _ _ _ _ _ _
 intro h
 first|exact aF h|exact bG h|exact aQ h|exact bC h|exact aI h|exact aZ h|exact aO h|exact aR h|exact G_indexS h|exact dU h|exact bN h|exact G_call0 h):Y:=hs h
theorem v26 {X Y:Prop} (h:X) (hs:X→Y:=by
 show _→aN _ _ _ _ _ _ _
 intro h
 first|exact aF h|exact bG h|exact aQ h|exact aI h|exact aZ h|exact aO h|exact aR h|exact aS h|exact iJ h|exact G_callv0 h|exact fJ h|exact aX h|exact G_skip0 h):Y:=hs h
theorem v27 {X Y:Prop} (h:X) (hs:X→Y:=by
 show _→aN _ _ _ _ _ _ _
 intro h
 first|exact yR h|exact aF h|exact bG h|exact aQ h|exact bC h|exact aI h|exact aZ h|exact aO h|exact aR h|exact aS h|exact aX h|exact G_skip0 h):Y:=hs h
theorem v28 {X Y:Prop} (h:X) (hs:X→Y:=by
 show _→aN _ _ _ _ _ _ _
 intro h
 first|exact cG h|exact gH h|exact aF h|exact bG h|exact aQ h|exact aI h|exact bV h|exact aZ h|exact aO h|exact aR h|exact dO h|exact cP h|exact fL h|exact jB h):Y:=hs h
theorem v29 {X Y:Prop} (h:X) (hs:X→Y:=by
 show _→aN _ _ _ _ _ _ _
 intro h
 first|exact cG h|exact aF h|exact bG h|exact aQ h|exact bC h|exact aI h|exact aZ h|exact aO h|exact aR h|exact dO h|exact cP h|exact fL h|exact aS h|exact bZ h|exact jB h):Y:=hs h
theorem v30 {X Y:Prop} (h:X) (hs:X→Y:=by
 show _→aN _ _ _ _ _ _ _
 intro h
 first|exact aF h|exact bG h|exact aQ h|exact bC h|exact aI h|exact bV h|exact aZ h|exact aO h|exact aR h|exact dU h|exact aS h|exact eY h):Y:=hs h
theorem v31 {X Y:Prop} (h:X) (hs:X→Y:=by
 show _→aN _ _ _ _ _ _ _
 intro h
 first|exact aF h|exact bG h|exact aQ h|exact bC h|exact aI h|exact bV h|exact aZ h|exact aO h|exact aR h|exact bN h|exact G_call0 h|exact fJ h|exact eY h):Y:=hs h
theorem FL {X Y:Prop} (h:X) (hs:X→Y:=by
 show _→aN _ _ _ _ _ _ _
 intro h
 first|exact cG h|exact aF h|exact bG h|exact aQ h|exact bC h|exact aI h|exact bV h|exact aZ h|exact aO h|exact aR h|exact fL h|exact aS h|exact bN h|exact G_call0 h):Y:=hs h
theorem v33 {X Y:Prop} (h:X) (hs:X→Y:=by
 show _→aN _ _ _ _ _ _ _
 intro h
 first|exact cG h|exact gH h|exact aF h|exact bG h|exact aQ h|exact bC h|exact aI h|exact bV h|exact aZ h|exact aO h|exact aR h|exact fL h|exact aS h):Y:=hs h
theorem I7 {X Y:Prop} (h:X) (hs:X→Y:=by
 show _→aN _ _ _ _ _ _ _
 intro h
 first|exact aF h|exact bG h|exact aQ h|exact bC h|exact aI h|exact aZ h|exact aO h|exact aR h|exact mF h|exact aS h|exact bN h|exact G_call0 h|exact aX h|exact G_skip0 h):Y:=hs h
theorem v35 {X Y:Prop} (h:X) (hs:X→Y:=by
 show _→aN _ _ _ _ _ _ _
 intro h
 first|exact aF h|exact bG h|exact aQ h|exact bC h|exact aI h|exact aZ h|exact aO h|exact aR h|exact y4 h|exact aS h|exact bZ h|exact bN h|exact G_call0 h):Y:=hs h
theorem v36 {X Y:Prop} (h:X) (hs:X→Y:=by
 show _→aN _ _ _ _ _ _ _
 intro h
 first|exact aF h|exact bG h|exact aQ h|exact aI h|exact bV h|exact aZ h|exact aO h|exact aR h|exact cY h|exact dJ h|exact dU h|exact bZ h|exact dP h):Y:=hs h
theorem v37 {X Y:Prop} (h:X) (hs:X→Y:=by
 show _→aN _ _ _ _ _ _ _
 intro h
 first|exact cG h|exact aF h|exact bG h|exact aQ h|exact bC h|exact aI h|exact bV h|exact aZ h|exact aO h|exact aR h|exact mF h|exact fL h|exact iJ h|exact G_callv0 h):Y:=hs h
theorem v38 {X Y:Prop} (h:X) (hs:X→Y:=by
 show _→aN _ _ _ _ _ _ _
 intro h
 first|exact cG h|exact JX h|exact yR h|exact aF h|exact aQ h|exact aI h|exact jH h|exact mS h|exact lR h|exact G_conv h|exact fL h|exact aS h|exact kG h|exact f5 h|exact dP h|exact kL h):Y:=hs h
theorem v39 {X Y:Prop} (h:X) (hs:X→Y:=by
 show _→aN _ _ _ _ _ _ _
 intro h
 first|exact aF h|exact bG h|exact aQ h|exact bC h|exact aI h|exact aZ h|exact aO h|exact aR h|exact y4 h|exact zS h|exact aS h|exact fJ h):Y:=hs h
theorem v40 {X Y:Prop} (h:X) (hs:X→Y:=by
 show _→aN _ _ _ _ _ _ _
 intro h
 first|exact aF h|exact bG h|exact aQ h|exact bC h|exact aI h|exact bV h|exact aZ h|exact aO h|exact aR h|exact cY h|exact dJ h|exact dO h|exact cP h|exact w4 h|exact wU h|exact wX h|exact jB h|exact kF h|exact iO h):Y:=hs h
theorem v41 {X Y:Prop} (h:X) (hs:X→Y:=by
 show _→aN _ _ _ _ _ _ _
 intro h
 first|exact aF h|exact bG h|exact aQ h|exact bC h|exact aI h|exact aZ h|exact aO h|exact aR h|exact mF h|exact dO h|exact cP h|exact aS h|exact bN h|exact G_call0 h|exact jB h|exact aX h|exact G_skip0 h):Y:=hs h
theorem v42 {X Y:Prop} (h:X) (hs:X→Y:=by
 show _→aN _ _ _ _ _ _ _
 intro h
 first|exact cG h|exact aF h|exact aQ h|exact aI h|exact dU h|exact fL h|exact aS h|exact bZ h|exact bN h|exact G_call0 h|exact fJ h|exact aX h|exact G_skip0 h):Y:=hs h
theorem v43 {X Y:Prop} (h:X) (hs:X→Y:=by
 show _→aN _ _ _ _ _ _ _
 intro h
 first|exact cG h|exact xW h|exact JX h|exact aF h|exact bG h|exact aQ h|exact bC h|exact aI h|exact aZ h|exact aO h|exact aR h|exact fL h|exact zS h|exact fJ h):Y:=hs h
theorem v44 {X Y:Prop} (h:X) (hs:X→Y:=by
 show _→aN _ _ _ _ _ _ _
 intro h
 first|exact aF h|exact bG h|exact aQ h|exact bC h|exact aI h|exact aZ h|exact aO h|exact aR h|exact mF h|exact aS h|exact bN h|exact G_call0 h|exact fJ h|exact aX h|exact G_skip0 h):Y:=hs h
theorem v45 {X Y:Prop} (h:X) (hs:X→Y:=by
 show _→aN _ _ _ _ _ _ _
 intro h
 first|exact cG h|exact aF h|exact bG h|exact aQ h|exact bC h|exact aI h|exact aZ h|exact aO h|exact aR h|exact cY h|exact dJ h|exact dO h|exact cP h|exact fL h|exact bN h|exact G_call0 h|exact dP h|exact jB h):Y:=hs h
theorem v46 {X Y:Prop} (h:X) (hs:X→Y:=by
 show _→aN _ _ _ _ _ _ _
 intro h
 first|exact aF h|exact bG h|exact aQ h|exact bC h|exact aI h|exact aZ h|exact aO h|exact aR h|exact dU h|exact aS h|exact bZ h|exact bN h|exact G_call0 h|exact fJ h):Y:=hs h
theorem v47 {X Y:Prop} (h:X) (hs:X→Y:=by
 show _→aN _ _ _ _ _ _ _
 intro h
 first|exact aF h|exact bG h|exact aQ h|exact bC h|exact aI h|exact aZ h|exact aO h|exact aR h|exact aS h|exact bN h|exact G_call0 h|exact iJ h|exact G_callv0 h|exact fJ h|exact eY h):Y:=hs h
theorem v48 {X Y:Prop} (h:X) (hs:X→Y:=by
 show _→aN _ _ _ _ _ _ _
 intro h
 first|exact aF h|exact bG h|exact aQ h|exact bC h|exact aI h|exact bV h|exact aZ h|exact aO h|exact aR h|exact mF h|exact bZ h|exact bN h|exact G_call0 h|exact aX h|exact G_skip0 h):Y:=hs h
theorem v49 {X Y:Prop} (h:X) (hs:X→Y:=by
 show _→aN _ _ _ _ _ _ _
 intro h
 first|exact cG h|exact aF h|exact bG h|exact aQ h|exact bC h|exact aI h|exact bV h|exact aZ h|exact aO h|exact aR h|exact fL h|exact aS h|exact bZ h|exact bN h|exact G_call0 h):Y:=hs h
theorem JU {X Y:Prop} (h:X) (hs:X→Y:=by
 show _→aN _ _ _ _ _ _ _
 intro h
 first|exact cG h|exact gH h|exact aF h|exact aQ h|exact aI h|exact cY h|exact dJ h|exact mF h|exact w4 h|exact wU h|exact wX h|exact fL h|exact aS h|exact bN h|exact G_call0 h|exact kF h|exact iO h):Y:=hs h
theorem v52 {X Y:Prop} (h:X) (hs:X→Y:=by
 show _→aN _ _ _ _ _ _ _
 intro h
 first|exact cG h|exact xW h|exact yR h|exact aF h|exact bG h|exact aQ h|exact aI h|exact aZ h|exact aO h|exact aR h|exact dO h|exact cP h|exact jH h|exact mS h|exact lR h|exact G_conv h|exact fL h|exact aS h|exact kG h|exact f5 h|exact bN h|exact G_call0 h|exact kL h|exact jB h):Y:=hs h
theorem v53 {X Y:Prop} (h:X) (hs:X→Y:=by
 show _→aN _ _ _ _ _ _ _
 intro h
 first|exact gH h|exact aF h|exact aQ h|exact aI h|exact mF h|exact dU h|exact aS h|exact bN h|exact G_call0 h|exact iJ h|exact G_callv0 h|exact fJ h|exact aX h|exact G_skip0 h):Y:=hs h
theorem v54 {X Y:Prop} (h:X) (hs:X→Y:=by
 show _→aN _ _ _ _ _ _ _
 intro h
 first|exact aF h|exact bG h|exact aQ h|exact bC h|exact aI h|exact bV h|exact aZ h|exact aO h|exact aR h|exact cY h|exact dJ h|exact dO h|exact cP h|exact bN h|exact G_call0 h|exact fJ h|exact dP h|exact jB h):Y:=hs h
theorem v55 {X Y:Prop} (h:X) (hs:X→Y:=by
 show _→aN _ _ _ _ _ _ _
 intro h
 first|exact cG h|exact aF h|exact bG h|exact aQ h|exact aI h|exact bV h|exact aZ h|exact aO h|exact aR h|exact dO h|exact cP h|exact fL h|exact y4 h|exact bN h|exact G_call0 h|exact iJ h|exact G_callv0 h|exact eY h|exact jB h):Y:=hs h
theorem v56 {X Y:Prop} (h:X) (hs:X→Y:=by
 show _→aN _ _ _ _ _ _ _
 intro h
 first|exact xW h|exact LF h|exact Qr h|exact aF h|exact bG h|exact aQ h|exact bC h|exact aI h|exact bV h|exact aZ h|exact aO h|exact aR h|exact fJ h|exact aX h|exact G_skip0 h):Y:=hs h
theorem zB {X Y:Prop} (h:X) (hs:X→Y:=by
 show _→aN _ _ _ _ _ _ _
 intro h
 first|exact aF h|exact bG h|exact aQ h|exact bC h|exact aI h|exact bV h|exact aZ h|exact aO h|exact aR h|exact dU h|exact aS h|exact bZ h|exact bN h|exact G_call0 h|exact fJ h|exact aX h|exact G_skip0 h):Y:=hs h
theorem v58 {X Y:Prop} (h:X) (hs:X→Y:=by
 show _→aN _ _ _ _ _ _ _
 intro h
 first|exact yR h|exact aF h|exact bG h|exact aQ h|exact bC h|exact aI h|exact aZ h|exact aO h|exact aR h|exact aS h|exact bZ h|exact bN h|exact G_call0 h|exact iJ h|exact G_callv0 h|exact fJ h|exact aX h|exact G_skip0 h):Y:=hs h
theorem Mn {X Y:Prop} (h:X) (hs:X→Y:=by
 show _→aN _ _ _ _ _ _ _
 intro h
 first|exact cG h|exact aF h|exact bG h|exact aQ h|exact bC h|exact aI h|exact bV h|exact aZ h|exact aO h|exact aR h|exact dO h|exact cP h|exact dU h|exact fL h|exact bZ h|exact bN h|exact G_call0 h|exact eY h|exact jB h):Y:=hs h
theorem Xy {X Y:Prop} (h:X) (hs:X→Y:=by
 show _→aN _ _ _ _ _ _ _
 intro h
 first|exact cG h|exact aF h|exact bG h|exact aQ h|exact bC h|exact aI h|exact aZ h|exact aO h|exact aR h|exact dO h|exact cP h|exact dU h|exact fL h|exact bZ h|exact bN h|exact G_call0 h|exact fJ h|exact dP h|exact jB h):Y:=hs h
theorem v61 {X Y:Prop} (h:X) (hs:X→Y:=by
 show _→aN _ _ _ _ _ _ _
 intro h
 first|exact yR h|exact aF h|exact bG h|exact aQ h|exact bC h|exact aI h|exact bV h|exact aZ h|exact aO h|exact aR h|exact jH h|exact mS h|exact lR h|exact G_conv h|exact dU h|exact zS h|exact kG h|exact f5 h|exact fJ h|exact eY h|exact kL h):Y:=hs h
theorem v62 {X Y:Prop} (h:X) (hs:X→Y:=by
 show _→aN _ _ _ _ _ _ _
 intro h
 first|exact cG h|exact aF h|exact bG h|exact aQ h|exact bC h|exact aI h|exact bV h|exact aZ h|exact aO h|exact aR h|exact dO h|exact cP h|exact w4 h|exact wU h|exact wX h|exact fL h|exact aS h|exact bN h|exact G_call0 h|exact jB h|exact kF h|exact iO h|exact aX h|exact G_skip0 h):Y:=hs h
theorem AK {X Y:Prop} (h:X) (hs:X→Y:=by
 show _→aN _ _ _ _ _ _ _
 intro h
 first|exact aF h|exact bG h|exact aQ h|exact bC h|exact aI h|exact aZ h|exact aO h|exact aR h|exact mF h|exact dU h|exact aS h|exact bZ h|exact bN h|exact G_call0 h|exact fJ h|exact aX h|exact G_skip0 h):Y:=hs h
theorem XO {X Y:Prop} (h:X) (hs:X→Y:=by
 show _→aN _ _ _ _ _ _ _
 intro h
 first|exact aF h|exact bG h|exact aQ h|exact bC h|exact aI h|exact bV h|exact aZ h|exact aO h|exact aR h|exact dU h|exact aS h|exact bZ h|exact bN h|exact G_call0 h|exact fJ h|exact eY h):Y:=hs h
theorem MU {X Y:Prop} (h:X) (hs:X→Y:=by
 show _→aN _ _ _ _ _ _ _
 intro h
 first|exact gH h|exact aF h|exact bG h|exact aQ h|exact bC h|exact aI h|exact bV h|exact aZ h|exact aO h|exact aR h|exact mF h|exact aS h|exact bZ h|exact bN h|exact G_call0 h|exact aX h|exact G_skip0 h):Y:=hs h
theorem v66 {X Y:Prop} (h:X) (hs:X→Y:=by
 show _→aN _ _ _ _ _ _ _
 intro h
 first|exact cG h|exact gH h|exact aF h|exact bG h|exact aQ h|exact bC h|exact aI h|exact bV h|exact aZ h|exact aO h|exact aR h|exact jH h|exact mS h|exact lR h|exact G_conv h|exact fL h|exact y4 h|exact zS h|exact aS h|exact kG h|exact f5 h|exact kL h):Y:=hs h
theorem v67 {X Y:Prop} (h:X) (hs:X→Y:=by
 show _→aN _ _ _ _ _ _ _
 intro h
 first|exact cG h|exact gH h|exact yR h|exact aF h|exact bG h|exact aQ h|exact bC h|exact aI h|exact bV h|exact aZ h|exact aO h|exact aR h|exact fL h|exact y4 h|exact zS h|exact bN h|exact G_call0 h):Y:=hs h
theorem v68 {X Y:Prop} (h:X) (hs:X→Y:=by
 show _→aN _ _ _ _ _ _ _
 intro h
 first|exact cG h|exact gH h|exact aF h|exact bG h|exact aQ h|exact bC h|exact aI h|exact bV h|exact aZ h|exact aO h|exact aR h|exact mF h|exact fL h|exact zS h|exact aS h|exact bN h|exact G_call0 h):Y:=hs h
theorem XP {X Y:Prop} (h:X) (hs:X→Y:=by
 show _→aN _ _ _ _ _ _ _
 intro h
 first|exact cG h|exact gH h|exact aF h|exact bG h|exact aQ h|exact bC h|exact aI h|exact bV h|exact aZ h|exact aO h|exact aR h|exact dO h|exact cP h|exact fL h|exact aS h|exact bN h|exact G_call0 h|exact eY h|exact jB h|exact aX h|exact G_skip0 h):Y:=hs h
theorem XJ {X Y:Prop} (h:X) (hs:X→Y:=by
 show _→aN _ _ _ _ _ _ _
 intro h
 first|exact cG h|exact aF h|exact bG h|exact aQ h|exact bC h|exact aI h|exact aZ h|exact aO h|exact aR h|exact cY h|exact dJ h|exact dO h|exact cP h|exact dU h|exact fL h|exact aS h|exact bN h|exact G_call0 h|exact dP h|exact jB h|exact aX h|exact G_skip0 h):Y:=hs h
theorem v73 {X Y:Prop} (h:X) (hs:X→Y:=by
 show _→aN _ _ _ _ _ _ _
 intro h
 first|exact aF h|exact bG h|exact aQ h|exact bC h|exact aI h|exact bV h|exact aZ h|exact aO h|exact aR h|exact cY h|exact dJ h|exact dO h|exact cP h|exact dU h|exact w4 h|exact wU h|exact wX h|exact aS h|exact bN h|exact G_call0 h|exact eY h|exact jB h|exact kF h|exact iO h):Y:=hs h
theorem v74 {X Y:Prop} (h:X) (hs:X→Y:=by
 show _→aN _ _ _ _ _ _ _
 intro h
 first|exact cG h|exact aF h|exact bG h|exact aQ h|exact aI h|exact bV h|exact aZ h|exact aO h|exact aR h|exact cY h|exact dJ h|exact dO h|exact cP h|exact jH h|exact mS h|exact lR h|exact G_conv h|exact fL h|exact bZ h|exact kG h|exact f5 h|exact bN h|exact G_call0 h|exact iJ h|exact G_callv0 h|exact eY h|exact kL h|exact jB h):Y:=hs h
theorem v75 {X Y:Prop} (h:X) (hs:X→Y:=by
 show _→aN _ _ _ _ _ _ _
 intro h
 first|exact gH h|exact aF h|exact bG h|exact aQ h|exact bC h|exact aI h|exact bV h|exact aZ h|exact aO h|exact aR h|exact dO h|exact cP h|exact dU h|exact bN h|exact G_call0 h|exact iJ h|exact G_callv0 h|exact fJ h|exact eY h|exact jB h):Y:=hs h
theorem QB {X Y:Prop} (h:X) (hs:X→Y:=by
 show _→aN _ _ _ _ _ _ _
 intro h
 first|exact cG h|exact aF h|exact bG h|exact aQ h|exact bC h|exact aI h|exact bV h|exact aZ h|exact aO h|exact aR h|exact mF h|exact fL h|exact aS h|exact bN h|exact G_call0 h|exact iJ h|exact G_callv0 h|exact fJ h|exact aX h|exact G_skip0 h):Y:=hs h
theorem EL {X Y:Prop} (h:X) (hs:X→Y:=by
 show _→aN _ _ _ _ _ _ _
 intro h
 first|exact cG h|exact aF h|exact bG h|exact aQ h|exact bC h|exact aI h|exact aZ h|exact aO h|exact aR h|exact mF h|exact dO h|exact cP h|exact dU h|exact fL h|exact aS h|exact bZ h|exact bN h|exact G_call0 h|exact fJ h|exact jB h|exact aX h|exact G_skip0 h):Y:=hs h
theorem Yj {X Y:Prop} (h:X) (hs:X→Y:=by
 show _→aN _ _ _ _ _ _ _
 intro h
 first|exact cG h|exact aF h|exact bG h|exact aQ h|exact bC h|exact aI h|exact bV h|exact aZ h|exact aO h|exact aR h|exact dO h|exact cP h|exact dU h|exact fL h|exact aS h|exact bN h|exact G_call0 h|exact iJ h|exact G_callv0 h|exact fJ h|exact eY h|exact jB h):Y:=hs h
theorem Qz {X Y:Prop} (h:X) (hs:X→Y:=by
 show _→aN _ _ _ _ _ _ _
 intro h
 first|exact cG h|exact aF h|exact bG h|exact aQ h|exact bC h|exact aI h|exact bV h|exact aZ h|exact aO h|exact aR h|exact cY h|exact dJ h|exact mF h|exact w4 h|exact wU h|exact wX h|exact fL h|exact aS h|exact bN h|exact G_call0 h|exact eY h|exact dP h|exact kF h|exact iO h):Y:=hs h
theorem v82 {X Y:Prop} (h:X) (hs:X→Y:=by
 show _→aN _ _ _ _ _ _ _
 intro h
 first|exact aF h|exact bG h|exact aQ h|exact bC h|exact aI h|exact bV h|exact aZ h|exact aO h|exact aR h|exact dO h|exact cP h|exact dU h|exact aS h|exact bZ h|exact bN h|exact G_call0 h|exact fJ h|exact eY h|exact jB h|exact aX h|exact G_skip0 h):Y:=hs h
theorem Nm {X Y:Prop} (h:X) (hs:X→Y:=by
 show _→aN _ _ _ _ _ _ _
 intro h
 first|exact cG h|exact gH h|exact yR h|exact aF h|exact bG h|exact aQ h|exact bC h|exact aI h|exact aZ h|exact aO h|exact aR h|exact dO h|exact cP h|exact jH h|exact mS h|exact lR h|exact G_conv h|exact fL h|exact aS h|exact kG h|exact f5 h|exact bN h|exact G_call0 h|exact fJ h|exact dP h|exact kL h|exact jB h):Y:=hs h
theorem v84 {X Y:Prop} (h:X) (hs:X→Y:=by
 show _→aN _ _ _ _ _ _ _
 intro h
 first|exact cG h|exact gH h|exact JX h|exact aF h|exact bG h|exact aQ h|exact bC h|exact aI h|exact aZ h|exact aO h|exact aR h|exact dO h|exact cP h|exact fL h|exact aS h|exact bN h|exact G_call0 h|exact iJ h|exact G_callv0 h|exact fJ h|exact jB h|exact aX h|exact G_skip0 h):Y:=hs h
theorem v85 {X Y:Prop} (h:X) (hs:X→Y:=by
 show _→aN _ _ _ _ _ _ _
 intro h
 first|exact cG h|exact yR h|exact aF h|exact bG h|exact aQ h|exact bC h|exact aI h|exact bV h|exact aZ h|exact aO h|exact aR h|exact mF h|exact w4 h|exact wU h|exact wX h|exact fL h|exact y4 h|exact aS h|exact bN h|exact G_call0 h|exact kF h|exact iO h|exact aX h|exact G_skip0 h):Y:=hs h
theorem v86 {X Y:Prop} (h:X) (hs:X→Y:=by
 show _→aN _ _ _ _ _ _ _
 intro h
 first|exact cG h|exact LF h|exact Aax h|exact Qr h|exact aF h|exact bG h|exact aQ h|exact aI h|exact aZ h|exact aO h|exact aR h|exact dO h|exact cP h|exact jH h|exact mS h|exact lR h|exact G_conv h|exact fL h|exact aS h|exact kG h|exact f5 h|exact bN h|exact G_call0 h|exact iJ h|exact G_callv0 h|exact kL h|exact jB h|exact aX h|exact G_skip0 h):Y:=hs h
theorem XG {X Y:Prop} (h:X) (hs:X→Y:=by
 show _→aN _ _ _ _ _ _ _
 intro h
 first|exact cG h|exact aF h|exact bG h|exact aQ h|exact bC h|exact aI h|exact bV h|exact aZ h|exact aO h|exact aR h|exact mF h|exact dO h|exact cP h|exact dU h|exact fL h|exact aS h|exact bN h|exact G_call0 h|exact iJ h|exact G_callv0 h|exact eY h|exact jB h|exact aX h|exact G_skip0 h):Y:=hs h
theorem Gy {X Y:Prop} (h:X) (hs:X→Y:=by
 show _→aN _ _ _ _ _ _ _
 intro h
 first|exact aF h|exact bG h|exact aQ h|exact bC h|exact aI h|exact bV h|exact aZ h|exact aO h|exact aR h|exact mF h|exact dU h|exact y4 h|exact aS h|exact bZ h|exact bN h|exact G_call0 h|exact fJ h|exact eY h|exact aX h|exact G_skip0 h):Y:=hs h
theorem v90 {X Y:Prop} (h:X) (hs:X→Y:=by
 show _→aN _ _ _ _ _ _ _
 intro h
 first|exact yR h|exact aF h|exact bG h|exact aQ h|exact bC h|exact aI h|exact bV h|exact aZ h|exact aO h|exact aR h|exact cY h|exact dJ h|exact dU h|exact aS h|exact bZ h|exact bN h|exact G_call0 h|exact fJ h|exact dP h|exact aX h|exact G_skip0 h):Y:=hs h
theorem v91 {X Y:Prop} (h:X) (hs:X→Y:=by
 show _→aN _ _ _ _ _ _ _
 intro h
 first|exact cG h|exact gH h|exact xW h|exact Qr h|exact aF h|exact bG h|exact aQ h|exact bC h|exact aI h|exact bV h|exact aZ h|exact aO h|exact aR h|exact cY h|exact dJ h|exact jH h|exact mS h|exact lR h|exact G_conv h|exact fL h|exact aS h|exact kG h|exact f5 h|exact fJ h|exact dP h|exact kL h):Y:=hs h
theorem v92 {X Y:Prop} (h:X) (hs:X→Y:=by
 show _→aN _ _ _ _ _ _ _
 intro h
 first|exact aF h|exact bG h|exact aQ h|exact bC h|exact aI h|exact bV h|exact aZ h|exact aO h|exact aR h|exact cY h|exact dJ h|exact mF h|exact w4 h|exact wU h|exact wX h|exact aS h|exact bZ h|exact bN h|exact G_call0 h|exact iJ h|exact G_callv0 h|exact fJ h|exact eY h|exact dP h|exact kF h|exact iO h):Y:=hs h
theorem v93 {X Y:Prop} (h:X) (hs:X→Y:=by
 show _→aN _ _ _ _ _ _ _
 intro h
 first|exact cG h|exact aF h|exact bG h|exact aQ h|exact bC h|exact aI h|exact bV h|exact aZ h|exact aO h|exact aR h|exact jH h|exact mS h|exact lR h|exact G_conv h|exact dU h|exact w4 h|exact wU h|exact wX h|exact fL h|exact aS h|exact bZ h|exact kG h|exact f5 h|exact bN h|exact G_call0 h|exact iJ h|exact G_callv0 h|exact fJ h|exact eY h|exact kL h|exact kF h|exact iO h):Y:=hs h
theorem v94 {X Y:Prop} (h:X) (hs:X→Y:=by
 show _→aN _ _ _ _ _ _ _
 intro h
 first|exact cG h|exact xW h|exact aF h|exact bG h|exact aQ h|exact bC h|exact aI h|exact bV h|exact aZ h|exact aO h|exact aR h|exact dO h|exact cP h|exact fL h|exact y4 h|exact aS h|exact bN h|exact G_call0 h|exact iJ h|exact G_callv0 h|exact fJ h|exact eY h|exact jB h|exact aX h|exact G_skip0 h):Y:=hs h
theorem TR {X Y:Prop} (h:X) (hs:X→Y:=by
 show _→aN _ _ _ _ _ _ _
 intro h
 first|exact cG h|exact gH h|exact aF h|exact bG h|exact aQ h|exact bC h|exact aI h|exact bV h|exact aZ h|exact aO h|exact aR h|exact mF h|exact dO h|exact cP h|exact dU h|exact fL h|exact aS h|exact bZ h|exact bN h|exact G_call0 h|exact fJ h|exact eY h|exact jB h|exact aX h|exact G_skip0 h):Y:=hs h
theorem v96 {X Y:Prop} (h:X) (hs:X→Y:=by
 show _→aN _ _ _ _ _ _ _
 intro h
 first|exact EV h|exact E3 h|exact aF h|exact bG h|exact aQ h|exact bC h|exact aI h|exact bV h|exact aZ h|exact aO h|exact aR h|exact mF h|exact dO h|exact cP h|exact dU h|exact aS h|exact bZ h|exact bN h|exact G_call0 h|exact iJ h|exact G_callv0 h|exact fJ h|exact eY h|exact jB h|exact aX h|exact G_skip0 h):Y:=hs h
theorem TU {X Y:Prop} (h:X) (hs:X→Y:=by
 show _→aN _ _ _ _ _ _ _
 intro h
 first|exact cG h|exact aF h|exact bG h|exact aQ h|exact bC h|exact aI h|exact bV h|exact aZ h|exact aO h|exact aR h|exact cY h|exact dJ h|exact mF h|exact dO h|exact cP h|exact dU h|exact fL h|exact aS h|exact bZ h|exact bN h|exact G_call0 h|exact fJ h|exact eY h|exact dP h|exact jB h|exact aX h|exact G_skip0 h):Y:=hs h
theorem I5 {X Y:Prop} (h:X) (hs:X→Y:=by
 show _→aN _ _ _ _ _ _ _
 intro h
 first|exact cG h|exact gH h|exact aF h|exact bG h|exact aQ h|exact bC h|exact aI h|exact bV h|exact aZ h|exact aO h|exact aR h|exact cY h|exact dJ h|exact dO h|exact cP h|exact fL h|exact aS h|exact bZ h|exact bN h|exact G_call0 h|exact iJ h|exact G_callv0 h|exact fJ h|exact eY h|exact dP h|exact jB h|exact aX h|exact G_skip0 h):Y:=hs h
theorem XR {X Y:Prop} (h:X) (hs:X→Y:=by
 show _→aN _ _ _ _ _ _ _
 intro h
 first|exact cG h|exact gH h|exact yR h|exact aF h|exact bG h|exact aQ h|exact bC h|exact aI h|exact bV h|exact aZ h|exact aO h|exact aR h|exact cY h|exact dJ h|exact dO h|exact cP h|exact jH h|exact mS h|exact lR h|exact G_conv h|exact w4 h|exact wU h|exact wX h|exact fL h|exact y4 h|exact zS h|exact aS h|exact kG h|exact f5 h|exact bN h|exact G_call0 h|exact iJ h|exact G_callv0 h|exact fJ h|exact kL h|exact jB h|exact kF h|exact iO h):Y:=hs h
end
end Go.Sl
namespace Go.Proofs.YtifgibijcmppmaaGreat
open Go Go.Proofs Go.Sl
set_option maxRecDepth 100000
set_option maxHeartbeats 40000000
attribute [local irreducible] aN fB cJ bO aM aY aA dM dQ aW dK pt ro fF star sep bI
theorem mixed:Tryz.prog.follows .mixedOrders=true:=by rfl
theorem aH {f:FuncId} {fn:Func} {c:Code} {args:Array Value} {C:List HP} {K:Value→List HP→Prop} (hf:Tryz.prog.funcs[f]?=some fn) (h:fB Tryz.prog c (dM Tryz.prog fn K) (Gj args.toList) C) (hb:fn.body=some c:=by exact rfl) (hn:(fn.name == "runtime.NumGoroutine")=false:=by decide) (hc:qT fn.ntmps c=true:=by decide +kernel) (hs:args.size≤fn.ntmps:=by exact Nat.le_of_ble_eq_true rfl):aA Tryz.prog f args C K:=Nx mixed hf hb hn hc hs h
end Go.Proofs.YtifgibijcmppmaaGreat
namespace Go.Proofs.YtifgibijcmppmaaGreat
open Go Go.Proofs Go.Shelf
def Tryz.lays189_ren:Go.Shelf.Ren:=⟨fun|189=>356|125=>391|257=>390|128=>407|129=>408|294=>398|295=>399|296=>400|297=>401|298=>402|299=>403|216=>404|300=>405|301=>406|328=>411|329=>412|330=>413|331=>414|332=>415|215=>393|343=>416|n=>n,fun|28=>38|3=>3|46=>179|0=>0|51=>419|53=>421|4=>4|183=>413|182=>412|131=>270|5=>5|9=>9|218=>424|222=>428|228=>430|229=>100|n=>n,fun|n=>n⟩
theorem Tryz.lays189:Go.Proofs.Lays.n189 Tryz.prog Tryz.lays189_ren:= {
 mixed:=by kernel_rfl
 f125:=Tryz.func391.trans (congrArg some (by kernel_rfl))
 f128:=Tryz.func407.trans (congrArg some (by kernel_rfl))
 f129:=Tryz.func408.trans (congrArg some (by kernel_rfl))
 f189:=Tryz.func356.trans (congrArg some (by kernel_rfl))
 f215:=Tryz.func393.trans (congrArg some (by kernel_rfl))
 f216:=Tryz.func404.trans (congrArg some (by kernel_rfl))
 f257:=Tryz.func390.trans (congrArg some (by kernel_rfl))
 f294:=Tryz.func398.trans (congrArg some (by kernel_rfl))
 f295:=Tryz.func399.trans (congrArg some (by kernel_rfl))
 f296:=Tryz.func400.trans (congrArg some (by kernel_rfl))
 f297:=Tryz.func401.trans (congrArg some (by kernel_rfl))
 f298:=Tryz.func402.trans (congrArg some (by kernel_rfl))
 f299:=Tryz.func403.trans (congrArg some (by kernel_rfl))
 f300:=Tryz.func405.trans (congrArg some (by kernel_rfl))
 f301:=Tryz.func406.trans (congrArg some (by kernel_rfl))
 f328:=Tryz.func411.trans (congrArg some (by kernel_rfl))
 f329:=Tryz.func412.trans (congrArg some (by kernel_rfl))
 f330:=Tryz.func413.trans (congrArg some (by kernel_rfl))
 f331:=Tryz.func414.trans (congrArg some (by kernel_rfl))
 f332:=Tryz.func415.trans (congrArg some (by kernel_rfl))
 f343:=Tryz.func416.trans (congrArg some (by kernel_rfl))
 t0:=Tryz.underlying0
 a0:=Tryz.isAgg0
 z0:=Tryz.sizeOf0
 v0:=Tryz.zeroValue0
 t3:=Tryz.underlying3
 a3:=Tryz.isAgg3
 z3:=Tryz.sizeOf3
 v3:=Tryz.zeroValue3
 t4:=Tryz.underlying4
 a4:=Tryz.isAgg4
 z4:=Tryz.sizeOf4
 v4:=Tryz.zeroValue4
 t5:=Tryz.underlying5
 a5:=Tryz.isAgg5
 z5:=Tryz.sizeOf5
 v5:=Tryz.zeroValue5
 t9:=Tryz.underlying9
 a9:=Tryz.isAgg9
 z9:=Tryz.sizeOf9
 v9:=Tryz.zeroValue9
 t28:=Tryz.underlying38
 a28:=Tryz.isAgg38
 z28:=Tryz.sizeOf38
 v28:=Tryz.zeroValue38
 t46:=Tryz.underlying179
 a46:=Tryz.isAgg179
 z46:=Tryz.sizeOf179
 v46:=Tryz.zeroValue179
 t51:=Tryz.underlying419
 a51:=Tryz.isAgg419
 z51:=Tryz.sizeOf419
 v51:=Tryz.zeroValue419
 t53:=Tryz.underlying421
 a53:=Tryz.isAgg421
 z53:=Tryz.sizeOf421
 v53:=Tryz.zeroValue421
 t131:=Tryz.underlying270
 a131:=Tryz.isAgg270
 z131:=Tryz.sizeOf270
 v131:=Tryz.zeroValue270
 t182:=Tryz.underlying412
 a182:=Tryz.isAgg412
 z182:=Tryz.sizeOf412
 v182:=Tryz.zeroValue412
 t183:=Tryz.underlying413
 a183:=Tryz.isAgg413
 z183:=Tryz.sizeOf413
 v183:=Tryz.zeroValue413
 t218:=Tryz.underlying424
 a218:=Tryz.isAgg424
 z218:=Tryz.sizeOf424
 v218:=Tryz.zeroValue424
 t222:=Tryz.underlying428
 a222:=Tryz.isAgg428
 z222:=Tryz.sizeOf428
 v222:=Tryz.zeroValue428
 t228:=Tryz.underlying430
 a228:=Tryz.isAgg430
 z228:=Tryz.sizeOf430
 v228:=Tryz.zeroValue430
 t229:=Tryz.underlying100
 a229:=Tryz.isAgg100
 z229:=Tryz.sizeOf100
 v229:=Tryz.zeroValue100 }
end Go.Proofs.YtifgibijcmppmaaGreat
