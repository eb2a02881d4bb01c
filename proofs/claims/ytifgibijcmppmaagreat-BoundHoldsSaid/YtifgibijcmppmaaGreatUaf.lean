/- A part of the proof: lemmas; each with the conditions that it states. -/
import Derived.Test.YtifgibijcmppmaaGreatProg
import Derived.Shelf.Sort.Plain
import Derived.Shelf.Slices.In.SortNone
import Derived.Test.YtifgibijcmppmaaGreatUae
set_option linter.unusedVariables false
set_option linter.unusedSimpArgs false
set_option maxRecDepth 100000
set_option maxHeartbeats 40000000
namespace Go.Sl
section
structure BrH (p:Prop):Prop where
 h:p
theorem bh {p X:Prop} (f:p→X):BrH p→X:=fun h=>f h.h
structure EqS {α:Type} (a b:α):Prop where
 h:a=b
theorem aE {α:Type} {a b:α} {X:Prop} (f:a=b→X):EqS a b→X:=fun h=>f h.h
theorem iM {α:Type} {E:tJ α} {xs:List α} {P:Program} {ops:Array Oper} {Q:Fr→List HP→Prop} {es:ET} {hist:List (List HP)} {a:Fr} {C:List HP} {gd:Bool} {d':Nat} {c:Nat} {t:TypeId} {x y:Operand} {ty:TypeId} {pos:String} {after:Array Edge} {g:Option (Nat×Bool)} {A:Option Addr} {n cp sz:Nat} {k:IntKind} {j:Int} (h:∀B off,EqS A (some ⟨B,off,none⟩)→cX gd (.pointer (some ⟨B,off+j.toNat * sz,none⟩)) fun v=>aN P ops Q es hist (kJ a d' v) C)
  (hx:bJ a x=.slice A n cp:=by exact rfl) (hy:bJ a y=.int k j:=by exact rfl) (ht:sI P t=some sz:=by exact rfl) (hv:dT C A E xs:=by((repeat (first|exact fG|exact j0|exact vP|assumption|apply bM)) <;> exact fG))
  (hn:xs.length=n:=by first|exact rfl|assumption|omega) (h0:0≤j:=by first|omega|assumption) (h1:j<n:=by first|omega|assumption) (hw:bE ops ⟨some d',.indexAddr t x y,ty,pos,after,g⟩ a=true:=by exact rfl):
  aN P ops Q (ET.cons (c,gd,⟨some d',.indexAddr t x y,ty,pos,after,g⟩) es) hist a C:=
 xK (fun B off e=>h B off ⟨e⟩) hx hy ht hv hn h0 h1 hw
theorem Br.mkW {b:Bool} {X Y p q:Prop} (hX:BrH p→X) (hY:BrH q→Y)
 (hp:b=true→p:=by
  intro h
  first
  |(simp only[Bool.and_eq_true,Bool.or_eq_true,Bool.and_eq_false_iff,Bool.or_eq_false_iff,decide_eq_true_eq,decide_eq_false_iff_not,beq_iff_eq,bne_iff_ne,beq_eq_false_iff_ne,bne_eq_false_iff_eq,ne_eq,Bool.not_eq_true',Bool.not_eq_false',not_true_eq_false,not_false_eq_true,Int.not_lt,Int.not_le,gt_iff_lt,ge_iff_le] at h;exact h)
  |exact h)
 (hq:b=false→q:=by
  intro h
  first
  |(simp only[Bool.and_eq_true,Bool.or_eq_true,Bool.and_eq_false_iff,Bool.or_eq_false_iff,decide_eq_true_eq,decide_eq_false_iff_not,beq_iff_eq,bne_iff_ne,beq_eq_false_iff_ne,bne_eq_false_iff_eq,ne_eq,Bool.not_eq_true',Bool.not_eq_false',not_true_eq_false,not_false_eq_true,Int.not_lt,Int.not_le,gt_iff_lt,ge_iff_le] at h;exact h)
  |exact h):Br b X Y:=Br.mk (fun h=>hX ⟨hp h⟩) (fun h=>hY ⟨hq h⟩)
theorem w5 {X Y Z:Prop} (h1:X) (h2:Y) (hs:X→Y→Z:=by
 first
 |(show _→_→aN _ _ _ _ _ _ _;exact fun h k=>Amg h k)
 |(show _→_→Br _ _ _;first|exact fun h k=>Br.mkW h k|exact fun h k=>Br.mkV h k)):Z:=hs h1 h2
theorem w6 {p Y:Prop} (h:p) (hs:p→False:=by
 intro h
 first
 |contradiction
 |omega
 |(simp at h <;> contradiction)):Y:=(hs h).elim
def Aig (_:List (Nat×Nat)) (X Y:Prop):Prop:=X→Y
def Aio (_ _:List Nat) (_:List (Nat×Nat)) (X Y:Prop):Prop:=X→Y
def Aih (_:Tr) (X Y:Prop):Prop:=X→Y
section
variable {P:Program} {Q:Exit→Fr→List HP→Prop} {a:Fr} {C:List HP} {id:Nat} {ol:List Oper} {es:ET}
theorem ZG {l:List (Nat×Nat)} (hl:CB (Kh P ol.toArray (Region.before ol.toArray))=some l) (hc:vF P ol.toArray (Region.before ol.toArray) l=true) (he:Js ol.toArray l=some es):Aig l (aN P ol.toArray (Q .normal) es [] a C) (fN P (.region id ol.toArray true) Q a C):=fun h=>Mi hl hc he h
theorem Y5 {l:List (Nat×Nat)} {bl br:List Nat} (hb:Xy ol [] 0=some br) (hr:br.reverse=bl) (hl:CB (Kh P ol.toArray bl.toArray)=some l) (hc:vF P ol.toArray bl.toArray l=true) (he:Js ol.toArray l=some es):Aio bl br l (aN P ol.toArray (Q .normal) es [] a C) (fN P (.region id ol.toArray true) Q a C):=fun h=>Ag8 hb hr hl hc he h
theorem Aas {t:Tr} (hl:trF (RF P ol.toArray (Region.before ol.toArray) (DT P ol.toArray).length [] (DT P ol.toArray))=some t) (hc:Iu P ol.toArray (Region.before ol.toArray) t=true) (he:DG ol.toArray t=some es):Aih t (aN P ol.toArray (Q .normal) es [] a C) (fN P (.region id ol.toArray true) Q a C):=fun h=>Nr hl hc he h
end
theorem dw (l:List (Nat×Nat)) {X Y:Prop} (h:X) (hs:Aig l X Y:=by exact ZG (by decide +kernel) (by decide +kernel) (by exact rfl)):Y:=hs h
theorem Gp (bl br:List Nat) (l:List (Nat×Nat)) {X Y:Prop} (h:X) (hs:Aio bl br l X Y:=by exact Y5 (by decide +kernel) (by decide +kernel) (by decide +kernel) (by decide +kernel) (by exact rfl)):Y:=hs h
theorem JD (t:Tr) {X Y:Prop} (h:X) (hs:Aih t X Y:=by exact Aas (by kernel_rfl) (by decide +kernel) (by exact rfl)):Y:=hs h
theorem w1 {X Y:Prop} (h:X) (hs:X→Y:=by
 first
 |(show _→aN _ _ _ _ _ _ _;first
  |(show _→aN _ _ _ (ET.cons (_,_,⟨_,.move _,_,_,_,_⟩) _) _ _ _;first|exact fun h=>aF h|exact fun h=>aI h|exact fun h=>aW h|exact fun h=>G_skip0 h)
  |(show _→aN _ _ _ (ET.cons (_,_,⟨_,.assign _,_,_,_,_⟩) _) _ _ _;first|exact fun h=>aF h|exact fun h=>aI h|exact fun h=>aW h|exact fun h=>G_skip0 h)
  |(show _→aN _ _ _ (ET.cons (_,_,⟨_,.load _ _,_,_,_,_⟩) _) _ _ _;first|exact fun h=>aF h|exact fun h=>bF h|exact fun h=>aI h|exact fun h=>aY h|exact fun h=>aO h|exact fun h=>G_loadV2 h|exact fun h=>aW h|exact fun h=>G_skip0 h)
  |(show _→aN _ _ _ (ET.cons (_,_,⟨_,.fieldAddr _ _ _,_,_,_,_⟩) _) _ _ _;first|exact fun h=>aF h|exact fun h=>bC h|exact fun h=>aI h|exact fun h=>aW h|exact fun h=>G_skip0 h)
  |(show _→aN _ _ _ (ET.cons (_,_,⟨_,.call _,_,_,_,_⟩) _) _ _ _;first|exact fun h=>aF h|exact fun h=>aI h|exact fun h=>cU h|exact fun h=>dH h|exact fun h=>yT h|exact fun h=>zY h|exact fun h=>bL h|exact fun h=>G_call0 h|exact fun h=>hM h|exact fun h=>G_callv0 h|exact fun h=>aW h|exact fun h=>G_skip0 h)
  |(show _→aN _ _ _ (ET.cons (_,_,⟨_,.nilCheck _,_,_,_,_⟩) _) _ _ _;first|exact fun h=>aF h|exact fun h=>aI h|exact fun h=>aW h|exact fun h=>G_skip0 h)
  |exact fun h=>aQ h
  |(show _→aN _ _ _ (ET.cons (_,_,⟨_,.extract _ _,_,_,_,_⟩) _) _ _ _;first|exact fun h=>aF h|exact fun h=>aI h|exact fun h=>aW h|exact fun h=>G_skip0 h)
  |(show _→aN _ _ _ (ET.cons (_,_,⟨_,.binOp _ _ _ _ _,_,_,_,_⟩) _) _ _ _;first|(show _→aN _ _ _ (ET.cons (_,_,⟨_,.binOp .eql _ _ _ _,_,_,_,_⟩) _) _ _ _;first|exact fun h=>aF h|exact fun h=>aI h|exact fun h=>aR h|exact fun h=>aW h|exact fun h=>G_skip0 h)|(show _→aN _ _ _ (ET.cons (_,_,⟨_,.binOp .add _ _ _ _,_,_,_,_⟩) _) _ _ _;first|exact fun h=>cB h|exact fun h=>aF h|exact fun h=>aI h|exact fun h=>fC h|exact fun h=>aW h|exact fun h=>G_skip0 h)|(show _→aN _ _ _ (ET.cons (_,_,⟨_,.binOp .neq _ _ _ _,_,_,_,_⟩) _) _ _ _;first|exact fun h=>aF h|exact fun h=>aI h|exact fun h=>bZ h|exact fun h=>aW h|exact fun h=>G_skip0 h)|(show _→aN _ _ _ (ET.cons (_,_,⟨_,.binOp .sub _ _ _ _,_,_,_,_⟩) _) _ _ _;first|exact fun h=>f4 h|exact fun h=>aF h|exact fun h=>aI h|exact fun h=>aW h|exact fun h=>G_skip0 h)|(show _→aN _ _ _ (ET.cons (_,_,⟨_,.binOp .rem _ _ _ _,_,_,_,_⟩) _) _ _ _;first|exact fun h=>Ab h|exact fun h=>aF h|exact fun h=>aI h|exact fun h=>aW h|exact fun h=>G_skip0 h)|(show _→aN _ _ _ (ET.cons (_,_,⟨_,.binOp .mul _ _ _ _,_,_,_,_⟩) _) _ _ _;first|exact fun h=>vI h|exact fun h=>aF h|exact fun h=>aI h|exact fun h=>aW h|exact fun h=>G_skip0 h)|(show _→aN _ _ _ (ET.cons (_,_,⟨_,.binOp .quo _ _ _ _,_,_,_,_⟩) _) _ _ _;first|exact fun h=>QV h|exact fun h=>aF h|exact fun h=>aI h|exact fun h=>aW h|exact fun h=>G_skip0 h)|(show _→aN _ _ _ (ET.cons (_,_,⟨_,.binOp .shr _ _ _ _,_,_,_,_⟩) _) _ _ _;first|exact fun h=>Pi h|exact fun h=>aF h|exact fun h=>aI h|exact fun h=>aW h|exact fun h=>G_skip0 h)|(show _→aN _ _ _ (ET.cons (_,_,⟨_,.binOp .shl _ _ _ _,_,_,_,_⟩) _) _ _ _;first|exact fun h=>Nu h|exact fun h=>aF h|exact fun h=>aI h|exact fun h=>aW h|exact fun h=>G_skip0 h)|(show _→aN _ _ _ (ET.cons (_,_,⟨_,.binOp .or _ _ _ _,_,_,_,_⟩) _) _ _ _;first|exact fun h=>Aaw h|exact fun h=>aF h|exact fun h=>aI h|exact fun h=>aW h|exact fun h=>G_skip0 h)|(show _→aN _ _ _ (ET.cons (_,_,⟨_,.binOp .andNot _ _ _ _,_,_,_,_⟩) _) _ _ _;first|exact fun h=>Fe h|exact fun h=>Fq h|exact fun h=>aF h|exact fun h=>aI h|exact fun h=>aW h|exact fun h=>G_skip0 h)|exact fun h=>aF h|exact fun h=>aI h|exact fun h=>aW h)
  |(show _→aN _ _ _ (ET.cons (_,_,⟨_,.store _ _ _,_,_,_,_⟩) _) _ _ _;first|exact fun h=>aF h|exact fun h=>aI h|exact fun h=>bS h|exact fun h=>aW h|exact fun h=>G_skip0 h)
  |(show _→aN _ _ _ (ET.cons (_,_,⟨_,.pick _ _ _,_,_,_,_⟩) _) _ _ _;first|exact fun h=>aF h|exact fun h=>aI h|exact fun h=>aW h|exact fun h=>G_skip0 h)
  |(show _→aN _ _ _ (ET.cons (_,_,⟨_,.indexAddr _ _ _,_,_,_,_⟩) _) _ _ _;first|exact fun h=>aF h|exact fun h=>aI h|exact fun h=>dK h|exact fun h=>cK h|exact fun h=>iM h|exact fun h=>aW h|exact fun h=>G_skip0 h)
  |(show _→aN _ _ _ (ET.cons (_,_,⟨_,.build _ _,_,_,_,_⟩) _) _ _ _;first|exact fun h=>aF h|exact fun h=>aI h|exact fun h=>dJ h|exact fun h=>aW h|exact fun h=>G_skip0 h)
  |(show _→aN _ _ _ (ET.cons (_,_,⟨_,.box _ _,_,_,_,_⟩) _) _ _ _;first|exact fun h=>aF h|exact fun h=>aI h|exact fun h=>eS h|exact fun h=>aW h|exact fun h=>G_skip0 h)
  |(show _→aN _ _ _ (ET.cons (_,_,⟨_,.alloc _,_,_,_,_⟩) _) _ _ _;first|exact fun h=>aF h|exact fun h=>aI h|exact fun h=>eB h|exact fun h=>aW h|exact fun h=>G_skip0 h)
  |(show _→aN _ _ _ (ET.cons (_,_,⟨_,.unOp _ _ _,_,_,_,_⟩) _) _ _ _;first|(show _→aN _ _ _ (ET.cons (_,_,⟨_,.unOp .not _ _,_,_,_,_⟩) _) _ _ _;first|exact fun h=>aF h|exact fun h=>aI h|exact fun h=>lP h|exact fun h=>aW h|exact fun h=>G_skip0 h)|(show _→aN _ _ _ (ET.cons (_,_,⟨_,.unOp .neg _ _,_,_,_,_⟩) _) _ _ _;first|exact fun h=>aF h|exact fun h=>aI h|exact fun h=>G_neg64 h|exact fun h=>aW h|exact fun h=>G_skip0 h)|exact fun h=>aF h|exact fun h=>aI h|exact fun h=>aW h)
  |(show _→aN _ _ _ (ET.cons (_,_,⟨_,.slice _ _ _ _ _,_,_,_,_⟩) _) _ _ _;first|exact fun h=>aF h|exact fun h=>aI h|exact fun h=>w9 h|exact fun h=>xG h|exact fun h=>wN h|exact fun h=>jW h|exact fun h=>iE h|exact fun h=>aW h|exact fun h=>G_skip0 h)
  |(show _→aN _ _ _ (ET.cons (_,_,⟨_,.convert _ _ _,_,_,_,_⟩) _) _ _ _;first|exact fun h=>aF h|exact fun h=>aI h|exact fun h=>kA h|exact fun h=>nM h|exact fun h=>mA h|exact fun h=>G_conv h|exact fun h=>G_bytesP h|exact fun h=>iB h|exact fun h=>kT h|exact fun h=>aW h|exact fun h=>G_skip0 h)
  |(show _→aN _ _ _ (ET.cons (_,_,⟨_,.buildSlice _ _ _,_,_,_,_⟩) _) _ _ _;first|exact fun h=>aF h|exact fun h=>aI h|exact fun h=>dP h|exact fun h=>aW h|exact fun h=>G_skip0 h)
  |(show _→aN _ _ _ (ET.cons (_,_,⟨_,.index _ _ _,_,_,_,_⟩) _) _ _ _;first|exact fun h=>aF h|exact fun h=>aI h|exact fun h=>G_indexS h|exact fun h=>aW h|exact fun h=>G_skip0 h)
  |exact fun h=>aF h|exact fun h=>aI h|exact fun h=>aW h|exact fun h=>G_skip0 h)
 |(show _→cX _ _ _;first|exact fun h=>E2 rfl h|exact fun h=>Mo rfl h)
 |(show _→fN _ _ _ _ _;first|exact fun h=>Abb h|exact fun h=>Hy (by exact rfl) h|exact fun h=>RS (by exact rfl) h|exact fun h=>Adt h|exact fun h=>Ru h|exact fun h=>Gr h|exact fun h=>Tc h|exact fun h=>Ma h|exact fun h=>ML h|exact fun h=>Mi (by exact rfl) (by decide +kernel) (by exact rfl) h|exact fun h=>Nr (by exact rfl) (by decide +kernel) (by exact rfl) h)
 |(show _→Br _ _ _;first|exact fun h=>Br.t rfl h|exact fun h=>Br.f rfl h|exact fun h=>Br.t (beq_self_eq_true _) h|exact fun h=>Br.f (yH _) h|exact fun h=>Br.t (by assumption) h|exact fun h=>Br.f (by assumption) h|exact fun h=>Br.t (Akt (by assumption)) h|exact fun h=>Br.f (Akx (by assumption)) h)
 |(show _→bP _ _ _ _ _;first|exact fun h=>t_n h|exact fun h=>t_r h|exact fun h=>t_e h)
 |(show _→aM _ _ _ _ _;first|exact fun h=>b_n h|exact fun h=>b_r h|exact fun h=>Acn rfl h|exact fun h=>Rf rfl h)
 |(show _→aX _ _ _ _;first|exact fun h=>g_n h|exact fun h=>g_r h|exact fun h=>g_e h)):Y:=hs h
theorem wq {X Y:Prop} (h:X) (hs:X→Y:=by
 first
 |(show _→cX _ _ _;first|exact fun h=>E2 rfl h|exact fun h=>Mo rfl h)
 |(show _→fN _ _ _ _ _;first|exact fun h=>Abb h|exact fun h=>Hy (by exact rfl) h|exact fun h=>RS (by exact rfl) h|exact fun h=>Adt h|exact fun h=>Ru h|exact fun h=>Gr h|exact fun h=>Tc h|exact fun h=>Ma h|exact fun h=>ML h)
 |(show _→Br _ _ _;first|exact fun h=>Br.t rfl h|exact fun h=>Br.f rfl h|exact fun h=>Br.t (beq_self_eq_true _) h|exact fun h=>Br.f (yH _) h|exact fun h=>Br.t (by assumption) h|exact fun h=>Br.f (by assumption) h|exact fun h=>Br.t (Akt (by assumption)) h|exact fun h=>Br.f (Akx (by assumption)) h)
 |(show _→bP _ _ _ _ _;first|exact fun h=>t_n h|exact fun h=>t_r h|exact fun h=>t_e h)
 |(show _→aM _ _ _ _ _;first|exact fun h=>b_n h|exact fun h=>b_r h|exact fun h=>Acn rfl h|exact fun h=>Rf rfl h)
 |(show _→aX _ _ _ _;first|exact fun h=>g_n h|exact fun h=>g_r h|exact fun h=>g_e h)):Y:=hs h
theorem v0 {X Y:Prop} (h:X) (hs:X→Y:=by
 first
 |(show _→aN _ _ _ _ _ _ _;intro h;first|exact aF h|exact aQ h|exact aI h|exact bL h|exact G_call0 h)
 |exact fun h=>wq h):Y:=hs h
theorem v1 {X Y:Prop} (h:X) (hs:X→Y:=by
 first
 |(show _→aN _ _ _ _ _ _ _;intro h;first|exact aF h|exact aQ h|exact aI h|exact aW h|exact G_skip0 h)
 |exact fun h=>wq h):Y:=hs h
theorem v2 {X Y:Prop} (h:X) (hs:X→Y:=by
 first
 |(show _→aN _ _ _ _ _ _ _;intro h;first|exact aF h|exact aQ h|exact aI h|exact bZ h|exact bL h|exact G_call0 h)
 |exact fun h=>wq h):Y:=hs h
theorem v3 {X Y:Prop} (h:X) (hs:X→Y:=by
 first
 |(show _→aN _ _ _ _ _ _ _;intro h;first|exact aF h|exact aQ h|exact aI h|exact aR h|exact bL h|exact G_call0 h)
 |exact fun h=>wq h):Y:=hs h
theorem v4 {X Y:Prop} (h:X) (hs:X→Y:=by
 first
 |(show _→aN _ _ _ _ _ _ _;intro h;first|exact aF h|exact bF h|exact aQ h|exact bC h|exact aI h|exact aY h|exact aO h|exact G_loadV2 h|exact aR h)
 |exact fun h=>wq h):Y:=hs h
theorem v5 {X Y:Prop} (h:X) (hs:X→Y:=by
 first
 |(show _→aN _ _ _ _ _ _ _;intro h;first|exact aF h|exact aQ h|exact aI h|exact bS h|exact dJ h|exact eB h)
 |exact fun h=>wq h):Y:=hs h
theorem v6 {X Y:Prop} (h:X) (hs:X→Y:=by
 first
 |(show _→aN _ _ _ _ _ _ _;intro h;first|exact aF h|exact aQ h|exact aI h|exact dJ h|exact eS h|exact aW h|exact G_skip0 h)
 |exact fun h=>wq h):Y:=hs h
theorem v8 {X Y:Prop} (h:X) (hs:X→Y:=by
 first
 |(show _→aN _ _ _ _ _ _ _;intro h;first|exact f4 h|exact aF h|exact aQ h|exact aI h|exact w9 h|exact xG h|exact wN h|exact bL h|exact G_call0 h|exact jW h|exact iE h)
 |exact fun h=>wq h):Y:=hs h
theorem v9 {X Y:Prop} (h:X) (hs:X→Y:=by
 first
 |(show _→aN _ _ _ _ _ _ _;intro h;first|exact aF h|exact aQ h|exact aI h|exact cU h|exact dH h|exact w9 h|exact xG h|exact wN h|exact aR h|exact jW h|exact iE h)
 |exact fun h=>wq h):Y:=hs h
theorem Yw {X Y:Prop} (h:X) (hs:X→Y:=by
 first
 |(show _→aN _ _ _ _ _ _ _;intro h;first|exact aF h|exact bF h|exact aQ h|exact bC h|exact aI h|exact aY h|exact aO h|exact G_loadV2 h|exact aR h|exact bL h|exact G_call0 h)
 |exact fun h=>wq h):Y:=hs h
theorem Jo {X Y:Prop} (h:X) (hs:X→Y:=by
 first
 |(show _→aN _ _ _ _ _ _ _;intro h;first|exact aF h|exact bF h|exact aQ h|exact bC h|exact aI h|exact aY h|exact aO h|exact G_loadV2 h|exact bZ h|exact bL h|exact G_call0 h)
 |exact fun h=>wq h):Y:=hs h
theorem v12 {X Y:Prop} (h:X) (hs:X→Y:=by
 first
 |(show _→aN _ _ _ _ _ _ _;intro h;first|exact cB h|exact vI h|exact aF h|exact aQ h|exact aI h|exact fC h|exact aR h|exact bL h|exact G_call0 h)
 |exact fun h=>wq h):Y:=hs h
theorem v13 {X Y:Prop} (h:X) (hs:X→Y:=by
 first
 |(show _→aN _ _ _ _ _ _ _;intro h;first|exact aF h|exact aQ h|exact bC h|exact aI h|exact bS h|exact aR h|exact bL h|exact G_call0 h)
 |exact fun h=>wq h):Y:=hs h
theorem v14 {X Y:Prop} (h:X) (hs:X→Y:=by
 first
 |(show _→aN _ _ _ _ _ _ _;intro h;first|exact aF h|exact bF h|exact aQ h|exact bC h|exact aI h|exact bS h|exact aY h|exact aO h|exact G_loadV2 h|exact zY h)
 |exact fun h=>wq h):Y:=hs h
theorem v15 {X Y:Prop} (h:X) (hs:X→Y:=by
 first
 |(show _→aN _ _ _ _ _ _ _;intro h;first|exact f4 h|exact aF h|exact aQ h|exact aI h|exact aR h|exact bL h|exact G_call0 h|exact aW h|exact G_skip0 h)
 |exact fun h=>wq h):Y:=hs h
theorem v16 {X Y:Prop} (h:X) (hs:X→Y:=by
 first
 |(show _→aN _ _ _ _ _ _ _;intro h;first|exact aF h|exact bF h|exact aQ h|exact bC h|exact aI h|exact aY h|exact aO h|exact G_loadV2 h|exact bZ h|exact aW h|exact G_skip0 h)
 |exact fun h=>wq h):Y:=hs h
theorem v17 {X Y:Prop} (h:X) (hs:X→Y:=by
 first
 |(show _→aN _ _ _ _ _ _ _;intro h;first|exact aF h|exact bF h|exact aQ h|exact aI h|exact aY h|exact aO h|exact G_loadV2 h|exact yT h|exact zY h|exact bL h|exact G_call0 h)
 |exact fun h=>wq h):Y:=hs h
theorem v19 {X Y:Prop} (h:X) (hs:X→Y:=by
 first
 |(show _→aN _ _ _ _ _ _ _;intro h;first|exact aF h|exact bF h|exact aQ h|exact bC h|exact aI h|exact aY h|exact aO h|exact G_loadV2 h|exact bL h|exact G_call0 h|exact eS h|exact aW h|exact G_skip0 h)
 |exact fun h=>wq h):Y:=hs h
theorem v20 {X Y:Prop} (h:X) (hs:X→Y:=by
 first
 |(show _→aN _ _ _ _ _ _ _;intro h;first|exact aF h|exact bF h|exact aQ h|exact bC h|exact aI h|exact aY h|exact aO h|exact G_loadV2 h|exact cU h|exact dH h|exact kA h|exact nM h|exact mA h|exact G_conv h|exact aR h|exact G_bytesP h|exact iB h|exact kT h)
 |exact fun h=>wq h):Y:=hs h
theorem v21 {X Y:Prop} (h:X) (hs:X→Y:=by
 first
 |(show _→aN _ _ _ _ _ _ _;intro h;first|exact aF h|exact aQ h|exact aI h|exact lP h|exact dJ h|exact bZ h|exact bL h|exact G_call0 h|exact eS h)
 |exact fun h=>wq h):Y:=hs h
theorem v22 {X Y:Prop} (h:X) (hs:X→Y:=by
 first
 |(show _→aN _ _ _ _ _ _ _;intro h;first|exact f4 h|exact aF h|exact bF h|exact aQ h|exact bC h|exact aI h|exact aY h|exact aO h|exact G_loadV2 h|exact aR h|exact eS h)
 |exact fun h=>wq h):Y:=hs h
theorem v23 {X Y:Prop} (h:X) (hs:X→Y:=by
 first
 |(show _→aN _ _ _ _ _ _ _;intro h;first|exact aF h|exact bF h|exact aQ h|exact bC h|exact aI h|exact aY h|exact aO h|exact G_loadV2 h|exact aR h|exact eS h|exact aW h|exact G_skip0 h)
 |exact fun h=>wq h):Y:=hs h
theorem v24 {X Y:Prop} (h:X) (hs:X→Y:=by
 first
 |(show _→aN _ _ _ _ _ _ _;intro h;first|exact cB h|exact f4 h|exact QV h|exact aF h|exact aQ h|exact aI h|exact fC h|exact bL h|exact G_call0 h|exact aW h|exact G_skip0 h)
 |exact fun h=>wq h):Y:=hs h
theorem v25 {X Y:Prop} (h:X) (hs:X→Y:=by
 first
 |(show _→aN _ _ _ _ _ _ _;intro h;first|exact aF h|exact bF h|exact aQ h|exact bC h|exact aI h|exact aY h|exact aO h|exact G_loadV2 h|exact G_indexS h|exact dJ h|exact bL h|exact G_call0 h)
 |exact fun h=>wq h):Y:=hs h
theorem v26 {X Y:Prop} (h:X) (hs:X→Y:=by
 first
 |(show _→aN _ _ _ _ _ _ _;intro h;first|exact aF h|exact bF h|exact aQ h|exact aI h|exact aY h|exact aO h|exact G_loadV2 h|exact aR h|exact hM h|exact G_callv0 h|exact eS h|exact aW h|exact G_skip0 h)
 |exact fun h=>wq h):Y:=hs h
theorem v27 {X Y:Prop} (h:X) (hs:X→Y:=by
 first
 |(show _→aN _ _ _ _ _ _ _;intro h;first|exact Ab h|exact aF h|exact bF h|exact aQ h|exact bC h|exact aI h|exact aY h|exact aO h|exact G_loadV2 h|exact aR h|exact aW h|exact G_skip0 h)
 |exact fun h=>wq h):Y:=hs h
theorem v28 {X Y:Prop} (h:X) (hs:X→Y:=by
 first
 |(show _→aN _ _ _ _ _ _ _;intro h;first|exact cB h|exact f4 h|exact aF h|exact bF h|exact aQ h|exact aI h|exact bS h|exact aY h|exact aO h|exact G_loadV2 h|exact dK h|exact cK h|exact fC h|exact iM h)
 |exact fun h=>wq h):Y:=hs h
theorem v29 {X Y:Prop} (h:X) (hs:X→Y:=by
 first
 |(show _→aN _ _ _ _ _ _ _;intro h;first|exact cB h|exact aF h|exact bF h|exact aQ h|exact bC h|exact aI h|exact aY h|exact aO h|exact G_loadV2 h|exact dK h|exact cK h|exact fC h|exact aR h|exact bZ h|exact iM h)
 |exact fun h=>wq h):Y:=hs h
theorem v30 {X Y:Prop} (h:X) (hs:X→Y:=by
 first
 |(show _→aN _ _ _ _ _ _ _;intro h;first|exact aF h|exact bF h|exact aQ h|exact bC h|exact aI h|exact bS h|exact aY h|exact aO h|exact G_loadV2 h|exact dJ h|exact aR h|exact eB h)
 |exact fun h=>wq h):Y:=hs h
theorem v31 {X Y:Prop} (h:X) (hs:X→Y:=by
 first
 |(show _→aN _ _ _ _ _ _ _;intro h;first|exact aF h|exact bF h|exact aQ h|exact bC h|exact aI h|exact bS h|exact aY h|exact aO h|exact G_loadV2 h|exact bL h|exact G_call0 h|exact eS h|exact eB h)
 |exact fun h=>wq h):Y:=hs h
theorem Gt {X Y:Prop} (h:X) (hs:X→Y:=by
 first
 |(show _→aN _ _ _ _ _ _ _;intro h;first|exact cB h|exact aF h|exact bF h|exact aQ h|exact bC h|exact aI h|exact bS h|exact aY h|exact aO h|exact G_loadV2 h|exact fC h|exact aR h|exact bL h|exact G_call0 h)
 |exact fun h=>wq h):Y:=hs h
theorem v33 {X Y:Prop} (h:X) (hs:X→Y:=by
 first
 |(show _→aN _ _ _ _ _ _ _;intro h;first|exact cB h|exact f4 h|exact aF h|exact bF h|exact aQ h|exact bC h|exact aI h|exact bS h|exact aY h|exact aO h|exact G_loadV2 h|exact fC h|exact aR h)
 |exact fun h=>wq h):Y:=hs h
theorem Jm {X Y:Prop} (h:X) (hs:X→Y:=by
 first
 |(show _→aN _ _ _ _ _ _ _;intro h;first|exact aF h|exact bF h|exact aQ h|exact bC h|exact aI h|exact aY h|exact aO h|exact G_loadV2 h|exact lP h|exact aR h|exact bL h|exact G_call0 h|exact aW h|exact G_skip0 h)
 |exact fun h=>wq h):Y:=hs h
theorem v35 {X Y:Prop} (h:X) (hs:X→Y:=by
 first
 |(show _→aN _ _ _ _ _ _ _;intro h;first|exact aF h|exact bF h|exact aQ h|exact bC h|exact aI h|exact aY h|exact aO h|exact G_loadV2 h|exact yT h|exact aR h|exact bZ h|exact bL h|exact G_call0 h)
 |exact fun h=>wq h):Y:=hs h
theorem v36 {X Y:Prop} (h:X) (hs:X→Y:=by
 first
 |(show _→aN _ _ _ _ _ _ _;intro h;first|exact aF h|exact bF h|exact aQ h|exact aI h|exact bS h|exact aY h|exact aO h|exact G_loadV2 h|exact cU h|exact dH h|exact dJ h|exact bZ h|exact dP h)
 |exact fun h=>wq h):Y:=hs h
theorem v37 {X Y:Prop} (h:X) (hs:X→Y:=by
 first
 |(show _→aN _ _ _ _ _ _ _;intro h;first|exact cB h|exact aF h|exact bF h|exact aQ h|exact bC h|exact aI h|exact bS h|exact aY h|exact aO h|exact G_loadV2 h|exact lP h|exact fC h|exact hM h|exact G_callv0 h)
 |exact fun h=>wq h):Y:=hs h
theorem v39 {X Y:Prop} (h:X) (hs:X→Y:=by
 first
 |(show _→aN _ _ _ _ _ _ _;intro h;first|exact aF h|exact bF h|exact aQ h|exact bC h|exact aI h|exact aY h|exact aO h|exact G_loadV2 h|exact yT h|exact zY h|exact aR h|exact eS h)
 |exact fun h=>wq h):Y:=hs h
theorem v40 {X Y:Prop} (h:X) (hs:X→Y:=by
 first
 |(show _→aN _ _ _ _ _ _ _;intro h;first|exact aF h|exact bF h|exact aQ h|exact bC h|exact aI h|exact bS h|exact aY h|exact aO h|exact G_loadV2 h|exact cU h|exact dH h|exact dK h|exact cK h|exact w9 h|exact xG h|exact wN h|exact iM h|exact jW h|exact iE h)
 |exact fun h=>wq h):Y:=hs h
theorem v41 {X Y:Prop} (h:X) (hs:X→Y:=by
 first
 |(show _→aN _ _ _ _ _ _ _;intro h;first|exact aF h|exact bF h|exact aQ h|exact bC h|exact aI h|exact aY h|exact aO h|exact G_loadV2 h|exact lP h|exact dK h|exact cK h|exact aR h|exact bL h|exact G_call0 h|exact iM h|exact aW h|exact G_skip0 h)
 |exact fun h=>wq h):Y:=hs h
theorem v42 {X Y:Prop} (h:X) (hs:X→Y:=by
 first
 |(show _→aN _ _ _ _ _ _ _;intro h;first|exact cB h|exact aF h|exact aQ h|exact aI h|exact dJ h|exact fC h|exact aR h|exact bZ h|exact bL h|exact G_call0 h|exact eS h|exact aW h|exact G_skip0 h)
 |exact fun h=>wq h):Y:=hs h
theorem v43 {X Y:Prop} (h:X) (hs:X→Y:=by
 first
 |(show _→aN _ _ _ _ _ _ _;intro h;first|exact cB h|exact vI h|exact QV h|exact aF h|exact bF h|exact aQ h|exact bC h|exact aI h|exact aY h|exact aO h|exact G_loadV2 h|exact fC h|exact zY h|exact eS h)
 |exact fun h=>wq h):Y:=hs h
theorem v44 {X Y:Prop} (h:X) (hs:X→Y:=by
 first
 |(show _→aN _ _ _ _ _ _ _;intro h;first|exact aF h|exact bF h|exact aQ h|exact bC h|exact aI h|exact aY h|exact aO h|exact G_loadV2 h|exact lP h|exact aR h|exact bL h|exact G_call0 h|exact eS h|exact aW h|exact G_skip0 h)
 |exact fun h=>wq h):Y:=hs h
theorem Y8 {X Y:Prop} (h:X) (hs:X→Y:=by
 first
 |(show _→aN _ _ _ _ _ _ _;intro h;first|exact cB h|exact aF h|exact bF h|exact aQ h|exact bC h|exact aI h|exact aY h|exact aO h|exact G_loadV2 h|exact cU h|exact dH h|exact dK h|exact cK h|exact fC h|exact bL h|exact G_call0 h|exact dP h|exact iM h)
 |exact fun h=>wq h):Y:=hs h
theorem v46 {X Y:Prop} (h:X) (hs:X→Y:=by
 first
 |(show _→aN _ _ _ _ _ _ _;intro h;first|exact aF h|exact bF h|exact aQ h|exact bC h|exact aI h|exact aY h|exact aO h|exact G_loadV2 h|exact dJ h|exact aR h|exact bZ h|exact bL h|exact G_call0 h|exact eS h)
 |exact fun h=>wq h):Y:=hs h
theorem v47 {X Y:Prop} (h:X) (hs:X→Y:=by
 first
 |(show _→aN _ _ _ _ _ _ _;intro h;first|exact aF h|exact bF h|exact aQ h|exact bC h|exact aI h|exact aY h|exact aO h|exact G_loadV2 h|exact aR h|exact bL h|exact G_call0 h|exact hM h|exact G_callv0 h|exact eS h|exact eB h)
 |exact fun h=>wq h):Y:=hs h
theorem v48 {X Y:Prop} (h:X) (hs:X→Y:=by
 first
 |(show _→aN _ _ _ _ _ _ _;intro h;first|exact aF h|exact bF h|exact aQ h|exact bC h|exact aI h|exact bS h|exact aY h|exact aO h|exact G_loadV2 h|exact lP h|exact bZ h|exact bL h|exact G_call0 h|exact aW h|exact G_skip0 h)
 |exact fun h=>wq h):Y:=hs h
theorem v49 {X Y:Prop} (h:X) (hs:X→Y:=by
 first
 |(show _→aN _ _ _ _ _ _ _;intro h;first|exact cB h|exact aF h|exact bF h|exact aQ h|exact bC h|exact aI h|exact bS h|exact aY h|exact aO h|exact G_loadV2 h|exact fC h|exact aR h|exact bZ h|exact bL h|exact G_call0 h)
 |exact fun h=>wq h):Y:=hs h
theorem Lt {X Y:Prop} (h:X) (hs:X→Y:=by
 first
 |(show _→aN _ _ _ _ _ _ _;intro h;first|exact cB h|exact f4 h|exact aF h|exact aQ h|exact aI h|exact cU h|exact dH h|exact lP h|exact w9 h|exact xG h|exact wN h|exact fC h|exact aR h|exact bL h|exact G_call0 h|exact jW h|exact iE h)
 |exact fun h=>wq h):Y:=hs h
theorem v51 {X Y:Prop} (h:X) (hs:X→Y:=by
 first
 |(show _→aN _ _ _ _ _ _ _;intro h;first|exact aF h|exact bF h|exact aQ h|exact aI h|exact bS h|exact aY h|exact aO h|exact G_loadV2 h|exact cU h|exact dH h|exact dJ h|exact bL h|exact G_call0 h|exact eS h|exact eB h|exact dP h)
 |exact fun h=>wq h):Y:=hs h
theorem v52 {X Y:Prop} (h:X) (hs:X→Y:=by
 first
 |(show _→aN _ _ _ _ _ _ _;intro h;first|exact cB h|exact vI h|exact Ab h|exact aF h|exact bF h|exact aQ h|exact aI h|exact aY h|exact aO h|exact G_loadV2 h|exact dK h|exact cK h|exact kA h|exact nM h|exact mA h|exact G_conv h|exact fC h|exact aR h|exact G_bytesP h|exact iB h|exact bL h|exact G_call0 h|exact kT h|exact iM h)
 |exact fun h=>wq h):Y:=hs h
theorem v53 {X Y:Prop} (h:X) (hs:X→Y:=by
 first
 |(show _→aN _ _ _ _ _ _ _;intro h;first|exact f4 h|exact aF h|exact aQ h|exact aI h|exact lP h|exact dJ h|exact aR h|exact bL h|exact G_call0 h|exact hM h|exact G_callv0 h|exact eS h|exact aW h|exact G_skip0 h)
 |exact fun h=>wq h):Y:=hs h
theorem v54 {X Y:Prop} (h:X) (hs:X→Y:=by
 first
 |(show _→aN _ _ _ _ _ _ _;intro h;first|exact aF h|exact bF h|exact aQ h|exact bC h|exact aI h|exact bS h|exact aY h|exact aO h|exact G_loadV2 h|exact cU h|exact dH h|exact dK h|exact cK h|exact bL h|exact G_call0 h|exact eS h|exact dP h|exact iM h)
 |exact fun h=>wq h):Y:=hs h
theorem v55 {X Y:Prop} (h:X) (hs:X→Y:=by
 first
 |(show _→aN _ _ _ _ _ _ _;intro h;first|exact cB h|exact aF h|exact bF h|exact aQ h|exact aI h|exact bS h|exact aY h|exact aO h|exact G_loadV2 h|exact dK h|exact cK h|exact fC h|exact yT h|exact bL h|exact G_call0 h|exact hM h|exact G_callv0 h|exact eB h|exact iM h)
 |exact fun h=>wq h):Y:=hs h
theorem v56 {X Y:Prop} (h:X) (hs:X→Y:=by
 first
 |(show _→aN _ _ _ _ _ _ _;intro h;first|exact vI h|exact Nu h|exact Pi h|exact aF h|exact bF h|exact aQ h|exact bC h|exact aI h|exact bS h|exact aY h|exact aO h|exact G_loadV2 h|exact eS h|exact aW h|exact G_skip0 h)
 |exact fun h=>wq h):Y:=hs h
theorem zQ {X Y:Prop} (h:X) (hs:X→Y:=by
 first
 |(show _→aN _ _ _ _ _ _ _;intro h;first|exact aF h|exact bF h|exact aQ h|exact bC h|exact aI h|exact bS h|exact aY h|exact aO h|exact G_loadV2 h|exact dJ h|exact aR h|exact bZ h|exact bL h|exact G_call0 h|exact eS h|exact aW h|exact G_skip0 h)
 |exact fun h=>wq h):Y:=hs h
theorem v58 {X Y:Prop} (h:X) (hs:X→Y:=by
 first
 |(show _→aN _ _ _ _ _ _ _;intro h;first|exact Ab h|exact aF h|exact bF h|exact aQ h|exact bC h|exact aI h|exact aY h|exact aO h|exact G_loadV2 h|exact aR h|exact bZ h|exact bL h|exact G_call0 h|exact hM h|exact G_callv0 h|exact eS h|exact aW h|exact G_skip0 h)
 |exact fun h=>wq h):Y:=hs h
theorem KV {X Y:Prop} (h:X) (hs:X→Y:=by
 first
 |(show _→aN _ _ _ _ _ _ _;intro h;first|exact cB h|exact aF h|exact bF h|exact aQ h|exact bC h|exact aI h|exact bS h|exact aY h|exact aO h|exact G_loadV2 h|exact dK h|exact cK h|exact dJ h|exact fC h|exact bZ h|exact bL h|exact G_call0 h|exact eB h|exact iM h)
 |exact fun h=>wq h):Y:=hs h
theorem v60 {X Y:Prop} (h:X) (hs:X→Y:=by
 first
 |(show _→aN _ _ _ _ _ _ _;intro h;first|exact cB h|exact aF h|exact bF h|exact aQ h|exact bC h|exact aI h|exact aY h|exact aO h|exact G_loadV2 h|exact dK h|exact cK h|exact dJ h|exact fC h|exact bZ h|exact bL h|exact G_call0 h|exact eS h|exact dP h|exact iM h)
 |exact fun h=>wq h):Y:=hs h
theorem v61 {X Y:Prop} (h:X) (hs:X→Y:=by
 first
 |(show _→aN _ _ _ _ _ _ _;intro h;first|exact Ab h|exact aF h|exact bF h|exact aQ h|exact bC h|exact aI h|exact bS h|exact aY h|exact aO h|exact G_loadV2 h|exact kA h|exact nM h|exact mA h|exact G_conv h|exact dJ h|exact zY h|exact G_bytesP h|exact iB h|exact eS h|exact eB h|exact kT h)
 |exact fun h=>wq h):Y:=hs h
theorem v62 {X Y:Prop} (h:X) (hs:X→Y:=by
 first
 |(show _→aN _ _ _ _ _ _ _;intro h;first|exact cB h|exact aF h|exact bF h|exact aQ h|exact bC h|exact aI h|exact bS h|exact aY h|exact aO h|exact G_loadV2 h|exact dK h|exact cK h|exact w9 h|exact xG h|exact wN h|exact fC h|exact aR h|exact bL h|exact G_call0 h|exact iM h|exact jW h|exact iE h|exact aW h|exact G_skip0 h)
 |exact fun h=>wq h):Y:=hs h
theorem Bc {X Y:Prop} (h:X) (hs:X→Y:=by
 first
 |(show _→aN _ _ _ _ _ _ _;intro h;first|exact aF h|exact bF h|exact aQ h|exact bC h|exact aI h|exact aY h|exact aO h|exact G_loadV2 h|exact lP h|exact dJ h|exact aR h|exact bZ h|exact bL h|exact G_call0 h|exact eS h|exact aW h|exact G_skip0 h)
 |exact fun h=>wq h):Y:=hs h
theorem JK {X Y:Prop} (h:X) (hs:X→Y:=by
 first
 |(show _→aN _ _ _ _ _ _ _;intro h;first|exact aF h|exact bF h|exact aQ h|exact bC h|exact aI h|exact bS h|exact aY h|exact aO h|exact G_loadV2 h|exact dJ h|exact aR h|exact bZ h|exact bL h|exact G_call0 h|exact eS h|exact eB h)
 |exact fun h=>wq h):Y:=hs h
theorem MA {X Y:Prop} (h:X) (hs:X→Y:=by
 first
 |(show _→aN _ _ _ _ _ _ _;intro h;first|exact f4 h|exact aF h|exact bF h|exact aQ h|exact bC h|exact aI h|exact bS h|exact aY h|exact aO h|exact G_loadV2 h|exact lP h|exact aR h|exact bZ h|exact bL h|exact G_call0 h|exact aW h|exact G_skip0 h)
 |exact fun h=>wq h):Y:=hs h
theorem v66 {X Y:Prop} (h:X) (hs:X→Y:=by
 first
 |(show _→aN _ _ _ _ _ _ _;intro h;first|exact cB h|exact f4 h|exact aF h|exact bF h|exact aQ h|exact bC h|exact aI h|exact bS h|exact aY h|exact aO h|exact G_loadV2 h|exact kA h|exact nM h|exact mA h|exact G_conv h|exact fC h|exact yT h|exact zY h|exact aR h|exact G_bytesP h|exact iB h|exact kT h)
 |exact fun h=>wq h):Y:=hs h
theorem v67 {X Y:Prop} (h:X) (hs:X→Y:=by
 first
 |(show _→aN _ _ _ _ _ _ _;intro h;first|exact cB h|exact f4 h|exact Ab h|exact aF h|exact bF h|exact aQ h|exact bC h|exact aI h|exact bS h|exact aY h|exact aO h|exact G_loadV2 h|exact fC h|exact yT h|exact zY h|exact bL h|exact G_call0 h)
 |exact fun h=>wq h):Y:=hs h
theorem v68 {X Y:Prop} (h:X) (hs:X→Y:=by
 first
 |(show _→aN _ _ _ _ _ _ _;intro h;first|exact cB h|exact f4 h|exact aF h|exact bF h|exact aQ h|exact bC h|exact aI h|exact bS h|exact aY h|exact aO h|exact G_loadV2 h|exact lP h|exact fC h|exact zY h|exact aR h|exact bL h|exact G_call0 h)
 |exact fun h=>wq h):Y:=hs h
theorem v71 {X Y:Prop} (h:X) (hs:X→Y:=by
 first
 |(show _→aN _ _ _ _ _ _ _;intro h;first|exact cB h|exact f4 h|exact aF h|exact bF h|exact aQ h|exact bC h|exact aI h|exact bS h|exact aY h|exact aO h|exact G_loadV2 h|exact dK h|exact cK h|exact fC h|exact aR h|exact bL h|exact G_call0 h|exact eB h|exact iM h|exact aW h|exact G_skip0 h)
 |exact fun h=>wq h):Y:=hs h
theorem Yz {X Y:Prop} (h:X) (hs:X→Y:=by
 first
 |(show _→aN _ _ _ _ _ _ _;intro h;first|exact cB h|exact aF h|exact bF h|exact aQ h|exact bC h|exact aI h|exact aY h|exact aO h|exact G_loadV2 h|exact cU h|exact dH h|exact dK h|exact cK h|exact dJ h|exact fC h|exact aR h|exact bL h|exact G_call0 h|exact dP h|exact iM h|exact aW h|exact G_skip0 h)
 |exact fun h=>wq h):Y:=hs h
theorem v73 {X Y:Prop} (h:X) (hs:X→Y:=by
 first
 |(show _→aN _ _ _ _ _ _ _;intro h;first|exact aF h|exact bF h|exact aQ h|exact bC h|exact aI h|exact bS h|exact aY h|exact aO h|exact G_loadV2 h|exact cU h|exact dH h|exact dK h|exact cK h|exact dJ h|exact w9 h|exact xG h|exact wN h|exact aR h|exact bL h|exact G_call0 h|exact eB h|exact iM h|exact jW h|exact iE h)
 |exact fun h=>wq h):Y:=hs h
theorem v74 {X Y:Prop} (h:X) (hs:X→Y:=by
 first
 |(show _→aN _ _ _ _ _ _ _;intro h;first|exact cB h|exact aF h|exact bF h|exact aQ h|exact aI h|exact bS h|exact aY h|exact aO h|exact G_loadV2 h|exact cU h|exact dH h|exact dK h|exact cK h|exact kA h|exact nM h|exact mA h|exact G_conv h|exact fC h|exact bZ h|exact G_bytesP h|exact iB h|exact bL h|exact G_call0 h|exact hM h|exact G_callv0 h|exact eB h|exact kT h|exact iM h)
 |exact fun h=>wq h):Y:=hs h
theorem v75 {X Y:Prop} (h:X) (hs:X→Y:=by
 first
 |(show _→aN _ _ _ _ _ _ _;intro h;first|exact f4 h|exact aF h|exact bF h|exact aQ h|exact bC h|exact aI h|exact bS h|exact aY h|exact aO h|exact G_loadV2 h|exact dK h|exact cK h|exact dJ h|exact bL h|exact G_call0 h|exact hM h|exact G_callv0 h|exact eS h|exact eB h|exact iM h)
 |exact fun h=>wq h):Y:=hs h
theorem Q5 {X Y:Prop} (h:X) (hs:X→Y:=by
 first
 |(show _→aN _ _ _ _ _ _ _;intro h;first|exact cB h|exact aF h|exact bF h|exact aQ h|exact bC h|exact aI h|exact bS h|exact aY h|exact aO h|exact G_loadV2 h|exact lP h|exact fC h|exact aR h|exact bL h|exact G_call0 h|exact hM h|exact G_callv0 h|exact eS h|exact aW h|exact G_skip0 h)
 |exact fun h=>wq h):Y:=hs h
theorem v78 {X Y:Prop} (h:X) (hs:X→Y:=by
 first
 |(show _→aN _ _ _ _ _ _ _;intro h;first|exact cB h|exact aF h|exact bF h|exact aQ h|exact bC h|exact aI h|exact aY h|exact aO h|exact G_loadV2 h|exact lP h|exact dK h|exact cK h|exact dJ h|exact fC h|exact aR h|exact bZ h|exact bL h|exact G_call0 h|exact eS h|exact iM h|exact aW h|exact G_skip0 h)
 |exact fun h=>wq h):Y:=hs h
theorem Jj {X Y:Prop} (h:X) (hs:X→Y:=by
 first
 |(show _→aN _ _ _ _ _ _ _;intro h;first|exact cB h|exact aF h|exact bF h|exact aQ h|exact bC h|exact aI h|exact bS h|exact aY h|exact aO h|exact G_loadV2 h|exact dK h|exact cK h|exact dJ h|exact fC h|exact aR h|exact bL h|exact G_call0 h|exact hM h|exact G_callv0 h|exact eS h|exact eB h|exact iM h)
 |exact fun h=>wq h):Y:=hs h
theorem Q7 {X Y:Prop} (h:X) (hs:X→Y:=by
 first
 |(show _→aN _ _ _ _ _ _ _;intro h;first|exact cB h|exact aF h|exact bF h|exact aQ h|exact bC h|exact aI h|exact bS h|exact aY h|exact aO h|exact G_loadV2 h|exact cU h|exact dH h|exact lP h|exact w9 h|exact xG h|exact wN h|exact fC h|exact aR h|exact bL h|exact G_call0 h|exact eB h|exact dP h|exact jW h|exact iE h)
 |exact fun h=>wq h):Y:=hs h
theorem v81 {X Y:Prop} (h:X) (hs:X→Y:=by
 first
 |(show _→aN _ _ _ _ _ _ _;intro h;first|exact cB h|exact aF h|exact bF h|exact aQ h|exact bC h|exact aI h|exact bS h|exact aY h|exact aO h|exact G_loadV2 h|exact dK h|exact cK h|exact G_indexS h|exact dJ h|exact fC h|exact bZ h|exact bL h|exact G_call0 h|exact eS h|exact eB h|exact iM h)
 |exact fun h=>wq h):Y:=hs h
theorem v82 {X Y:Prop} (h:X) (hs:X→Y:=by
 first
 |(show _→aN _ _ _ _ _ _ _;intro h;first|exact aF h|exact bF h|exact aQ h|exact bC h|exact aI h|exact bS h|exact aY h|exact aO h|exact G_loadV2 h|exact dK h|exact cK h|exact dJ h|exact aR h|exact bZ h|exact bL h|exact G_call0 h|exact eS h|exact eB h|exact iM h|exact aW h|exact G_skip0 h)
 |exact fun h=>wq h):Y:=hs h
theorem v83 {X Y:Prop} (h:X) (hs:X→Y:=by
 first
 |(show _→aN _ _ _ _ _ _ _;intro h;first|exact cB h|exact f4 h|exact Ab h|exact aF h|exact bF h|exact aQ h|exact bC h|exact aI h|exact aY h|exact aO h|exact G_loadV2 h|exact dK h|exact cK h|exact kA h|exact nM h|exact mA h|exact G_conv h|exact fC h|exact aR h|exact G_bytesP h|exact iB h|exact bL h|exact G_call0 h|exact eS h|exact dP h|exact kT h|exact iM h)
 |exact fun h=>wq h):Y:=hs h
theorem v84 {X Y:Prop} (h:X) (hs:X→Y:=by
 first
 |(show _→aN _ _ _ _ _ _ _;intro h;first|exact cB h|exact f4 h|exact QV h|exact aF h|exact bF h|exact aQ h|exact bC h|exact aI h|exact aY h|exact aO h|exact G_loadV2 h|exact dK h|exact cK h|exact fC h|exact aR h|exact bL h|exact G_call0 h|exact hM h|exact G_callv0 h|exact eS h|exact iM h|exact aW h|exact G_skip0 h)
 |exact fun h=>wq h):Y:=hs h
theorem v85 {X Y:Prop} (h:X) (hs:X→Y:=by
 first
 |(show _→aN _ _ _ _ _ _ _;intro h;first|exact cB h|exact Ab h|exact aF h|exact bF h|exact aQ h|exact bC h|exact aI h|exact bS h|exact aY h|exact aO h|exact G_loadV2 h|exact lP h|exact w9 h|exact xG h|exact wN h|exact fC h|exact yT h|exact aR h|exact bL h|exact G_call0 h|exact jW h|exact iE h|exact aW h|exact G_skip0 h)
 |exact fun h=>wq h):Y:=hs h
theorem v86 {X Y:Prop} (h:X) (hs:X→Y:=by
 first
 |(show _→aN _ _ _ _ _ _ _;intro h;first|exact cB h|exact Nu h|exact Aaw h|exact Pi h|exact aF h|exact bF h|exact aQ h|exact aI h|exact aY h|exact aO h|exact G_loadV2 h|exact dK h|exact cK h|exact kA h|exact nM h|exact mA h|exact G_conv h|exact fC h|exact aR h|exact G_bytesP h|exact iB h|exact bL h|exact G_call0 h|exact hM h|exact G_callv0 h|exact kT h|exact iM h|exact aW h|exact G_skip0 h)
 |exact fun h=>wq h):Y:=hs h
theorem HQ {X Y:Prop} (h:X) (hs:X→Y:=by
 first
 |(show _→aN _ _ _ _ _ _ _;intro h;first|exact cB h|exact aF h|exact bF h|exact aQ h|exact bC h|exact aI h|exact bS h|exact aY h|exact aO h|exact G_loadV2 h|exact lP h|exact dK h|exact cK h|exact dJ h|exact fC h|exact aR h|exact bL h|exact G_call0 h|exact hM h|exact G_callv0 h|exact eB h|exact iM h|exact aW h|exact G_skip0 h)
 |exact fun h=>wq h):Y:=hs h
theorem GA {X Y:Prop} (h:X) (hs:X→Y:=by
 first
 |(show _→aN _ _ _ _ _ _ _;intro h;first|exact aF h|exact bF h|exact aQ h|exact bC h|exact aI h|exact bS h|exact aY h|exact aO h|exact G_loadV2 h|exact lP h|exact dJ h|exact yT h|exact aR h|exact bZ h|exact bL h|exact G_call0 h|exact eS h|exact eB h|exact aW h|exact G_skip0 h)
 |exact fun h=>wq h):Y:=hs h
theorem v90 {X Y:Prop} (h:X) (hs:X→Y:=by
 first
 |(show _→aN _ _ _ _ _ _ _;intro h;first|exact Ab h|exact aF h|exact bF h|exact aQ h|exact bC h|exact aI h|exact bS h|exact aY h|exact aO h|exact G_loadV2 h|exact cU h|exact dH h|exact dJ h|exact aR h|exact bZ h|exact bL h|exact G_call0 h|exact eS h|exact dP h|exact aW h|exact G_skip0 h)
 |exact fun h=>wq h):Y:=hs h
theorem v91 {X Y:Prop} (h:X) (hs:X→Y:=by
 first
 |(show _→aN _ _ _ _ _ _ _;intro h;first|exact cB h|exact f4 h|exact vI h|exact Pi h|exact aF h|exact bF h|exact aQ h|exact bC h|exact aI h|exact bS h|exact aY h|exact aO h|exact G_loadV2 h|exact cU h|exact dH h|exact kA h|exact nM h|exact mA h|exact G_conv h|exact fC h|exact aR h|exact G_bytesP h|exact iB h|exact eS h|exact dP h|exact kT h)
 |exact fun h=>wq h):Y:=hs h
theorem v92 {X Y:Prop} (h:X) (hs:X→Y:=by
 first
 |(show _→aN _ _ _ _ _ _ _;intro h;first|exact aF h|exact bF h|exact aQ h|exact bC h|exact aI h|exact bS h|exact aY h|exact aO h|exact G_loadV2 h|exact cU h|exact dH h|exact lP h|exact w9 h|exact xG h|exact wN h|exact aR h|exact bZ h|exact bL h|exact G_call0 h|exact hM h|exact G_callv0 h|exact eS h|exact eB h|exact dP h|exact jW h|exact iE h)
 |exact fun h=>wq h):Y:=hs h
theorem v93 {X Y:Prop} (h:X) (hs:X→Y:=by
 first
 |(show _→aN _ _ _ _ _ _ _;intro h;first|exact cB h|exact aF h|exact bF h|exact aQ h|exact bC h|exact aI h|exact bS h|exact aY h|exact aO h|exact G_loadV2 h|exact kA h|exact nM h|exact mA h|exact G_conv h|exact dJ h|exact w9 h|exact xG h|exact wN h|exact fC h|exact aR h|exact bZ h|exact G_bytesP h|exact iB h|exact bL h|exact G_call0 h|exact hM h|exact G_callv0 h|exact eS h|exact eB h|exact kT h|exact jW h|exact iE h)
 |exact fun h=>wq h):Y:=hs h
theorem v94 {X Y:Prop} (h:X) (hs:X→Y:=by
 first
 |(show _→aN _ _ _ _ _ _ _;intro h;first|exact cB h|exact vI h|exact aF h|exact bF h|exact aQ h|exact bC h|exact aI h|exact bS h|exact aY h|exact aO h|exact G_loadV2 h|exact dK h|exact cK h|exact fC h|exact yT h|exact aR h|exact bL h|exact G_call0 h|exact hM h|exact G_callv0 h|exact eS h|exact eB h|exact iM h|exact aW h|exact G_skip0 h)
 |exact fun h=>wq h):Y:=hs h
theorem Jq {X Y:Prop} (h:X) (hs:X→Y:=by
 first
 |(show _→aN _ _ _ _ _ _ _;intro h;first|exact cB h|exact f4 h|exact aF h|exact bF h|exact aQ h|exact bC h|exact aI h|exact bS h|exact aY h|exact aO h|exact G_loadV2 h|exact lP h|exact dK h|exact cK h|exact dJ h|exact fC h|exact aR h|exact bZ h|exact bL h|exact G_call0 h|exact eS h|exact eB h|exact iM h|exact aW h|exact G_skip0 h)
 |exact fun h=>wq h):Y:=hs h
theorem NJ {X Y:Prop} (h:X) (hs:X→Y:=by
 first
 |(show _→aN _ _ _ _ _ _ _;intro h;first|exact Fe h|exact Fq h|exact aF h|exact bF h|exact aQ h|exact bC h|exact aI h|exact bS h|exact aY h|exact aO h|exact G_loadV2 h|exact lP h|exact dK h|exact cK h|exact dJ h|exact aR h|exact bZ h|exact bL h|exact G_call0 h|exact hM h|exact G_callv0 h|exact eS h|exact eB h|exact iM h|exact aW h|exact G_skip0 h)
 |exact fun h=>wq h):Y:=hs h
theorem UN {X Y:Prop} (h:X) (hs:X→Y:=by
 first
 |(show _→aN _ _ _ _ _ _ _;intro h;first|exact cB h|exact aF h|exact bF h|exact aQ h|exact bC h|exact aI h|exact bS h|exact aY h|exact aO h|exact G_loadV2 h|exact cU h|exact dH h|exact lP h|exact dK h|exact cK h|exact dJ h|exact fC h|exact aR h|exact bZ h|exact bL h|exact G_call0 h|exact eS h|exact eB h|exact dP h|exact iM h|exact aW h|exact G_skip0 h)
 |exact fun h=>wq h):Y:=hs h
theorem Jp {X Y:Prop} (h:X) (hs:X→Y:=by
 first
 |(show _→aN _ _ _ _ _ _ _;intro h;first|exact cB h|exact f4 h|exact aF h|exact bF h|exact aQ h|exact bC h|exact aI h|exact bS h|exact aY h|exact aO h|exact G_loadV2 h|exact cU h|exact dH h|exact dK h|exact cK h|exact fC h|exact aR h|exact bZ h|exact bL h|exact G_call0 h|exact hM h|exact G_callv0 h|exact eS h|exact eB h|exact dP h|exact iM h|exact aW h|exact G_skip0 h)
 |exact fun h=>wq h):Y:=hs h
theorem v99 {X Y:Prop} (h:X) (hs:X→Y:=by
 first
 |(show _→aN _ _ _ _ _ _ _;intro h;first|exact cB h|exact f4 h|exact Ab h|exact aF h|exact bF h|exact aQ h|exact bC h|exact aI h|exact bS h|exact aY h|exact aO h|exact G_loadV2 h|exact cU h|exact dH h|exact dK h|exact cK h|exact kA h|exact nM h|exact mA h|exact G_conv h|exact w9 h|exact xG h|exact wN h|exact fC h|exact yT h|exact zY h|exact aR h|exact G_bytesP h|exact iB h|exact bL h|exact G_call0 h|exact hM h|exact G_callv0 h|exact eS h|exact kT h|exact iM h|exact jW h|exact iE h)
 |exact fun h=>wq h):Y:=hs h
end
end Go.Sl
namespace Go.Proofs.YtifgibijcmppmaaGreat
open Go Go.Proofs Go.Sl
attribute [local irreducible] aN fN cX bP aM aX aA dS dV aT dU pt ro eV star sep bH
abbrev CT (f:FuncId) (Amo:Array Value) (C:List HP) (K:KP):Prop:=aA Tryz.prog f Amo C K
theorem mixed:Tryz.prog.follows .mixedOrders=true:=by rfl
theorem aH {f:FuncId} {fn:Func} {c:Code} {args:Array Value} {C:List HP} {K:KP} (hf:Tryz.prog.funcs[f]?=some fn) (h:fN Tryz.prog c (dS Tryz.prog fn K) (GL args.toList) C) (hb:fn.body=some c:=by exact rfl) (hn:(fn.name == "runtime.NumGoroutine")=false:=by decide) (hc:qM fn.ntmps c=true:=by decide +kernel) (hs:args.size≤fn.ntmps:=by exact Nat.le_of_ble_eq_true rfl):CT f args C K:=PR mixed hf hb hn hc hs h
end Go.Proofs.YtifgibijcmppmaaGreat
namespace Go.Proofs.YtifgibijcmppmaaGreat
open Go Go.Proofs Go.Shelf
def Tryz.lays189_ren:Go.Shelf.Ren:=⟨fun|189=>356|125=>391|257=>390|128=>407|129=>408|294=>398|295=>399|296=>400|297=>401|298=>402|299=>403|216=>404|300=>405|301=>406|328=>411|329=>412|330=>413|331=>414|332=>415|215=>393|343=>416|n=>n,fun|28=>38|3=>3|46=>179|0=>0|51=>419|53=>421|4=>4|183=>413|182=>412|131=>270|5=>5|9=>9|218=>424|222=>428|228=>430|229=>100|n=>n,fun|n=>n⟩
theorem Tryz.lays189:Go.Proofs.Lays.n189 Tryz.prog Tryz.lays189_ren:= {
 mixed:=by kernel_rfl
 f125:=Tryz.func391.trans (congrArg some (by kernel_rfl))
 f128:=Tryz.func407.trans (congrArg some (by kernel_rfl))
 f129:=Tryz.func408.trans (congrArg some (by kernel_rfl))
 f189:=Tryz.func356.trans (congrArg some (by kernel_rfl))
 f215:=Tryz.func393.trans (congrArg some (by kernel_rfl))
 f216:=Tryz.func404.trans (congrArg some (by kernel_rfl))
 f257:=Tryz.func390.trans (congrArg some (by kernel_rfl))
 f294:=Tryz.func398.trans (congrArg some (by kernel_rfl))
 f295:=Tryz.func399.trans (congrArg some (by kernel_rfl))
 f296:=Tryz.func400.trans (congrArg some (by kernel_rfl))
 f297:=Tryz.func401.trans (congrArg some (by kernel_rfl))
 f298:=Tryz.func402.trans (congrArg some (by kernel_rfl))
 f299:=Tryz.func403.trans (congrArg some (by kernel_rfl))
 f300:=Tryz.func405.trans (congrArg some (by kernel_rfl))
 f301:=Tryz.func406.trans (congrArg some (by kernel_rfl))
 f328:=Tryz.func411.trans (congrArg some (by kernel_rfl))
 f329:=Tryz.func412.trans (congrArg some (by kernel_rfl))
 f330:=Tryz.func413.trans (congrArg some (by kernel_rfl))
 f331:=Tryz.func414.trans (congrArg some (by kernel_rfl))
 f332:=Tryz.func415.trans (congrArg some (by kernel_rfl))
 f343:=Tryz.func416.trans (congrArg some (by kernel_rfl))
 t0:=Tryz.underlying0
 a0:=Tryz.isAgg0
 z0:=Tryz.sizeOf0
 v0:=Tryz.zeroValue0
 t3:=Tryz.underlying3
 a3:=Tryz.isAgg3
 z3:=Tryz.sizeOf3
 v3:=Tryz.zeroValue3
 t4:=Tryz.underlying4
 a4:=Tryz.isAgg4
 z4:=Tryz.sizeOf4
 v4:=Tryz.zeroValue4
 t5:=Tryz.underlying5
 a5:=Tryz.isAgg5
 z5:=Tryz.sizeOf5
 v5:=Tryz.zeroValue5
 t9:=Tryz.underlying9
 a9:=Tryz.isAgg9
 z9:=Tryz.sizeOf9
 v9:=Tryz.zeroValue9
 t28:=Tryz.underlying38
 a28:=Tryz.isAgg38
 z28:=Tryz.sizeOf38
 v28:=Tryz.zeroValue38
 t46:=Tryz.underlying179
 a46:=Tryz.isAgg179
 z46:=Tryz.sizeOf179
 v46:=Tryz.zeroValue179
 t51:=Tryz.underlying419
 a51:=Tryz.isAgg419
 z51:=Tryz.sizeOf419
 v51:=Tryz.zeroValue419
 t53:=Tryz.underlying421
 a53:=Tryz.isAgg421
 z53:=Tryz.sizeOf421
 v53:=Tryz.zeroValue421
 t131:=Tryz.underlying270
 a131:=Tryz.isAgg270
 z131:=Tryz.sizeOf270
 v131:=Tryz.zeroValue270
 t182:=Tryz.underlying412
 a182:=Tryz.isAgg412
 z182:=Tryz.sizeOf412
 v182:=Tryz.zeroValue412
 t183:=Tryz.underlying413
 a183:=Tryz.isAgg413
 z183:=Tryz.sizeOf413
 v183:=Tryz.zeroValue413
 t218:=Tryz.underlying424
 a218:=Tryz.isAgg424
 z218:=Tryz.sizeOf424
 v218:=Tryz.zeroValue424
 t222:=Tryz.underlying428
 a222:=Tryz.isAgg428
 z222:=Tryz.sizeOf428
 v222:=Tryz.zeroValue428
 t228:=Tryz.underlying430
 a228:=Tryz.isAgg430
 z228:=Tryz.sizeOf430
 v228:=Tryz.zeroValue430
 t229:=Tryz.underlying100
 a229:=Tryz.isAgg100
 z229:=Tryz.sizeOf100
 v229:=Tryz.zeroValue100 }
end Go.Proofs.YtifgibijcmppmaaGreat
