/- A part of the proof: lemmas; each with the conditions that it states. -/
import Derived.Laws.Externs
import Derived.Shelf.Sort.Plain
import Derived.Test.YtffnpejdkkohcaaGreatBag
set_option linter.unusedVariables false
set_option linter.unusedSimpArgs false
namespace Go.Sl
variable {α β:Type} {R C:List HP} {i j n c off c0 cp dl dc sl bytes m k0 la ca lb cb d' o o':Nat} {A B D:HP} {p:Prop} {P:Program} {a:Fr} {d:Option Tmp} {ty t e st xt e' tS tR e1 e2:TypeId} {pos:String} {after:Array Edge} {g:Option (Nat×Bool)} {x y:Operand} {H:Hp} {u:Value} {zs cs:List Value} {inf:TypeInfo} {fn:Func} {Amw:Array Operand} {ts:Array TypeId} {A':Option Addr} {ops:Array Oper} {Q:Fr->List HP->Prop} {gd:Bool} {es:ET} {hist:List (List HP)} {id:Int}
theorem m8 {α β:Type} (f:α->β):∀(l:List α) (i:Nat),(l.map f).eraseIdx i=(l.eraseIdx i).map f
 | [],_=>rfl
 |_::_,0=>rfl
 |a::l,i+1=>by simp[List.eraseIdx,m8 f l i]
theorem kB {l:List α} (i:Nat) {x:α} (h:l[i]?=some x):l.set i x=l:=by
 apply List.ext_getElem?
 intro j
 rw[List.getElem?_set]
 split
 ·rename_i e
  subst e
  split
  ·exact h.symm
  ·rename_i hn
   rw[List.getElem?_eq_none (by omega)]
 ·rfl
section
variable {f:β->HP} {l l':List β} {b b':β}
def eC (f:β->HP) (l:List β):HP:=star (l.map f)
theorem aG.unstar {l:List HP}:aG (Go.Sl.star l::C) (l++C):=fun _ hs=>bZ.star hs
theorem aG.mkstar {l:List HP}:aG (l++C) (Go.Sl.star l::C):=aG.star (aG.refl _)
theorem CB (h:l.Perm l'):aG (eC f l::R) (eC f l'::R):=aG.imp (fun H hs=>bZ.perm (h.map f) hs) (aG.refl _)
theorem K1:aG R (eC f ([]:List β)::R):=aG.star (aG.refl _)
theorem Ho:aG (f b::eC f l::R) (eC f (b::l)::R):=fun H hs=>by
 have h1:aG (f b::eC f l::R) (f b::(l.map f++R)):=aG.cons aG.unstar
 exact(aG.mkstar (l:=(b::l).map f) (C:=R)) H (h1 H hs)
theorem DU:aG (eC f (b::l)::R) (f b::eC f l::R):=fun H hs=>by
 have h1:=(aG.unstar (l:=(b::l).map f) (C:=R)) H hs
 exact(aG.cons (aG.mkstar (l:=l.map f) (C:=R))) H h1
theorem HO (h:l[i]?=some b):l.Perm (b::l.eraseIdx i):=by
 have hi:=(List.getElem?_eq_some_iff.1 h).1
 have hb:=(List.getElem?_eq_some_iff.1 h).2
 rw[List.eraseIdx_eq_take_drop_succ]
 have e:l=l.take i++b::l.drop (i+1):=by
  conv=>lhs;rw[<- List.take_append_drop i l,List.drop_eq_getElem_cons hi,hb]
 conv=>lhs;rw[e]
 exact List.perm_middle
theorem Aaf (h:l[i]?=some b):(l.set i b').Perm (b'::l.eraseIdx i):=by
 have hi:=(List.getElem?_eq_some_iff.1 h).1
 have h2:(l.set i b')[i]?=some b':=by rw[List.getElem?_set_self hi]
 have:=HO h2
 have e:(l.set i b').eraseIdx i=l.eraseIdx i:=by
  rw[List.eraseIdx_eq_take_drop_succ,List.eraseIdx_eq_take_drop_succ,List.take_set,List.drop_set]
  rw[if_pos (by omega)]
  rw[List.set_eq_of_length_le (by rw[List.length_take];omega)]
 rw[e] at this
 exact this
theorem tO (h:l[i]?=some b):aG (eC f l::R) (f b::eC f (l.eraseIdx i)::R):=(CB (HO h)).trans DU
theorem Ej (h:l[i]?=some b):aG (f b'::eC f (l.eraseIdx i)::R) (eC f (l.set i b')::R):=Ho.trans (CB (Aaf h).symm)
theorem J2:aG (f b::eC f l::R) (eC f (l.take i++b::l.drop i)::R):=Ho.trans (CB (by
 conv=>lhs;rw[<- List.take_append_drop i l]
 exact List.perm_middle.symm))
end
section
variable {E:HP}
theorem KL (h:p):aG (A::B::D::E::R) (Go.Sl.sep A (Go.Sl.sep B (Go.Sl.sep D (Go.Sl.sep E (bH p))))::R):=
 aG.sep (aG.pick aS.here (aG.sep (aG.pick aS.here (aG.sep (aG.pick aS.here (aG.sep (aG.pick aS.here (aG.pure h (aG.refl _)))))))))
theorem sD:aG (Go.Sl.sep A (Go.Sl.sep B (Go.Sl.sep D (Go.Sl.sep E (bH p))))::R) (bH p::A::B::D::E::R):=
 aG.trans (aG.unsep) (aG.trans (aG.cons aG.unsep) (aG.trans (aG.cons (aG.cons aG.unsep)) (aG.trans (aG.cons (aG.cons (aG.cons aG.unsep))) (fun _ hs=>hs.perm (List.perm_middle (l₁:= [A,B,D,E]))))))
end
theorem w1m {X Y:Prop} (h:X) (hs:X->Y:=by
 first
 |(show _->aM _ _ _ _ _ _ _;first
  |(show _->aM _ _ _ (ET.cons (_,_,⟨_,.move _,_,_,_,_⟩) _) _ _ _;first|exact fun h=>aE h|exact fun h=>aH h|exact fun h=>aV h|exact fun h=>G_skip0 h)
  |(show _->aM _ _ _ (ET.cons (_,_,⟨_,.assign _,_,_,_,_⟩) _) _ _ _;first|exact fun h=>aE h|exact fun h=>aH h|exact fun h=>aV h|exact fun h=>G_skip0 h)
  |(show _->aM _ _ _ (ET.cons (_,_,⟨_,.load _ _,_,_,_,_⟩) _) _ _ _;first|exact fun h=>aE h|exact fun h=>bG h|exact fun h=>aH h|exact fun h=>aY h|exact fun h=>aO h|exact fun h=>aR h|exact fun h=>aV h|exact fun h=>G_skip0 h)
  |(show _->aM _ _ _ (ET.cons (_,_,⟨_,.fieldAddr _ _ _,_,_,_,_⟩) _) _ _ _;first|exact fun h=>aE h|exact fun h=>bB h|exact fun h=>aH h|exact fun h=>aV h|exact fun h=>G_skip0 h)
  |(show _->aM _ _ _ (ET.cons (_,_,⟨_,.call _,_,_,_,_⟩) _) _ _ _;first|exact fun h=>aE h|exact fun h=>aH h|exact fun h=>cN h|exact fun h=>dG h|exact fun h=>yQ h|exact fun h=>zJ h|exact fun h=>aV h|exact fun h=>G_skip0 h)
  |(show _->aM _ _ _ (ET.cons (_,_,⟨_,.nilCheck _,_,_,_,_⟩) _) _ _ _;first|exact fun h=>aE h|exact fun h=>aH h|exact fun h=>aV h|exact fun h=>G_skip0 h)
  |exact fun h=>aP h
  |(show _->aM _ _ _ (ET.cons (_,_,⟨_,.extract _ _,_,_,_,_⟩) _) _ _ _;first|exact fun h=>aE h|exact fun h=>aH h|exact fun h=>aV h|exact fun h=>G_skip0 h)
  |(show _->aM _ _ _ (ET.cons (_,_,⟨_,.binOp _ _ _ _ _,_,_,_,_⟩) _) _ _ _;first|(show _->aM _ _ _ (ET.cons (_,_,⟨_,.binOp .eql _ _ _ _,_,_,_,_⟩) _) _ _ _;first|exact fun h=>aE h|exact fun h=>aH h|exact fun h=>aT h|exact fun h=>aV h|exact fun h=>G_skip0 h)|(show _->aM _ _ _ (ET.cons (_,_,⟨_,.binOp .add _ _ _ _,_,_,_,_⟩) _) _ _ _;first|exact fun h=>cE h|exact fun h=>aE h|exact fun h=>aH h|exact fun h=>fP h|exact fun h=>aV h|exact fun h=>G_skip0 h)|(show _->aM _ _ _ (ET.cons (_,_,⟨_,.binOp .neq _ _ _ _,_,_,_,_⟩) _) _ _ _;first|exact fun h=>aE h|exact fun h=>aH h|exact fun h=>bY h|exact fun h=>aV h|exact fun h=>G_skip0 h)|(show _->aM _ _ _ (ET.cons (_,_,⟨_,.binOp .sub _ _ _ _,_,_,_,_⟩) _) _ _ _;first|exact fun h=>f4 h|exact fun h=>aE h|exact fun h=>aH h|exact fun h=>aV h|exact fun h=>G_skip0 h)|(show _->aM _ _ _ (ET.cons (_,_,⟨_,.binOp .rem _ _ _ _,_,_,_,_⟩) _) _ _ _;first|exact fun h=>zD h|exact fun h=>aE h|exact fun h=>aH h|exact fun h=>aV h|exact fun h=>G_skip0 h)|(show _->aM _ _ _ (ET.cons (_,_,⟨_,.binOp .mul _ _ _ _,_,_,_,_⟩) _) _ _ _;first|exact fun h=>AU h|exact fun h=>aE h|exact fun h=>aH h|exact fun h=>aV h|exact fun h=>G_skip0 h)|(show _->aM _ _ _ (ET.cons (_,_,⟨_,.binOp .quo _ _ _ _,_,_,_,_⟩) _) _ _ _;first|exact fun h=>Kg h|exact fun h=>aE h|exact fun h=>aH h|exact fun h=>aV h|exact fun h=>G_skip0 h)|(show _->aM _ _ _ (ET.cons (_,_,⟨_,.binOp .shr _ _ _ _,_,_,_,_⟩) _) _ _ _;first|exact fun h=>Pm h|exact fun h=>aE h|exact fun h=>aH h|exact fun h=>aV h|exact fun h=>G_skip0 h)|(show _->aM _ _ _ (ET.cons (_,_,⟨_,.binOp .shl _ _ _ _,_,_,_,_⟩) _) _ _ _;first|exact fun h=>Ln h|exact fun h=>aE h|exact fun h=>aH h|exact fun h=>aV h|exact fun h=>G_skip0 h)|(show _->aM _ _ _ (ET.cons (_,_,⟨_,.binOp .or _ _ _ _,_,_,_,_⟩) _) _ _ _;first|exact fun h=>Z0 h|exact fun h=>aE h|exact fun h=>aH h|exact fun h=>aV h|exact fun h=>G_skip0 h)|(show _->aM _ _ _ (ET.cons (_,_,⟨_,.binOp .andNot _ _ _ _,_,_,_,_⟩) _) _ _ _;first|exact fun h=>E9 h|exact fun h=>EA h|exact fun h=>aE h|exact fun h=>aH h|exact fun h=>aV h|exact fun h=>G_skip0 h)|exact fun h=>aE h|exact fun h=>aH h|exact fun h=>aV h)
  |(show _->aM _ _ _ (ET.cons (_,_,⟨_,.store _ _ _,_,_,_,_⟩) _) _ _ _;first|exact fun h=>aE h|exact fun h=>aH h|exact fun h=>bT h|exact fun h=>aV h|exact fun h=>G_skip0 h)
  |(show _->aM _ _ _ (ET.cons (_,_,⟨_,.pick _ _ _,_,_,_,_⟩) _) _ _ _;first|exact fun h=>aE h|exact fun h=>aH h|exact fun h=>aV h|exact fun h=>G_skip0 h)
  |(show _->aM _ _ _ (ET.cons (_,_,⟨_,.indexAddr _ _ _,_,_,_,_⟩) _) _ _ _;first|exact fun h=>aE h|exact fun h=>aH h|exact fun h=>dQ h|exact fun h=>cR h|exact fun h=>iR h|exact fun h=>aV h|exact fun h=>G_skip0 h)
  |(show _->aM _ _ _ (ET.cons (_,_,⟨_,.build _ _,_,_,_,_⟩) _) _ _ _;first|exact fun h=>aE h|exact fun h=>aH h|exact fun h=>dP h|exact fun h=>aV h|exact fun h=>G_skip0 h)
  |(show _->aM _ _ _ (ET.cons (_,_,⟨_,.box _ _,_,_,_,_⟩) _) _ _ _;first|exact fun h=>aE h|exact fun h=>aH h|exact fun h=>fH h|exact fun h=>aV h|exact fun h=>G_skip0 h)
  |(show _->aM _ _ _ (ET.cons (_,_,⟨_,.alloc _,_,_,_,_⟩) _) _ _ _;first|exact fun h=>aE h|exact fun h=>aH h|exact fun h=>eF h|exact fun h=>aV h|exact fun h=>G_skip0 h)
  |(show _->aM _ _ _ (ET.cons (_,_,⟨_,.unOp _ _ _,_,_,_,_⟩) _) _ _ _;first|(show _->aM _ _ _ (ET.cons (_,_,⟨_,.unOp .not _ _,_,_,_,_⟩) _) _ _ _;first|exact fun h=>aE h|exact fun h=>aH h|exact fun h=>lQ h|exact fun h=>aV h|exact fun h=>G_skip0 h)|(show _->aM _ _ _ (ET.cons (_,_,⟨_,.unOp .neg _ _,_,_,_,_⟩) _) _ _ _;first|exact fun h=>aE h|exact fun h=>aH h|exact fun h=>G_neg64 h|exact fun h=>aV h|exact fun h=>G_skip0 h)|exact fun h=>aE h|exact fun h=>aH h|exact fun h=>aV h)
  |(show _->aM _ _ _ (ET.cons (_,_,⟨_,.slice _ _ _ _ _,_,_,_,_⟩) _) _ _ _;first|exact fun h=>aE h|exact fun h=>aH h|exact fun h=>wD h|exact fun h=>wZ h|exact fun h=>xN h|exact fun h=>kF h|exact fun h=>iF h|exact fun h=>aV h|exact fun h=>G_skip0 h)
  |(show _->aM _ _ _ (ET.cons (_,_,⟨_,.convert _ _ _,_,_,_,_⟩) _) _ _ _;first|exact fun h=>aE h|exact fun h=>aH h|exact fun h=>lO h|exact fun h=>pE h|exact fun h=>oW h|exact fun h=>G_conv h|exact fun h=>lV h|exact fun h=>hZ h|exact fun h=>lP h|exact fun h=>aV h|exact fun h=>G_skip0 h)
  |(show _->aM _ _ _ (ET.cons (_,_,⟨_,.buildSlice _ _ _,_,_,_,_⟩) _) _ _ _;first|exact fun h=>aE h|exact fun h=>aH h|exact fun h=>cZ h|exact fun h=>aV h|exact fun h=>G_skip0 h)
  |(show _->aM _ _ _ (ET.cons (_,_,⟨_,.index _ _ _,_,_,_,_⟩) _) _ _ _;first|exact fun h=>aE h|exact fun h=>aH h|exact fun h=>G_indexS h|exact fun h=>aV h|exact fun h=>G_skip0 h)
  |exact fun h=>aE h|exact fun h=>aH h|exact fun h=>aV h|exact fun h=>G_skip0 h)
 |(show _->cU _ _ _;first|exact fun h=>CO rfl h|exact fun h=>GC rfl h)
 |(show _->eY _ _ _ _ _;first|exact fun h=>Tt h|exact fun h=>Ds (by exact rfl) h|exact fun h=>MB (by exact rfl) h|exact fun h=>Tl h|exact fun h=>MO h|exact fun h=>Eb h|exact fun h=>Mm h|exact fun h=>Gj h|exact fun h=>Gi h|exact fun h=>GW (by exact rfl) (by decide +kernel) (by exact rfl) h|exact fun h=>Gz (by exact rfl) (by decide +kernel) (by exact rfl) h)
 |(show _->Br _ _ _;first|exact fun h=>Br.t rfl h|exact fun h=>Br.f rfl h|exact fun h=>Br.t (beq_self_eq_true _) h|exact fun h=>Br.f (tD _) h|exact fun h=>Br.t (by assumption) h|exact fun h=>Br.f (by assumption) h|exact fun h=>Br.t (Aee (by assumption)) h|exact fun h=>Br.f (Adj (by assumption)) h)
 |(show _->bQ _ _ _ _ _;first|exact fun h=>t_n h|exact fun h=>t_r h|exact fun h=>t_e h)
 |(show _->aL _ _ _ _ _;first|exact fun h=>b_n h|exact fun h=>b_r h|exact fun h=>T6 rfl h|exact fun h=>MV rfl h)
 |(show _->aW _ _ _ _;first|exact fun h=>g_n h|exact fun h=>g_r h|exact fun h=>g_e h)):Y:=hs h
section
variable (E:tP α)
theorem W5 (l:List α) (post:List Value) (m:Nat):(l.flatMap E.enc++post).drop (m * E.sz)=(l.drop m).flatMap E.enc++post.drop ((m - l.length) * E.sz):=by
 have hl:=E.flat_len l
 by_cases hm:m<=l.length
 ·have h1:l=l.take m++l.drop m:=(List.take_append_drop m l).symm
  have h2:l.flatMap E.enc=(l.take m).flatMap E.enc++(l.drop m).flatMap E.enc:=by rw[<- List.flatMap_append,<- h1]
  have h3:((l.take m).flatMap E.enc).length=m * E.sz:=by rw[E.flat_len,List.length_take,Nat.min_eq_left hm]
  rw[h2,List.append_assoc,List.drop_left' h3,Nat.sub_eq_zero_of_le hm,Nat.zero_mul,List.drop_zero]
 ·have h1:l.drop m= []:=List.drop_eq_nil_of_le (by omega)
  rw[h1,List.flatMap_nil,List.nil_append,List.drop_append,hl,List.drop_eq_nil_of_le (by rw[hl];exact Nat.mul_le_mul_right _ (by omega)),List.nil_append,Nat.sub_mul]
theorem SJ {xs vs:List α} {pre post:List Value} (hj:j<=xs.length) (hp:(j+vs.length - xs.length) * E.sz<=post.length):
  mE (pre++xs.flatMap E.enc++post) (pre.length+j * E.sz) (vs.flatMap E.enc)=pre++(xs.take j++(vs++xs.drop (j+vs.length))).flatMap E.enc++post.drop ((j+vs.length - xs.length) * E.sz):=by
 have h1:xs=xs.take j++xs.drop j:=(List.take_append_drop j xs).symm
 have h2:xs.flatMap E.enc=(xs.take j).flatMap E.enc++(xs.drop j).flatMap E.enc:=by rw[<- List.flatMap_append,<- h1]
 have h3:((xs.take j).flatMap E.enc).length=j * E.sz:=by rw[E.flat_len,List.length_take,Nat.min_eq_left hj]
 have h4:pre++xs.flatMap E.enc++post=(pre++(xs.take j).flatMap E.enc)++((xs.drop j).flatMap E.enc++post):=by rw[h2];simp only[List.append_assoc]
 have h5:(vs.flatMap E.enc).length=vs.length * E.sz:=E.flat_len vs
 have h6:((xs.drop j).flatMap E.enc).length=(xs.length - j) * E.sz:=by rw[E.flat_len,List.length_drop]
 rw[h4,show pre.length+j * E.sz=(pre++(xs.take j).flatMap E.enc).length by rw[List.length_append,h3],E5]
 ·rw[h5,W5,List.drop_drop,List.length_drop,show vs.length - (xs.length - j)=j+vs.length - xs.length by omega]
  simp only[List.flatMap_append,List.append_assoc]
 ·rw[h5,List.length_append,h6]
  have e1:vs.length<=(xs.length - j)+(j+vs.length - xs.length):=by omega
  have e2:=Nat.mul_le_mul_right E.sz e1
  rw[Nat.add_mul] at e2
  omega
end
section
variable {E:tP α} {xs vs:List α}
theorem Ai1 {A:Option Addr} (hx:bJ a x=.slice A n c) (ht:lZ P t=true):cA P ⟨d,.call { callee:=.builtin .cap,args:=#[x],argTypes:=#[t] },ty,pos,after,g⟩ a=some (.int .i64 c):=by
 refine cD ?_
 obtain⟨e,he⟩:=m9 ht
 simp only[execOp,resolve,List.map_toArray,List.map_cons,List.map_nil,hx]
 rw[aU,show(pure _:Sem Deferred).pr P=some _ from rfl,Option.bind_some]
 simp only[invoke,builtin,aU]
 unfold Builtin.cap_
 simp only[List.getElem?_toArray,List.getElem?_cons_zero,aU]
 rw[aK he,Option.bind_some]
 rfl
theorem Kk {B:Nat} {q:Unit->Hp->Prop} (hs:bZ (bU (some ⟨B,off,none⟩) c0 e E xs::C) H) (hj:j<=xs.length) (hf:j+vs.length<=c0)
  (hq:∀H',bZ (bU (some ⟨B,off,none⟩) c0 e E (xs.take j++(vs++xs.drop (j+vs.length)))::C) H'->q () H'):(storeCells ⟨B,off+j * E.sz,none⟩ (vs.flatMap E.enc)).ev P H q:=by
 rcases kV hs with⟨h1,_⟩|⟨B',pre,post,h1,h2,h3,h4⟩
 ·cases h1
 ·cases h1
  have e5:(j+vs.length - xs.length)<=c0 - xs.length:=by omega
  have e6:=Nat.le_trans (Nat.mul_le_mul_right E.sz e5) h4
  have hfl:=E.flat_len xs
  have hfv:=E.flat_len vs
  refine nA _ 0 _ _ H _ (nG h2).1 ?_ (E.flat_one vs) ?_
  ·rw[List.length_append,List.length_append,hfl,hfv]
   have e1:j+vs.length<=xs.length+(j+vs.length - xs.length):=by omega
   have e2:=Nat.mul_le_mul_right E.sz e1
   rw[Nat.add_mul,Nat.add_mul] at e2
   omega
  ·rw[Nat.add_zero,SJ E hj e6]
   refine hq _ (gQ rfl (rZ h2) ?_ ?_)
   ·simp only[List.length_append,List.length_take,List.length_drop];omega
   ·rw[List.length_drop]
    have e7:c0 - (xs.take j++(vs++xs.drop (j+vs.length))).length<=(c0 - xs.length) - (j+vs.length - xs.length):=by
     simp only[List.length_append,List.length_take,List.length_drop];omega
    have e8:=Nat.mul_le_mul_right E.sz e7
    rw[Nat.sub_mul (c0 - xs.length)] at e8
    omega
def HW (P:Program) (C:List HP) (u:Value) (E:tP α) (l:Nat) (vs:List α):Prop:=(Builtin.lenOf u).pr P=some l/\∀H,bZ C H->(Builtin.firstCells E.sz vs.length u).rd P H=some (vs.flatMap E.enc).toArray
theorem Adn (h:Xu P C u E vs):HW P C u E vs.length vs:=h
theorem WH {A:Option Addr} {B l:Nat} (hv:dE C (some ⟨B,off,none⟩) E xs) (hA:A=some ⟨B,off+j * E.sz,none⟩) (hj:j<=xs.length):HW P C (.slice A l cp) E l (xs.drop j):=by
 refine⟨rfl,fun H hs=>?_⟩
 have h:=D7 (A':=A) hv (xs.length - j) hj hA
 have e:(xs.drop j).take (xs.length - j)=xs.drop j:=List.take_of_length_le (by rw[List.length_drop];exact Nat.le_refl _)
 rw[e] at h
 rcases h H hs with h1|⟨B',pre,post,e',rw',h1,h3⟩
 ·rw[h1]
  cases A with
  |none=>rfl
  |some ad=>simp only[Builtin.firstCells,List.length_nil,Nat.zero_mul,loadCells,loadCellsFrom];rfl
 ·rw[h1,mZ h3 (by simp[E.flat_len])]
  congr 1
  have:(pre++(xs.drop j).flatMap E.enc++post).drop pre.length=(xs.drop j).flatMap E.enc++post:=by simp
  rw[this,<- E.flat_len]
  simp
theorem ZZ {B sz:Nat} {A:Option Addr} {k:Value->List HP->Prop} (hst:P.underlying st=some (.slice e')) (hi:mJ P e'=some sz) (hsz:E.sz=sz) (hx:bJ a x=.slice A dl dc) (hA:A=some ⟨B,off+j * sz,none⟩) (hy:bJ a y=u)
  (hsrc:HW P C u E sl vs) (hmin:min sl dl=vs.length) (hp:aS (bU (some ⟨B,off,none⟩) c0 e E xs) C R) (hj:j<=xs.length) (hf:j+vs.length<=c0)
  (hk:k (.int .i64 (vs.length:Nat)) (bU (some ⟨B,off,none⟩) c0 e E (xs.take j++(vs++xs.drop (j+vs.length)))::R)):
  AI P ⟨d,.call { callee:=.builtin .copy,args:=#[x,y],argTypes:=#[st,xt] },ty,pos,after,g⟩ a C k:=fun H hs=>by
 obtain⟨inf,hi2,hsz2⟩:=oB hi
 subst hsz hA
 refine fI ?_
 simp only[execOp,resolve,List.map_toArray,List.map_cons,List.map_nil,hx,hy]
 rw[aI,aN (show(pure _:Sem Deferred).pr P=some _ from rfl)]
 simp only[invoke,builtin,aI]
 unfold Builtin.copy_
 simp only[List.getElem?_toArray,List.getElem?_cons_zero,List.getElem?_cons_succ,aI]
 rw[aN (aK hst)]
 simp only[aI]
 rw[aN hsrc.1,aN (fC hi2)]
 have hmin':Nat.min sl dl=vs.length:=hmin
 rw[hmin',hsz2]
 refine rU (hsrc.2 H hs) ?_
 exact Kk (hp.sats hs) hj hf fun H' h'=>⟨_,h',hk⟩
theorem QN {sz B:Nat} {A:Option Addr} {k:Value->List HP->Prop} (ht:Ol P st xt=some (e',sz,bytes)) (hsz:E.sz=sz) (hx:bJ a x=.slice A n cp) (hA:A=some ⟨B,off,none⟩) (hy:bJ a y=u)
  (hsrc:HW P C u E m vs) (hm:m=vs.length) (hp:aS (bU (some ⟨B,off,none⟩) c0 e E xs) C R) (hn:n<=xs.length) (hf:n+m<=cp) (hc:cp<=c0)
  (hk:k (.slice A (n+m) cp) (bU (some ⟨B,off,none⟩) c0 e E (xs.take n++(vs++xs.drop (n+vs.length)))::R)):
  AI P ⟨d,.call { callee:=.builtin .append,args:=#[x,y],argTypes:=#[st,xt] },ty,pos,after,g⟩ a C k:=fun H hs=>by
 obtain⟨inf,zz,h1,h2,h3,h4,h5,h6,h7,rfl⟩:=JJ ht
 obtain⟨D,hD,hDn⟩:=C8 h2
 subst hsz hA hm
 refine fI ?_
 simp only[execOp,resolve,List.map_toArray,List.map_cons,List.map_nil,hx,hy]
 rw[aI,aN (show(pure _:Sem Deferred).pr P=some _ from rfl)]
 simp only[invoke,builtin,aI]
 unfold Builtin.append_
 simp only[List.getElem?_toArray,List.getElem?_cons_zero,List.getElem?_cons_succ]
 rw[aI,aN (aK h1)]
 simp only
 rw[aI,aN (fC h3)]
 rw[aI,aN (aK hD),pure_bind]
 simp only[Bool.false_eq_true,if_false,Bool.not_false,if_true,false_or]
 rw[aI,aN hsrc.1,if_pos hf,aI,h7]
 refine rU (hsrc.2 H hs) ?_
 simp only
 rw[aI,nO]
 exact Kk (hp.sats hs) hn (by omega) fun H' h'=>⟨_,h',hk⟩
theorem WF {B sz:Nat} {A:Option Addr} {k:Value->List HP->Prop} (hst:P.underlying st=some (.slice e')) (hz:Ak P e'=some zs) (hzl:zs.length=sz) (mS:(zs.all Value.oneCell')=true) (hsz:E.sz=sz) (hx:bJ a x=.slice A k0 cp) (hA:A=some ⟨B,off+xs.length * sz,none⟩)
  (hk0:k0<=vs.length) (hp:aS (bU (some ⟨B,off,none⟩) c0 e E (xs++vs)) C R) (hk:k (.tuple #[]) (bU (some ⟨B,off,none⟩) c0 e E xs::R)):
  AI P ⟨d,.call { callee:=.builtin .clear,args:=#[x],argTypes:=#[st] },ty,pos,after,g⟩ a C k:=fun H hs=>by
 obtain⟨inf,zz,hi2,hzz,hzc⟩:∃inf zz,P.info? e'=some inf/\inf.zero=some zz/\zz.cells.toList=zs:=by
  unfold Ak at hz
  split at hz
  ·rename_i i hi
   split at hz
   ·rename_i z hz'
    exact⟨i,z,hi,hz',by simpa using hz⟩
   ·cases hz
  ·cases hz
 subst hsz hA
 refine fI ?_
 simp only[execOp,resolve,List.map_toArray,List.map_cons,List.map_nil,hx]
 rw[aI,aN (show(pure _:Sem Deferred).pr P=some _ from rfl)]
 simp only[invoke,builtin,aI]
 unfold Builtin.clear_
 simp only[List.getElem?_toArray,List.getElem?_cons_zero,aI]
 rw[aN (aK hst)]
 have hrow:=hp.sats hs
 have cut:∀H',bZ (bU (some ⟨B,off,none⟩) c0 e E (xs++vs)::R) H'->bZ (bU (some ⟨B,off,none⟩) c0 e E xs::R) H':=fun H' h'=>by
  rcases kV h' with⟨h1,_⟩|⟨B',pre,post,h1,h2,h3,h4⟩
  ·cases h1
  ·rw[List.flatMap_append,<- List.append_assoc] at h2
   rw[List.append_assoc] at h2
   rw[List.length_append] at h3 h4
   refine gQ h1 h2 (by omega) ?_
   rw[List.length_append,E.flat_len]
   have e1:c0 - xs.length<=(c0 - (xs.length+vs.length))+vs.length:=by omega
   have e2:=Nat.mul_le_mul_right E.sz e1
   rw[Nat.add_mul] at e2
   omega
 cases k0 with
 |zero=>
  simp only
  exact⟨_,cut H hrow,hk⟩
 |succ k1=>
  simp only[aI]
  rw[aN (show(zeroValue e').pr P=some zz from by simp only[zeroValue,aU,d3 hi2,Option.bind_some,hzz];rfl)]
  have hcut:=cut H hrow
  rcases kV hrow with⟨h1,_⟩|⟨B',pre,post,h1,h2,h3,h4⟩
  ·cases h1
  ·cases h1
   rw[List.length_append] at h3
   have hfl:=E.flat_len (xs++vs)
   have hzs:zz.cells.size=E.sz:=by rw[<- hzl,<- hzc];simp
   have hzlen:(Builtin.zeroCells zz.cells (k1+1)).toList.length=(k1+1) * E.sz:=by simp[Builtin.zeroCells,hzs]
   have hzone:((Builtin.zeroCells zz.cells (k1+1)).toList.all Value.oneCell')=true:=by
    rw[List.all_eq_true]
    intro v hv
    simp only[Builtin.zeroCells,Array.toList_map,List.mem_map] at hv
    obtain⟨i,hi,rfl⟩:=hv
    have hi':i<(k1+1) * zz.cells.size:=by simpa using hi
    have hpos:0<zz.cells.size:=by
     rcases Nat.eq_zero_or_pos zz.cells.size with h|h
     ·rw[h] at hi';simp at hi'
     ·exact h
    have hlt:=Nat.mod_lt i hpos
    rw[getElem!_pos zz.cells _ hlt]
    have hall:=List.all_eq_true.1 mS (zz.cells[i % zz.cells.size]) (by rw[<- hzc];exact Array.getElem_mem_toList hlt)
    exact hall
   refine nA _ 0 _ _ H _ (nG h2).1 ?_ hzone ?_
   ·rw[hzlen,List.length_append,List.length_append,hfl,List.length_append,Nat.add_zero]
    have e1:xs.length+(k1+1)<=xs.length+vs.length:=by omega
    have e2:=Nat.mul_le_mul_right E.sz e1
    rw[Nat.add_mul] at e2
    omega
   ·have e1:pre++(xs++vs).flatMap E.enc++post=(pre++xs.flatMap E.enc)++(vs.flatMap E.enc++post):=by rw[List.flatMap_append];simp only[List.append_assoc]
    have e3:pre.length+xs.length * E.sz+0=(pre++xs.flatMap E.enc).length:=by rw[List.length_append,E.flat_len,Nat.add_zero]
    have e4:(k1+1) * E.sz<=vs.length * E.sz:=Nat.mul_le_mul_right _ hk0
    rw[e1,e3,E5 _ _ _ (by rw[hzlen,List.length_append,E.flat_len];omega)]
    have h5:=rZ (cs':=(pre++xs.flatMap E.enc)++(Builtin.zeroCells zz.cells (k1+1)).toList++(vs.flatMap E.enc++post).drop (Builtin.zeroCells zz.cells (k1+1)).toList.length) h2
    rw[List.append_assoc (pre++xs.flatMap E.enc)] at h5 ⊢
    refine⟨_,gQ rfl h5 (by omega) ?_,hk⟩
    rw[List.length_append,List.length_drop,hzlen,List.length_append,E.flat_len]
    rw[List.length_append] at h4
    have e5:c0 - xs.length<=(c0 - (xs.length+vs.length))+vs.length:=by omega
    have e6:=Nat.mul_le_mul_right E.sz e5
    rw[Nat.add_mul] at e6
    omega
end
def Jo {α:Type} (E:tP α) (zs:List Value) (h:zs.length=E.sz/\(zs.all Value.oneCell')=true):tP (Option α):=
 { enc:=fun o=>match o with
   |some x=>E.enc x
   |none=>zs
   sz:=E.sz,dec:=fun _=>none
   len:=fun o=>by cases o with
    |some x=>exact E.len x
    |none=>exact h.1
   one:=fun o=>by cases o with
    |some x=>exact E.one x
    |none=>exact h.2
   ok:=fun _ _ h=>by cases h }
section
variable {E:tP α} {hz:zs.length=E.sz/\(zs.all Value.oneCell')=true}
theorem Ek:∀l:List α,(l.map some).flatMap (Jo E zs hz).enc=l.flatMap E.enc
 | []=>rfl
 |x::l=>by rw[List.map_cons,List.flatMap_cons,List.flatMap_cons,Ek l];rfl
theorem Ade {A:Option Addr} {l:List α}:aG (bU A c e (Jo E zs hz) (l.map some)::C) (bU A c e E l::C):=
 aG.imp (fun H h=>by
  rcases h with⟨h1,h2,h3⟩|⟨B,pre,post,h1,h2,h3,h4⟩
  ·exact .inl ⟨h1,by simpa using h2,h3⟩
  ·rw[Ek] at h2
   rw[List.length_map] at h3 h4
   exact .inr ⟨B,pre,post,h1,h2,h3,h4⟩) (aG.refl _)
theorem OJ {A:Option Addr} {l:List α} {ws:List (Option α)} (h:ws=l.map some):aG (bU A c e (Jo E zs hz) ws::C) (bU A c e E l::C):=h▸Ade
theorem Gd {l:Nat} {vs:List α} (h:HW P C u E l vs):HW P C u (Jo E zs hz) l (vs.map some):=
 ⟨h.1,fun H hs=>by rw[List.length_map,Ek];exact h.2 H hs⟩
theorem Km:∀n:Nat,((List.replicate n none:List (Option α)).flatMap (Jo E zs hz).enc)=(List.replicate n zs).flatten
 |0=>rfl
 |n+1=>by rw[List.replicate_succ,List.flatMap_cons,Km n,List.replicate_succ,List.flatten_cons];rfl
theorem IN (z:Array Value) (n:Nat):(Builtin.zeroCells z n).toList=(List.replicate n z.toList).flatten:=by
 apply List.ext_getElem?
 intro i
 simp only[Builtin.zeroCells,Array.toList_map]
 have key:∀(n i:Nat),((List.replicate n z.toList).flatten)[i]?=if i<n * z.size then some z[i % z.size]! else none:=by
  intro n
  induction n with
  |zero=>intro i;simp
  |succ n ih=>
   intro i
   rw[List.replicate_succ,List.flatten_cons,List.getElem?_append]
   by_cases h:i<z.size
   ·have hl:i<z.toList.length:=by simpa using h
    have h2:i<(n+1) * z.size:=by rw[Nat.add_mul];omega
    rw[if_pos hl,if_pos h2,Nat.mod_eq_of_lt h,getElem!_pos z i h,List.getElem?_eq_getElem hl]
    simp
   ·have hl:¬i<z.toList.length:=by simpa using h
    rw[if_neg hl,ih]
    have hz:z.toList.length=z.size:=by simp
    rw[hz]
    have hm:(i - z.size) % z.size=i % z.size:=by
     conv=>rhs;rw[show i=(i - z.size)+z.size by omega,Nat.add_mod_right]
    rw[hm,Nat.add_mul]
    by_cases h3:i - z.size<n * z.size
    ·rw[if_pos h3,if_pos (by omega)]
    ·rw[if_neg h3,if_neg (by omega)]
 rw[key]
 by_cases h:i<n * z.size
 ·rw[if_pos h]
  simp[h]
 ·rw[if_neg h]
  simp
  omega
end
section
variable {E:tP α} {xs vs:List α}
structure ZT (P:Program) (st xt e:TypeId) (sz bytes:Nat) (zs:List Value):Prop where
 st:P.underlying st=some (.slice e)
 xt:P.underlying xt=some (.int .i64)
 info:∃inf z,P.info? e=some inf/\inf.zero=some z/\inf.size=sz/\inf.bytes=bytes/\z.cells.toList=zs
theorem R2 {sz k:Nat} {A:Option Addr} {q:Value->List HP->Prop} (hz:zs.length=E.sz/\(zs.all Value.oneCell')=true) (ht:ZT P st xt e sz bytes zs) (hsz:E.sz=sz) (hsz0:0<sz) (hb:0<bytes/\bytes<=1000)
  (hx:bJ a x=.slice A i cp) (hy:bJ a y=.int .i64 k) (hk0:0<k) (hcp:cp<i+k) (hsm:i+k<=1000000) (hv:dE C A E xs) (hn:xs.length=i)
  (hk:∀r N,i+k<=N->q (.slice (some ⟨r,0,none⟩) (i+k) N) (bU (some ⟨r,0,none⟩) N e (Jo E zs hz) (xs.map some++List.replicate k none)::C)):
  AI P ⟨d,.call { callee:=.builtin .append,args:=#[x,y],argTypes:=#[st,xt] },ty,pos,after,g⟩ a C q:=fun H hs=>by
 obtain⟨h1,h2,inf,z,h3,h4,h5,h6,h7⟩:=ht
 subst hsz h6
 have hw:IntKind.i64.wrap (k:Int)=k:=uT (by omega) (by omega)
 have hmax:IntKind.i64.max=9223372036854775807:=by decide
 have h48:(2:Int) ^ 48=281474976710656:=by decide
 have h48n:(2:Nat) ^ 48=281474976710656:=by decide
 have hkb:(k:Int) * (inf.bytes:Int)<=1000000000:=by
  have h:k * inf.bytes<=1000000 * 1000:=Nat.mul_le_mul (by omega) hb.2
  rw[<- Int.natCast_mul]
  omega
 refine fI ?_
 simp only[execOp,resolve,List.map_toArray,List.map_cons,List.map_nil,hx,hy]
 rw[aI,aN (show(pure _:Sem Deferred).pr P=some _ from rfl)]
 simp only[invoke,builtin,aI]
 unfold Builtin.append_
 simp only[List.getElem?_toArray,List.getElem?_cons_zero,List.getElem?_cons_succ]
 rw[aI,aN (aK h1)]
 simp only
 rw[aI,aN (fC h3),h5]
 rw[aI,aN (aK h2),pure_bind]
 simp only[if_true]
 rw[aI,aN (show(asInt (.int .i64 (k:Int))).pr P=some (k:Int) from rfl)]
 simp only[hw]
 rw[if_neg (by omega)]
 simp only[pure_bind,aI]
 rw[aN (d3 h3),if_neg (by rw[h48];omega)]
 simp only[pure_bind,aI,Int.toNat_natCast]
 rw[if_neg (by omega)]
 have hnc:=Hg hcp
 have hbig:Builtin.nextslicecap (i+k) cp * inf.bytes<=281474976710656:=by
  have e1:Builtin.nextslicecap (i+k) cp<=2000512:=by omega
  have e2:=Nat.mul_le_mul e1 hb.2
  omega
 simp only[true_or,and_true]
 rw[if_neg (by rw[hmax];omega)]
 rw[aI,aN (d3 h3)]
 try simp only[aI,pure_bind]
 rw[aN (d3 h3),if_neg (by rw[h48n];omega)]
 simp only[aI]
 simp only[choose,Sem.ev]
 rw[if_neg (by simp[Question.forced])]
 intro tt
 simp only[Question.cut]
 generalize hN:i+k+tt % (2 ^ 63 - (i+k))=N
 have hNle:i+k<=N:=by omega
 rw[aN (d3 h3)]
 refine CE ?_
 have hold:=(pH (P:=P) (cp:=cp) hv hn).2 H hs
 rw[hn] at hold
 refine rU hold ?_
 have hzz:(zeroValue e).pr P=some z:=by simp only[zeroValue,aU,d3 h3,Option.bind_some,h4];rfl
 have hkn:¬k * E.sz=0:=by
  have:=Nat.mul_pos hk0 hsz0
  omega
 simp only[Bool.not_true,Bool.false_eq_true,if_false]
 rw[if_neg hkn]
 simp only[aI]
 rw[aN hzz]
 rw[aN (show(pure (Builtin.zeroCells z.cells k):Sem (Array Value)).pr P=some (Builtin.zeroCells z.cells k) from rfl)]
 rw[aN hzz]
 simp only[newRow,aI]
 intro r hr
 refine⟨rfl,?_⟩
 have hzf:∀n,(Builtin.zeroCells z.cells n).toList=((List.replicate n none:List (Option α)).flatMap (Jo E zs hz).enc):=fun n=>by rw[IN,h7,Km]
 have hcells:((xs.flatMap E.enc).toArray++Builtin.zeroCells z.cells k++Builtin.zeroCells z.cells (N - (i+k))).toList= []++((xs.map some++List.replicate k none:List (Option α)).flatMap (Jo E zs hz).enc)++(Builtin.zeroCells z.cells (N - (i+k))).toList:=by
  rw[List.flatMap_append,Ek,<- hzf k]
  simp
 have hlen:(xs.map some++List.replicate k none:List (Option α)).length=i+k:=by simp[hn]
 have hpost:(Builtin.zeroCells z.cells (N - (i+k))).toList.length=(N - (i+k)) * (Jo E zs hz).sz:=by
  rw[hzf,tP.flat_len,List.length_replicate]
 have hs2:=oZ (cs:=((xs.flatMap E.enc).toArray++Builtin.zeroCells z.cells k++Builtin.zeroCells z.cells (N - (i+k))).toList) (e:=e) hr hs
 have key:=hk r N hNle
 refine⟨_,gQ (pre:= []) (post:=(Builtin.zeroCells z.cells (N - (i+k))).toList) rfl ?_ (by rw[hlen];exact hNle) (by rw[hlen,hpost];exact Nat.le_refl _),key⟩
 rw[<- hcells]
 exact hs2
end
theorem PY (ht:P.underlying tS=some (.slice e)) (hi:P.info? e=some inf) {A D:Addr} {cs':List Value} {q:Value->Hp->Prop}
  (hA:H A.block=some (.cells cs e1 true)) (hD:H D.block=some (.cells cs' e2 true)) (hAo:A.off<cs.length) (hDo:D.off<cs'.length) (h:∀b,q (.bool b) H):
  (Extern.SlicesOverlaps.overlaps #[tS,tS] #[tR] #[.slice (some A) la ca,.slice (some D) lb cb]).ev P H q:=by
 change Sem.ev P (α:=Value) (do
  let some t:=(#[tS,tS]:Array TypeId)[0]?|stuck "slices.overlaps: no parameter types"
  let .slice elem <- underlying t|stuck "slices.overlaps: slice type expected"
  let size <- sizeOf elem
  match (some A:Option Addr),(some D:Option Addr) with
  |some a,some b=>
   if la=0\/lb=0\/size=0 then pure (Value.bool false)
   else if a.block != b.block && (<- frozen a) && (<- frozen b) then unsupported .addressObserved
   else do
    if a.block != b.block then do
     noView a;noView b
     if <- mayBeOne a b then return Value.bool ((<- choose (.extern "sameAddr.stringBytes" 2)) == 1)
    pure (Value.bool (a.block == b.block && a.off<b.off+lb * size && b.off<a.off+la * size))
  |_,_=>pure (Value.bool false)) H q
 simp only[List.getElem?_toArray,List.getElem?_cons_zero,aI]
 rw[aN (aK ht)]
 simp only[aI]
 rw[aN (fC hi)]
 by_cases h0:la=0\/lb=0\/inf.size=0
 ·rw[if_pos h0];exact h _
 ·rw[if_neg h0]
  have hcs:0<cs.length:=by omega
  have hcs':0<cs'.length:=by omega
  have e1:cs.length≠0:=by omega
  have e2:cs'.length≠0:=by omega
  have pe:∀ {α:Type} (x:α),(pure x:Sem α)=Sem.pure x:=fun _=>rfl
  by_cases hb:A.block=D.block
  ·simp[hb,frozen,Sem.ev,bind,Sem.bind,hD,hA,hAo,hDo,h]
   exact h _
  ·simp[hb,frozen,noView,viewAt,mayBeOne,stringish,shape,Sem.ev,bind,Sem.bind,pe,hD,hA,hAo,hDo,h,e1,e2]
   intro b
   exact h _
theorem ZX {f:FuncId} {ex:Array Value->Sem Value} {vs:List Value} {k:Value->List HP->Prop} (hf:P.funcs[f]?=some fn) (hname:(fn.name == "runtime.NumGoroutine")=false) (hb:fn.body.isNone=true) (hn:Extern.findNext fn=none) (he:Extern.find fn=some ex)
  (hargs:uJ a Amw.toList=some vs) (h:∀H,bZ C H->(ex vs.toArray).ev P H (upV k)):AI P ⟨d,.call { callee:=.value (.func f),args:=Amw,argTypes:=ts },ty,pos,after,g⟩ a C k:=fun H hs=>by
 have e1:Amw.map (bJ a)=vs.toArray:=by apply Array.ext';simpa using BA hargs
 refine fI ?_
 simp only[execOp,resolve,bJ,Deferred.ofValue]
 rw[aI,aN (show(pure _:Sem Deferred).pr P=some _ from rfl)]
 have e1':Array.map (bJ a) Amw=vs.toArray:=e1
 simp only[invoke]
 have e2:(#[]++Array.map (fun x=>bJ a x) Amw)++#[]=vs.toArray:=by simpa using e1
 rw[e2]
 unfold callFunc
 rw[aI,aN (show program.pr P=some P from rfl)]
 simp only[hf,hname,hb,hn,he,Bool.false_eq_true,if_false,if_true,aI]
 rw[aN (show(mark (.extern f)).pr P=some () from rfl)]
 refine Mn P _ H _ _ (fun v H' hk=>hk) (h H hs)
theorem Gp {B l sz:Nat} (h:HA (some ⟨B,off,none⟩) A' l m sz) (hm:l<m):A'=some ⟨B,off+l * sz,none⟩:=by
 unfold HA at h
 rw[h,if_neg (by omega)]
 simp[Addr.add]
section
variable {E:tP α} {xs vs:List α}
theorem oT {A:Option Addr} (h:cU gd (.int .i64 (cp:Nat)) fun v=>aM P ops Q es hist (kH a d' v) C) (hx:bJ a x=.slice A n cp:=by exact rfl) (ht:lZ P t=true:=by exact rfl)
  (hw:bD ops ⟨some d',.call { callee:=.builtin .cap,args:=#[x],argTypes:=#[t] },ty,pos,after,g⟩ a=true:=by exact rfl):aM P ops Q (ET.cons (c,gd,⟨some d',.call { callee:=.builtin .cap,args:=#[x],argTypes:=#[t] },ty,pos,after,g⟩) es) hist a C:=
 f6 rfl hw (Ai1 hx ht) h
theorem vS {B:Nat} (h:o=o'):some (⟨B,o,none⟩:Addr)=some ⟨B,o',none⟩:=by rw[h]
theorem El {B n' c':Nat} (h1:o=o') (h2:n=n') (h3:c=c'):Value.slice (some ⟨B,o,none⟩) n c=Value.slice (some ⟨B,o',none⟩) n' c':=by rw[h1,h2,h3]
theorem Uq {A:Option Addr} {cc:Nat} {l ws:List α} (h:ws=l):aG (bU A cc e E ws::R) (bU A cc e E l::R):=h▸aG.refl _
theorem d9 {B sz:Nat} {lo hi mx:Option Operand} {l h m:Int} (hk:cU gd (.slice (some ⟨B,o+l.toNat * sz,none⟩) (h.toNat - l.toNat) (m.toNat - l.toNat)) fun v=>aM P ops Q es hist (kH a d' v) C)
  (hx:bJ a x=.slice (some ⟨B,o,none⟩) n cp:=by exact rfl) (ht:sP P t=some sz:=by exact rfl) (hl:xL a 0 lo=some l:=by exact rfl) (hh:xL a n hi=some h:=by exact rfl) (hm:xL a cp mx=some m:=by exact rfl) (hmx:mx.isSome=true->hi.isSome=true:=by first|exact fun h=>h|exact fun _=>rfl)
  (h0:0<=l:=by first|omega|assumption) (h1:l<=h:=by first|omega|assumption) (h2:h<=m:=by first|omega|assumption) (h3:m<=cp:=by first|omega|assumption) (h4:l<m:=by first|omega|assumption) (hw:bD ops ⟨some d',.slice t x lo hi mx,ty,pos,after,g⟩ a=true:=by exact rfl):
  aM P ops Q (ET.cons (c,gd,⟨some d',.slice t x lo hi mx,ty,pos,after,g⟩) es) hist a C:=
 f6 rfl hw (Ec ht hx hl hh hm hmx h0 h1 h2 h3) (by rw[if_neg (by omega)];simp only[Option.map_some,nO];exact hk)
theorem w7 {B:Nat} {u:α} (hb:Xw C B cs:=by((repeat (first|exact sN|exact has_ro|apply tU)) <;> exact sN)) (hd:E.dec cs=some u:=by exact rfl):HW P C (.slice (some ⟨B,0,none⟩) 1 cp) E 1 [u]:=Adn (vI hb hd)
theorem Eo {A:Option Addr} {B l sz:Nat} (hsz:E.sz=sz:=by exact rfl) (hv:dE C (some ⟨B,off,none⟩) E xs:=by((repeat (first|exact eA|exact jF|exact rO|assumption|apply bF)) <;> exact eA)) (hA:A=some ⟨B,off+j * sz,none⟩:=by exact vS (by omega)) (hj:j<=xs.length:=by omega):HW P C (.slice A l cp) E l (xs.drop j):=WH hv (by rw[hsz];exact hA) hj
theorem Tq {A:Option Addr} {l k sz:Nat} (hv:dE C A E xs) (hs:HA A A' l m sz) (hsz:E.sz=sz) (hj:l=j) (hl:j<=xs.length) (hm:xs.length<=m) (hk:k=xs.length - j):HW P C (.slice A' k cp) E k (xs.drop j):=by
 subst hj hsz
 have h:=E3 (k:=k) hv hs hl (.inl hm)
 have e:(xs.drop l).take k=xs.drop l:=List.take_of_length_le (by rw[List.length_drop];omega)
 rw[e] at h
 have h2:=pH (P:=P) (cp:=cp) (m:=k) h (by rw[List.length_drop];omega)
 have h3:k=(xs.drop l).length:=by rw[List.length_drop];exact hk
 refine⟨?_,h2.2⟩
 rw[h2.1,<- h3]
theorem rR {B sz:Nat} {A:Option Addr} (h:cU gd (.int .i64 (vs.length:Nat)) fun v=>aM P ops Q es (C::hist) (kH a d' v) (bU (some ⟨B,off,none⟩) c0 e E (xs.take j++(vs++xs.drop (j+vs.length)))::R))
  (hx:bJ a x=.slice A dl dc:=by exact rfl) (hy:bJ a y=u:=by exact rfl) (hst:P.underlying st=some (.slice e'):=by exact rfl) (hp:aS (bU (some ⟨B,off,none⟩) c0 e E xs) C R:=by((repeat (first|exact aS.here|apply aS.there)) <;> exact aS.here)) (hsz:E.sz=sz:=by exact rfl) (hi:mJ P e'=some sz:=by exact rfl) (hsrc:HW P C u E sl vs)
  (hA:A=some ⟨B,off+j * sz,none⟩:=by exact vS (by omega)) (hmin:min sl dl=vs.length:=by first|omega|(simp only[List.length_drop,List.length_cons,List.length_nil,List.length_map,List.length_take,List.length_append,List.length_replicate];omega)) (hj:j<=xs.length:=by first|omega|(simp only[List.length_drop,List.length_cons,List.length_nil,List.length_map,List.length_take,List.length_append,List.length_replicate];omega)) (hf:j+vs.length<=c0:=by first|omega|(simp only[List.length_drop,List.length_cons,List.length_nil,List.length_map,List.length_take,List.length_append,List.length_replicate];omega))
  (hk:kd P (.call { callee:=.builtin .copy,args:=#[x,y],argTypes:=#[st,xt] })=.other:=by exact rfl) (hw:bD ops ⟨some d',.call { callee:=.builtin .copy,args:=#[x,y],argTypes:=#[st,xt] },ty,pos,after,g⟩ a=true:=by exact rfl):
  aM P ops Q (ET.cons (c,gd,⟨some d',.call { callee:=.builtin .copy,args:=#[x,y],argTypes:=#[st,xt] },ty,pos,after,g⟩) es) hist a C:=
 G_o (hk:=hk) (hw:=hw) (ZZ hst hi hsz hx hA hy hsrc hmin hp hj hf h)
theorem Ko {sz B N:Nat} {A:Option Addr} (h:cU gd (.slice (some ⟨B,off,none⟩) N cp) fun v=>aM P ops Q es (C::hist) (kH a d' v) (bU (some ⟨B,off,none⟩) c0 e E (xs.take j++(vs++xs.drop (j+vs.length)))::R))
  (hx:bJ a x=.slice A n cp:=by exact rfl) (hy:bJ a y=u:=by exact rfl) (hsz:E.sz=sz:=by exact rfl) (ht:Ol P st xt=some (e',sz,bytes):=by exact rfl)
  (hp:aS (bU (some ⟨B,off,none⟩) c0 e E xs) C R:=by((repeat (first|exact aS.here|apply aS.there)) <;> exact aS.here)) (hsrc:HW P C u E m vs)
  (hA:A=some ⟨B,off,none⟩:=by exact vS (by omega)) (hm:m=vs.length:=by first|exact rfl|omega|(simp only[List.length_drop,List.length_take];omega)) (hn:n<=xs.length:=by omega) (hf:n+m<=cp:=by omega) (hc:cp<=c0:=by omega) (hj:n=j:=by omega) (hN:n+m=N:=by omega)
  (hw:bD ops ⟨some d',.call { callee:=.builtin .append,args:=#[x,y],argTypes:=#[st,xt] },ty,pos,after,g⟩ a=true:=by exact rfl):
  aM P ops Q (ET.cons (c,gd,⟨some d',.call { callee:=.builtin .append,args:=#[x,y],argTypes:=#[st,xt] },ty,pos,after,g⟩) es) hist a C:=
 G_o (hw:=hw) (QN ht hsz hx hA hy hsrc hm hp hn hf hc (by subst hj hN hA;exact h))
theorem PN {B sz:Nat} {A:Option Addr} {ws:List α} (h:aM P ops Q es (C::hist) a (bU (some ⟨B,off,none⟩) c0 e E xs::R)) (hws:ws=xs++vs)
  (hx:bJ a x=.slice A k0 cp:=by exact rfl) (hp:aS (bU (some ⟨B,off,none⟩) c0 e E ws) C R:=by((repeat (first|exact aS.here|apply aS.there)) <;> exact aS.here)) (hsz:E.sz=sz:=by exact rfl) (hA:A=some ⟨B,off+xs.length * sz,none⟩) (hk0:k0<=vs.length)
  (hst:P.underlying st=some (.slice e'):=by exact rfl) (hz:Ak P e'=some zs:=by exact rfl) (hzl:zs.length=sz:=by exact rfl) (mS:(zs.all Value.oneCell')=true:=by exact rfl)
  (hk:kd P (.call { callee:=.builtin .clear,args:=#[x],argTypes:=#[st] })=.other:=by exact rfl) (hw:bD ops ⟨none,.call { callee:=.builtin .clear,args:=#[x],argTypes:=#[st] },ty,pos,after,g⟩ a=true:=by exact rfl):
  aM P ops Q (ET.cons (c,gd,⟨none,.call { callee:=.builtin .clear,args:=#[x],argTypes:=#[st] },ty,pos,after,g⟩) es) hist a C:=
 Yq (hk:=hk) (hw:=hw) (WF hst hz hzl mS hsz hx hA hk0 (hws▸hp) h)
theorem KB {sz k:Nat} {A:Option Addr} {kn:Int} (hz:zs.length=E.sz/\(zs.all Value.oneCell')=true)
  (h:∀r N,i+k<=N->cU gd (.slice (some ⟨r,0,none⟩) (i+k) N) fun v=>aM P ops Q es (C::hist) (kH a d' v) (bU (some ⟨r,0,none⟩) N e (Jo E zs hz) (xs.map some++List.replicate k none)::C)) (hv:dE C A E xs)
  (hx:bJ a x=.slice A i cp:=by exact rfl) (hy:bJ a y=.int .i64 kn:=by exact rfl) (hkn:kn=(k:Nat):=by omega) (hsz:E.sz=sz:=by exact rfl) (ht:ZT P st xt e sz bytes zs:=by exact⟨rfl,rfl,_,_,rfl,rfl,rfl,rfl,rfl⟩) (hn:xs.length=i:=by first|exact rfl|(simp only[List.length_take];omega)) (hk0:0<k:=by omega) (hcp:cp<i+k:=by omega) (hsm:i+k<=1000000:=by omega) (hsz0:0<sz:=by decide) (hb:0<bytes/\bytes<=1000:=by decide)
  (hw:bD ops ⟨some d',.call { callee:=.builtin .append,args:=#[x,y],argTypes:=#[st,xt] },ty,pos,after,g⟩ a=true:=by exact rfl):
  aM P ops Q (ET.cons (c,gd,⟨some d',.call { callee:=.builtin .append,args:=#[x,y],argTypes:=#[st,xt] },ty,pos,after,g⟩) es) hist a C:=
 G_o (hw:=hw) (R2 hz ht hsz hsz0 hb hx (by rw[hy,hkn]) hk0 hcp hsm hv hn h)
theorem HE {f:FuncId} {A D:Option Addr} {B B' c1 sz:Nat} {v:Value} {R':List HP} (h:∀b,cU gd (.bool b) fun v=>aM P ops Q es (C::hist) (kH a d' v) C)
  (hargs:uJ a Amw.toList=some [.slice A la ca,.slice D lb cb]:=by exact rfl) (hA:A=some ⟨B,0,none⟩:=by exact rfl) (hsz:E.sz=sz:=by exact rfl) (hp:aS (bU (some ⟨B',off,none⟩) c1 e2 E xs) C R:=by((repeat (first|exact aS.here|apply aS.there)) <;> exact aS.here)) (hpt:aS (pt B (v::cs) e1) C R':=by((repeat (first|exact aS.here|apply aS.there)) <;> exact aS.here))
  (hD:D=some ⟨B',off+j * sz,none⟩:=by exact vS (by omega)) (hj:j<c1:=by omega) (h0:0<sz:=by decide)
  (hf:P.funcs[f]?=some fn:=by exact rfl) (hb:fn.body.isNone=true:=by exact rfl) (hname:(fn.name == "runtime.NumGoroutine")=false:=by decide +kernel) (hn:Extern.findNext fn=none:=by kernel_rfl) (he:Extern.find fn=some (Extern.SlicesOverlaps.overlaps #[tS,tS] #[tR]):=by kernel_rfl)
  (ht:P.underlying tS=some (.slice e):=by exact rfl) (hi:P.info? e=some inf:=by exact rfl) (hw:bD ops ⟨some d',.call { callee:=.value (.func f),args:=Amw,argTypes:=ts },ty,pos,after,g⟩ a=true:=by exact rfl):
  aM P ops Q (ET.cons (c,gd,⟨some d',.call { callee:=.value (.func f),args:=Amw,argTypes:=ts },ty,pos,after,g⟩) es) hist a C:=
 G_o (hw:=hw) (ZX hf hname hb hn he hargs fun H hs=>by
  subst hA hD hsz
  have h1:=(nG (hpt.sats hs)).1
  rcases kV (hp.sats hs) with⟨g1,_⟩|⟨B'',pre,post,g1,g2,g3,g4⟩
  ·cases g1
  ·cases g1
   have h2:=(nG g2).1
   refine PY ht hi (A:=⟨B,0,none⟩) (D:=⟨B',_,none⟩) h1 h2 (by simp) ?_ fun b=>⟨C,hs,h b⟩
   show _+j * E.sz<_
   rw[List.length_append,List.length_append,E.flat_len]
   have:=Nat.mul_le_mul_right E.sz (show j+1<=xs.length+(c1 - xs.length) by omega)
   rw[Nat.add_mul,Nat.add_mul] at this
   omega)
theorem OO {B lo sz:Nat} {k:IntKind} {j:Int} (h:cU gd (.pointer (some ⟨B,off+(lo+j.toNat) * sz,none⟩)) fun v=>aM P ops Q es hist (kH a d' v) C)
  (hx:bJ a x=.slice (some ⟨B,off+lo * sz,none⟩) n cp:=by exact rfl) (hy:bJ a y=.int k j:=by exact rfl) (ht:sP P t=some sz:=by exact rfl) (h0:0<=j:=by first|omega|assumption) (h1:j<n:=by first|omega|assumption) (hw:bD ops ⟨some d',.indexAddr t x y,ty,pos,after,g⟩ a=true:=by exact rfl):
  aM P ops Q (ET.cons (c,gd,⟨some d',.indexAddr t x y,ty,pos,after,g⟩) es) hist a C:=
 f6 rfl hw (Hj ht hx hy h0 h1) (by rw[show off+lo * sz+j.toNat * sz=off+(lo+j.toNat) * sz by rw[Nat.add_mul];omega];exact h)
end
structure KE (α:Type) where
 k:Int
 v:α
 b:Nat
section
variable {enc:α->Value}
def kM (enc:α->Value) (l:List (KE α)):List k7:=l.map fun e=>⟨e.k,enc e.v,e.b⟩
def gM (id:Int):List (KE α)->Option α
 | []=>none
 |e::r=>if id=e.k then some e.v else gM id r
def s9 (id:Int) (v:α) (ck:Nat):List (KE α)->List (KE α)
 | []=> [⟨id,v,ck⟩]
 |e::r=>if id=e.k then⟨e.k,v,e.b⟩::r else e::s9 id v ck r
def mO (id:Int):List (KE α)->List (KE α)
 | []=> []
 |e::r=>if id=e.k then r else e::mO id r
def kCk (id:Int) (ck:Nat) (l:List (KE α)):Nat:=if(gM id l).isSome=true then ck else ck+1
theorem HV (id:Int):∀(l:List (KE α)) (i:Nat),(jA id (kM enc l) i).map Prod.snd=(gM id l).map enc
 | [],_=>rfl
 |e::r,i=>by
  show(if id == e.k then some (i,enc e.v) else jA id (kM enc r) (i+1)).map Prod.snd=(if id=e.k then some e.v else gM id r).map enc
  by_cases h:id=e.k
  ·rw[if_pos (beq_iff_eq.2 h),if_pos h];rfl
  ·rw[if_neg (fun q=>h (beq_iff_eq.1 q)),if_neg h];exact HV id r (i+1)
def Aly (ok:Bool) (zv:Value):Option Value->Value
 |some v=>if ok=true then .tuple #[v,.bool true] else v
 |none=>if ok=true then .tuple #[zv,.bool false] else zv
theorem Ts {ok:Bool} {zv:Value} {l:List (KE α)}:Iz ok zv (jA id (kM enc l) 0)=Aly ok zv ((gM id l).map enc):=by
 rw[<- HV (enc:=enc) id l 0]
 cases jA id (kM enc l) 0 with
 |none=>cases ok <;> rfl
 |some p=>cases ok <;> rfl
theorem Ui {id:Int} {v:α} {ck:Nat}:∀ {l:List (KE α)},(gM id l).isSome=true->M4 id (enc v) (kM enc l)=kM enc (s9 id v ck l)
 | [],h=>by cases h
 |e::r,h=>by
  show(if id == e.k then(⟨e.k,enc v,e.b⟩:k7)::kM enc r else⟨e.k,enc e.v,e.b⟩::M4 id (enc v) (kM enc r))=kM enc (if id=e.k then⟨e.k,v,e.b⟩::r else e::s9 id v ck r)
  by_cases hk:id=e.k
  ·rw[if_pos (beq_iff_eq.2 hk),if_pos hk];rfl
  ·rw[if_neg (fun q=>hk (beq_iff_eq.1 q)),if_neg hk,Ui (ck:=ck) (l:=r) (by unfold gM at h;rwa[if_neg hk] at h)]
   rfl
theorem DO {id:Int} {v:α} {ck:Nat}:∀ {l:List (KE α)},gM id l=none->s9 id v ck l=l++ [⟨id,v,ck⟩]
 | [],_=>rfl
 |e::r,h=>by
  unfold gM at h
  split at h
  ·cases h
  ·rename_i hk
   unfold s9
   rw[if_neg hk,DO h]
   rfl
theorem OD {v:α} {ck:Nat} {l:List (KE α)}:L8 id (enc v) (kM enc l) ck=(kM enc (s9 id v ck l),kCk id ck l):=by
 have h:=HV (enc:=enc) id l 0
 unfold L8 kCk
 cases hg:gM id l with
 |none=>
  rw[hg] at h
  cases hf:jA id (kM enc l) 0 with
  |none=>
   simp only[Option.isSome_none,Bool.false_eq_true,if_false]
   rw[DO hg]
   unfold kM
   rw[List.map_append]
   rfl
  |some p=>rw[hf] at h;cases h
 |some x=>
  rw[hg] at h
  cases hf:jA id (kM enc l) 0 with
  |none=>rw[hf] at h;cases h
  |some p=>
   simp only[Option.isSome_some,if_true]
   rw[Ui (ck:=ck) (by rw[hg];rfl)]
theorem XK {id:Int}:∀ {l:List (KE α)},F6 id (kM enc l)=kM enc (mO id l)
 | []=>rfl
 |e::r=>by
  show(if id == e.k then kM enc r else(⟨e.k,enc e.v,e.b⟩:k7)::F6 id (kM enc r))=kM enc (if id=e.k then r else e::mO id r)
  by_cases hk:id=e.k
  ·rw[if_pos (beq_iff_eq.2 hk),if_pos hk]
  ·rw[if_neg (fun q=>hk (beq_iff_eq.1 q)),if_neg hk,XK (l:=r)]
   rfl
theorem HM {id j:Int} {v:α} {ck:Nat}:∀ {l:List (KE α)},gM j (s9 id v ck l)=if j=id then some v else gM j l
 | []=>by
  show(if j=id then some v else none)=_
  rfl
 |e::r=>by
  unfold s9
  by_cases h:id=e.k
  ·rw[if_pos h]
   unfold gM
   by_cases hj:j=id
   ·rw[if_pos (by rw[<- h];exact hj),if_pos hj]
   ·rw[if_neg (by rw[<- h];exact hj),if_neg hj,if_neg (by rw[<- h];exact hj)]
  ·rw[if_neg h]
   unfold gM
   by_cases hj:j=e.k
   ·rw[if_pos hj,if_neg (fun q:j=id=>h (q.symm.trans hj)),if_pos hj]
   ·rw[if_neg hj,HM (l:=r),if_neg hj]
end
end Go.Sl
section
namespace Go.Sl
theorem aA.ofSame {P:Program} {f:FuncId} {fn:Func} {args:Array Value} {v:Value} {C:List HP} {K:Value->List HP->Prop} (hf:P.funcs[f]?=some fn) (hb:fn.body.isNone=false) (hn:(fn.name == "runtime.NumGoroutine")=false)
  (h:∀w,Calls P f args w fun e w'=>e=.returned v/\w'=w) (hK:K v C):aA P f args C K:=fun H hs=>
 ⟨⟨fn,hf,hb,hn⟩,fun own w hw=>(h w).mono fun e w' ⟨he,hww⟩=>⟨v,H,he,⟨C,hs,hK⟩,by rw[hww];exact To.refl hw⟩⟩
end Go.Sl
namespace Go.Sl
open Go.Sort Go.Proofs
theorem F3 {cs pre mid mid' post:List Value} {enc:Int->Value} {d:Array Int} (hc:cs=pre++mid++post) (hm:mid'=d.toList.map enc) (hl:mid.length=d.size):(putCells enc pre.length d cs.toArray).toList=pre++mid'++post:=by
 subst hc hm
 apply List.ext_getElem?
 intro i
 unfold putCells
 rw[Array.getElem?_toList,Array.getElem?_mapIdx]
 rw[List.getElem?_toArray]
 by_cases h1:i<pre.length
 ·rw[List.append_assoc,List.append_assoc,List.getElem?_append_left h1,List.getElem?_append_left h1,List.getElem?_eq_getElem h1]
  simp[show ¬pre.length<=i by omega]
 ·by_cases h2:i<pre.length+d.size
  ·have e1:(pre++mid++post)[i]?=mid[i - pre.length]?:=by
    rw[List.append_assoc,List.getElem?_append_right (by omega),List.getElem?_append_left (by omega)]
   have e2:(pre++d.toList.map enc++post)[i]?=(d.toList.map enc)[i - pre.length]?:=by
    rw[List.append_assoc,List.getElem?_append_right (by omega),List.getElem?_append_left (by simp;omega)]
   rw[e1,e2,List.getElem?_eq_getElem (by omega)]
   have hd:i - pre.length<d.size:=by omega
   simp[show pre.length<=i by omega,h2,hd]
  ·have e1:(pre++mid++post)[i]?=post[i - pre.length - d.size]?:=by
    rw[List.append_assoc,List.getElem?_append_right (by omega),List.getElem?_append_right (by omega),hl]
   have e2:(pre++d.toList.map enc++post)[i]?=post[i - pre.length - d.size]?:=by
    rw[List.append_assoc,List.getElem?_append_right (by omega),List.getElem?_append_right (by simp;omega)]
    simp
   rw[e1,e2]
   cases post[i - pre.length - d.size]? with
   |none=>rfl
   |some v=>simp[h2]
theorem aA.ofSort {P:Program} {f:FuncId} {fn:Func} {E:tP Int} {A:Option Addr} {n c:Nat} {e:TypeId} {xs:List Int} {C R:List HP} {K:Value->List HP->Prop} (hf:P.funcs[f]?=some fn) (hb:fn.body.isNone=false) (hn:(fn.name == "runtime.NumGoroutine")=false)
  (hE:∀x,E.enc x= [.int .i64 x])
  (h:∀(blk off cap:Nat) (zs:List Int) (w:World),Holds (Value.int .i64) w blk off zs.toArray->blk<w.heap.size->zs.length<4611686018427387904->Calls P f #[.slice (some ⟨blk,off,none⟩) zs.length cap] w fun x w'=>x=.returned (.tuple #[])/\∃m os,w'=grow (putRow (Value.int .i64) (Sort.ahead w m) blk off (zs.mergeSort fun x y=>decide (x<=y)).toArray) os)
  (h0:∀(p:Option Addr) (cap:Nat) (w:World),Calls P f #[.slice p 0 cap] w fun x w'=>x=.returned (.tuple #[])/\w'=w)
  (hp:aS (bU A c e E xs) C R) (hl:xs.length=n) (hs0:n<1000000000000000) (hK:K (.tuple #[]) (bU A c e E (xs.mergeSort fun x y=>decide (x<=y))::R)):aA P f #[.slice A n c] C K:=by
 subst hl
 refine aA.ent (fun H hs=>hp.sats hs) ?_
 intro H hs
 by_cases hx:xs= []
 ·subst hx
  rw[List.mergeSort_nil] at hK
  exact aA.ofSame hf hb hn (h0 A c) hK H hs
 rcases kV hs with⟨_,g2,_⟩|⟨B,pre,post,rfl,g2,g3,g4⟩
 ·exact absurd g2 hx
 have hfl:∀l:List Int,l.flatMap E.enc=l.map (Value.int .i64):=fun l=>by
  induction l with
  |nil=>rfl
  |cons a l ih=>rw[List.flatMap_cons,hE,ih];rfl
 rw[hfl] at g2
 have hB:=(nG g2).1
 refine⟨⟨fn,hf,hb,hn⟩,fun own w hw=>?_⟩
 obtain⟨arr,fz,k1,k2,k3⟩:=hw.is B _ hB
 have hfz:=k3 rfl
 have hlt:=hw.lt hB
 have hsz:arr.size=pre.length+xs.length+post.length:=by rw[<- Array.length_toList,k2];simp;omega
 have hHo:Holds (Value.int .i64) w B pre.length xs.toArray:=by
  intro j hj
  have hj':j<xs.length:=by simpa using hj
  have hat:arr[pre.length+j]?=some (.int .i64 xs[j]):=by
   rw[<- Array.getElem?_toList,k2,List.append_assoc,List.getElem?_append_right (by omega),List.getElem?_append_left (by simp;omega)]
   simp[hj']
  constructor
  ·simp only[World.cell?,k1]
   simp[hat,hj']
  ·simp only[World.frozen?,k1]
   have hlen:(pre++xs.map (Value.int .i64)++post).length=pre.length+xs.length+post.length:=by simp;omega
   rw[hlen] at hfz
   simp
   omega
 refine(h B pre.length c xs w hHo hlt (by omega)).mono ?_
 rintro x w' ⟨rfl,m,os,rfl⟩
 refine⟨.tuple #[],hupd H B (.cells (pre++(xs.mergeSort fun x y=>decide (x<=y)).flatMap E.enc++post) e true),rfl,⟨_,?_,hK⟩,?_⟩
 ·have hms:(xs.mergeSort fun x y=>decide (x<=y)).length=xs.length:=List.length_mergeSort _
  exact gQ rfl (rZ g2) (by rw[hms];exact g3) (by rw[hms];exact g4)
 ·have hmsz:(xs.mergeSort fun x y=>decide (x<=y)).length=xs.length:=List.length_mergeSort _
  have hcells:(putCells (Value.int .i64) pre.length (xs.mergeSort fun x y=>decide (x<=y)).toArray arr).toList=pre++(xs.mergeSort fun x y=>decide (x<=y)).flatMap E.enc++post:=by
   have hq:=F3 (enc:=Value.int .i64) (cs:=arr.toList) (pre:=pre) (mid:=xs.map (Value.int .i64)) (post:=post) (d:=(xs.mergeSort fun x y=>decide (x<=y)).toArray) (mid':=(xs.mergeSort fun x y=>decide (x<=y)).flatMap E.enc) k2 (by rw[hfl]) (by simp[hmsz])
   rwa[Array.toArray_toList] at hq
  have hheap:(grow (putRow (Value.int .i64) (Sort.ahead w m) B pre.length (xs.mergeSort fun x y=>decide (x<=y)).toArray) os).heap=(w.heap.modify B (onCells (putCells (Value.int .i64) pre.length (xs.mergeSort fun x y=>decide (x<=y)).toArray)))++os:=rfl
  have hold:∀i,i<w.heap.size->i≠B->(grow (putRow (Value.int .i64) (Sort.ahead w m) B pre.length (xs.mergeSort fun x y=>decide (x<=y)).toArray) os).heap[i]?=w.heap[i]?:=fun i hi hne=>by
   rw[hheap,Array.getElem?_append_left (by simpa using hi),Array.getElem?_modify,if_neg (Ne.symm hne)]
  have hnew:(grow (putRow (Value.int .i64) (Sort.ahead w m) B pre.length (xs.mergeSort fun x y=>decide (x<=y)).toArray) os).heap[B]?=some (.cells (putCells (Value.int .i64) pre.length (xs.mergeSort fun x y=>decide (x<=y)).toArray arr) e fz):=by
   rw[hheap,Array.getElem?_append_left (by simpa using hlt),Array.getElem?_modify,if_pos rfl,k1]
   rfl
  have hsize:w.heap.size<=(grow (putRow (Value.int .i64) (Sort.ahead w m) B pre.length (xs.mergeSort fun x y=>decide (x<=y)).toArray) os).heap.size:=by
   rw[hheap];simp
  have hown:=hw.mine B _ hB rfl
  refine⟨⟨fun b q hq=>?_,fun b q hq ho=>?_,fun i hi=>hw.tail i (by omega)⟩,⟨rfl,rfl,rfl,hsize,fun i hi ho=>hold i hi fun he=>ho (he▸hown)⟩,fun b hb hnone=>?_⟩
  ·by_cases hbB:b=B
   ·subst hbB
    rw[kL] at hq
    cases hq
    refine⟨_,fz,hnew,hcells,fun _=>?_⟩
    have:(pre++(xs.mergeSort fun x y=>decide (x<=y)).flatMap E.enc++post).length=(pre++xs.map (Value.int .i64)++post).length:=by rw[hfl];simp[hmsz]
    rw[this]
    exact hfz
   ·rw[jJ _ _ hbB] at hq
    exact(hw.is b q hq).of_heap (hold b (hw.lt hq) hbB)
  ·by_cases hbB:b=B
   ·subst hbB;exact hown
   ·rw[jJ _ _ hbB] at hq
    exact hw.mine b q hq ho
  ·by_cases hbB:b=B
   ·subst hbB;rw[hB] at hnone;cases hnone
   ·rw[jJ _ _ hbB];exact hnone
end Go.Sl
end
namespace Go.Sl
variable {α:Type} {P:Program} {ops:Array Oper} {Q:Fr->List HP->Prop} {a:Fr} {C:List HP} {c r ck:Nat} {gd:Bool} {es:ET} {hist:List (List HP)} {d':Tmp} {d:Option Tmp} {ty t:TypeId} {pos:String} {after:Array Edge} {g:Option (Nat×Bool)} {x:Operand} {ms:List k7}
section
variable {enc:α->Value}
def MG (ks:List Int):List Int:=ks.mergeSort fun x y=>decide (x<=y)
theorem Am (ks:List Int):(MG ks).length=ks.length:=List.length_mergeSort _
theorem U0 {a b:List Int} (h:a.Perm b):MG a=MG b:=by
 have tr:∀a b c:Int,decide (a<=b)=true->decide (b<=c)=true->decide (a<=c)=true:=fun a b c h1 h2=>by simp only[decide_eq_true_eq] at *;omega
 have to:∀a b:Int,(decide (a<=b) || decide (b<=a))=true:=fun a b=>by simp;omega
 refine List.Perm.eq_of_pairwise (le:=fun a b=>decide (a<=b)=true) (fun a b _ _ h1 h2=>by simp only[decide_eq_true_eq] at h1 h2;omega) (List.pairwise_mergeSort tr to a) (List.pairwise_mergeSort tr to b) ?_
 exact((List.mergeSort_perm a _).trans h).trans (List.mergeSort_perm b _).symm
def Qe (l:List (KE α)) (ck:Nat):Prop:=(l.map KE.b).Nodup/\∀e∈l,e.b<ck
theorem Ady {l:List (KE α)} {e:KE α} (h:(l.map KE.b).Nodup) (he:e∈l):(kM enc l).find? (fun z=>z.b == e.b)=some ⟨e.k,enc e.v,e.b⟩:=by
 induction l with
 |nil=>cases he
 |cons z l ih=>
  rw[List.map_cons] at h
  obtain⟨h1,h2⟩:=List.nodup_cons.1 h
  rcases List.mem_cons.1 he with rfl|he
  ·simp[kM]
  ·have:z.b≠e.b:=fun q=>h1 (by rw[q];exact List.mem_map_of_mem he)
   show((⟨z.k,enc z.v,z.b⟩:k7)::kM enc l).find? _=_
   rw[List.find?_cons_of_neg (by simpa using this)]
   exact ih h2 he
def FN (l:List (KE α)) (seen:List Nat):Nat:=(l.filter fun e=>!decide (e.b∈seen)).length
theorem Sc {l:List (KE α)} {seen:List Nat} {e:KE α} (he:e∈l) (hs:e.b ∉ seen):FN l (seen++ [e.b])<FN l seen:=by
 unfold FN
 have h1:(l.filter fun z=>!decide (z.b∈seen++ [e.b]))=(l.filter fun z=>!decide (z.b∈seen)).filter fun z=>!decide (z.b=e.b):=by
  rw[List.filter_filter]
  congr 1
  funext z
  simp[Bool.and_comm,not_or]
 rw[h1]
 have h2:e∈l.filter fun z=>!decide (z.b∈seen):=List.mem_filter.2 ⟨he,by simpa using hs⟩
 exact List.length_filter_lt_length_iff_exists.2 ⟨e,h2,by simp⟩
theorem Tj:∀ {l:List (KE α)} {a b:KE α},(l.map KE.b).Nodup->a∈l->b∈l->a.b=b.b->a=b
 | [],_,_,_,ha,_,_=>by cases ha
 |z::l,a,b,hnd,ha,hb,h=>by
  rw[List.map_cons] at hnd
  obtain⟨g1,g2⟩:=List.nodup_cons.1 hnd
  rcases List.mem_cons.1 ha with h1|h1
  ·rcases List.mem_cons.1 hb with h2|h2
   ·rw[h1,h2]
   ·exact absurd (by rw[<- h1,h];exact List.mem_map_of_mem h2) g1
  ·rcases List.mem_cons.1 hb with h2|h2
   ·exact absurd (by rw[<- h2,<- h];exact List.mem_map_of_mem h1) g1
   ·exact Tj g2 h1 h2 h
theorem Ada {l os:List (KE α)} (h1:(l.map KE.b).Nodup) (h2:(os.map KE.b).Nodup) (h3:∀e∈os,e∈l) (h4:∀e∈l,e.b∈os.map KE.b):os.Perm l:=by
 have nl:l.Nodup:=List.Pairwise.of_map (f:=KE.b) (fun _ _ h e=>h (by rw[e])) h1
 have no:os.Nodup:=List.Pairwise.of_map (f:=KE.b) (fun _ _ h e=>h (by rw[e])) h2
 refine(List.perm_ext_iff_of_nodup no nl).2 fun e=>⟨h3 e,fun he=>?_⟩
 obtain⟨z,hz,hb⟩:=List.mem_map.1 (h4 e he)
 rw[<- Tj h1 (h3 z hz) he hb]
 exact hz
theorem Alh {l os:List (KE α)} (h2:(os.map KE.b).Nodup) (h3:∀e∈os,e∈l):os.length<=l.length:=by
 have no:os.Nodup:=List.Pairwise.of_map (f:=KE.b) (fun _ _ h e=>h (by rw[e])) h2
 exact List.Nodup.length_le_of_subset no h3
end
theorem Vb {H:Hp} (hm:Fa P #[t]=true) (hx:bJ a x=.map (some r)) (hH:H r=some (.obj (.map (ms.map rW).toArray ck))):I7 P ⟨d,.call { callee:=.builtin .len,args:=#[x],argTypes:=#[t] },ty,pos,after,g⟩ a H=some (.int .i64 ms.length):=by
 obtain⟨kt,et,b2⟩:∃kt et,P.underlying t=some (.map kt et):=by
  unfold Fa at hm
  simp only[List.getElem?_toArray,List.getElem?_cons_zero] at hm
  split at hm
  ·rename_i k e hu;exact⟨k,e,hu⟩
  ·cases hm
 have hlen:(Builtin.len_ #[t] ty #[.map (some r)]).rd P H=some (.int .i64 (Int.ofNat ms.length)):=by
  unfold Builtin.len_
  simp only[List.getElem?_toArray,List.getElem?_cons_zero]
  rw[fW,rP b2,Option.bind_some]
  simp only[fW]
  have hg:(getObj r).rd P H=some (Obj.map (ms.map rW).toArray ck):=by
   simp only[getObj,Sem.rd,hH]
  rw[hg,Option.bind_some]
  simp only[yK]
  simp[goInt]
 unfold I7
 simp only[execOp,resolve,List.map_toArray,List.map_cons,List.map_nil,hx,fW]
 rw[yK,Option.bind_some]
 simp only[invoke,builtin,fW]
 rw[hlen]
 rfl
theorem HJ {R:List HP} (h:cU gd (.int .i64 (ms.length:Nat)) fun v=>aM P ops Q es hist (kH a d' v) C) (hx:bJ a x=.map (some r):=by exact rfl)
  (hp:aS (mp r ms ck) C R:=by((repeat (first|exact aS.here|apply aS.there)) <;> exact aS.here)) (hm:Fa P #[t]=true:=by exact rfl) (hk:kd P (.call { callee:=.builtin .len,args:=#[x],argTypes:=#[t] })=.load:=by exact rfl)
  (hh:hist.take c= []:=by exact rfl) (hw:bD ops ⟨some d',.call { callee:=.builtin .len,args:=#[x],argTypes:=#[t] },ty,pos,after,g⟩ a=true:=by exact rfl):
  aM P ops Q (ET.cons (c,gd,⟨some d',.call { callee:=.builtin .len,args:=#[x],argTypes:=#[t] },ty,pos,after,g⟩) es) hist a C:=
 P6 hk hw (fun _ hs=>Vb hm hx (pC rfl (hp.sats hs))) (by rw[hh];trivial) h
theorem aA.fact {f:FuncId} {args:Array Value} {K:Value->List HP->Prop} {p:Prop} (hp:∀H,bZ C H->p) (h:p->aA P f args C K):aA P f args C K:=fun H hs=>h (hp H hs) H hs
end Go.Sl
