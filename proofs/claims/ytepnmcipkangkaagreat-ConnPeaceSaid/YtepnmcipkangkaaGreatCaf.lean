/- A part of the proof: lemmas; each with the conditions that it states. -/
import Derived.Test.YtepnmcipkangkaaGreatCae
set_option linter.unusedVariables false
set_option linter.unusedSimpArgs false
section
namespace Go.Sl
variable {P:Program} {t et ty:TypeId} {H:Hp} {kd:IntKind} {n:Int} {a:Fr} {d:Option Tmp} {pos:String} {after:Array Edge} {g:Option (Nat×Bool)} {x y z:Operand} {r ck i since:Nat} {seen:List Nat}
structure l7 where
 k:Int
 v:Value
 b:Nat
variable {es:List l7}
def tF (e:l7):MapEntry:= { key:=.int .i64 e.k,val:=e.v,born:=e.b }
def mp (r:Nat) (es:List l7) (ck:Nat):HP:=fun H=>H r=some (.obj (.map (es.map tF).toArray ck))
def DG (r m since:Nat) (seen:List Nat) (last:Nat):HP:=fun H=>H r=some (.obj (.mapIter (some m) since seen.toArray last))
def jT (n:Int):List l7->Nat->Option (Nat×Value)
 | [],_=>none
 |e::es,i=>if n == e.k then some (i,e.v) else jT n es (i+1)
def Ot (n:Int) (v:Value):List l7->List l7
 | []=> []
 |e::es=>if n == e.k then⟨e.k,v,e.b⟩::es else e::Ot n v es
def G8 (n:Int):List l7->List l7
 | []=> []
 |e::es=>if n == e.k then es else e::G8 n es
theorem BE {n:Int}:∀ {es:List l7} {i j:Nat} {v:Value},jT n es i=some (j,v)->i<=j/\j - i<es.length/\∃e,es[j - i]?=some e/\e.k=n/\e.v=v
 | [],_,_,_,h=>by cases h
 |e::es,i,j,v,h=>by
  unfold jT at h
  split at h
  ·rename_i he
   cases h
   have:=eq_of_beq he
   exact⟨Nat.le_refl _,by simp,e,by simp,this.symm,rfl⟩
  ·obtain⟨h1,h2,e',h3,h4,h5⟩:=BE h
   refine⟨by omega,by simp;omega,e',?_,h4,h5⟩
   rw[show j - i=(j - (i+1))+1 by omega]
   simpa using h3
theorem GE {n:Int} {w:Value}:∀ {es:List l7} {i j:Nat} {v:Value},jT n es i=some (j,v)->(es.map tF).modify (j - i) (fun e=> { key:=.int .i64 n,val:=w,born:=e.born })=(Ot n w es).map tF
 | [],_,_,_,h=>by cases h
 |e::es,i,j,v,h=>by
  have hj:=(BE h).1
  unfold jT at h
  split at h
  ·rename_i he
   cases h
   have:=eq_of_beq he
   subst this
   simp[Ot,tF]
  ·rename_i he
   have h1:=(BE h).1
   rw[show j - i=(j - (i+1))+1 by omega]
   simp only[List.map_cons,List.modify_succ_cons,Ot,he]
   rw[GE h]
   rfl
theorem JU {n:Int}:∀ {es:List l7} {i j:Nat} {v:Value},jT n es i=some (j,v)->(es.map tF).eraseIdx (j - i)=(G8 n es).map tF
 | [],_,_,_,h=>by cases h
 |e::es,i,j,v,h=>by
  unfold jT at h
  split at h
  ·rename_i he
   cases h
   simp[G8,he]
  ·rename_i he
   have h1:=(BE h).1
   rw[show j - i=(j - (i+1))+1 by omega]
   simp only[List.map_cons,List.eraseIdx_cons_succ,G8,he]
   rw[JU h]
   rfl
theorem Jt {kd:IntKind} {n:Int}:∀(es:List l7) (i:Nat),Instr.findNow (.int kd) (.int .i64 n) (es.map tF) i=some (jT n es i)
 | [],_=>rfl
 |e::es,i=>by
  simp only[List.map_cons,Instr.findNow,tF,Instr.sameNow,if_true,jT]
  cases h:(n == e.k) with
  |true=>rfl
  |false=>simpa using Jt es (i+1)
def Ku (P:Program) (t:TypeId):Option TypeId:=match P.underlying t with
 |some (.map kt et)=>match P.underlying kt with
  |some (.int _)=>some et
  |_=>none
 |_=>none
theorem BZ (h:Ku P t=some et):∃kt kd,P.underlying t=some (.map kt et)/\P.underlying kt=some (.int kd):=by
 unfold Ku at h
 split at h
 ·split at h
  ·cases h;exact⟨_,_,‹_›,‹_›⟩
  ·cases h
 ·cases h
def WK (P:Program) (t:TypeId):Option Value:=match P.info? t with
 |some i=>i.zero
 |none=>none
theorem Aec {z:Value} (h:WK P t=some z):(zeroValue t).pr P=some z:=by
 unfold WK at h
 split at h
 ·rename_i i hi
  simp only[zeroValue,aT,d7 hi,Option.bind_some,h];rfl
 ·cases h
theorem Bn {b:Bool} (h:P.underlying t=some (.int kd)):(Instr.checkKey b 10000 t (.int .i64 n)).pr P=some ():=by
 rw[show(10000:Nat)=9999+1 from rfl,Instr.checkKey,aT,aK h]
 rfl
theorem DD (h:P.underlying t=some (.int kd)):(Instr.findKey t (.int .i64 n) (es.map tF)).pr P=some (jT n es 0):=by
 unfold Instr.findKey
 rw[aT,aK h]
 simp only[Option.bind_some,Jt]
 rfl
section
variable {k:Value->Hp->Prop}
theorem Sv (hk:∀r,H r=none->k (.map (some r)) (hupd H r (.obj (.map #[] 0)))):mS P ⟨d,.makeMap t none,ty,pos,after,g⟩ a H k:=by
 refine fW ?_
 simp only[execOp,Instr.makeMap,aJ,Option.map_none]
 intro r hr
 exact hk r hr
def okV (ok:Bool) (v:Value) (b:Bool):Value:=if ok then .tuple #[v,.bool b] else v
def I0 (ok:Bool) (zv:Value):Option (Nat×Value)->Value
 |some (_,v)=>okV ok v true
 |none=>okV ok zv false
theorem W9 {zv:Value} {ok:Bool} (hm:Ku P t=some et) (hz:WK P et=some zv) (hx:bL a x=.map (some r)) (hy:bL a y=.int .i64 n) (hH:H r=some (.obj (.map (es.map tF).toArray ck)))
  (hk:k (I0 ok zv (jT n es 0)) H):mS P ⟨d,.lookup t x y ok,ty,pos,after,g⟩ a H k:=by
 obtain⟨kt,kd,h1,h2⟩:=BZ hm
 refine fW ?_
 simp only[execOp,hx,hy,Instr.lookup,aJ]
 rw[aP (aK h1)]
 simp only[aJ]
 refine⟨_,hH,?_⟩
 simp only[Sem.ev]
 rw[pure_bind,aJ,aP (Bn h2),aJ,aP (DD h2)]
 cases hf:jT n es 0 with
 |some p=>
  rw[hf] at hk
  cases ok <;> exact hk
 |none=>
  rw[hf] at hk
  simp only[aJ]
  rw[aP (Aec hz)]
  cases ok <;> exact hk
theorem MC (j:IntKind) (n:Int):Instr.sameBits 10000 (.int j n) (.int j n)=true:=by
 rw[show(10000:Nat)=9999+1 from rfl]
 simp[Instr.sameBits]
theorem MV {v:Value} (hm:Ku P t=some et) (hx:bL a x=.map (some r)) (hy:bL a y=.int .i64 n) (hv:bL a z=v) (hH:H r=some (.obj (.map (es.map tF).toArray ck)))
  (hk:k undef (hupd H r (.obj (match jT n es 0 with|some _=>Obj.map ((Ot n v es).map tF).toArray ck|none=>Obj.map ((es++ [(⟨n,v,ck⟩:l7)]).map tF).toArray (ck+1))))):mS P ⟨d,.mapUpdate t x y z,ty,pos,after,g⟩ a H k:=by
 obtain⟨kt,kd,h1,h2⟩:=BZ hm
 refine fW ?_
 simp only[execOp,hx,hy,hv,Instr.mapUpdate,aJ]
 rw[aP (aK h1)]
 simp only[aJ]
 refine⟨_,hH,?_⟩
 simp only[Sem.ev,aJ]
 rw[aP (Bn h2),aP (DD h2)]
 cases hf:jT n es 0 with
 |some p=>
  obtain⟨j,w⟩:=p
  rw[hf] at hk
  obtain⟨_,_,e,he,hek,_⟩:=BE hf
  simp only[Nat.sub_zero] at he
  simp only[aJ]
  have hkey:((Option.map (fun e=>MapEntry.key e) ((List.map tF es).toArray[j]?)).getD (.int .i64 n))=.int .i64 n:=by
   simp[he,tF,hek]
  rw[hkey]
  rw[aP (show(Instr.keyThatStays (.int .i64 n) (.int .i64 n)).pr P=some (.int .i64 n) by unfold Instr.keyThatStays;rw[MC];rfl)]
  refine⟨⟨_,hH⟩,rfl,?_⟩
  have hmod:=GE (w:=v) hf
  rw[Nat.sub_zero] at hmod
  have e1:(List.map tF es).toArray.modify j (fun e=> { key:=.int .i64 n,val:=v,born:=e.born })=((Ot n v es).map tF).toArray:=by
   apply Array.ext'
   simpa using hmod
  rw[e1]
  exact hk
 |none=>
  rw[hf] at hk
  refine⟨⟨_,hH⟩,rfl,?_⟩
  have e1:(List.map tF es).toArray.push { key:=.int .i64 n,val:=v,born:=ck }=((es++ [(⟨n,v,ck⟩:l7)]).map tF).toArray:=by
   apply Array.ext'
   simp[tF]
  rw[e1]
  exact hk
theorem ZD {ts1:TypeId} (hm:Ku P t=some et) (hx:bL a x=.map (some r)) (hy:bL a y=.int .i64 n) (hH:H r=some (.obj (.map (es.map tF).toArray ck)))
  (hk:k (.tuple #[]) (hupd H r (.obj (.map ((G8 n es).map tF).toArray ck)))):mS P ⟨d,.call { callee:=.builtin .delete,args:=#[x,y],argTypes:=#[t,ts1] },ty,pos,after,g⟩ a H k:=by
 obtain⟨kt,kd,h1,h2⟩:=BZ hm
 refine fW ?_
 simp only[execOp,resolve,List.map_toArray,List.map_cons,List.map_nil,hx,hy]
 rw[aJ,aP (show(pure _:Sem Deferred).pr P=some _ from rfl)]
 simp only[invoke,builtin,aJ]
 unfold Builtin.delete_
 simp only[List.getElem?_toArray,List.getElem?_cons_zero,List.getElem?_cons_succ,aJ]
 rw[aP (aK h1)]
 simp only[aJ]
 refine⟨_,hH,?_⟩
 simp only[Sem.ev,aJ]
 rw[aP (Bn h2),aP (DD h2)]
 cases hf:jT n es 0 with
 |some p=>
  obtain⟨j,w⟩:=p
  refine⟨⟨_,hH⟩,rfl,?_⟩
  have hmod:=JU hf
  rw[Nat.sub_zero] at hmod
  have e1:(List.map tF es).toArray.eraseIdxIfInBounds j=((G8 n es).map tF).toArray:=by
   apply Array.ext'
   rw[<- hmod]
   simp
  rw[e1]
  exact hk
 |none=>
  refine⟨⟨_,hH⟩,rfl,?_⟩
  have e1:G8 n es=es:=by
   have key:∀(es:List l7) (i:Nat),jT n es i=none->G8 n es=es:=by
    intro es
    induction es with
    |nil=>intro _ _;rfl
    |cons e es ih=>
     intro i h
     unfold jT at h
     split at h
     ·cases h
     ·rename_i he
      simp only[G8,he]
      rw[ih _ h]
      rfl
   exact key es 0 hf
  rw[e1] at hk
  exact hk
theorem Ab8 (hm:Ku P t=some et) (hx:bL a x=.map (some r)) (hH:H r=some (.obj (.map (es.map tF).toArray ck)))
  (hk:∀i,H i=none->k (.pointer (some ⟨i,0,none⟩)) (hupd H i (.obj (.mapIter (some r) ck #[] ck)))):mS P ⟨d,.range t x,ty,pos,after,g⟩ a H k:=by
 obtain⟨kt,kd,h1,h2⟩:=BZ hm
 refine fW ?_
 simp only[execOp,Instr.range,hx,aJ]
 rw[aP (aK h1)]
 simp only[aJ]
 refine⟨_,hH,?_⟩
 simp only[Sem.ev]
 intro i hi
 exact hk i hi
theorem Jf {n:Nat} {q:Nat->Hp->Prop} (hn:1<=n) (h:∀j,j<n->q j H):(choose (.mapNext n)).ev P H q:=by
 unfold choose
 simp only[Sem.ev]
 split
 ·exact h 0 (by omega)
 ·exact fun t=>h _ (Nat.mod_lt _ (by omega))
theorem Air {last:Nat} (hx:bL a x=.pointer (some ⟨i,0,none⟩)) (hI:H i=some (.obj (.mapIter (some r) since seen.toArray last))) (hH:H r=some (.obj (.map (es.map tF).toArray ck)))
  (hold:∀e∈es,e.b<since)
  (h1:∀e∈es,e.b ∉ seen->k (.tuple #[.bool true,.int .i64 e.k,e.v]) (hupd H i (.obj (.mapIter (some r) since (seen++ [e.b]).toArray ck))))
  (h0:(∀e∈es,e.b∈seen)->k (.tuple #[.bool false]) H) (hlast:seen= []\/es= []\/∃e∈es,e.b<last):mS P ⟨d,.next x false,ty,pos,after,g⟩ a H k:=by
 refine fW ?_
 simp only[execOp,Instr.next,hx,aJ]
 refine⟨_,hI,?_⟩
 simp only[Sem.ev,aJ]
 refine⟨_,hH,?_⟩
 simp only[Sem.ev]
 have hcond:¬((!seen.toArray.isEmpty && !(List.map tF es).toArray.isEmpty && (List.map tF es).toArray.all fun x=>decide (x.born≥last))=true):=by
  intro h
  rcases hlast with rfl|rfl|⟨e,he,hl⟩
  ·simp at h
  ·simp at h
  ·simp only[Bool.and_eq_true,Array.all_eq_true] at h
   obtain⟨j,hj,hje⟩:=List.mem_iff_getElem.1 he
   have h3:=h.2 j (by simpa using hj)
   simp[tF,hje] at h3
   omega
 rw[if_neg hcond]
 have hA:Array.filter (fun x=>decide (x.born<since)) (Array.filter (fun e=>!seen.toArray.contains e.born) (List.map tF es).toArray)=((es.filter fun e=>!seen.contains e.b).map tF).toArray:=by
  apply Array.ext'
  simp only[Array.toList_filter]
  rw[List.filter_map,List.filter_map,List.filter_filter]
  congr 1
  apply List.filter_congr
  intro e he
  have:=hold e he
  have hd:decide ((tF e).born<since)=true:=decide_eq_true this
  simp only[Function.comp,hd,Bool.true_and]
  simp[tF]
 have hB:Array.filter (fun x=>decide (x.born≥since)) (Array.filter (fun e=>!seen.toArray.contains e.born) (List.map tF es).toArray)=#[]:=by
  apply Array.ext'
  simp only[Array.toList_filter]
  rw[List.filter_map,List.filter_map,List.filter_filter]
  have:List.filter (fun a=>((fun x=>decide (x.born≥since)) ∘ tF) a && ((fun e=>!seen.toArray.contains e.born) ∘ tF) a) es= []:=by
   rw[List.filter_eq_nil_iff]
   intro e he
   have:=hold e he
   have hd:decide ((tF e).born≥since)=false:=decide_eq_false (Nat.not_le.2 this)
   simp[Function.comp,hd]
  rw[this]
  rfl
 simp only[hA,hB]
 generalize hL:(es.filter fun e=>!seen.contains e.b)=L
 have hmem:∀e∈L,e∈es/\e.b ∉ seen:=by
  intro e he
  rw[<- hL] at he
  simpa using List.mem_filter.1 he
 rw[aJ]
 cases L with
 |nil=>
  have hc:((if((List.map tF []).toArray).isEmpty=true then #[none] else #[])++Array.map some ((List.map tF []).toArray++#[]):Array (Option MapEntry))=#[none]:=by
   apply Array.ext'
   simp
  rw[hc]
  refine Jf (n:=1) (by omega) fun j hj=>?_
  obtain rfl:j=0:=by omega
  refine h0 fun e he=>?_
  by_cases hs:e.b∈seen
  ·exact hs
  ·have:e∈es.filter fun e=>!seen.contains e.b:=List.mem_filter.2 ⟨he,by simpa using hs⟩
   rw[hL] at this
   cases this
 |cons e0 L=>
  have hc:((if((List.map tF (e0::L)).toArray).isEmpty=true then #[none] else #[])++Array.map some ((List.map tF (e0::L)).toArray++#[]):Array (Option MapEntry))=((e0::L).map fun e=>some (tF e)).toArray:=by
   apply Array.ext'
   simp
  rw[hc]
  refine Jf (n:=(((e0::L).map fun e=>some (tF e)).toArray).size) (by simp) fun j hj=>?_
  have hj2:j<(e0::L).length:=by simpa using hj
  have hg:((e0::L).map fun e=>some (tF e)).toArray[j]?=some (some (tF (e0::L)[j])):=by
   rw[List.getElem?_toArray,List.getElem?_map,List.getElem?_eq_getElem hj2]
   rfl
  rw[hg]
  obtain⟨m1,m2⟩:=hmem _ (List.getElem_mem hj2)
  refine⟨⟨_,hI⟩,rfl,?_⟩
  have:=h1 _ m1 m2
  have e2:seen.toArray.push (tF (e0::L)[j]).born=(seen++ [((e0::L)[j]).b]).toArray:=by
   apply Array.ext';simp[tF]
  rw[e2]
  exact this
theorem Aa2 {b:Nat} {e:l7} (hx:bL a x=.pointer (some ⟨i,0,none⟩)) (hI:H i=some (.obj (.mapIter (some r) since (seen++ [b]).toArray ck))) (hH:H r=some (.obj (.map (es.map tF).toArray ck)))
  (he:es.find? (fun e=>e.b == b)=some e) (hk:k (.tuple #[.int .i64 e.k,e.v]) H):mS P ⟨d,.entry x,ty,pos,after,g⟩ a H k:=by
 refine fW ?_
 simp only[execOp,Instr.entry,hx,aJ]
 refine⟨_,hI,?_⟩
 simp only[Sem.ev]
 have hb:(seen++ [b]).toArray.back?=some b:=by simp
 rw[hb]
 simp only[aJ]
 refine⟨_,hH,?_⟩
 have hf:(List.map tF es).toArray.find? (fun x=>x.born == b)=some (tF e):=by
  rw[List.find?_toArray,List.find?_map]
  have:((fun x=>x.born == b) ∘ tF)=fun e=>e.b == b:=by funext e;rfl
  rw[this,he]
  rfl
 have hne:(ck != ck)=false:=by simp
 simp only[Sem.ev,hne,hf]
 exact hk
end
end Go.Sl
namespace Go.Sl
variable {r c ck i since:Nat} {b:uE} {C R:List HP} {H:Hp} {P:Program} {ops:Array Oper} {Q:Fr->List HP->Prop} {a:Fr} {gd:Bool} {es:ET} {hist:List (List HP)} {d':Tmp} {v:Value} {ty t et:TypeId} {pos:String} {after:Array Edge} {g:Option (Nat×Bool)} {x y z:Operand} {ms ms':List l7} {n:Int} {seen:List Nat}
theorem rA (ho:b.own=true) (hs:bZ ((fun H=>H r=some b)::C) H):H r=some b:=by
 obtain⟨H1,H2,hc,h1,h2,ha,hs⟩:=hs
 obtain⟨b',hb,l⟩:=h1 r b ha
 rw[uE.le_own l ho] at hb
 exact hb
theorem xB {b':uE} (ho:b.own=true) (hs:bZ ((fun H=>H r=some b)::C) H):bZ ((fun H=>H r=some b')::C) (hupd H r b'):=by
 obtain⟨H1,H2,hc,h1,h2,ha,hs⟩:=hs
 have hn:H2 r=none:=by
  cases hx:H2 r with
  |none=>rfl
  |some x=>have:=(hc r _ x ha hx).1;rw[ho] at this;cases this
 refine⟨nR r b',H2,(fun i b x hb hx=>by rw[(D5 hb).1,hn] at hx;cases hx),EA (lA _ _ _) (uE.le_refl _),fun i b hb=>?_,yU _ _,hs⟩
 rw[kH _ _ (fun e=>by subst e;rw[hn] at hb;cases hb)]
 exact h2 i b hb
theorem GO (hr:H r=none) (hs:bZ C H):bZ ((fun H=>H r=some b)::C) (hupd H r b):=
 ⟨nR r b,H,(fun B b x hb hx=>by rw[(D5 hb).1,hr] at hx;cases hx),EA (lA _ _ _) (uE.le_refl _),
  (fun B b hb=>⟨b,by rw[kH _ _ (fun e=>by subst e;rw[hr] at hb;cases hb)];exact hb,b.le_refl⟩),yU _ _,hs⟩
theorem Fv (h:∀r,cL gd (.map (some r)) fun v=>aN P ops Q es (C::hist) (lT a d' v) (mp r [] 0::C)) (hw:bE ops ⟨some d',.makeMap t none,ty,pos,after,g⟩ a=true:=by exact rfl):
  aN P ops Q (ET.cons (c,gd,⟨some d',.makeMap t none,ty,pos,after,g⟩) es) hist a C:=
 x9 rfl hw fun _ hH=>Sv fun r hr=>⟨_,GO hr hH,h r⟩
theorem j0 {zv w:Value} {ok:Bool} (h:cL gd w fun v=>aN P ops Q es (C::hist) (lT a d' v) C) (hx:bL a x=.map (some r):=by exact rfl) (hy:bL a y=.int .i64 n:=by exact rfl)
  (hp:aW (mp r ms ck) C R:=by((repeat (first|exact aW.here|apply aW.there)) <;> exact aW.here)) (hm:Ku P t=some et:=by exact rfl) (hz:WK P et=some zv:=by exact rfl) (hv:I0 ok zv (jT n ms 0)=w:=by first|assumption|exact rfl)
  (hw:bE ops ⟨some d',.lookup t x y ok,ty,pos,after,g⟩ a=true:=by exact rfl):aN P ops Q (ET.cons (c,gd,⟨some d',.lookup t x y ok,ty,pos,after,g⟩) es) hist a C:=
 x9 rfl hw fun H hH=>W9 hm hz hx hy (rA rfl (hp.sats hH)) (by rw[hv];exact⟨C,hH,h⟩)
def Nw (n:Int) (v:Value) (ms:List l7) (ck:Nat):List l7×Nat:=match jT n ms 0 with
 |some _=>(Ot n v ms,ck)
 |none=>(ms++ [⟨n,v,ck⟩],ck+1)
theorem lN {ck':Nat} {u:Value} (h:aN P ops Q es (C::hist) a (mp r ms' ck'::R)) (hx:bL a x=.map (some r):=by exact rfl) (hy:bL a y=.int .i64 n:=by exact rfl) (hu:iW (bL a z)=some u:=by exact rfl)
  (hp:aW (mp r ms ck) C R:=by((repeat (first|exact aW.here|apply aW.there)) <;> exact aW.here)) (hm:Ku P t=some et:=by exact rfl) (hv:Nw n u ms ck=(ms',ck'):=by first|assumption|exact rfl)
  (hw:bE ops ⟨none,.mapUpdate t x y z,ty,pos,after,g⟩ a=true:=by exact rfl):aN P ops Q (ET.cons (c,gd,⟨none,.mapUpdate t x y z,ty,pos,after,g⟩) es) hist a C:=
 Agq (hw:=hw) fun H hH=>by
  have h1:=hp.sats hH
  refine MV hm hx hy (gV hu) (rA rfl h1) ?_
  unfold Nw at hv
  cases hf:jT n ms 0 with
  |some p=>rw[hf] at hv;cases hv;exact⟨_,xB rfl h1,h⟩
  |none=>rw[hf] at hv;cases hv;exact⟨_,xB rfl h1,h⟩
theorem K3 {ts1:TypeId} (h:aN P ops Q es (C::hist) a (mp r ms' ck::R)) (hx:bL a x=.map (some r):=by exact rfl) (hy:bL a y=.int .i64 n:=by exact rfl)
  (hp:aW (mp r ms ck) C R:=by((repeat (first|exact aW.here|apply aW.there)) <;> exact aW.here)) (hm:Ku P t=some et:=by exact rfl) (hv:G8 n ms=ms':=by first|assumption|exact rfl)
  (hw:bE ops ⟨none,.call { callee:=.builtin .delete,args:=#[x,y],argTypes:=#[t,ts1] },ty,pos,after,g⟩ a=true:=by exact rfl):aN P ops Q (ET.cons (c,gd,⟨none,.call { callee:=.builtin .delete,args:=#[x,y],argTypes:=#[t,ts1] },ty,pos,after,g⟩) es) hist a C:=
 Agq (hw:=hw) fun H hH=>by
  subst hv
  exact ZD hm hx hy (rA rfl (hp.sats hH)) ⟨_,xB rfl (hp.sats hH),h⟩
theorem Akd (h:∀i,cL gd (.pointer (some ⟨i,0,none⟩)) fun v=>aN P ops Q es (C::hist) (lT a d' v) (DG i r ck [] ck::C)) (hx:bL a x=.map (some r):=by exact rfl)
  (hp:aW (mp r ms ck) C R:=by((repeat (first|exact aW.here|apply aW.there)) <;> exact aW.here)) (hm:Ku P t=some et:=by exact rfl)
  (hw:bE ops ⟨some d',.range t x,ty,pos,after,g⟩ a=true:=by exact rfl):aN P ops Q (ET.cons (c,gd,⟨some d',.range t x,ty,pos,after,g⟩) es) hist a C:=
 x9 rfl hw fun H hH=>Ab8 hm hx (rA rfl (hp.sats hH)) fun i hi=>⟨_,GO hi hH,h i⟩
theorem Aof {last:Nat}
  (h1:∀e∈ms,e.b ∉ seen->cL gd (.tuple #[.bool true,.int .i64 e.k,e.v]) fun v=>aN P ops Q es (C::hist) (lT a d' v) (DG i r since (seen++ [e.b]) ck::R))
  (h0:(∀e∈ms,e.b∈seen)->cL gd (.tuple #[.bool false]) fun v=>aN P ops Q es (C::hist) (lT a d' v) C)
  (hx:bL a x=.pointer (some ⟨i,0,none⟩)) (hp:aW (DG i r since seen last) C R) (hq:∃R',aW (mp r ms ck) C R')
  (hold:∀e∈ms,e.b<since) (hlast:seen= []\/ms= []\/∃e∈ms,e.b<last)
  (hw:bE ops ⟨some d',.next x false,ty,pos,after,g⟩ a=true):aN P ops Q (ET.cons (c,gd,⟨some d',.next x false,ty,pos,after,g⟩) es) hist a C:=
 x9 rfl hw fun H hH=>by
  obtain⟨R',hq⟩:=hq
  exact Air hx (rA rfl (hp.sats hH)) (rA rfl (hq.sats hH)) hold (fun e he hn=>⟨_,xB rfl (hp.sats hH),h1 e he hn⟩) (fun hs=>⟨C,hH,h0 hs⟩) hlast
theorem Vr {b:Nat} {e:l7} {R':List HP} (h:cL gd (.tuple #[.int .i64 e.k,e.v]) fun v=>aN P ops Q es (C::hist) (lT a d' v) C)
  (hx:bL a x=.pointer (some ⟨i,0,none⟩):=by exact rfl) (hp:aW (DG i r since (seen++ [b]) ck) C R:=by((repeat (first|exact aW.here|apply aW.there)) <;> exact aW.here)) (hq:aW (mp r ms ck) C R':=by((repeat (first|exact aW.here|apply aW.there)) <;> exact aW.here))
  (he:ms.find? (fun e=>e.b == b)=some e:=by first|assumption|exact rfl) (hw:bE ops ⟨some d',.entry x,ty,pos,after,g⟩ a=true:=by exact rfl):aN P ops Q (ET.cons (c,gd,⟨some d',.entry x,ty,pos,after,g⟩) es) hist a C:=
 x9 rfl hw fun H hH=>Aa2 hx (rA rfl (hp.sats hH)) (rA rfl (hq.sats hH)) he ⟨C,hH,h⟩
end Go.Sl
namespace Go.Sl
variable {P:Program} {Q:Exit->Fr->List HP->Prop} {a:Fr} {C:List HP} {id:Nat} {ol:List Oper} {es:ET}
def Acx:Nat->Option Nat
 |0=>some 0
 |m+1=>some (m+1)
theorem MQ {n m:Nat} (h:Acx n=some m):n=m:=by
 cases n <;> (unfold Acx at h;cases h;rfl)
def HQ (acc:List Nat) (len:Nat):List Edge->Nat->Option Nat
 | [],s=>Acx s
 |e::l,s=>match Region.binds .any e with
  |true=>match Acx (s ||| 2 ^ e.on ||| (if e.on<len then acc.getD (len - 1 - e.on) 0 else 0)) with
   |some n=>HQ acc len l n
   |none=>none
  |false=>HQ acc len l s
def XA:List Oper->List Nat->Nat->Option (List Nat)
 | [],acc,_=>some acc
 |o::l,acc,len=>match HQ acc len o.after.toList 0 with
  |some n=>match Acx (len+1) with
   |some m=>XA l (n::acc) m
   |none=>none
  |none=>none
theorem Afb (acc:List Nat) (i:Nat):(if i<acc.length then acc.getD (acc.length - 1 - i) 0 else 0)=acc.reverse.toArray.getD i 0:=by
 rw[Array.getD_eq_getD_getElem?,List.getElem?_toArray]
 by_cases h:i<acc.length
 ·rw[if_pos h,List.getElem?_reverse h,List.getD_eq_getElem?_getD]
 ·rw[if_neg h,List.getElem?_eq_none (by simpa using h)]
  rfl
theorem Fo {acc:List Nat}:∀ {l:List Edge} {s n:Nat},HQ acc acc.length l s=some n->l.foldl (fun s e=>if Region.binds .any e then s ||| 2 ^ e.on ||| acc.reverse.toArray.getD e.on 0 else s) s=n
 | [],s,n,h=>MQ h
 |e::l,s,n,h=>by
  unfold HQ at h
  rw[List.foldl_cons]
  split at h
  ·rename_i hb
   split at h
   ·rename_i k hk
    have:=MQ hk
    rw[Afb] at this
    rw[if_pos hb,this]
    exact Fo h
   ·cases h
  ·rename_i hb
   rw[if_neg (by rw[hb];simp)]
   exact Fo h
theorem Wk:∀ {l:List Oper} {acc r:List Nat},XA l acc acc.length=some r->l.foldl (fun acc o=>acc.push (o.after.foldl (fun s e=>if Region.binds .any e then s ||| 2 ^ e.on ||| acc.getD e.on 0 else s) 0)) acc.reverse.toArray=r.reverse.toArray
 | [],acc,r,h=>by cases h;rfl
 |o::l,acc,r,h=>by
  unfold XA at h
  split at h
  ·rename_i n hn
   split at h
   ·rename_i m hm
    have e1:=Fo hn
    have e2:=MQ hm
    subst e2
    rw[List.foldl_cons,<- Array.foldl_toList,e1]
    have:=Wk (acc:=n::acc) h
    rw[<- this]
    congr 1
    simp
   ·cases h
  ·cases h
theorem Xe {ops:Array Oper} {r:List Nat} (h:XA ops.toList [] 0=some r):Region.before ops=r.reverse.toArray:=by
 unfold Region.before
 rw[<- Array.foldl_toList]
 exact Wk (acc:= []) h
theorem Ajp {l:List (Nat×Nat)} {bl br:List Nat} (hb:XA ol [] 0=some br) (hr:br.reverse=bl) (hl:Dq (LK P ol.toArray bl.toArray)=some l) (hc:wS P ol.toArray bl.toArray l=true) (he:Kg ol.toArray l=some es)
  (h:aN P ol.toArray (Q .normal) es [] a C):fL P (.region id ol.toArray true) Q a C:=by
 have e:Region.before ol.toArray=bl.toArray:=by rw[<- hr];exact Xe hb
 exact Na (by rw[e];exact hl) (by rw[e];exact hc) he h
end Go.Sl
namespace Go.Sl
theorem aY {C C':List HP} (he:aG C C':=by((iterate 30 (try(first|exact aG.refl _|exact aG.nil|(apply aG.pick;focus ((repeat (first|exact aW.here|apply aW.there)) <;> exact aW.here))|(apply aG.pickP;focus ((repeat (first|exact pers_ro _ _ _|exact pZ _ _ _|exact pers_pure _|refine pers_sep ?_ ?_|refine pers_ex fun _=>?_)) <;> exact pers_pure _);focus ((repeat (first|exact aW.here|apply aW.there)) <;> exact aW.here))|(apply aG.pure;focus (first|assumption|exact rfl|omega))|apply aG.nilrow'|apply aG.ex|apply aG.sep|apply aG.drop))) <;> exact aG.nil)):aG C C':=he
theorem lL {α:Type} {C:List HP} {A:Option Addr} {E:u6 α} {xs:List α} (hv:dW C A E xs:=by((repeat (first|exact fT|exact lH|exact wT|assumption|apply bN)) <;> exact fT)):dW C A E xs:=hv
end Go.Sl
end
namespace Go.Sl
variable {p X Y:Prop} {α:Type} {P:Program} {es:ET} {a:Fr} {C:List HP} {Q:Exit->Fr->List HP->Prop} {id:Nat} {ol:List Oper} {l:List (Nat×Nat)}
structure BrH (p:Prop):Prop where
 h:p
theorem bh (f:p->X):BrH p->X:=fun h=>f h.h
structure EqS {α:Type} (a b:α):Prop where
 h:a=b
theorem aE {a b:α} (f:a=b->X):EqS a b->X:=fun h=>f h.h
theorem jC {E:u6 α} {xs:List α} {ops:Array Oper} {Q:Fr->List HP->Prop} {hist:List (List HP)} {gd:Bool} {d':Nat} {c:Nat} {t:TypeId} {x y:Operand} {ty:TypeId} {pos:String} {after:Array Edge} {g:Option (Nat×Bool)} {A:Option Addr} {n cp sz:Nat} {k:IntKind} {j:Int} (h:∀B off,EqS A (some ⟨B,off,none⟩)->cL gd (.pointer (some ⟨B,off+j.toNat * sz,none⟩)) fun v=>aN P ops Q es hist (lT a d' v) C)
  (hx:bL a x=.slice A n cp:=by exact rfl) (hy:bL a y=.int k j:=by exact rfl) (ht:uC P t=some sz:=by exact rfl) (hv:dW C A E xs:=by((repeat (first|exact fT|exact lH|exact wT|assumption|apply bN)) <;> exact fT))
  (hn:xs.length=n:=by first|exact rfl|assumption|omega) (h0:0<=j:=by first|omega|assumption) (h1:j<n:=by first|omega|assumption) (hw:bE ops ⟨some d',.indexAddr t x y,ty,pos,after,g⟩ a=true:=by exact rfl):
  aN P ops Q (ET.cons (c,gd,⟨some d',.indexAddr t x y,ty,pos,after,g⟩) es) hist a C:=
 xZ (fun B off e=>h B off ⟨e⟩) hx hy ht hv hn h0 h1 hw
theorem Br.mkW {b:Bool} {q:Prop} (hX:BrH p->X) (hY:BrH q->Y)
 (hp:b=true->p:=by
  intro h
  first
  |(simp only[Bool.and_eq_true,Bool.or_eq_true,Bool.and_eq_false_iff,Bool.or_eq_false_iff,decide_eq_true_eq,decide_eq_false_iff_not,beq_iff_eq,bne_iff_ne,beq_eq_false_iff_ne,bne_eq_false_iff_eq,ne_eq,Bool.not_eq_true',Bool.not_eq_false',not_true_eq_false,not_false_eq_true,Int.not_lt,Int.not_le,gt_iff_lt,ge_iff_le] at h;exact h)
  |exact h)
 (hq:b=false->q:=by
  intro h
  first
  |(simp only[Bool.and_eq_true,Bool.or_eq_true,Bool.and_eq_false_iff,Bool.or_eq_false_iff,decide_eq_true_eq,decide_eq_false_iff_not,beq_iff_eq,bne_iff_ne,beq_eq_false_iff_ne,bne_eq_false_iff_eq,ne_eq,Bool.not_eq_true',Bool.not_eq_false',not_true_eq_false,not_false_eq_true,Int.not_lt,Int.not_le,gt_iff_lt,ge_iff_le] at h;exact h)
  |exact h):Br b X Y:=Br.mk (fun h=>hX ⟨hp h⟩) (fun h=>hY ⟨hq h⟩)
theorem w5 {Z:Prop} (h1:X) (h2:Y) (hs:X->Y->Z:=by
 first
 |(show _->_->aN _ _ _ _ _ _ _;exact fun h k=>Aql h k)
 |(show _->_->Br _ _ _;first|exact fun h k=>Br.mkW h k|exact fun h k=>Br.mkV h k)):Z:=hs h1 h2
theorem w6 (h:p) (hs:p->False:=by
 intro h
 first
 |contradiction
 |omega
 |(simp at h <;> contradiction)):Y:=(hs h).elim
def Alq (_:List (Nat×Nat)) (X Y:Prop):Prop:=X->Y
def Al8 (_ _:List Nat) (_:List (Nat×Nat)) (X Y:Prop):Prop:=X->Y
def Als (_:Tr) (X Y:Prop):Prop:=X->Y
theorem Ags (hl:Dq (LK P ol.toArray (Region.before ol.toArray))=some l) (hc:wS P ol.toArray (Region.before ol.toArray) l=true) (he:Kg ol.toArray l=some es):Alq l (aN P ol.toArray (Q .normal) es [] a C) (fL P (.region id ol.toArray true) Q a C):=fun h=>Na hl hc he h
theorem Aam {bl br:List Nat} (hb:XA ol [] 0=some br) (hr:br.reverse=bl) (hl:Dq (LK P ol.toArray bl.toArray)=some l) (hc:wS P ol.toArray bl.toArray l=true) (he:Kg ol.toArray l=some es):Al8 bl br l (aN P ol.toArray (Q .normal) es [] a C) (fL P (.region id ol.toArray true) Q a C):=fun h=>Ajp hb hr hl hc he h
theorem Adq {t:Tr} (hl:trF (Tg P ol.toArray (Region.before ol.toArray) (EU P ol.toArray).length [] (EU P ol.toArray))=some t) (hc:I7 P ol.toArray (Region.before ol.toArray) t=true) (he:ES ol.toArray t=some es):Als t (aN P ol.toArray (Q .normal) es [] a C) (fL P (.region id ol.toArray true) Q a C):=fun h=>Oi hl hc he h
theorem dw (l:List (Nat×Nat)) (h:X) (hs:Alq l X Y:=by exact Ags (by decide +kernel) (by decide +kernel) (by exact rfl)):Y:=hs h
theorem Jv (bl br:List Nat) (l:List (Nat×Nat)) (h:X) (hs:Al8 bl br l X Y:=by exact Aam (by decide +kernel) (by decide +kernel) (by decide +kernel) (by decide +kernel) (by exact rfl)):Y:=hs h
theorem Sf (t:Tr) (h:X) (hs:Als t X Y:=by exact Adq (by kernel_rfl) (by decide +kernel) (by exact rfl)):Y:=hs h
theorem w1 (h:X) (hs:X->Y:=by
 first
 |(show _->aN _ _ _ _ _ _ _;first
  |(show _->aN _ _ _ (ET.cons (_,_,⟨_,.move _,_,_,_,_⟩) _) _ _ _;first|exact fun h=>aF h|exact fun h=>aI h|exact fun h=>aX h|exact fun h=>G_skip0 h)
  |(show _->aN _ _ _ (ET.cons (_,_,⟨_,.assign _,_,_,_,_⟩) _) _ _ _;first|exact fun h=>aF h|exact fun h=>aI h|exact fun h=>aX h|exact fun h=>G_skip0 h)
  |(show _->aN _ _ _ (ET.cons (_,_,⟨_,.load _ _,_,_,_,_⟩) _) _ _ _;first|exact fun h=>aF h|exact fun h=>bG h|exact fun h=>aI h|exact fun h=>aZ h|exact fun h=>aO h|exact fun h=>G_loadV2 h|exact fun h=>aX h|exact fun h=>G_skip0 h)
  |(show _->aN _ _ _ (ET.cons (_,_,⟨_,.fieldAddr _ _ _,_,_,_,_⟩) _) _ _ _;first|exact fun h=>aF h|exact fun h=>bD h|exact fun h=>aI h|exact fun h=>aX h|exact fun h=>G_skip0 h)
  |(show _->aN _ _ _ (ET.cons (_,_,⟨_,.call _,_,_,_,_⟩) _) _ _ _;first|exact fun h=>aF h|exact fun h=>aI h|exact fun h=>dD h|exact fun h=>d3 h|exact fun h=>Al h|exact fun h=>AP h|exact fun h=>bP h|exact fun h=>G_call0 h|exact fun h=>iQ h|exact fun h=>G_callv0 h|exact fun h=>aX h|exact fun h=>G_skip0 h)
  |(show _->aN _ _ _ (ET.cons (_,_,⟨_,.nilCheck _,_,_,_,_⟩) _) _ _ _;first|exact fun h=>aF h|exact fun h=>aI h|exact fun h=>aX h|exact fun h=>G_skip0 h)
  |exact fun h=>aQ h
  |(show _->aN _ _ _ (ET.cons (_,_,⟨_,.extract _ _,_,_,_,_⟩) _) _ _ _;first|exact fun h=>aF h|exact fun h=>aI h|exact fun h=>aX h|exact fun h=>G_skip0 h)
  |(show _->aN _ _ _ (ET.cons (_,_,⟨_,.binOp _ _ _ _ _,_,_,_,_⟩) _) _ _ _;first|(show _->aN _ _ _ (ET.cons (_,_,⟨_,.binOp .eql _ _ _ _,_,_,_,_⟩) _) _ _ _;first|exact fun h=>aF h|exact fun h=>aI h|exact fun h=>aV h|exact fun h=>aX h|exact fun h=>G_skip0 h)|(show _->aN _ _ _ (ET.cons (_,_,⟨_,.binOp .add _ _ _ _,_,_,_,_⟩) _) _ _ _;first|exact fun h=>cK h|exact fun h=>aF h|exact fun h=>aI h|exact fun h=>f5 h|exact fun h=>aX h|exact fun h=>G_skip0 h)|(show _->aN _ _ _ (ET.cons (_,_,⟨_,.binOp .neq _ _ _ _,_,_,_,_⟩) _) _ _ _;first|exact fun h=>aF h|exact fun h=>aI h|exact fun h=>cB h|exact fun h=>aX h|exact fun h=>G_skip0 h)|(show _->aN _ _ _ (ET.cons (_,_,⟨_,.binOp .sub _ _ _ _,_,_,_,_⟩) _) _ _ _;first|exact fun h=>gQ h|exact fun h=>aF h|exact fun h=>aI h|exact fun h=>aX h|exact fun h=>G_skip0 h)|(show _->aN _ _ _ (ET.cons (_,_,⟨_,.binOp .rem _ _ _ _,_,_,_,_⟩) _) _ _ _;first|exact fun h=>Bv h|exact fun h=>aF h|exact fun h=>aI h|exact fun h=>aX h|exact fun h=>G_skip0 h)|(show _->aN _ _ _ (ET.cons (_,_,⟨_,.binOp .mul _ _ _ _,_,_,_,_⟩) _) _ _ _;first|exact fun h=>zD h|exact fun h=>aF h|exact fun h=>aI h|exact fun h=>aX h|exact fun h=>G_skip0 h)|(show _->aN _ _ _ (ET.cons (_,_,⟨_,.binOp .quo _ _ _ _,_,_,_,_⟩) _) _ _ _;first|exact fun h=>OX h|exact fun h=>aF h|exact fun h=>aI h|exact fun h=>aX h|exact fun h=>G_skip0 h)|(show _->aN _ _ _ (ET.cons (_,_,⟨_,.binOp .shr _ _ _ _,_,_,_,_⟩) _) _ _ _;first|exact fun h=>Ru h|exact fun h=>aF h|exact fun h=>aI h|exact fun h=>aX h|exact fun h=>G_skip0 h)|(show _->aN _ _ _ (ET.cons (_,_,⟨_,.binOp .shl _ _ _ _,_,_,_,_⟩) _) _ _ _;first|exact fun h=>Mq h|exact fun h=>aF h|exact fun h=>aI h|exact fun h=>aX h|exact fun h=>G_skip0 h)|(show _->aN _ _ _ (ET.cons (_,_,⟨_,.binOp .or _ _ _ _,_,_,_,_⟩) _) _ _ _;first|exact fun h=>Aer h|exact fun h=>aF h|exact fun h=>aI h|exact fun h=>aX h|exact fun h=>G_skip0 h)|(show _->aN _ _ _ (ET.cons (_,_,⟨_,.binOp .andNot _ _ _ _,_,_,_,_⟩) _) _ _ _;first|exact fun h=>Gr h|exact fun h=>Fs h|exact fun h=>aF h|exact fun h=>aI h|exact fun h=>aX h|exact fun h=>G_skip0 h)|exact fun h=>aF h|exact fun h=>aI h|exact fun h=>aX h)
  |(show _->aN _ _ _ (ET.cons (_,_,⟨_,.store _ _ _,_,_,_,_⟩) _) _ _ _;first|exact fun h=>aF h|exact fun h=>aI h|exact fun h=>bU h|exact fun h=>aX h|exact fun h=>G_skip0 h)
  |(show _->aN _ _ _ (ET.cons (_,_,⟨_,.pick _ _ _,_,_,_,_⟩) _) _ _ _;first|exact fun h=>aF h|exact fun h=>aI h|exact fun h=>aX h|exact fun h=>G_skip0 h)
  |(show _->aN _ _ _ (ET.cons (_,_,⟨_,.indexAddr _ _ _,_,_,_,_⟩) _) _ _ _;first|exact fun h=>aF h|exact fun h=>aI h|exact fun h=>dV h|exact fun h=>cU h|exact fun h=>jC h|exact fun h=>aX h|exact fun h=>G_skip0 h)
  |(show _->aN _ _ _ (ET.cons (_,_,⟨_,.build _ _,_,_,_,_⟩) _) _ _ _;first|exact fun h=>aF h|exact fun h=>aI h|exact fun h=>dY h|exact fun h=>aX h|exact fun h=>G_skip0 h)
  |(show _->aN _ _ _ (ET.cons (_,_,⟨_,.box _ _,_,_,_,_⟩) _) _ _ _;first|exact fun h=>aF h|exact fun h=>aI h|exact fun h=>fN h|exact fun h=>aX h|exact fun h=>G_skip0 h)
  |(show _->aN _ _ _ (ET.cons (_,_,⟨_,.alloc _,_,_,_,_⟩) _) _ _ _;first|exact fun h=>aF h|exact fun h=>aI h|exact fun h=>fB h|exact fun h=>aX h|exact fun h=>G_skip0 h)
  |(show _->aN _ _ _ (ET.cons (_,_,⟨_,.unOp _ _ _,_,_,_,_⟩) _) _ _ _;first|(show _->aN _ _ _ (ET.cons (_,_,⟨_,.unOp .not _ _,_,_,_,_⟩) _) _ _ _;first|exact fun h=>aF h|exact fun h=>aI h|exact fun h=>mT h|exact fun h=>aX h|exact fun h=>G_skip0 h)|(show _->aN _ _ _ (ET.cons (_,_,⟨_,.unOp .neg _ _,_,_,_,_⟩) _) _ _ _;first|exact fun h=>aF h|exact fun h=>aI h|exact fun h=>G_neg64 h|exact fun h=>aX h|exact fun h=>G_skip0 h)|exact fun h=>aF h|exact fun h=>aI h|exact fun h=>aX h)
  |(show _->aN _ _ _ (ET.cons (_,_,⟨_,.slice _ _ _ _ _,_,_,_,_⟩) _) _ _ _;first|exact fun h=>aF h|exact fun h=>aI h|exact fun h=>yT h|exact fun h=>yY h|exact fun h=>yK h|exact fun h=>lI h|exact fun h=>i5 h|exact fun h=>aX h|exact fun h=>G_skip0 h)
  |(show _->aN _ _ _ (ET.cons (_,_,⟨_,.convert _ _ _,_,_,_,_⟩) _) _ _ _;first|exact fun h=>aF h|exact fun h=>aI h|exact fun h=>l6 h|exact fun h=>qY h|exact fun h=>oZ h|exact fun h=>G_conv h|exact fun h=>G_bytesP h|exact fun h=>jK h|exact fun h=>m9 h|exact fun h=>aX h|exact fun h=>G_skip0 h)
  |(show _->aN _ _ _ (ET.cons (_,_,⟨_,.buildSlice _ _ _,_,_,_,_⟩) _) _ _ _;first|exact fun h=>aF h|exact fun h=>aI h|exact fun h=>eD h|exact fun h=>aX h|exact fun h=>G_skip0 h)
  |(show _->aN _ _ _ (ET.cons (_,_,⟨_,.index _ _ _,_,_,_,_⟩) _) _ _ _;first|exact fun h=>aF h|exact fun h=>aI h|exact fun h=>G_indexS h|exact fun h=>aX h|exact fun h=>G_skip0 h)
  |exact fun h=>aF h|exact fun h=>aI h|exact fun h=>aX h|exact fun h=>G_skip0 h)
 |(show _->cL _ _ _;first|exact fun h=>F3 rfl h|exact fun h=>Nr rfl h)
 |(show _->fL _ _ _ _ _;first|exact fun h=>Z3 h|exact fun h=>JD (by exact rfl) h|exact fun h=>TU (by exact rfl) h|exact fun h=>Abi h|exact fun h=>T6 h|exact fun h=>Hd h|exact fun h=>Tj h|exact fun h=>NK h|exact fun h=>MI h|exact fun h=>Na (by exact rfl) (by decide +kernel) (by exact rfl) h|exact fun h=>Oi (by exact rfl) (by decide +kernel) (by exact rfl) h)
 |(show _->Br _ _ _;first|exact fun h=>Br.t rfl h|exact fun h=>Br.f rfl h|exact fun h=>Br.t (beq_self_eq_true _) h|exact fun h=>Br.f (zL _) h|exact fun h=>Br.t (by assumption) h|exact fun h=>Br.f (by assumption) h|exact fun h=>Br.t (Amy (by assumption)) h|exact fun h=>Br.f (Anl (by assumption)) h)
 |(show _->bM _ _ _ _ _;first|exact fun h=>t_n h|exact fun h=>t_r h|exact fun h=>t_e h)
 |(show _->aL _ _ _ _ _;first|exact fun h=>b_n h|exact fun h=>b_r h|exact fun h=>Aao rfl h|exact fun h=>T0 rfl h)
 |(show _->aR _ _ _ _;first|exact fun h=>g_n h|exact fun h=>g_r h|exact fun h=>g_e h)):Y:=hs h
theorem wq (h:X) (hs:X->Y:=by
 first
 |(show _->cL _ _ _;first|exact fun h=>F3 rfl h|exact fun h=>Nr rfl h)
 |(show _->fL _ _ _ _ _;first|exact fun h=>Z3 h|exact fun h=>JD (by exact rfl) h|exact fun h=>TU (by exact rfl) h|exact fun h=>Abi h|exact fun h=>T6 h|exact fun h=>Hd h|exact fun h=>Tj h|exact fun h=>NK h|exact fun h=>MI h)
 |(show _->Br _ _ _;first|exact fun h=>Br.t rfl h|exact fun h=>Br.f rfl h|exact fun h=>Br.t (beq_self_eq_true _) h|exact fun h=>Br.f (zL _) h|exact fun h=>Br.t (by assumption) h|exact fun h=>Br.f (by assumption) h|exact fun h=>Br.t (Amy (by assumption)) h|exact fun h=>Br.f (Anl (by assumption)) h)
 |(show _->bM _ _ _ _ _;first|exact fun h=>t_n h|exact fun h=>t_r h|exact fun h=>t_e h)
 |(show _->aL _ _ _ _ _;first|exact fun h=>b_n h|exact fun h=>b_r h|exact fun h=>Aao rfl h|exact fun h=>T0 rfl h)
 |(show _->aR _ _ _ _;first|exact fun h=>g_n h|exact fun h=>g_r h|exact fun h=>g_e h)):Y:=hs h
theorem v0 (h:X) (hs:X->Y:=by
 first
 |(show _->aN _ _ _ _ _ _ _;intro h;first|exact aF h|exact aQ h|exact aI h|exact bP h|exact G_call0 h)
 |exact fun h=>wq h):Y:=hs h
theorem v1 (h:X) (hs:X->Y:=by
 first
 |(show _->aN _ _ _ _ _ _ _;intro h;first|exact aF h|exact aQ h|exact aI h|exact aX h|exact G_skip0 h)
 |exact fun h=>wq h):Y:=hs h
theorem v2 (h:X) (hs:X->Y:=by
 first
 |(show _->aN _ _ _ _ _ _ _;intro h;first|exact aF h|exact aQ h|exact aI h|exact cB h|exact bP h|exact G_call0 h)
 |exact fun h=>wq h):Y:=hs h
theorem v3 (h:X) (hs:X->Y:=by
 first
 |(show _->aN _ _ _ _ _ _ _;intro h;first|exact aF h|exact aQ h|exact aI h|exact aV h|exact bP h|exact G_call0 h)
 |exact fun h=>wq h):Y:=hs h
theorem v4 (h:X) (hs:X->Y:=by
 first
 |(show _->aN _ _ _ _ _ _ _;intro h;first|exact aF h|exact bG h|exact aQ h|exact bD h|exact aI h|exact aZ h|exact aO h|exact G_loadV2 h|exact aV h)
 |exact fun h=>wq h):Y:=hs h
theorem v5 (h:X) (hs:X->Y:=by
 first
 |(show _->aN _ _ _ _ _ _ _;intro h;first|exact aF h|exact aQ h|exact aI h|exact bU h|exact dY h|exact fB h)
 |exact fun h=>wq h):Y:=hs h
theorem v6 (h:X) (hs:X->Y:=by
 first
 |(show _->aN _ _ _ _ _ _ _;intro h;first|exact aF h|exact aQ h|exact aI h|exact dY h|exact fN h|exact aX h|exact G_skip0 h)
 |exact fun h=>wq h):Y:=hs h
theorem v8 (h:X) (hs:X->Y:=by
 first
 |(show _->aN _ _ _ _ _ _ _;intro h;first|exact gQ h|exact aF h|exact aQ h|exact aI h|exact yT h|exact yY h|exact yK h|exact bP h|exact G_call0 h|exact lI h|exact i5 h)
 |exact fun h=>wq h):Y:=hs h
theorem v9 (h:X) (hs:X->Y:=by
 first
 |(show _->aN _ _ _ _ _ _ _;intro h;first|exact aF h|exact aQ h|exact aI h|exact dD h|exact d3 h|exact yT h|exact yY h|exact yK h|exact aV h|exact lI h|exact i5 h)
 |exact fun h=>wq h):Y:=hs h
theorem ZR (h:X) (hs:X->Y:=by
 first
 |(show _->aN _ _ _ _ _ _ _;intro h;first|exact aF h|exact bG h|exact aQ h|exact bD h|exact aI h|exact aZ h|exact aO h|exact G_loadV2 h|exact aV h|exact bP h|exact G_call0 h)
 |exact fun h=>wq h):Y:=hs h
theorem MN (h:X) (hs:X->Y:=by
 first
 |(show _->aN _ _ _ _ _ _ _;intro h;first|exact aF h|exact bG h|exact aQ h|exact bD h|exact aI h|exact aZ h|exact aO h|exact G_loadV2 h|exact cB h|exact bP h|exact G_call0 h)
 |exact fun h=>wq h):Y:=hs h
theorem v13 (h:X) (hs:X->Y:=by
 first
 |(show _->aN _ _ _ _ _ _ _;intro h;first|exact aF h|exact aQ h|exact bD h|exact aI h|exact bU h|exact aV h|exact bP h|exact G_call0 h)
 |exact fun h=>wq h):Y:=hs h
theorem v14 (h:X) (hs:X->Y:=by
 first
 |(show _->aN _ _ _ _ _ _ _;intro h;first|exact aF h|exact bG h|exact aQ h|exact bD h|exact aI h|exact bU h|exact aZ h|exact aO h|exact G_loadV2 h|exact AP h)
 |exact fun h=>wq h):Y:=hs h
theorem v15 (h:X) (hs:X->Y:=by
 first
 |(show _->aN _ _ _ _ _ _ _;intro h;first|exact gQ h|exact aF h|exact aQ h|exact aI h|exact aV h|exact bP h|exact G_call0 h|exact aX h|exact G_skip0 h)
 |exact fun h=>wq h):Y:=hs h
theorem v16 (h:X) (hs:X->Y:=by
 first
 |(show _->aN _ _ _ _ _ _ _;intro h;first|exact aF h|exact bG h|exact aQ h|exact bD h|exact aI h|exact aZ h|exact aO h|exact G_loadV2 h|exact cB h|exact aX h|exact G_skip0 h)
 |exact fun h=>wq h):Y:=hs h
theorem v17 (h:X) (hs:X->Y:=by
 first
 |(show _->aN _ _ _ _ _ _ _;intro h;first|exact aF h|exact bG h|exact aQ h|exact aI h|exact aZ h|exact aO h|exact G_loadV2 h|exact Al h|exact AP h|exact bP h|exact G_call0 h)
 |exact fun h=>wq h):Y:=hs h
theorem v19 (h:X) (hs:X->Y:=by
 first
 |(show _->aN _ _ _ _ _ _ _;intro h;first|exact aF h|exact bG h|exact aQ h|exact bD h|exact aI h|exact aZ h|exact aO h|exact G_loadV2 h|exact bP h|exact G_call0 h|exact fN h|exact aX h|exact G_skip0 h)
 |exact fun h=>wq h):Y:=hs h
theorem v21 (h:X) (hs:X->Y:=by
 first
 |(show _->aN _ _ _ _ _ _ _;intro h;first|exact aF h|exact aQ h|exact aI h|exact mT h|exact dY h|exact cB h|exact bP h|exact G_call0 h|exact fN h)
 |exact fun h=>wq h):Y:=hs h
theorem v22 (h:X) (hs:X->Y:=by
 first
 |(show _->aN _ _ _ _ _ _ _;intro h;first|exact gQ h|exact aF h|exact bG h|exact aQ h|exact bD h|exact aI h|exact aZ h|exact aO h|exact G_loadV2 h|exact aV h|exact fN h)
 |exact fun h=>wq h):Y:=hs h
theorem v23 (h:X) (hs:X->Y:=by
 first
 |(show _->aN _ _ _ _ _ _ _;intro h;first|exact aF h|exact bG h|exact aQ h|exact bD h|exact aI h|exact aZ h|exact aO h|exact G_loadV2 h|exact aV h|exact fN h|exact aX h|exact G_skip0 h)
 |exact fun h=>wq h):Y:=hs h
theorem v24 (h:X) (hs:X->Y:=by
 first
 |(show _->aN _ _ _ _ _ _ _;intro h;first|exact cK h|exact gQ h|exact OX h|exact aF h|exact aQ h|exact aI h|exact f5 h|exact bP h|exact G_call0 h|exact aX h|exact G_skip0 h)
 |exact fun h=>wq h):Y:=hs h
theorem v25 (h:X) (hs:X->Y:=by
 first
 |(show _->aN _ _ _ _ _ _ _;intro h;first|exact aF h|exact bG h|exact aQ h|exact bD h|exact aI h|exact aZ h|exact aO h|exact G_loadV2 h|exact G_indexS h|exact dY h|exact bP h|exact G_call0 h)
 |exact fun h=>wq h):Y:=hs h
theorem v26 (h:X) (hs:X->Y:=by
 first
 |(show _->aN _ _ _ _ _ _ _;intro h;first|exact aF h|exact bG h|exact aQ h|exact aI h|exact aZ h|exact aO h|exact G_loadV2 h|exact aV h|exact iQ h|exact G_callv0 h|exact fN h|exact aX h|exact G_skip0 h)
 |exact fun h=>wq h):Y:=hs h
theorem v27 (h:X) (hs:X->Y:=by
 first
 |(show _->aN _ _ _ _ _ _ _;intro h;first|exact Bv h|exact aF h|exact bG h|exact aQ h|exact bD h|exact aI h|exact aZ h|exact aO h|exact G_loadV2 h|exact aV h|exact aX h|exact G_skip0 h)
 |exact fun h=>wq h):Y:=hs h
theorem v28 (h:X) (hs:X->Y:=by
 first
 |(show _->aN _ _ _ _ _ _ _;intro h;first|exact cK h|exact gQ h|exact aF h|exact bG h|exact aQ h|exact aI h|exact bU h|exact aZ h|exact aO h|exact G_loadV2 h|exact dV h|exact cU h|exact f5 h|exact jC h)
 |exact fun h=>wq h):Y:=hs h
theorem v29 (h:X) (hs:X->Y:=by
 first
 |(show _->aN _ _ _ _ _ _ _;intro h;first|exact cK h|exact aF h|exact bG h|exact aQ h|exact bD h|exact aI h|exact aZ h|exact aO h|exact G_loadV2 h|exact dV h|exact cU h|exact f5 h|exact aV h|exact cB h|exact jC h)
 |exact fun h=>wq h):Y:=hs h
theorem v30 (h:X) (hs:X->Y:=by
 first
 |(show _->aN _ _ _ _ _ _ _;intro h;first|exact aF h|exact bG h|exact aQ h|exact bD h|exact aI h|exact bU h|exact aZ h|exact aO h|exact G_loadV2 h|exact dY h|exact aV h|exact fB h)
 |exact fun h=>wq h):Y:=hs h
theorem v31 (h:X) (hs:X->Y:=by
 first
 |(show _->aN _ _ _ _ _ _ _;intro h;first|exact aF h|exact bG h|exact aQ h|exact bD h|exact aI h|exact bU h|exact aZ h|exact aO h|exact G_loadV2 h|exact bP h|exact G_call0 h|exact fN h|exact fB h)
 |exact fun h=>wq h):Y:=hs h
theorem GF (h:X) (hs:X->Y:=by
 first
 |(show _->aN _ _ _ _ _ _ _;intro h;first|exact cK h|exact aF h|exact bG h|exact aQ h|exact bD h|exact aI h|exact bU h|exact aZ h|exact aO h|exact G_loadV2 h|exact f5 h|exact aV h|exact bP h|exact G_call0 h)
 |exact fun h=>wq h):Y:=hs h
theorem v33 (h:X) (hs:X->Y:=by
 first
 |(show _->aN _ _ _ _ _ _ _;intro h;first|exact cK h|exact gQ h|exact aF h|exact bG h|exact aQ h|exact bD h|exact aI h|exact bU h|exact aZ h|exact aO h|exact G_loadV2 h|exact f5 h|exact aV h)
 |exact fun h=>wq h):Y:=hs h
theorem J5 (h:X) (hs:X->Y:=by
 first
 |(show _->aN _ _ _ _ _ _ _;intro h;first|exact aF h|exact bG h|exact aQ h|exact bD h|exact aI h|exact aZ h|exact aO h|exact G_loadV2 h|exact mT h|exact aV h|exact bP h|exact G_call0 h|exact aX h|exact G_skip0 h)
 |exact fun h=>wq h):Y:=hs h
theorem v35 (h:X) (hs:X->Y:=by
 first
 |(show _->aN _ _ _ _ _ _ _;intro h;first|exact aF h|exact bG h|exact aQ h|exact bD h|exact aI h|exact aZ h|exact aO h|exact G_loadV2 h|exact Al h|exact aV h|exact cB h|exact bP h|exact G_call0 h)
 |exact fun h=>wq h):Y:=hs h
theorem v36 (h:X) (hs:X->Y:=by
 first
 |(show _->aN _ _ _ _ _ _ _;intro h;first|exact aF h|exact bG h|exact aQ h|exact aI h|exact bU h|exact aZ h|exact aO h|exact G_loadV2 h|exact dD h|exact d3 h|exact dY h|exact cB h|exact eD h)
 |exact fun h=>wq h):Y:=hs h
theorem v37 (h:X) (hs:X->Y:=by
 first
 |(show _->aN _ _ _ _ _ _ _;intro h;first|exact cK h|exact aF h|exact bG h|exact aQ h|exact bD h|exact aI h|exact bU h|exact aZ h|exact aO h|exact G_loadV2 h|exact mT h|exact f5 h|exact iQ h|exact G_callv0 h)
 |exact fun h=>wq h):Y:=hs h
theorem v39 (h:X) (hs:X->Y:=by
 first
 |(show _->aN _ _ _ _ _ _ _;intro h;first|exact aF h|exact bG h|exact aQ h|exact bD h|exact aI h|exact aZ h|exact aO h|exact G_loadV2 h|exact Al h|exact AP h|exact aV h|exact fN h)
 |exact fun h=>wq h):Y:=hs h
theorem v40 (h:X) (hs:X->Y:=by
 first
 |(show _->aN _ _ _ _ _ _ _;intro h;first|exact aF h|exact bG h|exact aQ h|exact bD h|exact aI h|exact bU h|exact aZ h|exact aO h|exact G_loadV2 h|exact dD h|exact d3 h|exact dV h|exact cU h|exact yT h|exact yY h|exact yK h|exact jC h|exact lI h|exact i5 h)
 |exact fun h=>wq h):Y:=hs h
theorem v41 (h:X) (hs:X->Y:=by
 first
 |(show _->aN _ _ _ _ _ _ _;intro h;first|exact aF h|exact bG h|exact aQ h|exact bD h|exact aI h|exact aZ h|exact aO h|exact G_loadV2 h|exact mT h|exact dV h|exact cU h|exact aV h|exact bP h|exact G_call0 h|exact jC h|exact aX h|exact G_skip0 h)
 |exact fun h=>wq h):Y:=hs h
theorem v42 (h:X) (hs:X->Y:=by
 first
 |(show _->aN _ _ _ _ _ _ _;intro h;first|exact cK h|exact aF h|exact aQ h|exact aI h|exact dY h|exact f5 h|exact aV h|exact cB h|exact bP h|exact G_call0 h|exact fN h|exact aX h|exact G_skip0 h)
 |exact fun h=>wq h):Y:=hs h
theorem v43 (h:X) (hs:X->Y:=by
 first
 |(show _->aN _ _ _ _ _ _ _;intro h;first|exact cK h|exact zD h|exact OX h|exact aF h|exact bG h|exact aQ h|exact bD h|exact aI h|exact aZ h|exact aO h|exact G_loadV2 h|exact f5 h|exact AP h|exact fN h)
 |exact fun h=>wq h):Y:=hs h
theorem v44 (h:X) (hs:X->Y:=by
 first
 |(show _->aN _ _ _ _ _ _ _;intro h;first|exact aF h|exact bG h|exact aQ h|exact bD h|exact aI h|exact aZ h|exact aO h|exact G_loadV2 h|exact mT h|exact aV h|exact bP h|exact G_call0 h|exact fN h|exact aX h|exact G_skip0 h)
 |exact fun h=>wq h):Y:=hs h
theorem v45 (h:X) (hs:X->Y:=by
 first
 |(show _->aN _ _ _ _ _ _ _;intro h;first|exact cK h|exact aF h|exact bG h|exact aQ h|exact bD h|exact aI h|exact aZ h|exact aO h|exact G_loadV2 h|exact dD h|exact d3 h|exact dV h|exact cU h|exact f5 h|exact bP h|exact G_call0 h|exact eD h|exact jC h)
 |exact fun h=>wq h):Y:=hs h
theorem v46 (h:X) (hs:X->Y:=by
 first
 |(show _->aN _ _ _ _ _ _ _;intro h;first|exact aF h|exact bG h|exact aQ h|exact bD h|exact aI h|exact aZ h|exact aO h|exact G_loadV2 h|exact dY h|exact aV h|exact cB h|exact bP h|exact G_call0 h|exact fN h)
 |exact fun h=>wq h):Y:=hs h
theorem v47 (h:X) (hs:X->Y:=by
 first
 |(show _->aN _ _ _ _ _ _ _;intro h;first|exact aF h|exact bG h|exact aQ h|exact bD h|exact aI h|exact aZ h|exact aO h|exact G_loadV2 h|exact aV h|exact bP h|exact G_call0 h|exact iQ h|exact G_callv0 h|exact fN h|exact fB h)
 |exact fun h=>wq h):Y:=hs h
theorem v48 (h:X) (hs:X->Y:=by
 first
 |(show _->aN _ _ _ _ _ _ _;intro h;first|exact aF h|exact bG h|exact aQ h|exact bD h|exact aI h|exact bU h|exact aZ h|exact aO h|exact G_loadV2 h|exact mT h|exact cB h|exact bP h|exact G_call0 h|exact aX h|exact G_skip0 h)
 |exact fun h=>wq h):Y:=hs h
theorem v49 (h:X) (hs:X->Y:=by
 first
 |(show _->aN _ _ _ _ _ _ _;intro h;first|exact cK h|exact aF h|exact bG h|exact aQ h|exact bD h|exact aI h|exact bU h|exact aZ h|exact aO h|exact G_loadV2 h|exact f5 h|exact aV h|exact cB h|exact bP h|exact G_call0 h)
 |exact fun h=>wq h):Y:=hs h
theorem KS (h:X) (hs:X->Y:=by
 first
 |(show _->aN _ _ _ _ _ _ _;intro h;first|exact cK h|exact gQ h|exact aF h|exact aQ h|exact aI h|exact dD h|exact d3 h|exact mT h|exact yT h|exact yY h|exact yK h|exact f5 h|exact aV h|exact bP h|exact G_call0 h|exact lI h|exact i5 h)
 |exact fun h=>wq h):Y:=hs h
theorem v52 (h:X) (hs:X->Y:=by
 first
 |(show _->aN _ _ _ _ _ _ _;intro h;first|exact cK h|exact zD h|exact Bv h|exact aF h|exact bG h|exact aQ h|exact aI h|exact aZ h|exact aO h|exact G_loadV2 h|exact dV h|exact cU h|exact l6 h|exact qY h|exact oZ h|exact G_conv h|exact f5 h|exact aV h|exact G_bytesP h|exact jK h|exact bP h|exact G_call0 h|exact m9 h|exact jC h)
 |exact fun h=>wq h):Y:=hs h
theorem v53 (h:X) (hs:X->Y:=by
 first
 |(show _->aN _ _ _ _ _ _ _;intro h;first|exact gQ h|exact aF h|exact aQ h|exact aI h|exact mT h|exact dY h|exact aV h|exact bP h|exact G_call0 h|exact iQ h|exact G_callv0 h|exact fN h|exact aX h|exact G_skip0 h)
 |exact fun h=>wq h):Y:=hs h
theorem v54 (h:X) (hs:X->Y:=by
 first
 |(show _->aN _ _ _ _ _ _ _;intro h;first|exact aF h|exact bG h|exact aQ h|exact bD h|exact aI h|exact bU h|exact aZ h|exact aO h|exact G_loadV2 h|exact dD h|exact d3 h|exact dV h|exact cU h|exact bP h|exact G_call0 h|exact fN h|exact eD h|exact jC h)
 |exact fun h=>wq h):Y:=hs h
theorem v55 (h:X) (hs:X->Y:=by
 first
 |(show _->aN _ _ _ _ _ _ _;intro h;first|exact cK h|exact aF h|exact bG h|exact aQ h|exact aI h|exact bU h|exact aZ h|exact aO h|exact G_loadV2 h|exact dV h|exact cU h|exact f5 h|exact Al h|exact bP h|exact G_call0 h|exact iQ h|exact G_callv0 h|exact fB h|exact jC h)
 |exact fun h=>wq h):Y:=hs h
theorem v56 (h:X) (hs:X->Y:=by
 first
 |(show _->aN _ _ _ _ _ _ _;intro h;first|exact zD h|exact Mq h|exact Ru h|exact aF h|exact bG h|exact aQ h|exact bD h|exact aI h|exact bU h|exact aZ h|exact aO h|exact G_loadV2 h|exact fN h|exact aX h|exact G_skip0 h)
 |exact fun h=>wq h):Y:=hs h
theorem AB (h:X) (hs:X->Y:=by
 first
 |(show _->aN _ _ _ _ _ _ _;intro h;first|exact aF h|exact bG h|exact aQ h|exact bD h|exact aI h|exact bU h|exact aZ h|exact aO h|exact G_loadV2 h|exact dY h|exact aV h|exact cB h|exact bP h|exact G_call0 h|exact fN h|exact aX h|exact G_skip0 h)
 |exact fun h=>wq h):Y:=hs h
theorem v58 (h:X) (hs:X->Y:=by
 first
 |(show _->aN _ _ _ _ _ _ _;intro h;first|exact Bv h|exact aF h|exact bG h|exact aQ h|exact bD h|exact aI h|exact aZ h|exact aO h|exact G_loadV2 h|exact aV h|exact cB h|exact bP h|exact G_call0 h|exact iQ h|exact G_callv0 h|exact fN h|exact aX h|exact G_skip0 h)
 |exact fun h=>wq h):Y:=hs h
theorem Ng (h:X) (hs:X->Y:=by
 first
 |(show _->aN _ _ _ _ _ _ _;intro h;first|exact cK h|exact aF h|exact bG h|exact aQ h|exact bD h|exact aI h|exact bU h|exact aZ h|exact aO h|exact G_loadV2 h|exact dV h|exact cU h|exact dY h|exact f5 h|exact cB h|exact bP h|exact G_call0 h|exact fB h|exact jC h)
 |exact fun h=>wq h):Y:=hs h
theorem v60 (h:X) (hs:X->Y:=by
 first
 |(show _->aN _ _ _ _ _ _ _;intro h;first|exact cK h|exact aF h|exact bG h|exact aQ h|exact bD h|exact aI h|exact aZ h|exact aO h|exact G_loadV2 h|exact dV h|exact cU h|exact dY h|exact f5 h|exact cB h|exact bP h|exact G_call0 h|exact fN h|exact eD h|exact jC h)
 |exact fun h=>wq h):Y:=hs h
theorem v61 (h:X) (hs:X->Y:=by
 first
 |(show _->aN _ _ _ _ _ _ _;intro h;first|exact Bv h|exact aF h|exact bG h|exact aQ h|exact bD h|exact aI h|exact bU h|exact aZ h|exact aO h|exact G_loadV2 h|exact l6 h|exact qY h|exact oZ h|exact G_conv h|exact dY h|exact AP h|exact G_bytesP h|exact jK h|exact fN h|exact fB h|exact m9 h)
 |exact fun h=>wq h):Y:=hs h
theorem v62 (h:X) (hs:X->Y:=by
 first
 |(show _->aN _ _ _ _ _ _ _;intro h;first|exact cK h|exact aF h|exact bG h|exact aQ h|exact bD h|exact aI h|exact bU h|exact aZ h|exact aO h|exact G_loadV2 h|exact dV h|exact cU h|exact yT h|exact yY h|exact yK h|exact f5 h|exact aV h|exact bP h|exact G_call0 h|exact jC h|exact lI h|exact i5 h|exact aX h|exact G_skip0 h)
 |exact fun h=>wq h):Y:=hs h
theorem B8 (h:X) (hs:X->Y:=by
 first
 |(show _->aN _ _ _ _ _ _ _;intro h;first|exact aF h|exact bG h|exact aQ h|exact bD h|exact aI h|exact aZ h|exact aO h|exact G_loadV2 h|exact mT h|exact dY h|exact aV h|exact cB h|exact bP h|exact G_call0 h|exact fN h|exact aX h|exact G_skip0 h)
 |exact fun h=>wq h):Y:=hs h
theorem ZO (h:X) (hs:X->Y:=by
 first
 |(show _->aN _ _ _ _ _ _ _;intro h;first|exact aF h|exact bG h|exact aQ h|exact bD h|exact aI h|exact bU h|exact aZ h|exact aO h|exact G_loadV2 h|exact dY h|exact aV h|exact cB h|exact bP h|exact G_call0 h|exact fN h|exact fB h)
 |exact fun h=>wq h):Y:=hs h
theorem NY (h:X) (hs:X->Y:=by
 first
 |(show _->aN _ _ _ _ _ _ _;intro h;first|exact gQ h|exact aF h|exact bG h|exact aQ h|exact bD h|exact aI h|exact bU h|exact aZ h|exact aO h|exact G_loadV2 h|exact mT h|exact aV h|exact cB h|exact bP h|exact G_call0 h|exact aX h|exact G_skip0 h)
 |exact fun h=>wq h):Y:=hs h
theorem v66 (h:X) (hs:X->Y:=by
 first
 |(show _->aN _ _ _ _ _ _ _;intro h;first|exact cK h|exact gQ h|exact aF h|exact bG h|exact aQ h|exact bD h|exact aI h|exact bU h|exact aZ h|exact aO h|exact G_loadV2 h|exact l6 h|exact qY h|exact oZ h|exact G_conv h|exact f5 h|exact Al h|exact AP h|exact aV h|exact G_bytesP h|exact jK h|exact m9 h)
 |exact fun h=>wq h):Y:=hs h
theorem v67 (h:X) (hs:X->Y:=by
 first
 |(show _->aN _ _ _ _ _ _ _;intro h;first|exact cK h|exact gQ h|exact Bv h|exact aF h|exact bG h|exact aQ h|exact bD h|exact aI h|exact bU h|exact aZ h|exact aO h|exact G_loadV2 h|exact f5 h|exact Al h|exact AP h|exact bP h|exact G_call0 h)
 |exact fun h=>wq h):Y:=hs h
theorem v68 (h:X) (hs:X->Y:=by
 first
 |(show _->aN _ _ _ _ _ _ _;intro h;first|exact cK h|exact gQ h|exact aF h|exact bG h|exact aQ h|exact bD h|exact aI h|exact bU h|exact aZ h|exact aO h|exact G_loadV2 h|exact mT h|exact f5 h|exact AP h|exact aV h|exact bP h|exact G_call0 h)
 |exact fun h=>wq h):Y:=hs h
theorem ZN (h:X) (hs:X->Y:=by
 first
 |(show _->aN _ _ _ _ _ _ _;intro h;first|exact cK h|exact gQ h|exact aF h|exact bG h|exact aQ h|exact bD h|exact aI h|exact bU h|exact aZ h|exact aO h|exact G_loadV2 h|exact dV h|exact cU h|exact f5 h|exact aV h|exact bP h|exact G_call0 h|exact fB h|exact jC h|exact aX h|exact G_skip0 h)
 |exact fun h=>wq h):Y:=hs h
theorem ZS (h:X) (hs:X->Y:=by
 first
 |(show _->aN _ _ _ _ _ _ _;intro h;first|exact cK h|exact aF h|exact bG h|exact aQ h|exact bD h|exact aI h|exact aZ h|exact aO h|exact G_loadV2 h|exact dD h|exact d3 h|exact dV h|exact cU h|exact dY h|exact f5 h|exact aV h|exact bP h|exact G_call0 h|exact eD h|exact jC h|exact aX h|exact G_skip0 h)
 |exact fun h=>wq h):Y:=hs h
theorem v73 (h:X) (hs:X->Y:=by
 first
 |(show _->aN _ _ _ _ _ _ _;intro h;first|exact aF h|exact bG h|exact aQ h|exact bD h|exact aI h|exact bU h|exact aZ h|exact aO h|exact G_loadV2 h|exact dD h|exact d3 h|exact dV h|exact cU h|exact dY h|exact yT h|exact yY h|exact yK h|exact aV h|exact bP h|exact G_call0 h|exact fB h|exact jC h|exact lI h|exact i5 h)
 |exact fun h=>wq h):Y:=hs h
theorem v74 (h:X) (hs:X->Y:=by
 first
 |(show _->aN _ _ _ _ _ _ _;intro h;first|exact cK h|exact aF h|exact bG h|exact aQ h|exact aI h|exact bU h|exact aZ h|exact aO h|exact G_loadV2 h|exact dD h|exact d3 h|exact dV h|exact cU h|exact l6 h|exact qY h|exact oZ h|exact G_conv h|exact f5 h|exact cB h|exact G_bytesP h|exact jK h|exact bP h|exact G_call0 h|exact iQ h|exact G_callv0 h|exact fB h|exact m9 h|exact jC h)
 |exact fun h=>wq h):Y:=hs h
theorem v75 (h:X) (hs:X->Y:=by
 first
 |(show _->aN _ _ _ _ _ _ _;intro h;first|exact gQ h|exact aF h|exact bG h|exact aQ h|exact bD h|exact aI h|exact bU h|exact aZ h|exact aO h|exact G_loadV2 h|exact dV h|exact cU h|exact dY h|exact bP h|exact G_call0 h|exact iQ h|exact G_callv0 h|exact fN h|exact fB h|exact jC h)
 |exact fun h=>wq h):Y:=hs h
theorem Sn (h:X) (hs:X->Y:=by
 first
 |(show _->aN _ _ _ _ _ _ _;intro h;first|exact cK h|exact aF h|exact bG h|exact aQ h|exact bD h|exact aI h|exact bU h|exact aZ h|exact aO h|exact G_loadV2 h|exact mT h|exact f5 h|exact aV h|exact bP h|exact G_call0 h|exact iQ h|exact G_callv0 h|exact fN h|exact aX h|exact G_skip0 h)
 |exact fun h=>wq h):Y:=hs h
theorem v78 (h:X) (hs:X->Y:=by
 first
 |(show _->aN _ _ _ _ _ _ _;intro h;first|exact cK h|exact aF h|exact bG h|exact aQ h|exact bD h|exact aI h|exact aZ h|exact aO h|exact G_loadV2 h|exact mT h|exact dV h|exact cU h|exact dY h|exact f5 h|exact aV h|exact cB h|exact bP h|exact G_call0 h|exact fN h|exact jC h|exact aX h|exact G_skip0 h)
 |exact fun h=>wq h):Y:=hs h
theorem v79 (h:X) (hs:X->Y:=by
 first
 |(show _->aN _ _ _ _ _ _ _;intro h;first|exact cK h|exact aF h|exact bG h|exact aQ h|exact bD h|exact aI h|exact bU h|exact aZ h|exact aO h|exact G_loadV2 h|exact dV h|exact cU h|exact dY h|exact f5 h|exact aV h|exact bP h|exact G_call0 h|exact iQ h|exact G_callv0 h|exact fN h|exact fB h|exact jC h)
 |exact fun h=>wq h):Y:=hs h
theorem Sg (h:X) (hs:X->Y:=by
 first
 |(show _->aN _ _ _ _ _ _ _;intro h;first|exact cK h|exact aF h|exact bG h|exact aQ h|exact bD h|exact aI h|exact bU h|exact aZ h|exact aO h|exact G_loadV2 h|exact dD h|exact d3 h|exact mT h|exact yT h|exact yY h|exact yK h|exact f5 h|exact aV h|exact bP h|exact G_call0 h|exact fB h|exact eD h|exact lI h|exact i5 h)
 |exact fun h=>wq h):Y:=hs h
theorem v82 (h:X) (hs:X->Y:=by
 first
 |(show _->aN _ _ _ _ _ _ _;intro h;first|exact aF h|exact bG h|exact aQ h|exact bD h|exact aI h|exact bU h|exact aZ h|exact aO h|exact G_loadV2 h|exact dV h|exact cU h|exact dY h|exact aV h|exact cB h|exact bP h|exact G_call0 h|exact fN h|exact fB h|exact jC h|exact aX h|exact G_skip0 h)
 |exact fun h=>wq h):Y:=hs h
theorem v83 (h:X) (hs:X->Y:=by
 first
 |(show _->aN _ _ _ _ _ _ _;intro h;first|exact cK h|exact gQ h|exact Bv h|exact aF h|exact bG h|exact aQ h|exact bD h|exact aI h|exact aZ h|exact aO h|exact G_loadV2 h|exact dV h|exact cU h|exact l6 h|exact qY h|exact oZ h|exact G_conv h|exact f5 h|exact aV h|exact G_bytesP h|exact jK h|exact bP h|exact G_call0 h|exact fN h|exact eD h|exact m9 h|exact jC h)
 |exact fun h=>wq h):Y:=hs h
theorem v84 (h:X) (hs:X->Y:=by
 first
 |(show _->aN _ _ _ _ _ _ _;intro h;first|exact cK h|exact gQ h|exact OX h|exact aF h|exact bG h|exact aQ h|exact bD h|exact aI h|exact aZ h|exact aO h|exact G_loadV2 h|exact dV h|exact cU h|exact f5 h|exact aV h|exact bP h|exact G_call0 h|exact iQ h|exact G_callv0 h|exact fN h|exact jC h|exact aX h|exact G_skip0 h)
 |exact fun h=>wq h):Y:=hs h
theorem v85 (h:X) (hs:X->Y:=by
 first
 |(show _->aN _ _ _ _ _ _ _;intro h;first|exact cK h|exact Bv h|exact aF h|exact bG h|exact aQ h|exact bD h|exact aI h|exact bU h|exact aZ h|exact aO h|exact G_loadV2 h|exact mT h|exact yT h|exact yY h|exact yK h|exact f5 h|exact Al h|exact aV h|exact bP h|exact G_call0 h|exact lI h|exact i5 h|exact aX h|exact G_skip0 h)
 |exact fun h=>wq h):Y:=hs h
theorem v86 (h:X) (hs:X->Y:=by
 first
 |(show _->aN _ _ _ _ _ _ _;intro h;first|exact cK h|exact Mq h|exact Aer h|exact Ru h|exact aF h|exact bG h|exact aQ h|exact aI h|exact aZ h|exact aO h|exact G_loadV2 h|exact dV h|exact cU h|exact l6 h|exact qY h|exact oZ h|exact G_conv h|exact f5 h|exact aV h|exact G_bytesP h|exact jK h|exact bP h|exact G_call0 h|exact iQ h|exact G_callv0 h|exact m9 h|exact jC h|exact aX h|exact G_skip0 h)
 |exact fun h=>wq h):Y:=hs h
theorem ZQ (h:X) (hs:X->Y:=by
 first
 |(show _->aN _ _ _ _ _ _ _;intro h;first|exact cK h|exact aF h|exact bG h|exact aQ h|exact bD h|exact aI h|exact bU h|exact aZ h|exact aO h|exact G_loadV2 h|exact mT h|exact dV h|exact cU h|exact dY h|exact f5 h|exact aV h|exact bP h|exact G_call0 h|exact iQ h|exact G_callv0 h|exact fB h|exact jC h|exact aX h|exact G_skip0 h)
 |exact fun h=>wq h):Y:=hs h
theorem HG (h:X) (hs:X->Y:=by
 first
 |(show _->aN _ _ _ _ _ _ _;intro h;first|exact aF h|exact bG h|exact aQ h|exact bD h|exact aI h|exact bU h|exact aZ h|exact aO h|exact G_loadV2 h|exact mT h|exact dY h|exact Al h|exact aV h|exact cB h|exact bP h|exact G_call0 h|exact fN h|exact fB h|exact aX h|exact G_skip0 h)
 |exact fun h=>wq h):Y:=hs h
theorem v90 (h:X) (hs:X->Y:=by
 first
 |(show _->aN _ _ _ _ _ _ _;intro h;first|exact Bv h|exact aF h|exact bG h|exact aQ h|exact bD h|exact aI h|exact bU h|exact aZ h|exact aO h|exact G_loadV2 h|exact dD h|exact d3 h|exact dY h|exact aV h|exact cB h|exact bP h|exact G_call0 h|exact fN h|exact eD h|exact aX h|exact G_skip0 h)
 |exact fun h=>wq h):Y:=hs h
theorem v91 (h:X) (hs:X->Y:=by
 first
 |(show _->aN _ _ _ _ _ _ _;intro h;first|exact cK h|exact gQ h|exact zD h|exact Ru h|exact aF h|exact bG h|exact aQ h|exact bD h|exact aI h|exact bU h|exact aZ h|exact aO h|exact G_loadV2 h|exact dD h|exact d3 h|exact l6 h|exact qY h|exact oZ h|exact G_conv h|exact f5 h|exact aV h|exact G_bytesP h|exact jK h|exact fN h|exact eD h|exact m9 h)
 |exact fun h=>wq h):Y:=hs h
theorem v92 (h:X) (hs:X->Y:=by
 first
 |(show _->aN _ _ _ _ _ _ _;intro h;first|exact aF h|exact bG h|exact aQ h|exact bD h|exact aI h|exact bU h|exact aZ h|exact aO h|exact G_loadV2 h|exact dD h|exact d3 h|exact mT h|exact yT h|exact yY h|exact yK h|exact aV h|exact cB h|exact bP h|exact G_call0 h|exact iQ h|exact G_callv0 h|exact fN h|exact fB h|exact eD h|exact lI h|exact i5 h)
 |exact fun h=>wq h):Y:=hs h
theorem v93 (h:X) (hs:X->Y:=by
 first
 |(show _->aN _ _ _ _ _ _ _;intro h;first|exact cK h|exact aF h|exact bG h|exact aQ h|exact bD h|exact aI h|exact bU h|exact aZ h|exact aO h|exact G_loadV2 h|exact l6 h|exact qY h|exact oZ h|exact G_conv h|exact dY h|exact yT h|exact yY h|exact yK h|exact f5 h|exact aV h|exact cB h|exact G_bytesP h|exact jK h|exact bP h|exact G_call0 h|exact iQ h|exact G_callv0 h|exact fN h|exact fB h|exact m9 h|exact lI h|exact i5 h)
 |exact fun h=>wq h):Y:=hs h
theorem v94 (h:X) (hs:X->Y:=by
 first
 |(show _->aN _ _ _ _ _ _ _;intro h;first|exact cK h|exact zD h|exact aF h|exact bG h|exact aQ h|exact bD h|exact aI h|exact bU h|exact aZ h|exact aO h|exact G_loadV2 h|exact dV h|exact cU h|exact f5 h|exact Al h|exact aV h|exact bP h|exact G_call0 h|exact iQ h|exact G_callv0 h|exact fN h|exact fB h|exact jC h|exact aX h|exact G_skip0 h)
 |exact fun h=>wq h):Y:=hs h
theorem Hk (h:X) (hs:X->Y:=by
 first
 |(show _->aN _ _ _ _ _ _ _;intro h;first|exact cK h|exact gQ h|exact aF h|exact bG h|exact aQ h|exact bD h|exact aI h|exact bU h|exact aZ h|exact aO h|exact G_loadV2 h|exact mT h|exact dV h|exact cU h|exact dY h|exact f5 h|exact aV h|exact cB h|exact bP h|exact G_call0 h|exact fN h|exact fB h|exact jC h|exact aX h|exact G_skip0 h)
 |exact fun h=>wq h):Y:=hs h
theorem v96 (h:X) (hs:X->Y:=by
 first
 |(show _->aN _ _ _ _ _ _ _;intro h;first|exact Gr h|exact Fs h|exact aF h|exact bG h|exact aQ h|exact bD h|exact aI h|exact bU h|exact aZ h|exact aO h|exact G_loadV2 h|exact mT h|exact dV h|exact cU h|exact dY h|exact aV h|exact cB h|exact bP h|exact G_call0 h|exact iQ h|exact G_callv0 h|exact fN h|exact fB h|exact jC h|exact aX h|exact G_skip0 h)
 |exact fun h=>wq h):Y:=hs h
theorem Wi (h:X) (hs:X->Y:=by
 first
 |(show _->aN _ _ _ _ _ _ _;intro h;first|exact cK h|exact aF h|exact bG h|exact aQ h|exact bD h|exact aI h|exact bU h|exact aZ h|exact aO h|exact G_loadV2 h|exact dD h|exact d3 h|exact mT h|exact dV h|exact cU h|exact dY h|exact f5 h|exact aV h|exact cB h|exact bP h|exact G_call0 h|exact fN h|exact fB h|exact eD h|exact jC h|exact aX h|exact G_skip0 h)
 |exact fun h=>wq h):Y:=hs h
theorem J4 (h:X) (hs:X->Y:=by
 first
 |(show _->aN _ _ _ _ _ _ _;intro h;first|exact cK h|exact gQ h|exact aF h|exact bG h|exact aQ h|exact bD h|exact aI h|exact bU h|exact aZ h|exact aO h|exact G_loadV2 h|exact dD h|exact d3 h|exact dV h|exact cU h|exact f5 h|exact aV h|exact cB h|exact bP h|exact G_call0 h|exact iQ h|exact G_callv0 h|exact fN h|exact fB h|exact eD h|exact jC h|exact aX h|exact G_skip0 h)
 |exact fun h=>wq h):Y:=hs h
theorem V5 (h:X) (hs:X->Y:=by
 first
 |(show _->aN _ _ _ _ _ _ _;intro h;first|exact cK h|exact gQ h|exact Bv h|exact aF h|exact bG h|exact aQ h|exact bD h|exact aI h|exact bU h|exact aZ h|exact aO h|exact G_loadV2 h|exact dD h|exact d3 h|exact dV h|exact cU h|exact l6 h|exact qY h|exact oZ h|exact G_conv h|exact yT h|exact yY h|exact yK h|exact f5 h|exact Al h|exact AP h|exact aV h|exact G_bytesP h|exact jK h|exact bP h|exact G_call0 h|exact iQ h|exact G_callv0 h|exact fN h|exact m9 h|exact jC h|exact lI h|exact i5 h)
 |exact fun h=>wq h):Y:=hs h
end Go.Sl
