/- A part of the proof: lemmas; each with the conditions that it states. -/
import Derived.Test.YtifgibijcmppmaaGreatMae
set_option linter.unusedVariables false
set_option linter.unusedSimpArgs false
section
namespace Go.Sl
structure kD where
 k:Int
 v:Value
 b:Nat
def rJ (e:kD):MapEntry:= { key:=.int .i64 e.k,val:=e.v,born:=e.b }
def mp (r:Nat) (es:List kD) (ck:Nat):HP:=fun H=>H r=some (.obj (.map (es.map rJ).toArray ck))
def Ec (r m since:Nat) (seen:List Nat) (last:Nat):HP:=fun H=>H r=some (.obj (.mapIter (some m) since seen.toArray last))
def iT (n:Int):List kD→Nat→Option (Nat×Value)
 | [],_=>none
 |e::es,i=>if n == e.k then some (i,e.v) else iT n es (i+1)
def L4 (n:Int) (v:Value):List kD→List kD
 | []=> []
 |e::es=>if n == e.k then⟨e.k,v,e.b⟩::es else e::L4 n v es
def F2 (n:Int):List kD→List kD
 | []=> []
 |e::es=>if n == e.k then es else e::F2 n es
theorem zX {n:Int}:∀ {es:List kD} {i j:Nat} {v:Value},iT n es i=some (j,v)→i≤j∧j - i<es.length∧∃e,es[j - i]?=some e∧e.k=n∧e.v=v
 | [],_,_,_,h=>by cases h
 |e::es,i,j,v,h=>by
  unfold iT at h
  split at h
  ·rename_i he
   cases h
   have:=eq_of_beq he
   exact⟨Nat.le_refl _,by simp,e,by simp,this.symm,rfl⟩
  ·obtain⟨h1,h2,e',h3,h4,h5⟩:=zX h
   refine⟨by omega,by simp;omega,e',?_,h4,h5⟩
   rw[show j - i=(j - (i+1))+1 by omega]
   simpa using h3
theorem FN {n:Int} {w:Value}:∀ {es:List kD} {i j:Nat} {v:Value},iT n es i=some (j,v)→(es.map rJ).modify (j - i) (fun e=> { key:=.int .i64 n,val:=w,born:=e.born })=(L4 n w es).map rJ
 | [],_,_,_,h=>by cases h
 |e::es,i,j,v,h=>by
  have hj:=(zX h).1
  unfold iT at h
  split at h
  ·rename_i he
   cases h
   have:=eq_of_beq he
   subst this
   simp[L4,rJ]
  ·rename_i he
   have h1:=(zX h).1
   rw[show j - i=(j - (i+1))+1 by omega]
   simp only[List.map_cons,List.modify_succ_cons,L4,he]
   rw[FN h]
   rfl
theorem IW {n:Int}:∀ {es:List kD} {i j:Nat} {v:Value},iT n es i=some (j,v)→(es.map rJ).eraseIdx (j - i)=(F2 n es).map rJ
 | [],_,_,_,h=>by cases h
 |e::es,i,j,v,h=>by
  unfold iT at h
  split at h
  ·rename_i he
   cases h
   simp[F2,he]
  ·rename_i he
   have h1:=(zX h).1
   rw[show j - i=(j - (i+1))+1 by omega]
   simp only[List.map_cons,List.eraseIdx_cons_succ,F2,he]
   rw[IW h]
   rfl
theorem IT {kd:IntKind} {n:Int}:∀(es:List kD) (i:Nat),Instr.findNow (.int kd) (.int .i64 n) (es.map rJ) i=some (iT n es i)
 | [],_=>rfl
 |e::es,i=>by
  simp only[List.map_cons,Instr.findNow,rJ,Instr.sameNow,if_true,iT]
  cases h:(n == e.k) with
  |true=>rfl
  |false=>simpa using IT es (i+1)
def Jk (P:Program) (t:TypeId):Option TypeId:=match P.underlying t with
 |some (.map kt et)=>match P.underlying kt with
  |some (.int _)=>some et
  |_=>none
 |_=>none
theorem Bi {P:Program} {t et:TypeId} (h:Jk P t=some et):∃kt kd,P.underlying t=some (.map kt et)∧P.underlying kt=some (.int kd):=by
 unfold Jk at h
 split at h
 ·split at h
  ·cases h;exact⟨_,_,‹_›,‹_›⟩
  ·cases h
 ·cases h
def Tt (P:Program) (t:TypeId):Option Value:=match P.info? t with
 |some i=>i.zero
 |none=>none
section
variable {P:Program} {H:Hp}
theorem Aay {t:TypeId} {z:Value} (h:Tt P t=some z):(zeroValue t).pr P=some z:=by
 unfold Tt at h
 split at h
 ·rename_i i hi
  simp only[zeroValue,aR,dS hi,Option.bind_some,h];rfl
 ·cases h
theorem Ae {b:Bool} {t:TypeId} {kd:IntKind} {n:Int} (h:P.underlying t=some (.int kd)):(Instr.checkKey b 10000 t (.int .i64 n)).pr P=some ():=by
 rw[show(10000:Nat)=9999+1 from rfl,Instr.checkKey,aR,aL h]
 rfl
theorem Ct {t:TypeId} {kd:IntKind} {n:Int} {es:List kD} (h:P.underlying t=some (.int kd)):(Instr.findKey t (.int .i64 n) (es.map rJ)).pr P=some (iT n es 0):=by
 unfold Instr.findKey
 rw[aR,aL h]
 simp only[Option.bind_some,IT]
 rfl
end
section
variable {P:Program} {a:Fr} {H:Hp} {k:Value→Hp→Prop} {d:Option Tmp} {ty:TypeId} {pos:String} {after:Array Edge} {g:Option (Nat×Bool)} {t:TypeId} {x y z:Operand}
theorem QN (hk:∀r,H r=none→k (.map (some r)) (hupd H r (.obj (.map #[] 0)))):k7 P ⟨d,.makeMap t none,ty,pos,after,g⟩ a H k:=by
 refine fD ?_
 simp only[execOp,Instr.makeMap,aJ,Option.map_none]
 intro r hr
 exact hk r hr
def okV (ok:Bool) (v:Value) (b:Bool):Value:=if ok then .tuple #[v,.bool b] else v
def GM (ok:Bool) (zv:Value):Option (Nat×Value)→Value
 |some (_,v)=>okV ok v true
 |none=>okV ok zv false
theorem Wu {r ck:Nat} {es:List kD} {et:TypeId} {n:Int} {zv:Value} {ok:Bool} (hm:Jk P t=some et) (hz:Tt P et=some zv) (hx:bJ a x=.map (some r)) (hy:bJ a y=.int .i64 n) (hH:H r=some (.obj (.map (es.map rJ).toArray ck)))
  (hk:k (GM ok zv (iT n es 0)) H):k7 P ⟨d,.lookup t x y ok,ty,pos,after,g⟩ a H k:=by
 obtain⟨kt,kd,h1,h2⟩:=Bi hm
 refine fD ?_
 simp only[execOp,hx,hy,Instr.lookup,aJ]
 rw[aP (aL h1)]
 simp only[aJ]
 refine⟨_,hH,?_⟩
 simp only[Sem.ev]
 rw[pure_bind,aJ,aP (Ae h2),aJ,aP (Ct h2)]
 cases hf:iT n es 0 with
 |some p=>
  rw[hf] at hk
  cases ok <;> exact hk
 |none=>
  rw[hf] at hk
  simp only[aJ]
  rw[aP (Aay hz)]
  cases ok <;> exact hk
theorem LY (j:IntKind) (n:Int):Instr.sameBits 10000 (.int j n) (.int j n)=true:=by
 rw[show(10000:Nat)=9999+1 from rfl]
 simp[Instr.sameBits]
theorem LJ {r ck:Nat} {es:List kD} {et:TypeId} {n:Int} {v:Value} (hm:Jk P t=some et) (hx:bJ a x=.map (some r)) (hy:bJ a y=.int .i64 n) (hv:bJ a z=v) (hH:H r=some (.obj (.map (es.map rJ).toArray ck)))
  (hk:k undef (hupd H r (.obj (match iT n es 0 with|some _=>Obj.map ((L4 n v es).map rJ).toArray ck|none=>Obj.map ((es++ [(⟨n,v,ck⟩:kD)]).map rJ).toArray (ck+1))))):k7 P ⟨d,.mapUpdate t x y z,ty,pos,after,g⟩ a H k:=by
 obtain⟨kt,kd,h1,h2⟩:=Bi hm
 refine fD ?_
 simp only[execOp,hx,hy,hv,Instr.mapUpdate,aJ]
 rw[aP (aL h1)]
 simp only[aJ]
 refine⟨_,hH,?_⟩
 simp only[Sem.ev,aJ]
 rw[aP (Ae h2),aP (Ct h2)]
 cases hf:iT n es 0 with
 |some p=>
  obtain⟨j,w⟩:=p
  rw[hf] at hk
  obtain⟨_,_,e,he,hek,_⟩:=zX hf
  simp only[Nat.sub_zero] at he
  simp only[aJ]
  have hkey:((Option.map (fun e=>MapEntry.key e) ((List.map rJ es).toArray[j]?)).getD (.int .i64 n))=.int .i64 n:=by
   simp[he,rJ,hek]
  rw[hkey]
  rw[aP (show(Instr.keyThatStays (.int .i64 n) (.int .i64 n)).pr P=some (.int .i64 n) by unfold Instr.keyThatStays;rw[LY];rfl)]
  refine⟨⟨_,hH⟩,rfl,?_⟩
  have hmod:=FN (w:=v) hf
  rw[Nat.sub_zero] at hmod
  have e1:(List.map rJ es).toArray.modify j (fun e=> { key:=.int .i64 n,val:=v,born:=e.born })=((L4 n v es).map rJ).toArray:=by
   apply Array.ext'
   simpa using hmod
  rw[e1]
  exact hk
 |none=>
  rw[hf] at hk
  refine⟨⟨_,hH⟩,rfl,?_⟩
  have e1:(List.map rJ es).toArray.push { key:=.int .i64 n,val:=v,born:=ck }=((es++ [(⟨n,v,ck⟩:kD)]).map rJ).toArray:=by
   apply Array.ext'
   simp[rJ]
  rw[e1]
  exact hk
theorem VU {r ck:Nat} {es:List kD} {et ts1:TypeId} {n:Int} (hm:Jk P t=some et) (hx:bJ a x=.map (some r)) (hy:bJ a y=.int .i64 n) (hH:H r=some (.obj (.map (es.map rJ).toArray ck)))
  (hk:k (.tuple #[]) (hupd H r (.obj (.map ((F2 n es).map rJ).toArray ck)))):k7 P ⟨d,.call { callee:=.builtin .delete,args:=#[x,y],argTypes:=#[t,ts1] },ty,pos,after,g⟩ a H k:=by
 obtain⟨kt,kd,h1,h2⟩:=Bi hm
 refine fD ?_
 simp only[execOp,resolve,List.map_toArray,List.map_cons,List.map_nil,hx,hy]
 rw[aJ,aP (show(pure _:Sem Deferred).pr P=some _ from rfl)]
 simp only[invoke,builtin,aJ]
 unfold Builtin.delete_
 simp only[List.getElem?_toArray,List.getElem?_cons_zero,List.getElem?_cons_succ,aJ]
 rw[aP (aL h1)]
 simp only[aJ]
 refine⟨_,hH,?_⟩
 simp only[Sem.ev,aJ]
 rw[aP (Ae h2),aP (Ct h2)]
 cases hf:iT n es 0 with
 |some p=>
  obtain⟨j,w⟩:=p
  refine⟨⟨_,hH⟩,rfl,?_⟩
  have hmod:=IW hf
  rw[Nat.sub_zero] at hmod
  have e1:(List.map rJ es).toArray.eraseIdxIfInBounds j=((F2 n es).map rJ).toArray:=by
   apply Array.ext'
   rw[← hmod]
   simp
  rw[e1]
  exact hk
 |none=>
  refine⟨⟨_,hH⟩,rfl,?_⟩
  have e1:F2 n es=es:=by
   have key:∀(es:List kD) (i:Nat),iT n es i=none→F2 n es=es:=by
    intro es
    induction es with
    |nil=>intro _ _;rfl
    |cons e es ih=>
     intro i h
     unfold iT at h
     split at h
     ·cases h
     ·rename_i he
      simp only[F2,he]
      rw[ih _ h]
      rfl
   exact key es 0 hf
  rw[e1] at hk
  exact hk
theorem ZV {r ck:Nat} {es:List kD} {et:TypeId} (hm:Jk P t=some et) (hx:bJ a x=.map (some r)) (hH:H r=some (.obj (.map (es.map rJ).toArray ck)))
  (hk:∀i,H i=none→k (.pointer (some ⟨i,0,none⟩)) (hupd H i (.obj (.mapIter (some r) ck #[] ck)))):k7 P ⟨d,.range t x,ty,pos,after,g⟩ a H k:=by
 obtain⟨kt,kd,h1,h2⟩:=Bi hm
 refine fD ?_
 simp only[execOp,Instr.range,hx,aJ]
 rw[aP (aL h1)]
 simp only[aJ]
 refine⟨_,hH,?_⟩
 simp only[Sem.ev]
 intro i hi
 exact hk i hi
theorem Ho {n:Nat} {q:Nat→Hp→Prop} (hn:1≤n) (h:∀j,j<n→q j H):(choose (.mapNext n)).ev P H q:=by
 unfold choose
 simp only[Sem.ev]
 split
 ·exact h 0 (by omega)
 ·exact fun t=>h _ (Nat.mod_lt _ (by omega))
theorem Afk {i r since last ck:Nat} {es:List kD} {seen:List Nat} (hx:bJ a x=.pointer (some ⟨i,0,none⟩)) (hI:H i=some (.obj (.mapIter (some r) since seen.toArray last))) (hH:H r=some (.obj (.map (es.map rJ).toArray ck)))
  (hold:∀e∈es,e.b<since)
  (h1:∀e∈es,e.b ∉ seen→k (.tuple #[.bool true,.int .i64 e.k,e.v]) (hupd H i (.obj (.mapIter (some r) since (seen++ [e.b]).toArray ck))))
  (h0:(∀e∈es,e.b∈seen)→k (.tuple #[.bool false]) H) (hlast:seen= []∨es= []∨∃e∈es,e.b<last):k7 P ⟨d,.next x false,ty,pos,after,g⟩ a H k:=by
 refine fD ?_
 simp only[execOp,Instr.next,hx,aJ]
 refine⟨_,hI,?_⟩
 simp only[Sem.ev,aJ]
 refine⟨_,hH,?_⟩
 simp only[Sem.ev]
 have hcond:¬((!seen.toArray.isEmpty && !(List.map rJ es).toArray.isEmpty && (List.map rJ es).toArray.all fun x=>decide (x.born≥last))=true):=by
  intro h
  rcases hlast with rfl|rfl|⟨e,he,hl⟩
  ·simp at h
  ·simp at h
  ·simp only[Bool.and_eq_true,Array.all_eq_true] at h
   obtain⟨j,hj,hje⟩:=List.mem_iff_getElem.1 he
   have h3:=h.2 j (by simpa using hj)
   simp[rJ,hje] at h3
   omega
 rw[if_neg hcond]
 have hA:Array.filter (fun x=>decide (x.born<since)) (Array.filter (fun e=>!seen.toArray.contains e.born) (List.map rJ es).toArray)=((es.filter fun e=>!seen.contains e.b).map rJ).toArray:=by
  apply Array.ext'
  simp only[Array.toList_filter]
  rw[List.filter_map,List.filter_map,List.filter_filter]
  congr 1
  apply List.filter_congr
  intro e he
  have:=hold e he
  have hd:decide ((rJ e).born<since)=true:=decide_eq_true this
  simp only[Function.comp,hd,Bool.true_and]
  simp[rJ]
 have hB:Array.filter (fun x=>decide (x.born≥since)) (Array.filter (fun e=>!seen.toArray.contains e.born) (List.map rJ es).toArray)=#[]:=by
  apply Array.ext'
  simp only[Array.toList_filter]
  rw[List.filter_map,List.filter_map,List.filter_filter]
  have:List.filter (fun a=>((fun x=>decide (x.born≥since)) ∘ rJ) a && ((fun e=>!seen.toArray.contains e.born) ∘ rJ) a) es= []:=by
   rw[List.filter_eq_nil_iff]
   intro e he
   have:=hold e he
   have hd:decide ((rJ e).born≥since)=false:=decide_eq_false (Nat.not_le.2 this)
   simp[Function.comp,hd]
  rw[this]
  rfl
 simp only[hA,hB]
 generalize hL:(es.filter fun e=>!seen.contains e.b)=L
 have hmem:∀e∈L,e∈es∧e.b ∉ seen:=by
  intro e he
  rw[← hL] at he
  simpa using List.mem_filter.1 he
 rw[aJ]
 cases L with
 |nil=>
  have hc:((if((List.map rJ []).toArray).isEmpty=true then #[none] else #[])++Array.map some ((List.map rJ []).toArray++#[]):Array (Option MapEntry))=#[none]:=by
   apply Array.ext'
   simp
  rw[hc]
  refine Ho (n:=1) (by omega) fun j hj=>?_
  obtain rfl:j=0:=by omega
  refine h0 fun e he=>?_
  by_cases hs:e.b∈seen
  ·exact hs
  ·have:e∈es.filter fun e=>!seen.contains e.b:=List.mem_filter.2 ⟨he,by simpa using hs⟩
   rw[hL] at this
   cases this
 |cons e0 L=>
  have hc:((if((List.map rJ (e0::L)).toArray).isEmpty=true then #[none] else #[])++Array.map some ((List.map rJ (e0::L)).toArray++#[]):Array (Option MapEntry))=((e0::L).map fun e=>some (rJ e)).toArray:=by
   apply Array.ext'
   simp
  rw[hc]
  refine Ho (n:=(((e0::L).map fun e=>some (rJ e)).toArray).size) (by simp) fun j hj=>?_
  have hj2:j<(e0::L).length:=by simpa using hj
  have hg:((e0::L).map fun e=>some (rJ e)).toArray[j]?=some (some (rJ (e0::L)[j])):=by
   rw[List.getElem?_toArray,List.getElem?_map,List.getElem?_eq_getElem hj2]
   rfl
  rw[hg]
  obtain⟨m1,m2⟩:=hmem _ (List.getElem_mem hj2)
  refine⟨⟨_,hI⟩,rfl,?_⟩
  have:=h1 _ m1 m2
  have e2:seen.toArray.push (rJ (e0::L)[j]).born=(seen++ [((e0::L)[j]).b]).toArray:=by
   apply Array.ext';simp[rJ]
  rw[e2]
  exact this
theorem Y5 {i r since ck:Nat} {es:List kD} {seen:List Nat} {b:Nat} {e:kD} (hx:bJ a x=.pointer (some ⟨i,0,none⟩)) (hI:H i=some (.obj (.mapIter (some r) since (seen++ [b]).toArray ck))) (hH:H r=some (.obj (.map (es.map rJ).toArray ck)))
  (he:es.find? (fun e=>e.b == b)=some e) (hk:k (.tuple #[.int .i64 e.k,e.v]) H):k7 P ⟨d,.entry x,ty,pos,after,g⟩ a H k:=by
 refine fD ?_
 simp only[execOp,Instr.entry,hx,aJ]
 refine⟨_,hI,?_⟩
 simp only[Sem.ev]
 have hb:(seen++ [b]).toArray.back?=some b:=by simp
 rw[hb]
 simp only[aJ]
 refine⟨_,hH,?_⟩
 have hf:(List.map rJ es).toArray.find? (fun x=>x.born == b)=some (rJ e):=by
  rw[List.find?_toArray,List.find?_map]
  have:((fun x=>x.born == b) ∘ rJ)=fun e=>e.b == b:=by funext e;rfl
  rw[this,he]
  rfl
 have hne:(ck != ck)=false:=by simp
 simp only[Sem.ev,hne,hf]
 exact hk
end
end Go.Sl
namespace Go.Sl
theorem oA {r:Nat} {b:sH} (ho:b.own=true) {C:List HP} {H:Hp} (hs:bV ((fun H=>H r=some b)::C) H):H r=some b:=by
 obtain⟨H1,H2,hc,h1,h2,ha,hs⟩:=hs
 obtain⟨b',hb,l⟩:=h1 r b ha
 rw[sH.le_own l ho] at hb
 exact hb
theorem uS {r:Nat} {b b':sH} (ho:b.own=true) {C:List HP} {H:Hp} (hs:bV ((fun H=>H r=some b)::C) H):bV ((fun H=>H r=some b')::C) (hupd H r b'):=by
 obtain⟨H1,H2,hc,h1,h2,ha,hs⟩:=hs
 have hn:H2 r=none:=by
  cases hx:H2 r with
  |none=>rfl
  |some x=>have:=(hc r _ x ha hx).1;rw[ho] at this;cases this
 refine⟨mA r b',H2,(fun i b x hb hx=>by rw[(DJ hb).1,hn] at hx;cases hx),Dj (jO _ _ _) (sH.le_refl _),fun i b hb=>?_,xG _ _,hs⟩
 rw[jL _ _ (fun e=>by subst e;rw[hn] at hb;cases hb)]
 exact h2 i b hb
theorem Fp {r:Nat} {b:sH} {C:List HP} {H:Hp} (hr:H r=none) (hs:bV C H):bV ((fun H=>H r=some b)::C) (hupd H r b):=
 ⟨mA r b,H,(fun B b x hb hx=>by rw[(DJ hb).1,hr] at hx;cases hx),Dj (jO _ _ _) (sH.le_refl _),
  (fun B b hb=>⟨b,by rw[jL _ _ (fun e=>by subst e;rw[hr] at hb;cases hb)];exact hb,b.le_refl⟩),xG _ _,hs⟩
section
variable {P:Program} {ops:Array Oper} {Q:Fr→List HP→Prop} {a:Fr} {C R:List HP} {c:Nat} {gd:Bool} {es:ET} {hist:List (List HP)} {d':Tmp} {v:Value}
variable {ty:TypeId} {pos:String} {after:Array Edge} {g:Option (Nat×Bool)} {t:TypeId} {x y z:Operand}
theorem EJ (h:∀r,cV gd (.map (some r)) fun v=>aM P ops Q es (C::hist) (j9 a d' v) (mp r [] 0::C)) (hw:bD ops ⟨some d',.makeMap t none,ty,pos,after,g⟩ a=true:=by exact rfl):
  aM P ops Q (ET.cons (c,gd,⟨some d',.makeMap t none,ty,pos,after,g⟩) es) hist a C:=
 wV rfl hw fun _ hH=>QN fun r hr=>⟨_,Fp hr hH,h r⟩
theorem iY {r ck:Nat} {ms:List kD} {et:TypeId} {n:Int} {zv w:Value} {ok:Bool} (h:cV gd w fun v=>aM P ops Q es (C::hist) (j9 a d' v) C) (hx:bJ a x=.map (some r):=by exact rfl) (hy:bJ a y=.int .i64 n:=by exact rfl)
  (hp:aT (mp r ms ck) C R:=by((repeat (first|exact aT.here|apply aT.there)) <;> exact aT.here)) (hm:Jk P t=some et:=by exact rfl) (hz:Tt P et=some zv:=by exact rfl) (hv:GM ok zv (iT n ms 0)=w:=by first|assumption|exact rfl)
  (hw:bD ops ⟨some d',.lookup t x y ok,ty,pos,after,g⟩ a=true:=by exact rfl):aM P ops Q (ET.cons (c,gd,⟨some d',.lookup t x y ok,ty,pos,after,g⟩) es) hist a C:=
 wV rfl hw fun H hH=>Wu hm hz hx hy (oA rfl (hp.sats hH)) (by rw[hv];exact⟨C,hH,h⟩)
def LF (n:Int) (v:Value) (ms:List kD) (ck:Nat):List kD×Nat:=match iT n ms 0 with
 |some _=>(L4 n v ms,ck)
 |none=>(ms++ [⟨n,v,ck⟩],ck+1)
theorem j2 {r ck ck':Nat} {ms ms':List kD} {et:TypeId} {n:Int} {u:Value} (h:aM P ops Q es (C::hist) a (mp r ms' ck'::R)) (hx:bJ a x=.map (some r):=by exact rfl) (hy:bJ a y=.int .i64 n:=by exact rfl) (hu:g8 (bJ a z)=some u:=by exact rfl)
  (hp:aT (mp r ms ck) C R:=by((repeat (first|exact aT.here|apply aT.there)) <;> exact aT.here)) (hm:Jk P t=some et:=by exact rfl) (hv:LF n u ms ck=(ms',ck'):=by first|assumption|exact rfl)
  (hw:bD ops ⟨none,.mapUpdate t x y z,ty,pos,after,g⟩ a=true:=by exact rfl):aM P ops Q (ET.cons (c,gd,⟨none,.mapUpdate t x y z,ty,pos,after,g⟩) es) hist a C:=
 Ack (hw:=hw) fun H hH=>by
  have h1:=hp.sats hH
  refine LJ hm hx hy (fV hu) (oA rfl h1) ?_
  unfold LF at hv
  cases hf:iT n ms 0 with
  |some p=>rw[hf] at hv;cases hv;exact⟨_,uS rfl h1,h⟩
  |none=>rw[hf] at hv;cases hv;exact⟨_,uS rfl h1,h⟩
theorem JB {r ck:Nat} {ms ms':List kD} {et ts1:TypeId} {n:Int} (h:aM P ops Q es (C::hist) a (mp r ms' ck::R)) (hx:bJ a x=.map (some r):=by exact rfl) (hy:bJ a y=.int .i64 n:=by exact rfl)
  (hp:aT (mp r ms ck) C R:=by((repeat (first|exact aT.here|apply aT.there)) <;> exact aT.here)) (hm:Jk P t=some et:=by exact rfl) (hv:F2 n ms=ms':=by first|assumption|exact rfl)
  (hw:bD ops ⟨none,.call { callee:=.builtin .delete,args:=#[x,y],argTypes:=#[t,ts1] },ty,pos,after,g⟩ a=true:=by exact rfl):aM P ops Q (ET.cons (c,gd,⟨none,.call { callee:=.builtin .delete,args:=#[x,y],argTypes:=#[t,ts1] },ty,pos,after,g⟩) es) hist a C:=
 Ack (hw:=hw) fun H hH=>by
  subst hv
  exact VU hm hx hy (oA rfl (hp.sats hH)) ⟨_,uS rfl (hp.sats hH),h⟩
theorem Aey {r ck:Nat} {ms:List kD} {et:TypeId} (h:∀i,cV gd (.pointer (some ⟨i,0,none⟩)) fun v=>aM P ops Q es (C::hist) (j9 a d' v) (Ec i r ck [] ck::C)) (hx:bJ a x=.map (some r):=by exact rfl)
  (hp:aT (mp r ms ck) C R:=by((repeat (first|exact aT.here|apply aT.there)) <;> exact aT.here)) (hm:Jk P t=some et:=by exact rfl)
  (hw:bD ops ⟨some d',.range t x,ty,pos,after,g⟩ a=true:=by exact rfl):aM P ops Q (ET.cons (c,gd,⟨some d',.range t x,ty,pos,after,g⟩) es) hist a C:=
 wV rfl hw fun H hH=>ZV hm hx (oA rfl (hp.sats hH)) fun i hi=>⟨_,Fp hi hH,h i⟩
theorem Ajl {i r since last ck:Nat} {ms:List kD} {seen:List Nat}
  (h1:∀e∈ms,e.b ∉ seen→cV gd (.tuple #[.bool true,.int .i64 e.k,e.v]) fun v=>aM P ops Q es (C::hist) (j9 a d' v) (Ec i r since (seen++ [e.b]) ck::R))
  (h0:(∀e∈ms,e.b∈seen)→cV gd (.tuple #[.bool false]) fun v=>aM P ops Q es (C::hist) (j9 a d' v) C)
  (hx:bJ a x=.pointer (some ⟨i,0,none⟩)) (hp:aT (Ec i r since seen last) C R) (hq:∃R',aT (mp r ms ck) C R')
  (hold:∀e∈ms,e.b<since) (hlast:seen= []∨ms= []∨∃e∈ms,e.b<last)
  (hw:bD ops ⟨some d',.next x false,ty,pos,after,g⟩ a=true):aM P ops Q (ET.cons (c,gd,⟨some d',.next x false,ty,pos,after,g⟩) es) hist a C:=
 wV rfl hw fun H hH=>by
  obtain⟨R',hq⟩:=hq
  exact Afk hx (oA rfl (hp.sats hH)) (oA rfl (hq.sats hH)) hold (fun e he hn=>⟨_,uS rfl (hp.sats hH),h1 e he hn⟩) (fun hs=>⟨C,hH,h0 hs⟩) hlast
theorem Tc {i r since ck b:Nat} {ms:List kD} {seen:List Nat} {e:kD} {R':List HP} (h:cV gd (.tuple #[.int .i64 e.k,e.v]) fun v=>aM P ops Q es (C::hist) (j9 a d' v) C)
  (hx:bJ a x=.pointer (some ⟨i,0,none⟩):=by exact rfl) (hp:aT (Ec i r since (seen++ [b]) ck) C R:=by((repeat (first|exact aT.here|apply aT.there)) <;> exact aT.here)) (hq:aT (mp r ms ck) C R':=by((repeat (first|exact aT.here|apply aT.there)) <;> exact aT.here))
  (he:ms.find? (fun e=>e.b == b)=some e:=by first|assumption|exact rfl) (hw:bD ops ⟨some d',.entry x,ty,pos,after,g⟩ a=true:=by exact rfl):aM P ops Q (ET.cons (c,gd,⟨some d',.entry x,ty,pos,after,g⟩) es) hist a C:=
 wV rfl hw fun H hH=>Y5 hx (oA rfl (hp.sats hH)) (oA rfl (hq.sats hH)) he ⟨C,hH,h⟩
end
end Go.Sl
namespace Go.Sl
def Zz:Nat→Option Nat
 |0=>some 0
 |m+1=>some (m+1)
theorem Lw {n m:Nat} (h:Zz n=some m):n=m:=by
 cases n <;> (unfold Zz at h;cases h;rfl)
def Iz (acc:List Nat) (len:Nat):List Edge→Nat→Option Nat
 | [],s=>Zz s
 |e::l,s=>match Region.binds .any e with
  |true=>match Zz (s ||| 2 ^ e.on ||| (if e.on<len then acc.getD (len - 1 - e.on) 0 else 0)) with
   |some n=>Iz acc len l n
   |none=>none
  |false=>Iz acc len l s
def Xn:List Oper→List Nat→Nat→Option (List Nat)
 | [],acc,_=>some acc
 |o::l,acc,len=>match Iz acc len o.after.toList 0 with
  |some n=>match Zz (len+1) with
   |some m=>Xn l (n::acc) m
   |none=>none
  |none=>none
theorem Z1 (acc:List Nat) (i:Nat):(if i<acc.length then acc.getD (acc.length - 1 - i) 0 else 0)=acc.reverse.toArray.getD i 0:=by
 rw[Array.getD_eq_getD_getElem?,List.getElem?_toArray]
 by_cases h:i<acc.length
 ·rw[if_pos h,List.getElem?_reverse h,List.getD_eq_getElem?_getD]
 ·rw[if_neg h,List.getElem?_eq_none (by simpa using h)]
  rfl
theorem Fh {acc:List Nat}:∀ {l:List Edge} {s n:Nat},Iz acc acc.length l s=some n→l.foldl (fun s e=>if Region.binds .any e then s ||| 2 ^ e.on ||| acc.reverse.toArray.getD e.on 0 else s) s=n
 | [],s,n,h=>Lw h
 |e::l,s,n,h=>by
  unfold Iz at h
  rw[List.foldl_cons]
  split at h
  ·rename_i hb
   split at h
   ·rename_i k hk
    have:=Lw hk
    rw[Z1] at this
    rw[if_pos hb,this]
    exact Fh h
   ·cases h
  ·rename_i hb
   rw[if_neg (by rw[hb];simp)]
   exact Fh h
theorem Uh:∀ {l:List Oper} {acc r:List Nat},Xn l acc acc.length=some r→l.foldl (fun acc o=>acc.push (o.after.foldl (fun s e=>if Region.binds .any e then s ||| 2 ^ e.on ||| acc.getD e.on 0 else s) 0)) acc.reverse.toArray=r.reverse.toArray
 | [],acc,r,h=>by cases h;rfl
 |o::l,acc,r,h=>by
  unfold Xn at h
  split at h
  ·rename_i n hn
   split at h
   ·rename_i m hm
    have e1:=Fh hn
    have e2:=Lw hm
    subst e2
    rw[List.foldl_cons,← Array.foldl_toList,e1]
    have:=Uh (acc:=n::acc) h
    rw[← this]
    congr 1
    simp
   ·cases h
  ·cases h
theorem Vp {ops:Array Oper} {r:List Nat} (h:Xn ops.toList [] 0=some r):Region.before ops=r.reverse.toArray:=by
 unfold Region.before
 rw[← Array.foldl_toList]
 exact Uh (acc:= []) h
section
variable {P:Program} {Q:Exit→Fr→List HP→Prop} {a:Fr} {C:List HP} {id:Nat} {ol:List Oper} {es:ET}
theorem Agl {l:List (Nat×Nat)} {bl br:List Nat} (hb:Xn ol [] 0=some br) (hr:br.reverse=bl) (hl:CI (La P ol.toArray bl.toArray)=some l) (hc:u4 P ol.toArray bl.toArray l=true) (he:Jg ol.toArray l=some es)
  (h:aM P ol.toArray (Q .normal) es [] a C):fG P (.region id ol.toArray true) Q a C:=by
 have e:Region.before ol.toArray=bl.toArray:=by rw[← hr];exact Vp hb
 exact HY (by rw[e];exact hl) (by rw[e];exact hc) he h
end
end Go.Sl
namespace Go.Sl
theorem aY {C C':List HP} (he:aG C C':=by((iterate 30 (try(first|exact aG.refl _|exact aG.nil|(apply aG.pick;focus ((repeat (first|exact aT.here|apply aT.there)) <;> exact aT.here))|(apply aG.pickP;focus ((repeat (first|exact pers_ro _ _ _|exact lR _ _ _|exact pers_pure _|refine pers_sep ?_ ?_|refine pers_ex fun _=>?_)) <;> exact pers_pure _);focus ((repeat (first|exact aT.here|apply aT.there)) <;> exact aT.here))|(apply aG.pure;focus (first|assumption|exact rfl|omega))|apply aG.nilrow'|apply aG.ex|apply aG.sep|apply aG.drop))) <;> exact aG.nil)):aG C C':=he
theorem jY {α:Type} {C:List HP} {A:Option Addr} {E:tG α} {xs:List α} (hv:dL C A E xs:=by((repeat (first|exact eX|exact iV|exact vJ|assumption|apply bI)) <;> exact eX)):dL C A E xs:=hv
end Go.Sl
end
namespace Go.Sl
section
structure BrH (p:Prop):Prop where
 h:p
theorem bh {p X:Prop} (f:p→X):BrH p→X:=fun h=>f h.h
structure EqS {α:Type} (a b:α):Prop where
 h:a=b
theorem aE {α:Type} {a b:α} {X:Prop} (f:a=b→X):EqS a b→X:=fun h=>f h.h
theorem iH {α:Type} {E:tG α} {xs:List α} {P:Program} {ops:Array Oper} {Q:Fr→List HP→Prop} {es:ET} {hist:List (List HP)} {a:Fr} {C:List HP} {gd:Bool} {d':Nat} {c:Nat} {t:TypeId} {x y:Operand} {ty:TypeId} {pos:String} {after:Array Edge} {g:Option (Nat×Bool)} {A:Option Addr} {n cp sz:Nat} {k:IntKind} {j:Int} (h:∀B off,EqS A (some ⟨B,off,none⟩)→cV gd (.pointer (some ⟨B,off+j.toNat * sz,none⟩)) fun v=>aM P ops Q es hist (j9 a d' v) C)
  (hx:bJ a x=.slice A n cp:=by exact rfl) (hy:bJ a y=.int k j:=by exact rfl) (ht:rV P t=some sz:=by exact rfl) (hv:dL C A E xs:=by((repeat (first|exact eX|exact iV|exact vJ|assumption|apply bI)) <;> exact eX))
  (hn:xs.length=n:=by first|exact rfl|assumption|omega) (h0:0≤j:=by first|omega|assumption) (h1:j<n:=by first|omega|assumption) (hw:bD ops ⟨some d',.indexAddr t x y,ty,pos,after,g⟩ a=true:=by exact rfl):
  aM P ops Q (ET.cons (c,gd,⟨some d',.indexAddr t x y,ty,pos,after,g⟩) es) hist a C:=
 vZ (fun B off e=>h B off ⟨e⟩) hx hy ht hv hn h0 h1 hw
theorem Br.mkW {b:Bool} {X Y p q:Prop} (hX:BrH p→X) (hY:BrH q→Y)
 (hp:b=true→p:=by
  intro h
  first
  |(simp only[Bool.and_eq_true,Bool.or_eq_true,Bool.and_eq_false_iff,Bool.or_eq_false_iff,decide_eq_true_eq,decide_eq_false_iff_not,beq_iff_eq,bne_iff_ne,beq_eq_false_iff_ne,bne_eq_false_iff_eq,ne_eq,Bool.not_eq_true',Bool.not_eq_false',not_true_eq_false,not_false_eq_true,Int.not_lt,Int.not_le,gt_iff_lt,ge_iff_le] at h;exact h)
  |exact h)
 (hq:b=false→q:=by
  intro h
  first
  |(simp only[Bool.and_eq_true,Bool.or_eq_true,Bool.and_eq_false_iff,Bool.or_eq_false_iff,decide_eq_true_eq,decide_eq_false_iff_not,beq_iff_eq,bne_iff_ne,beq_eq_false_iff_ne,bne_eq_false_iff_eq,ne_eq,Bool.not_eq_true',Bool.not_eq_false',not_true_eq_false,not_false_eq_true,Int.not_lt,Int.not_le,gt_iff_lt,ge_iff_le] at h;exact h)
  |exact h):Br b X Y:=Br.mk (fun h=>hX ⟨hp h⟩) (fun h=>hY ⟨hq h⟩)
theorem w5 {X Y Z:Prop} (h1:X) (h2:Y) (hs:X→Y→Z:=by
 first
 |(show _→_→aM _ _ _ _ _ _ _;exact fun h k=>Ak0 h k)
 |(show _→_→Br _ _ _;first|exact fun h k=>Br.mkW h k|exact fun h k=>Br.mkV h k)):Z:=hs h1 h2
theorem w6 {p Y:Prop} (h:p) (hs:p→False:=by
 intro h
 first
 |contradiction
 |omega
 |(simp at h <;> contradiction)):Y:=(hs h).elim
def Ag8 (_:List (Nat×Nat)) (X Y:Prop):Prop:=X→Y
def Ahd (_ _:List Nat) (_:List (Nat×Nat)) (X Y:Prop):Prop:=X→Y
def Ahe (_:Tr) (X Y:Prop):Prop:=X→Y
section
variable {P:Program} {Q:Exit→Fr→List HP→Prop} {a:Fr} {C:List HP} {id:Nat} {ol:List Oper} {es:ET}
theorem Abl {l:List (Nat×Nat)} (hl:CI (La P ol.toArray (Region.before ol.toArray))=some l) (hc:u4 P ol.toArray (Region.before ol.toArray) l=true) (he:Jg ol.toArray l=some es):Ag8 l (aM P ol.toArray (Q .normal) es [] a C) (fG P (.region id ol.toArray true) Q a C):=fun h=>HY hl hc he h
theorem Y0 {l:List (Nat×Nat)} {bl br:List Nat} (hb:Xn ol [] 0=some br) (hr:br.reverse=bl) (hl:CI (La P ol.toArray bl.toArray)=some l) (hc:u4 P ol.toArray bl.toArray l=true) (he:Jg ol.toArray l=some es):Ahd bl br l (aM P ol.toArray (Q .normal) es [] a C) (fG P (.region id ol.toArray true) Q a C):=fun h=>Agl hb hr hl hc he h
theorem Y7 {t:Tr} (hl:trF (QW P ol.toArray (Region.before ol.toArray) (D3 P ol.toArray).length [] (D3 P ol.toArray))=some t) (hc:GK P ol.toArray (Region.before ol.toArray) t=true) (he:Di ol.toArray t=some es):Ahe t (aM P ol.toArray (Q .normal) es [] a C) (fG P (.region id ol.toArray true) Q a C):=fun h=>Gl hl hc he h
end
theorem dw (l:List (Nat×Nat)) {X Y:Prop} (h:X) (hs:Ag8 l X Y:=by exact Abl (by decide +kernel) (by decide +kernel) (by exact rfl)):Y:=hs h
theorem PX (bl br:List Nat) (l:List (Nat×Nat)) {X Y:Prop} (h:X) (hs:Ahd bl br l X Y:=by exact Y0 (by decide +kernel) (by decide +kernel) (by decide +kernel) (by decide +kernel) (by exact rfl)):Y:=hs h
theorem Gm (t:Tr) {X Y:Prop} (h:X) (hs:Ahe t X Y:=by exact Y7 (by kernel_rfl) (by decide +kernel) (by exact rfl)):Y:=hs h
theorem wr {X Y:Prop} (h:X) (hs:X→Y:=by
 first
 |(show _→cV _ _ _;first|exact fun h=>EB rfl h|exact fun h=>LX rfl h)
 |(show _→fG _ _ _ _ _;first|exact fun h=>YJ h|exact fun h=>Hz (by exact rfl) h|exact fun h=>QA (by exact rfl) h|exact fun h=>Abz h|exact fun h=>Sp h|exact fun h=>Gi h|exact fun h=>S8 h|exact fun h=>LW h|exact fun h=>Nb h|exact fun h=>HY (by exact rfl) (by decide +kernel) (by exact rfl) h|exact fun h=>Gl (by exact rfl) (by decide +kernel) (by exact rfl) h)
 |(show _→Br _ _ _;first|exact fun h=>Br.t rfl h|exact fun h=>Br.f rfl h|exact fun h=>Br.t (beq_self_eq_true _) h|exact fun h=>Br.f (yD _) h|exact fun h=>Br.t (by assumption) h|exact fun h=>Br.f (by assumption) h|exact fun h=>Br.t (Aim (by assumption)) h|exact fun h=>Br.f (Ahn (by assumption)) h)
 |(show _→bP _ _ _ _ _;first|exact fun h=>t_n h|exact fun h=>t_r h|exact fun h=>t_e h)
 |(show _→aN _ _ _ _ _;first|exact fun h=>b_n h|exact fun h=>b_r h|exact fun h=>YA rfl h|exact fun h=>Sf rfl h)
 |(show _→aW _ _ _ _;first|exact fun h=>g_n h|exact fun h=>g_r h|exact fun h=>g_e h)):Y:=hs h
theorem w1 {X Y:Prop} (h:X) (hs:X→Y:=by
 first
 |(show _→aM _ _ _ _ _ _ _;first
  |(show _→aM _ _ _ (ET.cons (_,_,⟨_,.move _,_,_,_,_⟩) _) _ _ _;first|exact fun h=>aF h|exact fun h=>aI h|exact fun h=>aU h|exact fun h=>G_skip0 h)
  |(show _→aM _ _ _ (ET.cons (_,_,⟨_,.assign _,_,_,_,_⟩) _) _ _ _;first|exact fun h=>aF h|exact fun h=>aI h|exact fun h=>aU h|exact fun h=>G_skip0 h)
  |(show _→aM _ _ _ (ET.cons (_,_,⟨_,.load _ _,_,_,_,_⟩) _) _ _ _;first|exact fun h=>aF h|exact fun h=>bE h|exact fun h=>aI h|exact fun h=>aX h|exact fun h=>aO h|exact fun h=>G_loadV2 h|exact fun h=>aU h|exact fun h=>G_skip0 h)
  |(show _→aM _ _ _ (ET.cons (_,_,⟨_,.fieldAddr _ _ _,_,_,_,_⟩) _) _ _ _;first|exact fun h=>aF h|exact fun h=>bA h|exact fun h=>aI h|exact fun h=>aU h|exact fun h=>G_skip0 h)
  |(show _→aM _ _ _ (ET.cons (_,_,⟨_,.call _,_,_,_,_⟩) _) _ _ _;first|exact fun h=>aF h|exact fun h=>aI h|exact fun h=>cU h|exact fun h=>dG h|exact fun h=>yJ h|exact fun h=>zW h|exact fun h=>bM h|exact fun h=>G_call0 h|exact fun h=>gS h|exact fun h=>G_callv0 h|exact fun h=>aU h|exact fun h=>G_skip0 h)
  |(show _→aM _ _ _ (ET.cons (_,_,⟨_,.nilCheck _,_,_,_,_⟩) _) _ _ _;first|exact fun h=>aF h|exact fun h=>aI h|exact fun h=>aU h|exact fun h=>G_skip0 h)
  |exact fun h=>aQ h
  |(show _→aM _ _ _ (ET.cons (_,_,⟨_,.extract _ _,_,_,_,_⟩) _) _ _ _;first|exact fun h=>aF h|exact fun h=>aI h|exact fun h=>aU h|exact fun h=>G_skip0 h)
  |(show _→aM _ _ _ (ET.cons (_,_,⟨_,.binOp _ _ _ _ _,_,_,_,_⟩) _) _ _ _;first|(show _→aM _ _ _ (ET.cons (_,_,⟨_,.binOp .eql _ _ _ _,_,_,_,_⟩) _) _ _ _;first|exact fun h=>aF h|exact fun h=>aI h|exact fun h=>aS h|exact fun h=>aU h|exact fun h=>G_skip0 h)|(show _→aM _ _ _ (ET.cons (_,_,⟨_,.binOp .add _ _ _ _,_,_,_,_⟩) _) _ _ _;first|exact fun h=>cD h|exact fun h=>aF h|exact fun h=>aI h|exact fun h=>fI h|exact fun h=>aU h|exact fun h=>G_skip0 h)|(show _→aM _ _ _ (ET.cons (_,_,⟨_,.binOp .neq _ _ _ _,_,_,_,_⟩) _) _ _ _;first|exact fun h=>aF h|exact fun h=>aI h|exact fun h=>bW h|exact fun h=>aU h|exact fun h=>G_skip0 h)|(show _→aM _ _ _ (ET.cons (_,_,⟨_,.binOp .sub _ _ _ _,_,_,_,_⟩) _) _ _ _;first|exact fun h=>fU h|exact fun h=>aF h|exact fun h=>aI h|exact fun h=>aU h|exact fun h=>G_skip0 h)|(show _→aM _ _ _ (ET.cons (_,_,⟨_,.binOp .rem _ _ _ _,_,_,_,_⟩) _) _ _ _;first|exact fun h=>BR h|exact fun h=>aF h|exact fun h=>aI h|exact fun h=>aU h|exact fun h=>G_skip0 h)|(show _→aM _ _ _ (ET.cons (_,_,⟨_,.binOp .mul _ _ _ _,_,_,_,_⟩) _) _ _ _;first|exact fun h=>AX h|exact fun h=>aF h|exact fun h=>aI h|exact fun h=>aU h|exact fun h=>G_skip0 h)|(show _→aM _ _ _ (ET.cons (_,_,⟨_,.binOp .quo _ _ _ _,_,_,_,_⟩) _) _ _ _;first|exact fun h=>NL h|exact fun h=>aF h|exact fun h=>aI h|exact fun h=>aU h|exact fun h=>G_skip0 h)|(show _→aM _ _ _ (ET.cons (_,_,⟨_,.binOp .shr _ _ _ _,_,_,_,_⟩) _) _ _ _;first|exact fun h=>P7 h|exact fun h=>aF h|exact fun h=>aI h|exact fun h=>aU h|exact fun h=>G_skip0 h)|(show _→aM _ _ _ (ET.cons (_,_,⟨_,.binOp .shl _ _ _ _,_,_,_,_⟩) _) _ _ _;first|exact fun h=>MV h|exact fun h=>aF h|exact fun h=>aI h|exact fun h=>aU h|exact fun h=>G_skip0 h)|(show _→aM _ _ _ (ET.cons (_,_,⟨_,.binOp .or _ _ _ _,_,_,_,_⟩) _) _ _ _;first|exact fun h=>ZE h|exact fun h=>aF h|exact fun h=>aI h|exact fun h=>aU h|exact fun h=>G_skip0 h)|(show _→aM _ _ _ (ET.cons (_,_,⟨_,.binOp .andNot _ _ _ _,_,_,_,_⟩) _) _ _ _;first|exact fun h=>EA h|exact fun h=>E9 h|exact fun h=>aF h|exact fun h=>aI h|exact fun h=>aU h|exact fun h=>G_skip0 h)|exact fun h=>aF h|exact fun h=>aI h|exact fun h=>aU h)
  |(show _→aM _ _ _ (ET.cons (_,_,⟨_,.store _ _ _,_,_,_,_⟩) _) _ _ _;first|exact fun h=>aF h|exact fun h=>aI h|exact fun h=>bR h|exact fun h=>aU h|exact fun h=>G_skip0 h)
  |(show _→aM _ _ _ (ET.cons (_,_,⟨_,.pick _ _ _,_,_,_,_⟩) _) _ _ _;first|exact fun h=>aF h|exact fun h=>aI h|exact fun h=>aU h|exact fun h=>G_skip0 h)
  |(show _→aM _ _ _ (ET.cons (_,_,⟨_,.indexAddr _ _ _,_,_,_,_⟩) _) _ _ _;first|exact fun h=>aF h|exact fun h=>aI h|exact fun h=>dM h|exact fun h=>cN h|exact fun h=>iH h|exact fun h=>aU h|exact fun h=>G_skip0 h)
  |(show _→aM _ _ _ (ET.cons (_,_,⟨_,.build _ _,_,_,_,_⟩) _) _ _ _;first|exact fun h=>aF h|exact fun h=>aI h|exact fun h=>dI h|exact fun h=>aU h|exact fun h=>G_skip0 h)
  |(show _→aM _ _ _ (ET.cons (_,_,⟨_,.box _ _,_,_,_,_⟩) _) _ _ _;first|exact fun h=>aF h|exact fun h=>aI h|exact fun h=>eS h|exact fun h=>aU h|exact fun h=>G_skip0 h)
  |(show _→aM _ _ _ (ET.cons (_,_,⟨_,.alloc _,_,_,_,_⟩) _) _ _ _;first|exact fun h=>aF h|exact fun h=>aI h|exact fun h=>eF h|exact fun h=>aU h|exact fun h=>G_skip0 h)
  |(show _→aM _ _ _ (ET.cons (_,_,⟨_,.unOp _ _ _,_,_,_,_⟩) _) _ _ _;first|(show _→aM _ _ _ (ET.cons (_,_,⟨_,.unOp .not _ _,_,_,_,_⟩) _) _ _ _;first|exact fun h=>aF h|exact fun h=>aI h|exact fun h=>lM h|exact fun h=>aU h|exact fun h=>G_skip0 h)|(show _→aM _ _ _ (ET.cons (_,_,⟨_,.unOp .neg _ _,_,_,_,_⟩) _) _ _ _;first|exact fun h=>aF h|exact fun h=>aI h|exact fun h=>G_neg64 h|exact fun h=>aU h|exact fun h=>G_skip0 h)|exact fun h=>aF h|exact fun h=>aI h|exact fun h=>aU h)
  |(show _→aM _ _ _ (ET.cons (_,_,⟨_,.slice _ _ _ _ _,_,_,_,_⟩) _) _ _ _;first|exact fun h=>aF h|exact fun h=>aI h|exact fun h=>wY h|exact fun h=>wJ h|exact fun h=>wQ h|exact fun h=>jU h|exact fun h=>gZ h|exact fun h=>aU h|exact fun h=>G_skip0 h)
  |(show _→aM _ _ _ (ET.cons (_,_,⟨_,.convert _ _ _,_,_,_,_⟩) _) _ _ _;first|exact fun h=>aF h|exact fun h=>aI h|exact fun h=>kC h|exact fun h=>pD h|exact fun h=>mZ h|exact fun h=>G_conv h|exact fun h=>G_bytesP h|exact fun h=>iR h|exact fun h=>lA h|exact fun h=>aU h|exact fun h=>G_skip0 h)
  |(show _→aM _ _ _ (ET.cons (_,_,⟨_,.buildSlice _ _ _,_,_,_,_⟩) _) _ _ _;first|exact fun h=>aF h|exact fun h=>aI h|exact fun h=>dZ h|exact fun h=>aU h|exact fun h=>G_skip0 h)
  |(show _→aM _ _ _ (ET.cons (_,_,⟨_,.index _ _ _,_,_,_,_⟩) _) _ _ _;first|exact fun h=>aF h|exact fun h=>aI h|exact fun h=>G_indexS h|exact fun h=>aU h|exact fun h=>G_skip0 h)
  |exact fun h=>aF h|exact fun h=>aI h|exact fun h=>aU h|exact fun h=>G_skip0 h)
 |(show _→cV _ _ _;first|exact fun h=>EB rfl h|exact fun h=>LX rfl h)
 |(show _→fG _ _ _ _ _;first|exact fun h=>YJ h|exact fun h=>Hz (by exact rfl) h|exact fun h=>QA (by exact rfl) h|exact fun h=>Abz h|exact fun h=>Sp h|exact fun h=>Gi h|exact fun h=>S8 h|exact fun h=>LW h|exact fun h=>Nb h|exact fun h=>HY (by exact rfl) (by decide +kernel) (by exact rfl) h|exact fun h=>Gl (by exact rfl) (by decide +kernel) (by exact rfl) h)
 |(show _→Br _ _ _;first|exact fun h=>Br.t rfl h|exact fun h=>Br.f rfl h|exact fun h=>Br.t (beq_self_eq_true _) h|exact fun h=>Br.f (yD _) h|exact fun h=>Br.t (by assumption) h|exact fun h=>Br.f (by assumption) h|exact fun h=>Br.t (Aim (by assumption)) h|exact fun h=>Br.f (Ahn (by assumption)) h)
 |(show _→bP _ _ _ _ _;first|exact fun h=>t_n h|exact fun h=>t_r h|exact fun h=>t_e h)
 |(show _→aN _ _ _ _ _;first|exact fun h=>b_n h|exact fun h=>b_r h|exact fun h=>YA rfl h|exact fun h=>Sf rfl h)
 |(show _→aW _ _ _ _;first|exact fun h=>g_n h|exact fun h=>g_r h|exact fun h=>g_e h)):Y:=hs h
theorem v0 {X Y:Prop} (h:X) (hs:X→Y:=by
 show _→aM _ _ _ _ _ _ _
 intro h
 first|exact aF h|exact aQ h|exact aI h|exact bM h|exact G_call0 h):Y:=hs h
theorem v1 {X Y:Prop} (h:X) (hs:X→Y:=by
 show _→aM _ _ _ _ _ _ _
 intro h
 first|exact aF h|exact aQ h|exact aI h|exact aU h|exact G_skip0 h):Y:=hs h
theorem v2 {X Y:Prop} (h:X) (hs:X→Y:=by
 show _→aM _ _ _ _ _ _ _
 intro h
 first|exact aF h|exact aQ h|exact aI h|exact bW h|exact bM h|exact G_call0 h):Y:=hs h
theorem v3 {X Y:Prop} (h:X) (hs:X→Y:=by
 show _→aM _ _ _ _ _ _ _
 intro h
 first|exact aF h|exact aQ h|exact aI h|exact aS h|exact bM h|exact G_call0 h):Y:=hs h
theorem v4 {X Y:Prop} (h:X) (hs:X→Y:=by
 show _→aM _ _ _ _ _ _ _
 intro h
 first|exact aF h|exact bE h|exact aQ h|exact bA h|exact aI h|exact aX h|exact aO h|exact G_loadV2 h|exact aS h):Y:=hs h
theorem v5 {X Y:Prop} (h:X) (hs:X→Y:=by
 show _→aM _ _ _ _ _ _ _
 intro h
 first|exact aF h|exact aQ h|exact aI h|exact bR h|exact dI h|exact eF h):Y:=hs h
theorem v6 {X Y:Prop} (h:X) (hs:X→Y:=by
 show _→aM _ _ _ _ _ _ _
 intro h
 first|exact aF h|exact aQ h|exact aI h|exact dI h|exact eS h|exact aU h|exact G_skip0 h):Y:=hs h
theorem v8 {X Y:Prop} (h:X) (hs:X→Y:=by
 show _→aM _ _ _ _ _ _ _
 intro h
 first|exact fU h|exact aF h|exact aQ h|exact aI h|exact wY h|exact wJ h|exact wQ h|exact bM h|exact G_call0 h|exact jU h|exact gZ h):Y:=hs h
theorem v9 {X Y:Prop} (h:X) (hs:X→Y:=by
 show _→aM _ _ _ _ _ _ _
 intro h
 first|exact aF h|exact aQ h|exact aI h|exact cU h|exact dG h|exact wY h|exact wJ h|exact wQ h|exact aS h|exact jU h|exact gZ h):Y:=hs h
theorem v10 {X Y:Prop} (h:X) (hs:X→Y:=by
 show _→aM _ _ _ _ _ _ _
 intro h
 first|exact aF h|exact bE h|exact aQ h|exact bA h|exact aI h|exact aX h|exact aO h|exact G_loadV2 h|exact aS h|exact bM h|exact G_call0 h):Y:=hs h
theorem I2 {X Y:Prop} (h:X) (hs:X→Y:=by
 show _→aM _ _ _ _ _ _ _
 intro h
 first|exact aF h|exact bE h|exact aQ h|exact bA h|exact aI h|exact aX h|exact aO h|exact G_loadV2 h|exact bW h|exact bM h|exact G_call0 h):Y:=hs h
theorem v13 {X Y:Prop} (h:X) (hs:X→Y:=by
 show _→aM _ _ _ _ _ _ _
 intro h
 first|exact aF h|exact aQ h|exact bA h|exact aI h|exact bR h|exact aS h|exact bM h|exact G_call0 h):Y:=hs h
theorem v14 {X Y:Prop} (h:X) (hs:X→Y:=by
 show _→aM _ _ _ _ _ _ _
 intro h
 first|exact aF h|exact bE h|exact aQ h|exact bA h|exact aI h|exact bR h|exact aX h|exact aO h|exact G_loadV2 h|exact zW h):Y:=hs h
theorem v15 {X Y:Prop} (h:X) (hs:X→Y:=by
 show _→aM _ _ _ _ _ _ _
 intro h
 first|exact fU h|exact aF h|exact aQ h|exact aI h|exact aS h|exact bM h|exact G_call0 h|exact aU h|exact G_skip0 h):Y:=hs h
theorem v16 {X Y:Prop} (h:X) (hs:X→Y:=by
 show _→aM _ _ _ _ _ _ _
 intro h
 first|exact aF h|exact bE h|exact aQ h|exact bA h|exact aI h|exact aX h|exact aO h|exact G_loadV2 h|exact bW h|exact aU h|exact G_skip0 h):Y:=hs h
theorem v17 {X Y:Prop} (h:X) (hs:X→Y:=by
 show _→aM _ _ _ _ _ _ _
 intro h
 first|exact aF h|exact bE h|exact aQ h|exact aI h|exact aX h|exact aO h|exact G_loadV2 h|exact yJ h|exact zW h|exact bM h|exact G_call0 h):Y:=hs h
theorem v19 {X Y:Prop} (h:X) (hs:X→Y:=by
 show _→aM _ _ _ _ _ _ _
 intro h
 first|exact aF h|exact bE h|exact aQ h|exact bA h|exact aI h|exact aX h|exact aO h|exact G_loadV2 h|exact bM h|exact G_call0 h|exact eS h|exact aU h|exact G_skip0 h):Y:=hs h
theorem v20 {X Y:Prop} (h:X) (hs:X→Y:=by
 show _→aM _ _ _ _ _ _ _
 intro h
 first|exact aF h|exact bE h|exact aQ h|exact bA h|exact aI h|exact aX h|exact aO h|exact G_loadV2 h|exact cU h|exact dG h|exact kC h|exact pD h|exact mZ h|exact G_conv h|exact aS h|exact G_bytesP h|exact iR h|exact lA h):Y:=hs h
theorem v21 {X Y:Prop} (h:X) (hs:X→Y:=by
 show _→aM _ _ _ _ _ _ _
 intro h
 first|exact aF h|exact aQ h|exact aI h|exact lM h|exact dI h|exact bW h|exact bM h|exact G_call0 h|exact eS h):Y:=hs h
theorem v22 {X Y:Prop} (h:X) (hs:X→Y:=by
 show _→aM _ _ _ _ _ _ _
 intro h
 first|exact fU h|exact aF h|exact bE h|exact aQ h|exact bA h|exact aI h|exact aX h|exact aO h|exact G_loadV2 h|exact aS h|exact eS h):Y:=hs h
theorem v23 {X Y:Prop} (h:X) (hs:X→Y:=by
 show _→aM _ _ _ _ _ _ _
 intro h
 first|exact aF h|exact bE h|exact aQ h|exact bA h|exact aI h|exact aX h|exact aO h|exact G_loadV2 h|exact aS h|exact eS h|exact aU h|exact G_skip0 h):Y:=hs h
theorem v24 {X Y:Prop} (h:X) (hs:X→Y:=by
 show _→aM _ _ _ _ _ _ _
 intro h
 first|exact cD h|exact fU h|exact NL h|exact aF h|exact aQ h|exact aI h|exact fI h|exact bM h|exact G_call0 h|exact aU h|exact G_skip0 h):Y:=hs h
theorem v25 {X Y:Prop} (h:X) (hs:X→Y:=by
 show _→aM _ _ _ _ _ _ _
 intro h
 first|exact aF h|exact bE h|exact aQ h|exact bA h|exact aI h|exact aX h|exact aO h|exact G_loadV2 h|exact G_indexS h|exact dI h|exact bM h|exact G_call0 h):Y:=hs h
theorem v26 {X Y:Prop} (h:X) (hs:X→Y:=by
 show _→aM _ _ _ _ _ _ _
 intro h
 first|exact aF h|exact bE h|exact aQ h|exact aI h|exact aX h|exact aO h|exact G_loadV2 h|exact aS h|exact gS h|exact G_callv0 h|exact eS h|exact aU h|exact G_skip0 h):Y:=hs h
theorem v27 {X Y:Prop} (h:X) (hs:X→Y:=by
 show _→aM _ _ _ _ _ _ _
 intro h
 first|exact BR h|exact aF h|exact bE h|exact aQ h|exact bA h|exact aI h|exact aX h|exact aO h|exact G_loadV2 h|exact aS h|exact aU h|exact G_skip0 h):Y:=hs h
theorem v28 {X Y:Prop} (h:X) (hs:X→Y:=by
 show _→aM _ _ _ _ _ _ _
 intro h
 first|exact cD h|exact fU h|exact aF h|exact bE h|exact aQ h|exact aI h|exact bR h|exact aX h|exact aO h|exact G_loadV2 h|exact dM h|exact cN h|exact fI h|exact iH h):Y:=hs h
theorem v29 {X Y:Prop} (h:X) (hs:X→Y:=by
 show _→aM _ _ _ _ _ _ _
 intro h
 first|exact cD h|exact aF h|exact bE h|exact aQ h|exact bA h|exact aI h|exact aX h|exact aO h|exact G_loadV2 h|exact dM h|exact cN h|exact fI h|exact aS h|exact bW h|exact iH h):Y:=hs h
theorem v30 {X Y:Prop} (h:X) (hs:X→Y:=by
 show _→aM _ _ _ _ _ _ _
 intro h
 first|exact aF h|exact bE h|exact aQ h|exact bA h|exact aI h|exact bR h|exact aX h|exact aO h|exact G_loadV2 h|exact dI h|exact aS h|exact eF h):Y:=hs h
theorem v31 {X Y:Prop} (h:X) (hs:X→Y:=by
 show _→aM _ _ _ _ _ _ _
 intro h
 first|exact aF h|exact bE h|exact aQ h|exact bA h|exact aI h|exact bR h|exact aX h|exact aO h|exact G_loadV2 h|exact bM h|exact G_call0 h|exact eS h|exact eF h):Y:=hs h
theorem Ga {X Y:Prop} (h:X) (hs:X→Y:=by
 show _→aM _ _ _ _ _ _ _
 intro h
 first|exact cD h|exact aF h|exact bE h|exact aQ h|exact bA h|exact aI h|exact bR h|exact aX h|exact aO h|exact G_loadV2 h|exact fI h|exact aS h|exact bM h|exact G_call0 h):Y:=hs h
theorem v33 {X Y:Prop} (h:X) (hs:X→Y:=by
 show _→aM _ _ _ _ _ _ _
 intro h
 first|exact cD h|exact fU h|exact aF h|exact bE h|exact aQ h|exact bA h|exact aI h|exact bR h|exact aX h|exact aO h|exact G_loadV2 h|exact fI h|exact aS h):Y:=hs h
theorem I1 {X Y:Prop} (h:X) (hs:X→Y:=by
 show _→aM _ _ _ _ _ _ _
 intro h
 first|exact aF h|exact bE h|exact aQ h|exact bA h|exact aI h|exact aX h|exact aO h|exact G_loadV2 h|exact lM h|exact aS h|exact bM h|exact G_call0 h|exact aU h|exact G_skip0 h):Y:=hs h
theorem v35 {X Y:Prop} (h:X) (hs:X→Y:=by
 show _→aM _ _ _ _ _ _ _
 intro h
 first|exact aF h|exact bE h|exact aQ h|exact bA h|exact aI h|exact aX h|exact aO h|exact G_loadV2 h|exact yJ h|exact aS h|exact bW h|exact bM h|exact G_call0 h):Y:=hs h
theorem v36 {X Y:Prop} (h:X) (hs:X→Y:=by
 show _→aM _ _ _ _ _ _ _
 intro h
 first|exact aF h|exact bE h|exact aQ h|exact aI h|exact bR h|exact aX h|exact aO h|exact G_loadV2 h|exact cU h|exact dG h|exact dI h|exact bW h|exact dZ h):Y:=hs h
theorem v37 {X Y:Prop} (h:X) (hs:X→Y:=by
 show _→aM _ _ _ _ _ _ _
 intro h
 first|exact cD h|exact aF h|exact bE h|exact aQ h|exact bA h|exact aI h|exact bR h|exact aX h|exact aO h|exact G_loadV2 h|exact lM h|exact fI h|exact gS h|exact G_callv0 h):Y:=hs h
theorem v39 {X Y:Prop} (h:X) (hs:X→Y:=by
 show _→aM _ _ _ _ _ _ _
 intro h
 first|exact aF h|exact bE h|exact aQ h|exact bA h|exact aI h|exact aX h|exact aO h|exact G_loadV2 h|exact yJ h|exact zW h|exact aS h|exact eS h):Y:=hs h
theorem v40 {X Y:Prop} (h:X) (hs:X→Y:=by
 show _→aM _ _ _ _ _ _ _
 intro h
 first|exact aF h|exact bE h|exact aQ h|exact bA h|exact aI h|exact bR h|exact aX h|exact aO h|exact G_loadV2 h|exact cU h|exact dG h|exact dM h|exact cN h|exact wY h|exact wJ h|exact wQ h|exact iH h|exact jU h|exact gZ h):Y:=hs h
theorem v41 {X Y:Prop} (h:X) (hs:X→Y:=by
 show _→aM _ _ _ _ _ _ _
 intro h
 first|exact aF h|exact bE h|exact aQ h|exact bA h|exact aI h|exact aX h|exact aO h|exact G_loadV2 h|exact lM h|exact dM h|exact cN h|exact aS h|exact bM h|exact G_call0 h|exact iH h|exact aU h|exact G_skip0 h):Y:=hs h
theorem v42 {X Y:Prop} (h:X) (hs:X→Y:=by
 show _→aM _ _ _ _ _ _ _
 intro h
 first|exact cD h|exact aF h|exact aQ h|exact aI h|exact dI h|exact fI h|exact aS h|exact bW h|exact bM h|exact G_call0 h|exact eS h|exact aU h|exact G_skip0 h):Y:=hs h
theorem v43 {X Y:Prop} (h:X) (hs:X→Y:=by
 show _→aM _ _ _ _ _ _ _
 intro h
 first|exact cD h|exact AX h|exact NL h|exact aF h|exact bE h|exact aQ h|exact bA h|exact aI h|exact aX h|exact aO h|exact G_loadV2 h|exact fI h|exact zW h|exact eS h):Y:=hs h
theorem v44 {X Y:Prop} (h:X) (hs:X→Y:=by
 show _→aM _ _ _ _ _ _ _
 intro h
 first|exact aF h|exact bE h|exact aQ h|exact bA h|exact aI h|exact aX h|exact aO h|exact G_loadV2 h|exact lM h|exact aS h|exact bM h|exact G_call0 h|exact eS h|exact aU h|exact G_skip0 h):Y:=hs h
theorem v45 {X Y:Prop} (h:X) (hs:X→Y:=by
 show _→aM _ _ _ _ _ _ _
 intro h
 first|exact cD h|exact aF h|exact bE h|exact aQ h|exact bA h|exact aI h|exact aX h|exact aO h|exact G_loadV2 h|exact cU h|exact dG h|exact dM h|exact cN h|exact fI h|exact bM h|exact G_call0 h|exact dZ h|exact iH h):Y:=hs h
theorem v46 {X Y:Prop} (h:X) (hs:X→Y:=by
 show _→aM _ _ _ _ _ _ _
 intro h
 first|exact aF h|exact bE h|exact aQ h|exact bA h|exact aI h|exact aX h|exact aO h|exact G_loadV2 h|exact dI h|exact aS h|exact bW h|exact bM h|exact G_call0 h|exact eS h):Y:=hs h
theorem v47 {X Y:Prop} (h:X) (hs:X→Y:=by
 show _→aM _ _ _ _ _ _ _
 intro h
 first|exact aF h|exact bE h|exact aQ h|exact bA h|exact aI h|exact aX h|exact aO h|exact G_loadV2 h|exact aS h|exact bM h|exact G_call0 h|exact gS h|exact G_callv0 h|exact eS h|exact eF h):Y:=hs h
theorem v48 {X Y:Prop} (h:X) (hs:X→Y:=by
 show _→aM _ _ _ _ _ _ _
 intro h
 first|exact aF h|exact bE h|exact aQ h|exact bA h|exact aI h|exact bR h|exact aX h|exact aO h|exact G_loadV2 h|exact lM h|exact bW h|exact bM h|exact G_call0 h|exact aU h|exact G_skip0 h):Y:=hs h
theorem Z2 {X Y:Prop} (h:X) (hs:X→Y:=by
 show _→aM _ _ _ _ _ _ _
 intro h
 first|exact cD h|exact aF h|exact bE h|exact aQ h|exact bA h|exact aI h|exact bR h|exact aX h|exact aO h|exact G_loadV2 h|exact fI h|exact aS h|exact bW h|exact bM h|exact G_call0 h):Y:=hs h
theorem J3 {X Y:Prop} (h:X) (hs:X→Y:=by
 show _→aM _ _ _ _ _ _ _
 intro h
 first|exact cD h|exact fU h|exact aF h|exact aQ h|exact aI h|exact cU h|exact dG h|exact lM h|exact wY h|exact wJ h|exact wQ h|exact fI h|exact aS h|exact bM h|exact G_call0 h|exact jU h|exact gZ h):Y:=hs h
theorem v53 {X Y:Prop} (h:X) (hs:X→Y:=by
 show _→aM _ _ _ _ _ _ _
 intro h
 first|exact fU h|exact aF h|exact aQ h|exact aI h|exact lM h|exact dI h|exact aS h|exact bM h|exact G_call0 h|exact gS h|exact G_callv0 h|exact eS h|exact aU h|exact G_skip0 h):Y:=hs h
theorem v54 {X Y:Prop} (h:X) (hs:X→Y:=by
 show _→aM _ _ _ _ _ _ _
 intro h
 first|exact aF h|exact bE h|exact aQ h|exact bA h|exact aI h|exact bR h|exact aX h|exact aO h|exact G_loadV2 h|exact cU h|exact dG h|exact dM h|exact cN h|exact bM h|exact G_call0 h|exact eS h|exact dZ h|exact iH h):Y:=hs h
theorem v55 {X Y:Prop} (h:X) (hs:X→Y:=by
 show _→aM _ _ _ _ _ _ _
 intro h
 first|exact cD h|exact aF h|exact bE h|exact aQ h|exact aI h|exact bR h|exact aX h|exact aO h|exact G_loadV2 h|exact dM h|exact cN h|exact fI h|exact yJ h|exact bM h|exact G_call0 h|exact gS h|exact G_callv0 h|exact eF h|exact iH h):Y:=hs h
theorem v56 {X Y:Prop} (h:X) (hs:X→Y:=by
 show _→aM _ _ _ _ _ _ _
 intro h
 first|exact AX h|exact MV h|exact P7 h|exact aF h|exact bE h|exact aQ h|exact bA h|exact aI h|exact bR h|exact aX h|exact aO h|exact G_loadV2 h|exact eS h|exact aU h|exact G_skip0 h):Y:=hs h
theorem z8 {X Y:Prop} (h:X) (hs:X→Y:=by
 show _→aM _ _ _ _ _ _ _
 intro h
 first|exact aF h|exact bE h|exact aQ h|exact bA h|exact aI h|exact bR h|exact aX h|exact aO h|exact G_loadV2 h|exact dI h|exact aS h|exact bW h|exact bM h|exact G_call0 h|exact eS h|exact aU h|exact G_skip0 h):Y:=hs h
theorem v58 {X Y:Prop} (h:X) (hs:X→Y:=by
 show _→aM _ _ _ _ _ _ _
 intro h
 first|exact BR h|exact aF h|exact bE h|exact aQ h|exact bA h|exact aI h|exact aX h|exact aO h|exact G_loadV2 h|exact aS h|exact bW h|exact bM h|exact G_call0 h|exact gS h|exact G_callv0 h|exact eS h|exact aU h|exact G_skip0 h):Y:=hs h
theorem JC {X Y:Prop} (h:X) (hs:X→Y:=by
 show _→aM _ _ _ _ _ _ _
 intro h
 first|exact cD h|exact aF h|exact bE h|exact aQ h|exact bA h|exact aI h|exact bR h|exact aX h|exact aO h|exact G_loadV2 h|exact dM h|exact cN h|exact dI h|exact fI h|exact bW h|exact bM h|exact G_call0 h|exact eF h|exact iH h):Y:=hs h
theorem XR {X Y:Prop} (h:X) (hs:X→Y:=by
 show _→aM _ _ _ _ _ _ _
 intro h
 first|exact cD h|exact aF h|exact bE h|exact aQ h|exact bA h|exact aI h|exact aX h|exact aO h|exact G_loadV2 h|exact dM h|exact cN h|exact dI h|exact fI h|exact bW h|exact bM h|exact G_call0 h|exact eS h|exact dZ h|exact iH h):Y:=hs h
theorem v61 {X Y:Prop} (h:X) (hs:X→Y:=by
 show _→aM _ _ _ _ _ _ _
 intro h
 first|exact BR h|exact aF h|exact bE h|exact aQ h|exact bA h|exact aI h|exact bR h|exact aX h|exact aO h|exact G_loadV2 h|exact kC h|exact pD h|exact mZ h|exact G_conv h|exact dI h|exact zW h|exact G_bytesP h|exact iR h|exact eS h|exact eF h|exact lA h):Y:=hs h
theorem v62 {X Y:Prop} (h:X) (hs:X→Y:=by
 show _→aM _ _ _ _ _ _ _
 intro h
 first|exact cD h|exact aF h|exact bE h|exact aQ h|exact bA h|exact aI h|exact bR h|exact aX h|exact aO h|exact G_loadV2 h|exact dM h|exact cN h|exact wY h|exact wJ h|exact wQ h|exact fI h|exact aS h|exact bM h|exact G_call0 h|exact iH h|exact jU h|exact gZ h|exact aU h|exact G_skip0 h):Y:=hs h
theorem Bf {X Y:Prop} (h:X) (hs:X→Y:=by
 show _→aM _ _ _ _ _ _ _
 intro h
 first|exact aF h|exact bE h|exact aQ h|exact bA h|exact aI h|exact aX h|exact aO h|exact G_loadV2 h|exact lM h|exact dI h|exact aS h|exact bW h|exact bM h|exact G_call0 h|exact eS h|exact aU h|exact G_skip0 h):Y:=hs h
theorem Jc {X Y:Prop} (h:X) (hs:X→Y:=by
 show _→aM _ _ _ _ _ _ _
 intro h
 first|exact aF h|exact bE h|exact aQ h|exact bA h|exact aI h|exact bR h|exact aX h|exact aO h|exact G_loadV2 h|exact dI h|exact aS h|exact bW h|exact bM h|exact G_call0 h|exact eS h|exact eF h):Y:=hs h
theorem L2 {X Y:Prop} (h:X) (hs:X→Y:=by
 show _→aM _ _ _ _ _ _ _
 intro h
 first|exact fU h|exact aF h|exact bE h|exact aQ h|exact bA h|exact aI h|exact bR h|exact aX h|exact aO h|exact G_loadV2 h|exact lM h|exact aS h|exact bW h|exact bM h|exact G_call0 h|exact aU h|exact G_skip0 h):Y:=hs h
theorem v66 {X Y:Prop} (h:X) (hs:X→Y:=by
 show _→aM _ _ _ _ _ _ _
 intro h
 first|exact cD h|exact fU h|exact aF h|exact bE h|exact aQ h|exact bA h|exact aI h|exact bR h|exact aX h|exact aO h|exact G_loadV2 h|exact kC h|exact pD h|exact mZ h|exact G_conv h|exact fI h|exact yJ h|exact zW h|exact aS h|exact G_bytesP h|exact iR h|exact lA h):Y:=hs h
theorem v67 {X Y:Prop} (h:X) (hs:X→Y:=by
 show _→aM _ _ _ _ _ _ _
 intro h
 first|exact cD h|exact fU h|exact BR h|exact aF h|exact bE h|exact aQ h|exact bA h|exact aI h|exact bR h|exact aX h|exact aO h|exact G_loadV2 h|exact fI h|exact yJ h|exact zW h|exact bM h|exact G_call0 h):Y:=hs h
theorem v68 {X Y:Prop} (h:X) (hs:X→Y:=by
 show _→aM _ _ _ _ _ _ _
 intro h
 first|exact cD h|exact fU h|exact aF h|exact bE h|exact aQ h|exact bA h|exact aI h|exact bR h|exact aX h|exact aO h|exact G_loadV2 h|exact lM h|exact fI h|exact zW h|exact aS h|exact bM h|exact G_call0 h):Y:=hs h
theorem v71 {X Y:Prop} (h:X) (hs:X→Y:=by
 show _→aM _ _ _ _ _ _ _
 intro h
 first|exact cD h|exact fU h|exact aF h|exact bE h|exact aQ h|exact bA h|exact aI h|exact bR h|exact aX h|exact aO h|exact G_loadV2 h|exact dM h|exact cN h|exact fI h|exact aS h|exact bM h|exact G_call0 h|exact eF h|exact iH h|exact aU h|exact G_skip0 h):Y:=hs h
theorem XD {X Y:Prop} (h:X) (hs:X→Y:=by
 show _→aM _ _ _ _ _ _ _
 intro h
 first|exact cD h|exact aF h|exact bE h|exact aQ h|exact bA h|exact aI h|exact aX h|exact aO h|exact G_loadV2 h|exact cU h|exact dG h|exact dM h|exact cN h|exact dI h|exact fI h|exact aS h|exact bM h|exact G_call0 h|exact dZ h|exact iH h|exact aU h|exact G_skip0 h):Y:=hs h
theorem v73 {X Y:Prop} (h:X) (hs:X→Y:=by
 show _→aM _ _ _ _ _ _ _
 intro h
 first|exact aF h|exact bE h|exact aQ h|exact bA h|exact aI h|exact bR h|exact aX h|exact aO h|exact G_loadV2 h|exact cU h|exact dG h|exact dM h|exact cN h|exact dI h|exact wY h|exact wJ h|exact wQ h|exact aS h|exact bM h|exact G_call0 h|exact eF h|exact iH h|exact jU h|exact gZ h):Y:=hs h
theorem v74 {X Y:Prop} (h:X) (hs:X→Y:=by
 show _→aM _ _ _ _ _ _ _
 intro h
 first|exact cD h|exact aF h|exact bE h|exact aQ h|exact aI h|exact bR h|exact aX h|exact aO h|exact G_loadV2 h|exact cU h|exact dG h|exact dM h|exact cN h|exact kC h|exact pD h|exact mZ h|exact G_conv h|exact fI h|exact bW h|exact G_bytesP h|exact iR h|exact bM h|exact G_call0 h|exact gS h|exact G_callv0 h|exact eF h|exact lA h|exact iH h):Y:=hs h
theorem v75 {X Y:Prop} (h:X) (hs:X→Y:=by
 show _→aM _ _ _ _ _ _ _
 intro h
 first|exact fU h|exact aF h|exact bE h|exact aQ h|exact bA h|exact aI h|exact bR h|exact aX h|exact aO h|exact G_loadV2 h|exact dM h|exact cN h|exact dI h|exact bM h|exact G_call0 h|exact gS h|exact G_callv0 h|exact eS h|exact eF h|exact iH h):Y:=hs h
theorem Qx {X Y:Prop} (h:X) (hs:X→Y:=by
 show _→aM _ _ _ _ _ _ _
 intro h
 first|exact cD h|exact aF h|exact bE h|exact aQ h|exact bA h|exact aI h|exact bR h|exact aX h|exact aO h|exact G_loadV2 h|exact lM h|exact fI h|exact aS h|exact bM h|exact G_call0 h|exact gS h|exact G_callv0 h|exact eS h|exact aU h|exact G_skip0 h):Y:=hs h
theorem v78 {X Y:Prop} (h:X) (hs:X→Y:=by
 show _→aM _ _ _ _ _ _ _
 intro h
 first|exact cD h|exact aF h|exact bE h|exact aQ h|exact bA h|exact aI h|exact aX h|exact aO h|exact G_loadV2 h|exact lM h|exact dM h|exact cN h|exact dI h|exact fI h|exact aS h|exact bW h|exact bM h|exact G_call0 h|exact eS h|exact iH h|exact aU h|exact G_skip0 h):Y:=hs h
theorem Yq {X Y:Prop} (h:X) (hs:X→Y:=by
 show _→aM _ _ _ _ _ _ _
 intro h
 first|exact cD h|exact aF h|exact bE h|exact aQ h|exact bA h|exact aI h|exact bR h|exact aX h|exact aO h|exact G_loadV2 h|exact dM h|exact cN h|exact dI h|exact fI h|exact aS h|exact bM h|exact G_call0 h|exact gS h|exact G_callv0 h|exact eS h|exact eF h|exact iH h):Y:=hs h
theorem Qo {X Y:Prop} (h:X) (hs:X→Y:=by
 show _→aM _ _ _ _ _ _ _
 intro h
 first|exact cD h|exact aF h|exact bE h|exact aQ h|exact bA h|exact aI h|exact bR h|exact aX h|exact aO h|exact G_loadV2 h|exact cU h|exact dG h|exact lM h|exact wY h|exact wJ h|exact wQ h|exact fI h|exact aS h|exact bM h|exact G_call0 h|exact eF h|exact dZ h|exact jU h|exact gZ h):Y:=hs h
theorem v81 {X Y:Prop} (h:X) (hs:X→Y:=by
 show _→aM _ _ _ _ _ _ _
 intro h
 first|exact cD h|exact aF h|exact bE h|exact aQ h|exact bA h|exact aI h|exact bR h|exact aX h|exact aO h|exact G_loadV2 h|exact dM h|exact cN h|exact G_indexS h|exact dI h|exact fI h|exact bW h|exact bM h|exact G_call0 h|exact eS h|exact eF h|exact iH h):Y:=hs h
theorem v82 {X Y:Prop} (h:X) (hs:X→Y:=by
 show _→aM _ _ _ _ _ _ _
 intro h
 first|exact aF h|exact bE h|exact aQ h|exact bA h|exact aI h|exact bR h|exact aX h|exact aO h|exact G_loadV2 h|exact dM h|exact cN h|exact dI h|exact aS h|exact bW h|exact bM h|exact G_call0 h|exact eS h|exact eF h|exact iH h|exact aU h|exact G_skip0 h):Y:=hs h
theorem v83 {X Y:Prop} (h:X) (hs:X→Y:=by
 show _→aM _ _ _ _ _ _ _
 intro h
 first|exact cD h|exact fU h|exact BR h|exact aF h|exact bE h|exact aQ h|exact bA h|exact aI h|exact aX h|exact aO h|exact G_loadV2 h|exact dM h|exact cN h|exact kC h|exact pD h|exact mZ h|exact G_conv h|exact fI h|exact aS h|exact G_bytesP h|exact iR h|exact bM h|exact G_call0 h|exact eS h|exact dZ h|exact lA h|exact iH h):Y:=hs h
theorem v84 {X Y:Prop} (h:X) (hs:X→Y:=by
 show _→aM _ _ _ _ _ _ _
 intro h
 first|exact cD h|exact fU h|exact NL h|exact aF h|exact bE h|exact aQ h|exact bA h|exact aI h|exact aX h|exact aO h|exact G_loadV2 h|exact dM h|exact cN h|exact fI h|exact aS h|exact bM h|exact G_call0 h|exact gS h|exact G_callv0 h|exact eS h|exact iH h|exact aU h|exact G_skip0 h):Y:=hs h
theorem v85 {X Y:Prop} (h:X) (hs:X→Y:=by
 show _→aM _ _ _ _ _ _ _
 intro h
 first|exact cD h|exact BR h|exact aF h|exact bE h|exact aQ h|exact bA h|exact aI h|exact bR h|exact aX h|exact aO h|exact G_loadV2 h|exact lM h|exact wY h|exact wJ h|exact wQ h|exact fI h|exact yJ h|exact aS h|exact bM h|exact G_call0 h|exact jU h|exact gZ h|exact aU h|exact G_skip0 h):Y:=hs h
theorem v86 {X Y:Prop} (h:X) (hs:X→Y:=by
 show _→aM _ _ _ _ _ _ _
 intro h
 first|exact cD h|exact MV h|exact ZE h|exact P7 h|exact aF h|exact bE h|exact aQ h|exact aI h|exact aX h|exact aO h|exact G_loadV2 h|exact dM h|exact cN h|exact kC h|exact pD h|exact mZ h|exact G_conv h|exact fI h|exact aS h|exact G_bytesP h|exact iR h|exact bM h|exact G_call0 h|exact gS h|exact G_callv0 h|exact lA h|exact iH h|exact aU h|exact G_skip0 h):Y:=hs h
theorem v88 {X Y:Prop} (h:X) (hs:X→Y:=by
 show _→aM _ _ _ _ _ _ _
 intro h
 first|exact cD h|exact aF h|exact bE h|exact aQ h|exact bA h|exact aI h|exact bR h|exact aX h|exact aO h|exact G_loadV2 h|exact lM h|exact dM h|exact cN h|exact dI h|exact fI h|exact aS h|exact bM h|exact G_call0 h|exact gS h|exact G_callv0 h|exact eF h|exact iH h|exact aU h|exact G_skip0 h):Y:=hs h
theorem Gw {X Y:Prop} (h:X) (hs:X→Y:=by
 show _→aM _ _ _ _ _ _ _
 intro h
 first|exact aF h|exact bE h|exact aQ h|exact bA h|exact aI h|exact bR h|exact aX h|exact aO h|exact G_loadV2 h|exact lM h|exact dI h|exact yJ h|exact aS h|exact bW h|exact bM h|exact G_call0 h|exact eS h|exact eF h|exact aU h|exact G_skip0 h):Y:=hs h
theorem v90 {X Y:Prop} (h:X) (hs:X→Y:=by
 show _→aM _ _ _ _ _ _ _
 intro h
 first|exact BR h|exact aF h|exact bE h|exact aQ h|exact bA h|exact aI h|exact bR h|exact aX h|exact aO h|exact G_loadV2 h|exact cU h|exact dG h|exact dI h|exact aS h|exact bW h|exact bM h|exact G_call0 h|exact eS h|exact dZ h|exact aU h|exact G_skip0 h):Y:=hs h
theorem v91 {X Y:Prop} (h:X) (hs:X→Y:=by
 show _→aM _ _ _ _ _ _ _
 intro h
 first|exact cD h|exact fU h|exact AX h|exact P7 h|exact aF h|exact bE h|exact aQ h|exact bA h|exact aI h|exact bR h|exact aX h|exact aO h|exact G_loadV2 h|exact cU h|exact dG h|exact kC h|exact pD h|exact mZ h|exact G_conv h|exact fI h|exact aS h|exact G_bytesP h|exact iR h|exact eS h|exact dZ h|exact lA h):Y:=hs h
theorem v92 {X Y:Prop} (h:X) (hs:X→Y:=by
 show _→aM _ _ _ _ _ _ _
 intro h
 first|exact aF h|exact bE h|exact aQ h|exact bA h|exact aI h|exact bR h|exact aX h|exact aO h|exact G_loadV2 h|exact cU h|exact dG h|exact lM h|exact wY h|exact wJ h|exact wQ h|exact aS h|exact bW h|exact bM h|exact G_call0 h|exact gS h|exact G_callv0 h|exact eS h|exact eF h|exact dZ h|exact jU h|exact gZ h):Y:=hs h
theorem v93 {X Y:Prop} (h:X) (hs:X→Y:=by
 show _→aM _ _ _ _ _ _ _
 intro h
 first|exact cD h|exact aF h|exact bE h|exact aQ h|exact bA h|exact aI h|exact bR h|exact aX h|exact aO h|exact G_loadV2 h|exact kC h|exact pD h|exact mZ h|exact G_conv h|exact dI h|exact wY h|exact wJ h|exact wQ h|exact fI h|exact aS h|exact bW h|exact G_bytesP h|exact iR h|exact bM h|exact G_call0 h|exact gS h|exact G_callv0 h|exact eS h|exact eF h|exact lA h|exact jU h|exact gZ h):Y:=hs h
theorem v94 {X Y:Prop} (h:X) (hs:X→Y:=by
 show _→aM _ _ _ _ _ _ _
 intro h
 first|exact cD h|exact AX h|exact aF h|exact bE h|exact aQ h|exact bA h|exact aI h|exact bR h|exact aX h|exact aO h|exact G_loadV2 h|exact dM h|exact cN h|exact fI h|exact yJ h|exact aS h|exact bM h|exact G_call0 h|exact gS h|exact G_callv0 h|exact eS h|exact eF h|exact iH h|exact aU h|exact G_skip0 h):Y:=hs h
theorem I6 {X Y:Prop} (h:X) (hs:X→Y:=by
 show _→aM _ _ _ _ _ _ _
 intro h
 first|exact cD h|exact fU h|exact aF h|exact bE h|exact aQ h|exact bA h|exact aI h|exact bR h|exact aX h|exact aO h|exact G_loadV2 h|exact lM h|exact dM h|exact cN h|exact dI h|exact fI h|exact aS h|exact bW h|exact bM h|exact G_call0 h|exact eS h|exact eF h|exact iH h|exact aU h|exact G_skip0 h):Y:=hs h
theorem Nk {X Y:Prop} (h:X) (hs:X→Y:=by
 show _→aM _ _ _ _ _ _ _
 intro h
 first|exact EA h|exact E9 h|exact aF h|exact bE h|exact aQ h|exact bA h|exact aI h|exact bR h|exact aX h|exact aO h|exact G_loadV2 h|exact lM h|exact dM h|exact cN h|exact dI h|exact aS h|exact bW h|exact bM h|exact G_call0 h|exact gS h|exact G_callv0 h|exact eS h|exact eF h|exact iH h|exact aU h|exact G_skip0 h):Y:=hs h
theorem Uz {X Y:Prop} (h:X) (hs:X→Y:=by
 show _→aM _ _ _ _ _ _ _
 intro h
 first|exact cD h|exact aF h|exact bE h|exact aQ h|exact bA h|exact aI h|exact bR h|exact aX h|exact aO h|exact G_loadV2 h|exact cU h|exact dG h|exact lM h|exact dM h|exact cN h|exact dI h|exact fI h|exact aS h|exact bW h|exact bM h|exact G_call0 h|exact eS h|exact eF h|exact dZ h|exact iH h|exact aU h|exact G_skip0 h):Y:=hs h
theorem I4 {X Y:Prop} (h:X) (hs:X→Y:=by
 show _→aM _ _ _ _ _ _ _
 intro h
 first|exact cD h|exact fU h|exact aF h|exact bE h|exact aQ h|exact bA h|exact aI h|exact bR h|exact aX h|exact aO h|exact G_loadV2 h|exact cU h|exact dG h|exact dM h|exact cN h|exact fI h|exact aS h|exact bW h|exact bM h|exact G_call0 h|exact gS h|exact G_callv0 h|exact eS h|exact eF h|exact dZ h|exact iH h|exact aU h|exact G_skip0 h):Y:=hs h
theorem v99 {X Y:Prop} (h:X) (hs:X→Y:=by
 show _→aM _ _ _ _ _ _ _
 intro h
 first|exact cD h|exact fU h|exact BR h|exact aF h|exact bE h|exact aQ h|exact bA h|exact aI h|exact bR h|exact aX h|exact aO h|exact G_loadV2 h|exact cU h|exact dG h|exact dM h|exact cN h|exact kC h|exact pD h|exact mZ h|exact G_conv h|exact wY h|exact wJ h|exact wQ h|exact fI h|exact yJ h|exact zW h|exact aS h|exact G_bytesP h|exact iR h|exact bM h|exact G_call0 h|exact gS h|exact G_callv0 h|exact eS h|exact lA h|exact iH h|exact jU h|exact gZ h):Y:=hs h
end
end Go.Sl
