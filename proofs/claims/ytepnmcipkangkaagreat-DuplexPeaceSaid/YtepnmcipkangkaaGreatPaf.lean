/- A part of the proof: lemmas; each with the conditions that it states. -/
import Derived.Test.YtepnmcipkangkaaGreatPae
set_option linter.unusedVariables false
set_option linter.unusedSimpArgs false
section
namespace Go.Sl
variable {P:Program} {t et ty:TypeId} {H:Hp} {kd:IntKind} {n:Int} {a:Fr} {d:Option Tmp} {pos:String} {after:Array Edge} {g:Option (Nat×Bool)} {x y z:Operand} {r ck i since:Nat} {seen:List Nat}
structure lP where
 k:Int
 v:Value
 b:Nat
variable {es:List lP}
def tG (e:lP):MapEntry:= { key:=.int .i64 e.k,val:=e.v,born:=e.b }
def mp (r:Nat) (es:List lP) (ck:Nat):HP:=fun H=>H r=some (.obj (.map (es.map tG).toArray ck))
def CV (r m since:Nat) (seen:List Nat) (last:Nat):HP:=fun H=>H r=some (.obj (.mapIter (some m) since seen.toArray last))
def jJ (n:Int):List lP->Nat->Option (Nat×Value)
 | [],_=>none
 |e::es,i=>if n == e.k then some (i,e.v) else jJ n es (i+1)
def N0 (n:Int) (v:Value):List lP->List lP
 | []=> []
 |e::es=>if n == e.k then⟨e.k,v,e.b⟩::es else e::N0 n v es
def Hv (n:Int):List lP->List lP
 | []=> []
 |e::es=>if n == e.k then es else e::Hv n es
theorem Bb {n:Int}:∀ {es:List lP} {i j:Nat} {v:Value},jJ n es i=some (j,v)->i<=j/\j - i<es.length/\∃e,es[j - i]?=some e/\e.k=n/\e.v=v
 | [],_,_,_,h=>by cases h
 |e::es,i,j,v,h=>by
  unfold jJ at h
  split at h
  ·rename_i he
   cases h
   have:=eq_of_beq he
   exact⟨Nat.le_refl _,by simp,e,by simp,this.symm,rfl⟩
  ·obtain⟨h1,h2,e',h3,h4,h5⟩:=Bb h
   refine⟨by omega,by simp;omega,e',?_,h4,h5⟩
   rw[show j - i=(j - (i+1))+1 by omega]
   simpa using h3
theorem GW {n:Int} {w:Value}:∀ {es:List lP} {i j:Nat} {v:Value},jJ n es i=some (j,v)->(es.map tG).modify (j - i) (fun e=> { key:=.int .i64 n,val:=w,born:=e.born })=(N0 n w es).map tG
 | [],_,_,_,h=>by cases h
 |e::es,i,j,v,h=>by
  have hj:=(Bb h).1
  unfold jJ at h
  split at h
  ·rename_i he
   cases h
   have:=eq_of_beq he
   subst this
   simp[N0,tG]
  ·rename_i he
   have h1:=(Bb h).1
   rw[show j - i=(j - (i+1))+1 by omega]
   simp only[List.map_cons,List.modify_succ_cons,N0,he]
   rw[GW h]
   rfl
theorem Ik {n:Int}:∀ {es:List lP} {i j:Nat} {v:Value},jJ n es i=some (j,v)->(es.map tG).eraseIdx (j - i)=(Hv n es).map tG
 | [],_,_,_,h=>by cases h
 |e::es,i,j,v,h=>by
  unfold jJ at h
  split at h
  ·rename_i he
   cases h
   simp[Hv,he]
  ·rename_i he
   have h1:=(Bb h).1
   rw[show j - i=(j - (i+1))+1 by omega]
   simp only[List.map_cons,List.eraseIdx_cons_succ,Hv,he]
   rw[Ik h]
   rfl
theorem Jo {kd:IntKind} {n:Int}:∀(es:List lP) (i:Nat),Instr.findNow (.int kd) (.int .i64 n) (es.map tG) i=some (jJ n es i)
 | [],_=>rfl
 |e::es,i=>by
  simp only[List.map_cons,Instr.findNow,tG,Instr.sameNow,if_true,jJ]
  cases h:(n == e.k) with
  |true=>rfl
  |false=>simpa using Jo es (i+1)
def K1 (P:Program) (t:TypeId):Option TypeId:=match P.underlying t with
 |some (.map kt et)=>match P.underlying kt with
  |some (.int _)=>some et
  |_=>none
 |_=>none
theorem B5 (h:K1 P t=some et):∃kt kd,P.underlying t=some (.map kt et)/\P.underlying kt=some (.int kd):=by
 unfold K1 at h
 split at h
 ·split at h
  ·cases h;exact⟨_,_,‹_›,‹_›⟩
  ·cases h
 ·cases h
def WL (P:Program) (t:TypeId):Option Value:=match P.info? t with
 |some i=>i.zero
 |none=>none
theorem Adm {z:Value} (h:WL P t=some z):(zeroValue t).pr P=some z:=by
 unfold WL at h
 split at h
 ·rename_i i hi
  simp only[zeroValue,aR,d9 hi,Option.bind_some,h];rfl
 ·cases h
theorem Be {b:Bool} (h:P.underlying t=some (.int kd)):(Instr.checkKey b 10000 t (.int .i64 n)).pr P=some ():=by
 rw[show(10000:Nat)=9999+1 from rfl,Instr.checkKey,aR,aL h]
 rfl
theorem DI (h:P.underlying t=some (.int kd)):(Instr.findKey t (.int .i64 n) (es.map tG)).pr P=some (jJ n es 0):=by
 unfold Instr.findKey
 rw[aR,aL h]
 simp only[Option.bind_some,Jo]
 rfl
section
variable {k:Value->Hp->Prop}
theorem Tg (hk:∀r,H r=none->k (.map (some r)) (hupd H r (.obj (.map #[] 0)))):mI P ⟨d,.makeMap t none,ty,pos,after,g⟩ a H k:=by
 refine fR ?_
 simp only[execOp,Instr.makeMap,aJ,Option.map_none]
 intro r hr
 exact hk r hr
def okV (ok:Bool) (v:Value) (b:Bool):Value:=if ok then .tuple #[v,.bool b] else v
def IZ (ok:Bool) (zv:Value):Option (Nat×Value)->Value
 |some (_,v)=>okV ok v true
 |none=>okV ok zv false
theorem Zb {zv:Value} {ok:Bool} (hm:K1 P t=some et) (hz:WL P et=some zv) (hx:bK a x=.map (some r)) (hy:bK a y=.int .i64 n) (hH:H r=some (.obj (.map (es.map tG).toArray ck)))
  (hk:k (IZ ok zv (jJ n es 0)) H):mI P ⟨d,.lookup t x y ok,ty,pos,after,g⟩ a H k:=by
 obtain⟨kt,kd,h1,h2⟩:=B5 hm
 refine fR ?_
 simp only[execOp,hx,hy,Instr.lookup,aJ]
 rw[aP (aL h1)]
 simp only[aJ]
 refine⟨_,hH,?_⟩
 simp only[Sem.ev]
 rw[pure_bind,aJ,aP (Be h2),aJ,aP (DI h2)]
 cases hf:jJ n es 0 with
 |some p=>
  rw[hf] at hk
  cases ok <;> exact hk
 |none=>
  rw[hf] at hk
  simp only[aJ]
  rw[aP (Adm hz)]
  cases ok <;> exact hk
theorem NJ (j:IntKind) (n:Int):Instr.sameBits 10000 (.int j n) (.int j n)=true:=by
 rw[show(10000:Nat)=9999+1 from rfl]
 simp[Instr.sameBits]
theorem NW {v:Value} (hm:K1 P t=some et) (hx:bK a x=.map (some r)) (hy:bK a y=.int .i64 n) (hv:bK a z=v) (hH:H r=some (.obj (.map (es.map tG).toArray ck)))
  (hk:k undef (hupd H r (.obj (match jJ n es 0 with|some _=>Obj.map ((N0 n v es).map tG).toArray ck|none=>Obj.map ((es++ [(⟨n,v,ck⟩:lP)]).map tG).toArray (ck+1))))):mI P ⟨d,.mapUpdate t x y z,ty,pos,after,g⟩ a H k:=by
 obtain⟨kt,kd,h1,h2⟩:=B5 hm
 refine fR ?_
 simp only[execOp,hx,hy,hv,Instr.mapUpdate,aJ]
 rw[aP (aL h1)]
 simp only[aJ]
 refine⟨_,hH,?_⟩
 simp only[Sem.ev,aJ]
 rw[aP (Be h2),aP (DI h2)]
 cases hf:jJ n es 0 with
 |some p=>
  obtain⟨j,w⟩:=p
  rw[hf] at hk
  obtain⟨_,_,e,he,hek,_⟩:=Bb hf
  simp only[Nat.sub_zero] at he
  simp only[aJ]
  have hkey:((Option.map (fun e=>MapEntry.key e) ((List.map tG es).toArray[j]?)).getD (.int .i64 n))=.int .i64 n:=by
   simp[he,tG,hek]
  rw[hkey]
  rw[aP (show(Instr.keyThatStays (.int .i64 n) (.int .i64 n)).pr P=some (.int .i64 n) by unfold Instr.keyThatStays;rw[NJ];rfl)]
  refine⟨⟨_,hH⟩,rfl,?_⟩
  have hmod:=GW (w:=v) hf
  rw[Nat.sub_zero] at hmod
  have e1:(List.map tG es).toArray.modify j (fun e=> { key:=.int .i64 n,val:=v,born:=e.born })=((N0 n v es).map tG).toArray:=by
   apply Array.ext'
   simpa using hmod
  rw[e1]
  exact hk
 |none=>
  rw[hf] at hk
  refine⟨⟨_,hH⟩,rfl,?_⟩
  have e1:(List.map tG es).toArray.push { key:=.int .i64 n,val:=v,born:=ck }=((es++ [(⟨n,v,ck⟩:lP)]).map tG).toArray:=by
   apply Array.ext'
   simp[tG]
  rw[e1]
  exact hk
theorem ZM {ts1:TypeId} (hm:K1 P t=some et) (hx:bK a x=.map (some r)) (hy:bK a y=.int .i64 n) (hH:H r=some (.obj (.map (es.map tG).toArray ck)))
  (hk:k (.tuple #[]) (hupd H r (.obj (.map ((Hv n es).map tG).toArray ck)))):mI P ⟨d,.call { callee:=.builtin .delete,args:=#[x,y],argTypes:=#[t,ts1] },ty,pos,after,g⟩ a H k:=by
 obtain⟨kt,kd,h1,h2⟩:=B5 hm
 refine fR ?_
 simp only[execOp,resolve,List.map_toArray,List.map_cons,List.map_nil,hx,hy]
 rw[aJ,aP (show(pure _:Sem Deferred).pr P=some _ from rfl)]
 simp only[invoke,builtin,aJ]
 unfold Builtin.delete_
 simp only[List.getElem?_toArray,List.getElem?_cons_zero,List.getElem?_cons_succ,aJ]
 rw[aP (aL h1)]
 simp only[aJ]
 refine⟨_,hH,?_⟩
 simp only[Sem.ev,aJ]
 rw[aP (Be h2),aP (DI h2)]
 cases hf:jJ n es 0 with
 |some p=>
  obtain⟨j,w⟩:=p
  refine⟨⟨_,hH⟩,rfl,?_⟩
  have hmod:=Ik hf
  rw[Nat.sub_zero] at hmod
  have e1:(List.map tG es).toArray.eraseIdxIfInBounds j=((Hv n es).map tG).toArray:=by
   apply Array.ext'
   rw[<- hmod]
   simp
  rw[e1]
  exact hk
 |none=>
  refine⟨⟨_,hH⟩,rfl,?_⟩
  have e1:Hv n es=es:=by
   have key:∀(es:List lP) (i:Nat),jJ n es i=none->Hv n es=es:=by
    intro es
    induction es with
    |nil=>intro _ _;rfl
    |cons e es ih=>
     intro i h
     unfold jJ at h
     split at h
     ·cases h
     ·rename_i he
      simp only[Hv,he]
      rw[ih _ h]
      rfl
   exact key es 0 hf
  rw[e1] at hk
  exact hk
theorem Ael (hm:K1 P t=some et) (hx:bK a x=.map (some r)) (hH:H r=some (.obj (.map (es.map tG).toArray ck)))
  (hk:∀i,H i=none->k (.pointer (some ⟨i,0,none⟩)) (hupd H i (.obj (.mapIter (some r) ck #[] ck)))):mI P ⟨d,.range t x,ty,pos,after,g⟩ a H k:=by
 obtain⟨kt,kd,h1,h2⟩:=B5 hm
 refine fR ?_
 simp only[execOp,Instr.range,hx,aJ]
 rw[aP (aL h1)]
 simp only[aJ]
 refine⟨_,hH,?_⟩
 simp only[Sem.ev]
 intro i hi
 exact hk i hi
theorem It {n:Nat} {q:Nat->Hp->Prop} (hn:1<=n) (h:∀j,j<n->q j H):(choose (.mapNext n)).ev P H q:=by
 unfold choose
 simp only[Sem.ev]
 split
 ·exact h 0 (by omega)
 ·exact fun t=>h _ (Nat.mod_lt _ (by omega))
theorem Akq {last:Nat} (hx:bK a x=.pointer (some ⟨i,0,none⟩)) (hI:H i=some (.obj (.mapIter (some r) since seen.toArray last))) (hH:H r=some (.obj (.map (es.map tG).toArray ck)))
  (hold:∀e∈es,e.b<since)
  (h1:∀e∈es,e.b ∉ seen->k (.tuple #[.bool true,.int .i64 e.k,e.v]) (hupd H i (.obj (.mapIter (some r) since (seen++ [e.b]).toArray ck))))
  (h0:(∀e∈es,e.b∈seen)->k (.tuple #[.bool false]) H) (hlast:seen= []\/es= []\/∃e∈es,e.b<last):mI P ⟨d,.next x false,ty,pos,after,g⟩ a H k:=by
 refine fR ?_
 simp only[execOp,Instr.next,hx,aJ]
 refine⟨_,hI,?_⟩
 simp only[Sem.ev,aJ]
 refine⟨_,hH,?_⟩
 simp only[Sem.ev]
 have hcond:¬((!seen.toArray.isEmpty && !(List.map tG es).toArray.isEmpty && (List.map tG es).toArray.all fun x=>decide (x.born≥last))=true):=by
  intro h
  rcases hlast with rfl|rfl|⟨e,he,hl⟩
  ·simp at h
  ·simp at h
  ·simp only[Bool.and_eq_true,Array.all_eq_true] at h
   obtain⟨j,hj,hje⟩:=List.mem_iff_getElem.1 he
   have h3:=h.2 j (by simpa using hj)
   simp[tG,hje] at h3
   omega
 rw[if_neg hcond]
 have hA:Array.filter (fun x=>decide (x.born<since)) (Array.filter (fun e=>!seen.toArray.contains e.born) (List.map tG es).toArray)=((es.filter fun e=>!seen.contains e.b).map tG).toArray:=by
  apply Array.ext'
  simp only[Array.toList_filter]
  rw[List.filter_map,List.filter_map,List.filter_filter]
  congr 1
  apply List.filter_congr
  intro e he
  have:=hold e he
  have hd:decide ((tG e).born<since)=true:=decide_eq_true this
  simp only[Function.comp,hd,Bool.true_and]
  simp[tG]
 have hB:Array.filter (fun x=>decide (x.born≥since)) (Array.filter (fun e=>!seen.toArray.contains e.born) (List.map tG es).toArray)=#[]:=by
  apply Array.ext'
  simp only[Array.toList_filter]
  rw[List.filter_map,List.filter_map,List.filter_filter]
  have:List.filter (fun a=>((fun x=>decide (x.born≥since)) ∘ tG) a && ((fun e=>!seen.toArray.contains e.born) ∘ tG) a) es= []:=by
   rw[List.filter_eq_nil_iff]
   intro e he
   have:=hold e he
   have hd:decide ((tG e).born≥since)=false:=decide_eq_false (Nat.not_le.2 this)
   simp[Function.comp,hd]
  rw[this]
  rfl
 simp only[hA,hB]
 generalize hL:(es.filter fun e=>!seen.contains e.b)=L
 have hmem:∀e∈L,e∈es/\e.b ∉ seen:=by
  intro e he
  rw[<- hL] at he
  simpa using List.mem_filter.1 he
 rw[aJ]
 cases L with
 |nil=>
  have hc:((if((List.map tG []).toArray).isEmpty=true then #[none] else #[])++Array.map some ((List.map tG []).toArray++#[]):Array (Option MapEntry))=#[none]:=by
   apply Array.ext'
   simp
  rw[hc]
  refine It (n:=1) (by omega) fun j hj=>?_
  obtain rfl:j=0:=by omega
  refine h0 fun e he=>?_
  by_cases hs:e.b∈seen
  ·exact hs
  ·have:e∈es.filter fun e=>!seen.contains e.b:=List.mem_filter.2 ⟨he,by simpa using hs⟩
   rw[hL] at this
   cases this
 |cons e0 L=>
  have hc:((if((List.map tG (e0::L)).toArray).isEmpty=true then #[none] else #[])++Array.map some ((List.map tG (e0::L)).toArray++#[]):Array (Option MapEntry))=((e0::L).map fun e=>some (tG e)).toArray:=by
   apply Array.ext'
   simp
  rw[hc]
  refine It (n:=(((e0::L).map fun e=>some (tG e)).toArray).size) (by simp) fun j hj=>?_
  have hj2:j<(e0::L).length:=by simpa using hj
  have hg:((e0::L).map fun e=>some (tG e)).toArray[j]?=some (some (tG (e0::L)[j])):=by
   rw[List.getElem?_toArray,List.getElem?_map,List.getElem?_eq_getElem hj2]
   rfl
  rw[hg]
  obtain⟨m1,m2⟩:=hmem _ (List.getElem_mem hj2)
  refine⟨⟨_,hI⟩,rfl,?_⟩
  have:=h1 _ m1 m2
  have e2:seen.toArray.push (tG (e0::L)[j]).born=(seen++ [((e0::L)[j]).b]).toArray:=by
   apply Array.ext';simp[tG]
  rw[e2]
  exact this
theorem Afh {b:Nat} {e:lP} (hx:bK a x=.pointer (some ⟨i,0,none⟩)) (hI:H i=some (.obj (.mapIter (some r) since (seen++ [b]).toArray ck))) (hH:H r=some (.obj (.map (es.map tG).toArray ck)))
  (he:es.find? (fun e=>e.b == b)=some e) (hk:k (.tuple #[.int .i64 e.k,e.v]) H):mI P ⟨d,.entry x,ty,pos,after,g⟩ a H k:=by
 refine fR ?_
 simp only[execOp,Instr.entry,hx,aJ]
 refine⟨_,hI,?_⟩
 simp only[Sem.ev]
 have hb:(seen++ [b]).toArray.back?=some b:=by simp
 rw[hb]
 simp only[aJ]
 refine⟨_,hH,?_⟩
 have hf:(List.map tG es).toArray.find? (fun x=>x.born == b)=some (tG e):=by
  rw[List.find?_toArray,List.find?_map]
  have:((fun x=>x.born == b) ∘ tG)=fun e=>e.b == b:=by funext e;rfl
  rw[this,he]
  rfl
 have hne:(ck != ck)=false:=by simp
 simp only[Sem.ev,hne,hf]
 exact hk
end
end Go.Sl
namespace Go.Sl
variable {r c ck i since:Nat} {b:tX} {C R:List HP} {H:Hp} {P:Program} {ops:Array Oper} {Q:Fr->List HP->Prop} {a:Fr} {gd:Bool} {es:ET} {hist:List (List HP)} {d':Tmp} {v:Value} {ty t et:TypeId} {pos:String} {after:Array Edge} {g:Option (Nat×Bool)} {x y z:Operand} {ms ms':List lP} {n:Int} {seen:List Nat}
theorem qE (ho:b.own=true) (hs:bW ((fun H=>H r=some b)::C) H):H r=some b:=by
 obtain⟨H1,H2,hc,h1,h2,ha,hs⟩:=hs
 obtain⟨b',hb,l⟩:=h1 r b ha
 rw[tX.le_own l ho] at hb
 exact hb
theorem xJ {b':tX} (ho:b.own=true) (hs:bW ((fun H=>H r=some b)::C) H):bW ((fun H=>H r=some b')::C) (hupd H r b'):=by
 obtain⟨H1,H2,hc,h1,h2,ha,hs⟩:=hs
 have hn:H2 r=none:=by
  cases hx:H2 r with
  |none=>rfl
  |some x=>have:=(hc r _ x ha hx).1;rw[ho] at this;cases this
 refine⟨nQ r b',H2,(fun i b x hb hx=>by rw[(EA hb).1,hn] at hx;cases hx),Fh (kP _ _ _) (tX.le_refl _),fun i b hb=>?_,y7 _ _,hs⟩
 rw[jT _ _ (fun e=>by subst e;rw[hn] at hb;cases hb)]
 exact h2 i b hb
theorem Ha (hr:H r=none) (hs:bW C H):bW ((fun H=>H r=some b)::C) (hupd H r b):=
 ⟨nQ r b,H,(fun B b x hb hx=>by rw[(EA hb).1,hr] at hx;cases hx),Fh (kP _ _ _) (tX.le_refl _),
  (fun B b hb=>⟨b,by rw[jT _ _ (fun e=>by subst e;rw[hr] at hb;cases hb)];exact hb,b.le_refl⟩),y7 _ _,hs⟩
theorem GA (h:∀r,cY gd (.map (some r)) fun v=>aN P ops Q es (C::hist) (lJ a d' v) (mp r [] 0::C)) (hw:bE ops ⟨some d',.makeMap t none,ty,pos,after,g⟩ a=true:=by exact rfl):
  aN P ops Q (ET.cons (c,gd,⟨some d',.makeMap t none,ty,pos,after,g⟩) es) hist a C:=
 yX rfl hw fun _ hH=>Tg fun r hr=>⟨_,Ha hr hH,h r⟩
theorem jS {zv w:Value} {ok:Bool} (h:cY gd w fun v=>aN P ops Q es (C::hist) (lJ a d' v) C) (hx:bK a x=.map (some r):=by exact rfl) (hy:bK a y=.int .i64 n:=by exact rfl)
  (hp:aU (mp r ms ck) C R:=by((repeat (first|exact aU.here|apply aU.there)) <;> exact aU.here)) (hm:K1 P t=some et:=by exact rfl) (hz:WL P et=some zv:=by exact rfl) (hv:IZ ok zv (jJ n ms 0)=w:=by first|assumption|exact rfl)
  (hw:bE ops ⟨some d',.lookup t x y ok,ty,pos,after,g⟩ a=true:=by exact rfl):aN P ops Q (ET.cons (c,gd,⟨some d',.lookup t x y ok,ty,pos,after,g⟩) es) hist a C:=
 yX rfl hw fun H hH=>Zb hm hz hx hy (qE rfl (hp.sats hH)) (by rw[hv];exact⟨C,hH,h⟩)
def MG (n:Int) (v:Value) (ms:List lP) (ck:Nat):List lP×Nat:=match jJ n ms 0 with
 |some _=>(N0 n v ms,ck)
 |none=>(ms++ [⟨n,v,ck⟩],ck+1)
theorem lA {ck':Nat} {u:Value} (h:aN P ops Q es (C::hist) a (mp r ms' ck'::R)) (hx:bK a x=.map (some r):=by exact rfl) (hy:bK a y=.int .i64 n:=by exact rfl) (hu:iV (bK a z)=some u:=by exact rfl)
  (hp:aU (mp r ms ck) C R:=by((repeat (first|exact aU.here|apply aU.there)) <;> exact aU.here)) (hm:K1 P t=some et:=by exact rfl) (hv:MG n u ms ck=(ms',ck'):=by first|assumption|exact rfl)
  (hw:bE ops ⟨none,.mapUpdate t x y z,ty,pos,after,g⟩ a=true:=by exact rfl):aN P ops Q (ET.cons (c,gd,⟨none,.mapUpdate t x y z,ty,pos,after,g⟩) es) hist a C:=
 Agt (hw:=hw) fun H hH=>by
  have h1:=hp.sats hH
  refine NW hm hx hy (gM hu) (qE rfl h1) ?_
  unfold MG at hv
  cases hf:jJ n ms 0 with
  |some p=>rw[hf] at hv;cases hv;exact⟨_,xJ rfl h1,h⟩
  |none=>rw[hf] at hv;cases hv;exact⟨_,xJ rfl h1,h⟩
theorem Li {ts1:TypeId} (h:aN P ops Q es (C::hist) a (mp r ms' ck::R)) (hx:bK a x=.map (some r):=by exact rfl) (hy:bK a y=.int .i64 n:=by exact rfl)
  (hp:aU (mp r ms ck) C R:=by((repeat (first|exact aU.here|apply aU.there)) <;> exact aU.here)) (hm:K1 P t=some et:=by exact rfl) (hv:Hv n ms=ms':=by first|assumption|exact rfl)
  (hw:bE ops ⟨none,.call { callee:=.builtin .delete,args:=#[x,y],argTypes:=#[t,ts1] },ty,pos,after,g⟩ a=true:=by exact rfl):aN P ops Q (ET.cons (c,gd,⟨none,.call { callee:=.builtin .delete,args:=#[x,y],argTypes:=#[t,ts1] },ty,pos,after,g⟩) es) hist a C:=
 Agt (hw:=hw) fun H hH=>by
  subst hv
  exact ZM hm hx hy (qE rfl (hp.sats hH)) ⟨_,xJ rfl (hp.sats hH),h⟩
theorem Ahx (h:∀i,cY gd (.pointer (some ⟨i,0,none⟩)) fun v=>aN P ops Q es (C::hist) (lJ a d' v) (CV i r ck [] ck::C)) (hx:bK a x=.map (some r):=by exact rfl)
  (hp:aU (mp r ms ck) C R:=by((repeat (first|exact aU.here|apply aU.there)) <;> exact aU.here)) (hm:K1 P t=some et:=by exact rfl)
  (hw:bE ops ⟨some d',.range t x,ty,pos,after,g⟩ a=true:=by exact rfl):aN P ops Q (ET.cons (c,gd,⟨some d',.range t x,ty,pos,after,g⟩) es) hist a C:=
 yX rfl hw fun H hH=>Ael hm hx (qE rfl (hp.sats hH)) fun i hi=>⟨_,Ha hi hH,h i⟩
theorem Aof {last:Nat}
  (h1:∀e∈ms,e.b ∉ seen->cY gd (.tuple #[.bool true,.int .i64 e.k,e.v]) fun v=>aN P ops Q es (C::hist) (lJ a d' v) (CV i r since (seen++ [e.b]) ck::R))
  (h0:(∀e∈ms,e.b∈seen)->cY gd (.tuple #[.bool false]) fun v=>aN P ops Q es (C::hist) (lJ a d' v) C)
  (hx:bK a x=.pointer (some ⟨i,0,none⟩)) (hp:aU (CV i r since seen last) C R) (hq:∃R',aU (mp r ms ck) C R')
  (hold:∀e∈ms,e.b<since) (hlast:seen= []\/ms= []\/∃e∈ms,e.b<last)
  (hw:bE ops ⟨some d',.next x false,ty,pos,after,g⟩ a=true):aN P ops Q (ET.cons (c,gd,⟨some d',.next x false,ty,pos,after,g⟩) es) hist a C:=
 yX rfl hw fun H hH=>by
  obtain⟨R',hq⟩:=hq
  exact Akq hx (qE rfl (hp.sats hH)) (qE rfl (hq.sats hH)) hold (fun e he hn=>⟨_,xJ rfl (hp.sats hH),h1 e he hn⟩) (fun hs=>⟨C,hH,h0 hs⟩) hlast
theorem Wz {b:Nat} {e:lP} {R':List HP} (h:cY gd (.tuple #[.int .i64 e.k,e.v]) fun v=>aN P ops Q es (C::hist) (lJ a d' v) C)
  (hx:bK a x=.pointer (some ⟨i,0,none⟩):=by exact rfl) (hp:aU (CV i r since (seen++ [b]) ck) C R:=by((repeat (first|exact aU.here|apply aU.there)) <;> exact aU.here)) (hq:aU (mp r ms ck) C R':=by((repeat (first|exact aU.here|apply aU.there)) <;> exact aU.here))
  (he:ms.find? (fun e=>e.b == b)=some e:=by first|assumption|exact rfl) (hw:bE ops ⟨some d',.entry x,ty,pos,after,g⟩ a=true:=by exact rfl):aN P ops Q (ET.cons (c,gd,⟨some d',.entry x,ty,pos,after,g⟩) es) hist a C:=
 yX rfl hw fun H hH=>Afh hx (qE rfl (hp.sats hH)) (qE rfl (hq.sats hH)) he ⟨C,hH,h⟩
end Go.Sl
namespace Go.Sl
variable {P:Program} {Q:Exit->Fr->List HP->Prop} {a:Fr} {C:List HP} {id:Nat} {ol:List Oper} {es:ET}
def Afz:Nat->Option Nat
 |0=>some 0
 |m+1=>some (m+1)
theorem M9 {n m:Nat} (h:Afz n=some m):n=m:=by
 cases n <;> (unfold Afz at h;cases h;rfl)
def IP (acc:List Nat) (len:Nat):List Edge->Nat->Option Nat
 | [],s=>Afz s
 |e::l,s=>match Region.binds .any e with
  |true=>match Afz (s ||| 2 ^ e.on ||| (if e.on<len then acc.getD (len - 1 - e.on) 0 else 0)) with
   |some n=>IP acc len l n
   |none=>none
  |false=>IP acc len l s
def XC:List Oper->List Nat->Nat->Option (List Nat)
 | [],acc,_=>some acc
 |o::l,acc,len=>match IP acc len o.after.toList 0 with
  |some n=>match Afz (len+1) with
   |some m=>XC l (n::acc) m
   |none=>none
  |none=>none
theorem Afl (acc:List Nat) (i:Nat):(if i<acc.length then acc.getD (acc.length - 1 - i) 0 else 0)=acc.reverse.toArray.getD i 0:=by
 rw[Array.getD_eq_getD_getElem?,List.getElem?_toArray]
 by_cases h:i<acc.length
 ·rw[if_pos h,List.getElem?_reverse h,List.getD_eq_getElem?_getD]
 ·rw[if_neg h,List.getElem?_eq_none (by simpa using h)]
  rfl
theorem GM {acc:List Nat}:∀ {l:List Edge} {s n:Nat},IP acc acc.length l s=some n->l.foldl (fun s e=>if Region.binds .any e then s ||| 2 ^ e.on ||| acc.reverse.toArray.getD e.on 0 else s) s=n
 | [],s,n,h=>M9 h
 |e::l,s,n,h=>by
  unfold IP at h
  rw[List.foldl_cons]
  split at h
  ·rename_i hb
   split at h
   ·rename_i k hk
    have:=M9 hk
    rw[Afl] at this
    rw[if_pos hb,this]
    exact GM h
   ·cases h
  ·rename_i hb
   rw[if_neg (by rw[hb];simp)]
   exact GM h
theorem WI:∀ {l:List Oper} {acc r:List Nat},XC l acc acc.length=some r->l.foldl (fun acc o=>acc.push (o.after.foldl (fun s e=>if Region.binds .any e then s ||| 2 ^ e.on ||| acc.getD e.on 0 else s) 0)) acc.reverse.toArray=r.reverse.toArray
 | [],acc,r,h=>by cases h;rfl
 |o::l,acc,r,h=>by
  unfold XC at h
  split at h
  ·rename_i n hn
   split at h
   ·rename_i m hm
    have e1:=GM hn
    have e2:=M9 hm
    subst e2
    rw[List.foldl_cons,<- Array.foldl_toList,e1]
    have:=WI (acc:=n::acc) h
    rw[<- this]
    congr 1
    simp
   ·cases h
  ·cases h
theorem YY {ops:Array Oper} {r:List Nat} (h:XC ops.toList [] 0=some r):Region.before ops=r.reverse.toArray:=by
 unfold Region.before
 rw[<- Array.foldl_toList]
 exact WI (acc:= []) h
theorem Akk {l:List (Nat×Nat)} {bl br:List Nat} (hb:XC ol [] 0=some br) (hr:br.reverse=bl) (hl:Dj (Mz P ol.toArray bl.toArray)=some l) (hc:wX P ol.toArray bl.toArray l=true) (he:KR ol.toArray l=some es)
  (h:aN P ol.toArray (Q .normal) es [] a C):fJ P (.region id ol.toArray true) Q a C:=by
 have e:Region.before ol.toArray=bl.toArray:=by rw[<- hr];exact YY hb
 exact OV (by rw[e];exact hl) (by rw[e];exact hc) he h
end Go.Sl
namespace Go.Sl
theorem aZ {C C':List HP} (he:aG C C':=by((iterate 30 (try(first|exact aG.refl _|exact aG.nil|(apply aG.pick;focus ((repeat (first|exact aU.here|apply aU.there)) <;> exact aU.here))|(apply aG.pickP;focus ((repeat (first|exact pers_ro _ _ _|exact pR _ _ _|exact pers_pure _|refine pers_sep ?_ ?_|refine pers_ex fun _=>?_)) <;> exact pers_pure _);focus ((repeat (first|exact aU.here|apply aU.there)) <;> exact aU.here))|(apply aG.pure;focus (first|assumption|exact rfl|omega))|apply aG.nilrow'|apply aG.ex|apply aG.sep|apply aG.drop))) <;> exact aG.nil)):aG C C':=he
theorem lF {α:Type} {C:List HP} {A:Option Addr} {E:u5 α} {xs:List α} (hv:d4 C A E xs:=by((repeat (first|exact fQ|exact kN|exact xI|assumption|apply bM)) <;> exact fQ)):d4 C A E xs:=hv
end Go.Sl
end
namespace Go.Sl
variable {p X Y:Prop} {α:Type} {P:Program} {es:ET} {a:Fr} {C:List HP} {Q:Exit->Fr->List HP->Prop} {id:Nat} {ol:List Oper} {l:List (Nat×Nat)}
structure BrH (p:Prop):Prop where
 h:p
theorem bh (f:p->X):BrH p->X:=fun h=>f h.h
structure EqS {α:Type} (a b:α):Prop where
 h:a=b
theorem aE {a b:α} (f:a=b->X):EqS a b->X:=fun h=>f h.h
theorem jE {E:u5 α} {xs:List α} {ops:Array Oper} {Q:Fr->List HP->Prop} {hist:List (List HP)} {gd:Bool} {d':Nat} {c:Nat} {t:TypeId} {x y:Operand} {ty:TypeId} {pos:String} {after:Array Edge} {g:Option (Nat×Bool)} {A:Option Addr} {n cp sz:Nat} {k:IntKind} {j:Int} (h:∀B off,EqS A (some ⟨B,off,none⟩)->cY gd (.pointer (some ⟨B,off+j.toNat * sz,none⟩)) fun v=>aN P ops Q es hist (lJ a d' v) C)
  (hx:bK a x=.slice A n cp:=by exact rfl) (hy:bK a y=.int k j:=by exact rfl) (ht:tW P t=some sz:=by exact rfl) (hv:d4 C A E xs:=by((repeat (first|exact fQ|exact kN|exact xI|assumption|apply bM)) <;> exact fQ))
  (hn:xs.length=n:=by first|exact rfl|assumption|omega) (h0:0<=j:=by first|omega|assumption) (h1:j<n:=by first|omega|assumption) (hw:bE ops ⟨some d',.indexAddr t x y,ty,pos,after,g⟩ a=true:=by exact rfl):
  aN P ops Q (ET.cons (c,gd,⟨some d',.indexAddr t x y,ty,pos,after,g⟩) es) hist a C:=
 yK (fun B off e=>h B off ⟨e⟩) hx hy ht hv hn h0 h1 hw
theorem Br.mkW {b:Bool} {q:Prop} (hX:BrH p->X) (hY:BrH q->Y)
 (hp:b=true->p:=by
  intro h
  first
  |(simp only[Bool.and_eq_true,Bool.or_eq_true,Bool.and_eq_false_iff,Bool.or_eq_false_iff,decide_eq_true_eq,decide_eq_false_iff_not,beq_iff_eq,bne_iff_ne,beq_eq_false_iff_ne,bne_eq_false_iff_eq,ne_eq,Bool.not_eq_true',Bool.not_eq_false',not_true_eq_false,not_false_eq_true,Int.not_lt,Int.not_le,gt_iff_lt,ge_iff_le] at h;exact h)
  |exact h)
 (hq:b=false->q:=by
  intro h
  first
  |(simp only[Bool.and_eq_true,Bool.or_eq_true,Bool.and_eq_false_iff,Bool.or_eq_false_iff,decide_eq_true_eq,decide_eq_false_iff_not,beq_iff_eq,bne_iff_ne,beq_eq_false_iff_ne,bne_eq_false_iff_eq,ne_eq,Bool.not_eq_true',Bool.not_eq_false',not_true_eq_false,not_false_eq_true,Int.not_lt,Int.not_le,gt_iff_lt,ge_iff_le] at h;exact h)
  |exact h):Br b X Y:=Br.mk (fun h=>hX ⟨hp h⟩) (fun h=>hY ⟨hq h⟩)
theorem w5 {Z:Prop} (h1:X) (h2:Y) (hs:X->Y->Z:=by
 first
 |(show _->_->aN _ _ _ _ _ _ _;exact fun h k=>Aqf h k)
 |(show _->_->Br _ _ _;first|exact fun h k=>Br.mkW h k|exact fun h k=>Br.mkV h k)):Z:=hs h1 h2
theorem w6 (h:p) (hs:p->False:=by
 intro h
 first
 |contradiction
 |omega
 |(simp at h <;> contradiction)):Y:=(hs h).elim
def Al0 (_:List (Nat×Nat)) (X Y:Prop):Prop:=X->Y
def Al2 (_ _:List Nat) (_:List (Nat×Nat)) (X Y:Prop):Prop:=X->Y
def Amf (_:Tr) (X Y:Prop):Prop:=X->Y
theorem Adb (hl:Dj (Mz P ol.toArray (Region.before ol.toArray))=some l) (hc:wX P ol.toArray (Region.before ol.toArray) l=true) (he:KR ol.toArray l=some es):Al0 l (aN P ol.toArray (Q .normal) es [] a C) (fJ P (.region id ol.toArray true) Q a C):=fun h=>OV hl hc he h
theorem Agr {bl br:List Nat} (hb:XC ol [] 0=some br) (hr:br.reverse=bl) (hl:Dj (Mz P ol.toArray bl.toArray)=some l) (hc:wX P ol.toArray bl.toArray l=true) (he:KR ol.toArray l=some es):Al2 bl br l (aN P ol.toArray (Q .normal) es [] a C) (fJ P (.region id ol.toArray true) Q a C):=fun h=>Akk hb hr hl hc he h
theorem Ab4 {t:Tr} (hl:trF (TO P ol.toArray (Region.before ol.toArray) (Fa P ol.toArray).length [] (Fa P ol.toArray))=some t) (hc:Jz P ol.toArray (Region.before ol.toArray) t=true) (he:Fu ol.toArray t=some es):Amf t (aN P ol.toArray (Q .normal) es [] a C) (fJ P (.region id ol.toArray true) Q a C):=fun h=>NG hl hc he h
theorem dw (l:List (Nat×Nat)) (h:X) (hs:Al0 l X Y:=by exact Adb (by decide +kernel) (by decide +kernel) (by exact rfl)):Y:=hs h
theorem R6 (bl br:List Nat) (l:List (Nat×Nat)) (h:X) (hs:Al2 bl br l X Y:=by exact Agr (by decide +kernel) (by decide +kernel) (by decide +kernel) (by decide +kernel) (by exact rfl)):Y:=hs h
theorem SK (t:Tr) (h:X) (hs:Amf t X Y:=by exact Ab4 (by kernel_rfl) (by decide +kernel) (by exact rfl)):Y:=hs h
theorem w1 (h:X) (hs:X->Y:=by
 first
 |(show _->aN _ _ _ _ _ _ _;first
  |(show _->aN _ _ _ (ET.cons (_,_,⟨_,.move _,_,_,_,_⟩) _) _ _ _;first|exact fun h=>aF h|exact fun h=>aI h|exact fun h=>aW h|exact fun h=>G_skip0 h)
  |(show _->aN _ _ _ (ET.cons (_,_,⟨_,.assign _,_,_,_,_⟩) _) _ _ _;first|exact fun h=>aF h|exact fun h=>aI h|exact fun h=>aW h|exact fun h=>G_skip0 h)
  |(show _->aN _ _ _ (ET.cons (_,_,⟨_,.load _ _,_,_,_,_⟩) _) _ _ _;first|exact fun h=>aF h|exact fun h=>bG h|exact fun h=>aI h|exact fun h=>aY h|exact fun h=>aO h|exact fun h=>G_loadV2 h|exact fun h=>aW h|exact fun h=>G_skip0 h)
  |(show _->aN _ _ _ (ET.cons (_,_,⟨_,.fieldAddr _ _ _,_,_,_,_⟩) _) _ _ _;first|exact fun h=>aF h|exact fun h=>bC h|exact fun h=>aI h|exact fun h=>aW h|exact fun h=>G_skip0 h)
  |(show _->aN _ _ _ (ET.cons (_,_,⟨_,.call _,_,_,_,_⟩) _) _ _ _;first|exact fun h=>aF h|exact fun h=>aI h|exact fun h=>dD h|exact fun h=>dV h|exact fun h=>AB h|exact fun h=>AX h|exact fun h=>bP h|exact fun h=>G_call0 h|exact fun h=>iK h|exact fun h=>G_callv0 h|exact fun h=>aW h|exact fun h=>G_skip0 h)
  |(show _->aN _ _ _ (ET.cons (_,_,⟨_,.nilCheck _,_,_,_,_⟩) _) _ _ _;first|exact fun h=>aF h|exact fun h=>aI h|exact fun h=>aW h|exact fun h=>G_skip0 h)
  |exact fun h=>aQ h
  |(show _->aN _ _ _ (ET.cons (_,_,⟨_,.extract _ _,_,_,_,_⟩) _) _ _ _;first|exact fun h=>aF h|exact fun h=>aI h|exact fun h=>aW h|exact fun h=>G_skip0 h)
  |(show _->aN _ _ _ (ET.cons (_,_,⟨_,.binOp _ _ _ _ _,_,_,_,_⟩) _) _ _ _;first|(show _->aN _ _ _ (ET.cons (_,_,⟨_,.binOp .eql _ _ _ _,_,_,_,_⟩) _) _ _ _;first|exact fun h=>aF h|exact fun h=>aI h|exact fun h=>aT h|exact fun h=>aW h|exact fun h=>G_skip0 h)|(show _->aN _ _ _ (ET.cons (_,_,⟨_,.binOp .add _ _ _ _,_,_,_,_⟩) _) _ _ _;first|exact fun h=>cL h|exact fun h=>aF h|exact fun h=>aI h|exact fun h=>fX h|exact fun h=>aW h|exact fun h=>G_skip0 h)|(show _->aN _ _ _ (ET.cons (_,_,⟨_,.binOp .neq _ _ _ _,_,_,_,_⟩) _) _ _ _;first|exact fun h=>aF h|exact fun h=>aI h|exact fun h=>bX h|exact fun h=>aW h|exact fun h=>G_skip0 h)|(show _->aN _ _ _ (ET.cons (_,_,⟨_,.binOp .sub _ _ _ _,_,_,_,_⟩) _) _ _ _;first|exact fun h=>gI h|exact fun h=>aF h|exact fun h=>aI h|exact fun h=>aW h|exact fun h=>G_skip0 h)|(show _->aN _ _ _ (ET.cons (_,_,⟨_,.binOp .rem _ _ _ _,_,_,_,_⟩) _) _ _ _;first|exact fun h=>Da h|exact fun h=>aF h|exact fun h=>aI h|exact fun h=>aW h|exact fun h=>G_skip0 h)|(show _->aN _ _ _ (ET.cons (_,_,⟨_,.binOp .mul _ _ _ _,_,_,_,_⟩) _) _ _ _;first|exact fun h=>CK h|exact fun h=>aF h|exact fun h=>aI h|exact fun h=>aW h|exact fun h=>G_skip0 h)|(show _->aN _ _ _ (ET.cons (_,_,⟨_,.binOp .quo _ _ _ _,_,_,_,_⟩) _) _ _ _;first|exact fun h=>O8 h|exact fun h=>aF h|exact fun h=>aI h|exact fun h=>aW h|exact fun h=>G_skip0 h)|(show _->aN _ _ _ (ET.cons (_,_,⟨_,.binOp .shr _ _ _ _,_,_,_,_⟩) _) _ _ _;first|exact fun h=>Pj h|exact fun h=>aF h|exact fun h=>aI h|exact fun h=>aW h|exact fun h=>G_skip0 h)|(show _->aN _ _ _ (ET.cons (_,_,⟨_,.binOp .shl _ _ _ _,_,_,_,_⟩) _) _ _ _;first|exact fun h=>Nx h|exact fun h=>aF h|exact fun h=>aI h|exact fun h=>aW h|exact fun h=>G_skip0 h)|(show _->aN _ _ _ (ET.cons (_,_,⟨_,.binOp .or _ _ _ _,_,_,_,_⟩) _) _ _ _;first|exact fun h=>Af1 h|exact fun h=>aF h|exact fun h=>aI h|exact fun h=>aW h|exact fun h=>G_skip0 h)|(show _->aN _ _ _ (ET.cons (_,_,⟨_,.binOp .andNot _ _ _ _,_,_,_,_⟩) _) _ _ _;first|exact fun h=>Gt h|exact fun h=>FX h|exact fun h=>aF h|exact fun h=>aI h|exact fun h=>aW h|exact fun h=>G_skip0 h)|exact fun h=>aF h|exact fun h=>aI h|exact fun h=>aW h)
  |(show _->aN _ _ _ (ET.cons (_,_,⟨_,.store _ _ _,_,_,_,_⟩) _) _ _ _;first|exact fun h=>aF h|exact fun h=>aI h|exact fun h=>bT h|exact fun h=>aW h|exact fun h=>G_skip0 h)
  |(show _->aN _ _ _ (ET.cons (_,_,⟨_,.pick _ _ _,_,_,_,_⟩) _) _ _ _;first|exact fun h=>aF h|exact fun h=>aI h|exact fun h=>aW h|exact fun h=>G_skip0 h)
  |(show _->aN _ _ _ (ET.cons (_,_,⟨_,.indexAddr _ _ _,_,_,_,_⟩) _) _ _ _;first|exact fun h=>aF h|exact fun h=>aI h|exact fun h=>d3 h|exact fun h=>cZ h|exact fun h=>jE h|exact fun h=>aW h|exact fun h=>G_skip0 h)
  |(show _->aN _ _ _ (ET.cons (_,_,⟨_,.build _ _,_,_,_,_⟩) _) _ _ _;first|exact fun h=>aF h|exact fun h=>aI h|exact fun h=>dX h|exact fun h=>aW h|exact fun h=>G_skip0 h)
  |(show _->aN _ _ _ (ET.cons (_,_,⟨_,.box _ _,_,_,_,_⟩) _) _ _ _;first|exact fun h=>aF h|exact fun h=>aI h|exact fun h=>fH h|exact fun h=>aW h|exact fun h=>G_skip0 h)
  |(show _->aN _ _ _ (ET.cons (_,_,⟨_,.alloc _,_,_,_,_⟩) _) _ _ _;first|exact fun h=>aF h|exact fun h=>aI h|exact fun h=>eT h|exact fun h=>aW h|exact fun h=>G_skip0 h)
  |(show _->aN _ _ _ (ET.cons (_,_,⟨_,.unOp _ _ _,_,_,_,_⟩) _) _ _ _;first|(show _->aN _ _ _ (ET.cons (_,_,⟨_,.unOp .not _ _,_,_,_,_⟩) _) _ _ _;first|exact fun h=>aF h|exact fun h=>aI h|exact fun h=>mY h|exact fun h=>aW h|exact fun h=>G_skip0 h)|(show _->aN _ _ _ (ET.cons (_,_,⟨_,.unOp .neg _ _,_,_,_,_⟩) _) _ _ _;first|exact fun h=>aF h|exact fun h=>aI h|exact fun h=>G_neg64 h|exact fun h=>aW h|exact fun h=>G_skip0 h)|exact fun h=>aF h|exact fun h=>aI h|exact fun h=>aW h)
  |(show _->aN _ _ _ (ET.cons (_,_,⟨_,.slice _ _ _ _ _,_,_,_,_⟩) _) _ _ _;first|exact fun h=>aF h|exact fun h=>aI h|exact fun h=>x8 h|exact fun h=>xY h|exact fun h=>yY h|exact fun h=>kS h|exact fun h=>iP h|exact fun h=>aW h|exact fun h=>G_skip0 h)
  |(show _->aN _ _ _ (ET.cons (_,_,⟨_,.convert _ _ _,_,_,_,_⟩) _) _ _ _;first|exact fun h=>aF h|exact fun h=>aI h|exact fun h=>lN h|exact fun h=>qL h|exact fun h=>o8 h|exact fun h=>G_conv h|exact fun h=>G_bytesP h|exact fun h=>i9 h|exact fun h=>mU h|exact fun h=>aW h|exact fun h=>G_skip0 h)
  |(show _->aN _ _ _ (ET.cons (_,_,⟨_,.buildSlice _ _ _,_,_,_,_⟩) _) _ _ _;first|exact fun h=>aF h|exact fun h=>aI h|exact fun h=>eE h|exact fun h=>aW h|exact fun h=>G_skip0 h)
  |(show _->aN _ _ _ (ET.cons (_,_,⟨_,.index _ _ _,_,_,_,_⟩) _) _ _ _;first|exact fun h=>aF h|exact fun h=>aI h|exact fun h=>G_indexS h|exact fun h=>aW h|exact fun h=>G_skip0 h)
  |exact fun h=>aF h|exact fun h=>aI h|exact fun h=>aW h|exact fun h=>G_skip0 h)
 |(show _->cY _ _ _;first|exact fun h=>FQ rfl h|exact fun h=>OJ rfl h)
 |(show _->fJ _ _ _ _ _;first|exact fun h=>Agk h|exact fun h=>Jc (by exact rfl) h|exact fun h=>Vf (by exact rfl) h|exact fun h=>Ad0 h|exact fun h=>TP h|exact fun h=>HD h|exact fun h=>Ul h|exact fun h=>MQ h|exact fun h=>OK h|exact fun h=>OV (by exact rfl) (by decide +kernel) (by exact rfl) h|exact fun h=>NG (by exact rfl) (by decide +kernel) (by exact rfl) h)
 |(show _->Br _ _ _;first|exact fun h=>Br.t rfl h|exact fun h=>Br.f rfl h|exact fun h=>Br.t (beq_self_eq_true _) h|exact fun h=>Br.f (Ab _) h|exact fun h=>Br.t (by assumption) h|exact fun h=>Br.f (by assumption) h|exact fun h=>Br.t (Ans (by assumption)) h|exact fun h=>Br.f (Aoc (by assumption)) h)
 |(show _->bN _ _ _ _ _;first|exact fun h=>t_n h|exact fun h=>t_r h|exact fun h=>t_e h)
 |(show _->aM _ _ _ _ _;first|exact fun h=>b_n h|exact fun h=>b_r h|exact fun h=>Ac4 rfl h|exact fun h=>U8 rfl h)
 |(show _->aS _ _ _ _;first|exact fun h=>g_n h|exact fun h=>g_r h|exact fun h=>g_e h)):Y:=hs h
theorem wq (h:X) (hs:X->Y:=by
 first
 |(show _->cY _ _ _;first|exact fun h=>FQ rfl h|exact fun h=>OJ rfl h)
 |(show _->fJ _ _ _ _ _;first|exact fun h=>Agk h|exact fun h=>Jc (by exact rfl) h|exact fun h=>Vf (by exact rfl) h|exact fun h=>Ad0 h|exact fun h=>TP h|exact fun h=>HD h|exact fun h=>Ul h|exact fun h=>MQ h|exact fun h=>OK h)
 |(show _->Br _ _ _;first|exact fun h=>Br.t rfl h|exact fun h=>Br.f rfl h|exact fun h=>Br.t (beq_self_eq_true _) h|exact fun h=>Br.f (Ab _) h|exact fun h=>Br.t (by assumption) h|exact fun h=>Br.f (by assumption) h|exact fun h=>Br.t (Ans (by assumption)) h|exact fun h=>Br.f (Aoc (by assumption)) h)
 |(show _->bN _ _ _ _ _;first|exact fun h=>t_n h|exact fun h=>t_r h|exact fun h=>t_e h)
 |(show _->aM _ _ _ _ _;first|exact fun h=>b_n h|exact fun h=>b_r h|exact fun h=>Ac4 rfl h|exact fun h=>U8 rfl h)
 |(show _->aS _ _ _ _;first|exact fun h=>g_n h|exact fun h=>g_r h|exact fun h=>g_e h)):Y:=hs h
theorem v0 (h:X) (hs:X->Y:=by
 first
 |(show _->aN _ _ _ _ _ _ _;intro h;first|exact aF h|exact aQ h|exact aI h|exact bP h|exact G_call0 h)
 |exact fun h=>wq h):Y:=hs h
theorem v1 (h:X) (hs:X->Y:=by
 first
 |(show _->aN _ _ _ _ _ _ _;intro h;first|exact aF h|exact aQ h|exact aI h|exact aW h|exact G_skip0 h)
 |exact fun h=>wq h):Y:=hs h
theorem v2 (h:X) (hs:X->Y:=by
 first
 |(show _->aN _ _ _ _ _ _ _;intro h;first|exact aF h|exact aQ h|exact aI h|exact bX h|exact bP h|exact G_call0 h)
 |exact fun h=>wq h):Y:=hs h
theorem v3 (h:X) (hs:X->Y:=by
 first
 |(show _->aN _ _ _ _ _ _ _;intro h;first|exact aF h|exact aQ h|exact aI h|exact aT h|exact bP h|exact G_call0 h)
 |exact fun h=>wq h):Y:=hs h
theorem v4 (h:X) (hs:X->Y:=by
 first
 |(show _->aN _ _ _ _ _ _ _;intro h;first|exact aF h|exact bG h|exact aQ h|exact bC h|exact aI h|exact aY h|exact aO h|exact G_loadV2 h|exact aT h)
 |exact fun h=>wq h):Y:=hs h
theorem v5 (h:X) (hs:X->Y:=by
 first
 |(show _->aN _ _ _ _ _ _ _;intro h;first|exact aF h|exact aQ h|exact aI h|exact bT h|exact dX h|exact eT h)
 |exact fun h=>wq h):Y:=hs h
theorem v6 (h:X) (hs:X->Y:=by
 first
 |(show _->aN _ _ _ _ _ _ _;intro h;first|exact aF h|exact aQ h|exact aI h|exact dX h|exact fH h|exact aW h|exact G_skip0 h)
 |exact fun h=>wq h):Y:=hs h
theorem v8 (h:X) (hs:X->Y:=by
 first
 |(show _->aN _ _ _ _ _ _ _;intro h;first|exact gI h|exact aF h|exact aQ h|exact aI h|exact x8 h|exact xY h|exact yY h|exact bP h|exact G_call0 h|exact kS h|exact iP h)
 |exact fun h=>wq h):Y:=hs h
theorem v9 (h:X) (hs:X->Y:=by
 first
 |(show _->aN _ _ _ _ _ _ _;intro h;first|exact aF h|exact aQ h|exact aI h|exact dD h|exact dV h|exact x8 h|exact xY h|exact yY h|exact aT h|exact kS h|exact iP h)
 |exact fun h=>wq h):Y:=hs h
theorem v10 (h:X) (hs:X->Y:=by
 first
 |(show _->aN _ _ _ _ _ _ _;intro h;first|exact aF h|exact bG h|exact aQ h|exact bC h|exact aI h|exact aY h|exact aO h|exact G_loadV2 h|exact aT h|exact bP h|exact G_call0 h)
 |exact fun h=>wq h):Y:=hs h
theorem Ku (h:X) (hs:X->Y:=by
 first
 |(show _->aN _ _ _ _ _ _ _;intro h;first|exact aF h|exact bG h|exact aQ h|exact bC h|exact aI h|exact aY h|exact aO h|exact G_loadV2 h|exact bX h|exact bP h|exact G_call0 h)
 |exact fun h=>wq h):Y:=hs h
theorem v13 (h:X) (hs:X->Y:=by
 first
 |(show _->aN _ _ _ _ _ _ _;intro h;first|exact aF h|exact aQ h|exact bC h|exact aI h|exact bT h|exact aT h|exact bP h|exact G_call0 h)
 |exact fun h=>wq h):Y:=hs h
theorem v14 (h:X) (hs:X->Y:=by
 first
 |(show _->aN _ _ _ _ _ _ _;intro h;first|exact aF h|exact bG h|exact aQ h|exact bC h|exact aI h|exact bT h|exact aY h|exact aO h|exact G_loadV2 h|exact AX h)
 |exact fun h=>wq h):Y:=hs h
theorem v15 (h:X) (hs:X->Y:=by
 first
 |(show _->aN _ _ _ _ _ _ _;intro h;first|exact gI h|exact aF h|exact aQ h|exact aI h|exact aT h|exact bP h|exact G_call0 h|exact aW h|exact G_skip0 h)
 |exact fun h=>wq h):Y:=hs h
theorem v16 (h:X) (hs:X->Y:=by
 first
 |(show _->aN _ _ _ _ _ _ _;intro h;first|exact aF h|exact bG h|exact aQ h|exact bC h|exact aI h|exact aY h|exact aO h|exact G_loadV2 h|exact bX h|exact aW h|exact G_skip0 h)
 |exact fun h=>wq h):Y:=hs h
theorem v17 (h:X) (hs:X->Y:=by
 first
 |(show _->aN _ _ _ _ _ _ _;intro h;first|exact aF h|exact bG h|exact aQ h|exact aI h|exact aY h|exact aO h|exact G_loadV2 h|exact AB h|exact AX h|exact bP h|exact G_call0 h)
 |exact fun h=>wq h):Y:=hs h
theorem v19 (h:X) (hs:X->Y:=by
 first
 |(show _->aN _ _ _ _ _ _ _;intro h;first|exact aF h|exact bG h|exact aQ h|exact bC h|exact aI h|exact aY h|exact aO h|exact G_loadV2 h|exact bP h|exact G_call0 h|exact fH h|exact aW h|exact G_skip0 h)
 |exact fun h=>wq h):Y:=hs h
theorem v20 (h:X) (hs:X->Y:=by
 first
 |(show _->aN _ _ _ _ _ _ _;intro h;first|exact aF h|exact bG h|exact aQ h|exact bC h|exact aI h|exact aY h|exact aO h|exact G_loadV2 h|exact dD h|exact dV h|exact lN h|exact qL h|exact o8 h|exact G_conv h|exact aT h|exact G_bytesP h|exact i9 h|exact mU h)
 |exact fun h=>wq h):Y:=hs h
theorem v21 (h:X) (hs:X->Y:=by
 first
 |(show _->aN _ _ _ _ _ _ _;intro h;first|exact aF h|exact aQ h|exact aI h|exact mY h|exact dX h|exact bX h|exact bP h|exact G_call0 h|exact fH h)
 |exact fun h=>wq h):Y:=hs h
theorem v22 (h:X) (hs:X->Y:=by
 first
 |(show _->aN _ _ _ _ _ _ _;intro h;first|exact gI h|exact aF h|exact bG h|exact aQ h|exact bC h|exact aI h|exact aY h|exact aO h|exact G_loadV2 h|exact aT h|exact fH h)
 |exact fun h=>wq h):Y:=hs h
theorem v23 (h:X) (hs:X->Y:=by
 first
 |(show _->aN _ _ _ _ _ _ _;intro h;first|exact aF h|exact bG h|exact aQ h|exact bC h|exact aI h|exact aY h|exact aO h|exact G_loadV2 h|exact aT h|exact fH h|exact aW h|exact G_skip0 h)
 |exact fun h=>wq h):Y:=hs h
theorem v24 (h:X) (hs:X->Y:=by
 first
 |(show _->aN _ _ _ _ _ _ _;intro h;first|exact cL h|exact gI h|exact O8 h|exact aF h|exact aQ h|exact aI h|exact fX h|exact bP h|exact G_call0 h|exact aW h|exact G_skip0 h)
 |exact fun h=>wq h):Y:=hs h
theorem v25 (h:X) (hs:X->Y:=by
 first
 |(show _->aN _ _ _ _ _ _ _;intro h;first|exact aF h|exact bG h|exact aQ h|exact bC h|exact aI h|exact aY h|exact aO h|exact G_loadV2 h|exact G_indexS h|exact dX h|exact bP h|exact G_call0 h)
 |exact fun h=>wq h):Y:=hs h
theorem v26 (h:X) (hs:X->Y:=by
 first
 |(show _->aN _ _ _ _ _ _ _;intro h;first|exact aF h|exact bG h|exact aQ h|exact aI h|exact aY h|exact aO h|exact G_loadV2 h|exact aT h|exact iK h|exact G_callv0 h|exact fH h|exact aW h|exact G_skip0 h)
 |exact fun h=>wq h):Y:=hs h
theorem v27 (h:X) (hs:X->Y:=by
 first
 |(show _->aN _ _ _ _ _ _ _;intro h;first|exact Da h|exact aF h|exact bG h|exact aQ h|exact bC h|exact aI h|exact aY h|exact aO h|exact G_loadV2 h|exact aT h|exact aW h|exact G_skip0 h)
 |exact fun h=>wq h):Y:=hs h
theorem v28 (h:X) (hs:X->Y:=by
 first
 |(show _->aN _ _ _ _ _ _ _;intro h;first|exact cL h|exact gI h|exact aF h|exact bG h|exact aQ h|exact aI h|exact bT h|exact aY h|exact aO h|exact G_loadV2 h|exact d3 h|exact cZ h|exact fX h|exact jE h)
 |exact fun h=>wq h):Y:=hs h
theorem v29 (h:X) (hs:X->Y:=by
 first
 |(show _->aN _ _ _ _ _ _ _;intro h;first|exact cL h|exact aF h|exact bG h|exact aQ h|exact bC h|exact aI h|exact aY h|exact aO h|exact G_loadV2 h|exact d3 h|exact cZ h|exact fX h|exact aT h|exact bX h|exact jE h)
 |exact fun h=>wq h):Y:=hs h
theorem v30 (h:X) (hs:X->Y:=by
 first
 |(show _->aN _ _ _ _ _ _ _;intro h;first|exact aF h|exact bG h|exact aQ h|exact bC h|exact aI h|exact bT h|exact aY h|exact aO h|exact G_loadV2 h|exact dX h|exact aT h|exact eT h)
 |exact fun h=>wq h):Y:=hs h
theorem v31 (h:X) (hs:X->Y:=by
 first
 |(show _->aN _ _ _ _ _ _ _;intro h;first|exact aF h|exact bG h|exact aQ h|exact bC h|exact aI h|exact bT h|exact aY h|exact aO h|exact G_loadV2 h|exact bP h|exact G_call0 h|exact fH h|exact eT h)
 |exact fun h=>wq h):Y:=hs h
theorem HA (h:X) (hs:X->Y:=by
 first
 |(show _->aN _ _ _ _ _ _ _;intro h;first|exact cL h|exact aF h|exact bG h|exact aQ h|exact bC h|exact aI h|exact bT h|exact aY h|exact aO h|exact G_loadV2 h|exact fX h|exact aT h|exact bP h|exact G_call0 h)
 |exact fun h=>wq h):Y:=hs h
theorem v33 (h:X) (hs:X->Y:=by
 first
 |(show _->aN _ _ _ _ _ _ _;intro h;first|exact cL h|exact gI h|exact aF h|exact bG h|exact aQ h|exact bC h|exact aI h|exact bT h|exact aY h|exact aO h|exact G_loadV2 h|exact fX h|exact aT h)
 |exact fun h=>wq h):Y:=hs h
theorem Kv (h:X) (hs:X->Y:=by
 first
 |(show _->aN _ _ _ _ _ _ _;intro h;first|exact aF h|exact bG h|exact aQ h|exact bC h|exact aI h|exact aY h|exact aO h|exact G_loadV2 h|exact mY h|exact aT h|exact bP h|exact G_call0 h|exact aW h|exact G_skip0 h)
 |exact fun h=>wq h):Y:=hs h
theorem v35 (h:X) (hs:X->Y:=by
 first
 |(show _->aN _ _ _ _ _ _ _;intro h;first|exact aF h|exact bG h|exact aQ h|exact bC h|exact aI h|exact aY h|exact aO h|exact G_loadV2 h|exact AB h|exact aT h|exact bX h|exact bP h|exact G_call0 h)
 |exact fun h=>wq h):Y:=hs h
theorem v36 (h:X) (hs:X->Y:=by
 first
 |(show _->aN _ _ _ _ _ _ _;intro h;first|exact aF h|exact bG h|exact aQ h|exact aI h|exact bT h|exact aY h|exact aO h|exact G_loadV2 h|exact dD h|exact dV h|exact dX h|exact bX h|exact eE h)
 |exact fun h=>wq h):Y:=hs h
theorem v37 (h:X) (hs:X->Y:=by
 first
 |(show _->aN _ _ _ _ _ _ _;intro h;first|exact cL h|exact aF h|exact bG h|exact aQ h|exact bC h|exact aI h|exact bT h|exact aY h|exact aO h|exact G_loadV2 h|exact mY h|exact fX h|exact iK h|exact G_callv0 h)
 |exact fun h=>wq h):Y:=hs h
theorem v39 (h:X) (hs:X->Y:=by
 first
 |(show _->aN _ _ _ _ _ _ _;intro h;first|exact aF h|exact bG h|exact aQ h|exact bC h|exact aI h|exact aY h|exact aO h|exact G_loadV2 h|exact AB h|exact AX h|exact aT h|exact fH h)
 |exact fun h=>wq h):Y:=hs h
theorem v40 (h:X) (hs:X->Y:=by
 first
 |(show _->aN _ _ _ _ _ _ _;intro h;first|exact aF h|exact bG h|exact aQ h|exact bC h|exact aI h|exact bT h|exact aY h|exact aO h|exact G_loadV2 h|exact dD h|exact dV h|exact d3 h|exact cZ h|exact x8 h|exact xY h|exact yY h|exact jE h|exact kS h|exact iP h)
 |exact fun h=>wq h):Y:=hs h
theorem v41 (h:X) (hs:X->Y:=by
 first
 |(show _->aN _ _ _ _ _ _ _;intro h;first|exact aF h|exact bG h|exact aQ h|exact bC h|exact aI h|exact aY h|exact aO h|exact G_loadV2 h|exact mY h|exact d3 h|exact cZ h|exact aT h|exact bP h|exact G_call0 h|exact jE h|exact aW h|exact G_skip0 h)
 |exact fun h=>wq h):Y:=hs h
theorem v42 (h:X) (hs:X->Y:=by
 first
 |(show _->aN _ _ _ _ _ _ _;intro h;first|exact cL h|exact aF h|exact aQ h|exact aI h|exact dX h|exact fX h|exact aT h|exact bX h|exact bP h|exact G_call0 h|exact fH h|exact aW h|exact G_skip0 h)
 |exact fun h=>wq h):Y:=hs h
theorem v43 (h:X) (hs:X->Y:=by
 first
 |(show _->aN _ _ _ _ _ _ _;intro h;first|exact cL h|exact CK h|exact O8 h|exact aF h|exact bG h|exact aQ h|exact bC h|exact aI h|exact aY h|exact aO h|exact G_loadV2 h|exact fX h|exact AX h|exact fH h)
 |exact fun h=>wq h):Y:=hs h
theorem v44 (h:X) (hs:X->Y:=by
 first
 |(show _->aN _ _ _ _ _ _ _;intro h;first|exact aF h|exact bG h|exact aQ h|exact bC h|exact aI h|exact aY h|exact aO h|exact G_loadV2 h|exact mY h|exact aT h|exact bP h|exact G_call0 h|exact fH h|exact aW h|exact G_skip0 h)
 |exact fun h=>wq h):Y:=hs h
theorem v45 (h:X) (hs:X->Y:=by
 first
 |(show _->aN _ _ _ _ _ _ _;intro h;first|exact cL h|exact aF h|exact bG h|exact aQ h|exact bC h|exact aI h|exact aY h|exact aO h|exact G_loadV2 h|exact dD h|exact dV h|exact d3 h|exact cZ h|exact fX h|exact bP h|exact G_call0 h|exact eE h|exact jE h)
 |exact fun h=>wq h):Y:=hs h
theorem v46 (h:X) (hs:X->Y:=by
 first
 |(show _->aN _ _ _ _ _ _ _;intro h;first|exact aF h|exact bG h|exact aQ h|exact bC h|exact aI h|exact aY h|exact aO h|exact G_loadV2 h|exact dX h|exact aT h|exact bX h|exact bP h|exact G_call0 h|exact fH h)
 |exact fun h=>wq h):Y:=hs h
theorem v47 (h:X) (hs:X->Y:=by
 first
 |(show _->aN _ _ _ _ _ _ _;intro h;first|exact aF h|exact bG h|exact aQ h|exact bC h|exact aI h|exact aY h|exact aO h|exact G_loadV2 h|exact aT h|exact bP h|exact G_call0 h|exact iK h|exact G_callv0 h|exact fH h|exact eT h)
 |exact fun h=>wq h):Y:=hs h
theorem v48 (h:X) (hs:X->Y:=by
 first
 |(show _->aN _ _ _ _ _ _ _;intro h;first|exact aF h|exact bG h|exact aQ h|exact bC h|exact aI h|exact bT h|exact aY h|exact aO h|exact G_loadV2 h|exact mY h|exact bX h|exact bP h|exact G_call0 h|exact aW h|exact G_skip0 h)
 |exact fun h=>wq h):Y:=hs h
theorem v49 (h:X) (hs:X->Y:=by
 first
 |(show _->aN _ _ _ _ _ _ _;intro h;first|exact cL h|exact aF h|exact bG h|exact aQ h|exact bC h|exact aI h|exact bT h|exact aY h|exact aO h|exact G_loadV2 h|exact fX h|exact aT h|exact bX h|exact bP h|exact G_call0 h)
 |exact fun h=>wq h):Y:=hs h
theorem Ln (h:X) (hs:X->Y:=by
 first
 |(show _->aN _ _ _ _ _ _ _;intro h;first|exact cL h|exact gI h|exact aF h|exact aQ h|exact aI h|exact dD h|exact dV h|exact mY h|exact x8 h|exact xY h|exact yY h|exact fX h|exact aT h|exact bP h|exact G_call0 h|exact kS h|exact iP h)
 |exact fun h=>wq h):Y:=hs h
theorem v53 (h:X) (hs:X->Y:=by
 first
 |(show _->aN _ _ _ _ _ _ _;intro h;first|exact gI h|exact aF h|exact aQ h|exact aI h|exact mY h|exact dX h|exact aT h|exact bP h|exact G_call0 h|exact iK h|exact G_callv0 h|exact fH h|exact aW h|exact G_skip0 h)
 |exact fun h=>wq h):Y:=hs h
theorem v54 (h:X) (hs:X->Y:=by
 first
 |(show _->aN _ _ _ _ _ _ _;intro h;first|exact aF h|exact bG h|exact aQ h|exact bC h|exact aI h|exact bT h|exact aY h|exact aO h|exact G_loadV2 h|exact dD h|exact dV h|exact d3 h|exact cZ h|exact bP h|exact G_call0 h|exact fH h|exact eE h|exact jE h)
 |exact fun h=>wq h):Y:=hs h
theorem v55 (h:X) (hs:X->Y:=by
 first
 |(show _->aN _ _ _ _ _ _ _;intro h;first|exact cL h|exact aF h|exact bG h|exact aQ h|exact aI h|exact bT h|exact aY h|exact aO h|exact G_loadV2 h|exact d3 h|exact cZ h|exact fX h|exact AB h|exact bP h|exact G_call0 h|exact iK h|exact G_callv0 h|exact eT h|exact jE h)
 |exact fun h=>wq h):Y:=hs h
theorem v56 (h:X) (hs:X->Y:=by
 first
 |(show _->aN _ _ _ _ _ _ _;intro h;first|exact CK h|exact Nx h|exact Pj h|exact aF h|exact bG h|exact aQ h|exact bC h|exact aI h|exact bT h|exact aY h|exact aO h|exact G_loadV2 h|exact fH h|exact aW h|exact G_skip0 h)
 |exact fun h=>wq h):Y:=hs h
theorem Bw (h:X) (hs:X->Y:=by
 first
 |(show _->aN _ _ _ _ _ _ _;intro h;first|exact aF h|exact bG h|exact aQ h|exact bC h|exact aI h|exact bT h|exact aY h|exact aO h|exact G_loadV2 h|exact dX h|exact aT h|exact bX h|exact bP h|exact G_call0 h|exact fH h|exact aW h|exact G_skip0 h)
 |exact fun h=>wq h):Y:=hs h
theorem v58 (h:X) (hs:X->Y:=by
 first
 |(show _->aN _ _ _ _ _ _ _;intro h;first|exact Da h|exact aF h|exact bG h|exact aQ h|exact bC h|exact aI h|exact aY h|exact aO h|exact G_loadV2 h|exact aT h|exact bX h|exact bP h|exact G_call0 h|exact iK h|exact G_callv0 h|exact fH h|exact aW h|exact G_skip0 h)
 |exact fun h=>wq h):Y:=hs h
theorem Lc (h:X) (hs:X->Y:=by
 first
 |(show _->aN _ _ _ _ _ _ _;intro h;first|exact cL h|exact aF h|exact bG h|exact aQ h|exact bC h|exact aI h|exact bT h|exact aY h|exact aO h|exact G_loadV2 h|exact d3 h|exact cZ h|exact dX h|exact fX h|exact bX h|exact bP h|exact G_call0 h|exact eT h|exact jE h)
 |exact fun h=>wq h):Y:=hs h
theorem v60 (h:X) (hs:X->Y:=by
 first
 |(show _->aN _ _ _ _ _ _ _;intro h;first|exact cL h|exact aF h|exact bG h|exact aQ h|exact bC h|exact aI h|exact aY h|exact aO h|exact G_loadV2 h|exact d3 h|exact cZ h|exact dX h|exact fX h|exact bX h|exact bP h|exact G_call0 h|exact fH h|exact eE h|exact jE h)
 |exact fun h=>wq h):Y:=hs h
theorem v61 (h:X) (hs:X->Y:=by
 first
 |(show _->aN _ _ _ _ _ _ _;intro h;first|exact Da h|exact aF h|exact bG h|exact aQ h|exact bC h|exact aI h|exact bT h|exact aY h|exact aO h|exact G_loadV2 h|exact lN h|exact qL h|exact o8 h|exact G_conv h|exact dX h|exact AX h|exact G_bytesP h|exact i9 h|exact fH h|exact eT h|exact mU h)
 |exact fun h=>wq h):Y:=hs h
theorem v62 (h:X) (hs:X->Y:=by
 first
 |(show _->aN _ _ _ _ _ _ _;intro h;first|exact cL h|exact aF h|exact bG h|exact aQ h|exact bC h|exact aI h|exact bT h|exact aY h|exact aO h|exact G_loadV2 h|exact d3 h|exact cZ h|exact x8 h|exact xY h|exact yY h|exact fX h|exact aT h|exact bP h|exact G_call0 h|exact jE h|exact kS h|exact iP h|exact aW h|exact G_skip0 h)
 |exact fun h=>wq h):Y:=hs h
theorem Cc (h:X) (hs:X->Y:=by
 first
 |(show _->aN _ _ _ _ _ _ _;intro h;first|exact aF h|exact bG h|exact aQ h|exact bC h|exact aI h|exact aY h|exact aO h|exact G_loadV2 h|exact mY h|exact dX h|exact aT h|exact bX h|exact bP h|exact G_call0 h|exact fH h|exact aW h|exact G_skip0 h)
 |exact fun h=>wq h):Y:=hs h
theorem KM (h:X) (hs:X->Y:=by
 first
 |(show _->aN _ _ _ _ _ _ _;intro h;first|exact aF h|exact bG h|exact aQ h|exact bC h|exact aI h|exact bT h|exact aY h|exact aO h|exact G_loadV2 h|exact dX h|exact aT h|exact bX h|exact bP h|exact G_call0 h|exact fH h|exact eT h)
 |exact fun h=>wq h):Y:=hs h
theorem N7 (h:X) (hs:X->Y:=by
 first
 |(show _->aN _ _ _ _ _ _ _;intro h;first|exact gI h|exact aF h|exact bG h|exact aQ h|exact bC h|exact aI h|exact bT h|exact aY h|exact aO h|exact G_loadV2 h|exact mY h|exact aT h|exact bX h|exact bP h|exact G_call0 h|exact aW h|exact G_skip0 h)
 |exact fun h=>wq h):Y:=hs h
theorem v66 (h:X) (hs:X->Y:=by
 first
 |(show _->aN _ _ _ _ _ _ _;intro h;first|exact cL h|exact gI h|exact aF h|exact bG h|exact aQ h|exact bC h|exact aI h|exact bT h|exact aY h|exact aO h|exact G_loadV2 h|exact lN h|exact qL h|exact o8 h|exact G_conv h|exact fX h|exact AB h|exact AX h|exact aT h|exact G_bytesP h|exact i9 h|exact mU h)
 |exact fun h=>wq h):Y:=hs h
theorem v67 (h:X) (hs:X->Y:=by
 first
 |(show _->aN _ _ _ _ _ _ _;intro h;first|exact cL h|exact gI h|exact Da h|exact aF h|exact bG h|exact aQ h|exact bC h|exact aI h|exact bT h|exact aY h|exact aO h|exact G_loadV2 h|exact fX h|exact AB h|exact AX h|exact bP h|exact G_call0 h)
 |exact fun h=>wq h):Y:=hs h
theorem v68 (h:X) (hs:X->Y:=by
 first
 |(show _->aN _ _ _ _ _ _ _;intro h;first|exact cL h|exact gI h|exact aF h|exact bG h|exact aQ h|exact bC h|exact aI h|exact bT h|exact aY h|exact aO h|exact G_loadV2 h|exact mY h|exact fX h|exact AX h|exact aT h|exact bP h|exact G_call0 h)
 |exact fun h=>wq h):Y:=hs h
theorem v71 (h:X) (hs:X->Y:=by
 first
 |(show _->aN _ _ _ _ _ _ _;intro h;first|exact cL h|exact gI h|exact aF h|exact bG h|exact aQ h|exact bC h|exact aI h|exact bT h|exact aY h|exact aO h|exact G_loadV2 h|exact d3 h|exact cZ h|exact fX h|exact aT h|exact bP h|exact G_call0 h|exact eT h|exact jE h|exact aW h|exact G_skip0 h)
 |exact fun h=>wq h):Y:=hs h
theorem v72 (h:X) (hs:X->Y:=by
 first
 |(show _->aN _ _ _ _ _ _ _;intro h;first|exact cL h|exact aF h|exact bG h|exact aQ h|exact bC h|exact aI h|exact aY h|exact aO h|exact G_loadV2 h|exact dD h|exact dV h|exact d3 h|exact cZ h|exact dX h|exact fX h|exact aT h|exact bP h|exact G_call0 h|exact eE h|exact jE h|exact aW h|exact G_skip0 h)
 |exact fun h=>wq h):Y:=hs h
theorem v73 (h:X) (hs:X->Y:=by
 first
 |(show _->aN _ _ _ _ _ _ _;intro h;first|exact aF h|exact bG h|exact aQ h|exact bC h|exact aI h|exact bT h|exact aY h|exact aO h|exact G_loadV2 h|exact dD h|exact dV h|exact d3 h|exact cZ h|exact dX h|exact x8 h|exact xY h|exact yY h|exact aT h|exact bP h|exact G_call0 h|exact eT h|exact jE h|exact kS h|exact iP h)
 |exact fun h=>wq h):Y:=hs h
theorem v74 (h:X) (hs:X->Y:=by
 first
 |(show _->aN _ _ _ _ _ _ _;intro h;first|exact cL h|exact aF h|exact bG h|exact aQ h|exact aI h|exact bT h|exact aY h|exact aO h|exact G_loadV2 h|exact dD h|exact dV h|exact d3 h|exact cZ h|exact lN h|exact qL h|exact o8 h|exact G_conv h|exact fX h|exact bX h|exact G_bytesP h|exact i9 h|exact bP h|exact G_call0 h|exact iK h|exact G_callv0 h|exact eT h|exact mU h|exact jE h)
 |exact fun h=>wq h):Y:=hs h
theorem v75 (h:X) (hs:X->Y:=by
 first
 |(show _->aN _ _ _ _ _ _ _;intro h;first|exact gI h|exact aF h|exact bG h|exact aQ h|exact bC h|exact aI h|exact bT h|exact aY h|exact aO h|exact G_loadV2 h|exact d3 h|exact cZ h|exact dX h|exact bP h|exact G_call0 h|exact iK h|exact G_callv0 h|exact fH h|exact eT h|exact jE h)
 |exact fun h=>wq h):Y:=hs h
theorem SE (h:X) (hs:X->Y:=by
 first
 |(show _->aN _ _ _ _ _ _ _;intro h;first|exact cL h|exact aF h|exact bG h|exact aQ h|exact bC h|exact aI h|exact bT h|exact aY h|exact aO h|exact G_loadV2 h|exact mY h|exact fX h|exact aT h|exact bP h|exact G_call0 h|exact iK h|exact G_callv0 h|exact fH h|exact aW h|exact G_skip0 h)
 |exact fun h=>wq h):Y:=hs h
theorem v78 (h:X) (hs:X->Y:=by
 first
 |(show _->aN _ _ _ _ _ _ _;intro h;first|exact cL h|exact aF h|exact bG h|exact aQ h|exact bC h|exact aI h|exact aY h|exact aO h|exact G_loadV2 h|exact mY h|exact d3 h|exact cZ h|exact dX h|exact fX h|exact aT h|exact bX h|exact bP h|exact G_call0 h|exact fH h|exact jE h|exact aW h|exact G_skip0 h)
 |exact fun h=>wq h):Y:=hs h
theorem v79 (h:X) (hs:X->Y:=by
 first
 |(show _->aN _ _ _ _ _ _ _;intro h;first|exact cL h|exact aF h|exact bG h|exact aQ h|exact bC h|exact aI h|exact bT h|exact aY h|exact aO h|exact G_loadV2 h|exact d3 h|exact cZ h|exact dX h|exact fX h|exact aT h|exact bP h|exact G_call0 h|exact iK h|exact G_callv0 h|exact fH h|exact eT h|exact jE h)
 |exact fun h=>wq h):Y:=hs h
theorem SH (h:X) (hs:X->Y:=by
 first
 |(show _->aN _ _ _ _ _ _ _;intro h;first|exact cL h|exact aF h|exact bG h|exact aQ h|exact bC h|exact aI h|exact bT h|exact aY h|exact aO h|exact G_loadV2 h|exact dD h|exact dV h|exact mY h|exact x8 h|exact xY h|exact yY h|exact fX h|exact aT h|exact bP h|exact G_call0 h|exact eT h|exact eE h|exact kS h|exact iP h)
 |exact fun h=>wq h):Y:=hs h
theorem v81 (h:X) (hs:X->Y:=by
 first
 |(show _->aN _ _ _ _ _ _ _;intro h;first|exact cL h|exact aF h|exact bG h|exact aQ h|exact bC h|exact aI h|exact bT h|exact aY h|exact aO h|exact G_loadV2 h|exact d3 h|exact cZ h|exact G_indexS h|exact dX h|exact fX h|exact bX h|exact bP h|exact G_call0 h|exact fH h|exact eT h|exact jE h)
 |exact fun h=>wq h):Y:=hs h
theorem v82 (h:X) (hs:X->Y:=by
 first
 |(show _->aN _ _ _ _ _ _ _;intro h;first|exact aF h|exact bG h|exact aQ h|exact bC h|exact aI h|exact bT h|exact aY h|exact aO h|exact G_loadV2 h|exact d3 h|exact cZ h|exact dX h|exact aT h|exact bX h|exact bP h|exact G_call0 h|exact fH h|exact eT h|exact jE h|exact aW h|exact G_skip0 h)
 |exact fun h=>wq h):Y:=hs h
theorem v83 (h:X) (hs:X->Y:=by
 first
 |(show _->aN _ _ _ _ _ _ _;intro h;first|exact cL h|exact gI h|exact Da h|exact aF h|exact bG h|exact aQ h|exact bC h|exact aI h|exact aY h|exact aO h|exact G_loadV2 h|exact d3 h|exact cZ h|exact lN h|exact qL h|exact o8 h|exact G_conv h|exact fX h|exact aT h|exact G_bytesP h|exact i9 h|exact bP h|exact G_call0 h|exact fH h|exact eE h|exact mU h|exact jE h)
 |exact fun h=>wq h):Y:=hs h
theorem v84 (h:X) (hs:X->Y:=by
 first
 |(show _->aN _ _ _ _ _ _ _;intro h;first|exact cL h|exact gI h|exact O8 h|exact aF h|exact bG h|exact aQ h|exact bC h|exact aI h|exact aY h|exact aO h|exact G_loadV2 h|exact d3 h|exact cZ h|exact fX h|exact aT h|exact bP h|exact G_call0 h|exact iK h|exact G_callv0 h|exact fH h|exact jE h|exact aW h|exact G_skip0 h)
 |exact fun h=>wq h):Y:=hs h
theorem v85 (h:X) (hs:X->Y:=by
 first
 |(show _->aN _ _ _ _ _ _ _;intro h;first|exact cL h|exact Da h|exact aF h|exact bG h|exact aQ h|exact bC h|exact aI h|exact bT h|exact aY h|exact aO h|exact G_loadV2 h|exact mY h|exact x8 h|exact xY h|exact yY h|exact fX h|exact AB h|exact aT h|exact bP h|exact G_call0 h|exact kS h|exact iP h|exact aW h|exact G_skip0 h)
 |exact fun h=>wq h):Y:=hs h
theorem v86 (h:X) (hs:X->Y:=by
 first
 |(show _->aN _ _ _ _ _ _ _;intro h;first|exact cL h|exact Nx h|exact Af1 h|exact Pj h|exact aF h|exact bG h|exact aQ h|exact aI h|exact aY h|exact aO h|exact G_loadV2 h|exact d3 h|exact cZ h|exact lN h|exact qL h|exact o8 h|exact G_conv h|exact fX h|exact aT h|exact G_bytesP h|exact i9 h|exact bP h|exact G_call0 h|exact iK h|exact G_callv0 h|exact mU h|exact jE h|exact aW h|exact G_skip0 h)
 |exact fun h=>wq h):Y:=hs h
theorem v88 (h:X) (hs:X->Y:=by
 first
 |(show _->aN _ _ _ _ _ _ _;intro h;first|exact cL h|exact aF h|exact bG h|exact aQ h|exact bC h|exact aI h|exact bT h|exact aY h|exact aO h|exact G_loadV2 h|exact mY h|exact d3 h|exact cZ h|exact dX h|exact fX h|exact aT h|exact bP h|exact G_call0 h|exact iK h|exact G_callv0 h|exact eT h|exact jE h|exact aW h|exact G_skip0 h)
 |exact fun h=>wq h):Y:=hs h
theorem HN (h:X) (hs:X->Y:=by
 first
 |(show _->aN _ _ _ _ _ _ _;intro h;first|exact aF h|exact bG h|exact aQ h|exact bC h|exact aI h|exact bT h|exact aY h|exact aO h|exact G_loadV2 h|exact mY h|exact dX h|exact AB h|exact aT h|exact bX h|exact bP h|exact G_call0 h|exact fH h|exact eT h|exact aW h|exact G_skip0 h)
 |exact fun h=>wq h):Y:=hs h
theorem v90 (h:X) (hs:X->Y:=by
 first
 |(show _->aN _ _ _ _ _ _ _;intro h;first|exact Da h|exact aF h|exact bG h|exact aQ h|exact bC h|exact aI h|exact bT h|exact aY h|exact aO h|exact G_loadV2 h|exact dD h|exact dV h|exact dX h|exact aT h|exact bX h|exact bP h|exact G_call0 h|exact fH h|exact eE h|exact aW h|exact G_skip0 h)
 |exact fun h=>wq h):Y:=hs h
theorem v91 (h:X) (hs:X->Y:=by
 first
 |(show _->aN _ _ _ _ _ _ _;intro h;first|exact cL h|exact gI h|exact CK h|exact Pj h|exact aF h|exact bG h|exact aQ h|exact bC h|exact aI h|exact bT h|exact aY h|exact aO h|exact G_loadV2 h|exact dD h|exact dV h|exact lN h|exact qL h|exact o8 h|exact G_conv h|exact fX h|exact aT h|exact G_bytesP h|exact i9 h|exact fH h|exact eE h|exact mU h)
 |exact fun h=>wq h):Y:=hs h
theorem v92 (h:X) (hs:X->Y:=by
 first
 |(show _->aN _ _ _ _ _ _ _;intro h;first|exact aF h|exact bG h|exact aQ h|exact bC h|exact aI h|exact bT h|exact aY h|exact aO h|exact G_loadV2 h|exact dD h|exact dV h|exact mY h|exact x8 h|exact xY h|exact yY h|exact aT h|exact bX h|exact bP h|exact G_call0 h|exact iK h|exact G_callv0 h|exact fH h|exact eT h|exact eE h|exact kS h|exact iP h)
 |exact fun h=>wq h):Y:=hs h
theorem v93 (h:X) (hs:X->Y:=by
 first
 |(show _->aN _ _ _ _ _ _ _;intro h;first|exact cL h|exact aF h|exact bG h|exact aQ h|exact bC h|exact aI h|exact bT h|exact aY h|exact aO h|exact G_loadV2 h|exact lN h|exact qL h|exact o8 h|exact G_conv h|exact dX h|exact x8 h|exact xY h|exact yY h|exact fX h|exact aT h|exact bX h|exact G_bytesP h|exact i9 h|exact bP h|exact G_call0 h|exact iK h|exact G_callv0 h|exact fH h|exact eT h|exact mU h|exact kS h|exact iP h)
 |exact fun h=>wq h):Y:=hs h
theorem v94 (h:X) (hs:X->Y:=by
 first
 |(show _->aN _ _ _ _ _ _ _;intro h;first|exact cL h|exact CK h|exact aF h|exact bG h|exact aQ h|exact bC h|exact aI h|exact bT h|exact aY h|exact aO h|exact G_loadV2 h|exact d3 h|exact cZ h|exact fX h|exact AB h|exact aT h|exact bP h|exact G_call0 h|exact iK h|exact G_callv0 h|exact fH h|exact eT h|exact jE h|exact aW h|exact G_skip0 h)
 |exact fun h=>wq h):Y:=hs h
theorem Kx (h:X) (hs:X->Y:=by
 first
 |(show _->aN _ _ _ _ _ _ _;intro h;first|exact cL h|exact gI h|exact aF h|exact bG h|exact aQ h|exact bC h|exact aI h|exact bT h|exact aY h|exact aO h|exact G_loadV2 h|exact mY h|exact d3 h|exact cZ h|exact dX h|exact fX h|exact aT h|exact bX h|exact bP h|exact G_call0 h|exact fH h|exact eT h|exact jE h|exact aW h|exact G_skip0 h)
 |exact fun h=>wq h):Y:=hs h
theorem O1 (h:X) (hs:X->Y:=by
 first
 |(show _->aN _ _ _ _ _ _ _;intro h;first|exact Gt h|exact FX h|exact aF h|exact bG h|exact aQ h|exact bC h|exact aI h|exact bT h|exact aY h|exact aO h|exact G_loadV2 h|exact mY h|exact d3 h|exact cZ h|exact dX h|exact aT h|exact bX h|exact bP h|exact G_call0 h|exact iK h|exact G_callv0 h|exact fH h|exact eT h|exact jE h|exact aW h|exact G_skip0 h)
 |exact fun h=>wq h):Y:=hs h
theorem Vv (h:X) (hs:X->Y:=by
 first
 |(show _->aN _ _ _ _ _ _ _;intro h;first|exact cL h|exact aF h|exact bG h|exact aQ h|exact bC h|exact aI h|exact bT h|exact aY h|exact aO h|exact G_loadV2 h|exact dD h|exact dV h|exact mY h|exact d3 h|exact cZ h|exact dX h|exact fX h|exact aT h|exact bX h|exact bP h|exact G_call0 h|exact fH h|exact eT h|exact eE h|exact jE h|exact aW h|exact G_skip0 h)
 |exact fun h=>wq h):Y:=hs h
theorem KA (h:X) (hs:X->Y:=by
 first
 |(show _->aN _ _ _ _ _ _ _;intro h;first|exact cL h|exact gI h|exact aF h|exact bG h|exact aQ h|exact bC h|exact aI h|exact bT h|exact aY h|exact aO h|exact G_loadV2 h|exact dD h|exact dV h|exact d3 h|exact cZ h|exact fX h|exact aT h|exact bX h|exact bP h|exact G_call0 h|exact iK h|exact G_callv0 h|exact fH h|exact eT h|exact eE h|exact jE h|exact aW h|exact G_skip0 h)
 |exact fun h=>wq h):Y:=hs h
theorem v99 (h:X) (hs:X->Y:=by
 first
 |(show _->aN _ _ _ _ _ _ _;intro h;first|exact cL h|exact gI h|exact Da h|exact aF h|exact bG h|exact aQ h|exact bC h|exact aI h|exact bT h|exact aY h|exact aO h|exact G_loadV2 h|exact dD h|exact dV h|exact d3 h|exact cZ h|exact lN h|exact qL h|exact o8 h|exact G_conv h|exact x8 h|exact xY h|exact yY h|exact fX h|exact AB h|exact AX h|exact aT h|exact G_bytesP h|exact i9 h|exact bP h|exact G_call0 h|exact iK h|exact G_callv0 h|exact fH h|exact mU h|exact jE h|exact kS h|exact iP h)
 |exact fun h=>wq h):Y:=hs h
end Go.Sl
