/- A part of the proof: lemmas; each with the conditions that it states. -/
import Derived.SizedLaws
import Derived.Deep.Slices
import Derived.Test.YtifgibijcmppmaaGreatUad
set_option linter.unusedVariables false
set_option linter.unusedSimpArgs false
section
namespace Go.Sl
open Go.ChangeShapes Go.WideShapes Go.ChangeAt Go.RowKit Go.Deep
def yW (W:World):Hp:=fun B=>match W.heap[B]? with
 |some (.cells arr e _)=>some (.cells arr.toList e false)
 |_=>none
theorem XD (W:World):Bw (fun i=>W.heap.size≤i) (yW W) W:=by
 refine⟨fun B b hb=>?_,fun B b hb ho=>?_,fun i hi=>hi⟩
 ·unfold yW at hb
  split at hb
  ·rename_i arr e fz h;cases hb;exact⟨arr,fz,h,rfl,fun h=>by cases h⟩
  ·cases hb
 ·unfold yW at hb
  split at hb
  ·cases hb;cases ho
  ·cases hb
theorem aA.below {P:Program} {f:FuncId} {args:Array Value} {C:List HP} {r:Value} {W:World} (h:aA P f args C fun v _=>v=r) (hC:bX C (yW W)):
  Calls P f args W fun e W'=>e=.returned r∧Below W.heap.size W W':=by
 refine((h _ hC).run (fun i=>W.heap.size≤i) W (XD W)).mono ?_
 rintro e W' ⟨v,H',rfl,⟨C',_,rfl⟩,ht⟩
 exact⟨rfl,ht.chg.os,ht.chg.tape,ht.chg.output,ht.chg.size,fun k hk=>ht.chg.kept k hk (by omega)⟩
theorem L4 {A:HP} {C:List HP} {W:World} (hp:Fj A) (ha:A (yW W)) (hC:bX C (yW W)):bX (A::C) (yW W):=by
 obtain⟨H',h1,h2,h3⟩:=hp _ ha
 refine⟨H',yW W,fun B b c hb hc=>⟨h3 B b hb,?_⟩,h1,Be.refl _,h2,hC⟩
 unfold yW at hc
 split at hc
 ·cases hc;rfl
 ·cases hc
def Good (P:Program) (W:World):Nat→TypeId→List Value→Prop
 |0,_,_=>False
 |n+1,t,cs=>match P.underlying t with
  |some .bool=>∃b,cs= [.bool b]
  |some (.int k)=>∃i,cs= [.int k i]∧(Lit.int k i).wf=true
  |some .string=>∃s:ByteArray,cs= [.string s]∧s.size≤reachBytes
  |some (.slice e)=>cs= [.slice none 0 0]∨∃a len cap,cs= [.slice (some a) len cap]∧len≤cap∧cap * P.bytesOf e≤reachBytes∧
    ∀i,i<len→∃cs',W.cells? 0 (a.add (i * P.cellsOf e)) (P.cellsOf e)=some cs'∧Good P W n e cs'
  |some (.struct fs)=>cs.length=P.cellsOf t∧∀(j:Nat) (f:Field),fs[j]?=some f→Good P W n f.type ((cs.drop f.offset).take (P.cellsOf f.type))
  |_=>True
theorem M4 {H:Type} {P:Program}:∀ {ts:List TypeId} {ds:List (DataW H)} {j:Nat} {t:TypeId} {d:DataW H},ts[j]?=some t→ds[j]?=some d→∀n∈d.weights P t,n∈DataW.weightsEach P ts ds:=DataW.weights_mem_each
theorem F9 {H:Type} {P:Program} {e:TypeId}:∀ {ds:List (DataW H)} {d:DataW H},d∈ds→∀n∈d.weights P e,n∈DataW.weightsAll P e ds
 |d0::ds,d,hd,n,hn=>by
  simp only[DataW.weightsAll,List.mem_append]
  rcases List.mem_cons.1 hd with rfl|hd
  ·exact .inl hn
  ·exact .inr (F9 hd n hn)
 | [],_,hd,_,_=>by cases hd
theorem L8 {H:Type} {enc:TypeId×Value→H} {P:Program} {W:World}:∀(fuel:Nat) (t:TypeId) (cs:List Value) (d:DataW H) (p:List MemPlace),
  DataW.trod enc P W 0 (fun _=>true) true fuel t cs=some (d,p)→(∀n∈d.weights P t,n≤reachBytes)→Good P W fuel t cs
 |0,_,_,_,_,h,_=>by simp[DataW.trod] at h
 |fuel+1,t,cs,d,p,h,hw=>by
  unfold Good
  split
  ·rename_i hu
   obtain⟨b,h1,_⟩:=DataW.trod_bool hu h
   exact⟨b,h1⟩
  ·rename_i k hu
   obtain⟨n,h1,_,h2⟩:=DataW.trod_int hu h
   exact⟨n,h1,h2⟩
  ·rename_i hu
   obtain⟨s,h1,h2,_⟩:=DataW.trod_string hu h
   cases h2
   exact⟨s,h1,by simpa using hw s.data.toList.length (by simp[DataW.weights])⟩
  ·rename_i e hu
   rcases DataW.trod_slice hu h with⟨h1,_⟩|⟨a,len,cap,elems,rest,n,hn,h1,hx,_,hl,_,hel,hi,hsp,_⟩
   ·exact .inl h1
   ·cases hn
    cases hx
    obtain⟨hrl,_⟩:=hsp rfl
    refine .inr ⟨a,len,cap,h1,hl,?_,fun i hil=>?_⟩
    ·have:=hw (((elems.map (·.1)).length+(rest.map (·.1)).length) * P.bytesOf e) (by simp[DataW.weights,hu])
     simp only[List.length_map] at this
     rwa[hel,hrl,Nat.add_sub_cancel' hl] at this
    ·have h2:=hi i hil
     have h3:elems[i]?=some (elems[i]'(by omega)):=List.getElem?_eq_getElem (by omega)
     rw[h3,Option.bind_eq_some_iff] at h2
     obtain⟨cs',k1,k2⟩:=h2
     refine⟨cs',k1,L8 fuel e cs' _ _ k2 fun w hwm=>hw w ?_⟩
     simp only[DataW.weights,hu,List.mem_cons,List.mem_append]
     exact .inr (.inl (F9 (List.mem_map.2 ⟨_,List.getElem_mem (by omega),rfl⟩) w hwm))
  ·rename_i fs hu
   obtain⟨xs,n,hn,hx,hl,hlen,hf⟩:=DataW.trod_struct hu h
   cases hn
   refine⟨hl,fun j f hj=>?_⟩
   have h1:=hf j f hj
   have hj':j<fs.size:=(Array.getElem?_eq_some_iff.1 hj).1
   have h2:xs[j]?=some (xs[j]'(by omega)):=List.getElem?_eq_getElem (by omega)
   rw[h2] at h1
   cases hx
   refine L8 fuel f.type _ (xs[j]'(by omega)).1 (xs[j]'(by omega)).2 h1 fun w hwm=>hw w ?_
   simp only[DataW.weights,hu]
   refine M4 (j:=j) (t:=f.type) (d:=(xs[j]'(by omega)).1) ?_ ?_ w hwm
   ·simp[hj]
   ·simp[h2]
  ·trivial
theorem Ov {H:Type} {enc:TypeId×Value→H} {P:Program} {W:World}:∀ {ts:List TypeId} {vs:List Value} {ds:List (DataW H)} {ps:List MemPlace},
  DataW.TrodAll enc P W 0 (fun _=>true) true ts vs ds ps→(∀n∈DataW.weightsEach P ts ds,n≤reachBytes)→∀(j:Nat) (t:TypeId),ts[j]?=some t→∃v n,vs[j]?=some v∧Good P W n t v.cells.toList
 |t::ts,v::vs,d::ds,_,⟨p,q,⟨fuel,h1⟩,h2,_⟩,hw,0,t',ht=>by
  cases ht
  exact⟨v,fuel,rfl,L8 fuel t _ d p h1 fun n hn=>hw n (by simp only[DataW.weightsEach,List.mem_append];exact .inl hn)⟩
 |t::ts,v::vs,d::ds,_,⟨p,q,h1,h2,_⟩,hw,j+1,t',ht=>by
  obtain⟨v',n,k1,k2⟩:=Ov h2 (fun n hn=>hw n (by simp only[DataW.weightsEach,List.mem_append];exact .inr hn)) j t' (by simpa using ht)
  exact⟨v',n,by simpa using k1,k2⟩
 | [],_,_,_,_,_,_,_,ht=>by simp at ht
theorem UE {α:Type} {E:tJ α}:∀(xs:List α) (off:Nat) (arr:List Value),(∀i x,xs[i]?=some x→∀r,r<E.sz→arr[off+i * E.sz+r]?=(E.enc x)[r]?)→(arr.drop off).take (xs.length * E.sz)=xs.flatMap E.enc
 | [],_,_,_=>by simp
 |x::xs,off,arr,h=>by
  have h1:(arr.drop off).take E.sz=E.enc x:=by
   apply List.ext_getElem?
   intro r
   by_cases hr:r<E.sz
   ·rw[List.getElem?_take_of_lt hr,List.getElem?_drop]
    have:=h 0 x rfl r hr
    simpa using this
   ·rw[List.getElem?_eq_none (by rw[List.length_take];omega),List.getElem?_eq_none (by rw[E.len];omega)]
  have h2:=UE xs (off+E.sz) arr fun i y hy r hr=>by
   have:=h (i+1) y (by simpa using hy) r hr
   rw[show off+E.sz+i * E.sz+r=off+(i+1) * E.sz+r by rw[Nat.add_mul];omega]
   exact this
  rw[List.length_cons,Nat.add_mul,Nat.one_mul,Nat.add_comm (xs.length * E.sz),List.take_add,List.drop_drop,h1,h2,List.flatMap_cons]
theorem Ags {α:Type} {E:tJ α} {W:World} {a:Addr} {len:Nat} {φ:α→Prop} (hsz:0<E.sz) (h:∀i,i<len→∃x,W.cells? 0 (a.add (i * E.sz)) E.sz=some (E.enc x)∧φ x):
  ∃xs:List α,xs.length=len∧m7 (some a) E xs (yW W)∧∀x∈xs,φ x:=by
 have key:∀n,n≤len→∃xs:List α,xs.length=n∧(∀i x,xs[i]?=some x→W.cells? 0 (a.add (i * E.sz)) E.sz=some (E.enc x))∧∀x∈xs,φ x:=by
  intro n
  induction n with
  |zero=>exact fun _=>⟨[],rfl,fun i x hx=>by simp at hx,fun x hx=>by cases hx⟩
  |succ n ih=>
   intro hn
   obtain⟨xs,h1,h2,h3⟩:=ih (by omega)
   obtain⟨x,h4,h5⟩:=h n (by omega)
   refine⟨xs++ [x],by simp[h1],fun i y hy=>?_,fun y hy=>?_⟩
   ·by_cases hi:i<n
    ·rw[List.getElem?_append_left (by omega)] at hy;exact h2 i y hy
    ·rw[List.getElem?_append_right (by omega)] at hy
     have:i=n:=by
      rcases Nat.lt_or_ge (i - xs.length) 1 with h|h
      ·omega
      ·rw[List.getElem?_eq_none (by simpa using h)] at hy;cases hy
     subst this
     rw[h1,Nat.sub_self] at hy
     cases hy
     exact h4
   ·rcases List.mem_append.1 hy with hy|hy
    ·exact h3 y hy
    ·cases List.mem_singleton.1 hy;exact h5
 obtain⟨xs,h1,h2,h3⟩:=key len (Nat.le_refl _)
 refine⟨xs,h1,?_,h3⟩
 cases xs with
 |nil=>exact .inl rfl
 |cons x xs=>
  have h0:=h2 0 x rfl
  obtain⟨_,hl,hc⟩:=World.cells?_some h0
  have hc0:=hc 0 hsz
  have ha:a.add (0 * E.sz)=a:=by rw[Nat.zero_mul];rfl
  rw[ha] at hc0
  have ha0:a.add 0=a:=rfl
  rw[ha0] at hc0
  have hlen:=E.len x
  have hx0:(E.enc x)[0]?=some ((E.enc x)[0]'(by omega)):=List.getElem?_eq_getElem (by omega)
  rw[hx0] at hc0
  obtain⟨B,off,sp⟩:=a
  unfold World.cell? at hc0
  simp only at hc0
  split at hc0
  ·rename_i arr e fz hB
   split at hc0
   ·cases hc0
   ·rename_i hsp
    have hsp:sp=none:=by cases sp <;> simp_all
    subst hsp
    have hlt:off<arr.size:=(Array.getElem?_eq_some_iff.1 hc0).1
    have hfl:((arr.toList).drop off).take ((x::xs).length * E.sz)=(x::xs).flatMap E.enc:=UE (x::xs) off arr.toList fun i y hy r hr=>by
     obtain⟨_,_,hcc⟩:=World.cells?_some (h2 i y hy)
     have:=hcc r hr
     rw[nG,nG] at this
     unfold World.cell? at this
     simp only[hB] at this
     rw[← this]
     simp
    refine .inr ⟨B,arr.toList.take off,(arr.toList.drop off).drop ((x::xs).length * E.sz),e,false,?_,?_⟩
    ·rw[List.length_take,Nat.min_eq_left (by simp;omega)]
    ·unfold yW
     rw[hB]
     simp only
     rw[← hfl,List.append_assoc,List.take_append_drop,List.take_append_drop]
  ·cases hc0
end Go.Sl
namespace Go.Sl
open Go.ChangeShapes Go.WideShapes Go.ChangeAt Go.RowKit Go.Deep
section
variable {H:Type} {enc:TypeId×Value→H} {P:Program} {W:World} {base:Nat} {ds:List (DataW H)} {ps:List MemPlace}
theorem FN:∀ {ts:List TypeId} {vs:List Value} {ds:List (DataW H)} {ps:List MemPlace},DataW.TrodAll enc P W 0 (fun _=>true) true ts vs ds ps→vs.length=ts.length∧ds.length=ts.length
 | [],[],[],_,_=>⟨rfl,rfl⟩
 |_::_,_::_,_::_,_,⟨_,_,_,h,_⟩=>by obtain⟨h1,h2⟩:=FN h;simp[h1,h2]
 | [],_::_,_,_,h=>h.elim
 | [],[],_::_,_,h=>h.elim
 |_::_,[],_,_,h=>h.elim
 |_::_,_::_,[],_,h=>h.elim
variable {args:Array Value} {t0 t1 t2 t3:TypeId}
theorem Alo (hA:DataW.TrodAll enc P W 0 (fun _=>true) true [t0,t1,t2] args.toList ds ps):∃v0 v1 v2 d0 d1 d2,args=#[v0,v1,v2]∧ds= [d0,d1,d2]:=by
 obtain⟨l⟩:=args
 obtain⟨h1,h2⟩:=FN hA
 match l,ds,h1,h2 with
 | [v0,v1,v2],[d0,d1,d2],_,_=>exact⟨v0,v1,v2,d0,d1,d2,rfl,rfl⟩
variable {r:Reach} {b0 n:Nat} {t:TypeId} {v:Value}
theorem Xj {e:TypeId} (ht:P.underlying t=some (.slice e)) (hv:Value.okWide P W r b0 t v) (hg:Good P W n t v.cells.toList):v=.slice none 0 0∨∃a len cap m,v=.slice (some a) len cap∧len≤cap∧cap * P.bytesOf e≤reachBytes∧
    ∀i,i<len→∃cs',W.cells? 0 (a.add (i * P.cellsOf e)) (P.cellsOf e)=some cs'∧Good P W m e cs':=by
 obtain⟨A,l,c,rfl⟩:=okWide_slice ht hv
 cases n with
 |zero=>exact hg.elim
 |succ n=>
  simp only[Good,ht] at hg
  rcases hg with hg|⟨a,len,cap,h1,h2,h3,h4⟩
  ·simp[Value.cells] at hg
   obtain⟨rfl,rfl,rfl⟩:=hg
   exact .inl rfl
  ·simp[Value.cells] at h1
   obtain⟨rfl,rfl,rfl⟩:=h1
   exact .inr ⟨a,l,c,n,rfl,h2,h3,h4⟩
theorem HO {fs:Array Field} (ht:P.underlying t=some (.struct fs)) (hv:Value.okWide P W r b0 t v) (hg:Good P W n t v.cells.toList):∃cs:List Value,v=.agg cs.toArray∧Good P W n t cs:=by
 obtain⟨cs,rfl,_⟩:=okWide_struct ht hv
 exact⟨cs.toList,rfl,hg⟩
end
section
variable {P:Program} {W:World} {n:Nat} {t:TypeId} {cs:List Value}
theorem fT {k:IntKind} (ht:P.underlying t=some (.int k)) (hg:Good P W n t cs):∃i,cs= [.int k i]∧(Lit.int k i).wf=true:=by
 cases n with
 |zero=>exact hg.elim
 |succ n=>simpa only[Good,ht] using hg
theorem XP (ht:P.underlying t=some .bool) (hg:Good P W n t cs):∃b,cs= [.bool b]:=by
 cases n with
 |zero=>exact hg.elim
 |succ n=>simpa only[Good,ht] using hg
theorem NY (ht:P.underlying t=some .string) (hg:Good P W n t cs):∃s:ByteArray,cs= [.string s]∧s.size≤reachBytes:=by
 cases n with
 |zero=>exact hg.elim
 |succ n=>simpa only[Good,ht] using hg
theorem rF {fs:Array Field} (ht:P.underlying t=some (.struct fs)) (hg:Good P W n t cs):∃m,cs.length=P.cellsOf t∧∀(j:Nat) (f:Field),fs[j]?=some f→Good P W m f.type ((cs.drop f.offset).take (P.cellsOf f.type)):=by
 cases n with
 |zero=>exact hg.elim
 |succ n=>
  simp only[Good,ht] at hg
  exact⟨n,hg⟩
end
end Go.Sl
namespace Go.Sl
section
variable {P:Program} {C:List HP} {a:Fr} {d:Option Tmp} {ty:TypeId} {pos:String} {after:Array Edge} {g:Option (Nat×Bool)} {t yt:TypeId} {x y z:Operand}
theorem Afr {k yk:IntKind} {m n:Int} (hx:bJ a x=.int k m) (hy:bJ a y=.int yk n) (h0:0≤n) (h1:n≤k.bits):b6 P ⟨d,.binOp .shr t x y yt,ty,pos,after,g⟩ a=some (.int k (m / 2 ^ n.toNat)):=by
 have:=Acw (P:=P) (d:=d) (t:=t) (yt:=yt) (ty:=ty) (pos:=pos) (after:=after) (g:=g) hx hy (by omega)
 rw[this,Nat.min_eq_left (by omega)]
 congr 2
 exact Int.fdiv_eq_ediv_of_nonneg m (Int.le_of_lt (Int.pow_pos (by decide)))
end
theorem Akr (m:Int) (h0:-9223372036854775808≤m) (h1:m≤9223372036854775807):IntKind.i64.wrap ((BitVec.ofInt 64 m &&& ~~~(BitVec.ofInt 64 0)).toNat)=m:=by
 have e:(BitVec.ofInt 64 m &&& ~~~(BitVec.ofInt 64 0))=BitVec.ofInt 64 m:=by
  have: ~~~(BitVec.ofInt 64 0)=BitVec.allOnes 64:=by decide
  rw[this,BitVec.and_allOnes]
 rw[e]
 simp only[BitVec.toNat_ofInt,IntKind.wrap,IntKind.bits,IntKind.signed]
 simp
 omega
theorem Ai8 (m:Int) (h0:-9223372036854775808≤m) (h1:m≤9223372036854775807):IntKind.i64.wrap ((BitVec.ofInt 64 m &&& ~~~(BitVec.ofInt 64 1)).toNat)=m - m % 2:=by
 have e:(BitVec.ofInt 64 m &&& ~~~(BitVec.ofInt 64 1)).toNat=((BitVec.ofInt 64 m).toNat / 2) * 2:=by
  have:(BitVec.ofInt 64 m &&& ~~~(BitVec.ofInt 64 1))=(BitVec.ofInt 64 m >>> 1) <<< 1:=by
   apply BitVec.eq_of_getLsbD_eq
   intro i hi
   have h1:BitVec.ofInt 64 1=1#64:=by decide
   rw[h1]
   have k:∀j:Nat,j<64→(~~~(1#64)).getLsbD j=decide (1≤j):=by decide
   rw[BitVec.getLsbD_and,k i hi,BitVec.getLsbD_shiftLeft,BitVec.getLsbD_ushiftRight]
   by_cases h:1≤i
   ·have e:1+(i - 1)=i:=by omega
    simp[h,hi,e]
    intro;omega
   ·have e:i=0:=by omega
    subst e
    simp
  rw[this]
  have:=(BitVec.ofInt 64 m).isLt
  simp[BitVec.toNat_shiftLeft,BitVec.toNat_ushiftRight,Nat.shiftLeft_eq,Nat.shiftRight_eq_div_pow]
  omega
 rw[e]
 simp only[BitVec.toNat_ofInt,IntKind.wrap,IntKind.bits,IntKind.signed]
 simp
 omega
section
variable {P:Program} {ops:Array Oper} {Q:Fr→List HP→Prop} {a:Fr} {C:List HP} {c:Nat} {gd:Bool} {es:ET} {hist:List (List HP)} {d':Tmp} {v:Value}
variable {ty:TypeId} {pos:String} {after:Array Edge} {g:Option (Nat×Bool)} {t yt:TypeId} {x y:Operand}
theorem SZ {d:Option Tmp} {m:Int} (hx:bJ a x=.int .i64 m) (hy:bJ a y=.int .i64 0) (h0:-9223372036854775808≤m) (h1:m≤9223372036854775807):b6 P ⟨d,.binOp .andNot t x y yt,ty,pos,after,g⟩ a=some (.int .i64 m):=
 CY hx hy rfl (by show some (Value.int .i64 _)=_;rw[show IntKind.i64.bits=64 from rfl,Akr m h0 h1])
theorem Tf {d:Option Tmp} {m:Int} (hx:bJ a x=.int .i64 m) (hy:bJ a y=.int .i64 1) (h0:-9223372036854775808≤m) (h1:m≤9223372036854775807):b6 P ⟨d,.binOp .andNot t x y yt,ty,pos,after,g⟩ a=some (.int .i64 (m - m % 2)):=
 CY hx hy rfl (by show some (Value.int .i64 _)=_;rw[show IntKind.i64.bits=64 from rfl,Ai8 m h0 h1])
theorem Fe {m:Int} (h:cX gd (.int .i64 m) fun v=>aN P ops Q es hist (kJ a d' v) C) (hx:bJ a x=.int .i64 m:=by exact rfl) (hy:bJ a y=.int .i64 0:=by exact rfl) (h0:-9223372036854775808≤m:=by first|omega|assumption) (h1:m≤9223372036854775807:=by first|omega|assumption) (hw:bE ops ⟨some d',.binOp .andNot t x y yt,ty,pos,after,g⟩ a=true:=by exact rfl):aN P ops Q (ET.cons (c,gd,⟨some d',.binOp .andNot t x y yt,ty,pos,after,g⟩) es) hist a C:=
 f8 rfl hw (SZ hx hy h0 h1) h
theorem Fq {m:Int} (h:cX gd (.int .i64 (m - m % 2)) fun v=>aN P ops Q es hist (kJ a d' v) C) (hx:bJ a x=.int .i64 m:=by exact rfl) (hy:bJ a y=.int .i64 1:=by exact rfl) (h0:-9223372036854775808≤m:=by first|omega|assumption) (h1:m≤9223372036854775807:=by first|omega|assumption) (hw:bE ops ⟨some d',.binOp .andNot t x y yt,ty,pos,after,g⟩ a=true:=by exact rfl):aN P ops Q (ET.cons (c,gd,⟨some d',.binOp .andNot t x y yt,ty,pos,after,g⟩) es) hist a C:=
 f8 rfl hw (Tf hx hy h0 h1) h
end
theorem Akt {b:Bool} (h:b=false):(!b)=true:=by rw[h];rfl
theorem Akx {b:Bool} (h:b=true):(!b)=false:=by rw[h];rfl
theorem yH {α:Type} [BEq α] [LawfulBEq α] (x:α):(!(x == x))=false:=by rw[beq_self_eq_true];rfl
theorem Uq {p:Fr→Prop} {a:Fr} (l:List (Nat×Value)) (h:cJ a l) (k:p (eP a l)):p a:=by rw[Vj h] at k;exact k
def Amm:List Value→Option (List Int)
 | []=>some []
 |.int .u8 z::cs=>match Amm cs with
  |some zs=>some (z::zs)
  |none=>none
 |_=>none
def Aml:List Int→Prop
 | []=>True
 |z::l=>(0≤z∧z<256)∧Aml l
section
variable {P:Program} {ops:Array Oper} {Q:Fr→List HP→Prop} {a:Fr} {C:List HP} {c:Nat} {gd:Bool} {es:ET} {hist:List (List HP)} {d':Tmp} {d:Option Tmp} {v:Value}
variable {ty:TypeId} {pos:String} {after:Array Edge} {g:Option (Nat×Bool)} {t yt:TypeId} {x y z:Operand} {op:Op}
theorem Pi {k yk:IntKind} {m n:Int} (h:cX gd (.int k (m / 2 ^ n.toNat)) fun v=>aN P ops Q es hist (kJ a d' v) C) (hx:bJ a x=.int k m:=by exact rfl) (hy:bJ a y=.int yk n:=by exact rfl)
  (h0:0≤n:=by first|omega|assumption) (h1:n≤k.bits:=by first|assumption|(show _≤((64:Nat):Int);omega)|(show _≤((8:Nat):Int);omega)) (hw:bE ops ⟨some d',.binOp .shr t x y yt,ty,pos,after,g⟩ a=true:=by exact rfl):aN P ops Q (ET.cons (c,gd,⟨some d',.binOp .shr t x y yt,ty,pos,after,g⟩) es) hist a C:=
 f8 rfl hw (Afr hx hy h0 h1) h
theorem Oe {n f:Nat} (h:(match xJ P t f with|some m=>zC m|none=>none)=some n):xJ P t f=some n:=by
 split at h
 ·rename_i m hm;rw[hm,nF h]
 ·cases h
theorem bC {B off n f:Nat} (h:cX gd (.pointer (some ⟨B,off+n,none⟩)) fun v=>aN P ops Q es hist (kJ a d' v) C) (hx:bJ a x=.pointer (some ⟨B,off,none⟩):=by exact rfl)
  (hf:(match xJ P t f with|some m=>zC m|none=>none)=some n:=by exact rfl) (hw:bE ops ⟨some d',.fieldAddr t x f,ty,pos,after,g⟩ a=true:=by exact rfl):aN P ops Q (ET.cons (c,gd,⟨some d',.fieldAddr t x f,ty,pos,after,g⟩) es) hist a C:=
 f8 rfl hw (Dt hx (Oe hf)) h
theorem kT {t' e:TypeId} {s:ByteArray} (h:∀r N,cX gd (.slice (some ⟨r,0,none⟩) s.size N) fun v=>aN P ops Q es (C::hist) (kJ a d' v) (bQ (some ⟨r,0,none⟩) N e dL s.data.toList::C))
  (hx:bJ a x=.string s:=by exact rfl) (hs:nO P t=true:=by exact rfl) (ht:HW P t'=some e:=by exact rfl)
  (hk:kd P (.convert t t' x)=.other:=by exact rfl) (hw:bE ops ⟨some d',.convert t t' x,ty,pos,after,g⟩ a=true:=by exact rfl):aN P ops Q (ET.cons (c,gd,⟨some d',.convert t t' x,ty,pos,after,g⟩) es) hist a C:=
 xN hk hw fun H hH=>NQ hs ht hx fun r N hr hN=>⟨_,iF (B:=r) (pre:= []) (post:=List.replicate (N - s.size) (.int .u8 0)) rfl (by rw[nQ,List.nil_append];exact rS hr hH) (by simpa using hN) (by simp[dL]),h r N⟩
end
end Go.Sl
namespace Go.Sl
theorem Acg {A B:HP} (pa:Fj A) (pb:Fj B) (ma:AN A) (mb:AN B):Fj (Ama A B):=fun H ⟨ha,hb⟩=>by
 obtain⟨X,x1,x2,x3⟩:=pa H ha
 obtain⟨Y,y1,y2,y3⟩:=pb H hb
 have hxy:tE X Y:=fun r b c hb hc=>⟨x3 r b hb,y3 r c hc⟩
 refine⟨sX X Y,xA x1 y1,⟨ma _ _ x2 (p7 _ _),mb _ _ y2 (oP hxy x1 y1)⟩,fun r b hb=>?_⟩
 unfold sX at hb
 split at hb
 ·rename_i a ha;cases hb;exact x3 _ _ ha
 ·exact y3 _ _ hb
section
variable {α:Type} {P:α→HP}
def kR (P:α→HP) (l:List α):HP:=fun H=>∀x∈l,P x H
theorem Po (m:∀x,AN (P x)) (l:List α):AN (kR P l):=fun H H' h hl x hx=>m x H H' (h x hx) hl
theorem HI (p:∀x,Fj (P x)) (m:∀x,AN (P x)):∀l:List α,Fj (kR P l)
 | []=>fun H _=>⟨fun _=>none,(fun _ _ h=>by cases h),(fun _ h=>by cases h),(fun _ _ h=>by cases h)⟩
 |x::l=>fun H h=>by
  obtain⟨X,x1,x2,x3⟩:=Acg (p x) (HI p m l) (m x) (Po m l) H ⟨h x (by simp),fun y hy=>h y (by simp[hy])⟩
  exact⟨X,x1,fun y hy=>by
   rcases List.mem_cons.1 hy with rfl|hy
   ·exact x2.1
   ·exact x2.2 y hy,x3⟩
theorem Ps {C:List HP} {H:Hp} (hs:bX C H):bX (kR P []::C) H:=
 ⟨fun _=>none,H,(fun _ _ _ h=>by cases h),(fun _ _ h=>by cases h),Be.refl H,(fun _ h=>by cases h),hs⟩
theorem aG.allnil {C C':List HP} (h:aG C C'):aG C (kR P []::C'):=fun H hs=>Ps (h H hs)
theorem aG.allsnoc {C:List HP} {l:List α} {x:α} (p:∀x,Fj (P x)) (m:∀x,AN (P x)):aG (P x::kR P l::C) (kR P (l++ [x])::C):=fun H hs=>by
 have h:=Ze (p x) (HI p m l) (m x) (Po m l) hs
 refine aG.imp (fun H ⟨h1,h2⟩ y hy=>?_) (aG.refl C) H h
 rcases List.mem_append.1 hy with hy|hy
 ·exact h2 y hy
 ·cases List.mem_singleton.1 hy;exact h1
theorem aG.allget {C:List HP} {l:List α} {x:α} (p:∀x,Fj (P x)) (m:∀x,AN (P x)) (hx:x∈l):aG (kR P l::C) (P x::kR P l::C):=fun H hs=>
 aG.imp (fun H h=>h x hx) (aG.refl _) H (hs.dup (HI p m l))
theorem aG.allsub {C:List HP} {l l':List α} (h:∀x∈l',x∈l):aG (kR P l::C) (kR P l'::C):=aG.imp (fun _ k x hx=>k x (h x hx)) (aG.refl _)
end
end Go.Sl
namespace Go.Sl
theorem Ak3 {P:Program} {Q:Exit→Fr→List HP→Prop} {a:Fr} {C:List HP} {x:Code} {id:Nat} (I:Fr→List HP→Prop)
  (h:fN P x (aM id (bP (dU I) Q)) a C) (k:∀a C,I a C→Amj (Q .normal a C)):fN P (.block id x) Q a C:=fun H hs=>
 wI _ (fun e a H hq=>by
  obtain⟨C',h1,h2⟩:=hq
  cases e <;> first
   |exact⟨C',h1,h2⟩
   |(obtain⟨C'',hE,hI⟩:=h2;exact⟨C'',hE H h1,(k _ _ hI).h⟩)) a H (Gr (id:=id) (Q:=bP (dU I) Q) h H hs)
end Go.Sl
end
section
namespace Go.Sl
theorem Vg:∀(vs mid post:List Value),vs.length≤mid.length→WC vs (mid++post)=WC vs mid++post
 | [],_,_,_=>by simp[WC]
 |v::vs,[],_,h=>by simp at h
 |v::vs,m::mid,post,h=>by
  have:=Vg vs mid post (by simpa using h)
  simp[WC,this]
theorem Ek:∀(pre l:List Value) (n:Nat) (vs:List Value),uK (pre++l) (pre.length+n) vs=pre++uK l n vs
 | [],l,n,vs=>by simp
 |p::pre,l,n,vs=>by
  have:=Ek pre l n vs
  rw[List.length_cons,show pre.length+1+n=(pre.length+n)+1 by omega,List.cons_append]
  show p::uK (pre++l) (pre.length+n) vs=_
  rw[this];rfl
theorem IX:∀(mid post:List Value) (k:Nat) (vs:List Value),k+vs.length≤mid.length→uK (mid++post) k vs=uK mid k vs++post
 |mid,post,0,vs,h=>by
  have z:∀l,uK l 0 vs=WC vs l:=fun l=>by cases l <;> rfl
  rw[z,z]
  exact Vg vs mid post (by omega)
 | [],post,k+1,vs,h=>by simp at h
 |m::mid,post,k+1,vs,h=>by
  show m::uK (mid++post) k vs=m::(uK mid k vs++post)
  rw[IX mid post k vs (by simp at h;omega)]
section
variable {α:Type} {E:tJ α} {xs:List α}
theorem Aae {j k:Nat} {y y':α} {vs pre post:List Value} (hj:xs[j]?=some y) (hk:k+vs.length≤E.sz) (he:uK (E.enc y) k vs=E.enc y'):
  uK (pre++xs.flatMap E.enc++post) (pre.length+(j * E.sz+k)) vs=pre++(xs.set j y').flatMap E.enc++post:=by
 have hlt:j<xs.length:=by
  rcases Nat.lt_or_ge j xs.length with h|h
  ·exact h
  ·rw[List.getElem?_eq_none h] at hj;cases hj
 have e1:xs=xs.take j++y::xs.drop (j+1):=by
  have h2:=List.drop_eq_getElem_cons hlt
  rw[List.getElem?_eq_getElem hlt] at hj
  cases hj
  rw[← h2,List.take_append_drop]
 have e2:xs.set j y'=xs.take j++y'::xs.drop (j+1):=List.set_eq_take_append_cons_drop▸(by rw[if_pos hlt])
 have hl:((xs.take j).flatMap E.enc).length=j * E.sz:=by rw[E.flat_len,List.length_take,Nat.min_eq_left (by omega)]
 have hE:=E.len y
 rw[e2,List.append_assoc,Ek]
 have e3:xs.flatMap E.enc++post=(xs.take j).flatMap E.enc++(E.enc y++((xs.drop (j+1)).flatMap E.enc++post)):=by
  conv=>lhs;rw[e1]
  simp only[List.flatMap_append,List.flatMap_cons,List.append_assoc]
 rw[e3,← hl,Ek,IX _ _ _ _ (by omega),he]
 simp only[List.flatMap_append,List.flatMap_cons,List.append_assoc]
variable {P:Program} {ops:Array Oper} {Q:Fr→List HP→Prop} {a:Fr} {C R:List HP} {c:Nat} {gd:Bool} {es:ET} {hist:List (List HP)}
variable {ty:TypeId} {pos:String} {after:Array Edge} {g:Option (Nat×Bool)} {t:TypeId} {x z:Operand}
theorem IM {B off j k c0 n sz:Nat} {e:TypeId} {vs:List Value} {u:Value} {y y':α} (h:aN P ops Q es (C::hist) a (bQ (some ⟨B,off,none⟩) c0 e E (xs.set j y')::R)) (hx:bJ a x=.pointer (some ⟨B,off+j * sz+k,none⟩):=by exact rfl)
  (hp:aV (bQ (some ⟨B,off,none⟩) c0 e E xs) C R:=by((repeat (first|exact aV.here|apply aV.there)) <;> exact aV.here)) (hsz:E.sz=sz:=by exact rfl) (hy:iC (bJ a z)=some u:=by exact rfl) (hvs:nB u.cells.toList=some vs:=by exact rfl) (ht:oZ P t=some n:=by exact rfl)
  (hn:(vs.length == n)=true:=by exact rfl) (mR:(vs.all Value.oneCell')=true:=by exact rfl) (hle:Nat.ble (k+n) sz=true:=by exact rfl) (hj:xs[j]?=some y:=by first|assumption|exact rfl) (hs:E.dec (uK (E.enc y) k vs)=some y':=by exact rfl)
  (hw:bE ops ⟨none,.store t x z,ty,pos,after,g⟩ a=true:=by exact rfl):aN P ops Q (ET.cons (c,gd,⟨none,.store t x z,ty,pos,after,g⟩) es) hist a C:=
 Ach (hw:=hw) fun H hH=>by
  have hn':vs.length=n:=by simpa using hn
  have hle':k+n≤sz:=by simpa using hle
  rcases kU (hp.sats hH) with⟨h1,_⟩|⟨B',pre,post,h1,h2,h3,h4⟩
  ·cases h1
  ·cases h1
   subst hsz
   have hlt:j<xs.length:=by
    rcases Nat.lt_or_ge j xs.length with h|h
    ·exact h
    ·rw[List.getElem?_eq_none h] at hj;cases hj
   have hfl:=E.flat_len xs
   have hmul:(j+1) * E.sz≤xs.length * E.sz:=Nat.mul_le_mul_right _ hlt
   rw[Nat.add_mul,Nat.one_mul] at hmul
   refine PG hx (gA hy) (kN hvs) ht hn' mR (nH h2).1 (by simp only[List.length_append,hfl];omega) ?_
   rw[← GK,show pre.length+j * E.sz+k=pre.length+(j * E.sz+k) by omega,Aae hj (by omega) (E.ok _ _ hs).symm]
   exact⟨_,iF rfl (rC h2) (by rw[List.length_set];exact h3) (by rw[List.length_set];exact h4),h⟩
theorem tL {B off j c0 n sz:Nat} {e:TypeId} {vs:List Value} {u:Value} {y y':α} (h:aN P ops Q es (C::hist) a (bQ (some ⟨B,off,none⟩) c0 e E (xs.set j y')::R)) (hx:bJ a x=.pointer (some ⟨B,off+j * sz,none⟩):=by exact rfl)
  (hp:aV (bQ (some ⟨B,off,none⟩) c0 e E xs) C R:=by((repeat (first|exact aV.here|apply aV.there)) <;> exact aV.here)) (hsz:E.sz=sz:=by exact rfl) (hy:iC (bJ a z)=some u:=by exact rfl) (hvs:nB u.cells.toList=some vs:=by exact rfl) (ht:oZ P t=some n:=by exact rfl)
  (hn:(vs.length == n)=true:=by exact rfl) (mR:(vs.all Value.oneCell')=true:=by exact rfl) (hle:Nat.ble (0+n) sz=true:=by exact rfl) (hj:xs[j]?=some y:=by first|assumption|exact rfl) (hs:E.dec (uK (E.enc y) 0 vs)=some y':=by exact rfl)
  (hw:bE ops ⟨none,.store t x z,ty,pos,after,g⟩ a=true:=by exact rfl):aN P ops Q (ET.cons (c,gd,⟨none,.store t x z,ty,pos,after,g⟩) es) hist a C:=
 IM (k:=0) h (by rw[hx,Nat.add_zero]) hp hsz hy hvs ht hn mR hle hj hs hw
end
end Go.Sl
namespace Go.Sl
theorem aG.unsep {A B:HP} {C:List HP}:aG (Go.Sl.sep A B::C) (A::B::C):=fun _ hs=>bX.star (l:= [A,B]) hs
def Ak1 (n:Nat):Option Nat:=if n<95 then zC n else if n<190 then(zC (n - 95)).map (·+95) else(zC (n - 190)).map (·+190)
theorem Aet {n m:Nat} (h:Ak1 n=some m):n=m:=by
 unfold Ak1 at h
 split at h
 ·exact nF h
 ·split at h
  ·cases h1:zC (n - 95) with
   |none=>rw[h1] at h;cases h
   |some k=>rw[h1] at h;cases h;have:=nF h1;show n=k+_;omega
  ·cases h1:zC (n - 190) with
   |none=>rw[h1] at h;cases h
   |some k=>rw[h1] at h;cases h;have:=nF h1;show n=k+_;omega
def YV (P:Program) (st xt:TypeId):Option (TypeId×Nat×Nat):=match PC P st xt with
 |some (e,sz,b)=>match zC sz with
  |some sz=>match Ak1 b with
   |some b=>some (e,sz,b)
   |none=>none
  |none=>none
 |none=>none
theorem SC {P:Program} {st xt e:TypeId} {sz b:Nat} (h:YV P st xt=some (e,sz,b)):∃inf z,P.underlying st=some (.slice e)∧BA P xt=true∧P.info? e=some inf∧inf.zero=some z∧z.cells.size=inf.size∧inf.bytes≠0∧inf.size=sz∧inf.bytes=b:=by
 unfold YV at h
 split at h
 ·rename_i e' sz' b' h0
  split at h
  ·rename_i sz2 h1
   split at h
   ·rename_i b2 h2
    cases h
    unfold PC at h0
    split at h0
    ·rename_i e2 hst
     split at h0
     ·rename_i inf hi
      split at h0
      ·rename_i z hz
       split at h0
       ·rename_i hc
        cases h0
        exact⟨inf,z,hst,hc.2.2,hi,hz,hc.1,hc.2.1,nF h1,Aet h2⟩
       ·cases h0
      ·cases h0
     ·cases h0
    ·cases h0
   ·cases h
  ·cases h
 ·cases h
section
variable {α:Type} {E:tJ α} {xs:List α}
variable {P:Program} {ops:Array Oper} {Q:Fr→List HP→Prop} {a:Fr} {C R:List HP} {c d':Nat} {d:Option Tmp} {gd:Bool} {es:ET} {hist:List (List HP)}
variable {ty:TypeId} {pos:String} {after:Array Edge} {g:Option (Nat×Bool)} {x y:Operand}
theorem G0 {st xt e:TypeId} {sz bytes cp c0 n:Nat} {A:Option Addr} {ys:List α} {u:Value} {R:List HP} {k:Value→List HP→Prop} (ht:YV P st xt=some (e,sz,bytes)) (hsz:E.sz=sz) (hx:bJ a x=.slice A n cp) (hn:xs.length=n) (hy:bJ a y=u) (hsrc:Z8 P C u E ys)
  (hp:aV (bQ A c0 e E xs) C R) (hcc:cp=c0∨(n≤cp∧cp≤c0)) (hbig:(2 * (n+ys.length)+512) * bytes≤281474976710656)
  (hk:∀A' c',k (.slice A' (xs++ys).length c') (bQ A' c' e E (xs++ys)::R)):Ap P ⟨d,.call { callee:=.builtin .append,args:=#[x,y],argTypes:=#[st,xt] },ty,pos,after,g⟩ a C k:=fun H hs=>by
 obtain⟨inf,zz,h1,h2,h3,h4,h5,h6,h7,rfl⟩:=SC ht
 subst hsz
 have hrs:=hp.sats hs
 have hr:=kU hrs
 have hcl:n≤cp∧cp≤c0:=by
  rcases hcc with rfl|h
  ·rcases hr with⟨g1,g2,g3,g4⟩|⟨B,pre,post,g1,g2,g3,g4⟩
   ·subst g2 g3;simp at hn;omega
   ·omega
  ·exact h
 obtain⟨hcp,hc0⟩:=hcl
 have hmn:(xs++ys).length=n+ys.length:=by rw[List.length_append,hn]
 refine fK ?_
 simp only[execOp,resolve,List.map_toArray,List.map_cons,List.map_nil,hx,hy]
 rw[aJ,aP (show(pure _:Sem Deferred).pr P=some _ from rfl)]
 simp only[invoke,builtin,aJ]
 obtain⟨hlen,hcells⟩:=hsrc
 rw[hmn] at hk
 refine Ik (xs:=xs.flatMap E.enc) (news:=ys.flatMap E.enc) h1 h2 h3 h4 h5 hlen (by rw[h7];exact hcells H hs) (by rw[E.flat_len,h7]) (E.flat_one ys) (by rw[E.flat_len,hn,h7]) ?_ hbig h6 ?_ ?_ ?_
 ·rcases hr with⟨g1,g2,g3,g4⟩|⟨B,pre,post,g1,g2,g3,g4⟩
  ·subst g2;simp at hn;exact .inl ⟨g1,by omega,by omega⟩
  ·refine .inr ⟨B,pre,post,e,true,g1,(nH g2).1,hcp,?_,.inr (.inl rfl)⟩
   rw[h7]
   exact Nat.le_trans (Nat.mul_le_mul_right _ (by omega)) g4
 ·intro hm0
  have hys:ys= []:=by simpa using hm0
  have hk':=hk A cp
  subst hys
  rw[List.append_nil,List.length_nil,Nat.add_zero] at hk'
  refine⟨_,?_,hk'⟩
  rcases hr with⟨g1,g2,g3,g4⟩|⟨B,pre,post,g1,g2,g3,g4⟩
  ·subst g1 g2 g3
   have:cp=0:=by omega
   subst this
   exact s8 g4
  ·exact iF g1 g2 (by omega) (Nat.le_trans (Nat.mul_le_mul_right _ (by omega)) g4)
 ·intro B pre post e' hA hB hle hpl
  rcases hr with⟨g1,_⟩|⟨B',pre',post',g1,g2,g3,g4⟩
  ·rw[g1] at hA;cases hA
  ·rw[g1] at hA
   have hBB:B'=B:=congrArg Addr.block (Option.some.inj hA)
   subst hBB
   have hpre:pre'.length=pre.length:=congrArg Addr.off (Option.some.inj hA)
   have hB':=(nH g2).1
   rw[hB'] at hB
   injection hB with hB
   injection hB with hcs he _
   subst he
   rw[List.append_assoc,List.append_assoc] at hcs
   obtain⟨q1,q2⟩:=List.append_inj hcs hpre
   obtain⟨_,q3⟩:=List.append_inj q2 rfl
   subst q1 q3
   refine⟨_,iF (pre:=pre') (post:=post'.drop (ys.flatMap E.enc).length) g1 ?_ (by rw[hmn];exact hle) ?_,hk A cp⟩
   ·rw[List.flatMap_append]
    exact rC g2
   ·rw[hmn,List.length_drop,E.flat_len,← Nat.sub_sub,Nat.sub_mul,← h7]
    omega
 ·intro r post N hr0 hN hpl _
  refine⟨_,iF (pre:= []) (post:=post) rfl ?_ (by rw[hmn];exact hN) (by rw[hmn,hpl,h7];exact Nat.le_refl _),hk _ N⟩
  rw[List.flatMap_append,List.nil_append]
  exact rS hr0 hrs.tail
theorem lZ {st xt e:TypeId} {sz bytes cp c0 n:Nat} {A:Option Addr} {ys:List α} {u:Value} {R:List HP} (h:∀A' c',cX gd (.slice A' (xs++ys).length c') fun v=>aN P ops Q es (C::hist) (kJ a d' v) (bQ A' c' e E (xs++ys)::R))
  (hx:bJ a x=.slice A n cp:=by exact rfl) (hy:bJ a y=u:=by exact rfl) (ht:YV P st xt=some (e,sz,bytes):=by exact rfl) (hp:aV (bQ A c0 e E xs) C R:=by((repeat (first|exact aV.here|apply aV.there)) <;> exact aV.here)) (hsrc:Z8 P C u E ys:=by first|exact Dy|exact yO|exact Gw|exact rD) (hsz:E.sz=sz:=by exact rfl) (hn:xs.length=n:=by first|exact rfl|assumption|omega)
  (hcc:cp=c0∨(n≤cp∧cp≤c0):=by first|exact .inl rfl|exact .inr ⟨by omega,by omega⟩) (hbig:(2 * (n+ys.length)+512) * bytes≤281474976710656:=by first|omega|assumption|(simp only[List.length_cons,List.length_nil];omega))
  (hw:bE ops ⟨some d',.call { callee:=.builtin .append,args:=#[x,y],argTypes:=#[st,xt] },ty,pos,after,g⟩ a=true:=by exact rfl):aN P ops Q (ET.cons (c,gd,⟨some d',.call { callee:=.builtin .append,args:=#[x,y],argTypes:=#[st,xt] },ty,pos,after,g⟩) es) hist a C:=
 G_o (hw:=hw) (G0 ht hsz hx hn hy hsrc hp hcc hbig h)
theorem Hl {st xt e:TypeId} {sz bytes:Nat} {ys:List α} {u:Value} (h:∀A' c',cX gd (.slice A' ys.length c') fun v=>aN P ops Q es (C::hist) (kJ a d' v) (bQ A' c' e E ys::C))
  (hx:bJ a x=.slice none 0 0:=by exact rfl) (hy:bJ a y=u:=by exact rfl) (ht:YV P st xt=some (e,sz,bytes):=by exact rfl) (hsrc:Z8 P C u E ys:=by first|exact Dy|exact yO|exact Gw|exact rD) (hsz:E.sz=sz:=by exact rfl)
  (hbig:(2 * (0+ys.length)+512) * bytes≤281474976710656:=by first|omega|assumption|(simp only[List.length_cons,List.length_nil];omega))
  (hw:bE ops ⟨some d',.call { callee:=.builtin .append,args:=#[x,y],argTypes:=#[st,xt] },ty,pos,after,g⟩ a=true:=by exact rfl):aN P ops Q (ET.cons (c,gd,⟨some d',.call { callee:=.builtin .append,args:=#[x,y],argTypes:=#[st,xt] },ty,pos,after,g⟩) es) hist a C:=
 G_o (hw:=hw) (Ap.ent (aG.nilrow e E C) (G0 (xs:= []) ht hsz hx rfl hy ⟨hsrc.1,fun H hs=>hsrc.2 H hs.tail⟩ aV.here (.inl rfl) hbig h))
end
end Go.Sl
namespace Go.Sl
section
variable {α:Type} {E:tJ α} {A:Option Addr} {c:Nat} {e:TypeId} {l:List α} {C R:List HP}
theorem Ib {H:Hp} (hs:bX (bQ A c e E l::R) H):l.length≤c:=by
 rcases kU hs with⟨_,g2,_⟩|⟨_,_,_,_,_,g,_⟩
 ·subst g2;simp
 ·exact g
theorem iK {P:Program} {f:FuncId} {args:Array Value} {K:Value→List HP→Prop} (hp:aV (bQ A c e E l) C R) (h:l.length≤c→aA P f args C K):aA P f args C K:=fun H hs=>h (Ib (hp.sats hs)) H hs
theorem Oy {P:Program} {x:Code} {Q:Exit→Fr→List HP→Prop} {a:Fr} (hp:aV (bQ A c e E l) C R) (h:l.length≤c→fN P x Q a C):fN P x Q a C:=fun H hs=>h (Ib (hp.sats hs)) H hs
theorem Ye {P:Program} {x:Code} {Q:Exit→Fr→List HP→Prop} {a:Fr} {B D:HP} (h:fN P x Q a (B::D::C)):fN P x Q a (sep B D::C):=fun H hs=>h H (aG.unsep H hs)
end
end Go.Sl
namespace Go.Sl
theorem aA.entK {P:Program} {f:FuncId} {args:Array Value} {C:List HP} {K:Value→List HP→Prop} (h:aA P f args C fun v C=>∃C',aG C C'∧K v C'):aA P f args C K:=fun H hs=>
 (h H hs).mono fun _ H' ⟨_,h1,C',h2,h3⟩=>⟨C',h2 H' h1,h3⟩
end Go.Sl
namespace Go.Sl
section
variable {P:Program} {a:Fr} {d:Option Tmp} {ty:TypeId} {pos:String} {after:Array Edge} {g:Option (Nat×Bool)} {x y:Operand}
theorem YU (pre mid post vs:List Value) (h:mid.length=vs.length):uK (pre++mid++post) pre.length vs=pre++vs++post:=by
 have h1:=Ek pre (mid++post) 0 vs
 rw[Nat.add_zero] at h1
 rw[List.append_assoc,h1,IX mid post 0 vs (by omega)]
 have h2:∀(vs mid:List Value),mid.length=vs.length→WC vs mid=vs:=by
  intro vs
  induction vs with
  |nil=>intro mid h;rw[List.length_eq_zero_iff.1 h];rfl
  |cons v vs ih=>
   intro mid h
   cases mid with
   |nil=>simp at h
   |cons m mid=>simp only[WC];rw[ih mid (by simpa using h)]
 have z:∀l,uK l 0 vs=WC vs l:=fun l=>by cases l <;> rfl
 rw[z,h2 vs mid h,List.append_assoc]
theorem YT {st xt e:TypeId} {B off j dl dc c0:Nat} {s:ByteArray} {xs:List UInt8} {C R:List HP} {k:Value→List HP→Prop} (hst:P.underlying st=some (.slice e)) (hi:oZ P e=some 1) (hx:bJ a x=.slice (some ⟨B,off+j,none⟩) dl dc) (hy:bJ a y=.string s)
  (hp:aV (bQ (some ⟨B,off,none⟩) c0 e dL xs) C R) (hj:j+min s.size dl≤xs.length)
  (hk:k (.int .i64 (min s.size dl:Nat)) (bQ (some ⟨B,off,none⟩) c0 e dL (xs.take j++(s.data.toList.take (min s.size dl)++xs.drop (j+min s.size dl)))::R)):
  Ap P ⟨d,.call { callee:=.builtin .copy,args:=#[x,y],argTypes:=#[st,xt] },ty,pos,after,g⟩ a C k:=fun H hs=>by
 obtain⟨inf,hi2,hsz⟩:=sB hi
 refine fK ?_
 simp only[execOp,resolve,List.map_toArray,List.map_cons,List.map_nil,hx,hy]
 rw[aJ,aP (show(pure _:Sem Deferred).pr P=some _ from rfl)]
 simp only[invoke,builtin,aJ]
 unfold Builtin.copy_
 simp only[List.getElem?_toArray,List.getElem?_cons_zero,List.getElem?_cons_succ,aJ]
 rw[aP (aL hst)]
 simp only[aJ]
 have hln:(Builtin.lenOf (.string s)).pr P=some s.size:=by simp[Builtin.lenOf];rfl
 rw[aP hln,aP (fF hi2)]
 have hcl:(Builtin.firstCells inf.size (Nat.min s.size dl) (.string s)).rd P H=some ((s.data.toList.take (min s.size dl)).map lE).toArray:=by
  simp only[Builtin.firstCells,x7]
  congr 1
  apply Array.ext'
  simp
  rfl
 refine rN hcl ?_
 rcases kU (hp.sats hs) with⟨h1,_⟩|⟨B',pre,post,h1,h2,h3,h4⟩
 ·cases h1
 ·cases h1
  have hfl:=dL.flat_len xs
  have h1s:dL.sz=1:=rfl
  rw[h1s,Nat.mul_one] at hfl
  have hmin:Nat.min s.size dl=min s.size dl:=rfl
  have hvl:(List.map lE (List.take (min s.size dl) s.data.toList)).length=min s.size dl:=by simp
  refine m6 _ 0 (pre.length+j) _ H _ (nH h2).1 (by rw[List.length_append,List.length_append,hfl,hvl];omega) (by rw[← nQ];exact dL.flat_one _) ?_
  have hmid:(List.map lE (List.take (min s.size dl) (List.drop j xs))).length=(List.map lE (List.take (min s.size dl) s.data.toList)).length:=by
   rw[hvl,List.length_map,List.length_take,List.length_drop];omega
  have hsplit:pre++xs.flatMap dL.enc++post=(pre++List.map lE (xs.take j))++List.map lE (List.take (min s.size dl) (List.drop j xs))++(List.map lE (xs.drop (j+min s.size dl))++post):=by
   rw[nQ]
   conv=>lhs;rw[← List.take_append_drop j xs,← List.take_append_drop (min s.size dl) (List.drop j xs),List.drop_drop]
   simp only[List.map_append,List.append_assoc]
  have hset:mI (pre++xs.flatMap dL.enc++post) (pre.length+j+0) (List.map lE (List.take (min s.size dl) s.data.toList))=pre++(xs.take j++(s.data.toList.take (min s.size dl)++xs.drop (j+min s.size dl))).flatMap dL.enc++post:=by
   rw[← GK,hsplit]
   have e1:pre.length+j+0=(pre++List.map lE (xs.take j)).length:=by
    rw[List.length_append,List.length_map,List.length_take];omega
   rw[e1,YU _ _ _ _ hmid,nQ]
   simp only[List.map_append,List.append_assoc]
  rw[hset]
  have hlen:(xs.take j++(s.data.toList.take (min s.size dl)++xs.drop (j+min s.size dl))).length=xs.length:=by
   have hsl:s.data.toList.length=s.size:=by simp
   simp only[List.length_append,List.length_take,List.length_drop,hsl]
   omega
  exact⟨_,iF rfl (rC h2) (by rw[hlen];exact h3) (by rw[hlen];exact h4),hk⟩
variable {ops:Array Oper} {Q:Fr→List HP→Prop} {C R:List HP} {c d':Nat} {gd:Bool} {es:ET} {hist:List (List HP)}
theorem Ud {st xt e:TypeId} {B off j dl dc c0:Nat} {s:ByteArray} {xs:List UInt8} (h:cX gd (.int .i64 (min s.size dl:Nat)) fun v=>aN P ops Q es (C::hist) (kJ a d' v) (bQ (some ⟨B,off,none⟩) c0 e dL (xs.take j++(s.data.toList.take (min s.size dl)++xs.drop (j+min s.size dl)))::R))
  (hx:bJ a x=.slice (some ⟨B,off+j,none⟩) dl dc:=by exact rfl) (hy:bJ a y=.string s:=by exact rfl) (hst:P.underlying st=some (.slice e):=by exact rfl) (hi:oZ P e=some 1:=by exact rfl)
  (hp:aV (bQ (some ⟨B,off,none⟩) c0 e dL xs) C R:=by((repeat (first|exact aV.here|apply aV.there)) <;> exact aV.here)) (hj:j+min s.size dl≤xs.length:=by first|omega|assumption)
  (hk:kd P (.call { callee:=.builtin .copy,args:=#[x,y],argTypes:=#[st,xt] })=.other:=by exact rfl) (hw:bE ops ⟨some d',.call { callee:=.builtin .copy,args:=#[x,y],argTypes:=#[st,xt] },ty,pos,after,g⟩ a=true:=by exact rfl):aN P ops Q (ET.cons (c,gd,⟨some d',.call { callee:=.builtin .copy,args:=#[x,y],argTypes:=#[st,xt] },ty,pos,after,g⟩) es) hist a C:=
 G_o (hk:=hk) (hw:=hw) (YT hst hi hx hy hp hj h)
end
end Go.Sl
namespace Go.Sl
section
variable {P:Program} {a:Fr} {d:Option Tmp} {ty:TypeId} {pos:String} {after:Array Edge} {g:Option (Nat×Bool)} {t:TypeId} {x y:Operand}
theorem MI {e:TypeId} {n:Nat} {C:List HP} {k:Value→List HP→Prop} {inf:TypeInfo} {z:Value} (hst:P.underlying t=some (.slice e)) (hi:P.info? e=some inf) (hsz:inf.size=1) (hby:inf.bytes=1) (hz:inf.zero=some z) (hzc:z.cells=#[.int .u8 0]) (hx:bJ a x=.int .i64 n) (hy:bJ a y=.int .i64 n) (hn:n≤1000000)
  (hk:∀r,k (.slice (some ⟨r,0,none⟩) n n) (bQ (some ⟨r,0,none⟩) n e dL (List.replicate n 0)::C)):Ap P ⟨d,.makeSlice t x y,ty,pos,after,g⟩ a C k:=fun H hs=>by
 refine fK ?_
 have hw:IntKind.i64.wrap (n:Int)=n:=uV (by omega) (by omega)
 simp only[execOp,hx,hy]
 unfold Instr.makeSlice
 simp only[aJ]
 rw[aP (aL hst)]
 simp only[aJ]
 rw[aP (show(asInt (.int .i64 (n:Int))).pr P=some (n:Int) from rfl),aP (show(asInt (.int .i64 (n:Int))).pr P=some (n:Int) from rfl),aP (d3 hi)]
 simp only[hw,hby]
 have h48:(2:Int) ^ 48=281474976710656:=by decide
 rw[if_neg (by simp only[h48,Bool.or_eq_true,decide_eq_true_eq];omega)]
 simp only[aJ]
 refine CW ?_
 rw[aP (fF hi),hsz]
 simp only[Int.toNat_natCast,Nat.mul_one]
 have hz0:lE 0=.int .u8 0:=rfl
 have fin:∀(zs:Array Value) (r:Nat),H r=none→((Array.range n).map (fun i=>zs[i % zs.size]!)).toList=(List.replicate n (0:UInt8)).map lE→upV k (.slice (some ⟨r,0,none⟩) n n) (hupd H r (.cells ((Array.range n).map (fun i=>zs[i % zs.size]!)).toList e true)):=fun zs r hr he=>by
  rw[he]
  refine⟨_,iF (pre:= []) (post:= []) rfl ?_ (by rw[List.length_replicate];exact Nat.le_refl _) (by rw[List.length_replicate];simp),hk r⟩
  rw[List.nil_append,List.append_nil,nQ]
  exact rS hr hs
 by_cases hn0:n=0
 ·subst hn0
  rw[if_pos rfl]
  simp only[aJ,newRow]
  rw[aP (show(pure #[]:Sem (Array Value)).pr P=some #[] from rfl)]
  intro r hr
  exact⟨rfl,fin #[] r hr (by simp)⟩
 ·rw[if_neg hn0]
  simp only[aJ,newRow]
  rw[aP (show(zeroValue e).pr P=some z from by simp only[zeroValue,aU,d3 hi,Option.bind_some,hz];rfl)]
  rw[aP (show(pure z.cells:Sem (Array Value)).pr P=some z.cells from rfl),hzc]
  intro r hr
  exact⟨rfl,fin _ r hr (by
   apply List.ext_getElem (by simp)
   intro i h1 h2
   simp[Nat.mod_one]
   rfl)⟩
def Ald (P:Program) (e:TypeId):Prop:=∃inf z,P.info? e=some inf∧inf.size=1∧inf.bytes=1∧inf.zero=some z∧z.cells=#[.int .u8 0]
variable {ops:Array Oper} {Q:Fr→List HP→Prop} {C:List HP} {c d':Nat} {gd:Bool} {es:ET} {hist:List (List HP)}
theorem PZ {e:TypeId} {n:Nat} (h:∀r,cX gd (.slice (some ⟨r,0,none⟩) n n) fun v=>aN P ops Q es (C::hist) (kJ a d' v) (bQ (some ⟨r,0,none⟩) n e dL (List.replicate n 0)::C)) (hx:bJ a x=.int .i64 n:=by exact rfl) (hy:bJ a y=.int .i64 n:=by exact rfl) (hst:P.underlying t=some (.slice e):=by exact rfl) (hz:Ald P e:=by exact⟨_,_,rfl,rfl,rfl,rfl,rfl⟩) (hn:n≤1000000:=by first|omega|assumption)
  (hk:kd P (.makeSlice t x y)=.other:=by exact rfl) (hw:bE ops ⟨some d',.makeSlice t x y,ty,pos,after,g⟩ a=true:=by exact rfl):aN P ops Q (ET.cons (c,gd,⟨some d',.makeSlice t x y,ty,pos,after,g⟩) es) hist a C:=by
 obtain⟨inf,z,h1,h2,h3,h4,h5⟩:=hz
 exact G_o (hk:=hk) (hw:=hw) (MI hst h1 h2 h3 h4 h5 hx hy hn h)
end
end Go.Sl
namespace Go.Sl
section
variable {P:Program} {α:Type} {E:tJ α} {A:Option Addr} {c:Nat} {e:TypeId} {l:List α} {C R:List HP} {K:Value→List HP→Prop}
theorem pS {f:FuncId} {args:Array Value} (hp:aV (bQ A c e E l) C R) (hl:0<l.length) (h:∀B off,A=some ⟨B,off,none⟩→aA P f args C K):aA P f args C K:=fun H hs=>by
 rcases kU (hp.sats hs) with⟨_,g2,_⟩|⟨B,pre,post,g1,_⟩
 ·subst g2;simp at hl
 ·exact h _ _ g1 H hs
theorem Ai4 {B off l m j:Nat} {A':Option Addr} (h:Jd (some ⟨B,off,none⟩) A' l m 1) (hl:l=j) (hm:j<m):A'=some ⟨B,off+j,none⟩:=by
 subst hl
 unfold Jd at h
 rw[h,if_neg (by omega),Nat.mul_one]
 simp[Addr.add]
theorem C5 {f:FuncId} {args:Array Value} {A B D:HP} {p:Prop} (h:p→aA P f args (A::B::D::R) K):aA P f args (sep A (sep B (sep D (bH p)))::R) K:=
 aA.sep (aA.ent (aG.trans (aG.cons aG.unsep) (aG.trans (aG.cons (aG.cons aG.unsep)) (fun _ hs=>hs.perm (List.Perm.symm (List.perm_middle (l₁:= [A,B,D])).symm)))) (aA.pure fun hI=>h hI))
theorem qS {A B D:HP} {p:Prop} (h:p):aG (A::B::D::R) (sep A (sep B (sep D (bH p)))::R):=
 aG.sep (aG.pick aV.here (aG.sep (aG.pick aV.here (aG.sep (aG.pick aV.here (aG.pure h (aG.refl _)))))))
end
end Go.Sl
namespace Go.Sl
section
variable {P:Program} {ops:Array Oper} {Q:Fr→List HP→Prop} {a:Fr} {C:List HP} {c:Nat} {gd:Bool} {es:ET} {hist:List (List HP)} {d':Tmp}
variable {ty:TypeId} {pos:String} {after:Array Edge} {g:Option (Nat×Bool)} {t yt:TypeId} {x y:Operand}
end
end Go.Sl
namespace Go.Sl
theorem aA.satsK {P:Program} {f:FuncId} {args:Array Value} {C:List HP} {K K':Value→List HP→Prop} (h:aA P f args C K') (hk:∀v C' H,K' v C'→bX C' H→∃C'',bX C'' H∧K v C''):aA P f args C K:=fun H hs=>
 (h H hs).mono fun v H' ⟨_,h1,h2⟩=>hk v _ H' h2 h1
end Go.Sl
namespace Go.Sl
def MM (P:Program) (t:TypeId) (f:Nat):Option (TypeId×Nat):=match P.underlying t with
 |some (.struct fs)=>match fs[f]? with
  |some fd=>some (fd.type,fd.offset)
  |none=>none
 |_=>none
section
variable {P:Program} {a:Fr} {d:Option Tmp} {ty:TypeId} {pos:String} {after:Array Edge} {g:Option (Nat×Bool)} {t u:TypeId} {x:Operand}
theorem VX {f off:Nat} {cs:Array Value} {v:Value} (hx:bJ a x=.agg cs) (hf:MM P t f=some (u,off)) (hv:yU P u cs.toList off=some v):b6 P ⟨d,.field t x f,ty,pos,after,g⟩ a=some v:=by
 unfold MM at hf
 split at hf
 ·rename_i fs hu
  split at hf
  ·rename_i fd hfd
   cases hf
   refine cA ?_
   simp only[execOp,hx]
   unfold Instr.field
   rw[aU,aU,aL hu,Option.bind_some]
   simp only[hfd]
   rw[aU,show(asAgg (.agg cs)).pr P=some cs from rfl,Option.bind_some,GT hv]
   rfl
  ·cases hf
 ·cases hf
variable {ops:Array Oper} {Q:Fr→List HP→Prop} {C:List HP} {c d':Nat} {gd:Bool} {es:ET} {hist:List (List HP)}
theorem i9 {f off:Nat} {cs:Array Value} {v:Value} (h:cX gd v fun v=>aN P ops Q es hist (kJ a d' v) C) (hx:bJ a x=.agg cs:=by exact rfl) (hf:MM P t f=some (u,off):=by exact rfl) (hv:yU P u cs.toList off=some v:=by exact rfl)
  (hw:bE ops ⟨some d',.field t x f,ty,pos,after,g⟩ a=true:=by exact rfl):aN P ops Q (ET.cons (c,gd,⟨some d',.field t x f,ty,pos,after,g⟩) es) hist a C:=
 f8 rfl hw (VX hx hf hv) h
end
end Go.Sl
namespace Go.Sl
def Aj7 (P:Program) (t:TypeId):Option (Nat×TypeId):=match P.underlying t with
 |some (.array n e)=>some (n,e)
 |_=>none
section
variable {P:Program} {a:Fr} {d:Option Tmp} {ty:TypeId} {pos:String} {after:Array Edge} {g:Option (Nat×Bool)} {t u:TypeId} {x y:Operand}
theorem NZ {k:IntKind} {j:Int} {n sz:Nat} {cs:Array Value} {v:Value} (hx:bJ a x=.agg cs) (hy:bJ a y=.int k j) (ht:Aj7 P t=some (n,u)) (hs:oZ P u=some sz) (h0:0≤j) (h1:j<n) (hv:yU P u cs.toList (j.toNat * sz)=some v):b6 P ⟨d,.index t x y,ty,pos,after,g⟩ a=some v:=by
 unfold Aj7 at ht
 split at ht
 ·rename_i n' e hu
  cases ht
  obtain⟨i,hi,rfl⟩:=sB hs
  refine cA ?_
  simp only[execOp,hx,hy]
  unfold Instr.index
  rw[aU,aU,show(asIntOf (.int k j)).pr P=some (k,j) from rfl,Option.bind_some]
  simp only
  rw[aU,aL hu,Option.bind_some]
  simp only
  rw[if_pos ⟨h0,h1⟩,aU,fF hi,Option.bind_some,GT hv]
  rfl
 ·cases ht
variable {ops:Array Oper} {Q:Fr→List HP→Prop} {C:List HP} {c d':Nat} {gd:Bool} {es:ET} {hist:List (List HP)}
theorem yK {k:IntKind} {j:Int} {n sz:Nat} {cs:Array Value} {v:Value} (h:cX gd v fun v=>aN P ops Q es hist (kJ a d' v) C) (hx:bJ a x=.agg cs:=by exact rfl) (hy:bJ a y=.int k j:=by exact rfl) (ht:Aj7 P t=some (n,u):=by exact rfl) (hs:oZ P u=some sz:=by exact rfl) (h0:0≤j:=by omega) (h1:j<n:=by omega) (hv:yU P u cs.toList (j.toNat * sz)=some v:=by exact rfl)
  (hw:bE ops ⟨some d',.index t x y,ty,pos,after,g⟩ a=true:=by exact rfl):aN P ops Q (ET.cons (c,gd,⟨some d',.index t x y,ty,pos,after,g⟩) es) hist a C:=
 f8 rfl hw (NZ hx hy ht hs h0 h1 hv) h
end
end Go.Sl
end
section
namespace Go.Sl
structure kO where
 k:Int
 v:Value
 b:Nat
def rK (e:kO):MapEntry:= { key:=.int .i64 e.k,val:=e.v,born:=e.b }
def mp (r:Nat) (es:List kO) (ck:Nat):HP:=fun H=>H r=some (.obj (.map (es.map rK).toArray ck))
def ED (r m since:Nat) (seen:List Nat) (last:Nat):HP:=fun H=>H r=some (.obj (.mapIter (some m) since seen.toArray last))
def iY (n:Int):List kO→Nat→Option (Nat×Value)
 | [],_=>none
 |e::es,i=>if n == e.k then some (i,e.v) else iY n es (i+1)
def ND (n:Int) (v:Value):List kO→List kO
 | []=> []
 |e::es=>if n == e.k then⟨e.k,v,e.b⟩::es else e::ND n v es
def Gj (n:Int):List kO→List kO
 | []=> []
 |e::es=>if n == e.k then es else e::Gj n es
theorem AK {n:Int}:∀ {es:List kO} {i j:Nat} {v:Value},iY n es i=some (j,v)→i≤j∧j - i<es.length∧∃e,es[j - i]?=some e∧e.k=n∧e.v=v
 | [],_,_,_,h=>by cases h
 |e::es,i,j,v,h=>by
  unfold iY at h
  split at h
  ·rename_i he
   cases h
   have:=eq_of_beq he
   exact⟨Nat.le_refl _,by simp,e,by simp,this.symm,rfl⟩
  ·obtain⟨h1,h2,e',h3,h4,h5⟩:=AK h
   refine⟨by omega,by simp;omega,e',?_,h4,h5⟩
   rw[show j - i=(j - (i+1))+1 by omega]
   simpa using h3
theorem F2 {n:Int} {w:Value}:∀ {es:List kO} {i j:Nat} {v:Value},iY n es i=some (j,v)→(es.map rK).modify (j - i) (fun e=> { key:=.int .i64 n,val:=w,born:=e.born })=(ND n w es).map rK
 | [],_,_,_,h=>by cases h
 |e::es,i,j,v,h=>by
  have hj:=(AK h).1
  unfold iY at h
  split at h
  ·rename_i he
   cases h
   have:=eq_of_beq he
   subst this
   simp[ND,rK]
  ·rename_i he
   have h1:=(AK h).1
   rw[show j - i=(j - (i+1))+1 by omega]
   simp only[List.map_cons,List.modify_succ_cons,ND,he]
   rw[F2 h]
   rfl
theorem HN {n:Int}:∀ {es:List kO} {i j:Nat} {v:Value},iY n es i=some (j,v)→(es.map rK).eraseIdx (j - i)=(Gj n es).map rK
 | [],_,_,_,h=>by cases h
 |e::es,i,j,v,h=>by
  unfold iY at h
  split at h
  ·rename_i he
   cases h
   simp[Gj,he]
  ·rename_i he
   have h1:=(AK h).1
   rw[show j - i=(j - (i+1))+1 by omega]
   simp only[List.map_cons,List.eraseIdx_cons_succ,Gj,he]
   rw[HN h]
   rfl
theorem IQ {kd:IntKind} {n:Int}:∀(es:List kO) (i:Nat),Instr.findNow (.int kd) (.int .i64 n) (es.map rK) i=some (iY n es i)
 | [],_=>rfl
 |e::es,i=>by
  simp only[List.map_cons,Instr.findNow,rK,Instr.sameNow,if_true,iY]
  cases h:(n == e.k) with
  |true=>rfl
  |false=>simpa using IQ es (i+1)
def J0 (P:Program) (t:TypeId):Option TypeId:=match P.underlying t with
 |some (.map kt et)=>match P.underlying kt with
  |some (.int _)=>some et
  |_=>none
 |_=>none
theorem Ba {P:Program} {t et:TypeId} (h:J0 P t=some et):∃kt kd,P.underlying t=some (.map kt et)∧P.underlying kt=some (.int kd):=by
 unfold J0 at h
 split at h
 ·split at h
  ·cases h;exact⟨_,_,‹_›,‹_›⟩
  ·cases h
 ·cases h
def VG (P:Program) (t:TypeId):Option Value:=match P.info? t with
 |some i=>i.zero
 |none=>none
section
variable {P:Program} {H:Hp}
theorem Aa8 {t:TypeId} {z:Value} (h:VG P t=some z):(zeroValue t).pr P=some z:=by
 unfold VG at h
 split at h
 ·rename_i i hi
  simp only[zeroValue,aU,d3 hi,Option.bind_some,h];rfl
 ·cases h
theorem zP {b:Bool} {t:TypeId} {kd:IntKind} {n:Int} (h:P.underlying t=some (.int kd)):(Instr.checkKey b 10000 t (.int .i64 n)).pr P=some ():=by
 rw[show(10000:Nat)=9999+1 from rfl,Instr.checkKey,aU,aL h]
 rfl
theorem Cq {t:TypeId} {kd:IntKind} {n:Int} {es:List kO} (h:P.underlying t=some (.int kd)):(Instr.findKey t (.int .i64 n) (es.map rK)).pr P=some (iY n es 0):=by
 unfold Instr.findKey
 rw[aU,aL h]
 simp only[Option.bind_some,IQ]
 rfl
end
section
variable {P:Program} {a:Fr} {H:Hp} {k:Value→Hp→Prop} {d:Option Tmp} {ty:TypeId} {pos:String} {after:Array Edge} {g:Option (Nat×Bool)} {t:TypeId} {x y z:Operand}
theorem S4 (hk:∀r,H r=none→k (.map (some r)) (hupd H r (.obj (.map #[] 0)))):lJ P ⟨d,.makeMap t none,ty,pos,after,g⟩ a H k:=by
 refine fK ?_
 simp only[execOp,Instr.makeMap,aJ,Option.map_none]
 intro r hr
 exact hk r hr
def okV (ok:Bool) (v:Value) (b:Bool):Value:=if ok then .tuple #[v,.bool b] else v
def Jh (ok:Bool) (zv:Value):Option (Nat×Value)→Value
 |some (_,v)=>okV ok v true
 |none=>okV ok zv false
theorem V2 {r ck:Nat} {es:List kO} {et:TypeId} {n:Int} {zv:Value} {ok:Bool} (hm:J0 P t=some et) (hz:VG P et=some zv) (hx:bJ a x=.map (some r)) (hy:bJ a y=.int .i64 n) (hH:H r=some (.obj (.map (es.map rK).toArray ck)))
  (hk:k (Jh ok zv (iY n es 0)) H):lJ P ⟨d,.lookup t x y ok,ty,pos,after,g⟩ a H k:=by
 obtain⟨kt,kd,h1,h2⟩:=Ba hm
 refine fK ?_
 simp only[execOp,hx,hy,Instr.lookup,aJ]
 rw[aP (aL h1)]
 simp only[aJ]
 refine⟨_,hH,?_⟩
 simp only[Sem.ev]
 rw[pure_bind,aJ,aP (zP h2),aJ,aP (Cq h2)]
 cases hf:iY n es 0 with
 |some p=>
  rw[hf] at hk
  cases ok <;> exact hk
 |none=>
  rw[hf] at hk
  simp only[aJ]
  rw[aP (Aa8 hz)]
  cases ok <;> exact hk
theorem Nn (j:IntKind) (n:Int):Instr.sameBits 10000 (.int j n) (.int j n)=true:=by
 rw[show(10000:Nat)=9999+1 from rfl]
 simp[Instr.sameBits]
theorem My {r ck:Nat} {es:List kO} {et:TypeId} {n:Int} {v:Value} (hm:J0 P t=some et) (hx:bJ a x=.map (some r)) (hy:bJ a y=.int .i64 n) (hv:bJ a z=v) (hH:H r=some (.obj (.map (es.map rK).toArray ck)))
  (hk:k undef (hupd H r (.obj (match iY n es 0 with|some _=>Obj.map ((ND n v es).map rK).toArray ck|none=>Obj.map ((es++ [(⟨n,v,ck⟩:kO)]).map rK).toArray (ck+1))))):lJ P ⟨d,.mapUpdate t x y z,ty,pos,after,g⟩ a H k:=by
 obtain⟨kt,kd,h1,h2⟩:=Ba hm
 refine fK ?_
 simp only[execOp,hx,hy,hv,Instr.mapUpdate,aJ]
 rw[aP (aL h1)]
 simp only[aJ]
 refine⟨_,hH,?_⟩
 simp only[Sem.ev,aJ]
 rw[aP (zP h2),aP (Cq h2)]
 cases hf:iY n es 0 with
 |some p=>
  obtain⟨j,w⟩:=p
  rw[hf] at hk
  obtain⟨_,_,e,he,hek,_⟩:=AK hf
  simp only[Nat.sub_zero] at he
  simp only[aJ]
  have hkey:((Option.map (fun e=>MapEntry.key e) ((List.map rK es).toArray[j]?)).getD (.int .i64 n))=.int .i64 n:=by
   simp[he,rK,hek]
  rw[hkey]
  rw[aP (show(Instr.keyThatStays (.int .i64 n) (.int .i64 n)).pr P=some (.int .i64 n) by unfold Instr.keyThatStays;rw[Nn];rfl)]
  refine⟨⟨_,hH⟩,rfl,?_⟩
  have hmod:=F2 (w:=v) hf
  rw[Nat.sub_zero] at hmod
  have e1:(List.map rK es).toArray.modify j (fun e=> { key:=.int .i64 n,val:=v,born:=e.born })=((ND n v es).map rK).toArray:=by
   apply Array.ext'
   simpa using hmod
  rw[e1]
  exact hk
 |none=>
  rw[hf] at hk
  refine⟨⟨_,hH⟩,rfl,?_⟩
  have e1:(List.map rK es).toArray.push { key:=.int .i64 n,val:=v,born:=ck }=((es++ [(⟨n,v,ck⟩:kO)]).map rK).toArray:=by
   apply Array.ext'
   simp[rK]
  rw[e1]
  exact hk
theorem VQ {r ck:Nat} {es:List kO} {et ts1:TypeId} {n:Int} (hm:J0 P t=some et) (hx:bJ a x=.map (some r)) (hy:bJ a y=.int .i64 n) (hH:H r=some (.obj (.map (es.map rK).toArray ck)))
  (hk:k (.tuple #[]) (hupd H r (.obj (.map ((Gj n es).map rK).toArray ck)))):lJ P ⟨d,.call { callee:=.builtin .delete,args:=#[x,y],argTypes:=#[t,ts1] },ty,pos,after,g⟩ a H k:=by
 obtain⟨kt,kd,h1,h2⟩:=Ba hm
 refine fK ?_
 simp only[execOp,resolve,List.map_toArray,List.map_cons,List.map_nil,hx,hy]
 rw[aJ,aP (show(pure _:Sem Deferred).pr P=some _ from rfl)]
 simp only[invoke,builtin,aJ]
 unfold Builtin.delete_
 simp only[List.getElem?_toArray,List.getElem?_cons_zero,List.getElem?_cons_succ,aJ]
 rw[aP (aL h1)]
 simp only[aJ]
 refine⟨_,hH,?_⟩
 simp only[Sem.ev,aJ]
 rw[aP (zP h2),aP (Cq h2)]
 cases hf:iY n es 0 with
 |some p=>
  obtain⟨j,w⟩:=p
  refine⟨⟨_,hH⟩,rfl,?_⟩
  have hmod:=HN hf
  rw[Nat.sub_zero] at hmod
  have e1:(List.map rK es).toArray.eraseIdxIfInBounds j=((Gj n es).map rK).toArray:=by
   apply Array.ext'
   rw[← hmod]
   simp
  rw[e1]
  exact hk
 |none=>
  refine⟨⟨_,hH⟩,rfl,?_⟩
  have e1:Gj n es=es:=by
   have key:∀(es:List kO) (i:Nat),iY n es i=none→Gj n es=es:=by
    intro es
    induction es with
    |nil=>intro _ _;rfl
    |cons e es ih=>
     intro i h
     unfold iY at h
     split at h
     ·cases h
     ·rename_i he
      simp only[Gj,he]
      rw[ih _ h]
      rfl
   exact key es 0 hf
  rw[e1] at hk
  exact hk
theorem Acu {r ck:Nat} {es:List kO} {et:TypeId} (hm:J0 P t=some et) (hx:bJ a x=.map (some r)) (hH:H r=some (.obj (.map (es.map rK).toArray ck)))
  (hk:∀i,H i=none→k (.pointer (some ⟨i,0,none⟩)) (hupd H i (.obj (.mapIter (some r) ck #[] ck)))):lJ P ⟨d,.range t x,ty,pos,after,g⟩ a H k:=by
 obtain⟨kt,kd,h1,h2⟩:=Ba hm
 refine fK ?_
 simp only[execOp,Instr.range,hx,aJ]
 rw[aP (aL h1)]
 simp only[aJ]
 refine⟨_,hH,?_⟩
 simp only[Sem.ev]
 intro i hi
 exact hk i hi
theorem HB {n:Nat} {q:Nat→Hp→Prop} (hn:1≤n) (h:∀j,j<n→q j H):(choose (.mapNext n)).ev P H q:=by
 unfold choose
 simp only[Sem.ev]
 split
 ·exact h 0 (by omega)
 ·exact fun t=>h _ (Nat.mod_lt _ (by omega))
theorem Ahs {i r since last ck:Nat} {es:List kO} {seen:List Nat} (hx:bJ a x=.pointer (some ⟨i,0,none⟩)) (hI:H i=some (.obj (.mapIter (some r) since seen.toArray last))) (hH:H r=some (.obj (.map (es.map rK).toArray ck)))
  (hold:∀e∈es,e.b<since)
  (h1:∀e∈es,e.b ∉ seen→k (.tuple #[.bool true,.int .i64 e.k,e.v]) (hupd H i (.obj (.mapIter (some r) since (seen++ [e.b]).toArray ck))))
  (h0:(∀e∈es,e.b∈seen)→k (.tuple #[.bool false]) H) (hlast:seen= []∨es= []∨∃e∈es,e.b<last):lJ P ⟨d,.next x false,ty,pos,after,g⟩ a H k:=by
 refine fK ?_
 simp only[execOp,Instr.next,hx,aJ]
 refine⟨_,hI,?_⟩
 simp only[Sem.ev,aJ]
 refine⟨_,hH,?_⟩
 simp only[Sem.ev]
 have hcond:¬((!seen.toArray.isEmpty && !(List.map rK es).toArray.isEmpty && (List.map rK es).toArray.all fun x=>decide (x.born≥last))=true):=by
  intro h
  rcases hlast with rfl|rfl|⟨e,he,hl⟩
  ·simp at h
  ·simp at h
  ·simp only[Bool.and_eq_true,Array.all_eq_true] at h
   obtain⟨j,hj,hje⟩:=List.mem_iff_getElem.1 he
   have h3:=h.2 j (by simpa using hj)
   simp[rK,hje] at h3
   omega
 rw[if_neg hcond]
 have hA:Array.filter (fun x=>decide (x.born<since)) (Array.filter (fun e=>!seen.toArray.contains e.born) (List.map rK es).toArray)=((es.filter fun e=>!seen.contains e.b).map rK).toArray:=by
  apply Array.ext'
  simp only[Array.toList_filter]
  rw[List.filter_map,List.filter_map,List.filter_filter]
  congr 1
  apply List.filter_congr
  intro e he
  have:=hold e he
  have hd:decide ((rK e).born<since)=true:=decide_eq_true this
  simp only[Function.comp,hd,Bool.true_and]
  simp[rK]
 have hB:Array.filter (fun x=>decide (x.born≥since)) (Array.filter (fun e=>!seen.toArray.contains e.born) (List.map rK es).toArray)=#[]:=by
  apply Array.ext'
  simp only[Array.toList_filter]
  rw[List.filter_map,List.filter_map,List.filter_filter]
  have:List.filter (fun a=>((fun x=>decide (x.born≥since)) ∘ rK) a && ((fun e=>!seen.toArray.contains e.born) ∘ rK) a) es= []:=by
   rw[List.filter_eq_nil_iff]
   intro e he
   have:=hold e he
   have hd:decide ((rK e).born≥since)=false:=decide_eq_false (Nat.not_le.2 this)
   simp[Function.comp,hd]
  rw[this]
  rfl
 simp only[hA,hB]
 generalize hL:(es.filter fun e=>!seen.contains e.b)=L
 have hmem:∀e∈L,e∈es∧e.b ∉ seen:=by
  intro e he
  rw[← hL] at he
  simpa using List.mem_filter.1 he
 rw[aJ]
 cases L with
 |nil=>
  have hc:((if((List.map rK []).toArray).isEmpty=true then #[none] else #[])++Array.map some ((List.map rK []).toArray++#[]):Array (Option MapEntry))=#[none]:=by
   apply Array.ext'
   simp
  rw[hc]
  refine HB (n:=1) (by omega) fun j hj=>?_
  obtain rfl:j=0:=by omega
  refine h0 fun e he=>?_
  by_cases hs:e.b∈seen
  ·exact hs
  ·have:e∈es.filter fun e=>!seen.contains e.b:=List.mem_filter.2 ⟨he,by simpa using hs⟩
   rw[hL] at this
   cases this
 |cons e0 L=>
  have hc:((if((List.map rK (e0::L)).toArray).isEmpty=true then #[none] else #[])++Array.map some ((List.map rK (e0::L)).toArray++#[]):Array (Option MapEntry))=((e0::L).map fun e=>some (rK e)).toArray:=by
   apply Array.ext'
   simp
  rw[hc]
  refine HB (n:=(((e0::L).map fun e=>some (rK e)).toArray).size) (by simp) fun j hj=>?_
  have hj2:j<(e0::L).length:=by simpa using hj
  have hg:((e0::L).map fun e=>some (rK e)).toArray[j]?=some (some (rK (e0::L)[j])):=by
   rw[List.getElem?_toArray,List.getElem?_map,List.getElem?_eq_getElem hj2]
   rfl
  rw[hg]
  obtain⟨m1,m2⟩:=hmem _ (List.getElem_mem hj2)
  refine⟨⟨_,hI⟩,rfl,?_⟩
  have:=h1 _ m1 m2
  have e2:seen.toArray.push (rK (e0::L)[j]).born=(seen++ [((e0::L)[j]).b]).toArray:=by
   apply Array.ext';simp[rK]
  rw[e2]
  exact this
theorem Acp {i r since ck:Nat} {es:List kO} {seen:List Nat} {b:Nat} {e:kO} (hx:bJ a x=.pointer (some ⟨i,0,none⟩)) (hI:H i=some (.obj (.mapIter (some r) since (seen++ [b]).toArray ck))) (hH:H r=some (.obj (.map (es.map rK).toArray ck)))
  (he:es.find? (fun e=>e.b == b)=some e) (hk:k (.tuple #[.int .i64 e.k,e.v]) H):lJ P ⟨d,.entry x,ty,pos,after,g⟩ a H k:=by
 refine fK ?_
 simp only[execOp,Instr.entry,hx,aJ]
 refine⟨_,hI,?_⟩
 simp only[Sem.ev]
 have hb:(seen++ [b]).toArray.back?=some b:=by simp
 rw[hb]
 simp only[aJ]
 refine⟨_,hH,?_⟩
 have hf:(List.map rK es).toArray.find? (fun x=>x.born == b)=some (rK e):=by
  rw[List.find?_toArray,List.find?_map]
  have:((fun x=>x.born == b) ∘ rK)=fun e=>e.b == b:=by funext e;rfl
  rw[this,he]
  rfl
 have hne:(ck != ck)=false:=by simp
 simp only[Sem.ev,hne,hf]
 exact hk
end
end Go.Sl
namespace Go.Sl
theorem pH {r:Nat} {b:sP} (ho:b.own=true) {C:List HP} {H:Hp} (hs:bX ((fun H=>H r=some b)::C) H):H r=some b:=by
 obtain⟨H1,H2,hc,h1,h2,ha,hs⟩:=hs
 obtain⟨b',hb,l⟩:=h1 r b ha
 rw[sP.le_own l ho] at hb
 exact hb
theorem vA {r:Nat} {b b':sP} (ho:b.own=true) {C:List HP} {H:Hp} (hs:bX ((fun H=>H r=some b)::C) H):bX ((fun H=>H r=some b')::C) (hupd H r b'):=by
 obtain⟨H1,H2,hc,h1,h2,ha,hs⟩:=hs
 have hn:H2 r=none:=by
  cases hx:H2 r with
  |none=>rfl
  |some x=>have:=(hc r _ x ha hx).1;rw[ho] at this;cases this
 refine⟨mR r b',H2,(fun i b x hb hx=>by rw[(DL hb).1,hn] at hx;cases hx),Dq (j7 _ _ _) (sP.le_refl _),fun i b hb=>?_,wL _ _,hs⟩
 rw[jT _ _ (fun e=>by subst e;rw[hn] at hb;cases hb)]
 exact h2 i b hb
theorem F8 {r:Nat} {b:sP} {C:List HP} {H:Hp} (hr:H r=none) (hs:bX C H):bX ((fun H=>H r=some b)::C) (hupd H r b):=
 ⟨mR r b,H,(fun B b x hb hx=>by rw[(DL hb).1,hr] at hx;cases hx),Dq (j7 _ _ _) (sP.le_refl _),
  (fun B b hb=>⟨b,by rw[jT _ _ (fun e=>by subst e;rw[hr] at hb;cases hb)];exact hb,b.le_refl⟩),wL _ _,hs⟩
section
variable {P:Program} {ops:Array Oper} {Q:Fr→List HP→Prop} {a:Fr} {C R:List HP} {c:Nat} {gd:Bool} {es:ET} {hist:List (List HP)} {d':Tmp} {v:Value}
variable {ty:TypeId} {pos:String} {after:Array Edge} {g:Option (Nat×Bool)} {t:TypeId} {x y z:Operand}
theorem Fp (h:∀r,cX gd (.map (some r)) fun v=>aN P ops Q es (C::hist) (kJ a d' v) (mp r [] 0::C)) (hw:bE ops ⟨some d',.makeMap t none,ty,pos,after,g⟩ a=true:=by exact rfl):
  aN P ops Q (ET.cons (c,gd,⟨some d',.makeMap t none,ty,pos,after,g⟩) es) hist a C:=
 xN rfl hw fun _ hH=>S4 fun r hr=>⟨_,F8 hr hH,h r⟩
theorem jD {r ck:Nat} {ms:List kO} {et:TypeId} {n:Int} {zv w:Value} {ok:Bool} (h:cX gd w fun v=>aN P ops Q es (C::hist) (kJ a d' v) C) (hx:bJ a x=.map (some r):=by exact rfl) (hy:bJ a y=.int .i64 n:=by exact rfl)
  (hp:aV (mp r ms ck) C R:=by((repeat (first|exact aV.here|apply aV.there)) <;> exact aV.here)) (hm:J0 P t=some et:=by exact rfl) (hz:VG P et=some zv:=by exact rfl) (hv:Jh ok zv (iY n ms 0)=w:=by first|assumption|exact rfl)
  (hw:bE ops ⟨some d',.lookup t x y ok,ty,pos,after,g⟩ a=true:=by exact rfl):aN P ops Q (ET.cons (c,gd,⟨some d',.lookup t x y ok,ty,pos,after,g⟩) es) hist a C:=
 xN rfl hw fun H hH=>V2 hm hz hx hy (pH rfl (hp.sats hH)) (by rw[hv];exact⟨C,hH,h⟩)
def LK (n:Int) (v:Value) (ms:List kO) (ck:Nat):List kO×Nat:=match iY n ms 0 with
 |some _=>(ND n v ms,ck)
 |none=>(ms++ [⟨n,v,ck⟩],ck+1)
theorem kE {r ck ck':Nat} {ms ms':List kO} {et:TypeId} {n:Int} {u:Value} (h:aN P ops Q es (C::hist) a (mp r ms' ck'::R)) (hx:bJ a x=.map (some r):=by exact rfl) (hy:bJ a y=.int .i64 n:=by exact rfl) (hu:iC (bJ a z)=some u:=by exact rfl)
  (hp:aV (mp r ms ck) C R:=by((repeat (first|exact aV.here|apply aV.there)) <;> exact aV.here)) (hm:J0 P t=some et:=by exact rfl) (hv:LK n u ms ck=(ms',ck'):=by first|assumption|exact rfl)
  (hw:bE ops ⟨none,.mapUpdate t x y z,ty,pos,after,g⟩ a=true:=by exact rfl):aN P ops Q (ET.cons (c,gd,⟨none,.mapUpdate t x y z,ty,pos,after,g⟩) es) hist a C:=
 Ach (hw:=hw) fun H hH=>by
  have h1:=hp.sats hH
  refine My hm hx hy (gA hu) (pH rfl h1) ?_
  unfold LK at hv
  cases hf:iY n ms 0 with
  |some p=>rw[hf] at hv;cases hv;exact⟨_,vA rfl h1,h⟩
  |none=>rw[hf] at hv;cases hv;exact⟨_,vA rfl h1,h⟩
theorem Lm {r ck:Nat} {ms ms':List kO} {et ts1:TypeId} {n:Int} (h:aN P ops Q es (C::hist) a (mp r ms' ck::R)) (hx:bJ a x=.map (some r):=by exact rfl) (hy:bJ a y=.int .i64 n:=by exact rfl)
  (hp:aV (mp r ms ck) C R:=by((repeat (first|exact aV.here|apply aV.there)) <;> exact aV.here)) (hm:J0 P t=some et:=by exact rfl) (hv:Gj n ms=ms':=by first|assumption|exact rfl)
  (hw:bE ops ⟨none,.call { callee:=.builtin .delete,args:=#[x,y],argTypes:=#[t,ts1] },ty,pos,after,g⟩ a=true:=by exact rfl):aN P ops Q (ET.cons (c,gd,⟨none,.call { callee:=.builtin .delete,args:=#[x,y],argTypes:=#[t,ts1] },ty,pos,after,g⟩) es) hist a C:=
 Ach (hw:=hw) fun H hH=>by
  subst hv
  exact VQ hm hx hy (pH rfl (hp.sats hH)) ⟨_,vA rfl (hp.sats hH),h⟩
theorem Aho {r ck:Nat} {ms:List kO} {et:TypeId} (h:∀i,cX gd (.pointer (some ⟨i,0,none⟩)) fun v=>aN P ops Q es (C::hist) (kJ a d' v) (ED i r ck [] ck::C)) (hx:bJ a x=.map (some r):=by exact rfl)
  (hp:aV (mp r ms ck) C R:=by((repeat (first|exact aV.here|apply aV.there)) <;> exact aV.here)) (hm:J0 P t=some et:=by exact rfl)
  (hw:bE ops ⟨some d',.range t x,ty,pos,after,g⟩ a=true:=by exact rfl):aN P ops Q (ET.cons (c,gd,⟨some d',.range t x,ty,pos,after,g⟩) es) hist a C:=
 xN rfl hw fun H hH=>Acu hm hx (pH rfl (hp.sats hH)) fun i hi=>⟨_,F8 hi hH,h i⟩
theorem Ak2 {i r since last ck:Nat} {ms:List kO} {seen:List Nat}
  (h1:∀e∈ms,e.b ∉ seen→cX gd (.tuple #[.bool true,.int .i64 e.k,e.v]) fun v=>aN P ops Q es (C::hist) (kJ a d' v) (ED i r since (seen++ [e.b]) ck::R))
  (h0:(∀e∈ms,e.b∈seen)→cX gd (.tuple #[.bool false]) fun v=>aN P ops Q es (C::hist) (kJ a d' v) C)
  (hx:bJ a x=.pointer (some ⟨i,0,none⟩)) (hp:aV (ED i r since seen last) C R) (hq:∃R',aV (mp r ms ck) C R')
  (hold:∀e∈ms,e.b<since) (hlast:seen= []∨ms= []∨∃e∈ms,e.b<last)
  (hw:bE ops ⟨some d',.next x false,ty,pos,after,g⟩ a=true):aN P ops Q (ET.cons (c,gd,⟨some d',.next x false,ty,pos,after,g⟩) es) hist a C:=
 xN rfl hw fun H hH=>by
  obtain⟨R',hq⟩:=hq
  exact Ahs hx (pH rfl (hp.sats hH)) (pH rfl (hq.sats hH)) hold (fun e he hn=>⟨_,vA rfl (hp.sats hH),h1 e he hn⟩) (fun hs=>⟨C,hH,h0 hs⟩) hlast
theorem VI {i r since ck b:Nat} {ms:List kO} {seen:List Nat} {e:kO} {R':List HP} (h:cX gd (.tuple #[.int .i64 e.k,e.v]) fun v=>aN P ops Q es (C::hist) (kJ a d' v) C)
  (hx:bJ a x=.pointer (some ⟨i,0,none⟩):=by exact rfl) (hp:aV (ED i r since (seen++ [b]) ck) C R:=by((repeat (first|exact aV.here|apply aV.there)) <;> exact aV.here)) (hq:aV (mp r ms ck) C R':=by((repeat (first|exact aV.here|apply aV.there)) <;> exact aV.here))
  (he:ms.find? (fun e=>e.b == b)=some e:=by first|assumption|exact rfl) (hw:bE ops ⟨some d',.entry x,ty,pos,after,g⟩ a=true:=by exact rfl):aN P ops Q (ET.cons (c,gd,⟨some d',.entry x,ty,pos,after,g⟩) es) hist a C:=
 xN rfl hw fun H hH=>Acp hx (pH rfl (hp.sats hH)) (pH rfl (hq.sats hH)) he ⟨C,hH,h⟩
end
end Go.Sl
namespace Go.Sl
def Aay:Nat→Option Nat
 |0=>some 0
 |m+1=>some (m+1)
theorem LL {n m:Nat} (h:Aay n=some m):n=m:=by
 cases n <;> (unfold Aay at h;cases h;rfl)
def Jf (acc:List Nat) (len:Nat):List Edge→Nat→Option Nat
 | [],s=>Aay s
 |e::l,s=>match Region.binds .any e with
  |true=>match Aay (s ||| 2 ^ e.on ||| (if e.on<len then acc.getD (len - 1 - e.on) 0 else 0)) with
   |some n=>Jf acc len l n
   |none=>none
  |false=>Jf acc len l s
def Xy:List Oper→List Nat→Nat→Option (List Nat)
 | [],acc,_=>some acc
 |o::l,acc,len=>match Jf acc len o.after.toList 0 with
  |some n=>match Aay (len+1) with
   |some m=>Xy l (n::acc) m
   |none=>none
  |none=>none
theorem Aah (acc:List Nat) (i:Nat):(if i<acc.length then acc.getD (acc.length - 1 - i) 0 else 0)=acc.reverse.toArray.getD i 0:=by
 rw[Array.getD_eq_getD_getElem?,List.getElem?_toArray]
 by_cases h:i<acc.length
 ·rw[if_pos h,List.getElem?_reverse h,List.getD_eq_getElem?_getD]
 ·rw[if_neg h,List.getElem?_eq_none (by simpa using h)]
  rfl
theorem EG {acc:List Nat}:∀ {l:List Edge} {s n:Nat},Jf acc acc.length l s=some n→l.foldl (fun s e=>if Region.binds .any e then s ||| 2 ^ e.on ||| acc.reverse.toArray.getD e.on 0 else s) s=n
 | [],s,n,h=>LL h
 |e::l,s,n,h=>by
  unfold Jf at h
  rw[List.foldl_cons]
  split at h
  ·rename_i hb
   split at h
   ·rename_i k hk
    have:=LL hk
    rw[Aah] at this
    rw[if_pos hb,this]
    exact EG h
   ·cases h
  ·rename_i hb
   rw[if_neg (by rw[hb];simp)]
   exact EG h
theorem Vs:∀ {l:List Oper} {acc r:List Nat},Xy l acc acc.length=some r→l.foldl (fun acc o=>acc.push (o.after.foldl (fun s e=>if Region.binds .any e then s ||| 2 ^ e.on ||| acc.getD e.on 0 else s) 0)) acc.reverse.toArray=r.reverse.toArray
 | [],acc,r,h=>by cases h;rfl
 |o::l,acc,r,h=>by
  unfold Xy at h
  split at h
  ·rename_i n hn
   split at h
   ·rename_i m hm
    have e1:=EG hn
    have e2:=LL hm
    subst e2
    rw[List.foldl_cons,← Array.foldl_toList,e1]
    have:=Vs (acc:=n::acc) h
    rw[← this]
    congr 1
    simp
   ·cases h
  ·cases h
theorem Xi {ops:Array Oper} {r:List Nat} (h:Xy ops.toList [] 0=some r):Region.before ops=r.reverse.toArray:=by
 unfold Region.before
 rw[← Array.foldl_toList]
 exact Vs (acc:= []) h
section
variable {P:Program} {Q:Exit→Fr→List HP→Prop} {a:Fr} {C:List HP} {id:Nat} {ol:List Oper} {es:ET}
theorem Ag8 {l:List (Nat×Nat)} {bl br:List Nat} (hb:Xy ol [] 0=some br) (hr:br.reverse=bl) (hl:CB (Kh P ol.toArray bl.toArray)=some l) (hc:vF P ol.toArray bl.toArray l=true) (he:Js ol.toArray l=some es)
  (h:aN P ol.toArray (Q .normal) es [] a C):fN P (.region id ol.toArray true) Q a C:=by
 have e:Region.before ol.toArray=bl.toArray:=by rw[← hr];exact Xi hb
 exact Mi (by rw[e];exact hl) (by rw[e];exact hc) he h
end
end Go.Sl
namespace Go.Sl
theorem aZ {C C':List HP} (he:aG C C':=by((iterate 30 (try(first|exact aG.refl _|exact aG.nil|(apply aG.pick;focus ((repeat (first|exact aV.here|apply aV.there)) <;> exact aV.here))|(apply aG.pickP;focus ((repeat (first|exact pers_ro _ _ _|exact oF _ _ _|exact pers_pure _|refine pers_sep ?_ ?_|refine pers_ex fun _=>?_)) <;> exact pers_pure _);focus ((repeat (first|exact aV.here|apply aV.there)) <;> exact aV.here))|(apply aG.pure;focus (first|assumption|exact rfl|omega))|apply aG.nilrow'|apply aG.ex|apply aG.sep|apply aG.drop))) <;> exact aG.nil)):aG C C':=he
theorem kF {α:Type} {C:List HP} {A:Option Addr} {E:tJ α} {xs:List α} (hv:dT C A E xs:=by((repeat (first|exact fG|exact j0|exact vP|assumption|apply bM)) <;> exact fG)):dT C A E xs:=hv
end Go.Sl
end
