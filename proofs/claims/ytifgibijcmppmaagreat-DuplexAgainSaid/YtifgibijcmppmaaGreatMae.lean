/- A part of the proof: lemmas; each with the conditions that it states. -/
import Derived.SizedLaws
import Derived.Deep.Slices
import Derived.Test.YtifgibijcmppmaaGreatProg
import Derived.Shelf.Sort.Plain
import Derived.Shelf.Slices.In.SortNone
import Derived.Test.YtifgibijcmppmaaGreatMad
set_option linter.unusedVariables false
set_option linter.unusedSimpArgs false
section
namespace Go.Sl
open Go.ChangeShapes Go.WideShapes Go.ChangeAt Go.RowKit Go.Deep
def u5 (W:World):Hp:=fun B=>match W.heap[B]? with
 |some (.cells arr e _)=>some (.cells arr.toList e false)
 |_=>none
theorem U0 (W:World):AK (fun i=>W.heap.size≤i) (u5 W) W:=by
 refine⟨fun B b hb=>?_,fun B b hb ho=>?_,fun i hi=>hi⟩
 ·unfold u5 at hb
  split at hb
  ·rename_i arr e fz h;cases hb;exact⟨arr,fz,h,rfl,fun h=>by cases h⟩
  ·cases hb
 ·unfold u5 at hb
  split at hb
  ·cases hb;cases ho
  ·cases hb
theorem aA.below {P:Program} {f:FuncId} {args:Array Value} {C:List HP} {r:Value} {W:World} (h:aA P f args C fun v _=>v=r) (hC:bV C (u5 W)):
  Calls P f args W fun e W'=>e=.returned r∧Below W.heap.size W W':=by
 refine((h _ hC).run (fun i=>W.heap.size≤i) W (U0 W)).mono ?_
 rintro e W' ⟨v,H',rfl,⟨C',_,rfl⟩,ht⟩
 exact⟨rfl,ht.chg.os,ht.chg.tape,ht.chg.output,ht.chg.size,fun k hk=>ht.chg.kept k hk (by omega)⟩
theorem C8 {A:HP} {C:List HP} {W:World} (hp:Fj A) (ha:A (u5 W)) (hC:bV C (u5 W)):bV (A::C) (u5 W):=by
 obtain⟨H',h1,h2,h3⟩:=hp _ ha
 refine⟨H',u5 W,fun B b c hb hc=>⟨h3 B b hb,?_⟩,h1,Bj.refl _,h2,hC⟩
 unfold u5 at hc
 split at hc
 ·cases hc;rfl
 ·cases hc
def Good (P:Program) (W:World):Nat→TypeId→List Value→Prop
 |0,_,_=>False
 |n+1,t,cs=>match P.underlying t with
  |some .bool=>∃b,cs= [.bool b]
  |some (.int k)=>∃i,cs= [.int k i]∧(Lit.int k i).wf=true
  |some .string=>∃s:ByteArray,cs= [.string s]∧s.size≤reachBytes
  |some (.slice e)=>cs= [.slice none 0 0]∨∃a len cap,cs= [.slice (some a) len cap]∧len≤cap∧cap * P.bytesOf e≤reachBytes∧
    ∀i,i<len→∃cs',W.cells? 0 (a.add (i * P.cellsOf e)) (P.cellsOf e)=some cs'∧Good P W n e cs'
  |some (.struct fs)=>cs.length=P.cellsOf t∧∀(j:Nat) (f:Field),fs[j]?=some f→Good P W n f.type ((cs.drop f.offset).take (P.cellsOf f.type))
  |_=>True
theorem Lp {H:Type} {P:Program}:∀ {ts:List TypeId} {ds:List (DataW H)} {j:Nat} {t:TypeId} {d:DataW H},ts[j]?=some t→ds[j]?=some d→∀n∈d.weights P t,n∈DataW.weightsEach P ts ds:=DataW.weights_mem_each
theorem Ft {H:Type} {P:Program} {e:TypeId}:∀ {ds:List (DataW H)} {d:DataW H},d∈ds→∀n∈d.weights P e,n∈DataW.weightsAll P e ds
 |d0::ds,d,hd,n,hn=>by
  simp only[DataW.weightsAll,List.mem_append]
  rcases List.mem_cons.1 hd with rfl|hd
  ·exact .inl hn
  ·exact .inr (Ft hd n hn)
 | [],_,hd,_,_=>by cases hd
theorem Ll {H:Type} {enc:TypeId×Value→H} {P:Program} {W:World}:∀(fuel:Nat) (t:TypeId) (cs:List Value) (d:DataW H) (p:List MemPlace),
  DataW.trod enc P W 0 (fun _=>true) true fuel t cs=some (d,p)→(∀n∈d.weights P t,n≤reachBytes)→Good P W fuel t cs
 |0,_,_,_,_,h,_=>by simp[DataW.trod] at h
 |fuel+1,t,cs,d,p,h,hw=>by
  unfold Good
  split
  ·rename_i hu
   obtain⟨b,h1,_⟩:=DataW.trod_bool hu h
   exact⟨b,h1⟩
  ·rename_i k hu
   obtain⟨n,h1,_,h2⟩:=DataW.trod_int hu h
   exact⟨n,h1,h2⟩
  ·rename_i hu
   obtain⟨s,h1,h2,_⟩:=DataW.trod_string hu h
   cases h2
   exact⟨s,h1,by simpa using hw s.data.toList.length (by simp[DataW.weights])⟩
  ·rename_i e hu
   rcases DataW.trod_slice hu h with⟨h1,_⟩|⟨a,len,cap,elems,rest,n,hn,h1,hx,_,hl,_,hel,hi,hsp,_⟩
   ·exact .inl h1
   ·cases hn
    cases hx
    obtain⟨hrl,_⟩:=hsp rfl
    refine .inr ⟨a,len,cap,h1,hl,?_,fun i hil=>?_⟩
    ·have:=hw (((elems.map (·.1)).length+(rest.map (·.1)).length) * P.bytesOf e) (by simp[DataW.weights,hu])
     simp only[List.length_map] at this
     rwa[hel,hrl,Nat.add_sub_cancel' hl] at this
    ·have h2:=hi i hil
     have h3:elems[i]?=some (elems[i]'(by omega)):=List.getElem?_eq_getElem (by omega)
     rw[h3,Option.bind_eq_some_iff] at h2
     obtain⟨cs',k1,k2⟩:=h2
     refine⟨cs',k1,Ll fuel e cs' _ _ k2 fun w hwm=>hw w ?_⟩
     simp only[DataW.weights,hu,List.mem_cons,List.mem_append]
     exact .inr (.inl (Ft (List.mem_map.2 ⟨_,List.getElem_mem (by omega),rfl⟩) w hwm))
  ·rename_i fs hu
   obtain⟨xs,n,hn,hx,hl,hlen,hf⟩:=DataW.trod_struct hu h
   cases hn
   refine⟨hl,fun j f hj=>?_⟩
   have h1:=hf j f hj
   have hj':j<fs.size:=(Array.getElem?_eq_some_iff.1 hj).1
   have h2:xs[j]?=some (xs[j]'(by omega)):=List.getElem?_eq_getElem (by omega)
   rw[h2] at h1
   cases hx
   refine Ll fuel f.type _ (xs[j]'(by omega)).1 (xs[j]'(by omega)).2 h1 fun w hwm=>hw w ?_
   simp only[DataW.weights,hu]
   refine Lp (j:=j) (t:=f.type) (d:=(xs[j]'(by omega)).1) ?_ ?_ w hwm
   ·simp[hj]
   ·simp[h2]
  ·trivial
theorem ON {H:Type} {enc:TypeId×Value→H} {P:Program} {W:World}:∀ {ts:List TypeId} {vs:List Value} {ds:List (DataW H)} {ps:List MemPlace},
  DataW.TrodAll enc P W 0 (fun _=>true) true ts vs ds ps→(∀n∈DataW.weightsEach P ts ds,n≤reachBytes)→∀(j:Nat) (t:TypeId),ts[j]?=some t→∃v n,vs[j]?=some v∧Good P W n t v.cells.toList
 |t::ts,v::vs,d::ds,_,⟨p,q,⟨fuel,h1⟩,h2,_⟩,hw,0,t',ht=>by
  cases ht
  exact⟨v,fuel,rfl,Ll fuel t _ d p h1 fun n hn=>hw n (by simp only[DataW.weightsEach,List.mem_append];exact .inl hn)⟩
 |t::ts,v::vs,d::ds,_,⟨p,q,h1,h2,_⟩,hw,j+1,t',ht=>by
  obtain⟨v',n,k1,k2⟩:=ON h2 (fun n hn=>hw n (by simp only[DataW.weightsEach,List.mem_append];exact .inr hn)) j t' (by simpa using ht)
  exact⟨v',n,by simpa using k1,k2⟩
 | [],_,_,_,_,_,_,_,ht=>by simp at ht
theorem T9 {α:Type} {E:tG α}:∀(xs:List α) (off:Nat) (arr:List Value),(∀i x,xs[i]?=some x→∀r,r<E.sz→arr[off+i * E.sz+r]?=(E.enc x)[r]?)→(arr.drop off).take (xs.length * E.sz)=xs.flatMap E.enc
 | [],_,_,_=>by simp
 |x::xs,off,arr,h=>by
  have h1:(arr.drop off).take E.sz=E.enc x:=by
   apply List.ext_getElem?
   intro r
   by_cases hr:r<E.sz
   ·rw[List.getElem?_take_of_lt hr,List.getElem?_drop]
    have:=h 0 x rfl r hr
    simpa using this
   ·rw[List.getElem?_eq_none (by rw[List.length_take];omega),List.getElem?_eq_none (by rw[E.len];omega)]
  have h2:=T9 xs (off+E.sz) arr fun i y hy r hr=>by
   have:=h (i+1) y (by simpa using hy) r hr
   rw[show off+E.sz+i * E.sz+r=off+(i+1) * E.sz+r by rw[Nat.add_mul];omega]
   exact this
  rw[List.length_cons,Nat.add_mul,Nat.one_mul,Nat.add_comm (xs.length * E.sz),List.take_add,List.drop_drop,h1,h2,List.flatMap_cons]
theorem Ad1 {α:Type} {E:tG α} {W:World} {a:Addr} {len:Nat} {φ:α→Prop} (hsz:0<E.sz) (h:∀i,i<len→∃x,W.cells? 0 (a.add (i * E.sz)) E.sz=some (E.enc x)∧φ x):
  ∃xs:List α,xs.length=len∧lF (some a) E xs (u5 W)∧∀x∈xs,φ x:=by
 have key:∀n,n≤len→∃xs:List α,xs.length=n∧(∀i x,xs[i]?=some x→W.cells? 0 (a.add (i * E.sz)) E.sz=some (E.enc x))∧∀x∈xs,φ x:=by
  intro n
  induction n with
  |zero=>exact fun _=>⟨[],rfl,fun i x hx=>by simp at hx,fun x hx=>by cases hx⟩
  |succ n ih=>
   intro hn
   obtain⟨xs,h1,h2,h3⟩:=ih (by omega)
   obtain⟨x,h4,h5⟩:=h n (by omega)
   refine⟨xs++ [x],by simp[h1],fun i y hy=>?_,fun y hy=>?_⟩
   ·by_cases hi:i<n
    ·rw[List.getElem?_append_left (by omega)] at hy;exact h2 i y hy
    ·rw[List.getElem?_append_right (by omega)] at hy
     have:i=n:=by
      rcases Nat.lt_or_ge (i - xs.length) 1 with h|h
      ·omega
      ·rw[List.getElem?_eq_none (by simpa using h)] at hy;cases hy
     subst this
     rw[h1,Nat.sub_self] at hy
     cases hy
     exact h4
   ·rcases List.mem_append.1 hy with hy|hy
    ·exact h3 y hy
    ·cases List.mem_singleton.1 hy;exact h5
 obtain⟨xs,h1,h2,h3⟩:=key len (Nat.le_refl _)
 refine⟨xs,h1,?_,h3⟩
 cases xs with
 |nil=>exact .inl rfl
 |cons x xs=>
  have h0:=h2 0 x rfl
  obtain⟨_,hl,hc⟩:=World.cells?_some h0
  have hc0:=hc 0 hsz
  have ha:a.add (0 * E.sz)=a:=by rw[Nat.zero_mul];rfl
  rw[ha] at hc0
  have ha0:a.add 0=a:=rfl
  rw[ha0] at hc0
  have hlen:=E.len x
  have hx0:(E.enc x)[0]?=some ((E.enc x)[0]'(by omega)):=List.getElem?_eq_getElem (by omega)
  rw[hx0] at hc0
  obtain⟨B,off,sp⟩:=a
  unfold World.cell? at hc0
  simp only at hc0
  split at hc0
  ·rename_i arr e fz hB
   split at hc0
   ·cases hc0
   ·rename_i hsp
    have hsp:sp=none:=by cases sp <;> simp_all
    subst hsp
    have hlt:off<arr.size:=(Array.getElem?_eq_some_iff.1 hc0).1
    have hfl:((arr.toList).drop off).take ((x::xs).length * E.sz)=(x::xs).flatMap E.enc:=T9 (x::xs) off arr.toList fun i y hy r hr=>by
     obtain⟨_,_,hcc⟩:=World.cells?_some (h2 i y hy)
     have:=hcc r hr
     rw[mU,mU] at this
     unfold World.cell? at this
     simp only[hB] at this
     rw[← this]
     simp
    refine .inr ⟨B,arr.toList.take off,(arr.toList.drop off).drop ((x::xs).length * E.sz),e,false,?_,?_⟩
    ·rw[List.length_take,Nat.min_eq_left (by simp;omega)]
    ·unfold u5
     rw[hB]
     simp only
     rw[← hfl,List.append_assoc,List.take_append_drop,List.take_append_drop]
  ·cases hc0
end Go.Sl
namespace Go.Sl
open Go.ChangeShapes Go.WideShapes Go.ChangeAt Go.RowKit Go.Deep
section
variable {H:Type} {enc:TypeId×Value→H} {P:Program} {W:World} {base:Nat} {ds:List (DataW H)} {ps:List MemPlace}
theorem FE:∀ {ts:List TypeId} {vs:List Value} {ds:List (DataW H)} {ps:List MemPlace},DataW.TrodAll enc P W 0 (fun _=>true) true ts vs ds ps→vs.length=ts.length∧ds.length=ts.length
 | [],[],[],_,_=>⟨rfl,rfl⟩
 |_::_,_::_,_::_,_,⟨_,_,_,h,_⟩=>by obtain⟨h1,h2⟩:=FE h;simp[h1,h2]
 | [],_::_,_,_,h=>h.elim
 | [],[],_::_,_,h=>h.elim
 |_::_,[],_,_,h=>h.elim
 |_::_,_::_,[],_,h=>h.elim
variable {args:Array Value} {t0 t1 t2 t3:TypeId}
theorem Akh (hA:DataW.TrodAll enc P W 0 (fun _=>true) true [t0] args.toList ds ps):∃v0 d0,args=#[v0]∧ds= [d0]:=by
 obtain⟨l⟩:=args
 obtain⟨h1,h2⟩:=FE hA
 match l,ds,h1,h2 with
 | [v0],[d0],_,_=>exact⟨v0,d0,rfl,rfl⟩
variable {r:Reach} {b0 n:Nat} {t:TypeId} {v:Value}
theorem SS {fs:Array Field} (ht:P.underlying t=some (.struct fs)) (hv:Value.okWide P W r b0 t v) (hg:Good P W n t v.cells.toList):∃cs:List Value,v=.agg cs.toArray∧Good P W n t cs:=by
 obtain⟨cs,rfl,_⟩:=okWide_struct ht hv
 exact⟨cs.toList,rfl,hg⟩
end
section
variable {P:Program} {W:World} {n:Nat} {t:TypeId} {cs:List Value}
theorem fL {k:IntKind} (ht:P.underlying t=some (.int k)) (hg:Good P W n t cs):∃i,cs= [.int k i]∧(Lit.int k i).wf=true:=by
 cases n with
 |zero=>exact hg.elim
 |succ n=>simpa only[Good,ht] using hg
theorem Ws (ht:P.underlying t=some .bool) (hg:Good P W n t cs):∃b,cs= [.bool b]:=by
 cases n with
 |zero=>exact hg.elim
 |succ n=>simpa only[Good,ht] using hg
theorem PD (ht:P.underlying t=some .string) (hg:Good P W n t cs):∃s:ByteArray,cs= [.string s]∧s.size≤reachBytes:=by
 cases n with
 |zero=>exact hg.elim
 |succ n=>simpa only[Good,ht] using hg
theorem Rp {e:TypeId} (ht:P.underlying t=some (.slice e)) (hg:Good P W n t cs):cs= [.slice none 0 0]∨∃a len cap m,cs= [.slice (some a) len cap]∧len≤cap∧cap * P.bytesOf e≤reachBytes∧
    ∀i,i<len→∃cs',W.cells? 0 (a.add (i * P.cellsOf e)) (P.cellsOf e)=some cs'∧Good P W m e cs':=by
 cases n with
 |zero=>exact hg.elim
 |succ n=>
  simp only[Good,ht] at hg
  rcases hg with hg|⟨a,len,cap,h⟩
  ·exact .inl hg
  ·exact .inr ⟨a,len,cap,n,h⟩
theorem nT {fs:Array Field} (ht:P.underlying t=some (.struct fs)) (hg:Good P W n t cs):∃m,cs.length=P.cellsOf t∧∀(j:Nat) (f:Field),fs[j]?=some f→Good P W m f.type ((cs.drop f.offset).take (P.cellsOf f.type)):=by
 cases n with
 |zero=>exact hg.elim
 |succ n=>
  simp only[Good,ht] at hg
  exact⟨n,hg⟩
end
end Go.Sl
namespace Go.Sl
section
variable {P:Program} {C:List HP} {a:Fr} {d:Option Tmp} {ty:TypeId} {pos:String} {after:Array Edge} {g:Option (Nat×Bool)} {t yt:TypeId} {x y z:Operand}
theorem Ae1 {k yk:IntKind} {m n:Int} (hx:bJ a x=.int k m) (hy:bJ a y=.int yk n) (h0:0≤n) (h1:n≤k.bits):bX P ⟨d,.binOp .shr t x y yt,ty,pos,after,g⟩ a=some (.int k (m / 2 ^ n.toNat)):=by
 have:=Aaa (P:=P) (d:=d) (t:=t) (yt:=yt) (ty:=ty) (pos:=pos) (after:=after) (g:=g) hx hy (by omega)
 rw[this,Nat.min_eq_left (by omega)]
 congr 2
 exact Int.fdiv_eq_ediv_of_nonneg m (Int.le_of_lt (Int.pow_pos (by decide)))
end
theorem Ajg (m:Int) (h0:-9223372036854775808≤m) (h1:m≤9223372036854775807):IntKind.i64.wrap ((BitVec.ofInt 64 m &&& ~~~(BitVec.ofInt 64 0)).toNat)=m:=by
 have e:(BitVec.ofInt 64 m &&& ~~~(BitVec.ofInt 64 0))=BitVec.ofInt 64 m:=by
  have: ~~~(BitVec.ofInt 64 0)=BitVec.allOnes 64:=by decide
  rw[this,BitVec.and_allOnes]
 rw[e]
 simp only[BitVec.toNat_ofInt,IntKind.wrap,IntKind.bits,IntKind.signed]
 simp
 omega
theorem Ajj (m:Int) (h0:-9223372036854775808≤m) (h1:m≤9223372036854775807):IntKind.i64.wrap ((BitVec.ofInt 64 m &&& ~~~(BitVec.ofInt 64 1)).toNat)=m - m % 2:=by
 have e:(BitVec.ofInt 64 m &&& ~~~(BitVec.ofInt 64 1)).toNat=((BitVec.ofInt 64 m).toNat / 2) * 2:=by
  have:(BitVec.ofInt 64 m &&& ~~~(BitVec.ofInt 64 1))=(BitVec.ofInt 64 m >>> 1) <<< 1:=by
   apply BitVec.eq_of_getLsbD_eq
   intro i hi
   have h1:BitVec.ofInt 64 1=1#64:=by decide
   rw[h1]
   have k:∀j:Nat,j<64→(~~~(1#64)).getLsbD j=decide (1≤j):=by decide
   rw[BitVec.getLsbD_and,k i hi,BitVec.getLsbD_shiftLeft,BitVec.getLsbD_ushiftRight]
   by_cases h:1≤i
   ·have e:1+(i - 1)=i:=by omega
    simp[h,hi,e]
    intro;omega
   ·have e:i=0:=by omega
    subst e
    simp
  rw[this]
  have:=(BitVec.ofInt 64 m).isLt
  simp[BitVec.toNat_shiftLeft,BitVec.toNat_ushiftRight,Nat.shiftLeft_eq,Nat.shiftRight_eq_div_pow]
  omega
 rw[e]
 simp only[BitVec.toNat_ofInt,IntKind.wrap,IntKind.bits,IntKind.signed]
 simp
 omega
section
variable {P:Program} {ops:Array Oper} {Q:Fr→List HP→Prop} {a:Fr} {C:List HP} {c:Nat} {gd:Bool} {es:ET} {hist:List (List HP)} {d':Tmp} {v:Value}
variable {ty:TypeId} {pos:String} {after:Array Edge} {g:Option (Nat×Bool)} {t yt:TypeId} {x y:Operand}
theorem Ri {d:Option Tmp} {m:Int} (hx:bJ a x=.int .i64 m) (hy:bJ a y=.int .i64 0) (h0:-9223372036854775808≤m) (h1:m≤9223372036854775807):bX P ⟨d,.binOp .andNot t x y yt,ty,pos,after,g⟩ a=some (.int .i64 m):=
 B3 hx hy rfl (by show some (Value.int .i64 _)=_;rw[show IntKind.i64.bits=64 from rfl,Ajg m h0 h1])
theorem Sr {d:Option Tmp} {m:Int} (hx:bJ a x=.int .i64 m) (hy:bJ a y=.int .i64 1) (h0:-9223372036854775808≤m) (h1:m≤9223372036854775807):bX P ⟨d,.binOp .andNot t x y yt,ty,pos,after,g⟩ a=some (.int .i64 (m - m % 2)):=
 B3 hx hy rfl (by show some (Value.int .i64 _)=_;rw[show IntKind.i64.bits=64 from rfl,Ajj m h0 h1])
theorem EA {m:Int} (h:cV gd (.int .i64 m) fun v=>aM P ops Q es hist (j9 a d' v) C) (hx:bJ a x=.int .i64 m:=by exact rfl) (hy:bJ a y=.int .i64 0:=by exact rfl) (h0:-9223372036854775808≤m:=by first|omega|assumption) (h1:m≤9223372036854775807:=by first|omega|assumption) (hw:bD ops ⟨some d',.binOp .andNot t x y yt,ty,pos,after,g⟩ a=true:=by exact rfl):aM P ops Q (ET.cons (c,gd,⟨some d',.binOp .andNot t x y yt,ty,pos,after,g⟩) es) hist a C:=
 fW rfl hw (Ri hx hy h0 h1) h
theorem E9 {m:Int} (h:cV gd (.int .i64 (m - m % 2)) fun v=>aM P ops Q es hist (j9 a d' v) C) (hx:bJ a x=.int .i64 m:=by exact rfl) (hy:bJ a y=.int .i64 1:=by exact rfl) (h0:-9223372036854775808≤m:=by first|omega|assumption) (h1:m≤9223372036854775807:=by first|omega|assumption) (hw:bD ops ⟨some d',.binOp .andNot t x y yt,ty,pos,after,g⟩ a=true:=by exact rfl):aM P ops Q (ET.cons (c,gd,⟨some d',.binOp .andNot t x y yt,ty,pos,after,g⟩) es) hist a C:=
 fW rfl hw (Sr hx hy h0 h1) h
end
theorem Aim {b:Bool} (h:b=false):(!b)=true:=by rw[h];rfl
theorem Ahn {b:Bool} (h:b=true):(!b)=false:=by rw[h];rfl
theorem yD {α:Type} [BEq α] [LawfulBEq α] (x:α):(!(x == x))=false:=by rw[beq_self_eq_true];rfl
theorem Lr {p:Fr→Prop} {a:Fr} (l:List (Nat×Value)) (h:dC a l) (k:p (fN a l)):p a:=by rw[UU h] at k;exact k
def Akz:List Value→Option (List Int)
 | []=>some []
 |.int .u8 z::cs=>match Akz cs with
  |some zs=>some (z::zs)
  |none=>none
 |_=>none
def Ak2:List Int→Prop
 | []=>True
 |z::l=>(0≤z∧z<256)∧Ak2 l
section
variable {P:Program} {ops:Array Oper} {Q:Fr→List HP→Prop} {a:Fr} {C:List HP} {c:Nat} {gd:Bool} {es:ET} {hist:List (List HP)} {d':Tmp} {d:Option Tmp} {v:Value}
variable {ty:TypeId} {pos:String} {after:Array Edge} {g:Option (Nat×Bool)} {t yt:TypeId} {x y z:Operand} {op:Op}
theorem P7 {k yk:IntKind} {m n:Int} (h:cV gd (.int k (m / 2 ^ n.toNat)) fun v=>aM P ops Q es hist (j9 a d' v) C) (hx:bJ a x=.int k m:=by exact rfl) (hy:bJ a y=.int yk n:=by exact rfl)
  (h0:0≤n:=by first|omega|assumption) (h1:n≤k.bits:=by first|assumption|(show _≤((64:Nat):Int);omega)|(show _≤((8:Nat):Int);omega)) (hw:bD ops ⟨some d',.binOp .shr t x y yt,ty,pos,after,g⟩ a=true:=by exact rfl):aM P ops Q (ET.cons (c,gd,⟨some d',.binOp .shr t x y yt,ty,pos,after,g⟩) es) hist a C:=
 fW rfl hw (Ae1 hx hy h0 h1) h
theorem NV {n f:Nat} (h:(match wM P t f with|some m=>yS m|none=>none)=some n):wM P t f=some n:=by
 split at h
 ·rename_i m hm;rw[hm,mW h]
 ·cases h
theorem bA {B off n f:Nat} (h:cV gd (.pointer (some ⟨B,off+n,none⟩)) fun v=>aM P ops Q es hist (j9 a d' v) C) (hx:bJ a x=.pointer (some ⟨B,off,none⟩):=by exact rfl)
  (hf:(match wM P t f with|some m=>yS m|none=>none)=some n:=by exact rfl) (hw:bD ops ⟨some d',.fieldAddr t x f,ty,pos,after,g⟩ a=true:=by exact rfl):aM P ops Q (ET.cons (c,gd,⟨some d',.fieldAddr t x f,ty,pos,after,g⟩) es) hist a C:=
 fW rfl hw (D9 hx (NV hf)) h
theorem lA {t' e:TypeId} {s:ByteArray} (h:∀r N,cV gd (.slice (some ⟨r,0,none⟩) s.size N) fun v=>aM P ops Q es (C::hist) (j9 a d' v) (bU (some ⟨r,0,none⟩) N e dF s.data.toList::C))
  (hx:bJ a x=.string s:=by exact rfl) (hs:nG P t=true:=by exact rfl) (ht:GA P t'=some e:=by exact rfl)
  (hk:kd P (.convert t t' x)=.other:=by exact rfl) (hw:bD ops ⟨some d',.convert t t' x,ty,pos,after,g⟩ a=true:=by exact rfl):aM P ops Q (ET.cons (c,gd,⟨some d',.convert t t' x,ty,pos,after,g⟩) es) hist a C:=
 wV hk hw fun H hH=>Oq hs ht hx fun r N hr hN=>⟨_,hJ (B:=r) (pre:= []) (post:=List.replicate (N - s.size) (.int .u8 0)) rfl (by rw[m9,List.nil_append];exact qY hr hH) (by simpa using hN) (by simp[dF]),h r N⟩
end
end Go.Sl
namespace Go.Sl
theorem Abv {A B:HP} (pa:Fj A) (pb:Fj B) (ma:Ag A) (mb:Ag B):Fj (Aj2 A B):=fun H ⟨ha,hb⟩=>by
 obtain⟨X,x1,x2,x3⟩:=pa H ha
 obtain⟨Y,y1,y2,y3⟩:=pb H hb
 have hxy:s3 X Y:=fun r b c hb hc=>⟨x3 r b hb,y3 r c hc⟩
 refine⟨sU X Y,wK x1 y1,⟨ma _ _ x2 (pR _ _),mb _ _ y2 (nQ hxy x1 y1)⟩,fun r b hb=>?_⟩
 unfold sU at hb
 split at hb
 ·rename_i a ha;cases hb;exact x3 _ _ ha
 ·exact y3 _ _ hb
section
variable {α:Type} {P:α→HP}
def kB (P:α→HP) (l:List α):HP:=fun H=>∀x∈l,P x H
theorem Qj (m:∀x,Ag (P x)) (l:List α):Ag (kB P l):=fun H H' h hl x hx=>m x H H' (h x hx) hl
theorem IN (p:∀x,Fj (P x)) (m:∀x,Ag (P x)):∀l:List α,Fj (kB P l)
 | []=>fun H _=>⟨fun _=>none,(fun _ _ h=>by cases h),(fun _ h=>by cases h),(fun _ _ h=>by cases h)⟩
 |x::l=>fun H h=>by
  obtain⟨X,x1,x2,x3⟩:=Abv (p x) (IN p m l) (m x) (Qj m l) H ⟨h x (by simp),fun y hy=>h y (by simp[hy])⟩
  exact⟨X,x1,fun y hy=>by
   rcases List.mem_cons.1 hy with rfl|hy
   ·exact x2.1
   ·exact x2.2 y hy,x3⟩
theorem Pd {C:List HP} {H:Hp} (hs:bV C H):bV (kB P []::C) H:=
 ⟨fun _=>none,H,(fun _ _ _ h=>by cases h),(fun _ _ h=>by cases h),Bj.refl H,(fun _ h=>by cases h),hs⟩
theorem aG.allnil {C C':List HP} (h:aG C C'):aG C (kB P []::C'):=fun H hs=>Pd (h H hs)
theorem aG.allsnoc {C:List HP} {l:List α} {x:α} (p:∀x,Fj (P x)) (m:∀x,Ag (P x)):aG (P x::kB P l::C) (kB P (l++ [x])::C):=fun H hs=>by
 have h:=XT (p x) (IN p m l) (m x) (Qj m l) hs
 refine aG.imp (fun H ⟨h1,h2⟩ y hy=>?_) (aG.refl C) H h
 rcases List.mem_append.1 hy with hy|hy
 ·exact h2 y hy
 ·cases List.mem_singleton.1 hy;exact h1
theorem aG.allget {C:List HP} {l:List α} {x:α} (p:∀x,Fj (P x)) (m:∀x,Ag (P x)) (hx:x∈l):aG (kB P l::C) (P x::kB P l::C):=fun H hs=>
 aG.imp (fun H h=>h x hx) (aG.refl _) H (hs.dup (IN p m l))
theorem aG.allsub {C:List HP} {l l':List α} (h:∀x∈l',x∈l):aG (kB P l::C) (kB P l'::C):=aG.imp (fun _ k x hx=>k x (h x hx)) (aG.refl _)
end
end Go.Sl
namespace Go.Sl
def nR:Code→List Code
 |.seq x y=>nR x++nR y
 |.cond _ x y=>nR x++nR y
 |.block _ c=>nR c
 |.scope c=>nR c
 |.loop c=>nR c
 |.region id o d=> [.region id o d]
 |_=> []
def Zt (f:Func) (k:Nat):Code:=match f.body with
 |some c=>((nR c).find? fun r=>match r with|.region id _ _=>id == k|_=>false).getD .skip
 |none=>.skip
theorem Air {P:Program} {Q:Exit→Fr→List HP→Prop} {a:Fr} {C:List HP} {x:Code} {id:Nat} (I:Fr→List HP→Prop)
  (h:fG P x (aN id (bP (dO I) Q)) a C) (k:∀a C,I a C→Ak3 (Q .normal a C)):fG P (.block id x) Q a C:=fun H hs=>
 vY _ (fun e a H hq=>by
  obtain⟨C',h1,h2⟩:=hq
  cases e <;> first
   |exact⟨C',h1,h2⟩
   |(obtain⟨C'',hE,hI⟩:=h2;exact⟨C'',hE H h1,(k _ _ hI).h⟩)) a H (Gi (id:=id) (Q:=bP (dO I) Q) h H hs)
end Go.Sl
end
section
namespace Go.Sl
theorem UJ:∀(vs mid post:List Value),vs.length≤mid.length→Wh vs (mid++post)=Wh vs mid++post
 | [],_,_,_=>by simp[Wh]
 |v::vs,[],_,h=>by simp at h
 |v::vs,m::mid,post,h=>by
  have:=UJ vs mid post (by simpa using h)
  simp[Wh,this]
theorem DI:∀(pre l:List Value) (n:Nat) (vs:List Value),uL (pre++l) (pre.length+n) vs=pre++uL l n vs
 | [],l,n,vs=>by simp
 |p::pre,l,n,vs=>by
  have:=DI pre l n vs
  rw[List.length_cons,show pre.length+1+n=(pre.length+n)+1 by omega,List.cons_append]
  show p::uL (pre++l) (pre.length+n) vs=_
  rw[this];rfl
theorem IU:∀(mid post:List Value) (k:Nat) (vs:List Value),k+vs.length≤mid.length→uL (mid++post) k vs=uL mid k vs++post
 |mid,post,0,vs,h=>by
  have z:∀l,uL l 0 vs=Wh vs l:=fun l=>by cases l <;> rfl
  rw[z,z]
  exact UJ vs mid post (by omega)
 | [],post,k+1,vs,h=>by simp at h
 |m::mid,post,k+1,vs,h=>by
  show m::uL (mid++post) k vs=m::(uL mid k vs++post)
  rw[IU mid post k vs (by simp at h;omega)]
section
variable {α:Type} {E:tG α} {xs:List α}
theorem Abo {j k:Nat} {y y':α} {vs pre post:List Value} (hj:xs[j]?=some y) (hk:k+vs.length≤E.sz) (he:uL (E.enc y) k vs=E.enc y'):
  uL (pre++xs.flatMap E.enc++post) (pre.length+(j * E.sz+k)) vs=pre++(xs.set j y').flatMap E.enc++post:=by
 have hlt:j<xs.length:=by
  rcases Nat.lt_or_ge j xs.length with h|h
  ·exact h
  ·rw[List.getElem?_eq_none h] at hj;cases hj
 have e1:xs=xs.take j++y::xs.drop (j+1):=by
  have h2:=List.drop_eq_getElem_cons hlt
  rw[List.getElem?_eq_getElem hlt] at hj
  cases hj
  rw[← h2,List.take_append_drop]
 have e2:xs.set j y'=xs.take j++y'::xs.drop (j+1):=List.set_eq_take_append_cons_drop▸(by rw[if_pos hlt])
 have hl:((xs.take j).flatMap E.enc).length=j * E.sz:=by rw[E.flat_len,List.length_take,Nat.min_eq_left (by omega)]
 have hE:=E.len y
 rw[e2,List.append_assoc,DI]
 have e3:xs.flatMap E.enc++post=(xs.take j).flatMap E.enc++(E.enc y++((xs.drop (j+1)).flatMap E.enc++post)):=by
  conv=>lhs;rw[e1]
  simp only[List.flatMap_append,List.flatMap_cons,List.append_assoc]
 rw[e3,← hl,DI,IU _ _ _ _ (by omega),he]
 simp only[List.flatMap_append,List.flatMap_cons,List.append_assoc]
variable {P:Program} {ops:Array Oper} {Q:Fr→List HP→Prop} {a:Fr} {C R:List HP} {c:Nat} {gd:Bool} {es:ET} {hist:List (List HP)}
variable {ty:TypeId} {pos:String} {after:Array Edge} {g:Option (Nat×Bool)} {t:TypeId} {x z:Operand}
theorem GC {B off j k c0 n sz:Nat} {e:TypeId} {vs:List Value} {u:Value} {y y':α} (h:aM P ops Q es (C::hist) a (bU (some ⟨B,off,none⟩) c0 e E (xs.set j y')::R)) (hx:bJ a x=.pointer (some ⟨B,off+j * sz+k,none⟩):=by exact rfl)
  (hp:aT (bU (some ⟨B,off,none⟩) c0 e E xs) C R:=by((repeat (first|exact aT.here|apply aT.there)) <;> exact aT.here)) (hsz:E.sz=sz:=by exact rfl) (hy:g8 (bJ a z)=some u:=by exact rfl) (hvs:mK u.cells.toList=some vs:=by exact rfl) (ht:pC P t=some n:=by exact rfl)
  (hn:(vs.length == n)=true:=by exact rfl) (mA:(vs.all Value.oneCell')=true:=by exact rfl) (hle:Nat.ble (k+n) sz=true:=by exact rfl) (hj:xs[j]?=some y:=by first|assumption|exact rfl) (hs:E.dec (uL (E.enc y) k vs)=some y':=by exact rfl)
  (hw:bD ops ⟨none,.store t x z,ty,pos,after,g⟩ a=true:=by exact rfl):aM P ops Q (ET.cons (c,gd,⟨none,.store t x z,ty,pos,after,g⟩) es) hist a C:=
 Ack (hw:=hw) fun H hH=>by
  have hn':vs.length=n:=by simpa using hn
  have hle':k+n≤sz:=by simpa using hle
  rcases kI (hp.sats hH) with⟨h1,_⟩|⟨B',pre,post,h1,h2,h3,h4⟩
  ·cases h1
  ·cases h1
   subst hsz
   have hlt:j<xs.length:=by
    rcases Nat.lt_or_ge j xs.length with h|h
    ·exact h
    ·rw[List.getElem?_eq_none h] at hj;cases hj
   have hfl:=E.flat_len xs
   have hmul:(j+1) * E.sz≤xs.length * E.sz:=Nat.mul_le_mul_right _ hlt
   rw[Nat.add_mul,Nat.one_mul] at hmul
   refine NF hx (fV hy) (kE hvs) ht hn' mA (m6 h2).1 (by simp only[List.length_append,hfl];omega) ?_
   rw[← Gh,show pre.length+j * E.sz+k=pre.length+(j * E.sz+k) by omega,Abo hj (by omega) (E.ok _ _ hs).symm]
   exact⟨_,hJ rfl (rF h2) (by rw[List.length_set];exact h3) (by rw[List.length_set];exact h4),h⟩
theorem tE {B off j c0 n sz:Nat} {e:TypeId} {vs:List Value} {u:Value} {y y':α} (h:aM P ops Q es (C::hist) a (bU (some ⟨B,off,none⟩) c0 e E (xs.set j y')::R)) (hx:bJ a x=.pointer (some ⟨B,off+j * sz,none⟩):=by exact rfl)
  (hp:aT (bU (some ⟨B,off,none⟩) c0 e E xs) C R:=by((repeat (first|exact aT.here|apply aT.there)) <;> exact aT.here)) (hsz:E.sz=sz:=by exact rfl) (hy:g8 (bJ a z)=some u:=by exact rfl) (hvs:mK u.cells.toList=some vs:=by exact rfl) (ht:pC P t=some n:=by exact rfl)
  (hn:(vs.length == n)=true:=by exact rfl) (mA:(vs.all Value.oneCell')=true:=by exact rfl) (hle:Nat.ble (0+n) sz=true:=by exact rfl) (hj:xs[j]?=some y:=by first|assumption|exact rfl) (hs:E.dec (uL (E.enc y) 0 vs)=some y':=by exact rfl)
  (hw:bD ops ⟨none,.store t x z,ty,pos,after,g⟩ a=true:=by exact rfl):aM P ops Q (ET.cons (c,gd,⟨none,.store t x z,ty,pos,after,g⟩) es) hist a C:=
 GC (k:=0) h (by rw[hx,Nat.add_zero]) hp hsz hy hvs ht hn mA hle hj hs hw
end
end Go.Sl
namespace Go.Sl
theorem aG.unsep {A B:HP} {C:List HP}:aG (Go.Sl.sep A B::C) (A::B::C):=fun _ hs=>bV.star (l:= [A,B]) hs
def Ahq (n:Nat):Option Nat:=if n<95 then yS n else if n<190 then(yS (n - 95)).map (·+95) else(yS (n - 190)).map (·+190)
theorem Ad3 {n m:Nat} (h:Ahq n=some m):n=m:=by
 unfold Ahq at h
 split at h
 ·exact mW h
 ·split at h
  ·cases h1:yS (n - 95) with
   |none=>rw[h1] at h;cases h
   |some k=>rw[h1] at h;cases h;have:=mW h1;show n=k+_;omega
  ·cases h1:yS (n - 190) with
   |none=>rw[h1] at h;cases h
   |some k=>rw[h1] at h;cases h;have:=mW h1;show n=k+_;omega
def ZZ (P:Program) (st xt:TypeId):Option (TypeId×Nat×Nat):=match N1 P st xt with
 |some (e,sz,b)=>match yS sz with
  |some sz=>match Ahq b with
   |some b=>some (e,sz,b)
   |none=>none
  |none=>none
 |none=>none
theorem SY {P:Program} {st xt e:TypeId} {sz b:Nat} (h:ZZ P st xt=some (e,sz,b)):∃inf z,P.underlying st=some (.slice e)∧AS P xt=true∧P.info? e=some inf∧inf.zero=some z∧z.cells.size=inf.size∧inf.bytes≠0∧inf.size=sz∧inf.bytes=b:=by
 unfold ZZ at h
 split at h
 ·rename_i e' sz' b' h0
  split at h
  ·rename_i sz2 h1
   split at h
   ·rename_i b2 h2
    cases h
    unfold N1 at h0
    split at h0
    ·rename_i e2 hst
     split at h0
     ·rename_i inf hi
      split at h0
      ·rename_i z hz
       split at h0
       ·rename_i hc
        cases h0
        exact⟨inf,z,hst,hc.2.2,hi,hz,hc.1,hc.2.1,mW h1,Ad3 h2⟩
       ·cases h0
      ·cases h0
     ·cases h0
    ·cases h0
   ·cases h
  ·cases h
 ·cases h
section
variable {α:Type} {E:tG α} {xs:List α}
variable {P:Program} {ops:Array Oper} {Q:Fr→List HP→Prop} {a:Fr} {C R:List HP} {c d':Nat} {d:Option Tmp} {gd:Bool} {es:ET} {hist:List (List HP)}
variable {ty:TypeId} {pos:String} {after:Array Edge} {g:Option (Nat×Bool)} {x y:Operand}
theorem H9 {st xt e:TypeId} {sz bytes cp c0 n:Nat} {A:Option Addr} {ys:List α} {u:Value} {R:List HP} {k:Value→List HP→Prop} (ht:ZZ P st xt=some (e,sz,bytes)) (hsz:E.sz=sz) (hx:bJ a x=.slice A n cp) (hn:xs.length=n) (hy:bJ a y=u) (hsrc:YN P C u E ys)
  (hp:aT (bU A c0 e E xs) C R) (hcc:cp=c0∨(n≤cp∧cp≤c0)) (hbig:(2 * (n+ys.length)+512) * bytes≤281474976710656)
  (hk:∀A' c',k (.slice A' (xs++ys).length c') (bU A' c' e E (xs++ys)::R)):zT P ⟨d,.call { callee:=.builtin .append,args:=#[x,y],argTypes:=#[st,xt] },ty,pos,after,g⟩ a C k:=fun H hs=>by
 obtain⟨inf,zz,h1,h2,h3,h4,h5,h6,h7,rfl⟩:=SY ht
 subst hsz
 have hrs:=hp.sats hs
 have hr:=kI hrs
 have hcl:n≤cp∧cp≤c0:=by
  rcases hcc with rfl|h
  ·rcases hr with⟨g1,g2,g3,g4⟩|⟨B,pre,post,g1,g2,g3,g4⟩
   ·subst g2 g3;simp at hn;omega
   ·omega
  ·exact h
 obtain⟨hcp,hc0⟩:=hcl
 have hmn:(xs++ys).length=n+ys.length:=by rw[List.length_append,hn]
 refine fD ?_
 simp only[execOp,resolve,List.map_toArray,List.map_cons,List.map_nil,hx,hy]
 rw[aJ,aP (show(pure _:Sem Deferred).pr P=some _ from rfl)]
 simp only[invoke,builtin,aJ]
 obtain⟨hlen,hcells⟩:=hsrc
 rw[hmn] at hk
 refine IE (xs:=xs.flatMap E.enc) (news:=ys.flatMap E.enc) h1 h2 h3 h4 h5 hlen (by rw[h7];exact hcells H hs) (by rw[E.flat_len,h7]) (E.flat_one ys) (by rw[E.flat_len,hn,h7]) ?_ hbig h6 ?_ ?_ ?_
 ·rcases hr with⟨g1,g2,g3,g4⟩|⟨B,pre,post,g1,g2,g3,g4⟩
  ·subst g2;simp at hn;exact .inl ⟨g1,by omega,by omega⟩
  ·refine .inr ⟨B,pre,post,e,true,g1,(m6 g2).1,hcp,?_,.inr (.inl rfl)⟩
   rw[h7]
   exact Nat.le_trans (Nat.mul_le_mul_right _ (by omega)) g4
 ·intro hm0
  have hys:ys= []:=by simpa using hm0
  have hk':=hk A cp
  subst hys
  rw[List.append_nil,List.length_nil,Nat.add_zero] at hk'
  refine⟨_,?_,hk'⟩
  rcases hr with⟨g1,g2,g3,g4⟩|⟨B,pre,post,g1,g2,g3,g4⟩
  ·subst g1 g2 g3
   have:cp=0:=by omega
   subst this
   exact sW g4
  ·exact hJ g1 g2 (by omega) (Nat.le_trans (Nat.mul_le_mul_right _ (by omega)) g4)
 ·intro B pre post e' hA hB hle hpl
  rcases hr with⟨g1,_⟩|⟨B',pre',post',g1,g2,g3,g4⟩
  ·rw[g1] at hA;cases hA
  ·rw[g1] at hA
   have hBB:B'=B:=congrArg Addr.block (Option.some.inj hA)
   subst hBB
   have hpre:pre'.length=pre.length:=congrArg Addr.off (Option.some.inj hA)
   have hB':=(m6 g2).1
   rw[hB'] at hB
   injection hB with hB
   injection hB with hcs he _
   subst he
   rw[List.append_assoc,List.append_assoc] at hcs
   obtain⟨q1,q2⟩:=List.append_inj hcs hpre
   obtain⟨_,q3⟩:=List.append_inj q2 rfl
   subst q1 q3
   refine⟨_,hJ (pre:=pre') (post:=post'.drop (ys.flatMap E.enc).length) g1 ?_ (by rw[hmn];exact hle) ?_,hk A cp⟩
   ·rw[List.flatMap_append]
    exact rF g2
   ·rw[hmn,List.length_drop,E.flat_len,← Nat.sub_sub,Nat.sub_mul,← h7]
    omega
 ·intro r post N hr0 hN hpl _
  refine⟨_,hJ (pre:= []) (post:=post) rfl ?_ (by rw[hmn];exact hN) (by rw[hmn,hpl,h7];exact Nat.le_refl _),hk _ N⟩
  rw[List.flatMap_append,List.nil_append]
  exact qY hr0 hrs.tail
theorem nX {st xt e:TypeId} {sz bytes cp c0 n:Nat} {A:Option Addr} {ys:List α} {u:Value} {R:List HP} (h:∀A' c',cV gd (.slice A' (xs++ys).length c') fun v=>aM P ops Q es (C::hist) (j9 a d' v) (bU A' c' e E (xs++ys)::R))
  (hx:bJ a x=.slice A n cp:=by exact rfl) (hy:bJ a y=u:=by exact rfl) (ht:ZZ P st xt=some (e,sz,bytes):=by exact rfl) (hp:aT (bU A c0 e E xs) C R:=by((repeat (first|exact aT.here|apply aT.there)) <;> exact aT.here)) (hsrc:YN P C u E ys:=by first|exact DC|exact xP|exact Gv|exact rE) (hsz:E.sz=sz:=by exact rfl) (hn:xs.length=n:=by first|exact rfl|assumption|omega)
  (hcc:cp=c0∨(n≤cp∧cp≤c0):=by first|exact .inl rfl|exact .inr ⟨by omega,by omega⟩) (hbig:(2 * (n+ys.length)+512) * bytes≤281474976710656:=by first|omega|assumption|(simp only[List.length_cons,List.length_nil];omega))
  (hw:bD ops ⟨some d',.call { callee:=.builtin .append,args:=#[x,y],argTypes:=#[st,xt] },ty,pos,after,g⟩ a=true:=by exact rfl):aM P ops Q (ET.cons (c,gd,⟨some d',.call { callee:=.builtin .append,args:=#[x,y],argTypes:=#[st,xt] },ty,pos,after,g⟩) es) hist a C:=
 G_o (hw:=hw) (H9 ht hsz hx hn hy hsrc hp hcc hbig h)
theorem GR {st xt e:TypeId} {sz bytes:Nat} {ys:List α} {u:Value} (h:∀A' c',cV gd (.slice A' ys.length c') fun v=>aM P ops Q es (C::hist) (j9 a d' v) (bU A' c' e E ys::C))
  (hx:bJ a x=.slice none 0 0:=by exact rfl) (hy:bJ a y=u:=by exact rfl) (ht:ZZ P st xt=some (e,sz,bytes):=by exact rfl) (hsrc:YN P C u E ys:=by first|exact DC|exact xP|exact Gv|exact rE) (hsz:E.sz=sz:=by exact rfl)
  (hbig:(2 * (0+ys.length)+512) * bytes≤281474976710656:=by first|omega|assumption|(simp only[List.length_cons,List.length_nil];omega))
  (hw:bD ops ⟨some d',.call { callee:=.builtin .append,args:=#[x,y],argTypes:=#[st,xt] },ty,pos,after,g⟩ a=true:=by exact rfl):aM P ops Q (ET.cons (c,gd,⟨some d',.call { callee:=.builtin .append,args:=#[x,y],argTypes:=#[st,xt] },ty,pos,after,g⟩) es) hist a C:=
 G_o (hw:=hw) (zT.ent (aG.nilrow e E C) (H9 (xs:= []) ht hsz hx rfl hy ⟨hsrc.1,fun H hs=>hsrc.2 H hs.tail⟩ aT.here (.inl rfl) hbig h))
end
end Go.Sl
namespace Go.Sl
section
variable {α:Type} {E:tG α} {A:Option Addr} {c:Nat} {e:TypeId} {l:List α} {C R:List HP}
theorem GJ {H:Hp} (hs:bV (bU A c e E l::R) H):l.length≤c:=by
 rcases kI hs with⟨_,g2,_⟩|⟨_,_,_,_,_,g,_⟩
 ·subst g2;simp
 ·exact g
theorem iB {P:Program} {f:FuncId} {args:Array Value} {K:Value→List HP→Prop} (hp:aT (bU A c e E l) C R) (h:l.length≤c→aA P f args C K):aA P f args C K:=fun H hs=>h (GJ (hp.sats hs)) H hs
theorem OA {P:Program} {x:Code} {Q:Exit→Fr→List HP→Prop} {a:Fr} (hp:aT (bU A c e E l) C R) (h:l.length≤c→fG P x Q a C):fG P x Q a C:=fun H hs=>h (GJ (hp.sats hs)) H hs
theorem U9 {P:Program} {x:Code} {Q:Exit→Fr→List HP→Prop} {a:Fr} {B D:HP} (h:fG P x Q a (B::D::C)):fG P x Q a (sep B D::C):=fun H hs=>h H (aG.unsep H hs)
end
end Go.Sl
namespace Go.Sl
theorem aA.entK {P:Program} {f:FuncId} {args:Array Value} {C:List HP} {K:Value→List HP→Prop} (h:aA P f args C fun v C=>∃C',aG C C'∧K v C'):aA P f args C K:=fun H hs=>
 (h H hs).mono fun _ H' ⟨_,h1,C',h2,h3⟩=>⟨C',h2 H' h1,h3⟩
end Go.Sl
namespace Go.Sl
section
variable {P:Program} {a:Fr} {d:Option Tmp} {ty:TypeId} {pos:String} {after:Array Edge} {g:Option (Nat×Bool)} {x y:Operand}
theorem Aca (pre mid post vs:List Value) (h:mid.length=vs.length):uL (pre++mid++post) pre.length vs=pre++vs++post:=by
 have h1:=DI pre (mid++post) 0 vs
 rw[Nat.add_zero] at h1
 rw[List.append_assoc,h1,IU mid post 0 vs (by omega)]
 have h2:∀(vs mid:List Value),mid.length=vs.length→Wh vs mid=vs:=by
  intro vs
  induction vs with
  |nil=>intro mid h;rw[List.length_eq_zero_iff.1 h];rfl
  |cons v vs ih=>
   intro mid h
   cases mid with
   |nil=>simp at h
   |cons m mid=>simp only[Wh];rw[ih mid (by simpa using h)]
 have z:∀l,uL l 0 vs=Wh vs l:=fun l=>by cases l <;> rfl
 rw[z,h2 vs mid h,List.append_assoc]
theorem Y1 {st xt e:TypeId} {B off j dl dc c0:Nat} {s:ByteArray} {xs:List UInt8} {C R:List HP} {k:Value→List HP→Prop} (hst:P.underlying st=some (.slice e)) (hi:pC P e=some 1) (hx:bJ a x=.slice (some ⟨B,off+j,none⟩) dl dc) (hy:bJ a y=.string s)
  (hp:aT (bU (some ⟨B,off,none⟩) c0 e dF xs) C R) (hj:j+min s.size dl≤xs.length)
  (hk:k (.int .i64 (min s.size dl:Nat)) (bU (some ⟨B,off,none⟩) c0 e dF (xs.take j++(s.data.toList.take (min s.size dl)++xs.drop (j+min s.size dl)))::R)):
  zT P ⟨d,.call { callee:=.builtin .copy,args:=#[x,y],argTypes:=#[st,xt] },ty,pos,after,g⟩ a C k:=fun H hs=>by
 obtain⟨inf,hi2,hsz⟩:=rL hi
 refine fD ?_
 simp only[execOp,resolve,List.map_toArray,List.map_cons,List.map_nil,hx,hy]
 rw[aJ,aP (show(pure _:Sem Deferred).pr P=some _ from rfl)]
 simp only[invoke,builtin,aJ]
 unfold Builtin.copy_
 simp only[List.getElem?_toArray,List.getElem?_cons_zero,List.getElem?_cons_succ,aJ]
 rw[aP (aL hst)]
 simp only[aJ]
 have hln:(Builtin.lenOf (.string s)).pr P=some s.size:=by simp[Builtin.lenOf];rfl
 rw[aP hln,aP (eZ hi2)]
 have hcl:(Builtin.firstCells inf.size (Nat.min s.size dl) (.string s)).rd P H=some ((s.data.toList.take (min s.size dl)).map kU).toArray:=by
  simp only[Builtin.firstCells,yF]
  congr 1
  apply Array.ext'
  simp
  rfl
 refine qT hcl ?_
 rcases kI (hp.sats hs) with⟨h1,_⟩|⟨B',pre,post,h1,h2,h3,h4⟩
 ·cases h1
 ·cases h1
  have hfl:=dF.flat_len xs
  have h1s:dF.sz=1:=rfl
  rw[h1s,Nat.mul_one] at hfl
  have hmin:Nat.min s.size dl=min s.size dl:=rfl
  have hvl:(List.map kU (List.take (min s.size dl) s.data.toList)).length=min s.size dl:=by simp
  refine mL _ 0 (pre.length+j) _ H _ (m6 h2).1 (by rw[List.length_append,List.length_append,hfl,hvl];omega) (by rw[← m9];exact dF.flat_one _) ?_
  have hmid:(List.map kU (List.take (min s.size dl) (List.drop j xs))).length=(List.map kU (List.take (min s.size dl) s.data.toList)).length:=by
   rw[hvl,List.length_map,List.length_take,List.length_drop];omega
  have hsplit:pre++xs.flatMap dF.enc++post=(pre++List.map kU (xs.take j))++List.map kU (List.take (min s.size dl) (List.drop j xs))++(List.map kU (xs.drop (j+min s.size dl))++post):=by
   rw[m9]
   conv=>lhs;rw[← List.take_append_drop j xs,← List.take_append_drop (min s.size dl) (List.drop j xs),List.drop_drop]
   simp only[List.map_append,List.append_assoc]
  have hset:l6 (pre++xs.flatMap dF.enc++post) (pre.length+j+0) (List.map kU (List.take (min s.size dl) s.data.toList))=pre++(xs.take j++(s.data.toList.take (min s.size dl)++xs.drop (j+min s.size dl))).flatMap dF.enc++post:=by
   rw[← Gh,hsplit]
   have e1:pre.length+j+0=(pre++List.map kU (xs.take j)).length:=by
    rw[List.length_append,List.length_map,List.length_take];omega
   rw[e1,Aca _ _ _ _ hmid,m9]
   simp only[List.map_append,List.append_assoc]
  rw[hset]
  have hlen:(xs.take j++(s.data.toList.take (min s.size dl)++xs.drop (j+min s.size dl))).length=xs.length:=by
   have hsl:s.data.toList.length=s.size:=by simp
   simp only[List.length_append,List.length_take,List.length_drop,hsl]
   omega
  exact⟨_,hJ rfl (rF h2) (by rw[hlen];exact h3) (by rw[hlen];exact h4),hk⟩
variable {ops:Array Oper} {Q:Fr→List HP→Prop} {C R:List HP} {c d':Nat} {gd:Bool} {es:ET} {hist:List (List HP)}
theorem Tv {st xt e:TypeId} {B off j dl dc c0:Nat} {s:ByteArray} {xs:List UInt8} (h:cV gd (.int .i64 (min s.size dl:Nat)) fun v=>aM P ops Q es (C::hist) (j9 a d' v) (bU (some ⟨B,off,none⟩) c0 e dF (xs.take j++(s.data.toList.take (min s.size dl)++xs.drop (j+min s.size dl)))::R))
  (hx:bJ a x=.slice (some ⟨B,off+j,none⟩) dl dc:=by exact rfl) (hy:bJ a y=.string s:=by exact rfl) (hst:P.underlying st=some (.slice e):=by exact rfl) (hi:pC P e=some 1:=by exact rfl)
  (hp:aT (bU (some ⟨B,off,none⟩) c0 e dF xs) C R:=by((repeat (first|exact aT.here|apply aT.there)) <;> exact aT.here)) (hj:j+min s.size dl≤xs.length:=by first|omega|assumption)
  (hk:kd P (.call { callee:=.builtin .copy,args:=#[x,y],argTypes:=#[st,xt] })=.other:=by exact rfl) (hw:bD ops ⟨some d',.call { callee:=.builtin .copy,args:=#[x,y],argTypes:=#[st,xt] },ty,pos,after,g⟩ a=true:=by exact rfl):aM P ops Q (ET.cons (c,gd,⟨some d',.call { callee:=.builtin .copy,args:=#[x,y],argTypes:=#[st,xt] },ty,pos,after,g⟩) es) hist a C:=
 G_o (hk:=hk) (hw:=hw) (Y1 hst hi hx hy hp hj h)
end
end Go.Sl
namespace Go.Sl
section
variable {P:Program} {a:Fr} {d:Option Tmp} {ty:TypeId} {pos:String} {after:Array Edge} {g:Option (Nat×Bool)} {t:TypeId} {x y:Operand}
theorem Md {e:TypeId} {n:Nat} {C:List HP} {k:Value→List HP→Prop} {inf:TypeInfo} {z:Value} (hst:P.underlying t=some (.slice e)) (hi:P.info? e=some inf) (hsz:inf.size=1) (hby:inf.bytes=1) (hz:inf.zero=some z) (hzc:z.cells=#[.int .u8 0]) (hx:bJ a x=.int .i64 n) (hy:bJ a y=.int .i64 n) (hn:n≤1000000)
  (hk:∀r,k (.slice (some ⟨r,0,none⟩) n n) (bU (some ⟨r,0,none⟩) n e dF (List.replicate n 0)::C)):zT P ⟨d,.makeSlice t x y,ty,pos,after,g⟩ a C k:=fun H hs=>by
 refine fD ?_
 have hw:IntKind.i64.wrap (n:Int)=n:=tY (by omega) (by omega)
 simp only[execOp,hx,hy]
 unfold Instr.makeSlice
 simp only[aJ]
 rw[aP (aL hst)]
 simp only[aJ]
 rw[aP (show(asInt (.int .i64 (n:Int))).pr P=some (n:Int) from rfl),aP (show(asInt (.int .i64 (n:Int))).pr P=some (n:Int) from rfl),aP (dS hi)]
 simp only[hw,hby]
 have h48:(2:Int) ^ 48=281474976710656:=by decide
 rw[if_neg (by simp only[h48,Bool.or_eq_true,decide_eq_true_eq];omega)]
 simp only[aJ]
 refine CL ?_
 rw[aP (eZ hi),hsz]
 simp only[Int.toNat_natCast,Nat.mul_one]
 have hz0:kU 0=.int .u8 0:=rfl
 have fin:∀(zs:Array Value) (r:Nat),H r=none→((Array.range n).map (fun i=>zs[i % zs.size]!)).toList=(List.replicate n (0:UInt8)).map kU→upV k (.slice (some ⟨r,0,none⟩) n n) (hupd H r (.cells ((Array.range n).map (fun i=>zs[i % zs.size]!)).toList e true)):=fun zs r hr he=>by
  rw[he]
  refine⟨_,hJ (pre:= []) (post:= []) rfl ?_ (by rw[List.length_replicate];exact Nat.le_refl _) (by rw[List.length_replicate];simp),hk r⟩
  rw[List.nil_append,List.append_nil,m9]
  exact qY hr hs
 by_cases hn0:n=0
 ·subst hn0
  rw[if_pos rfl]
  simp only[aJ,newRow]
  rw[aP (show(pure #[]:Sem (Array Value)).pr P=some #[] from rfl)]
  intro r hr
  exact⟨rfl,fin #[] r hr (by simp)⟩
 ·rw[if_neg hn0]
  simp only[aJ,newRow]
  rw[aP (show(zeroValue e).pr P=some z from by simp only[zeroValue,aR,dS hi,Option.bind_some,hz];rfl)]
  rw[aP (show(pure z.cells:Sem (Array Value)).pr P=some z.cells from rfl),hzc]
  intro r hr
  exact⟨rfl,fin _ r hr (by
   apply List.ext_getElem (by simp)
   intro i h1 h2
   simp[Nat.mod_one]
   rfl)⟩
def Ajq (P:Program) (e:TypeId):Prop:=∃inf z,P.info? e=some inf∧inf.size=1∧inf.bytes=1∧inf.zero=some z∧z.cells=#[.int .u8 0]
variable {ops:Array Oper} {Q:Fr→List HP→Prop} {C:List HP} {c d':Nat} {gd:Bool} {es:ET} {hist:List (List HP)}
theorem OK {e:TypeId} {n:Nat} (h:∀r,cV gd (.slice (some ⟨r,0,none⟩) n n) fun v=>aM P ops Q es (C::hist) (j9 a d' v) (bU (some ⟨r,0,none⟩) n e dF (List.replicate n 0)::C)) (hx:bJ a x=.int .i64 n:=by exact rfl) (hy:bJ a y=.int .i64 n:=by exact rfl) (hst:P.underlying t=some (.slice e):=by exact rfl) (hz:Ajq P e:=by exact⟨_,_,rfl,rfl,rfl,rfl,rfl⟩) (hn:n≤1000000:=by first|omega|assumption)
  (hk:kd P (.makeSlice t x y)=.other:=by exact rfl) (hw:bD ops ⟨some d',.makeSlice t x y,ty,pos,after,g⟩ a=true:=by exact rfl):aM P ops Q (ET.cons (c,gd,⟨some d',.makeSlice t x y,ty,pos,after,g⟩) es) hist a C:=by
 obtain⟨inf,z,h1,h2,h3,h4,h5⟩:=hz
 exact G_o (hk:=hk) (hw:=hw) (Md hst h1 h2 h3 h4 h5 hx hy hn h)
end
end Go.Sl
namespace Go.Sl
section
variable {P:Program} {α:Type} {E:tG α} {A:Option Addr} {c:Nat} {e:TypeId} {l:List α} {C R:List HP} {K:Value→List HP→Prop}
theorem oZ {f:FuncId} {args:Array Value} (hp:aT (bU A c e E l) C R) (hl:0<l.length) (h:∀B off,A=some ⟨B,off,none⟩→aA P f args C K):aA P f args C K:=fun H hs=>by
 rcases kI (hp.sats hs) with⟨_,g2,_⟩|⟨B,pre,post,g1,_⟩
 ·subst g2;simp at hl
 ·exact h _ _ g1 H hs
theorem Aih {B off l m j:Nat} {A':Option Addr} (h:GP (some ⟨B,off,none⟩) A' l m 1) (hl:l=j) (hm:j<m):A'=some ⟨B,off+j,none⟩:=by
 subst hl
 unfold GP at h
 rw[h,if_neg (by omega),Nat.mul_one]
 simp[Addr.add]
theorem Cb {f:FuncId} {args:Array Value} {A B D:HP} {p:Prop} (h:p→aA P f args (A::B::D::R) K):aA P f args (sep A (sep B (sep D (bH p)))::R) K:=
 aA.sep (aA.ent (aG.trans (aG.cons aG.unsep) (aG.trans (aG.cons (aG.cons aG.unsep)) (fun _ hs=>hs.perm (List.Perm.symm (List.perm_middle (l₁:= [A,B,D])).symm)))) (aA.pure fun hI=>h hI))
theorem pY {A B D:HP} {p:Prop} (h:p):aG (A::B::D::R) (sep A (sep B (sep D (bH p)))::R):=
 aG.sep (aG.pick aT.here (aG.sep (aG.pick aT.here (aG.sep (aG.pick aT.here (aG.pure h (aG.refl _)))))))
end
end Go.Sl
namespace Go.Sl
section
variable {P:Program} {ops:Array Oper} {Q:Fr→List HP→Prop} {a:Fr} {C:List HP} {c:Nat} {gd:Bool} {es:ET} {hist:List (List HP)} {d':Tmp}
variable {ty:TypeId} {pos:String} {after:Array Edge} {g:Option (Nat×Bool)} {t yt:TypeId} {x y:Operand}
end
end Go.Sl
namespace Go.Sl
theorem aA.satsK {P:Program} {f:FuncId} {args:Array Value} {C:List HP} {K K':Value→List HP→Prop} (h:aA P f args C K') (hk:∀v C' H,K' v C'→bV C' H→∃C'',bV C'' H∧K v C''):aA P f args C K:=fun H hs=>
 (h H hs).mono fun v H' ⟨_,h1,h2⟩=>hk v _ H' h2 h1
end Go.Sl
namespace Go.Sl
def ML (P:Program) (t:TypeId) (f:Nat):Option (TypeId×Nat):=match P.underlying t with
 |some (.struct fs)=>match fs[f]? with
  |some fd=>some (fd.type,fd.offset)
  |none=>none
 |_=>none
section
variable {P:Program} {a:Fr} {d:Option Tmp} {ty:TypeId} {pos:String} {after:Array Edge} {g:Option (Nat×Bool)} {t u:TypeId} {x:Operand}
theorem WH {f off:Nat} {cs:Array Value} {v:Value} (hx:bJ a x=.agg cs) (hf:ML P t f=some (u,off)) (hv:yR P u cs.toList off=some v):bX P ⟨d,.field t x f,ty,pos,after,g⟩ a=some v:=by
 unfold ML at hf
 split at hf
 ·rename_i fs hu
  split at hf
  ·rename_i fd hfd
   cases hf
   refine b6 ?_
   simp only[execOp,hx]
   unfold Instr.field
   rw[aR,aR,aL hu,Option.bind_some]
   simp only[hfd]
   rw[aR,show(asAgg (.agg cs)).pr P=some cs from rfl,Option.bind_some,Gq hv]
   rfl
  ·cases hf
 ·cases hf
variable {ops:Array Oper} {Q:Fr→List HP→Prop} {C:List HP} {c d':Nat} {gd:Bool} {es:ET} {hist:List (List HP)}
theorem i0 {f off:Nat} {cs:Array Value} {v:Value} (h:cV gd v fun v=>aM P ops Q es hist (j9 a d' v) C) (hx:bJ a x=.agg cs:=by exact rfl) (hf:ML P t f=some (u,off):=by exact rfl) (hv:yR P u cs.toList off=some v:=by exact rfl)
  (hw:bD ops ⟨some d',.field t x f,ty,pos,after,g⟩ a=true:=by exact rfl):aM P ops Q (ET.cons (c,gd,⟨some d',.field t x f,ty,pos,after,g⟩) es) hist a C:=
 fW rfl hw (WH hx hf hv) h
end
end Go.Sl
namespace Go.Sl
def Aip (P:Program) (t:TypeId):Option (Nat×TypeId):=match P.underlying t with
 |some (.array n e)=>some (n,e)
 |_=>none
section
variable {P:Program} {a:Fr} {d:Option Tmp} {ty:TypeId} {pos:String} {after:Array Edge} {g:Option (Nat×Bool)} {t u:TypeId} {x y:Operand}
theorem Ox {k:IntKind} {j:Int} {n sz:Nat} {cs:Array Value} {v:Value} (hx:bJ a x=.agg cs) (hy:bJ a y=.int k j) (ht:Aip P t=some (n,u)) (hs:pC P u=some sz) (h0:0≤j) (h1:j<n) (hv:yR P u cs.toList (j.toNat * sz)=some v):bX P ⟨d,.index t x y,ty,pos,after,g⟩ a=some v:=by
 unfold Aip at ht
 split at ht
 ·rename_i n' e hu
  cases ht
  obtain⟨i,hi,rfl⟩:=rL hs
  refine b6 ?_
  simp only[execOp,hx,hy]
  unfold Instr.index
  rw[aR,aR,show(asIntOf (.int k j)).pr P=some (k,j) from rfl,Option.bind_some]
  simp only
  rw[aR,aL hu,Option.bind_some]
  simp only
  rw[if_pos ⟨h0,h1⟩,aR,eZ hi,Option.bind_some,Gq hv]
  rfl
 ·cases ht
variable {ops:Array Oper} {Q:Fr→List HP→Prop} {C:List HP} {c d':Nat} {gd:Bool} {es:ET} {hist:List (List HP)}
theorem x5 {k:IntKind} {j:Int} {n sz:Nat} {cs:Array Value} {v:Value} (h:cV gd v fun v=>aM P ops Q es hist (j9 a d' v) C) (hx:bJ a x=.agg cs:=by exact rfl) (hy:bJ a y=.int k j:=by exact rfl) (ht:Aip P t=some (n,u):=by exact rfl) (hs:pC P u=some sz:=by exact rfl) (h0:0≤j:=by omega) (h1:j<n:=by omega) (hv:yR P u cs.toList (j.toNat * sz)=some v:=by exact rfl)
  (hw:bD ops ⟨some d',.index t x y,ty,pos,after,g⟩ a=true:=by exact rfl):aM P ops Q (ET.cons (c,gd,⟨some d',.index t x y,ty,pos,after,g⟩) es) hist a C:=
 fW rfl hw (Ox hx hy ht hs h0 h1 hv) h
end
end Go.Sl
end
namespace Go.Proofs.YtifgibijcmppmaaGreat
open Go Go.Proofs Go.Sl
set_option maxRecDepth 100000
set_option maxHeartbeats 40000000
attribute [local irreducible] aM fG cV bP aN aW aA dP dX aV dO pt ro eW star sep bH
theorem mixed:Tryz.prog.follows .mixedOrders=true:=by rfl
theorem aH {f:FuncId} {fn:Func} {c:Code} {args:Array Value} {C:List HP} {K:Value→List HP→Prop} (hf:Tryz.prog.funcs[f]?=some fn) (h:fG Tryz.prog c (dP Tryz.prog fn K) (Gr args.toList) C) (hb:fn.body=some c:=by exact rfl) (hn:(fn.name == "runtime.NumGoroutine")=false:=by decide) (hc:pV fn.ntmps c=true:=by decide +kernel) (hs:args.size≤fn.ntmps:=by exact Nat.le_of_ble_eq_true rfl):aA Tryz.prog f args C K:=OU mixed hf hb hn hc hs h
end Go.Proofs.YtifgibijcmppmaaGreat
namespace Go.Proofs.YtifgibijcmppmaaGreat
open Go Go.Proofs Go.Shelf
def Tryz.lays189_ren:Go.Shelf.Ren:=⟨fun|189=>356|125=>391|257=>390|128=>407|129=>408|294=>398|295=>399|296=>400|297=>401|298=>402|299=>403|216=>404|300=>405|301=>406|328=>411|329=>412|330=>413|331=>414|332=>415|215=>393|343=>416|n=>n,fun|28=>38|3=>3|46=>179|0=>0|51=>419|53=>421|4=>4|183=>413|182=>412|131=>270|5=>5|9=>9|218=>424|222=>428|228=>430|229=>100|n=>n,fun|n=>n⟩
theorem Tryz.lays189:Go.Proofs.Lays.n189 Tryz.prog Tryz.lays189_ren:= {
 mixed:=by kernel_rfl
 f125:=Tryz.func391.trans (congrArg some (by kernel_rfl))
 f128:=Tryz.func407.trans (congrArg some (by kernel_rfl))
 f129:=Tryz.func408.trans (congrArg some (by kernel_rfl))
 f189:=Tryz.func356.trans (congrArg some (by kernel_rfl))
 f215:=Tryz.func393.trans (congrArg some (by kernel_rfl))
 f216:=Tryz.func404.trans (congrArg some (by kernel_rfl))
 f257:=Tryz.func390.trans (congrArg some (by kernel_rfl))
 f294:=Tryz.func398.trans (congrArg some (by kernel_rfl))
 f295:=Tryz.func399.trans (congrArg some (by kernel_rfl))
 f296:=Tryz.func400.trans (congrArg some (by kernel_rfl))
 f297:=Tryz.func401.trans (congrArg some (by kernel_rfl))
 f298:=Tryz.func402.trans (congrArg some (by kernel_rfl))
 f299:=Tryz.func403.trans (congrArg some (by kernel_rfl))
 f300:=Tryz.func405.trans (congrArg some (by kernel_rfl))
 f301:=Tryz.func406.trans (congrArg some (by kernel_rfl))
 f328:=Tryz.func411.trans (congrArg some (by kernel_rfl))
 f329:=Tryz.func412.trans (congrArg some (by kernel_rfl))
 f330:=Tryz.func413.trans (congrArg some (by kernel_rfl))
 f331:=Tryz.func414.trans (congrArg some (by kernel_rfl))
 f332:=Tryz.func415.trans (congrArg some (by kernel_rfl))
 f343:=Tryz.func416.trans (congrArg some (by kernel_rfl))
 t0:=Tryz.underlying0
 a0:=Tryz.isAgg0
 z0:=Tryz.sizeOf0
 v0:=Tryz.zeroValue0
 t3:=Tryz.underlying3
 a3:=Tryz.isAgg3
 z3:=Tryz.sizeOf3
 v3:=Tryz.zeroValue3
 t4:=Tryz.underlying4
 a4:=Tryz.isAgg4
 z4:=Tryz.sizeOf4
 v4:=Tryz.zeroValue4
 t5:=Tryz.underlying5
 a5:=Tryz.isAgg5
 z5:=Tryz.sizeOf5
 v5:=Tryz.zeroValue5
 t9:=Tryz.underlying9
 a9:=Tryz.isAgg9
 z9:=Tryz.sizeOf9
 v9:=Tryz.zeroValue9
 t28:=Tryz.underlying38
 a28:=Tryz.isAgg38
 z28:=Tryz.sizeOf38
 v28:=Tryz.zeroValue38
 t46:=Tryz.underlying179
 a46:=Tryz.isAgg179
 z46:=Tryz.sizeOf179
 v46:=Tryz.zeroValue179
 t51:=Tryz.underlying419
 a51:=Tryz.isAgg419
 z51:=Tryz.sizeOf419
 v51:=Tryz.zeroValue419
 t53:=Tryz.underlying421
 a53:=Tryz.isAgg421
 z53:=Tryz.sizeOf421
 v53:=Tryz.zeroValue421
 t131:=Tryz.underlying270
 a131:=Tryz.isAgg270
 z131:=Tryz.sizeOf270
 v131:=Tryz.zeroValue270
 t182:=Tryz.underlying412
 a182:=Tryz.isAgg412
 z182:=Tryz.sizeOf412
 v182:=Tryz.zeroValue412
 t183:=Tryz.underlying413
 a183:=Tryz.isAgg413
 z183:=Tryz.sizeOf413
 v183:=Tryz.zeroValue413
 t218:=Tryz.underlying424
 a218:=Tryz.isAgg424
 z218:=Tryz.sizeOf424
 v218:=Tryz.zeroValue424
 t222:=Tryz.underlying428
 a222:=Tryz.isAgg428
 z222:=Tryz.sizeOf428
 v222:=Tryz.zeroValue428
 t228:=Tryz.underlying430
 a228:=Tryz.isAgg430
 z228:=Tryz.sizeOf430
 v228:=Tryz.zeroValue430
 t229:=Tryz.underlying100
 a229:=Tryz.isAgg100
 z229:=Tryz.sizeOf100
 v229:=Tryz.zeroValue100 }
end Go.Proofs.YtifgibijcmppmaaGreat
