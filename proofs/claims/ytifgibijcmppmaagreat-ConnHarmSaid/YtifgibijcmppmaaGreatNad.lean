/- A part of the proof: lemmas; each with the conditions that it states. -/
import Derived.SizedLaws
import Derived.Deep.Slices
import Derived.Test.YtifgibijcmppmaaGreatNac
set_option linter.unusedVariables false
set_option linter.unusedSimpArgs false
section
namespace Go.Sl
open Go.ChangeShapes Go.WideShapes Go.ChangeAt Go.RowKit Go.Deep
def vC (W:World):Hp:=fun B=>match W.heap[B]? with
 |some (.cells arr e _)=>some (.cells arr.toList e false)
 |_=>none
theorem Vx (W:World):AT (fun i=>W.heap.size≤i) (vC W) W:=by
 refine⟨fun B b hb=>?_,fun B b hb ho=>?_,fun i hi=>hi⟩
 ·unfold vC at hb
  split at hb
  ·rename_i arr e fz h;cases hb;exact⟨arr,fz,h,rfl,fun h=>by cases h⟩
  ·cases hb
 ·unfold vC at hb
  split at hb
  ·cases hb;cases ho
  ·cases hb
theorem aA.below {P:Program} {f:FuncId} {args:Array Value} {C:List HP} {r:Value} {W:World} (h:aA P f args C fun v _=>v=r) (hC:bY C (vC W)):
  Calls P f args W fun e W'=>e=.returned r∧Below W.heap.size W W':=by
 refine((h _ hC).run (fun i=>W.heap.size≤i) W (Vx W)).mono ?_
 rintro e W' ⟨v,H',rfl,⟨C',_,rfl⟩,ht⟩
 exact⟨rfl,ht.chg.os,ht.chg.tape,ht.chg.output,ht.chg.size,fun k hk=>ht.chg.kept k hk (by omega)⟩
theorem De {A:HP} {C:List HP} {W:World} (hp:Ed A) (ha:A (vC W)) (hC:bY C (vC W)):bY (A::C) (vC W):=by
 obtain⟨H',h1,h2,h3⟩:=hp _ ha
 refine⟨H',vC W,fun B b c hb hc=>⟨h3 B b hb,?_⟩,h1,Bo.refl _,h2,hC⟩
 unfold vC at hc
 split at hc
 ·cases hc;rfl
 ·cases hc
def Good (P:Program) (W:World):Nat→TypeId→List Value→Prop
 |0,_,_=>False
 |n+1,t,cs=>match P.underlying t with
  |some .bool=>∃b,cs= [.bool b]
  |some (.int k)=>∃i,cs= [.int k i]∧(Lit.int k i).wf=true
  |some .string=>∃s:ByteArray,cs= [.string s]∧s.size≤reachBytes
  |some (.slice e)=>cs= [.slice none 0 0]∨∃a len cap,cs= [.slice (some a) len cap]∧len≤cap∧cap * P.bytesOf e≤reachBytes∧
    ∀i,i<len→∃cs',W.cells? 0 (a.add (i * P.cellsOf e)) (P.cellsOf e)=some cs'∧Good P W n e cs'
  |some (.struct fs)=>cs.length=P.cellsOf t∧∀(j:Nat) (f:Field),fs[j]?=some f→Good P W n f.type ((cs.drop f.offset).take (P.cellsOf f.type))
  |_=>True
theorem Lr {H:Type} {P:Program}:∀ {ts:List TypeId} {ds:List (DataW H)} {j:Nat} {t:TypeId} {d:DataW H},ts[j]?=some t→ds[j]?=some d→∀n∈d.weights P t,n∈DataW.weightsEach P ts ds:=DataW.weights_mem_each
theorem FU {H:Type} {P:Program} {e:TypeId}:∀ {ds:List (DataW H)} {d:DataW H},d∈ds→∀n∈d.weights P e,n∈DataW.weightsAll P e ds
 |d0::ds,d,hd,n,hn=>by
  simp only[DataW.weightsAll,List.mem_append]
  rcases List.mem_cons.1 hd with rfl|hd
  ·exact .inl hn
  ·exact .inr (FU hd n hn)
 | [],_,hd,_,_=>by cases hd
theorem Lc {H:Type} {enc:TypeId×Value→H} {P:Program} {W:World}:∀(fuel:Nat) (t:TypeId) (cs:List Value) (d:DataW H) (p:List MemPlace),
  DataW.trod enc P W 0 (fun _=>true) true fuel t cs=some (d,p)→(∀n∈d.weights P t,n≤reachBytes)→Good P W fuel t cs
 |0,_,_,_,_,h,_=>by simp[DataW.trod] at h
 |fuel+1,t,cs,d,p,h,hw=>by
  unfold Good
  split
  ·rename_i hu
   obtain⟨b,h1,_⟩:=DataW.trod_bool hu h
   exact⟨b,h1⟩
  ·rename_i k hu
   obtain⟨n,h1,_,h2⟩:=DataW.trod_int hu h
   exact⟨n,h1,h2⟩
  ·rename_i hu
   obtain⟨s,h1,h2,_⟩:=DataW.trod_string hu h
   cases h2
   exact⟨s,h1,by simpa using hw s.data.toList.length (by simp[DataW.weights])⟩
  ·rename_i e hu
   rcases DataW.trod_slice hu h with⟨h1,_⟩|⟨a,len,cap,elems,rest,n,hn,h1,hx,_,hl,_,hel,hi,hsp,_⟩
   ·exact .inl h1
   ·cases hn
    cases hx
    obtain⟨hrl,_⟩:=hsp rfl
    refine .inr ⟨a,len,cap,h1,hl,?_,fun i hil=>?_⟩
    ·have:=hw (((elems.map (·.1)).length+(rest.map (·.1)).length) * P.bytesOf e) (by simp[DataW.weights,hu])
     simp only[List.length_map] at this
     rwa[hel,hrl,Nat.add_sub_cancel' hl] at this
    ·have h2:=hi i hil
     have h3:elems[i]?=some (elems[i]'(by omega)):=List.getElem?_eq_getElem (by omega)
     rw[h3,Option.bind_eq_some_iff] at h2
     obtain⟨cs',k1,k2⟩:=h2
     refine⟨cs',k1,Lc fuel e cs' _ _ k2 fun w hwm=>hw w ?_⟩
     simp only[DataW.weights,hu,List.mem_cons,List.mem_append]
     exact .inr (.inl (FU (List.mem_map.2 ⟨_,List.getElem_mem (by omega),rfl⟩) w hwm))
  ·rename_i fs hu
   obtain⟨xs,n,hn,hx,hl,hlen,hf⟩:=DataW.trod_struct hu h
   cases hn
   refine⟨hl,fun j f hj=>?_⟩
   have h1:=hf j f hj
   have hj':j<fs.size:=(Array.getElem?_eq_some_iff.1 hj).1
   have h2:xs[j]?=some (xs[j]'(by omega)):=List.getElem?_eq_getElem (by omega)
   rw[h2] at h1
   cases hx
   refine Lc fuel f.type _ (xs[j]'(by omega)).1 (xs[j]'(by omega)).2 h1 fun w hwm=>hw w ?_
   simp only[DataW.weights,hu]
   refine Lr (j:=j) (t:=f.type) (d:=(xs[j]'(by omega)).1) ?_ ?_ w hwm
   ·simp[hj]
   ·simp[h2]
  ·trivial
theorem PQ {H:Type} {enc:TypeId×Value→H} {P:Program} {W:World}:∀ {ts:List TypeId} {vs:List Value} {ds:List (DataW H)} {ps:List MemPlace},
  DataW.TrodAll enc P W 0 (fun _=>true) true ts vs ds ps→(∀n∈DataW.weightsEach P ts ds,n≤reachBytes)→∀(j:Nat) (t:TypeId),ts[j]?=some t→∃v n,vs[j]?=some v∧Good P W n t v.cells.toList
 |t::ts,v::vs,d::ds,_,⟨p,q,⟨fuel,h1⟩,h2,_⟩,hw,0,t',ht=>by
  cases ht
  exact⟨v,fuel,rfl,Lc fuel t _ d p h1 fun n hn=>hw n (by simp only[DataW.weightsEach,List.mem_append];exact .inl hn)⟩
 |t::ts,v::vs,d::ds,_,⟨p,q,h1,h2,_⟩,hw,j+1,t',ht=>by
  obtain⟨v',n,k1,k2⟩:=PQ h2 (fun n hn=>hw n (by simp only[DataW.weightsEach,List.mem_append];exact .inr hn)) j t' (by simpa using ht)
  exact⟨v',n,by simpa using k1,k2⟩
 | [],_,_,_,_,_,_,_,ht=>by simp at ht
theorem U4 {α:Type} {E:t6 α}:∀(xs:List α) (off:Nat) (arr:List Value),(∀i x,xs[i]?=some x→∀r,r<E.sz→arr[off+i * E.sz+r]?=(E.enc x)[r]?)→(arr.drop off).take (xs.length * E.sz)=xs.flatMap E.enc
 | [],_,_,_=>by simp
 |x::xs,off,arr,h=>by
  have h1:(arr.drop off).take E.sz=E.enc x:=by
   apply List.ext_getElem?
   intro r
   by_cases hr:r<E.sz
   ·rw[List.getElem?_take_of_lt hr,List.getElem?_drop]
    have:=h 0 x rfl r hr
    simpa using this
   ·rw[List.getElem?_eq_none (by rw[List.length_take];omega),List.getElem?_eq_none (by rw[E.len];omega)]
  have h2:=U4 xs (off+E.sz) arr fun i y hy r hr=>by
   have:=h (i+1) y (by simpa using hy) r hr
   rw[show off+E.sz+i * E.sz+r=off+(i+1) * E.sz+r by rw[Nat.add_mul];omega]
   exact this
  rw[List.length_cons,Nat.add_mul,Nat.one_mul,Nat.add_comm (xs.length * E.sz),List.take_add,List.drop_drop,h1,h2,List.flatMap_cons]
theorem Mq {α:Type} {E:t6 α} {W:World} {a:Addr} {len:Nat} {φ:α→Prop} (hsz:0<E.sz) (h:∀i,i<len→∃x,W.cells? 0 (a.add (i * E.sz)) E.sz=some (E.enc x)∧φ x):
  ∃xs:List α,xs.length=len∧nY (some a) E xs (vC W)∧∀x∈xs,φ x:=by
 have key:∀n,n≤len→∃xs:List α,xs.length=n∧(∀i x,xs[i]?=some x→W.cells? 0 (a.add (i * E.sz)) E.sz=some (E.enc x))∧∀x∈xs,φ x:=by
  intro n
  induction n with
  |zero=>exact fun _=>⟨[],rfl,fun i x hx=>by simp at hx,fun x hx=>by cases hx⟩
  |succ n ih=>
   intro hn
   obtain⟨xs,h1,h2,h3⟩:=ih (by omega)
   obtain⟨x,h4,h5⟩:=h n (by omega)
   refine⟨xs++ [x],by simp[h1],fun i y hy=>?_,fun y hy=>?_⟩
   ·by_cases hi:i<n
    ·rw[List.getElem?_append_left (by omega)] at hy;exact h2 i y hy
    ·rw[List.getElem?_append_right (by omega)] at hy
     have:i=n:=by
      rcases Nat.lt_or_ge (i - xs.length) 1 with h|h
      ·omega
      ·rw[List.getElem?_eq_none (by simpa using h)] at hy;cases hy
     subst this
     rw[h1,Nat.sub_self] at hy
     cases hy
     exact h4
   ·rcases List.mem_append.1 hy with hy|hy
    ·exact h3 y hy
    ·cases List.mem_singleton.1 hy;exact h5
 obtain⟨xs,h1,h2,h3⟩:=key len (Nat.le_refl _)
 refine⟨xs,h1,?_,h3⟩
 cases xs with
 |nil=>exact .inl rfl
 |cons x xs=>
  have h0:=h2 0 x rfl
  obtain⟨_,hl,hc⟩:=World.cells?_some h0
  have hc0:=hc 0 hsz
  have ha:a.add (0 * E.sz)=a:=by rw[Nat.zero_mul];rfl
  rw[ha] at hc0
  have ha0:a.add 0=a:=rfl
  rw[ha0] at hc0
  have hlen:=E.len x
  have hx0:(E.enc x)[0]?=some ((E.enc x)[0]'(by omega)):=List.getElem?_eq_getElem (by omega)
  rw[hx0] at hc0
  obtain⟨B,off,sp⟩:=a
  unfold World.cell? at hc0
  simp only at hc0
  split at hc0
  ·rename_i arr e fz hB
   split at hc0
   ·cases hc0
   ·rename_i hsp
    have hsp:sp=none:=by cases sp <;> simp_all
    subst hsp
    have hlt:off<arr.size:=(Array.getElem?_eq_some_iff.1 hc0).1
    have hfl:((arr.toList).drop off).take ((x::xs).length * E.sz)=(x::xs).flatMap E.enc:=U4 (x::xs) off arr.toList fun i y hy r hr=>by
     obtain⟨_,_,hcc⟩:=World.cells?_some (h2 i y hy)
     have:=hcc r hr
     rw[nW,nW] at this
     unfold World.cell? at this
     simp only[hB] at this
     rw[← this]
     simp
    refine .inr ⟨B,arr.toList.take off,(arr.toList.drop off).drop ((x::xs).length * E.sz),e,false,?_,?_⟩
    ·rw[List.length_take,Nat.min_eq_left (by simp;omega)]
    ·unfold vC
     rw[hB]
     simp only
     rw[← hfl,List.append_assoc,List.take_append_drop,List.take_append_drop]
  ·cases hc0
end Go.Sl
namespace Go.Sl
open Go.ChangeShapes Go.WideShapes Go.ChangeAt Go.RowKit Go.Deep
section
variable {H:Type} {enc:TypeId×Value→H} {P:Program} {W:World} {base:Nat} {ds:List (DataW H)} {ps:List MemPlace}
theorem FN:∀ {ts:List TypeId} {vs:List Value} {ds:List (DataW H)} {ps:List MemPlace},DataW.TrodAll enc P W 0 (fun _=>true) true ts vs ds ps→vs.length=ts.length∧ds.length=ts.length
 | [],[],[],_,_=>⟨rfl,rfl⟩
 |_::_,_::_,_::_,_,⟨_,_,_,h,_⟩=>by obtain⟨h1,h2⟩:=FN h;simp[h1,h2]
 | [],_::_,_,_,h=>h.elim
 | [],[],_::_,_,h=>h.elim
 |_::_,[],_,_,h=>h.elim
 |_::_,_::_,[],_,h=>h.elim
variable {args:Array Value} {t0 t1 t2 t3:TypeId}
theorem Alr (hA:DataW.TrodAll enc P W 0 (fun _=>true) true [t0,t1] args.toList ds ps):∃v0 v1 d0 d1,args=#[v0,v1]∧ds= [d0,d1]:=by
 obtain⟨l⟩:=args
 obtain⟨h1,h2⟩:=FN hA
 match l,ds,h1,h2 with
 | [v0,v1],[d0,d1],_,_=>exact⟨v0,v1,d0,d1,rfl,rfl⟩
variable {r:Reach} {b0 n:Nat} {t:TypeId} {v:Value}
theorem WO {e:TypeId} (ht:P.underlying t=some (.slice e)) (hv:Value.okWide P W r b0 t v) (hg:Good P W n t v.cells.toList):v=.slice none 0 0∨∃a len cap m,v=.slice (some a) len cap∧len≤cap∧cap * P.bytesOf e≤reachBytes∧
    ∀i,i<len→∃cs',W.cells? 0 (a.add (i * P.cellsOf e)) (P.cellsOf e)=some cs'∧Good P W m e cs':=by
 obtain⟨A,l,c,rfl⟩:=okWide_slice ht hv
 cases n with
 |zero=>exact hg.elim
 |succ n=>
  simp only[Good,ht] at hg
  rcases hg with hg|⟨a,len,cap,h1,h2,h3,h4⟩
  ·simp[Value.cells] at hg
   obtain⟨rfl,rfl,rfl⟩:=hg
   exact .inl rfl
  ·simp[Value.cells] at h1
   obtain⟨rfl,rfl,rfl⟩:=h1
   exact .inr ⟨a,l,c,n,rfl,h2,h3,h4⟩
theorem Ry {fs:Array Field} (ht:P.underlying t=some (.struct fs)) (hv:Value.okWide P W r b0 t v) (hg:Good P W n t v.cells.toList):∃cs:List Value,v=.agg cs.toArray∧Good P W n t cs:=by
 obtain⟨cs,rfl,_⟩:=okWide_struct ht hv
 exact⟨cs.toList,rfl,hg⟩
end
section
variable {P:Program} {W:World} {n:Nat} {t:TypeId} {cs:List Value}
theorem dE {k:IntKind} (ht:P.underlying t=some (.int k)) (hg:Good P W n t cs):∃i,cs= [.int k i]∧(Lit.int k i).wf=true:=by
 cases n with
 |zero=>exact hg.elim
 |succ n=>simpa only[Good,ht] using hg
theorem Bm (ht:P.underlying t=some .bool) (hg:Good P W n t cs):∃b,cs= [.bool b]:=by
 cases n with
 |zero=>exact hg.elim
 |succ n=>simpa only[Good,ht] using hg
theorem Ao (ht:P.underlying t=some .string) (hg:Good P W n t cs):∃s:ByteArray,cs= [.string s]∧s.size≤reachBytes:=by
 cases n with
 |zero=>exact hg.elim
 |succ n=>simpa only[Good,ht] using hg
theorem HK {e:TypeId} (ht:P.underlying t=some (.slice e)) (hg:Good P W n t cs):cs= [.slice none 0 0]∨∃a len cap m,cs= [.slice (some a) len cap]∧len≤cap∧cap * P.bytesOf e≤reachBytes∧
    ∀i,i<len→∃cs',W.cells? 0 (a.add (i * P.cellsOf e)) (P.cellsOf e)=some cs'∧Good P W m e cs':=by
 cases n with
 |zero=>exact hg.elim
 |succ n=>
  simp only[Good,ht] at hg
  rcases hg with hg|⟨a,len,cap,h⟩
  ·exact .inl hg
  ·exact .inr ⟨a,len,cap,n,h⟩
theorem jN {fs:Array Field} (ht:P.underlying t=some (.struct fs)) (hg:Good P W n t cs):∃m,cs.length=P.cellsOf t∧∀(j:Nat) (f:Field),fs[j]?=some f→Good P W m f.type ((cs.drop f.offset).take (P.cellsOf f.type)):=by
 cases n with
 |zero=>exact hg.elim
 |succ n=>
  simp only[Good,ht] at hg
  exact⟨n,hg⟩
end
theorem Akp {i:Int} (h:(Lit.int .i64 i).wf=true):-9223372036854775808≤i∧i≤9223372036854775807:=by
 simp[Lit.wf,IntKind.min,IntKind.max,IntKind.signed,IntKind.bits] at h
 omega
theorem Aic {cs:List Value} {v0 v1:Value} (hl:cs.length=2) (h0:(cs.drop 0).take 1= [v0]) (h1:(cs.drop 1).take 1= [v1]):cs= [v0,v1]:=by
 match cs,hl with
 | [a0,a1],_=>simp at h0 h1;simp[h0,h1]
theorem Ur {cs:List Value} {v0 v1 v2 v3 v4 v5 v6 v7 v8 v9 SL I6:Value} (hl:cs.length=12) (h0:(cs.drop 0).take 1= [v0]) (h1:(cs.drop 1).take 1= [v1]) (h2:(cs.drop 2).take 1= [v2]) (h3:(cs.drop 3).take 1= [v3]) (h4:(cs.drop 4).take 1= [v4]) (h5:(cs.drop 5).take 1= [v5]) (h6:(cs.drop 6).take 1= [v6]) (h7:(cs.drop 7).take 1= [v7]) (h8:(cs.drop 8).take 1= [v8]) (h9:(cs.drop 9).take 1= [v9]) (h10:(cs.drop 10).take 1= [SL]) (h11:(cs.drop 11).take 1= [I6]):cs= [v0,v1,v2,v3,v4,v5,v6,v7,v8,v9,SL,I6]:=by
 match cs,hl with
 | [a0,a1,a2,a3,a4,a5,a6,a7,a8,a9,a10,a11],_=>simp at h0 h1 h2 h3 h4 h5 h6 h7 h8 h9 h10 h11;simp[h0,h1,h2,h3,h4,h5,h6,h7,h8,h9,h10,h11]
end Go.Sl
namespace Go.Sl
section
variable {P:Program} {C:List HP} {a:Fr} {d:Option Tmp} {ty:TypeId} {pos:String} {after:Array Edge} {g:Option (Nat×Bool)} {t yt:TypeId} {x y z:Operand}
theorem Af4 {k yk:IntKind} {m n:Int} (hx:bK a x=.int k m) (hy:bK a y=.int yk n) (h0:0≤n) (h1:n≤k.bits):bX P ⟨d,.binOp .shr t x y yt,ty,pos,after,g⟩ a=some (.int k (m / 2 ^ n.toNat)):=by
 have:=Ac3 (P:=P) (d:=d) (t:=t) (yt:=yt) (ty:=ty) (pos:=pos) (after:=after) (g:=g) hx hy (by omega)
 rw[this,Nat.min_eq_left (by omega)]
 congr 2
 exact Int.fdiv_eq_ediv_of_nonneg m (Int.le_of_lt (Int.pow_pos (by decide)))
end
theorem Aig (m:Int) (h0:-9223372036854775808≤m) (h1:m≤9223372036854775807):IntKind.i64.wrap ((BitVec.ofInt 64 m &&& ~~~(BitVec.ofInt 64 0)).toNat)=m:=by
 have e:(BitVec.ofInt 64 m &&& ~~~(BitVec.ofInt 64 0))=BitVec.ofInt 64 m:=by
  have: ~~~(BitVec.ofInt 64 0)=BitVec.allOnes 64:=by decide
  rw[this,BitVec.and_allOnes]
 rw[e]
 simp only[BitVec.toNat_ofInt,IntKind.wrap,IntKind.bits,IntKind.signed]
 simp
 omega
theorem Aiv (m:Int) (h0:-9223372036854775808≤m) (h1:m≤9223372036854775807):IntKind.i64.wrap ((BitVec.ofInt 64 m &&& ~~~(BitVec.ofInt 64 1)).toNat)=m - m % 2:=by
 have e:(BitVec.ofInt 64 m &&& ~~~(BitVec.ofInt 64 1)).toNat=((BitVec.ofInt 64 m).toNat / 2) * 2:=by
  have:(BitVec.ofInt 64 m &&& ~~~(BitVec.ofInt 64 1))=(BitVec.ofInt 64 m >>> 1) <<< 1:=by
   apply BitVec.eq_of_getLsbD_eq
   intro i hi
   have h1:BitVec.ofInt 64 1=1#64:=by decide
   rw[h1]
   have k:∀j:Nat,j<64→(~~~(1#64)).getLsbD j=decide (1≤j):=by decide
   rw[BitVec.getLsbD_and,k i hi,BitVec.getLsbD_shiftLeft,BitVec.getLsbD_ushiftRight]
   by_cases h:1≤i
   ·have e:1+(i - 1)=i:=by omega
    simp[h,hi,e]
    intro;omega
   ·have e:i=0:=by omega
    subst e
    simp
  rw[this]
  have:=(BitVec.ofInt 64 m).isLt
  simp[BitVec.toNat_shiftLeft,BitVec.toNat_ushiftRight,Nat.shiftLeft_eq,Nat.shiftRight_eq_div_pow]
  omega
 rw[e]
 simp only[BitVec.toNat_ofInt,IntKind.wrap,IntKind.bits,IntKind.signed]
 simp
 omega
section
variable {P:Program} {ops:Array Oper} {Q:Fr→List HP→Prop} {a:Fr} {C:List HP} {c:Nat} {gd:Bool} {es:ET} {hist:List (List HP)} {d':Tmp} {v:Value}
variable {ty:TypeId} {pos:String} {after:Array Edge} {g:Option (Nat×Bool)} {t yt:TypeId} {x y:Operand}
theorem S2 {d:Option Tmp} {m:Int} (hx:bK a x=.int .i64 m) (hy:bK a y=.int .i64 0) (h0:-9223372036854775808≤m) (h1:m≤9223372036854775807):bX P ⟨d,.binOp .andNot t x y yt,ty,pos,after,g⟩ a=some (.int .i64 m):=
 Cz hx hy rfl (by show some (Value.int .i64 _)=_;rw[show IntKind.i64.bits=64 from rfl,Aig m h0 h1])
theorem Tb {d:Option Tmp} {m:Int} (hx:bK a x=.int .i64 m) (hy:bK a y=.int .i64 1) (h0:-9223372036854775808≤m) (h1:m≤9223372036854775807):bX P ⟨d,.binOp .andNot t x y yt,ty,pos,after,g⟩ a=some (.int .i64 (m - m % 2)):=
 Cz hx hy rfl (by show some (Value.int .i64 _)=_;rw[show IntKind.i64.bits=64 from rfl,Aiv m h0 h1])
theorem EV {m:Int} (h:cJ gd (.int .i64 m) fun v=>aN P ops Q es hist (kP a d' v) C) (hx:bK a x=.int .i64 m:=by exact rfl) (hy:bK a y=.int .i64 0:=by exact rfl) (h0:-9223372036854775808≤m:=by first|omega|assumption) (h1:m≤9223372036854775807:=by first|omega|assumption) (hw:bF ops ⟨some d',.binOp .andNot t x y yt,ty,pos,after,g⟩ a=true:=by exact rfl):aN P ops Q (ET.cons (c,gd,⟨some d',.binOp .andNot t x y yt,ty,pos,after,g⟩) es) hist a C:=
 gI rfl hw (S2 hx hy h0 h1) h
theorem E3 {m:Int} (h:cJ gd (.int .i64 (m - m % 2)) fun v=>aN P ops Q es hist (kP a d' v) C) (hx:bK a x=.int .i64 m:=by exact rfl) (hy:bK a y=.int .i64 1:=by exact rfl) (h0:-9223372036854775808≤m:=by first|omega|assumption) (h1:m≤9223372036854775807:=by first|omega|assumption) (hw:bF ops ⟨some d',.binOp .andNot t x y yt,ty,pos,after,g⟩ a=true:=by exact rfl):aN P ops Q (ET.cons (c,gd,⟨some d',.binOp .andNot t x y yt,ty,pos,after,g⟩) es) hist a C:=
 gI rfl hw (Tb hx hy h0 h1) h
end
theorem Ai8 {b:Bool} (h:b=false):(!b)=true:=by rw[h];rfl
theorem Aka {b:Bool} (h:b=true):(!b)=false:=by rw[h];rfl
theorem x6 {α:Type} [BEq α] [LawfulBEq α] (x:α):(!(x == x))=false:=by rw[beq_self_eq_true];rfl
theorem AY {p:Fr→Prop} {a:Fr} (l:List (Nat×Value)) (h:cN a l) (k:p (eQ a l)):p a:=by rw[Ty h] at k;exact k
def Aa4:List Value→Option (List Int)
 | []=>some []
 |.int .u8 z::cs=>match Aa4 cs with
  |some zs=>some (z::zs)
  |none=>none
 |_=>none
def Agp:List Int→Prop
 | []=>True
 |z::l=>(0≤z∧z<256)∧Agp l
theorem Abt {z:Int} (h:0≤z∧z<256):kX (sJ z)=.int .u8 z:=by rw[Pp,Int.emod_eq_of_lt h.1 h.2]
theorem Kx:∀(cs:List Value) (zs:List Int),Aa4 cs=some zs→Agp zs→(zs.map sJ).flatMap d8.enc=cs
 | [],zs,h,_=>by cases h;rfl
 |v::cs,zs,h,hr=>by
  unfold Aa4 at h
  split at h
  ·rename_i h1;cases h1
  ·rename_i z cs' h1
   split at h
   ·rename_i ys hy
    cases h1;cases h
    rw[List.map_cons,List.flatMap_cons,Kx _ _ hy hr.2]
    show [kX (sJ z)]++_=_
    rw[Abt hr.1];rfl
   ·cases h
  ·cases h
theorem QY {C:List HP} {e:TypeId} {B:Nat} {cs:List Value} {zs:List Int} (hd:Aa4 cs=some zs) (hr:Agp zs):cZ (pt B cs e::C) (some ⟨B,0,none⟩) d8 (zs.map sJ):=fun H ⟨H1,H2,_,k1,_,h3,_⟩=>by
 obtain⟨b,hb,l⟩:=k1 B _ h3
 have:=sZ.le_own l rfl
 subst this
 exact .inr ⟨B,[],[],e,true,rfl,by rw[Kx cs zs hd hr,List.nil_append,List.append_nil];exact hb⟩
section
variable {P:Program} {ops:Array Oper} {Q:Fr→List HP→Prop} {a:Fr} {C:List HP} {c:Nat} {gd:Bool} {es:ET} {hist:List (List HP)} {d':Tmp} {d:Option Tmp} {v:Value}
variable {ty:TypeId} {pos:String} {after:Array Edge} {g:Option (Nat×Bool)} {t yt:TypeId} {x y z:Operand} {op:Op}
theorem Qr {k yk:IntKind} {m n:Int} (h:cJ gd (.int k (m / 2 ^ n.toNat)) fun v=>aN P ops Q es hist (kP a d' v) C) (hx:bK a x=.int k m:=by exact rfl) (hy:bK a y=.int yk n:=by exact rfl)
  (h0:0≤n:=by first|omega|assumption) (h1:n≤k.bits:=by first|assumption|(show _≤((64:Nat):Int);omega)|(show _≤((8:Nat):Int);omega)) (hw:bF ops ⟨some d',.binOp .shr t x y yt,ty,pos,after,g⟩ a=true:=by exact rfl):aN P ops Q (ET.cons (c,gd,⟨some d',.binOp .shr t x y yt,ty,pos,after,g⟩) es) hist a C:=
 gI rfl hw (Af4 hx hy h0 h1) h
theorem O7 {n f:Nat} (h:(match xN P t f with|some m=>y9 m|none=>none)=some n):xN P t f=some n:=by
 split at h
 ·rename_i m hm;rw[hm,nT h]
 ·cases h
theorem bC {B off n f:Nat} (h:cJ gd (.pointer (some ⟨B,off+n,none⟩)) fun v=>aN P ops Q es hist (kP a d' v) C) (hx:bK a x=.pointer (some ⟨B,off,none⟩):=by exact rfl)
  (hf:(match xN P t f with|some m=>y9 m|none=>none)=some n:=by exact rfl) (hw:bF ops ⟨some d',.fieldAddr t x f,ty,pos,after,g⟩ a=true:=by exact rfl):aN P ops Q (ET.cons (c,gd,⟨some d',.fieldAddr t x f,ty,pos,after,g⟩) es) hist a C:=
 gI rfl hw (Dx hx (O7 hf)) h
theorem kG {t' e e':TypeId} {B n cp:Nat} {cs:List Value} {zs:List Int} {R:List HP} (h:cJ gd (.string ⟨(zs.map sJ).toArray⟩) fun v=>aN P ops Q es (C::hist) (kP a d' v) C) (hx:bK a x=.slice (some ⟨B,0,none⟩) n cp:=by exact rfl) (hs:ED P t=some e:=by exact rfl) (ht:m9 P t'=true:=by exact rfl)
  (hp:aV (pt B cs e') C R:=by((repeat (first|exact aV.here|apply aV.there)) <;> exact aV.here)) (hd:Aa4 cs=some zs:=by exact rfl) (hr:Agp zs:=by((repeat (first|exact trivial|refine⟨⟨by omega,by omega⟩,?_⟩)) <;> exact trivial)) (hn:(zs.map sJ).length=n:=by exact rfl)
  (hk:kd P (.convert t t' x)=.other:=by exact rfl) (hw:bF ops ⟨some d',.convert t t' x,ty,pos,after,g⟩ a=true:=by exact rfl):aN P ops Q (ET.cons (c,gd,⟨some d',.convert t t' x,ty,pos,after,g⟩) es) hist a C:=
 f5 (bs:=zs.map sJ) h hx hs ht (C9 (fun _ hs=>hp.sats hs) (QY hd hr)) hn hk hw
theorem kL {t' e:TypeId} {s:ByteArray} (h:∀r N,cJ gd (.slice (some ⟨r,0,none⟩) s.size N) fun v=>aN P ops Q es (C::hist) (kP a d' v) (bT (some ⟨r,0,none⟩) N e d8 s.data.toList::C))
  (hx:bK a x=.string s:=by exact rfl) (hs:m9 P t=true:=by exact rfl) (ht:ED P t'=some e:=by exact rfl)
  (hk:kd P (.convert t t' x)=.other:=by exact rfl) (hw:bF ops ⟨some d',.convert t t' x,ty,pos,after,g⟩ a=true:=by exact rfl):aN P ops Q (ET.cons (c,gd,⟨some d',.convert t t' x,ty,pos,after,g⟩) es) hist a C:=
 xG hk hw fun H hH=>PO hs ht hx fun r N hr hN=>⟨_,iN (B:=r) (pre:= []) (post:=List.replicate (N - s.size) (.int .u8 0)) rfl (by rw[oM,List.nil_append];exact sB hr hH) (by simpa using hN) (by simp[d8]),h r N⟩
end
end Go.Sl
namespace Go.Sl
theorem PX {A B:HP} (pa:Ed A) (pb:Ed B) (ma:uU A) (mb:uU B):Ed (Ag7 A B):=fun H ⟨ha,hb⟩=>by
 obtain⟨X,x1,x2,x3⟩:=pa H ha
 obtain⟨Y,y1,y2,y3⟩:=pb H hb
 have hxy:tM X Y:=fun r b c hb hc=>⟨x3 r b hb,y3 r c hc⟩
 refine⟨s7 X Y,xF x1 y1,⟨ma _ _ x2 (qY _ _),mb _ _ y2 (o5 hxy x1 y1)⟩,fun r b hb=>?_⟩
 unfold s7 at hb
 split at hb
 ·rename_i a ha;cases hb;exact x3 _ _ ha
 ·exact y3 _ _ hb
theorem Zd {A B:HP} (ma:uU A) (mb:uU B):uU (Ag7 A B):=fun H H' ⟨ha,hb⟩ hl=>⟨ma H H' ha hl,mb H H' hb hl⟩
section
variable {α:Type} {P:α→HP}
def jY (P:α→HP) (l:List α):HP:=fun H=>∀x∈l,P x H
theorem Ee (m:∀x,uU (P x)) (l:List α):uU (jY P l):=fun H H' h hl x hx=>m x H H' (h x hx) hl
theorem Al (p:∀x,Ed (P x)) (m:∀x,uU (P x)):∀l:List α,Ed (jY P l)
 | []=>fun H _=>⟨fun _=>none,(fun _ _ h=>by cases h),(fun _ h=>by cases h),(fun _ _ h=>by cases h)⟩
 |x::l=>fun H h=>by
  obtain⟨X,x1,x2,x3⟩:=PX (p x) (Al p m l) (m x) (Ee m l) H ⟨h x (by simp),fun y hy=>h y (by simp[hy])⟩
  exact⟨X,x1,fun y hy=>by
   rcases List.mem_cons.1 hy with rfl|hy
   ·exact x2.1
   ·exact x2.2 y hy,x3⟩
theorem OH {C:List HP} {H:Hp} (hs:bY C H):bY (jY P []::C) H:=
 ⟨fun _=>none,H,(fun _ _ _ h=>by cases h),(fun _ _ h=>by cases h),Bo.refl H,(fun _ h=>by cases h),hs⟩
theorem aG.allnil {C C':List HP} (h:aG C C'):aG C (jY P []::C'):=fun H hs=>OH (h H hs)
theorem aG.allsnoc {C:List HP} {l:List α} {x:α} (p:∀x,Ed (P x)) (m:∀x,uU (P x)):aG (P x::jY P l::C) (jY P (l++ [x])::C):=fun H hs=>by
 have h:=Yh (p x) (Al p m l) (m x) (Ee m l) hs
 refine aG.imp (fun H ⟨h1,h2⟩ y hy=>?_) (aG.refl C) H h
 rcases List.mem_append.1 hy with hy|hy
 ·exact h2 y hy
 ·cases List.mem_singleton.1 hy;exact h1
theorem aG.allget {C:List HP} {l:List α} {x:α} (p:∀x,Ed (P x)) (m:∀x,uU (P x)) (hx:x∈l):aG (jY P l::C) (P x::jY P l::C):=fun H hs=>
 aG.imp (fun H h=>h x hx) (aG.refl _) H (hs.dup (Al p m l))
theorem aG.allsub {C:List HP} {l l':List α} (h:∀x∈l',x∈l):aG (jY P l::C) (jY P l'::C):=aG.imp (fun _ k x hx=>k x (h x hx)) (aG.refl _)
end
end Go.Sl
namespace Go.Sl
def oV:Code→List Code
 |.seq x y=>oV x++oV y
 |.cond _ x y=>oV x++oV y
 |.block _ c=>oV c
 |.scope c=>oV c
 |.loop c=>oV c
 |.region id o d=> [.region id o d]
 |_=> []
def DJ (f:Func) (k:Nat):Code:=match f.body with
 |some c=>((oV c).find? fun r=>match r with|.region id _ _=>id == k|_=>false).getD .skip
 |none=>.skip
theorem Akg {P:Program} {Q:Exit→Fr→List HP→Prop} {a:Fr} {C:List HP} {x:Code} {id:Nat} (I:Fr→List HP→Prop)
  (h:fB P x (aM id (bO (dK I) Q)) a C) (k:∀a C,I a C→Al1 (Q .normal a C)):fB P (.block id x) Q a C:=fun H hs=>
 wM _ (fun e a H hq=>by
  obtain⟨C',h1,h2⟩:=hq
  cases e <;> first
   |exact⟨C',h1,h2⟩
   |(obtain⟨C'',hE,hI⟩:=h2;exact⟨C'',hE H h1,(k _ _ hI).h⟩)) a H (Gx (id:=id) (Q:=bO (dK I) Q) h H hs)
end Go.Sl
end
section
namespace Go.Sl
theorem UJ:∀(vs mid post:List Value),vs.length≤mid.length→Xw vs (mid++post)=Xw vs mid++post
 | [],_,_,_=>by simp[Xw]
 |v::vs,[],_,h=>by simp at h
 |v::vs,m::mid,post,h=>by
  have:=UJ vs mid post (by simpa using h)
  simp[Xw,this]
theorem D2:∀(pre l:List Value) (n:Nat) (vs:List Value),uO (pre++l) (pre.length+n) vs=pre++uO l n vs
 | [],l,n,vs=>by simp
 |p::pre,l,n,vs=>by
  have:=D2 pre l n vs
  rw[List.length_cons,show pre.length+1+n=(pre.length+n)+1 by omega,List.cons_append]
  show p::uO (pre++l) (pre.length+n) vs=_
  rw[this];rfl
theorem GR:∀(mid post:List Value) (k:Nat) (vs:List Value),k+vs.length≤mid.length→uO (mid++post) k vs=uO mid k vs++post
 |mid,post,0,vs,h=>by
  have z:∀l,uO l 0 vs=Xw vs l:=fun l=>by cases l <;> rfl
  rw[z,z]
  exact UJ vs mid post (by omega)
 | [],post,k+1,vs,h=>by simp at h
 |m::mid,post,k+1,vs,h=>by
  show m::uO (mid++post) k vs=m::(uO mid k vs++post)
  rw[GR mid post k vs (by simp at h;omega)]
section
variable {α:Type} {E:t6 α} {xs:List α}
theorem Y7 {j k:Nat} {y y':α} {vs pre post:List Value} (hj:xs[j]?=some y) (hk:k+vs.length≤E.sz) (he:uO (E.enc y) k vs=E.enc y'):
  uO (pre++xs.flatMap E.enc++post) (pre.length+(j * E.sz+k)) vs=pre++(xs.set j y').flatMap E.enc++post:=by
 have hlt:j<xs.length:=by
  rcases Nat.lt_or_ge j xs.length with h|h
  ·exact h
  ·rw[List.getElem?_eq_none h] at hj;cases hj
 have e1:xs=xs.take j++y::xs.drop (j+1):=by
  have h2:=List.drop_eq_getElem_cons hlt
  rw[List.getElem?_eq_getElem hlt] at hj
  cases hj
  rw[← h2,List.take_append_drop]
 have e2:xs.set j y'=xs.take j++y'::xs.drop (j+1):=List.set_eq_take_append_cons_drop▸(by rw[if_pos hlt])
 have hl:((xs.take j).flatMap E.enc).length=j * E.sz:=by rw[E.flat_len,List.length_take,Nat.min_eq_left (by omega)]
 have hE:=E.len y
 rw[e2,List.append_assoc,D2]
 have e3:xs.flatMap E.enc++post=(xs.take j).flatMap E.enc++(E.enc y++((xs.drop (j+1)).flatMap E.enc++post)):=by
  conv=>lhs;rw[e1]
  simp only[List.flatMap_append,List.flatMap_cons,List.append_assoc]
 rw[e3,← hl,D2,GR _ _ _ _ (by omega),he]
 simp only[List.flatMap_append,List.flatMap_cons,List.append_assoc]
variable {P:Program} {ops:Array Oper} {Q:Fr→List HP→Prop} {a:Fr} {C R:List HP} {c:Nat} {gd:Bool} {es:ET} {hist:List (List HP)}
variable {ty:TypeId} {pos:String} {after:Array Edge} {g:Option (Nat×Bool)} {t:TypeId} {x z:Operand}
theorem Hb {B off j k c0 n sz:Nat} {e:TypeId} {vs:List Value} {u:Value} {y y':α} (h:aN P ops Q es (C::hist) a (bT (some ⟨B,off,none⟩) c0 e E (xs.set j y')::R)) (hx:bK a x=.pointer (some ⟨B,off+j * sz+k,none⟩):=by exact rfl)
  (hp:aV (bT (some ⟨B,off,none⟩) c0 e E xs) C R:=by((repeat (first|exact aV.here|apply aV.there)) <;> exact aV.here)) (hsz:E.sz=sz:=by exact rfl) (hy:iP (bK a z)=some u:=by exact rfl) (hvs:nE u.cells.toList=some vs:=by exact rfl) (ht:o8 P t=some n:=by exact rfl)
  (hn:(vs.length == n)=true:=by exact rfl) (mZ:(vs.all Value.oneCell')=true:=by exact rfl) (hle:Nat.ble (k+n) sz=true:=by exact rfl) (hj:xs[j]?=some y:=by first|assumption|exact rfl) (hs:E.dec (uO (E.enc y) k vs)=some y':=by exact rfl)
  (hw:bF ops ⟨none,.store t x z,ty,pos,after,g⟩ a=true:=by exact rfl):aN P ops Q (ET.cons (c,gd,⟨none,.store t x z,ty,pos,after,g⟩) es) hist a C:=
 YE (hw:=hw) fun H hH=>by
  have hn':vs.length=n:=by simpa using hn
  have hle':k+n≤sz:=by simpa using hle
  rcases lB (hp.sats hH) with⟨h1,_⟩|⟨B',pre,post,h1,h2,h3,h4⟩
  ·cases h1
  ·cases h1
   subst hsz
   have hlt:j<xs.length:=by
    rcases Nat.lt_or_ge j xs.length with h|h
    ·exact h
    ·rw[List.getElem?_eq_none h] at hj;cases hj
   have hfl:=E.flat_len xs
   have hmul:(j+1) * E.sz≤xs.length * E.sz:=Nat.mul_le_mul_right _ hlt
   rw[Nat.add_mul,Nat.one_mul] at hmul
   refine PU hx (gM hy) (lE hvs) ht hn' mZ (nS h2).1 (by simp only[List.length_append,hfl];omega) ?_
   rw[← Gw,show pre.length+j * E.sz+k=pre.length+(j * E.sz+k) by omega,Y7 hj (by omega) (E.ok _ _ hs).symm]
   exact⟨_,iN rfl (rS h2) (by rw[List.length_set];exact h3) (by rw[List.length_set];exact h4),h⟩
theorem t8 {B off j c0 n sz:Nat} {e:TypeId} {vs:List Value} {u:Value} {y y':α} (h:aN P ops Q es (C::hist) a (bT (some ⟨B,off,none⟩) c0 e E (xs.set j y')::R)) (hx:bK a x=.pointer (some ⟨B,off+j * sz,none⟩):=by exact rfl)
  (hp:aV (bT (some ⟨B,off,none⟩) c0 e E xs) C R:=by((repeat (first|exact aV.here|apply aV.there)) <;> exact aV.here)) (hsz:E.sz=sz:=by exact rfl) (hy:iP (bK a z)=some u:=by exact rfl) (hvs:nE u.cells.toList=some vs:=by exact rfl) (ht:o8 P t=some n:=by exact rfl)
  (hn:(vs.length == n)=true:=by exact rfl) (mZ:(vs.all Value.oneCell')=true:=by exact rfl) (hle:Nat.ble (0+n) sz=true:=by exact rfl) (hj:xs[j]?=some y:=by first|assumption|exact rfl) (hs:E.dec (uO (E.enc y) 0 vs)=some y':=by exact rfl)
  (hw:bF ops ⟨none,.store t x z,ty,pos,after,g⟩ a=true:=by exact rfl):aN P ops Q (ET.cons (c,gd,⟨none,.store t x z,ty,pos,after,g⟩) es) hist a C:=
 Hb (k:=0) h (by rw[hx,Nat.add_zero]) hp hsz hy hvs ht hn mZ hle hj hs hw
end
end Go.Sl
namespace Go.Sl
theorem aG.unsep {A B:HP} {C:List HP}:aG (Go.Sl.sep A B::C) (A::B::C):=fun _ hs=>bY.star (l:= [A,B]) hs
def Aj1 (n:Nat):Option Nat:=if n<95 then y9 n else if n<190 then(y9 (n - 95)).map (·+95) else(y9 (n - 190)).map (·+190)
theorem Ahh {n m:Nat} (h:Aj1 n=some m):n=m:=by
 unfold Aj1 at h
 split at h
 ·exact nT h
 ·split at h
  ·cases h1:y9 (n - 95) with
   |none=>rw[h1] at h;cases h
   |some k=>rw[h1] at h;cases h;have:=nT h1;show n=k+_;omega
  ·cases h1:y9 (n - 190) with
   |none=>rw[h1] at h;cases h
   |some k=>rw[h1] at h;cases h;have:=nT h1;show n=k+_;omega
def Ya (P:Program) (st xt:TypeId):Option (TypeId×Nat×Nat):=match O1 P st xt with
 |some (e,sz,b)=>match y9 sz with
  |some sz=>match Aj1 b with
   |some b=>some (e,sz,b)
   |none=>none
  |none=>none
 |none=>none
theorem Rk {P:Program} {st xt e:TypeId} {sz b:Nat} (h:Ya P st xt=some (e,sz,b)):∃inf z,P.underlying st=some (.slice e)∧Bi P xt=true∧P.info? e=some inf∧inf.zero=some z∧z.cells.size=inf.size∧inf.bytes≠0∧inf.size=sz∧inf.bytes=b:=by
 unfold Ya at h
 split at h
 ·rename_i e' sz' b' h0
  split at h
  ·rename_i sz2 h1
   split at h
   ·rename_i b2 h2
    cases h
    unfold O1 at h0
    split at h0
    ·rename_i e2 hst
     split at h0
     ·rename_i inf hi
      split at h0
      ·rename_i z hz
       split at h0
       ·rename_i hc
        cases h0
        exact⟨inf,z,hst,hc.2.2,hi,hz,hc.1,hc.2.1,nT h1,Ahh h2⟩
       ·cases h0
      ·cases h0
     ·cases h0
    ·cases h0
   ·cases h
  ·cases h
 ·cases h
section
variable {α:Type} {E:t6 α} {xs:List α}
variable {P:Program} {ops:Array Oper} {Q:Fr→List HP→Prop} {a:Fr} {C R:List HP} {c d':Nat} {d:Option Tmp} {gd:Bool} {es:ET} {hist:List (List HP)}
variable {ty:TypeId} {pos:String} {after:Array Edge} {g:Option (Nat×Bool)} {x y:Operand}
theorem HZ {st xt e:TypeId} {sz bytes cp c0 n:Nat} {A:Option Addr} {ys:List α} {u:Value} {R:List HP} {k:Value→List HP→Prop} (ht:Ya P st xt=some (e,sz,bytes)) (hsz:E.sz=sz) (hx:bK a x=.slice A n cp) (hn:xs.length=n) (hy:bK a y=u) (hsrc:Src P C u E ys)
  (hp:aV (bT A c0 e E xs) C R) (hcc:cp=c0∨(n≤cp∧cp≤c0)) (hbig:(2 * (n+ys.length)+512) * bytes≤281474976710656)
  (hk:∀A' c',k (.slice A' (xs++ys).length c') (bT A' c' e E (xs++ys)::R)):zX P ⟨d,.call { callee:=.builtin .append,args:=#[x,y],argTypes:=#[st,xt] },ty,pos,after,g⟩ a C k:=fun H hs=>by
 obtain⟨inf,zz,h1,h2,h3,h4,h5,h6,h7,rfl⟩:=Rk ht
 subst hsz
 have hrs:=hp.sats hs
 have hr:=lB hrs
 have hcl:n≤cp∧cp≤c0:=by
  rcases hcc with rfl|h
  ·rcases hr with⟨g1,g2,g3,g4⟩|⟨B,pre,post,g1,g2,g3,g4⟩
   ·subst g2 g3;simp at hn;omega
   ·omega
  ·exact h
 obtain⟨hcp,hc0⟩:=hcl
 have hmn:(xs++ys).length=n+ys.length:=by rw[List.length_append,hn]
 refine fP ?_
 simp only[execOp,resolve,List.map_toArray,List.map_cons,List.map_nil,hx,hy]
 rw[aJ,aP (show(pure _:Sem Deferred).pr P=some _ from rfl)]
 simp only[invoke,builtin,aJ]
 obtain⟨hlen,hcells⟩:=hsrc
 rw[hmn] at hk
 refine IC (xs:=xs.flatMap E.enc) (news:=ys.flatMap E.enc) h1 h2 h3 h4 h5 hlen (by rw[h7];exact hcells H hs) (by rw[E.flat_len,h7]) (E.flat_one ys) (by rw[E.flat_len,hn,h7]) ?_ hbig h6 ?_ ?_ ?_
 ·rcases hr with⟨g1,g2,g3,g4⟩|⟨B,pre,post,g1,g2,g3,g4⟩
  ·subst g2;simp at hn;exact .inl ⟨g1,by omega,by omega⟩
  ·refine .inr ⟨B,pre,post,e,true,g1,(nS g2).1,hcp,?_,.inr (.inl rfl)⟩
   rw[h7]
   exact Nat.le_trans (Nat.mul_le_mul_right _ (by omega)) g4
 ·intro hm0
  have hys:ys= []:=by simpa using hm0
  have hk':=hk A cp
  subst hys
  rw[List.append_nil,List.length_nil,Nat.add_zero] at hk'
  refine⟨_,?_,hk'⟩
  rcases hr with⟨g1,g2,g3,g4⟩|⟨B,pre,post,g1,g2,g3,g4⟩
  ·subst g1 g2 g3
   have:cp=0:=by omega
   subst this
   exact tL g4
  ·exact iN g1 g2 (by omega) (Nat.le_trans (Nat.mul_le_mul_right _ (by omega)) g4)
 ·intro B pre post e' hA hB hle hpl
  rcases hr with⟨g1,_⟩|⟨B',pre',post',g1,g2,g3,g4⟩
  ·rw[g1] at hA;cases hA
  ·rw[g1] at hA
   have hBB:B'=B:=congrArg Addr.block (Option.some.inj hA)
   subst hBB
   have hpre:pre'.length=pre.length:=congrArg Addr.off (Option.some.inj hA)
   have hB':=(nS g2).1
   rw[hB'] at hB
   injection hB with hB
   injection hB with hcs he _
   subst he
   rw[List.append_assoc,List.append_assoc] at hcs
   obtain⟨q1,q2⟩:=List.append_inj hcs hpre
   obtain⟨_,q3⟩:=List.append_inj q2 rfl
   subst q1 q3
   refine⟨_,iN (pre:=pre') (post:=post'.drop (ys.flatMap E.enc).length) g1 ?_ (by rw[hmn];exact hle) ?_,hk A cp⟩
   ·rw[List.flatMap_append]
    exact rS g2
   ·rw[hmn,List.length_drop,E.flat_len,← Nat.sub_sub,Nat.sub_mul,← h7]
    omega
 ·intro r post N hr0 hN hpl _
  refine⟨_,iN (pre:= []) (post:=post) rfl ?_ (by rw[hmn];exact hN) (by rw[hmn,hpl,h7];exact Nat.le_refl _),hk _ N⟩
  rw[List.flatMap_append,List.nil_append]
  exact sB hr0 hrs.tail
theorem o4 {st xt e:TypeId} {sz bytes cp c0 n:Nat} {A:Option Addr} {ys:List α} {u:Value} {R:List HP} (h:∀A' c',cJ gd (.slice A' (xs++ys).length c') fun v=>aN P ops Q es (C::hist) (kP a d' v) (bT A' c' e E (xs++ys)::R))
  (hx:bK a x=.slice A n cp:=by exact rfl) (hy:bK a y=u:=by exact rfl) (ht:Ya P st xt=some (e,sz,bytes):=by exact rfl) (hp:aV (bT A c0 e E xs) C R:=by((repeat (first|exact aV.here|apply aV.there)) <;> exact aV.here)) (hsrc:Src P C u E ys:=by first|exact DK|exact yD|exact Gm|exact rQ) (hsz:E.sz=sz:=by exact rfl) (hn:xs.length=n:=by first|exact rfl|assumption|omega)
  (hcc:cp=c0∨(n≤cp∧cp≤c0):=by first|exact .inl rfl|exact .inr ⟨by omega,by omega⟩) (hbig:(2 * (n+ys.length)+512) * bytes≤281474976710656:=by first|omega|assumption|(simp only[List.length_cons,List.length_nil];omega))
  (hw:bF ops ⟨some d',.call { callee:=.builtin .append,args:=#[x,y],argTypes:=#[st,xt] },ty,pos,after,g⟩ a=true:=by exact rfl):aN P ops Q (ET.cons (c,gd,⟨some d',.call { callee:=.builtin .append,args:=#[x,y],argTypes:=#[st,xt] },ty,pos,after,g⟩) es) hist a C:=
 Yg (hw:=hw) (HZ ht hsz hx hn hy hsrc hp hcc hbig h)
theorem GM {st xt e:TypeId} {sz bytes:Nat} {ys:List α} {u:Value} (h:∀A' c',cJ gd (.slice A' ys.length c') fun v=>aN P ops Q es (C::hist) (kP a d' v) (bT A' c' e E ys::C))
  (hx:bK a x=.slice none 0 0:=by exact rfl) (hy:bK a y=u:=by exact rfl) (ht:Ya P st xt=some (e,sz,bytes):=by exact rfl) (hsrc:Src P C u E ys:=by first|exact DK|exact yD|exact Gm|exact rQ) (hsz:E.sz=sz:=by exact rfl)
  (hbig:(2 * (0+ys.length)+512) * bytes≤281474976710656:=by first|omega|assumption|(simp only[List.length_cons,List.length_nil];omega))
  (hw:bF ops ⟨some d',.call { callee:=.builtin .append,args:=#[x,y],argTypes:=#[st,xt] },ty,pos,after,g⟩ a=true:=by exact rfl):aN P ops Q (ET.cons (c,gd,⟨some d',.call { callee:=.builtin .append,args:=#[x,y],argTypes:=#[st,xt] },ty,pos,after,g⟩) es) hist a C:=
 Yg (hw:=hw) (zX.ent (aG.nilrow e E C) (HZ (xs:= []) ht hsz hx rfl hy ⟨hsrc.1,fun H hs=>hsrc.2 H hs.tail⟩ aV.here (.inl rfl) hbig h))
end
end Go.Sl
namespace Go.Sl
section
variable {α:Type} {E:t6 α} {A:Option Addr} {c:Nat} {e:TypeId} {l:List α} {C R:List HP}
theorem Ph {H:Hp} (hs:bY (bT A c e E l::R) H):l.length≤c:=by
 rcases lB hs with⟨_,g2,_⟩|⟨_,_,_,_,_,g,_⟩
 ·subst g2;simp
 ·exact g
theorem iS {P:Program} {f:FuncId} {args:Array Value} {K:Value→List HP→Prop} (hp:aV (bT A c e E l) C R) (h:l.length≤c→aA P f args C K):aA P f args C K:=fun H hs=>h (Ph (hp.sats hs)) H hs
theorem OL {P:Program} {x:Code} {Q:Exit→Fr→List HP→Prop} {a:Fr} (hp:aV (bT A c e E l) C R) (h:l.length≤c→fB P x Q a C):fB P x Q a C:=fun H hs=>h (Ph (hp.sats hs)) H hs
theorem WE {P:Program} {x:Code} {Q:Exit→Fr→List HP→Prop} {a:Fr} {B D:HP} (h:fB P x Q a (B::D::C)):fB P x Q a (sep B D::C):=fun H hs=>h H (aG.unsep H hs)
end
end Go.Sl
namespace Go.Sl
theorem aA.entK {P:Program} {f:FuncId} {args:Array Value} {C:List HP} {K:Value→List HP→Prop} (h:aA P f args C fun v C=>∃C',aG C C'∧K v C'):aA P f args C K:=fun H hs=>
 (h H hs).mono fun _ H' ⟨_,h1,C',h2,h3⟩=>⟨C',h2 H' h1,h3⟩
end Go.Sl
namespace Go.Sl
section
variable {P:Program} {a:Fr} {d:Option Tmp} {ty:TypeId} {pos:String} {after:Array Edge} {g:Option (Nat×Bool)} {x y:Operand}
theorem Aay (pre mid post vs:List Value) (h:mid.length=vs.length):uO (pre++mid++post) pre.length vs=pre++vs++post:=by
 have h1:=D2 pre (mid++post) 0 vs
 rw[Nat.add_zero] at h1
 rw[List.append_assoc,h1,GR mid post 0 vs (by omega)]
 have h2:∀(vs mid:List Value),mid.length=vs.length→Xw vs mid=vs:=by
  intro vs
  induction vs with
  |nil=>intro mid h;rw[List.length_eq_zero_iff.1 h];rfl
  |cons v vs ih=>
   intro mid h
   cases mid with
   |nil=>simp at h
   |cons m mid=>simp only[Xw];rw[ih mid (by simpa using h)]
 have z:∀l,uO l 0 vs=Xw vs l:=fun l=>by cases l <;> rfl
 rw[z,h2 vs mid h,List.append_assoc]
theorem ZA {st xt e:TypeId} {B off j dl dc c0:Nat} {s:ByteArray} {xs:List UInt8} {C R:List HP} {k:Value→List HP→Prop} (hst:P.underlying st=some (.slice e)) (hi:o8 P e=some 1) (hx:bK a x=.slice (some ⟨B,off+j,none⟩) dl dc) (hy:bK a y=.string s)
  (hp:aV (bT (some ⟨B,off,none⟩) c0 e d8 xs) C R) (hj:j+min s.size dl≤xs.length)
  (hk:k (.int .i64 (min s.size dl:Nat)) (bT (some ⟨B,off,none⟩) c0 e d8 (xs.take j++(s.data.toList.take (min s.size dl)++xs.drop (j+min s.size dl)))::R)):
  zX P ⟨d,.call { callee:=.builtin .copy,args:=#[x,y],argTypes:=#[st,xt] },ty,pos,after,g⟩ a C k:=fun H hs=>by
 obtain⟨inf,hi2,hsz⟩:=rN hi
 refine fP ?_
 simp only[execOp,resolve,List.map_toArray,List.map_cons,List.map_nil,hx,hy]
 rw[aJ,aP (show(pure _:Sem Deferred).pr P=some _ from rfl)]
 simp only[invoke,builtin,aJ]
 unfold Builtin.copy_
 simp only[List.getElem?_toArray,List.getElem?_cons_zero,List.getElem?_cons_succ,aJ]
 rw[aP (aK hst)]
 simp only[aJ]
 have hln:(Builtin.lenOf (.string s)).pr P=some s.size:=by simp[Builtin.lenOf];rfl
 rw[aP hln,aP (fK hi2)]
 have hcl:(Builtin.firstCells inf.size (Nat.min s.size dl) (.string s)).rd P H=some ((s.data.toList.take (min s.size dl)).map kX).toArray:=by
  simp only[Builtin.firstCells,xU]
  congr 1
  apply Array.ext'
  simp
  rfl
 refine rT hcl ?_
 rcases lB (hp.sats hs) with⟨h1,_⟩|⟨B',pre,post,h1,h2,h3,h4⟩
 ·cases h1
 ·cases h1
  have hfl:=d8.flat_len xs
  have h1s:d8.sz=1:=rfl
  rw[h1s,Nat.mul_one] at hfl
  have hmin:Nat.min s.size dl=min s.size dl:=rfl
  have hvl:(List.map kX (List.take (min s.size dl) s.data.toList)).length=min s.size dl:=by simp
  refine nJ _ 0 (pre.length+j) _ H _ (nS h2).1 (by rw[List.length_append,List.length_append,hfl,hvl];omega) (by rw[← oM];exact d8.flat_one _) ?_
  have hmid:(List.map kX (List.take (min s.size dl) (List.drop j xs))).length=(List.map kX (List.take (min s.size dl) s.data.toList)).length:=by
   rw[hvl,List.length_map,List.length_take,List.length_drop];omega
  have hsplit:pre++xs.flatMap d8.enc++post=(pre++List.map kX (xs.take j))++List.map kX (List.take (min s.size dl) (List.drop j xs))++(List.map kX (xs.drop (j+min s.size dl))++post):=by
   rw[oM]
   conv=>lhs;rw[← List.take_append_drop j xs,← List.take_append_drop (min s.size dl) (List.drop j xs),List.drop_drop]
   simp only[List.map_append,List.append_assoc]
  have hset:mW (pre++xs.flatMap d8.enc++post) (pre.length+j+0) (List.map kX (List.take (min s.size dl) s.data.toList))=pre++(xs.take j++(s.data.toList.take (min s.size dl)++xs.drop (j+min s.size dl))).flatMap d8.enc++post:=by
   rw[← Gw,hsplit]
   have e1:pre.length+j+0=(pre++List.map kX (xs.take j)).length:=by
    rw[List.length_append,List.length_map,List.length_take];omega
   rw[e1,Aay _ _ _ _ hmid,oM]
   simp only[List.map_append,List.append_assoc]
  rw[hset]
  have hlen:(xs.take j++(s.data.toList.take (min s.size dl)++xs.drop (j+min s.size dl))).length=xs.length:=by
   have hsl:s.data.toList.length=s.size:=by simp
   simp only[List.length_append,List.length_take,List.length_drop,hsl]
   omega
  exact⟨_,iN rfl (rS h2) (by rw[hlen];exact h3) (by rw[hlen];exact h4),hk⟩
variable {ops:Array Oper} {Q:Fr→List HP→Prop} {C R:List HP} {c d':Nat} {gd:Bool} {es:ET} {hist:List (List HP)}
theorem UV {st xt e:TypeId} {B off j dl dc c0:Nat} {s:ByteArray} {xs:List UInt8} (h:cJ gd (.int .i64 (min s.size dl:Nat)) fun v=>aN P ops Q es (C::hist) (kP a d' v) (bT (some ⟨B,off,none⟩) c0 e d8 (xs.take j++(s.data.toList.take (min s.size dl)++xs.drop (j+min s.size dl)))::R))
  (hx:bK a x=.slice (some ⟨B,off+j,none⟩) dl dc:=by exact rfl) (hy:bK a y=.string s:=by exact rfl) (hst:P.underlying st=some (.slice e):=by exact rfl) (hi:o8 P e=some 1:=by exact rfl)
  (hp:aV (bT (some ⟨B,off,none⟩) c0 e d8 xs) C R:=by((repeat (first|exact aV.here|apply aV.there)) <;> exact aV.here)) (hj:j+min s.size dl≤xs.length:=by first|omega|assumption)
  (hk:kd P (.call { callee:=.builtin .copy,args:=#[x,y],argTypes:=#[st,xt] })=.other:=by exact rfl) (hw:bF ops ⟨some d',.call { callee:=.builtin .copy,args:=#[x,y],argTypes:=#[st,xt] },ty,pos,after,g⟩ a=true:=by exact rfl):aN P ops Q (ET.cons (c,gd,⟨some d',.call { callee:=.builtin .copy,args:=#[x,y],argTypes:=#[st,xt] },ty,pos,after,g⟩) es) hist a C:=
 Yg (hk:=hk) (hw:=hw) (ZA hst hi hx hy hp hj h)
end
end Go.Sl
namespace Go.Sl
section
variable {P:Program} {a:Fr} {d:Option Tmp} {ty:TypeId} {pos:String} {after:Array Edge} {g:Option (Nat×Bool)} {t:TypeId} {x y:Operand}
theorem MB {e:TypeId} {n:Nat} {C:List HP} {k:Value→List HP→Prop} {inf:TypeInfo} {z:Value} (hst:P.underlying t=some (.slice e)) (hi:P.info? e=some inf) (hsz:inf.size=1) (hby:inf.bytes=1) (hz:inf.zero=some z) (hzc:z.cells=#[.int .u8 0]) (hx:bK a x=.int .i64 n) (hy:bK a y=.int .i64 n) (hn:n≤1000000)
  (hk:∀r,k (.slice (some ⟨r,0,none⟩) n n) (bT (some ⟨r,0,none⟩) n e d8 (List.replicate n 0)::C)):zX P ⟨d,.makeSlice t x y,ty,pos,after,g⟩ a C k:=fun H hs=>by
 refine fP ?_
 have hw:IntKind.i64.wrap (n:Int)=n:=uS (by omega) (by omega)
 simp only[execOp,hx,hy]
 unfold Instr.makeSlice
 simp only[aJ]
 rw[aP (aK hst)]
 simp only[aJ]
 rw[aP (show(asInt (.int .i64 (n:Int))).pr P=some (n:Int) from rfl),aP (show(asInt (.int .i64 (n:Int))).pr P=some (n:Int) from rfl),aP (d5 hi)]
 simp only[hw,hby]
 have h48:(2:Int) ^ 48=281474976710656:=by decide
 rw[if_neg (by simp only[h48,Bool.or_eq_true,decide_eq_true_eq];omega)]
 simp only[aJ]
 refine Cy ?_
 rw[aP (fK hi),hsz]
 simp only[Int.toNat_natCast,Nat.mul_one]
 have hz0:kX 0=.int .u8 0:=rfl
 have fin:∀(zs:Array Value) (r:Nat),H r=none→((Array.range n).map (fun i=>zs[i % zs.size]!)).toList=(List.replicate n (0:UInt8)).map kX→upV k (.slice (some ⟨r,0,none⟩) n n) (hupd H r (.cells ((Array.range n).map (fun i=>zs[i % zs.size]!)).toList e true)):=fun zs r hr he=>by
  rw[he]
  refine⟨_,iN (pre:= []) (post:= []) rfl ?_ (by rw[List.length_replicate];exact Nat.le_refl _) (by rw[List.length_replicate];simp),hk r⟩
  rw[List.nil_append,List.append_nil,oM]
  exact sB hr hs
 by_cases hn0:n=0
 ·subst hn0
  rw[if_pos rfl]
  simp only[aJ,newRow]
  rw[aP (show(pure #[]:Sem (Array Value)).pr P=some #[] from rfl)]
  intro r hr
  exact⟨rfl,fin #[] r hr (by simp)⟩
 ·rw[if_neg hn0]
  simp only[aJ,newRow]
  rw[aP (show(zeroValue e).pr P=some z from by simp only[zeroValue,aT,d5 hi,Option.bind_some,hz];rfl)]
  rw[aP (show(pure z.cells:Sem (Array Value)).pr P=some z.cells from rfl),hzc]
  intro r hr
  exact⟨rfl,fin _ r hr (by
   apply List.ext_getElem (by simp)
   intro i h1 h2
   simp[Nat.mod_one]
   rfl)⟩
def Aln (P:Program) (e:TypeId):Prop:=∃inf z,P.info? e=some inf∧inf.size=1∧inf.bytes=1∧inf.zero=some z∧z.cells=#[.int .u8 0]
variable {ops:Array Oper} {Q:Fr→List HP→Prop} {C:List HP} {c d':Nat} {gd:Bool} {es:ET} {hist:List (List HP)}
theorem OX {e:TypeId} {n:Nat} (h:∀r,cJ gd (.slice (some ⟨r,0,none⟩) n n) fun v=>aN P ops Q es (C::hist) (kP a d' v) (bT (some ⟨r,0,none⟩) n e d8 (List.replicate n 0)::C)) (hx:bK a x=.int .i64 n:=by exact rfl) (hy:bK a y=.int .i64 n:=by exact rfl) (hst:P.underlying t=some (.slice e):=by exact rfl) (hz:Aln P e:=by exact⟨_,_,rfl,rfl,rfl,rfl,rfl⟩) (hn:n≤1000000:=by first|omega|assumption)
  (hk:kd P (.makeSlice t x y)=.other:=by exact rfl) (hw:bF ops ⟨some d',.makeSlice t x y,ty,pos,after,g⟩ a=true:=by exact rfl):aN P ops Q (ET.cons (c,gd,⟨some d',.makeSlice t x y,ty,pos,after,g⟩) es) hist a C:=by
 obtain⟨inf,z,h1,h2,h3,h4,h5⟩:=hz
 exact Yg (hk:=hk) (hw:=hw) (MB hst h1 h2 h3 h4 h5 hx hy hn h)
end
end Go.Sl
namespace Go.Sl
section
variable {P:Program} {α:Type} {E:t6 α} {A:Option Addr} {c:Nat} {e:TypeId} {l:List α} {C R:List HP} {K:Value→List HP→Prop}
theorem pO {f:FuncId} {args:Array Value} (hp:aV (bT A c e E l) C R) (hl:0<l.length) (h:∀B off,A=some ⟨B,off,none⟩→aA P f args C K):aA P f args C K:=fun H hs=>by
 rcases lB (hp.sats hs) with⟨_,g2,_⟩|⟨B,pre,post,g1,_⟩
 ·subst g2;simp at hl
 ·exact h _ _ g1 H hs
theorem Aim {B off l m j:Nat} {A':Option Addr} (h:Hc (some ⟨B,off,none⟩) A' l m 1) (hl:l=j) (hm:j<m):A'=some ⟨B,off+j,none⟩:=by
 subst hl
 unfold Hc at h
 rw[h,if_neg (by omega),Nat.mul_one]
 simp[Addr.add]
theorem CG {f:FuncId} {args:Array Value} {A B D:HP} {p:Prop} (h:p→aA P f args (A::B::D::R) K):aA P f args (sep A (sep B (sep D (bI p)))::R) K:=
 aA.sep (aA.ent (aG.trans (aG.cons aG.unsep) (aG.trans (aG.cons (aG.cons aG.unsep)) (fun _ hs=>hs.perm (List.Perm.symm (List.perm_middle (l₁:= [A,B,D])).symm)))) (aA.pure fun hI=>h hI))
theorem qN {A B D:HP} {p:Prop} (h:p):aG (A::B::D::R) (sep A (sep B (sep D (bI p)))::R):=
 aG.sep (aG.pick aV.here (aG.sep (aG.pick aV.here (aG.sep (aG.pick aV.here (aG.pure h (aG.refl _)))))))
end
end Go.Sl
namespace Go.Sl
section
variable {P:Program} {ops:Array Oper} {Q:Fr→List HP→Prop} {a:Fr} {C:List HP} {c:Nat} {gd:Bool} {es:ET} {hist:List (List HP)} {d':Tmp}
variable {ty:TypeId} {pos:String} {after:Array Edge} {g:Option (Nat×Bool)} {t yt:TypeId} {x y:Operand}
end
end Go.Sl
namespace Go.Sl
theorem aA.satsK {P:Program} {f:FuncId} {args:Array Value} {C:List HP} {K K':Value→List HP→Prop} (h:aA P f args C K') (hk:∀v C' H,K' v C'→bY C' H→∃C'',bY C'' H∧K v C''):aA P f args C K:=fun H hs=>
 (h H hs).mono fun v H' ⟨_,h1,h2⟩=>hk v _ H' h2 h1
end Go.Sl
namespace Go.Sl
def M6 (P:Program) (t:TypeId) (f:Nat):Option (TypeId×Nat):=match P.underlying t with
 |some (.struct fs)=>match fs[f]? with
  |some fd=>some (fd.type,fd.offset)
  |none=>none
 |_=>none
section
variable {P:Program} {a:Fr} {d:Option Tmp} {ty:TypeId} {pos:String} {after:Array Edge} {g:Option (Nat×Bool)} {t u:TypeId} {x:Operand}
theorem Wd {f off:Nat} {cs:Array Value} {v:Value} (hx:bK a x=.agg cs) (hf:M6 P t f=some (u,off)) (hv:yS P u cs.toList off=some v):bX P ⟨d,.field t x f,ty,pos,after,g⟩ a=some v:=by
 unfold M6 at hf
 split at hf
 ·rename_i fs hu
  split at hf
  ·rename_i fd hfd
   cases hf
   refine cD ?_
   simp only[execOp,hx]
   unfold Instr.field
   rw[aT,aT,aK hu,Option.bind_some]
   simp only[hfd]
   rw[aT,show(asAgg (.agg cs)).pr P=some cs from rfl,Option.bind_some,GA hv]
   rfl
  ·cases hf
 ·cases hf
variable {ops:Array Oper} {Q:Fr→List HP→Prop} {C:List HP} {c d':Nat} {gd:Bool} {es:ET} {hist:List (List HP)}
theorem fN {f off:Nat} {cs:Array Value} {v:Value} (h:cJ gd v fun v=>aN P ops Q es hist (kP a d' v) C) (hx:bK a x=.agg cs:=by exact rfl) (hf:M6 P t f=some (u,off):=by exact rfl) (hv:yS P u cs.toList off=some v:=by exact rfl)
  (hw:bF ops ⟨some d',.field t x f,ty,pos,after,g⟩ a=true:=by exact rfl):aN P ops Q (ET.cons (c,gd,⟨some d',.field t x f,ty,pos,after,g⟩) es) hist a C:=
 gI rfl hw (Wd hx hf hv) h
end
end Go.Sl
namespace Go.Sl
def Aj7 (P:Program) (t:TypeId):Option (Nat×TypeId):=match P.underlying t with
 |some (.array n e)=>some (n,e)
 |_=>none
section
variable {P:Program} {a:Fr} {d:Option Tmp} {ty:TypeId} {pos:String} {after:Array Edge} {g:Option (Nat×Bool)} {t u:TypeId} {x y:Operand}
theorem Qf {k:IntKind} {j:Int} {n sz:Nat} {cs:Array Value} {v:Value} (hx:bK a x=.agg cs) (hy:bK a y=.int k j) (ht:Aj7 P t=some (n,u)) (hs:o8 P u=some sz) (h0:0≤j) (h1:j<n) (hv:yS P u cs.toList (j.toNat * sz)=some v):bX P ⟨d,.index t x y,ty,pos,after,g⟩ a=some v:=by
 unfold Aj7 at ht
 split at ht
 ·rename_i n' e hu
  cases ht
  obtain⟨i,hi,rfl⟩:=rN hs
  refine cD ?_
  simp only[execOp,hx,hy]
  unfold Instr.index
  rw[aT,aT,show(asIntOf (.int k j)).pr P=some (k,j) from rfl,Option.bind_some]
  simp only
  rw[aT,aK hu,Option.bind_some]
  simp only
  rw[if_pos ⟨h0,h1⟩,aT,fK hi,Option.bind_some,GA hv]
  rfl
 ·cases ht
variable {ops:Array Oper} {Q:Fr→List HP→Prop} {C:List HP} {c d':Nat} {gd:Bool} {es:ET} {hist:List (List HP)}
theorem S4 {k:IntKind} {j:Int} {n sz:Nat} {cs:Array Value} {v:Value} (h:cJ gd v fun v=>aN P ops Q es hist (kP a d' v) C) (hx:bK a x=.agg cs:=by exact rfl) (hy:bK a y=.int k j:=by exact rfl) (ht:Aj7 P t=some (n,u):=by exact rfl) (hs:o8 P u=some sz:=by exact rfl) (h0:0≤j:=by omega) (h1:j<n:=by omega) (hv:yS P u cs.toList (j.toNat * sz)=some v:=by exact rfl)
  (hw:bF ops ⟨some d',.index t x y,ty,pos,after,g⟩ a=true:=by exact rfl):aN P ops Q (ET.cons (c,gd,⟨some d',.index t x y,ty,pos,after,g⟩) es) hist a C:=
 gI rfl hw (Qf hx hy ht hs h0 h1 hv) h
end
end Go.Sl
end
section
namespace Go.Sl
structure lA where
 k:Int
 v:Value
 b:Nat
def sI (e:lA):MapEntry:= { key:=.int .i64 e.k,val:=e.v,born:=e.b }
def mp (r:Nat) (es:List lA) (ck:Nat):HP:=fun H=>H r=some (.obj (.map (es.map sI).toArray ck))
def El (r m since:Nat) (seen:List Nat) (last:Nat):HP:=fun H=>H r=some (.obj (.mapIter (some m) since seen.toArray last))
def jC (n:Int):List lA→Nat→Option (Nat×Value)
 | [],_=>none
 |e::es,i=>if n == e.k then some (i,e.v) else jC n es (i+1)
def Mc (n:Int) (v:Value):List lA→List lA
 | []=> []
 |e::es=>if n == e.k then⟨e.k,v,e.b⟩::es else e::Mc n v es
def FX (n:Int):List lA→List lA
 | []=> []
 |e::es=>if n == e.k then es else e::FX n es
theorem z6 {n:Int}:∀ {es:List lA} {i j:Nat} {v:Value},jC n es i=some (j,v)→i≤j∧j - i<es.length∧∃e,es[j - i]?=some e∧e.k=n∧e.v=v
 | [],_,_,_,h=>by cases h
 |e::es,i,j,v,h=>by
  unfold jC at h
  split at h
  ·rename_i he
   cases h
   have:=eq_of_beq he
   exact⟨Nat.le_refl _,by simp,e,by simp,this.symm,rfl⟩
  ·obtain⟨h1,h2,e',h3,h4,h5⟩:=z6 h
   refine⟨by omega,by simp;omega,e',?_,h4,h5⟩
   rw[show j - i=(j - (i+1))+1 by omega]
   simpa using h3
theorem FA {n:Int} {w:Value}:∀ {es:List lA} {i j:Nat} {v:Value},jC n es i=some (j,v)→(es.map sI).modify (j - i) (fun e=> { key:=.int .i64 n,val:=w,born:=e.born })=(Mc n w es).map sI
 | [],_,_,_,h=>by cases h
 |e::es,i,j,v,h=>by
  have hj:=(z6 h).1
  unfold jC at h
  split at h
  ·rename_i he
   cases h
   have:=eq_of_beq he
   subst this
   simp[Mc,sI]
  ·rename_i he
   have h1:=(z6 h).1
   rw[show j - i=(j - (i+1))+1 by omega]
   simp only[List.map_cons,List.modify_succ_cons,Mc,he]
   rw[FA h]
   rfl
theorem GI {n:Int}:∀ {es:List lA} {i j:Nat} {v:Value},jC n es i=some (j,v)→(es.map sI).eraseIdx (j - i)=(FX n es).map sI
 | [],_,_,_,h=>by cases h
 |e::es,i,j,v,h=>by
  unfold jC at h
  split at h
  ·rename_i he
   cases h
   simp[FX,he]
  ·rename_i he
   have h1:=(z6 h).1
   rw[show j - i=(j - (i+1))+1 by omega]
   simp only[List.map_cons,List.eraseIdx_cons_succ,FX,he]
   rw[GI h]
   rfl
theorem Hv {kd:IntKind} {n:Int}:∀(es:List lA) (i:Nat),Instr.findNow (.int kd) (.int .i64 n) (es.map sI) i=some (jC n es i)
 | [],_=>rfl
 |e::es,i=>by
  simp only[List.map_cons,Instr.findNow,sI,Instr.sameNow,if_true,jC]
  cases h:(n == e.k) with
  |true=>rfl
  |false=>simpa using Hv es (i+1)
def Jx (P:Program) (t:TypeId):Option TypeId:=match P.underlying t with
 |some (.map kt et)=>match P.underlying kt with
  |some (.int _)=>some et
  |_=>none
 |_=>none
theorem Bw {P:Program} {t et:TypeId} (h:Jx P t=some et):∃kt kd,P.underlying t=some (.map kt et)∧P.underlying kt=some (.int kd):=by
 unfold Jx at h
 split at h
 ·split at h
  ·cases h;exact⟨_,_,‹_›,‹_›⟩
  ·cases h
 ·cases h
def TD (P:Program) (t:TypeId):Option Value:=match P.info? t with
 |some i=>i.zero
 |none=>none
section
variable {P:Program} {H:Hp}
theorem Yw {t:TypeId} {z:Value} (h:TD P t=some z):(zeroValue t).pr P=some z:=by
 unfold TD at h
 split at h
 ·rename_i i hi
  simp only[zeroValue,aT,d5 hi,Option.bind_some,h];rfl
 ·cases h
theorem zZ {b:Bool} {t:TypeId} {kd:IntKind} {n:Int} (h:P.underlying t=some (.int kd)):(Instr.checkKey b 10000 t (.int .i64 n)).pr P=some ():=by
 rw[show(10000:Nat)=9999+1 from rfl,Instr.checkKey,aT,aK h]
 rfl
theorem Cj {t:TypeId} {kd:IntKind} {n:Int} {es:List lA} (h:P.underlying t=some (.int kd)):(Instr.findKey t (.int .i64 n) (es.map sI)).pr P=some (jC n es 0):=by
 unfold Instr.findKey
 rw[aT,aK h]
 simp only[Option.bind_some,Hv]
 rfl
end
section
variable {P:Program} {a:Fr} {H:Hp} {k:Value→Hp→Prop} {d:Option Tmp} {ty:TypeId} {pos:String} {after:Array Edge} {g:Option (Nat×Bool)} {t:TypeId} {x y z:Operand}
theorem QZ (hk:∀r,H r=none→k (.map (some r)) (hupd H r (.obj (.map #[] 0)))):lY P ⟨d,.makeMap t none,ty,pos,after,g⟩ a H k:=by
 refine fP ?_
 simp only[execOp,Instr.makeMap,aJ,Option.map_none]
 intro r hr
 exact hk r hr
def okV (ok:Bool) (v:Value) (b:Bool):Value:=if ok then .tuple #[v,.bool b] else v
def I3 (ok:Bool) (zv:Value):Option (Nat×Value)→Value
 |some (_,v)=>okV ok v true
 |none=>okV ok zv false
theorem WF {r ck:Nat} {es:List lA} {et:TypeId} {n:Int} {zv:Value} {ok:Bool} (hm:Jx P t=some et) (hz:TD P et=some zv) (hx:bK a x=.map (some r)) (hy:bK a y=.int .i64 n) (hH:H r=some (.obj (.map (es.map sI).toArray ck)))
  (hk:k (I3 ok zv (jC n es 0)) H):lY P ⟨d,.lookup t x y ok,ty,pos,after,g⟩ a H k:=by
 obtain⟨kt,kd,h1,h2⟩:=Bw hm
 refine fP ?_
 simp only[execOp,hx,hy,Instr.lookup,aJ]
 rw[aP (aK h1)]
 simp only[aJ]
 refine⟨_,hH,?_⟩
 simp only[Sem.ev]
 rw[pure_bind,aJ,aP (zZ h2),aJ,aP (Cj h2)]
 cases hf:jC n es 0 with
 |some p=>
  rw[hf] at hk
  cases ok <;> exact hk
 |none=>
  rw[hf] at hk
  simp only[aJ]
  rw[aP (Yw hz)]
  cases ok <;> exact hk
theorem LV (j:IntKind) (n:Int):Instr.sameBits 10000 (.int j n) (.int j n)=true:=by
 rw[show(10000:Nat)=9999+1 from rfl]
 simp[Instr.sameBits]
theorem LI {r ck:Nat} {es:List lA} {et:TypeId} {n:Int} {v:Value} (hm:Jx P t=some et) (hx:bK a x=.map (some r)) (hy:bK a y=.int .i64 n) (hv:bK a z=v) (hH:H r=some (.obj (.map (es.map sI).toArray ck)))
  (hk:k undef (hupd H r (.obj (match jC n es 0 with|some _=>Obj.map ((Mc n v es).map sI).toArray ck|none=>Obj.map ((es++ [(⟨n,v,ck⟩:lA)]).map sI).toArray (ck+1))))):lY P ⟨d,.mapUpdate t x y z,ty,pos,after,g⟩ a H k:=by
 obtain⟨kt,kd,h1,h2⟩:=Bw hm
 refine fP ?_
 simp only[execOp,hx,hy,hv,Instr.mapUpdate,aJ]
 rw[aP (aK h1)]
 simp only[aJ]
 refine⟨_,hH,?_⟩
 simp only[Sem.ev,aJ]
 rw[aP (zZ h2),aP (Cj h2)]
 cases hf:jC n es 0 with
 |some p=>
  obtain⟨j,w⟩:=p
  rw[hf] at hk
  obtain⟨_,_,e,he,hek,_⟩:=z6 hf
  simp only[Nat.sub_zero] at he
  simp only[aJ]
  have hkey:((Option.map (fun e=>MapEntry.key e) ((List.map sI es).toArray[j]?)).getD (.int .i64 n))=.int .i64 n:=by
   simp[he,sI,hek]
  rw[hkey]
  rw[aP (show(Instr.keyThatStays (.int .i64 n) (.int .i64 n)).pr P=some (.int .i64 n) by unfold Instr.keyThatStays;rw[LV];rfl)]
  refine⟨⟨_,hH⟩,rfl,?_⟩
  have hmod:=FA (w:=v) hf
  rw[Nat.sub_zero] at hmod
  have e1:(List.map sI es).toArray.modify j (fun e=> { key:=.int .i64 n,val:=v,born:=e.born })=((Mc n v es).map sI).toArray:=by
   apply Array.ext'
   simpa using hmod
  rw[e1]
  exact hk
 |none=>
  rw[hf] at hk
  refine⟨⟨_,hH⟩,rfl,?_⟩
  have e1:(List.map sI es).toArray.push { key:=.int .i64 n,val:=v,born:=ck }=((es++ [(⟨n,v,ck⟩:lA)]).map sI).toArray:=by
   apply Array.ext'
   simp[sI]
  rw[e1]
  exact hk
theorem Vd {r ck:Nat} {es:List lA} {et ts1:TypeId} {n:Int} (hm:Jx P t=some et) (hx:bK a x=.map (some r)) (hy:bK a y=.int .i64 n) (hH:H r=some (.obj (.map (es.map sI).toArray ck)))
  (hk:k (.tuple #[]) (hupd H r (.obj (.map ((FX n es).map sI).toArray ck)))):lY P ⟨d,.call { callee:=.builtin .delete,args:=#[x,y],argTypes:=#[t,ts1] },ty,pos,after,g⟩ a H k:=by
 obtain⟨kt,kd,h1,h2⟩:=Bw hm
 refine fP ?_
 simp only[execOp,resolve,List.map_toArray,List.map_cons,List.map_nil,hx,hy]
 rw[aJ,aP (show(pure _:Sem Deferred).pr P=some _ from rfl)]
 simp only[invoke,builtin,aJ]
 unfold Builtin.delete_
 simp only[List.getElem?_toArray,List.getElem?_cons_zero,List.getElem?_cons_succ,aJ]
 rw[aP (aK h1)]
 simp only[aJ]
 refine⟨_,hH,?_⟩
 simp only[Sem.ev,aJ]
 rw[aP (zZ h2),aP (Cj h2)]
 cases hf:jC n es 0 with
 |some p=>
  obtain⟨j,w⟩:=p
  refine⟨⟨_,hH⟩,rfl,?_⟩
  have hmod:=GI hf
  rw[Nat.sub_zero] at hmod
  have e1:(List.map sI es).toArray.eraseIdxIfInBounds j=((FX n es).map sI).toArray:=by
   apply Array.ext'
   rw[← hmod]
   simp
  rw[e1]
  exact hk
 |none=>
  refine⟨⟨_,hH⟩,rfl,?_⟩
  have e1:FX n es=es:=by
   have key:∀(es:List lA) (i:Nat),jC n es i=none→FX n es=es:=by
    intro es
    induction es with
    |nil=>intro _ _;rfl
    |cons e es ih=>
     intro i h
     unfold jC at h
     split at h
     ·cases h
     ·rename_i he
      simp only[FX,he]
      rw[ih _ h]
      rfl
   exact key es 0 hf
  rw[e1] at hk
  exact hk
theorem XY {r ck:Nat} {es:List lA} {et:TypeId} (hm:Jx P t=some et) (hx:bK a x=.map (some r)) (hH:H r=some (.obj (.map (es.map sI).toArray ck)))
  (hk:∀i,H i=none→k (.pointer (some ⟨i,0,none⟩)) (hupd H i (.obj (.mapIter (some r) ck #[] ck)))):lY P ⟨d,.range t x,ty,pos,after,g⟩ a H k:=by
 obtain⟨kt,kd,h1,h2⟩:=Bw hm
 refine fP ?_
 simp only[execOp,Instr.range,hx,aJ]
 rw[aP (aK h1)]
 simp only[aJ]
 refine⟨_,hH,?_⟩
 simp only[Sem.ev]
 intro i hi
 exact hk i hi
theorem IT {n:Nat} {q:Nat→Hp→Prop} (hn:1≤n) (h:∀j,j<n→q j H):(choose (.mapNext n)).ev P H q:=by
 unfold choose
 simp only[Sem.ev]
 split
 ·exact h 0 (by omega)
 ·exact fun t=>h _ (Nat.mod_lt _ (by omega))
theorem Ad5 {i r since last ck:Nat} {es:List lA} {seen:List Nat} (hx:bK a x=.pointer (some ⟨i,0,none⟩)) (hI:H i=some (.obj (.mapIter (some r) since seen.toArray last))) (hH:H r=some (.obj (.map (es.map sI).toArray ck)))
  (hold:∀e∈es,e.b<since)
  (h1:∀e∈es,e.b ∉ seen→k (.tuple #[.bool true,.int .i64 e.k,e.v]) (hupd H i (.obj (.mapIter (some r) since (seen++ [e.b]).toArray ck))))
  (h0:(∀e∈es,e.b∈seen)→k (.tuple #[.bool false]) H) (hlast:seen= []∨es= []∨∃e∈es,e.b<last):lY P ⟨d,.next x false,ty,pos,after,g⟩ a H k:=by
 refine fP ?_
 simp only[execOp,Instr.next,hx,aJ]
 refine⟨_,hI,?_⟩
 simp only[Sem.ev,aJ]
 refine⟨_,hH,?_⟩
 simp only[Sem.ev]
 have hcond:¬((!seen.toArray.isEmpty && !(List.map sI es).toArray.isEmpty && (List.map sI es).toArray.all fun x=>decide (x.born≥last))=true):=by
  intro h
  rcases hlast with rfl|rfl|⟨e,he,hl⟩
  ·simp at h
  ·simp at h
  ·simp only[Bool.and_eq_true,Array.all_eq_true] at h
   obtain⟨j,hj,hje⟩:=List.mem_iff_getElem.1 he
   have h3:=h.2 j (by simpa using hj)
   simp[sI,hje] at h3
   omega
 rw[if_neg hcond]
 have hA:Array.filter (fun x=>decide (x.born<since)) (Array.filter (fun e=>!seen.toArray.contains e.born) (List.map sI es).toArray)=((es.filter fun e=>!seen.contains e.b).map sI).toArray:=by
  apply Array.ext'
  simp only[Array.toList_filter]
  rw[List.filter_map,List.filter_map,List.filter_filter]
  congr 1
  apply List.filter_congr
  intro e he
  have:=hold e he
  have hd:decide ((sI e).born<since)=true:=decide_eq_true this
  simp only[Function.comp,hd,Bool.true_and]
  simp[sI]
 have hB:Array.filter (fun x=>decide (x.born≥since)) (Array.filter (fun e=>!seen.toArray.contains e.born) (List.map sI es).toArray)=#[]:=by
  apply Array.ext'
  simp only[Array.toList_filter]
  rw[List.filter_map,List.filter_map,List.filter_filter]
  have:List.filter (fun a=>((fun x=>decide (x.born≥since)) ∘ sI) a && ((fun e=>!seen.toArray.contains e.born) ∘ sI) a) es= []:=by
   rw[List.filter_eq_nil_iff]
   intro e he
   have:=hold e he
   have hd:decide ((sI e).born≥since)=false:=decide_eq_false (Nat.not_le.2 this)
   simp[Function.comp,hd]
  rw[this]
  rfl
 simp only[hA,hB]
 generalize hL:(es.filter fun e=>!seen.contains e.b)=L
 have hmem:∀e∈L,e∈es∧e.b ∉ seen:=by
  intro e he
  rw[← hL] at he
  simpa using List.mem_filter.1 he
 rw[aJ]
 cases L with
 |nil=>
  have hc:((if((List.map sI []).toArray).isEmpty=true then #[none] else #[])++Array.map some ((List.map sI []).toArray++#[]):Array (Option MapEntry))=#[none]:=by
   apply Array.ext'
   simp
  rw[hc]
  refine IT (n:=1) (by omega) fun j hj=>?_
  obtain rfl:j=0:=by omega
  refine h0 fun e he=>?_
  by_cases hs:e.b∈seen
  ·exact hs
  ·have:e∈es.filter fun e=>!seen.contains e.b:=List.mem_filter.2 ⟨he,by simpa using hs⟩
   rw[hL] at this
   cases this
 |cons e0 L=>
  have hc:((if((List.map sI (e0::L)).toArray).isEmpty=true then #[none] else #[])++Array.map some ((List.map sI (e0::L)).toArray++#[]):Array (Option MapEntry))=((e0::L).map fun e=>some (sI e)).toArray:=by
   apply Array.ext'
   simp
  rw[hc]
  refine IT (n:=(((e0::L).map fun e=>some (sI e)).toArray).size) (by simp) fun j hj=>?_
  have hj2:j<(e0::L).length:=by simpa using hj
  have hg:((e0::L).map fun e=>some (sI e)).toArray[j]?=some (some (sI (e0::L)[j])):=by
   rw[List.getElem?_toArray,List.getElem?_map,List.getElem?_eq_getElem hj2]
   rfl
  rw[hg]
  obtain⟨m1,m2⟩:=hmem _ (List.getElem_mem hj2)
  refine⟨⟨_,hI⟩,rfl,?_⟩
  have:=h1 _ m1 m2
  have e2:seen.toArray.push (sI (e0::L)[j]).born=(seen++ [((e0::L)[j]).b]).toArray:=by
   apply Array.ext';simp[sI]
  rw[e2]
  exact this
theorem YK {i r since ck:Nat} {es:List lA} {seen:List Nat} {b:Nat} {e:lA} (hx:bK a x=.pointer (some ⟨i,0,none⟩)) (hI:H i=some (.obj (.mapIter (some r) since (seen++ [b]).toArray ck))) (hH:H r=some (.obj (.map (es.map sI).toArray ck)))
  (he:es.find? (fun e=>e.b == b)=some e) (hk:k (.tuple #[.int .i64 e.k,e.v]) H):lY P ⟨d,.entry x,ty,pos,after,g⟩ a H k:=by
 refine fP ?_
 simp only[execOp,Instr.entry,hx,aJ]
 refine⟨_,hI,?_⟩
 simp only[Sem.ev]
 have hb:(seen++ [b]).toArray.back?=some b:=by simp
 rw[hb]
 simp only[aJ]
 refine⟨_,hH,?_⟩
 have hf:(List.map sI es).toArray.find? (fun x=>x.born == b)=some (sI e):=by
  rw[List.find?_toArray,List.find?_map]
  have:((fun x=>x.born == b) ∘ sI)=fun e=>e.b == b:=by funext e;rfl
  rw[this,he]
  rfl
 have hne:(ck != ck)=false:=by simp
 simp only[Sem.ev,hne,hf]
 exact hk
end
end Go.Sl
namespace Go.Sl
theorem pM {r:Nat} {b:sZ} (ho:b.own=true) {C:List HP} {H:Hp} (hs:bY ((fun H=>H r=some b)::C) H):H r=some b:=by
 obtain⟨H1,H2,hc,h1,h2,ha,hs⟩:=hs
 obtain⟨b',hb,l⟩:=h1 r b ha
 rw[sZ.le_own l ho] at hb
 exact hb
theorem vQ {r:Nat} {b b':sZ} (ho:b.own=true) {C:List HP} {H:Hp} (hs:bY ((fun H=>H r=some b)::C) H):bY ((fun H=>H r=some b')::C) (hupd H r b'):=by
 obtain⟨H1,H2,hc,h1,h2,ha,hs⟩:=hs
 have hn:H2 r=none:=by
  cases hx:H2 r with
  |none=>rfl
  |some x=>have:=(hc r _ x ha hx).1;rw[ho] at this;cases this
 refine⟨mZ r b',H2,(fun i b x hb hx=>by rw[(D9 hb).1,hn] at hx;cases hx),Dy (kJ _ _ _) (sZ.le_refl _),fun i b hb=>?_,xP _ _,hs⟩
 rw[j9 _ _ (fun e=>by subst e;rw[hn] at hb;cases hb)]
 exact h2 i b hb
theorem Fu {r:Nat} {b:sZ} {C:List HP} {H:Hp} (hr:H r=none) (hs:bY C H):bY ((fun H=>H r=some b)::C) (hupd H r b):=
 ⟨mZ r b,H,(fun B b x hb hx=>by rw[(D9 hb).1,hr] at hx;cases hx),Dy (kJ _ _ _) (sZ.le_refl _),
  (fun B b hb=>⟨b,by rw[j9 _ _ (fun e=>by subst e;rw[hr] at hb;cases hb)];exact hb,b.le_refl⟩),xP _ _,hs⟩
section
variable {P:Program} {ops:Array Oper} {Q:Fr→List HP→Prop} {a:Fr} {C R:List HP} {c:Nat} {gd:Bool} {es:ET} {hist:List (List HP)} {d':Tmp} {v:Value}
variable {ty:TypeId} {pos:String} {after:Array Edge} {g:Option (Nat×Bool)} {t:TypeId} {x y z:Operand}
theorem E9 (h:∀r,cJ gd (.map (some r)) fun v=>aN P ops Q es (C::hist) (kP a d' v) (mp r [] 0::C)) (hw:bF ops ⟨some d',.makeMap t none,ty,pos,after,g⟩ a=true:=by exact rfl):
  aN P ops Q (ET.cons (c,gd,⟨some d',.makeMap t none,ty,pos,after,g⟩) es) hist a C:=
 xG rfl hw fun _ hH=>QZ fun r hr=>⟨_,Fu hr hH,h r⟩
theorem jJ {r ck:Nat} {ms:List lA} {et:TypeId} {n:Int} {zv w:Value} {ok:Bool} (h:cJ gd w fun v=>aN P ops Q es (C::hist) (kP a d' v) C) (hx:bK a x=.map (some r):=by exact rfl) (hy:bK a y=.int .i64 n:=by exact rfl)
  (hp:aV (mp r ms ck) C R:=by((repeat (first|exact aV.here|apply aV.there)) <;> exact aV.here)) (hm:Jx P t=some et:=by exact rfl) (hz:TD P et=some zv:=by exact rfl) (hv:I3 ok zv (jC n ms 0)=w:=by first|assumption|exact rfl)
  (hw:bF ops ⟨some d',.lookup t x y ok,ty,pos,after,g⟩ a=true:=by exact rfl):aN P ops Q (ET.cons (c,gd,⟨some d',.lookup t x y ok,ty,pos,after,g⟩) es) hist a C:=
 xG rfl hw fun H hH=>WF hm hz hx hy (pM rfl (hp.sats hH)) (by rw[hv];exact⟨C,hH,h⟩)
def MX (n:Int) (v:Value) (ms:List lA) (ck:Nat):List lA×Nat:=match jC n ms 0 with
 |some _=>(Mc n v ms,ck)
 |none=>(ms++ [⟨n,v,ck⟩],ck+1)
theorem kU {r ck ck':Nat} {ms ms':List lA} {et:TypeId} {n:Int} {u:Value} (h:aN P ops Q es (C::hist) a (mp r ms' ck'::R)) (hx:bK a x=.map (some r):=by exact rfl) (hy:bK a y=.int .i64 n:=by exact rfl) (hu:iP (bK a z)=some u:=by exact rfl)
  (hp:aV (mp r ms ck) C R:=by((repeat (first|exact aV.here|apply aV.there)) <;> exact aV.here)) (hm:Jx P t=some et:=by exact rfl) (hv:MX n u ms ck=(ms',ck'):=by first|assumption|exact rfl)
  (hw:bF ops ⟨none,.mapUpdate t x y z,ty,pos,after,g⟩ a=true:=by exact rfl):aN P ops Q (ET.cons (c,gd,⟨none,.mapUpdate t x y z,ty,pos,after,g⟩) es) hist a C:=
 YE (hw:=hw) fun H hH=>by
  have h1:=hp.sats hH
  refine LI hm hx hy (gM hu) (pM rfl h1) ?_
  unfold MX at hv
  cases hf:jC n ms 0 with
  |some p=>rw[hf] at hv;cases hv;exact⟨_,vQ rfl h1,h⟩
  |none=>rw[hf] at hv;cases hv;exact⟨_,vQ rfl h1,h⟩
theorem KH {r ck:Nat} {ms ms':List lA} {et ts1:TypeId} {n:Int} (h:aN P ops Q es (C::hist) a (mp r ms' ck::R)) (hx:bK a x=.map (some r):=by exact rfl) (hy:bK a y=.int .i64 n:=by exact rfl)
  (hp:aV (mp r ms ck) C R:=by((repeat (first|exact aV.here|apply aV.there)) <;> exact aV.here)) (hm:Jx P t=some et:=by exact rfl) (hv:FX n ms=ms':=by first|assumption|exact rfl)
  (hw:bF ops ⟨none,.call { callee:=.builtin .delete,args:=#[x,y],argTypes:=#[t,ts1] },ty,pos,after,g⟩ a=true:=by exact rfl):aN P ops Q (ET.cons (c,gd,⟨none,.call { callee:=.builtin .delete,args:=#[x,y],argTypes:=#[t,ts1] },ty,pos,after,g⟩) es) hist a C:=
 YE (hw:=hw) fun H hH=>by
  subst hv
  exact Vd hm hx hy (pM rfl (hp.sats hH)) ⟨_,vQ rfl (hp.sats hH),h⟩
theorem Ad0 {r ck:Nat} {ms:List lA} {et:TypeId} (h:∀i,cJ gd (.pointer (some ⟨i,0,none⟩)) fun v=>aN P ops Q es (C::hist) (kP a d' v) (El i r ck [] ck::C)) (hx:bK a x=.map (some r):=by exact rfl)
  (hp:aV (mp r ms ck) C R:=by((repeat (first|exact aV.here|apply aV.there)) <;> exact aV.here)) (hm:Jx P t=some et:=by exact rfl)
  (hw:bF ops ⟨some d',.range t x,ty,pos,after,g⟩ a=true:=by exact rfl):aN P ops Q (ET.cons (c,gd,⟨some d',.range t x,ty,pos,after,g⟩) es) hist a C:=
 xG rfl hw fun H hH=>XY hm hx (pM rfl (hp.sats hH)) fun i hi=>⟨_,Fu hi hH,h i⟩
theorem Ajf {i r since last ck:Nat} {ms:List lA} {seen:List Nat}
  (h1:∀e∈ms,e.b ∉ seen→cJ gd (.tuple #[.bool true,.int .i64 e.k,e.v]) fun v=>aN P ops Q es (C::hist) (kP a d' v) (El i r since (seen++ [e.b]) ck::R))
  (h0:(∀e∈ms,e.b∈seen)→cJ gd (.tuple #[.bool false]) fun v=>aN P ops Q es (C::hist) (kP a d' v) C)
  (hx:bK a x=.pointer (some ⟨i,0,none⟩)) (hp:aV (El i r since seen last) C R) (hq:∃R',aV (mp r ms ck) C R')
  (hold:∀e∈ms,e.b<since) (hlast:seen= []∨ms= []∨∃e∈ms,e.b<last)
  (hw:bF ops ⟨some d',.next x false,ty,pos,after,g⟩ a=true):aN P ops Q (ET.cons (c,gd,⟨some d',.next x false,ty,pos,after,g⟩) es) hist a C:=
 xG rfl hw fun H hH=>by
  obtain⟨R',hq⟩:=hq
  exact Ad5 hx (pM rfl (hp.sats hH)) (pM rfl (hq.sats hH)) hold (fun e he hn=>⟨_,vQ rfl (hp.sats hH),h1 e he hn⟩) (fun hs=>⟨C,hH,h0 hs⟩) hlast
theorem U1 {i r since ck b:Nat} {ms:List lA} {seen:List Nat} {e:lA} {R':List HP} (h:cJ gd (.tuple #[.int .i64 e.k,e.v]) fun v=>aN P ops Q es (C::hist) (kP a d' v) C)
  (hx:bK a x=.pointer (some ⟨i,0,none⟩):=by exact rfl) (hp:aV (El i r since (seen++ [b]) ck) C R:=by((repeat (first|exact aV.here|apply aV.there)) <;> exact aV.here)) (hq:aV (mp r ms ck) C R':=by((repeat (first|exact aV.here|apply aV.there)) <;> exact aV.here))
  (he:ms.find? (fun e=>e.b == b)=some e:=by first|assumption|exact rfl) (hw:bF ops ⟨some d',.entry x,ty,pos,after,g⟩ a=true:=by exact rfl):aN P ops Q (ET.cons (c,gd,⟨some d',.entry x,ty,pos,after,g⟩) es) hist a C:=
 xG rfl hw fun H hH=>YK hx (pM rfl (hp.sats hH)) (pM rfl (hq.sats hH)) he ⟨C,hH,h⟩
end
end Go.Sl
namespace Go.Sl
def Abh:Nat→Option Nat
 |0=>some 0
 |m+1=>some (m+1)
theorem LH {n m:Nat} (h:Abh n=some m):n=m:=by
 cases n <;> (unfold Abh at h;cases h;rfl)
def IQ (acc:List Nat) (len:Nat):List Edge→Nat→Option Nat
 | [],s=>Abh s
 |e::l,s=>match Region.binds .any e with
  |true=>match Abh (s ||| 2 ^ e.on ||| (if e.on<len then acc.getD (len - 1 - e.on) 0 else 0)) with
   |some n=>IQ acc len l n
   |none=>none
  |false=>IQ acc len l s
def Vl:List Oper→List Nat→Nat→Option (List Nat)
 | [],acc,_=>some acc
 |o::l,acc,len=>match IQ acc len o.after.toList 0 with
  |some n=>match Abh (len+1) with
   |some m=>Vl l (n::acc) m
   |none=>none
  |none=>none
theorem Ac6 (acc:List Nat) (i:Nat):(if i<acc.length then acc.getD (acc.length - 1 - i) 0 else 0)=acc.reverse.toArray.getD i 0:=by
 rw[Array.getD_eq_getD_getElem?,List.getElem?_toArray]
 by_cases h:i<acc.length
 ·rw[if_pos h,List.getElem?_reverse h,List.getD_eq_getElem?_getD]
 ·rw[if_neg h,List.getElem?_eq_none (by simpa using h)]
  rfl
theorem E8 {acc:List Nat}:∀ {l:List Edge} {s n:Nat},IQ acc acc.length l s=some n→l.foldl (fun s e=>if Region.binds .any e then s ||| 2 ^ e.on ||| acc.reverse.toArray.getD e.on 0 else s) s=n
 | [],s,n,h=>LH h
 |e::l,s,n,h=>by
  unfold IQ at h
  rw[List.foldl_cons]
  split at h
  ·rename_i hb
   split at h
   ·rename_i k hk
    have:=LH hk
    rw[Ac6] at this
    rw[if_pos hb,this]
    exact E8 h
   ·cases h
  ·rename_i hb
   rw[if_neg (by rw[hb];simp)]
   exact E8 h
theorem Up:∀ {l:List Oper} {acc r:List Nat},Vl l acc acc.length=some r→l.foldl (fun acc o=>acc.push (o.after.foldl (fun s e=>if Region.binds .any e then s ||| 2 ^ e.on ||| acc.getD e.on 0 else s) 0)) acc.reverse.toArray=r.reverse.toArray
 | [],acc,r,h=>by cases h;rfl
 |o::l,acc,r,h=>by
  unfold Vl at h
  split at h
  ·rename_i n hn
   split at h
   ·rename_i m hm
    have e1:=E8 hn
    have e2:=LH hm
    subst e2
    rw[List.foldl_cons,← Array.foldl_toList,e1]
    have:=Up (acc:=n::acc) h
    rw[← this]
    congr 1
    simp
   ·cases h
  ·cases h
theorem Vq {ops:Array Oper} {r:List Nat} (h:Vl ops.toList [] 0=some r):Region.before ops=r.reverse.toArray:=by
 unfold Region.before
 rw[← Array.foldl_toList]
 exact Up (acc:= []) h
section
variable {P:Program} {Q:Exit→Fr→List HP→Prop} {a:Fr} {C:List HP} {id:Nat} {ol:List Oper} {es:ET}
theorem Af2 {l:List (Nat×Nat)} {bl br:List Nat} (hb:Vl ol [] 0=some br) (hr:br.reverse=bl) (hl:Cp (Ki P ol.toArray bl.toArray)=some l) (hc:vG P ol.toArray bl.toArray l=true) (he:Jf ol.toArray l=some es)
  (h:aN P ol.toArray (Q .normal) es [] a C):fB P (.region id ol.toArray true) Q a C:=by
 have e:Region.before ol.toArray=bl.toArray:=by rw[← hr];exact Vq hb
 exact Iw (by rw[e];exact hl) (by rw[e];exact hc) he h
end
end Go.Sl
namespace Go.Sl
theorem bA {C C':List HP} (he:aG C C':=by((iterate 30 (try(first|exact aG.refl _|exact aG.nil|(apply aG.pick;focus ((repeat (first|exact aV.here|apply aV.there)) <;> exact aV.here))|(apply aG.pickP;focus ((repeat (first|exact pers_ro _ _ _|exact mL _ _ _|exact pers_pure _|refine pers_sep ?_ ?_|refine pers_ex fun _=>?_)) <;> exact pers_pure _);focus ((repeat (first|exact aV.here|apply aV.there)) <;> exact aV.here))|(apply aG.pure;focus (first|assumption|exact rfl|omega))|apply aG.nilrow'|apply aG.ex|apply aG.sep|apply aG.drop))) <;> exact aG.nil)):aG C C':=he
theorem kR {α:Type} {C:List HP} {A:Option Addr} {E:t6 α} {xs:List α} (hv:cZ C A E xs:=by((repeat (first|exact d9|exact iH|exact rD|assumption|apply bB)) <;> exact d9)):cZ C A E xs:=hv
end Go.Sl
end
