/- A part of the proof: lemmas; each with the conditions that it states. -/
import Derived.SizedLaws
import Derived.Deep.Slices
import Derived.Test.YtepnmcipkangkaaGreatProg
import Derived.Shelf.Sort.Plain
import Derived.Shelf.Slices.In.SortNone
import Derived.Test.YtepnmcipkangkaaGreatCad
set_option linter.unusedVariables false
set_option linter.unusedSimpArgs false
set_option maxRecDepth 100000
set_option maxHeartbeats 40000000
section
namespace Go.Sl
open Go.ChangeShapes Go.WideShapes Go.ChangeAt Go.RowKit Go.Deep
variable {P:Program} {C:List HP} {W:World}
def Ap (W:World):Hp:=fun B=>match W.heap[B]? with
 |some (.cells arr e _)=>some (.cells arr.toList e false)
 |_=>none
theorem Zk (W:World):B6 (fun i=>W.heap.size<=i) (Ap W) W:=by
 refine⟨fun B b hb=>?_,fun B b hb ho=>?_,fun i hi=>hi⟩
 ·unfold Ap at hb
  split at hb
  ·rename_i arr e fz h;cases hb;exact⟨arr,fz,h,rfl,fun h=>by cases h⟩
  ·cases hb
 ·unfold Ap at hb
  split at hb
  ·cases hb;cases ho
  ·cases hb
theorem aA.below {f:FuncId} {args:Array Value} {r:Value} (h:aA P f args C fun v _=>v=r) (hC:bZ C (Ap W)):
  Calls P f args W fun e W'=>e=.returned r/\Below W.heap.size W W':=by
 refine((h _ hC).run (fun i=>W.heap.size<=i) W (Zk W)).mono ?_
 rintro e W' ⟨v,H',rfl,⟨C',_,rfl⟩,ht⟩
 exact⟨rfl,ht.chg.os,ht.chg.tape,ht.chg.output,ht.chg.size,fun k hk=>ht.chg.kept k hk (by omega)⟩
theorem Oa {A:HP} (hp:FZ A) (ha:A (Ap W)) (hC:bZ C (Ap W)):bZ (A::C) (Ap W):=by
 obtain⟨H',h1,h2,h3⟩:=hp _ ha
 refine⟨H',Ap W,fun B b c hb hc=>⟨h3 B b hb,?_⟩,h1,Cx.refl _,h2,hC⟩
 unfold Ap at hc
 split at hc
 ·cases hc;rfl
 ·cases hc
def Good (P:Program) (W:World):Nat->TypeId->List Value->Prop
 |0,_,_=>False
 |n+1,t,cs=>match P.underlying t with
  |some .bool=>∃b,cs= [.bool b]
  |some (.int k)=>∃i,cs= [.int k i]/\(Lit.int k i).wf=true
  |some .string=>∃s:ByteArray,cs= [.string s]/\s.size<=reachBytes
  |some (.slice e)=>cs= [.slice none 0 0]\/∃a len cap,cs= [.slice (some a) len cap]/\len<=cap/\cap * P.bytesOf e<=reachBytes/\
    ∀i,i<len->∃cs',W.cells? 0 (a.add (i * P.cellsOf e)) (P.cellsOf e)=some cs'/\Good P W n e cs'
  |some (.struct fs)=>cs.length=P.cellsOf t/\∀(j:Nat) (f:Field),fs[j]?=some f->Good P W n f.type ((cs.drop f.offset).take (P.cellsOf f.type))
  |_=>True
theorem Oh {H:Type}:∀ {ts:List TypeId} {ds:List (DataW H)} {j:Nat} {t:TypeId} {d:DataW H},ts[j]?=some t->ds[j]?=some d->∀n∈d.weights P t,n∈DataW.weightsEach P ts ds:=DataW.weights_mem_each
theorem Gw {H:Type} {P:Program} {e:TypeId}:∀ {ds:List (DataW H)} {d:DataW H},d∈ds->∀n∈d.weights P e,n∈DataW.weightsAll P e ds
 |d0::ds,d,hd,n,hn=>by
  simp only[DataW.weightsAll,List.mem_append]
  rcases List.mem_cons.1 hd with rfl|hd
  ·exact .inl hn
  ·exact .inr (Gw hd n hn)
 | [],_,hd,_,_=>by cases hd
theorem MB {H:Type} {enc:TypeId×Value->H} {P:Program} {W:World}:∀(fuel:Nat) (t:TypeId) (cs:List Value) (d:DataW H) (p:List MemPlace),
  DataW.trod enc P W 0 (fun _=>true) true fuel t cs=some (d,p)->(∀n∈d.weights P t,n<=reachBytes)->Good P W fuel t cs
 |0,_,_,_,_,h,_=>by simp[DataW.trod] at h
 |fuel+1,t,cs,d,p,h,hw=>by
  unfold Good
  split
  ·rename_i hu
   obtain⟨b,h1,_⟩:=DataW.trod_bool hu h
   exact⟨b,h1⟩
  ·rename_i k hu
   obtain⟨n,h1,_,h2⟩:=DataW.trod_int hu h
   exact⟨n,h1,h2⟩
  ·rename_i hu
   obtain⟨s,h1,h2,_⟩:=DataW.trod_string hu h
   cases h2
   exact⟨s,h1,by simpa using hw s.data.toList.length (by simp[DataW.weights])⟩
  ·rename_i e hu
   rcases DataW.trod_slice hu h with⟨h1,_⟩|⟨a,len,cap,elems,rest,n,hn,h1,hx,_,hl,_,hel,hi,hsp,_⟩
   ·exact .inl h1
   ·cases hn
    cases hx
    obtain⟨hrl,_⟩:=hsp rfl
    refine .inr ⟨a,len,cap,h1,hl,?_,fun i hil=>?_⟩
    ·have:=hw (((elems.map (·.1)).length+(rest.map (·.1)).length) * P.bytesOf e) (by simp[DataW.weights,hu])
     simp only[List.length_map] at this
     rwa[hel,hrl,Nat.add_sub_cancel' hl] at this
    ·have h2:=hi i hil
     have h3:elems[i]?=some (elems[i]'(by omega)):=List.getElem?_eq_getElem (by omega)
     rw[h3,Option.bind_eq_some_iff] at h2
     obtain⟨cs',k1,k2⟩:=h2
     refine⟨cs',k1,MB fuel e cs' _ _ k2 fun w hwm=>hw w ?_⟩
     simp only[DataW.weights,hu,List.mem_cons,List.mem_append]
     exact .inr (.inl (Gw (List.mem_map.2 ⟨_,List.getElem_mem (by omega),rfl⟩) w hwm))
  ·rename_i fs hu
   obtain⟨xs,n,hn,hx,hl,hlen,hf⟩:=DataW.trod_struct hu h
   cases hn
   refine⟨hl,fun j f hj=>?_⟩
   have h1:=hf j f hj
   have hj':j<fs.size:=(Array.getElem?_eq_some_iff.1 hj).1
   have h2:xs[j]?=some (xs[j]'(by omega)):=List.getElem?_eq_getElem (by omega)
   rw[h2] at h1
   cases hx
   refine MB fuel f.type _ (xs[j]'(by omega)).1 (xs[j]'(by omega)).2 h1 fun w hwm=>hw w ?_
   simp only[DataW.weights,hu]
   refine Oh (j:=j) (t:=f.type) (d:=(xs[j]'(by omega)).1) ?_ ?_ w hwm
   ·simp[hj]
   ·simp[h2]
  ·trivial
theorem Rw {H:Type} {enc:TypeId×Value->H} {P:Program} {W:World}:∀ {ts:List TypeId} {vs:List Value} {ds:List (DataW H)} {ps:List MemPlace},
  DataW.TrodAll enc P W 0 (fun _=>true) true ts vs ds ps->(∀n∈DataW.weightsEach P ts ds,n<=reachBytes)->∀(j:Nat) (t:TypeId),ts[j]?=some t->∃v n,vs[j]?=some v/\Good P W n t v.cells.toList
 |t::ts,v::vs,d::ds,_,⟨p,q,⟨fuel,h1⟩,h2,_⟩,hw,0,t',ht=>by
  cases ht
  exact⟨v,fuel,rfl,MB fuel t _ d p h1 fun n hn=>hw n (by simp only[DataW.weightsEach,List.mem_append];exact .inl hn)⟩
 |t::ts,v::vs,d::ds,_,⟨p,q,h1,h2,_⟩,hw,j+1,t',ht=>by
  obtain⟨v',n,k1,k2⟩:=Rw h2 (fun n hn=>hw n (by simp only[DataW.weightsEach,List.mem_append];exact .inr hn)) j t' (by simpa using ht)
  exact⟨v',n,by simpa using k1,k2⟩
 | [],_,_,_,_,_,_,_,ht=>by simp at ht
theorem VZ {α:Type} {E:u6 α}:∀(xs:List α) (off:Nat) (arr:List Value),(∀i x,xs[i]?=some x->∀r,r<E.sz->arr[off+i * E.sz+r]?=(E.enc x)[r]?)->(arr.drop off).take (xs.length * E.sz)=xs.flatMap E.enc
 | [],_,_,_=>by simp
 |x::xs,off,arr,h=>by
  have h1:(arr.drop off).take E.sz=E.enc x:=by
   apply List.ext_getElem?
   intro r
   by_cases hr:r<E.sz
   ·rw[List.getElem?_take_of_lt hr,List.getElem?_drop]
    have:=h 0 x rfl r hr
    simpa using this
   ·rw[List.getElem?_eq_none (by rw[List.length_take];omega),List.getElem?_eq_none (by rw[E.len];omega)]
  have h2:=VZ xs (off+E.sz) arr fun i y hy r hr=>by
   have:=h (i+1) y (by simpa using hy) r hr
   rw[show off+E.sz+i * E.sz+r=off+(i+1) * E.sz+r by rw[Nat.add_mul];omega]
   exact this
  rw[List.length_cons,Nat.add_mul,Nat.one_mul,Nat.add_comm (xs.length * E.sz),List.take_add,List.drop_drop,h1,h2,List.flatMap_cons]
theorem Ajx {α:Type} {E:u6 α} {a:Addr} {len:Nat} {φ:α->Prop} (hsz:0<E.sz) (h:∀i,i<len->∃x,W.cells? 0 (a.add (i * E.sz)) E.sz=some (E.enc x)/\φ x):
  ∃xs:List α,xs.length=len/\rF (some a) E xs (Ap W)/\∀x∈xs,φ x:=by
 have key:∀n,n<=len->∃xs:List α,xs.length=n/\(∀i x,xs[i]?=some x->W.cells? 0 (a.add (i * E.sz)) E.sz=some (E.enc x))/\∀x∈xs,φ x:=by
  intro n
  induction n with
  |zero=>exact fun _=>⟨[],rfl,fun i x hx=>by simp at hx,fun x hx=>by cases hx⟩
  |succ n ih=>
   intro hn
   obtain⟨xs,h1,h2,h3⟩:=ih (by omega)
   obtain⟨x,h4,h5⟩:=h n (by omega)
   refine⟨xs++ [x],by simp[h1],fun i y hy=>?_,fun y hy=>?_⟩
   ·by_cases hi:i<n
    ·rw[List.getElem?_append_left (by omega)] at hy;exact h2 i y hy
    ·rw[List.getElem?_append_right (by omega)] at hy
     have:i=n:=by
      rcases Nat.lt_or_ge (i - xs.length) 1 with h|h
      ·omega
      ·rw[List.getElem?_eq_none (by simpa using h)] at hy;cases hy
     subst this
     rw[h1,Nat.sub_self] at hy
     cases hy
     exact h4
   ·rcases List.mem_append.1 hy with hy|hy
    ·exact h3 y hy
    ·cases List.mem_singleton.1 hy;exact h5
 obtain⟨xs,h1,h2,h3⟩:=key len (Nat.le_refl _)
 refine⟨xs,h1,?_,h3⟩
 cases xs with
 |nil=>exact .inl rfl
 |cons x xs=>
  have h0:=h2 0 x rfl
  obtain⟨_,hl,hc⟩:=World.cells?_some h0
  have hc0:=hc 0 hsz
  have ha:a.add (0 * E.sz)=a:=by rw[Nat.zero_mul];rfl
  rw[ha] at hc0
  have ha0:a.add 0=a:=rfl
  rw[ha0] at hc0
  have hlen:=E.len x
  have hx0:(E.enc x)[0]?=some ((E.enc x)[0]'(by omega)):=List.getElem?_eq_getElem (by omega)
  rw[hx0] at hc0
  obtain⟨B,off,sp⟩:=a
  unfold World.cell? at hc0
  simp only at hc0
  split at hc0
  ·rename_i arr e fz hB
   split at hc0
   ·cases hc0
   ·rename_i hsp
    have hsp:sp=none:=by cases sp <;> simp_all
    subst hsp
    have hlt:off<arr.size:=(Array.getElem?_eq_some_iff.1 hc0).1
    have hfl:((arr.toList).drop off).take ((x::xs).length * E.sz)=(x::xs).flatMap E.enc:=VZ (x::xs) off arr.toList fun i y hy r hr=>by
     obtain⟨_,_,hcc⟩:=World.cells?_some (h2 i y hy)
     have:=hcc r hr
     rw[oV,oV] at this
     unfold World.cell? at this
     simp only[hB] at this
     rw[<- this]
     simp
    refine .inr ⟨B,arr.toList.take off,(arr.toList.drop off).drop ((x::xs).length * E.sz),e,false,?_,?_⟩
    ·rw[List.length_take,Nat.min_eq_left (by simp;omega)]
    ·unfold Ap
     rw[hB]
     simp only
     rw[<- hfl,List.append_assoc,List.take_append_drop,List.take_append_drop]
  ·cases hc0
end Go.Sl
namespace Go.Sl
open Go.ChangeShapes Go.WideShapes Go.ChangeAt Go.RowKit Go.Deep
variable {H:Type} {P:Program} {W:World} {base b0 n:Nat} {ps:List MemPlace} {args:Array Value} {t0 t1 t2 t3 t:TypeId} {r:Reach} {v:Value} {fs:Array Field} {cs:List Value}
section
variable {enc:TypeId×Value->H} {ds:List (DataW H)}
theorem Gz:∀ {ts:List TypeId} {vs:List Value} {ds:List (DataW H)} {ps:List MemPlace},DataW.TrodAll enc P W 0 (fun _=>true) true ts vs ds ps->vs.length=ts.length/\ds.length=ts.length
 | [],[],[],_,_=>⟨rfl,rfl⟩
 |_::_,_::_,_::_,_,⟨_,_,_,h,_⟩=>by obtain⟨h1,h2⟩:=Gz h;simp[h1,h2]
 | [],_::_,_,_,h=>h.elim
 | [],[],_::_,_,h=>h.elim
 |_::_,[],_,_,h=>h.elim
 |_::_,_::_,[],_,h=>h.elim
theorem Aps (hA:DataW.TrodAll enc P W 0 (fun _=>true) true [t0,t1,t2] args.toList ds ps):∃v0 v1 v2 d0 d1 d2,args=#[v0,v1,v2]/\ds= [d0,d1,d2]:=by
 obtain⟨l⟩:=args
 obtain⟨h1,h2⟩:=Gz hA
 match l,ds,h1,h2 with
 | [v0,v1,v2],[d0,d1,d2],_,_=>exact⟨v0,v1,v2,d0,d1,d2,rfl,rfl⟩
theorem Yx {e:TypeId} (ht:P.underlying t=some (.slice e)) (hv:Value.okWide P W r b0 t v) (hg:Good P W n t v.cells.toList):v=.slice none 0 0\/∃a len cap m,v=.slice (some a) len cap/\len<=cap/\cap * P.bytesOf e<=reachBytes/\
    ∀i,i<len->∃cs',W.cells? 0 (a.add (i * P.cellsOf e)) (P.cellsOf e)=some cs'/\Good P W m e cs':=by
 obtain⟨A,l,c,rfl⟩:=okWide_slice ht hv
 cases n with
 |zero=>exact hg.elim
 |succ n=>
  simp only[Good,ht] at hg
  rcases hg with hg|⟨a,len,cap,h1,h2,h3,h4⟩
  ·simp[Value.cells] at hg
   obtain⟨rfl,rfl,rfl⟩:=hg
   exact .inl rfl
  ·simp[Value.cells] at h1
   obtain⟨rfl,rfl,rfl⟩:=h1
   exact .inr ⟨a,l,c,n,rfl,h2,h3,h4⟩
theorem Jw (ht:P.underlying t=some (.struct fs)) (hv:Value.okWide P W r b0 t v) (hg:Good P W n t v.cells.toList):∃cs:List Value,v=.agg cs.toArray/\Good P W n t cs:=by
 obtain⟨cs,rfl,_⟩:=okWide_struct ht hv
 exact⟨cs.toList,rfl,hg⟩
end
theorem gU {k:IntKind} (ht:P.underlying t=some (.int k)) (hg:Good P W n t cs):∃i,cs= [.int k i]/\(Lit.int k i).wf=true:=by
 cases n with
 |zero=>exact hg.elim
 |succ n=>simpa only[Good,ht] using hg
theorem Xv (ht:P.underlying t=some .bool) (hg:Good P W n t cs):∃b,cs= [.bool b]:=by
 cases n with
 |zero=>exact hg.elim
 |succ n=>simpa only[Good,ht] using hg
theorem OP (ht:P.underlying t=some .string) (hg:Good P W n t cs):∃s:ByteArray,cs= [.string s]/\s.size<=reachBytes:=by
 cases n with
 |zero=>exact hg.elim
 |succ n=>simpa only[Good,ht] using hg
theorem tY (ht:P.underlying t=some (.struct fs)) (hg:Good P W n t cs):∃m,cs.length=P.cellsOf t/\∀(j:Nat) (f:Field),fs[j]?=some f->Good P W m f.type ((cs.drop f.offset).take (P.cellsOf f.type)):=by
 cases n with
 |zero=>exact hg.elim
 |succ n=>
  simp only[Good,ht] at hg
  exact⟨n,hg⟩
end Go.Sl
namespace Go.Sl
variable {P:Program} {C:List HP} {a:Fr} {d:Option Tmp} {ty t yt:TypeId} {pos:String} {after:Array Edge} {g:Option (Nat×Bool)} {x y z:Operand} {k yk:IntKind} {m n:Int} {ops:Array Oper} {Q:Fr->List HP->Prop} {c f:Nat} {gd b:Bool} {es:ET} {hist:List (List HP)} {d':Tmp} {v:Value} {op:Op}
theorem Alg (hx:bL a x=.int k m) (hy:bL a y=.int yk n) (h0:0<=n) (h1:n<=k.bits):bY P ⟨d,.binOp .shr t x y yt,ty,pos,after,g⟩ a=some (.int k (m / 2 ^ n.toNat)):=by
 have:=Adx (P:=P) (d:=d) (t:=t) (yt:=yt) (ty:=ty) (pos:=pos) (after:=after) (g:=g) hx hy (by omega)
 rw[this,Nat.min_eq_left (by omega)]
 congr 2
 exact Int.fdiv_eq_ediv_of_nonneg m (Int.le_of_lt (Int.pow_pos (by decide)))
theorem Aot (m:Int) (h0:-9223372036854775808<=m) (h1:m<=9223372036854775807):IntKind.i64.wrap ((BitVec.ofInt 64 m &&& ~~~(BitVec.ofInt 64 0)).toNat)=m:=by
 have e:(BitVec.ofInt 64 m &&& ~~~(BitVec.ofInt 64 0))=BitVec.ofInt 64 m:=by
  have: ~~~(BitVec.ofInt 64 0)=BitVec.allOnes 64:=by decide
  rw[this,BitVec.and_allOnes]
 rw[e]
 simp only[BitVec.toNat_ofInt,IntKind.wrap,IntKind.bits,IntKind.signed]
 simp
 omega
theorem An7 (m:Int) (h0:-9223372036854775808<=m) (h1:m<=9223372036854775807):IntKind.i64.wrap ((BitVec.ofInt 64 m &&& ~~~(BitVec.ofInt 64 1)).toNat)=m - m % 2:=by
 have e:(BitVec.ofInt 64 m &&& ~~~(BitVec.ofInt 64 1)).toNat=((BitVec.ofInt 64 m).toNat / 2) * 2:=by
  have:(BitVec.ofInt 64 m &&& ~~~(BitVec.ofInt 64 1))=(BitVec.ofInt 64 m >>> 1) <<< 1:=by
   apply BitVec.eq_of_getLsbD_eq
   intro i hi
   have h1:BitVec.ofInt 64 1=1#64:=by decide
   rw[h1]
   have k:∀j:Nat,j<64->(~~~(1#64)).getLsbD j=decide (1<=j):=by decide
   rw[BitVec.getLsbD_and,k i hi,BitVec.getLsbD_shiftLeft,BitVec.getLsbD_ushiftRight]
   by_cases h:1<=i
   ·have e:1+(i - 1)=i:=by omega
    simp[h,hi,e]
    intro;omega
   ·have e:i=0:=by omega
    subst e
    simp
  rw[this]
  have:=(BitVec.ofInt 64 m).isLt
  simp[BitVec.toNat_shiftLeft,BitVec.toNat_ushiftRight,Nat.shiftLeft_eq,Nat.shiftRight_eq_div_pow]
  omega
 rw[e]
 simp only[BitVec.toNat_ofInt,IntKind.wrap,IntKind.bits,IntKind.signed]
 simp
 omega
theorem T4 (hx:bL a x=.int .i64 m) (hy:bL a y=.int .i64 0) (h0:-9223372036854775808<=m) (h1:m<=9223372036854775807):bY P ⟨d,.binOp .andNot t x y yt,ty,pos,after,g⟩ a=some (.int .i64 m):=
 DF hx hy rfl (by show some (Value.int .i64 _)=_;rw[show IntKind.i64.bits=64 from rfl,Aot m h0 h1])
theorem SX (hx:bL a x=.int .i64 m) (hy:bL a y=.int .i64 1) (h0:-9223372036854775808<=m) (h1:m<=9223372036854775807):bY P ⟨d,.binOp .andNot t x y yt,ty,pos,after,g⟩ a=some (.int .i64 (m - m % 2)):=
 DF hx hy rfl (by show some (Value.int .i64 _)=_;rw[show IntKind.i64.bits=64 from rfl,An7 m h0 h1])
theorem Gr (h:cL gd (.int .i64 m) fun v=>aN P ops Q es hist (lT a d' v) C) (hx:bL a x=.int .i64 m:=by exact rfl) (hy:bL a y=.int .i64 0:=by exact rfl) (h0:-9223372036854775808<=m:=by first|omega|assumption) (h1:m<=9223372036854775807:=by first|omega|assumption) (hw:bE ops ⟨some d',.binOp .andNot t x y yt,ty,pos,after,g⟩ a=true:=by exact rfl):aN P ops Q (ET.cons (c,gd,⟨some d',.binOp .andNot t x y yt,ty,pos,after,g⟩) es) hist a C:=
 gT rfl hw (T4 hx hy h0 h1) h
theorem Fs (h:cL gd (.int .i64 (m - m % 2)) fun v=>aN P ops Q es hist (lT a d' v) C) (hx:bL a x=.int .i64 m:=by exact rfl) (hy:bL a y=.int .i64 1:=by exact rfl) (h0:-9223372036854775808<=m:=by first|omega|assumption) (h1:m<=9223372036854775807:=by first|omega|assumption) (hw:bE ops ⟨some d',.binOp .andNot t x y yt,ty,pos,after,g⟩ a=true:=by exact rfl):aN P ops Q (ET.cons (c,gd,⟨some d',.binOp .andNot t x y yt,ty,pos,after,g⟩) es) hist a C:=
 gT rfl hw (SX hx hy h0 h1) h
theorem Amy (h:b=false):(!b)=true:=by rw[h];rfl
theorem Anl (h:b=true):(!b)=false:=by rw[h];rfl
theorem zL {α:Type} [BEq α] [LawfulBEq α] (x:α):(!(x == x))=false:=by rw[beq_self_eq_true];rfl
theorem WT {p:Fr->Prop} (l:List (Nat×Value)) (h:dH a l) (k:p (gJ a l)):p a:=by rw[V0 h] at k;exact k
def Aqg:List Value->Option (List Int)
 | []=>some []
 |.int .u8 z::cs=>match Aqg cs with
  |some zs=>some (z::zs)
  |none=>none
 |_=>none
def Aqh:List Int->Prop
 | []=>True
 |z::l=>(0<=z/\z<256)/\Aqh l
theorem Ru (h:cL gd (.int k (m / 2 ^ n.toNat)) fun v=>aN P ops Q es hist (lT a d' v) C) (hx:bL a x=.int k m:=by exact rfl) (hy:bL a y=.int yk n:=by exact rfl)
  (h0:0<=n:=by first|omega|assumption) (h1:n<=k.bits:=by first|assumption|(show _<=((64:Nat):Int);omega)|(show _<=((8:Nat):Int);omega)) (hw:bE ops ⟨some d',.binOp .shr t x y yt,ty,pos,after,g⟩ a=true:=by exact rfl):aN P ops Q (ET.cons (c,gd,⟨some d',.binOp .shr t x y yt,ty,pos,after,g⟩) es) hist a C:=
 gT rfl hw (Alg hx hy h0 h1) h
theorem OQ {n:Nat} (h:(match xX P t f with|some m=>Aw m|none=>none)=some n):xX P t f=some n:=by
 split at h
 ·rename_i m hm;rw[hm,pB h]
 ·cases h
theorem bD {B off n:Nat} (h:cL gd (.pointer (some ⟨B,off+n,none⟩)) fun v=>aN P ops Q es hist (lT a d' v) C) (hx:bL a x=.pointer (some ⟨B,off,none⟩):=by exact rfl)
  (hf:(match xX P t f with|some m=>Aw m|none=>none)=some n:=by exact rfl) (hw:bE ops ⟨some d',.fieldAddr t x f,ty,pos,after,g⟩ a=true:=by exact rfl):aN P ops Q (ET.cons (c,gd,⟨some d',.fieldAddr t x f,ty,pos,after,g⟩) es) hist a C:=
 gT rfl hw (Ew hx (OQ hf)) h
theorem m9 {t' e:TypeId} {s:ByteArray} (h:∀r N,cL gd (.slice (some ⟨r,0,none⟩) s.size N) fun v=>aN P ops Q es (C::hist) (lT a d' v) (bT (some ⟨r,0,none⟩) N e eG s.data.toList::C))
  (hx:bL a x=.string s:=by exact rfl) (hs:pS P t=true:=by exact rfl) (ht:J1 P t'=some e:=by exact rfl)
  (hk:kd P (.convert t t' x)=.other:=by exact rfl) (hw:bE ops ⟨some d',.convert t t' x,ty,pos,after,g⟩ a=true:=by exact rfl):aN P ops Q (ET.cons (c,gd,⟨some d',.convert t t' x,ty,pos,after,g⟩) es) hist a C:=
 x9 hk hw fun H hH=>Qs hs ht hx fun r N hr hN=>⟨_,i4 (B:=r) (pre:= []) (post:=List.replicate (N - s.size) (.int .u8 0)) rfl (by rw[pQ,List.nil_append];exact tO hr hH) (by simpa using hN) (by simp[eG]),h r N⟩
end Go.Sl
namespace Go.Sl
variable {α:Type} {C:List HP}
theorem Ada {A B:HP} (pa:FZ A) (pb:FZ B) (ma:Bb A) (mb:Bb B):FZ (Aqe A B):=fun H ⟨ha,hb⟩=>by
 obtain⟨X,x1,x2,x3⟩:=pa H ha
 obtain⟨Y,y1,y2,y3⟩:=pb H hb
 have hxy:uT X Y:=fun r b c hb hc=>⟨x3 r b hb,y3 r c hc⟩
 refine⟨uM X Y,y4 x1 y1,⟨ma _ _ x2 (sJ _ _),mb _ _ y2 (pV hxy x1 y1)⟩,fun r b hb=>?_⟩
 unfold uM at hb
 split at hb
 ·rename_i a ha;cases hb;exact x3 _ _ ha
 ·exact y3 _ _ hb
section
variable {P:α->HP}
def mC (P:α->HP) (l:List α):HP:=fun H=>∀x∈l,P x H
theorem QZ (m:∀x,Bb (P x)) (l:List α):Bb (mC P l):=fun H H' h hl x hx=>m x H H' (h x hx) hl
theorem IB (p:∀x,FZ (P x)) (m:∀x,Bb (P x)):∀l:List α,FZ (mC P l)
 | []=>fun H _=>⟨fun _=>none,(fun _ _ h=>by cases h),(fun _ h=>by cases h),(fun _ _ h=>by cases h)⟩
 |x::l=>fun H h=>by
  obtain⟨X,x1,x2,x3⟩:=Ada (p x) (IB p m l) (m x) (QZ m l) H ⟨h x (by simp),fun y hy=>h y (by simp[hy])⟩
  exact⟨X,x1,fun y hy=>by
   rcases List.mem_cons.1 hy with rfl|hy
   ·exact x2.1
   ·exact x2.2 y hy,x3⟩
theorem Pn {H:Hp} (hs:bZ C H):bZ (mC P []::C) H:=
 ⟨fun _=>none,H,(fun _ _ _ h=>by cases h),(fun _ _ h=>by cases h),Cx.refl H,(fun _ h=>by cases h),hs⟩
theorem aG.allnil {C':List HP} (h:aG C C'):aG C (mC P []::C'):=fun H hs=>Pn (h H hs)
theorem aG.allsnoc {l:List α} {x:α} (p:∀x,FZ (P x)) (m:∀x,Bb (P x)):aG (P x::mC P l::C) (mC P (l++ [x])::C):=fun H hs=>by
 have h:=Abq (p x) (IB p m l) (m x) (QZ m l) hs
 refine aG.imp (fun H ⟨h1,h2⟩ y hy=>?_) (aG.refl C) H h
 rcases List.mem_append.1 hy with hy|hy
 ·exact h2 y hy
 ·cases List.mem_singleton.1 hy;exact h1
theorem aG.allget {l:List α} {x:α} (p:∀x,FZ (P x)) (m:∀x,Bb (P x)) (hx:x∈l):aG (mC P l::C) (P x::mC P l::C):=fun H hs=>
 aG.imp (fun H h=>h x hx) (aG.refl _) H (hs.dup (IB p m l))
theorem aG.allsub {l l':List α} (h:∀x∈l',x∈l):aG (mC P l::C) (mC P l'::C):=aG.imp (fun _ k x hx=>k x (h x hx)) (aG.refl _)
end
end Go.Sl
namespace Go.Sl
theorem Aop {P:Program} {Q:Exit->Fr->List HP->Prop} {a:Fr} {C:List HP} {x:Code} {id:Nat} (I:Fr->List HP->Prop)
  (h:fL P x (aL id (bM (dI I) Q)) a C) (k:∀a C,I a C->Aqf (Q .normal a C)):fL P (.block id x) Q a C:=fun H hs=>
 xS _ (fun e a H hq=>by
  obtain⟨C',h1,h2⟩:=hq
  cases e <;> first
   |exact⟨C',h1,h2⟩
   |(obtain⟨C'',hE,hI⟩:=h2;exact⟨C'',hE H h1,(k _ _ hI).h⟩)) a H (Hd (id:=id) (Q:=bM (dI I) Q) h H hs)
end Go.Sl
end
section
namespace Go.Sl
variable {α:Type} {j k c B off c0 n sz:Nat} {vs:List Value} {P:Program} {ops:Array Oper} {Q:Fr->List HP->Prop} {a:Fr} {C R:List HP} {gd:Bool} {es:ET} {hist:List (List HP)} {ty t e:TypeId} {pos:String} {after:Array Edge} {g:Option (Nat×Bool)} {x z:Operand} {u:Value}
theorem We:∀(vs mid post:List Value),vs.length<=mid.length->YA vs (mid++post)=YA vs mid++post
 | [],_,_,_=>by simp[YA]
 |v::vs,[],_,h=>by simp at h
 |v::vs,m::mid,post,h=>by
  have:=We vs mid post (by simpa using h)
  simp[YA,this]
theorem EY:∀(pre l:List Value) (n:Nat) (vs:List Value),vQ (pre++l) (pre.length+n) vs=pre++vQ l n vs
 | [],l,n,vs=>by simp
 |p::pre,l,n,vs=>by
  have:=EY pre l n vs
  rw[List.length_cons,show pre.length+1+n=(pre.length+n)+1 by omega,List.cons_append]
  show p::vQ (pre++l) (pre.length+n) vs=_
  rw[this];rfl
theorem JS:∀(mid post:List Value) (k:Nat) (vs:List Value),k+vs.length<=mid.length->vQ (mid++post) k vs=vQ mid k vs++post
 |mid,post,0,vs,h=>by
  have z:∀l,vQ l 0 vs=YA vs l:=fun l=>by cases l <;> rfl
  rw[z,z]
  exact We vs mid post (by omega)
 | [],post,k+1,vs,h=>by simp at h
 |m::mid,post,k+1,vs,h=>by
  show m::vQ (mid++post) k vs=m::(vQ mid k vs++post)
  rw[JS mid post k vs (by simp at h;omega)]
section
variable {E:u6 α} {xs:List α}
theorem Adh {y y':α} {pre post:List Value} (hj:xs[j]?=some y) (hk:k+vs.length<=E.sz) (he:vQ (E.enc y) k vs=E.enc y'):
  vQ (pre++xs.flatMap E.enc++post) (pre.length+(j * E.sz+k)) vs=pre++(xs.set j y').flatMap E.enc++post:=by
 have hlt:j<xs.length:=by
  rcases Nat.lt_or_ge j xs.length with h|h
  ·exact h
  ·rw[List.getElem?_eq_none h] at hj;cases hj
 have e1:xs=xs.take j++y::xs.drop (j+1):=by
  have h2:=List.drop_eq_getElem_cons hlt
  rw[List.getElem?_eq_getElem hlt] at hj
  cases hj
  rw[<- h2,List.take_append_drop]
 have e2:xs.set j y'=xs.take j++y'::xs.drop (j+1):=List.set_eq_take_append_cons_drop▸(by rw[if_pos hlt])
 have hl:((xs.take j).flatMap E.enc).length=j * E.sz:=by rw[E.flat_len,List.length_take,Nat.min_eq_left (by omega)]
 have hE:=E.len y
 rw[e2,List.append_assoc,EY]
 have e3:xs.flatMap E.enc++post=(xs.take j).flatMap E.enc++(E.enc y++((xs.drop (j+1)).flatMap E.enc++post)):=by
  conv=>lhs;rw[e1]
  simp only[List.flatMap_append,List.flatMap_cons,List.append_assoc]
 rw[e3,<- hl,EY,JS _ _ _ _ (by omega),he]
 simp only[List.flatMap_append,List.flatMap_cons,List.append_assoc]
theorem HK {y y':α} (h:aN P ops Q es (C::hist) a (bT (some ⟨B,off,none⟩) c0 e E (xs.set j y')::R)) (hx:bL a x=.pointer (some ⟨B,off+j * sz+k,none⟩):=by exact rfl)
  (hp:aW (bT (some ⟨B,off,none⟩) c0 e E xs) C R:=by((repeat (first|exact aW.here|apply aW.there)) <;> exact aW.here)) (hsz:E.sz=sz:=by exact rfl) (hy:iW (bL a z)=some u:=by exact rfl) (hvs:oT u.cells.toList=some vs:=by exact rfl) (ht:qJ P t=some n:=by exact rfl)
  (hn:(vs.length == n)=true:=by exact rfl) (nR:(vs.all Value.oneCell')=true:=by exact rfl) (hle:Nat.ble (k+n) sz=true:=by exact rfl) (hj:xs[j]?=some y:=by first|assumption|exact rfl) (hs:E.dec (vQ (E.enc y) k vs)=some y':=by exact rfl)
  (hw:bE ops ⟨none,.store t x z,ty,pos,after,g⟩ a=true:=by exact rfl):aN P ops Q (ET.cons (c,gd,⟨none,.store t x z,ty,pos,after,g⟩) es) hist a C:=
 Agq (hw:=hw) fun H hH=>by
  have hn':vs.length=n:=by simpa using hn
  have hle':k+n<=sz:=by simpa using hle
  rcases lY (hp.sats hH) with⟨h1,_⟩|⟨B',pre,post,h1,h2,h3,h4⟩
  ·cases h1
  ·cases h1
   subst hsz
   have hlt:j<xs.length:=by
    rcases Nat.lt_or_ge j xs.length with h|h
    ·exact h
    ·rw[List.getElem?_eq_none h] at hj;cases hj
   have hfl:=E.flat_len xs
   have hmul:(j+1) * E.sz<=xs.length * E.sz:=Nat.mul_le_mul_right _ hlt
   rw[Nat.add_mul,Nat.one_mul] at hmul
   refine Qd hx (gV hy) (l5 hvs) ht hn' nR (pC h2).1 (by simp only[List.length_append,hfl];omega) ?_
   rw[<- Hq,show pre.length+j * E.sz+k=pre.length+(j * E.sz+k) by omega,Adh hj (by omega) (E.ok _ _ hs).symm]
   exact⟨_,i4 rfl (tK h2) (by rw[List.length_set];exact h3) (by rw[List.length_set];exact h4),h⟩
theorem vC {y y':α} (h:aN P ops Q es (C::hist) a (bT (some ⟨B,off,none⟩) c0 e E (xs.set j y')::R)) (hx:bL a x=.pointer (some ⟨B,off+j * sz,none⟩):=by exact rfl)
  (hp:aW (bT (some ⟨B,off,none⟩) c0 e E xs) C R:=by((repeat (first|exact aW.here|apply aW.there)) <;> exact aW.here)) (hsz:E.sz=sz:=by exact rfl) (hy:iW (bL a z)=some u:=by exact rfl) (hvs:oT u.cells.toList=some vs:=by exact rfl) (ht:qJ P t=some n:=by exact rfl)
  (hn:(vs.length == n)=true:=by exact rfl) (nR:(vs.all Value.oneCell')=true:=by exact rfl) (hle:Nat.ble (0+n) sz=true:=by exact rfl) (hj:xs[j]?=some y:=by first|assumption|exact rfl) (hs:E.dec (vQ (E.enc y) 0 vs)=some y':=by exact rfl)
  (hw:bE ops ⟨none,.store t x z,ty,pos,after,g⟩ a=true:=by exact rfl):aN P ops Q (ET.cons (c,gd,⟨none,.store t x z,ty,pos,after,g⟩) es) hist a C:=
 HK (k:=0) h (by rw[hx,Nat.add_zero]) hp hsz hy hvs ht hn nR hle hj hs hw
end
end Go.Sl
namespace Go.Sl
variable {C R:List HP} {n sz c d' bytes cp c0:Nat} {P:Program} {st xt e ty:TypeId} {α:Type} {ops:Array Oper} {Q:Fr->List HP->Prop} {a:Fr} {d:Option Tmp} {gd:Bool} {es:ET} {hist:List (List HP)} {pos:String} {after:Array Edge} {g:Option (Nat×Bool)} {x y:Operand} {A:Option Addr} {u:Value}
theorem aG.unsep {A B:HP}:aG (Go.Sl.sep A B::C) (A::B::C):=fun _ hs=>bZ.star (l:= [A,B]) hs
def An1 (n:Nat):Option Nat:=if n<95 then Aw n else if n<190 then(Aw (n - 95)).map (·+95) else(Aw (n - 190)).map (·+190)
theorem Ald {m:Nat} (h:An1 n=some m):n=m:=by
 unfold An1 at h
 split at h
 ·exact pB h
 ·split at h
  ·cases h1:Aw (n - 95) with
   |none=>rw[h1] at h;cases h
   |some k=>rw[h1] at h;cases h;have:=pB h1;show n=k+_;omega
  ·cases h1:Aw (n - 190) with
   |none=>rw[h1] at h;cases h
   |some k=>rw[h1] at h;cases h;have:=pB h1;show n=k+_;omega
def Afr (P:Program) (st xt:TypeId):Option (TypeId×Nat×Nat):=match Pk P st xt with
 |some (e,sz,b)=>match Aw sz with
  |some sz=>match An1 b with
   |some b=>some (e,sz,b)
   |none=>none
  |none=>none
 |none=>none
theorem Sy {b:Nat} (h:Afr P st xt=some (e,sz,b)):∃inf z,P.underlying st=some (.slice e)/\BS P xt=true/\P.info? e=some inf/\inf.zero=some z/\z.cells.size=inf.size/\inf.bytes≠0/\inf.size=sz/\inf.bytes=b:=by
 unfold Afr at h
 split at h
 ·rename_i e' sz' b' h0
  split at h
  ·rename_i sz2 h1
   split at h
   ·rename_i b2 h2
    cases h
    unfold Pk at h0
    split at h0
    ·rename_i e2 hst
     split at h0
     ·rename_i inf hi
      split at h0
      ·rename_i z hz
       split at h0
       ·rename_i hc
        cases h0
        exact⟨inf,z,hst,hc.2.2,hi,hz,hc.1,hc.2.1,pB h1,Ald h2⟩
       ·cases h0
      ·cases h0
     ·cases h0
    ·cases h0
   ·cases h
  ·cases h
 ·cases h
section
variable {E:u6 α} {xs:List α}
theorem H6 {ys:List α} {k:Value->List HP->Prop} (ht:Afr P st xt=some (e,sz,bytes)) (hsz:E.sz=sz) (hx:bL a x=.slice A n cp) (hn:xs.length=n) (hy:bL a y=u) (hsrc:Src P C u E ys)
  (hp:aW (bT A c0 e E xs) C R) (hcc:cp=c0\/(n<=cp/\cp<=c0)) (hbig:(2 * (n+ys.length)+512) * bytes<=281474976710656)
  (hk:∀A' c',k (.slice A' (xs++ys).length c') (bT A' c' e E (xs++ys)::R)):By P ⟨d,.call { callee:=.builtin .append,args:=#[x,y],argTypes:=#[st,xt] },ty,pos,after,g⟩ a C k:=fun H hs=>by
 obtain⟨inf,zz,h1,h2,h3,h4,h5,h6,h7,rfl⟩:=Sy ht
 subst hsz
 have hrs:=hp.sats hs
 have hr:=lY hrs
 have hcl:n<=cp/\cp<=c0:=by
  rcases hcc with rfl|h
  ·rcases hr with⟨g1,g2,g3,g4⟩|⟨B,pre,post,g1,g2,g3,g4⟩
   ·subst g2 g3;simp at hn;omega
   ·omega
  ·exact h
 obtain⟨hcp,hc0⟩:=hcl
 have hmn:(xs++ys).length=n+ys.length:=by rw[List.length_append,hn]
 refine fW ?_
 simp only[execOp,resolve,List.map_toArray,List.map_cons,List.map_nil,hx,hy]
 rw[aJ,aP (show(pure _:Sem Deferred).pr P=some _ from rfl)]
 simp only[invoke,builtin,aJ]
 obtain⟨hlen,hcells⟩:=hsrc
 rw[hmn] at hk
 refine Ib (xs:=xs.flatMap E.enc) (news:=ys.flatMap E.enc) h1 h2 h3 h4 h5 hlen (by rw[h7];exact hcells H hs) (by rw[E.flat_len,h7]) (E.flat_one ys) (by rw[E.flat_len,hn,h7]) ?_ hbig h6 ?_ ?_ ?_
 ·rcases hr with⟨g1,g2,g3,g4⟩|⟨B,pre,post,g1,g2,g3,g4⟩
  ·subst g2;simp at hn;exact .inl ⟨g1,by omega,by omega⟩
  ·refine .inr ⟨B,pre,post,e,true,g1,(pC g2).1,hcp,?_,.inr (.inl rfl)⟩
   rw[h7]
   exact Nat.le_trans (Nat.mul_le_mul_right _ (by omega)) g4
 ·intro hm0
  have hys:ys= []:=by simpa using hm0
  have hk':=hk A cp
  subst hys
  rw[List.append_nil,List.length_nil,Nat.add_zero] at hk'
  refine⟨_,?_,hk'⟩
  rcases hr with⟨g1,g2,g3,g4⟩|⟨B,pre,post,g1,g2,g3,g4⟩
  ·subst g1 g2 g3
   have:cp=0:=by omega
   subst this
   exact uY g4
  ·exact i4 g1 g2 (by omega) (Nat.le_trans (Nat.mul_le_mul_right _ (by omega)) g4)
 ·intro B pre post e' hA hB hle hpl
  rcases hr with⟨g1,_⟩|⟨B',pre',post',g1,g2,g3,g4⟩
  ·rw[g1] at hA;cases hA
  ·rw[g1] at hA
   have hBB:B'=B:=congrArg Addr.block (Option.some.inj hA)
   subst hBB
   have hpre:pre'.length=pre.length:=congrArg Addr.off (Option.some.inj hA)
   have hB':=(pC g2).1
   rw[hB'] at hB
   injection hB with hB
   injection hB with hcs he _
   subst he
   rw[List.append_assoc,List.append_assoc] at hcs
   obtain⟨q1,q2⟩:=List.append_inj hcs hpre
   obtain⟨_,q3⟩:=List.append_inj q2 rfl
   subst q1 q3
   refine⟨_,i4 (pre:=pre') (post:=post'.drop (ys.flatMap E.enc).length) g1 ?_ (by rw[hmn];exact hle) ?_,hk A cp⟩
   ·rw[List.flatMap_append]
    exact tK g2
   ·rw[hmn,List.length_drop,E.flat_len,<- Nat.sub_sub,Nat.sub_mul,<- h7]
    omega
 ·intro r post N hr0 hN hpl _
  refine⟨_,i4 (pre:= []) (post:=post) rfl ?_ (by rw[hmn];exact hN) (by rw[hmn,hpl,h7];exact Nat.le_refl _),hk _ N⟩
  rw[List.flatMap_append,List.nil_append]
  exact tO hr0 hrs.tail
theorem pX {ys:List α} (h:∀A' c',cL gd (.slice A' (xs++ys).length c') fun v=>aN P ops Q es (C::hist) (lT a d' v) (bT A' c' e E (xs++ys)::R))
  (hx:bL a x=.slice A n cp:=by exact rfl) (hy:bL a y=u:=by exact rfl) (ht:Afr P st xt=some (e,sz,bytes):=by exact rfl) (hp:aW (bT A c0 e E xs) C R:=by((repeat (first|exact aW.here|apply aW.there)) <;> exact aW.here)) (hsrc:Src P C u E ys:=by first|exact En|exact zV|exact Hf|exact tA) (hsz:E.sz=sz:=by exact rfl) (hn:xs.length=n:=by first|exact rfl|assumption|omega)
  (hcc:cp=c0\/(n<=cp/\cp<=c0):=by first|exact .inl rfl|exact .inr ⟨by omega,by omega⟩) (hbig:(2 * (n+ys.length)+512) * bytes<=281474976710656:=by first|omega|assumption|(simp only[List.length_cons,List.length_nil];omega))
  (hw:bE ops ⟨some d',.call { callee:=.builtin .append,args:=#[x,y],argTypes:=#[st,xt] },ty,pos,after,g⟩ a=true:=by exact rfl):aN P ops Q (ET.cons (c,gd,⟨some d',.call { callee:=.builtin .append,args:=#[x,y],argTypes:=#[st,xt] },ty,pos,after,g⟩) es) hist a C:=
 G_o (hw:=hw) (H6 ht hsz hx hn hy hsrc hp hcc hbig h)
theorem JE {ys:List α} (h:∀A' c',cL gd (.slice A' ys.length c') fun v=>aN P ops Q es (C::hist) (lT a d' v) (bT A' c' e E ys::C))
  (hx:bL a x=.slice none 0 0:=by exact rfl) (hy:bL a y=u:=by exact rfl) (ht:Afr P st xt=some (e,sz,bytes):=by exact rfl) (hsrc:Src P C u E ys:=by first|exact En|exact zV|exact Hf|exact tA) (hsz:E.sz=sz:=by exact rfl)
  (hbig:(2 * (0+ys.length)+512) * bytes<=281474976710656:=by first|omega|assumption|(simp only[List.length_cons,List.length_nil];omega))
  (hw:bE ops ⟨some d',.call { callee:=.builtin .append,args:=#[x,y],argTypes:=#[st,xt] },ty,pos,after,g⟩ a=true:=by exact rfl):aN P ops Q (ET.cons (c,gd,⟨some d',.call { callee:=.builtin .append,args:=#[x,y],argTypes:=#[st,xt] },ty,pos,after,g⟩) es) hist a C:=
 G_o (hw:=hw) (By.ent (aG.nilrow e E C) (H6 (xs:= []) ht hsz hx rfl hy ⟨hsrc.1,fun H hs=>hsrc.2 H hs.tail⟩ aW.here (.inl rfl) hbig h))
end
end Go.Sl
namespace Go.Sl
variable {α:Type} {A:Option Addr} {c:Nat} {e:TypeId} {C R:List HP} {P:Program} {x:Code} {Q:Exit->Fr->List HP->Prop} {a:Fr}
section
variable {E:u6 α} {l:List α}
theorem Qb {H:Hp} (hs:bZ (bT A c e E l::R) H):l.length<=c:=by
 rcases lY hs with⟨_,g2,_⟩|⟨_,_,_,_,_,g,_⟩
 ·subst g2;simp
 ·exact g
theorem i7 {f:FuncId} {args:Array Value} {K:Value->List HP->Prop} (hp:aW (bT A c e E l) C R) (h:l.length<=c->aA P f args C K):aA P f args C K:=fun H hs=>h (Qb (hp.sats hs)) H hs
theorem Pp (hp:aW (bT A c e E l) C R) (h:l.length<=c->fL P x Q a C):fL P x Q a C:=fun H hs=>h (Qb (hp.sats hs)) H hs
theorem Y3 {B D:HP} (h:fL P x Q a (B::D::C)):fL P x Q a (sep B D::C):=fun H hs=>h H (aG.unsep H hs)
end
end Go.Sl
namespace Go.Sl
theorem aA.entK {P:Program} {f:FuncId} {args:Array Value} {C:List HP} {K:Value->List HP->Prop} (h:aA P f args C fun v C=>∃C',aG C C'/\K v C'):aA P f args C K:=fun H hs=>
 (h H hs).mono fun _ H' ⟨_,h1,C',h2,h3⟩=>⟨C',h2 H' h1,h3⟩
end Go.Sl
namespace Go.Sl
variable {P:Program} {a:Fr} {d:Option Tmp} {ty st xt e:TypeId} {pos:String} {after:Array Edge} {g:Option (Nat×Bool)} {x y:Operand} {B off j dl dc c0 c d':Nat} {s:ByteArray} {xs:List UInt8} {C R:List HP} {ops:Array Oper} {Q:Fr->List HP->Prop} {gd:Bool} {es:ET} {hist:List (List HP)}
theorem Aa5 (pre mid post vs:List Value) (h:mid.length=vs.length):vQ (pre++mid++post) pre.length vs=pre++vs++post:=by
 have h1:=EY pre (mid++post) 0 vs
 rw[Nat.add_zero] at h1
 rw[List.append_assoc,h1,JS mid post 0 vs (by omega)]
 have h2:∀(vs mid:List Value),mid.length=vs.length->YA vs mid=vs:=by
  intro vs
  induction vs with
  |nil=>intro mid h;rw[List.length_eq_zero_iff.1 h];rfl
  |cons v vs ih=>
   intro mid h
   cases mid with
   |nil=>simp at h
   |cons m mid=>simp only[YA];rw[ih mid (by simpa using h)]
 have z:∀l,vQ l 0 vs=YA vs l:=fun l=>by cases l <;> rfl
 rw[z,h2 vs mid h,List.append_assoc]
theorem Af6 {k:Value->List HP->Prop} (hst:P.underlying st=some (.slice e)) (hi:qJ P e=some 1) (hx:bL a x=.slice (some ⟨B,off+j,none⟩) dl dc) (hy:bL a y=.string s)
  (hp:aW (bT (some ⟨B,off,none⟩) c0 e eG xs) C R) (hj:j+min s.size dl<=xs.length)
  (hk:k (.int .i64 (min s.size dl:Nat)) (bT (some ⟨B,off,none⟩) c0 e eG (xs.take j++(s.data.toList.take (min s.size dl)++xs.drop (j+min s.size dl)))::R)):
  By P ⟨d,.call { callee:=.builtin .copy,args:=#[x,y],argTypes:=#[st,xt] },ty,pos,after,g⟩ a C k:=fun H hs=>by
 obtain⟨inf,hi2,hsz⟩:=tG hi
 refine fW ?_
 simp only[execOp,resolve,List.map_toArray,List.map_cons,List.map_nil,hx,hy]
 rw[aJ,aP (show(pure _:Sem Deferred).pr P=some _ from rfl)]
 simp only[invoke,builtin,aJ]
 unfold Builtin.copy_
 simp only[List.getElem?_toArray,List.getElem?_cons_zero,List.getElem?_cons_succ,aJ]
 rw[aP (aK hst)]
 simp only[aJ]
 have hln:(Builtin.lenOf (.string s)).pr P=some s.size:=by simp[Builtin.lenOf];rfl
 rw[aP hln,aP (fV hi2)]
 have hcl:(Builtin.firstCells inf.size (Nat.min s.size dl) (.string s)).rd P H=some ((s.data.toList.take (min s.size dl)).map l9).toArray:=by
  simp only[Builtin.firstCells,zG]
  congr 1
  apply Array.ext'
  simp
  rfl
 refine tQ hcl ?_
 rcases lY (hp.sats hs) with⟨h1,_⟩|⟨B',pre,post,h1,h2,h3,h4⟩
 ·cases h1
 ·cases h1
  have hfl:=eG.flat_len xs
  have h1s:eG.sz=1:=rfl
  rw[h1s,Nat.mul_one] at hfl
  have hmin:Nat.min s.size dl=min s.size dl:=rfl
  have hvl:(List.map l9 (List.take (min s.size dl) s.data.toList)).length=min s.size dl:=by simp
  refine oF _ 0 (pre.length+j) _ H _ (pC h2).1 (by rw[List.length_append,List.length_append,hfl,hvl];omega) (by rw[<- pQ];exact eG.flat_one _) ?_
  have hmid:(List.map l9 (List.take (min s.size dl) (List.drop j xs))).length=(List.map l9 (List.take (min s.size dl) s.data.toList)).length:=by
   rw[hvl,List.length_map,List.length_take,List.length_drop];omega
  have hsplit:pre++xs.flatMap eG.enc++post=(pre++List.map l9 (xs.take j))++List.map l9 (List.take (min s.size dl) (List.drop j xs))++(List.map l9 (xs.drop (j+min s.size dl))++post):=by
   rw[pQ]
   conv=>lhs;rw[<- List.take_append_drop j xs,<- List.take_append_drop (min s.size dl) (List.drop j xs),List.drop_drop]
   simp only[List.map_append,List.append_assoc]
  have hset:nO (pre++xs.flatMap eG.enc++post) (pre.length+j+0) (List.map l9 (List.take (min s.size dl) s.data.toList))=pre++(xs.take j++(s.data.toList.take (min s.size dl)++xs.drop (j+min s.size dl))).flatMap eG.enc++post:=by
   rw[<- Hq,hsplit]
   have e1:pre.length+j+0=(pre++List.map l9 (xs.take j)).length:=by
    rw[List.length_append,List.length_map,List.length_take];omega
   rw[e1,Aa5 _ _ _ _ hmid,pQ]
   simp only[List.map_append,List.append_assoc]
  rw[hset]
  have hlen:(xs.take j++(s.data.toList.take (min s.size dl)++xs.drop (j+min s.size dl))).length=xs.length:=by
   have hsl:s.data.toList.length=s.size:=by simp
   simp only[List.length_append,List.length_take,List.length_drop,hsl]
   omega
  exact⟨_,i4 rfl (tK h2) (by rw[hlen];exact h3) (by rw[hlen];exact h4),hk⟩
theorem Wq (h:cL gd (.int .i64 (min s.size dl:Nat)) fun v=>aN P ops Q es (C::hist) (lT a d' v) (bT (some ⟨B,off,none⟩) c0 e eG (xs.take j++(s.data.toList.take (min s.size dl)++xs.drop (j+min s.size dl)))::R))
  (hx:bL a x=.slice (some ⟨B,off+j,none⟩) dl dc:=by exact rfl) (hy:bL a y=.string s:=by exact rfl) (hst:P.underlying st=some (.slice e):=by exact rfl) (hi:qJ P e=some 1:=by exact rfl)
  (hp:aW (bT (some ⟨B,off,none⟩) c0 e eG xs) C R:=by((repeat (first|exact aW.here|apply aW.there)) <;> exact aW.here)) (hj:j+min s.size dl<=xs.length:=by first|omega|assumption)
  (hk:kd P (.call { callee:=.builtin .copy,args:=#[x,y],argTypes:=#[st,xt] })=.other:=by exact rfl) (hw:bE ops ⟨some d',.call { callee:=.builtin .copy,args:=#[x,y],argTypes:=#[st,xt] },ty,pos,after,g⟩ a=true:=by exact rfl):aN P ops Q (ET.cons (c,gd,⟨some d',.call { callee:=.builtin .copy,args:=#[x,y],argTypes:=#[st,xt] },ty,pos,after,g⟩) es) hist a C:=
 G_o (hk:=hk) (hw:=hw) (Af6 hst hi hx hy hp hj h)
end Go.Sl
namespace Go.Sl
variable {P:Program} {a:Fr} {d:Option Tmp} {ty t e:TypeId} {pos:String} {after:Array Edge} {g:Option (Nat×Bool)} {x y:Operand} {n c d':Nat} {C:List HP} {ops:Array Oper} {Q:Fr->List HP->Prop} {gd:Bool} {es:ET} {hist:List (List HP)}
theorem Mt {k:Value->List HP->Prop} {inf:TypeInfo} {z:Value} (hst:P.underlying t=some (.slice e)) (hi:P.info? e=some inf) (hsz:inf.size=1) (hby:inf.bytes=1) (hz:inf.zero=some z) (hzc:z.cells=#[.int .u8 0]) (hx:bL a x=.int .i64 n) (hy:bL a y=.int .i64 n) (hn:n<=1000000)
  (hk:∀r,k (.slice (some ⟨r,0,none⟩) n n) (bT (some ⟨r,0,none⟩) n e eG (List.replicate n 0)::C)):By P ⟨d,.makeSlice t x y,ty,pos,after,g⟩ a C k:=fun H hs=>by
 refine fW ?_
 have hw:IntKind.i64.wrap (n:Int)=n:=vM (by omega) (by omega)
 simp only[execOp,hx,hy]
 unfold Instr.makeSlice
 simp only[aJ]
 rw[aP (aK hst)]
 simp only[aJ]
 rw[aP (show(asInt (.int .i64 (n:Int))).pr P=some (n:Int) from rfl),aP (show(asInt (.int .i64 (n:Int))).pr P=some (n:Int) from rfl),aP (d7 hi)]
 simp only[hw,hby]
 have h48:(2:Int) ^ 48=281474976710656:=by decide
 rw[if_neg (by simp only[h48,Bool.or_eq_true,decide_eq_true_eq];omega)]
 simp only[aJ]
 refine Da ?_
 rw[aP (fV hi),hsz]
 simp only[Int.toNat_natCast,Nat.mul_one]
 have hz0:l9 0=.int .u8 0:=rfl
 have fin:∀(zs:Array Value) (r:Nat),H r=none->((Array.range n).map (fun i=>zs[i % zs.size]!)).toList=(List.replicate n (0:UInt8)).map l9->upV k (.slice (some ⟨r,0,none⟩) n n) (hupd H r (.cells ((Array.range n).map (fun i=>zs[i % zs.size]!)).toList e true)):=fun zs r hr he=>by
  rw[he]
  refine⟨_,i4 (pre:= []) (post:= []) rfl ?_ (by rw[List.length_replicate];exact Nat.le_refl _) (by rw[List.length_replicate];simp),hk r⟩
  rw[List.nil_append,List.append_nil,pQ]
  exact tO hr hs
 by_cases hn0:n=0
 ·subst hn0
  rw[if_pos rfl]
  simp only[aJ,newRow]
  rw[aP (show(pure #[]:Sem (Array Value)).pr P=some #[] from rfl)]
  intro r hr
  exact⟨rfl,fin #[] r hr (by simp)⟩
 ·rw[if_neg hn0]
  simp only[aJ,newRow]
  rw[aP (show(zeroValue e).pr P=some z from by simp only[zeroValue,aT,d7 hi,Option.bind_some,hz];rfl)]
  rw[aP (show(pure z.cells:Sem (Array Value)).pr P=some z.cells from rfl),hzc]
  intro r hr
  exact⟨rfl,fin _ r hr (by
   apply List.ext_getElem (by simp)
   intro i h1 h2
   simp[Nat.mod_one]
   rfl)⟩
def Ao7 (P:Program) (e:TypeId):Prop:=∃inf z,P.info? e=some inf/\inf.size=1/\inf.bytes=1/\inf.zero=some z/\z.cells=#[.int .u8 0]
theorem O0 (h:∀r,cL gd (.slice (some ⟨r,0,none⟩) n n) fun v=>aN P ops Q es (C::hist) (lT a d' v) (bT (some ⟨r,0,none⟩) n e eG (List.replicate n 0)::C)) (hx:bL a x=.int .i64 n:=by exact rfl) (hy:bL a y=.int .i64 n:=by exact rfl) (hst:P.underlying t=some (.slice e):=by exact rfl) (hz:Ao7 P e:=by exact⟨_,_,rfl,rfl,rfl,rfl,rfl⟩) (hn:n<=1000000:=by first|omega|assumption)
  (hk:kd P (.makeSlice t x y)=.other:=by exact rfl) (hw:bE ops ⟨some d',.makeSlice t x y,ty,pos,after,g⟩ a=true:=by exact rfl):aN P ops Q (ET.cons (c,gd,⟨some d',.makeSlice t x y,ty,pos,after,g⟩) es) hist a C:=by
 obtain⟨inf,z,h1,h2,h3,h4,h5⟩:=hz
 exact G_o (hk:=hk) (hw:=hw) (Mt hst h1 h2 h3 h4 h5 hx hy hn h)
end Go.Sl
namespace Go.Sl
variable {P:Program} {α:Type} {A:Option Addr} {c:Nat} {e:TypeId} {C R:List HP} {K:Value->List HP->Prop} {f:FuncId} {args:Array Value} {B D:HP} {p:Prop}
section
variable {E:u6 α} {l:List α}
theorem qI (hp:aW (bT A c e E l) C R) (hl:0<l.length) (h:∀B off,A=some ⟨B,off,none⟩->aA P f args C K):aA P f args C K:=fun H hs=>by
 rcases lY (hp.sats hs) with⟨_,g2,_⟩|⟨B,pre,post,g1,_⟩
 ·subst g2;simp at hl
 ·exact h _ _ g1 H hs
theorem Aoe {B off l m j:Nat} {A':Option Addr} (h:Ig (some ⟨B,off,none⟩) A' l m 1) (hl:l=j) (hm:j<m):A'=some ⟨B,off+j,none⟩:=by
 subst hl
 unfold Ig at h
 rw[h,if_neg (by omega),Nat.mul_one]
 simp[Addr.add]
theorem DV {A:HP} (h:p->aA P f args (A::B::D::R) K):aA P f args (sep A (sep B (sep D (bF p)))::R) K:=
 aA.sep (aA.ent (aG.trans (aG.cons aG.unsep) (aG.trans (aG.cons (aG.cons aG.unsep)) (fun _ hs=>hs.perm (List.Perm.symm (List.perm_middle (l₁:= [A,B,D])).symm)))) (aA.pure fun hI=>h hI))
theorem sN {A:HP} (h:p):aG (A::B::D::R) (sep A (sep B (sep D (bF p)))::R):=
 aG.sep (aG.pick aW.here (aG.sep (aG.pick aW.here (aG.sep (aG.pick aW.here (aG.pure h (aG.refl _)))))))
end
end Go.Sl
namespace Go.Sl
variable {P:Program} {ops:Array Oper} {Q:Fr->List HP->Prop} {a:Fr} {C:List HP} {c:Nat} {gd:Bool} {es:ET} {hist:List (List HP)} {d':Tmp} {ty t yt:TypeId} {pos:String} {after:Array Edge} {g:Option (Nat×Bool)} {x y:Operand}
end Go.Sl
namespace Go.Sl
theorem aA.satsK {P:Program} {f:FuncId} {args:Array Value} {C:List HP} {K K':Value->List HP->Prop} (h:aA P f args C K') (hk:∀v C' H,K' v C'->bZ C' H->∃C'',bZ C'' H/\K v C''):aA P f args C K:=fun H hs=>
 (h H hs).mono fun v H' ⟨_,h1,h2⟩=>hk v _ H' h2 h1
end Go.Sl
namespace Go.Sl
variable {P:Program} {a:Fr} {d:Option Tmp} {ty t u:TypeId} {pos:String} {after:Array Edge} {g:Option (Nat×Bool)} {x:Operand} {f off c d':Nat} {cs:Array Value} {v:Value} {ops:Array Oper} {Q:Fr->List HP->Prop} {C:List HP} {gd:Bool} {es:ET} {hist:List (List HP)}
def Mj (P:Program) (t:TypeId) (f:Nat):Option (TypeId×Nat):=match P.underlying t with
 |some (.struct fs)=>match fs[f]? with
  |some fd=>some (fd.type,fd.offset)
  |none=>none
 |_=>none
theorem YD (hx:bL a x=.agg cs) (hf:Mj P t f=some (u,off)) (hv:Ao P u cs.toList off=some v):bY P ⟨d,.field t x f,ty,pos,after,g⟩ a=some v:=by
 unfold Mj at hf
 split at hf
 ·rename_i fs hu
  split at hf
  ·rename_i fd hfd
   cases hf
   refine cE ?_
   simp only[execOp,hx]
   unfold Instr.field
   rw[aT,aT,aK hu,Option.bind_some]
   simp only[hfd]
   rw[aT,show(asAgg (.agg cs)).pr P=some cs from rfl,Option.bind_some,Hl hv]
   rfl
  ·cases hf
 ·cases hf
theorem fU (h:cL gd v fun v=>aN P ops Q es hist (lT a d' v) C) (hx:bL a x=.agg cs:=by exact rfl) (hf:Mj P t f=some (u,off):=by exact rfl) (hv:Ao P u cs.toList off=some v:=by exact rfl)
  (hw:bE ops ⟨some d',.field t x f,ty,pos,after,g⟩ a=true:=by exact rfl):aN P ops Q (ET.cons (c,gd,⟨some d',.field t x f,ty,pos,after,g⟩) es) hist a C:=
 gT rfl hw (YD hx hf hv) h
end Go.Sl
namespace Go.Sl
variable {P:Program} {a:Fr} {d:Option Tmp} {ty t u:TypeId} {pos:String} {after:Array Edge} {g:Option (Nat×Bool)} {x y:Operand} {k:IntKind} {j:Int} {n sz c d':Nat} {cs:Array Value} {v:Value} {ops:Array Oper} {Q:Fr->List HP->Prop} {C:List HP} {gd:Bool} {es:ET} {hist:List (List HP)}
def Amh (P:Program) (t:TypeId):Option (Nat×TypeId):=match P.underlying t with
 |some (.array n e)=>some (n,e)
 |_=>none
theorem QX (hx:bL a x=.agg cs) (hy:bL a y=.int k j) (ht:Amh P t=some (n,u)) (hs:qJ P u=some sz) (h0:0<=j) (h1:j<n) (hv:Ao P u cs.toList (j.toNat * sz)=some v):bY P ⟨d,.index t x y,ty,pos,after,g⟩ a=some v:=by
 unfold Amh at ht
 split at ht
 ·rename_i n' e hu
  cases ht
  obtain⟨i,hi,rfl⟩:=tG hs
  refine cE ?_
  simp only[execOp,hx,hy]
  unfold Instr.index
  rw[aT,aT,show(asIntOf (.int k j)).pr P=some (k,j) from rfl,Option.bind_some]
  simp only
  rw[aT,aK hu,Option.bind_some]
  simp only
  rw[if_pos ⟨h0,h1⟩,aT,fV hi,Option.bind_some,Hl hv]
  rfl
 ·cases ht
theorem S4 (h:cL gd v fun v=>aN P ops Q es hist (lT a d' v) C) (hx:bL a x=.agg cs:=by exact rfl) (hy:bL a y=.int k j:=by exact rfl) (ht:Amh P t=some (n,u):=by exact rfl) (hs:qJ P u=some sz:=by exact rfl) (h0:0<=j:=by omega) (h1:j<n:=by omega) (hv:Ao P u cs.toList (j.toNat * sz)=some v:=by exact rfl)
  (hw:bE ops ⟨some d',.index t x y,ty,pos,after,g⟩ a=true:=by exact rfl):aN P ops Q (ET.cons (c,gd,⟨some d',.index t x y,ty,pos,after,g⟩) es) hist a C:=
 gT rfl hw (QX hx hy ht hs h0 h1 hv) h
end Go.Sl
end
namespace Go.Proofs.YtepnmcipkangkaaGreat
open Go Go.Proofs Go.Sl
attribute [local irreducible] aN fL cL bM aL aR aA dJ dK aU dI pt ro fC star sep bF
abbrev CT (f:FuncId) (Aqp:Array Value) (C:List HP) (K:KP):Prop:=aA Tryz.prog f Aqp C K
theorem mixed:Tryz.prog.follows .mixedOrders=true:=by rfl
theorem aH {f:FuncId} {fn:Func} {c:Code} {args:Array Value} {C:List HP} {K:KP} (hf:Tryz.prog.funcs[f]?=some fn) (h:fL Tryz.prog c (dJ Tryz.prog fn K) (HD args.toList) C) (hb:fn.body=some c:=by exact rfl) (hn:(fn.name == "runtime.NumGoroutine")=false:=by decide) (hc:sE fn.ntmps c=true:=by decide +kernel) (hs:args.size<=fn.ntmps:=by exact Nat.le_of_ble_eq_true rfl):CT f args C K:=Q6 mixed hf hb hn hc hs h
end Go.Proofs.YtepnmcipkangkaaGreat
namespace Go.Proofs.YtepnmcipkangkaaGreat
open Go Go.Proofs Go.Shelf
def Tryz.lays189_ren:Go.Shelf.Ren:=⟨fun|189=>124|125=>224|257=>223|128=>328|129=>329|294=>319|295=>320|296=>321|297=>322|298=>323|299=>324|216=>325|300=>326|301=>327|328=>407|329=>408|330=>409|331=>410|332=>411|215=>360|343=>443|n=>n,fun|28=>72|3=>3|46=>70|0=>0|51=>389|53=>391|4=>4|183=>383|182=>382|131=>248|5=>5|9=>9|218=>449|222=>369|228=>474|229=>475|n=>n,fun|n=>n⟩
theorem Tryz.lays189:Go.Proofs.Lays.n189 Tryz.prog Tryz.lays189_ren:= {
 mixed:=by kernel_rfl
 f125:=Tryz.func224.trans (congrArg some (by kernel_rfl))
 f128:=Tryz.func328.trans (congrArg some (by kernel_rfl))
 f129:=Tryz.func329.trans (congrArg some (by kernel_rfl))
 f189:=Tryz.func124.trans (congrArg some (by kernel_rfl))
 f215:=Tryz.func360.trans (congrArg some (by kernel_rfl))
 f216:=Tryz.func325.trans (congrArg some (by kernel_rfl))
 f257:=Tryz.func223.trans (congrArg some (by kernel_rfl))
 f294:=Tryz.func319.trans (congrArg some (by kernel_rfl))
 f295:=Tryz.func320.trans (congrArg some (by kernel_rfl))
 f296:=Tryz.func321.trans (congrArg some (by kernel_rfl))
 f297:=Tryz.func322.trans (congrArg some (by kernel_rfl))
 f298:=Tryz.func323.trans (congrArg some (by kernel_rfl))
 f299:=Tryz.func324.trans (congrArg some (by kernel_rfl))
 f300:=Tryz.func326.trans (congrArg some (by kernel_rfl))
 f301:=Tryz.func327.trans (congrArg some (by kernel_rfl))
 f328:=Tryz.func407.trans (congrArg some (by kernel_rfl))
 f329:=Tryz.func408.trans (congrArg some (by kernel_rfl))
 f330:=Tryz.func409.trans (congrArg some (by kernel_rfl))
 f331:=Tryz.func410.trans (congrArg some (by kernel_rfl))
 f332:=Tryz.func411.trans (congrArg some (by kernel_rfl))
 f343:=Tryz.func443.trans (congrArg some (by kernel_rfl))
 t0:=Tryz.underlying0
 a0:=Tryz.isAgg0
 z0:=Tryz.sizeOf0
 v0:=Tryz.zeroValue0
 t3:=Tryz.underlying3
 a3:=Tryz.isAgg3
 z3:=Tryz.sizeOf3
 v3:=Tryz.zeroValue3
 t4:=Tryz.underlying4
 a4:=Tryz.isAgg4
 z4:=Tryz.sizeOf4
 v4:=Tryz.zeroValue4
 t5:=Tryz.underlying5
 a5:=Tryz.isAgg5
 z5:=Tryz.sizeOf5
 v5:=Tryz.zeroValue5
 t9:=Tryz.underlying9
 a9:=Tryz.isAgg9
 z9:=Tryz.sizeOf9
 v9:=Tryz.zeroValue9
 t28:=Tryz.underlying72
 a28:=Tryz.isAgg72
 z28:=Tryz.sizeOf72
 v28:=Tryz.zeroValue72
 t46:=Tryz.underlying70
 a46:=Tryz.isAgg70
 z46:=Tryz.sizeOf70
 v46:=Tryz.zeroValue70
 t51:=Tryz.underlying389
 a51:=Tryz.isAgg389
 z51:=Tryz.sizeOf389
 v51:=Tryz.zeroValue389
 t53:=Tryz.underlying391
 a53:=Tryz.isAgg391
 z53:=Tryz.sizeOf391
 v53:=Tryz.zeroValue391
 t131:=Tryz.underlying248
 a131:=Tryz.isAgg248
 z131:=Tryz.sizeOf248
 v131:=Tryz.zeroValue248
 t182:=Tryz.underlying382
 a182:=Tryz.isAgg382
 z182:=Tryz.sizeOf382
 v182:=Tryz.zeroValue382
 t183:=Tryz.underlying383
 a183:=Tryz.isAgg383
 z183:=Tryz.sizeOf383
 v183:=Tryz.zeroValue383
 t218:=Tryz.underlying449
 a218:=Tryz.isAgg449
 z218:=Tryz.sizeOf449
 v218:=Tryz.zeroValue449
 t222:=Tryz.underlying369
 a222:=Tryz.isAgg369
 z222:=Tryz.sizeOf369
 v222:=Tryz.zeroValue369
 t228:=Tryz.underlying474
 a228:=Tryz.isAgg474
 z228:=Tryz.sizeOf474
 v228:=Tryz.zeroValue474
 t229:=Tryz.underlying475
 a229:=Tryz.isAgg475
 z229:=Tryz.sizeOf475
 v229:=Tryz.zeroValue475 }
end Go.Proofs.YtepnmcipkangkaaGreat
