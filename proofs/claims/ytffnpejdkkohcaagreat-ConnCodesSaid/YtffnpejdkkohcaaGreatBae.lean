/- A part of the proof: lemmas; each with the conditions that it states. -/
import Derived.SizedLaws
import Derived.Deep.Slices
import Derived.Test.YtffnpejdkkohcaaGreatProg
import Derived.Shelf.Sort.Plain
import Derived.Shelf.Slices.In.SortNone
import Derived.Test.YtffnpejdkkohcaaGreatBad
set_option linter.unusedVariables false
set_option linter.unusedSimpArgs false
set_option maxRecDepth 100000
set_option maxHeartbeats 40000000
section
namespace Go.Sl
open Go.ChangeShapes Go.WideShapes Go.ChangeAt Go.RowKit Go.Deep
variable {P:Program} {C:List HP} {W:World}
def yP (W:World):Hp:=fun B=>match W.heap[B]? with
 |some (.cells arr e _)=>some (.cells arr.toList e false)
 |_=>none
theorem UQ (W:World):AX (fun i=>W.heap.size<=i) (yP W) W:=by
 refine⟨fun B b hb=>?_,fun B b hb ho=>?_,fun i hi=>hi⟩
 ·unfold yP at hb
  split at hb
  ·rename_i arr e fz h;cases hb;exact⟨arr,fz,h,rfl,fun h=>by cases h⟩
  ·cases hb
 ·unfold yP at hb
  split at hb
  ·cases hb;cases ho
  ·cases hb
theorem aA.below {f:FuncId} {args:Array Value} {r:Value} (h:aA P f args C fun v _=>v=r) (hC:bZ C (yP W)):
  Calls P f args W fun e W'=>e=.returned r/\Below W.heap.size W W':=by
 refine((h _ hC).run (fun i=>W.heap.size<=i) W (UQ W)).mono ?_
 rintro e W' ⟨v,H',rfl,⟨C',_,rfl⟩,ht⟩
 exact⟨rfl,ht.chg.os,ht.chg.tape,ht.chg.output,ht.chg.size,fun k hk=>ht.chg.kept k hk (by omega)⟩
theorem Ac1 {A:HP} (hp:EI A) (ha:A (yP W)) (hC:bZ C (yP W)):bZ (A::C) (yP W):=by
 obtain⟨H',h1,h2,h3⟩:=hp _ ha
 refine⟨H',yP W,fun B b c hb hc=>⟨h3 B b hb,?_⟩,h1,AT.refl _,h2,hC⟩
 unfold yP at hc
 split at hc
 ·cases hc;rfl
 ·cases hc
def Good (P:Program) (W:World):Nat->TypeId->List Value->Prop
 |0,_,_=>False
 |n+1,t,cs=>match P.underlying t with
  |some .bool=>∃b,cs= [.bool b]
  |some (.int k)=>∃i,cs= [.int k i]/\(Lit.int k i).wf=true
  |some .string=>∃s:ByteArray,cs= [.string s]/\s.size<=reachBytes
  |some (.slice e)=>cs= [.slice none 0 0]\/∃a len cap,cs= [.slice (some a) len cap]/\len<=cap/\cap * P.bytesOf e<=reachBytes/\
    ∀i,i<len->∃cs',W.cells? 0 (a.add (i * P.cellsOf e)) (P.cellsOf e)=some cs'/\Good P W n e cs'
  |some (.struct fs)=>cs.length=P.cellsOf t/\∀(j:Nat) (f:Field),fs[j]?=some f->Good P W n f.type ((cs.drop f.offset).take (P.cellsOf f.type))
  |_=>True
theorem Lq {H:Type}:∀ {ts:List TypeId} {ds:List (DataW H)} {j:Nat} {t:TypeId} {d:DataW H},ts[j]?=some t->ds[j]?=some d->∀n∈d.weights P t,n∈DataW.weightsEach P ts ds:=DataW.weights_mem_each
theorem FA {H:Type} {P:Program} {e:TypeId}:∀ {ds:List (DataW H)} {d:DataW H},d∈ds->∀n∈d.weights P e,n∈DataW.weightsAll P e ds
 |d0::ds,d,hd,n,hn=>by
  simp only[DataW.weightsAll,List.mem_append]
  rcases List.mem_cons.1 hd with rfl|hd
  ·exact .inl hn
  ·exact .inr (FA hd n hn)
 | [],_,hd,_,_=>by cases hd
theorem LP {H:Type} {enc:TypeId×Value->H} {P:Program} {W:World}:∀(fuel:Nat) (t:TypeId) (cs:List Value) (d:DataW H) (p:List MemPlace),
  DataW.trod enc P W 0 (fun _=>true) true fuel t cs=some (d,p)->(∀n∈d.weights P t,n<=reachBytes)->Good P W fuel t cs
 |0,_,_,_,_,h,_=>by simp[DataW.trod] at h
 |fuel+1,t,cs,d,p,h,hw=>by
  unfold Good
  split
  ·rename_i hu
   obtain⟨b,h1,_⟩:=DataW.trod_bool hu h
   exact⟨b,h1⟩
  ·rename_i k hu
   obtain⟨n,h1,_,h2⟩:=DataW.trod_int hu h
   exact⟨n,h1,h2⟩
  ·rename_i hu
   obtain⟨s,h1,h2,_⟩:=DataW.trod_string hu h
   cases h2
   exact⟨s,h1,by simpa using hw s.data.toList.length (by simp[DataW.weights])⟩
  ·rename_i e hu
   rcases DataW.trod_slice hu h with⟨h1,_⟩|⟨a,len,cap,elems,rest,n,hn,h1,hx,_,hl,_,hel,hi,hsp,_⟩
   ·exact .inl h1
   ·cases hn
    cases hx
    obtain⟨hrl,_⟩:=hsp rfl
    refine .inr ⟨a,len,cap,h1,hl,?_,fun i hil=>?_⟩
    ·have:=hw (((elems.map (·.1)).length+(rest.map (·.1)).length) * P.bytesOf e) (by simp[DataW.weights,hu])
     simp only[List.length_map] at this
     rwa[hel,hrl,Nat.add_sub_cancel' hl] at this
    ·have h2:=hi i hil
     have h3:elems[i]?=some (elems[i]'(by omega)):=List.getElem?_eq_getElem (by omega)
     rw[h3,Option.bind_eq_some_iff] at h2
     obtain⟨cs',k1,k2⟩:=h2
     refine⟨cs',k1,LP fuel e cs' _ _ k2 fun w hwm=>hw w ?_⟩
     simp only[DataW.weights,hu,List.mem_cons,List.mem_append]
     exact .inr (.inl (FA (List.mem_map.2 ⟨_,List.getElem_mem (by omega),rfl⟩) w hwm))
  ·rename_i fs hu
   obtain⟨xs,n,hn,hx,hl,hlen,hf⟩:=DataW.trod_struct hu h
   cases hn
   refine⟨hl,fun j f hj=>?_⟩
   have h1:=hf j f hj
   have hj':j<fs.size:=(Array.getElem?_eq_some_iff.1 hj).1
   have h2:xs[j]?=some (xs[j]'(by omega)):=List.getElem?_eq_getElem (by omega)
   rw[h2] at h1
   cases hx
   refine LP fuel f.type _ (xs[j]'(by omega)).1 (xs[j]'(by omega)).2 h1 fun w hwm=>hw w ?_
   simp only[DataW.weights,hu]
   refine Lq (j:=j) (t:=f.type) (d:=(xs[j]'(by omega)).1) ?_ ?_ w hwm
   ·simp[hj]
   ·simp[h2]
  ·trivial
theorem Aap {H:Type} {enc:TypeId×Value->H} {P:Program} {W:World}:∀ {ts:List TypeId} {vs:List Value} {ds:List (DataW H)} {ps:List MemPlace},
  DataW.TrodAll enc P W 0 (fun _=>true) true ts vs ds ps->(∀n∈DataW.weightsEach P ts ds,n<=reachBytes)->∀(j:Nat) (t:TypeId),ts[j]?=some t->∃v n,vs[j]?=some v/\Good P W n t v.cells.toList
 |t::ts,v::vs,d::ds,_,⟨p,q,⟨fuel,h1⟩,h2,_⟩,hw,0,t',ht=>by
  cases ht
  exact⟨v,fuel,rfl,LP fuel t _ d p h1 fun n hn=>hw n (by simp only[DataW.weightsEach,List.mem_append];exact .inl hn)⟩
 |t::ts,v::vs,d::ds,_,⟨p,q,h1,h2,_⟩,hw,j+1,t',ht=>by
  obtain⟨v',n,k1,k2⟩:=Aap h2 (fun n hn=>hw n (by simp only[DataW.weightsEach,List.mem_append];exact .inr hn)) j t' (by simpa using ht)
  exact⟨v',n,by simpa using k1,k2⟩
 | [],_,_,_,_,_,_,_,ht=>by simp at ht
theorem Ua {α:Type} {E:tP α}:∀(xs:List α) (off:Nat) (arr:List Value),(∀i x,xs[i]?=some x->∀r,r<E.sz->arr[off+i * E.sz+r]?=(E.enc x)[r]?)->(arr.drop off).take (xs.length * E.sz)=xs.flatMap E.enc
 | [],_,_,_=>by simp
 |x::xs,off,arr,h=>by
  have h1:(arr.drop off).take E.sz=E.enc x:=by
   apply List.ext_getElem?
   intro r
   by_cases hr:r<E.sz
   ·rw[List.getElem?_take_of_lt hr,List.getElem?_drop]
    have:=h 0 x rfl r hr
    simpa using this
   ·rw[List.getElem?_eq_none (by rw[List.length_take];omega),List.getElem?_eq_none (by rw[E.len];omega)]
  have h2:=Ua xs (off+E.sz) arr fun i y hy r hr=>by
   have:=h (i+1) y (by simpa using hy) r hr
   rw[show off+E.sz+i * E.sz+r=off+(i+1) * E.sz+r by rw[Nat.add_mul];omega]
   exact this
  rw[List.length_cons,Nat.add_mul,Nat.one_mul,Nat.add_comm (xs.length * E.sz),List.take_add,List.drop_drop,h1,h2,List.flatMap_cons]
theorem Ae4 {α:Type} {E:tP α} {a:Addr} {len:Nat} {φ:α->Prop} (hsz:0<E.sz) (h:∀i,i<len->∃x,W.cells? 0 (a.add (i * E.sz)) E.sz=some (E.enc x)/\φ x):
  ∃xs:List α,xs.length=len/\pD (some a) E xs (yP W)/\∀x∈xs,φ x:=by
 have key:∀n,n<=len->∃xs:List α,xs.length=n/\(∀i x,xs[i]?=some x->W.cells? 0 (a.add (i * E.sz)) E.sz=some (E.enc x))/\∀x∈xs,φ x:=by
  intro n
  induction n with
  |zero=>exact fun _=>⟨[],rfl,fun i x hx=>by simp at hx,fun x hx=>by cases hx⟩
  |succ n ih=>
   intro hn
   obtain⟨xs,h1,h2,h3⟩:=ih (by omega)
   obtain⟨x,h4,h5⟩:=h n (by omega)
   refine⟨xs++ [x],by simp[h1],fun i y hy=>?_,fun y hy=>?_⟩
   ·by_cases hi:i<n
    ·rw[List.getElem?_append_left (by omega)] at hy;exact h2 i y hy
    ·rw[List.getElem?_append_right (by omega)] at hy
     have:i=n:=by
      rcases Nat.lt_or_ge (i - xs.length) 1 with h|h
      ·omega
      ·rw[List.getElem?_eq_none (by simpa using h)] at hy;cases hy
     subst this
     rw[h1,Nat.sub_self] at hy
     cases hy
     exact h4
   ·rcases List.mem_append.1 hy with hy|hy
    ·exact h3 y hy
    ·cases List.mem_singleton.1 hy;exact h5
 obtain⟨xs,h1,h2,h3⟩:=key len (Nat.le_refl _)
 refine⟨xs,h1,?_,h3⟩
 cases xs with
 |nil=>exact .inl rfl
 |cons x xs=>
  have h0:=h2 0 x rfl
  obtain⟨_,hl,hc⟩:=World.cells?_some h0
  have hc0:=hc 0 hsz
  have ha:a.add (0 * E.sz)=a:=by rw[Nat.zero_mul];rfl
  rw[ha] at hc0
  have ha0:a.add 0=a:=rfl
  rw[ha0] at hc0
  have hlen:=E.len x
  have hx0:(E.enc x)[0]?=some ((E.enc x)[0]'(by omega)):=List.getElem?_eq_getElem (by omega)
  rw[hx0] at hc0
  obtain⟨B,off,sp⟩:=a
  unfold World.cell? at hc0
  simp only at hc0
  split at hc0
  ·rename_i arr e fz hB
   split at hc0
   ·cases hc0
   ·rename_i hsp
    have hsp:sp=none:=by cases sp <;> simp_all
    subst hsp
    have hlt:off<arr.size:=(Array.getElem?_eq_some_iff.1 hc0).1
    have hfl:((arr.toList).drop off).take ((x::xs).length * E.sz)=(x::xs).flatMap E.enc:=Ua (x::xs) off arr.toList fun i y hy r hr=>by
     obtain⟨_,_,hcc⟩:=World.cells?_some (h2 i y hy)
     have:=hcc r hr
     rw[nO,nO] at this
     unfold World.cell? at this
     simp only[hB] at this
     rw[<- this]
     simp
    refine .inr ⟨B,arr.toList.take off,(arr.toList.drop off).drop ((x::xs).length * E.sz),e,false,?_,?_⟩
    ·rw[List.length_take,Nat.min_eq_left (by simp;omega)]
    ·unfold yP
     rw[hB]
     simp only
     rw[<- hfl,List.append_assoc,List.take_append_drop,List.take_append_drop]
  ·cases hc0
end Go.Sl
namespace Go.Sl
open Go.ChangeShapes Go.WideShapes Go.ChangeAt Go.RowKit Go.Deep
variable {H:Type} {P:Program} {W:World} {base b0 n:Nat} {ps:List MemPlace} {args:Array Value} {t0 t1 t2 t3 t e:TypeId} {r:Reach} {v v0 v1 v2:Value} {fs:Array Field} {cs:List Value}
section
variable {enc:TypeId×Value->H} {ds:List (DataW H)}
theorem Fu:∀ {ts:List TypeId} {vs:List Value} {ds:List (DataW H)} {ps:List MemPlace},DataW.TrodAll enc P W 0 (fun _=>true) true ts vs ds ps->vs.length=ts.length/\ds.length=ts.length
 | [],[],[],_,_=>⟨rfl,rfl⟩
 |_::_,_::_,_::_,_,⟨_,_,_,h,_⟩=>by obtain⟨h1,h2⟩:=Fu h;simp[h1,h2]
 | [],_::_,_,_,h=>h.elim
 | [],[],_::_,_,h=>h.elim
 |_::_,[],_,_,h=>h.elim
 |_::_,_::_,[],_,h=>h.elim
theorem Amv (hA:DataW.TrodAll enc P W 0 (fun _=>true) true [t0,t1,t2] args.toList ds ps):∃v0 v1 v2 d0 d1 d2,args=#[v0,v1,v2]/\ds= [d0,d1,d2]:=by
 obtain⟨l⟩:=args
 obtain⟨h1,h2⟩:=Fu hA
 match l,ds,h1,h2 with
 | [v0,v1,v2],[d0,d1,d2],_,_=>exact⟨v0,v1,v2,d0,d1,d2,rfl,rfl⟩
theorem Akh (ht:P.underlying t=some (.slice e)) (hv:Value.okWide P W r b0 t v) (hg:Good P W n t v.cells.toList):v=.slice none 0 0\/∃a len cap m,v=.slice (some a) len cap/\len<=cap/\cap * P.bytesOf e<=reachBytes/\
    ∀i,i<len->∃cs',W.cells? 0 (a.add (i * P.cellsOf e)) (P.cellsOf e)=some cs'/\Good P W m e cs':=by
 obtain⟨A,l,c,rfl⟩:=okWide_slice ht hv
 cases n with
 |zero=>exact hg.elim
 |succ n=>
  simp only[Good,ht] at hg
  rcases hg with hg|⟨a,len,cap,h1,h2,h3,h4⟩
  ·simp[Value.cells] at hg
   obtain⟨rfl,rfl,rfl⟩:=hg
   exact .inl rfl
  ·simp[Value.cells] at h1
   obtain⟨rfl,rfl,rfl⟩:=h1
   exact .inr ⟨a,l,c,n,rfl,h2,h3,h4⟩
theorem Ajn (ht:P.underlying t=some (.struct fs)) (hv:Value.okWide P W r b0 t v) (hg:Good P W n t v.cells.toList):∃cs:List Value,v=.agg cs.toArray/\Good P W n t cs:=by
 obtain⟨cs,rfl,_⟩:=okWide_struct ht hv
 exact⟨cs.toList,rfl,hg⟩
end
theorem fX {k:IntKind} (ht:P.underlying t=some (.int k)) (hg:Good P W n t cs):∃i,cs= [.int k i]/\(Lit.int k i).wf=true:=by
 cases n with
 |zero=>exact hg.elim
 |succ n=>simpa only[Good,ht] using hg
theorem KC (ht:P.underlying t=some .bool) (hg:Good P W n t cs):∃b,cs= [.bool b]:=by
 cases n with
 |zero=>exact hg.elim
 |succ n=>simpa only[Good,ht] using hg
theorem Oo (ht:P.underlying t=some .string) (hg:Good P W n t cs):∃s:ByteArray,cs= [.string s]/\s.size<=reachBytes:=by
 cases n with
 |zero=>exact hg.elim
 |succ n=>simpa only[Good,ht] using hg
theorem Rv (ht:P.underlying t=some (.slice e)) (hg:Good P W n t cs):cs= [.slice none 0 0]\/∃a len cap m,cs= [.slice (some a) len cap]/\len<=cap/\cap * P.bytesOf e<=reachBytes/\
    ∀i,i<len->∃cs',W.cells? 0 (a.add (i * P.cellsOf e)) (P.cellsOf e)=some cs'/\Good P W m e cs':=by
 cases n with
 |zero=>exact hg.elim
 |succ n=>
  simp only[Good,ht] at hg
  rcases hg with hg|⟨a,len,cap,h⟩
  ·exact .inl hg
  ·exact .inr ⟨a,len,cap,n,h⟩
theorem rT (ht:P.underlying t=some (.struct fs)) (hg:Good P W n t cs):∃m,cs.length=P.cellsOf t/\∀(j:Nat) (f:Field),fs[j]?=some f->Good P W m f.type ((cs.drop f.offset).take (P.cellsOf f.type)):=by
 cases n with
 |zero=>exact hg.elim
 |succ n=>
  simp only[Good,ht] at hg
  exact⟨n,hg⟩
theorem Ak6 {i:Int} (h:(Lit.int .i64 i).wf=true):-9223372036854775808<=i/\i<=9223372036854775807:=by
 simp[Lit.wf,IntKind.min,IntKind.max,IntKind.signed,IntKind.bits] at h
 omega
theorem Amt (hl:cs.length=3) (h0:(cs.drop 0).take 1= [v0]) (h1:(cs.drop 1).take 1= [v1]) (h2:(cs.drop 2).take 1= [v2]):cs= [v0,v1,v2]:=by
 match cs,hl with
 | [a,b,c],_=>simp at h0 h1 h2;simp[h0,h1,h2]
theorem Ajh (hl:cs.length=2) (h0:(cs.drop 0).take 1= [v0]) (h1:(cs.drop 1).take 1= [v1]):cs= [v0,v1]:=by
 match cs,hl with
 | [a0,a1],_=>simp at h0 h1;simp[h0,h1]
theorem TU {v3 v4 v5 v6 v7 v8 v9 Y9 TO:Value} (hl:cs.length=12) (h0:(cs.drop 0).take 1= [v0]) (h1:(cs.drop 1).take 1= [v1]) (h2:(cs.drop 2).take 1= [v2]) (h3:(cs.drop 3).take 1= [v3]) (h4:(cs.drop 4).take 1= [v4]) (h5:(cs.drop 5).take 1= [v5]) (h6:(cs.drop 6).take 1= [v6]) (h7:(cs.drop 7).take 1= [v7]) (h8:(cs.drop 8).take 1= [v8]) (h9:(cs.drop 9).take 1= [v9]) (h10:(cs.drop 10).take 1= [Y9]) (h11:(cs.drop 11).take 1= [TO]):cs= [v0,v1,v2,v3,v4,v5,v6,v7,v8,v9,Y9,TO]:=by
 match cs,hl with
 | [a0,a1,a2,a3,a4,a5,a6,a7,a8,a9,a10,a11],_=>simp at h0 h1 h2 h3 h4 h5 h6 h7 h8 h9 h10 h11;simp[h0,h1,h2,h3,h4,h5,h6,h7,h8,h9,h10,h11]
end Go.Sl
namespace Go.Sl
variable {P:Program} {C:List HP} {a:Fr} {d:Option Tmp} {ty t yt e t':TypeId} {pos:String} {after:Array Edge} {g:Option (Nat×Bool)} {x y z:Operand} {k yk:IntKind} {m:Int} {ops:Array Oper} {Q:Fr->List HP->Prop} {c B n f:Nat} {gd b:Bool} {es:ET} {hist:List (List HP)} {d':Tmp} {v:Value} {cs:List Value} {zs:List Int} {op:Op}
theorem Afr {n:Int} (hx:bJ a x=.int k m) (hy:bJ a y=.int yk n) (h0:0<=n) (h1:n<=k.bits):cA P ⟨d,.binOp .shr t x y yt,ty,pos,after,g⟩ a=some (.int k (m / 2 ^ n.toNat)):=by
 have:=ZO (P:=P) (d:=d) (t:=t) (yt:=yt) (ty:=ty) (pos:=pos) (after:=after) (g:=g) hx hy (by omega)
 rw[this,Nat.min_eq_left (by omega)]
 congr 2
 exact Int.fdiv_eq_ediv_of_nonneg m (Int.le_of_lt (Int.pow_pos (by decide)))
theorem Ai9 (m:Int) (h0:-9223372036854775808<=m) (h1:m<=9223372036854775807):IntKind.i64.wrap ((BitVec.ofInt 64 m &&& ~~~(BitVec.ofInt 64 0)).toNat)=m:=by
 have e:(BitVec.ofInt 64 m &&& ~~~(BitVec.ofInt 64 0))=BitVec.ofInt 64 m:=by
  have: ~~~(BitVec.ofInt 64 0)=BitVec.allOnes 64:=by decide
  rw[this,BitVec.and_allOnes]
 rw[e]
 simp only[BitVec.toNat_ofInt,IntKind.wrap,IntKind.bits,IntKind.signed]
 simp
 omega
theorem Ai2 (m:Int) (h0:-9223372036854775808<=m) (h1:m<=9223372036854775807):IntKind.i64.wrap ((BitVec.ofInt 64 m &&& ~~~(BitVec.ofInt 64 1)).toNat)=m - m % 2:=by
 have e:(BitVec.ofInt 64 m &&& ~~~(BitVec.ofInt 64 1)).toNat=((BitVec.ofInt 64 m).toNat / 2) * 2:=by
  have:(BitVec.ofInt 64 m &&& ~~~(BitVec.ofInt 64 1))=(BitVec.ofInt 64 m >>> 1) <<< 1:=by
   apply BitVec.eq_of_getLsbD_eq
   intro i hi
   have h1:BitVec.ofInt 64 1=1#64:=by decide
   rw[h1]
   have k:∀j:Nat,j<64->(~~~(1#64)).getLsbD j=decide (1<=j):=by decide
   rw[BitVec.getLsbD_and,k i hi,BitVec.getLsbD_shiftLeft,BitVec.getLsbD_ushiftRight]
   by_cases h:1<=i
   ·have e:1+(i - 1)=i:=by omega
    simp[h,hi,e]
    intro;omega
   ·have e:i=0:=by omega
    subst e
    simp
  rw[this]
  have:=(BitVec.ofInt 64 m).isLt
  simp[BitVec.toNat_shiftLeft,BitVec.toNat_ushiftRight,Nat.shiftLeft_eq,Nat.shiftRight_eq_div_pow]
  omega
 rw[e]
 simp only[BitVec.toNat_ofInt,IntKind.wrap,IntKind.bits,IntKind.signed]
 simp
 omega
theorem Sq (hx:bJ a x=.int .i64 m) (hy:bJ a y=.int .i64 0) (h0:-9223372036854775808<=m) (h1:m<=9223372036854775807):cA P ⟨d,.binOp .andNot t x y yt,ty,pos,after,g⟩ a=some (.int .i64 m):=
 CI hx hy rfl (by show some (Value.int .i64 _)=_;rw[show IntKind.i64.bits=64 from rfl,Ai9 m h0 h1])
theorem R9 (hx:bJ a x=.int .i64 m) (hy:bJ a y=.int .i64 1) (h0:-9223372036854775808<=m) (h1:m<=9223372036854775807):cA P ⟨d,.binOp .andNot t x y yt,ty,pos,after,g⟩ a=some (.int .i64 (m - m % 2)):=
 CI hx hy rfl (by show some (Value.int .i64 _)=_;rw[show IntKind.i64.bits=64 from rfl,Ai2 m h0 h1])
theorem E9 (h:cU gd (.int .i64 m) fun v=>aM P ops Q es hist (kH a d' v) C) (hx:bJ a x=.int .i64 m:=by exact rfl) (hy:bJ a y=.int .i64 0:=by exact rfl) (h0:-9223372036854775808<=m:=by first|omega|assumption) (h1:m<=9223372036854775807:=by first|omega|assumption) (hw:bD ops ⟨some d',.binOp .andNot t x y yt,ty,pos,after,g⟩ a=true:=by exact rfl):aM P ops Q (ET.cons (c,gd,⟨some d',.binOp .andNot t x y yt,ty,pos,after,g⟩) es) hist a C:=
 f6 rfl hw (Sq hx hy h0 h1) h
theorem EA (h:cU gd (.int .i64 (m - m % 2)) fun v=>aM P ops Q es hist (kH a d' v) C) (hx:bJ a x=.int .i64 m:=by exact rfl) (hy:bJ a y=.int .i64 1:=by exact rfl) (h0:-9223372036854775808<=m:=by first|omega|assumption) (h1:m<=9223372036854775807:=by first|omega|assumption) (hw:bD ops ⟨some d',.binOp .andNot t x y yt,ty,pos,after,g⟩ a=true:=by exact rfl):aM P ops Q (ET.cons (c,gd,⟨some d',.binOp .andNot t x y yt,ty,pos,after,g⟩) es) hist a C:=
 f6 rfl hw (R9 hx hy h0 h1) h
theorem Aee (h:b=false):(!b)=true:=by rw[h];rfl
theorem Adj (h:b=true):(!b)=false:=by rw[h];rfl
theorem tD {α:Type} [BEq α] [LawfulBEq α] (x:α):(!(x == x))=false:=by rw[beq_self_eq_true];rfl
theorem BH {p:Fr->Prop} (l:List (Nat×Value)) (h:cW a l) (k:p (fF a l)):p a:=by rw[Um h] at k;exact k
def X6:List Value->Option (List Int)
 | []=>some []
 |.int .u8 z::cs=>match X6 cs with
  |some zs=>some (z::zs)
  |none=>none
 |_=>none
def Aed:List Int->Prop
 | []=>True
 |z::l=>(0<=z/\z<256)/\Aed l
theorem ZS {z:Int} (h:0<=z/\z<256):kN (qK z)=.int .u8 z:=by rw[HZ,Int.emod_eq_of_lt h.1 h.2]
theorem JG:∀(cs:List Value) (zs:List Int),X6 cs=some zs->Aed zs->(zs.map qK).flatMap dX.enc=cs
 | [],zs,h,_=>by cases h;rfl
 |v::cs,zs,h,hr=>by
  unfold X6 at h
  split at h
  ·rename_i h1;cases h1
  ·rename_i z cs' h1
   split at h
   ·rename_i ys hy
    cases h1;cases h
    rw[List.map_cons,List.flatMap_cons,JG _ _ hy hr.2]
    show [kN (qK z)]++_=_
    rw[ZS hr.1];rfl
   ·cases h
  ·cases h
theorem QM (hd:X6 cs=some zs) (hr:Aed zs):dE (pt B cs e::C) (some ⟨B,0,none⟩) dX (zs.map qK):=fun H ⟨H1,H2,_,k1,_,h3,_⟩=>by
 obtain⟨b,hb,l⟩:=k1 B _ h3
 have:=sM.le_own l rfl
 subst this
 exact .inr ⟨B,[],[],e,true,rfl,by rw[JG cs zs hd hr,List.nil_append,List.append_nil];exact hb⟩
theorem Pm {n:Int} (h:cU gd (.int k (m / 2 ^ n.toNat)) fun v=>aM P ops Q es hist (kH a d' v) C) (hx:bJ a x=.int k m:=by exact rfl) (hy:bJ a y=.int yk n:=by exact rfl)
  (h0:0<=n:=by first|omega|assumption) (h1:n<=k.bits:=by first|assumption|(show _<=((64:Nat):Int);omega)|(show _<=((8:Nat):Int);omega)) (hw:bD ops ⟨some d',.binOp .shr t x y yt,ty,pos,after,g⟩ a=true:=by exact rfl):aM P ops Q (ET.cons (c,gd,⟨some d',.binOp .shr t x y yt,ty,pos,after,g⟩) es) hist a C:=
 f6 rfl hw (Afr hx hy h0 h1) h
theorem Ot (h:(match xD P t f with|some m=>yX m|none=>none)=some n):xD P t f=some n:=by
 split at h
 ·rename_i m hm;rw[hm,nL h]
 ·cases h
theorem bB {off:Nat} (h:cU gd (.pointer (some ⟨B,off+n,none⟩)) fun v=>aM P ops Q es hist (kH a d' v) C) (hx:bJ a x=.pointer (some ⟨B,off,none⟩):=by exact rfl)
  (hf:(match xD P t f with|some m=>yX m|none=>none)=some n:=by exact rfl) (hw:bD ops ⟨some d',.fieldAddr t x f,ty,pos,after,g⟩ a=true:=by exact rfl):aM P ops Q (ET.cons (c,gd,⟨some d',.fieldAddr t x f,ty,pos,after,g⟩) es) hist a C:=
 f6 rfl hw (Dp hx (Ot hf)) h
theorem lV {e':TypeId} {cp:Nat} {R:List HP} (h:cU gd (.string ⟨(zs.map qK).toArray⟩) fun v=>aM P ops Q es (C::hist) (kH a d' v) C) (hx:bJ a x=.slice (some ⟨B,0,none⟩) n cp:=by exact rfl) (hs:EJ P t=some e:=by exact rfl) (ht:mN P t'=true:=by exact rfl)
  (hp:aS (pt B cs e') C R:=by((repeat (first|exact aS.here|apply aS.there)) <;> exact aS.here)) (hd:X6 cs=some zs:=by exact rfl) (hr:Aed zs:=by((repeat (first|exact trivial|refine⟨⟨by omega,by omega⟩,?_⟩)) <;> exact trivial)) (hn:(zs.map qK).length=n:=by exact rfl)
  (hk:kd P (.convert t t' x)=.other:=by exact rfl) (hw:bD ops ⟨some d',.convert t t' x,ty,pos,after,g⟩ a=true:=by exact rfl):aM P ops Q (ET.cons (c,gd,⟨some d',.convert t t' x,ty,pos,after,g⟩) es) hist a C:=
 hZ (bs:=zs.map qK) h hx hs ht (Pk (fun _ hs=>hp.sats hs) (QM hd hr)) hn hk hw
theorem lP {s:ByteArray} (h:∀r N,cU gd (.slice (some ⟨r,0,none⟩) s.size N) fun v=>aM P ops Q es (C::hist) (kH a d' v) (bU (some ⟨r,0,none⟩) N e dX s.data.toList::C))
  (hx:bJ a x=.string s:=by exact rfl) (hs:mN P t=true:=by exact rfl) (ht:EJ P t'=some e:=by exact rfl)
  (hk:kd P (.convert t t' x)=.other:=by exact rfl) (hw:bD ops ⟨some d',.convert t t' x,ty,pos,after,g⟩ a=true:=by exact rfl):aM P ops Q (ET.cons (c,gd,⟨some d',.convert t t' x,ty,pos,after,g⟩) es) hist a C:=
 vF hk hw fun H hH=>PG hs ht hx fun r N hr hN=>⟨_,gQ (B:=r) (pre:= []) (post:=List.replicate (N - s.size) (.int .u8 0)) rfl (by rw[nY,List.nil_append];exact oZ hr hH) (by simpa using hN) (by simp[dX]),h r N⟩
end Go.Sl
namespace Go.Sl
variable {α:Type} {C:List HP}
theorem Y2 {A B:HP} (pa:EI A) (pb:EI B) (ma:Al A) (mb:Al B):EI (Al4 A B):=fun H ⟨ha,hb⟩=>by
 obtain⟨X,x1,x2,x3⟩:=pa H ha
 obtain⟨Y,y1,y2,y3⟩:=pb H hb
 have hxy:tH X Y:=fun r b c hb hc=>⟨x3 r b hb,y3 r c hc⟩
 refine⟨sX X Y,wP x1 y1,⟨ma _ _ x2 (qS _ _),mb _ _ y2 (oI hxy x1 y1)⟩,fun r b hb=>?_⟩
 unfold sX at hb
 split at hb
 ·rename_i a ha;cases hb;exact x3 _ _ ha
 ·exact y3 _ _ hb
section
variable {P:α->HP}
def kS (P:α->HP) (l:List α):HP:=fun H=>∀x∈l,P x H
theorem PR (m:∀x,Al (P x)) (l:List α):Al (kS P l):=fun H H' h hl x hx=>m x H H' (h x hx) hl
theorem Hn (p:∀x,EI (P x)) (m:∀x,Al (P x)):∀l:List α,EI (kS P l)
 | []=>fun H _=>⟨fun _=>none,(fun _ _ h=>by cases h),(fun _ h=>by cases h),(fun _ _ h=>by cases h)⟩
 |x::l=>fun H h=>by
  obtain⟨X,x1,x2,x3⟩:=Y2 (p x) (Hn p m l) (m x) (PR m l) H ⟨h x (by simp),fun y hy=>h y (by simp[hy])⟩
  exact⟨X,x1,fun y hy=>by
   rcases List.mem_cons.1 hy with rfl|hy
   ·exact x2.1
   ·exact x2.2 y hy,x3⟩
theorem Nz {H:Hp} (hs:bZ C H):bZ (kS P []::C) H:=
 ⟨fun _=>none,H,(fun _ _ _ h=>by cases h),(fun _ _ h=>by cases h),AT.refl H,(fun _ h=>by cases h),hs⟩
theorem aG.allnil {C':List HP} (h:aG C C'):aG C (kS P []::C'):=fun H hs=>Nz (h H hs)
theorem aG.allsnoc {l:List α} {x:α} (p:∀x,EI (P x)) (m:∀x,Al (P x)):aG (P x::kS P l::C) (kS P (l++ [x])::C):=fun H hs=>by
 have h:=Ack (p x) (Hn p m l) (m x) (PR m l) hs
 refine aG.imp (fun H ⟨h1,h2⟩ y hy=>?_) (aG.refl C) H h
 rcases List.mem_append.1 hy with hy|hy
 ·exact h2 y hy
 ·cases List.mem_singleton.1 hy;exact h1
theorem aG.allget {l:List α} {x:α} (p:∀x,EI (P x)) (m:∀x,Al (P x)) (hx:x∈l):aG (kS P l::C) (P x::kS P l::C):=fun H hs=>
 aG.imp (fun H h=>h x hx) (aG.refl _) H (hs.dup (Hn p m l))
theorem aG.allsub {l l':List α} (h:∀x∈l',x∈l):aG (kS P l::C) (kS P l'::C):=aG.imp (fun _ k x hx=>k x (h x hx)) (aG.refl _)
end
end Go.Sl
namespace Go.Sl
def oQ:Code->List Code
 |.seq x y=>oQ x++oQ y
 |.cond _ x y=>oQ x++oQ y
 |.block _ c=>oQ c
 |.scope c=>oQ c
 |.loop c=>oQ c
 |.region id o d=> [.region id o d]
 |_=> []
def DL (f:Func) (k:Nat):Code:=match f.body with
 |some c=>((oQ c).find? fun r=>match r with|.region id _ _=>id == k|_=>false).getD .skip
 |none=>.skip
theorem Ajr {P:Program} {Q:Exit->Fr->List HP->Prop} {a:Fr} {C:List HP} {x:Code} {id:Nat} (I:Fr->List HP->Prop)
  (h:eY P x (aL id (bQ (dR I) Q)) a C) (k:∀a C,I a C->Amq (Q .normal a C)):eY P (.block id x) Q a C:=fun H hs=>
 wR _ (fun e a H hq=>by
  obtain⟨C',h1,h2⟩:=hq
  cases e <;> first
   |exact⟨C',h1,h2⟩
   |(obtain⟨C'',hE,hI⟩:=h2;exact⟨C'',hE H h1,(k _ _ hI).h⟩)) a H (Eb (id:=id) (Q:=bQ (dR I) Q) h H hs)
end Go.Sl
end
namespace Go.Proofs.YtffnpejdkkohcaaGreat
open Go Go.Proofs Go.Sl
attribute [local irreducible] aM eY cU bQ aL aW aA dS dT aZ dR pt ro fN star sep bH
abbrev CT (f:FuncId) (Amw:Array Value) (C:List HP) (K:KP):Prop:=aA Tryz.prog f Amw C K
theorem mixed:Tryz.prog.follows .mixedOrders=true:=by rfl
theorem aJ {f:FuncId} {fn:Func} {c:Code} {args:Array Value} {C:List HP} {K:KP} (hf:Tryz.prog.funcs[f]?=some fn) (h:eY Tryz.prog c (dS Tryz.prog fn K) (GA args.toList) C) (hb:fn.body=some c:=by exact rfl) (hn:(fn.name == "runtime.NumGoroutine")=false:=by decide) (hc:rC fn.ntmps c=true:=by decide +kernel) (hs:args.size<=fn.ntmps:=by exact Nat.le_of_ble_eq_true rfl):CT f args C K:=P0 mixed hf hb hn hc hs h
end Go.Proofs.YtffnpejdkkohcaaGreat
namespace Go.Proofs.YtffnpejdkkohcaaGreat
open Go Go.Proofs Go.Shelf
def Tryz.lays189_ren:Go.Shelf.Ren:=⟨fun|189=>291|125=>327|257=>326|128=>343|129=>344|294=>334|295=>335|296=>336|297=>337|298=>338|299=>339|216=>340|300=>341|301=>342|328=>347|329=>348|330=>349|331=>350|332=>351|215=>329|343=>352|n=>n,fun|28=>38|3=>3|46=>346|0=>0|51=>362|53=>364|4=>4|183=>356|182=>355|131=>218|5=>5|9=>9|218=>367|222=>371|228=>373|229=>374|n=>n,fun|n=>n⟩
theorem Tryz.lays189:Go.Proofs.Lays.n189 Tryz.prog Tryz.lays189_ren:= {
 mixed:=by kernel_rfl
 f125:=Tryz.func327.trans (congrArg some (by kernel_rfl))
 f128:=Tryz.func343.trans (congrArg some (by kernel_rfl))
 f129:=Tryz.func344.trans (congrArg some (by kernel_rfl))
 f189:=Tryz.func291.trans (congrArg some (by kernel_rfl))
 f215:=Tryz.func329.trans (congrArg some (by kernel_rfl))
 f216:=Tryz.func340.trans (congrArg some (by kernel_rfl))
 f257:=Tryz.func326.trans (congrArg some (by kernel_rfl))
 f294:=Tryz.func334.trans (congrArg some (by kernel_rfl))
 f295:=Tryz.func335.trans (congrArg some (by kernel_rfl))
 f296:=Tryz.func336.trans (congrArg some (by kernel_rfl))
 f297:=Tryz.func337.trans (congrArg some (by kernel_rfl))
 f298:=Tryz.func338.trans (congrArg some (by kernel_rfl))
 f299:=Tryz.func339.trans (congrArg some (by kernel_rfl))
 f300:=Tryz.func341.trans (congrArg some (by kernel_rfl))
 f301:=Tryz.func342.trans (congrArg some (by kernel_rfl))
 f328:=Tryz.func347.trans (congrArg some (by kernel_rfl))
 f329:=Tryz.func348.trans (congrArg some (by kernel_rfl))
 f330:=Tryz.func349.trans (congrArg some (by kernel_rfl))
 f331:=Tryz.func350.trans (congrArg some (by kernel_rfl))
 f332:=Tryz.func351.trans (congrArg some (by kernel_rfl))
 f343:=Tryz.func352.trans (congrArg some (by kernel_rfl))
 t0:=Tryz.underlying0
 a0:=Tryz.isAgg0
 z0:=Tryz.sizeOf0
 v0:=Tryz.zeroValue0
 t3:=Tryz.underlying3
 a3:=Tryz.isAgg3
 z3:=Tryz.sizeOf3
 v3:=Tryz.zeroValue3
 t4:=Tryz.underlying4
 a4:=Tryz.isAgg4
 z4:=Tryz.sizeOf4
 v4:=Tryz.zeroValue4
 t5:=Tryz.underlying5
 a5:=Tryz.isAgg5
 z5:=Tryz.sizeOf5
 v5:=Tryz.zeroValue5
 t9:=Tryz.underlying9
 a9:=Tryz.isAgg9
 z9:=Tryz.sizeOf9
 v9:=Tryz.zeroValue9
 t28:=Tryz.underlying38
 a28:=Tryz.isAgg38
 z28:=Tryz.sizeOf38
 v28:=Tryz.zeroValue38
 t46:=Tryz.underlying346
 a46:=Tryz.isAgg346
 z46:=Tryz.sizeOf346
 v46:=Tryz.zeroValue346
 t51:=Tryz.underlying362
 a51:=Tryz.isAgg362
 z51:=Tryz.sizeOf362
 v51:=Tryz.zeroValue362
 t53:=Tryz.underlying364
 a53:=Tryz.isAgg364
 z53:=Tryz.sizeOf364
 v53:=Tryz.zeroValue364
 t131:=Tryz.underlying218
 a131:=Tryz.isAgg218
 z131:=Tryz.sizeOf218
 v131:=Tryz.zeroValue218
 t182:=Tryz.underlying355
 a182:=Tryz.isAgg355
 z182:=Tryz.sizeOf355
 v182:=Tryz.zeroValue355
 t183:=Tryz.underlying356
 a183:=Tryz.isAgg356
 z183:=Tryz.sizeOf356
 v183:=Tryz.zeroValue356
 t218:=Tryz.underlying367
 a218:=Tryz.isAgg367
 z218:=Tryz.sizeOf367
 v218:=Tryz.zeroValue367
 t222:=Tryz.underlying371
 a222:=Tryz.isAgg371
 z222:=Tryz.sizeOf371
 v222:=Tryz.zeroValue371
 t228:=Tryz.underlying373
 a228:=Tryz.isAgg373
 z228:=Tryz.sizeOf373
 v228:=Tryz.zeroValue373
 t229:=Tryz.underlying374
 a229:=Tryz.isAgg374
 z229:=Tryz.sizeOf374
 v229:=Tryz.zeroValue374 }
end Go.Proofs.YtffnpejdkkohcaaGreat
