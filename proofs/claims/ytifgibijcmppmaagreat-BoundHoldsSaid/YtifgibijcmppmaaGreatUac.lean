/- A part of the proof: lemmas; each with the conditions that it states. -/
import Derived.Laws.StructEq
import Derived.ProofKit
import Derived.Below
import Derived.ChangeSame
import Derived.Carry
import Derived.Test.YtifgibijcmppmaaGreatUab
set_option linter.unusedVariables false
set_option linter.unusedSimpArgs false
section
namespace Go.Sl
def LW (P:Program) (t:TypeId) (i:Nat):Option (Nat×Nat):=match P.underlying t with
 |some (.struct fs)=>match fs[i]? with
  |some f=>match P.info? f.type with
   |some inf=>some (f.offset,inf.size)
   |none=>none
  |none=>none
 |some (.array _ e)=>match P.info? e with
  |some inf=>some (i * inf.size,inf.size)
  |none=>none
 |_=>none
def Qg (P:Program) (t:TypeId):Bool:=match P.underlying t with
 |some (.struct fs)=>fs.toList.all fun f=>(P.info? f.type).isSome
 |some (.array _ e)=>(P.info? e).isSome
 |_=>false
def PE (place:Nat→Option (Nat×Nat)):List Value→List (Nat×Value)→Option (List Value)
 |cs,[]=>some cs
 |cs,(i,v)::rest=>match place i with
  |none=>none
  |some (off,sz)=>if v.cells.toList.length=sz∧off+sz≤cs.length then match nB (uK cs off v.cells.toList) with
   |some cs'=>PE place cs' rest
   |none=>none
  else none
theorem R7:∀(l:List Value) (k off:Nat) (cs:Array Value),((l.zipIdx k).foldl (fun cs (c,j)=>cs.setIfInBounds (off+j) c) cs)=(mI cs.toList (off+k) l).toArray:=by
 intro l
 induction l with
 |nil=>intro k off cs;simp[mI]
 |cons v l ih=>
  intro k off cs
  simp only[List.zipIdx_cons,List.foldl_cons,mI]
  rw[ih]
  congr 1
  simp[Nat.add_assoc]
theorem Cy {p' p:Nat→Option (Nat×Nat)} (hp:∀i x,p' i=some x→p i=some x):∀(parts:List (Nat×Value)) (cs r:List Value),PE p' cs parts=some r→Instr.fill p cs.toArray parts=some r.toArray:=by
 intro parts
 induction parts with
 |nil=>intro cs r h;cases h;rfl
 |cons x parts ih=>
  obtain⟨i,v⟩:=x
  intro cs r h
  simp only[PE] at h
  split at h
  ·cases h
  ·rename_i off sz hi
   split at h
   ·rename_i hc
    simp only[Instr.fill,hp i _ hi]
    have h1:v.cells.size=sz:=by simpa using hc.1
    have h2:¬(off+v.cells.size > cs.toArray.size):=by simp;omega
    rw[if_neg (by simp[h1];omega)]
    have:(v.cells.zipIdx.foldl (fun cs (c,j)=>cs.setIfInBounds (off+j) c) cs.toArray)=(mI cs off v.cells.toList).toArray:=by
     rw[← Array.foldl_toList,Array.toList_zipIdx]
     exact R7 v.cells.toList 0 off cs.toArray
    rw[this]
    split at h
    ·rename_i cs' hcs'
     rw[← GK,kN hcs']
     exact ih _ _ h
    ·cases h
   ·cases h
def Cm (a:Fr):List (Nat×Operand)→Option (List (Nat×Value))
 | []=>some []
 |(i,x)::xs=>match iC (bJ a x),Cm a xs with
  |some v,some vs=>some ((i,v)::vs)
  |_,_=>none
theorem Kp {a:Fr}:∀ {xs:List (Nat×Operand)} {vs:List (Nat×Value)},Cm a xs=some vs→xs.map (fun(i,x)=>(i,bJ a x))=vs:=by
 intro xs
 induction xs with
 |nil=>intro vs h;cases h;rfl
 |cons x xs ih=>
  obtain⟨i,x⟩:=x
  intro vs h
  simp only[Cm] at h
  split at h
  ·rename_i v vs' h1 h2;cases h;rw[List.map_cons,ih h2,← gA h1]
  ·cases h
def L2 (P:Program) (t:TypeId) (parts:List (Nat×Value)):Option Value:=
 if Qg P t=true then match AM P t with
  |some zs=>match PE (LW P t) zs parts with
   |some cs=>match nB cs with
    |some cs=>some (.agg cs.toArray)
    |none=>none
   |none=>none
  |none=>none
 else none
theorem MB {P:Program} {α β:Type} {f:α→Sem β} {g:α→β} {l:List α} (h:∀x∈l,(f x).pr P=some (g x)):(l.mapM f).pr P=some (l.map g):=by
 induction l with
 |nil=>rfl
 |cons x l ih=>
  rw[List.mapM_cons,aU,h x (by simp),Option.bind_some,aU,ih (fun y hy=>h y (by simp[hy]))]
  rfl
theorem HY {P:Program} {t:TypeId} {zs:List Value} (h:AM P t=some zs):∃z,(zeroValue t).pr P=some z∧z.cells.toList=zs:=by
 unfold AM at h
 split at h
 ·rename_i i hi
  split at h
  ·rename_i z hz
   exact⟨z,by simp only[zeroValue,aU,d3 hi,Option.bind_some,hz];rfl,by simpa using h⟩
  ·cases h
 ·cases h
theorem Ac2 {P:Program} {t:TypeId} {parts:Array (Nat×Value)} {v:Value} (h:L2 P t parts.toList=some v):(Instr.build t parts).pr P=some v:=by
 unfold L2 at h
 split at h
 ·rename_i hok
  split at h
  ·rename_i zs hzs
   split at h
   ·rename_i cs hfill
    split at h
    ·rename_i cs' hcs
     cases h
     obtain⟨z,hz,hzl⟩:=HY hzs
     have hcs':=kN hcs
     subst hcs'
     unfold Instr.build
     rw[aU,hz,Option.bind_some]
     unfold Qg at hok
     have hza:z.cells=zs.toArray:=by rw[← hzl]
     split at hok
     ·rename_i fs hu
      rw[aU,aL hu,Option.bind_some]
      simp only
      have hm:(fs.mapM fun f=>(do pure (f.offset,← sizeOf f.type):Sem (Nat×Nat))).pr P=some (fs.toList.map fun f=>(f.offset,((P.info? f.type).map (·.size)).getD 0)).toArray:=by
       rw[Array.mapM_eq_mapM_toList,map_eq_pure_bind,aU,MB (g:=fun f=>(f.offset,((P.info? f.type).map (·.size)).getD 0))]
       ·rfl
       ·intro f hf
        have:=List.all_eq_true.1 hok f hf
        cases hi:P.info? f.type with
        |none=>rw[hi] at this;cases this
        |some i=>simp only[aU,fF hi,Option.bind_some];rfl
      rw[aU,hm,Option.bind_some]
      have:=Cy (p:=fun i=>((fs.toList.map fun f=>(f.offset,((P.info? f.type).map (·.size)).getD 0)).toArray)[i]?) (fun i x hx=>by
       simp only[LW,hu] at hx
       split at hx
       ·rename_i f hf
        split at hx
        ·rename_i inf hinf;cases hx;simp[hf,hinf]
        ·cases hx
       ·cases hx) _ _ _ hfill
      rw[hza,this]
      rfl
     ·rename_i n e hu
      rw[aU,aL hu,Option.bind_some]
      simp only
      have hpl:∀i,LW P t i=match P.info? e with|some inf=>some (i * inf.size,inf.size)|none=>none:=fun i=>by simp only[LW,hu]
      cases hi:P.info? e with
      |none=>rw[hi] at hok;cases hok
      |some inf=>
       rw[aU,fF hi,Option.bind_some]
       have:=Cy (p:=fun i=>some (i * inf.size,inf.size)) (fun i x hx=>by rw[hpl,hi] at hx;exact hx) _ _ _ hfill
       rw[hza,this]
       rfl
     ·cases hok
    ·cases h
   ·cases h
  ·cases h
 ·cases h
section
variable {P:Program} {a:Fr} {d:Option Tmp} {ty:TypeId} {pos:String} {after:Array Edge} {g:Option (Nat×Bool)} {t yt:TypeId} {x y z:Operand}
theorem Aab {ps:Array (Nat×Operand)} {vs:List (Nat×Value)} {v:Value} (hps:Cm a ps.toList=some vs) (hv:L2 P t vs=some v):b6 P ⟨d,.build t ps,ty,pos,after,g⟩ a=some v:=by
 refine cA ?_
 have e:(ps.map fun(i,x)=>(i,bJ a x)).toList=vs:=by rw[Array.toList_map];exact Kp hps
 simp only[execOp,aU]
 rw[Ac2 (v:=v) (by rw[e];exact hv)]
 rfl
def Ds (P:Program) (t:TypeId):Option TypeId:=match P.underlying t with
 |some (.slice e)=>some e
 |_=>none
theorem Md {e:TypeId} (h:Ds P t=some e):P.underlying t=some (.slice e):=by
 unfold Ds at h;split at h
 ·cases h;assumption
 ·cases h
def Mu (P:Program) (t:TypeId) (n:Nat) (parts:List (Nat×Value)):Option (List Value):=match Ds P t with
 |some e=>match oZ P e,AM P e with
  |some sz,some zs=>if n * sz≤16777216∧n * sz≠0 then match PE (fun i=>some (i * sz,sz)) ((List.range (n * sz)).map fun i=>(zs[i % zs.length]?).getD default) parts with
    |some cs=>nB cs
    |none=>none
   else none
  |_,_=>none
 |none=>none
theorem JP {ps:Array (Nat×Operand)} {n:Nat} {vs:List (Nat×Value)} {cs:List Value} {e:TypeId} {H:Hp} {k:Value→Hp→Prop} (hps:Cm a ps.toList=some vs) (he:Ds P t=some e) (hc:Mu P t n vs=some cs)
  (hk:∀r,H r=none→k (.slice (some ⟨r,0,none⟩) n n) (hupd H r (.cells cs e true))):lJ P ⟨d,.buildSlice t n ps,ty,pos,after,g⟩ a H k:=by
 have hu:=Md he
 have epar:(ps.map fun(i,x)=>(i,bJ a x)).toList=vs:=by rw[Array.toList_map];exact Kp hps
 unfold Mu at hc
 rw[he] at hc
 simp only at hc
 split at hc
 ·rename_i sz zs hsz hzs
  split at hc
  ·rename_i hle
   split at hc
   ·rename_i cs' hfill
    have hcs:=kN hc
    subst hcs
    obtain⟨inf,hi,rfl⟩:=sB hsz
    obtain⟨z,hz,hzl⟩:=HY hzs
    refine fK ?_
    simp only[execOp,Instr.buildSlice,aJ]
    rw[aP (aL hu)]
    simp only[aJ]
    rw[aP (fF hi),if_neg (by have:=hle.1;omega)]
    rw[if_neg hle.2]
    simp only[aJ]
    rw[aP hz]
    have hb:((Array.range (n * inf.size)).map fun i=>z.cells[i % z.cells.size]!)=((List.range (n * inf.size)).map fun i=>(zs[i % zs.length]?).getD default).toArray:=by
     apply Array.ext'
     rw[Array.toList_map,Array.toList_range,← hzl]
     apply List.map_congr_left
     intro i _
     simp[getElem!_def,Array.getElem?_toList]
     rfl
    have hf:=Cy (p:=fun i=>some (i * inf.size,inf.size)) (fun _ _ h=>h) _ _ _ hfill
    rw[aP (show(pure z.cells:Sem (Array Value)).pr P=some z.cells from rfl),hb]
    rw[show(Array.map (fun x=>(x.1,bJ a x.2)) ps).toList=vs from epar,hf]
    simp only[aJ,newRow]
    intro r hr
    exact⟨rfl,hk r hr⟩
   ·cases hc
  ·cases hc
 ·cases hc
def Ajj (P:Program) (t:TypeId):Option (Nat×Nat):=match P.underlying t with
 |some (.array n e)=>match P.info? e with
  |some i=>some (n,i.size)
  |none=>none
 |_=>none
theorem X8 {B off n sz:Nat} {k:IntKind} {j:Int} (ht:Ajj P t=some (n,sz)) (hx:bJ a x=.pointer (some ⟨B,off,none⟩)) (hy:bJ a y=.int k j) (h0:0≤j) (h1:j<n):
  b6 P ⟨d,.indexAddr t x y,ty,pos,after,g⟩ a=some (.pointer (some ⟨B,off+j.toNat * sz,none⟩)):=by
 refine cA ?_
 unfold Ajj at ht
 split at ht
 ·rename_i m e hu
  split at ht
  ·rename_i i hi
   cases ht
   simp only[execOp,hx,hy,Instr.indexAt,aU,asIntOf,pure,Sem.pr,Option.bind_some,aL hu,Instr.sureAddr,h0,h1,and_self,if_true,fF hi,nG]
  ·cases ht
 ·cases ht
def OZ (P:Program) (t:TypeId):Option IntKind:=match P.underlying t with
 |some (.int k)=>some k
 |_=>none
theorem MR {t':TypeId} {k k':IntKind} {n:Int} (hs:(P.underlying t).isSome=true) (ht:OZ P t'=some k) (hx:bJ a x=.int k' n):
  b6 P ⟨d,.convert t t' x,ty,pos,after,g⟩ a=some (.int k (k.wrap n)):=by
 refine cA ?_
 unfold OZ at ht
 split at ht
 ·rename_i k0 hu
  cases ht
  cases hs':P.underlying t with
  |none=>rw[hs'] at hs;cases hs
  |some D=>
   simp only[execOp,hx,convert,aU,aL hs',aL hu,Option.bind_some]
   cases D <;> rfl
 ·cases ht
def yU (P:Program) (t:TypeId) (cs:List Value) (off:Nat):Option Value:=match Cv P t with
 |some true=>match P.info? t with
  |some i=>match nB ((cs.drop off).take i.size) with
   |some vs=>some (.agg vs.toArray)
   |none=>none
  |none=>none
 |some false=>cs[off]?
 |none=>none
def Ajb:Option Bool→Option Bool→Option Bool
 |some b,some r=>some (b && r)
 |_,_=>none
def W5 (eq:TypeId→Value→Value→Option Bool) (P:Program) (xs ys:List Value):List Field→Option Bool
 | []=>some true
 | [f]=>match yU P f.type xs f.offset,yU P f.type ys f.offset with
  |some u,some w=>eq f.type u w
  |_,_=>none
 |f::fs=>match yU P f.type xs f.offset,yU P f.type ys f.offset with
  |some u,some w=>Ajb (eq f.type u w) (W5 eq P xs ys fs)
  |_,_=>none
def CM (P:Program):Nat→TypeId→Bool
 |0,_=>false
 |n+1,t=>match P.underlying t with
  |some .bool=>true
  |some (.int _)=>true
  |some .string=>true
  |some (.struct fs)=>!P.stoodInHeld t && fs.toList.all fun f=>f.name != "_" && CM P n f.type
  |_=>false
def eqV (P:Program):Nat→TypeId→Value→Value→Option Bool
 |0,_,_,_=>none
 |n+1,t,u,w=>match P.underlying t with
  |some .bool=>match u,w with
   |.bool b,.bool b'=>some (b == b')
   |_,_=>none
  |some (.int _)=>match u,w with
   |.int k m,.int k' m'=>if k=k' then some (m == m') else none
   |_,_=>none
  |some .string=>match u,w with
   |.string b,.string b'=>some (b.toList == b'.toList)
   |_,_=>none
  |some (.struct fs)=>match u,w with
   |.agg xs,.agg ys=>W5 (eqV P n) P xs.toList ys.toList fs.toList
   |_,_=>none
  |_=>none
theorem PU {b:Bool} (h:Cv P t=some b):(isAgg t).pr P=some b:=by
 unfold Cv at h
 unfold isAgg
 split at h
 ·rename_i fs hu;rw[aU,aL hu];exact h
 ·rename_i n e hu;rw[aU,aL hu];exact h
 ·rename_i d h1 h2 hu
  rw[aU,aL hu,Option.bind_some]
  split
  ·exact(h1 _ rfl).elim
  ·exact(h2 _ _ rfl).elim
  ·exact h
 ·cases h
theorem GT {cs:Array Value} {off:Nat} {v:Value} (h:yU P t cs.toList off=some v):(part t cs off).pr P=some v:=by
 unfold yU at h
 unfold part
 split at h
 ·rename_i hag
  split at h
  ·rename_i i hi
   split at h
   ·rename_i vs hvs
    cases h
    rw[aU,PU hag,Option.bind_some]
    simp only[if_true]
    rw[aU,fF hi,Option.bind_some]
    have:cs.extract off (off+i.size)=vs.toArray:=by
     rw[← kN hvs]
     apply Array.ext'
     simp
    rw[this];rfl
   ·cases h
  ·cases h
 ·rename_i hag
  rw[aU,PU hag,Option.bind_some]
  simp only[Bool.false_eq_true,if_false]
  rw[Array.getElem?_toList] at h
  rw[h];rfl
 ·cases h
theorem V4 {x y:Option Bool} {b:Bool} (h:Ajb x y=some b):∃c r,x=some c∧y=some r∧b=(c && r):=by
 unfold Ajb at h
 split at h
 ·exact⟨_,_,rfl,rfl,by cases h;rfl⟩
 ·cases h
theorem XY {eq:TypeId→Value→Value→Option Bool} {xs ys:List Value} {f:Field} {fs:List Field} {b:Bool} (h:W5 eq P xs ys (f::fs)=some b):
  ∃u w c r,yU P f.type xs f.offset=some u∧yU P f.type ys f.offset=some w∧eq f.type u w=some c∧W5 eq P xs ys fs=some r∧b=(c && r):=by
 cases fs with
 |nil=>
  simp only[W5] at h
  split at h
  ·rename_i u w hu hw;exact⟨u,w,b,true,hu,hw,h,rfl,by simp⟩
  ·cases h
 |cons f' fs'=>
  simp only[W5] at h
  split at h
  ·rename_i u w hu hw
   obtain⟨c,r,h1,h2,h3⟩:=V4 h
   exact⟨u,w,c,r,hu,hw,h1,h2,h3⟩
  ·cases h
theorem G9:∀(n m:Nat) (t:TypeId) (u w:Value) (b:Bool),n≤m→CM P n t=true→eqV P n t u w=some b→(Op.equalIn m t u w).pr P=some b:=by
 intro n
 induction n with
 |zero=>intro m t u w b _ _ h;cases h
 |succ n ih=>
  intro m t u w b hm hfree h
  obtain⟨m,rfl⟩:∃m',m=m'+1:=⟨m - 1,by omega⟩
  unfold Op.equalIn
  simp only[eqV] at h
  split at h
  ·rename_i hu
   rw[aU,aL hu,Option.bind_some]
   split at h
   ·exact h
   ·cases h
  ·rename_i k hu
   rw[aU,aL hu,Option.bind_some]
   split at h
   ·split at h
    ·rename_i hk;subst hk;simp only[if_true];exact h
    ·cases h
   ·cases h
  ·rename_i hu
   rw[aU,aL hu,Option.bind_some]
   split at h
   ·rename_i x y
    have:(x == y)=(x.toList == y.toList):=beq_toListBytes x y
    simp only[this]
    exact h
   ·cases h
  ·rename_i fs hu
   rw[aU,aL hu,Option.bind_some]
   simp only[CM,hu,Bool.and_eq_true,Bool.not_eq_true'] at hfree
   obtain⟨hst,hall⟩:=hfree
   split at h
   ·rename_i xs ys
    simp only
    rw[aU,show program.pr P=some P from rfl,Option.bind_some,hst]
    simp only[Bool.false_eq_true,if_false]
    rw[← Array.forIn_toList]
    generalize fs.toList=l at h hall
    clear hu
    induction l generalizing b with
    |nil=>cases h;rfl
    |cons f l ihl=>
     simp only[List.forIn_cons]
     obtain⟨p,q,c,r,hp,hq,hc,hr,rfl⟩:=XY h
     simp only[List.all_cons,Bool.and_eq_true] at hall
     obtain⟨⟨hn,hf⟩,hall⟩:=hall
     have key:=ih m f.type p q c (by omega) hf hc
     rw[if_pos (by simpa using hn)]
     have ihl':=ihl r hr hall
     simp only[aU] at ihl'
     simp only[aU,GT hp,GT hq,key,Option.bind_some]
     cases c with
     |false=>rfl
     |true=>exact ihl'
   ·cases h
  ·cases h
theorem Ag {op:BinOp} {xs ys:Array Value} (h:P.eqGuardType P.depth t=false):(eqGuard op t x y (.agg xs) (.agg ys)).pr P=some ():=by
 unfold eqGuard
 cases op <;> first|rfl|(show Sem.pr P (if(!true)=true then _ else _)=_;rw[if_neg (by simp)];simp only[aU,show program.pr P=some P from rfl,Option.bind_some,h];rfl)
theorem Rj {xs ys:Array Value} {b:Bool} (hx:bJ a x=.agg xs) (hy:bJ a y=.agg ys) (hg:(!P.eqGuardType P.depth t && CM P 20 t)=true) (he:eqV P 20 t (.agg xs) (.agg ys)=some b):
  b6 P ⟨d,.binOp .eql t x y yt,ty,pos,after,g⟩ a=some (.bool b):=by
 refine cA ?_
 have h1:(binOp .eql t (.agg xs) (.agg ys)).pr P=some (.bool b):=by
  simp only[binOp,aU]
  rw[show(Op.equal t (.agg xs) (.agg ys)).pr P=some b from G9 20 _ t _ _ b (by unfold Op.maxDepth;omega) (by simp only[Bool.and_eq_true] at hg;exact hg.2) he]
  rfl
 simp only[execOp,hx,hy,aU]
 rw[Ag (by simp only[Bool.and_eq_true,Bool.not_eq_true'] at hg;exact hg.1),Option.bind_some,h1]
 rfl
theorem TR {xs ys:Array Value} {b:Bool} (hx:bJ a x=.agg xs) (hy:bJ a y=.agg ys) (hg:(!P.eqGuardType P.depth t && CM P 20 t)=true) (he:eqV P 20 t (.agg xs) (.agg ys)=some b):
  b6 P ⟨d,.binOp .neq t x y yt,ty,pos,after,g⟩ a=some (.bool (!b)):=by
 refine cA ?_
 have h1:(binOp .neq t (.agg xs) (.agg ys)).pr P=some (.bool (!b)):=by
  simp only[binOp,aU]
  rw[show(Op.equal t (.agg xs) (.agg ys)).pr P=some b from G9 20 _ t _ _ b (by unfold Op.maxDepth;omega) (by simp only[Bool.and_eq_true] at hg;exact hg.2) he]
  rfl
 simp only[execOp,hx,hy,aU]
 rw[Ag (by simp only[Bool.and_eq_true,Bool.not_eq_true'] at hg;exact hg.1),Option.bind_some,h1]
 rfl
end
end Go.Sl
namespace Go.Sl
theorem EL:∀(news A B:List Value),news.length≤B.length→mI (A++B) A.length news=A++news++B.drop news.length:=by
 intro news
 induction news with
 |nil=>intro A B _;simp[mI]
 |cons v news ih=>
  intro A B hle
  cases B with
  |nil=>simp at hle
  |cons b B=>
   simp only[mI]
   have:(A++b::B).set A.length v=(A++ [v])++B:=by simp
   rw[this]
   have:=ih (A++ [v]) B (by simpa using hle)
   simp only[List.length_append,List.length_cons,List.length_nil] at this
   rw[this]
   simp
theorem Yf (N:Nat):∀(k c:Nat),c≤2 * N+192→Builtin.growBy N k c≤2 * N+192:=by
 intro k
 induction k with
 |zero=>exact fun c h=>h
 |succ k ih=>
  intro c h
  unfold Builtin.growBy
  split
  ·exact h
  ·exact ih _ (by omega)
theorem Iy {need cap:Nat} (h:cap<need):Builtin.nextslicecap need cap≤2 * need+512:=by
 unfold Builtin.nextslicecap
 split
 ·omega
 ·split
  ·omega
  ·have:=Yf need 4 cap (by omega);omega
section
variable {P:Program} {H:Hp}
theorem mT {sz n cap off B:Nat} {cs:List Value} {e:TypeId} {rw:Bool} {m:Nat} (hb:H B=some (.cells cs e rw)) (hle:off+m * sz≤cs.length):
  (Builtin.firstCells sz m (.slice (some ⟨B,off,none⟩) n cap)).rd P H=some ((cs.drop off).take (m * sz)).toArray:=by
 simp only[Builtin.firstCells,loadCells]
 rw[x8 hb off (m * sz) 0 #[] (by omega)]
 simp
theorem rN {α:Type} {s:Sem α} {v:α} {q:α→Hp→Prop} (h:s.rd P H=some v) (hq:q v H):s.ev P H q:=Aip P s v q h hq
theorem CW {n:Nat} {q:Unit→Hp→Prop} (hq:q () H):(askRoom n).ev P H q:=by
 unfold askRoom
 split
 ·exact hq
 ·exact hq
def BA (P:Program) (t:TypeId):Bool:=match P.underlying t with
 |some (.int _)=>false
 |some _=>true
 |none=>false
theorem DX {t:TypeId} (h:BA P t=true):∃D,P.underlying t=some D∧∀k,D≠.int k:=by
 unfold BA at h
 split at h
 ·cases h
 ·rename_i D hne hD;exact⟨D,hD,fun k hk=>hne k hk⟩
 ·cases h
end
def Amf (H0 H:Hp) (s:Value) (e:TypeId) (sz n:Nat) (xs:List Value):Prop:=
 xs.length=n * sz∧((s=.slice none 0 0∧n=0∧H=H0)∨
  ∃r pre post cap,s=.slice (some ⟨r,pre.length,none⟩) n cap∧H0 r=none∧H=hupd H0 r (.cells (pre++xs++post) e true)∧n≤cap∧post.length=(cap - n) * sz)
section
variable {P:Program} {a:Fr} {d:Option Tmp} {ty:TypeId} {pos:String} {after:Array Edge} {g:Option (Nat×Bool)} {x y:Operand} {H0 Hr H:Hp} {k:Value→Hp→Prop}
def PC (P:Program) (st xt:TypeId):Option (TypeId×Nat×Nat):=match P.underlying st with
 |some (.slice e)=>match P.info? e with
  |some i=>match i.zero with
   |some z=>if z.cells.size=i.size∧i.bytes≠0∧BA P xt=true then some (e,i.size,i.bytes) else none
   |none=>none
  |none=>none
 |_=>none
def O5 (P:Program) (st xt:TypeId):Option (TypeId×Nat×Nat):=match PC P st xt with
 |some (e,sz,b)=>match zC sz with
  |some sz=>match zC b with
   |some b=>some (e,sz,b)
   |none=>none
  |none=>none
 |none=>none
theorem V7 {P:Program} {st xt e:TypeId} {sz b:Nat} (h:O5 P st xt=some (e,sz,b)):PC P st xt=some (e,sz,b):=by
 unfold O5 at h
 split at h
 ·rename_i e' sz' b' h0
  split at h
  ·rename_i sz2 h1
   split at h
   ·rename_i b2 h2
    cases h
    rw[h0,nF h1,nF h2]
   ·cases h
  ·cases h
 ·cases h
end
end Go.Sl
namespace Go.Sl
section
variable {P:Program} {ops:Array Oper} {Q:Fr→Hp→Prop} {a:Fr} {H:Hp} {i c:Nat} {rest:List Oper} {l:List (Nat×Nat)} {hist:List Hp} {d':Nat} {d:Option Tmp}
variable {ty:TypeId} {pos:String} {after:Array Edge} {g:Option (Nat×Bool)} {t yt:TypeId} {x y z:Operand}
section
variable {P:Program} {ops:Array Oper} {Q:Fr→Hp→Prop} {a:Fr} {H:Hp} {i c:Nat} {rest:List Oper} {l:List (Nat×Nat)} {hist:List Hp} {d':Nat} {d:Option Tmp}
variable {ty:TypeId} {pos:String} {after:Array Edge} {g:Option (Nat×Bool)} {t yt:TypeId} {x y z:Operand}
theorem uV {z:Int} (h0:-9223372036854775808≤z) (h1:z≤9223372036854775807):IntKind.wrap .i64 z=z:=by
 simp[IntKind.wrap,IntKind.bits,IntKind.signed]
 split <;> omega
theorem YL {m n:Int} (hx:bJ a x=.int .i64 m) (hy:bJ a y=.int .i64 n) (h0:-9223372036854775808≤m+n) (h1:m+n≤9223372036854775807):b6 P ⟨d,.binOp .add t x y yt,ty,pos,after,g⟩ a=some (.int .i64 (m+n)):=by
 have:=CY (P:=P) (d:=d) (t:=t) (yt:=yt) (ty:=ty) (pos:=pos) (after:=after) (g:=g) (op:=.add) hx hy rfl rfl
 rw[uV h0 h1] at this;exact this
theorem YZ {m n:Int} (hx:bJ a x=.int .i64 m) (hy:bJ a y=.int .i64 n) (h0:-9223372036854775808≤m - n) (h1:m - n≤9223372036854775807):b6 P ⟨d,.binOp .sub t x y yt,ty,pos,after,g⟩ a=some (.int .i64 (m - n)):=by
 have:=CY (P:=P) (d:=d) (t:=t) (yt:=yt) (ty:=ty) (pos:=pos) (after:=after) (g:=g) (op:=.sub) hx hy rfl rfl
 rw[uV h0 h1] at this;exact this
theorem Abw {m n:Int} (hx:bJ a x=.int .i64 m) (hy:bJ a y=.int .i64 n) (h0:-9223372036854775808≤m * n) (h1:m * n≤9223372036854775807):b6 P ⟨d,.binOp .mul t x y yt,ty,pos,after,g⟩ a=some (.int .i64 (m * n)):=by
 have:=CY (P:=P) (d:=d) (t:=t) (yt:=yt) (ty:=ty) (pos:=pos) (after:=after) (g:=g) (op:=.mul) hx hy rfl rfl
 rw[uV h0 h1] at this;exact this
section
variable {P:Program} {a:Fr} {H:Hp}
theorem Ai6 {t:Tmp} {rs:List ResultVar} {v:Value} {vs:List Value} (hx:iC (a t)=some v) (h:xE P a H rs=some vs):xE P a H (.tmp t::rs)=some (v::vs):=by
 simp only[xE,QI,h,gA hx]
theorem Aid {p:Tmp} {t:TypeId} {B off:Nat} {cs:List Value} {e:TypeId} {rw:Bool} {rs:List ResultVar} {v:Value} {vs:List Value} (hx:a p=.pointer (some ⟨B,off,none⟩)) (hb:H B=some (.cells cs e rw)) (hv:Q6 P t cs off=some v) (h:xE P a H rs=some vs):
  xE P a H (.cell p t::rs)=some (v::vs):=by
 simp only[xE,QI,h,hx,L1 hb hv]
end
def cJ (a:Fr):List (Nat×Value)→Prop
 | []=>True
 |(t,v)::l=>a t=v∧cJ a l
def eP (a:Fr):List (Nat×Value)→Fr
 | []=>a
 |(t,v)::l=>kJ (eP a l) t v
theorem Vj {a:Fr}:∀ {l:List (Nat×Value)},cJ a l→eP a l=a:=by
 intro l
 induction l with
 |nil=>intro _;rfl
 |cons x l ih=>
  intro h
  obtain⟨h1,h2⟩:=h
  have:=ih h2
  show kJ (eP a l) x.1 x.2=a
  rw[this]
  funext i
  unfold kJ
  split
  ·rename_i e;subst e;exact h1.symm
  ·rfl
end
end
end Go.Sl
end
section
namespace Go.Sl
open Go.ChangeShapes Go.WideShapes Go.ChangeAt Go.RowKit
section
variable {H:Type} {enc:TypeId×Value→H} {P:Program}
theorem KF (hl:laidOutB P=true) {W W':World} (hb:Below W.heap.size W W') {sp:Nat→Bool}:∀ {ts:List TypeId} {vs:List Value} {ds:List (DataW H)} {ps:List MemPlace},
  (∀t∈ts,(P.readableRec t && decide (t<P.types.size))=true)→DataW.TrodAll enc P W 0 (fun _=>true) true ts vs ds ps→(∀p∈ps,p.block<W.heap.size)→(∀p∈ps,sp p.block=true)→DataW.TrodAll enc P W' 0 sp true ts vs ds ps
 | [],[],[],_,_,h,_,_=>h
 |t::ts,_::_,_::_,_,hT,⟨p,q,h1,h2,e⟩,hlt,hs=>by
  have ht:=hT t (List.mem_cons.2 (Or.inl rfl))
  simp only[Bool.and_eq_true,decide_eq_true_eq] at ht
  exact⟨p,q,WideElems.Trod_stays hl ht.1 ht.2 h1 (fun x hx=>hb.same (hlt x (by rw[e];exact List.mem_append_left _ hx))) (fun x hx=>hs x (by rw[e];exact List.mem_append_left _ hx)),
   KF hl hb (fun t ht=>hT t (List.mem_cons.2 (Or.inr ht))) h2 (fun x hx=>hlt x (by rw[e];exact List.mem_append_right _ hx)) (fun x hx=>hs x (by rw[e];exact List.mem_append_right _ hx)),e⟩
theorem Zy {f:Func} {s:ChangeSpec} {apart fresh handsOn again:Bool} {W W':World} {args:Array Value} {ds gs:List (DataW H)} {before:List MemPlace} {t:TypeId} (hl:laidOutB P=true)
  (hp:(f.params.toList.all fun t=>P.readableRec t && decide (t<P.types.size))=true) (hr:f.resultTypes=#[t]) (ht:P.underlying t=some .bool) (hv:s.vars= [])
  (hW:DataW.Whole enc P f.params.toList s.vars apart W args.toList ds gs before) (h1:(s.fn H (ds++gs)).results= [.lit (.bool true)]) (h2:(s.fn H (ds++gs)).args=ds) (h3:(s.fn H (ds++gs)).vars= [])
  (hb:Below W.heap.size W W'):s.post enc P f apart fresh handsOn again W args (.bool true) W':=by
 have hW':=hW
 have hlt:∀p∈before,p.block<W.heap.size:=fun p hp=>hW.lt p hp
 obtain⟨p,q,hA,hV,hpq,hz,hn⟩:=hW
 have hq:q= []:=by
  rw[hv] at hV
  exact(trodVars_none hV).2
 subst hq
 have hpq':before=p:=by rw[hpq];simp
 subst hpq'
 have hT:∀t∈f.params.toList,(P.readableRec t && decide (t<P.types.size))=true:=List.all_eq_true.1 hp
 have hargs:∀sp:Nat→Bool,(∀x∈before,sp x.block=true)→DataW.TrodAll enc P W' 0 sp true f.params.toList args.toList (s.fn H (ds++gs)).args before:=fun sp hsp=>by
  rw[h2];exact KF hl hb hT hA hlt hsp
 have hres:∀(b:Nat) (sp:Nat→Bool) (hd:Bool),DataW.TrodAll enc P W' b sp hd f.resultTypes.toList ((Value.bool true).resultList f.resultTypes.size) (s.fn H (ds++gs)).results []:=fun b sp hd=>by
  rw[h1,hr];exact trodAll_mk1 (shut_bool ht true)
 have hvars:∀sp:Nat→Bool,DataW.TrodVars enc P W' sp s.vars (s.fn H (ds++gs)).vars []:=fun sp=>by
  rw[h3,hv];exact rfl
 have hold:∀x∈before,(fun b=>decide (b<W.heap.size)) x.block=true:=fun x hx=>by simpa using hlt x hx
 refine⟨ds,gs,before,[],before,[],hW',hres _ _ _,hargs _ hold,hvars _,World.keptBut_mono (fun x hx=>⟨hx,by simpa using hx⟩) (hb.frame (·∈before)),fun _=>?_⟩
 refine⟨ok_one hr rfl (okWide_bool_mk ht true),_,_,([]++before)++ [],⟨[]++before,[],trodAll_append (hargs _ (fun _ _=>rfl)) (hres _ _ _),hvars _,rfl,?_,?_⟩,?_⟩
 ·intro b off hx
  have hin:MemPlace.cell b off∈before:=by simpa using hx
  rw[hb.frozen (hlt _ hin)]
  exact hz b off hin
 ·intro ha
  simpa using hn ha
 ·intro x hx _
  simpa using hx
end
end Go.Sl
namespace Go.Sl
def lE (b:UInt8):Value:=.int .u8 b.toNat
def AR (s:ByteArray):List Value:=s.data.toList.map lE
section
variable {P:Program} {H:Hp}
theorem Fg {e:TypeId} {s:ByteArray} {q:Value→Hp→Prop} (hk:∀r N,H r=none→s.size≤N→q (.slice (some ⟨r,0,none⟩) s.size N) (hupd H r (.cells (AR s++List.replicate (N - s.size) (.int .u8 0)) e true))):(Conv.stringToBytes e s).ev P H q:=by
 unfold Conv.stringToBytes
 simp only[aJ,choose,Sem.ev]
 rw[if_neg (by simp[Question.forced])]
 intro t
 simp only[Question.cut]
 generalize hN:s.size+0+t % (2 ^ 63 - (s.size+0))=N
 have hle:s.size≤N:=by omega
 simp only[newRow,aJ]
 intro r hr
 refine⟨rfl,?_⟩
 simp only[markStringish,shape,freeze,aJ,Sem.ev]
 have hcells:(Array.map (fun b=>Value.int IntKind.u8 (b.toNat:Int)) s.data++Array.replicate (N - s.size) (Value.int IntKind.u8 0)).toList= []++AR s++List.replicate (N - s.size) (Value.int IntKind.u8 0):=by simp[AR,lE]
 rw[hcells]
 have hrow:Amf H (hupd H r (.cells ([]++AR s++List.replicate (N - s.size) (Value.int IntKind.u8 0)) e true)) (.slice (some ⟨r,0,none⟩) s.size N) e 1 s.size (AR s):=
  ⟨by simp[AR],.inr ⟨r,[],_,N,rfl,hr,rfl,hle,by simp⟩⟩
 show match (hupd H r (sP.cells ([]++AR s++List.replicate (N - s.size) (Value.int IntKind.u8 0)) e true)) r with
  |some (sP.cells cs e rw)=>_
  |some (sP.obj o)=>_
  |none=>False
 rw[j7]
 simp only[Nat.one_ne_zero,if_false]
 exact⟨_,_,rfl,Nat.le_refl _,hk r N hr hle⟩
theorem Pf {f:Value→ByteArray→Sem (ForInStep ByteArray)} (hf:∀b s,(f (lE b) s).rd P H=some (.yield (s.push b))):∀(l:List UInt8) (acc:ByteArray),(forIn (l.map lE) acc f).rd P H=some ⟨acc.data++l.toArray⟩:=by
 intro l
 induction l with
 |nil=>intro acc;simp;rfl
 |cons b l ih=>
  intro acc
  simp only[List.map_cons,List.forIn_cons]
  rw[fR,hf,Option.bind_some]
  simp only
  rw[ih (acc.push b)]
  simp[ByteArray.push]
end
def HW (P:Program) (t:TypeId):Option TypeId:=match P.underlying t with
 |some (.slice e)=>match P.underlying e with
  |some (.int .u8)=>some e
  |_=>none
 |_=>none
theorem FW {P:Program} {t e:TypeId} (h:HW P t=some e):P.underlying t=some (.slice e)∧P.underlying e=some (.int .u8):=by
 unfold HW at h
 split at h
 ·rename_i e' hu
  split at h
  ·rename_i hue;cases h;exact⟨hu,hue⟩
  ·cases h
 ·cases h
section
variable {P:Program} {a:Fr} {d:Option Tmp} {t t' ty:TypeId} {pos:String} {after:Array Edge} {g:Option (Nat×Bool)} {x:Operand} {H:Hp} {k:Value→Hp→Prop}
theorem NQ {e:TypeId} {s:ByteArray} (hs:nO P t=true) (ht:HW P t'=some e) (hx:bJ a x=.string s) (hk:∀r N,H r=none→s.size≤N→k (.slice (some ⟨r,0,none⟩) s.size N) (hupd H r (.cells (AR s++List.replicate (N - s.size) (.int .u8 0)) e true))):
  lJ P ⟨d,.convert t t' x,ty,pos,after,g⟩ a H k:=by
 obtain⟨h1,h2⟩:=FW ht
 refine fK ?_
 simp only[execOp,hx,convert,aJ]
 rw[aP (aL (lK hs)),aP (aL h1)]
 simp only[aJ]
 rw[aP (aL h2)]
 exact Fg hk
end
section
variable {P:Program} {ops:Array Oper} {Q:Fr→Hp→Prop} {a:Fr} {H:Hp} {i c:Nat} {rest:List Oper} {l:List (Nat×Nat)} {hist:List Hp} {d':Nat} {d:Option Tmp}
variable {ty:TypeId} {pos:String} {after:Array Edge} {g:Option (Nat×Bool)} {t yt:TypeId} {x y z:Operand}
theorem Ajc {k k':IntKind} {m n:Int} {Amo:Array Operand} {ts:Array TypeId} (hargs:Amo.toList.map (bJ a)= [.int k m,.int k' n]):b6 P ⟨d,.call { callee:=.builtin .min,args:=Amo,argTypes:=ts },ty,pos,after,g⟩ a=some (.int k (if n<m then n else m)):=by
 refine cA ?_
 have h1:Amo.map (bJ a)=#[.int k m,.int k' n]:=by apply Array.ext';simpa using hargs
 simp only[execOp,resolve,h1,aU,pure,Sem.pr,Option.bind_some,invoke,builtin,Builtin.min_,List.foldlM,Builtin.min2]
theorem Akl {k k':IntKind} {m n:Int} {Amo:Array Operand} {ts:Array TypeId} (hargs:Amo.toList.map (bJ a)= [.int k m,.int k' n]):b6 P ⟨d,.call { callee:=.builtin .max,args:=Amo,argTypes:=ts },ty,pos,after,g⟩ a=some (.int k (if n > m then n else m)):=by
 refine cA ?_
 have h1:Amo.map (bJ a)=#[.int k m,.int k' n]:=by apply Array.ext';simpa using hargs
 simp only[execOp,resolve,h1,aU,pure,Sem.pr,Option.bind_some,invoke,builtin,Builtin.max_,List.foldlM,Builtin.max2]
theorem Ag1 {u b:Int} (h0:0≤u) (h1:u<18014398509481984) (h2:0≤b) (h3:b<256):
  IntKind.wrap .i64 ((BitVec.ofInt 64 (u * 256) ||| BitVec.ofInt 64 b).toNat:Int)=u * 256+b:=by
 obtain⟨u,rfl⟩:=Int.eq_ofNat_of_zero_le h0
 obtain⟨b,rfl⟩:=Int.eq_ofNat_of_zero_le h2
 have e:(BitVec.ofInt 64 ((u:Int) * 256) ||| BitVec.ofInt 64 (b:Int)).toNat=u * 256+b:=by
  rw[BitVec.toNat_or]
  have h1':u * 256<2 ^ 64:=by omega
  have h2':b<2 ^ 64:=by omega
  have e1:(BitVec.ofInt 64 ((u:Int) * 256)).toNat=u * 256:=by
   rw[BitVec.toNat_ofInt]
   omega
  have e2:(BitVec.ofInt 64 (b:Int)).toNat=b:=by
   rw[BitVec.toNat_ofInt]
   omega
  rw[e1,e2]
  have:=Nat.shiftLeft_add_eq_or_of_lt (b:=b) (i:=8) (by omega) u
  rw[Nat.shiftLeft_eq] at this
  exact this.symm
 rw[e,uV] <;> omega
section
variable {P:Program} {ops:Array Oper} {Q:Fr→Hp→Prop} {a:Fr} {H:Hp} {i c:Nat} {rest:List Oper} {l:List (Nat×Nat)} {hist:List Hp} {d':Nat} {d:Option Tmp}
variable {ty:TypeId} {pos:String} {after:Array Edge} {g:Option (Nat×Bool)} {t yt:TypeId} {x y z:Operand}
theorem Xl {t':TypeId} {k':IntKind} {n:Int} (hs:(P.underlying t).isSome=true) (ht:OZ P t'=some .i64) (hx:bJ a x=.int k' n) (h0:-9223372036854775808≤n) (h1:n≤9223372036854775807):b6 P ⟨d,.convert t t' x,ty,pos,after,g⟩ a=some (.int .i64 n):=by
 have:=MR (P:=P) (d:=d) (ty:=ty) (pos:=pos) (after:=after) (g:=g) hs ht hx
 rw[uV h0 h1] at this;exact this
theorem Aei {yk:IntKind} {u:Int} (hx:bJ a x=.int .i64 u) (hy:bJ a y=.int yk 8) (h0:0≤u) (h1:u<18014398509481984):b6 P ⟨d,.binOp .shl t x y yt,ty,pos,after,g⟩ a=some (.int .i64 (u * 256)):=by
 have:=Zw (P:=P) (d:=d) (t:=t) (yt:=yt) (ty:=ty) (pos:=pos) (after:=after) (g:=g) hx hy (by omega)
 rw[this]
 have e:u * 2 ^ (min (8:Int).toNat (IntKind.bits .i64))=u * 256:=by simp[IntKind.bits]
 rw[e,uV] <;> omega
theorem Akh {u b:Int} (hx:bJ a x=.int .i64 (u * 256)) (hy:bJ a y=.int .i64 b) (h0:0≤u) (h1:u<18014398509481984) (h2:0≤b) (h3:b<256):b6 P ⟨d,.binOp .or t x y yt,ty,pos,after,g⟩ a=some (.int .i64 (u * 256+b)):=by
 have:=CY (P:=P) (d:=d) (t:=t) (yt:=yt) (ty:=ty) (pos:=pos) (after:=after) (g:=g) (op:=.or) hx hy rfl rfl
 rw[this]
 show some (Value.int .i64 (IntKind.wrap .i64 _))=_
 have e:=Ag1 h0 h1 h2 h3
 exact congrArg (fun z=>some (Value.int .i64 z)) e
def vK:Code→List Code
 |.seq x y=>vK x++vK y
 |.cond _ x y=>vK x++vK y
 |.block _ c=>vK c
 |.scope c=>vK c
 |.loop c=>.loop c::vK c
 |_=> []
def R9 (f:Func) (k:Nat):Code:=match f.body with
 |some c=>(vK c).getD k .skip
 |none=>.skip
end
end
end Go.Sl
end
