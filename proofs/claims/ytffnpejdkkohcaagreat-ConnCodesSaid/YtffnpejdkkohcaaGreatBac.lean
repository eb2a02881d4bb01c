/- A part of the proof: lemmas; each with the conditions that it states. -/
import Derived.Laws.StructEq
import Derived.ProofKit
import Derived.Below
import Derived.ChangeSame
import Derived.Carry
import Derived.Test.YtffnpejdkkohcaaGreatBab
set_option linter.unusedVariables false
set_option linter.unusedSimpArgs false
section
namespace Go.Sl
variable {a:Fr} {P:Program} {t ty yt e:TypeId} {v:Value} {d:Option Tmp} {pos:String} {after:Array Edge} {g:Option (Nat×Bool)} {y z:Operand} {ps:Array (Nat×Operand)} {vs:List (Nat×Value)} {n off:Nat} {k:IntKind} {b:Bool} {xs ys:Array Value}
def MF (P:Program) (t:TypeId) (i:Nat):Option (Nat×Nat):=match P.underlying t with
 |some (.struct fs)=>match fs[i]? with
  |some f=>match P.info? f.type with
   |some inf=>some (f.offset,inf.size)
   |none=>none
  |none=>none
 |some (.array _ e)=>match P.info? e with
  |some inf=>some (i * inf.size,inf.size)
  |none=>none
 |_=>none
def N5 (P:Program) (t:TypeId):Bool:=match P.underlying t with
 |some (.struct fs)=>fs.toList.all fun f=>(P.info? f.type).isSome
 |some (.array _ e)=>(P.info? e).isSome
 |_=>false
def PQ (place:Nat->Option (Nat×Nat)):List Value->List (Nat×Value)->Option (List Value)
 |cs,[]=>some cs
 |cs,(i,v)::rest=>match place i with
  |none=>none
  |some (off,sz)=>if v.cells.toList.length=sz/\off+sz<=cs.length then match mU (uK cs off v.cells.toList) with
   |some cs'=>PQ place cs' rest
   |none=>none
  else none
theorem Qw:∀(l:List Value) (k off:Nat) (cs:Array Value),((l.zipIdx k).foldl (fun cs (c,j)=>cs.setIfInBounds (off+j) c) cs)=(mE cs.toList (off+k) l).toArray:=by
 intro l
 induction l with
 |nil=>intro k off cs;simp[mE]
 |cons v l ih=>
  intro k off cs
  simp only[List.zipIdx_cons,List.foldl_cons,mE]
  rw[ih]
  congr 1
  simp[Nat.add_assoc]
theorem CU {p' p:Nat->Option (Nat×Nat)} (hp:∀i x,p' i=some x->p i=some x):∀(parts:List (Nat×Value)) (cs r:List Value),PQ p' cs parts=some r->Instr.fill p cs.toArray parts=some r.toArray:=by
 intro parts
 induction parts with
 |nil=>intro cs r h;cases h;rfl
 |cons x parts ih=>
  obtain⟨i,v⟩:=x
  intro cs r h
  simp only[PQ] at h
  split at h
  ·cases h
  ·rename_i off sz hi
   split at h
   ·rename_i hc
    simp only[Instr.fill,hp i _ hi]
    have h1:v.cells.size=sz:=by simpa using hc.1
    have h2:¬(off+v.cells.size > cs.toArray.size):=by simp;omega
    rw[if_neg (by simp[h1];omega)]
    have:(v.cells.zipIdx.foldl (fun cs (c,j)=>cs.setIfInBounds (off+j) c) cs.toArray)=(mE cs off v.cells.toList).toArray:=by
     rw[<- Array.foldl_toList,Array.toList_zipIdx]
     exact Qw v.cells.toList 0 off cs.toArray
    rw[this]
    split at h
    ·rename_i cs' hcs'
     rw[<- Gf,k6 hcs']
     exact ih _ _ h
    ·cases h
   ·cases h
def Cz (a:Fr):List (Nat×Operand)->Option (List (Nat×Value))
 | []=>some []
 |(i,x)::xs=>match iG (bJ a x),Cz a xs with
  |some v,some vs=>some ((i,v)::vs)
  |_,_=>none
theorem KT:∀ {xs:List (Nat×Operand)} {vs:List (Nat×Value)},Cz a xs=some vs->xs.map (fun(i,x)=>(i,bJ a x))=vs:=by
 intro xs
 induction xs with
 |nil=>intro vs h;cases h;rfl
 |cons x xs ih=>
  obtain⟨i,x⟩:=x
  intro vs h
  simp only[Cz] at h
  split at h
  ·rename_i v vs' h1 h2;cases h;rw[List.map_cons,ih h2,<- f5 h1]
  ·cases h
def M5 (P:Program) (t:TypeId) (parts:List (Nat×Value)):Option Value:=
 if N5 P t=true then match Ak P t with
  |some zs=>match PQ (MF P t) zs parts with
   |some cs=>match mU cs with
    |some cs=>some (.agg cs.toArray)
    |none=>none
   |none=>none
  |none=>none
 else none
theorem Mp {α β:Type} {f:α->Sem β} {g:α->β} {l:List α} (h:∀x∈l,(f x).pr P=some (g x)):(l.mapM f).pr P=some (l.map g):=by
 induction l with
 |nil=>rfl
 |cons x l ih=>
  rw[List.mapM_cons,aU,h x (by simp),Option.bind_some,aU,ih (fun y hy=>h y (by simp[hy]))]
  rfl
theorem G5 {zs:List Value} (h:Ak P t=some zs):∃z,(zeroValue t).pr P=some z/\z.cells.toList=zs:=by
 unfold Ak at h
 split at h
 ·rename_i i hi
  split at h
  ·rename_i z hz
   exact⟨z,by simp only[zeroValue,aU,d3 hi,Option.bind_some,hz];rfl,by simpa using h⟩
  ·cases h
 ·cases h
theorem Abr {parts:Array (Nat×Value)} (h:M5 P t parts.toList=some v):(Instr.build t parts).pr P=some v:=by
 unfold M5 at h
 split at h
 ·rename_i hok
  split at h
  ·rename_i zs hzs
   split at h
   ·rename_i cs hfill
    split at h
    ·rename_i cs' hcs
     cases h
     obtain⟨z,hz,hzl⟩:=G5 hzs
     have hcs':=k6 hcs
     subst hcs'
     unfold Instr.build
     rw[aU,hz,Option.bind_some]
     unfold N5 at hok
     have hza:z.cells=zs.toArray:=by rw[<- hzl]
     split at hok
     ·rename_i fs hu
      rw[aU,aK hu,Option.bind_some]
      simp only
      have hm:(fs.mapM fun f=>(do pure (f.offset,<- sizeOf f.type):Sem (Nat×Nat))).pr P=some (fs.toList.map fun f=>(f.offset,((P.info? f.type).map (·.size)).getD 0)).toArray:=by
       rw[Array.mapM_eq_mapM_toList,map_eq_pure_bind,aU,Mp (g:=fun f=>(f.offset,((P.info? f.type).map (·.size)).getD 0))]
       ·rfl
       ·intro f hf
        have:=List.all_eq_true.1 hok f hf
        cases hi:P.info? f.type with
        |none=>rw[hi] at this;cases this
        |some i=>simp only[aU,fC hi,Option.bind_some];rfl
      rw[aU,hm,Option.bind_some]
      have:=CU (p:=fun i=>((fs.toList.map fun f=>(f.offset,((P.info? f.type).map (·.size)).getD 0)).toArray)[i]?) (fun i x hx=>by
       simp only[MF,hu] at hx
       split at hx
       ·rename_i f hf
        split at hx
        ·rename_i inf hinf;cases hx;simp[hf,hinf]
        ·cases hx
       ·cases hx) _ _ _ hfill
      rw[hza,this]
      rfl
     ·rename_i n e hu
      rw[aU,aK hu,Option.bind_some]
      simp only
      have hpl:∀i,MF P t i=match P.info? e with|some inf=>some (i * inf.size,inf.size)|none=>none:=fun i=>by simp only[MF,hu]
      cases hi:P.info? e with
      |none=>rw[hi] at hok;cases hok
      |some inf=>
       rw[aU,fC hi,Option.bind_some]
       have:=CU (p:=fun i=>some (i * inf.size,inf.size)) (fun i x hx=>by rw[hpl,hi] at hx;exact hx) _ _ _ hfill
       rw[hza,this]
       rfl
     ·cases hok
    ·cases h
   ·cases h
  ·cases h
 ·cases h
section
variable {x:Operand}
theorem Z4 (hps:Cz a ps.toList=some vs) (hv:M5 P t vs=some v):cA P ⟨d,.build t ps,ty,pos,after,g⟩ a=some v:=by
 refine cD ?_
 have e:(ps.map fun(i,x)=>(i,bJ a x)).toList=vs:=by rw[Array.toList_map];exact KT hps
 simp only[execOp,aU]
 rw[Abr (v:=v) (by rw[e];exact hv)]
 rfl
def xY (P:Program) (t:TypeId):Option TypeId:=match P.underlying t with
 |some (.slice e)=>some e
 |_=>none
theorem D8 (h:xY P t=some e):P.underlying t=some (.slice e):=by
 unfold xY at h;split at h
 ·cases h;assumption
 ·cases h
def MQ (P:Program) (t:TypeId) (n:Nat) (parts:List (Nat×Value)):Option (List Value):=match xY P t with
 |some e=>match mJ P e,Ak P e with
  |some sz,some zs=>if n * sz<=16777216/\n * sz≠0 then match PQ (fun i=>some (i * sz,sz)) ((List.range (n * sz)).map fun i=>(zs[i % zs.length]?).getD default) parts with
    |some cs=>mU cs
    |none=>none
   else none
  |_,_=>none
 |none=>none
theorem Ji {cs:List Value} {H:Hp} {k:Value->Hp->Prop} (hps:Cz a ps.toList=some vs) (he:xY P t=some e) (hc:MQ P t n vs=some cs)
  (hk:∀r,H r=none->k (.slice (some ⟨r,0,none⟩) n n) (hupd H r (.cells cs e true))):lD P ⟨d,.buildSlice t n ps,ty,pos,after,g⟩ a H k:=by
 have hu:=D8 he
 have epar:(ps.map fun(i,x)=>(i,bJ a x)).toList=vs:=by rw[Array.toList_map];exact KT hps
 unfold MQ at hc
 rw[he] at hc
 simp only at hc
 split at hc
 ·rename_i sz zs hsz hzs
  split at hc
  ·rename_i hle
   split at hc
   ·rename_i cs' hfill
    have hcs:=k6 hc
    subst hcs
    obtain⟨inf,hi,rfl⟩:=oB hsz
    obtain⟨z,hz,hzl⟩:=G5 hzs
    refine fI ?_
    simp only[execOp,Instr.buildSlice,aI]
    rw[aN (aK hu)]
    simp only[aI]
    rw[aN (fC hi),if_neg (by have:=hle.1;omega)]
    rw[if_neg hle.2]
    simp only[aI]
    rw[aN hz]
    have hb:((Array.range (n * inf.size)).map fun i=>z.cells[i % z.cells.size]!)=((List.range (n * inf.size)).map fun i=>(zs[i % zs.length]?).getD default).toArray:=by
     apply Array.ext'
     rw[Array.toList_map,Array.toList_range,<- hzl]
     apply List.map_congr_left
     intro i _
     simp[getElem!_def,Array.getElem?_toList]
     rfl
    have hf:=CU (p:=fun i=>some (i * inf.size,inf.size)) (fun _ _ h=>h) _ _ _ hfill
    rw[aN (show(pure z.cells:Sem (Array Value)).pr P=some z.cells from rfl),hb]
    rw[show(Array.map (fun x=>(x.1,bJ a x.2)) ps).toList=vs from epar,hf]
    simp only[aI,newRow]
    intro r hr
    exact⟨rfl,hk r hr⟩
   ·cases hc
  ·cases hc
 ·cases hc
def Aij (P:Program) (t:TypeId):Option (Nat×Nat):=match P.underlying t with
 |some (.array n e)=>match P.info? e with
  |some i=>some (n,i.size)
  |none=>none
 |_=>none
theorem Wi {B sz:Nat} {j:Int} (ht:Aij P t=some (n,sz)) (hx:bJ a x=.pointer (some ⟨B,off,none⟩)) (hy:bJ a y=.int k j) (h0:0<=j) (h1:j<n):
  cA P ⟨d,.indexAddr t x y,ty,pos,after,g⟩ a=some (.pointer (some ⟨B,off+j.toNat * sz,none⟩)):=by
 refine cD ?_
 unfold Aij at ht
 split at ht
 ·rename_i m e hu
  split at ht
  ·rename_i i hi
   cases ht
   simp only[execOp,hx,hy,Instr.indexAt,aU,asIntOf,pure,Sem.pr,Option.bind_some,aK hu,Instr.sureAddr,h0,h1,and_self,if_true,fC hi,nO]
  ·cases ht
 ·cases ht
def NY (P:Program) (t:TypeId):Option IntKind:=match P.underlying t with
 |some (.int k)=>some k
 |_=>none
theorem LS {t':TypeId} {k':IntKind} {n:Int} (hs:(P.underlying t).isSome=true) (ht:NY P t'=some k) (hx:bJ a x=.int k' n):
  cA P ⟨d,.convert t t' x,ty,pos,after,g⟩ a=some (.int k (k.wrap n)):=by
 refine cD ?_
 unfold NY at ht
 split at ht
 ·rename_i k0 hu
  cases ht
  cases hs':P.underlying t with
  |none=>rw[hs'] at hs;cases hs
  |some D=>
   simp only[execOp,hx,convert,aU,aK hs',aK hu,Option.bind_some]
   cases D <;> rfl
 ·cases ht
def yS (P:Program) (t:TypeId) (cs:List Value) (off:Nat):Option Value:=match CG P t with
 |some true=>match P.info? t with
  |some i=>match mU ((cs.drop off).take i.size) with
   |some vs=>some (.agg vs.toArray)
   |none=>none
  |none=>none
 |some false=>cs[off]?
 |none=>none
def Aji:Option Bool->Option Bool->Option Bool
 |some b,some r=>some (b && r)
 |_,_=>none
def VA (eq:TypeId->Value->Value->Option Bool) (P:Program) (xs ys:List Value):List Field->Option Bool
 | []=>some true
 | [f]=>match yS P f.type xs f.offset,yS P f.type ys f.offset with
  |some u,some w=>eq f.type u w
  |_,_=>none
 |f::fs=>match yS P f.type xs f.offset,yS P f.type ys f.offset with
  |some u,some w=>Aji (eq f.type u w) (VA eq P xs ys fs)
  |_,_=>none
def Cp (P:Program):Nat->TypeId->Bool
 |0,_=>false
 |n+1,t=>match P.underlying t with
  |some .bool=>true
  |some (.int _)=>true
  |some .string=>true
  |some (.struct fs)=>!P.stoodInHeld t && fs.toList.all fun f=>f.name != "_" && Cp P n f.type
  |_=>false
def eqV (P:Program):Nat->TypeId->Value->Value->Option Bool
 |0,_,_,_=>none
 |n+1,t,u,w=>match P.underlying t with
  |some .bool=>match u,w with
   |.bool b,.bool b'=>some (b == b')
   |_,_=>none
  |some (.int _)=>match u,w with
   |.int k m,.int k' m'=>if k=k' then some (m == m') else none
   |_,_=>none
  |some .string=>match u,w with
   |.string b,.string b'=>some (b.toList == b'.toList)
   |_,_=>none
  |some (.struct fs)=>match u,w with
   |.agg xs,.agg ys=>VA (eqV P n) P xs.toList ys.toList fs.toList
   |_,_=>none
  |_=>none
theorem N7 (h:CG P t=some b):(isAgg t).pr P=some b:=by
 unfold CG at h
 unfold isAgg
 split at h
 ·rename_i fs hu;rw[aU,aK hu];exact h
 ·rename_i n e hu;rw[aU,aK hu];exact h
 ·rename_i d h1 h2 hu
  rw[aU,aK hu,Option.bind_some]
  split
  ·exact(h1 _ rfl).elim
  ·exact(h2 _ _ rfl).elim
  ·exact h
 ·cases h
theorem Gg {cs:Array Value} (h:yS P t cs.toList off=some v):(part t cs off).pr P=some v:=by
 unfold yS at h
 unfold part
 split at h
 ·rename_i hag
  split at h
  ·rename_i i hi
   split at h
   ·rename_i vs hvs
    cases h
    rw[aU,N7 hag,Option.bind_some]
    simp only[if_true]
    rw[aU,fC hi,Option.bind_some]
    have:cs.extract off (off+i.size)=vs.toArray:=by
     rw[<- k6 hvs]
     apply Array.ext'
     simp
    rw[this];rfl
   ·cases h
  ·cases h
 ·rename_i hag
  rw[aU,N7 hag,Option.bind_some]
  simp only[Bool.false_eq_true,if_false]
  rw[Array.getElem?_toList] at h
  rw[h];rfl
 ·cases h
theorem UZ {x y:Option Bool} (h:Aji x y=some b):∃c r,x=some c/\y=some r/\b=(c && r):=by
 unfold Aji at h
 split at h
 ·exact⟨_,_,rfl,rfl,by cases h;rfl⟩
 ·cases h
theorem Wc {eq:TypeId->Value->Value->Option Bool} {xs ys:List Value} {f:Field} {fs:List Field} (h:VA eq P xs ys (f::fs)=some b):
  ∃u w c r,yS P f.type xs f.offset=some u/\yS P f.type ys f.offset=some w/\eq f.type u w=some c/\VA eq P xs ys fs=some r/\b=(c && r):=by
 cases fs with
 |nil=>
  simp only[VA] at h
  split at h
  ·rename_i u w hu hw;exact⟨u,w,b,true,hu,hw,h,rfl,by simp⟩
  ·cases h
 |cons f' fs'=>
  simp only[VA] at h
  split at h
  ·rename_i u w hu hw
   obtain⟨c,r,h1,h2,h3⟩:=UZ h
   exact⟨u,w,c,r,hu,hw,h1,h2,h3⟩
  ·cases h
theorem GX:∀(n m:Nat) (t:TypeId) (u w:Value) (b:Bool),n<=m->Cp P n t=true->eqV P n t u w=some b->(Op.equalIn m t u w).pr P=some b:=by
 intro n
 induction n with
 |zero=>intro m t u w b _ _ h;cases h
 |succ n ih=>
  intro m t u w b hm hfree h
  obtain⟨m,rfl⟩:∃m',m=m'+1:=⟨m - 1,by omega⟩
  unfold Op.equalIn
  simp only[eqV] at h
  split at h
  ·rename_i hu
   rw[aU,aK hu,Option.bind_some]
   split at h
   ·exact h
   ·cases h
  ·rename_i k hu
   rw[aU,aK hu,Option.bind_some]
   split at h
   ·split at h
    ·rename_i hk;subst hk;simp only[if_true];exact h
    ·cases h
   ·cases h
  ·rename_i hu
   rw[aU,aK hu,Option.bind_some]
   split at h
   ·rename_i x y
    have:(x == y)=(x.toList == y.toList):=beq_toListBytes x y
    simp only[this]
    exact h
   ·cases h
  ·rename_i fs hu
   rw[aU,aK hu,Option.bind_some]
   simp only[Cp,hu,Bool.and_eq_true,Bool.not_eq_true'] at hfree
   obtain⟨hst,hall⟩:=hfree
   split at h
   ·rename_i xs ys
    simp only
    rw[aU,show program.pr P=some P from rfl,Option.bind_some,hst]
    simp only[Bool.false_eq_true,if_false]
    rw[<- Array.forIn_toList]
    generalize fs.toList=l at h hall
    clear hu
    induction l generalizing b with
    |nil=>cases h;rfl
    |cons f l ihl=>
     simp only[List.forIn_cons]
     obtain⟨p,q,c,r,hp,hq,hc,hr,rfl⟩:=Wc h
     simp only[List.all_cons,Bool.and_eq_true] at hall
     obtain⟨⟨hn,hf⟩,hall⟩:=hall
     have key:=ih m f.type p q c (by omega) hf hc
     rw[if_pos (by simpa using hn)]
     have ihl':=ihl r hr hall
     simp only[aU] at ihl'
     simp only[aU,Gg hp,Gg hq,key,Option.bind_some]
     cases c with
     |false=>rfl
     |true=>exact ihl'
   ·cases h
  ·cases h
theorem Af {op:BinOp} (h:P.eqGuardType P.depth t=false):(eqGuard op t x y (.agg xs) (.agg ys)).pr P=some ():=by
 unfold eqGuard
 cases op <;> first|rfl|(show Sem.pr P (if(!true)=true then _ else _)=_;rw[if_neg (by simp)];simp only[aU,show program.pr P=some P from rfl,Option.bind_some,h];rfl)
theorem Q8 (hx:bJ a x=.agg xs) (hy:bJ a y=.agg ys) (hg:(!P.eqGuardType P.depth t && Cp P 20 t)=true) (he:eqV P 20 t (.agg xs) (.agg ys)=some b):
  cA P ⟨d,.binOp .eql t x y yt,ty,pos,after,g⟩ a=some (.bool b):=by
 refine cD ?_
 have h1:(binOp .eql t (.agg xs) (.agg ys)).pr P=some (.bool b):=by
  simp only[binOp,aU]
  rw[show(Op.equal t (.agg xs) (.agg ys)).pr P=some b from GX 20 _ t _ _ b (by unfold Op.maxDepth;omega) (by simp only[Bool.and_eq_true] at hg;exact hg.2) he]
  rfl
 simp only[execOp,hx,hy,aU]
 rw[Af (by simp only[Bool.and_eq_true,Bool.not_eq_true'] at hg;exact hg.1),Option.bind_some,h1]
 rfl
theorem Su (hx:bJ a x=.agg xs) (hy:bJ a y=.agg ys) (hg:(!P.eqGuardType P.depth t && Cp P 20 t)=true) (he:eqV P 20 t (.agg xs) (.agg ys)=some b):
  cA P ⟨d,.binOp .neq t x y yt,ty,pos,after,g⟩ a=some (.bool (!b)):=by
 refine cD ?_
 have h1:(binOp .neq t (.agg xs) (.agg ys)).pr P=some (.bool (!b)):=by
  simp only[binOp,aU]
  rw[show(Op.equal t (.agg xs) (.agg ys)).pr P=some b from GX 20 _ t _ _ b (by unfold Op.maxDepth;omega) (by simp only[Bool.and_eq_true] at hg;exact hg.2) he]
  rfl
 simp only[execOp,hx,hy,aU]
 rw[Af (by simp only[Bool.and_eq_true,Bool.not_eq_true'] at hg;exact hg.1),Option.bind_some,h1]
 rfl
end
end Go.Sl
namespace Go.Sl
variable {cap sz n:Nat} {P:Program} {H H0 Hr:Hp} {e ty:TypeId} {a:Fr} {d:Option Tmp} {pos:String} {after:Array Edge} {g:Option (Nat×Bool)} {x y:Operand} {k:Value->Hp->Prop}
theorem E5:∀(news A B:List Value),news.length<=B.length->mE (A++B) A.length news=A++news++B.drop news.length:=by
 intro news
 induction news with
 |nil=>intro A B _;simp[mE]
 |cons v news ih=>
  intro A B hle
  cases B with
  |nil=>simp at hle
  |cons b B=>
   simp only[mE]
   have:(A++b::B).set A.length v=(A++ [v])++B:=by simp
   rw[this]
   have:=ih (A++ [v]) B (by simpa using hle)
   simp only[List.length_append,List.length_cons,List.length_nil] at this
   rw[this]
   simp
theorem WL (N:Nat):∀(k c:Nat),c<=2 * N+192->Builtin.growBy N k c<=2 * N+192:=by
 intro k
 induction k with
 |zero=>exact fun c h=>h
 |succ k ih=>
  intro c h
  unfold Builtin.growBy
  split
  ·exact h
  ·exact ih _ (by omega)
theorem Hg {need:Nat} (h:cap<need):Builtin.nextslicecap need cap<=2 * need+512:=by
 unfold Builtin.nextslicecap
 split
 ·omega
 ·split
  ·omega
  ·have:=WL need 4 cap (by omega);omega
theorem mZ {off B:Nat} {cs:List Value} {rw:Bool} {m:Nat} (hb:H B=some (.cells cs e rw)) (hle:off+m * sz<=cs.length):
  (Builtin.firstCells sz m (.slice (some ⟨B,off,none⟩) n cap)).rd P H=some ((cs.drop off).take (m * sz)).toArray:=by
 simp only[Builtin.firstCells,loadCells]
 rw[xW hb off (m * sz) 0 #[] (by omega)]
 simp
theorem rU {α:Type} {s:Sem α} {v:α} {q:α->Hp->Prop} (h:s.rd P H=some v) (hq:q v H):s.ev P H q:=Ahe P s v q h hq
theorem CE {q:Unit->Hp->Prop} (hq:q () H):(askRoom n).ev P H q:=by
 unfold askRoom
 split
 ·exact hq
 ·exact hq
def Be (P:Program) (t:TypeId):Bool:=match P.underlying t with
 |some (.int _)=>false
 |some _=>true
 |none=>false
theorem C8 {t:TypeId} (h:Be P t=true):∃D,P.underlying t=some D/\∀k,D≠.int k:=by
 unfold Be at h
 split at h
 ·cases h
 ·rename_i D hne hD;exact⟨D,hD,fun k hk=>hne k hk⟩
 ·cases h
def Pp (H0 H:Hp) (s:Value) (e:TypeId) (sz n:Nat) (xs:List Value):Prop:=
 xs.length=n * sz/\((s=.slice none 0 0/\n=0/\H=H0)\/
  ∃r pre post cap,s=.slice (some ⟨r,pre.length,none⟩) n cap/\H0 r=none/\H=hupd H0 r (.cells (pre++xs++post) e true)/\n<=cap/\post.length=(cap - n) * sz)
theorem Pp.nil (H0:Hp) (e:TypeId) (sz:Nat):Pp H0 H0 (.slice none 0 0) e sz 0 []:=⟨by simp,.inl ⟨rfl,rfl,rfl⟩⟩
theorem Pp.base {s:Value} {xs:List Value} (h:Pp H0 H s e sz n xs):xR H0 H:=by
 rcases h.2 with⟨_,_,h1⟩|⟨r,pre,post,cap,_,h1,h2,_⟩
 ·rw[h1];exact xR.refl _
 ·rw[h2];exact(xR.refl _).hupd_fresh h1
def OL (P:Program) (st xt:TypeId):Option (TypeId×Nat×Nat):=match P.underlying st with
 |some (.slice e)=>match P.info? e with
  |some i=>match i.zero with
   |some z=>if z.cells.size=i.size/\i.bytes≠0/\Be P xt=true then some (e,i.size,i.bytes) else none
   |none=>none
  |none=>none
 |_=>none
def Ol (P:Program) (st xt:TypeId):Option (TypeId×Nat×Nat):=match OL P st xt with
 |some (e,sz,b)=>match yX sz with
  |some sz=>match yX b with
   |some b=>some (e,sz,b)
   |none=>none
  |none=>none
 |none=>none
theorem WV {st xt:TypeId} {b:Nat} (h:Ol P st xt=some (e,sz,b)):OL P st xt=some (e,sz,b):=by
 unfold Ol at h
 split at h
 ·rename_i e' sz' b' h0
  split at h
  ·rename_i sz2 h1
   split at h
   ·rename_i b2 h2
    cases h
    rw[h0,nL h1,nL h2]
   ·cases h
  ·cases h
 ·cases h
end Go.Sl
namespace Go.Sl
variable {P:Program} {ops:Array Oper} {Q:Fr->Hp->Prop} {a:Fr} {H:Hp} {i c d':Nat} {rest:List Oper} {l:List (Nat×Nat)} {hist:List Hp} {d:Option Tmp} {ty t yt:TypeId} {pos:String} {after:Array Edge} {g:Option (Nat×Bool)} {x y z:Operand} {m n:Int} {rs:List ResultVar} {v:Value} {vs:List Value}
theorem uT {z:Int} (h0:-9223372036854775808<=z) (h1:z<=9223372036854775807):IntKind.wrap .i64 z=z:=by
 simp[IntKind.wrap,IntKind.bits,IntKind.signed]
 split <;> omega
theorem Xz (hx:bJ a x=.int .i64 m) (hy:bJ a y=.int .i64 n) (h0:-9223372036854775808<=m+n) (h1:m+n<=9223372036854775807):cA P ⟨d,.binOp .add t x y yt,ty,pos,after,g⟩ a=some (.int .i64 (m+n)):=by
 have:=CI (P:=P) (d:=d) (t:=t) (yt:=yt) (ty:=ty) (pos:=pos) (after:=after) (g:=g) (op:=.add) hx hy rfl rfl
 rw[uT h0 h1] at this;exact this
theorem Abn (hx:bJ a x=.int .i64 m) (hy:bJ a y=.int .i64 n) (h0:-9223372036854775808<=m - n) (h1:m - n<=9223372036854775807):cA P ⟨d,.binOp .sub t x y yt,ty,pos,after,g⟩ a=some (.int .i64 (m - n)):=by
 have:=CI (P:=P) (d:=d) (t:=t) (yt:=yt) (ty:=ty) (pos:=pos) (after:=after) (g:=g) (op:=.sub) hx hy rfl rfl
 rw[uT h0 h1] at this;exact this
theorem Acs (hx:bJ a x=.int .i64 m) (hy:bJ a y=.int .i64 n) (h0:-9223372036854775808<=m * n) (h1:m * n<=9223372036854775807):cA P ⟨d,.binOp .mul t x y yt,ty,pos,after,g⟩ a=some (.int .i64 (m * n)):=by
 have:=CI (P:=P) (d:=d) (t:=t) (yt:=yt) (ty:=ty) (pos:=pos) (after:=after) (g:=g) (op:=.mul) hx hy rfl rfl
 rw[uT h0 h1] at this;exact this
theorem Ain {t:Tmp} (hx:iG (a t)=some v) (h:wV P a H rs=some vs):wV P a H (.tmp t::rs)=some (v::vs):=by
 simp only[wV,NG,h,f5 hx]
theorem Aec {p:Tmp} {B off:Nat} {cs:List Value} {e:TypeId} {rw:Bool} (hx:a p=.pointer (some ⟨B,off,none⟩)) (hb:H B=some (.cells cs e rw)) (hv:Nj P t cs off=some v) (h:wV P a H rs=some vs):
  wV P a H (.cell p t::rs)=some (v::vs):=by
 simp only[wV,NG,h,hx,M7 hb hv]
def cW (a:Fr):List (Nat×Value)->Prop
 | []=>True
 |(t,v)::l=>a t=v/\cW a l
def fF (a:Fr):List (Nat×Value)->Fr
 | []=>a
 |(t,v)::l=>kH (fF a l) t v
theorem Um:∀ {l:List (Nat×Value)},cW a l->fF a l=a:=by
 intro l
 induction l with
 |nil=>intro _;rfl
 |cons x l ih=>
  intro h
  obtain⟨h1,h2⟩:=h
  have:=ih h2
  show kH (fF a l) x.1 x.2=a
  rw[this]
  funext i
  unfold kH
  split
  ·rename_i e;subst e;exact h1.symm
  ·rfl
end Go.Sl
end
section
namespace Go.Sl
open Go.ChangeShapes Go.WideShapes Go.ChangeAt Go.RowKit
variable {P:Program} {args:Array Value} {H:Type}
theorem qG.below {f:FuncId} {r:Value} (h:qG P f args (fun _=>none) fun v _=>v=r) (W:World):
  Calls P f args W fun e W'=>e=.returned r/\Below W.heap.size W W':=by
 refine(h.run (fun i=>W.heap.size<=i) W ⟨(fun _ _ h=>by cases h),(fun _ _ h _=>by cases h),(fun _ h=>h)⟩).mono ?_
 rintro e W' ⟨v,H',rfl,rfl,ht⟩
 exact⟨rfl,ht.chg.os,ht.chg.tape,ht.chg.output,ht.chg.size,fun k hk=>ht.chg.kept k hk (by omega)⟩
section
variable {enc:TypeId×Value->H}
theorem J6 (hl:laidOutB P=true) {W W':World} (hb:Below W.heap.size W W') {sp:Nat->Bool}:∀ {ts:List TypeId} {vs:List Value} {ds:List (DataW H)} {ps:List MemPlace},
  (∀t∈ts,(P.readableRec t && decide (t<P.types.size))=true)->DataW.TrodAll enc P W 0 (fun _=>true) true ts vs ds ps->(∀p∈ps,p.block<W.heap.size)->(∀p∈ps,sp p.block=true)->DataW.TrodAll enc P W' 0 sp true ts vs ds ps
 | [],[],[],_,_,h,_,_=>h
 |t::ts,_::_,_::_,_,hT,⟨p,q,h1,h2,e⟩,hlt,hs=>by
  have ht:=hT t (List.mem_cons.2 (Or.inl rfl))
  simp only[Bool.and_eq_true,decide_eq_true_eq] at ht
  exact⟨p,q,WideElems.Trod_stays hl ht.1 ht.2 h1 (fun x hx=>hb.same (hlt x (by rw[e];exact List.mem_append_left _ hx))) (fun x hx=>hs x (by rw[e];exact List.mem_append_left _ hx)),
   J6 hl hb (fun t ht=>hT t (List.mem_cons.2 (Or.inr ht))) h2 (fun x hx=>hlt x (by rw[e];exact List.mem_append_right _ hx)) (fun x hx=>hs x (by rw[e];exact List.mem_append_right _ hx)),e⟩
theorem Alb {f:Func} {s:ChangeSpec} {apart fresh handsOn again:Bool} {W W':World} {ds gs:List (DataW H)} {before:List MemPlace} {t:TypeId} (hl:laidOutB P=true)
  (hp:(f.params.toList.all fun t=>P.readableRec t && decide (t<P.types.size))=true) (hr:f.resultTypes=#[t]) (ht:P.underlying t=some .bool) (hv:s.vars= [])
  (hW:DataW.Whole enc P f.params.toList s.vars apart W args.toList ds gs before) (h1:(s.fn H (ds++gs)).results= [.lit (.bool true)]) (h2:(s.fn H (ds++gs)).args=ds) (h3:(s.fn H (ds++gs)).vars= [])
  (hb:Below W.heap.size W W'):s.post enc P f apart fresh handsOn again W args (.bool true) W':=by
 have hW':=hW
 have hlt:∀p∈before,p.block<W.heap.size:=fun p hp=>hW.lt p hp
 obtain⟨p,q,hA,hV,hpq,hz,hn⟩:=hW
 have hq:q= []:=by
  rw[hv] at hV
  exact(trodVars_none hV).2
 subst hq
 have hpq':before=p:=by rw[hpq];simp
 subst hpq'
 have hT:∀t∈f.params.toList,(P.readableRec t && decide (t<P.types.size))=true:=List.all_eq_true.1 hp
 have hargs:∀sp:Nat->Bool,(∀x∈before,sp x.block=true)->DataW.TrodAll enc P W' 0 sp true f.params.toList args.toList (s.fn H (ds++gs)).args before:=fun sp hsp=>by
  rw[h2];exact J6 hl hb hT hA hlt hsp
 have hres:∀(b:Nat) (sp:Nat->Bool) (hd:Bool),DataW.TrodAll enc P W' b sp hd f.resultTypes.toList ((Value.bool true).resultList f.resultTypes.size) (s.fn H (ds++gs)).results []:=fun b sp hd=>by
  rw[h1,hr];exact trodAll_mk1 (shut_bool ht true)
 have hvars:∀sp:Nat->Bool,DataW.TrodVars enc P W' sp s.vars (s.fn H (ds++gs)).vars []:=fun sp=>by
  rw[h3,hv];exact rfl
 have hold:∀x∈before,(fun b=>decide (b<W.heap.size)) x.block=true:=fun x hx=>by simpa using hlt x hx
 refine⟨ds,gs,before,[],before,[],hW',hres _ _ _,hargs _ hold,hvars _,World.keptBut_mono (fun x hx=>⟨hx,by simpa using hx⟩) (hb.frame (·∈before)),fun _=>?_⟩
 refine⟨ok_one hr rfl (okWide_bool_mk ht true),_,_,([]++before)++ [],⟨[]++before,[],trodAll_append (hargs _ (fun _ _=>rfl)) (hres _ _ _),hvars _,rfl,?_,?_⟩,?_⟩
 ·intro b off hx
  have hin:MemPlace.cell b off∈before:=by simpa using hx
  rw[hb.frozen (hlt _ hin)]
  exact hz b off hin
 ·intro ha
  simpa using hn ha
 ·intro x hx _
  simpa using hx
end
end Go.Sl
namespace Go.Sl
variable {P:Program} {H:Hp} {e t t' ty yt:TypeId} {s:ByteArray} {a:Fr} {d:Option Tmp} {pos:String} {after:Array Edge} {g:Option (Nat×Bool)} {x y z:Operand} {k:Value->Hp->Prop} {ops:Array Oper} {Q:Fr->Hp->Prop} {i c d':Nat} {rest:List Oper} {l:List (Nat×Nat)} {hist:List Hp} {k':IntKind} {m n u b:Int} {Amw:Array Operand} {ts:Array TypeId}
def kN (b:UInt8):Value:=.int .u8 b.toNat
def Ag (s:ByteArray):List Value:=s.data.toList.map kN
theorem ES {q:Value->Hp->Prop} (hk:∀r N,H r=none->s.size<=N->q (.slice (some ⟨r,0,none⟩) s.size N) (hupd H r (.cells (Ag s++List.replicate (N - s.size) (.int .u8 0)) e true))):(Conv.stringToBytes e s).ev P H q:=by
 unfold Conv.stringToBytes
 simp only[aI,choose,Sem.ev]
 rw[if_neg (by simp[Question.forced])]
 intro t
 simp only[Question.cut]
 generalize hN:s.size+0+t % (2 ^ 63 - (s.size+0))=N
 have hle:s.size<=N:=by omega
 simp only[newRow,aI]
 intro r hr
 refine⟨rfl,?_⟩
 simp only[markStringish,shape,freeze,aI,Sem.ev]
 have hcells:(Array.map (fun b=>Value.int IntKind.u8 (b.toNat:Int)) s.data++Array.replicate (N - s.size) (Value.int IntKind.u8 0)).toList= []++Ag s++List.replicate (N - s.size) (Value.int IntKind.u8 0):=by simp[Ag,kN]
 rw[hcells]
 have hrow:Pp H (hupd H r (.cells ([]++Ag s++List.replicate (N - s.size) (Value.int IntKind.u8 0)) e true)) (.slice (some ⟨r,0,none⟩) s.size N) e 1 s.size (Ag s):=
  ⟨by simp[Ag],.inr ⟨r,[],_,N,rfl,hr,rfl,hle,by simp⟩⟩
 show match (hupd H r (sM.cells ([]++Ag s++List.replicate (N - s.size) (Value.int IntKind.u8 0)) e true)) r with
  |some (sM.cells cs e rw)=>_
  |some (sM.obj o)=>_
  |none=>False
 rw[kL]
 simp only[Nat.one_ne_zero,if_false]
 exact⟨_,_,rfl,Nat.le_refl _,hk r N hr hle⟩
theorem PD {f:Value->ByteArray->Sem (ForInStep ByteArray)} (hf:∀b s,(f (kN b) s).rd P H=some (.yield (s.push b))):∀(l:List UInt8) (acc:ByteArray),(forIn (l.map kN) acc f).rd P H=some ⟨acc.data++l.toArray⟩:=by
 intro l
 induction l with
 |nil=>intro acc;simp;rfl
 |cons b l ih=>
  intro acc
  simp only[List.map_cons,List.forIn_cons]
  rw[fW,hf,Option.bind_some]
  simp only
  rw[ih (acc.push b)]
  simp[ByteArray.push]
def EJ (P:Program) (t:TypeId):Option TypeId:=match P.underlying t with
 |some (.slice e)=>match P.underlying e with
  |some (.int .u8)=>some e
  |_=>none
 |_=>none
theorem FZ (h:EJ P t=some e):P.underlying t=some (.slice e)/\P.underlying e=some (.int .u8):=by
 unfold EJ at h
 split at h
 ·rename_i e' hu
  split at h
  ·rename_i hue;cases h;exact⟨hu,hue⟩
  ·cases h
 ·cases h
theorem PG (hs:mN P t=true) (ht:EJ P t'=some e) (hx:bJ a x=.string s) (hk:∀r N,H r=none->s.size<=N->k (.slice (some ⟨r,0,none⟩) s.size N) (hupd H r (.cells (Ag s++List.replicate (N - s.size) (.int .u8 0)) e true))):
  lD P ⟨d,.convert t t' x,ty,pos,after,g⟩ a H k:=by
 obtain⟨h1,h2⟩:=FZ ht
 refine fI ?_
 simp only[execOp,hx,convert,aI]
 rw[aN (aK (lX hs)),aN (aK h1)]
 simp only[aI]
 rw[aN (aK h2)]
 exact ES hk
theorem Ahv {k:IntKind} (hargs:Amw.toList.map (bJ a)= [.int k m,.int k' n]):cA P ⟨d,.call { callee:=.builtin .min,args:=Amw,argTypes:=ts },ty,pos,after,g⟩ a=some (.int k (if n<m then n else m)):=by
 refine cD ?_
 have h1:Amw.map (bJ a)=#[.int k m,.int k' n]:=by apply Array.ext';simpa using hargs
 simp only[execOp,resolve,h1,aU,pure,Sem.pr,Option.bind_some,invoke,builtin,Builtin.min_,List.foldlM,Builtin.min2]
theorem Aio {k:IntKind} (hargs:Amw.toList.map (bJ a)= [.int k m,.int k' n]):cA P ⟨d,.call { callee:=.builtin .max,args:=Amw,argTypes:=ts },ty,pos,after,g⟩ a=some (.int k (if n > m then n else m)):=by
 refine cD ?_
 have h1:Amw.map (bJ a)=#[.int k m,.int k' n]:=by apply Array.ext';simpa using hargs
 simp only[execOp,resolve,h1,aU,pure,Sem.pr,Option.bind_some,invoke,builtin,Builtin.max_,List.foldlM,Builtin.max2]
theorem Adm (h0:0<=u) (h1:u<18014398509481984) (h2:0<=b) (h3:b<256):
  IntKind.wrap .i64 ((BitVec.ofInt 64 (u * 256) ||| BitVec.ofInt 64 b).toNat:Int)=u * 256+b:=by
 obtain⟨u,rfl⟩:=Int.eq_ofNat_of_zero_le h0
 obtain⟨b,rfl⟩:=Int.eq_ofNat_of_zero_le h2
 have e:(BitVec.ofInt 64 ((u:Int) * 256) ||| BitVec.ofInt 64 (b:Int)).toNat=u * 256+b:=by
  rw[BitVec.toNat_or]
  have h1':u * 256<2 ^ 64:=by omega
  have h2':b<2 ^ 64:=by omega
  have e1:(BitVec.ofInt 64 ((u:Int) * 256)).toNat=u * 256:=by
   rw[BitVec.toNat_ofInt]
   omega
  have e2:(BitVec.ofInt 64 (b:Int)).toNat=b:=by
   rw[BitVec.toNat_ofInt]
   omega
  rw[e1,e2]
  have:=Nat.shiftLeft_add_eq_or_of_lt (b:=b) (i:=8) (by omega) u
  rw[Nat.shiftLeft_eq] at this
  exact this.symm
 rw[e,uT] <;> omega
theorem Vr (hs:(P.underlying t).isSome=true) (ht:NY P t'=some .i64) (hx:bJ a x=.int k' n) (h0:-9223372036854775808<=n) (h1:n<=9223372036854775807):cA P ⟨d,.convert t t' x,ty,pos,after,g⟩ a=some (.int .i64 n):=by
 have:=LS (P:=P) (d:=d) (ty:=ty) (pos:=pos) (after:=after) (g:=g) hs ht hx
 rw[uT h0 h1] at this;exact this
theorem Afn {yk:IntKind} (hx:bJ a x=.int .i64 u) (hy:bJ a y=.int yk 8) (h0:0<=u) (h1:u<18014398509481984):cA P ⟨d,.binOp .shl t x y yt,ty,pos,after,g⟩ a=some (.int .i64 (u * 256)):=by
 have:=YO (P:=P) (d:=d) (t:=t) (yt:=yt) (ty:=ty) (pos:=pos) (after:=after) (g:=g) hx hy (by omega)
 rw[this]
 have e:u * 2 ^ (min (8:Int).toNat (IntKind.bits .i64))=u * 256:=by simp[IntKind.bits]
 rw[e,uT] <;> omega
theorem Aj1 (hx:bJ a x=.int .i64 (u * 256)) (hy:bJ a y=.int .i64 b) (h0:0<=u) (h1:u<18014398509481984) (h2:0<=b) (h3:b<256):cA P ⟨d,.binOp .or t x y yt,ty,pos,after,g⟩ a=some (.int .i64 (u * 256+b)):=by
 have:=CI (P:=P) (d:=d) (t:=t) (yt:=yt) (ty:=ty) (pos:=pos) (after:=after) (g:=g) (op:=.or) hx hy rfl rfl
 rw[this]
 show some (Value.int .i64 (IntKind.wrap .i64 _))=_
 have e:=Adm h0 h1 h2 h3
 exact congrArg (fun z=>some (Value.int .i64 z)) e
def vN:Code->List Code
 |.seq x y=>vN x++vN y
 |.cond _ x y=>vN x++vN y
 |.block _ c=>vN c
 |.scope c=>vN c
 |.loop c=>.loop c::vN c
 |_=> []
def SH (f:Func) (k:Nat):Code:=match f.body with
 |some c=>(vN c).getD k .skip
 |none=>.skip
end Go.Sl
end
