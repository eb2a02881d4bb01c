/- A part of the proof: lemmas; each with the conditions that it states. -/
import Derived.Laws.Entries
import Derived.Test.YtffnpejdkkohcaaGreatBaa
set_option linter.unusedVariables false
set_option linter.unusedSimpArgs false
section
namespace Go.Sl
variable {v u w:Value} {P:Program} {ops:Array Oper} {Q:Fr->Hp->Prop} {a:Fr} {H:Hp} {i c n n' c' B off sz:Nat} {o:Oper} {rest:List Oper} {l:List (Nat×Nat)} {hist:List Hp} {b b':Bool} {d:Option Tmp} {ty yt e:TypeId} {pos:String} {after:Array Edge} {g:Option (Nat×Bool)} {x y z:Operand} {op:BinOp} {k yk:IntKind} {m j:Int} {p:Option Addr} {Amw:Array Operand} {ts:Array TypeId} {s:ByteArray}
def iG:Value->Option Value
 |.bool b=>some (.bool b)
 |.int k n=>some (.int k n)
 |.string s=>some (.string s)
 |.pointer none=>some (.pointer none)
 |.pointer (some ⟨b,o,s⟩)=>some (.pointer (some ⟨b,o,s⟩))
 |.slice A n c=>some (.slice A n c)
 |.map r=>some (.map r)
 |.func fn f c=>some (.func fn f c)
 |.nilFunc=>some .nilFunc
 |.iface t v=>some (.iface t v)
 |.nilIface=>some .nilIface
 |.agg cs=>some (.agg cs)
 |.tuple vs=>some (.tuple vs)
 |_=>none
theorem f5 {x:Value} (h:iG x=some v):x=v:=by
 unfold iG at h
 split at h <;> first|(cases h;rfl)|cases h
theorem cD (h:(execOp (bJ a) o).pr P=some (.value v)):cA P o a=some v:=by unfold cA;rw[h];rfl
theorem UP (h:cA P o a=some v):(execOp (bJ a) o).pr P=some (.value v):=by
 unfold cA at h
 cases hx:(execOp (bJ a) o).pr P with
 |none=>rw[hx] at h;cases h
 |some n=>rw[hx] at h;cases n <;> first|(simp[JB] at h;subst h;rfl)|cases h
theorem Il {k:Value->Hp->Prop} (h:I7 P o a H=some v) (hk:k v H):lD P o a H k:=by
 refine fI (Ahe P _ (.value v) (nxt P k) ?_ (show nxt P k (.value v) H from hk))
 unfold I7 at h
 cases hx:(execOp (bJ a) o).rd P H with
 |none=>rw[hx] at h;cases h
 |some n=>rw[hx] at h;cases n <;> first|(simp[JB] at h;subst h;rfl)|cases h
theorem L0 (h:cA P o a=some v):I7 P o a H=some v:=by
 have:=UP h
 unfold I7
 rw[Ahm P _ H _ this]
 rfl
theorem Alw (hw:bD ops o a=true) (hv:cA P o a=some v) (h:cU (Qh ops i) v fun v=>Jz P ops Q (i+1) rest (fE a o.dst v) H):Jz P ops Q i (o::rest) a H:=by
 unfold Jz
 rw[if_pos hw]
 exact Il (L0 hv) h
theorem Alz (hw:bD ops o a=true) (hv:I7 P o a H=some v) (h:cU (Qh ops i) v fun v=>Jz P ops Q (i+1) rest (fE a o.dst v) H):Jz P ops Q i (o::rest) a H:=by
 unfold Jz
 rw[if_pos hw]
 exact Il hv h
theorem Alu (hw:bD ops o a=true) (h:lD P o a H fun v H'=>cU (Qh ops i) v fun v=>Jz P ops Q (i+1) rest (fE a o.dst v) H'):Jz P ops Q i (o::rest) a H:=by
 unfold Jz
 rw[if_pos hw]
 exact h
theorem Akv (hw:bD ops o a=false) (h:Jz P ops Q (i+1) rest (fE a o.dst undef) H):Jz P ops Q i (o::rest) a H:=by
 unfold Jz
 rw[if_neg (by rw[hw];simp)]
 exact h
theorem Ame (ho:ops[i]?=some o) (hk:kd P o.op=.pure) (hw:bD ops o a=true) (hv:cA P o a=some v) (h:cU (Qh ops i) v fun v=>zA P ops Q l hist (fE a o.dst v) H):zA P ops Q ((i,c)::l) hist a H:=by
 simp only[zA,ho,hw,if_true,hk]
 exact⟨v,hv,h⟩
theorem Alf (ho:ops[i]?=some o) (hk:kd P o.op=.load) (hw:bD ops o a=true) (hv:I7 P o a H=some v) (hh:∀h∈hist.take c,I7 P o a h=some v) (h:cU (Qh ops i) v fun v=>zA P ops Q l hist (fE a o.dst v) H):
  zA P ops Q ((i,c)::l) hist a H:=by
 simp only[zA,ho,hw,if_true,hk]
 exact⟨v,hv,hh,h⟩
theorem Alk (ho:ops[i]?=some o) (hk:kd P o.op=.other) (hw:bD ops o a=true) (h:lD P o a H fun v H'=>cU (Qh ops i) v fun v=>zA P ops Q l (H::hist) (fE a o.dst v) H'):zA P ops Q ((i,c)::l) hist a H:=by
 simp only[zA,ho,hw,if_true,hk]
 exact h
theorem Amf (ho:ops[i]?=some o) (hw:bD ops o a=false) (h:zA P ops Q l hist (fE a o.dst undef) H):zA P ops Q ((i,c)::l) hist a H:=by
 simp only[zA,ho,hw]
 exact h
theorem CO {g:Bool} {k:Value->Prop} (_hg:g=false) (h:k v):cU g v k:=(cH g v k).2 h
theorem GC {g:Bool} {k:Value->Prop} (hg:g=true) (h:Br b (k (.bool true)) (k (.bool false))):cU g (.bool b) k:=by subst hg;exact h
theorem Br.t {x y:Prop} (hb:b=true) (h:x):Br b x y:=⟨fun _=>h,fun h'=>by rw[hb] at h';cases h'⟩
theorem Br.f {x y:Prop} (hb:b=false) (h:y):Br b x y:=⟨fun h'=>(by rw[hb] at h';cases h'),fun _=>h⟩
section
variable {t:TypeId}
theorem Aeu (hx:iG (bJ a x)=some v):cA P ⟨d,.move x,ty,pos,after,g⟩ a=some v:=by
 rw[<- f5 hx];rfl
theorem Vg (hx:iG (bJ a x)=some v):cA P ⟨d,.assign x,ty,pos,after,g⟩ a=some v:=by
 rw[<- f5 hx];rfl
theorem VR (hx:bJ a x=.bool true) (hy:iG (bJ a y)=some v):cA P ⟨d,.pick x y z,ty,pos,after,g⟩ a=some v:=by
 refine cD ?_
 simp only[execOp,hx,asBool,aU,pure,Sem.pr,Option.bind_some,if_true,f5 hy]
theorem Xm (hx:bJ a x=.bool false) (hz:iG (bJ a z)=some v):cA P ⟨d,.pick x y z,ty,pos,after,g⟩ a=some v:=by
 refine cD ?_
 simp only[execOp,hx,asBool,aU,pure,Sem.pr,Option.bind_some,f5 hz]
 rfl
theorem Ah5 {p:Addr} (hx:bJ a x=.pointer (some p)):cA P ⟨d,.nilCheck x,ty,pos,after,g⟩ a=some (.pointer (some p)):=by
 refine cD ?_
 simp only[execOp,hx];rfl
theorem Ad1 {fn:FuncId} {fs cs:Array Value} (hx:bJ a x=.func (.func fn) fs cs):cA P ⟨d,.nilCheck x,ty,pos,after,g⟩ a=some (.func (.func fn) fs cs):=by
 refine cD ?_
 simp only[execOp,hx];rfl
def MC:BinOp->IntKind->Int->Int->Value
 |.add,k,m,n=>.int k (k.wrap (m+n))
 |.sub,k,m,n=>.int k (k.wrap (m - n))
 |.mul,k,m,n=>.int k (k.wrap (m * n))
 |.eql,_,m,n=>.bool (m == n)
 |.neq,_,m,n=>.bool (m != n)
 |.lss,_,m,n=>.bool (m<n)
 |.leq,_,m,n=>.bool (m<=n)
 |.gtr,_,m,n=>.bool (m > n)
 |.geq,_,m,n=>.bool (m≥n)
 |.and,k,m,n=>.int k (k.wrap (BitVec.ofInt k.bits m &&& BitVec.ofInt k.bits n).toNat)
 |.or,k,m,n=>.int k (k.wrap (BitVec.ofInt k.bits m ||| BitVec.ofInt k.bits n).toNat)
 |.xor,k,m,n=>.int k (k.wrap (BitVec.ofInt k.bits m ^^^ BitVec.ofInt k.bits n).toNat)
 |.andNot,k,m,n=>.int k (k.wrap (BitVec.ofInt k.bits m &&& ~~~BitVec.ofInt k.bits n).toNat)
 |_,_,_,_=>undef
def Abb:BinOp->Bool
 |.quo|.rem|.shl|.shr=>false
 |_=>true
theorem CI {n:Int} (hx:bJ a x=.int k m) (hy:bJ a y=.int k n) (hp:Abb op=true) (hv:iG (MC op k m n)=some v):
  cA P ⟨d,.binOp op t x y yt,ty,pos,after,g⟩ a=some v:=by
 refine cD ?_
 rw[<- f5 hv]
 have hb:binOp op t (.int k m) (.int k n)=pure (MC op k m n):=by
  cases op <;> first|exact absurd hp (by decide)|(simp[binOp,Op.intArith,Op.intCmp,Op.intBits,MC])
 simp only[execOp,hx,hy,eqGuard_at_int,hb]
 rfl
theorem Ze {n:Int} (hx:bJ a x=.int k m) (hy:bJ a y=.int k n) (hn:n≠0):cA P ⟨d,.binOp .quo t x y yt,ty,pos,after,g⟩ a=some (.int k (k.wrap (m.tdiv n))):=by
 refine cD ?_
 simp only[execOp,hx,hy,eqGuard_at_int]
 have:(binOp .quo t (.int k m) (.int k n)).pr P=some (.int k (k.wrap (m.tdiv n))):=by simp[binOp,Op.intDiv,hn];rfl
 simp only[aU,this]
 rfl
theorem ZC {n:Int} (hx:bJ a x=.int k m) (hy:bJ a y=.int k n) (hn:n≠0):cA P ⟨d,.binOp .rem t x y yt,ty,pos,after,g⟩ a=some (.int k (m.tmod n)):=by
 refine cD ?_
 simp only[execOp,hx,hy,eqGuard_at_int]
 have:(binOp .rem t (.int k m) (.int k n)).pr P=some (.int k (m.tmod n)):=by simp[binOp,Op.intDiv,hn];rfl
 simp only[aU,this]
 rfl
theorem YO {n:Int} (hx:bJ a x=.int k m) (hy:bJ a y=.int yk n) (hn:¬n<0):cA P ⟨d,.binOp .shl t x y yt,ty,pos,after,g⟩ a=some (.int k (k.wrap (m * 2 ^ (min n.toNat k.bits)))):=by
 refine cD ?_
 simp only[execOp,hx,hy,eqGuard_at_int]
 have:(binOp .shl t (.int k m) (.int yk n)).pr P=some (.int k (k.wrap (m * 2 ^ (min n.toNat k.bits)))):=by simp[binOp,Op.shift,hn];rfl
 simp only[aU,this]
 rfl
theorem ZO {n:Int} (hx:bJ a x=.int k m) (hy:bJ a y=.int yk n) (hn:¬n<0):cA P ⟨d,.binOp .shr t x y yt,ty,pos,after,g⟩ a=some (.int k (m.fdiv (2 ^ (min n.toNat k.bits)))):=by
 refine cD ?_
 simp only[execOp,hx,hy,eqGuard_at_int]
 have:(binOp .shr t (.int k m) (.int yk n)).pr P=some (.int k (m.fdiv (2 ^ (min n.toNat k.bits)))):=by simp[binOp,Op.shift,hn];rfl
 simp only[aU,this]
 rfl
def Lt:BinOp->ByteArray->ByteArray->Value
 |.eql,m,n=>.bool (m.toList == n.toList)
 |.neq,m,n=>.bool (!(m.toList == n.toList))
 |.lss,m,n=>.bool (Op.bytesLess m.toList n.toList)
 |.leq,m,n=>.bool (Op.bytesLess m.toList n.toList || m.toList == n.toList)
 |.gtr,m,n=>.bool (!(Op.bytesLess m.toList n.toList || m.toList == n.toList))
 |.geq,m,n=>.bool (!(Op.bytesLess m.toList n.toList))
 |_,_,_=>undef
def N6:BinOp->Bool
 |.eql|.neq|.lss|.leq|.gtr|.geq=>true
 |_=>false
theorem Aiw {m n:ByteArray} (hx:bJ a x=.string m) (hy:bJ a y=.string n) (hp:N6 op=true) (hv:iG (Lt op m n)=some v):
  cA P ⟨d,.binOp op t x y yt,ty,pos,after,g⟩ a=some v:=by
 refine cD ?_
 rw[<- f5 hv]
 have hb:binOp op t (.string m) (.string n)=pure (Lt op m n):=by
  cases op <;> first|exact absurd hp (by decide)|(simp[binOp,Op.stringOp,Lt])
 simp only[execOp,hx,hy,eqGuard_at_string,hb]
 rfl
theorem Aie {m n:ByteArray} (hx:bJ a x=.string m) (hy:bJ a y=.string n) (hs:m.size+n.size<=9223372036854775807):
  cA P ⟨d,.binOp .add t x y yt,ty,pos,after,g⟩ a=some (.string (m++n)):=by
 refine cD ?_
 simp only[execOp,hx,hy]
 have h:¬((m.size+n.size:Nat):Int) > IntKind.i64.max:=by
  have:IntKind.i64.max=9223372036854775807:=by decide
  rw[this];omega
 have:(binOp .add t (.string m) (.string n)).pr P=some (.string (m++n)):=by simp only[binOp,Op.stringOp];rw[if_neg h];rfl
 simp only[aU,this]
 rfl
theorem SA (h:(∃p,u=.pointer p)\/(∃b n c,u=.slice b n c)\/(∃r,u=.map r)\/(∃b,u=.bool b)\/u=.nilFunc\/(∃f x y,u=.func f x y)):(eqGuard op t x y u w).pr P=some ():=by
 rcases h with⟨p,rfl⟩|⟨b,n,c,rfl⟩|⟨r,rfl⟩|⟨b,rfl⟩|rfl|⟨f,x,y,rfl⟩ <;> cases op <;> rfl
theorem aK {D:TypeDesc} (h:P.underlying t=some D):(underlying t).pr P=some D:=by
 simp only[underlying,aU,program,Sem.pr,Option.bind_some,h];rfl
theorem D6 (ht:P.underlying t=some (.pointer e)):(Op.equal t (.pointer p) (.pointer none)).pr P=some p.isNone:=by
 unfold Op.equal Op.maxDepth Op.equalIn
 rw[aU,aK ht,Option.bind_some]
 cases p <;> rfl
theorem Ax (ht:P.underlying t=some (.slice e)):(Op.equal t (.slice p n c) (.slice none n' c')).pr P=some p.isNone:=by
 unfold Op.equal Op.maxDepth Op.equalIn
 rw[aU,aK ht,Option.bind_some]
 cases p <;> rfl
theorem BZ (ht:P.underlying t=some .bool):(Op.equal t (.bool b) (.bool b')).pr P=some (b == b'):=by
 unfold Op.equal Op.maxDepth Op.equalIn
 rw[aU,aK ht,Option.bind_some]
 rfl
def GP (P:Program) (t:TypeId):Bool:=match P.underlying t with
 |some (.pointer _)=>true
 |_=>false
def lZ (P:Program) (t:TypeId):Bool:=match P.underlying t with
 |some (.slice _)=>true
 |_=>false
def Dq (P:Program) (t:TypeId):Bool:=match P.underlying t with
 |some .bool=>true
 |_=>false
theorem FI (h:GP P t=true):∃e,P.underlying t=some (.pointer e):=by
 unfold GP at h;split at h
 ·exact⟨_,‹_›⟩
 ·cases h
theorem m9 (h:lZ P t=true):∃e,P.underlying t=some (.slice e):=by
 unfold lZ at h;split at h
 ·exact⟨_,‹_›⟩
 ·cases h
theorem DJ (h:Dq P t=true):P.underlying t=some .bool:=by
 unfold Dq at h;split at h
 ·assumption
 ·cases h
theorem MP (h:(∃p q,u=.pointer p/\w=.pointer q)\/(∃p n c q n' c',u=.slice p n c/\w=.slice q n' c')\/(∃b b',u=.bool b/\w=.bool b')):
  binOp .eql t u w=(do pure (.bool (<- Op.equal t u w)))/\binOp .neq t u w=(do pure (.bool (!(<- Op.equal t u w)))):=by
 rcases h with⟨p,q,rfl,rfl⟩|⟨p,n,c,q,n',c',rfl,rfl⟩|⟨b,b',rfl,rfl⟩ <;> exact⟨rfl,rfl⟩
theorem tQ (hx:bJ a x=u) (hy:bJ a y=w) (h:(∃p q,u=.pointer p/\w=.pointer q)\/(∃p n c q n' c',u=.slice p n c/\w=.slice q n' c')\/(∃b b',u=.bool b/\w=.bool b')) (he:(Op.equal t u w).pr P=some b):
  cA P ⟨d,.binOp .eql t x y yt,ty,pos,after,g⟩ a=some (.bool b)/\cA P ⟨d,.binOp .neq t x y yt,ty,pos,after,g⟩ a=some (.bool (!b)):=by
 have hg:∀op,(eqGuard op t x y u w).pr P=some ():=fun op=>SA (by
  rcases h with⟨p,q,rfl,rfl⟩|⟨p,n,c,q,n',c',rfl,rfl⟩|⟨b,b',rfl,rfl⟩
  ·exact .inl ⟨_,rfl⟩
  ·exact .inr (.inl ⟨_,_,_,rfl⟩)
  ·exact .inr (.inr (.inr (.inl ⟨_,rfl⟩))))
 obtain⟨h1,h2⟩:=MP (t:=t) h
 constructor
 ·refine cD ?_
  simp only[execOp,hx,hy,aU,hg,Option.bind_some,h1,he]
  rfl
 ·refine cD ?_
  simp only[execOp,hx,hy,aU,hg,Option.bind_some,h2,he]
  rfl
theorem QE (ht:GP P t=true) (hx:bJ a x=.pointer p) (hy:bJ a y=.pointer none) (hv:iG (.bool p.isNone)=some v):cA P ⟨d,.binOp .eql t x y yt,ty,pos,after,g⟩ a=some v:=by
 obtain⟨e,he⟩:=FI ht
 rw[<- f5 hv]
 exact(tQ hx hy (.inl ⟨_,_,rfl,rfl⟩) (D6 he)).1
theorem RN (ht:GP P t=true) (hx:bJ a x=.pointer p) (hy:bJ a y=.pointer none) (hv:iG (.bool (!p.isNone))=some v):cA P ⟨d,.binOp .neq t x y yt,ty,pos,after,g⟩ a=some v:=by
 obtain⟨e,he⟩:=FI ht
 rw[<- f5 hv]
 exact(tQ hx hy (.inl ⟨_,_,rfl,rfl⟩) (D6 he)).2
theorem OI (ht:Dq P t=true) (hx:bJ a x=.bool b) (hy:bJ a y=.bool b'):cA P ⟨d,.binOp .eql t x y yt,ty,pos,after,g⟩ a=some (.bool (b == b')):=
 (tQ hx hy (.inr (.inr ⟨_,_,rfl,rfl⟩)) (BZ (DJ ht))).1
theorem NO (ht:Dq P t=true) (hx:bJ a x=.bool b) (hy:bJ a y=.bool b'):cA P ⟨d,.binOp .neq t x y yt,ty,pos,after,g⟩ a=some (.bool (!(b == b'))):=
 (tQ hx hy (.inr (.inr ⟨_,_,rfl,rfl⟩)) (BZ (DJ ht))).2
theorem Ly (ht:lZ P t=true) (hx:bJ a x=.slice p n c) (hy:bJ a y=.slice none n' c'):cA P ⟨d,.binOp .eql t x y yt,ty,pos,after,g⟩ a=some (.bool p.isNone):=by
 obtain⟨e,he⟩:=m9 ht
 exact(tQ hx hy (.inr (.inl ⟨_,_,_,_,_,_,rfl,rfl⟩)) (Ax he)).1
theorem Mo (ht:lZ P t=true) (hx:bJ a x=.slice p n c) (hy:bJ a y=.slice none n' c'):cA P ⟨d,.binOp .neq t x y yt,ty,pos,after,g⟩ a=some (.bool (!p.isNone)):=by
 obtain⟨e,he⟩:=m9 ht
 exact(tQ hx hy (.inr (.inl ⟨_,_,_,_,_,_,rfl,rfl⟩)) (Ax he)).2
theorem QK (hx:bJ a x=.bool b) (hv:iG (.bool !b)=some v):cA P ⟨d,.unOp .not t x,ty,pos,after,g⟩ a=some v:=by
 rw[<- f5 hv]
 refine cD ?_
 simp only[execOp,hx];rfl
theorem Amr {n:Int} (hx:bJ a x=.int k n):cA P ⟨d,.unOp .neg t x,ty,pos,after,g⟩ a=some (.int k (k.wrap (0 - n))):=by
 refine cD ?_
 simp only[execOp,hx];rfl
theorem d3 {i:TypeInfo} (h:P.info? t=some i):(typeInfo t).pr P=some i:=by
 simp only[typeInfo,aU,program,Sem.pr,Option.bind_some,h];rfl
theorem fC {i:TypeInfo} (h:P.info? t=some i):(sizeOf t).pr P=some i.size:=by
 simp only[sizeOf,aU,d3 h,Option.bind_some];rfl
def xD (P:Program) (t:TypeId) (f:Nat):Option Nat:=match P.underlying t with
 |some (.struct fs)=>match fs[f]? with
  |some fd=>match P.info? fd.type with
   |some i=>if i.size=0 then none else some fd.offset
   |none=>none
  |none=>none
 |_=>none
theorem Dp {f:Nat} (hx:bJ a x=.pointer (some ⟨B,off,none⟩)) (hf:xD P t f=some n):cA P ⟨d,.fieldAddr t x f,ty,pos,after,g⟩ a=some (.pointer (some ⟨B,off+n,none⟩)):=by
 refine cD ?_
 unfold xD at hf
 split at hf
 ·rename_i fs hu
  split at hf
  ·rename_i fd hfd
   split at hf
   ·rename_i i hi
    split at hf
    ·cases hf
    ·rename_i hz
     cases hf
     simp only[execOp,hx,Instr.fieldAt,aU,aK hu,Option.bind_some,hfd,Instr.sureAddr,pure,Sem.pr,fieldPlace,fC hi,if_neg hz,nO]
   ·cases hf
  ·cases hf
 ·cases hf
def sP (P:Program) (t:TypeId):Option Nat:=match P.underlying t with
 |some (.slice e)=>match P.info? e with
  |some i=>some i.size
  |none=>none
 |_=>none
theorem FW (h:sP P t=some sz):∃e i,P.underlying t=some (.slice e)/\P.info? e=some i/\i.size=sz:=by
 unfold sP at h
 split at h
 ·rename_i e hu
  split at h
  ·rename_i i hi;exact⟨e,i,hu,hi,by simpa using h⟩
  ·cases h
 ·cases h
theorem Hj (ht:sP P t=some sz) (hx:bJ a x=.slice (some ⟨B,off,none⟩) n c) (hy:bJ a y=.int k j) (h0:0<=j) (h1:j<n):
  cA P ⟨d,.indexAddr t x y,ty,pos,after,g⟩ a=some (.pointer (some ⟨B,off+j.toNat * sz,none⟩)):=by
 obtain⟨e,i,hu,hi,rfl⟩:=FW ht
 refine cD ?_
 simp only[execOp,hx,hy,Instr.indexAt,aU,asIntOf,pure,Sem.pr,Option.bind_some,aK hu,h0,h1,and_self,if_true,fC hi,nO]
theorem Mk {A:Option Addr} (hargs:Amw.toList.map (bJ a)= [.slice A n c]) (ht:(ts[0]?).any (lZ P)=true):
  cA P ⟨d,.call { callee:=.builtin .len,args:=Amw,argTypes:=ts },ty,pos,after,g⟩ a=some (.int .i64 n):=by
 refine cD ?_
 have h1:Amw.map (bJ a)=#[.slice A n c]:=by apply Array.ext';simpa using hargs
 cases h0:ts[0]? with
 |none=>rw[h0] at ht;cases ht
 |some t0=>
  rw[h0] at ht
  obtain⟨e,he⟩:=m9 (by simpa using ht)
  simp only[execOp,resolve,h1,aU,pure,Sem.pr,Option.bind_some,invoke,builtin,Builtin.len_,h0]
  simp only[List.getElem?_toArray,List.getElem?_cons_zero,aU,aK he,Option.bind_some]
  rfl
def mN (P:Program) (t:TypeId):Bool:=match P.underlying t with
 |some .string=>true
 |_=>false
theorem lX (h:mN P t=true):P.underlying t=some .string:=by
 unfold mN at h;split at h
 ·assumption
 ·cases h
theorem SD (hargs:Amw.toList.map (bJ a)= [.string s]) (ht:(ts[0]?).any (mN P)=true):
  cA P ⟨d,.call { callee:=.builtin .len,args:=Amw,argTypes:=ts },ty,pos,after,g⟩ a=some (.int .i64 s.size):=by
 refine cD ?_
 have h1:Amw.map (bJ a)=#[.string s]:=by apply Array.ext';simpa using hargs
 cases h0:ts[0]? with
 |none=>rw[h0] at ht;cases ht
 |some t0=>
  rw[h0] at ht
  have he:=lX (by simpa using ht)
  simp only[execOp,resolve,h1,aU,pure,Sem.pr,Option.bind_some,invoke,builtin,Builtin.len_,h0]
  simp only[List.getElem?_toArray,List.getElem?_cons_zero,aU,aK he,Option.bind_some]
  rfl
theorem SN {vs:Array Value} (hx:bJ a x=.tuple vs) (hv:vs[n]?=some v):cA P ⟨d,.extract x n,ty,pos,after,g⟩ a=some v:=by
 refine cD ?_
 simp only[execOp,hx,Instr.extract,hv];rfl
theorem Oz {fn:Fn} {fs cs:Array Operand} {l1 l2:List Value} (h1:fs.toList.map (bJ a)=l1) (h2:cs.toList.map (bJ a)=l2):cA P ⟨d,.makeFunc fn fs cs,ty,pos,after,g⟩ a=some (.func fn l1.toArray l2.toArray):=by
 refine cD ?_
 have e1:fs.map (bJ a)=l1.toArray:=by apply Array.ext';simpa using h1
 have e2:cs.map (bJ a)=l2.toArray:=by apply Array.ext';simpa using h2
 simp only[execOp,e1,e2];rfl
theorem Hh (ht:mN P t=true) (hx:bJ a x=.string s) (hy:bJ a y=.int k j) (h0:0<=j) (h1:j<=s.size):
  cA P ⟨d,.slice t x (some y) none none,ty,pos,after,g⟩ a=some (.string (s.extract j.toNat s.size)):=by
 refine cD ?_
 simp only[execOp,hx,Option.map_some,Option.map_none,hy,Instr.sliceAt,Instr.slice,aU,aK (lX ht),Option.bind_some,Instr.sliceBounds,Instr.sliceBound,asIntOf,pure,Sem.pr,h0,h1,and_self,if_true,
  Option.isSome_none,Bool.false_eq_true,if_false]
theorem HS (ht:mN P t=true) (hx:bJ a x=.string s) (hy:bJ a y=.int k j) (h0:0<=j) (h1:j<=s.size):
  cA P ⟨d,.slice t x none (some y) none,ty,pos,after,g⟩ a=some (.string (s.extract 0 j.toNat)):=by
 refine cD ?_
 simp only[execOp,hx,Option.map_some,Option.map_none,hy,Instr.sliceAt,Instr.slice,aU,aK (lX ht),Option.bind_some,Instr.sliceBounds,Instr.sliceBound,asIntOf,pure,Sem.pr,h0,h1,and_self,if_true,
  Option.isSome_none,Bool.false_eq_true,if_false]
theorem N3 {k':IntKind} (ht:mN P t=true) (hx:bJ a x=.string s) (hy:bJ a y=.int k j) (hz:bJ a z=.int k' m) (h0:0<=j) (h1:j<=m) (h2:m<=s.size):
  cA P ⟨d,.slice t x (some y) (some z) none,ty,pos,after,g⟩ a=some (.string (s.extract j.toNat m.toNat)):=by
 refine cD ?_
 have e1:0<=m:=by omega
 have e2:j<=(m.toNat:Int):=by omega
 simp only[execOp,hx,Option.map_some,hy,hz,Option.map_none,Instr.sliceAt,Instr.slice,aU,aK (lX ht),Option.bind_some,Instr.sliceBounds,Instr.sliceBound,asIntOf,pure,Sem.pr,h0,h2,e1,e2,and_self,if_true,
  Option.isSome_none,Bool.false_eq_true,if_false]
theorem TZ (h:Xx P H t (bJ a x)=some v):I7 P ⟨d,.load t x,ty,pos,after,g⟩ a H=some v:=by
 unfold I7
 simp only[execOp,fW,WX h,Option.bind_some,yK];rfl
end
end Go.Sl
namespace Go.Sl
variable {H:Hp} {a:Fr} {P:Program} {k:Value->Hp->Prop} {d:Option Tmp} {ty t e:TypeId} {pos:String} {after:Array Edge} {g:Option (Nat×Bool)} {x y:Operand} {B n:Nat} {vs:List Value} {v:Value} {f:FuncId} {Amw:Array Operand} {ts:Array TypeId}
def mE:List Value->Nat->List Value->List Value
 |cs,_,[]=>cs
 |cs,off,v::vs=>mE (cs.set off v) (off+1) vs
def Ws:List Value->List Value->List Value
 | [],cs=>cs
 |_::_,[]=> []
 |v::vs,_::cs=>v::Ws vs cs
def uK:List Value->Nat->List Value->List Value
 |cs,0,vs=>Ws vs cs
 | [],_+1,_=> []
 |c::cs,n+1,vs=>c::uK cs n vs
theorem KV:∀(vs:List Value) (off:Nat),mE [] off vs= []:=by
 intro vs
 induction vs with
 |nil=>intro off;rfl
 |cons v vs ih=>intro off;simp only[mE,List.set_nil,ih]
theorem HU:∀(vs:List Value) (c:Value) (cs:List Value) (off:Nat),mE (c::cs) (off+1) vs=c::mE cs off vs:=by
 intro vs
 induction vs with
 |nil=>intro c cs off;rfl
 |cons v vs ih=>intro c cs off;simp only[mE,List.set_cons_succ,ih]
theorem IJ:∀(vs cs:List Value),mE cs 0 vs=Ws vs cs:=by
 intro vs
 induction vs with
 |nil=>intro cs;rfl
 |cons v vs ih=>
  intro cs
  cases cs with
  |nil=>simp only[KV,Ws]
  |cons c cs=>simp only[mE,List.set_cons_zero,HU,Ws,ih]
theorem Gf:∀(cs:List Value) (off:Nat) (vs:List Value),uK cs off vs=mE cs off vs:=by
 intro cs
 induction cs with
 |nil=>
  intro off vs
  cases off with
  |zero=>simp only[uK,IJ]
  |succ n=>simp only[uK,KV]
 |cons c cs ih=>
  intro off vs
  cases off with
  |zero=>simp only[uK,IJ]
  |succ n=>simp only[uK,HU,ih]
theorem U3 (H:Hp) (r:Nat) (b c:sM):hupd (hupd H r b) r c=hupd H r c:=by
 funext i;unfold hupd;split <;> rfl
theorem U9 {r:Nat} {b:sM} (h:H r=some b):hupd H r b=H:=by
 funext i;unfold hupd;split
 ·rename_i e;rw[e,h]
 ·rfl
def uJ (a:Fr):List Operand->Option (List Value)
 | []=>some []
 |x::xs=>match iG (bJ a x),uJ a xs with
  |some v,some vs=>some (v::vs)
  |_,_=>none
theorem BA:∀ {xs:List Operand} {vs:List Value},uJ a xs=some vs->xs.map (bJ a)=vs:=by
 intro xs
 induction xs with
 |nil=>intro vs h;cases h;rfl
 |cons x xs ih=>
  intro vs h
  simp only[uJ] at h
  split at h
  ·rename_i v vs' h1 h2
   cases h
   rw[List.map_cons,ih h2,f5 h1]
  ·cases h
theorem aN {α:Type} {s:Sem α} {v:α} (h:s.pr P=some v) (H:Hp) (q:α->Hp->Prop):s.ev P H q=q v H:=by
 induction s with
 |pure a=>simp[Sem.pr] at h;subst h;rfl
 |program k ih=>exact ih P h
 |mark m k ih=>exact ih h
 |_=>cases h
theorem nA:∀(vs:List Value) (i off:Nat) (cs:List Value) (H:Hp) (q:Unit->Hp->Prop),H B=some (.cells cs e true)->off+i+vs.length<=cs.length->(vs.all Value.oneCell')=true->
  q () (hupd H B (.cells (mE cs (off+i) vs) e true))->(storeCells ⟨B,off,none⟩ vs i).ev P H q:=by
 intro vs
 induction vs with
 |nil=>
  intro i off cs H q hb _ _ hq
  simp only[mE,U9 hb] at hq
  unfold storeCells
  exact hq
 |cons v vs ih=>
  intro i off cs H q hb hle mS hq
  simp only[List.all_cons,Bool.and_eq_true] at mS
  unfold storeCells
  rw[aI,nO]
  simp only[List.length_cons] at hle
  refine⟨mS.1,cs,e,hb,rfl,by simp only;omega,?_⟩
  refine ih (i+1) off (cs.set (off+i) v) _ q (kL _ _ _) (by simp;omega) mS.2 ?_
  rw[U3]
  exact hq
def mJ (P:Program) (t:TypeId):Option Nat:=match P.info? t with
 |some i=>some i.size
 |none=>none
theorem oB (h:mJ P t=some n):∃i,P.info? t=some i/\i.size=n:=by
 unfold mJ at h
 split at h
 ·exact⟨_,‹_›,by simpa using h⟩
 ·cases h
theorem NI {off:Nat} {cs:List Value} {u:Value} (hx:bJ a x=.pointer (some ⟨B,off,none⟩)) (hy:bJ a y=u) (hvs:u.cells.toList=vs) (ht:mJ P t=some n) (hn:vs.length=n)
  (mS:(vs.all Value.oneCell')=true) (hb:H B=some (.cells cs e true)) (hle:off+n<=cs.length) (hk:k undef (hupd H B (.cells (mE cs off vs) e true))):
  lD P ⟨d,.store t x y,ty,pos,after,g⟩ a H k:=by
 obtain⟨i,hi,rfl⟩:=oB ht
 refine fI ?_
 simp only[execOp,hx,hy,Instr.storeAt,aI]
 rw[aN (show(Instr.sureAddr (.pointer (some ⟨B,off,none⟩))).pr P=some ⟨B,off,none⟩ from rfl)]
 have hsz:u.cells.size=i.size:=by rw[<- hn,<- hvs];simp
 simp only[storeVar,aI]
 rw[aN (fC hi),if_neg (by rw[hsz];simp)]
 refine nA _ 0 off cs H _ hb (by rw[hvs,hn];omega) (by rw[hvs];exact mS) ?_
 rw[hvs]
 exact hk
def Ak (P:Program) (t:TypeId):Option (List Value):=match P.info? t with
 |some i=>match i.zero with
  |some z=>some z.cells.toList
  |none=>none
 |none=>none
theorem KX {q:Addr->Hp->Prop} (hk:∀r,H r=none->q ⟨r,0,none⟩ (hupd H r (.cells v.cells.toList t true))):(newVar t v).ev P H q:=by
 unfold newVar newRow
 rw[aI]
 intro r hr
 exact⟨rfl,hk r hr⟩
theorem Ab8 {zs:List Value} (hz:Ak P t=some zs) (hk:∀r,H r=none->k (.pointer (some ⟨r,0,none⟩)) (hupd H r (.cells zs t true))):lD P ⟨d,.alloc t,ty,pos,after,g⟩ a H k:=by
 unfold Ak at hz
 split at hz
 ·rename_i i hi
  split at hz
  ·rename_i z hz'
   cases hz
   have hzv:(zeroValue t).pr P=some z:=by simp only[zeroValue,aU,d3 hi,Option.bind_some,hz'];rfl
   refine fI ?_
   simp only[execOp,Instr.alloc,aI]
   rw[aN hzv]
   exact KX hk
  ·cases hz
 ·cases hz
theorem Ai4 (hx:bJ a x=v) (hvs:v.cells.toList=vs) (hk:∀r,H r=none->k (.pointer (some ⟨r,0,none⟩)) (hupd H r (.cells vs t true))):lD P ⟨d,.box t x,ty,pos,after,g⟩ a H k:=by
 subst hx hvs
 refine fI ?_
 simp only[execOp,Instr.box,aI]
 exact KX hk
theorem Nk {args:Array Value} (h:qG P f args H k):(callFunc f args).ev P H (nxt P k):=by
 obtain⟨fn,h1,h2,h3⟩:=h.has
 unfold callFunc
 rw[aI,aN (show program.pr P=some P from rfl)]
 simp only[h1,h2,h3,Bool.false_eq_true,if_false]
 exact h
theorem O1 {fs cs:Array Value} (hx:bJ a x=.func (.func f) fs cs) (hargs:uJ a Amw.toList=some vs) (h:qG P f (fs++vs.toArray++cs) H k):
  lD P ⟨d,.call { callee:=.value x,args:=Amw,argTypes:=ts },ty,pos,after,g⟩ a H k:=by
 have e1:Amw.map (bJ a)=vs.toArray:=by apply Array.ext';simpa using BA hargs
 refine fI ?_
 simp only[execOp,resolve,hx,e1,Deferred.ofValue]
 rw[aI,aN (show(pure _:Sem Deferred).pr P=some _ from rfl)]
 simp only[invoke]
 exact Nk h
theorem Ael (hargs:uJ a Amw.toList=some vs) (h:qG P f vs.toArray H k):
  lD P ⟨d,.call { callee:=.value (.func f),args:=Amw,argTypes:=ts },ty,pos,after,g⟩ a H k:=
 O1 (f:=f) (fs:=#[]) (cs:=#[]) rfl hargs (by simpa using h)
end Go.Sl
namespace Go.Sl
variable {n off B id i c d':Nat} {P:Program} {t e ty yt:TypeId} {cs vs:List Value} {H:Hp} {v u:Value} {K:Fr->Hp->Prop} {a:Fr} {ol rest:List Oper} {ops:Array Oper} {l:List (Nat×Nat)} {hist:List Hp} {d:Option Tmp} {pos:String} {after:Array Edge} {g:Option (Nat×Bool)} {z:Operand} {k:Value->Hp->Prop} {o:Op}
def yX:Nat->Option Nat
 |0=>some 0|1=>some 1|2=>some 2|3=>some 3|4=>some 4|5=>some 5|6=>some 6|7=>some 7|8=>some 8|9=>some 9|10=>some 10|11=>some 11|12=>some 12|13=>some 13|14=>some 14|15=>some 15
 |16=>some 16|17=>some 17|18=>some 18|19=>some 19|20=>some 20|21=>some 21|22=>some 22|23=>some 23|24=>some 24|25=>some 25|26=>some 26|27=>some 27|28=>some 28|29=>some 29|30=>some 30|31=>some 31
 |32=>some 32|33=>some 33|34=>some 34|35=>some 35|36=>some 36|37=>some 37|38=>some 38|39=>some 39|40=>some 40|41=>some 41|42=>some 42|43=>some 43|44=>some 44|45=>some 45|46=>some 46|47=>some 47
 |48=>some 48|49=>some 49|50=>some 50|51=>some 51|52=>some 52|53=>some 53|54=>some 54|55=>some 55|56=>some 56|57=>some 57|58=>some 58|59=>some 59|60=>some 60|61=>some 61|62=>some 62|63=>some 63
 |64=>some 64|65=>some 65|66=>some 66|67=>some 67|68=>some 68|69=>some 69|70=>some 70|71=>some 71|72=>some 72|73=>some 73|74=>some 74|75=>some 75|76=>some 76|77=>some 77|78=>some 78|79=>some 79
 |80=>some 80|81=>some 81|82=>some 82|83=>some 83|84=>some 84|85=>some 85|86=>some 86|87=>some 87|88=>some 88|89=>some 89|90=>some 90|91=>some 91|92=>some 92|93=>some 93|94=>some 94|95=>some 95|_=>none
theorem nL {m:Nat} (h:yX n=some m):n=m:=by
 unfold yX at h
 split at h <;> first|exact Option.some.inj h|cases h
def Cc:List (Nat×Nat)->Option (List (Nat×Nat))
 | []=>some []
 |(x,y)::l=>match yX x with
  |some x=>match yX y with
   |some y=>match Cc l with
    |some l=>some ((x,y)::l)
    |none=>none
   |none=>none
  |none=>none
theorem Wb:∀ {l l':List (Nat×Nat)},Cc l=some l'->l=l':=by
 intro l
 induction l with
 |nil=>intro l' h;exact Option.some.inj h
 |cons x l ih=>
  intro l' h
  obtain⟨x,y⟩:=x
  simp only[Cc] at h
  split at h
  ·rename_i a ha
   split at h
   ·rename_i b hb
    split at h
    ·rename_i c hc;cases h;rw[nL ha,nL hb,ih hc]
    ·cases h
   ·cases h
  ·cases h
def mU {α:Type}:List α->Option (List α)
 | []=>some []
 |x::xs=>match mU xs with
  |some ys=>some (x::ys)
  |none=>none
theorem k6 {α:Type}:∀ {l l':List α},mU l=some l'->l=l':=by
 intro l
 induction l with
 |nil=>intro l' h;cases h;rfl
 |cons x xs ih=>
  intro l' h
  simp only[mU] at h
  split at h
  ·rename_i ys hy;cases h;rw[ih hy]
  ·cases h
def Nj (P:Program) (t:TypeId) (cs:List Value) (off:Nat):Option Value:=match CG P t with
 |some true=>match P.info? t with
  |some i=>if off+i.size<=cs.length then match mU ((cs.drop off).take i.size) with
    |some vs=>some (.agg vs.toArray)
    |none=>none
   else none
  |none=>none
 |some false=>cs[off]?
 |none=>none
theorem M7 {rw:Bool} (hb:H B=some (.cells cs e rw)) (h:Nj P t cs off=some v):Xx P H t (.pointer (some ⟨B,off,none⟩))=some v:=by
 unfold Nj at h
 simp only[Xx,hb]
 split at h
 ·rename_i hag
  simp only[hag]
  split at h
  ·rename_i i hi
   simp only[hi]
   split at h
   ·rename_i hle
    simp only[hle,if_true]
    split at h
    ·rename_i vs hvs;rw[k6 hvs];exact h
    ·cases h
   ·cases h
  ·cases h
 ·rename_i hag;simp only[hag];exact h
 ·cases h
section
variable {Q:Exit->Fr->Hp->Prop} {x y:Code}
end
section
variable {Q:Fr->Hp->Prop}
variable {x y:Operand}
theorem Q0 {cs':List Value} (hx:bJ a x=.pointer (some ⟨B,off,none⟩)) (hy:iG (bJ a y)=some u) (hvs:mU u.cells.toList=some vs) (ht:mJ P t=some n) (hn:(vs.length == n)=true)
  (mS:(vs.all Value.oneCell')=true) (hb:H B=some (.cells cs e true)) (hle:Nat.ble (off+n) cs.length=true) (hs:mU (uK cs off vs)=some cs') (hk:k undef (hupd H B (.cells cs' e true))):
  lD P ⟨d,.store t x y,ty,pos,after,g⟩ a H k:=
 NI hx (f5 hy) (k6 hvs) ht (by simpa using hn) mS hb (by simpa using hle) (by rw[<- Gf,k6 hs];exact hk)
theorem Rn {zs zs':List Value} (hz:Ak P t=some zs) (hc:mU zs=some zs') (hk:∀r,H r=none->k (.pointer (some ⟨r,0,none⟩)) (hupd H r (.cells zs' t true))):lD P ⟨d,.alloc t,ty,pos,after,g⟩ a H k:=
 Ab8 hz (by rw[k6 hc];exact hk)
theorem Z6 (hx:iG (bJ a x)=some v) (hvs:mU v.cells.toList=some vs) (hk:∀r,H r=none->k (.pointer (some ⟨r,0,none⟩)) (hupd H r (.cells vs t true))):lD P ⟨d,.box t x,ty,pos,after,g⟩ a H k:=
 Ai4 (f5 hx) (k6 hvs) hk
def Up (op:BinOp):Option Addr->Option Value
 |none=>match op with|.eql=>some (.bool true)|.neq=>some (.bool false)|_=>none
 |some _=>match op with|.eql=>some (.bool false)|.neq=>some (.bool true)|_=>none
def Ai8 (P:Program) (op:BinOp) (t:TypeId):Value->Value->Option Value
 |.int k m,.int k' n=>match op with
  |.shl=>if n<0 then none else some (.int k (k.wrap (m * 2 ^ (min n.toNat k.bits))))
  |.shr=>if n<0 then none else some (.int k (m.fdiv (2 ^ (min n.toNat k.bits))))
  |.quo=>if k=k' then if n=0 then none else some (.int k (k.wrap (m.tdiv n))) else none
  |.rem=>if k=k' then if n=0 then none else some (.int k (m.tmod n)) else none
  |op=>if k=k' then iG (MC op k m n) else none
 |.string m,.string n=>if N6 op=true then iG (Lt op m n) else none
 |.pointer p,.pointer none=>if GP P t=true then Up op p else none
 |.slice p _ _,.slice none _ _=>if lZ P t=true then Up op p else none
 |.bool b,.bool b'=>if Dq P t=true then match op with
  |.eql=>some (.bool (b == b'))
  |.neq=>some (.bool (!(b == b')))
  |_=>none else none
 |_,_=>none
def Af5 (P:Program) (t:TypeId):Value->Option Value
 |.slice _ n _=>if lZ P t=true then some (.int .i64 n) else none
 |.string s=>if mN P t=true then some (.int .i64 s.size) else none
 |_=>none
def opV (P:Program) (o:Op) (a:Fr):Option Value:=
 match o with
 |.move x=>iG (bJ a x)
 |.assign x=>iG (bJ a x)
 |.pick c x y=>match bJ a c with
  |.bool true=>iG (bJ a x)
  |.bool false=>iG (bJ a y)
  |_=>none
 |.nilCheck x=>match bJ a x with
  |.pointer (some ⟨B,off,s⟩)=>some (.pointer (some ⟨B,off,s⟩))
  |.func (.func f) fs cs=>some (.func (.func f) fs cs)
  |_=>none
 |.binOp op t x y _=>Ai8 P op t (bJ a x) (bJ a y)
 |.unOp .not _ x=>match bJ a x with
  |.bool true=>some (.bool false)
  |.bool false=>some (.bool true)
  |_=>none
 |.fieldAddr t x f=>match bJ a x with
  |.pointer (some ⟨B,off,none⟩)=>match xD P t f with
   |some n=>match yX n with
    |some 0=>some (.pointer (some ⟨B,off,none⟩))
    |some n=>match yX (off+n) with
     |some m=>some (.pointer (some ⟨B,m,none⟩))
     |none=>some (.pointer (some ⟨B,off+n,none⟩))
    |none=>none
   |none=>none
  |_=>none
 |.extract x n=>match bJ a x with
  |.tuple vs=>match vs.toList[n]? with
   |some v=>iG v
   |none=>none
  |_=>none
 |.makeFunc fn fs cs=>match uJ a fs.toList,uJ a cs.toList with
  |some l1,some l2=>some (.func fn l1.toArray l2.toArray)
  |_,_=>none
 |.call { callee:=.builtin .len,args,argTypes }=>match args.toList with
  | [x]=>match argTypes[0]? with
   |some t=>Af5 P t (bJ a x)
   |none=>none
  |_=>none
 |_=>none
theorem UV {op:BinOp} {x y:Operand} {w:Value} (hx:bJ a x=u) (hy:bJ a y=w) (h:Ai8 P op t u w=some v):cA P ⟨d,.binOp op t x y yt,ty,pos,after,g⟩ a=some v:=by
 unfold Ai8 at h
 split at h
 ·rename_i k m k' n
  split at h
  ·split at h
   ·cases h
   ·rename_i hn;cases h;exact YO hx hy hn
  ·split at h
   ·cases h
   ·rename_i hn;cases h;exact ZO hx hy hn
  ·split at h
   ·rename_i hk;subst hk
    split at h
    ·cases h
    ·rename_i hn;cases h;exact Ze hx hy hn
   ·cases h
  ·split at h
   ·rename_i hk;subst hk
    split at h
    ·cases h
    ·rename_i hn;cases h;exact ZC hx hy hn
   ·cases h
  ·rename_i h1 h2 h3 h4
   split at h
   ·rename_i hk;subst hk
    refine CI hx hy ?_ h
    cases op <;> first|rfl|exact absurd rfl h1|exact absurd rfl h2|exact absurd rfl h3|exact absurd rfl h4
   ·cases h
 ·split at h
  ·rename_i hp;exact Aiw hx hy hp h
  ·cases h
 ·rename_i p
  split at h
  ·rename_i ht
   cases p <;> cases op <;> simp only[Up] at h <;> first|(cases h;done)|(cases h;exact QE ht hx hy rfl)|(cases h;exact RN ht hx hy rfl)
  ·cases h
 ·rename_i p _ _ _ _
  split at h
  ·rename_i ht
   cases p <;> cases op <;> simp only[Up] at h <;> first|(cases h;done)|(cases h;exact Ly ht hx hy)|(cases h;exact Mo ht hx hy)
  ·cases h
 ·split at h
  ·rename_i ht
   cases op <;> first|(cases h;done)|(cases h;exact OI ht hx hy)|(cases h;exact NO ht hx hy)
  ·cases h
 ·cases h
theorem Ox (h:opV P o a=some v):cA P ⟨d,o,ty,pos,after,g⟩ a=some v:=by
 unfold opV at h
 split at h
 ·exact Aeu h
 ·exact Vg h
 ·split at h
  ·rename_i hb;exact VR hb h
  ·rename_i hb;exact Xm hb h
  ·cases h
 ·split at h
  ·rename_i hx;cases h;exact Ah5 hx
  ·rename_i hx;cases h;exact Ad1 hx
  ·cases h
 ·exact UV rfl rfl h
 ·split at h
  ·rename_i hx;cases h;exact QK hx rfl
  ·rename_i hx;cases h;exact QK hx rfl
  ·cases h
 ·split at h
  ·rename_i B off hx
   split at h
   ·rename_i n hn
    split at h
    ·rename_i h0
     cases h
     have:=nL h0
     subst this
     exact Dp hx hn
    ·rename_i n' _ hn'
     have:=nL hn'
     subst this
     split at h
     ·rename_i m hm
      cases h
      rw[<- nL hm]
      exact Dp hx hn
     ·cases h;exact Dp hx hn
    ·cases h
   ·cases h
  ·cases h
 ·split at h
  ·rename_i vs hx
   split at h
   ·rename_i u hu
    refine SN hx ?_
    rw[<- f5 h,<- hu,Array.getElem?_toList]
   ·cases h
  ·cases h
 ·split at h
  ·rename_i l1 l2 h1 h2
   cases h
   exact Oz (BA h1) (BA h2)
  ·cases h
 ·rename_i args argTypes
  split at h
  ·rename_i x hargs
   split at h
   ·rename_i t ht
    have key:∀q:TypeId->Bool,q t=true->(argTypes[0]?).any q=true:=fun q hq=>by rw[ht];exact hq
    unfold Af5 at h
    split at h
    ·rename_i A n c hx
     split at h
     ·rename_i hs;cases h
      exact Mk (by rw[hargs,List.map_cons,hx];rfl) (key _ hs)
     ·cases h
    ·rename_i s hx
     split at h
     ·rename_i hs;cases h
      exact SD (by rw[hargs,List.map_cons,hx];rfl) (key _ hs)
     ·cases h
    ·cases h
   ·cases h
  ·cases h
 ·cases h
theorem WK {ts:Array TypeId} (h:(ts[0]?).any (lZ P)=true\/(ts[0]?).any (mN P)=true):Fa P ts=false:=by
 unfold Fa
 cases ht:ts[0]? with
 |none=>rfl
 |some t=>
  rw[ht] at h
  simp only[Option.any_some] at h
  rcases h with h|h
  ·obtain⟨e,he⟩:=m9 h;simp only[he]
  ·simp only[lX h]
theorem Ac0 (h:Af5 P t u=some v):lZ P t=true\/mN P t=true:=by
 unfold Af5 at h
 split at h
 ·split at h
  ·exact .inl ‹_›
  ·cases h
 ·split at h
  ·exact .inr ‹_›
  ·cases h
 ·cases h
theorem Zo (h:opV P o a=some v):kd P o=.pure:=by
 unfold opV at h
 split at h <;> first|rfl|(cases h;done)|skip
 split at h
 ·split at h
  ·rename_i ht
   have:=WK (P:=P) (by rw[ht];exact Ac0 h)
   simp only[kd,this]
  ·cases h
 ·cases h
section
variable {Q:Fr->Hp->Prop}
end
end
end Go.Sl
end
