/- A part of the proof: lemmas; each with the conditions that it states. -/
import Derived.Laws.Entries
import Derived.Test.YtifgibijcmppmaaGreatUaa
set_option linter.unusedVariables false
set_option linter.unusedSimpArgs false
section
namespace Go.Sl
def iC:Value→Option Value
 |.bool b=>some (.bool b)
 |.int k n=>some (.int k n)
 |.string s=>some (.string s)
 |.pointer none=>some (.pointer none)
 |.pointer (some ⟨b,o,s⟩)=>some (.pointer (some ⟨b,o,s⟩))
 |.slice A n c=>some (.slice A n c)
 |.map r=>some (.map r)
 |.func fn f c=>some (.func fn f c)
 |.nilFunc=>some .nilFunc
 |.iface t v=>some (.iface t v)
 |.nilIface=>some .nilIface
 |.agg cs=>some (.agg cs)
 |.tuple vs=>some (.tuple vs)
 |_=>none
theorem gA {x v:Value} (h:iC x=some v):x=v:=by
 unfold iC at h
 split at h <;> first|(cases h;rfl)|cases h
section
variable {P:Program} {ops:Array Oper} {Q:Fr→Hp→Prop} {a:Fr} {H:Hp} {i:Nat} {o:Oper} {rest:List Oper} {v:Value}
theorem cA (h:(execOp (bJ a) o).pr P=some (.value v)):b6 P o a=some v:=by unfold b6;rw[h];rfl
theorem W0 (h:b6 P o a=some v):(execOp (bJ a) o).pr P=some (.value v):=by
 unfold b6 at h
 cases hx:(execOp (bJ a) o).pr P with
 |none=>rw[hx] at h;cases h
 |some n=>rw[hx] at h;cases n <;> first|(simp[KI] at h;subst h;rfl)|cases h
theorem HC {k:Value→Hp→Prop} (h:Jk P o a H=some v) (hk:k v H):lJ P o a H k:=by
 refine fK (Aip P _ (.value v) (nxt P k) ?_ (show nxt P k (.value v) H from hk))
 unfold Jk at h
 cases hx:(execOp (bJ a) o).rd P H with
 |none=>rw[hx] at h;cases h
 |some n=>rw[hx] at h;cases n <;> first|(simp[KI] at h;subst h;rfl)|cases h
theorem Nj (h:b6 P o a=some v):Jk P o a H=some v:=by
 have:=W0 h
 unfold Jk
 rw[Aiq P _ H _ this]
 rfl
theorem Alv (hw:bE ops o a=true) (hv:b6 P o a=some v) (h:cX (Ra ops i) v fun v=>JG P ops Q (i+1) rest (fA a o.dst v) H):JG P ops Q i (o::rest) a H:=by
 unfold JG
 rw[if_pos hw]
 exact HC (Nj hv) h
theorem Al9 (hw:bE ops o a=true) (hv:Jk P o a H=some v) (h:cX (Ra ops i) v fun v=>JG P ops Q (i+1) rest (fA a o.dst v) H):JG P ops Q i (o::rest) a H:=by
 unfold JG
 rw[if_pos hw]
 exact HC hv h
theorem Amc (hw:bE ops o a=true) (h:lJ P o a H fun v H'=>cX (Ra ops i) v fun v=>JG P ops Q (i+1) rest (fA a o.dst v) H'):JG P ops Q i (o::rest) a H:=by
 unfold JG
 rw[if_pos hw]
 exact h
theorem Al8 (hw:bE ops o a=false) (h:JG P ops Q (i+1) rest (fA a o.dst undef) H):JG P ops Q i (o::rest) a H:=by
 unfold JG
 rw[if_neg (by rw[hw];simp)]
 exact h
variable {c:Nat} {l:List (Nat×Nat)} {hist:List Hp}
theorem Amb (ho:ops[i]?=some o) (hk:kd P o.op=.pure) (hw:bE ops o a=true) (hv:b6 P o a=some v) (h:cX (Ra ops i) v fun v=>zE P ops Q l hist (fA a o.dst v) H):zE P ops Q ((i,c)::l) hist a H:=by
 simp only[zE,ho,hw,if_true,hk]
 exact⟨v,hv,h⟩
theorem Alf (ho:ops[i]?=some o) (hk:kd P o.op=.load) (hw:bE ops o a=true) (hv:Jk P o a H=some v) (hh:∀h∈hist.take c,Jk P o a h=some v) (h:cX (Ra ops i) v fun v=>zE P ops Q l hist (fA a o.dst v) H):
  zE P ops Q ((i,c)::l) hist a H:=by
 simp only[zE,ho,hw,if_true,hk]
 exact⟨v,hv,hh,h⟩
theorem Ak6 (ho:ops[i]?=some o) (hk:kd P o.op=.other) (hw:bE ops o a=true) (h:lJ P o a H fun v H'=>cX (Ra ops i) v fun v=>zE P ops Q l (H::hist) (fA a o.dst v) H'):zE P ops Q ((i,c)::l) hist a H:=by
 simp only[zE,ho,hw,if_true,hk]
 exact h
theorem Alh (ho:ops[i]?=some o) (hw:bE ops o a=false) (h:zE P ops Q l hist (fA a o.dst undef) H):zE P ops Q ((i,c)::l) hist a H:=by
 simp only[zE,ho,hw]
 exact h
end
theorem E2 {g:Bool} {v:Value} {k:Value→Prop} (_hg:g=false) (h:k v):cX g v k:=(cG g v k).2 h
theorem Mo {g b:Bool} {k:Value→Prop} (hg:g=true) (h:Br b (k (.bool true)) (k (.bool false))):cX g (.bool b) k:=by subst hg;exact h
theorem Br.t {b:Bool} {x y:Prop} (hb:b=true) (h:x):Br b x y:=⟨fun _=>h,fun h'=>by rw[hb] at h';cases h'⟩
theorem Br.f {b:Bool} {x y:Prop} (hb:b=false) (h:y):Br b x y:=⟨fun h'=>(by rw[hb] at h';cases h'),fun _=>h⟩
section
variable {P:Program} {a:Fr} {d:Option Tmp} {ty:TypeId} {pos:String} {after:Array Edge} {g:Option (Nat×Bool)} {t yt:TypeId} {x y z:Operand}
theorem Agz {v:Value} (hx:iC (bJ a x)=some v):b6 P ⟨d,.move x,ty,pos,after,g⟩ a=some v:=by
 rw[← gA hx];rfl
theorem Wg {v:Value} (hx:iC (bJ a x)=some v):b6 P ⟨d,.assign x,ty,pos,after,g⟩ a=some v:=by
 rw[← gA hx];rfl
theorem VZ {v:Value} (hx:bJ a x=.bool true) (hy:iC (bJ a y)=some v):b6 P ⟨d,.pick x y z,ty,pos,after,g⟩ a=some v:=by
 refine cA ?_
 simp only[execOp,hx,asBool,aU,pure,Sem.pr,Option.bind_some,if_true,gA hy]
theorem WE {v:Value} (hx:bJ a x=.bool false) (hz:iC (bJ a z)=some v):b6 P ⟨d,.pick x y z,ty,pos,after,g⟩ a=some v:=by
 refine cA ?_
 simp only[execOp,hx,asBool,aU,pure,Sem.pr,Option.bind_some,gA hz]
 rfl
theorem Ajp {p:Addr} (hx:bJ a x=.pointer (some p)):b6 P ⟨d,.nilCheck x,ty,pos,after,g⟩ a=some (.pointer (some p)):=by
 refine cA ?_
 simp only[execOp,hx];rfl
theorem Ae4 {fn:FuncId} {fs cs:Array Value} (hx:bJ a x=.func (.func fn) fs cs):b6 P ⟨d,.nilCheck x,ty,pos,after,g⟩ a=some (.func (.func fn) fs cs):=by
 refine cA ?_
 simp only[execOp,hx];rfl
def Nb:BinOp→IntKind→Int→Int→Value
 |.add,k,m,n=>.int k (k.wrap (m+n))
 |.sub,k,m,n=>.int k (k.wrap (m - n))
 |.mul,k,m,n=>.int k (k.wrap (m * n))
 |.eql,_,m,n=>.bool (m == n)
 |.neq,_,m,n=>.bool (m != n)
 |.lss,_,m,n=>.bool (m<n)
 |.leq,_,m,n=>.bool (m≤n)
 |.gtr,_,m,n=>.bool (m > n)
 |.geq,_,m,n=>.bool (m≥n)
 |.and,k,m,n=>.int k (k.wrap (BitVec.ofInt k.bits m &&& BitVec.ofInt k.bits n).toNat)
 |.or,k,m,n=>.int k (k.wrap (BitVec.ofInt k.bits m ||| BitVec.ofInt k.bits n).toNat)
 |.xor,k,m,n=>.int k (k.wrap (BitVec.ofInt k.bits m ^^^ BitVec.ofInt k.bits n).toNat)
 |.andNot,k,m,n=>.int k (k.wrap (BitVec.ofInt k.bits m &&& ~~~BitVec.ofInt k.bits n).toNat)
 |_,_,_,_=>undef
def Abh:BinOp→Bool
 |.quo|.rem|.shl|.shr=>false
 |_=>true
theorem CY {op:BinOp} {k:IntKind} {m n:Int} {v:Value} (hx:bJ a x=.int k m) (hy:bJ a y=.int k n) (hp:Abh op=true) (hv:iC (Nb op k m n)=some v):
  b6 P ⟨d,.binOp op t x y yt,ty,pos,after,g⟩ a=some v:=by
 refine cA ?_
 rw[← gA hv]
 have hb:binOp op t (.int k m) (.int k n)=pure (Nb op k m n):=by
  cases op <;> first|exact absurd hp (by decide)|(simp[binOp,Op.intArith,Op.intCmp,Op.intBits,Nb])
 simp only[execOp,hx,hy,eqGuard_at_int,hb]
 rfl
theorem ZJ {k:IntKind} {m n:Int} (hx:bJ a x=.int k m) (hy:bJ a y=.int k n) (hn:n≠0):b6 P ⟨d,.binOp .quo t x y yt,ty,pos,after,g⟩ a=some (.int k (k.wrap (m.tdiv n))):=by
 refine cA ?_
 simp only[execOp,hx,hy,eqGuard_at_int]
 have:(binOp .quo t (.int k m) (.int k n)).pr P=some (.int k (k.wrap (m.tdiv n))):=by simp[binOp,Op.intDiv,hn];rfl
 simp only[aU,this]
 rfl
theorem Ads {k:IntKind} {m n:Int} (hx:bJ a x=.int k m) (hy:bJ a y=.int k n) (hn:n≠0):b6 P ⟨d,.binOp .rem t x y yt,ty,pos,after,g⟩ a=some (.int k (m.tmod n)):=by
 refine cA ?_
 simp only[execOp,hx,hy,eqGuard_at_int]
 have:(binOp .rem t (.int k m) (.int k n)).pr P=some (.int k (m.tmod n)):=by simp[binOp,Op.intDiv,hn];rfl
 simp only[aU,this]
 rfl
theorem Zw {k yk:IntKind} {m n:Int} (hx:bJ a x=.int k m) (hy:bJ a y=.int yk n) (hn:¬n<0):b6 P ⟨d,.binOp .shl t x y yt,ty,pos,after,g⟩ a=some (.int k (k.wrap (m * 2 ^ (min n.toNat k.bits)))):=by
 refine cA ?_
 simp only[execOp,hx,hy,eqGuard_at_int]
 have:(binOp .shl t (.int k m) (.int yk n)).pr P=some (.int k (k.wrap (m * 2 ^ (min n.toNat k.bits)))):=by simp[binOp,Op.shift,hn];rfl
 simp only[aU,this]
 rfl
theorem Acw {k yk:IntKind} {m n:Int} (hx:bJ a x=.int k m) (hy:bJ a y=.int yk n) (hn:¬n<0):b6 P ⟨d,.binOp .shr t x y yt,ty,pos,after,g⟩ a=some (.int k (m.fdiv (2 ^ (min n.toNat k.bits)))):=by
 refine cA ?_
 simp only[execOp,hx,hy,eqGuard_at_int]
 have:(binOp .shr t (.int k m) (.int yk n)).pr P=some (.int k (m.fdiv (2 ^ (min n.toNat k.bits)))):=by simp[binOp,Op.shift,hn];rfl
 simp only[aU,this]
 rfl
def Nf:BinOp→ByteArray→ByteArray→Value
 |.eql,m,n=>.bool (m.toList == n.toList)
 |.neq,m,n=>.bool (!(m.toList == n.toList))
 |.lss,m,n=>.bool (Op.bytesLess m.toList n.toList)
 |.leq,m,n=>.bool (Op.bytesLess m.toList n.toList || m.toList == n.toList)
 |.gtr,m,n=>.bool (!(Op.bytesLess m.toList n.toList || m.toList == n.toList))
 |.geq,m,n=>.bool (!(Op.bytesLess m.toList n.toList))
 |_,_,_=>undef
def QQ:BinOp→Bool
 |.eql|.neq|.lss|.leq|.gtr|.geq=>true
 |_=>false
theorem Ajd {op:BinOp} {m n:ByteArray} {v:Value} (hx:bJ a x=.string m) (hy:bJ a y=.string n) (hp:QQ op=true) (hv:iC (Nf op m n)=some v):
  b6 P ⟨d,.binOp op t x y yt,ty,pos,after,g⟩ a=some v:=by
 refine cA ?_
 rw[← gA hv]
 have hb:binOp op t (.string m) (.string n)=pure (Nf op m n):=by
  cases op <;> first|exact absurd hp (by decide)|(simp[binOp,Op.stringOp,Nf])
 simp only[execOp,hx,hy,eqGuard_at_string,hb]
 rfl
theorem Akz {m n:ByteArray} (hx:bJ a x=.string m) (hy:bJ a y=.string n) (hs:m.size+n.size≤9223372036854775807):
  b6 P ⟨d,.binOp .add t x y yt,ty,pos,after,g⟩ a=some (.string (m++n)):=by
 refine cA ?_
 simp only[execOp,hx,hy]
 have h:¬((m.size+n.size:Nat):Int) > IntKind.i64.max:=by
  have:IntKind.i64.max=9223372036854775807:=by decide
  rw[this];omega
 have:(binOp .add t (.string m) (.string n)).pr P=some (.string (m++n)):=by simp only[binOp,Op.stringOp];rw[if_neg h];rfl
 simp only[aU,this]
 rfl
theorem Ri {op:BinOp} {u w:Value} (h:(∃p,u=.pointer p)∨(∃b n c,u=.slice b n c)∨(∃r,u=.map r)∨(∃b,u=.bool b)∨u=.nilFunc∨(∃f x y,u=.func f x y)):(eqGuard op t x y u w).pr P=some ():=by
 rcases h with⟨p,rfl⟩|⟨b,n,c,rfl⟩|⟨r,rfl⟩|⟨b,rfl⟩|rfl|⟨f,x,y,rfl⟩ <;> cases op <;> rfl
theorem aL {D:TypeDesc} (h:P.underlying t=some D):(underlying t).pr P=some D:=by
 simp only[underlying,aU,program,Sem.pr,Option.bind_some,h];rfl
theorem DD {e:TypeId} {p:Option Addr} (ht:P.underlying t=some (.pointer e)):(Op.equal t (.pointer p) (.pointer none)).pr P=some p.isNone:=by
 unfold Op.equal Op.maxDepth Op.equalIn
 rw[aU,aL ht,Option.bind_some]
 cases p <;> rfl
theorem AE {e:TypeId} {p:Option Addr} {n c n' c':Nat} (ht:P.underlying t=some (.slice e)):(Op.equal t (.slice p n c) (.slice none n' c')).pr P=some p.isNone:=by
 unfold Op.equal Op.maxDepth Op.equalIn
 rw[aU,aL ht,Option.bind_some]
 cases p <;> rfl
theorem B6 {b b':Bool} (ht:P.underlying t=some .bool):(Op.equal t (.bool b) (.bool b')).pr P=some (b == b'):=by
 unfold Op.equal Op.maxDepth Op.equalIn
 rw[aU,aL ht,Option.bind_some]
 rfl
def If (P:Program) (t:TypeId):Bool:=match P.underlying t with
 |some (.pointer _)=>true
 |_=>false
def lV (P:Program) (t:TypeId):Bool:=match P.underlying t with
 |some (.slice _)=>true
 |_=>false
def Ee (P:Program) (t:TypeId):Bool:=match P.underlying t with
 |some .bool=>true
 |_=>false
theorem FR (h:If P t=true):∃e,P.underlying t=some (.pointer e):=by
 unfold If at h;split at h
 ·exact⟨_,‹_›⟩
 ·cases h
theorem nA (h:lV P t=true):∃e,P.underlying t=some (.slice e):=by
 unfold lV at h;split at h
 ·exact⟨_,‹_›⟩
 ·cases h
theorem EB (h:Ee P t=true):P.underlying t=some .bool:=by
 unfold Ee at h;split at h
 ·assumption
 ·cases h
theorem Mg {u w:Value} (h:(∃p q,u=.pointer p∧w=.pointer q)∨(∃p n c q n' c',u=.slice p n c∧w=.slice q n' c')∨(∃b b',u=.bool b∧w=.bool b')):
  binOp .eql t u w=(do pure (.bool (← Op.equal t u w)))∧binOp .neq t u w=(do pure (.bool (!(← Op.equal t u w)))):=by
 rcases h with⟨p,q,rfl,rfl⟩|⟨p,n,c,q,n',c',rfl,rfl⟩|⟨b,b',rfl,rfl⟩ <;> exact⟨rfl,rfl⟩
theorem tK {u w:Value} {b:Bool} (hx:bJ a x=u) (hy:bJ a y=w) (h:(∃p q,u=.pointer p∧w=.pointer q)∨(∃p n c q n' c',u=.slice p n c∧w=.slice q n' c')∨(∃b b',u=.bool b∧w=.bool b')) (he:(Op.equal t u w).pr P=some b):
  b6 P ⟨d,.binOp .eql t x y yt,ty,pos,after,g⟩ a=some (.bool b)∧b6 P ⟨d,.binOp .neq t x y yt,ty,pos,after,g⟩ a=some (.bool (!b)):=by
 have hg:∀op,(eqGuard op t x y u w).pr P=some ():=fun op=>Ri (by
  rcases h with⟨p,q,rfl,rfl⟩|⟨p,n,c,q,n',c',rfl,rfl⟩|⟨b,b',rfl,rfl⟩
  ·exact .inl ⟨_,rfl⟩
  ·exact .inr (.inl ⟨_,_,_,rfl⟩)
  ·exact .inr (.inr (.inr (.inl ⟨_,rfl⟩))))
 obtain⟨h1,h2⟩:=Mg (t:=t) h
 constructor
 ·refine cA ?_
  simp only[execOp,hx,hy,aU,hg,Option.bind_some,h1,he]
  rfl
 ·refine cA ?_
  simp only[execOp,hx,hy,aU,hg,Option.bind_some,h2,he]
  rfl
theorem Tj {p:Option Addr} {v:Value} (ht:If P t=true) (hx:bJ a x=.pointer p) (hy:bJ a y=.pointer none) (hv:iC (.bool p.isNone)=some v):b6 P ⟨d,.binOp .eql t x y yt,ty,pos,after,g⟩ a=some v:=by
 obtain⟨e,he⟩:=FR ht
 rw[← gA hv]
 exact(tK hx hy (.inl ⟨_,_,rfl,rfl⟩) (DD he)).1
theorem Sv {p:Option Addr} {v:Value} (ht:If P t=true) (hx:bJ a x=.pointer p) (hy:bJ a y=.pointer none) (hv:iC (.bool (!p.isNone))=some v):b6 P ⟨d,.binOp .neq t x y yt,ty,pos,after,g⟩ a=some v:=by
 obtain⟨e,he⟩:=FR ht
 rw[← gA hv]
 exact(tK hx hy (.inl ⟨_,_,rfl,rfl⟩) (DD he)).2
theorem Qq {b b':Bool} (ht:Ee P t=true) (hx:bJ a x=.bool b) (hy:bJ a y=.bool b'):b6 P ⟨d,.binOp .eql t x y yt,ty,pos,after,g⟩ a=some (.bool (b == b')):=
 (tK hx hy (.inr (.inr ⟨_,_,rfl,rfl⟩)) (B6 (EB ht))).1
theorem QL {b b':Bool} (ht:Ee P t=true) (hx:bJ a x=.bool b) (hy:bJ a y=.bool b'):b6 P ⟨d,.binOp .neq t x y yt,ty,pos,after,g⟩ a=some (.bool (!(b == b'))):=
 (tK hx hy (.inr (.inr ⟨_,_,rfl,rfl⟩)) (B6 (EB ht))).2
theorem MQ {p:Option Addr} {n c n' c':Nat} (ht:lV P t=true) (hx:bJ a x=.slice p n c) (hy:bJ a y=.slice none n' c'):b6 P ⟨d,.binOp .eql t x y yt,ty,pos,after,g⟩ a=some (.bool p.isNone):=by
 obtain⟨e,he⟩:=nA ht
 exact(tK hx hy (.inr (.inl ⟨_,_,_,_,_,_,rfl,rfl⟩)) (AE he)).1
theorem LQ {p:Option Addr} {n c n' c':Nat} (ht:lV P t=true) (hx:bJ a x=.slice p n c) (hy:bJ a y=.slice none n' c'):b6 P ⟨d,.binOp .neq t x y yt,ty,pos,after,g⟩ a=some (.bool (!p.isNone)):=by
 obtain⟨e,he⟩:=nA ht
 exact(tK hx hy (.inr (.inl ⟨_,_,_,_,_,_,rfl,rfl⟩)) (AE he)).2
theorem Su {b:Bool} {v:Value} (hx:bJ a x=.bool b) (hv:iC (.bool !b)=some v):b6 P ⟨d,.unOp .not t x,ty,pos,after,g⟩ a=some v:=by
 rw[← gA hv]
 refine cA ?_
 simp only[execOp,hx];rfl
theorem Amh {k:IntKind} {n:Int} (hx:bJ a x=.int k n):b6 P ⟨d,.unOp .neg t x,ty,pos,after,g⟩ a=some (.int k (k.wrap (0 - n))):=by
 refine cA ?_
 simp only[execOp,hx];rfl
theorem d3 {i:TypeInfo} (h:P.info? t=some i):(typeInfo t).pr P=some i:=by
 simp only[typeInfo,aU,program,Sem.pr,Option.bind_some,h];rfl
theorem fF {i:TypeInfo} (h:P.info? t=some i):(sizeOf t).pr P=some i.size:=by
 simp only[sizeOf,aU,d3 h,Option.bind_some];rfl
def xJ (P:Program) (t:TypeId) (f:Nat):Option Nat:=match P.underlying t with
 |some (.struct fs)=>match fs[f]? with
  |some fd=>match P.info? fd.type with
   |some i=>if i.size=0 then none else some fd.offset
   |none=>none
  |none=>none
 |_=>none
theorem Dt {B off n f:Nat} (hx:bJ a x=.pointer (some ⟨B,off,none⟩)) (hf:xJ P t f=some n):b6 P ⟨d,.fieldAddr t x f,ty,pos,after,g⟩ a=some (.pointer (some ⟨B,off+n,none⟩)):=by
 refine cA ?_
 unfold xJ at hf
 split at hf
 ·rename_i fs hu
  split at hf
  ·rename_i fd hfd
   split at hf
   ·rename_i i hi
    split at hf
    ·cases hf
    ·rename_i hz
     cases hf
     simp only[execOp,hx,Instr.fieldAt,aU,aL hu,Option.bind_some,hfd,Instr.sureAddr,pure,Sem.pr,fieldPlace,fF hi,if_neg hz,nG]
   ·cases hf
  ·cases hf
 ·cases hf
def sI (P:Program) (t:TypeId):Option Nat:=match P.underlying t with
 |some (.slice e)=>match P.info? e with
  |some i=>some i.size
  |none=>none
 |_=>none
theorem Ge {sz:Nat} (h:sI P t=some sz):∃e i,P.underlying t=some (.slice e)∧P.info? e=some i∧i.size=sz:=by
 unfold sI at h
 split at h
 ·rename_i e hu
  split at h
  ·rename_i i hi;exact⟨e,i,hu,hi,by simpa using h⟩
  ·cases h
 ·cases h
theorem I1 {B off n c sz:Nat} {k:IntKind} {j:Int} (ht:sI P t=some sz) (hx:bJ a x=.slice (some ⟨B,off,none⟩) n c) (hy:bJ a y=.int k j) (h0:0≤j) (h1:j<n):
  b6 P ⟨d,.indexAddr t x y,ty,pos,after,g⟩ a=some (.pointer (some ⟨B,off+j.toNat * sz,none⟩)):=by
 obtain⟨e,i,hu,hi,rfl⟩:=Ge ht
 refine cA ?_
 simp only[execOp,hx,hy,Instr.indexAt,aU,asIntOf,pure,Sem.pr,Option.bind_some,aL hu,h0,h1,and_self,if_true,fF hi,nG]
theorem MJ {A:Option Addr} {n c:Nat} {Amo:Array Operand} {ts:Array TypeId} (hargs:Amo.toList.map (bJ a)= [.slice A n c]) (ht:(ts[0]?).any (lV P)=true):
  b6 P ⟨d,.call { callee:=.builtin .len,args:=Amo,argTypes:=ts },ty,pos,after,g⟩ a=some (.int .i64 n):=by
 refine cA ?_
 have h1:Amo.map (bJ a)=#[.slice A n c]:=by apply Array.ext';simpa using hargs
 cases h0:ts[0]? with
 |none=>rw[h0] at ht;cases ht
 |some t0=>
  rw[h0] at ht
  obtain⟨e,he⟩:=nA (by simpa using ht)
  simp only[execOp,resolve,h1,aU,pure,Sem.pr,Option.bind_some,invoke,builtin,Builtin.len_,h0]
  simp only[List.getElem?_toArray,List.getElem?_cons_zero,aU,aL he,Option.bind_some]
  rfl
def nO (P:Program) (t:TypeId):Bool:=match P.underlying t with
 |some .string=>true
 |_=>false
theorem lK (h:nO P t=true):P.underlying t=some .string:=by
 unfold nO at h;split at h
 ·assumption
 ·cases h
theorem SK {s:ByteArray} {Amo:Array Operand} {ts:Array TypeId} (hargs:Amo.toList.map (bJ a)= [.string s]) (ht:(ts[0]?).any (nO P)=true):
  b6 P ⟨d,.call { callee:=.builtin .len,args:=Amo,argTypes:=ts },ty,pos,after,g⟩ a=some (.int .i64 s.size):=by
 refine cA ?_
 have h1:Amo.map (bJ a)=#[.string s]:=by apply Array.ext';simpa using hargs
 cases h0:ts[0]? with
 |none=>rw[h0] at ht;cases ht
 |some t0=>
  rw[h0] at ht
  have he:=lK (by simpa using ht)
  simp only[execOp,resolve,h1,aU,pure,Sem.pr,Option.bind_some,invoke,builtin,Builtin.len_,h0]
  simp only[List.getElem?_toArray,List.getElem?_cons_zero,aU,aL he,Option.bind_some]
  rfl
theorem Sc {vs:Array Value} {n:Nat} {v:Value} (hx:bJ a x=.tuple vs) (hv:vs[n]?=some v):b6 P ⟨d,.extract x n,ty,pos,after,g⟩ a=some v:=by
 refine cA ?_
 simp only[execOp,hx,Instr.extract,hv];rfl
theorem P7 {fn:Fn} {fs cs:Array Operand} {l1 l2:List Value} (h1:fs.toList.map (bJ a)=l1) (h2:cs.toList.map (bJ a)=l2):b6 P ⟨d,.makeFunc fn fs cs,ty,pos,after,g⟩ a=some (.func fn l1.toArray l2.toArray):=by
 refine cA ?_
 have e1:fs.map (bJ a)=l1.toArray:=by apply Array.ext';simpa using h1
 have e2:cs.map (bJ a)=l2.toArray:=by apply Array.ext';simpa using h2
 simp only[execOp,e1,e2];rfl
theorem Hh {s:ByteArray} {k:IntKind} {j:Int} (ht:nO P t=true) (hx:bJ a x=.string s) (hy:bJ a y=.int k j) (h0:0≤j) (h1:j≤s.size):
  b6 P ⟨d,.slice t x (some y) none none,ty,pos,after,g⟩ a=some (.string (s.extract j.toNat s.size)):=by
 refine cA ?_
 simp only[execOp,hx,Option.map_some,Option.map_none,hy,Instr.sliceAt,Instr.slice,aU,aL (lK ht),Option.bind_some,Instr.sliceBounds,Instr.sliceBound,asIntOf,pure,Sem.pr,h0,h1,and_self,if_true,
  Option.isSome_none,Bool.false_eq_true,if_false]
theorem Hj {s:ByteArray} {k:IntKind} {j:Int} (ht:nO P t=true) (hx:bJ a x=.string s) (hy:bJ a y=.int k j) (h0:0≤j) (h1:j≤s.size):
  b6 P ⟨d,.slice t x none (some y) none,ty,pos,after,g⟩ a=some (.string (s.extract 0 j.toNat)):=by
 refine cA ?_
 simp only[execOp,hx,Option.map_some,Option.map_none,hy,Instr.sliceAt,Instr.slice,aU,aL (lK ht),Option.bind_some,Instr.sliceBounds,Instr.sliceBound,asIntOf,pure,Sem.pr,h0,h1,and_self,if_true,
  Option.isSome_none,Bool.false_eq_true,if_false]
theorem Qa {s:ByteArray} {k k':IntKind} {j m:Int} (ht:nO P t=true) (hx:bJ a x=.string s) (hy:bJ a y=.int k j) (hz:bJ a z=.int k' m) (h0:0≤j) (h1:j≤m) (h2:m≤s.size):
  b6 P ⟨d,.slice t x (some y) (some z) none,ty,pos,after,g⟩ a=some (.string (s.extract j.toNat m.toNat)):=by
 refine cA ?_
 have e1:0≤m:=by omega
 have e2:j≤(m.toNat:Int):=by omega
 simp only[execOp,hx,Option.map_some,hy,hz,Option.map_none,Instr.sliceAt,Instr.slice,aU,aL (lK ht),Option.bind_some,Instr.sliceBounds,Instr.sliceBound,asIntOf,pure,Sem.pr,h0,h2,e1,e2,and_self,if_true,
  Option.isSome_none,Bool.false_eq_true,if_false]
theorem T4 {H:Hp} {v:Value} (h:Yx P H t (bJ a x)=some v):Jk P ⟨d,.load t x,ty,pos,after,g⟩ a H=some v:=by
 unfold Jk
 simp only[execOp,fR,V6 h,Option.bind_some,x7];rfl
end
end Go.Sl
namespace Go.Sl
def mI:List Value→Nat→List Value→List Value
 |cs,_,[]=>cs
 |cs,off,v::vs=>mI (cs.set off v) (off+1) vs
def WC:List Value→List Value→List Value
 | [],cs=>cs
 |_::_,[]=> []
 |v::vs,_::cs=>v::WC vs cs
def uK:List Value→Nat→List Value→List Value
 |cs,0,vs=>WC vs cs
 | [],_+1,_=> []
 |c::cs,n+1,vs=>c::uK cs n vs
theorem Lc:∀(vs:List Value) (off:Nat),mI [] off vs= []:=by
 intro vs
 induction vs with
 |nil=>intro off;rfl
 |cons v vs ih=>intro off;simp only[mI,List.set_nil,ih]
theorem IS:∀(vs:List Value) (c:Value) (cs:List Value) (off:Nat),mI (c::cs) (off+1) vs=c::mI cs off vs:=by
 intro vs
 induction vs with
 |nil=>intro c cs off;rfl
 |cons v vs ih=>intro c cs off;simp only[mI,List.set_cons_succ,ih]
theorem IZ:∀(vs cs:List Value),mI cs 0 vs=WC vs cs:=by
 intro vs
 induction vs with
 |nil=>intro cs;rfl
 |cons v vs ih=>
  intro cs
  cases cs with
  |nil=>simp only[Lc,WC]
  |cons c cs=>simp only[mI,List.set_cons_zero,IS,WC,ih]
theorem GK:∀(cs:List Value) (off:Nat) (vs:List Value),uK cs off vs=mI cs off vs:=by
 intro cs
 induction cs with
 |nil=>
  intro off vs
  cases off with
  |zero=>simp only[uK,IZ]
  |succ n=>simp only[uK,Lc]
 |cons c cs ih=>
  intro off vs
  cases off with
  |zero=>simp only[uK,IZ]
  |succ n=>simp only[uK,IS,ih]
theorem XO (H:Hp) (r:Nat) (b c:sP):hupd (hupd H r b) r c=hupd H r c:=by
 funext i;unfold hupd;split <;> rfl
theorem VT {H:Hp} {r:Nat} {b:sP} (h:H r=some b):hupd H r b=H:=by
 funext i;unfold hupd;split
 ·rename_i e;rw[e,h]
 ·rfl
def uY (a:Fr):List Operand→Option (List Value)
 | []=>some []
 |x::xs=>match iC (bJ a x),uY a xs with
  |some v,some vs=>some (v::vs)
  |_,_=>none
theorem Bs {a:Fr}:∀ {xs:List Operand} {vs:List Value},uY a xs=some vs→xs.map (bJ a)=vs:=by
 intro xs
 induction xs with
 |nil=>intro vs h;cases h;rfl
 |cons x xs ih=>
  intro vs h
  simp only[uY] at h
  split at h
  ·rename_i v vs' h1 h2
   cases h
   rw[List.map_cons,ih h2,gA h1]
  ·cases h
section
variable {P:Program} {a:Fr} {H:Hp} {k:Value→Hp→Prop} {d:Option Tmp} {ty:TypeId} {pos:String} {after:Array Edge} {g:Option (Nat×Bool)} {t:TypeId} {x y:Operand}
theorem aP {α:Type} {s:Sem α} {v:α} (h:s.pr P=some v) (H:Hp) (q:α→Hp→Prop):s.ev P H q=q v H:=by
 induction s with
 |pure a=>simp[Sem.pr] at h;subst h;rfl
 |program k ih=>exact ih P h
 |mark m k ih=>exact ih h
 |_=>cases h
theorem m6 {B:Nat} {e:TypeId}:∀(vs:List Value) (i off:Nat) (cs:List Value) (H:Hp) (q:Unit→Hp→Prop),H B=some (.cells cs e true)→off+i+vs.length≤cs.length→(vs.all Value.oneCell')=true→
  q () (hupd H B (.cells (mI cs (off+i) vs) e true))→(storeCells ⟨B,off,none⟩ vs i).ev P H q:=by
 intro vs
 induction vs with
 |nil=>
  intro i off cs H q hb _ _ hq
  simp only[mI,VT hb] at hq
  unfold storeCells
  exact hq
 |cons v vs ih=>
  intro i off cs H q hb hle mR hq
  simp only[List.all_cons,Bool.and_eq_true] at mR
  unfold storeCells
  rw[aJ,nG]
  simp only[List.length_cons] at hle
  refine⟨mR.1,cs,e,hb,rfl,by simp only;omega,?_⟩
  refine ih (i+1) off (cs.set (off+i) v) _ q (j7 _ _ _) (by simp;omega) mR.2 ?_
  rw[XO]
  exact hq
def oZ (P:Program) (t:TypeId):Option Nat:=match P.info? t with
 |some i=>some i.size
 |none=>none
theorem sB {n:Nat} (h:oZ P t=some n):∃i,P.info? t=some i∧i.size=n:=by
 unfold oZ at h
 split at h
 ·exact⟨_,‹_›,by simpa using h⟩
 ·cases h
theorem PG {B off n:Nat} {cs vs:List Value} {e:TypeId} {u:Value} (hx:bJ a x=.pointer (some ⟨B,off,none⟩)) (hy:bJ a y=u) (hvs:u.cells.toList=vs) (ht:oZ P t=some n) (hn:vs.length=n)
  (mR:(vs.all Value.oneCell')=true) (hb:H B=some (.cells cs e true)) (hle:off+n≤cs.length) (hk:k undef (hupd H B (.cells (mI cs off vs) e true))):
  lJ P ⟨d,.store t x y,ty,pos,after,g⟩ a H k:=by
 obtain⟨i,hi,rfl⟩:=sB ht
 refine fK ?_
 simp only[execOp,hx,hy,Instr.storeAt,aJ]
 rw[aP (show(Instr.sureAddr (.pointer (some ⟨B,off,none⟩))).pr P=some ⟨B,off,none⟩ from rfl)]
 have hsz:u.cells.size=i.size:=by rw[← hn,← hvs];simp
 simp only[storeVar,aJ]
 rw[aP (fF hi),if_neg (by rw[hsz];simp)]
 refine m6 _ 0 off cs H _ hb (by rw[hvs,hn];omega) (by rw[hvs];exact mR) ?_
 rw[hvs]
 exact hk
def AM (P:Program) (t:TypeId):Option (List Value):=match P.info? t with
 |some i=>match i.zero with
  |some z=>some z.cells.toList
  |none=>none
 |none=>none
theorem Lp {v:Value} {q:Addr→Hp→Prop} (hk:∀r,H r=none→q ⟨r,0,none⟩ (hupd H r (.cells v.cells.toList t true))):(newVar t v).ev P H q:=by
 unfold newVar newRow
 rw[aJ]
 intro r hr
 exact⟨rfl,hk r hr⟩
theorem Aa2 {zs:List Value} (hz:AM P t=some zs) (hk:∀r,H r=none→k (.pointer (some ⟨r,0,none⟩)) (hupd H r (.cells zs t true))):lJ P ⟨d,.alloc t,ty,pos,after,g⟩ a H k:=by
 unfold AM at hz
 split at hz
 ·rename_i i hi
  split at hz
  ·rename_i z hz'
   cases hz
   have hzv:(zeroValue t).pr P=some z:=by simp only[zeroValue,aU,d3 hi,Option.bind_some,hz'];rfl
   refine fK ?_
   simp only[execOp,Instr.alloc,aJ]
   rw[aP hzv]
   exact Lp hk
  ·cases hz
 ·cases hz
theorem Aka {v:Value} {vs:List Value} (hx:bJ a x=v) (hvs:v.cells.toList=vs) (hk:∀r,H r=none→k (.pointer (some ⟨r,0,none⟩)) (hupd H r (.cells vs t true))):lJ P ⟨d,.box t x,ty,pos,after,g⟩ a H k:=by
 subst hx hvs
 refine fK ?_
 simp only[execOp,Instr.box,aJ]
 exact Lp hk
theorem OJ {f:FuncId} {args:Array Value} (h:sN P f args H k):(callFunc f args).ev P H (nxt P k):=by
 obtain⟨fn,h1,h2,h3⟩:=h.has
 unfold callFunc
 rw[aJ,aP (show program.pr P=some P from rfl)]
 simp only[h1,h2,h3,Bool.false_eq_true,if_false]
 exact h
theorem OE {f:FuncId} {fs cs:Array Value} {Amo:Array Operand} {ts:Array TypeId} {vs:List Value} (hx:bJ a x=.func (.func f) fs cs) (hargs:uY a Amo.toList=some vs) (h:sN P f (fs++vs.toArray++cs) H k):
  lJ P ⟨d,.call { callee:=.value x,args:=Amo,argTypes:=ts },ty,pos,after,g⟩ a H k:=by
 have e1:Amo.map (bJ a)=vs.toArray:=by apply Array.ext';simpa using Bs hargs
 refine fK ?_
 simp only[execOp,resolve,hx,e1,Deferred.ofValue]
 rw[aJ,aP (show(pure _:Sem Deferred).pr P=some _ from rfl)]
 simp only[invoke]
 exact OJ h
theorem Ah6 {f:FuncId} {Amo:Array Operand} {ts:Array TypeId} {vs:List Value} (hargs:uY a Amo.toList=some vs) (h:sN P f vs.toArray H k):
  lJ P ⟨d,.call { callee:=.value (.func f),args:=Amo,argTypes:=ts },ty,pos,after,g⟩ a H k:=
 OE (f:=f) (fs:=#[]) (cs:=#[]) rfl hargs (by simpa using h)
end
end Go.Sl
namespace Go.Sl
def zC:Nat→Option Nat
 |0=>some 0|1=>some 1|2=>some 2|3=>some 3|4=>some 4|5=>some 5|6=>some 6|7=>some 7|8=>some 8|9=>some 9|10=>some 10|11=>some 11|12=>some 12|13=>some 13|14=>some 14|15=>some 15
 |16=>some 16|17=>some 17|18=>some 18|19=>some 19|20=>some 20|21=>some 21|22=>some 22|23=>some 23|24=>some 24|25=>some 25|26=>some 26|27=>some 27|28=>some 28|29=>some 29|30=>some 30|31=>some 31
 |32=>some 32|33=>some 33|34=>some 34|35=>some 35|36=>some 36|37=>some 37|38=>some 38|39=>some 39|40=>some 40|41=>some 41|42=>some 42|43=>some 43|44=>some 44|45=>some 45|46=>some 46|47=>some 47
 |48=>some 48|49=>some 49|50=>some 50|51=>some 51|52=>some 52|53=>some 53|54=>some 54|55=>some 55|56=>some 56|57=>some 57|58=>some 58|59=>some 59|60=>some 60|61=>some 61|62=>some 62|63=>some 63
 |64=>some 64|65=>some 65|66=>some 66|67=>some 67|68=>some 68|69=>some 69|70=>some 70|71=>some 71|72=>some 72|73=>some 73|74=>some 74|75=>some 75|76=>some 76|77=>some 77|78=>some 78|79=>some 79
 |80=>some 80|81=>some 81|82=>some 82|83=>some 83|84=>some 84|85=>some 85|86=>some 86|87=>some 87|88=>some 88|89=>some 89|90=>some 90|91=>some 91|92=>some 92|93=>some 93|94=>some 94|95=>some 95|_=>none
theorem nF {n m:Nat} (h:zC n=some m):n=m:=by
 unfold zC at h
 split at h <;> first|exact Option.some.inj h|cases h
def CB:List (Nat×Nat)→Option (List (Nat×Nat))
 | []=>some []
 |(x,y)::l=>match zC x with
  |some x=>match zC y with
   |some y=>match CB l with
    |some l=>some ((x,y)::l)
    |none=>none
   |none=>none
  |none=>none
theorem VR:∀ {l l':List (Nat×Nat)},CB l=some l'→l=l':=by
 intro l
 induction l with
 |nil=>intro l' h;exact Option.some.inj h
 |cons x l ih=>
  intro l' h
  obtain⟨x,y⟩:=x
  simp only[CB] at h
  split at h
  ·rename_i a ha
   split at h
   ·rename_i b hb
    split at h
    ·rename_i c hc;cases h;rw[nF ha,nF hb,ih hc]
    ·cases h
   ·cases h
  ·cases h
def nB {α:Type}:List α→Option (List α)
 | []=>some []
 |x::xs=>match nB xs with
  |some ys=>some (x::ys)
  |none=>none
theorem kN {α:Type}:∀ {l l':List α},nB l=some l'→l=l':=by
 intro l
 induction l with
 |nil=>intro l' h;cases h;rfl
 |cons x xs ih=>
  intro l' h
  simp only[nB] at h
  split at h
  ·rename_i ys hy;cases h;rw[ih hy]
  ·cases h
def Q6 (P:Program) (t:TypeId) (cs:List Value) (off:Nat):Option Value:=match Cv P t with
 |some true=>match P.info? t with
  |some i=>if off+i.size≤cs.length then match nB ((cs.drop off).take i.size) with
    |some vs=>some (.agg vs.toArray)
    |none=>none
   else none
  |none=>none
 |some false=>cs[off]?
 |none=>none
theorem L1 {P:Program} {t:TypeId} {cs:List Value} {off B:Nat} {e:TypeId} {rw:Bool} {H:Hp} {v:Value} (hb:H B=some (.cells cs e rw)) (h:Q6 P t cs off=some v):Yx P H t (.pointer (some ⟨B,off,none⟩))=some v:=by
 unfold Q6 at h
 simp only[Yx,hb]
 split at h
 ·rename_i hag
  simp only[hag]
  split at h
  ·rename_i i hi
   simp only[hi]
   split at h
   ·rename_i hle
    simp only[hle,if_true]
    split at h
    ·rename_i vs hvs;rw[kN hvs];exact h
    ·cases h
   ·cases h
  ·cases h
 ·rename_i hag;simp only[hag];exact h
 ·cases h
section
variable {P:Program} {Q:Exit→Fr→Hp→Prop} {K:Fr→Hp→Prop} {a:Fr} {H:Hp} {x y:Code} {id:Nat} {ol:List Oper}
end
section
variable {P:Program} {ops:Array Oper} {Q:Fr→Hp→Prop} {a:Fr} {H:Hp} {i c:Nat} {rest:List Oper} {l:List (Nat×Nat)} {hist:List Hp} {d':Nat} {d:Option Tmp}
variable {ty:TypeId} {pos:String} {after:Array Edge} {g:Option (Nat×Bool)} {t yt:TypeId} {x y z:Operand}
variable {k:Value→Hp→Prop}
theorem SH {B off n:Nat} {cs cs' vs:List Value} {e:TypeId} {u:Value} (hx:bJ a x=.pointer (some ⟨B,off,none⟩)) (hy:iC (bJ a y)=some u) (hvs:nB u.cells.toList=some vs) (ht:oZ P t=some n) (hn:(vs.length == n)=true)
  (mR:(vs.all Value.oneCell')=true) (hb:H B=some (.cells cs e true)) (hle:Nat.ble (off+n) cs.length=true) (hs:nB (uK cs off vs)=some cs') (hk:k undef (hupd H B (.cells cs' e true))):
  lJ P ⟨d,.store t x y,ty,pos,after,g⟩ a H k:=
 PG hx (gA hy) (kN hvs) ht (by simpa using hn) mR hb (by simpa using hle) (by rw[← GK,kN hs];exact hk)
theorem Rm {zs zs':List Value} (hz:AM P t=some zs) (hc:nB zs=some zs') (hk:∀r,H r=none→k (.pointer (some ⟨r,0,none⟩)) (hupd H r (.cells zs' t true))):lJ P ⟨d,.alloc t,ty,pos,after,g⟩ a H k:=
 Aa2 hz (by rw[kN hc];exact hk)
theorem Ab7 {v:Value} {vs:List Value} (hx:iC (bJ a x)=some v) (hvs:nB v.cells.toList=some vs) (hk:∀r,H r=none→k (.pointer (some ⟨r,0,none⟩)) (hupd H r (.cells vs t true))):lJ P ⟨d,.box t x,ty,pos,after,g⟩ a H k:=
 Aka (gA hx) (kN hvs) hk
def U2 (op:BinOp):Option Addr→Option Value
 |none=>match op with|.eql=>some (.bool true)|.neq=>some (.bool false)|_=>none
 |some _=>match op with|.eql=>some (.bool false)|.neq=>some (.bool true)|_=>none
def Aj9 (P:Program) (op:BinOp) (t:TypeId):Value→Value→Option Value
 |.int k m,.int k' n=>match op with
  |.shl=>if n<0 then none else some (.int k (k.wrap (m * 2 ^ (min n.toNat k.bits))))
  |.shr=>if n<0 then none else some (.int k (m.fdiv (2 ^ (min n.toNat k.bits))))
  |.quo=>if k=k' then if n=0 then none else some (.int k (k.wrap (m.tdiv n))) else none
  |.rem=>if k=k' then if n=0 then none else some (.int k (m.tmod n)) else none
  |op=>if k=k' then iC (Nb op k m n) else none
 |.string m,.string n=>if QQ op=true then iC (Nf op m n) else none
 |.pointer p,.pointer none=>if If P t=true then U2 op p else none
 |.slice p _ _,.slice none _ _=>if lV P t=true then U2 op p else none
 |.bool b,.bool b'=>if Ee P t=true then match op with
  |.eql=>some (.bool (b == b'))
  |.neq=>some (.bool (!(b == b')))
  |_=>none else none
 |_,_=>none
def Af2 (P:Program) (t:TypeId):Value→Option Value
 |.slice _ n _=>if lV P t=true then some (.int .i64 n) else none
 |.string s=>if nO P t=true then some (.int .i64 s.size) else none
 |_=>none
def opV (P:Program) (o:Op) (a:Fr):Option Value:=
 match o with
 |.move x=>iC (bJ a x)
 |.assign x=>iC (bJ a x)
 |.pick c x y=>match bJ a c with
  |.bool true=>iC (bJ a x)
  |.bool false=>iC (bJ a y)
  |_=>none
 |.nilCheck x=>match bJ a x with
  |.pointer (some ⟨B,off,s⟩)=>some (.pointer (some ⟨B,off,s⟩))
  |.func (.func f) fs cs=>some (.func (.func f) fs cs)
  |_=>none
 |.binOp op t x y _=>Aj9 P op t (bJ a x) (bJ a y)
 |.unOp .not _ x=>match bJ a x with
  |.bool true=>some (.bool false)
  |.bool false=>some (.bool true)
  |_=>none
 |.fieldAddr t x f=>match bJ a x with
  |.pointer (some ⟨B,off,none⟩)=>match xJ P t f with
   |some n=>match zC n with
    |some 0=>some (.pointer (some ⟨B,off,none⟩))
    |some n=>match zC (off+n) with
     |some m=>some (.pointer (some ⟨B,m,none⟩))
     |none=>some (.pointer (some ⟨B,off+n,none⟩))
    |none=>none
   |none=>none
  |_=>none
 |.extract x n=>match bJ a x with
  |.tuple vs=>match vs.toList[n]? with
   |some v=>iC v
   |none=>none
  |_=>none
 |.makeFunc fn fs cs=>match uY a fs.toList,uY a cs.toList with
  |some l1,some l2=>some (.func fn l1.toArray l2.toArray)
  |_,_=>none
 |.call { callee:=.builtin .len,args,argTypes }=>match args.toList with
  | [x]=>match argTypes[0]? with
   |some t=>Af2 P t (bJ a x)
   |none=>none
  |_=>none
 |_=>none
section
variable {P:Program} {a:Fr} {d:Option Tmp} {ty:TypeId} {pos:String} {after:Array Edge} {g:Option (Nat×Bool)} {v:Value}
theorem X2 {op:BinOp} {t yt:TypeId} {x y:Operand} {u w:Value} (hx:bJ a x=u) (hy:bJ a y=w) (h:Aj9 P op t u w=some v):b6 P ⟨d,.binOp op t x y yt,ty,pos,after,g⟩ a=some v:=by
 unfold Aj9 at h
 split at h
 ·rename_i k m k' n
  split at h
  ·split at h
   ·cases h
   ·rename_i hn;cases h;exact Zw hx hy hn
  ·split at h
   ·cases h
   ·rename_i hn;cases h;exact Acw hx hy hn
  ·split at h
   ·rename_i hk;subst hk
    split at h
    ·cases h
    ·rename_i hn;cases h;exact ZJ hx hy hn
   ·cases h
  ·split at h
   ·rename_i hk;subst hk
    split at h
    ·cases h
    ·rename_i hn;cases h;exact Ads hx hy hn
   ·cases h
  ·rename_i h1 h2 h3 h4
   split at h
   ·rename_i hk;subst hk
    refine CY hx hy ?_ h
    cases op <;> first|rfl|exact absurd rfl h1|exact absurd rfl h2|exact absurd rfl h3|exact absurd rfl h4
   ·cases h
 ·split at h
  ·rename_i hp;exact Ajd hx hy hp h
  ·cases h
 ·rename_i p
  split at h
  ·rename_i ht
   cases p <;> cases op <;> simp only[U2] at h <;> first|(cases h;done)|(cases h;exact Tj ht hx hy rfl)|(cases h;exact Sv ht hx hy rfl)
  ·cases h
 ·rename_i p _ _ _ _
  split at h
  ·rename_i ht
   cases p <;> cases op <;> simp only[U2] at h <;> first|(cases h;done)|(cases h;exact MQ ht hx hy)|(cases h;exact LQ ht hx hy)
  ·cases h
 ·split at h
  ·rename_i ht
   cases op <;> first|(cases h;done)|(cases h;exact Qq ht hx hy)|(cases h;exact QL ht hx hy)
  ·cases h
 ·cases h
theorem PM {o:Op} (h:opV P o a=some v):b6 P ⟨d,o,ty,pos,after,g⟩ a=some v:=by
 unfold opV at h
 split at h
 ·exact Agz h
 ·exact Wg h
 ·split at h
  ·rename_i hb;exact VZ hb h
  ·rename_i hb;exact WE hb h
  ·cases h
 ·split at h
  ·rename_i hx;cases h;exact Ajp hx
  ·rename_i hx;cases h;exact Ae4 hx
  ·cases h
 ·exact X2 rfl rfl h
 ·split at h
  ·rename_i hx;cases h;exact Su hx rfl
  ·rename_i hx;cases h;exact Su hx rfl
  ·cases h
 ·split at h
  ·rename_i B off hx
   split at h
   ·rename_i n hn
    split at h
    ·rename_i h0
     cases h
     have:=nF h0
     subst this
     exact Dt hx hn
    ·rename_i n' _ hn'
     have:=nF hn'
     subst this
     split at h
     ·rename_i m hm
      cases h
      rw[← nF hm]
      exact Dt hx hn
     ·cases h;exact Dt hx hn
    ·cases h
   ·cases h
  ·cases h
 ·split at h
  ·rename_i vs hx
   split at h
   ·rename_i u hu
    refine Sc hx ?_
    rw[← gA h,← hu,Array.getElem?_toList]
   ·cases h
  ·cases h
 ·split at h
  ·rename_i l1 l2 h1 h2
   cases h
   exact P7 (Bs h1) (Bs h2)
  ·cases h
 ·rename_i args argTypes
  split at h
  ·rename_i x hargs
   split at h
   ·rename_i t ht
    have key:∀q:TypeId→Bool,q t=true→(argTypes[0]?).any q=true:=fun q hq=>by rw[ht];exact hq
    unfold Af2 at h
    split at h
    ·rename_i A n c hx
     split at h
     ·rename_i hs;cases h
      exact MJ (by rw[hargs,List.map_cons,hx];rfl) (key _ hs)
     ·cases h
    ·rename_i s hx
     split at h
     ·rename_i hs;cases h
      exact SK (by rw[hargs,List.map_cons,hx];rfl) (key _ hs)
     ·cases h
    ·cases h
   ·cases h
  ·cases h
 ·cases h
theorem W3 {P:Program} {ts:Array TypeId} (h:(ts[0]?).any (lV P)=true∨(ts[0]?).any (nO P)=true):Fs P ts=false:=by
 unfold Fs
 cases ht:ts[0]? with
 |none=>rfl
 |some t=>
  rw[ht] at h
  simp only[Option.any_some] at h
  rcases h with h|h
  ·obtain⟨e,he⟩:=nA h;simp only[he]
  ·simp only[lK h]
theorem Aft {t:TypeId} {u:Value} (h:Af2 P t u=some v):lV P t=true∨nO P t=true:=by
 unfold Af2 at h
 split at h
 ·split at h
  ·exact .inl ‹_›
  ·cases h
 ·split at h
  ·exact .inr ‹_›
  ·cases h
 ·cases h
theorem Zr {o:Op} (h:opV P o a=some v):kd P o=.pure:=by
 unfold opV at h
 split at h <;> first|rfl|(cases h;done)|skip
 split at h
 ·split at h
  ·rename_i ht
   have:=W3 (P:=P) (by rw[ht];exact Aft h)
   simp only[kd,this]
  ·cases h
 ·cases h
end
section
variable {P:Program} {ops:Array Oper} {Q:Fr→Hp→Prop} {a:Fr} {H:Hp} {i c:Nat} {rest:List Oper} {l:List (Nat×Nat)} {hist:List Hp} {d':Nat} {v:Value}
variable {ty:TypeId} {pos:String} {after:Array Edge} {g:Option (Nat×Bool)} {o:Op}
end
end
end Go.Sl
end
