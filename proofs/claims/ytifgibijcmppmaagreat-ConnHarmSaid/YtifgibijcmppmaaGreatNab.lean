/- A part of the proof: lemmas; each with the conditions that it states. -/
import Derived.Laws.Entries
import Derived.Laws.StructEq
import Derived.ProofKit
import Derived.Below
import Derived.ChangeSame
import Derived.Carry
import Derived.Test.YtifgibijcmppmaaGreatNaa
set_option linter.unusedVariables false
set_option linter.unusedSimpArgs false
section
namespace Go.Sl
def iP:Value→Option Value
 |.bool b=>some (.bool b)
 |.int k n=>some (.int k n)
 |.string s=>some (.string s)
 |.pointer none=>some (.pointer none)
 |.pointer (some ⟨b,o,s⟩)=>some (.pointer (some ⟨b,o,s⟩))
 |.slice A n c=>some (.slice A n c)
 |.map r=>some (.map r)
 |.func fn f c=>some (.func fn f c)
 |.nilFunc=>some .nilFunc
 |.iface t v=>some (.iface t v)
 |.nilIface=>some .nilIface
 |.agg cs=>some (.agg cs)
 |.tuple vs=>some (.tuple vs)
 |_=>none
theorem gM {x v:Value} (h:iP x=some v):x=v:=by
 unfold iP at h
 split at h <;> first|(cases h;rfl)|cases h
section
variable {P:Program} {ops:Array Oper} {Q:Fr→Hp→Prop} {a:Fr} {H:Hp} {i:Nat} {o:Oper} {rest:List Oper} {v:Value}
theorem cD (h:(execOp (bK a) o).pr P=some (.value v)):bX P o a=some v:=by unfold bX;rw[h];rfl
theorem XF (h:bX P o a=some v):(execOp (bK a) o).pr P=some (.value v):=by
 unfold bX at h
 cases hx:(execOp (bK a) o).pr P with
 |none=>rw[hx] at h;cases h
 |some n=>rw[hx] at h;cases n <;> first|(simp[KW] at h;subst h;rfl)|cases h
theorem HG {k:Value→Hp→Prop} (h:I9 P o a H=some v) (hk:k v H):lY P o a H k:=by
 refine fP (Ah1 P _ (.value v) (nxt P k) ?_ (show nxt P k (.value v) H from hk))
 unfold I9 at h
 cases hx:(execOp (bK a) o).rd P H with
 |none=>rw[hx] at h;cases h
 |some n=>rw[hx] at h;cases n <;> first|(simp[KW] at h;subst h;rfl)|cases h
theorem ME (h:bX P o a=some v):I9 P o a H=some v:=by
 have:=XF h
 unfold I9
 rw[Ahs P _ H _ this]
 rfl
theorem Alk (hw:bF ops o a=true) (hv:bX P o a=some v) (h:cJ (Qu ops i) v fun v=>Ja P ops Q (i+1) rest (fE a o.dst v) H):Ja P ops Q i (o::rest) a H:=by
 unfold Ja
 rw[if_pos hw]
 exact HG (ME hv) h
theorem Aki (hw:bF ops o a=true) (hv:I9 P o a H=some v) (h:cJ (Qu ops i) v fun v=>Ja P ops Q (i+1) rest (fE a o.dst v) H):Ja P ops Q i (o::rest) a H:=by
 unfold Ja
 rw[if_pos hw]
 exact HG hv h
theorem Akz (hw:bF ops o a=true) (h:lY P o a H fun v H'=>cJ (Qu ops i) v fun v=>Ja P ops Q (i+1) rest (fE a o.dst v) H'):Ja P ops Q i (o::rest) a H:=by
 unfold Ja
 rw[if_pos hw]
 exact h
theorem Aks (hw:bF ops o a=false) (h:Ja P ops Q (i+1) rest (fE a o.dst undef) H):Ja P ops Q i (o::rest) a H:=by
 unfold Ja
 rw[if_neg (by rw[hw];simp)]
 exact h
variable {c:Nat} {l:List (Nat×Nat)} {hist:List Hp}
theorem Alc (ho:ops[i]?=some o) (hk:kd P o.op=.pure) (hw:bF ops o a=true) (hv:bX P o a=some v) (h:cJ (Qu ops i) v fun v=>zC P ops Q l hist (fE a o.dst v) H):zC P ops Q ((i,c)::l) hist a H:=by
 simp only[zC,ho,hw,if_true,hk]
 exact⟨v,hv,h⟩
theorem Alw (ho:ops[i]?=some o) (hk:kd P o.op=.load) (hw:bF ops o a=true) (hv:I9 P o a H=some v) (hh:∀h∈hist.take c,I9 P o a h=some v) (h:cJ (Qu ops i) v fun v=>zC P ops Q l hist (fE a o.dst v) H):
  zC P ops Q ((i,c)::l) hist a H:=by
 simp only[zC,ho,hw,if_true,hk]
 exact⟨v,hv,hh,h⟩
theorem Ak0 (ho:ops[i]?=some o) (hk:kd P o.op=.other) (hw:bF ops o a=true) (h:lY P o a H fun v H'=>cJ (Qu ops i) v fun v=>zC P ops Q l (H::hist) (fE a o.dst v) H'):zC P ops Q ((i,c)::l) hist a H:=by
 simp only[zC,ho,hw,if_true,hk]
 exact h
theorem Al0 (ho:ops[i]?=some o) (hw:bF ops o a=false) (h:zC P ops Q l hist (fE a o.dst undef) H):zC P ops Q ((i,c)::l) hist a H:=by
 simp only[zC,ho,hw]
 exact h
end
theorem EE {g:Bool} {v:Value} {k:Value→Prop} (_hg:g=false) (h:k v):cJ g v k:=(cI g v k).2 h
theorem M8 {g b:Bool} {k:Value→Prop} (hg:g=true) (h:Br b (k (.bool true)) (k (.bool false))):cJ g (.bool b) k:=by subst hg;exact h
theorem Br.t {b:Bool} {x y:Prop} (hb:b=true) (h:x):Br b x y:=⟨fun _=>h,fun h'=>by rw[hb] at h';cases h'⟩
theorem Br.f {b:Bool} {x y:Prop} (hb:b=false) (h:y):Br b x y:=⟨fun h'=>(by rw[hb] at h';cases h'),fun _=>h⟩
section
variable {P:Program} {a:Fr} {d:Option Tmp} {ty:TypeId} {pos:String} {after:Array Edge} {g:Option (Nat×Bool)} {t yt:TypeId} {x y z:Operand}
theorem Aff {v:Value} (hx:iP (bK a x)=some v):bX P ⟨d,.move x,ty,pos,after,g⟩ a=some v:=by
 rw[← gM hx];rfl
theorem Vi {v:Value} (hx:iP (bK a x)=some v):bX P ⟨d,.assign x,ty,pos,after,g⟩ a=some v:=by
 rw[← gM hx];rfl
theorem Wt {v:Value} (hx:bK a x=.bool true) (hy:iP (bK a y)=some v):bX P ⟨d,.pick x y z,ty,pos,after,g⟩ a=some v:=by
 refine cD ?_
 simp only[execOp,hx,asBool,aT,pure,Sem.pr,Option.bind_some,if_true,gM hy]
theorem Vp {v:Value} (hx:bK a x=.bool false) (hz:iP (bK a z)=some v):bX P ⟨d,.pick x y z,ty,pos,after,g⟩ a=some v:=by
 refine cD ?_
 simp only[execOp,hx,asBool,aT,pure,Sem.pr,Option.bind_some,gM hz]
 rfl
theorem Ajs {p:Addr} (hx:bK a x=.pointer (some p)):bX P ⟨d,.nilCheck x,ty,pos,after,g⟩ a=some (.pointer (some p)):=by
 refine cD ?_
 simp only[execOp,hx];rfl
theorem Afs {fn:FuncId} {fs cs:Array Value} (hx:bK a x=.func (.func fn) fs cs):bX P ⟨d,.nilCheck x,ty,pos,after,g⟩ a=some (.func (.func fn) fs cs):=by
 refine cD ?_
 simp only[execOp,hx];rfl
def Mx:BinOp→IntKind→Int→Int→Value
 |.add,k,m,n=>.int k (k.wrap (m+n))
 |.sub,k,m,n=>.int k (k.wrap (m - n))
 |.mul,k,m,n=>.int k (k.wrap (m * n))
 |.eql,_,m,n=>.bool (m == n)
 |.neq,_,m,n=>.bool (m != n)
 |.lss,_,m,n=>.bool (m<n)
 |.leq,_,m,n=>.bool (m≤n)
 |.gtr,_,m,n=>.bool (m > n)
 |.geq,_,m,n=>.bool (m≥n)
 |.and,k,m,n=>.int k (k.wrap (BitVec.ofInt k.bits m &&& BitVec.ofInt k.bits n).toNat)
 |.or,k,m,n=>.int k (k.wrap (BitVec.ofInt k.bits m ||| BitVec.ofInt k.bits n).toNat)
 |.xor,k,m,n=>.int k (k.wrap (BitVec.ofInt k.bits m ^^^ BitVec.ofInt k.bits n).toNat)
 |.andNot,k,m,n=>.int k (k.wrap (BitVec.ofInt k.bits m &&& ~~~BitVec.ofInt k.bits n).toNat)
 |_,_,_,_=>undef
def Ada:BinOp→Bool
 |.quo|.rem|.shl|.shr=>false
 |_=>true
theorem Cz {op:BinOp} {k:IntKind} {m n:Int} {v:Value} (hx:bK a x=.int k m) (hy:bK a y=.int k n) (hp:Ada op=true) (hv:iP (Mx op k m n)=some v):
  bX P ⟨d,.binOp op t x y yt,ty,pos,after,g⟩ a=some v:=by
 refine cD ?_
 rw[← gM hv]
 have hb:binOp op t (.int k m) (.int k n)=pure (Mx op k m n):=by
  cases op <;> first|exact absurd hp (by decide)|(simp[binOp,Op.intArith,Op.intCmp,Op.intBits,Mx])
 simp only[execOp,hx,hy,eqGuard_at_int,hb]
 rfl
theorem Z6 {k:IntKind} {m n:Int} (hx:bK a x=.int k m) (hy:bK a y=.int k n) (hn:n≠0):bX P ⟨d,.binOp .quo t x y yt,ty,pos,after,g⟩ a=some (.int k (k.wrap (m.tdiv n))):=by
 refine cD ?_
 simp only[execOp,hx,hy,eqGuard_at_int]
 have:(binOp .quo t (.int k m) (.int k n)).pr P=some (.int k (k.wrap (m.tdiv n))):=by simp[binOp,Op.intDiv,hn];rfl
 simp only[aT,this]
 rfl
theorem Aa1 {k:IntKind} {m n:Int} (hx:bK a x=.int k m) (hy:bK a y=.int k n) (hn:n≠0):bX P ⟨d,.binOp .rem t x y yt,ty,pos,after,g⟩ a=some (.int k (m.tmod n)):=by
 refine cD ?_
 simp only[execOp,hx,hy,eqGuard_at_int]
 have:(binOp .rem t (.int k m) (.int k n)).pr P=some (.int k (m.tmod n)):=by simp[binOp,Op.intDiv,hn];rfl
 simp only[aT,this]
 rfl
theorem Acx {k yk:IntKind} {m n:Int} (hx:bK a x=.int k m) (hy:bK a y=.int yk n) (hn:¬n<0):bX P ⟨d,.binOp .shl t x y yt,ty,pos,after,g⟩ a=some (.int k (k.wrap (m * 2 ^ (min n.toNat k.bits)))):=by
 refine cD ?_
 simp only[execOp,hx,hy,eqGuard_at_int]
 have:(binOp .shl t (.int k m) (.int yk n)).pr P=some (.int k (k.wrap (m * 2 ^ (min n.toNat k.bits)))):=by simp[binOp,Op.shift,hn];rfl
 simp only[aT,this]
 rfl
theorem Ac3 {k yk:IntKind} {m n:Int} (hx:bK a x=.int k m) (hy:bK a y=.int yk n) (hn:¬n<0):bX P ⟨d,.binOp .shr t x y yt,ty,pos,after,g⟩ a=some (.int k (m.fdiv (2 ^ (min n.toNat k.bits)))):=by
 refine cD ?_
 simp only[execOp,hx,hy,eqGuard_at_int]
 have:(binOp .shr t (.int k m) (.int yk n)).pr P=some (.int k (m.fdiv (2 ^ (min n.toNat k.bits)))):=by simp[binOp,Op.shift,hn];rfl
 simp only[aT,this]
 rfl
def Lw:BinOp→ByteArray→ByteArray→Value
 |.eql,m,n=>.bool (m.toList == n.toList)
 |.neq,m,n=>.bool (!(m.toList == n.toList))
 |.lss,m,n=>.bool (Op.bytesLess m.toList n.toList)
 |.leq,m,n=>.bool (Op.bytesLess m.toList n.toList || m.toList == n.toList)
 |.gtr,m,n=>.bool (!(Op.bytesLess m.toList n.toList || m.toList == n.toList))
 |.geq,m,n=>.bool (!(Op.bytesLess m.toList n.toList))
 |_,_,_=>undef
def N7:BinOp→Bool
 |.eql|.neq|.lss|.leq|.gtr|.geq=>true
 |_=>false
theorem Aie {op:BinOp} {m n:ByteArray} {v:Value} (hx:bK a x=.string m) (hy:bK a y=.string n) (hp:N7 op=true) (hv:iP (Lw op m n)=some v):
  bX P ⟨d,.binOp op t x y yt,ty,pos,after,g⟩ a=some v:=by
 refine cD ?_
 rw[← gM hv]
 have hb:binOp op t (.string m) (.string n)=pure (Lw op m n):=by
  cases op <;> first|exact absurd hp (by decide)|(simp[binOp,Op.stringOp,Lw])
 simp only[execOp,hx,hy,eqGuard_at_string,hb]
 rfl
theorem Akd {m n:ByteArray} (hx:bK a x=.string m) (hy:bK a y=.string n) (hs:m.size+n.size≤9223372036854775807):
  bX P ⟨d,.binOp .add t x y yt,ty,pos,after,g⟩ a=some (.string (m++n)):=by
 refine cD ?_
 simp only[execOp,hx,hy]
 have h:¬((m.size+n.size:Nat):Int) > IntKind.i64.max:=by
  have:IntKind.i64.max=9223372036854775807:=by decide
  rw[this];omega
 have:(binOp .add t (.string m) (.string n)).pr P=some (.string (m++n)):=by simp only[binOp,Op.stringOp];rw[if_neg h];rfl
 simp only[aT,this]
 rfl
theorem QU {op:BinOp} {u w:Value} (h:(∃p,u=.pointer p)∨(∃b n c,u=.slice b n c)∨(∃r,u=.map r)∨(∃b,u=.bool b)∨u=.nilFunc∨(∃f x y,u=.func f x y)):(eqGuard op t x y u w).pr P=some ():=by
 rcases h with⟨p,rfl⟩|⟨b,n,c,rfl⟩|⟨r,rfl⟩|⟨b,rfl⟩|rfl|⟨f,x,y,rfl⟩ <;> cases op <;> rfl
theorem aK {D:TypeDesc} (h:P.underlying t=some D):(underlying t).pr P=some D:=by
 simp only[underlying,aT,program,Sem.pr,Option.bind_some,h];rfl
theorem Ej {e:TypeId} {p:Option Addr} (ht:P.underlying t=some (.pointer e)):(Op.equal t (.pointer p) (.pointer none)).pr P=some p.isNone:=by
 unfold Op.equal Op.maxDepth Op.equalIn
 rw[aT,aK ht,Option.bind_some]
 cases p <;> rfl
theorem Aw {e:TypeId} {p:Option Addr} {n c n' c':Nat} (ht:P.underlying t=some (.slice e)):(Op.equal t (.slice p n c) (.slice none n' c')).pr P=some p.isNone:=by
 unfold Op.equal Op.maxDepth Op.equalIn
 rw[aT,aK ht,Option.bind_some]
 cases p <;> rfl
theorem B1 {b b':Bool} (ht:P.underlying t=some .bool):(Op.equal t (.bool b) (.bool b')).pr P=some (b == b'):=by
 unfold Op.equal Op.maxDepth Op.equalIn
 rw[aT,aK ht,Option.bind_some]
 rfl
def Hk (P:Program) (t:TypeId):Bool:=match P.underlying t with
 |some (.pointer _)=>true
 |_=>false
def mD (P:Program) (t:TypeId):Bool:=match P.underlying t with
 |some (.slice _)=>true
 |_=>false
def Df (P:Program) (t:TypeId):Bool:=match P.underlying t with
 |some .bool=>true
 |_=>false
theorem FI (h:Hk P t=true):∃e,P.underlying t=some (.pointer e):=by
 unfold Hk at h;split at h
 ·exact⟨_,‹_›⟩
 ·cases h
theorem nL (h:mD P t=true):∃e,P.underlying t=some (.slice e):=by
 unfold mD at h;split at h
 ·exact⟨_,‹_›⟩
 ·cases h
theorem DW (h:Df P t=true):P.underlying t=some .bool:=by
 unfold Df at h;split at h
 ·assumption
 ·cases h
theorem Ng {u w:Value} (h:(∃p q,u=.pointer p∧w=.pointer q)∨(∃p n c q n' c',u=.slice p n c∧w=.slice q n' c')∨(∃b b',u=.bool b∧w=.bool b')):
  binOp .eql t u w=(do pure (.bool (← Op.equal t u w)))∧binOp .neq t u w=(do pure (.bool (!(← Op.equal t u w)))):=by
 rcases h with⟨p,q,rfl,rfl⟩|⟨p,n,c,q,n',c',rfl,rfl⟩|⟨b,b',rfl,rfl⟩ <;> exact⟨rfl,rfl⟩
theorem tY {u w:Value} {b:Bool} (hx:bK a x=u) (hy:bK a y=w) (h:(∃p q,u=.pointer p∧w=.pointer q)∨(∃p n c q n' c',u=.slice p n c∧w=.slice q n' c')∨(∃b b',u=.bool b∧w=.bool b')) (he:(Op.equal t u w).pr P=some b):
  bX P ⟨d,.binOp .eql t x y yt,ty,pos,after,g⟩ a=some (.bool b)∧bX P ⟨d,.binOp .neq t x y yt,ty,pos,after,g⟩ a=some (.bool (!b)):=by
 have hg:∀op,(eqGuard op t x y u w).pr P=some ():=fun op=>QU (by
  rcases h with⟨p,q,rfl,rfl⟩|⟨p,n,c,q,n',c',rfl,rfl⟩|⟨b,b',rfl,rfl⟩
  ·exact .inl ⟨_,rfl⟩
  ·exact .inr (.inl ⟨_,_,_,rfl⟩)
  ·exact .inr (.inr (.inr (.inl ⟨_,rfl⟩))))
 obtain⟨h1,h2⟩:=Ng (t:=t) h
 constructor
 ·refine cD ?_
  simp only[execOp,hx,hy,aT,hg,Option.bind_some,h1,he]
  rfl
 ·refine cD ?_
  simp only[execOp,hx,hy,aT,hg,Option.bind_some,h2,he]
  rfl
theorem Tf {p:Option Addr} {v:Value} (ht:Hk P t=true) (hx:bK a x=.pointer p) (hy:bK a y=.pointer none) (hv:iP (.bool p.isNone)=some v):bX P ⟨d,.binOp .eql t x y yt,ty,pos,after,g⟩ a=some v:=by
 obtain⟨e,he⟩:=FI ht
 rw[← gM hv]
 exact(tY hx hy (.inl ⟨_,_,rfl,rfl⟩) (Ej he)).1
theorem SU {p:Option Addr} {v:Value} (ht:Hk P t=true) (hx:bK a x=.pointer p) (hy:bK a y=.pointer none) (hv:iP (.bool (!p.isNone))=some v):bX P ⟨d,.binOp .neq t x y yt,ty,pos,after,g⟩ a=some v:=by
 obtain⟨e,he⟩:=FI ht
 rw[← gM hv]
 exact(tY hx hy (.inl ⟨_,_,rfl,rfl⟩) (Ej he)).2
theorem PD {b b':Bool} (ht:Df P t=true) (hx:bK a x=.bool b) (hy:bK a y=.bool b'):bX P ⟨d,.binOp .eql t x y yt,ty,pos,after,g⟩ a=some (.bool (b == b')):=
 (tY hx hy (.inr (.inr ⟨_,_,rfl,rfl⟩)) (B1 (DW ht))).1
theorem Qe {b b':Bool} (ht:Df P t=true) (hx:bK a x=.bool b) (hy:bK a y=.bool b'):bX P ⟨d,.binOp .neq t x y yt,ty,pos,after,g⟩ a=some (.bool (!(b == b'))):=
 (tY hx hy (.inr (.inr ⟨_,_,rfl,rfl⟩)) (B1 (DW ht))).2
theorem M4 {p:Option Addr} {n c n' c':Nat} (ht:mD P t=true) (hx:bK a x=.slice p n c) (hy:bK a y=.slice none n' c'):bX P ⟨d,.binOp .eql t x y yt,ty,pos,after,g⟩ a=some (.bool p.isNone):=by
 obtain⟨e,he⟩:=nL ht
 exact(tY hx hy (.inr (.inl ⟨_,_,_,_,_,_,rfl,rfl⟩)) (Aw he)).1
theorem LC {p:Option Addr} {n c n' c':Nat} (ht:mD P t=true) (hx:bK a x=.slice p n c) (hy:bK a y=.slice none n' c'):bX P ⟨d,.binOp .neq t x y yt,ty,pos,after,g⟩ a=some (.bool (!p.isNone)):=by
 obtain⟨e,he⟩:=nL ht
 exact(tY hx hy (.inr (.inl ⟨_,_,_,_,_,_,rfl,rfl⟩)) (Aw he)).2
theorem Ta {b:Bool} {v:Value} (hx:bK a x=.bool b) (hv:iP (.bool !b)=some v):bX P ⟨d,.unOp .not t x,ty,pos,after,g⟩ a=some v:=by
 rw[← gM hv]
 refine cD ?_
 simp only[execOp,hx];rfl
theorem Al6 {k:IntKind} {n:Int} (hx:bK a x=.int k n):bX P ⟨d,.unOp .neg t x,ty,pos,after,g⟩ a=some (.int k (k.wrap (0 - n))):=by
 refine cD ?_
 simp only[execOp,hx];rfl
theorem d5 {i:TypeInfo} (h:P.info? t=some i):(typeInfo t).pr P=some i:=by
 simp only[typeInfo,aT,program,Sem.pr,Option.bind_some,h];rfl
theorem fK {i:TypeInfo} (h:P.info? t=some i):(sizeOf t).pr P=some i.size:=by
 simp only[sizeOf,aT,d5 h,Option.bind_some];rfl
def xN (P:Program) (t:TypeId) (f:Nat):Option Nat:=match P.underlying t with
 |some (.struct fs)=>match fs[f]? with
  |some fd=>match P.info? fd.type with
   |some i=>if i.size=0 then none else some fd.offset
   |none=>none
  |none=>none
 |_=>none
theorem Dx {B off n f:Nat} (hx:bK a x=.pointer (some ⟨B,off,none⟩)) (hf:xN P t f=some n):bX P ⟨d,.fieldAddr t x f,ty,pos,after,g⟩ a=some (.pointer (some ⟨B,off+n,none⟩)):=by
 refine cD ?_
 unfold xN at hf
 split at hf
 ·rename_i fs hu
  split at hf
  ·rename_i fd hfd
   split at hf
   ·rename_i i hi
    split at hf
    ·cases hf
    ·rename_i hz
     cases hf
     simp only[execOp,hx,Instr.fieldAt,aT,aK hu,Option.bind_some,hfd,Instr.sureAddr,pure,Sem.pr,fieldPlace,fK hi,if_neg hz,nW]
   ·cases hf
  ·cases hf
 ·cases hf
def sY (P:Program) (t:TypeId):Option Nat:=match P.underlying t with
 |some (.slice e)=>match P.info? e with
  |some i=>some i.size
  |none=>none
 |_=>none
theorem Fx {sz:Nat} (h:sY P t=some sz):∃e i,P.underlying t=some (.slice e)∧P.info? e=some i∧i.size=sz:=by
 unfold sY at h
 split at h
 ·rename_i e hu
  split at h
  ·rename_i i hi;exact⟨e,i,hu,hi,by simpa using h⟩
  ·cases h
 ·cases h
theorem Hq {B off n c sz:Nat} {k:IntKind} {j:Int} (ht:sY P t=some sz) (hx:bK a x=.slice (some ⟨B,off,none⟩) n c) (hy:bK a y=.int k j) (h0:0≤j) (h1:j<n):
  bX P ⟨d,.indexAddr t x y,ty,pos,after,g⟩ a=some (.pointer (some ⟨B,off+j.toNat * sz,none⟩)):=by
 obtain⟨e,i,hu,hi,rfl⟩:=Fx ht
 refine cD ?_
 simp only[execOp,hx,hy,Instr.indexAt,aT,asIntOf,pure,Sem.pr,Option.bind_some,aK hu,h0,h1,and_self,if_true,fK hi,nW]
theorem LY {A:Option Addr} {n c:Nat} {Amc:Array Operand} {ts:Array TypeId} (hargs:Amc.toList.map (bK a)= [.slice A n c]) (ht:(ts[0]?).any (mD P)=true):
  bX P ⟨d,.call { callee:=.builtin .len,args:=Amc,argTypes:=ts },ty,pos,after,g⟩ a=some (.int .i64 n):=by
 refine cD ?_
 have h1:Amc.map (bK a)=#[.slice A n c]:=by apply Array.ext';simpa using hargs
 cases h0:ts[0]? with
 |none=>rw[h0] at ht;cases ht
 |some t0=>
  rw[h0] at ht
  obtain⟨e,he⟩:=nL (by simpa using ht)
  simp only[execOp,resolve,h1,aT,pure,Sem.pr,Option.bind_some,invoke,builtin,Builtin.len_,h0]
  simp only[List.getElem?_toArray,List.getElem?_cons_zero,aT,aK he,Option.bind_some]
  rfl
def m9 (P:Program) (t:TypeId):Bool:=match P.underlying t with
 |some .string=>true
 |_=>false
theorem mA (h:m9 P t=true):P.underlying t=some .string:=by
 unfold m9 at h;split at h
 ·assumption
 ·cases h
theorem RZ {s:ByteArray} {Amc:Array Operand} {ts:Array TypeId} (hargs:Amc.toList.map (bK a)= [.string s]) (ht:(ts[0]?).any (m9 P)=true):
  bX P ⟨d,.call { callee:=.builtin .len,args:=Amc,argTypes:=ts },ty,pos,after,g⟩ a=some (.int .i64 s.size):=by
 refine cD ?_
 have h1:Amc.map (bK a)=#[.string s]:=by apply Array.ext';simpa using hargs
 cases h0:ts[0]? with
 |none=>rw[h0] at ht;cases ht
 |some t0=>
  rw[h0] at ht
  have he:=mA (by simpa using ht)
  simp only[execOp,resolve,h1,aT,pure,Sem.pr,Option.bind_some,invoke,builtin,Builtin.len_,h0]
  simp only[List.getElem?_toArray,List.getElem?_cons_zero,aT,aK he,Option.bind_some]
  rfl
theorem QN {vs:Array Value} {n:Nat} {v:Value} (hx:bK a x=.tuple vs) (hv:vs[n]?=some v):bX P ⟨d,.extract x n,ty,pos,after,g⟩ a=some v:=by
 refine cD ?_
 simp only[execOp,hx,Instr.extract,hv];rfl
theorem P7 {fn:Fn} {fs cs:Array Operand} {l1 l2:List Value} (h1:fs.toList.map (bK a)=l1) (h2:cs.toList.map (bK a)=l2):bX P ⟨d,.makeFunc fn fs cs,ty,pos,after,g⟩ a=some (.func fn l1.toArray l2.toArray):=by
 refine cD ?_
 have e1:fs.map (bK a)=l1.toArray:=by apply Array.ext';simpa using h1
 have e2:cs.map (bK a)=l2.toArray:=by apply Array.ext';simpa using h2
 simp only[execOp,e1,e2];rfl
theorem GF {s:ByteArray} {k:IntKind} {j:Int} (ht:m9 P t=true) (hx:bK a x=.string s) (hy:bK a y=.int k j) (h0:0≤j) (h1:j≤s.size):
  bX P ⟨d,.slice t x (some y) none none,ty,pos,after,g⟩ a=some (.string (s.extract j.toNat s.size)):=by
 refine cD ?_
 simp only[execOp,hx,Option.map_some,Option.map_none,hy,Instr.sliceAt,Instr.slice,aT,aK (mA ht),Option.bind_some,Instr.sliceBounds,Instr.sliceBound,asIntOf,pure,Sem.pr,h0,h1,and_self,if_true,
  Option.isSome_none,Bool.false_eq_true,if_false]
theorem GQ {s:ByteArray} {k:IntKind} {j:Int} (ht:m9 P t=true) (hx:bK a x=.string s) (hy:bK a y=.int k j) (h0:0≤j) (h1:j≤s.size):
  bX P ⟨d,.slice t x none (some y) none,ty,pos,after,g⟩ a=some (.string (s.extract 0 j.toNat)):=by
 refine cD ?_
 simp only[execOp,hx,Option.map_some,Option.map_none,hy,Instr.sliceAt,Instr.slice,aT,aK (mA ht),Option.bind_some,Instr.sliceBounds,Instr.sliceBound,asIntOf,pure,Sem.pr,h0,h1,and_self,if_true,
  Option.isSome_none,Bool.false_eq_true,if_false]
theorem Pd {s:ByteArray} {k k':IntKind} {j m:Int} (ht:m9 P t=true) (hx:bK a x=.string s) (hy:bK a y=.int k j) (hz:bK a z=.int k' m) (h0:0≤j) (h1:j≤m) (h2:m≤s.size):
  bX P ⟨d,.slice t x (some y) (some z) none,ty,pos,after,g⟩ a=some (.string (s.extract j.toNat m.toNat)):=by
 refine cD ?_
 have e1:0≤m:=by omega
 have e2:j≤(m.toNat:Int):=by omega
 simp only[execOp,hx,Option.map_some,hy,hz,Option.map_none,Instr.sliceAt,Instr.slice,aT,aK (mA ht),Option.bind_some,Instr.sliceBounds,Instr.sliceBound,asIntOf,pure,Sem.pr,h0,h2,e1,e2,and_self,if_true,
  Option.isSome_none,Bool.false_eq_true,if_false]
theorem Tm {H:Hp} {v:Value} (h:XQ P H t (bK a x)=some v):I9 P ⟨d,.load t x,ty,pos,after,g⟩ a H=some v:=by
 unfold I9
 simp only[execOp,fY,Wo h,Option.bind_some,xU];rfl
end
end Go.Sl
namespace Go.Sl
def mW:List Value→Nat→List Value→List Value
 |cs,_,[]=>cs
 |cs,off,v::vs=>mW (cs.set off v) (off+1) vs
def Xw:List Value→List Value→List Value
 | [],cs=>cs
 |_::_,[]=> []
 |v::vs,_::cs=>v::Xw vs cs
def uO:List Value→Nat→List Value→List Value
 |cs,0,vs=>Xw vs cs
 | [],_+1,_=> []
 |c::cs,n+1,vs=>c::uO cs n vs
theorem JL:∀(vs:List Value) (off:Nat),mW [] off vs= []:=by
 intro vs
 induction vs with
 |nil=>intro off;rfl
 |cons v vs ih=>intro off;simp only[mW,List.set_nil,ih]
theorem Hz:∀(vs:List Value) (c:Value) (cs:List Value) (off:Nat),mW (c::cs) (off+1) vs=c::mW cs off vs:=by
 intro vs
 induction vs with
 |nil=>intro c cs off;rfl
 |cons v vs ih=>intro c cs off;simp only[mW,List.set_cons_succ,ih]
theorem IB:∀(vs cs:List Value),mW cs 0 vs=Xw vs cs:=by
 intro vs
 induction vs with
 |nil=>intro cs;rfl
 |cons v vs ih=>
  intro cs
  cases cs with
  |nil=>simp only[JL,Xw]
  |cons c cs=>simp only[mW,List.set_cons_zero,Hz,Xw,ih]
theorem Gw:∀(cs:List Value) (off:Nat) (vs:List Value),uO cs off vs=mW cs off vs:=by
 intro cs
 induction cs with
 |nil=>
  intro off vs
  cases off with
  |zero=>simp only[uO,IB]
  |succ n=>simp only[uO,JL]
 |cons c cs ih=>
  intro off vs
  cases off with
  |zero=>simp only[uO,IB]
  |succ n=>simp only[uO,Hz,ih]
theorem WA (H:Hp) (r:Nat) (b c:sZ):hupd (hupd H r b) r c=hupd H r c:=by
 funext i;unfold hupd;split <;> rfl
theorem W9 {H:Hp} {r:Nat} {b:sZ} (h:H r=some b):hupd H r b=H:=by
 funext i;unfold hupd;split
 ·rename_i e;rw[e,h]
 ·rfl
def uL (a:Fr):List Operand→Option (List Value)
 | []=>some []
 |x::xs=>match iP (bK a x),uL a xs with
  |some v,some vs=>some (v::vs)
  |_,_=>none
theorem A8 {a:Fr}:∀ {xs:List Operand} {vs:List Value},uL a xs=some vs→xs.map (bK a)=vs:=by
 intro xs
 induction xs with
 |nil=>intro vs h;cases h;rfl
 |cons x xs ih=>
  intro vs h
  simp only[uL] at h
  split at h
  ·rename_i v vs' h1 h2
   cases h
   rw[List.map_cons,ih h2,gM h1]
  ·cases h
section
variable {P:Program} {a:Fr} {H:Hp} {k:Value→Hp→Prop} {d:Option Tmp} {ty:TypeId} {pos:String} {after:Array Edge} {g:Option (Nat×Bool)} {t:TypeId} {x y:Operand}
theorem aP {α:Type} {s:Sem α} {v:α} (h:s.pr P=some v) (H:Hp) (q:α→Hp→Prop):s.ev P H q=q v H:=by
 induction s with
 |pure a=>simp[Sem.pr] at h;subst h;rfl
 |program k ih=>exact ih P h
 |mark m k ih=>exact ih h
 |_=>cases h
theorem nJ {B:Nat} {e:TypeId}:∀(vs:List Value) (i off:Nat) (cs:List Value) (H:Hp) (q:Unit→Hp→Prop),H B=some (.cells cs e true)→off+i+vs.length≤cs.length→(vs.all Value.oneCell')=true→
  q () (hupd H B (.cells (mW cs (off+i) vs) e true))→(storeCells ⟨B,off,none⟩ vs i).ev P H q:=by
 intro vs
 induction vs with
 |nil=>
  intro i off cs H q hb _ _ hq
  simp only[mW,W9 hb] at hq
  unfold storeCells
  exact hq
 |cons v vs ih=>
  intro i off cs H q hb hle mZ hq
  simp only[List.all_cons,Bool.and_eq_true] at mZ
  unfold storeCells
  rw[aJ,nW]
  simp only[List.length_cons] at hle
  refine⟨mZ.1,cs,e,hb,rfl,by simp only;omega,?_⟩
  refine ih (i+1) off (cs.set (off+i) v) _ q (kJ _ _ _) (by simp;omega) mZ.2 ?_
  rw[WA]
  exact hq
def o8 (P:Program) (t:TypeId):Option Nat:=match P.info? t with
 |some i=>some i.size
 |none=>none
theorem rN {n:Nat} (h:o8 P t=some n):∃i,P.info? t=some i∧i.size=n:=by
 unfold o8 at h
 split at h
 ·exact⟨_,‹_›,by simpa using h⟩
 ·cases h
theorem PU {B off n:Nat} {cs vs:List Value} {e:TypeId} {u:Value} (hx:bK a x=.pointer (some ⟨B,off,none⟩)) (hy:bK a y=u) (hvs:u.cells.toList=vs) (ht:o8 P t=some n) (hn:vs.length=n)
  (mZ:(vs.all Value.oneCell')=true) (hb:H B=some (.cells cs e true)) (hle:off+n≤cs.length) (hk:k undef (hupd H B (.cells (mW cs off vs) e true))):
  lY P ⟨d,.store t x y,ty,pos,after,g⟩ a H k:=by
 obtain⟨i,hi,rfl⟩:=rN ht
 refine fP ?_
 simp only[execOp,hx,hy,Instr.storeAt,aJ]
 rw[aP (show(Instr.sureAddr (.pointer (some ⟨B,off,none⟩))).pr P=some ⟨B,off,none⟩ from rfl)]
 have hsz:u.cells.size=i.size:=by rw[← hn,← hvs];simp
 simp only[storeVar,aJ]
 rw[aP (fK hi),if_neg (by rw[hsz];simp)]
 refine nJ _ 0 off cs H _ hb (by rw[hvs,hn];omega) (by rw[hvs];exact mZ) ?_
 rw[hvs]
 exact hk
def zW (P:Program) (t:TypeId):Option (List Value):=match P.info? t with
 |some i=>match i.zero with
  |some z=>some z.cells.toList
  |none=>none
 |none=>none
theorem KC {v:Value} {q:Addr→Hp→Prop} (hk:∀r,H r=none→q ⟨r,0,none⟩ (hupd H r (.cells v.cells.toList t true))):(newVar t v).ev P H q:=by
 unfold newVar newRow
 rw[aJ]
 intro r hr
 exact⟨rfl,hk r hr⟩
theorem X6 {zs:List Value} (hz:zW P t=some zs) (hk:∀r,H r=none→k (.pointer (some ⟨r,0,none⟩)) (hupd H r (.cells zs t true))):lY P ⟨d,.alloc t,ty,pos,after,g⟩ a H k:=by
 unfold zW at hz
 split at hz
 ·rename_i i hi
  split at hz
  ·rename_i z hz'
   cases hz
   have hzv:(zeroValue t).pr P=some z:=by simp only[zeroValue,aT,d5 hi,Option.bind_some,hz'];rfl
   refine fP ?_
   simp only[execOp,Instr.alloc,aJ]
   rw[aP hzv]
   exact KC hk
  ·cases hz
 ·cases hz
theorem Aif {v:Value} {vs:List Value} (hx:bK a x=v) (hvs:v.cells.toList=vs) (hk:∀r,H r=none→k (.pointer (some ⟨r,0,none⟩)) (hupd H r (.cells vs t true))):lY P ⟨d,.box t x,ty,pos,after,g⟩ a H k:=by
 subst hx hvs
 refine fP ?_
 simp only[execOp,Instr.box,aJ]
 exact KC hk
theorem O8 {f:FuncId} {args:Array Value} (h:tB P f args H k):(callFunc f args).ev P H (nxt P k):=by
 obtain⟨fn,h1,h2,h3⟩:=h.has
 unfold callFunc
 rw[aJ,aP (show program.pr P=some P from rfl)]
 simp only[h1,h2,h3,Bool.false_eq_true,if_false]
 exact h
theorem Oe {f:FuncId} {fs cs:Array Value} {Amc:Array Operand} {ts:Array TypeId} {vs:List Value} (hx:bK a x=.func (.func f) fs cs) (hargs:uL a Amc.toList=some vs) (h:tB P f (fs++vs.toArray++cs) H k):
  lY P ⟨d,.call { callee:=.value x,args:=Amc,argTypes:=ts },ty,pos,after,g⟩ a H k:=by
 have e1:Amc.map (bK a)=vs.toArray:=by apply Array.ext';simpa using A8 hargs
 refine fP ?_
 simp only[execOp,resolve,hx,e1,Deferred.ofValue]
 rw[aJ,aP (show(pure _:Sem Deferred).pr P=some _ from rfl)]
 simp only[invoke]
 exact O8 h
theorem Adn {f:FuncId} {Amc:Array Operand} {ts:Array TypeId} {vs:List Value} (hargs:uL a Amc.toList=some vs) (h:tB P f vs.toArray H k):
  lY P ⟨d,.call { callee:=.value (.func f),args:=Amc,argTypes:=ts },ty,pos,after,g⟩ a H k:=
 Oe (f:=f) (fs:=#[]) (cs:=#[]) rfl hargs (by simpa using h)
end
end Go.Sl
namespace Go.Sl
def y9:Nat→Option Nat
 |0=>some 0|1=>some 1|2=>some 2|3=>some 3|4=>some 4|5=>some 5|6=>some 6|7=>some 7|8=>some 8|9=>some 9|10=>some 10|11=>some 11|12=>some 12|13=>some 13|14=>some 14|15=>some 15
 |16=>some 16|17=>some 17|18=>some 18|19=>some 19|20=>some 20|21=>some 21|22=>some 22|23=>some 23|24=>some 24|25=>some 25|26=>some 26|27=>some 27|28=>some 28|29=>some 29|30=>some 30|31=>some 31
 |32=>some 32|33=>some 33|34=>some 34|35=>some 35|36=>some 36|37=>some 37|38=>some 38|39=>some 39|40=>some 40|41=>some 41|42=>some 42|43=>some 43|44=>some 44|45=>some 45|46=>some 46|47=>some 47
 |48=>some 48|49=>some 49|50=>some 50|51=>some 51|52=>some 52|53=>some 53|54=>some 54|55=>some 55|56=>some 56|57=>some 57|58=>some 58|59=>some 59|60=>some 60|61=>some 61|62=>some 62|63=>some 63
 |64=>some 64|65=>some 65|66=>some 66|67=>some 67|68=>some 68|69=>some 69|70=>some 70|71=>some 71|72=>some 72|73=>some 73|74=>some 74|75=>some 75|76=>some 76|77=>some 77|78=>some 78|79=>some 79
 |80=>some 80|81=>some 81|82=>some 82|83=>some 83|84=>some 84|85=>some 85|86=>some 86|87=>some 87|88=>some 88|89=>some 89|90=>some 90|91=>some 91|92=>some 92|93=>some 93|94=>some 94|95=>some 95|_=>none
theorem nT {n m:Nat} (h:y9 n=some m):n=m:=by
 unfold y9 at h
 split at h <;> first|exact Option.some.inj h|cases h
def Cp:List (Nat×Nat)→Option (List (Nat×Nat))
 | []=>some []
 |(x,y)::l=>match y9 x with
  |some x=>match y9 y with
   |some y=>match Cp l with
    |some l=>some ((x,y)::l)
    |none=>none
   |none=>none
  |none=>none
theorem Wa:∀ {l l':List (Nat×Nat)},Cp l=some l'→l=l':=by
 intro l
 induction l with
 |nil=>intro l' h;exact Option.some.inj h
 |cons x l ih=>
  intro l' h
  obtain⟨x,y⟩:=x
  simp only[Cp] at h
  split at h
  ·rename_i a ha
   split at h
   ·rename_i b hb
    split at h
    ·rename_i c hc;cases h;rw[nT ha,nT hb,ih hc]
    ·cases h
   ·cases h
  ·cases h
def nE {α:Type}:List α→Option (List α)
 | []=>some []
 |x::xs=>match nE xs with
  |some ys=>some (x::ys)
  |none=>none
theorem lE {α:Type}:∀ {l l':List α},nE l=some l'→l=l':=by
 intro l
 induction l with
 |nil=>intro l' h;cases h;rfl
 |cons x xs ih=>
  intro l' h
  simp only[nE] at h
  split at h
  ·rename_i ys hy;cases h;rw[ih hy]
  ·cases h
def Nl (P:Program) (t:TypeId) (cs:List Value) (off:Nat):Option Value:=match Cv P t with
 |some true=>match P.info? t with
  |some i=>if off+i.size≤cs.length then match nE ((cs.drop off).take i.size) with
    |some vs=>some (.agg vs.toArray)
    |none=>none
   else none
  |none=>none
 |some false=>cs[off]?
 |none=>none
theorem Ll {P:Program} {t:TypeId} {cs:List Value} {off B:Nat} {e:TypeId} {rw:Bool} {H:Hp} {v:Value} (hb:H B=some (.cells cs e rw)) (h:Nl P t cs off=some v):XQ P H t (.pointer (some ⟨B,off,none⟩))=some v:=by
 unfold Nl at h
 simp only[XQ,hb]
 split at h
 ·rename_i hag
  simp only[hag]
  split at h
  ·rename_i i hi
   simp only[hi]
   split at h
   ·rename_i hle
    simp only[hle,if_true]
    split at h
    ·rename_i vs hvs;rw[lE hvs];exact h
    ·cases h
   ·cases h
  ·cases h
 ·rename_i hag;simp only[hag];exact h
 ·cases h
section
variable {P:Program} {Q:Exit→Fr→Hp→Prop} {K:Fr→Hp→Prop} {a:Fr} {H:Hp} {x y:Code} {id:Nat} {ol:List Oper}
end
section
variable {P:Program} {ops:Array Oper} {Q:Fr→Hp→Prop} {a:Fr} {H:Hp} {i c:Nat} {rest:List Oper} {l:List (Nat×Nat)} {hist:List Hp} {d':Nat} {d:Option Tmp}
variable {ty:TypeId} {pos:String} {after:Array Edge} {g:Option (Nat×Bool)} {t yt:TypeId} {x y z:Operand}
variable {k:Value→Hp→Prop}
theorem Sc {B off n:Nat} {cs cs' vs:List Value} {e:TypeId} {u:Value} (hx:bK a x=.pointer (some ⟨B,off,none⟩)) (hy:iP (bK a y)=some u) (hvs:nE u.cells.toList=some vs) (ht:o8 P t=some n) (hn:(vs.length == n)=true)
  (mZ:(vs.all Value.oneCell')=true) (hb:H B=some (.cells cs e true)) (hle:Nat.ble (off+n) cs.length=true) (hs:nE (uO cs off vs)=some cs') (hk:k undef (hupd H B (.cells cs' e true))):
  lY P ⟨d,.store t x y,ty,pos,after,g⟩ a H k:=
 PU hx (gM hy) (lE hvs) ht (by simpa using hn) mZ hb (by simpa using hle) (by rw[← Gw,lE hs];exact hk)
theorem R3 {zs zs':List Value} (hz:zW P t=some zs) (hc:nE zs=some zs') (hk:∀r,H r=none→k (.pointer (some ⟨r,0,none⟩)) (hupd H r (.cells zs' t true))):lY P ⟨d,.alloc t,ty,pos,after,g⟩ a H k:=
 X6 hz (by rw[lE hc];exact hk)
theorem Aa2 {v:Value} {vs:List Value} (hx:iP (bK a x)=some v) (hvs:nE v.cells.toList=some vs) (hk:∀r,H r=none→k (.pointer (some ⟨r,0,none⟩)) (hupd H r (.cells vs t true))):lY P ⟨d,.box t x,ty,pos,after,g⟩ a H k:=
 Aif (gM hx) (lE hvs) hk
def T6 (op:BinOp):Option Addr→Option Value
 |none=>match op with|.eql=>some (.bool true)|.neq=>some (.bool false)|_=>none
 |some _=>match op with|.eql=>some (.bool false)|.neq=>some (.bool true)|_=>none
def Akh (P:Program) (op:BinOp) (t:TypeId):Value→Value→Option Value
 |.int k m,.int k' n=>match op with
  |.shl=>if n<0 then none else some (.int k (k.wrap (m * 2 ^ (min n.toNat k.bits))))
  |.shr=>if n<0 then none else some (.int k (m.fdiv (2 ^ (min n.toNat k.bits))))
  |.quo=>if k=k' then if n=0 then none else some (.int k (k.wrap (m.tdiv n))) else none
  |.rem=>if k=k' then if n=0 then none else some (.int k (m.tmod n)) else none
  |op=>if k=k' then iP (Mx op k m n) else none
 |.string m,.string n=>if N7 op=true then iP (Lw op m n) else none
 |.pointer p,.pointer none=>if Hk P t=true then T6 op p else none
 |.slice p _ _,.slice none _ _=>if mD P t=true then T6 op p else none
 |.bool b,.bool b'=>if Df P t=true then match op with
  |.eql=>some (.bool (b == b'))
  |.neq=>some (.bool (!(b == b')))
  |_=>none else none
 |_,_=>none
def Adg (P:Program) (t:TypeId):Value→Option Value
 |.slice _ n _=>if mD P t=true then some (.int .i64 n) else none
 |.string s=>if m9 P t=true then some (.int .i64 s.size) else none
 |_=>none
def opV (P:Program) (o:Op) (a:Fr):Option Value:=
 match o with
 |.move x=>iP (bK a x)
 |.assign x=>iP (bK a x)
 |.pick c x y=>match bK a c with
  |.bool true=>iP (bK a x)
  |.bool false=>iP (bK a y)
  |_=>none
 |.nilCheck x=>match bK a x with
  |.pointer (some ⟨B,off,s⟩)=>some (.pointer (some ⟨B,off,s⟩))
  |.func (.func f) fs cs=>some (.func (.func f) fs cs)
  |_=>none
 |.binOp op t x y _=>Akh P op t (bK a x) (bK a y)
 |.unOp .not _ x=>match bK a x with
  |.bool true=>some (.bool false)
  |.bool false=>some (.bool true)
  |_=>none
 |.fieldAddr t x f=>match bK a x with
  |.pointer (some ⟨B,off,none⟩)=>match xN P t f with
   |some n=>match y9 n with
    |some 0=>some (.pointer (some ⟨B,off,none⟩))
    |some n=>match y9 (off+n) with
     |some m=>some (.pointer (some ⟨B,m,none⟩))
     |none=>some (.pointer (some ⟨B,off+n,none⟩))
    |none=>none
   |none=>none
  |_=>none
 |.extract x n=>match bK a x with
  |.tuple vs=>match vs.toList[n]? with
   |some v=>iP v
   |none=>none
  |_=>none
 |.makeFunc fn fs cs=>match uL a fs.toList,uL a cs.toList with
  |some l1,some l2=>some (.func fn l1.toArray l2.toArray)
  |_,_=>none
 |.call { callee:=.builtin .len,args,argTypes }=>match args.toList with
  | [x]=>match argTypes[0]? with
   |some t=>Adg P t (bK a x)
   |none=>none
  |_=>none
 |_=>none
section
variable {P:Program} {a:Fr} {d:Option Tmp} {ty:TypeId} {pos:String} {after:Array Edge} {g:Option (Nat×Bool)} {v:Value}
theorem Wh {op:BinOp} {t yt:TypeId} {x y:Operand} {u w:Value} (hx:bK a x=u) (hy:bK a y=w) (h:Akh P op t u w=some v):bX P ⟨d,.binOp op t x y yt,ty,pos,after,g⟩ a=some v:=by
 unfold Akh at h
 split at h
 ·rename_i k m k' n
  split at h
  ·split at h
   ·cases h
   ·rename_i hn;cases h;exact Acx hx hy hn
  ·split at h
   ·cases h
   ·rename_i hn;cases h;exact Ac3 hx hy hn
  ·split at h
   ·rename_i hk;subst hk
    split at h
    ·cases h
    ·rename_i hn;cases h;exact Z6 hx hy hn
   ·cases h
  ·split at h
   ·rename_i hk;subst hk
    split at h
    ·cases h
    ·rename_i hn;cases h;exact Aa1 hx hy hn
   ·cases h
  ·rename_i h1 h2 h3 h4
   split at h
   ·rename_i hk;subst hk
    refine Cz hx hy ?_ h
    cases op <;> first|rfl|exact absurd rfl h1|exact absurd rfl h2|exact absurd rfl h3|exact absurd rfl h4
   ·cases h
 ·split at h
  ·rename_i hp;exact Aie hx hy hp h
  ·cases h
 ·rename_i p
  split at h
  ·rename_i ht
   cases p <;> cases op <;> simp only[T6] at h <;> first|(cases h;done)|(cases h;exact Tf ht hx hy rfl)|(cases h;exact SU ht hx hy rfl)
  ·cases h
 ·rename_i p _ _ _ _
  split at h
  ·rename_i ht
   cases p <;> cases op <;> simp only[T6] at h <;> first|(cases h;done)|(cases h;exact M4 ht hx hy)|(cases h;exact LC ht hx hy)
  ·cases h
 ·split at h
  ·rename_i ht
   cases op <;> first|(cases h;done)|(cases h;exact PD ht hx hy)|(cases h;exact Qe ht hx hy)
  ·cases h
 ·cases h
theorem OP {o:Op} (h:opV P o a=some v):bX P ⟨d,o,ty,pos,after,g⟩ a=some v:=by
 unfold opV at h
 split at h
 ·exact Aff h
 ·exact Vi h
 ·split at h
  ·rename_i hb;exact Wt hb h
  ·rename_i hb;exact Vp hb h
  ·cases h
 ·split at h
  ·rename_i hx;cases h;exact Ajs hx
  ·rename_i hx;cases h;exact Afs hx
  ·cases h
 ·exact Wh rfl rfl h
 ·split at h
  ·rename_i hx;cases h;exact Ta hx rfl
  ·rename_i hx;cases h;exact Ta hx rfl
  ·cases h
 ·split at h
  ·rename_i B off hx
   split at h
   ·rename_i n hn
    split at h
    ·rename_i h0
     cases h
     have:=nT h0
     subst this
     exact Dx hx hn
    ·rename_i n' _ hn'
     have:=nT hn'
     subst this
     split at h
     ·rename_i m hm
      cases h
      rw[← nT hm]
      exact Dx hx hn
     ·cases h;exact Dx hx hn
    ·cases h
   ·cases h
  ·cases h
 ·split at h
  ·rename_i vs hx
   split at h
   ·rename_i u hu
    refine QN hx ?_
    rw[← gM h,← hu,Array.getElem?_toList]
   ·cases h
  ·cases h
 ·split at h
  ·rename_i l1 l2 h1 h2
   cases h
   exact P7 (A8 h1) (A8 h2)
  ·cases h
 ·rename_i args argTypes
  split at h
  ·rename_i x hargs
   split at h
   ·rename_i t ht
    have key:∀q:TypeId→Bool,q t=true→(argTypes[0]?).any q=true:=fun q hq=>by rw[ht];exact hq
    unfold Adg at h
    split at h
    ·rename_i A n c hx
     split at h
     ·rename_i hs;cases h
      exact LY (by rw[hargs,List.map_cons,hx];rfl) (key _ hs)
     ·cases h
    ·rename_i s hx
     split at h
     ·rename_i hs;cases h
      exact RZ (by rw[hargs,List.map_cons,hx];rfl) (key _ hs)
     ·cases h
    ·cases h
   ·cases h
  ·cases h
 ·cases h
theorem VU {P:Program} {ts:Array TypeId} (h:(ts[0]?).any (mD P)=true∨(ts[0]?).any (m9 P)=true):En P ts=false:=by
 unfold En
 cases ht:ts[0]? with
 |none=>rfl
 |some t=>
  rw[ht] at h
  simp only[Option.any_some] at h
  rcases h with h|h
  ·obtain⟨e,he⟩:=nL h;simp only[he]
  ·simp only[mA h]
theorem Agm {t:TypeId} {u:Value} (h:Adg P t u=some v):mD P t=true∨m9 P t=true:=by
 unfold Adg at h
 split at h
 ·split at h
  ·exact .inl ‹_›
  ·cases h
 ·split at h
  ·exact .inr ‹_›
  ·cases h
 ·cases h
theorem Aav {o:Op} (h:opV P o a=some v):kd P o=.pure:=by
 unfold opV at h
 split at h <;> first|rfl|(cases h;done)|skip
 split at h
 ·split at h
  ·rename_i ht
   have:=VU (P:=P) (by rw[ht];exact Agm h)
   simp only[kd,this]
  ·cases h
 ·cases h
end
section
variable {P:Program} {ops:Array Oper} {Q:Fr→Hp→Prop} {a:Fr} {H:Hp} {i c:Nat} {rest:List Oper} {l:List (Nat×Nat)} {hist:List Hp} {d':Nat} {v:Value}
variable {ty:TypeId} {pos:String} {after:Array Edge} {g:Option (Nat×Bool)} {o:Op}
end
end
end Go.Sl
end
section
namespace Go.Sl
def K9 (P:Program) (t:TypeId) (i:Nat):Option (Nat×Nat):=match P.underlying t with
 |some (.struct fs)=>match fs[i]? with
  |some f=>match P.info? f.type with
   |some inf=>some (f.offset,inf.size)
   |none=>none
  |none=>none
 |some (.array _ e)=>match P.info? e with
  |some inf=>some (i * inf.size,inf.size)
  |none=>none
 |_=>none
def NB (P:Program) (t:TypeId):Bool:=match P.underlying t with
 |some (.struct fs)=>fs.toList.all fun f=>(P.info? f.type).isSome
 |some (.array _ e)=>(P.info? e).isSome
 |_=>false
def Py (place:Nat→Option (Nat×Nat)):List Value→List (Nat×Value)→Option (List Value)
 |cs,[]=>some cs
 |cs,(i,v)::rest=>match place i with
  |none=>none
  |some (off,sz)=>if v.cells.toList.length=sz∧off+sz≤cs.length then match nE (uO cs off v.cells.toList) with
   |some cs'=>Py place cs' rest
   |none=>none
  else none
theorem Re:∀(l:List Value) (k off:Nat) (cs:Array Value),((l.zipIdx k).foldl (fun cs (c,j)=>cs.setIfInBounds (off+j) c) cs)=(mW cs.toList (off+k) l).toArray:=by
 intro l
 induction l with
 |nil=>intro k off cs;simp[mW]
 |cons v l ih=>
  intro k off cs
  simp only[List.zipIdx_cons,List.foldl_cons,mW]
  rw[ih]
  congr 1
  simp[Nat.add_assoc]
theorem CM {p' p:Nat→Option (Nat×Nat)} (hp:∀i x,p' i=some x→p i=some x):∀(parts:List (Nat×Value)) (cs r:List Value),Py p' cs parts=some r→Instr.fill p cs.toArray parts=some r.toArray:=by
 intro parts
 induction parts with
 |nil=>intro cs r h;cases h;rfl
 |cons x parts ih=>
  obtain⟨i,v⟩:=x
  intro cs r h
  simp only[Py] at h
  split at h
  ·cases h
  ·rename_i off sz hi
   split at h
   ·rename_i hc
    simp only[Instr.fill,hp i _ hi]
    have h1:v.cells.size=sz:=by simpa using hc.1
    have h2:¬(off+v.cells.size > cs.toArray.size):=by simp;omega
    rw[if_neg (by simp[h1];omega)]
    have:(v.cells.zipIdx.foldl (fun cs (c,j)=>cs.setIfInBounds (off+j) c) cs.toArray)=(mW cs off v.cells.toList).toArray:=by
     rw[← Array.foldl_toList,Array.toList_zipIdx]
     exact Re v.cells.toList 0 off cs.toArray
    rw[this]
    split at h
    ·rename_i cs' hcs'
     rw[← Gw,lE hcs']
     exact ih _ _ h
    ·cases h
   ·cases h
def B6 (a:Fr):List (Nat×Operand)→Option (List (Nat×Value))
 | []=>some []
 |(i,x)::xs=>match iP (bK a x),B6 a xs with
  |some v,some vs=>some ((i,v)::vs)
  |_,_=>none
theorem JB {a:Fr}:∀ {xs:List (Nat×Operand)} {vs:List (Nat×Value)},B6 a xs=some vs→xs.map (fun(i,x)=>(i,bK a x))=vs:=by
 intro xs
 induction xs with
 |nil=>intro vs h;cases h;rfl
 |cons x xs ih=>
  obtain⟨i,x⟩:=x
  intro vs h
  simp only[B6] at h
  split at h
  ·rename_i v vs' h1 h2;cases h;rw[List.map_cons,ih h2,← gM h1]
  ·cases h
def MD (P:Program) (t:TypeId) (parts:List (Nat×Value)):Option Value:=
 if NB P t=true then match zW P t with
  |some zs=>match Py (K9 P t) zs parts with
   |some cs=>match nE cs with
    |some cs=>some (.agg cs.toArray)
    |none=>none
   |none=>none
  |none=>none
 else none
theorem MG {P:Program} {α β:Type} {f:α→Sem β} {g:α→β} {l:List α} (h:∀x∈l,(f x).pr P=some (g x)):(l.mapM f).pr P=some (l.map g):=by
 induction l with
 |nil=>rfl
 |cons x l ih=>
  rw[List.mapM_cons,aT,h x (by simp),Option.bind_some,aT,ih (fun y hy=>h y (by simp[hy]))]
  rfl
theorem Hd {P:Program} {t:TypeId} {zs:List Value} (h:zW P t=some zs):∃z,(zeroValue t).pr P=some z∧z.cells.toList=zs:=by
 unfold zW at h
 split at h
 ·rename_i i hi
  split at h
  ·rename_i z hz
   exact⟨z,by simp only[zeroValue,aT,d5 hi,Option.bind_some,hz];rfl,by simpa using h⟩
  ·cases h
 ·cases h
theorem ZG {P:Program} {t:TypeId} {parts:Array (Nat×Value)} {v:Value} (h:MD P t parts.toList=some v):(Instr.build t parts).pr P=some v:=by
 unfold MD at h
 split at h
 ·rename_i hok
  split at h
  ·rename_i zs hzs
   split at h
   ·rename_i cs hfill
    split at h
    ·rename_i cs' hcs
     cases h
     obtain⟨z,hz,hzl⟩:=Hd hzs
     have hcs':=lE hcs
     subst hcs'
     unfold Instr.build
     rw[aT,hz,Option.bind_some]
     unfold NB at hok
     have hza:z.cells=zs.toArray:=by rw[← hzl]
     split at hok
     ·rename_i fs hu
      rw[aT,aK hu,Option.bind_some]
      simp only
      have hm:(fs.mapM fun f=>(do pure (f.offset,← sizeOf f.type):Sem (Nat×Nat))).pr P=some (fs.toList.map fun f=>(f.offset,((P.info? f.type).map (·.size)).getD 0)).toArray:=by
       rw[Array.mapM_eq_mapM_toList,map_eq_pure_bind,aT,MG (g:=fun f=>(f.offset,((P.info? f.type).map (·.size)).getD 0))]
       ·rfl
       ·intro f hf
        have:=List.all_eq_true.1 hok f hf
        cases hi:P.info? f.type with
        |none=>rw[hi] at this;cases this
        |some i=>simp only[aT,fK hi,Option.bind_some];rfl
      rw[aT,hm,Option.bind_some]
      have:=CM (p:=fun i=>((fs.toList.map fun f=>(f.offset,((P.info? f.type).map (·.size)).getD 0)).toArray)[i]?) (fun i x hx=>by
       simp only[K9,hu] at hx
       split at hx
       ·rename_i f hf
        split at hx
        ·rename_i inf hinf;cases hx;simp[hf,hinf]
        ·cases hx
       ·cases hx) _ _ _ hfill
      rw[hza,this]
      rfl
     ·rename_i n e hu
      rw[aT,aK hu,Option.bind_some]
      simp only
      have hpl:∀i,K9 P t i=match P.info? e with|some inf=>some (i * inf.size,inf.size)|none=>none:=fun i=>by simp only[K9,hu]
      cases hi:P.info? e with
      |none=>rw[hi] at hok;cases hok
      |some inf=>
       rw[aT,fK hi,Option.bind_some]
       have:=CM (p:=fun i=>some (i * inf.size,inf.size)) (fun i x hx=>by rw[hpl,hi] at hx;exact hx) _ _ _ hfill
       rw[hza,this]
       rfl
     ·cases hok
    ·cases h
   ·cases h
  ·cases h
 ·cases h
section
variable {P:Program} {a:Fr} {d:Option Tmp} {ty:TypeId} {pos:String} {after:Array Edge} {g:Option (Nat×Bool)} {t yt:TypeId} {x y z:Operand}
theorem Aaa {ps:Array (Nat×Operand)} {vs:List (Nat×Value)} {v:Value} (hps:B6 a ps.toList=some vs) (hv:MD P t vs=some v):bX P ⟨d,.build t ps,ty,pos,after,g⟩ a=some v:=by
 refine cD ?_
 have e:(ps.map fun(i,x)=>(i,bK a x)).toList=vs:=by rw[Array.toList_map];exact JB hps
 simp only[execOp,aT]
 rw[ZG (v:=v) (by rw[e];exact hv)]
 rfl
def D3 (P:Program) (t:TypeId):Option TypeId:=match P.underlying t with
 |some (.slice e)=>some e
 |_=>none
theorem Mt {e:TypeId} (h:D3 P t=some e):P.underlying t=some (.slice e):=by
 unfold D3 at h;split at h
 ·cases h;assumption
 ·cases h
def LB (P:Program) (t:TypeId) (n:Nat) (parts:List (Nat×Value)):Option (List Value):=match D3 P t with
 |some e=>match o8 P e,zW P e with
  |some sz,some zs=>if n * sz≤16777216∧n * sz≠0 then match Py (fun i=>some (i * sz,sz)) ((List.range (n * sz)).map fun i=>(zs[i % zs.length]?).getD default) parts with
    |some cs=>nE cs
    |none=>none
   else none
  |_,_=>none
 |none=>none
theorem Jq {ps:Array (Nat×Operand)} {n:Nat} {vs:List (Nat×Value)} {cs:List Value} {e:TypeId} {H:Hp} {k:Value→Hp→Prop} (hps:B6 a ps.toList=some vs) (he:D3 P t=some e) (hc:LB P t n vs=some cs)
  (hk:∀r,H r=none→k (.slice (some ⟨r,0,none⟩) n n) (hupd H r (.cells cs e true))):lY P ⟨d,.buildSlice t n ps,ty,pos,after,g⟩ a H k:=by
 have hu:=Mt he
 have epar:(ps.map fun(i,x)=>(i,bK a x)).toList=vs:=by rw[Array.toList_map];exact JB hps
 unfold LB at hc
 rw[he] at hc
 simp only at hc
 split at hc
 ·rename_i sz zs hsz hzs
  split at hc
  ·rename_i hle
   split at hc
   ·rename_i cs' hfill
    have hcs:=lE hc
    subst hcs
    obtain⟨inf,hi,rfl⟩:=rN hsz
    obtain⟨z,hz,hzl⟩:=Hd hzs
    refine fP ?_
    simp only[execOp,Instr.buildSlice,aJ]
    rw[aP (aK hu)]
    simp only[aJ]
    rw[aP (fK hi),if_neg (by have:=hle.1;omega)]
    rw[if_neg hle.2]
    simp only[aJ]
    rw[aP hz]
    have hb:((Array.range (n * inf.size)).map fun i=>z.cells[i % z.cells.size]!)=((List.range (n * inf.size)).map fun i=>(zs[i % zs.length]?).getD default).toArray:=by
     apply Array.ext'
     rw[Array.toList_map,Array.toList_range,← hzl]
     apply List.map_congr_left
     intro i _
     simp[getElem!_def,Array.getElem?_toList]
     rfl
    have hf:=CM (p:=fun i=>some (i * inf.size,inf.size)) (fun _ _ h=>h) _ _ _ hfill
    rw[aP (show(pure z.cells:Sem (Array Value)).pr P=some z.cells from rfl),hb]
    rw[show(Array.map (fun x=>(x.1,bK a x.2)) ps).toList=vs from epar,hf]
    simp only[aJ,newRow]
    intro r hr
    exact⟨rfl,hk r hr⟩
   ·cases hc
  ·cases hc
 ·cases hc
def Ajv (P:Program) (t:TypeId):Option (Nat×Nat):=match P.underlying t with
 |some (.array n e)=>match P.info? e with
  |some i=>some (n,i.size)
  |none=>none
 |_=>none
theorem VM {B off n sz:Nat} {k:IntKind} {j:Int} (ht:Ajv P t=some (n,sz)) (hx:bK a x=.pointer (some ⟨B,off,none⟩)) (hy:bK a y=.int k j) (h0:0≤j) (h1:j<n):
  bX P ⟨d,.indexAddr t x y,ty,pos,after,g⟩ a=some (.pointer (some ⟨B,off+j.toNat * sz,none⟩)):=by
 refine cD ?_
 unfold Ajv at ht
 split at ht
 ·rename_i m e hu
  split at ht
  ·rename_i i hi
   cases ht
   simp only[execOp,hx,hy,Instr.indexAt,aT,asIntOf,pure,Sem.pr,Option.bind_some,aK hu,Instr.sureAddr,h0,h1,and_self,if_true,fK hi,nW]
  ·cases ht
 ·cases ht
def Qh (P:Program) (t:TypeId):Option IntKind:=match P.underlying t with
 |some (.int k)=>some k
 |_=>none
theorem L8 {t':TypeId} {k k':IntKind} {n:Int} (hs:(P.underlying t).isSome=true) (ht:Qh P t'=some k) (hx:bK a x=.int k' n):
  bX P ⟨d,.convert t t' x,ty,pos,after,g⟩ a=some (.int k (k.wrap n)):=by
 refine cD ?_
 unfold Qh at ht
 split at ht
 ·rename_i k0 hu
  cases ht
  cases hs':P.underlying t with
  |none=>rw[hs'] at hs;cases hs
  |some D=>
   simp only[execOp,hx,convert,aT,aK hs',aK hu,Option.bind_some]
   cases D <;> rfl
 ·cases ht
def yS (P:Program) (t:TypeId) (cs:List Value) (off:Nat):Option Value:=match Cv P t with
 |some true=>match P.info? t with
  |some i=>match nE ((cs.drop off).take i.size) with
   |some vs=>some (.agg vs.toArray)
   |none=>none
  |none=>none
 |some false=>cs[off]?
 |none=>none
def Air:Option Bool→Option Bool→Option Bool
 |some b,some r=>some (b && r)
 |_,_=>none
def Xx (eq:TypeId→Value→Value→Option Bool) (P:Program) (xs ys:List Value):List Field→Option Bool
 | []=>some true
 | [f]=>match yS P f.type xs f.offset,yS P f.type ys f.offset with
  |some u,some w=>eq f.type u w
  |_,_=>none
 |f::fs=>match yS P f.type xs f.offset,yS P f.type ys f.offset with
  |some u,some w=>Air (eq f.type u w) (Xx eq P xs ys fs)
  |_,_=>none
def Cr (P:Program):Nat→TypeId→Bool
 |0,_=>false
 |n+1,t=>match P.underlying t with
  |some .bool=>true
  |some (.int _)=>true
  |some .string=>true
  |some (.struct fs)=>!P.stoodInHeld t && fs.toList.all fun f=>f.name != "_" && Cr P n f.type
  |_=>false
def eqV (P:Program):Nat→TypeId→Value→Value→Option Bool
 |0,_,_,_=>none
 |n+1,t,u,w=>match P.underlying t with
  |some .bool=>match u,w with
   |.bool b,.bool b'=>some (b == b')
   |_,_=>none
  |some (.int _)=>match u,w with
   |.int k m,.int k' m'=>if k=k' then some (m == m') else none
   |_,_=>none
  |some .string=>match u,w with
   |.string b,.string b'=>some (b.toList == b'.toList)
   |_,_=>none
  |some (.struct fs)=>match u,w with
   |.agg xs,.agg ys=>Xx (eqV P n) P xs.toList ys.toList fs.toList
   |_,_=>none
  |_=>none
theorem N5 {b:Bool} (h:Cv P t=some b):(isAgg t).pr P=some b:=by
 unfold Cv at h
 unfold isAgg
 split at h
 ·rename_i fs hu;rw[aT,aK hu];exact h
 ·rename_i n e hu;rw[aT,aK hu];exact h
 ·rename_i d h1 h2 hu
  rw[aT,aK hu,Option.bind_some]
  split
  ·exact(h1 _ rfl).elim
  ·exact(h2 _ _ rfl).elim
  ·exact h
 ·cases h
theorem GA {cs:Array Value} {off:Nat} {v:Value} (h:yS P t cs.toList off=some v):(part t cs off).pr P=some v:=by
 unfold yS at h
 unfold part
 split at h
 ·rename_i hag
  split at h
  ·rename_i i hi
   split at h
   ·rename_i vs hvs
    cases h
    rw[aT,N5 hag,Option.bind_some]
    simp only[if_true]
    rw[aT,fK hi,Option.bind_some]
    have:cs.extract off (off+i.size)=vs.toArray:=by
     rw[← lE hvs]
     apply Array.ext'
     simp
    rw[this];rfl
   ·cases h
  ·cases h
 ·rename_i hag
  rw[aT,N5 hag,Option.bind_some]
  simp only[Bool.false_eq_true,if_false]
  rw[Array.getElem?_toList] at h
  rw[h];rfl
 ·cases h
theorem WK {x y:Option Bool} {b:Bool} (h:Air x y=some b):∃c r,x=some c∧y=some r∧b=(c && r):=by
 unfold Air at h
 split at h
 ·exact⟨_,_,rfl,rfl,by cases h;rfl⟩
 ·cases h
theorem VK {eq:TypeId→Value→Value→Option Bool} {xs ys:List Value} {f:Field} {fs:List Field} {b:Bool} (h:Xx eq P xs ys (f::fs)=some b):
  ∃u w c r,yS P f.type xs f.offset=some u∧yS P f.type ys f.offset=some w∧eq f.type u w=some c∧Xx eq P xs ys fs=some r∧b=(c && r):=by
 cases fs with
 |nil=>
  simp only[Xx] at h
  split at h
  ·rename_i u w hu hw;exact⟨u,w,b,true,hu,hw,h,rfl,by simp⟩
  ·cases h
 |cons f' fs'=>
  simp only[Xx] at h
  split at h
  ·rename_i u w hu hw
   obtain⟨c,r,h1,h2,h3⟩:=WK h
   exact⟨u,w,c,r,hu,hw,h1,h2,h3⟩
  ·cases h
theorem Ij:∀(n m:Nat) (t:TypeId) (u w:Value) (b:Bool),n≤m→Cr P n t=true→eqV P n t u w=some b→(Op.equalIn m t u w).pr P=some b:=by
 intro n
 induction n with
 |zero=>intro m t u w b _ _ h;cases h
 |succ n ih=>
  intro m t u w b hm hfree h
  obtain⟨m,rfl⟩:∃m',m=m'+1:=⟨m - 1,by omega⟩
  unfold Op.equalIn
  simp only[eqV] at h
  split at h
  ·rename_i hu
   rw[aT,aK hu,Option.bind_some]
   split at h
   ·exact h
   ·cases h
  ·rename_i k hu
   rw[aT,aK hu,Option.bind_some]
   split at h
   ·split at h
    ·rename_i hk;subst hk;simp only[if_true];exact h
    ·cases h
   ·cases h
  ·rename_i hu
   rw[aT,aK hu,Option.bind_some]
   split at h
   ·rename_i x y
    have:(x == y)=(x.toList == y.toList):=beq_toListBytes x y
    simp only[this]
    exact h
   ·cases h
  ·rename_i fs hu
   rw[aT,aK hu,Option.bind_some]
   simp only[Cr,hu,Bool.and_eq_true,Bool.not_eq_true'] at hfree
   obtain⟨hst,hall⟩:=hfree
   split at h
   ·rename_i xs ys
    simp only
    rw[aT,show program.pr P=some P from rfl,Option.bind_some,hst]
    simp only[Bool.false_eq_true,if_false]
    rw[← Array.forIn_toList]
    generalize fs.toList=l at h hall
    clear hu
    induction l generalizing b with
    |nil=>cases h;rfl
    |cons f l ihl=>
     simp only[List.forIn_cons]
     obtain⟨p,q,c,r,hp,hq,hc,hr,rfl⟩:=VK h
     simp only[List.all_cons,Bool.and_eq_true] at hall
     obtain⟨⟨hn,hf⟩,hall⟩:=hall
     have key:=ih m f.type p q c (by omega) hf hc
     rw[if_pos (by simpa using hn)]
     have ihl':=ihl r hr hall
     simp only[aT] at ihl'
     simp only[aT,GA hp,GA hq,key,Option.bind_some]
     cases c with
     |false=>rfl
     |true=>exact ihl'
   ·cases h
  ·cases h
theorem AE {op:BinOp} {xs ys:Array Value} (h:P.eqGuardType P.depth t=false):(eqGuard op t x y (.agg xs) (.agg ys)).pr P=some ():=by
 unfold eqGuard
 cases op <;> first|rfl|(show Sem.pr P (if(!true)=true then _ else _)=_;rw[if_neg (by simp)];simp only[aT,show program.pr P=some P from rfl,Option.bind_some,h];rfl)
theorem Ri {xs ys:Array Value} {b:Bool} (hx:bK a x=.agg xs) (hy:bK a y=.agg ys) (hg:(!P.eqGuardType P.depth t && Cr P 20 t)=true) (he:eqV P 20 t (.agg xs) (.agg ys)=some b):
  bX P ⟨d,.binOp .eql t x y yt,ty,pos,after,g⟩ a=some (.bool b):=by
 refine cD ?_
 have h1:(binOp .eql t (.agg xs) (.agg ys)).pr P=some (.bool b):=by
  simp only[binOp,aT]
  rw[show(Op.equal t (.agg xs) (.agg ys)).pr P=some b from Ij 20 _ t _ _ b (by unfold Op.maxDepth;omega) (by simp only[Bool.and_eq_true] at hg;exact hg.2) he]
  rfl
 simp only[execOp,hx,hy,aT]
 rw[AE (by simp only[Bool.and_eq_true,Bool.not_eq_true'] at hg;exact hg.1),Option.bind_some,h1]
 rfl
theorem Sv {xs ys:Array Value} {b:Bool} (hx:bK a x=.agg xs) (hy:bK a y=.agg ys) (hg:(!P.eqGuardType P.depth t && Cr P 20 t)=true) (he:eqV P 20 t (.agg xs) (.agg ys)=some b):
  bX P ⟨d,.binOp .neq t x y yt,ty,pos,after,g⟩ a=some (.bool (!b)):=by
 refine cD ?_
 have h1:(binOp .neq t (.agg xs) (.agg ys)).pr P=some (.bool (!b)):=by
  simp only[binOp,aT]
  rw[show(Op.equal t (.agg xs) (.agg ys)).pr P=some b from Ij 20 _ t _ _ b (by unfold Op.maxDepth;omega) (by simp only[Bool.and_eq_true] at hg;exact hg.2) he]
  rfl
 simp only[execOp,hx,hy,aT]
 rw[AE (by simp only[Bool.and_eq_true,Bool.not_eq_true'] at hg;exact hg.1),Option.bind_some,h1]
 rfl
end
end Go.Sl
namespace Go.Sl
theorem EM:∀(news A B:List Value),news.length≤B.length→mW (A++B) A.length news=A++news++B.drop news.length:=by
 intro news
 induction news with
 |nil=>intro A B _;simp[mW]
 |cons v news ih=>
  intro A B hle
  cases B with
  |nil=>simp at hle
  |cons b B=>
   simp only[mW]
   have:(A++b::B).set A.length v=(A++ [v])++B:=by simp
   rw[this]
   have:=ih (A++ [v]) B (by simpa using hle)
   simp only[List.length_append,List.length_cons,List.length_nil] at this
   rw[this]
   simp
theorem V2 (N:Nat):∀(k c:Nat),c≤2 * N+192→Builtin.growBy N k c≤2 * N+192:=by
 intro k
 induction k with
 |zero=>exact fun c h=>h
 |succ k ih=>
  intro c h
  unfold Builtin.growBy
  split
  ·exact h
  ·exact ih _ (by omega)
theorem HU {need cap:Nat} (h:cap<need):Builtin.nextslicecap need cap≤2 * need+512:=by
 unfold Builtin.nextslicecap
 split
 ·omega
 ·split
  ·omega
  ·have:=V2 need 4 cap (by omega);omega
section
variable {P:Program} {H:Hp}
theorem nI {sz n cap off B:Nat} {cs:List Value} {e:TypeId} {rw:Bool} {m:Nat} (hb:H B=some (.cells cs e rw)) (hle:off+m * sz≤cs.length):
  (Builtin.firstCells sz m (.slice (some ⟨B,off,none⟩) n cap)).rd P H=some ((cs.drop off).take (m * sz)).toArray:=by
 simp only[Builtin.firstCells,loadCells]
 rw[xY hb off (m * sz) 0 #[] (by omega)]
 simp
theorem rT {α:Type} {s:Sem α} {v:α} {q:α→Hp→Prop} (h:s.rd P H=some v) (hq:q v H):s.ev P H q:=Ah1 P s v q h hq
theorem Cy {n:Nat} {q:Unit→Hp→Prop} (hq:q () H):(askRoom n).ev P H q:=by
 unfold askRoom
 split
 ·exact hq
 ·exact hq
def Bi (P:Program) (t:TypeId):Bool:=match P.underlying t with
 |some (.int _)=>false
 |some _=>true
 |none=>false
theorem Eg {t:TypeId} (h:Bi P t=true):∃D,P.underlying t=some D∧∀k,D≠.int k:=by
 unfold Bi at h
 split at h
 ·cases h
 ·rename_i D hne hD;exact⟨D,hD,fun k hk=>hne k hk⟩
 ·cases h
end
def Akj (H0 H:Hp) (s:Value) (e:TypeId) (sz n:Nat) (xs:List Value):Prop:=
 xs.length=n * sz∧((s=.slice none 0 0∧n=0∧H=H0)∨
  ∃r pre post cap,s=.slice (some ⟨r,pre.length,none⟩) n cap∧H0 r=none∧H=hupd H0 r (.cells (pre++xs++post) e true)∧n≤cap∧post.length=(cap - n) * sz)
section
variable {P:Program} {a:Fr} {d:Option Tmp} {ty:TypeId} {pos:String} {after:Array Edge} {g:Option (Nat×Bool)} {x y:Operand} {H0 Hr H:Hp} {k:Value→Hp→Prop}
def O1 (P:Program) (st xt:TypeId):Option (TypeId×Nat×Nat):=match P.underlying st with
 |some (.slice e)=>match P.info? e with
  |some i=>match i.zero with
   |some z=>if z.cells.size=i.size∧i.bytes≠0∧Bi P xt=true then some (e,i.size,i.bytes) else none
   |none=>none
  |none=>none
 |_=>none
def NP (P:Program) (st xt:TypeId):Option (TypeId×Nat×Nat):=match O1 P st xt with
 |some (e,sz,b)=>match y9 sz with
  |some sz=>match y9 b with
   |some b=>some (e,sz,b)
   |none=>none
  |none=>none
 |none=>none
theorem Wv {P:Program} {st xt e:TypeId} {sz b:Nat} (h:NP P st xt=some (e,sz,b)):O1 P st xt=some (e,sz,b):=by
 unfold NP at h
 split at h
 ·rename_i e' sz' b' h0
  split at h
  ·rename_i sz2 h1
   split at h
   ·rename_i b2 h2
    cases h
    rw[h0,nT h1,nT h2]
   ·cases h
  ·cases h
 ·cases h
end
end Go.Sl
namespace Go.Sl
section
variable {P:Program} {ops:Array Oper} {Q:Fr→Hp→Prop} {a:Fr} {H:Hp} {i c:Nat} {rest:List Oper} {l:List (Nat×Nat)} {hist:List Hp} {d':Nat} {d:Option Tmp}
variable {ty:TypeId} {pos:String} {after:Array Edge} {g:Option (Nat×Bool)} {t yt:TypeId} {x y z:Operand}
section
variable {P:Program} {ops:Array Oper} {Q:Fr→Hp→Prop} {a:Fr} {H:Hp} {i c:Nat} {rest:List Oper} {l:List (Nat×Nat)} {hist:List Hp} {d':Nat} {d:Option Tmp}
variable {ty:TypeId} {pos:String} {after:Array Edge} {g:Option (Nat×Bool)} {t yt:TypeId} {x y z:Operand}
theorem uS {z:Int} (h0:-9223372036854775808≤z) (h1:z≤9223372036854775807):IntKind.wrap .i64 z=z:=by
 simp[IntKind.wrap,IntKind.bits,IntKind.signed]
 split <;> omega
theorem X5 {m n:Int} (hx:bK a x=.int .i64 m) (hy:bK a y=.int .i64 n) (h0:-9223372036854775808≤m+n) (h1:m+n≤9223372036854775807):bX P ⟨d,.binOp .add t x y yt,ty,pos,after,g⟩ a=some (.int .i64 (m+n)):=by
 have:=Cz (P:=P) (d:=d) (t:=t) (yt:=yt) (ty:=ty) (pos:=pos) (after:=after) (g:=g) (op:=.add) hx hy rfl rfl
 rw[uS h0 h1] at this;exact this
theorem ZO {m n:Int} (hx:bK a x=.int .i64 m) (hy:bK a y=.int .i64 n) (h0:-9223372036854775808≤m - n) (h1:m - n≤9223372036854775807):bX P ⟨d,.binOp .sub t x y yt,ty,pos,after,g⟩ a=some (.int .i64 (m - n)):=by
 have:=Cz (P:=P) (d:=d) (t:=t) (yt:=yt) (ty:=ty) (pos:=pos) (after:=after) (g:=g) (op:=.sub) hx hy rfl rfl
 rw[uS h0 h1] at this;exact this
theorem Aam {m n:Int} (hx:bK a x=.int .i64 m) (hy:bK a y=.int .i64 n) (h0:-9223372036854775808≤m * n) (h1:m * n≤9223372036854775807):bX P ⟨d,.binOp .mul t x y yt,ty,pos,after,g⟩ a=some (.int .i64 (m * n)):=by
 have:=Cz (P:=P) (d:=d) (t:=t) (yt:=yt) (ty:=ty) (pos:=pos) (after:=after) (g:=g) (op:=.mul) hx hy rfl rfl
 rw[uS h0 h1] at this;exact this
section
variable {P:Program} {a:Fr} {H:Hp}
theorem Ajw {t:Tmp} {rs:List ResultVar} {v:Value} {vs:List Value} (hx:iP (a t)=some v) (h:xH P a H rs=some vs):xH P a H (.tmp t::rs)=some (v::vs):=by
 simp only[xH,N1,h,gM hx]
theorem Afw {p:Tmp} {t:TypeId} {B off:Nat} {cs:List Value} {e:TypeId} {rw:Bool} {rs:List ResultVar} {v:Value} {vs:List Value} (hx:a p=.pointer (some ⟨B,off,none⟩)) (hb:H B=some (.cells cs e rw)) (hv:Nl P t cs off=some v) (h:xH P a H rs=some vs):
  xH P a H (.cell p t::rs)=some (v::vs):=by
 simp only[xH,N1,h,hx,Ll hb hv]
end
def cN (a:Fr):List (Nat×Value)→Prop
 | []=>True
 |(t,v)::l=>a t=v∧cN a l
def eQ (a:Fr):List (Nat×Value)→Fr
 | []=>a
 |(t,v)::l=>kP (eQ a l) t v
theorem Ty {a:Fr}:∀ {l:List (Nat×Value)},cN a l→eQ a l=a:=by
 intro l
 induction l with
 |nil=>intro _;rfl
 |cons x l ih=>
  intro h
  obtain⟨h1,h2⟩:=h
  have:=ih h2
  show kP (eQ a l) x.1 x.2=a
  rw[this]
  funext i
  unfold kP
  split
  ·rename_i e;subst e;exact h1.symm
  ·rfl
end
end
end Go.Sl
end
section
namespace Go.Sl
open Go.ChangeShapes Go.WideShapes Go.ChangeAt Go.RowKit
section
variable {H:Type} {enc:TypeId×Value→H} {P:Program}
theorem Kp (hl:laidOutB P=true) {W W':World} (hb:Below W.heap.size W W') {sp:Nat→Bool}:∀ {ts:List TypeId} {vs:List Value} {ds:List (DataW H)} {ps:List MemPlace},
  (∀t∈ts,(P.readableRec t && decide (t<P.types.size))=true)→DataW.TrodAll enc P W 0 (fun _=>true) true ts vs ds ps→(∀p∈ps,p.block<W.heap.size)→(∀p∈ps,sp p.block=true)→DataW.TrodAll enc P W' 0 sp true ts vs ds ps
 | [],[],[],_,_,h,_,_=>h
 |t::ts,_::_,_::_,_,hT,⟨p,q,h1,h2,e⟩,hlt,hs=>by
  have ht:=hT t (List.mem_cons.2 (Or.inl rfl))
  simp only[Bool.and_eq_true,decide_eq_true_eq] at ht
  exact⟨p,q,WideElems.Trod_stays hl ht.1 ht.2 h1 (fun x hx=>hb.same (hlt x (by rw[e];exact List.mem_append_left _ hx))) (fun x hx=>hs x (by rw[e];exact List.mem_append_left _ hx)),
   Kp hl hb (fun t ht=>hT t (List.mem_cons.2 (Or.inr ht))) h2 (fun x hx=>hlt x (by rw[e];exact List.mem_append_right _ hx)) (fun x hx=>hs x (by rw[e];exact List.mem_append_right _ hx)),e⟩
theorem YN {f:Func} {s:ChangeSpec} {apart fresh handsOn again:Bool} {W W':World} {args:Array Value} {ds gs:List (DataW H)} {before:List MemPlace} {t:TypeId} (hl:laidOutB P=true)
  (hp:(f.params.toList.all fun t=>P.readableRec t && decide (t<P.types.size))=true) (hr:f.resultTypes=#[t]) (ht:P.underlying t=some .bool) (hv:s.vars= [])
  (hW:DataW.Whole enc P f.params.toList s.vars apart W args.toList ds gs before) (h1:(s.fn H (ds++gs)).results= [.lit (.bool true)]) (h2:(s.fn H (ds++gs)).args=ds) (h3:(s.fn H (ds++gs)).vars= [])
  (hb:Below W.heap.size W W'):s.post enc P f apart fresh handsOn again W args (.bool true) W':=by
 have hW':=hW
 have hlt:∀p∈before,p.block<W.heap.size:=fun p hp=>hW.lt p hp
 obtain⟨p,q,hA,hV,hpq,hz,hn⟩:=hW
 have hq:q= []:=by
  rw[hv] at hV
  exact(trodVars_none hV).2
 subst hq
 have hpq':before=p:=by rw[hpq];simp
 subst hpq'
 have hT:∀t∈f.params.toList,(P.readableRec t && decide (t<P.types.size))=true:=List.all_eq_true.1 hp
 have hargs:∀sp:Nat→Bool,(∀x∈before,sp x.block=true)→DataW.TrodAll enc P W' 0 sp true f.params.toList args.toList (s.fn H (ds++gs)).args before:=fun sp hsp=>by
  rw[h2];exact Kp hl hb hT hA hlt hsp
 have hres:∀(b:Nat) (sp:Nat→Bool) (hd:Bool),DataW.TrodAll enc P W' b sp hd f.resultTypes.toList ((Value.bool true).resultList f.resultTypes.size) (s.fn H (ds++gs)).results []:=fun b sp hd=>by
  rw[h1,hr];exact trodAll_mk1 (shut_bool ht true)
 have hvars:∀sp:Nat→Bool,DataW.TrodVars enc P W' sp s.vars (s.fn H (ds++gs)).vars []:=fun sp=>by
  rw[h3,hv];exact rfl
 have hold:∀x∈before,(fun b=>decide (b<W.heap.size)) x.block=true:=fun x hx=>by simpa using hlt x hx
 refine⟨ds,gs,before,[],before,[],hW',hres _ _ _,hargs _ hold,hvars _,World.keptBut_mono (fun x hx=>⟨hx,by simpa using hx⟩) (hb.frame (·∈before)),fun _=>?_⟩
 refine⟨ok_one hr rfl (okWide_bool_mk ht true),_,_,([]++before)++ [],⟨[]++before,[],trodAll_append (hargs _ (fun _ _=>rfl)) (hres _ _ _),hvars _,rfl,?_,?_⟩,?_⟩
 ·intro b off hx
  have hin:MemPlace.cell b off∈before:=by simpa using hx
  rw[hb.frozen (hlt _ hin)]
  exact hz b off hin
 ·intro ha
  simpa using hn ha
 ·intro x hx _
  simpa using hx
end
end Go.Sl
namespace Go.Sl
def kX (b:UInt8):Value:=.int .u8 b.toNat
def zY (s:ByteArray):List Value:=s.data.toList.map kX
section
variable {P:Program} {H:Hp}
theorem Fa {e:TypeId} {s:ByteArray} {q:Value→Hp→Prop} (hk:∀r N,H r=none→s.size≤N→q (.slice (some ⟨r,0,none⟩) s.size N) (hupd H r (.cells (zY s++List.replicate (N - s.size) (.int .u8 0)) e true))):(Conv.stringToBytes e s).ev P H q:=by
 unfold Conv.stringToBytes
 simp only[aJ,choose,Sem.ev]
 rw[if_neg (by simp[Question.forced])]
 intro t
 simp only[Question.cut]
 generalize hN:s.size+0+t % (2 ^ 63 - (s.size+0))=N
 have hle:s.size≤N:=by omega
 simp only[newRow,aJ]
 intro r hr
 refine⟨rfl,?_⟩
 simp only[markStringish,shape,freeze,aJ,Sem.ev]
 have hcells:(Array.map (fun b=>Value.int IntKind.u8 (b.toNat:Int)) s.data++Array.replicate (N - s.size) (Value.int IntKind.u8 0)).toList= []++zY s++List.replicate (N - s.size) (Value.int IntKind.u8 0):=by simp[zY,kX]
 rw[hcells]
 have hrow:Akj H (hupd H r (.cells ([]++zY s++List.replicate (N - s.size) (Value.int IntKind.u8 0)) e true)) (.slice (some ⟨r,0,none⟩) s.size N) e 1 s.size (zY s):=
  ⟨by simp[zY],.inr ⟨r,[],_,N,rfl,hr,rfl,hle,by simp⟩⟩
 show match (hupd H r (sZ.cells ([]++zY s++List.replicate (N - s.size) (Value.int IntKind.u8 0)) e true)) r with
  |some (sZ.cells cs e rw)=>_
  |some (sZ.obj o)=>_
  |none=>False
 rw[kJ]
 simp only[Nat.one_ne_zero,if_false]
 exact⟨_,_,rfl,Nat.le_refl _,hk r N hr hle⟩
theorem OA {f:Value→ByteArray→Sem (ForInStep ByteArray)} (hf:∀b s,(f (kX b) s).rd P H=some (.yield (s.push b))):∀(l:List UInt8) (acc:ByteArray),(forIn (l.map kX) acc f).rd P H=some ⟨acc.data++l.toArray⟩:=by
 intro l
 induction l with
 |nil=>intro acc;simp;rfl
 |cons b l ih=>
  intro acc
  simp only[List.map_cons,List.forIn_cons]
  rw[fY,hf,Option.bind_some]
  simp only
  rw[ih (acc.push b)]
  simp[ByteArray.push]
end
def ED (P:Program) (t:TypeId):Option TypeId:=match P.underlying t with
 |some (.slice e)=>match P.underlying e with
  |some (.int .u8)=>some e
  |_=>none
 |_=>none
theorem FC {P:Program} {t e:TypeId} (h:ED P t=some e):P.underlying t=some (.slice e)∧P.underlying e=some (.int .u8):=by
 unfold ED at h
 split at h
 ·rename_i e' hu
  split at h
  ·rename_i hue;cases h;exact⟨hu,hue⟩
  ·cases h
 ·cases h
section
variable {P:Program} {a:Fr} {d:Option Tmp} {t t' ty:TypeId} {pos:String} {after:Array Edge} {g:Option (Nat×Bool)} {x:Operand} {H:Hp} {k:Value→Hp→Prop}
theorem PO {e:TypeId} {s:ByteArray} (hs:m9 P t=true) (ht:ED P t'=some e) (hx:bK a x=.string s) (hk:∀r N,H r=none→s.size≤N→k (.slice (some ⟨r,0,none⟩) s.size N) (hupd H r (.cells (zY s++List.replicate (N - s.size) (.int .u8 0)) e true))):
  lY P ⟨d,.convert t t' x,ty,pos,after,g⟩ a H k:=by
 obtain⟨h1,h2⟩:=FC ht
 refine fP ?_
 simp only[execOp,hx,convert,aJ]
 rw[aP (aK (mA hs)),aP (aK h1)]
 simp only[aJ]
 rw[aP (aK h2)]
 exact Fa hk
end
section
variable {P:Program} {ops:Array Oper} {Q:Fr→Hp→Prop} {a:Fr} {H:Hp} {i c:Nat} {rest:List Oper} {l:List (Nat×Nat)} {hist:List Hp} {d':Nat} {d:Option Tmp}
variable {ty:TypeId} {pos:String} {after:Array Edge} {g:Option (Nat×Bool)} {t yt:TypeId} {x y z:Operand}
theorem Aii {k k':IntKind} {m n:Int} {Amc:Array Operand} {ts:Array TypeId} (hargs:Amc.toList.map (bK a)= [.int k m,.int k' n]):bX P ⟨d,.call { callee:=.builtin .min,args:=Amc,argTypes:=ts },ty,pos,after,g⟩ a=some (.int k (if n<m then n else m)):=by
 refine cD ?_
 have h1:Amc.map (bK a)=#[.int k m,.int k' n]:=by apply Array.ext';simpa using hargs
 simp only[execOp,resolve,h1,aT,pure,Sem.pr,Option.bind_some,invoke,builtin,Builtin.min_,List.foldlM,Builtin.min2]
theorem Aj6 {k k':IntKind} {m n:Int} {Amc:Array Operand} {ts:Array TypeId} (hargs:Amc.toList.map (bK a)= [.int k m,.int k' n]):bX P ⟨d,.call { callee:=.builtin .max,args:=Amc,argTypes:=ts },ty,pos,after,g⟩ a=some (.int k (if n > m then n else m)):=by
 refine cD ?_
 have h1:Amc.map (bK a)=#[.int k m,.int k' n]:=by apply Array.ext';simpa using hargs
 simp only[execOp,resolve,h1,aT,pure,Sem.pr,Option.bind_some,invoke,builtin,Builtin.max_,List.foldlM,Builtin.max2]
theorem Af1 {u b:Int} (h0:0≤u) (h1:u<18014398509481984) (h2:0≤b) (h3:b<256):
  IntKind.wrap .i64 ((BitVec.ofInt 64 (u * 256) ||| BitVec.ofInt 64 b).toNat:Int)=u * 256+b:=by
 obtain⟨u,rfl⟩:=Int.eq_ofNat_of_zero_le h0
 obtain⟨b,rfl⟩:=Int.eq_ofNat_of_zero_le h2
 have e:(BitVec.ofInt 64 ((u:Int) * 256) ||| BitVec.ofInt 64 (b:Int)).toNat=u * 256+b:=by
  rw[BitVec.toNat_or]
  have h1':u * 256<2 ^ 64:=by omega
  have h2':b<2 ^ 64:=by omega
  have e1:(BitVec.ofInt 64 ((u:Int) * 256)).toNat=u * 256:=by
   rw[BitVec.toNat_ofInt]
   omega
  have e2:(BitVec.ofInt 64 (b:Int)).toNat=b:=by
   rw[BitVec.toNat_ofInt]
   omega
  rw[e1,e2]
  have:=Nat.shiftLeft_add_eq_or_of_lt (b:=b) (i:=8) (by omega) u
  rw[Nat.shiftLeft_eq] at this
  exact this.symm
 rw[e,uS] <;> omega
section
variable {P:Program} {ops:Array Oper} {Q:Fr→Hp→Prop} {a:Fr} {H:Hp} {i c:Nat} {rest:List Oper} {l:List (Nat×Nat)} {hist:List Hp} {d':Nat} {d:Option Tmp}
variable {ty:TypeId} {pos:String} {after:Array Edge} {g:Option (Nat×Bool)} {t yt:TypeId} {x y z:Operand}
theorem Xn {t':TypeId} {k':IntKind} {n:Int} (hs:(P.underlying t).isSome=true) (ht:Qh P t'=some .i64) (hx:bK a x=.int k' n) (h0:-9223372036854775808≤n) (h1:n≤9223372036854775807):bX P ⟨d,.convert t t' x,ty,pos,after,g⟩ a=some (.int .i64 n):=by
 have:=L8 (P:=P) (d:=d) (ty:=ty) (pos:=pos) (after:=after) (g:=g) hs ht hx
 rw[uS h0 h1] at this;exact this
theorem Af7 {yk:IntKind} {u:Int} (hx:bK a x=.int .i64 u) (hy:bK a y=.int yk 8) (h0:0≤u) (h1:u<18014398509481984):bX P ⟨d,.binOp .shl t x y yt,ty,pos,after,g⟩ a=some (.int .i64 (u * 256)):=by
 have:=Acx (P:=P) (d:=d) (t:=t) (yt:=yt) (ty:=ty) (pos:=pos) (after:=after) (g:=g) hx hy (by omega)
 rw[this]
 have e:u * 2 ^ (min (8:Int).toNat (IntKind.bits .i64))=u * 256:=by simp[IntKind.bits]
 rw[e,uS] <;> omega
theorem Ai3 {u b:Int} (hx:bK a x=.int .i64 (u * 256)) (hy:bK a y=.int .i64 b) (h0:0≤u) (h1:u<18014398509481984) (h2:0≤b) (h3:b<256):bX P ⟨d,.binOp .or t x y yt,ty,pos,after,g⟩ a=some (.int .i64 (u * 256+b)):=by
 have:=Cz (P:=P) (d:=d) (t:=t) (yt:=yt) (ty:=ty) (pos:=pos) (after:=after) (g:=g) (op:=.or) hx hy rfl rfl
 rw[this]
 show some (Value.int .i64 (IntKind.wrap .i64 _))=_
 have e:=Af1 h0 h1 h2 h3
 exact congrArg (fun z=>some (Value.int .i64 z)) e
def vW:Code→List Code
 |.seq x y=>vW x++vW y
 |.cond _ x y=>vW x++vW y
 |.block _ c=>vW c
 |.scope c=>vW c
 |.loop c=>.loop c::vW c
 |_=> []
def Rf (f:Func) (k:Nat):Code:=match f.body with
 |some c=>(vW c).getD k .skip
 |none=>.skip
end
end
end Go.Sl
end
