/- A part of the proof: lemmas; each with the conditions that it states. -/
import Derived.Laws.Entries
import Derived.Test.YtifgibijcmppmaaGreatMaa
set_option linter.unusedVariables false
set_option linter.unusedSimpArgs false
section
namespace Go.Sl
def g8:Value→Option Value
 |.bool b=>some (.bool b)
 |.int k n=>some (.int k n)
 |.string s=>some (.string s)
 |.pointer none=>some (.pointer none)
 |.pointer (some ⟨b,o,s⟩)=>some (.pointer (some ⟨b,o,s⟩))
 |.slice A n c=>some (.slice A n c)
 |.map r=>some (.map r)
 |.func fn f c=>some (.func fn f c)
 |.nilFunc=>some .nilFunc
 |.iface t v=>some (.iface t v)
 |.nilIface=>some .nilIface
 |.agg cs=>some (.agg cs)
 |.tuple vs=>some (.tuple vs)
 |_=>none
theorem fV {x v:Value} (h:g8 x=some v):x=v:=by
 unfold g8 at h
 split at h <;> first|(cases h;rfl)|cases h
section
variable {P:Program} {ops:Array Oper} {Q:Fr→Hp→Prop} {a:Fr} {H:Hp} {i:Nat} {o:Oper} {rest:List Oper} {v:Value}
theorem b6 (h:(execOp (bJ a) o).pr P=some (.value v)):bX P o a=some v:=by unfold bX;rw[h];rfl
theorem W7 (h:bX P o a=some v):(execOp (bJ a) o).pr P=some (.value v):=by
 unfold bX at h
 cases hx:(execOp (bJ a) o).pr P with
 |none=>rw[hx] at h;cases h
 |some n=>rw[hx] at h;cases n <;> first|(simp[JI] at h;subst h;rfl)|cases h
theorem IK {k:Value→Hp→Prop} (h:I8 P o a H=some v) (hk:k v H):k7 P o a H k:=by
 refine fD (Ag2 P _ (.value v) (nxt P k) ?_ (show nxt P k (.value v) H from hk))
 unfold I8 at h
 cases hx:(execOp (bJ a) o).rd P H with
 |none=>rw[hx] at h;cases h
 |some n=>rw[hx] at h;cases n <;> first|(simp[JI] at h;subst h;rfl)|cases h
theorem Nc (h:bX P o a=some v):I8 P o a H=some v:=by
 have:=W7 h
 unfold I8
 rw[Ag3 P _ H _ this]
 rfl
theorem Ajx (hw:bD ops o a=true) (hv:bX P o a=some v) (h:cV (Qq ops i) v fun v=>Jb P ops Q (i+1) rest (eT a o.dst v) H):Jb P ops Q i (o::rest) a H:=by
 unfold Jb
 rw[if_pos hw]
 exact IK (Nc hv) h
theorem Akk (hw:bD ops o a=true) (hv:I8 P o a H=some v) (h:cV (Qq ops i) v fun v=>Jb P ops Q (i+1) rest (eT a o.dst v) H):Jb P ops Q i (o::rest) a H:=by
 unfold Jb
 rw[if_pos hw]
 exact IK hv h
theorem Aks (hw:bD ops o a=true) (h:k7 P o a H fun v H'=>cV (Qq ops i) v fun v=>Jb P ops Q (i+1) rest (eT a o.dst v) H'):Jb P ops Q i (o::rest) a H:=by
 unfold Jb
 rw[if_pos hw]
 exact h
theorem Ajw (hw:bD ops o a=false) (h:Jb P ops Q (i+1) rest (eT a o.dst undef) H):Jb P ops Q i (o::rest) a H:=by
 unfold Jb
 rw[if_neg (by rw[hw];simp)]
 exact h
variable {c:Nat} {l:List (Nat×Nat)} {hist:List Hp}
theorem Aku (ho:ops[i]?=some o) (hk:kd P o.op=.pure) (hw:bD ops o a=true) (hv:bX P o a=some v) (h:cV (Qq ops i) v fun v=>y7 P ops Q l hist (eT a o.dst v) H):y7 P ops Q ((i,c)::l) hist a H:=by
 simp only[y7,ho,hw,if_true,hk]
 exact⟨v,hv,h⟩
theorem Aj3 (ho:ops[i]?=some o) (hk:kd P o.op=.load) (hw:bD ops o a=true) (hv:I8 P o a H=some v) (hh:∀h∈hist.take c,I8 P o a h=some v) (h:cV (Qq ops i) v fun v=>y7 P ops Q l hist (eT a o.dst v) H):
  y7 P ops Q ((i,c)::l) hist a H:=by
 simp only[y7,ho,hw,if_true,hk]
 exact⟨v,hv,hh,h⟩
theorem Akw (ho:ops[i]?=some o) (hk:kd P o.op=.other) (hw:bD ops o a=true) (h:k7 P o a H fun v H'=>cV (Qq ops i) v fun v=>y7 P ops Q l (H::hist) (eT a o.dst v) H'):y7 P ops Q ((i,c)::l) hist a H:=by
 simp only[y7,ho,hw,if_true,hk]
 exact h
theorem Akq (ho:ops[i]?=some o) (hw:bD ops o a=false) (h:y7 P ops Q l hist (eT a o.dst undef) H):y7 P ops Q ((i,c)::l) hist a H:=by
 simp only[y7,ho,hw]
 exact h
end
theorem EB {g:Bool} {v:Value} {k:Value→Prop} (_hg:g=false) (h:k v):cV g v k:=(cE g v k).2 h
theorem LX {g b:Bool} {k:Value→Prop} (hg:g=true) (h:Br b (k (.bool true)) (k (.bool false))):cV g (.bool b) k:=by subst hg;exact h
theorem Br.t {b:Bool} {x y:Prop} (hb:b=true) (h:x):Br b x y:=⟨fun _=>h,fun h'=>by rw[hb] at h';cases h'⟩
theorem Br.f {b:Bool} {x y:Prop} (hb:b=false) (h:y):Br b x y:=⟨fun h'=>(by rw[hb] at h';cases h'),fun _=>h⟩
section
variable {P:Program} {a:Fr} {d:Option Tmp} {ty:TypeId} {pos:String} {after:Array Edge} {g:Option (Nat×Bool)} {t yt:TypeId} {x y z:Operand}
theorem Ad8 {v:Value} (hx:g8 (bJ a x)=some v):bX P ⟨d,.move x,ty,pos,after,g⟩ a=some v:=by
 rw[← fV hx];rfl
theorem WE {v:Value} (hx:g8 (bJ a x)=some v):bX P ⟨d,.assign x,ty,pos,after,g⟩ a=some v:=by
 rw[← fV hx];rfl
theorem Vq {v:Value} (hx:bJ a x=.bool true) (hy:g8 (bJ a y)=some v):bX P ⟨d,.pick x y z,ty,pos,after,g⟩ a=some v:=by
 refine b6 ?_
 simp only[execOp,hx,asBool,aR,pure,Sem.pr,Option.bind_some,if_true,fV hy]
theorem Wl {v:Value} (hx:bJ a x=.bool false) (hz:g8 (bJ a z)=some v):bX P ⟨d,.pick x y z,ty,pos,after,g⟩ a=some v:=by
 refine b6 ?_
 simp only[execOp,hx,asBool,aR,pure,Sem.pr,Option.bind_some,fV hz]
 rfl
theorem Ahv {p:Addr} (hx:bJ a x=.pointer (some p)):bX P ⟨d,.nilCheck x,ty,pos,after,g⟩ a=some (.pointer (some p)):=by
 refine b6 ?_
 simp only[execOp,hx];rfl
theorem Ad6 {fn:FuncId} {fs cs:Array Value} (hx:bJ a x=.func (.func fn) fs cs):bX P ⟨d,.nilCheck x,ty,pos,after,g⟩ a=some (.func (.func fn) fs cs):=by
 refine b6 ?_
 simp only[execOp,hx];rfl
def M4:BinOp→IntKind→Int→Int→Value
 |.add,k,m,n=>.int k (k.wrap (m+n))
 |.sub,k,m,n=>.int k (k.wrap (m - n))
 |.mul,k,m,n=>.int k (k.wrap (m * n))
 |.eql,_,m,n=>.bool (m == n)
 |.neq,_,m,n=>.bool (m != n)
 |.lss,_,m,n=>.bool (m<n)
 |.leq,_,m,n=>.bool (m≤n)
 |.gtr,_,m,n=>.bool (m > n)
 |.geq,_,m,n=>.bool (m≥n)
 |.and,k,m,n=>.int k (k.wrap (BitVec.ofInt k.bits m &&& BitVec.ofInt k.bits n).toNat)
 |.or,k,m,n=>.int k (k.wrap (BitVec.ofInt k.bits m ||| BitVec.ofInt k.bits n).toNat)
 |.xor,k,m,n=>.int k (k.wrap (BitVec.ofInt k.bits m ^^^ BitVec.ofInt k.bits n).toNat)
 |.andNot,k,m,n=>.int k (k.wrap (BitVec.ofInt k.bits m &&& ~~~BitVec.ofInt k.bits n).toNat)
 |_,_,_,_=>undef
def Ab0:BinOp→Bool
 |.quo|.rem|.shl|.shr=>false
 |_=>true
theorem B3 {op:BinOp} {k:IntKind} {m n:Int} {v:Value} (hx:bJ a x=.int k m) (hy:bJ a y=.int k n) (hp:Ab0 op=true) (hv:g8 (M4 op k m n)=some v):
  bX P ⟨d,.binOp op t x y yt,ty,pos,after,g⟩ a=some v:=by
 refine b6 ?_
 rw[← fV hv]
 have hb:binOp op t (.int k m) (.int k n)=pure (M4 op k m n):=by
  cases op <;> first|exact absurd hp (by decide)|(simp[binOp,Op.intArith,Op.intCmp,Op.intBits,M4])
 simp only[execOp,hx,hy,eqGuard_at_int,hb]
 rfl
theorem Zf {k:IntKind} {m n:Int} (hx:bJ a x=.int k m) (hy:bJ a y=.int k n) (hn:n≠0):bX P ⟨d,.binOp .quo t x y yt,ty,pos,after,g⟩ a=some (.int k (k.wrap (m.tdiv n))):=by
 refine b6 ?_
 simp only[execOp,hx,hy,eqGuard_at_int]
 have:(binOp .quo t (.int k m) (.int k n)).pr P=some (.int k (k.wrap (m.tdiv n))):=by simp[binOp,Op.intDiv,hn];rfl
 simp only[aR,this]
 rfl
theorem Aci {k:IntKind} {m n:Int} (hx:bJ a x=.int k m) (hy:bJ a y=.int k n) (hn:n≠0):bX P ⟨d,.binOp .rem t x y yt,ty,pos,after,g⟩ a=some (.int k (m.tmod n)):=by
 refine b6 ?_
 simp only[execOp,hx,hy,eqGuard_at_int]
 have:(binOp .rem t (.int k m) (.int k n)).pr P=some (.int k (m.tmod n)):=by simp[binOp,Op.intDiv,hn];rfl
 simp only[aR,this]
 rfl
theorem Acu {k yk:IntKind} {m n:Int} (hx:bJ a x=.int k m) (hy:bJ a y=.int yk n) (hn:¬n<0):bX P ⟨d,.binOp .shl t x y yt,ty,pos,after,g⟩ a=some (.int k (k.wrap (m * 2 ^ (min n.toNat k.bits)))):=by
 refine b6 ?_
 simp only[execOp,hx,hy,eqGuard_at_int]
 have:(binOp .shl t (.int k m) (.int yk n)).pr P=some (.int k (k.wrap (m * 2 ^ (min n.toNat k.bits)))):=by simp[binOp,Op.shift,hn];rfl
 simp only[aR,this]
 rfl
theorem Aaa {k yk:IntKind} {m n:Int} (hx:bJ a x=.int k m) (hy:bJ a y=.int yk n) (hn:¬n<0):bX P ⟨d,.binOp .shr t x y yt,ty,pos,after,g⟩ a=some (.int k (m.fdiv (2 ^ (min n.toNat k.bits)))):=by
 refine b6 ?_
 simp only[execOp,hx,hy,eqGuard_at_int]
 have:(binOp .shr t (.int k m) (.int yk n)).pr P=some (.int k (m.fdiv (2 ^ (min n.toNat k.bits)))):=by simp[binOp,Op.shift,hn];rfl
 simp only[aR,this]
 rfl
def Me:BinOp→ByteArray→ByteArray→Value
 |.eql,m,n=>.bool (m.toList == n.toList)
 |.neq,m,n=>.bool (!(m.toList == n.toList))
 |.lss,m,n=>.bool (Op.bytesLess m.toList n.toList)
 |.leq,m,n=>.bool (Op.bytesLess m.toList n.toList || m.toList == n.toList)
 |.gtr,m,n=>.bool (!(Op.bytesLess m.toList n.toList || m.toList == n.toList))
 |.geq,m,n=>.bool (!(Op.bytesLess m.toList n.toList))
 |_,_,_=>undef
def Ow:BinOp→Bool
 |.eql|.neq|.lss|.leq|.gtr|.geq=>true
 |_=>false
theorem Aii {op:BinOp} {m n:ByteArray} {v:Value} (hx:bJ a x=.string m) (hy:bJ a y=.string n) (hp:Ow op=true) (hv:g8 (Me op m n)=some v):
  bX P ⟨d,.binOp op t x y yt,ty,pos,after,g⟩ a=some v:=by
 refine b6 ?_
 rw[← fV hv]
 have hb:binOp op t (.string m) (.string n)=pure (Me op m n):=by
  cases op <;> first|exact absurd hp (by decide)|(simp[binOp,Op.stringOp,Me])
 simp only[execOp,hx,hy,eqGuard_at_string,hb]
 rfl
theorem Aik {m n:ByteArray} (hx:bJ a x=.string m) (hy:bJ a y=.string n) (hs:m.size+n.size≤9223372036854775807):
  bX P ⟨d,.binOp .add t x y yt,ty,pos,after,g⟩ a=some (.string (m++n)):=by
 refine b6 ?_
 simp only[execOp,hx,hy]
 have h:¬((m.size+n.size:Nat):Int) > IntKind.i64.max:=by
  have:IntKind.i64.max=9223372036854775807:=by decide
  rw[this];omega
 have:(binOp .add t (.string m) (.string n)).pr P=some (.string (m++n)):=by simp only[binOp,Op.stringOp];rw[if_neg h];rfl
 simp only[aR,this]
 rfl
theorem QP {op:BinOp} {u w:Value} (h:(∃p,u=.pointer p)∨(∃b n c,u=.slice b n c)∨(∃r,u=.map r)∨(∃b,u=.bool b)∨u=.nilFunc∨(∃f x y,u=.func f x y)):(eqGuard op t x y u w).pr P=some ():=by
 rcases h with⟨p,rfl⟩|⟨b,n,c,rfl⟩|⟨r,rfl⟩|⟨b,rfl⟩|rfl|⟨f,x,y,rfl⟩ <;> cases op <;> rfl
theorem aL {D:TypeDesc} (h:P.underlying t=some D):(underlying t).pr P=some D:=by
 simp only[underlying,aR,program,Sem.pr,Option.bind_some,h];rfl
theorem DT {e:TypeId} {p:Option Addr} (ht:P.underlying t=some (.pointer e)):(Op.equal t (.pointer p) (.pointer none)).pr P=some p.isNone:=by
 unfold Op.equal Op.maxDepth Op.equalIn
 rw[aR,aL ht,Option.bind_some]
 cases p <;> rfl
theorem zN {e:TypeId} {p:Option Addr} {n c n' c':Nat} (ht:P.underlying t=some (.slice e)):(Op.equal t (.slice p n c) (.slice none n' c')).pr P=some p.isNone:=by
 unfold Op.equal Op.maxDepth Op.equalIn
 rw[aR,aL ht,Option.bind_some]
 cases p <;> rfl
theorem BV {b b':Bool} (ht:P.underlying t=some .bool):(Op.equal t (.bool b) (.bool b')).pr P=some (b == b'):=by
 unfold Op.equal Op.maxDepth Op.equalIn
 rw[aR,aL ht,Option.bind_some]
 rfl
def Ie (P:Program) (t:TypeId):Bool:=match P.underlying t with
 |some (.pointer _)=>true
 |_=>false
def lJ (P:Program) (t:TypeId):Bool:=match P.underlying t with
 |some (.slice _)=>true
 |_=>false
def DU (P:Program) (t:TypeId):Bool:=match P.underlying t with
 |some .bool=>true
 |_=>false
theorem FJ (h:Ie P t=true):∃e,P.underlying t=some (.pointer e):=by
 unfold Ie at h;split at h
 ·exact⟨_,‹_›⟩
 ·cases h
theorem mR (h:lJ P t=true):∃e,P.underlying t=some (.slice e):=by
 unfold lJ at h;split at h
 ·exact⟨_,‹_›⟩
 ·cases h
theorem CV (h:DU P t=true):P.underlying t=some .bool:=by
 unfold DU at h;split at h
 ·assumption
 ·cases h
theorem MD {u w:Value} (h:(∃p q,u=.pointer p∧w=.pointer q)∨(∃p n c q n' c',u=.slice p n c∧w=.slice q n' c')∨(∃b b',u=.bool b∧w=.bool b')):
  binOp .eql t u w=(do pure (.bool (← Op.equal t u w)))∧binOp .neq t u w=(do pure (.bool (!(← Op.equal t u w)))):=by
 rcases h with⟨p,q,rfl,rfl⟩|⟨p,n,c,q,n',c',rfl,rfl⟩|⟨b,b',rfl,rfl⟩ <;> exact⟨rfl,rfl⟩
theorem tB {u w:Value} {b:Bool} (hx:bJ a x=u) (hy:bJ a y=w) (h:(∃p q,u=.pointer p∧w=.pointer q)∨(∃p n c q n' c',u=.slice p n c∧w=.slice q n' c')∨(∃b b',u=.bool b∧w=.bool b')) (he:(Op.equal t u w).pr P=some b):
  bX P ⟨d,.binOp .eql t x y yt,ty,pos,after,g⟩ a=some (.bool b)∧bX P ⟨d,.binOp .neq t x y yt,ty,pos,after,g⟩ a=some (.bool (!b)):=by
 have hg:∀op,(eqGuard op t x y u w).pr P=some ():=fun op=>QP (by
  rcases h with⟨p,q,rfl,rfl⟩|⟨p,n,c,q,n',c',rfl,rfl⟩|⟨b,b',rfl,rfl⟩
  ·exact .inl ⟨_,rfl⟩
  ·exact .inr (.inl ⟨_,_,_,rfl⟩)
  ·exact .inr (.inr (.inr (.inl ⟨_,rfl⟩))))
 obtain⟨h1,h2⟩:=MD (t:=t) h
 constructor
 ·refine b6 ?_
  simp only[execOp,hx,hy,aR,hg,Option.bind_some,h1,he]
  rfl
 ·refine b6 ?_
  simp only[execOp,hx,hy,aR,hg,Option.bind_some,h2,he]
  rfl
theorem Re {p:Option Addr} {v:Value} (ht:Ie P t=true) (hx:bJ a x=.pointer p) (hy:bJ a y=.pointer none) (hv:g8 (.bool p.isNone)=some v):bX P ⟨d,.binOp .eql t x y yt,ty,pos,after,g⟩ a=some v:=by
 obtain⟨e,he⟩:=FJ ht
 rw[← fV hv]
 exact(tB hx hy (.inl ⟨_,_,rfl,rfl⟩) (DT he)).1
theorem QK {p:Option Addr} {v:Value} (ht:Ie P t=true) (hx:bJ a x=.pointer p) (hy:bJ a y=.pointer none) (hv:g8 (.bool (!p.isNone))=some v):bX P ⟨d,.binOp .neq t x y yt,ty,pos,after,g⟩ a=some v:=by
 obtain⟨e,he⟩:=FJ ht
 rw[← fV hv]
 exact(tB hx hy (.inl ⟨_,_,rfl,rfl⟩) (DT he)).2
theorem NP {b b':Bool} (ht:DU P t=true) (hx:bJ a x=.bool b) (hy:bJ a y=.bool b'):bX P ⟨d,.binOp .eql t x y yt,ty,pos,after,g⟩ a=some (.bool (b == b')):=
 (tB hx hy (.inr (.inr ⟨_,_,rfl,rfl⟩)) (BV (CV ht))).1
theorem NY {b b':Bool} (ht:DU P t=true) (hx:bJ a x=.bool b) (hy:bJ a y=.bool b'):bX P ⟨d,.binOp .neq t x y yt,ty,pos,after,g⟩ a=some (.bool (!(b == b'))):=
 (tB hx hy (.inr (.inr ⟨_,_,rfl,rfl⟩)) (BV (CV ht))).2
theorem LR {p:Option Addr} {n c n' c':Nat} (ht:lJ P t=true) (hx:bJ a x=.slice p n c) (hy:bJ a y=.slice none n' c'):bX P ⟨d,.binOp .eql t x y yt,ty,pos,after,g⟩ a=some (.bool p.isNone):=by
 obtain⟨e,he⟩:=mR ht
 exact(tB hx hy (.inr (.inl ⟨_,_,_,_,_,_,rfl,rfl⟩)) (zN he)).1
theorem Lm {p:Option Addr} {n c n' c':Nat} (ht:lJ P t=true) (hx:bJ a x=.slice p n c) (hy:bJ a y=.slice none n' c'):bX P ⟨d,.binOp .neq t x y yt,ty,pos,after,g⟩ a=some (.bool (!p.isNone)):=by
 obtain⟨e,he⟩:=mR ht
 exact(tB hx hy (.inr (.inl ⟨_,_,_,_,_,_,rfl,rfl⟩)) (zN he)).2
theorem RZ {b:Bool} {v:Value} (hx:bJ a x=.bool b) (hv:g8 (.bool !b)=some v):bX P ⟨d,.unOp .not t x,ty,pos,after,g⟩ a=some v:=by
 rw[← fV hv]
 refine b6 ?_
 simp only[execOp,hx];rfl
theorem Ak4 {k:IntKind} {n:Int} (hx:bJ a x=.int k n):bX P ⟨d,.unOp .neg t x,ty,pos,after,g⟩ a=some (.int k (k.wrap (0 - n))):=by
 refine b6 ?_
 simp only[execOp,hx];rfl
theorem dS {i:TypeInfo} (h:P.info? t=some i):(typeInfo t).pr P=some i:=by
 simp only[typeInfo,aR,program,Sem.pr,Option.bind_some,h];rfl
theorem eZ {i:TypeInfo} (h:P.info? t=some i):(sizeOf t).pr P=some i.size:=by
 simp only[sizeOf,aR,dS h,Option.bind_some];rfl
def wM (P:Program) (t:TypeId) (f:Nat):Option Nat:=match P.underlying t with
 |some (.struct fs)=>match fs[f]? with
  |some fd=>match P.info? fd.type with
   |some i=>if i.size=0 then none else some fd.offset
   |none=>none
  |none=>none
 |_=>none
theorem D9 {B off n f:Nat} (hx:bJ a x=.pointer (some ⟨B,off,none⟩)) (hf:wM P t f=some n):bX P ⟨d,.fieldAddr t x f,ty,pos,after,g⟩ a=some (.pointer (some ⟨B,off+n,none⟩)):=by
 refine b6 ?_
 unfold wM at hf
 split at hf
 ·rename_i fs hu
  split at hf
  ·rename_i fd hfd
   split at hf
   ·rename_i i hi
    split at hf
    ·cases hf
    ·rename_i hz
     cases hf
     simp only[execOp,hx,Instr.fieldAt,aR,aL hu,Option.bind_some,hfd,Instr.sureAddr,pure,Sem.pr,fieldPlace,eZ hi,if_neg hz,mU]
   ·cases hf
  ·cases hf
 ·cases hf
def rV (P:Program) (t:TypeId):Option Nat:=match P.underlying t with
 |some (.slice e)=>match P.info? e with
  |some i=>some i.size
  |none=>none
 |_=>none
theorem FA {sz:Nat} (h:rV P t=some sz):∃e i,P.underlying t=some (.slice e)∧P.info? e=some i∧i.size=sz:=by
 unfold rV at h
 split at h
 ·rename_i e hu
  split at h
  ·rename_i i hi;exact⟨e,i,hu,hi,by simpa using h⟩
  ·cases h
 ·cases h
theorem IH {B off n c sz:Nat} {k:IntKind} {j:Int} (ht:rV P t=some sz) (hx:bJ a x=.slice (some ⟨B,off,none⟩) n c) (hy:bJ a y=.int k j) (h0:0≤j) (h1:j<n):
  bX P ⟨d,.indexAddr t x y,ty,pos,after,g⟩ a=some (.pointer (some ⟨B,off+j.toNat * sz,none⟩)):=by
 obtain⟨e,i,hu,hi,rfl⟩:=FA ht
 refine b6 ?_
 simp only[execOp,hx,hy,Instr.indexAt,aR,asIntOf,pure,Sem.pr,Option.bind_some,aL hu,h0,h1,and_self,if_true,eZ hi,mU]
theorem L5 {A:Option Addr} {n c:Nat} {Ak5:Array Operand} {ts:Array TypeId} (hargs:Ak5.toList.map (bJ a)= [.slice A n c]) (ht:(ts[0]?).any (lJ P)=true):
  bX P ⟨d,.call { callee:=.builtin .len,args:=Ak5,argTypes:=ts },ty,pos,after,g⟩ a=some (.int .i64 n):=by
 refine b6 ?_
 have h1:Ak5.map (bJ a)=#[.slice A n c]:=by apply Array.ext';simpa using hargs
 cases h0:ts[0]? with
 |none=>rw[h0] at ht;cases ht
 |some t0=>
  rw[h0] at ht
  obtain⟨e,he⟩:=mR (by simpa using ht)
  simp only[execOp,resolve,h1,aR,pure,Sem.pr,Option.bind_some,invoke,builtin,Builtin.len_,h0]
  simp only[List.getElem?_toArray,List.getElem?_cons_zero,aR,aL he,Option.bind_some]
  rfl
def nG (P:Program) (t:TypeId):Bool:=match P.underlying t with
 |some .string=>true
 |_=>false
theorem k9 (h:nG P t=true):P.underlying t=some .string:=by
 unfold nG at h;split at h
 ·assumption
 ·cases h
theorem Rt {s:ByteArray} {Ak5:Array Operand} {ts:Array TypeId} (hargs:Ak5.toList.map (bJ a)= [.string s]) (ht:(ts[0]?).any (nG P)=true):
  bX P ⟨d,.call { callee:=.builtin .len,args:=Ak5,argTypes:=ts },ty,pos,after,g⟩ a=some (.int .i64 s.size):=by
 refine b6 ?_
 have h1:Ak5.map (bJ a)=#[.string s]:=by apply Array.ext';simpa using hargs
 cases h0:ts[0]? with
 |none=>rw[h0] at ht;cases ht
 |some t0=>
  rw[h0] at ht
  have he:=k9 (by simpa using ht)
  simp only[execOp,resolve,h1,aR,pure,Sem.pr,Option.bind_some,invoke,builtin,Builtin.len_,h0]
  simp only[List.getElem?_toArray,List.getElem?_cons_zero,aR,aL he,Option.bind_some]
  rfl
theorem RQ {vs:Array Value} {n:Nat} {v:Value} (hx:bJ a x=.tuple vs) (hv:vs[n]?=some v):bX P ⟨d,.extract x n,ty,pos,after,g⟩ a=some v:=by
 refine b6 ?_
 simp only[execOp,hx,Instr.extract,hv];rfl
theorem Po {fn:Fn} {fs cs:Array Operand} {l1 l2:List Value} (h1:fs.toList.map (bJ a)=l1) (h2:cs.toList.map (bJ a)=l2):bX P ⟨d,.makeFunc fn fs cs,ty,pos,after,g⟩ a=some (.func fn l1.toArray l2.toArray):=by
 refine b6 ?_
 have e1:fs.map (bJ a)=l1.toArray:=by apply Array.ext';simpa using h1
 have e2:cs.map (bJ a)=l2.toArray:=by apply Array.ext';simpa using h2
 simp only[execOp,e1,e2];rfl
theorem G6 {s:ByteArray} {k:IntKind} {j:Int} (ht:nG P t=true) (hx:bJ a x=.string s) (hy:bJ a y=.int k j) (h0:0≤j) (h1:j≤s.size):
  bX P ⟨d,.slice t x (some y) none none,ty,pos,after,g⟩ a=some (.string (s.extract j.toNat s.size)):=by
 refine b6 ?_
 simp only[execOp,hx,Option.map_some,Option.map_none,hy,Instr.sliceAt,Instr.slice,aR,aL (k9 ht),Option.bind_some,Instr.sliceBounds,Instr.sliceBound,asIntOf,pure,Sem.pr,h0,h1,and_self,if_true,
  Option.isSome_none,Bool.false_eq_true,if_false]
theorem Gy {s:ByteArray} {k:IntKind} {j:Int} (ht:nG P t=true) (hx:bJ a x=.string s) (hy:bJ a y=.int k j) (h0:0≤j) (h1:j≤s.size):
  bX P ⟨d,.slice t x none (some y) none,ty,pos,after,g⟩ a=some (.string (s.extract 0 j.toNat)):=by
 refine b6 ?_
 simp only[execOp,hx,Option.map_some,Option.map_none,hy,Instr.sliceAt,Instr.slice,aR,aL (k9 ht),Option.bind_some,Instr.sliceBounds,Instr.sliceBound,asIntOf,pure,Sem.pr,h0,h1,and_self,if_true,
  Option.isSome_none,Bool.false_eq_true,if_false]
theorem Nl {s:ByteArray} {k k':IntKind} {j m:Int} (ht:nG P t=true) (hx:bJ a x=.string s) (hy:bJ a y=.int k j) (hz:bJ a z=.int k' m) (h0:0≤j) (h1:j≤m) (h2:m≤s.size):
  bX P ⟨d,.slice t x (some y) (some z) none,ty,pos,after,g⟩ a=some (.string (s.extract j.toNat m.toNat)):=by
 refine b6 ?_
 have e1:0≤m:=by omega
 have e2:j≤(m.toNat:Int):=by omega
 simp only[execOp,hx,Option.map_some,hy,hz,Option.map_none,Instr.sliceAt,Instr.slice,aR,aL (k9 ht),Option.bind_some,Instr.sliceBounds,Instr.sliceBound,asIntOf,pure,Sem.pr,h0,h2,e1,e2,and_self,if_true,
  Option.isSome_none,Bool.false_eq_true,if_false]
theorem TY {H:Hp} {v:Value} (h:XJ P H t (bJ a x)=some v):I8 P ⟨d,.load t x,ty,pos,after,g⟩ a H=some v:=by
 unfold I8
 simp only[execOp,fM,U7 h,Option.bind_some,yF];rfl
end
end Go.Sl
namespace Go.Sl
def l6:List Value→Nat→List Value→List Value
 |cs,_,[]=>cs
 |cs,off,v::vs=>l6 (cs.set off v) (off+1) vs
def Wh:List Value→List Value→List Value
 | [],cs=>cs
 |_::_,[]=> []
 |v::vs,_::cs=>v::Wh vs cs
def uL:List Value→Nat→List Value→List Value
 |cs,0,vs=>Wh vs cs
 | [],_+1,_=> []
 |c::cs,n+1,vs=>c::uL cs n vs
theorem Kp:∀(vs:List Value) (off:Nat),l6 [] off vs= []:=by
 intro vs
 induction vs with
 |nil=>intro off;rfl
 |cons v vs ih=>intro off;simp only[l6,List.set_nil,ih]
theorem GE:∀(vs:List Value) (c:Value) (cs:List Value) (off:Nat),l6 (c::cs) (off+1) vs=c::l6 cs off vs:=by
 intro vs
 induction vs with
 |nil=>intro c cs off;rfl
 |cons v vs ih=>intro c cs off;simp only[l6,List.set_cons_succ,ih]
theorem GT:∀(vs cs:List Value),l6 cs 0 vs=Wh vs cs:=by
 intro vs
 induction vs with
 |nil=>intro cs;rfl
 |cons v vs ih=>
  intro cs
  cases cs with
  |nil=>simp only[Kp,Wh]
  |cons c cs=>simp only[l6,List.set_cons_zero,GE,Wh,ih]
theorem Gh:∀(cs:List Value) (off:Nat) (vs:List Value),uL cs off vs=l6 cs off vs:=by
 intro cs
 induction cs with
 |nil=>
  intro off vs
  cases off with
  |zero=>simp only[uL,GT]
  |succ n=>simp only[uL,Kp]
 |cons c cs ih=>
  intro off vs
  cases off with
  |zero=>simp only[uL,GT]
  |succ n=>simp only[uL,GE,ih]
theorem VB (H:Hp) (r:Nat) (b c:sH):hupd (hupd H r b) r c=hupd H r c:=by
 funext i;unfold hupd;split <;> rfl
theorem V1 {H:Hp} {r:Nat} {b:sH} (h:H r=some b):hupd H r b=H:=by
 funext i;unfold hupd;split
 ·rename_i e;rw[e,h]
 ·rfl
def tK (a:Fr):List Operand→Option (List Value)
 | []=>some []
 |x::xs=>match g8 (bJ a x),tK a xs with
  |some v,some vs=>some (v::vs)
  |_,_=>none
theorem Bb {a:Fr}:∀ {xs:List Operand} {vs:List Value},tK a xs=some vs→xs.map (bJ a)=vs:=by
 intro xs
 induction xs with
 |nil=>intro vs h;cases h;rfl
 |cons x xs ih=>
  intro vs h
  simp only[tK] at h
  split at h
  ·rename_i v vs' h1 h2
   cases h
   rw[List.map_cons,ih h2,fV h1]
  ·cases h
section
variable {P:Program} {a:Fr} {H:Hp} {k:Value→Hp→Prop} {d:Option Tmp} {ty:TypeId} {pos:String} {after:Array Edge} {g:Option (Nat×Bool)} {t:TypeId} {x y:Operand}
theorem aP {α:Type} {s:Sem α} {v:α} (h:s.pr P=some v) (H:Hp) (q:α→Hp→Prop):s.ev P H q=q v H:=by
 induction s with
 |pure a=>simp[Sem.pr] at h;subst h;rfl
 |program k ih=>exact ih P h
 |mark m k ih=>exact ih h
 |_=>cases h
theorem mL {B:Nat} {e:TypeId}:∀(vs:List Value) (i off:Nat) (cs:List Value) (H:Hp) (q:Unit→Hp→Prop),H B=some (.cells cs e true)→off+i+vs.length≤cs.length→(vs.all Value.oneCell')=true→
  q () (hupd H B (.cells (l6 cs (off+i) vs) e true))→(storeCells ⟨B,off,none⟩ vs i).ev P H q:=by
 intro vs
 induction vs with
 |nil=>
  intro i off cs H q hb _ _ hq
  simp only[l6,V1 hb] at hq
  unfold storeCells
  exact hq
 |cons v vs ih=>
  intro i off cs H q hb hle mA hq
  simp only[List.all_cons,Bool.and_eq_true] at mA
  unfold storeCells
  rw[aJ,mU]
  simp only[List.length_cons] at hle
  refine⟨mA.1,cs,e,hb,rfl,by simp only;omega,?_⟩
  refine ih (i+1) off (cs.set (off+i) v) _ q (jO _ _ _) (by simp;omega) mA.2 ?_
  rw[VB]
  exact hq
def pC (P:Program) (t:TypeId):Option Nat:=match P.info? t with
 |some i=>some i.size
 |none=>none
theorem rL {n:Nat} (h:pC P t=some n):∃i,P.info? t=some i∧i.size=n:=by
 unfold pC at h
 split at h
 ·exact⟨_,‹_›,by simpa using h⟩
 ·cases h
theorem NF {B off n:Nat} {cs vs:List Value} {e:TypeId} {u:Value} (hx:bJ a x=.pointer (some ⟨B,off,none⟩)) (hy:bJ a y=u) (hvs:u.cells.toList=vs) (ht:pC P t=some n) (hn:vs.length=n)
  (mA:(vs.all Value.oneCell')=true) (hb:H B=some (.cells cs e true)) (hle:off+n≤cs.length) (hk:k undef (hupd H B (.cells (l6 cs off vs) e true))):
  k7 P ⟨d,.store t x y,ty,pos,after,g⟩ a H k:=by
 obtain⟨i,hi,rfl⟩:=rL ht
 refine fD ?_
 simp only[execOp,hx,hy,Instr.storeAt,aJ]
 rw[aP (show(Instr.sureAddr (.pointer (some ⟨B,off,none⟩))).pr P=some ⟨B,off,none⟩ from rfl)]
 have hsz:u.cells.size=i.size:=by rw[← hn,← hvs];simp
 simp only[storeVar,aJ]
 rw[aP (eZ hi),if_neg (by rw[hsz];simp)]
 refine mL _ 0 off cs H _ hb (by rw[hvs,hn];omega) (by rw[hvs];exact mA) ?_
 rw[hvs]
 exact hk
def Az (P:Program) (t:TypeId):Option (List Value):=match P.info? t with
 |some i=>match i.zero with
  |some z=>some z.cells.toList
  |none=>none
 |none=>none
theorem KH {v:Value} {q:Addr→Hp→Prop} (hk:∀r,H r=none→q ⟨r,0,none⟩ (hupd H r (.cells v.cells.toList t true))):(newVar t v).ev P H q:=by
 unfold newVar newRow
 rw[aJ]
 intro r hr
 exact⟨rfl,hk r hr⟩
theorem Zd {zs:List Value} (hz:Az P t=some zs) (hk:∀r,H r=none→k (.pointer (some ⟨r,0,none⟩)) (hupd H r (.cells zs t true))):k7 P ⟨d,.alloc t,ty,pos,after,g⟩ a H k:=by
 unfold Az at hz
 split at hz
 ·rename_i i hi
  split at hz
  ·rename_i z hz'
   cases hz
   have hzv:(zeroValue t).pr P=some z:=by simp only[zeroValue,aR,dS hi,Option.bind_some,hz'];rfl
   refine fD ?_
   simp only[execOp,Instr.alloc,aJ]
   rw[aP hzv]
   exact KH hk
  ·cases hz
 ·cases hz
theorem Ain {v:Value} {vs:List Value} (hx:bJ a x=v) (hvs:v.cells.toList=vs) (hk:∀r,H r=none→k (.pointer (some ⟨r,0,none⟩)) (hupd H r (.cells vs t true))):k7 P ⟨d,.box t x,ty,pos,after,g⟩ a H k:=by
 subst hx hvs
 refine fD ?_
 simp only[execOp,Instr.box,aJ]
 exact KH hk
theorem Oz {f:FuncId} {args:Array Value} (h:sE P f args H k):(callFunc f args).ev P H (nxt P k):=by
 obtain⟨fn,h1,h2,h3⟩:=h.has
 unfold callFunc
 rw[aJ,aP (show program.pr P=some P from rfl)]
 simp only[h1,h2,h3,Bool.false_eq_true,if_false]
 exact h
theorem N4 {f:FuncId} {fs cs:Array Value} {Ak5:Array Operand} {ts:Array TypeId} {vs:List Value} (hx:bJ a x=.func (.func f) fs cs) (hargs:tK a Ak5.toList=some vs) (h:sE P f (fs++vs.toArray++cs) H k):
  k7 P ⟨d,.call { callee:=.value x,args:=Ak5,argTypes:=ts },ty,pos,after,g⟩ a H k:=by
 have e1:Ak5.map (bJ a)=vs.toArray:=by apply Array.ext';simpa using Bb hargs
 refine fD ?_
 simp only[execOp,resolve,hx,e1,Deferred.ofValue]
 rw[aJ,aP (show(pure _:Sem Deferred).pr P=some _ from rfl)]
 simp only[invoke]
 exact Oz h
theorem Aej {f:FuncId} {Ak5:Array Operand} {ts:Array TypeId} {vs:List Value} (hargs:tK a Ak5.toList=some vs) (h:sE P f vs.toArray H k):
  k7 P ⟨d,.call { callee:=.value (.func f),args:=Ak5,argTypes:=ts },ty,pos,after,g⟩ a H k:=
 N4 (f:=f) (fs:=#[]) (cs:=#[]) rfl hargs (by simpa using h)
end
end Go.Sl
namespace Go.Sl
def yS:Nat→Option Nat
 |0=>some 0|1=>some 1|2=>some 2|3=>some 3|4=>some 4|5=>some 5|6=>some 6|7=>some 7|8=>some 8|9=>some 9|10=>some 10|11=>some 11|12=>some 12|13=>some 13|14=>some 14|15=>some 15
 |16=>some 16|17=>some 17|18=>some 18|19=>some 19|20=>some 20|21=>some 21|22=>some 22|23=>some 23|24=>some 24|25=>some 25|26=>some 26|27=>some 27|28=>some 28|29=>some 29|30=>some 30|31=>some 31
 |32=>some 32|33=>some 33|34=>some 34|35=>some 35|36=>some 36|37=>some 37|38=>some 38|39=>some 39|40=>some 40|41=>some 41|42=>some 42|43=>some 43|44=>some 44|45=>some 45|46=>some 46|47=>some 47
 |48=>some 48|49=>some 49|50=>some 50|51=>some 51|52=>some 52|53=>some 53|54=>some 54|55=>some 55|56=>some 56|57=>some 57|58=>some 58|59=>some 59|60=>some 60|61=>some 61|62=>some 62|63=>some 63
 |64=>some 64|65=>some 65|66=>some 66|67=>some 67|68=>some 68|69=>some 69|70=>some 70|71=>some 71|72=>some 72|73=>some 73|74=>some 74|75=>some 75|76=>some 76|77=>some 77|78=>some 78|79=>some 79
 |80=>some 80|81=>some 81|82=>some 82|83=>some 83|84=>some 84|85=>some 85|86=>some 86|87=>some 87|88=>some 88|89=>some 89|90=>some 90|91=>some 91|92=>some 92|93=>some 93|94=>some 94|95=>some 95|_=>none
theorem mW {n m:Nat} (h:yS n=some m):n=m:=by
 unfold yS at h
 split at h <;> first|exact Option.some.inj h|cases h
def CI:List (Nat×Nat)→Option (List (Nat×Nat))
 | []=>some []
 |(x,y)::l=>match yS x with
  |some x=>match yS y with
   |some y=>match CI l with
    |some l=>some ((x,y)::l)
    |none=>none
   |none=>none
  |none=>none
theorem U4:∀ {l l':List (Nat×Nat)},CI l=some l'→l=l':=by
 intro l
 induction l with
 |nil=>intro l' h;exact Option.some.inj h
 |cons x l ih=>
  intro l' h
  obtain⟨x,y⟩:=x
  simp only[CI] at h
  split at h
  ·rename_i a ha
   split at h
   ·rename_i b hb
    split at h
    ·rename_i c hc;cases h;rw[mW ha,mW hb,ih hc]
    ·cases h
   ·cases h
  ·cases h
def mK {α:Type}:List α→Option (List α)
 | []=>some []
 |x::xs=>match mK xs with
  |some ys=>some (x::ys)
  |none=>none
theorem kE {α:Type}:∀ {l l':List α},mK l=some l'→l=l':=by
 intro l
 induction l with
 |nil=>intro l' h;cases h;rfl
 |cons x xs ih=>
  intro l' h
  simp only[mK] at h
  split at h
  ·rename_i ys hy;cases h;rw[ih hy]
  ·cases h
def Qr (P:Program) (t:TypeId) (cs:List Value) (off:Nat):Option Value:=match B1 P t with
 |some true=>match P.info? t with
  |some i=>if off+i.size≤cs.length then match mK ((cs.drop off).take i.size) with
    |some vs=>some (.agg vs.toArray)
    |none=>none
   else none
  |none=>none
 |some false=>cs[off]?
 |none=>none
theorem Lh {P:Program} {t:TypeId} {cs:List Value} {off B:Nat} {e:TypeId} {rw:Bool} {H:Hp} {v:Value} (hb:H B=some (.cells cs e rw)) (h:Qr P t cs off=some v):XJ P H t (.pointer (some ⟨B,off,none⟩))=some v:=by
 unfold Qr at h
 simp only[XJ,hb]
 split at h
 ·rename_i hag
  simp only[hag]
  split at h
  ·rename_i i hi
   simp only[hi]
   split at h
   ·rename_i hle
    simp only[hle,if_true]
    split at h
    ·rename_i vs hvs;rw[kE hvs];exact h
    ·cases h
   ·cases h
  ·cases h
 ·rename_i hag;simp only[hag];exact h
 ·cases h
section
variable {P:Program} {Q:Exit→Fr→Hp→Prop} {K:Fr→Hp→Prop} {a:Fr} {H:Hp} {x y:Code} {id:Nat} {ol:List Oper}
end
section
variable {P:Program} {ops:Array Oper} {Q:Fr→Hp→Prop} {a:Fr} {H:Hp} {i c:Nat} {rest:List Oper} {l:List (Nat×Nat)} {hist:List Hp} {d':Nat} {d:Option Tmp}
variable {ty:TypeId} {pos:String} {after:Array Edge} {g:Option (Nat×Bool)} {t yt:TypeId} {x y z:Operand}
variable {k:Value→Hp→Prop}
theorem Ss {B off n:Nat} {cs cs' vs:List Value} {e:TypeId} {u:Value} (hx:bJ a x=.pointer (some ⟨B,off,none⟩)) (hy:g8 (bJ a y)=some u) (hvs:mK u.cells.toList=some vs) (ht:pC P t=some n) (hn:(vs.length == n)=true)
  (mA:(vs.all Value.oneCell')=true) (hb:H B=some (.cells cs e true)) (hle:Nat.ble (off+n) cs.length=true) (hs:mK (uL cs off vs)=some cs') (hk:k undef (hupd H B (.cells cs' e true))):
  k7 P ⟨d,.store t x y,ty,pos,after,g⟩ a H k:=
 NF hx (fV hy) (kE hvs) ht (by simpa using hn) mA hb (by simpa using hle) (by rw[← Gh,kE hs];exact hk)
theorem Rx {zs zs':List Value} (hz:Az P t=some zs) (hc:mK zs=some zs') (hk:∀r,H r=none→k (.pointer (some ⟨r,0,none⟩)) (hupd H r (.cells zs' t true))):k7 P ⟨d,.alloc t,ty,pos,after,g⟩ a H k:=
 Zd hz (by rw[kE hc];exact hk)
theorem YL {v:Value} {vs:List Value} (hx:g8 (bJ a x)=some v) (hvs:mK v.cells.toList=some vs) (hk:∀r,H r=none→k (.pointer (some ⟨r,0,none⟩)) (hupd H r (.cells vs t true))):k7 P ⟨d,.box t x,ty,pos,after,g⟩ a H k:=
 Ain (fV hx) (kE hvs) hk
def T0 (op:BinOp):Option Addr→Option Value
 |none=>match op with|.eql=>some (.bool true)|.neq=>some (.bool false)|_=>none
 |some _=>match op with|.eql=>some (.bool false)|.neq=>some (.bool true)|_=>none
def Ajd (P:Program) (op:BinOp) (t:TypeId):Value→Value→Option Value
 |.int k m,.int k' n=>match op with
  |.shl=>if n<0 then none else some (.int k (k.wrap (m * 2 ^ (min n.toNat k.bits))))
  |.shr=>if n<0 then none else some (.int k (m.fdiv (2 ^ (min n.toNat k.bits))))
  |.quo=>if k=k' then if n=0 then none else some (.int k (k.wrap (m.tdiv n))) else none
  |.rem=>if k=k' then if n=0 then none else some (.int k (m.tmod n)) else none
  |op=>if k=k' then g8 (M4 op k m n) else none
 |.string m,.string n=>if Ow op=true then g8 (Me op m n) else none
 |.pointer p,.pointer none=>if Ie P t=true then T0 op p else none
 |.slice p _ _,.slice none _ _=>if lJ P t=true then T0 op p else none
 |.bool b,.bool b'=>if DU P t=true then match op with
  |.eql=>some (.bool (b == b'))
  |.neq=>some (.bool (!(b == b')))
  |_=>none else none
 |_,_=>none
def Aec (P:Program) (t:TypeId):Value→Option Value
 |.slice _ n _=>if lJ P t=true then some (.int .i64 n) else none
 |.string s=>if nG P t=true then some (.int .i64 s.size) else none
 |_=>none
def opV (P:Program) (o:Op) (a:Fr):Option Value:=
 match o with
 |.move x=>g8 (bJ a x)
 |.assign x=>g8 (bJ a x)
 |.pick c x y=>match bJ a c with
  |.bool true=>g8 (bJ a x)
  |.bool false=>g8 (bJ a y)
  |_=>none
 |.nilCheck x=>match bJ a x with
  |.pointer (some ⟨B,off,s⟩)=>some (.pointer (some ⟨B,off,s⟩))
  |.func (.func f) fs cs=>some (.func (.func f) fs cs)
  |_=>none
 |.binOp op t x y _=>Ajd P op t (bJ a x) (bJ a y)
 |.unOp .not _ x=>match bJ a x with
  |.bool true=>some (.bool false)
  |.bool false=>some (.bool true)
  |_=>none
 |.fieldAddr t x f=>match bJ a x with
  |.pointer (some ⟨B,off,none⟩)=>match wM P t f with
   |some n=>match yS n with
    |some 0=>some (.pointer (some ⟨B,off,none⟩))
    |some n=>match yS (off+n) with
     |some m=>some (.pointer (some ⟨B,m,none⟩))
     |none=>some (.pointer (some ⟨B,off+n,none⟩))
    |none=>none
   |none=>none
  |_=>none
 |.extract x n=>match bJ a x with
  |.tuple vs=>match vs.toList[n]? with
   |some v=>g8 v
   |none=>none
  |_=>none
 |.makeFunc fn fs cs=>match tK a fs.toList,tK a cs.toList with
  |some l1,some l2=>some (.func fn l1.toArray l2.toArray)
  |_,_=>none
 |.call { callee:=.builtin .len,args,argTypes }=>match args.toList with
  | [x]=>match argTypes[0]? with
   |some t=>Aec P t (bJ a x)
   |none=>none
  |_=>none
 |_=>none
section
variable {P:Program} {a:Fr} {d:Option Tmp} {ty:TypeId} {pos:String} {after:Array Edge} {g:Option (Nat×Bool)} {v:Value}
theorem V9 {op:BinOp} {t yt:TypeId} {x y:Operand} {u w:Value} (hx:bJ a x=u) (hy:bJ a y=w) (h:Ajd P op t u w=some v):bX P ⟨d,.binOp op t x y yt,ty,pos,after,g⟩ a=some v:=by
 unfold Ajd at h
 split at h
 ·rename_i k m k' n
  split at h
  ·split at h
   ·cases h
   ·rename_i hn;cases h;exact Acu hx hy hn
  ·split at h
   ·cases h
   ·rename_i hn;cases h;exact Aaa hx hy hn
  ·split at h
   ·rename_i hk;subst hk
    split at h
    ·cases h
    ·rename_i hn;cases h;exact Zf hx hy hn
   ·cases h
  ·split at h
   ·rename_i hk;subst hk
    split at h
    ·cases h
    ·rename_i hn;cases h;exact Aci hx hy hn
   ·cases h
  ·rename_i h1 h2 h3 h4
   split at h
   ·rename_i hk;subst hk
    refine B3 hx hy ?_ h
    cases op <;> first|rfl|exact absurd rfl h1|exact absurd rfl h2|exact absurd rfl h3|exact absurd rfl h4
   ·cases h
 ·split at h
  ·rename_i hp;exact Aii hx hy hp h
  ·cases h
 ·rename_i p
  split at h
  ·rename_i ht
   cases p <;> cases op <;> simp only[T0] at h <;> first|(cases h;done)|(cases h;exact Re ht hx hy rfl)|(cases h;exact QK ht hx hy rfl)
  ·cases h
 ·rename_i p _ _ _ _
  split at h
  ·rename_i ht
   cases p <;> cases op <;> simp only[T0] at h <;> first|(cases h;done)|(cases h;exact LR ht hx hy)|(cases h;exact Lm ht hx hy)
  ·cases h
 ·split at h
  ·rename_i ht
   cases op <;> first|(cases h;done)|(cases h;exact NP ht hx hy)|(cases h;exact NY ht hx hy)
  ·cases h
 ·cases h
theorem NI {o:Op} (h:opV P o a=some v):bX P ⟨d,o,ty,pos,after,g⟩ a=some v:=by
 unfold opV at h
 split at h
 ·exact Ad8 h
 ·exact WE h
 ·split at h
  ·rename_i hb;exact Vq hb h
  ·rename_i hb;exact Wl hb h
  ·cases h
 ·split at h
  ·rename_i hx;cases h;exact Ahv hx
  ·rename_i hx;cases h;exact Ad6 hx
  ·cases h
 ·exact V9 rfl rfl h
 ·split at h
  ·rename_i hx;cases h;exact RZ hx rfl
  ·rename_i hx;cases h;exact RZ hx rfl
  ·cases h
 ·split at h
  ·rename_i B off hx
   split at h
   ·rename_i n hn
    split at h
    ·rename_i h0
     cases h
     have:=mW h0
     subst this
     exact D9 hx hn
    ·rename_i n' _ hn'
     have:=mW hn'
     subst this
     split at h
     ·rename_i m hm
      cases h
      rw[← mW hm]
      exact D9 hx hn
     ·cases h;exact D9 hx hn
    ·cases h
   ·cases h
  ·cases h
 ·split at h
  ·rename_i vs hx
   split at h
   ·rename_i u hu
    refine RQ hx ?_
    rw[← fV h,← hu,Array.getElem?_toList]
   ·cases h
  ·cases h
 ·split at h
  ·rename_i l1 l2 h1 h2
   cases h
   exact Po (Bb h1) (Bb h2)
  ·cases h
 ·rename_i args argTypes
  split at h
  ·rename_i x hargs
   split at h
   ·rename_i t ht
    have key:∀q:TypeId→Bool,q t=true→(argTypes[0]?).any q=true:=fun q hq=>by rw[ht];exact hq
    unfold Aec at h
    split at h
    ·rename_i A n c hx
     split at h
     ·rename_i hs;cases h
      exact L5 (by rw[hargs,List.map_cons,hx];rfl) (key _ hs)
     ·cases h
    ·rename_i s hx
     split at h
     ·rename_i hs;cases h
      exact Rt (by rw[hargs,List.map_cons,hx];rfl) (key _ hs)
     ·cases h
    ·cases h
   ·cases h
  ·cases h
 ·cases h
theorem Vw {P:Program} {ts:Array TypeId} (h:(ts[0]?).any (lJ P)=true∨(ts[0]?).any (nG P)=true):Fe P ts=false:=by
 unfold Fe
 cases ht:ts[0]? with
 |none=>rfl
 |some t=>
  rw[ht] at h
  simp only[Option.any_some] at h
  rcases h with h|h
  ·obtain⟨e,he⟩:=mR h;simp only[he]
  ·simp only[k9 h]
theorem Ae6 {t:TypeId} {u:Value} (h:Aec P t u=some v):lJ P t=true∨nG P t=true:=by
 unfold Aec at h
 split at h
 ·split at h
  ·exact .inl ‹_›
  ·cases h
 ·split at h
  ·exact .inr ‹_›
  ·cases h
 ·cases h
theorem Abi {o:Op} (h:opV P o a=some v):kd P o=.pure:=by
 unfold opV at h
 split at h <;> first|rfl|(cases h;done)|skip
 split at h
 ·split at h
  ·rename_i ht
   have:=Vw (P:=P) (by rw[ht];exact Ae6 h)
   simp only[kd,this]
  ·cases h
 ·cases h
end
section
variable {P:Program} {ops:Array Oper} {Q:Fr→Hp→Prop} {a:Fr} {H:Hp} {i c:Nat} {rest:List Oper} {l:List (Nat×Nat)} {hist:List Hp} {d':Nat} {v:Value}
variable {ty:TypeId} {pos:String} {after:Array Edge} {g:Option (Nat×Bool)} {o:Op}
end
end
end Go.Sl
end
