/- A part of the proof: lemmas; each with the conditions that it states. -/
import Derived.Laws.Entries
import Derived.Test.YtepnmcipkangkaaGreatCaa
set_option linter.unusedVariables false
set_option linter.unusedSimpArgs false
section
namespace Go.Sl
variable {v u w:Value} {P:Program} {ops:Array Oper} {Q:Fr->Hp->Prop} {a:Fr} {H:Hp} {i c n n' c' B off sz:Nat} {o:Oper} {rest:List Oper} {l:List (Nat×Nat)} {hist:List Hp} {b b':Bool} {d:Option Tmp} {ty yt e:TypeId} {pos:String} {after:Array Edge} {g:Option (Nat×Bool)} {x y z:Operand} {op:BinOp} {k yk:IntKind} {m j:Int} {p:Option Addr} {Aqp:Array Operand} {ts:Array TypeId} {s:ByteArray}
def iW:Value->Option Value
 |.bool b=>some (.bool b)
 |.int k n=>some (.int k n)
 |.string s=>some (.string s)
 |.pointer none=>some (.pointer none)
 |.pointer (some ⟨b,o,s⟩)=>some (.pointer (some ⟨b,o,s⟩))
 |.slice A n c=>some (.slice A n c)
 |.map r=>some (.map r)
 |.func fn f c=>some (.func fn f c)
 |.nilFunc=>some .nilFunc
 |.iface t v=>some (.iface t v)
 |.nilIface=>some .nilIface
 |.agg cs=>some (.agg cs)
 |.tuple vs=>some (.tuple vs)
 |_=>none
theorem gV {x:Value} (h:iW x=some v):x=v:=by
 unfold iW at h
 split at h <;> first|(cases h;rfl)|cases h
theorem cE (h:(execOp (bL a) o).pr P=some (.value v)):bY P o a=some v:=by unfold bY;rw[h];rfl
theorem XC (h:bY P o a=some v):(execOp (bL a) o).pr P=some (.value v):=by
 unfold bY at h
 cases hx:(execOp (bL a) o).pr P with
 |none=>rw[hx] at h;cases h
 |some n=>rw[hx] at h;cases n <;> first|(simp[LP] at h;subst h;rfl)|cases h
theorem HS {k:Value->Hp->Prop} (h:Ka P o a H=some v) (hk:k v H):mS P o a H k:=by
 refine fW (Alv P _ (.value v) (nxt P k) ?_ (show nxt P k (.value v) H from hk))
 unfold Ka at h
 cases hx:(execOp (bL a) o).rd P H with
 |none=>rw[hx] at h;cases h
 |some n=>rw[hx] at h;cases n <;> first|(simp[LP] at h;subst h;rfl)|cases h
theorem N6 (h:bY P o a=some v):Ka P o a H=some v:=by
 have:=XC h
 unfold Ka
 rw[Al0 P _ H _ this]
 rfl
theorem Apj (hw:bE ops o a=true) (hv:bY P o a=some v) (h:cL (Se ops i) v fun v=>Ke P ops Q (i+1) rest (fK a o.dst v) H):Ke P ops Q i (o::rest) a H:=by
 unfold Ke
 rw[if_pos hw]
 exact HS (N6 hv) h
theorem App (hw:bE ops o a=true) (hv:Ka P o a H=some v) (h:cL (Se ops i) v fun v=>Ke P ops Q (i+1) rest (fK a o.dst v) H):Ke P ops Q i (o::rest) a H:=by
 unfold Ke
 rw[if_pos hw]
 exact HS hv h
theorem Ao4 (hw:bE ops o a=true) (h:mS P o a H fun v H'=>cL (Se ops i) v fun v=>Ke P ops Q (i+1) rest (fK a o.dst v) H'):Ke P ops Q i (o::rest) a H:=by
 unfold Ke
 rw[if_pos hw]
 exact h
theorem Apo (hw:bE ops o a=false) (h:Ke P ops Q (i+1) rest (fK a o.dst undef) H):Ke P ops Q i (o::rest) a H:=by
 unfold Ke
 rw[if_neg (by rw[hw];simp)]
 exact h
theorem Ao9 (ho:ops[i]?=some o) (hk:kd P o.op=.pure) (hw:bE ops o a=true) (hv:bY P o a=some v) (h:cL (Se ops i) v fun v=>AF P ops Q l hist (fK a o.dst v) H):AF P ops Q ((i,c)::l) hist a H:=by
 simp only[AF,ho,hw,if_true,hk]
 exact⟨v,hv,h⟩
theorem Apm (ho:ops[i]?=some o) (hk:kd P o.op=.load) (hw:bE ops o a=true) (hv:Ka P o a H=some v) (hh:∀h∈hist.take c,Ka P o a h=some v) (h:cL (Se ops i) v fun v=>AF P ops Q l hist (fK a o.dst v) H):
  AF P ops Q ((i,c)::l) hist a H:=by
 simp only[AF,ho,hw,if_true,hk]
 exact⟨v,hv,hh,h⟩
theorem Ao6 (ho:ops[i]?=some o) (hk:kd P o.op=.other) (hw:bE ops o a=true) (h:mS P o a H fun v H'=>cL (Se ops i) v fun v=>AF P ops Q l (H::hist) (fK a o.dst v) H'):AF P ops Q ((i,c)::l) hist a H:=by
 simp only[AF,ho,hw,if_true,hk]
 exact h
theorem Ao1 (ho:ops[i]?=some o) (hw:bE ops o a=false) (h:AF P ops Q l hist (fK a o.dst undef) H):AF P ops Q ((i,c)::l) hist a H:=by
 simp only[AF,ho,hw]
 exact h
theorem F3 {g:Bool} {k:Value->Prop} (_hg:g=false) (h:k v):cL g v k:=(cM g v k).2 h
theorem Nr {g:Bool} {k:Value->Prop} (hg:g=true) (h:Br b (k (.bool true)) (k (.bool false))):cL g (.bool b) k:=by subst hg;exact h
theorem Br.t {x y:Prop} (hb:b=true) (h:x):Br b x y:=⟨fun _=>h,fun h'=>by rw[hb] at h';cases h'⟩
theorem Br.f {x y:Prop} (hb:b=false) (h:y):Br b x y:=⟨fun h'=>(by rw[hb] at h';cases h'),fun _=>h⟩
section
variable {t:TypeId}
theorem Ajz (hx:iW (bL a x)=some v):bY P ⟨d,.move x,ty,pos,after,g⟩ a=some v:=by
 rw[<- gV hx];rfl
theorem Ya (hx:iW (bL a x)=some v):bY P ⟨d,.assign x,ty,pos,after,g⟩ a=some v:=by
 rw[<- gV hx];rfl
theorem X3 (hx:bL a x=.bool true) (hy:iW (bL a y)=some v):bY P ⟨d,.pick x y z,ty,pos,after,g⟩ a=some v:=by
 refine cE ?_
 simp only[execOp,hx,asBool,aT,pure,Sem.pr,Option.bind_some,if_true,gV hy]
theorem XE (hx:bL a x=.bool false) (hz:iW (bL a z)=some v):bY P ⟨d,.pick x y z,ty,pos,after,g⟩ a=some v:=by
 refine cE ?_
 simp only[execOp,hx,asBool,aT,pure,Sem.pr,Option.bind_some,gV hz]
 rfl
theorem An6 {p:Addr} (hx:bL a x=.pointer (some p)):bY P ⟨d,.nilCheck x,ty,pos,after,g⟩ a=some (.pointer (some p)):=by
 refine cE ?_
 simp only[execOp,hx];rfl
theorem Aio {fn:FuncId} {fs cs:Array Value} (hx:bL a x=.func (.func fn) fs cs):bY P ⟨d,.nilCheck x,ty,pos,after,g⟩ a=some (.func (.func fn) fs cs):=by
 refine cE ?_
 simp only[execOp,hx];rfl
def Od:BinOp->IntKind->Int->Int->Value
 |.add,k,m,n=>.int k (k.wrap (m+n))
 |.sub,k,m,n=>.int k (k.wrap (m - n))
 |.mul,k,m,n=>.int k (k.wrap (m * n))
 |.eql,_,m,n=>.bool (m == n)
 |.neq,_,m,n=>.bool (m != n)
 |.lss,_,m,n=>.bool (m<n)
 |.leq,_,m,n=>.bool (m<=n)
 |.gtr,_,m,n=>.bool (m > n)
 |.geq,_,m,n=>.bool (m≥n)
 |.and,k,m,n=>.int k (k.wrap (BitVec.ofInt k.bits m &&& BitVec.ofInt k.bits n).toNat)
 |.or,k,m,n=>.int k (k.wrap (BitVec.ofInt k.bits m ||| BitVec.ofInt k.bits n).toNat)
 |.xor,k,m,n=>.int k (k.wrap (BitVec.ofInt k.bits m ^^^ BitVec.ofInt k.bits n).toNat)
 |.andNot,k,m,n=>.int k (k.wrap (BitVec.ofInt k.bits m &&& ~~~BitVec.ofInt k.bits n).toNat)
 |_,_,_,_=>undef
def Ad1:BinOp->Bool
 |.quo|.rem|.shl|.shr=>false
 |_=>true
theorem DF {n:Int} (hx:bL a x=.int k m) (hy:bL a y=.int k n) (hp:Ad1 op=true) (hv:iW (Od op k m n)=some v):
  bY P ⟨d,.binOp op t x y yt,ty,pos,after,g⟩ a=some v:=by
 refine cE ?_
 rw[<- gV hv]
 have hb:binOp op t (.int k m) (.int k n)=pure (Od op k m n):=by
  cases op <;> first|exact absurd hp (by decide)|(simp[binOp,Op.intArith,Op.intCmp,Op.intBits,Od])
 simp only[execOp,hx,hy,eqGuard_at_int,hb]
 rfl
theorem Adm {n:Int} (hx:bL a x=.int k m) (hy:bL a y=.int k n) (hn:n≠0):bY P ⟨d,.binOp .quo t x y yt,ty,pos,after,g⟩ a=some (.int k (k.wrap (m.tdiv n))):=by
 refine cE ?_
 simp only[execOp,hx,hy,eqGuard_at_int]
 have:(binOp .quo t (.int k m) (.int k n)).pr P=some (.int k (k.wrap (m.tdiv n))):=by simp[binOp,Op.intDiv,hn];rfl
 simp only[aT,this]
 rfl
theorem Abk {n:Int} (hx:bL a x=.int k m) (hy:bL a y=.int k n) (hn:n≠0):bY P ⟨d,.binOp .rem t x y yt,ty,pos,after,g⟩ a=some (.int k (m.tmod n)):=by
 refine cE ?_
 simp only[execOp,hx,hy,eqGuard_at_int]
 have:(binOp .rem t (.int k m) (.int k n)).pr P=some (.int k (m.tmod n)):=by simp[binOp,Op.intDiv,hn];rfl
 simp only[aT,this]
 rfl
theorem Afs {n:Int} (hx:bL a x=.int k m) (hy:bL a y=.int yk n) (hn:¬n<0):bY P ⟨d,.binOp .shl t x y yt,ty,pos,after,g⟩ a=some (.int k (k.wrap (m * 2 ^ (min n.toNat k.bits)))):=by
 refine cE ?_
 simp only[execOp,hx,hy,eqGuard_at_int]
 have:(binOp .shl t (.int k m) (.int yk n)).pr P=some (.int k (k.wrap (m * 2 ^ (min n.toNat k.bits)))):=by simp[binOp,Op.shift,hn];rfl
 simp only[aT,this]
 rfl
theorem Adx {n:Int} (hx:bL a x=.int k m) (hy:bL a y=.int yk n) (hn:¬n<0):bY P ⟨d,.binOp .shr t x y yt,ty,pos,after,g⟩ a=some (.int k (m.fdiv (2 ^ (min n.toNat k.bits)))):=by
 refine cE ?_
 simp only[execOp,hx,hy,eqGuard_at_int]
 have:(binOp .shr t (.int k m) (.int yk n)).pr P=some (.int k (m.fdiv (2 ^ (min n.toNat k.bits)))):=by simp[binOp,Op.shift,hn];rfl
 simp only[aT,this]
 rfl
def Nb:BinOp->ByteArray->ByteArray->Value
 |.eql,m,n=>.bool (m.toList == n.toList)
 |.neq,m,n=>.bool (!(m.toList == n.toList))
 |.lss,m,n=>.bool (Op.bytesLess m.toList n.toList)
 |.leq,m,n=>.bool (Op.bytesLess m.toList n.toList || m.toList == n.toList)
 |.gtr,m,n=>.bool (!(Op.bytesLess m.toList n.toList || m.toList == n.toList))
 |.geq,m,n=>.bool (!(Op.bytesLess m.toList n.toList))
 |_,_,_=>undef
def Po:BinOp->Bool
 |.eql|.neq|.lss|.leq|.gtr|.geq=>true
 |_=>false
theorem Amn {m n:ByteArray} (hx:bL a x=.string m) (hy:bL a y=.string n) (hp:Po op=true) (hv:iW (Nb op m n)=some v):
  bY P ⟨d,.binOp op t x y yt,ty,pos,after,g⟩ a=some v:=by
 refine cE ?_
 rw[<- gV hv]
 have hb:binOp op t (.string m) (.string n)=pure (Nb op m n):=by
  cases op <;> first|exact absurd hp (by decide)|(simp[binOp,Op.stringOp,Nb])
 simp only[execOp,hx,hy,eqGuard_at_string,hb]
 rfl
theorem Amg {m n:ByteArray} (hx:bL a x=.string m) (hy:bL a y=.string n) (hs:m.size+n.size<=9223372036854775807):
  bY P ⟨d,.binOp .add t x y yt,ty,pos,after,g⟩ a=some (.string (m++n)):=by
 refine cE ?_
 simp only[execOp,hx,hy]
 have h:¬((m.size+n.size:Nat):Int) > IntKind.i64.max:=by
  have:IntKind.i64.max=9223372036854775807:=by decide
  rw[this];omega
 have:(binOp .add t (.string m) (.string n)).pr P=some (.string (m++n)):=by simp only[binOp,Op.stringOp];rw[if_neg h];rfl
 simp only[aT,this]
 rfl
theorem SJ (h:(∃p,u=.pointer p)\/(∃b n c,u=.slice b n c)\/(∃r,u=.map r)\/(∃b,u=.bool b)\/u=.nilFunc\/(∃f x y,u=.func f x y)):(eqGuard op t x y u w).pr P=some ():=by
 rcases h with⟨p,rfl⟩|⟨b,n,c,rfl⟩|⟨r,rfl⟩|⟨b,rfl⟩|rfl|⟨f,x,y,rfl⟩ <;> cases op <;> rfl
theorem aK {D:TypeDesc} (h:P.underlying t=some D):(underlying t).pr P=some D:=by
 simp only[underlying,aT,program,Sem.pr,Option.bind_some,h];rfl
theorem Ej (ht:P.underlying t=some (.pointer e)):(Op.equal t (.pointer p) (.pointer none)).pr P=some p.isNone:=by
 unfold Op.equal Op.maxDepth Op.equalIn
 rw[aT,aK ht,Option.bind_some]
 cases p <;> rfl
theorem AM (ht:P.underlying t=some (.slice e)):(Op.equal t (.slice p n c) (.slice none n' c')).pr P=some p.isNone:=by
 unfold Op.equal Op.maxDepth Op.equalIn
 rw[aT,aK ht,Option.bind_some]
 cases p <;> rfl
theorem CQ (ht:P.underlying t=some .bool):(Op.equal t (.bool b) (.bool b')).pr P=some (b == b'):=by
 unfold Op.equal Op.maxDepth Op.equalIn
 rw[aT,aK ht,Option.bind_some]
 rfl
def JR (P:Program) (t:TypeId):Bool:=match P.underlying t with
 |some (.pointer _)=>true
 |_=>false
def m8 (P:Program) (t:TypeId):Bool:=match P.underlying t with
 |some (.slice _)=>true
 |_=>false
def Ek (P:Program) (t:TypeId):Bool:=match P.underlying t with
 |some .bool=>true
 |_=>false
theorem GI (h:JR P t=true):∃e,P.underlying t=some (.pointer e):=by
 unfold JR at h;split at h
 ·exact⟨_,‹_›⟩
 ·cases h
theorem oQ (h:m8 P t=true):∃e,P.underlying t=some (.slice e):=by
 unfold m8 at h;split at h
 ·exact⟨_,‹_›⟩
 ·cases h
theorem Fb (h:Ek P t=true):P.underlying t=some .bool:=by
 unfold Ek at h;split at h
 ·assumption
 ·cases h
theorem Oq (h:(∃p q,u=.pointer p/\w=.pointer q)\/(∃p n c q n' c',u=.slice p n c/\w=.slice q n' c')\/(∃b b',u=.bool b/\w=.bool b')):
  binOp .eql t u w=(do pure (.bool (<- Op.equal t u w)))/\binOp .neq t u w=(do pure (.bool (!(<- Op.equal t u w)))):=by
 rcases h with⟨p,q,rfl,rfl⟩|⟨p,n,c,q,n',c',rfl,rfl⟩|⟨b,b',rfl,rfl⟩ <;> exact⟨rfl,rfl⟩
theorem u7 (hx:bL a x=u) (hy:bL a y=w) (h:(∃p q,u=.pointer p/\w=.pointer q)\/(∃p n c q n' c',u=.slice p n c/\w=.slice q n' c')\/(∃b b',u=.bool b/\w=.bool b')) (he:(Op.equal t u w).pr P=some b):
  bY P ⟨d,.binOp .eql t x y yt,ty,pos,after,g⟩ a=some (.bool b)/\bY P ⟨d,.binOp .neq t x y yt,ty,pos,after,g⟩ a=some (.bool (!b)):=by
 have hg:∀op,(eqGuard op t x y u w).pr P=some ():=fun op=>SJ (by
  rcases h with⟨p,q,rfl,rfl⟩|⟨p,n,c,q,n',c',rfl,rfl⟩|⟨b,b',rfl,rfl⟩
  ·exact .inl ⟨_,rfl⟩
  ·exact .inr (.inl ⟨_,_,_,rfl⟩)
  ·exact .inr (.inr (.inr (.inl ⟨_,rfl⟩))))
 obtain⟨h1,h2⟩:=Oq (t:=t) h
 constructor
 ·refine cE ?_
  simp only[execOp,hx,hy,aT,hg,Option.bind_some,h1,he]
  rfl
 ·refine cE ?_
  simp only[execOp,hx,hy,aT,hg,Option.bind_some,h2,he]
  rfl
theorem Su (ht:JR P t=true) (hx:bL a x=.pointer p) (hy:bL a y=.pointer none) (hv:iW (.bool p.isNone)=some v):bY P ⟨d,.binOp .eql t x y yt,ty,pos,after,g⟩ a=some v:=by
 obtain⟨e,he⟩:=GI ht
 rw[<- gV hv]
 exact(u7 hx hy (.inl ⟨_,_,rfl,rfl⟩) (Ej he)).1
theorem UQ (ht:JR P t=true) (hx:bL a x=.pointer p) (hy:bL a y=.pointer none) (hv:iW (.bool (!p.isNone))=some v):bY P ⟨d,.binOp .neq t x y yt,ty,pos,after,g⟩ a=some v:=by
 obtain⟨e,he⟩:=GI ht
 rw[<- gV hv]
 exact(u7 hx hy (.inl ⟨_,_,rfl,rfl⟩) (Ej he)).2
theorem Rb (ht:Ek P t=true) (hx:bL a x=.bool b) (hy:bL a y=.bool b'):bY P ⟨d,.binOp .eql t x y yt,ty,pos,after,g⟩ a=some (.bool (b == b')):=
 (u7 hx hy (.inr (.inr ⟨_,_,rfl,rfl⟩)) (CQ (Fb ht))).1
theorem Pl (ht:Ek P t=true) (hx:bL a x=.bool b) (hy:bL a y=.bool b'):bY P ⟨d,.binOp .neq t x y yt,ty,pos,after,g⟩ a=some (.bool (!(b == b'))):=
 (u7 hx hy (.inr (.inr ⟨_,_,rfl,rfl⟩)) (CQ (Fb ht))).2
theorem NA (ht:m8 P t=true) (hx:bL a x=.slice p n c) (hy:bL a y=.slice none n' c'):bY P ⟨d,.binOp .eql t x y yt,ty,pos,after,g⟩ a=some (.bool p.isNone):=by
 obtain⟨e,he⟩:=oQ ht
 exact(u7 hx hy (.inr (.inl ⟨_,_,_,_,_,_,rfl,rfl⟩)) (AM he)).1
theorem MP (ht:m8 P t=true) (hx:bL a x=.slice p n c) (hy:bL a y=.slice none n' c'):bY P ⟨d,.binOp .neq t x y yt,ty,pos,after,g⟩ a=some (.bool (!p.isNone)):=by
 obtain⟨e,he⟩:=oQ ht
 exact(u7 hx hy (.inr (.inl ⟨_,_,_,_,_,_,rfl,rfl⟩)) (AM he)).2
theorem UA (hx:bL a x=.bool b) (hv:iW (.bool !b)=some v):bY P ⟨d,.unOp .not t x,ty,pos,after,g⟩ a=some v:=by
 rw[<- gV hv]
 refine cE ?_
 simp only[execOp,hx];rfl
theorem Aqm {n:Int} (hx:bL a x=.int k n):bY P ⟨d,.unOp .neg t x,ty,pos,after,g⟩ a=some (.int k (k.wrap (0 - n))):=by
 refine cE ?_
 simp only[execOp,hx];rfl
theorem d7 {i:TypeInfo} (h:P.info? t=some i):(typeInfo t).pr P=some i:=by
 simp only[typeInfo,aT,program,Sem.pr,Option.bind_some,h];rfl
theorem fV {i:TypeInfo} (h:P.info? t=some i):(sizeOf t).pr P=some i.size:=by
 simp only[sizeOf,aT,d7 h,Option.bind_some];rfl
def xX (P:Program) (t:TypeId) (f:Nat):Option Nat:=match P.underlying t with
 |some (.struct fs)=>match fs[f]? with
  |some fd=>match P.info? fd.type with
   |some i=>if i.size=0 then none else some fd.offset
   |none=>none
  |none=>none
 |_=>none
theorem Ew {f:Nat} (hx:bL a x=.pointer (some ⟨B,off,none⟩)) (hf:xX P t f=some n):bY P ⟨d,.fieldAddr t x f,ty,pos,after,g⟩ a=some (.pointer (some ⟨B,off+n,none⟩)):=by
 refine cE ?_
 unfold xX at hf
 split at hf
 ·rename_i fs hu
  split at hf
  ·rename_i fd hfd
   split at hf
   ·rename_i i hi
    split at hf
    ·cases hf
    ·rename_i hz
     cases hf
     simp only[execOp,hx,Instr.fieldAt,aT,aK hu,Option.bind_some,hfd,Instr.sureAddr,pure,Sem.pr,fieldPlace,fV hi,if_neg hz,oV]
   ·cases hf
  ·cases hf
 ·cases hf
def uC (P:Program) (t:TypeId):Option Nat:=match P.underlying t with
 |some (.slice e)=>match P.info? e with
  |some i=>some i.size
  |none=>none
 |_=>none
theorem Gy (h:uC P t=some sz):∃e i,P.underlying t=some (.slice e)/\P.info? e=some i/\i.size=sz:=by
 unfold uC at h
 split at h
 ·rename_i e hu
  split at h
  ·rename_i i hi;exact⟨e,i,hu,hi,by simpa using h⟩
  ·cases h
 ·cases h
theorem Ia (ht:uC P t=some sz) (hx:bL a x=.slice (some ⟨B,off,none⟩) n c) (hy:bL a y=.int k j) (h0:0<=j) (h1:j<n):
  bY P ⟨d,.indexAddr t x y,ty,pos,after,g⟩ a=some (.pointer (some ⟨B,off+j.toNat * sz,none⟩)):=by
 obtain⟨e,i,hu,hi,rfl⟩:=Gy ht
 refine cE ?_
 simp only[execOp,hx,hy,Instr.indexAt,aT,asIntOf,pure,Sem.pr,Option.bind_some,aK hu,h0,h1,and_self,if_true,fV hi,oV]
theorem Of {A:Option Addr} (hargs:Aqp.toList.map (bL a)= [.slice A n c]) (ht:(ts[0]?).any (m8 P)=true):
  bY P ⟨d,.call { callee:=.builtin .len,args:=Aqp,argTypes:=ts },ty,pos,after,g⟩ a=some (.int .i64 n):=by
 refine cE ?_
 have h1:Aqp.map (bL a)=#[.slice A n c]:=by apply Array.ext';simpa using hargs
 cases h0:ts[0]? with
 |none=>rw[h0] at ht;cases ht
 |some t0=>
  rw[h0] at ht
  obtain⟨e,he⟩:=oQ (by simpa using ht)
  simp only[execOp,resolve,h1,aT,pure,Sem.pr,Option.bind_some,invoke,builtin,Builtin.len_,h0]
  simp only[List.getElem?_toArray,List.getElem?_cons_zero,aT,aK he,Option.bind_some]
  rfl
def pS (P:Program) (t:TypeId):Bool:=match P.underlying t with
 |some .string=>true
 |_=>false
theorem mW (h:pS P t=true):P.underlying t=some .string:=by
 unfold pS at h;split at h
 ·assumption
 ·cases h
theorem S0 (hargs:Aqp.toList.map (bL a)= [.string s]) (ht:(ts[0]?).any (pS P)=true):
  bY P ⟨d,.call { callee:=.builtin .len,args:=Aqp,argTypes:=ts },ty,pos,after,g⟩ a=some (.int .i64 s.size):=by
 refine cE ?_
 have h1:Aqp.map (bL a)=#[.string s]:=by apply Array.ext';simpa using hargs
 cases h0:ts[0]? with
 |none=>rw[h0] at ht;cases ht
 |some t0=>
  rw[h0] at ht
  have he:=mW (by simpa using ht)
  simp only[execOp,resolve,h1,aT,pure,Sem.pr,Option.bind_some,invoke,builtin,Builtin.len_,h0]
  simp only[List.getElem?_toArray,List.getElem?_cons_zero,aT,aK he,Option.bind_some]
  rfl
theorem TX {vs:Array Value} (hx:bL a x=.tuple vs) (hv:vs[n]?=some v):bY P ⟨d,.extract x n,ty,pos,after,g⟩ a=some v:=by
 refine cE ?_
 simp only[execOp,hx,Instr.extract,hv];rfl
theorem RF {fn:Fn} {fs cs:Array Operand} {l1 l2:List Value} (h1:fs.toList.map (bL a)=l1) (h2:cs.toList.map (bL a)=l2):bY P ⟨d,.makeFunc fn fs cs,ty,pos,after,g⟩ a=some (.func fn l1.toArray l2.toArray):=by
 refine cE ?_
 have e1:fs.map (bL a)=l1.toArray:=by apply Array.ext';simpa using h1
 have e2:cs.map (bL a)=l2.toArray:=by apply Array.ext';simpa using h2
 simp only[execOp,e1,e2];rfl
theorem J0 (ht:pS P t=true) (hx:bL a x=.string s) (hy:bL a y=.int k j) (h0:0<=j) (h1:j<=s.size):
  bY P ⟨d,.slice t x (some y) none none,ty,pos,after,g⟩ a=some (.string (s.extract j.toNat s.size)):=by
 refine cE ?_
 simp only[execOp,hx,Option.map_some,Option.map_none,hy,Instr.sliceAt,Instr.slice,aT,aK (mW ht),Option.bind_some,Instr.sliceBounds,Instr.sliceBound,asIntOf,pure,Sem.pr,h0,h1,and_self,if_true,
  Option.isSome_none,Bool.false_eq_true,if_false]
theorem H7 (ht:pS P t=true) (hx:bL a x=.string s) (hy:bL a y=.int k j) (h0:0<=j) (h1:j<=s.size):
  bY P ⟨d,.slice t x none (some y) none,ty,pos,after,g⟩ a=some (.string (s.extract 0 j.toNat)):=by
 refine cE ?_
 simp only[execOp,hx,Option.map_some,Option.map_none,hy,Instr.sliceAt,Instr.slice,aT,aK (mW ht),Option.bind_some,Instr.sliceBounds,Instr.sliceBound,asIntOf,pure,Sem.pr,h0,h1,and_self,if_true,
  Option.isSome_none,Bool.false_eq_true,if_false]
theorem Qk {k':IntKind} (ht:pS P t=true) (hx:bL a x=.string s) (hy:bL a y=.int k j) (hz:bL a z=.int k' m) (h0:0<=j) (h1:j<=m) (h2:m<=s.size):
  bY P ⟨d,.slice t x (some y) (some z) none,ty,pos,after,g⟩ a=some (.string (s.extract j.toNat m.toNat)):=by
 refine cE ?_
 have e1:0<=m:=by omega
 have e2:j<=(m.toNat:Int):=by omega
 simp only[execOp,hx,Option.map_some,hy,hz,Option.map_none,Instr.sliceAt,Instr.slice,aT,aK (mW ht),Option.bind_some,Instr.sliceBounds,Instr.sliceBound,asIntOf,pure,Sem.pr,h0,h2,e1,e2,and_self,if_true,
  Option.isSome_none,Bool.false_eq_true,if_false]
theorem Wc (h:ZP P H t (bL a x)=some v):Ka P ⟨d,.load t x,ty,pos,after,g⟩ a H=some v:=by
 unfold Ka
 simp only[execOp,f9,XS h,Option.bind_some,zG];rfl
end
end Go.Sl
namespace Go.Sl
variable {H:Hp} {a:Fr} {P:Program} {k:Value->Hp->Prop} {d:Option Tmp} {ty t e:TypeId} {pos:String} {after:Array Edge} {g:Option (Nat×Bool)} {x y:Operand} {B n:Nat} {vs:List Value} {v:Value} {f:FuncId} {Aqp:Array Operand} {ts:Array TypeId}
def nO:List Value->Nat->List Value->List Value
 |cs,_,[]=>cs
 |cs,off,v::vs=>nO (cs.set off v) (off+1) vs
def YA:List Value->List Value->List Value
 | [],cs=>cs
 |_::_,[]=> []
 |v::vs,_::cs=>v::YA vs cs
def vQ:List Value->Nat->List Value->List Value
 |cs,0,vs=>YA vs cs
 | [],_+1,_=> []
 |c::cs,n+1,vs=>c::vQ cs n vs
theorem KX:∀(vs:List Value) (off:Nat),nO [] off vs= []:=by
 intro vs
 induction vs with
 |nil=>intro off;rfl
 |cons v vs ih=>intro off;simp only[nO,List.set_nil,ih]
theorem H8:∀(vs:List Value) (c:Value) (cs:List Value) (off:Nat),nO (c::cs) (off+1) vs=c::nO cs off vs:=by
 intro vs
 induction vs with
 |nil=>intro c cs off;rfl
 |cons v vs ih=>intro c cs off;simp only[nO,List.set_cons_succ,ih]
theorem HT:∀(vs cs:List Value),nO cs 0 vs=YA vs cs:=by
 intro vs
 induction vs with
 |nil=>intro cs;rfl
 |cons v vs ih=>
  intro cs
  cases cs with
  |nil=>simp only[KX,YA]
  |cons c cs=>simp only[nO,List.set_cons_zero,H8,YA,ih]
theorem Hq:∀(cs:List Value) (off:Nat) (vs:List Value),vQ cs off vs=nO cs off vs:=by
 intro cs
 induction cs with
 |nil=>
  intro off vs
  cases off with
  |zero=>simp only[vQ,HT]
  |succ n=>simp only[vQ,KX]
 |cons c cs ih=>
  intro off vs
  cases off with
  |zero=>simp only[vQ,HT]
  |succ n=>simp only[vQ,H8,ih]
theorem Zg (H:Hp) (r:Nat) (b c:uE):hupd (hupd H r b) r c=hupd H r c:=by
 funext i;unfold hupd;split <;> rfl
theorem Xj {r:Nat} {b:uE} (h:H r=some b):hupd H r b=H:=by
 funext i;unfold hupd;split
 ·rename_i e;rw[e,h]
 ·rfl
def vO (a:Fr):List Operand->Option (List Value)
 | []=>some []
 |x::xs=>match iW (bL a x),vO a xs with
  |some v,some vs=>some (v::vs)
  |_,_=>none
theorem Cr:∀ {xs:List Operand} {vs:List Value},vO a xs=some vs->xs.map (bL a)=vs:=by
 intro xs
 induction xs with
 |nil=>intro vs h;cases h;rfl
 |cons x xs ih=>
  intro vs h
  simp only[vO] at h
  split at h
  ·rename_i v vs' h1 h2
   cases h
   rw[List.map_cons,ih h2,gV h1]
  ·cases h
theorem aP {α:Type} {s:Sem α} {v:α} (h:s.pr P=some v) (H:Hp) (q:α->Hp->Prop):s.ev P H q=q v H:=by
 induction s with
 |pure a=>simp[Sem.pr] at h;subst h;rfl
 |program k ih=>exact ih P h
 |mark m k ih=>exact ih h
 |_=>cases h
theorem oF:∀(vs:List Value) (i off:Nat) (cs:List Value) (H:Hp) (q:Unit->Hp->Prop),H B=some (.cells cs e true)->off+i+vs.length<=cs.length->(vs.all Value.oneCell')=true->
  q () (hupd H B (.cells (nO cs (off+i) vs) e true))->(storeCells ⟨B,off,none⟩ vs i).ev P H q:=by
 intro vs
 induction vs with
 |nil=>
  intro i off cs H q hb _ _ hq
  simp only[nO,Xj hb] at hq
  unfold storeCells
  exact hq
 |cons v vs ih=>
  intro i off cs H q hb hle nR hq
  simp only[List.all_cons,Bool.and_eq_true] at nR
  unfold storeCells
  rw[aJ,oV]
  simp only[List.length_cons] at hle
  refine⟨nR.1,cs,e,hb,rfl,by simp only;omega,?_⟩
  refine ih (i+1) off (cs.set (off+i) v) _ q (lA _ _ _) (by simp;omega) nR.2 ?_
  rw[Zg]
  exact hq
def qJ (P:Program) (t:TypeId):Option Nat:=match P.info? t with
 |some i=>some i.size
 |none=>none
theorem tG (h:qJ P t=some n):∃i,P.info? t=some i/\i.size=n:=by
 unfold qJ at h
 split at h
 ·exact⟨_,‹_›,by simpa using h⟩
 ·cases h
theorem Qd {off:Nat} {cs:List Value} {u:Value} (hx:bL a x=.pointer (some ⟨B,off,none⟩)) (hy:bL a y=u) (hvs:u.cells.toList=vs) (ht:qJ P t=some n) (hn:vs.length=n)
  (nR:(vs.all Value.oneCell')=true) (hb:H B=some (.cells cs e true)) (hle:off+n<=cs.length) (hk:k undef (hupd H B (.cells (nO cs off vs) e true))):
  mS P ⟨d,.store t x y,ty,pos,after,g⟩ a H k:=by
 obtain⟨i,hi,rfl⟩:=tG ht
 refine fW ?_
 simp only[execOp,hx,hy,Instr.storeAt,aJ]
 rw[aP (show(Instr.sureAddr (.pointer (some ⟨B,off,none⟩))).pr P=some ⟨B,off,none⟩ from rfl)]
 have hsz:u.cells.size=i.size:=by rw[<- hn,<- hvs];simp
 simp only[storeVar,aJ]
 rw[aP (fV hi),if_neg (by rw[hsz];simp)]
 refine oF _ 0 off cs H _ hb (by rw[hvs,hn];omega) (by rw[hvs];exact nR) ?_
 rw[hvs]
 exact hk
def Bp (P:Program) (t:TypeId):Option (List Value):=match P.info? t with
 |some i=>match i.zero with
  |some z=>some z.cells.toList
  |none=>none
 |none=>none
theorem L5 {q:Addr->Hp->Prop} (hk:∀r,H r=none->q ⟨r,0,none⟩ (hupd H r (.cells v.cells.toList t true))):(newVar t v).ev P H q:=by
 unfold newVar newRow
 rw[aJ]
 intro r hr
 exact⟨rfl,hk r hr⟩
theorem Aas {zs:List Value} (hz:Bp P t=some zs) (hk:∀r,H r=none->k (.pointer (some ⟨r,0,none⟩)) (hupd H r (.cells zs t true))):mS P ⟨d,.alloc t,ty,pos,after,g⟩ a H k:=by
 unfold Bp at hz
 split at hz
 ·rename_i i hi
  split at hz
  ·rename_i z hz'
   cases hz
   have hzv:(zeroValue t).pr P=some z:=by simp only[zeroValue,aT,d7 hi,Option.bind_some,hz'];rfl
   refine fW ?_
   simp only[execOp,Instr.alloc,aJ]
   rw[aP hzv]
   exact L5 hk
  ·cases hz
 ·cases hz
theorem Anv (hx:bL a x=v) (hvs:v.cells.toList=vs) (hk:∀r,H r=none->k (.pointer (some ⟨r,0,none⟩)) (hupd H r (.cells vs t true))):mS P ⟨d,.box t x,ty,pos,after,g⟩ a H k:=by
 subst hx hvs
 refine fW ?_
 simp only[execOp,Instr.box,aJ]
 exact L5 hk
theorem RR {args:Array Value} (h:rU P f args H k):(callFunc f args).ev P H (nxt P k):=by
 obtain⟨fn,h1,h2,h3⟩:=h.has
 unfold callFunc
 rw[aJ,aP (show program.pr P=some P from rfl)]
 simp only[h1,h2,h3,Bool.false_eq_true,if_false]
 exact h
theorem O8 {fs cs:Array Value} (hx:bL a x=.func (.func f) fs cs) (hargs:vO a Aqp.toList=some vs) (h:rU P f (fs++vs.toArray++cs) H k):
  mS P ⟨d,.call { callee:=.value x,args:=Aqp,argTypes:=ts },ty,pos,after,g⟩ a H k:=by
 have e1:Aqp.map (bL a)=vs.toArray:=by apply Array.ext';simpa using Cr hargs
 refine fW ?_
 simp only[execOp,resolve,hx,e1,Deferred.ofValue]
 rw[aJ,aP (show(pure _:Sem Deferred).pr P=some _ from rfl)]
 simp only[invoke]
 exact RR h
theorem Ah1 (hargs:vO a Aqp.toList=some vs) (h:rU P f vs.toArray H k):
  mS P ⟨d,.call { callee:=.value (.func f),args:=Aqp,argTypes:=ts },ty,pos,after,g⟩ a H k:=
 O8 (f:=f) (fs:=#[]) (cs:=#[]) rfl hargs (by simpa using h)
end Go.Sl
namespace Go.Sl
variable {n off B id i c d':Nat} {P:Program} {t e ty yt:TypeId} {cs vs:List Value} {H:Hp} {v u:Value} {K:Fr->Hp->Prop} {a:Fr} {ol rest:List Oper} {ops:Array Oper} {l:List (Nat×Nat)} {hist:List Hp} {d:Option Tmp} {pos:String} {after:Array Edge} {g:Option (Nat×Bool)} {z:Operand} {k:Value->Hp->Prop} {o:Op}
def Aw:Nat->Option Nat
 |0=>some 0|1=>some 1|2=>some 2|3=>some 3|4=>some 4|5=>some 5|6=>some 6|7=>some 7|8=>some 8|9=>some 9|10=>some 10|11=>some 11|12=>some 12|13=>some 13|14=>some 14|15=>some 15
 |16=>some 16|17=>some 17|18=>some 18|19=>some 19|20=>some 20|21=>some 21|22=>some 22|23=>some 23|24=>some 24|25=>some 25|26=>some 26|27=>some 27|28=>some 28|29=>some 29|30=>some 30|31=>some 31
 |32=>some 32|33=>some 33|34=>some 34|35=>some 35|36=>some 36|37=>some 37|38=>some 38|39=>some 39|40=>some 40|41=>some 41|42=>some 42|43=>some 43|44=>some 44|45=>some 45|46=>some 46|47=>some 47
 |48=>some 48|49=>some 49|50=>some 50|51=>some 51|52=>some 52|53=>some 53|54=>some 54|55=>some 55|56=>some 56|57=>some 57|58=>some 58|59=>some 59|60=>some 60|61=>some 61|62=>some 62|63=>some 63
 |64=>some 64|65=>some 65|66=>some 66|67=>some 67|68=>some 68|69=>some 69|70=>some 70|71=>some 71|72=>some 72|73=>some 73|74=>some 74|75=>some 75|76=>some 76|77=>some 77|78=>some 78|79=>some 79
 |80=>some 80|81=>some 81|82=>some 82|83=>some 83|84=>some 84|85=>some 85|86=>some 86|87=>some 87|88=>some 88|89=>some 89|90=>some 90|91=>some 91|92=>some 92|93=>some 93|94=>some 94|95=>some 95|_=>none
theorem pB {m:Nat} (h:Aw n=some m):n=m:=by
 unfold Aw at h
 split at h <;> first|exact Option.some.inj h|cases h
def Dq:List (Nat×Nat)->Option (List (Nat×Nat))
 | []=>some []
 |(x,y)::l=>match Aw x with
  |some x=>match Aw y with
   |some y=>match Dq l with
    |some l=>some ((x,y)::l)
    |none=>none
   |none=>none
  |none=>none
theorem ZF:∀ {l l':List (Nat×Nat)},Dq l=some l'->l=l':=by
 intro l
 induction l with
 |nil=>intro l' h;exact Option.some.inj h
 |cons x l ih=>
  intro l' h
  obtain⟨x,y⟩:=x
  simp only[Dq] at h
  split at h
  ·rename_i a ha
   split at h
   ·rename_i b hb
    split at h
    ·rename_i c hc;cases h;rw[pB ha,pB hb,ih hc]
    ·cases h
   ·cases h
  ·cases h
def oT {α:Type}:List α->Option (List α)
 | []=>some []
 |x::xs=>match oT xs with
  |some ys=>some (x::ys)
  |none=>none
theorem l5 {α:Type}:∀ {l l':List α},oT l=some l'->l=l':=by
 intro l
 induction l with
 |nil=>intro l' h;cases h;rfl
 |cons x xs ih=>
  intro l' h
  simp only[oT] at h
  split at h
  ·rename_i ys hy;cases h;rw[ih hy]
  ·cases h
def Sj (P:Program) (t:TypeId) (cs:List Value) (off:Nat):Option Value:=match Dc P t with
 |some true=>match P.info? t with
  |some i=>if off+i.size<=cs.length then match oT ((cs.drop off).take i.size) with
    |some vs=>some (.agg vs.toArray)
    |none=>none
   else none
  |none=>none
 |some false=>cs[off]?
 |none=>none
theorem N5 {rw:Bool} (hb:H B=some (.cells cs e rw)) (h:Sj P t cs off=some v):ZP P H t (.pointer (some ⟨B,off,none⟩))=some v:=by
 unfold Sj at h
 simp only[ZP,hb]
 split at h
 ·rename_i hag
  simp only[hag]
  split at h
  ·rename_i i hi
   simp only[hi]
   split at h
   ·rename_i hle
    simp only[hle,if_true]
    split at h
    ·rename_i vs hvs;rw[l5 hvs];exact h
    ·cases h
   ·cases h
  ·cases h
 ·rename_i hag;simp only[hag];exact h
 ·cases h
section
variable {Q:Exit->Fr->Hp->Prop} {x y:Code}
end
section
variable {Q:Fr->Hp->Prop}
variable {x y:Operand}
theorem UU {cs':List Value} (hx:bL a x=.pointer (some ⟨B,off,none⟩)) (hy:iW (bL a y)=some u) (hvs:oT u.cells.toList=some vs) (ht:qJ P t=some n) (hn:(vs.length == n)=true)
  (nR:(vs.all Value.oneCell')=true) (hb:H B=some (.cells cs e true)) (hle:Nat.ble (off+n) cs.length=true) (hs:oT (vQ cs off vs)=some cs') (hk:k undef (hupd H B (.cells cs' e true))):
  mS P ⟨d,.store t x y,ty,pos,after,g⟩ a H k:=
 Qd hx (gV hy) (l5 hvs) ht (by simpa using hn) nR hb (by simpa using hle) (by rw[<- Hq,l5 hs];exact hk)
theorem SC {zs zs':List Value} (hz:Bp P t=some zs) (hc:oT zs=some zs') (hk:∀r,H r=none->k (.pointer (some ⟨r,0,none⟩)) (hupd H r (.cells zs' t true))):mS P ⟨d,.alloc t,ty,pos,after,g⟩ a H k:=
 Aas hz (by rw[l5 hc];exact hk)
theorem Aey (hx:iW (bL a x)=some v) (hvs:oT v.cells.toList=some vs) (hk:∀r,H r=none->k (.pointer (some ⟨r,0,none⟩)) (hupd H r (.cells vs t true))):mS P ⟨d,.box t x,ty,pos,after,g⟩ a H k:=
 Anv (gV hx) (l5 hvs) hk
def Vd (op:BinOp):Option Addr->Option Value
 |none=>match op with|.eql=>some (.bool true)|.neq=>some (.bool false)|_=>none
 |some _=>match op with|.eql=>some (.bool false)|.neq=>some (.bool true)|_=>none
def Anu (P:Program) (op:BinOp) (t:TypeId):Value->Value->Option Value
 |.int k m,.int k' n=>match op with
  |.shl=>if n<0 then none else some (.int k (k.wrap (m * 2 ^ (min n.toNat k.bits))))
  |.shr=>if n<0 then none else some (.int k (m.fdiv (2 ^ (min n.toNat k.bits))))
  |.quo=>if k=k' then if n=0 then none else some (.int k (k.wrap (m.tdiv n))) else none
  |.rem=>if k=k' then if n=0 then none else some (.int k (m.tmod n)) else none
  |op=>if k=k' then iW (Od op k m n) else none
 |.string m,.string n=>if Po op=true then iW (Nb op m n) else none
 |.pointer p,.pointer none=>if JR P t=true then Vd op p else none
 |.slice p _ _,.slice none _ _=>if m8 P t=true then Vd op p else none
 |.bool b,.bool b'=>if Ek P t=true then match op with
  |.eql=>some (.bool (b == b'))
  |.neq=>some (.bool (!(b == b')))
  |_=>none else none
 |_,_=>none
def Aii (P:Program) (t:TypeId):Value->Option Value
 |.slice _ n _=>if m8 P t=true then some (.int .i64 n) else none
 |.string s=>if pS P t=true then some (.int .i64 s.size) else none
 |_=>none
def opV (P:Program) (o:Op) (a:Fr):Option Value:=
 match o with
 |.move x=>iW (bL a x)
 |.assign x=>iW (bL a x)
 |.pick c x y=>match bL a c with
  |.bool true=>iW (bL a x)
  |.bool false=>iW (bL a y)
  |_=>none
 |.nilCheck x=>match bL a x with
  |.pointer (some ⟨B,off,s⟩)=>some (.pointer (some ⟨B,off,s⟩))
  |.func (.func f) fs cs=>some (.func (.func f) fs cs)
  |_=>none
 |.binOp op t x y _=>Anu P op t (bL a x) (bL a y)
 |.unOp .not _ x=>match bL a x with
  |.bool true=>some (.bool false)
  |.bool false=>some (.bool true)
  |_=>none
 |.fieldAddr t x f=>match bL a x with
  |.pointer (some ⟨B,off,none⟩)=>match xX P t f with
   |some n=>match Aw n with
    |some 0=>some (.pointer (some ⟨B,off,none⟩))
    |some n=>match Aw (off+n) with
     |some m=>some (.pointer (some ⟨B,m,none⟩))
     |none=>some (.pointer (some ⟨B,off+n,none⟩))
    |none=>none
   |none=>none
  |_=>none
 |.extract x n=>match bL a x with
  |.tuple vs=>match vs.toList[n]? with
   |some v=>iW v
   |none=>none
  |_=>none
 |.makeFunc fn fs cs=>match vO a fs.toList,vO a cs.toList with
  |some l1,some l2=>some (.func fn l1.toArray l2.toArray)
  |_,_=>none
 |.call { callee:=.builtin .len,args,argTypes }=>match args.toList with
  | [x]=>match argTypes[0]? with
   |some t=>Aii P t (bL a x)
   |none=>none
  |_=>none
 |_=>none
theorem XM {op:BinOp} {x y:Operand} {w:Value} (hx:bL a x=u) (hy:bL a y=w) (h:Anu P op t u w=some v):bY P ⟨d,.binOp op t x y yt,ty,pos,after,g⟩ a=some v:=by
 unfold Anu at h
 split at h
 ·rename_i k m k' n
  split at h
  ·split at h
   ·cases h
   ·rename_i hn;cases h;exact Afs hx hy hn
  ·split at h
   ·cases h
   ·rename_i hn;cases h;exact Adx hx hy hn
  ·split at h
   ·rename_i hk;subst hk
    split at h
    ·cases h
    ·rename_i hn;cases h;exact Adm hx hy hn
   ·cases h
  ·split at h
   ·rename_i hk;subst hk
    split at h
    ·cases h
    ·rename_i hn;cases h;exact Abk hx hy hn
   ·cases h
  ·rename_i h1 h2 h3 h4
   split at h
   ·rename_i hk;subst hk
    refine DF hx hy ?_ h
    cases op <;> first|rfl|exact absurd rfl h1|exact absurd rfl h2|exact absurd rfl h3|exact absurd rfl h4
   ·cases h
 ·split at h
  ·rename_i hp;exact Amn hx hy hp h
  ·cases h
 ·rename_i p
  split at h
  ·rename_i ht
   cases p <;> cases op <;> simp only[Vd] at h <;> first|(cases h;done)|(cases h;exact Su ht hx hy rfl)|(cases h;exact UQ ht hx hy rfl)
  ·cases h
 ·rename_i p _ _ _ _
  split at h
  ·rename_i ht
   cases p <;> cases op <;> simp only[Vd] at h <;> first|(cases h;done)|(cases h;exact NA ht hx hy)|(cases h;exact MP ht hx hy)
  ·cases h
 ·split at h
  ·rename_i ht
   cases op <;> first|(cases h;done)|(cases h;exact Rb ht hx hy)|(cases h;exact Pl ht hx hy)
  ·cases h
 ·cases h
theorem QA (h:opV P o a=some v):bY P ⟨d,o,ty,pos,after,g⟩ a=some v:=by
 unfold opV at h
 split at h
 ·exact Ajz h
 ·exact Ya h
 ·split at h
  ·rename_i hb;exact X3 hb h
  ·rename_i hb;exact XE hb h
  ·cases h
 ·split at h
  ·rename_i hx;cases h;exact An6 hx
  ·rename_i hx;cases h;exact Aio hx
  ·cases h
 ·exact XM rfl rfl h
 ·split at h
  ·rename_i hx;cases h;exact UA hx rfl
  ·rename_i hx;cases h;exact UA hx rfl
  ·cases h
 ·split at h
  ·rename_i B off hx
   split at h
   ·rename_i n hn
    split at h
    ·rename_i h0
     cases h
     have:=pB h0
     subst this
     exact Ew hx hn
    ·rename_i n' _ hn'
     have:=pB hn'
     subst this
     split at h
     ·rename_i m hm
      cases h
      rw[<- pB hm]
      exact Ew hx hn
     ·cases h;exact Ew hx hn
    ·cases h
   ·cases h
  ·cases h
 ·split at h
  ·rename_i vs hx
   split at h
   ·rename_i u hu
    refine TX hx ?_
    rw[<- gV h,<- hu,Array.getElem?_toList]
   ·cases h
  ·cases h
 ·split at h
  ·rename_i l1 l2 h1 h2
   cases h
   exact RF (Cr h1) (Cr h2)
  ·cases h
 ·rename_i args argTypes
  split at h
  ·rename_i x hargs
   split at h
   ·rename_i t ht
    have key:∀q:TypeId->Bool,q t=true->(argTypes[0]?).any q=true:=fun q hq=>by rw[ht];exact hq
    unfold Aii at h
    split at h
    ·rename_i A n c hx
     split at h
     ·rename_i hs;cases h
      exact Of (by rw[hargs,List.map_cons,hx];rfl) (key _ hs)
     ·cases h
    ·rename_i s hx
     split at h
     ·rename_i hs;cases h
      exact S0 (by rw[hargs,List.map_cons,hx];rfl) (key _ hs)
     ·cases h
    ·cases h
   ·cases h
  ·cases h
 ·cases h
theorem Xc {ts:Array TypeId} (h:(ts[0]?).any (m8 P)=true\/(ts[0]?).any (pS P)=true):F0 P ts=false:=by
 unfold F0
 cases ht:ts[0]? with
 |none=>rfl
 |some t=>
  rw[ht] at h
  simp only[Option.any_some] at h
  rcases h with h|h
  ·obtain⟨e,he⟩:=oQ h;simp only[he]
  ·simp only[mW h]
theorem Ahl (h:Aii P t u=some v):m8 P t=true\/pS P t=true:=by
 unfold Aii at h
 split at h
 ·split at h
  ·exact .inl ‹_›
  ·cases h
 ·split at h
  ·exact .inr ‹_›
  ·cases h
 ·cases h
theorem Aek (h:opV P o a=some v):kd P o=.pure:=by
 unfold opV at h
 split at h <;> first|rfl|(cases h;done)|skip
 split at h
 ·split at h
  ·rename_i ht
   have:=Xc (P:=P) (by rw[ht];exact Ahl h)
   simp only[kd,this]
  ·cases h
 ·cases h
section
variable {Q:Fr->Hp->Prop}
end
end
end Go.Sl
end
