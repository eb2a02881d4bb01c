/- A part of the proof: lemmas; each with the conditions that it states. -/
import Derived.Laws.Entries
import Derived.Test.YtepnmcipkangkaaGreatPaa
set_option linter.unusedVariables false
set_option linter.unusedSimpArgs false
section
namespace Go.Sl
variable {v u w:Value} {P:Program} {ops:Array Oper} {Q:Fr->Hp->Prop} {a:Fr} {H:Hp} {i c n n' c' B off sz:Nat} {o:Oper} {rest:List Oper} {l:List (Nat×Nat)} {hist:List Hp} {b b':Bool} {d:Option Tmp} {ty yt e:TypeId} {pos:String} {after:Array Edge} {g:Option (Nat×Bool)} {x y z:Operand} {op:BinOp} {k yk:IntKind} {m j:Int} {p:Option Addr} {Aqk:Array Operand} {ts:Array TypeId} {s:ByteArray}
def iV:Value->Option Value
 |.bool b=>some (.bool b)
 |.int k n=>some (.int k n)
 |.string s=>some (.string s)
 |.pointer none=>some (.pointer none)
 |.pointer (some ⟨b,o,s⟩)=>some (.pointer (some ⟨b,o,s⟩))
 |.slice A n c=>some (.slice A n c)
 |.map r=>some (.map r)
 |.func fn f c=>some (.func fn f c)
 |.nilFunc=>some .nilFunc
 |.iface t v=>some (.iface t v)
 |.nilIface=>some .nilIface
 |.agg cs=>some (.agg cs)
 |.tuple vs=>some (.tuple vs)
 |_=>none
theorem gM {x:Value} (h:iV x=some v):x=v:=by
 unfold iV at h
 split at h <;> first|(cases h;rfl)|cases h
theorem cD (h:(execOp (bK a) o).pr P=some (.value v)):bZ P o a=some v:=by unfold bZ;rw[h];rfl
theorem YF (h:bZ P o a=some v):(execOp (bK a) o).pr P=some (.value v):=by
 unfold bZ at h
 cases hx:(execOp (bK a) o).pr P with
 |none=>rw[hx] at h;cases h
 |some n=>rw[hx] at h;cases n <;> first|(simp[Mb] at h;subst h;rfl)|cases h
theorem Iw {k:Value->Hp->Prop} (h:Ky P o a H=some v) (hk:k v H):mI P o a H k:=by
 refine fR (Amd P _ (.value v) (nxt P k) ?_ (show nxt P k (.value v) H from hk))
 unfold Ky at h
 cases hx:(execOp (bK a) o).rd P H with
 |none=>rw[hx] at h;cases h
 |some n=>rw[hx] at h;cases n <;> first|(simp[Mb] at h;subst h;rfl)|cases h
theorem Nc (h:bZ P o a=some v):Ky P o a H=some v:=by
 have:=YF h
 unfold Ky
 rw[Ami P _ H _ this]
 rfl
theorem Apm (hw:bE ops o a=true) (hv:bZ P o a=some v) (h:cY (SD ops i) v fun v=>KQ P ops Q (i+1) rest (fI a o.dst v) H):KQ P ops Q i (o::rest) a H:=by
 unfold KQ
 rw[if_pos hw]
 exact Iw (Nc hv) h
theorem Aow (hw:bE ops o a=true) (hv:Ky P o a H=some v) (h:cY (SD ops i) v fun v=>KQ P ops Q (i+1) rest (fI a o.dst v) H):KQ P ops Q i (o::rest) a H:=by
 unfold KQ
 rw[if_pos hw]
 exact Iw hv h
theorem Ap5 (hw:bE ops o a=true) (h:mI P o a H fun v H'=>cY (SD ops i) v fun v=>KQ P ops Q (i+1) rest (fI a o.dst v) H'):KQ P ops Q i (o::rest) a H:=by
 unfold KQ
 rw[if_pos hw]
 exact h
theorem Ap0 (hw:bE ops o a=false) (h:KQ P ops Q (i+1) rest (fI a o.dst undef) H):KQ P ops Q i (o::rest) a H:=by
 unfold KQ
 rw[if_neg (by rw[hw];simp)]
 exact h
theorem Apn (ho:ops[i]?=some o) (hk:kd P o.op=.pure) (hw:bE ops o a=true) (hv:bZ P o a=some v) (h:cY (SD ops i) v fun v=>AN P ops Q l hist (fI a o.dst v) H):AN P ops Q ((i,c)::l) hist a H:=by
 simp only[AN,ho,hw,if_true,hk]
 exact⟨v,hv,h⟩
theorem Ap1 (ho:ops[i]?=some o) (hk:kd P o.op=.load) (hw:bE ops o a=true) (hv:Ky P o a H=some v) (hh:∀h∈hist.take c,Ky P o a h=some v) (h:cY (SD ops i) v fun v=>AN P ops Q l hist (fI a o.dst v) H):
  AN P ops Q ((i,c)::l) hist a H:=by
 simp only[AN,ho,hw,if_true,hk]
 exact⟨v,hv,hh,h⟩
theorem Ao8 (ho:ops[i]?=some o) (hk:kd P o.op=.other) (hw:bE ops o a=true) (h:mI P o a H fun v H'=>cY (SD ops i) v fun v=>AN P ops Q l (H::hist) (fI a o.dst v) H'):AN P ops Q ((i,c)::l) hist a H:=by
 simp only[AN,ho,hw,if_true,hk]
 exact h
theorem Apk (ho:ops[i]?=some o) (hw:bE ops o a=false) (h:AN P ops Q l hist (fI a o.dst undef) H):AN P ops Q ((i,c)::l) hist a H:=by
 simp only[AN,ho,hw]
 exact h
theorem FQ {g:Bool} {k:Value->Prop} (_hg:g=false) (h:k v):cY g v k:=(cM g v k).2 h
theorem OJ {g:Bool} {k:Value->Prop} (hg:g=true) (h:Br b (k (.bool true)) (k (.bool false))):cY g (.bool b) k:=by subst hg;exact h
theorem Br.t {x y:Prop} (hb:b=true) (h:x):Br b x y:=⟨fun _=>h,fun h'=>by rw[hb] at h';cases h'⟩
theorem Br.f {x y:Prop} (hb:b=false) (h:y):Br b x y:=⟨fun h'=>(by rw[hb] at h';cases h'),fun _=>h⟩
section
variable {t:TypeId}
theorem Aj0 (hx:iV (bK a x)=some v):bZ P ⟨d,.move x,ty,pos,after,g⟩ a=some v:=by
 rw[<- gM hx];rfl
theorem ZH (hx:iV (bK a x)=some v):bZ P ⟨d,.assign x,ty,pos,after,g⟩ a=some v:=by
 rw[<- gM hx];rfl
theorem Zp (hx:bK a x=.bool true) (hy:iV (bK a y)=some v):bZ P ⟨d,.pick x y z,ty,pos,after,g⟩ a=some v:=by
 refine cD ?_
 simp only[execOp,hx,asBool,aR,pure,Sem.pr,Option.bind_some,if_true,gM hy]
theorem Y0 (hx:bK a x=.bool false) (hz:iV (bK a z)=some v):bZ P ⟨d,.pick x y z,ty,pos,after,g⟩ a=some v:=by
 refine cD ?_
 simp only[execOp,hx,asBool,aR,pure,Sem.pr,Option.bind_some,gM hz]
 rfl
theorem An6 {p:Addr} (hx:bK a x=.pointer (some p)):bZ P ⟨d,.nilCheck x,ty,pos,after,g⟩ a=some (.pointer (some p)):=by
 refine cD ?_
 simp only[execOp,hx];rfl
theorem Alg {fn:FuncId} {fs cs:Array Value} (hx:bK a x=.func (.func fn) fs cs):bZ P ⟨d,.nilCheck x,ty,pos,after,g⟩ a=some (.func (.func fn) fs cs):=by
 refine cD ?_
 simp only[execOp,hx];rfl
def Ny:BinOp->IntKind->Int->Int->Value
 |.add,k,m,n=>.int k (k.wrap (m+n))
 |.sub,k,m,n=>.int k (k.wrap (m - n))
 |.mul,k,m,n=>.int k (k.wrap (m * n))
 |.eql,_,m,n=>.bool (m == n)
 |.neq,_,m,n=>.bool (m != n)
 |.lss,_,m,n=>.bool (m<n)
 |.leq,_,m,n=>.bool (m<=n)
 |.gtr,_,m,n=>.bool (m > n)
 |.geq,_,m,n=>.bool (m≥n)
 |.and,k,m,n=>.int k (k.wrap (BitVec.ofInt k.bits m &&& BitVec.ofInt k.bits n).toNat)
 |.or,k,m,n=>.int k (k.wrap (BitVec.ofInt k.bits m ||| BitVec.ofInt k.bits n).toNat)
 |.xor,k,m,n=>.int k (k.wrap (BitVec.ofInt k.bits m ^^^ BitVec.ofInt k.bits n).toNat)
 |.andNot,k,m,n=>.int k (k.wrap (BitVec.ofInt k.bits m &&& ~~~BitVec.ofInt k.bits n).toNat)
 |_,_,_,_=>undef
def Ach:BinOp->Bool
 |.quo|.rem|.shl|.shr=>false
 |_=>true
theorem DF {n:Int} (hx:bK a x=.int k m) (hy:bK a y=.int k n) (hp:Ach op=true) (hv:iV (Ny op k m n)=some v):
  bZ P ⟨d,.binOp op t x y yt,ty,pos,after,g⟩ a=some v:=by
 refine cD ?_
 rw[<- gM hv]
 have hb:binOp op t (.int k m) (.int k n)=pure (Ny op k m n):=by
  cases op <;> first|exact absurd hp (by decide)|(simp[binOp,Op.intArith,Op.intCmp,Op.intBits,Ny])
 simp only[execOp,hx,hy,eqGuard_at_int,hb]
 rfl
theorem Af3 {n:Int} (hx:bK a x=.int k m) (hy:bK a y=.int k n) (hn:n≠0):bZ P ⟨d,.binOp .quo t x y yt,ty,pos,after,g⟩ a=some (.int k (k.wrap (m.tdiv n))):=by
 refine cD ?_
 simp only[execOp,hx,hy,eqGuard_at_int]
 have:(binOp .quo t (.int k m) (.int k n)).pr P=some (.int k (k.wrap (m.tdiv n))):=by simp[binOp,Op.intDiv,hn];rfl
 simp only[aR,this]
 rfl
theorem Acc {n:Int} (hx:bK a x=.int k m) (hy:bK a y=.int k n) (hn:n≠0):bZ P ⟨d,.binOp .rem t x y yt,ty,pos,after,g⟩ a=some (.int k (m.tmod n)):=by
 refine cD ?_
 simp only[execOp,hx,hy,eqGuard_at_int]
 have:(binOp .rem t (.int k m) (.int k n)).pr P=some (.int k (m.tmod n)):=by simp[binOp,Op.intDiv,hn];rfl
 simp only[aR,this]
 rfl
theorem Acp {n:Int} (hx:bK a x=.int k m) (hy:bK a y=.int yk n) (hn:¬n<0):bZ P ⟨d,.binOp .shl t x y yt,ty,pos,after,g⟩ a=some (.int k (k.wrap (m * 2 ^ (min n.toNat k.bits)))):=by
 refine cD ?_
 simp only[execOp,hx,hy,eqGuard_at_int]
 have:(binOp .shl t (.int k m) (.int yk n)).pr P=some (.int k (k.wrap (m * 2 ^ (min n.toNat k.bits)))):=by simp[binOp,Op.shift,hn];rfl
 simp only[aR,this]
 rfl
theorem Adh {n:Int} (hx:bK a x=.int k m) (hy:bK a y=.int yk n) (hn:¬n<0):bZ P ⟨d,.binOp .shr t x y yt,ty,pos,after,g⟩ a=some (.int k (m.fdiv (2 ^ (min n.toNat k.bits)))):=by
 refine cD ?_
 simp only[execOp,hx,hy,eqGuard_at_int]
 have:(binOp .shr t (.int k m) (.int yk n)).pr P=some (.int k (m.fdiv (2 ^ (min n.toNat k.bits)))):=by simp[binOp,Op.shift,hn];rfl
 simp only[aR,this]
 rfl
def Ol:BinOp->ByteArray->ByteArray->Value
 |.eql,m,n=>.bool (m.toList == n.toList)
 |.neq,m,n=>.bool (!(m.toList == n.toList))
 |.lss,m,n=>.bool (Op.bytesLess m.toList n.toList)
 |.leq,m,n=>.bool (Op.bytesLess m.toList n.toList || m.toList == n.toList)
 |.gtr,m,n=>.bool (!(Op.bytesLess m.toList n.toList || m.toList == n.toList))
 |.geq,m,n=>.bool (!(Op.bytesLess m.toList n.toList))
 |_,_,_=>undef
def Q0:BinOp->Bool
 |.eql|.neq|.lss|.leq|.gtr|.geq=>true
 |_=>false
theorem An5 {m n:ByteArray} (hx:bK a x=.string m) (hy:bK a y=.string n) (hp:Q0 op=true) (hv:iV (Ol op m n)=some v):
  bZ P ⟨d,.binOp op t x y yt,ty,pos,after,g⟩ a=some v:=by
 refine cD ?_
 rw[<- gM hv]
 have hb:binOp op t (.string m) (.string n)=pure (Ol op m n):=by
  cases op <;> first|exact absurd hp (by decide)|(simp[binOp,Op.stringOp,Ol])
 simp only[execOp,hx,hy,eqGuard_at_string,hb]
 rfl
theorem Anz {m n:ByteArray} (hx:bK a x=.string m) (hy:bK a y=.string n) (hs:m.size+n.size<=9223372036854775807):
  bZ P ⟨d,.binOp .add t x y yt,ty,pos,after,g⟩ a=some (.string (m++n)):=by
 refine cD ?_
 simp only[execOp,hx,hy]
 have h:¬((m.size+n.size:Nat):Int) > IntKind.i64.max:=by
  have:IntKind.i64.max=9223372036854775807:=by decide
  rw[this];omega
 have:(binOp .add t (.string m) (.string n)).pr P=some (.string (m++n)):=by simp only[binOp,Op.stringOp];rw[if_neg h];rfl
 simp only[aR,this]
 rfl
theorem Uc (h:(∃p,u=.pointer p)\/(∃b n c,u=.slice b n c)\/(∃r,u=.map r)\/(∃b,u=.bool b)\/u=.nilFunc\/(∃f x y,u=.func f x y)):(eqGuard op t x y u w).pr P=some ():=by
 rcases h with⟨p,rfl⟩|⟨b,n,c,rfl⟩|⟨r,rfl⟩|⟨b,rfl⟩|rfl|⟨f,x,y,rfl⟩ <;> cases op <;> rfl
theorem aL {D:TypeDesc} (h:P.underlying t=some D):(underlying t).pr P=some D:=by
 simp only[underlying,aR,program,Sem.pr,Option.bind_some,h];rfl
theorem E7 (ht:P.underlying t=some (.pointer e)):(Op.equal t (.pointer p) (.pointer none)).pr P=some p.isNone:=by
 unfold Op.equal Op.maxDepth Op.equalIn
 rw[aR,aL ht,Option.bind_some]
 cases p <;> rfl
theorem Bo (ht:P.underlying t=some (.slice e)):(Op.equal t (.slice p n c) (.slice none n' c')).pr P=some p.isNone:=by
 unfold Op.equal Op.maxDepth Op.equalIn
 rw[aR,aL ht,Option.bind_some]
 cases p <;> rfl
theorem C3 (ht:P.underlying t=some .bool):(Op.equal t (.bool b) (.bool b')).pr P=some (b == b'):=by
 unfold Op.equal Op.maxDepth Op.equalIn
 rw[aR,aL ht,Option.bind_some]
 rfl
def Jh (P:Program) (t:TypeId):Bool:=match P.underlying t with
 |some (.pointer _)=>true
 |_=>false
def mJ (P:Program) (t:TypeId):Bool:=match P.underlying t with
 |some (.slice _)=>true
 |_=>false
def EZ (P:Program) (t:TypeId):Bool:=match P.underlying t with
 |some .bool=>true
 |_=>false
theorem G5 (h:Jh P t=true):∃e,P.underlying t=some (.pointer e):=by
 unfold Jh at h;split at h
 ·exact⟨_,‹_›⟩
 ·cases h
theorem oF (h:mJ P t=true):∃e,P.underlying t=some (.slice e):=by
 unfold mJ at h;split at h
 ·exact⟨_,‹_›⟩
 ·cases h
theorem E9 (h:EZ P t=true):P.underlying t=some .bool:=by
 unfold EZ at h;split at h
 ·assumption
 ·cases h
theorem M8 (h:(∃p q,u=.pointer p/\w=.pointer q)\/(∃p n c q n' c',u=.slice p n c/\w=.slice q n' c')\/(∃b b',u=.bool b/\w=.bool b')):
  binOp .eql t u w=(do pure (.bool (<- Op.equal t u w)))/\binOp .neq t u w=(do pure (.bool (!(<- Op.equal t u w)))):=by
 rcases h with⟨p,q,rfl,rfl⟩|⟨p,n,c,q,n',c',rfl,rfl⟩|⟨b,b',rfl,rfl⟩ <;> exact⟨rfl,rfl⟩
theorem uX (hx:bK a x=u) (hy:bK a y=w) (h:(∃p q,u=.pointer p/\w=.pointer q)\/(∃p n c q n' c',u=.slice p n c/\w=.slice q n' c')\/(∃b b',u=.bool b/\w=.bool b')) (he:(Op.equal t u w).pr P=some b):
  bZ P ⟨d,.binOp .eql t x y yt,ty,pos,after,g⟩ a=some (.bool b)/\bZ P ⟨d,.binOp .neq t x y yt,ty,pos,after,g⟩ a=some (.bool (!b)):=by
 have hg:∀op,(eqGuard op t x y u w).pr P=some ():=fun op=>Uc (by
  rcases h with⟨p,q,rfl,rfl⟩|⟨p,n,c,q,n',c',rfl,rfl⟩|⟨b,b',rfl,rfl⟩
  ·exact .inl ⟨_,rfl⟩
  ·exact .inr (.inl ⟨_,_,_,rfl⟩)
  ·exact .inr (.inr (.inr (.inl ⟨_,rfl⟩))))
 obtain⟨h1,h2⟩:=M8 (t:=t) h
 constructor
 ·refine cD ?_
  simp only[execOp,hx,hy,aR,hg,Option.bind_some,h1,he]
  rfl
 ·refine cD ?_
  simp only[execOp,hx,hy,aR,hg,Option.bind_some,h2,he]
  rfl
theorem UO (ht:Jh P t=true) (hx:bK a x=.pointer p) (hy:bK a y=.pointer none) (hv:iV (.bool p.isNone)=some v):bZ P ⟨d,.binOp .eql t x y yt,ty,pos,after,g⟩ a=some v:=by
 obtain⟨e,he⟩:=G5 ht
 rw[<- gM hv]
 exact(uX hx hy (.inl ⟨_,_,rfl,rfl⟩) (E7 he)).1
theorem TU (ht:Jh P t=true) (hx:bK a x=.pointer p) (hy:bK a y=.pointer none) (hv:iV (.bool (!p.isNone))=some v):bZ P ⟨d,.binOp .neq t x y yt,ty,pos,after,g⟩ a=some v:=by
 obtain⟨e,he⟩:=G5 ht
 rw[<- gM hv]
 exact(uX hx hy (.inl ⟨_,_,rfl,rfl⟩) (E7 he)).2
theorem PK (ht:EZ P t=true) (hx:bK a x=.bool b) (hy:bK a y=.bool b'):bZ P ⟨d,.binOp .eql t x y yt,ty,pos,after,g⟩ a=some (.bool (b == b')):=
 (uX hx hy (.inr (.inr ⟨_,_,rfl,rfl⟩)) (C3 (E9 ht))).1
theorem QO (ht:EZ P t=true) (hx:bK a x=.bool b) (hy:bK a y=.bool b'):bZ P ⟨d,.binOp .neq t x y yt,ty,pos,after,g⟩ a=some (.bool (!(b == b'))):=
 (uX hx hy (.inr (.inr ⟨_,_,rfl,rfl⟩)) (C3 (E9 ht))).2
theorem Nq (ht:mJ P t=true) (hx:bK a x=.slice p n c) (hy:bK a y=.slice none n' c'):bZ P ⟨d,.binOp .eql t x y yt,ty,pos,after,g⟩ a=some (.bool p.isNone):=by
 obtain⟨e,he⟩:=oF ht
 exact(uX hx hy (.inr (.inl ⟨_,_,_,_,_,_,rfl,rfl⟩)) (Bo he)).1
theorem N9 (ht:mJ P t=true) (hx:bK a x=.slice p n c) (hy:bK a y=.slice none n' c'):bZ P ⟨d,.binOp .neq t x y yt,ty,pos,after,g⟩ a=some (.bool (!p.isNone)):=by
 obtain⟨e,he⟩:=oF ht
 exact(uX hx hy (.inr (.inl ⟨_,_,_,_,_,_,rfl,rfl⟩)) (Bo he)).2
theorem UK (hx:bK a x=.bool b) (hv:iV (.bool !b)=some v):bZ P ⟨d,.unOp .not t x,ty,pos,after,g⟩ a=some v:=by
 rw[<- gM hv]
 refine cD ?_
 simp only[execOp,hx];rfl
theorem Aqc {n:Int} (hx:bK a x=.int k n):bZ P ⟨d,.unOp .neg t x,ty,pos,after,g⟩ a=some (.int k (k.wrap (0 - n))):=by
 refine cD ?_
 simp only[execOp,hx];rfl
theorem d9 {i:TypeInfo} (h:P.info? t=some i):(typeInfo t).pr P=some i:=by
 simp only[typeInfo,aR,program,Sem.pr,Option.bind_some,h];rfl
theorem fP {i:TypeInfo} (h:P.info? t=some i):(sizeOf t).pr P=some i.size:=by
 simp only[sizeOf,aR,d9 h,Option.bind_some];rfl
def xZ (P:Program) (t:TypeId) (f:Nat):Option Nat:=match P.underlying t with
 |some (.struct fs)=>match fs[f]? with
  |some fd=>match P.info? fd.type with
   |some i=>if i.size=0 then none else some fd.offset
   |none=>none
  |none=>none
 |_=>none
theorem Ey {f:Nat} (hx:bK a x=.pointer (some ⟨B,off,none⟩)) (hf:xZ P t f=some n):bZ P ⟨d,.fieldAddr t x f,ty,pos,after,g⟩ a=some (.pointer (some ⟨B,off+n,none⟩)):=by
 refine cD ?_
 unfold xZ at hf
 split at hf
 ·rename_i fs hu
  split at hf
  ·rename_i fd hfd
   split at hf
   ·rename_i i hi
    split at hf
    ·cases hf
    ·rename_i hz
     cases hf
     simp only[execOp,hx,Instr.fieldAt,aR,aL hu,Option.bind_some,hfd,Instr.sureAddr,pure,Sem.pr,fieldPlace,fP hi,if_neg hz,oT]
   ·cases hf
  ·cases hf
 ·cases hf
def tW (P:Program) (t:TypeId):Option Nat:=match P.underlying t with
 |some (.slice e)=>match P.info? e with
  |some i=>some i.size
  |none=>none
 |_=>none
theorem GR (h:tW P t=some sz):∃e i,P.underlying t=some (.slice e)/\P.info? e=some i/\i.size=sz:=by
 unfold tW at h
 split at h
 ·rename_i e hu
  split at h
  ·rename_i i hi;exact⟨e,i,hu,hi,by simpa using h⟩
  ·cases h
 ·cases h
theorem Ih (ht:tW P t=some sz) (hx:bK a x=.slice (some ⟨B,off,none⟩) n c) (hy:bK a y=.int k j) (h0:0<=j) (h1:j<n):
  bZ P ⟨d,.indexAddr t x y,ty,pos,after,g⟩ a=some (.pointer (some ⟨B,off+j.toNat * sz,none⟩)):=by
 obtain⟨e,i,hu,hi,rfl⟩:=GR ht
 refine cD ?_
 simp only[execOp,hx,hy,Instr.indexAt,aR,asIntOf,pure,Sem.pr,Option.bind_some,aL hu,h0,h1,and_self,if_true,fP hi,oT]
theorem MI {A:Option Addr} (hargs:Aqk.toList.map (bK a)= [.slice A n c]) (ht:(ts[0]?).any (mJ P)=true):
  bZ P ⟨d,.call { callee:=.builtin .len,args:=Aqk,argTypes:=ts },ty,pos,after,g⟩ a=some (.int .i64 n):=by
 refine cD ?_
 have h1:Aqk.map (bK a)=#[.slice A n c]:=by apply Array.ext';simpa using hargs
 cases h0:ts[0]? with
 |none=>rw[h0] at ht;cases ht
 |some t0=>
  rw[h0] at ht
  obtain⟨e,he⟩:=oF (by simpa using ht)
  simp only[execOp,resolve,h1,aR,pure,Sem.pr,Option.bind_some,invoke,builtin,Builtin.len_,h0]
  simp only[List.getElem?_toArray,List.getElem?_cons_zero,aR,aL he,Option.bind_some]
  rfl
def pD (P:Program) (t:TypeId):Bool:=match P.underlying t with
 |some .string=>true
 |_=>false
theorem mL (h:pD P t=true):P.underlying t=some .string:=by
 unfold pD at h;split at h
 ·assumption
 ·cases h
theorem Tt (hargs:Aqk.toList.map (bK a)= [.string s]) (ht:(ts[0]?).any (pD P)=true):
  bZ P ⟨d,.call { callee:=.builtin .len,args:=Aqk,argTypes:=ts },ty,pos,after,g⟩ a=some (.int .i64 s.size):=by
 refine cD ?_
 have h1:Aqk.map (bK a)=#[.string s]:=by apply Array.ext';simpa using hargs
 cases h0:ts[0]? with
 |none=>rw[h0] at ht;cases ht
 |some t0=>
  rw[h0] at ht
  have he:=mL (by simpa using ht)
  simp only[execOp,resolve,h1,aR,pure,Sem.pr,Option.bind_some,invoke,builtin,Builtin.len_,h0]
  simp only[List.getElem?_toArray,List.getElem?_cons_zero,aR,aL he,Option.bind_some]
  rfl
theorem SQ {vs:Array Value} (hx:bK a x=.tuple vs) (hv:vs[n]?=some v):bZ P ⟨d,.extract x n,ty,pos,after,g⟩ a=some v:=by
 refine cD ?_
 simp only[execOp,hx,Instr.extract,hv];rfl
theorem Qp {fn:Fn} {fs cs:Array Operand} {l1 l2:List Value} (h1:fs.toList.map (bK a)=l1) (h2:cs.toList.map (bK a)=l2):bZ P ⟨d,.makeFunc fn fs cs,ty,pos,after,g⟩ a=some (.func fn l1.toArray l2.toArray):=by
 refine cD ?_
 have e1:fs.map (bK a)=l1.toArray:=by apply Array.ext';simpa using h1
 have e2:cs.map (bK a)=l2.toArray:=by apply Array.ext';simpa using h2
 simp only[execOp,e1,e2];rfl
theorem Kr (ht:pD P t=true) (hx:bK a x=.string s) (hy:bK a y=.int k j) (h0:0<=j) (h1:j<=s.size):
  bZ P ⟨d,.slice t x (some y) none none,ty,pos,after,g⟩ a=some (.string (s.extract j.toNat s.size)):=by
 refine cD ?_
 simp only[execOp,hx,Option.map_some,Option.map_none,hy,Instr.sliceAt,Instr.slice,aR,aL (mL ht),Option.bind_some,Instr.sliceBounds,Instr.sliceBound,asIntOf,pure,Sem.pr,h0,h1,and_self,if_true,
  Option.isSome_none,Bool.false_eq_true,if_false]
theorem J7 (ht:pD P t=true) (hx:bK a x=.string s) (hy:bK a y=.int k j) (h0:0<=j) (h1:j<=s.size):
  bZ P ⟨d,.slice t x none (some y) none,ty,pos,after,g⟩ a=some (.string (s.extract 0 j.toNat)):=by
 refine cD ?_
 simp only[execOp,hx,Option.map_some,Option.map_none,hy,Instr.sliceAt,Instr.slice,aR,aL (mL ht),Option.bind_some,Instr.sliceBounds,Instr.sliceBound,asIntOf,pure,Sem.pr,h0,h1,and_self,if_true,
  Option.isSome_none,Bool.false_eq_true,if_false]
theorem SC {k':IntKind} (ht:pD P t=true) (hx:bK a x=.string s) (hy:bK a y=.int k j) (hz:bK a z=.int k' m) (h0:0<=j) (h1:j<=m) (h2:m<=s.size):
  bZ P ⟨d,.slice t x (some y) (some z) none,ty,pos,after,g⟩ a=some (.string (s.extract j.toNat m.toNat)):=by
 refine cD ?_
 have e1:0<=m:=by omega
 have e2:j<=(m.toNat:Int):=by omega
 simp only[execOp,hx,Option.map_some,hy,hz,Option.map_none,Instr.sliceAt,Instr.slice,aR,aL (mL ht),Option.bind_some,Instr.sliceBounds,Instr.sliceBound,asIntOf,pure,Sem.pr,h0,h2,e1,e2,and_self,if_true,
  Option.isSome_none,Bool.false_eq_true,if_false]
theorem V3 (h:ldV P H t (bK a x)=some v):Ky P ⟨d,.load t x,ty,pos,after,g⟩ a H=some v:=by
 unfold Ky
 simp only[execOp,fZ,Xh h,Option.bind_some,zL];rfl
end
end Go.Sl
namespace Go.Sl
variable {H:Hp} {a:Fr} {P:Program} {k:Value->Hp->Prop} {d:Option Tmp} {ty t e:TypeId} {pos:String} {after:Array Edge} {g:Option (Nat×Bool)} {x y:Operand} {B n:Nat} {vs:List Value} {v:Value} {f:FuncId} {Aqk:Array Operand} {ts:Array TypeId}
def nG:List Value->Nat->List Value->List Value
 |cs,_,[]=>cs
 |cs,off,v::vs=>nG (cs.set off v) (off+1) vs
def YU:List Value->List Value->List Value
 | [],cs=>cs
 |_::_,[]=> []
 |v::vs,_::cs=>v::YU vs cs
def vB:List Value->Nat->List Value->List Value
 |cs,0,vs=>YU vs cs
 | [],_+1,_=> []
 |c::cs,n+1,vs=>c::vB cs n vs
theorem Ms:∀(vs:List Value) (off:Nat),nG [] off vs= []:=by
 intro vs
 induction vs with
 |nil=>intro off;rfl
 |cons v vs ih=>intro off;simp only[nG,List.set_nil,ih]
theorem JP:∀(vs:List Value) (c:Value) (cs:List Value) (off:Nat),nG (c::cs) (off+1) vs=c::nG cs off vs:=by
 intro vs
 induction vs with
 |nil=>intro c cs off;rfl
 |cons v vs ih=>intro c cs off;simp only[nG,List.set_cons_succ,ih]
theorem JA:∀(vs cs:List Value),nG cs 0 vs=YU vs cs:=by
 intro vs
 induction vs with
 |nil=>intro cs;rfl
 |cons v vs ih=>
  intro cs
  cases cs with
  |nil=>simp only[Ms,YU]
  |cons c cs=>simp only[nG,List.set_cons_zero,JP,YU,ih]
theorem H6:∀(cs:List Value) (off:Nat) (vs:List Value),vB cs off vs=nG cs off vs:=by
 intro cs
 induction cs with
 |nil=>
  intro off vs
  cases off with
  |zero=>simp only[vB,JA]
  |succ n=>simp only[vB,Ms]
 |cons c cs ih=>
  intro off vs
  cases off with
  |zero=>simp only[vB,JA]
  |succ n=>simp only[vB,JP,ih]
theorem Ya (H:Hp) (r:Nat) (b c:tX):hupd (hupd H r b) r c=hupd H r c:=by
 funext i;unfold hupd;split <;> rfl
theorem X7 {r:Nat} {b:tX} (h:H r=some b):hupd H r b=H:=by
 funext i;unfold hupd;split
 ·rename_i e;rw[e,h]
 ·rfl
def vN (a:Fr):List Operand->Option (List Value)
 | []=>some []
 |x::xs=>match iV (bK a x),vN a xs with
  |some v,some vs=>some (v::vs)
  |_,_=>none
theorem Cx:∀ {xs:List Operand} {vs:List Value},vN a xs=some vs->xs.map (bK a)=vs:=by
 intro xs
 induction xs with
 |nil=>intro vs h;cases h;rfl
 |cons x xs ih=>
  intro vs h
  simp only[vN] at h
  split at h
  ·rename_i v vs' h1 h2
   cases h
   rw[List.map_cons,ih h2,gM h1]
  ·cases h
theorem aP {α:Type} {s:Sem α} {v:α} (h:s.pr P=some v) (H:Hp) (q:α->Hp->Prop):s.ev P H q=q v H:=by
 induction s with
 |pure a=>simp[Sem.pr] at h;subst h;rfl
 |program k ih=>exact ih P h
 |mark m k ih=>exact ih h
 |_=>cases h
theorem nU:∀(vs:List Value) (i off:Nat) (cs:List Value) (H:Hp) (q:Unit->Hp->Prop),H B=some (.cells cs e true)->off+i+vs.length<=cs.length->(vs.all Value.oneCell')=true->
  q () (hupd H B (.cells (nG cs (off+i) vs) e true))->(storeCells ⟨B,off,none⟩ vs i).ev P H q:=by
 intro vs
 induction vs with
 |nil=>
  intro i off cs H q hb _ _ hq
  simp only[nG,X7 hb] at hq
  unfold storeCells
  exact hq
 |cons v vs ih=>
  intro i off cs H q hb hle nQ hq
  simp only[List.all_cons,Bool.and_eq_true] at nQ
  unfold storeCells
  rw[aJ,oT]
  simp only[List.length_cons] at hle
  refine⟨nQ.1,cs,e,hb,rfl,by simp only;omega,?_⟩
  refine ih (i+1) off (cs.set (off+i) v) _ q (kP _ _ _) (by simp;omega) nQ.2 ?_
  rw[Ya]
  exact hq
def qP (P:Program) (t:TypeId):Option Nat:=match P.info? t with
 |some i=>some i.size
 |none=>none
theorem sZ (h:qP P t=some n):∃i,P.info? t=some i/\i.size=n:=by
 unfold qP at h
 split at h
 ·exact⟨_,‹_›,by simpa using h⟩
 ·cases h
theorem QG {off:Nat} {cs:List Value} {u:Value} (hx:bK a x=.pointer (some ⟨B,off,none⟩)) (hy:bK a y=u) (hvs:u.cells.toList=vs) (ht:qP P t=some n) (hn:vs.length=n)
  (nQ:(vs.all Value.oneCell')=true) (hb:H B=some (.cells cs e true)) (hle:off+n<=cs.length) (hk:k undef (hupd H B (.cells (nG cs off vs) e true))):
  mI P ⟨d,.store t x y,ty,pos,after,g⟩ a H k:=by
 obtain⟨i,hi,rfl⟩:=sZ ht
 refine fR ?_
 simp only[execOp,hx,hy,Instr.storeAt,aJ]
 rw[aP (show(Instr.sureAddr (.pointer (some ⟨B,off,none⟩))).pr P=some ⟨B,off,none⟩ from rfl)]
 have hsz:u.cells.size=i.size:=by rw[<- hn,<- hvs];simp
 simp only[storeVar,aJ]
 rw[aP (fP hi),if_neg (by rw[hsz];simp)]
 refine nU _ 0 off cs H _ hb (by rw[hvs,hn];omega) (by rw[hvs];exact nQ) ?_
 rw[hvs]
 exact hk
def BC (P:Program) (t:TypeId):Option (List Value):=match P.info? t with
 |some i=>match i.zero with
  |some z=>some z.cells.toList
  |none=>none
 |none=>none
theorem Ll {q:Addr->Hp->Prop} (hk:∀r,H r=none->q ⟨r,0,none⟩ (hupd H r (.cells v.cells.toList t true))):(newVar t v).ev P H q:=by
 unfold newVar newRow
 rw[aJ]
 intro r hr
 exact⟨rfl,hk r hr⟩
theorem Agx {zs:List Value} (hz:BC P t=some zs) (hk:∀r,H r=none->k (.pointer (some ⟨r,0,none⟩)) (hupd H r (.cells zs t true))):mI P ⟨d,.alloc t,ty,pos,after,g⟩ a H k:=by
 unfold BC at hz
 split at hz
 ·rename_i i hi
  split at hz
  ·rename_i z hz'
   cases hz
   have hzv:(zeroValue t).pr P=some z:=by simp only[zeroValue,aR,d9 hi,Option.bind_some,hz'];rfl
   refine fR ?_
   simp only[execOp,Instr.alloc,aJ]
   rw[aP hzv]
   exact Ll hk
  ·cases hz
 ·cases hz
theorem Anh (hx:bK a x=v) (hvs:v.cells.toList=vs) (hk:∀r,H r=none->k (.pointer (some ⟨r,0,none⟩)) (hupd H r (.cells vs t true))):mI P ⟨d,.box t x,ty,pos,after,g⟩ a H k:=by
 subst hx hvs
 refine fR ?_
 simp only[execOp,Instr.box,aJ]
 exact Ll hk
theorem O5 {args:Array Value} (h:rM P f args H k):(callFunc f args).ev P H (nxt P k):=by
 obtain⟨fn,h1,h2,h3⟩:=h.has
 unfold callFunc
 rw[aJ,aP (show program.pr P=some P from rfl)]
 simp only[h1,h2,h3,Bool.false_eq_true,if_false]
 exact h
theorem Rq {fs cs:Array Value} (hx:bK a x=.func (.func f) fs cs) (hargs:vN a Aqk.toList=some vs) (h:rM P f (fs++vs.toArray++cs) H k):
  mI P ⟨d,.call { callee:=.value x,args:=Aqk,argTypes:=ts },ty,pos,after,g⟩ a H k:=by
 have e1:Aqk.map (bK a)=vs.toArray:=by apply Array.ext';simpa using Cx hargs
 refine fR ?_
 simp only[execOp,resolve,hx,e1,Deferred.ofValue]
 rw[aJ,aP (show(pure _:Sem Deferred).pr P=some _ from rfl)]
 simp only[invoke]
 exact O5 h
theorem Ak6 (hargs:vN a Aqk.toList=some vs) (h:rM P f vs.toArray H k):
  mI P ⟨d,.call { callee:=.value (.func f),args:=Aqk,argTypes:=ts },ty,pos,after,g⟩ a H k:=
 Rq (f:=f) (fs:=#[]) (cs:=#[]) rfl hargs (by simpa using h)
end Go.Sl
namespace Go.Sl
variable {n off B id i c d':Nat} {P:Program} {t e ty yt:TypeId} {cs vs:List Value} {H:Hp} {v u:Value} {K:Fr->Hp->Prop} {a:Fr} {ol rest:List Oper} {ops:Array Oper} {l:List (Nat×Nat)} {hist:List Hp} {d:Option Tmp} {pos:String} {after:Array Edge} {g:Option (Nat×Bool)} {z:Operand} {k:Value->Hp->Prop} {o:Op}
def AF:Nat->Option Nat
 |0=>some 0|1=>some 1|2=>some 2|3=>some 3|4=>some 4|5=>some 5|6=>some 6|7=>some 7|8=>some 8|9=>some 9|10=>some 10|11=>some 11|12=>some 12|13=>some 13|14=>some 14|15=>some 15
 |16=>some 16|17=>some 17|18=>some 18|19=>some 19|20=>some 20|21=>some 21|22=>some 22|23=>some 23|24=>some 24|25=>some 25|26=>some 26|27=>some 27|28=>some 28|29=>some 29|30=>some 30|31=>some 31
 |32=>some 32|33=>some 33|34=>some 34|35=>some 35|36=>some 36|37=>some 37|38=>some 38|39=>some 39|40=>some 40|41=>some 41|42=>some 42|43=>some 43|44=>some 44|45=>some 45|46=>some 46|47=>some 47
 |48=>some 48|49=>some 49|50=>some 50|51=>some 51|52=>some 52|53=>some 53|54=>some 54|55=>some 55|56=>some 56|57=>some 57|58=>some 58|59=>some 59|60=>some 60|61=>some 61|62=>some 62|63=>some 63
 |64=>some 64|65=>some 65|66=>some 66|67=>some 67|68=>some 68|69=>some 69|70=>some 70|71=>some 71|72=>some 72|73=>some 73|74=>some 74|75=>some 75|76=>some 76|77=>some 77|78=>some 78|79=>some 79
 |80=>some 80|81=>some 81|82=>some 82|83=>some 83|84=>some 84|85=>some 85|86=>some 86|87=>some 87|88=>some 88|89=>some 89|90=>some 90|91=>some 91|92=>some 92|93=>some 93|94=>some 94|95=>some 95|_=>none
theorem oP {m:Nat} (h:AF n=some m):n=m:=by
 unfold AF at h
 split at h <;> first|exact Option.some.inj h|cases h
def Dj:List (Nat×Nat)->Option (List (Nat×Nat))
 | []=>some []
 |(x,y)::l=>match AF x with
  |some x=>match AF y with
   |some y=>match Dj l with
    |some l=>some ((x,y)::l)
    |none=>none
   |none=>none
  |none=>none
theorem Zd:∀ {l l':List (Nat×Nat)},Dj l=some l'->l=l':=by
 intro l
 induction l with
 |nil=>intro l' h;exact Option.some.inj h
 |cons x l ih=>
  intro l' h
  obtain⟨x,y⟩:=x
  simp only[Dj] at h
  split at h
  ·rename_i a ha
   split at h
   ·rename_i b hb
    split at h
    ·rename_i c hc;cases h;rw[oP ha,oP hb,ih hc]
    ·cases h
   ·cases h
  ·cases h
def oG {α:Type}:List α->Option (List α)
 | []=>some []
 |x::xs=>match oG xs with
  |some ys=>some (x::ys)
  |none=>none
theorem lQ {α:Type}:∀ {l l':List α},oG l=some l'->l=l':=by
 intro l
 induction l with
 |nil=>intro l' h;cases h;rfl
 |cons x xs ih=>
  intro l' h
  simp only[oG] at h
  split at h
  ·rename_i ys hy;cases h;rw[ih hy]
  ·cases h
def SO (P:Program) (t:TypeId) (cs:List Value) (off:Nat):Option Value:=match DC P t with
 |some true=>match P.info? t with
  |some i=>if off+i.size<=cs.length then match oG ((cs.drop off).take i.size) with
    |some vs=>some (.agg vs.toArray)
    |none=>none
   else none
  |none=>none
 |some false=>cs[off]?
 |none=>none
theorem Of {rw:Bool} (hb:H B=some (.cells cs e rw)) (h:SO P t cs off=some v):ldV P H t (.pointer (some ⟨B,off,none⟩))=some v:=by
 unfold SO at h
 simp only[ldV,hb]
 split at h
 ·rename_i hag
  simp only[hag]
  split at h
  ·rename_i i hi
   simp only[hi]
   split at h
   ·rename_i hle
    simp only[hle,if_true]
    split at h
    ·rename_i vs hvs;rw[lQ hvs];exact h
    ·cases h
   ·cases h
  ·cases h
 ·rename_i hag;simp only[hag];exact h
 ·cases h
section
variable {Q:Exit->Fr->Hp->Prop} {x y:Code}
end
section
variable {Q:Fr->Hp->Prop}
variable {x y:Operand}
theorem UQ {cs':List Value} (hx:bK a x=.pointer (some ⟨B,off,none⟩)) (hy:iV (bK a y)=some u) (hvs:oG u.cells.toList=some vs) (ht:qP P t=some n) (hn:(vs.length == n)=true)
  (nQ:(vs.all Value.oneCell')=true) (hb:H B=some (.cells cs e true)) (hle:Nat.ble (off+n) cs.length=true) (hs:oG (vB cs off vs)=some cs') (hk:k undef (hupd H B (.cells cs' e true))):
  mI P ⟨d,.store t x y,ty,pos,after,g⟩ a H k:=
 QG hx (gM hy) (lQ hvs) ht (by simpa using hn) nQ hb (by simpa using hle) (by rw[<- H6,lQ hs];exact hk)
theorem Um {zs zs':List Value} (hz:BC P t=some zs) (hc:oG zs=some zs') (hk:∀r,H r=none->k (.pointer (some ⟨r,0,none⟩)) (hupd H r (.cells zs' t true))):mI P ⟨d,.alloc t,ty,pos,after,g⟩ a H k:=
 Agx hz (by rw[lQ hc];exact hk)
theorem Acu (hx:iV (bK a x)=some v) (hvs:oG v.cells.toList=some vs) (hk:∀r,H r=none->k (.pointer (some ⟨r,0,none⟩)) (hupd H r (.cells vs t true))):mI P ⟨d,.box t x,ty,pos,after,g⟩ a H k:=
 Anh (gM hx) (lQ hvs) hk
def WJ (op:BinOp):Option Addr->Option Value
 |none=>match op with|.eql=>some (.bool true)|.neq=>some (.bool false)|_=>none
 |some _=>match op with|.eql=>some (.bool false)|.neq=>some (.bool true)|_=>none
def Am5 (P:Program) (op:BinOp) (t:TypeId):Value->Value->Option Value
 |.int k m,.int k' n=>match op with
  |.shl=>if n<0 then none else some (.int k (k.wrap (m * 2 ^ (min n.toNat k.bits))))
  |.shr=>if n<0 then none else some (.int k (m.fdiv (2 ^ (min n.toNat k.bits))))
  |.quo=>if k=k' then if n=0 then none else some (.int k (k.wrap (m.tdiv n))) else none
  |.rem=>if k=k' then if n=0 then none else some (.int k (m.tmod n)) else none
  |op=>if k=k' then iV (Ny op k m n) else none
 |.string m,.string n=>if Q0 op=true then iV (Ol op m n) else none
 |.pointer p,.pointer none=>if Jh P t=true then WJ op p else none
 |.slice p _ _,.slice none _ _=>if mJ P t=true then WJ op p else none
 |.bool b,.bool b'=>if EZ P t=true then match op with
  |.eql=>some (.bool (b == b'))
  |.neq=>some (.bool (!(b == b')))
  |_=>none else none
 |_,_=>none
def Ai8 (P:Program) (t:TypeId):Value->Option Value
 |.slice _ n _=>if mJ P t=true then some (.int .i64 n) else none
 |.string s=>if pD P t=true then some (.int .i64 s.size) else none
 |_=>none
def opV (P:Program) (o:Op) (a:Fr):Option Value:=
 match o with
 |.move x=>iV (bK a x)
 |.assign x=>iV (bK a x)
 |.pick c x y=>match bK a c with
  |.bool true=>iV (bK a x)
  |.bool false=>iV (bK a y)
  |_=>none
 |.nilCheck x=>match bK a x with
  |.pointer (some ⟨B,off,s⟩)=>some (.pointer (some ⟨B,off,s⟩))
  |.func (.func f) fs cs=>some (.func (.func f) fs cs)
  |_=>none
 |.binOp op t x y _=>Am5 P op t (bK a x) (bK a y)
 |.unOp .not _ x=>match bK a x with
  |.bool true=>some (.bool false)
  |.bool false=>some (.bool true)
  |_=>none
 |.fieldAddr t x f=>match bK a x with
  |.pointer (some ⟨B,off,none⟩)=>match xZ P t f with
   |some n=>match AF n with
    |some 0=>some (.pointer (some ⟨B,off,none⟩))
    |some n=>match AF (off+n) with
     |some m=>some (.pointer (some ⟨B,m,none⟩))
     |none=>some (.pointer (some ⟨B,off+n,none⟩))
    |none=>none
   |none=>none
  |_=>none
 |.extract x n=>match bK a x with
  |.tuple vs=>match vs.toList[n]? with
   |some v=>iV v
   |none=>none
  |_=>none
 |.makeFunc fn fs cs=>match vN a fs.toList,vN a cs.toList with
  |some l1,some l2=>some (.func fn l1.toArray l2.toArray)
  |_,_=>none
 |.call { callee:=.builtin .len,args,argTypes }=>match args.toList with
  | [x]=>match argTypes[0]? with
   |some t=>Ai8 P t (bK a x)
   |none=>none
  |_=>none
 |_=>none
theorem Z0 {op:BinOp} {x y:Operand} {w:Value} (hx:bK a x=u) (hy:bK a y=w) (h:Am5 P op t u w=some v):bZ P ⟨d,.binOp op t x y yt,ty,pos,after,g⟩ a=some v:=by
 unfold Am5 at h
 split at h
 ·rename_i k m k' n
  split at h
  ·split at h
   ·cases h
   ·rename_i hn;cases h;exact Acp hx hy hn
  ·split at h
   ·cases h
   ·rename_i hn;cases h;exact Adh hx hy hn
  ·split at h
   ·rename_i hk;subst hk
    split at h
    ·cases h
    ·rename_i hn;cases h;exact Af3 hx hy hn
   ·cases h
  ·split at h
   ·rename_i hk;subst hk
    split at h
    ·cases h
    ·rename_i hn;cases h;exact Acc hx hy hn
   ·cases h
  ·rename_i h1 h2 h3 h4
   split at h
   ·rename_i hk;subst hk
    refine DF hx hy ?_ h
    cases op <;> first|rfl|exact absurd rfl h1|exact absurd rfl h2|exact absurd rfl h3|exact absurd rfl h4
   ·cases h
 ·split at h
  ·rename_i hp;exact An5 hx hy hp h
  ·cases h
 ·rename_i p
  split at h
  ·rename_i ht
   cases p <;> cases op <;> simp only[WJ] at h <;> first|(cases h;done)|(cases h;exact UO ht hx hy rfl)|(cases h;exact TU ht hx hy rfl)
  ·cases h
 ·rename_i p _ _ _ _
  split at h
  ·rename_i ht
   cases p <;> cases op <;> simp only[WJ] at h <;> first|(cases h;done)|(cases h;exact Nq ht hx hy)|(cases h;exact N9 ht hx hy)
  ·cases h
 ·split at h
  ·rename_i ht
   cases op <;> first|(cases h;done)|(cases h;exact PK ht hx hy)|(cases h;exact QO ht hx hy)
  ·cases h
 ·cases h
theorem Sf (h:opV P o a=some v):bZ P ⟨d,o,ty,pos,after,g⟩ a=some v:=by
 unfold opV at h
 split at h
 ·exact Aj0 h
 ·exact ZH h
 ·split at h
  ·rename_i hb;exact Zp hb h
  ·rename_i hb;exact Y0 hb h
  ·cases h
 ·split at h
  ·rename_i hx;cases h;exact An6 hx
  ·rename_i hx;cases h;exact Alg hx
  ·cases h
 ·exact Z0 rfl rfl h
 ·split at h
  ·rename_i hx;cases h;exact UK hx rfl
  ·rename_i hx;cases h;exact UK hx rfl
  ·cases h
 ·split at h
  ·rename_i B off hx
   split at h
   ·rename_i n hn
    split at h
    ·rename_i h0
     cases h
     have:=oP h0
     subst this
     exact Ey hx hn
    ·rename_i n' _ hn'
     have:=oP hn'
     subst this
     split at h
     ·rename_i m hm
      cases h
      rw[<- oP hm]
      exact Ey hx hn
     ·cases h;exact Ey hx hn
    ·cases h
   ·cases h
  ·cases h
 ·split at h
  ·rename_i vs hx
   split at h
   ·rename_i u hu
    refine SQ hx ?_
    rw[<- gM h,<- hu,Array.getElem?_toList]
   ·cases h
  ·cases h
 ·split at h
  ·rename_i l1 l2 h1 h2
   cases h
   exact Qp (Cx h1) (Cx h2)
  ·cases h
 ·rename_i args argTypes
  split at h
  ·rename_i x hargs
   split at h
   ·rename_i t ht
    have key:∀q:TypeId->Bool,q t=true->(argTypes[0]?).any q=true:=fun q hq=>by rw[ht];exact hq
    unfold Ai8 at h
    split at h
    ·rename_i A n c hx
     split at h
     ·rename_i hs;cases h
      exact MI (by rw[hargs,List.map_cons,hx];rfl) (key _ hs)
     ·cases h
    ·rename_i s hx
     split at h
     ·rename_i hs;cases h
      exact Tt (by rw[hargs,List.map_cons,hx];rfl) (key _ hs)
     ·cases h
    ·cases h
   ·cases h
  ·cases h
 ·cases h
theorem XF {ts:Array TypeId} (h:(ts[0]?).any (mJ P)=true\/(ts[0]?).any (pD P)=true):FP P ts=false:=by
 unfold FP
 cases ht:ts[0]? with
 |none=>rfl
 |some t=>
  rw[ht] at h
  simp only[Option.any_some] at h
  rcases h with h|h
  ·obtain⟨e,he⟩:=oF h;simp only[he]
  ·simp only[mL h]
theorem Alw (h:Ai8 P t u=some v):mJ P t=true\/pD P t=true:=by
 unfold Ai8 at h
 split at h
 ·split at h
  ·exact .inl ‹_›
  ·cases h
 ·split at h
  ·exact .inr ‹_›
  ·cases h
 ·cases h
theorem Aaw (h:opV P o a=some v):kd P o=.pure:=by
 unfold opV at h
 split at h <;> first|rfl|(cases h;done)|skip
 split at h
 ·split at h
  ·rename_i ht
   have:=XF (P:=P) (by rw[ht];exact Alw h)
   simp only[kd,this]
  ·cases h
 ·cases h
section
variable {Q:Fr->Hp->Prop}
end
end
end Go.Sl
end
