/- A part of the proof: lemmas; each with the conditions that it states. -/
import Derived.Test.YtifgibijcmppmaaGreatNal
import Derived.Test.YtifgibijcmppmaaGreatNak
import Derived.Test.YtifgibijcmppmaaGreatNan
set_option linter.unusedVariables false
set_option linter.unusedSimpArgs false
namespace Go.Proofs.YtifgibijcmppmaaGreat
open Go Go.Proofs Go.Sl
set_option maxRecDepth 100000
set_option maxHeartbeats 40000000
attribute [local irreducible] aN fB cJ bO aM aY aA dM dQ aW dK pt ro fF star sep bI
section
variable {R C:List HP} {K:Value→List HP→Prop}
section
variable {s li t r cap:Nat} {id sta ac se dr w0 sg n:Int} {own en ou b:Bool} {l:List ByteArray} {d:ByteArray}
end
section
variable {s li t r:Nat} {id sta mr room open_ ask a1 t1 d1:Int} {own ren:Bool} {rl:List ByteArray}
theorem Wl {b:Bool} (hb:(decide (sta=4) && decide (rl= []))=b) (hK:K (.bool b) (pt s [.pointer (some ⟨li,0,none⟩),.pointer (some ⟨t,0,none⟩),.pointer (some ⟨r,0,none⟩),.int .i64 id,.bool own] 258::pG li sta::sX r mr room open_ ask rl a1 t1 d1 ren::R)):aA Tryz.prog 222 #[.pointer (some ⟨s,0,none⟩)] (pt s [.pointer (some ⟨li,0,none⟩),.pointer (some ⟨t,0,none⟩),.pointer (some ⟨r,0,none⟩),.int .i64 id,.bool own] 258::pG li sta::sX r mr room open_ ask rl a1 t1 d1 ren::R) K:=by
 subst hb
 by_cases h:sta=4
 ·have hd:(sta == 4)=true:=by simpa using h
  refine aH Tryz.func222 ?_
  repeat' (first|(show cJ _ _ _;rw[hd])|refine I7 ?_|refine wr ?_|refine w5 ?_ ?_|((refine bh fun h=>?_) <;> try exact w6 h)|(refine aE fun hA=>?_;subst hA)|intro _|(show aA _ 312 _ _ _;refine CA (h:=C3 ?_))|(show aA _ 90 _ _ _;refine CA (h:=uP ?_)))
  all_goals(refine aC ?_;exact aB (kb hK (by cases rl <;> simp[h] <;> omega)))
 ·have hd:(sta == 4)=false:=by simpa using h
  refine aH Tryz.func222 ?_
  repeat' (first|(show cJ _ _ _;rw[hd])|refine I7 ?_|refine wr ?_|refine w5 ?_ ?_|((refine bh fun h=>?_) <;> try exact w6 h)|(refine aE fun hA=>?_;subst hA)|intro _|(show aA _ 312 _ _ _;refine CA (h:=C3 ?_))|(show aA _ 90 _ _ _;refine CA (h:=uP ?_)))
  all_goals(refine aC ?_;exact aB (kb hK (by simp[h])))
end
end
end Go.Proofs.YtifgibijcmppmaaGreat
namespace Go.Proofs.YtifgibijcmppmaaGreat
open Go Go.Proofs Go.Sl
structure XB where
 cap:Nat
 bs:List UInt8
 en:Bool
 ou:Bool
 ac:Int
 se:Int
 dr:Int
structure XI where
 cap:Nat
 st:Int
 l:List ByteArray
 w:Int
 en:Bool
 ou:Bool
 ac:Int
 se:Int
 dr:Int
inductive Xs where
 |b (x:XB)
 |i (x:XI)
structure YB where
 cap:Int
 most:Int
 gr:Int
 got:Int
 us:Int
 bs:List UInt8
 en:Bool
structure YI where
 mr:Int
 room:Int
 op:Int
 ask:Int
 l:List ByteArray
 ac:Int
 tk:Int
 dr:Int
 en:Bool
inductive Ys where
 |b (y:YB)
 |i (y:YI)
structure Sm where
 id:Int
 own:Bool
 sta:Int
 x:Xs
 y:Ys
def bD:Xs→Int
 |.b _=>1
 |.i _=>2
def Fw:Xs→ByteArray→Int
 |.b x,d=>(EX x.cap x.bs x.en d:Nat)
 |.i x,d=>if x.en=true∨256<d.size then 0 else if x.l.length<x.cap then 1 else if x.st=0 then 0 else if x.st=1∨x.cap=0 then 2 else 3
def FK:Xs→ByteArray→Int
 |.b x,_=>if x.en=true then 11 else 0
 |.i x,d=>if x.en=true then 11 else if 256<d.size then 4 else if x.l.length<x.cap then 0 else if x.st=0 then 9 else 0
def AG:Xs→ByteArray→Xs
 |.b x,d=>.b { x with bs:=x.bs++d.data.toList.take (EX x.cap x.bs x.en d),ac:=x.ac+(EX x.cap x.bs x.en d:Nat) }
 |.i x,d=>.i (if x.en=true∨256<d.size then x else if x.l.length<x.cap then { x with l:=x.l++ [d],ac:=x.ac+1 } else if x.st=0 then x else if x.st=1∨x.cap=0 then { x with ac:=x.ac+1,dr:=x.dr+1 } else { x with l:=x.l.tail++ [d],ac:=x.ac+1,dr:=x.dr+1 })
def Ahy:Xs→Int
 |.b x=>if x.en=true then 11 else 0
 |.i x=>if x.en=true then 11 else 0
def Jj:Xs→Xs
 |.b x=>.b { x with en:=true }
 |.i x=>.i { x with en:=true }
def OR:Xs→Int→Bool
 |.b x,n=>rdB x.bs x.en x.ou n
 |.i x,_=>HI x.l x.w x.en x.ou
def Hf:Xs→Nat
 |.b x=>x.bs.length
 |.i x=>x.l.length
def Ae7 (x:Xs) (n:Int):Bool:=decide (0<Hf x) && !OR x n
def iR:Xs→Int→ByteArray
 |.b x,n=>⟨(x.bs.take (BS x.bs n)).toArray⟩
 |.i x,_=>match x.l with
  | []=>⟨#[]⟩
  |s::_=>s
def BI:Xs→Int→Bool
 |.b x,n=>x.en && decide (x.bs.drop (BS x.bs n)= [])
 |.i x,_=>match x.l with
  | []=>true
  |_::_=>false
def xTk:Xs→Int→Xs
 |.b x,n=>.b { x with bs:=x.bs.drop (BS x.bs n),ou:=x.en && decide (x.bs.drop (BS x.bs n)= []),se:=x.se+(BS x.bs n:Nat) }
 |.i x,_=>match x.l with
  | []=>.i { x with ou:=true }
  |_::r=>.i { x with l:=r,w:=x.w - 1,ou:=false,se:=x.se+1 }
def E7:Xs→Int→Int
 |.b _,_=>13
 |.i _,n=>if 1≤n then 0 else 2
def qA:Xs→Int→Xs
 |.b x,_=>.b x
 |.i x,n=>.i (if 1≤n then { x with w:=x.w+min n (2147483647 - x.w) } else x)
def Agy:Xs→Xs
 |.b x=>.b { x with bs:= [],dr:=x.dr+x.bs.length }
 |.i x=>.i { x with l:= [],dr:=x.dr+x.l.length }
def Kv:Xs→Int
 |.b x=>x.ac
 |.i x=>x.ac
def xSe:Xs→Int
 |.b x=>x.se
 |.i x=>x.se
def xDr:Xs→Int
 |.b x=>x.dr
 |.i x=>x.dr
def jI:Ys→Int
 |.b _=>1
 |.i _=>2
def Mo (y:YB) (n:Int):Nat:=(max (min n y.bs.length) 0).toNat
def NJ:Ys→Int
 |.b _=>0
 |.i _=>13
def BO:Ys→Int→ByteArray
 |.b y,n=>⟨(y.bs.take (Mo y n)).toArray⟩
 |.i _,_=>⟨#[]⟩
def Ek:Ys→Int→Ys
 |.b y,n=>.b { y with us:=y.us+(Mo y n:Nat),bs:=y.bs.drop (Mo y n) }
 |.i y,_=>.i y
def W1:Ys→Int
 |.b _=>13
 |.i _=>0
def Akf:Ys→ByteArray
 |.b _=>⟨#[]⟩
 |.i y=>match y.l with
  | []=>⟨#[]⟩
  |s::_=>s
def XS:Ys→Bool
 |.b _=>false
 |.i y=>match y.l with
  | []=>false
  |_::_=>true
def EP:Ys→Ys
 |.b y=>.b y
 |.i y=>match y.l with
  | []=>.i y
  |_::r=>.i { y with l:=r,tk:=y.tk+1 }
def T8:Ys→Int→Int
 |.b _,_=>13
 |.i _,n=>if 1≤n then 0 else 2
def F1:Ys→Int→Ys
 |.b y,_=>.b y
 |.i y,n=>.i (if 1≤n then { y with ask:=y.ask+min n (2147483647 - y.ask) } else y)
def gT:Ys→Nat
 |.b y=>y.bs.length
 |.i y=>y.l.length
def yEn:Ys→Bool
 |.b y=>y.en
 |.i y=>y.en
def I2 (y:Ys):Bool:=yEn y && decide (gT y=0)
def Oc:Ys→Int
 |.b y=>y.gr - y.us
 |.i y=>y.op
def IK:Ys→Int
 |.b y=>uZ y.cap y.gr y.us
 |.i y=>yI y.room y.op y.ask y.l
def yGr:Ys→Ys
 |.b y=>.b { y with gr:=y.gr+uZ y.cap y.gr y.us }
 |.i y=>.i { y with op:=y.op+yI y.room y.op y.ask y.l,ask:=y.ask - yI y.room y.op y.ask y.l }
def Do:Ys→eJ→Ys
 |.b y,s=>.b { y with cap:=s.w,most:=max y.most s.w,gr:=y.gr+(s.w - y.cap) }
 |.i y,s=>.i { y with mr:=max y.mr s.it,room:=s.it }
def Dl:Ys→Ys
 |.b y=>.b { y with us:=y.us+y.bs.length,bs:= [] }
 |.i y=>.i { y with l:= [],dr:=y.dr+y.l.length }
def yO:Ys→ByteArray→Bool→Int
 |.b y,d,_=>if y.en=true then 7 else if max (y.gr - y.got) 0<d.size then 8 else 0
 |.i y,d,e=>if y.en=true then 7 else if(d≠⟨#[]⟩∨e=false)∧y.op<1 then 10 else 0
def B9:Ys→ByteArray→Bool→Ys
 |.b y,d,e=>.b { y with got:=y.got+d.size,bs:=y.bs++d.data.toList,en:=e }
 |.i y,d,e=>.i (if d≠⟨#[]⟩∨e=false then { y with op:=y.op - 1,l:=y.l++ [d],ac:=y.ac+1,en:=e } else { y with en:=true })
def RN (s:Sm):Bool:=decide (s.sta=1∨s.sta=3)
def XM (s:Sm):Bool:=decide (s.sta=1∨s.sta=2)
def Tp (s:Sm) (d:ByteArray):Int:=if RN s=true then Fw s.x d else 0
def UZ (s:Sm) (d:ByteArray):Int:=if RN s=true then FK s.x d else 14
def zG (s:Sm) (d:ByteArray):Sm:=if RN s=true then { s with x:=AG s.x d } else s
def Ui (s:Sm):Int:=if RN s=true then Ahy s.x else 14
def z1 (s:Sm):Sm:=if RN s=true then { s with x:=Jj s.x } else s
def IR (s:Sm) (n:Int):Bool:=RN s && OR s.x n
def CR (s:Sm) (n:Int):Sm:=if IR s n=true then { s with sta:=Jk s.sta (BI s.x n),x:=xTk s.x n } else s
def gZ (s:Sm) (t:Int) (d:ByteArray) (e:Bool):Int:=if t≠bD s.x - 1 then 6 else if XM s=false then 7 else yO s.y d e
def fT (s:Sm) (d:ByteArray) (e:Bool):Sm:= { s with sta:=oW s.sta e,y:=B9 s.y d e }
def Ut (s:Sm):Bool:=decide (s.sta=1∨s.sta=2∨s.sta=3)
def Jw (s:Sm):Int:=if Ut s=true then(match s.y with
 |.b y=>y.bs.length
 |.i _=>0) else 0
def BK (s:Sm):Sm:=if Ut s=true then { s with sta:=4,x:=Agy s.x,y:=Dl s.y } else s
def HS (s:Sm):Bool:=decide (s.sta=4) && decide (gT s.y=0)
def wZ (s:Sm):Prop:=bD s.x=jI s.y∧(s.sta=1∨s.sta=2∨s.sta=3∨s.sta=4)
end Go.Proofs.YtifgibijcmppmaaGreat
namespace Go.Proofs.YtifgibijcmppmaaGreat
open Go Go.Proofs Go.Sl
set_option maxRecDepth 100000
set_option maxHeartbeats 40000000
attribute [local irreducible] aN fB cJ bO aM aY aA dM dQ aW dK pt ro fF star sep bI
section
variable {R C:List HP} {K:Value→List HP→Prop}
def AS (t:Nat):Xs→HP
 |.b x=>yA t x.cap x.bs x.en x.ou x.ac x.se x.dr
 |.i x=>qF t x.cap x.st x.l x.w x.en x.ou x.ac x.se x.dr
def Bn (r:Nat):Ys→HP
 |.b y=>vY r y.cap y.most y.gr y.got y.us y.bs y.en
 |.i y=>sX r y.mr y.room y.op y.ask y.l y.ac y.tk y.dr y.en
section
variable {t r:Nat} {x:Xs} {y:Ys} {n:Int} {d:ByteArray} {e:Bool}
theorem Ze (hK:K (.agg #[.int .i64 (Kv x),.int .i64 (xSe x),.int .i64 (xDr x)]) (AS t x::R)):aA Tryz.prog 87 #[.pointer (some ⟨t,0,none⟩)] (AS t x::R) K:=by
 cases x with
 |b x=>exact Sd hK
 |i x=>exact RL hK
theorem Afi (hK:K (.bool (OR x n)) (AS t x::R)):aA Tryz.prog 274 #[.pointer (some ⟨t,0,none⟩),.int .i64 n] (AS t x::R) K:=by
 cases x with
 |b x=>exact Oa hK
 |i x=>exact Oq hK
theorem Ag8 (hK:K (.bool (Ae7 x n)) (AS t x::R)):aA Tryz.prog 183 #[.pointer (some ⟨t,0,none⟩),.int .i64 n] (AS t x::R) K:=by
 cases x with
 |b x=>exact NG hK
 |i x=>exact OF hK
theorem OS (hK:K (.int .i64 (E7 x n)) (AS t (qA x n)::R)):aA Tryz.prog 344 #[.pointer (some ⟨t,0,none⟩),.int .i64 n] (AS t x::R) K:=by
 cases x with
 |b x=>exact SO hK
 |i x=>
  by_cases h:1≤n
  ·simp only[E7,qA,if_pos h] at hK
   exact SG h hK
  ·simp only[E7,qA,if_neg h] at hK
   exact PT (by omega) hK
theorem HJ (hK:K (.int .i64 (gT y:Nat)) (Bn r y::R)):aA Tryz.prog 90 #[.pointer (some ⟨r,0,none⟩)] (Bn r y::R) K:=by
 cases y with
 |b y=>exact u0 hK
 |i y=>exact uP hK
theorem YY (hK:K (.int .i64 (jI y)) (Bn r y::R)):aA Tryz.prog 105 #[.pointer (some ⟨r,0,none⟩)] (Bn r y::R) K:=by
 cases y with
 |b y=>exact SN hK
 |i y=>exact Se hK
theorem Abi (hK:K (.int .i64 (Oc y)) (Bn r y::R)):aA Tryz.prog 106 #[.pointer (some ⟨r,0,none⟩)] (Bn r y::R) K:=by
 cases y with
 |b y=>exact RJ hK
 |i y=>exact Rm hK
theorem Oo (hK:K (.bool (I2 y)) (Bn r y::R)):aA Tryz.prog 119 #[.pointer (some ⟨r,0,none⟩)] (Bn r y::R) K:=by
 cases y with
 |b y=>
  refine S8 ?_
  rw[show(y.en && decide (y.bs= []))=I2 (.b y) by simp[I2,yEn,gT]]
  exact hK
 |i y=>
  refine Q9 ?_
  rw[show(y.en && decide (y.l= []))=I2 (.i y) by simp[I2,yEn,gT]]
  exact hK
theorem Pi (hK:K (.tuple #[.string (BO y n),.int .i64 (NJ y)]) (Bn r (Ek y n)::R)):aA Tryz.prog 117 #[.pointer (some ⟨r,0,none⟩),.int .i64 n] (Bn r y::R) K:=by
 cases y with
 |b y=>exact QV (kk:=Mo y n) (by unfold Mo;omega) hK
 |i y=>exact SV hK
theorem NZ (hK:K (.tuple #[.string (Akf y),.bool (XS y),.int .i64 (W1 y)]) (Bn r (EP y)::R)):aA Tryz.prog 121 #[.pointer (some ⟨r,0,none⟩)] (Bn r y::R) K:=by
 cases y with
 |b y=>exact Q7 hK
 |i y=>
  obtain⟨mr,room,op,ask,l,ac,tk,dr,en⟩:=y
  cases l with
  |nil=>exact Px hK
  |cons s l=>exact RX hK
theorem Afb (hK:K (.int .i64 (T8 y n)) (Bn r (F1 y n)::R)):aA Tryz.prog 296 #[.pointer (some ⟨r,0,none⟩),.int .i64 n] (Bn r y::R) K:=by
 cases y with
 |b y=>exact Wb hK
 |i y=>
  by_cases h:1≤n
  ·simp only[T8,F1,if_pos h] at hK
   exact Xh h hK
  ·simp only[T8,F1,if_neg h] at hK
   exact R4 (by omega) hK
theorem JZ (hK:K (.int .i64 (IK y)) (Bn r (yGr y)::R)):aA Tryz.prog 189 #[.pointer (some ⟨r,0,none⟩)] (Bn r y::R) K:=by
 cases y with
 |b y=>exact PV hK
 |i y=>exact NE hK
theorem Agf {s:eJ} (hs:sW s.w s.st s.it=true) (hK:K (.int .i64 0) (Bn r (Do y s)::R)):aA Tryz.prog 250 #[.pointer (some ⟨r,0,none⟩),.agg #[.int .i64 s.w,.int .i64 s.st,.int .i64 s.it]] (Bn r y::R) K:=by
 cases y with
 |b y=>exact MP hs hK
 |i y=>exact L3 hs hK
theorem Aet (hK:K (.int .i64 (gT y:Nat)) (Bn r (Dl y)::R)):aA Tryz.prog 338 #[.pointer (some ⟨r,0,none⟩)] (Bn r y::R) K:=by
 cases y with
 |b y=>exact FW hK
 |i y=>exact FD hK
end
def rR (s:Nat) (m:Sm):HP:=fF fun li=>fF fun t=>fF fun r=>sep (pt s [.pointer (some ⟨li,0,none⟩),.pointer (some ⟨t,0,none⟩),.pointer (some ⟨r,0,none⟩),.int .i64 m.id,.bool m.own] 258) (sep (pG li m.sta) (sep (AS t m.x) (sep (Bn r m.y) (bI (wZ m)))))
section
variable {s:Nat} {m:Sm} {n:Int} {d:ByteArray} {e:Bool}
theorem Te {f:FuncId} {args:Array Value} {A B D E:HP} {p:Prop} (h:p→aA Tryz.prog f args (A::B::D::E::R) K):aA Tryz.prog f args (sep A (sep B (sep D (sep E (bI p))))::R) K:=
 aA.ent sA (aA.pure fun hI=>h hI)
theorem cO {li t r:Nat} (h:wZ m):aG (pt s [.pointer (some ⟨li,0,none⟩),.pointer (some ⟨t,0,none⟩),.pointer (some ⟨r,0,none⟩),.int .i64 m.id,.bool m.own] 258::pG li m.sta::AS t m.x::Bn r m.y::R) (rR s m::R):=
 aG.ex li (aG.ex t (aG.ex r (Kt h)))
theorem mT {f:FuncId} {args:Array Value} (h:∀li t r,wZ m→aA Tryz.prog f args (pt s [.pointer (some ⟨li,0,none⟩),.pointer (some ⟨t,0,none⟩),.pointer (some ⟨r,0,none⟩),.int .i64 m.id,.bool m.own] 258::pG li m.sta::AS t m.x::Bn r m.y::R) K):aA Tryz.prog f args (rR s m::R) K:=
 aA.ex fun li=>aA.ex fun t=>aA.ex fun r=>Te fun hI=>h li t r hI
end
end
section
variable {R C:List HP} {K:Value→List HP→Prop}
section
variable {t r:Nat} {x:Xs} {y:Ys} {n:Int} {d:ByteArray} {e:Bool}
theorem Agg (hb:Kv x+d.size≤800000000) (hb2:Kv x≤700000000) (hK:K (.tuple #[.int .i64 (Fw x d),.int .i64 (FK x d)]) (AS t (AG x d)::R)):aA Tryz.prog 233 #[.pointer (some ⟨t,0,none⟩),.string d] (AS t x::R) K:=by
 cases x with
 |b x=>exact VF (by simp only[Kv] at hb;omega) hK
 |i x=>
  obtain⟨cap,st,l,w,en,ou,ac,se,dr⟩:=x
  simp only[Kv] at hb hb2
  cases en with
  |true=>
   simp only[Fw,FK,AG,true_or,if_true] at hK
   exact Q4 rfl hK
  |false=>
   change aA Tryz.prog 233 #[.pointer (some ⟨t,0,none⟩),.string d] (qF t cap st l w false ou ac se dr::R) K
   by_cases h1:256<d.size
   ·simp only[Fw,FK,AG,h1,or_true,if_true,Bool.false_eq_true,if_false] at hK
    exact RP rfl h1 hK
   ·by_cases h2:l.length<cap
    ·simp only[Fw,FK,AG,h1,h2,or_self,Bool.false_eq_true,if_false,if_true] at hK
     exact R6 rfl (by omega) h2 (by omega) hK
    ·by_cases h3:st=0
     ·simp only[Fw,FK,AG,h1,h2,h3,or_self,Bool.false_eq_true,if_false,if_true] at hK
      exact Rc rfl (by omega) (by omega) h3 (by subst h3;exact hK)
     ·by_cases h4:st=1∨cap=0
      ·simp only[Fw,FK,AG,h1,h2,h3,h4,or_self,Bool.false_eq_true,if_false,if_true] at hK
       exact Q3 rfl (by omega) (by omega) h3 h4 (by omega) hK
      ·simp only[Fw,FK,AG,h1,h2,h3,h4,or_self,Bool.false_eq_true,if_false] at hK
       cases l with
       |nil=>simp at h2;omega
       |cons s0 l=>exact QP rfl (by omega) (by omega) h3 (fun q=>h4 (.inl q)) (fun q=>h4 (.inr q)) (by omega) hK
theorem Age (hK:K (.int .i64 (Ahy x)) (AS t (Jj x)::R)):aA Tryz.prog 359 #[.pointer (some ⟨t,0,none⟩)] (AS t x::R) K:=by
 cases x with
 |b x=>exact VZ hK
 |i x=>exact Xb hK
theorem Pn (hr:OR x n=true) (hK:K (.tuple #[.string (iR x n),.bool (BI x n),.bool true]) (AS t (xTk x n)::R)):aA Tryz.prog 291 #[.pointer (some ⟨t,0,none⟩),.int .i64 n] (AS t x::R) K:=by
 cases x with
 |b x=>exact RV hr hK
 |i x=>
  obtain⟨cap,st,l,w,en,ou,ac,se,dr⟩:=x
  cases l with
  |nil=>exact PM hr hK
  |cons s l=>
   have hw:0<w:=by simpa[OR,HI] using hr
   exact Sq hw hK
end
section
variable {s li t r:Nat} {m:Sm} {n:Int} {d:ByteArray} {e own:Bool} {id sta:Int} {x:Xs} {y:Ys}
theorem zH (hK:K (.bool m.own) (rR s m::R)):aA Tryz.prog 178 #[.pointer (some ⟨s,0,none⟩)] (rR s m::R) K:=by
 refine mT fun li t r h=>?_
 exact aA.entK (CA (h:=Aee ⟨_,aG.trans (by exact bA) (cO h),hK⟩))
theorem Ln (hK:K (.int .i64 m.id) (rR s m::R)):aA Tryz.prog 224 #[.pointer (some ⟨s,0,none⟩)] (rR s m::R) K:=by
 refine mT fun li t r h=>?_
 exact aA.entK (CA (h:=Aj2 ⟨_,aG.trans (by exact bA) (cO h),hK⟩))
theorem qU (hK:K (.int .i64 (bD x)) (pt s [.pointer (some ⟨li,0,none⟩),.pointer (some ⟨t,0,none⟩),.pointer (some ⟨r,0,none⟩),.int .i64 id,.bool own] 258::AS t x::R)):aA Tryz.prog 107 #[.pointer (some ⟨s,0,none⟩)] (pt s [.pointer (some ⟨li,0,none⟩),.pointer (some ⟨t,0,none⟩),.pointer (some ⟨r,0,none⟩),.int .i64 id,.bool own] 258::AS t x::R) K:=by
 cases x with
 |b x=>exact Ff hK
 |i x=>exact EW hK
theorem jF (hK:K (.int .i64 (bD m.x)) (rR s m::R)):aA Tryz.prog 107 #[.pointer (some ⟨s,0,none⟩)] (rR s m::R) K:=by
 refine mT fun li t r h=>?_
 exact aA.entK (CA (h:=qU ⟨_,aG.trans (by exact bA) (cO h),hK⟩))
theorem RF (hK:K (.int .i64 (bD x - 1)) (pt s [.pointer (some ⟨li,0,none⟩),.pointer (some ⟨t,0,none⟩),.pointer (some ⟨r,0,none⟩),.int .i64 id,.bool own] 258::AS t x::R)):aA Tryz.prog 293 #[.pointer (some ⟨s,0,none⟩)] (pt s [.pointer (some ⟨li,0,none⟩),.pointer (some ⟨t,0,none⟩),.pointer (some ⟨r,0,none⟩),.int .i64 id,.bool own] 258::AS t x::R) K:=by
 cases x with
 |b x=>
  refine aH Tryz.func293 ?_
  repeat' (first|refine v3 ?_|refine wr ?_|refine w5 ?_ ?_|((refine bh fun h=>?_) <;> try exact w6 h)|(refine aE fun hA=>?_;subst hA)|intro _|(show aA _ 107 _ _ _;refine CA (h:=qU (x:=.b x) ?_);simp only[bD]))
  (refine aC ?_;exact aB (hK))
 |i x=>
  refine aH Tryz.func293 ?_
  repeat' (first|refine v3 ?_|refine wr ?_|refine w5 ?_ ?_|((refine bh fun h=>?_) <;> try exact w6 h)|(refine aE fun hA=>?_;subst hA)|intro _|(show aA _ 107 _ _ _;refine CA (h:=qU (x:=.i x) ?_);simp only[bD]))
  (refine aC ?_;exact aB (hK))
theorem Aca (hb:Kv m.x+d.size≤800000000) (hb2:Kv m.x≤700000000) (hK:K (.tuple #[.int .i64 (Tp m d),.int .i64 (UZ m d)]) (rR s (zG m d)::R)):aA Tryz.prog 138 #[.pointer (some ⟨s,0,none⟩),.string d] (rR s m::R) K:=by
 obtain⟨id,own,sta,x,y⟩:=m
 refine mT fun li t r h=>?_
 by_cases hg:sta=1∨sta=3
 ·have hg':RN ⟨id,own,sta,x,y⟩=true:=decide_eq_true hg
  simp only[Tp,UZ,zG,if_pos hg'] at hK
  have hk:bD (AG x d)=bD x:=by cases x <;> rfl
  have hok:wZ ⟨id,own,sta,AG x d,y⟩:=⟨hk.trans h.1,h.2⟩
  refine aH Tryz.func138 ?_
  repeat' (first|refine I6 ?_|refine wr ?_|refine w5 ?_ ?_|((refine bh fun h=>?_) <;> try exact w6 h)|(refine aE fun hA=>?_;subst hA)|intro _|(show aA _ 232 _ _ _;refine CA (h:=tZ (if_pos hg) ?_))|(show aA _ 233 _ _ _;refine CA (h:=Agg hb hb2 ?_)))
  (refine aC ?_;exact aL (aG.trans (by exact bA) ((cO hok))) (hK))
 ·have hg':RN ⟨id,own,sta,x,y⟩=false:=decide_eq_false hg
  simp only[Tp,UZ,zG,hg',Bool.false_eq_true,if_false] at hK
  refine aH Tryz.func138 ?_
  repeat' (first|refine I6 ?_|refine wr ?_|refine w5 ?_ ?_|((refine bh fun h=>?_) <;> try exact w6 h)|(refine aE fun hA=>?_;subst hA)|intro _|(show aA _ 232 _ _ _;refine CA (h:=tZ (if_neg hg) ?_)))
  (refine aC ?_;exact aL (aG.trans (by exact bA) ((cO h))) (hK))
theorem Acw (hK:K (.int .i64 (Ui m)) (rR s (z1 m)::R)):aA Tryz.prog 295 #[.pointer (some ⟨s,0,none⟩)] (rR s m::R) K:=by
 obtain⟨id,own,sta,x,y⟩:=m
 refine mT fun li t r h=>?_
 by_cases hg:sta=1∨sta=3
 ·have hg':RN ⟨id,own,sta,x,y⟩=true:=decide_eq_true hg
  simp only[Ui,z1,if_pos hg'] at hK
  have hk:bD (Jj x)=bD x:=by cases x <;> rfl
  have hok:wZ ⟨id,own,sta,Jj x,y⟩:=⟨hk.trans h.1,h.2⟩
  refine aH Tryz.func295 ?_
  repeat' (first|refine I6 ?_|refine wr ?_|refine w5 ?_ ?_|((refine bh fun h=>?_) <;> try exact w6 h)|(refine aE fun hA=>?_;subst hA)|intro _|(show aA _ 232 _ _ _;refine CA (h:=tZ (if_pos hg) ?_))|(show aA _ 359 _ _ _;refine CA (h:=Age ?_)))
  (refine aC ?_;exact aL (aG.trans (by exact bA) ((cO hok))) (hK))
 ·have hg':RN ⟨id,own,sta,x,y⟩=false:=decide_eq_false hg
  simp only[Ui,z1,hg',Bool.false_eq_true,if_false] at hK
  refine aH Tryz.func295 ?_
  repeat' (first|refine I6 ?_|refine wr ?_|refine w5 ?_ ?_|((refine bh fun h=>?_) <;> try exact w6 h)|(refine aE fun hA=>?_;subst hA)|intro _|(show aA _ 232 _ _ _;refine CA (h:=tZ (if_neg hg) ?_)))
  (refine aC ?_;exact aL (aG.trans (by exact bA) ((cO h))) (hK))
theorem KV (hK:K (.bool (HS m)) (rR s m::R)):aA Tryz.prog 222 #[.pointer (some ⟨s,0,none⟩)] (rR s m::R) K:=by
 obtain⟨id,own,sta,x,y⟩:=m
 refine mT fun li t r h=>?_
 cases y with
 |b y=>
  have e:(decide (sta=4) && decide (y.bs= []))=HS ⟨id,own,sta,x,.b y⟩:=by simp[HS,gT]
  exact aA.entK (CA (h:=WV e ⟨_,aG.trans (by exact bA) (cO (m:=⟨id,own,sta,x,.b y⟩) h),hK⟩))
 |i y=>
  have e:(decide (sta=4) && decide (y.l= []))=HS ⟨id,own,sta,x,.i y⟩:=by simp[HS,gT]
  exact aA.entK (CA (h:=Wl e ⟨_,aG.trans (by exact bA) (cO (m:=⟨id,own,sta,x,.i y⟩) h),hK⟩))
theorem Of {ev:Int} (he:ev=4∨ev=5) (hK:K (.int .i64 (Jw m)) (rR s (BK m)::R)):aA Tryz.prog 337 #[.pointer (some ⟨s,0,none⟩),.int .i64 ev] (rR s m::R) K:=by
 obtain⟨id,own,sta,x,y⟩:=m
 refine mT fun li t r h=>?_
 by_cases hg:sta=1∨sta=2∨sta=3
 ·have hg':Ut ⟨id,own,sta,x,y⟩=true:=decide_eq_true hg
  simp only[Jw,BK,if_pos hg'] at hK
  obtain⟨hk,hs⟩:=h
  cases x with
  |b x=>
   cases y with
   |b y=>exact aA.entK (CA (h:=Ach he hg ⟨_,aG.trans (by exact bA) (cO (m:=⟨id,own,4,Agy (.b x),Dl (.b y)⟩) ⟨rfl,.inr (.inr (.inr rfl))⟩),hK⟩))
   |i y=>cases hk
  |i x=>
   cases y with
   |b y=>cases hk
   |i y=>exact aA.entK (CA (h:=Z1 he hg ⟨_,aG.trans (by exact bA) (cO (m:=⟨id,own,4,Agy (.i x),Dl (.i y)⟩) ⟨rfl,.inr (.inr (.inr rfl))⟩),hK⟩))
 ·have hg':Ut ⟨id,own,sta,x,y⟩=false:=decide_eq_false hg
  simp only[Jw,BK,hg',Bool.false_eq_true,if_false] at hK
  exact aA.entK (CA (h:=Abl he (by rcases h.2 with h|h|h|h <;> first|exact h|(exfalso;exact hg (by simp only at h;omega))) ⟨_,aG.trans (by exact bA) (cO (m:=⟨id,own,sta,x,y⟩) h),hK⟩))
end
end
section
variable {R C:List HP} {K:Value→List HP→Prop}
section
variable {s li t r:Nat} {m:Sm} {n:Int} {d:ByteArray} {e own:Bool} {id sta:Int} {x:Xs} {y:Ys}
def BJ:List (Nat×Nat):= [(0,0),(1,1),(2,1),(3,1),(4,1),(5,1),(6,1),(7,1),(8,0),(9,1)]
theorem Ie {r2 r3 r4:Nat} (hK:K (.agg #[.int .i64 (bD x - 1),.int .i64 id,.bool e,.string d,.int .i64 0,.int .i64 0,.int .i64 0,.bool false,.int .i64 0,.int .i64 0,.int .i64 0,.slice none 0 0]) (pt r2 [.pointer (some ⟨s,0,none⟩)] 134::pt r3 [.string d] 9::pt r4 [.bool e] 4::pt s [.pointer (some ⟨li,0,none⟩),.pointer (some ⟨t,0,none⟩),.pointer (some ⟨r,0,none⟩),.int .i64 id,.bool own] 258::AS t x::R)):aA Tryz.prog 292 #[.pointer (some ⟨r2,0,none⟩),.pointer (some ⟨r3,0,none⟩),.pointer (some ⟨r4,0,none⟩)] (pt r2 [.pointer (some ⟨s,0,none⟩)] 134::pt r3 [.string d] 9::pt r4 [.bool e] 4::pt s [.pointer (some ⟨li,0,none⟩),.pointer (some ⟨t,0,none⟩),.pointer (some ⟨r,0,none⟩),.int .i64 id,.bool own] 258::AS t x::R) K:=by
 refine aH Tryz.func292 ?_
 repeat' (first|refine Mn ?_|refine dw BJ ?_|refine wr ?_|refine w5 ?_ ?_|((refine bh fun h=>?_) <;> try exact w6 h)|(refine aE fun hA=>?_;subst hA)|intro _|(show aA _ 293 _ _ _;refine CA (h:=RF ?_)))
 (refine aC ?_;exact aB (hK))
theorem CU:bD (xTk x n)=bD x:=by
 cases x with
 |b x=>rfl
 |i x=>
  obtain⟨cap,st,l,w,en,ou,ac,se,dr⟩:=x
  cases l <;> rfl
theorem AM (hr:IR m n=true) (hK:K (.tuple #[.agg #[.int .i64 (bD m.x - 1),.int .i64 m.id,.bool (BI m.x n),.string (iR m.x n),.int .i64 0,.int .i64 0,.int .i64 0,.bool false,.int .i64 0,.int .i64 0,.int .i64 0,.slice none 0 0],.bool true]) (rR s (CR m n)::R)):aA Tryz.prog 193 #[.pointer (some ⟨s,0,none⟩),.int .i64 n] (rR s m::R) K:=by
 simp only[CR,if_pos hr] at hK
 obtain⟨id,own,sta,x,y⟩:=m
 have hr':=hr
 simp only[IR,RN,Bool.and_eq_true,decide_eq_true_eq] at hr'
 obtain⟨hg,hx⟩:=hr'
 refine mT fun li t r h=>?_
 have hso:∀b,Jk sta b=1∨Jk sta b=2∨Jk sta b=3∨Jk sta b=4:=fun b=>by
  unfold Jk
  rcases hg with rfl|rfl <;> cases b <;> simp
 have hok:wZ ⟨id,own,Jk sta (BI x n),xTk x n,y⟩:=⟨CU.trans h.1,hso _⟩
 have hkd:=CU (x:=x) (n:=n)
 simp only at hK
 cases he:BI x n
 ·rw[he] at hK hok
  have e0:Jk sta false=sta:=rfl
  rw[e0] at hK hok
  refine aH Tryz.func193 ?_
  repeat' (first|refine v96 ?_|refine wr ?_|refine w5 ?_ ?_|((refine bh fun h=>?_) <;> try exact w6 h)|(refine aE fun hA=>?_;subst hA)|intro _|(show aA _ 232 _ _ _;refine CA (h:=tZ (if_pos hg) ?_))|(show aA _ 291 _ _ _;refine CA (h:=Pn hx ?_);rw[he])|(show aA _ 292 _ _ _;refine CA (h:=Ie ?_);rw[hkd]))
  (refine aC ?_;exact aL (aG.trans (by exact bA) ((cO hok))) (hK))
 ·rw[he] at hK hok
  have hl:xB sta 2=Jk sta true:=by rcases hg with rfl|rfl <;> rfl
  have hl1:Jk sta true≠-1:=by rcases hg with rfl|rfl <;> decide
  refine aH Tryz.func193 ?_
  repeat' (first|refine v96 ?_|refine wr ?_|refine w5 ?_ ?_|((refine bh fun h=>?_) <;> try exact w6 h)|(refine aE fun hA=>?_;subst hA)|intro _|(show aA _ 232 _ _ _;refine CA (h:=tZ (if_pos hg) ?_))|(show aA _ 291 _ _ _;refine CA (h:=Pn hx ?_);rw[he])|(show aA _ 237 _ _ _;refine CA (h:=lI (by omega) (by omega) hl hl1 ?_))|(show aA _ 292 _ _ _;refine CA (h:=Ie ?_);rw[hkd]))
  (refine aC ?_;exact aL (aG.trans (by exact bA) ((cO hok))) (hK))
section
variable {tt st kk on w c la nn:Int} {xx:Bool} {pa:Option Addr} {pn pc:Nat}
theorem He (hw:gZ m tt d e≠0) (hK:K (.tuple #[.int .i64 (gZ m tt d e),.bool false]) (rR s m::R)):aA Tryz.prog 261 #[.pointer (some ⟨s,0,none⟩),.agg #[.int .i64 tt,.int .i64 st,.bool e,.string d,.int .i64 kk,.int .i64 on,.int .i64 w,.bool xx,.int .i64 c,.int .i64 la,.int .i64 nn,.slice pa pn pc]] (rR s m::R) K:=by
 obtain⟨id,own,sta,x,y⟩:=m
 refine mT fun li t r h=>?_
 refine aA.entK ?_
 cases x with
 |b x=>
  cases y with
  |i y=>cases h.1
  |b y=>
   by_cases h1:tt=0
   ·subst h1
    by_cases h2:sta=1∨sta=2
    ·have h2':XM ⟨id,own,sta,.b x,.b y⟩=true:=decide_eq_true h2
     simp only[gZ,bD,h2'] at hK hw
     cases h3:y.en
     ·by_cases h4:max (y.gr - y.got) 0<d.size
      ·simp[yO,h3,h4] at hK
       exact CA (h:=Rt h2 h3 h4 ⟨_,aG.trans (by exact bA) (cO (m:=⟨id,own,sta,.b x,.b y⟩) h),hK⟩)
      ·exact absurd (by simp[yO,h3,h4]) hw
     ·simp[yO,h3] at hK
      exact CA (h:=Tc h2 h3 ⟨_,aG.trans (by exact bA) (cO (m:=⟨id,own,sta,.b x,.b y⟩) h),hK⟩)
    ·have h2':XM ⟨id,own,sta,.b x,.b y⟩=false:=decide_eq_false h2
     simp[gZ,bD,h2'] at hK
     exact CA (h:=Rq h2 ⟨_,aG.trans (by exact bA) (cO (m:=⟨id,own,sta,.b x,.b y⟩) h),hK⟩)
   ·have h1':tt≠bD (.b x) - 1:=h1
    simp only[gZ,if_pos h1'] at hK
    exact CA (h:=SD h1 ⟨_,aG.trans (by exact bA) (cO (m:=⟨id,own,sta,.b x,.b y⟩) h),hK⟩)
 |i x=>
  cases y with
  |b y=>cases h.1
  |i y=>
   by_cases h1:tt=1
   ·subst h1
    by_cases h2:sta=1∨sta=2
    ·have h2':XM ⟨id,own,sta,.i x,.i y⟩=true:=decide_eq_true h2
     simp only[gZ,bD,h2'] at hK hw
     cases h3:y.en
     ·by_cases h4:(d≠⟨#[]⟩∨e=false)∧y.op<1
      ·simp only[yO,h3,h4] at hK
       exact CA (h:=Su h2 h3 h4.1 h4.2 ⟨_,aG.trans (by exact bA) (cO (m:=⟨id,own,sta,.i x,.i y⟩) h),by simpa using hK⟩)
      ·exact absurd (by simp only[yO,h3,h4];simp) hw
     ·simp[yO,h3] at hK
      exact CA (h:=QH h2 h3 ⟨_,aG.trans (by exact bA) (cO (m:=⟨id,own,sta,.i x,.i y⟩) h),hK⟩)
    ·have h2':XM ⟨id,own,sta,.i x,.i y⟩=false:=decide_eq_false h2
     simp[gZ,bD,h2'] at hK
     exact CA (h:=R9 h2 ⟨_,aG.trans (by exact bA) (cO (m:=⟨id,own,sta,.i x,.i y⟩) h),hK⟩)
   ·have h1':tt≠bD (.i x) - 1:=h1
    simp only[gZ,if_pos h1'] at hK
    exact CA (h:=Sj h1 ⟨_,aG.trans (by exact bA) (cO (m:=⟨id,own,sta,.i x,.i y⟩) h),hK⟩)
def Jr:Ys→Int
 |.b y=>y.got
 |.i y=>y.ac
theorem IW (h:sta=1∨sta=2):oW sta e=1∨oW sta e=2∨oW sta e=3∨oW sta e=4:=by
 unfold oW
 rcases h with rfl|rfl <;> cases e <;> simp
theorem Ba (hw:gZ m tt d e=0) (hb:Jr m.y+d.size≤300000000) (hb2:Jr m.y≤290000000) (hK:K (.tuple #[.int .i64 0,.bool true]) (rR s (fT m d e)::R)):aA Tryz.prog 261 #[.pointer (some ⟨s,0,none⟩),.agg #[.int .i64 tt,.int .i64 st,.bool e,.string d,.int .i64 kk,.int .i64 on,.int .i64 w,.bool xx,.int .i64 c,.int .i64 la,.int .i64 nn,.slice pa pn pc]] (rR s m::R) K:=by
 obtain⟨id,own,sta,x,y⟩:=m
 refine mT fun li t r h=>?_
 refine aA.entK ?_
 cases x with
 |b x=>
  cases y with
  |i y=>cases h.1
  |b y=>
   have h1:tt=0:=by
    by_cases h1:tt=0
    ·exact h1
    ·have h1':tt≠bD (.b x) - 1:=h1
     simp only[gZ,if_pos h1'] at hw
     cases hw
   subst h1
   have h2:sta=1∨sta=2:=by
    by_cases h2:sta=1∨sta=2
    ·exact h2
    ·have h2':XM ⟨id,own,sta,.b x,.b y⟩=false:=decide_eq_false h2
     simp[gZ,bD,h2'] at hw
   have h2':XM ⟨id,own,sta,.b x,.b y⟩=true:=decide_eq_true h2
   have h3:y.en=false:=by
    cases h3:y.en
    ·rfl
    ·simp[gZ,bD,h2',yO,h3] at hw
   have h4:¬max (y.gr - y.got) 0<d.size:=fun h4=>by
    simp[gZ,bD,h2',yO,h3,h4] at hw
   exact CA (h:=WU h2 h3 (by omega) (by simp only[Jr] at hb;omega) ⟨_,aG.trans (by exact bA) (cO (m:=⟨id,own,oW sta e,.b x,B9 (.b y) d e⟩) ⟨rfl,IW h2⟩),hK⟩)
 |i x=>
  cases y with
  |b y=>cases h.1
  |i y=>
   obtain⟨mr,room,op,ask,l,ac,tk,dr,en⟩:=y
   have h1:tt=1:=by
    by_cases h1:tt=1
    ·exact h1
    ·have h1':tt≠bD (.i x) - 1:=h1
     simp only[gZ,if_pos h1'] at hw
     cases hw
   subst h1
   have h2:sta=1∨sta=2:=by
    by_cases h2:sta=1∨sta=2
    ·exact h2
    ·have h2':XM ⟨id,own,sta,.i x,.i ⟨mr,room,op,ask,l,ac,tk,dr,en⟩⟩=false:=decide_eq_false h2
     simp[gZ,bD,h2'] at hw
   have h2':XM ⟨id,own,sta,.i x,.i ⟨mr,room,op,ask,l,ac,tk,dr,en⟩⟩=true:=decide_eq_true h2
   have h3:en=false:=by
    cases en
    ·rfl
    ·simp[gZ,bD,h2',yO] at hw
   subst h3
   by_cases h5:d≠⟨#[]⟩∨e=false
   ·have h4:¬op<1:=fun h4=>by
     have h6:(d≠⟨#[]⟩∨e=false)∧op<1:=⟨h5,h4⟩
     simp only[gZ,bD,h2',yO,h6] at hw
     simp at hw
    simp only[fT,B9,if_pos h5] at hK
    exact CA (h:=Vz (open_:=op) (a1:=ac) h2 rfl h5 (by omega) (by simp only[Jr] at hb2;omega) ⟨_,aG.trans (by exact bA) (cO (m:=⟨id,own,oW sta e,.i x,.i ⟨mr,room,op - 1,ask,l++ [d],ac+1,tk,dr,e⟩⟩) ⟨rfl,IW h2⟩),hK⟩)
   ·simp only[fT,B9,if_neg h5] at hK
    have hd:d=⟨#[]⟩:=Classical.byContradiction fun q=>h5 (.inl q)
    have he:e=true:=by cases e <;> simp_all
    subst hd he
    exact CA (h:=S3 h2 rfl ⟨_,aG.trans (by exact bA) (cO (m:=⟨id,own,oW sta true,.i x,.i ⟨mr,room,op,ask,l,ac,tk,dr,true⟩⟩) ⟨rfl,IW (e:=true) h2⟩),hK⟩)
end
end
end
end Go.Proofs.YtifgibijcmppmaaGreat
