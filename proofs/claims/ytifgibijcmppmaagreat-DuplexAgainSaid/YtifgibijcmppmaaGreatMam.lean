/- A part of the proof: lemmas; each with the conditions that it states. -/
import Derived.Test.YtifgibijcmppmaaGreatMat
import Derived.Test.YtifgibijcmppmaaGreatMax
import Derived.Test.YtifgibijcmppmaaGreatMan
set_option linter.unusedVariables false
set_option linter.unusedSimpArgs false
namespace Go.Proofs.YtifgibijcmppmaaGreat
open Go Go.Proofs Go.Sl
set_option maxRecDepth 100000
set_option maxHeartbeats 40000000
attribute [local irreducible] aM fG cV bP aN aW aA dP dX aV dO pt ro eW star sep bH
section
variable {R C:List HP} {K:Value→List HP→Prop}
section
variable {s li t r cap:Nat} {id sta ac se dr w0 sg n:Int} {own en ou b:Bool} {l:List ByteArray} {d:ByteArray}
end
section
variable {s li t r:Nat} {id sta mr room open_ ask a1 t1 d1:Int} {own ren:Bool} {rl:List ByteArray}
theorem U5 {b:Bool} (hb:(decide (sta=4) && decide (rl= []))=b) (hK:K (.bool b) (pt s [.pointer (some ⟨li,0,none⟩),.pointer (some ⟨t,0,none⟩),.pointer (some ⟨r,0,none⟩),.int .i64 id,.bool own] 258::oR li sta::uF r mr room open_ ask rl a1 t1 d1 ren::R)):aA Tryz.prog 222 #[.pointer (some ⟨s,0,none⟩)] (pt s [.pointer (some ⟨li,0,none⟩),.pointer (some ⟨t,0,none⟩),.pointer (some ⟨r,0,none⟩),.int .i64 id,.bool own] 258::oR li sta::uF r mr room open_ ask rl a1 t1 d1 ren::R) K:=by
 subst hb
 by_cases h:sta=4
 ·have hd:(sta == 4)=true:=by simpa using h
  refine aH Tryz.func222 ?_
  repeat' (first|(show cV _ _ _;rw[hd])|refine I1 ?_|refine wr ?_|refine w5 ?_ ?_|((refine bh fun h=>?_) <;> try exact w6 h)|(refine aE fun hA=>?_;subst hA)|intro _|(show aA _ 312 _ _ _;refine CA (h:=Ef ?_))|(show aA _ 90 _ _ _;refine CA (h:=uD ?_)))
  all_goals(refine aC ?_;exact aB (kb hK (by cases rl <;> simp[h] <;> omega)))
 ·have hd:(sta == 4)=false:=by simpa using h
  refine aH Tryz.func222 ?_
  repeat' (first|(show cV _ _ _;rw[hd])|refine I1 ?_|refine wr ?_|refine w5 ?_ ?_|((refine bh fun h=>?_) <;> try exact w6 h)|(refine aE fun hA=>?_;subst hA)|intro _|(show aA _ 312 _ _ _;refine CA (h:=Ef ?_))|(show aA _ 90 _ _ _;refine CA (h:=uD ?_)))
  all_goals(refine aC ?_;exact aB (kb hK (by simp[h])))
end
end
end Go.Proofs.YtifgibijcmppmaaGreat
namespace Go.Proofs.YtifgibijcmppmaaGreat
open Go Go.Proofs Go.Sl
structure XB where
 cap:Nat
 bs:List UInt8
 en:Bool
 ou:Bool
 ac:Int
 se:Int
 dr:Int
structure XI where
 cap:Nat
 st:Int
 l:List ByteArray
 w:Int
 en:Bool
 ou:Bool
 ac:Int
 se:Int
 dr:Int
inductive Xs where
 |b (x:XB)
 |i (x:XI)
structure YB where
 cap:Int
 most:Int
 gr:Int
 got:Int
 us:Int
 bs:List UInt8
 en:Bool
structure YI where
 mr:Int
 room:Int
 op:Int
 ask:Int
 l:List ByteArray
 ac:Int
 tk:Int
 dr:Int
 en:Bool
inductive Ys where
 |b (y:YB)
 |i (y:YI)
structure Sm where
 id:Int
 own:Bool
 sta:Int
 x:Xs
 y:Ys
def bB:Xs→Int
 |.b _=>1
 |.i _=>2
def FQ:Xs→ByteArray→Int
 |.b x,d=>(EO x.cap x.bs x.en d:Nat)
 |.i x,d=>if x.en=true∨256<d.size then 0 else if x.l.length<x.cap then 1 else if x.st=0 then 0 else if x.st=1∨x.cap=0 then 2 else 3
def Fq:Xs→ByteArray→Int
 |.b x,_=>if x.en=true then 11 else 0
 |.i x,d=>if x.en=true then 11 else if 256<d.size then 4 else if x.l.length<x.cap then 0 else if x.st=0 then 9 else 0
def zO:Xs→ByteArray→Xs
 |.b x,d=>.b { x with bs:=x.bs++d.data.toList.take (EO x.cap x.bs x.en d),ac:=x.ac+(EO x.cap x.bs x.en d:Nat) }
 |.i x,d=>.i (if x.en=true∨256<d.size then x else if x.l.length<x.cap then { x with l:=x.l++ [d],ac:=x.ac+1 } else if x.st=0 then x else if x.st=1∨x.cap=0 then { x with ac:=x.ac+1,dr:=x.dr+1 } else { x with l:=x.l.tail++ [d],ac:=x.ac+1,dr:=x.dr+1 })
def Ahh:Xs→Int
 |.b x=>if x.en=true then 11 else 0
 |.i x=>if x.en=true then 11 else 0
def Ja:Xs→Xs
 |.b x=>.b { x with en:=true }
 |.i x=>.i { x with en:=true }
def Nw:Xs→Int→Bool
 |.b x,n=>rdB x.bs x.en x.ou n
 |.i x,_=>Hd x.l x.w x.en x.ou
def He:Xs→Nat
 |.b x=>x.bs.length
 |.i x=>x.l.length
def Afr (x:Xs) (n:Int):Bool:=decide (0<He x) && !Nw x n
def iC:Xs→Int→ByteArray
 |.b x,n=>⟨(x.bs.take (BU x.bs n)).toArray⟩
 |.i x,_=>match x.l with
  | []=>⟨#[]⟩
  |s::_=>s
def BF:Xs→Int→Bool
 |.b x,n=>x.en && decide (x.bs.drop (BU x.bs n)= [])
 |.i x,_=>match x.l with
  | []=>true
  |_::_=>false
def xTk:Xs→Int→Xs
 |.b x,n=>.b { x with bs:=x.bs.drop (BU x.bs n),ou:=x.en && decide (x.bs.drop (BU x.bs n)= []),se:=x.se+(BU x.bs n:Nat) }
 |.i x,_=>match x.l with
  | []=>.i { x with ou:=true }
  |_::r=>.i { x with l:=r,w:=x.w - 1,ou:=false,se:=x.se+1 }
def EG:Xs→Int→Int
 |.b _,_=>13
 |.i _,n=>if 1≤n then 0 else 2
def oT:Xs→Int→Xs
 |.b x,_=>.b x
 |.i x,n=>.i (if 1≤n then { x with w:=x.w+min n (2147483647 - x.w) } else x)
def Adq:Xs→Xs
 |.b x=>.b { x with bs:= [],dr:=x.dr+x.bs.length }
 |.i x=>.i { x with l:= [],dr:=x.dr+x.l.length }
def JK:Xs→Int
 |.b x=>x.ac
 |.i x=>x.ac
def xSe:Xs→Int
 |.b x=>x.se
 |.i x=>x.se
def xDr:Xs→Int
 |.b x=>x.dr
 |.i x=>x.dr
def kG:Ys→Int
 |.b _=>1
 |.i _=>2
def LI (y:YB) (n:Int):Nat:=(max (min n y.bs.length) 0).toNat
def OF:Ys→Int
 |.b _=>0
 |.i _=>13
def BC:Ys→Int→ByteArray
 |.b y,n=>⟨(y.bs.take (LI y n)).toArray⟩
 |.i _,_=>⟨#[]⟩
def Ej:Ys→Int→Ys
 |.b y,n=>.b { y with us:=y.us+(LI y n:Nat),bs:=y.bs.drop (LI y n) }
 |.i y,_=>.i y
def WT:Ys→Int
 |.b _=>13
 |.i _=>0
def Aji:Ys→ByteArray
 |.b _=>⟨#[]⟩
 |.i y=>match y.l with
  | []=>⟨#[]⟩
  |s::_=>s
def YC:Ys→Bool
 |.b _=>false
 |.i y=>match y.l with
  | []=>false
  |_::_=>true
def Ek:Ys→Ys
 |.b y=>.b y
 |.i y=>match y.l with
  | []=>.i y
  |_::r=>.i { y with l:=r,tk:=y.tk+1 }
def T7:Ys→Int→Int
 |.b _,_=>13
 |.i _,n=>if 1≤n then 0 else 2
def FX:Ys→Int→Ys
 |.b y,_=>.b y
 |.i y,n=>.i (if 1≤n then { y with ask:=y.ask+min n (2147483647 - y.ask) } else y)
def hO:Ys→Nat
 |.b y=>y.bs.length
 |.i y=>y.l.length
def yEn:Ys→Bool
 |.b y=>y.en
 |.i y=>y.en
def Ht (y:Ys):Bool:=yEn y && decide (hO y=0)
def Iy:Ys→Int
 |.b y=>uE y.cap y.gr y.us
 |.i y=>xQ y.room y.op y.ask y.l
def yGr:Ys→Ys
 |.b y=>.b { y with gr:=y.gr+uE y.cap y.gr y.us }
 |.i y=>.i { y with op:=y.op+xQ y.room y.op y.ask y.l,ask:=y.ask - xQ y.room y.op y.ask y.l }
def C9:Ys→eE→Ys
 |.b y,s=>.b { y with cap:=s.w,most:=max y.most s.w,gr:=y.gr+(s.w - y.cap) }
 |.i y,s=>.i { y with mr:=max y.mr s.it,room:=s.it }
def Dh:Ys→Ys
 |.b y=>.b { y with us:=y.us+y.bs.length,bs:= [] }
 |.i y=>.i { y with l:= [],dr:=y.dr+y.l.length }
def yI:Ys→ByteArray→Bool→Int
 |.b y,d,_=>if y.en=true then 7 else if max (y.gr - y.got) 0<d.size then 8 else 0
 |.i y,d,e=>if y.en=true then 7 else if(d≠⟨#[]⟩∨e=false)∧y.op<1 then 10 else 0
def BZ:Ys→ByteArray→Bool→Ys
 |.b y,d,e=>.b { y with got:=y.got+d.size,bs:=y.bs++d.data.toList,en:=e }
 |.i y,d,e=>.i (if d≠⟨#[]⟩∨e=false then { y with op:=y.op - 1,l:=y.l++ [d],ac:=y.ac+1,en:=e } else { y with en:=true })
def SH (s:Sm):Bool:=decide (s.sta=1∨s.sta=3)
def XE (s:Sm):Bool:=decide (s.sta=1∨s.sta=2)
def Uv (s:Sm) (d:ByteArray):Int:=if SH s=true then FQ s.x d else 0
def UL (s:Sm) (d:ByteArray):Int:=if SH s=true then Fq s.x d else 14
def Al (s:Sm) (d:ByteArray):Sm:=if SH s=true then { s with x:=zO s.x d } else s
def T1 (s:Sm):Int:=if SH s=true then Ahh s.x else 14
def Au (s:Sm):Sm:=if SH s=true then { s with x:=Ja s.x } else s
def HC (s:Sm) (n:Int):Bool:=SH s && Nw s.x n
def CQ (s:Sm) (n:Int):Sm:=if HC s n=true then { s with sta:=Jy s.sta (BF s.x n),x:=xTk s.x n } else s
def f3 (s:Sm) (t:Int) (d:ByteArray) (e:Bool):Int:=if t≠bB s.x - 1 then 6 else if XE s=false then 7 else yI s.y d e
def fE (s:Sm) (d:ByteArray) (e:Bool):Sm:= { s with sta:=nN s.sta e,y:=BZ s.y d e }
def Ul (s:Sm):Bool:=decide (s.sta=1∨s.sta=2∨s.sta=3)
def Ju (s:Sm):Int:=if Ul s=true then(match s.y with
 |.b y=>y.bs.length
 |.i _=>0) else 0
def BH (s:Sm):Sm:=if Ul s=true then { s with sta:=4,x:=Adq s.x,y:=Dh s.y } else s
def Ii (s:Sm):Bool:=decide (s.sta=4) && decide (hO s.y=0)
def xA (s:Sm):Prop:=bB s.x=kG s.y∧(s.sta=1∨s.sta=2∨s.sta=3∨s.sta=4)
end Go.Proofs.YtifgibijcmppmaaGreat
namespace Go.Proofs.YtifgibijcmppmaaGreat
open Go Go.Proofs Go.Sl
set_option maxRecDepth 100000
set_option maxHeartbeats 40000000
attribute [local irreducible] aM fG cV bP aN aW aA dP dX aV dO pt ro eW star sep bH
section
variable {R C:List HP} {K:Value→List HP→Prop}
def AV (t:Nat):Xs→HP
 |.b x=>xV t x.cap x.bs x.en x.ou x.ac x.se x.dr
 |.i x=>pN t x.cap x.st x.l x.w x.en x.ou x.ac x.se x.dr
def CO (r:Nat):Ys→HP
 |.b y=>xX r y.cap y.most y.gr y.got y.us y.bs y.en
 |.i y=>uF r y.mr y.room y.op y.ask y.l y.ac y.tk y.dr y.en
section
variable {t r:Nat} {x:Xs} {y:Ys} {n:Int} {d:ByteArray} {e:Bool}
theorem Zw (hK:K (.agg #[.int .i64 (JK x),.int .i64 (xSe x),.int .i64 (xDr x)]) (AV t x::R)):aA Tryz.prog 87 #[.pointer (some ⟨t,0,none⟩)] (AV t x::R) K:=by
 cases x with
 |b x=>exact Sk hK
 |i x=>exact RX hK
theorem Adz (hK:K (.bool (Nw x n)) (AV t x::R)):aA Tryz.prog 274 #[.pointer (some ⟨t,0,none⟩),.int .i64 n] (AV t x::R) K:=by
 cases x with
 |b x=>exact Oi hK
 |i x=>exact PK hK
theorem Ado (hK:K (.bool (Afr x n)) (AV t x::R)):aA Tryz.prog 183 #[.pointer (some ⟨t,0,none⟩),.int .i64 n] (AV t x::R) K:=by
 cases x with
 |b x=>exact Pp hK
 |i x=>exact Nv hK
theorem OW (hK:K (.int .i64 (EG x n)) (AV t (oT x n)::R)):aA Tryz.prog 344 #[.pointer (some ⟨t,0,none⟩),.int .i64 n] (AV t x::R) K:=by
 cases x with
 |b x=>exact Sx hK
 |i x=>
  by_cases h:1≤n
  ·simp only[EG,oT,if_pos h] at hK
   exact R3 h hK
  ·simp only[EG,oT,if_neg h] at hK
   exact Nm (by omega) hK
theorem Acr (hK:K (.int .i64 (hO y:Nat)) (CO r y::R)):aA Tryz.prog 90 #[.pointer (some ⟨r,0,none⟩)] (CO r y::R) K:=by
 cases y with
 |b y=>exact tN hK
 |i y=>exact uD hK
theorem Qb (hK:K (.bool (Ht y)) (CO r y::R)):aA Tryz.prog 119 #[.pointer (some ⟨r,0,none⟩)] (CO r y::R) K:=by
 cases y with
 |b y=>
  refine S0 ?_
  rw[show(y.en && decide (y.bs= []))=Ht (.b y) by simp[Ht,yEn,hO]]
  exact hK
 |i y=>
  refine QE ?_
  rw[show(y.en && decide (y.l= []))=Ht (.i y) by simp[Ht,yEn,hO]]
  exact hK
theorem PG (hK:K (.tuple #[.string (BC y n),.int .i64 (OF y)]) (CO r (Ej y n)::R)):aA Tryz.prog 117 #[.pointer (some ⟨r,0,none⟩),.int .i64 n] (CO r y::R) K:=by
 cases y with
 |b y=>exact Si (kk:=LI y n) (by unfold LI;omega) hK
 |i y=>exact R6 hK
theorem Ov (hK:K (.tuple #[.string (Aji y),.bool (YC y),.int .i64 (WT y)]) (CO r (Ek y)::R)):aA Tryz.prog 121 #[.pointer (some ⟨r,0,none⟩)] (CO r y::R) K:=by
 cases y with
 |b y=>exact S7 hK
 |i y=>
  obtain⟨mr,room,op,ask,l,ac,tk,dr,en⟩:=y
  cases l with
  |nil=>exact O8 hK
  |cons s l=>exact QG hK
theorem Af9 (hK:K (.int .i64 (T7 y n)) (CO r (FX y n)::R)):aA Tryz.prog 296 #[.pointer (some ⟨r,0,none⟩),.int .i64 n] (CO r y::R) K:=by
 cases y with
 |b y=>exact W5 hK
 |i y=>
  by_cases h:1≤n
  ·simp only[T7,FX,if_pos h] at hK
   exact Xv h hK
  ·simp only[T7,FX,if_neg h] at hK
   exact Rz (by omega) hK
theorem KZ (hK:K (.int .i64 (Iy y)) (CO r (yGr y)::R)):aA Tryz.prog 189 #[.pointer (some ⟨r,0,none⟩)] (CO r y::R) K:=by
 cases y with
 |b y=>exact Oc hK
 |i y=>exact O0 hK
theorem Aez {s:eE} (hs:rY s.w s.st s.it=true) (hK:K (.int .i64 0) (CO r (C9 y s)::R)):aA Tryz.prog 250 #[.pointer (some ⟨r,0,none⟩),.agg #[.int .i64 s.w,.int .i64 s.st,.int .i64 s.it]] (CO r y::R) K:=by
 cases y with
 |b y=>exact M7 hs hK
 |i y=>exact Mc hs hK
theorem Af8 (hK:K (.int .i64 (hO y:Nat)) (CO r (Dh y)::R)):aA Tryz.prog 338 #[.pointer (some ⟨r,0,none⟩)] (CO r y::R) K:=by
 cases y with
 |b y=>exact Fx hK
 |i y=>exact FT hK
end
def rT (s:Nat) (m:Sm):HP:=eW fun li=>eW fun t=>eW fun r=>sep (pt s [.pointer (some ⟨li,0,none⟩),.pointer (some ⟨t,0,none⟩),.pointer (some ⟨r,0,none⟩),.int .i64 m.id,.bool m.own] 258) (sep (oR li m.sta) (sep (AV t m.x) (sep (CO r m.y) (bH (xA m)))))
section
variable {s:Nat} {m:Sm} {n:Int} {d:ByteArray} {e:Bool}
theorem R9 {f:FuncId} {args:Array Value} {A B D E:HP} {p:Prop} (h:p→aA Tryz.prog f args (A::B::D::E::R) K):aA Tryz.prog f args (sep A (sep B (sep D (sep E (bH p))))::R) K:=
 aA.ent rR (aA.pure fun hI=>h hI)
theorem cK {li t r:Nat} (h:xA m):aG (pt s [.pointer (some ⟨li,0,none⟩),.pointer (some ⟨t,0,none⟩),.pointer (some ⟨r,0,none⟩),.int .i64 m.id,.bool m.own] 258::oR li m.sta::AV t m.x::CO r m.y::R) (rT s m::R):=
 aG.ex li (aG.ex t (aG.ex r (Kt h)))
theorem lT {f:FuncId} {args:Array Value} (h:∀li t r,xA m→aA Tryz.prog f args (pt s [.pointer (some ⟨li,0,none⟩),.pointer (some ⟨t,0,none⟩),.pointer (some ⟨r,0,none⟩),.int .i64 m.id,.bool m.own] 258::oR li m.sta::AV t m.x::CO r m.y::R) K):aA Tryz.prog f args (rT s m::R) K:=
 aA.ex fun li=>aA.ex fun t=>aA.ex fun r=>R9 fun hI=>h li t r hI
end
end
section
variable {R C:List HP} {K:Value→List HP→Prop}
section
variable {t r:Nat} {x:Xs} {y:Ys} {n:Int} {d:ByteArray} {e:Bool}
theorem Aek (hb:JK x+d.size≤800000000) (hb2:JK x≤700000000) (hK:K (.tuple #[.int .i64 (FQ x d),.int .i64 (Fq x d)]) (AV t (zO x d)::R)):aA Tryz.prog 233 #[.pointer (some ⟨t,0,none⟩),.string d] (AV t x::R) K:=by
 cases x with
 |b x=>exact Xq (by simp only[JK] at hb;omega) hK
 |i x=>
  obtain⟨cap,st,l,w,en,ou,ac,se,dr⟩:=x
  simp only[JK] at hb hb2
  cases en with
  |true=>
   simp only[FQ,Fq,zO,true_or,if_true] at hK
   exact QQ rfl hK
  |false=>
   change aA Tryz.prog 233 #[.pointer (some ⟨t,0,none⟩),.string d] (pN t cap st l w false ou ac se dr::R) K
   by_cases h1:256<d.size
   ·simp only[FQ,Fq,zO,h1,or_true,if_true,Bool.false_eq_true,if_false] at hK
    exact RR rfl h1 hK
   ·by_cases h2:l.length<cap
    ·simp only[FQ,Fq,zO,h1,h2,or_self,Bool.false_eq_true,if_false,if_true] at hK
     exact R4 rfl (by omega) h2 (by omega) hK
    ·by_cases h3:st=0
     ·simp only[FQ,Fq,zO,h1,h2,h3,or_self,Bool.false_eq_true,if_false,if_true] at hK
      exact S3 rfl (by omega) (by omega) h3 (by subst h3;exact hK)
     ·by_cases h4:st=1∨cap=0
      ·simp only[FQ,Fq,zO,h1,h2,h3,h4,or_self,Bool.false_eq_true,if_false,if_true] at hK
       exact RH rfl (by omega) (by omega) h3 h4 (by omega) hK
      ·simp only[FQ,Fq,zO,h1,h2,h3,h4,or_self,Bool.false_eq_true,if_false] at hK
       cases l with
       |nil=>simp at h2;omega
       |cons s0 l=>exact Rh rfl (by omega) (by omega) h3 (fun q=>h4 (.inl q)) (fun q=>h4 (.inr q)) (by omega) hK
theorem Agi (hK:K (.int .i64 (Ahh x)) (AV t (Ja x)::R)):aA Tryz.prog 359 #[.pointer (some ⟨t,0,none⟩)] (AV t x::R) K:=by
 cases x with
 |b x=>exact Wt hK
 |i x=>exact Xu hK
theorem Ql (hr:Nw x n=true) (hK:K (.tuple #[.string (iC x n),.bool (BF x n),.bool true]) (AV t (xTk x n)::R)):aA Tryz.prog 291 #[.pointer (some ⟨t,0,none⟩),.int .i64 n] (AV t x::R) K:=by
 cases x with
 |b x=>exact R8 hr hK
 |i x=>
  obtain⟨cap,st,l,w,en,ou,ac,se,dr⟩:=x
  cases l with
  |nil=>exact PF hr hK
  |cons s l=>
   have hw:0<w:=by simpa[Nw,Hd] using hr
   exact Rm hw hK
end
section
variable {s li t r:Nat} {m:Sm} {n:Int} {d:ByteArray} {e own:Bool} {id sta:Int} {x:Xs} {y:Ys}
theorem z6 (hK:K (.bool m.own) (rT s m::R)):aA Tryz.prog 178 #[.pointer (some ⟨s,0,none⟩)] (rT s m::R) K:=by
 refine lT fun li t r h=>?_
 exact aA.entK (CA (h:=Af4 ⟨_,aG.trans (by exact aY) (cK h),hK⟩))
theorem Ln (hK:K (.int .i64 m.id) (rT s m::R)):aA Tryz.prog 224 #[.pointer (some ⟨s,0,none⟩)] (rT s m::R) K:=by
 refine lT fun li t r h=>?_
 exact aA.entK (CA (h:=Aho ⟨_,aG.trans (by exact aY) (cK h),hK⟩))
theorem qC (hK:K (.int .i64 (bB x)) (pt s [.pointer (some ⟨li,0,none⟩),.pointer (some ⟨t,0,none⟩),.pointer (some ⟨r,0,none⟩),.int .i64 id,.bool own] 258::AV t x::R)):aA Tryz.prog 107 #[.pointer (some ⟨s,0,none⟩)] (pt s [.pointer (some ⟨li,0,none⟩),.pointer (some ⟨t,0,none⟩),.pointer (some ⟨r,0,none⟩),.int .i64 id,.bool own] 258::AV t x::R) K:=by
 cases x with
 |b x=>exact Ep hK
 |i x=>exact EQ hK
theorem kJ (hK:K (.int .i64 (bB m.x)) (rT s m::R)):aA Tryz.prog 107 #[.pointer (some ⟨s,0,none⟩)] (rT s m::R) K:=by
 refine lT fun li t r h=>?_
 exact aA.entK (CA (h:=qC ⟨_,aG.trans (by exact aY) (cK h),hK⟩))
theorem Sy (hK:K (.int .i64 (bB x - 1)) (pt s [.pointer (some ⟨li,0,none⟩),.pointer (some ⟨t,0,none⟩),.pointer (some ⟨r,0,none⟩),.int .i64 id,.bool own] 258::AV t x::R)):aA Tryz.prog 293 #[.pointer (some ⟨s,0,none⟩)] (pt s [.pointer (some ⟨li,0,none⟩),.pointer (some ⟨t,0,none⟩),.pointer (some ⟨r,0,none⟩),.int .i64 id,.bool own] 258::AV t x::R) K:=by
 cases x with
 |b x=>
  refine aH Tryz.func293 ?_
  repeat' (first|refine v3 ?_|refine wr ?_|refine w5 ?_ ?_|((refine bh fun h=>?_) <;> try exact w6 h)|(refine aE fun hA=>?_;subst hA)|intro _|(show aA _ 107 _ _ _;refine CA (h:=qC (x:=.b x) ?_);simp only[bB]))
  (refine aC ?_;exact aB (hK))
 |i x=>
  refine aH Tryz.func293 ?_
  repeat' (first|refine v3 ?_|refine wr ?_|refine w5 ?_ ?_|((refine bh fun h=>?_) <;> try exact w6 h)|(refine aE fun hA=>?_;subst hA)|intro _|(show aA _ 107 _ _ _;refine CA (h:=qC (x:=.i x) ?_);simp only[bB]))
  (refine aC ?_;exact aB (hK))
theorem Yg (hb:JK m.x+d.size≤800000000) (hb2:JK m.x≤700000000) (hK:K (.tuple #[.int .i64 (Uv m d),.int .i64 (UL m d)]) (rT s (Al m d)::R)):aA Tryz.prog 138 #[.pointer (some ⟨s,0,none⟩),.string d] (rT s m::R) K:=by
 obtain⟨id,own,sta,x,y⟩:=m
 refine lT fun li t r h=>?_
 by_cases hg:sta=1∨sta=3
 ·have hg':SH ⟨id,own,sta,x,y⟩=true:=decide_eq_true hg
  simp only[Uv,UL,Al,if_pos hg'] at hK
  have hk:bB (zO x d)=bB x:=by cases x <;> rfl
  have hok:xA ⟨id,own,sta,zO x d,y⟩:=⟨hk.trans h.1,h.2⟩
  refine aH Tryz.func138 ?_
  repeat' (first|refine I2 ?_|refine wr ?_|refine w5 ?_ ?_|((refine bh fun h=>?_) <;> try exact w6 h)|(refine aE fun hA=>?_;subst hA)|intro _|(show aA _ 232 _ _ _;refine CA (h:=tC (if_pos hg) ?_))|(show aA _ 233 _ _ _;refine CA (h:=Aek hb hb2 ?_)))
  (refine aC ?_;exact aK (aG.trans (by exact aY) ((cK hok))) (hK))
 ·have hg':SH ⟨id,own,sta,x,y⟩=false:=decide_eq_false hg
  simp only[Uv,UL,Al,hg',Bool.false_eq_true,if_false] at hK
  refine aH Tryz.func138 ?_
  repeat' (first|refine I2 ?_|refine wr ?_|refine w5 ?_ ?_|((refine bh fun h=>?_) <;> try exact w6 h)|(refine aE fun hA=>?_;subst hA)|intro _|(show aA _ 232 _ _ _;refine CA (h:=tC (if_neg hg) ?_)))
  (refine aC ?_;exact aK (aG.trans (by exact aY) ((cK h))) (hK))
theorem Aad (hK:K (.int .i64 (T1 m)) (rT s (Au m)::R)):aA Tryz.prog 295 #[.pointer (some ⟨s,0,none⟩)] (rT s m::R) K:=by
 obtain⟨id,own,sta,x,y⟩:=m
 refine lT fun li t r h=>?_
 by_cases hg:sta=1∨sta=3
 ·have hg':SH ⟨id,own,sta,x,y⟩=true:=decide_eq_true hg
  simp only[T1,Au,if_pos hg'] at hK
  have hk:bB (Ja x)=bB x:=by cases x <;> rfl
  have hok:xA ⟨id,own,sta,Ja x,y⟩:=⟨hk.trans h.1,h.2⟩
  refine aH Tryz.func295 ?_
  repeat' (first|refine I2 ?_|refine wr ?_|refine w5 ?_ ?_|((refine bh fun h=>?_) <;> try exact w6 h)|(refine aE fun hA=>?_;subst hA)|intro _|(show aA _ 232 _ _ _;refine CA (h:=tC (if_pos hg) ?_))|(show aA _ 359 _ _ _;refine CA (h:=Agi ?_)))
  (refine aC ?_;exact aK (aG.trans (by exact aY) ((cK hok))) (hK))
 ·have hg':SH ⟨id,own,sta,x,y⟩=false:=decide_eq_false hg
  simp only[T1,Au,hg',Bool.false_eq_true,if_false] at hK
  refine aH Tryz.func295 ?_
  repeat' (first|refine I2 ?_|refine wr ?_|refine w5 ?_ ?_|((refine bh fun h=>?_) <;> try exact w6 h)|(refine aE fun hA=>?_;subst hA)|intro _|(show aA _ 232 _ _ _;refine CA (h:=tC (if_neg hg) ?_)))
  (refine aC ?_;exact aK (aG.trans (by exact aY) ((cK h))) (hK))
theorem J1 (hK:K (.bool (Ii m)) (rT s m::R)):aA Tryz.prog 222 #[.pointer (some ⟨s,0,none⟩)] (rT s m::R) K:=by
 obtain⟨id,own,sta,x,y⟩:=m
 refine lT fun li t r h=>?_
 cases y with
 |b y=>
  have e:(decide (sta=4) && decide (y.bs= []))=Ii ⟨id,own,sta,x,.b y⟩:=by simp[Ii,hO]
  exact aA.entK (CA (h:=Wv e ⟨_,aG.trans (by exact aY) (cK (m:=⟨id,own,sta,x,.b y⟩) h),hK⟩))
 |i y=>
  have e:(decide (sta=4) && decide (y.l= []))=Ii ⟨id,own,sta,x,.i y⟩:=by simp[Ii,hO]
  exact aA.entK (CA (h:=U5 e ⟨_,aG.trans (by exact aY) (cK (m:=⟨id,own,sta,x,.i y⟩) h),hK⟩))
theorem Qc {ev:Int} (he:ev=4∨ev=5) (hK:K (.int .i64 (Ju m)) (rT s (BH m)::R)):aA Tryz.prog 337 #[.pointer (some ⟨s,0,none⟩),.int .i64 ev] (rT s m::R) K:=by
 obtain⟨id,own,sta,x,y⟩:=m
 refine lT fun li t r h=>?_
 by_cases hg:sta=1∨sta=2∨sta=3
 ·have hg':Ul ⟨id,own,sta,x,y⟩=true:=decide_eq_true hg
  simp only[Ju,BH,if_pos hg'] at hK
  obtain⟨hk,hs⟩:=h
  cases x with
  |b x=>
   cases y with
   |b y=>exact aA.entK (CA (h:=X5 he hg ⟨_,aG.trans (by exact aY) (cK (m:=⟨id,own,4,Adq (.b x),Dh (.b y)⟩) ⟨rfl,.inr (.inr (.inr rfl))⟩),hK⟩))
   |i y=>cases hk
  |i x=>
   cases y with
   |b y=>cases hk
   |i y=>exact aA.entK (CA (h:=ZO he hg ⟨_,aG.trans (by exact aY) (cK (m:=⟨id,own,4,Adq (.i x),Dh (.i y)⟩) ⟨rfl,.inr (.inr (.inr rfl))⟩),hK⟩))
 ·have hg':Ul ⟨id,own,sta,x,y⟩=false:=decide_eq_false hg
  simp only[Ju,BH,hg',Bool.false_eq_true,if_false] at hK
  exact aA.entK (CA (h:=Acy he (by rcases h.2 with h|h|h|h <;> first|exact h|(exfalso;exact hg (by simp only at h;omega))) ⟨_,aG.trans (by exact aY) (cK (m:=⟨id,own,sta,x,y⟩) h),hK⟩))
end
end
section
variable {R C:List HP} {K:Value→List HP→Prop}
section
variable {s li t r:Nat} {m:Sm} {n:Int} {d:ByteArray} {e own:Bool} {id sta:Int} {x:Xs} {y:Ys}
def BA:List (Nat×Nat):= [(0,0),(1,1),(2,1),(3,1),(4,1),(5,1),(6,1),(7,1),(8,0),(9,1)]
theorem HL {r2 r3 r4:Nat} (hK:K (.agg #[.int .i64 (bB x - 1),.int .i64 id,.bool e,.string d,.int .i64 0,.int .i64 0,.int .i64 0,.bool false,.int .i64 0,.int .i64 0,.int .i64 0,.slice none 0 0]) (pt r2 [.pointer (some ⟨s,0,none⟩)] 134::pt r3 [.string d] 9::pt r4 [.bool e] 4::pt s [.pointer (some ⟨li,0,none⟩),.pointer (some ⟨t,0,none⟩),.pointer (some ⟨r,0,none⟩),.int .i64 id,.bool own] 258::AV t x::R)):aA Tryz.prog 292 #[.pointer (some ⟨r2,0,none⟩),.pointer (some ⟨r3,0,none⟩),.pointer (some ⟨r4,0,none⟩)] (pt r2 [.pointer (some ⟨s,0,none⟩)] 134::pt r3 [.string d] 9::pt r4 [.bool e] 4::pt s [.pointer (some ⟨li,0,none⟩),.pointer (some ⟨t,0,none⟩),.pointer (some ⟨r,0,none⟩),.int .i64 id,.bool own] 258::AV t x::R) K:=by
 refine aH Tryz.func292 ?_
 repeat' (first|refine JC ?_|refine dw BA ?_|refine wr ?_|refine w5 ?_ ?_|((refine bh fun h=>?_) <;> try exact w6 h)|(refine aE fun hA=>?_;subst hA)|intro _|(show aA _ 293 _ _ _;refine CA (h:=Sy ?_)))
 (refine aC ?_;exact aB (hK))
theorem DN:bB (xTk x n)=bB x:=by
 cases x with
 |b x=>rfl
 |i x=>
  obtain⟨cap,st,l,w,en,ou,ac,se,dr⟩:=x
  cases l <;> rfl
theorem AO (hr:HC m n=true) (hK:K (.tuple #[.agg #[.int .i64 (bB m.x - 1),.int .i64 m.id,.bool (BF m.x n),.string (iC m.x n),.int .i64 0,.int .i64 0,.int .i64 0,.bool false,.int .i64 0,.int .i64 0,.int .i64 0,.slice none 0 0],.bool true]) (rT s (CQ m n)::R)):aA Tryz.prog 193 #[.pointer (some ⟨s,0,none⟩),.int .i64 n] (rT s m::R) K:=by
 simp only[CQ,if_pos hr] at hK
 obtain⟨id,own,sta,x,y⟩:=m
 have hr':=hr
 simp only[HC,SH,Bool.and_eq_true,decide_eq_true_eq] at hr'
 obtain⟨hg,hx⟩:=hr'
 refine lT fun li t r h=>?_
 have hso:∀b,Jy sta b=1∨Jy sta b=2∨Jy sta b=3∨Jy sta b=4:=fun b=>by
  unfold Jy
  rcases hg with rfl|rfl <;> cases b <;> simp
 have hok:xA ⟨id,own,Jy sta (BF x n),xTk x n,y⟩:=⟨DN.trans h.1,hso _⟩
 have hkd:=DN (x:=x) (n:=n)
 simp only at hK
 cases he:BF x n
 ·rw[he] at hK hok
  have e0:Jy sta false=sta:=rfl
  rw[e0] at hK hok
  refine aH Tryz.func193 ?_
  repeat' (first|refine Nk ?_|refine wr ?_|refine w5 ?_ ?_|((refine bh fun h=>?_) <;> try exact w6 h)|(refine aE fun hA=>?_;subst hA)|intro _|(show aA _ 232 _ _ _;refine CA (h:=tC (if_pos hg) ?_))|(show aA _ 291 _ _ _;refine CA (h:=Ql hx ?_);rw[he])|(show aA _ 292 _ _ _;refine CA (h:=HL ?_);rw[hkd]))
  (refine aC ?_;exact aK (aG.trans (by exact aY) ((cK hok))) (hK))
 ·rw[he] at hK hok
  have hl:xC sta 2=Jy sta true:=by rcases hg with rfl|rfl <;> rfl
  have hl1:Jy sta true≠-1:=by rcases hg with rfl|rfl <;> decide
  refine aH Tryz.func193 ?_
  repeat' (first|refine Nk ?_|refine wr ?_|refine w5 ?_ ?_|((refine bh fun h=>?_) <;> try exact w6 h)|(refine aE fun hA=>?_;subst hA)|intro _|(show aA _ 232 _ _ _;refine CA (h:=tC (if_pos hg) ?_))|(show aA _ 291 _ _ _;refine CA (h:=Ql hx ?_);rw[he])|(show aA _ 237 _ _ _;refine CA (h:=kK (by omega) (by omega) hl hl1 ?_))|(show aA _ 292 _ _ _;refine CA (h:=HL ?_);rw[hkd]))
  (refine aC ?_;exact aK (aG.trans (by exact aY) ((cK hok))) (hK))
section
variable {tt st kk on w c la nn:Int} {xx:Bool} {pa:Option Addr} {pn pc:Nat}
theorem GQ (hw:f3 m tt d e≠0) (hK:K (.tuple #[.int .i64 (f3 m tt d e),.bool false]) (rT s m::R)):aA Tryz.prog 261 #[.pointer (some ⟨s,0,none⟩),.agg #[.int .i64 tt,.int .i64 st,.bool e,.string d,.int .i64 kk,.int .i64 on,.int .i64 w,.bool xx,.int .i64 c,.int .i64 la,.int .i64 nn,.slice pa pn pc]] (rT s m::R) K:=by
 obtain⟨id,own,sta,x,y⟩:=m
 refine lT fun li t r h=>?_
 refine aA.entK ?_
 cases x with
 |b x=>
  cases y with
  |i y=>cases h.1
  |b y=>
   by_cases h1:tt=0
   ·subst h1
    by_cases h2:sta=1∨sta=2
    ·have h2':XE ⟨id,own,sta,.b x,.b y⟩=true:=decide_eq_true h2
     simp only[f3,bB,h2'] at hK hw
     cases h3:y.en
     ·by_cases h4:max (y.gr - y.got) 0<d.size
      ·simp[yI,h3,h4] at hK
       exact CA (h:=SG h2 h3 h4 ⟨_,aG.trans (by exact aY) (cK (m:=⟨id,own,sta,.b x,.b y⟩) h),hK⟩)
      ·exact absurd (by simp[yI,h3,h4]) hw
     ·simp[yI,h3] at hK
      exact CA (h:=RF h2 h3 ⟨_,aG.trans (by exact aY) (cK (m:=⟨id,own,sta,.b x,.b y⟩) h),hK⟩)
    ·have h2':XE ⟨id,own,sta,.b x,.b y⟩=false:=decide_eq_false h2
     simp[f3,bB,h2'] at hK
     exact CA (h:=QS h2 ⟨_,aG.trans (by exact aY) (cK (m:=⟨id,own,sta,.b x,.b y⟩) h),hK⟩)
   ·have h1':tt≠bB (.b x) - 1:=h1
    simp only[f3,if_pos h1'] at hK
    exact CA (h:=RO h1 ⟨_,aG.trans (by exact aY) (cK (m:=⟨id,own,sta,.b x,.b y⟩) h),hK⟩)
 |i x=>
  cases y with
  |b y=>cases h.1
  |i y=>
   by_cases h1:tt=1
   ·subst h1
    by_cases h2:sta=1∨sta=2
    ·have h2':XE ⟨id,own,sta,.i x,.i y⟩=true:=decide_eq_true h2
     simp only[f3,bB,h2'] at hK hw
     cases h3:y.en
     ·by_cases h4:(d≠⟨#[]⟩∨e=false)∧y.op<1
      ·simp only[yI,h3,h4] at hK
       exact CA (h:=QL h2 h3 h4.1 h4.2 ⟨_,aG.trans (by exact aY) (cK (m:=⟨id,own,sta,.i x,.i y⟩) h),by simpa using hK⟩)
      ·exact absurd (by simp only[yI,h3,h4];simp) hw
     ·simp[yI,h3] at hK
      exact CA (h:=R0 h2 h3 ⟨_,aG.trans (by exact aY) (cK (m:=⟨id,own,sta,.i x,.i y⟩) h),hK⟩)
    ·have h2':XE ⟨id,own,sta,.i x,.i y⟩=false:=decide_eq_false h2
     simp[f3,bB,h2'] at hK
     exact CA (h:=QB h2 ⟨_,aG.trans (by exact aY) (cK (m:=⟨id,own,sta,.i x,.i y⟩) h),hK⟩)
   ·have h1':tt≠bB (.i x) - 1:=h1
    simp only[f3,if_pos h1'] at hK
    exact CA (h:=Q1 h1 ⟨_,aG.trans (by exact aY) (cK (m:=⟨id,own,sta,.i x,.i y⟩) h),hK⟩)
def Jn:Ys→Int
 |.b y=>y.got
 |.i y=>y.ac
theorem IZ (h:sta=1∨sta=2):nN sta e=1∨nN sta e=2∨nN sta e=3∨nN sta e=4:=by
 unfold nN
 rcases h with rfl|rfl <;> cases e <;> simp
theorem Bg (hw:f3 m tt d e=0) (hb:Jn m.y+d.size≤300000000) (hb2:Jn m.y≤290000000) (hK:K (.tuple #[.int .i64 0,.bool true]) (rT s (fE m d e)::R)):aA Tryz.prog 261 #[.pointer (some ⟨s,0,none⟩),.agg #[.int .i64 tt,.int .i64 st,.bool e,.string d,.int .i64 kk,.int .i64 on,.int .i64 w,.bool xx,.int .i64 c,.int .i64 la,.int .i64 nn,.slice pa pn pc]] (rT s m::R) K:=by
 obtain⟨id,own,sta,x,y⟩:=m
 refine lT fun li t r h=>?_
 refine aA.entK ?_
 cases x with
 |b x=>
  cases y with
  |i y=>cases h.1
  |b y=>
   have h1:tt=0:=by
    by_cases h1:tt=0
    ·exact h1
    ·have h1':tt≠bB (.b x) - 1:=h1
     simp only[f3,if_pos h1'] at hw
     cases hw
   subst h1
   have h2:sta=1∨sta=2:=by
    by_cases h2:sta=1∨sta=2
    ·exact h2
    ·have h2':XE ⟨id,own,sta,.b x,.b y⟩=false:=decide_eq_false h2
     simp[f3,bB,h2'] at hw
   have h2':XE ⟨id,own,sta,.b x,.b y⟩=true:=decide_eq_true h2
   have h3:y.en=false:=by
    cases h3:y.en
    ·rfl
    ·simp[f3,bB,h2',yI,h3] at hw
   have h4:¬max (y.gr - y.got) 0<d.size:=fun h4=>by
    simp[f3,bB,h2',yI,h3,h4] at hw
   exact CA (h:=VV h2 h3 (by omega) (by simp only[Jn] at hb;omega) ⟨_,aG.trans (by exact aY) (cK (m:=⟨id,own,nN sta e,.b x,BZ (.b y) d e⟩) ⟨rfl,IZ h2⟩),hK⟩)
 |i x=>
  cases y with
  |b y=>cases h.1
  |i y=>
   obtain⟨mr,room,op,ask,l,ac,tk,dr,en⟩:=y
   have h1:tt=1:=by
    by_cases h1:tt=1
    ·exact h1
    ·have h1':tt≠bB (.i x) - 1:=h1
     simp only[f3,if_pos h1'] at hw
     cases hw
   subst h1
   have h2:sta=1∨sta=2:=by
    by_cases h2:sta=1∨sta=2
    ·exact h2
    ·have h2':XE ⟨id,own,sta,.i x,.i ⟨mr,room,op,ask,l,ac,tk,dr,en⟩⟩=false:=decide_eq_false h2
     simp[f3,bB,h2'] at hw
   have h2':XE ⟨id,own,sta,.i x,.i ⟨mr,room,op,ask,l,ac,tk,dr,en⟩⟩=true:=decide_eq_true h2
   have h3:en=false:=by
    cases en
    ·rfl
    ·simp[f3,bB,h2',yI] at hw
   subst h3
   by_cases h5:d≠⟨#[]⟩∨e=false
   ·have h4:¬op<1:=fun h4=>by
     have h6:(d≠⟨#[]⟩∨e=false)∧op<1:=⟨h5,h4⟩
     simp only[f3,bB,h2',yI,h6] at hw
     simp at hw
    simp only[fE,BZ,if_pos h5] at hK
    exact CA (h:=WJ (open_:=op) (a1:=ac) h2 rfl h5 (by omega) (by simp only[Jn] at hb2;omega) ⟨_,aG.trans (by exact aY) (cK (m:=⟨id,own,nN sta e,.i x,.i ⟨mr,room,op - 1,ask,l++ [d],ac+1,tk,dr,e⟩⟩) ⟨rfl,IZ h2⟩),hK⟩)
   ·simp only[fE,BZ,if_neg h5] at hK
    have hd:d=⟨#[]⟩:=Classical.byContradiction fun q=>h5 (.inl q)
    have he:e=true:=by cases e <;> simp_all
    subst hd he
    exact CA (h:=Ry h2 rfl ⟨_,aG.trans (by exact aY) (cK (m:=⟨id,own,nN sta true,.i x,.i ⟨mr,room,op,ask,l,ac,tk,dr,true⟩⟩) ⟨rfl,IZ (e:=true) h2⟩),hK⟩)
end
end
end
end Go.Proofs.YtifgibijcmppmaaGreat
namespace Go.Proofs.YtifgibijcmppmaaGreat
open Go Go.Proofs Go.Sl
set_option maxRecDepth 100000
set_option maxHeartbeats 40000000
attribute [local irreducible] aM fG cV bP aN aW aA dP dX aV dO pt ro eW star sep bH
attribute [local irreducible] mp Ec
section
variable {R C:List HP} {K:Value→List HP→Prop}
def cB (t:Int) (l:List Sm):Nat:=(l.takeWhile fun e=>decide (e.id<t)).length
def b7 (t:Int) (l:List Sm):Option Sm:=match l[cB t l]? with
 |some e=>if e.id=t then some e else none
 |none=>none
def j0 (x:Sm) (l:List Sm):List Sm:=l.take (cB x.id l)++x::l.drop (cB x.id l)
theorem aZ {t:Int} {l:List Sm} {m:Sm} (h:b7 t l=some m):l[cB t l]?=some m∧m.id=t:=by
 unfold b7 at h
 cases hz:l[cB t l]? with
 |none=>rw[hz] at h;cases h
 |some z=>
  rw[hz] at h
  simp only at h
  split at h
  ·rename_i he;cases h;exact⟨rfl,he⟩
  ·cases h
def FY (l:List Sm):Prop:=l.length≤64∧l.Pairwise fun a b=>a.id<b.id
def Qv (e:i6×Sm):HP:=rT e.1.a e.2
def tbI (q:List (i6×Sm)) (l:List Sm):Prop:=q.map Prod.snd=l∧∀e∈q,e.1.id=e.2.id
def Hg (p:Nat) (l:List Sm):HP:=eW fun A=>eW fun c=>eW fun q:List (i6×Sm)=>sep (pt p [.int .i64 64,.slice A (q.map Prod.fst).length c] 226) (sep (bU A c 255 eV (q.map Prod.fst)) (sep (d5 Qv q) (bH (tbI q l))))
def Nh (p:Nat) (l:List Sm) (i a:Nat):HP:=eW fun A=>eW fun c=>eW fun q:List (i6×Sm)=>sep (pt p [.int .i64 64,.slice A (q.map Prod.fst).length c] 226) (sep (bU A c 255 eV (q.map Prod.fst)) (sep (d5 Qv (q.eraseIdx i)) (bH (tbI q l∧(q.map fun e=>e.1.a)[i]?=some a))))
section
variable {p a i c n:Nat} {t:Int} {l:List Sm} {m m':Sm} {A:Option Addr} {q:List (i6×Sm)}
theorem xU {ws:List i6} (h:tbI q l) (hw:ws=q.map Prod.fst) (hn:n=ws.length):aG (pt p [.int .i64 64,.slice A n c] 226::bU A c 255 eV ws::d5 Qv q::R) (Hg p l::R):=by
 subst hn hw
 exact aG.ex A (aG.ex c (aG.ex q (pY h)))
theorem rG {A B D:HP} {p:Prop}:aG (Go.Sl.sep A (Go.Sl.sep B (Go.Sl.sep D (bH p)))::R) (bH p::A::B::D::R):=
 aG.trans (aG.unsep) (aG.trans (aG.cons aG.unsep) (aG.trans (aG.cons (aG.cons aG.unsep)) (fun _ hs=>hs.perm (List.perm_middle (l₁:= [A,B,D])))))
theorem yE {f:FuncId} {args:Array Value} (h:∀A c (q:List (i6×Sm)),tbI q l→aA Tryz.prog f args (pt p [.int .i64 64,.slice A (q.map Prod.fst).length c] 226::bU A c 255 eV (q.map Prod.fst)::d5 Qv q::R) K):aA Tryz.prog f args (Hg p l::R) K:=
 aA.ex fun A=>aA.ex fun c=>aA.ex fun q=>aA.ent rG (aA.pure fun hI=>h A c q hI)
theorem CJ (h:tbI q l):(q.map Prod.fst).length=l.length:=by rw[← h.1];simp
theorem LZ (h:tbI q l) (hp:l.Pairwise fun a b=>a.id<b.id):(q.map Prod.fst).Pairwise fun a b=>a.id<b.id:=by
 rw[← h.1,List.pairwise_map] at hp
 rw[List.pairwise_map]
 exact hp.imp_of_mem fun ha hb hab=>by rw[h.2 _ ha,h.2 _ hb];exact hab
theorem Pz (h:tbI q l) (hi:l[i]?=some m):∃a,q[i]?=some (⟨m.id,a⟩,m):=by
 rw[← h.1,List.getElem?_map] at hi
 cases hq:q[i]? with
 |none=>rw[hq] at hi;cases hi
 |some e=>
  rw[hq] at hi
  obtain⟨⟨id,a⟩,m'⟩:=e
  cases hi
  have:=h.2 _ (List.mem_of_getElem? hq)
  simp only at this
  subst this
  exact⟨a,rfl⟩
theorem OP (h:tbI q l):lb t (q.map Prod.fst)=cB t l:=by
 obtain⟨h1,h2⟩:=h
 subst h1
 induction q with
 |nil=>rfl
 |cons e r ih=>
  have he:=h2 e (List.mem_cons_self ..)
  have ih:=ih fun z hz=>h2 z (List.mem_cons_of_mem _ hz)
  unfold lb cB at ih ⊢
  rw[List.map_cons,List.map_cons,List.takeWhile_cons,List.takeWhile_cons,he]
  split
  ·rw[List.length_cons,List.length_cons,ih]
  ·rfl
theorem Abf (h:tbI q l) (hm:b7 t l=some m):Vk t (q.map Prod.fst)=true:=by
 obtain⟨h1,h2⟩:=aZ hm
 obtain⟨a,ha⟩:=Pz h h1
 unfold Vk
 rw[OP h,List.getElem?_map,ha]
 exact decide_eq_true h2
theorem Uu (h:tbI q l) (hm:b7 t l=none):Vk t (q.map Prod.fst)=false:=by
 unfold Vk
 rw[OP h]
 cases hq:(q.map Prod.fst)[cB t l]? with
 |none=>rfl
 |some e=>
  rw[List.getElem?_map] at hq
  cases hz:q[cB t l]? with
  |none=>rw[hz] at hq;cases hq
  |some z=>
   rw[hz] at hq
   cases hq
   have h1:l[cB t l]?=some z.2:=by
    have e:(q.map Prod.snd)[cB t l]?=some z.2:=by rw[List.getElem?_map,hz];rfl
    rwa[h.1] at e
   have h2:=h.2 _ (List.mem_of_getElem? hz)
   unfold b7 at hm
   rw[h1] at hm
   simp only at hm
   split at hm
   ·cases hm
   ·rename_i hne
    exact decide_eq_false (by rw[h2];exact hne)
theorem O5 (h:tbI q l) (hi:q[i]?=some (⟨m.id,a⟩,m)):aG (pt p [.int .i64 64,.slice A (q.map Prod.fst).length c] 226::bU A c 255 eV (q.map Prod.fst)::d5 Qv q::R) (rT a m::Nh p l i a::R):=by
 refine aG.trans (aG.cons (aG.cons (tH (f:=Qv) hi))) ?_
 refine aG.trans (fun _ hs=>hs.perm (List.perm_middle (l₁:= [pt p [.int .i64 64,.slice A (q.map Prod.fst).length c] 226,bU A c 255 eV (q.map Prod.fst)]) (a:=Qv (⟨m.id,a⟩,m)))) ?_
 exact aG.cons (aG.ex A (aG.ex c (aG.ex q (pY ⟨h,by rw[List.getElem?_map,hi];rfl⟩))))
theorem Um (hi:l[i]?=some m) (hid:m'.id=m.id):aG (rT a m'::Nh p l i a::R) (Hg p (l.set i m')::R):=fun H hs=>by
 have hs:=bV.swap hs
 obtain⟨A,hs⟩:=hs.ex
 obtain⟨c,hs⟩:=hs.ex
 obtain⟨q,hs⟩:=hs.ex
 obtain⟨⟨hI,hA⟩,hs⟩:=(rG H hs).pure
 obtain⟨a',ha⟩:=Pz hI hi
 rw[List.getElem?_map,ha] at hA
 obtain rfl:a=a':=(Option.some.inj hA).symm
 have h1:aG (rT a m'::d5 Qv (q.eraseIdx i)::R) (d5 Qv (q.set i (⟨m.id,a⟩,m'))::R):=C6 (f:=Qv) (b':=(⟨m.id,a⟩,m')) ha
 have h2:=(hs.perm (List.Perm.cons _ (List.Perm.cons _ (List.Perm.swap _ _ _))))
 have h3:=(aG.cons (aG.cons h1)) H h2
 refine xU (q:=q.set i (⟨m.id,a⟩,m')) ⟨?_,?_⟩ ?_ rfl H h3
 ·rw[List.map_set,hI.1]
 ·intro e he
  rcases List.mem_or_eq_of_mem_set he with h|h
  ·exact hI.2 e h
  ·rw[h];exact hid.symm
 ·rw[List.map_set]
  exact(jT _ (by rw[List.getElem?_map,ha];rfl)).symm
theorem Afu (hi:l[i]?=some m):aG (rT a m::Nh p l i a::R) (Hg p l::R):=by
 have h:=Um (p:=p) (a:=a) (R:=R) (m':=m) hi rfl
 rwa[jT i hi] at h
end
end
section
variable {R C:List HP} {K:Value→List HP→Prop}
section
variable {p a i c n:Nat} {t:Int} {l:List Sm} {m m':Sm} {A:Option Addr} {q:List (i6×Sm)}
theorem x8 (hK:K (.int .i64 (l.length:Nat)) (Hg p l::R)):aA Tryz.prog 83 #[.pointer (some ⟨p,0,none⟩)] (Hg p l::R) K:=by
 refine yE fun A c q hI=>?_
 have hl:=CJ hI
 rw[← hl] at hK
 exact aA.entK (CA (h:=wT ⟨_,aG.trans (by exact aY) (xU hI rfl rfl),hK⟩))
theorem mO (hs:FY l) (hm:b7 t l=none) (hK:K (.tuple #[.pointer none,.bool false]) (Hg p l::R)):aA Tryz.prog 192 #[.pointer (some ⟨p,0,none⟩),.int .i64 t] (Hg p l::R) K:=by
 refine yE fun A c q hI=>?_
 have hl:=CJ hI
 obtain⟨h1,h2⟩:=hs
 exact aA.entK (CA (h:=WY (by omega) (LZ hI h2) (Uu hI hm) ⟨_,aG.trans (by exact aY) (xU hI rfl rfl),hK⟩))
theorem f7 (hs:FY l) (hm:b7 t l=some m) (hK:∀a,K (.tuple #[.pointer (some ⟨a,0,none⟩),.bool true]) (rT a m::Nh p l (cB t l) a::R)):aA Tryz.prog 192 #[.pointer (some ⟨p,0,none⟩),.int .i64 t] (Hg p l::R) K:=by
 refine yE fun A c q hI=>?_
 have hl:=CJ hI
 obtain⟨h1,h2⟩:=hs
 obtain⟨a,ha⟩:=Pz hI (aZ hm).1
 exact aA.entK (CA (h:=Kb (e:=⟨m.id,a⟩) (by omega) (LZ hI h2) (Abf hI hm) (by rw[OP hI,List.getElem?_map,ha];rfl) ⟨_,aG.trans (by exact aY) (O5 hI ha),hK a⟩))
theorem Em (hs:FY l) (hm:l[i]?=some m) (hK:∀a,K (.tuple #[.int .i64 m.id,.pointer (some ⟨a,0,none⟩),.bool true]) (rT a m::Nh p l i a::R)):aA Tryz.prog 85 #[.pointer (some ⟨p,0,none⟩),.int .i64 i] (Hg p l::R) K:=by
 refine yE fun A c q hI=>?_
 have hl:=CJ hI
 obtain⟨h1,h2⟩:=hs
 obtain⟨a,ha⟩:=Pz hI hm
 exact aA.entK (CA (h:=Ac7 (e:=⟨m.id,a⟩) (by omega) (by rw[List.getElem?_map,ha];rfl) ⟨_,aG.trans (by exact aY) (O5 hI ha),hK a⟩))
theorem UH (hs:FY l) (hK:∀B d,K (.slice B (l.map Sm.id).length d) (bU B d 3 nI (l.map Sm.id)::Hg p l::R)):aA Tryz.prog 91 #[.pointer (some ⟨p,0,none⟩)] (Hg p l::R) K:=by
 refine yE fun A c q hI=>?_
 have hl:=CJ hI
 have he:(q.map Prod.fst).map i6.id=l.map Sm.id:=by
  rw[← hI.1,List.map_map,List.map_map]
  exact List.map_congr_left fun e he=>hI.2 e he
 have hlen:(l.map Sm.id).length=(q.map Prod.fst).length:=by rw[hl,List.length_map]
 rw[hlen] at hK
 refine aA.entK (CA (h:=Aak (l:=q.map Prod.fst) (by have:=hs.1;omega) (fun B d=>?_)))
 rw[he]
 exact⟨_,aG.cons (aG.trans (by exact aY) (xU hI rfl rfl)),hK B d⟩
theorem Afd (hs:FY l) (hm:b7 m.id l=none) (h64:l.length<64) (hK:K (.int .i64 0) (Hg p (j0 m l)::R)):aA Tryz.prog 215 #[.pointer (some ⟨p,0,none⟩),.int .i64 m.id,.pointer (some ⟨a,0,none⟩)] (rT a m::Hg p l::R) K:=by
 refine aA.ent (fun _ h=>bV.swap h) ?_
 refine yE fun A c q hI=>?_
 have hl:=CJ hI
 obtain⟨h1,h2⟩:=hs
 have hix:=OP (t:=m.id) hI
 have hins:aG (rT a m::d5 Qv q::R) (d5 Qv (q.take (cB m.id l)++(⟨m.id,a⟩,m)::q.drop (cB m.id l))::R):=KQ (f:=Qv) (b:=(⟨m.id,a⟩,m))
 refine aA.entK (CA (h:=Zk (a:=a) (by omega) (LZ hI h2) (Uu hI hm) (by omega) (fun A' c'=>⟨_,aG.trans (by exact aY) (aG.trans (aG.cons (aG.cons hins)) (xU (q:=q.take (cB m.id l)++(⟨m.id,a⟩,m)::q.drop (cB m.id l)) ⟨?_,?_⟩ ?_ ?_)),hK⟩)))
 ·rw[List.map_append,List.map_cons,List.map_take,List.map_drop,hI.1];rfl
 ·intro e he
  rcases List.mem_append.1 he with he|he
  ·exact hI.2 e (List.mem_of_mem_take he)
  ·rcases List.mem_cons.1 he with rfl|he
   ·rfl
   ·exact hI.2 e (List.mem_of_mem_drop he)
 ·unfold X7
  rw[hix,List.map_append,List.map_cons,List.map_take,List.map_drop]
 ·unfold X7
  have:=Ug m.id (q.map Prod.fst)
  simp only[List.length_append,List.length_cons,List.length_take,List.length_drop]
  omega
theorem Aem (hs:FY l) (hm:b7 t l=some m) (hK:∀v,K v (Hg p (l.eraseIdx (cB t l))::R)):aA Tryz.prog 313 #[.pointer (some ⟨p,0,none⟩),.int .i64 t] (Hg p l::R) K:=by
 refine yE fun A c q hI=>?_
 have hl:=CJ hI
 obtain⟨h1,h2⟩:=hs
 obtain⟨a,ha⟩:=Pz hI (aZ hm).1
 have hix:=OP (t:=t) hI
 have hlt:=(List.getElem?_eq_some_iff.1 ha).1
 refine aA.entK (CA (h:=U8 (e:=⟨m.id,a⟩) (by omega) (LZ hI h2) (Abf hI hm) (by rw[hix,List.getElem?_map,ha];rfl) (fun A' c'=>⟨_,aG.trans (by exact aY) (aG.trans (aG.cons (aG.cons (aG.trans (tH (f:=Qv) ha) (aG.drop (aG.refl _))))) (xU (q:=q.eraseIdx (cB t l)) ⟨?_,?_⟩ ?_ ?_)),hK _⟩)))
 ·rw[← mG,hI.1]
 ·exact fun e he=>hI.2 e (List.mem_of_mem_eraseIdx he)
 ·rw[hix,mG]
 ·rw[List.length_eraseIdx,if_pos (by rw[hix,List.length_map];exact hlt)]
end
end
end Go.Proofs.YtifgibijcmppmaaGreat
namespace Go.Proofs.YtifgibijcmppmaaGreat
open Go Go.Proofs Go.Sl
set_option maxRecDepth 100000
set_option maxHeartbeats 40000000
attribute [local irreducible] aM fG cV bP aN aW aA dP dX aV dO pt ro eW star sep bH
section
section
variable {α:Type} {f:α→Int}
theorem ZP {t:Int}:∀ {l:List α},∀z∈l.take (l.takeWhile fun e=>decide (f e<t)).length,f z<t
 | [],z,h=>by simp at h
 |e::r,z,h=>by
  rw[List.takeWhile_cons] at h
  by_cases he:f e<t
  ·rw[if_pos (decide_eq_true he),List.length_cons,List.take_succ_cons] at h
   rcases List.mem_cons.1 h with rfl|h
   ·exact he
   ·exact ZP z h
  ·rw[if_neg (by simpa using he)] at h
   simp at h
theorem O6 {t:Int}:∀ {l:List α},l.Pairwise (fun a b=>f a<f b)→∀z∈l.drop (l.takeWhile fun e=>decide (f e<t)).length,t≤f z
 | [],_,z,h=>by simp at h
 |e::r,hp,z,h=>by
  obtain⟨h1,h2⟩:=List.pairwise_cons.1 hp
  rw[List.takeWhile_cons] at h
  by_cases he:f e<t
  ·rw[if_pos (decide_eq_true he),List.length_cons,List.drop_succ_cons] at h
   exact O6 h2 z h
  ·rw[if_neg (by simpa using he)] at h
   rcases List.mem_cons.1 (by simpa using h) with rfl|h
   ·omega
   ·have:=h1 z h;omega
theorem TG {l:List α} {x:α} (hp:l.Pairwise fun a b=>f a<f b) (hx:∀z∈l,f z≠f x):(l.take (l.takeWhile fun e=>decide (f e<f x)).length++x::l.drop (l.takeWhile fun e=>decide (f e<f x)).length).Pairwise fun a b=>f a<f b:=by
 rw[List.pairwise_append]
 refine⟨hp.sublist (List.take_sublist ..),List.pairwise_cons.2 ⟨fun b hb=>?_,hp.sublist (List.drop_sublist ..)⟩,fun a ha b hb=>?_⟩
 ·have h1:=O6 hp b hb
  have h2:=hx b (List.mem_of_mem_drop hb)
  omega
 ·have h1:=ZP a ha
  rcases List.mem_cons.1 hb with rfl|hb
  ·exact h1
  ·have h2:=O6 hp b hb
   omega
theorem Ti {l:List α} {x:α} {i:Nat} {y:α} (hp:l.Pairwise fun a b=>f a<f b) (hy:l[i]?=some y) (he:f x=f y):(l.set i x).Pairwise fun a b=>f a<f b:=by
 have hm:(l.set i x).map f=l.map f:=by
  rw[List.map_set,he]
  refine jT i ?_
  rw[List.getElem?_map,hy];rfl
 have h1:(l.map f).Pairwise (·<·):=List.pairwise_map.2 hp
 rw[← hm] at h1
 exact List.pairwise_map.1 h1
theorem Rc {l:List α} {t:Int} (hp:l.Pairwise fun a b=>f a<f b) (h:∀e,l[(l.takeWhile fun e=>decide (f e<t)).length]?=some e→f e≠t):∀z∈l,f z≠t:=fun z hz e=>by
 rw[← List.take_append_drop (l.takeWhile fun e=>decide (f e<t)).length l] at hz
 rcases List.mem_append.1 hz with hz|hz
 ·have:=ZP z hz;omega
 ·have h1:=O6 hp z hz
  cases hd:l.drop (l.takeWhile fun e=>decide (f e<t)).length with
  |nil=>rw[hd] at hz;cases hz
  |cons y r=>
   have hy:l[(l.takeWhile fun e=>decide (f e<t)).length]?=some y:=by
    rw[← List.head?_drop,hd];rfl
   rw[hd] at hz
   rcases List.mem_cons.1 hz with rfl|hz
   ·exact h z hy e
   ·have h2:=O6 hp y (by rw[hd];exact List.mem_cons_self ..)
    have h3:=hp.sublist (List.drop_sublist (l.takeWhile fun e=>decide (f e<t)).length l)
    rw[hd] at h3
    have:=(List.pairwise_cons.1 h3).1 z hz
    omega
end
section
variable {l:List Sm} {m m':Sm} {t:Int} {i:Nat}
theorem MN (h:FY l) (hm:b7 t l=none):∀z∈l,z.id≠t:=Rc (f:=Sm.id) h.2 fun e he hid=>by
 unfold b7 cB at hm
 rw[he] at hm
 simp only[hid,if_true] at hm
 cases hm
theorem Aet (h:FY l) (hm:b7 m.id l=none) (hl:l.length<64):FY (j0 m l):=by
 refine⟨?_,TG (f:=Sm.id) h.2 (MN h hm)⟩
 unfold j0
 rw[List.length_append,List.length_cons,List.length_take,List.length_drop]
 omega
theorem Wy (h:FY l):FY (l.eraseIdx i):=⟨Nat.le_trans (List.length_eraseIdx_le ..) h.1,h.2.sublist (List.eraseIdx_sublist ..)⟩
theorem Adr (h:FY l) (hm:l[i]?=some m) (he:m'.id=m.id):FY (l.set i m'):=⟨by rw[List.length_set];exact h.1,Ti (f:=Sm.id) h.2 hm he⟩
theorem TL {g:Sm→Sm} (h:FY l) (hg:∀m,(g m).id=m.id):FY (l.map g):=by
 refine⟨by rw[List.length_map];exact h.1,List.pairwise_map.2 (h.2.imp fun hab=>?_)⟩
 rw[hg,hg];exact hab
theorem AW {z:Sm} (h:z∈j0 m l):z=m∨z∈l:=by
 unfold j0 at h
 rcases List.mem_append.1 h with h|h
 ·exact .inr (List.mem_of_mem_take h)
 ·rcases List.mem_cons.1 h with h|h
  ·exact .inl h
  ·exact .inr (List.mem_of_mem_drop h)
end
def F1 (B:Int) (s:Ld):Prop:=s.l.length≤64∧(s.l.Pairwise fun a b=>a.id<b.id)∧(∀e∈s.l,(-2147483647≤e.n∧e.n≤2147483647)∧0≤e.sp∧e.sp≤B)∧(-2147483647≤s.n0∧s.n0≤2147483647)∧0≤s.sp∧s.sp≤B
section
variable {B B' t n k a b:Int} {s:Ld}
theorem F1.ok (h:F1 B s) (hB:B≤1000000000000):Se s:=by
 obtain⟨h1,h2,h3,h4,h5⟩:=h
 exact⟨h1,h2,fun e he=>by have:=h3 e he;omega,by omega,by omega⟩
theorem F1.mono (h:F1 B s) (hB:B≤B'):F1 B' s:=by
 obtain⟨h1,h2,h3,h4,h5⟩:=h
 exact⟨h1,h2,fun e he=>by have:=h3 e he;omega,h4,by omega⟩
theorem VM (h:F1 B s):F1 B (mV t s):=by
 unfold mV
 split
 ·exact⟨Nat.le_trans (List.length_eraseIdx_le ..) h.1,h.2.1.sublist (List.eraseIdx_sublist ..),fun e he=>h.2.2.1 e (List.mem_of_mem_eraseIdx he),h.2.2.2⟩
 ·exact h
theorem Ab1 (h:F1 B s):F1 B (kQ t n s):=by
 obtain⟨h1,h2,h3,h4,h5⟩:=h
 unfold kQ
 split
 ·exact⟨h1,h2,h3,h4,h5⟩
 ·rename_i hc
  have hw:lQ n=true:=by cases hq:lQ n <;> first|rfl|exact absurd (.inr (.inr (.inl hq))) hc
  unfold lQ at hw
  simp only[Bool.and_eq_true,decide_eq_true_eq] at hw
  have hno:∀z∈s.l,z.id≠t:=Rc (f:=gI.id) h2 fun e he hid=>hc (.inr (.inr (.inr (.inl (by
   unfold o9 nB
   rw[he]
   simp[hid])))))
  refine⟨?_,TG (f:=gI.id) (x:=⟨t,n,0⟩) h2 hno,fun e he=>?_,h4,h5⟩
  ·show(s.l.take _++_::s.l.drop _).length≤64
   rw[List.length_append,List.length_cons,List.length_take,List.length_drop]
   omega
  ·rcases List.mem_append.1 he with he|he
   ·exact h3 e (List.mem_of_mem_take he)
   ·rcases List.mem_cons.1 he with rfl|he
    ·exact⟨by show -2147483647≤n∧n≤2147483647;omega,Int.le_refl 0,by show(0:Int)≤B;omega⟩
    ·exact h3 e (List.mem_of_mem_drop he)
theorem qX {e:gI} (h:o9 t s.l=some e):s.l[nB t s.l]?=some e∧e.id=t:=by
 unfold o9 at h
 cases hz:s.l[nB t s.l]? with
 |none=>rw[hz] at h;cases h
 |some z=>
  rw[hz] at h
  simp only at h
  split at h
  ·rename_i he;cases h;exact⟨rfl,he⟩
  ·cases h
theorem UM (h:F1 B s) {e e':gI} (he:o9 t s.l=some e) (hi:e'.id=e.id) (hn:(-2147483647≤e'.n∧e'.n≤2147483647)∧0≤e'.sp∧e'.sp≤B) {n0 sp:Int} (h0:-2147483647≤n0∧n0≤2147483647) (hs:0≤sp∧sp≤B):F1 B { n0:=n0,sp:=sp,l:=s.l.set (nB t s.l) e' }:=by
 obtain⟨h1,h2,h3,h4,h5⟩:=h
 refine⟨by rw[List.length_set];exact h1,Ti (f:=gI.id) h2 (qX he).1 hi,fun z hz=>?_,h0,hs⟩
 rcases List.mem_or_eq_of_mem_set hz with hz|rfl
 ·exact h3 z hz
 ·exact hn
theorem Vm (h:F1 B s) (hk:k≤B' - B) (h0:B≤B'):F1 B' (lO t k s):=by
 unfold lO
 split
 ·exact h.mono h0
 ·rename_i hc
  have hc:rH t k s=0:=Classical.byContradiction hc
  cases he:o9 t s.l with
  |none=>exact h.mono h0
  |some e=>
   unfold rH bC at hc
   rw[he] at hc
   simp only[Option.isSome_some,Bool.true_eq_false,if_false] at hc
   have hm:=List.mem_of_getElem? (qX he).1
   obtain⟨h1,h2,h3,h4,h5⟩:=h
   have h6:=h3 e hm
   have hkk:0≤k∧k≤max e.n 0∧k≤max s.n0 0:=by
    split at hc
    ·cases hc
    ·split at hc
     ·cases hc
     ·omega
   exact UM (B:=B') ⟨h1,h2,fun e he=>by have:=h3 e he;omega,h4,by omega⟩ he (e':=⟨e.id,e.n - k,e.sp+k⟩) rfl (by show(_≤e.n - k∧e.n - k≤_)∧0≤e.sp+k∧e.sp+k≤B';omega) (by omega) (by omega)
theorem UK (h:-2147483647≤n∧n≤2147483647):-2147483647≤Dn n b∧Dn n b≤2147483647:=by
 unfold Dn
 split
 ·rename_i hf
  unfold Cg at hf
  simp only[Bool.and_eq_true,decide_eq_true_eq] at hf
  exact hf
 ·exact h
theorem OO (h:-2147483647≤n∧n≤2147483647):-2147483647≤lI n b∧lI n b≤2147483647:=by
 unfold lI
 split
 ·exact UK h
 ·exact h
theorem Adn (h:-2147483647≤n∧n≤2147483647):-2147483647≤z1 n a b∧z1 n a b≤2147483647:=by
 unfold z1
 split
 ·exact UK h
 ·exact h
theorem OE (h:F1 B s):F1 B (pB t b s):=by
 have h':=h
 obtain⟨h1,h2,h3,h4,h5⟩:=h'
 unfold pB
 split
 ·exact⟨h1,h2,h3,OO h4,h5⟩
 ·cases he:o9 t s.l with
  |none=>exact h
  |some e=>
   have h6:=h3 e (List.mem_of_getElem? (qX he).1)
   exact UM h he (e':=⟨e.id,lI e.n b,e.sp⟩) rfl ⟨OO h6.1,h6.2⟩ h4 h5
theorem Mg (h:F1 B s):F1 B (sG a b s):=by
 obtain⟨h1,h2,h3,h4,h5⟩:=h
 unfold sG
 split
 ·exact⟨h1,h2,h3,h4,h5⟩
 ·refine⟨by rw[List.length_map];exact h1,List.pairwise_map.2 h2,fun e he=>?_,h4,h5⟩
  obtain⟨z,hz,rfl⟩:=List.mem_map.1 he
  exact⟨Adn (h3 z hz).1,(h3 z hz).2⟩
end
end
end Go.Proofs.YtifgibijcmppmaaGreat
