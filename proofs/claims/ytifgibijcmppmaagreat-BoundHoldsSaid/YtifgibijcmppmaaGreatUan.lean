/- A part of the proof: lemmas; each with the conditions that it states. -/
import Derived.Test.YtifgibijcmppmaaGreatUam
import Derived.Test.YtifgibijcmppmaaGreatUal
import Derived.Test.YtifgibijcmppmaaGreatUao
set_option linter.unusedVariables false
set_option linter.unusedSimpArgs false
set_option maxRecDepth 100000
set_option maxHeartbeats 40000000
namespace Go.Proofs.YtifgibijcmppmaaGreat
open Go Go.Proofs Go.Sl
attribute [local irreducible] aN fN cX bP aM aX aA dS dV aT dU pt ro eV star sep bH
section
variable {R C:List HP} {K:KP}
section
variable {s li t r cap:Nat} {id sta ac se dr w0 sg n:Int} {own en ou b:Bool} {l:List ByteArray} {d:ByteArray}
end
section
variable {s li t r:Nat} {id sta mr room open_ ask a1 t1 d1:Int} {own ren:Bool} {rl:List ByteArray}
theorem Wc {b:Bool} (hb:(decide (sta=4) && decide (rl= []))=b) (hK:K (.bool b) (pt s [PO li,PO t,PO r,I6 id,.bool own] 258::o6 li sta::uC r mr room open_ ask rl a1 t1 d1 ren::R)):CT 222 #[PO s] (pt s [PO li,PO t,PO r,I6 id,.bool own] 258::o6 li sta::uC r mr room open_ ask rl a1 t1 d1 ren::R) K:=by
 subst hb
 by_cases h:sta=4
 ·have hd:(sta == 4)=true:=by simpa using h
  refine aH Tryz.func222 ?_
  repeat' (first|(show cX _ _ _;rw[hd])|refine Jm ?_|refine w5 ?_ ?_|((refine bh fun h=>?_) <;> try exact w6 h)|(refine aE fun hA=>?_;subst hA)|intro _|(show aA _ 312 _ _ _;refine CA (h:=DZ ?_))|(show aA _ 90 _ _ _;refine CA (h:=uU ?_)))
  all_goals(refine aC ?_;exact aB (kb hK (by cases rl <;> simp[h] <;> omega)))
 ·have hd:(sta == 4)=false:=by simpa using h
  refine aH Tryz.func222 ?_
  repeat' (first|(show cX _ _ _;rw[hd])|refine Jm ?_|refine w5 ?_ ?_|((refine bh fun h=>?_) <;> try exact w6 h)|(refine aE fun hA=>?_;subst hA)|intro _|(show aA _ 312 _ _ _;refine CA (h:=DZ ?_))|(show aA _ 90 _ _ _;refine CA (h:=uU ?_)))
  all_goals(refine aC ?_;exact aB (kb hK (by simp[h])))
end
end
end Go.Proofs.YtifgibijcmppmaaGreat
namespace Go.Proofs.YtifgibijcmppmaaGreat
open Go Go.Proofs Go.Sl
structure XB where
 cap:Nat
 bs:List UInt8
 en:Bool
 ou:Bool
 ac:Int
 se:Int
 dr:Int
structure XI where
 cap:Nat
 st:Int
 l:List ByteArray
 w:Int
 en:Bool
 ou:Bool
 ac:Int
 se:Int
 dr:Int
inductive Xs where
 |b (x:XB)
 |i (x:XI)
structure YB where
 cap:Int
 most:Int
 gr:Int
 got:Int
 us:Int
 bs:List UInt8
 en:Bool
structure YI where
 mr:Int
 room:Int
 op:Int
 ask:Int
 l:List ByteArray
 ac:Int
 tk:Int
 dr:Int
 en:Bool
inductive Ys where
 |b (y:YB)
 |i (y:YI)
structure Sm where
 id:Int
 own:Bool
 sta:Int
 x:Xs
 y:Ys
def bB:Xs→Int
 |.b _=>1
 |.i _=>2
def F0:Xs→ByteArray→Int
 |.b x,d=>(Fb x.cap x.bs x.en d:Nat)
 |.i x,d=>if x.en=true∨256<d.size then 0 else if x.l.length<x.cap then 1 else if x.st=0 then 0 else if x.st=1∨x.cap=0 then 2 else 3
def FZ:Xs→ByteArray→Int
 |.b x,_=>if x.en=true then 11 else 0
 |.i x,d=>if x.en=true then 11 else if 256<d.size then 4 else if x.l.length<x.cap then 0 else if x.st=0 then 9 else 0
def Aj:Xs→ByteArray→Xs
 |.b x,d=>.b { x with bs:=x.bs++d.data.toList.take (Fb x.cap x.bs x.en d),ac:=x.ac+(Fb x.cap x.bs x.en d:Nat) }
 |.i x,d=>.i (if x.en=true∨256<d.size then x else if x.l.length<x.cap then { x with l:=x.l++ [d],ac:=x.ac+1 } else if x.st=0 then x else if x.st=1∨x.cap=0 then { x with ac:=x.ac+1,dr:=x.dr+1 } else { x with l:=x.l.tail++ [d],ac:=x.ac+1,dr:=x.dr+1 })
def Aiw:Xs→Int
 |.b x=>if x.en=true then 11 else 0
 |.i x=>if x.en=true then 11 else 0
def JJ:Xs→Xs
 |.b x=>.b { x with en:=true }
 |.i x=>.i { x with en:=true }
def Qh:Xs→Int→Bool
 |.b x,n=>rdB x.bs x.en x.ou n
 |.i x,_=>IU x.l x.w x.en x.ou
def qK:Xs→Nat
 |.b x=>x.bs.length
 |.i x=>x.l.length
def Agv (x:Xs) (n:Int):Bool:=decide (0<qK x) && !Qh x n
def iL:Xs→Int→ByteArray
 |.b x,n=>⟨(x.bs.take (Cj x.bs n)).toArray⟩
 |.i x,_=>match x.l with
  | []=>⟨#[]⟩
  |s::_=>s
def BY:Xs→Int→Bool
 |.b x,n=>x.en && decide (x.bs.drop (Cj x.bs n)= [])
 |.i x,_=>match x.l with
  | []=>true
  |_::_=>false
def xTk:Xs→Int→Xs
 |.b x,n=>.b { x with bs:=x.bs.drop (Cj x.bs n),ou:=x.en && decide (x.bs.drop (Cj x.bs n)= []),se:=x.se+(Cj x.bs n:Nat) }
 |.i x,_=>match x.l with
  | []=>.i { x with ou:=true }
  |_::r=>.i { x with l:=r,w:=x.w - 1,ou:=false,se:=x.se+1 }
def Ft:Xs→Int→Int
 |.b _,_=>13
 |.i _,n=>if 1≤n then 0 else 2
def pR:Xs→Int→Xs
 |.b x,_=>.b x
 |.i x,n=>.i (if 1≤n then { x with w:=x.w+min n (2147483647 - x.w) } else x)
def Aie:Xs→Xs
 |.b x=>.b { x with bs:= [],dr:=x.dr+x.bs.length }
 |.i x=>.i { x with l:= [],dr:=x.dr+x.l.length }
def KL:Xs→Int
 |.b x=>x.ac
 |.i x=>x.ac
def xSe:Xs→Int
 |.b x=>x.se
 |.i x=>x.se
def xDr:Xs→Int
 |.b x=>x.dr
 |.i x=>x.dr
def kV:Ys→Int
 |.b _=>1
 |.i _=>2
def Ny (y:YB) (n:Int):Nat:=(max (min n y.bs.length) 0).toNat
def Ox:Ys→Int
 |.b _=>0
 |.i _=>13
def BZ:Ys→Int→ByteArray
 |.b y,n=>⟨(y.bs.take (Ny y n)).toArray⟩
 |.i _,_=>⟨#[]⟩
def EE:Ys→Int→Ys
 |.b y,n=>.b { y with us:=y.us+(Ny y n:Nat),bs:=y.bs.drop (Ny y n) }
 |.i y,_=>.i y
def VL:Ys→Int
 |.b _=>13
 |.i _=>0
def Aiz:Ys→ByteArray
 |.b _=>⟨#[]⟩
 |.i y=>match y.l with
  | []=>⟨#[]⟩
  |s::_=>s
def Adi:Ys→Bool
 |.b _=>false
 |.i y=>match y.l with
  | []=>false
  |_::_=>true
def Fw:Ys→Ys
 |.b y=>.b y
 |.i y=>match y.l with
  | []=>.i y
  |_::r=>.i { y with l:=r,tk:=y.tk+1 }
def US:Ys→Int→Int
 |.b _,_=>13
 |.i _,n=>if 1≤n then 0 else 2
def Gq:Ys→Int→Ys
 |.b y,_=>.b y
 |.i y,n=>.i (if 1≤n then { y with ask:=y.ask+min n (2147483647 - y.ask) } else y)
def gF:Ys→Nat
 |.b y=>y.bs.length
 |.i y=>y.l.length
def yEn:Ys→Bool
 |.b y=>y.en
 |.i y=>y.en
def Ip (y:Ys):Bool:=yEn y && decide (gF y=0)
def HS:Ys→Int
 |.b y=>tQ y.cap y.gr y.us
 |.i y=>yI y.room y.op y.ask y.l
def yGr:Ys→Ys
 |.b y=>.b { y with gr:=y.gr+tQ y.cap y.gr y.us }
 |.i y=>.i { y with op:=y.op+yI y.room y.op y.ask y.l,ask:=y.ask - yI y.room y.op y.ask y.l }
def DV:Ys→eJ→Ys
 |.b y,s=>.b { y with cap:=s.w,most:=max y.most s.w,gr:=y.gr+(s.w - y.cap) }
 |.i y,s=>.i { y with mr:=max y.mr s.it,room:=s.it }
def Ew:Ys→Ys
 |.b y=>.b { y with us:=y.us+y.bs.length,bs:= [] }
 |.i y=>.i { y with l:= [],dr:=y.dr+y.l.length }
def y5:Ys→ByteArray→Bool→Int
 |.b y,d,_=>if y.en=true then 7 else if max (y.gr - y.got) 0<d.size then 8 else 0
 |.i y,d,e=>if y.en=true then 7 else if(d≠⟨#[]⟩∨e=false)∧y.op<1 then 10 else 0
def Cr:Ys→ByteArray→Bool→Ys
 |.b y,d,e=>.b { y with got:=y.got+d.size,bs:=y.bs++d.data.toList,en:=e }
 |.i y,d,e=>.i (if d≠⟨#[]⟩∨e=false then { y with op:=y.op - 1,l:=y.l++ [d],ac:=y.ac+1,en:=e } else { y with en:=true })
def SQ (s:Sm):Bool:=decide (s.sta=1∨s.sta=3)
def Yu (s:Sm):Bool:=decide (s.sta=1∨s.sta=2)
def UX (s:Sm) (d:ByteArray):Int:=if SQ s=true then F0 s.x d else 0
def Vh (s:Sm) (d:ByteArray):Int:=if SQ s=true then FZ s.x d else 14
def Az (s:Sm) (d:ByteArray):Sm:=if SQ s=true then { s with x:=Aj s.x d } else s
def UJ (s:Sm):Int:=if SQ s=true then Aiw s.x else 14
def AO (s:Sm):Sm:=if SQ s=true then { s with x:=JJ s.x } else s
def Hb (s:Sm) (n:Int):Bool:=SQ s && Qh s.x n
def C9 (s:Sm) (n:Int):Sm:=if Hb s n=true then { s with sta:=JN s.sta (BY s.x n),x:=xTk s.x n } else s
def gI (s:Sm) (t:Int) (d:ByteArray) (e:Bool):Int:=if t≠bB s.x - 1 then 6 else if Yu s=false then 7 else y5 s.y d e
def fM (s:Sm) (d:ByteArray) (e:Bool):Sm:= { s with sta:=oB s.sta e,y:=Cr s.y d e }
def Un (s:Sm):Bool:=decide (s.sta=1∨s.sta=2∨s.sta=3)
def Jv (s:Sm):Int:=if Un s=true then(match s.y with
 |.b y=>y.bs.length
 |.i _=>0) else 0
def BS (s:Sm):Sm:=if Un s=true then { s with sta:=4,x:=Aie s.x,y:=Ew s.y } else s
def Is (s:Sm):Bool:=decide (s.sta=4) && decide (gF s.y=0)
def wX (s:Sm):Prop:=bB s.x=kV s.y∧(s.sta=1∨s.sta=2∨s.sta=3∨s.sta=4)
end Go.Proofs.YtifgibijcmppmaaGreat
namespace Go.Proofs.YtifgibijcmppmaaGreat
open Go Go.Proofs Go.Sl
attribute [local irreducible] aN fN cX bP aM aX aA dS dV aT dU pt ro eV star sep bH
section
variable {R C:List HP} {K:KP}
def BH (t:Nat):Xs→HP
 |.b x=>yN t x.cap x.bs x.en x.ou x.ac x.se x.dr
 |.i x=>pY t x.cap x.st x.l x.w x.en x.ou x.ac x.se x.dr
def Dc (r:Nat):Ys→HP
 |.b y=>yF r y.cap y.most y.gr y.got y.us y.bs y.en
 |.i y=>uC r y.mr y.room y.op y.ask y.l y.ac y.tk y.dr y.en
section
variable {t r:Nat} {x:Xs} {y:Ys} {n:Int} {d:ByteArray} {e:Bool}
theorem Aa (hK:K (.agg #[I6 (KL x),I6 (xSe x),I6 (xDr x)]) (BH t x::R)):CT 87 #[PO t] (BH t x::R) K:=by
 cases x with
 |b x=>exact Rp hK
 |i x=>exact Tk hK
theorem Agl (hK:K (.bool (Qh x n)) (BH t x::R)):CT 274 #[PO t,I6 n] (BH t x::R) K:=by
 cases x with
 |b x=>exact OG hK
 |i x=>exact OB hK
theorem Agm (hK:K (.bool (Agv x n)) (BH t x::R)):CT 183 #[PO t,I6 n] (BH t x::R) K:=by
 cases x with
 |b x=>exact Qi hK
 |i x=>exact P2 hK
theorem N6 (hK:K (I6 (Ft x n)) (BH t (pR x n)::R)):CT 344 #[PO t,I6 n] (BH t x::R) K:=by
 cases x with
 |b x=>exact TD hK
 |i x=>
  by_cases h:1≤n
  ·simp only[Ft,pR,if_pos h] at hK
   exact TQ h hK
  ·simp only[Ft,pR,if_neg h] at hK
   exact Qv (by omega) hK
theorem ZK (hK:K (I6 (gF y:Nat)) (Dc r y::R)):CT 90 #[PO r] (Dc r y::R) K:=by
 cases y with
 |b y=>exact uE hK
 |i y=>exact uU hK
theorem On (hK:K (.bool (Ip y)) (Dc r y::R)):CT 119 #[PO r] (Dc r y::R) K:=by
 cases y with
 |b y=>
  refine RV ?_
  rw[show(y.en && decide (y.bs= []))=Ip (.b y) by simp[Ip,yEn,gF]]
  exact hK
 |i y=>
  refine TE ?_
  rw[show(y.en && decide (y.l= []))=Ip (.i y) by simp[Ip,yEn,gF]]
  exact hK
theorem Q0 (hK:K (.tuple #[.string (BZ y n),I6 (Ox y)]) (Dc r (EE y n)::R)):CT 117 #[PO r,I6 n] (Dc r y::R) K:=by
 cases y with
 |b y=>exact RE (kk:=Ny y n) (by unfold Ny;omega) hK
 |i y=>exact Tt hK
theorem Pu (hK:K (.tuple #[.string (Aiz y),.bool (Adi y),I6 (VL y)]) (Dc r (Fw y)::R)):CT 121 #[PO r] (Dc r y::R) K:=by
 cases y with
 |b y=>exact Sf hK
 |i y=>
  obtain⟨mr,room,op,ask,l,ac,tk,dr,en⟩:=y
  cases l with
  |nil=>exact Qb hK
  |cons s l=>exact Rl hK
theorem Ahz (hK:K (I6 (US y n)) (Dc r (Gq y n)::R)):CT 296 #[PO r,I6 n] (Dc r y::R) K:=by
 cases y with
 |b y=>exact Yi hK
 |i y=>
  by_cases h:1≤n
  ·simp only[US,Gq,if_pos h] at hK
   exact X1 h hK
  ·simp only[US,Gq,if_neg h] at hK
   exact SR (by omega) hK
theorem KZ (hK:K (I6 (HS y)) (Dc r (yGr y)::R)):CT 189 #[PO r] (Dc r y::R) K:=by
 cases y with
 |b y=>exact QP hK
 |i y=>exact OI hK
theorem Ag0 {s:eJ} (hs:rY s.w s.st s.it=true) (hK:K (I6 0) (Dc r (DV y s)::R)):CT 250 #[PO r,.agg #[I6 s.w,I6 s.st,I6 s.it]] (Dc r y::R) K:=by
 cases y with
 |b y=>exact Ng hs hK
 |i y=>exact L5 hs hK
theorem Af9 (hK:K (I6 (gF y:Nat)) (Dc r (Ew y)::R)):CT 338 #[PO r] (Dc r y::R) K:=by
 cases y with
 |b y=>exact F3 hK
 |i y=>exact FX hK
end
def mS (s:Nat) (m:Sm):HP:=eV fun li=>eV fun t=>eV fun r=>sep (pt s [PO li,PO t,PO r,I6 m.id,.bool m.own] 258) (sep (o6 li m.sta) (sep (BH t m.x) (sep (Dc r m.y) (bH (wX m)))))
section
variable {s:Nat} {m:Sm} {n:Int} {d:ByteArray} {e:Bool}
theorem SG {f:FuncId} {args:Array Value} {A B D E:HP} {p:Prop} (h:p→CT f args (A::B::D::E::R) K):CT f args (sep A (sep B (sep D (sep E (bH p))))::R) K:=
 aA.ent rX (aA.pure fun hI=>h hI)
theorem cN {li t r:Nat} (h:wX m):aG (pt s [PO li,PO t,PO r,I6 m.id,.bool m.own] 258::o6 li m.sta::BH t m.x::Dc r m.y::R) (mS s m::R):=
 aG.ex li (aG.ex t (aG.ex r (Ly h)))
theorem mH {f:FuncId} {args:Array Value} (h:∀li t r,wX m→CT f args (pt s [PO li,PO t,PO r,I6 m.id,.bool m.own] 258::o6 li m.sta::BH t m.x::Dc r m.y::R) K):CT f args (mS s m::R) K:=
 aA.ex fun li=>aA.ex fun t=>aA.ex fun r=>SG fun hI=>h li t r hI
end
end
section
variable {R C:List HP} {K:KP}
section
variable {t r:Nat} {x:Xs} {y:Ys} {n:Int} {d:ByteArray} {e:Bool}
theorem Aeh (hb:KL x+d.size≤800000000) (hb2:KL x≤700000000) (hK:K (.tuple #[I6 (F0 x d),I6 (FZ x d)]) (BH t (Aj x d)::R)):CT 233 #[PO t,.string d] (BH t x::R) K:=by
 cases x with
 |b x=>exact W9 (by simp only[KL] at hb;omega) hK
 |i x=>
  obtain⟨cap,st,l,w,en,ou,ac,se,dr⟩:=x
  simp only[KL] at hb hb2
  cases en with
  |true=>
   simp only[F0,FZ,Aj,true_or,if_true] at hK
   exact Tm rfl hK
  |false=>
   change CT 233 #[PO t,.string d] (pY t cap st l w false ou ac se dr::R) K
   by_cases h1:256<d.size
   ·simp only[F0,FZ,Aj,h1,or_true,if_true,Bool.false_eq_true,if_false] at hK
    exact TN rfl h1 hK
   ·by_cases h2:l.length<cap
    ·simp only[F0,FZ,Aj,h1,h2,or_self,Bool.false_eq_true,if_false,if_true] at hK
     exact RD rfl (by omega) h2 (by omega) hK
    ·by_cases h3:st=0
     ·simp only[F0,FZ,Aj,h1,h2,h3,or_self,Bool.false_eq_true,if_false,if_true] at hK
      exact RX rfl (by omega) (by omega) h3 (by subst h3;exact hK)
     ·by_cases h4:st=1∨cap=0
      ·simp only[F0,FZ,Aj,h1,h2,h3,h4,or_self,Bool.false_eq_true,if_false,if_true] at hK
       exact Ss rfl (by omega) (by omega) h3 h4 (by omega) hK
      ·simp only[F0,FZ,Aj,h1,h2,h3,h4,or_self,Bool.false_eq_true,if_false] at hK
       cases l with
       |nil=>simp at h2;omega
       |cons s0 l=>exact SY rfl (by omega) (by omega) h3 (fun q=>h4 (.inl q)) (fun q=>h4 (.inr q)) (by omega) hK
theorem Aic (hK:K (I6 (Aiw x)) (BH t (JJ x)::R)):CT 359 #[PO t] (BH t x::R) K:=by
 cases x with
 |b x=>exact W4 hK
 |i x=>exact Yq hK
theorem QJ (hr:Qh x n=true) (hK:K (.tuple #[.string (iL x n),.bool (BY x n),.bool true]) (BH t (xTk x n)::R)):CT 291 #[PO t,I6 n] (BH t x::R) K:=by
 cases x with
 |b x=>exact R1 hr hK
 |i x=>
  obtain⟨cap,st,l,w,en,ou,ac,se,dr⟩:=x
  cases l with
  |nil=>exact QR hr hK
  |cons s l=>
   have hw:0<w:=by simpa[Qh,IU] using hr
   exact SS hw hK
end
section
variable {s li t r:Nat} {m:Sm} {n:Int} {d:ByteArray} {e own:Bool} {id sta:Int} {x:Xs} {y:Ys}
theorem zN (hK:K (.bool m.own) (mS s m::R)):CT 178 #[PO s] (mS s m::R) K:=by
 refine mH fun li t r h=>?_
 exact aA.entK (CA (h:=Afb ⟨_,aG.trans (by exact aZ) (cN h),hK⟩))
theorem MP (hK:K (I6 m.id) (mS s m::R)):CT 224 #[PO s] (mS s m::R) K:=by
 refine mH fun li t r h=>?_
 exact aA.entK (CA (h:=Aj5 ⟨_,aG.trans (by exact aZ) (cN h),hK⟩))
theorem qN (hK:K (I6 (bB x)) (pt s [PO li,PO t,PO r,I6 id,.bool own] 258::BH t x::R)):CT 107 #[PO s] (pt s [PO li,PO t,PO r,I6 id,.bool own] 258::BH t x::R) K:=by
 cases x with
 |b x=>exact Ff hK
 |i x=>exact ES hK
theorem gM (hK:K (I6 (bB m.x)) (mS s m::R)):CT 107 #[PO s] (mS s m::R) K:=by
 refine mH fun li t r h=>?_
 exact aA.entK (CA (h:=qN ⟨_,aG.trans (by exact aZ) (cN h),hK⟩))
theorem Rt (hK:K (I6 (bB x - 1)) (pt s [PO li,PO t,PO r,I6 id,.bool own] 258::BH t x::R)):CT 293 #[PO s] (pt s [PO li,PO t,PO r,I6 id,.bool own] 258::BH t x::R) K:=by
 cases x with
 |b x=>
  refine aH Tryz.func293 ?_
  repeat' (first|refine v3 ?_|refine w5 ?_ ?_|((refine bh fun h=>?_) <;> try exact w6 h)|(refine aE fun hA=>?_;subst hA)|intro _|(show aA _ 107 _ _ _;refine CA (h:=qN (x:=.b x) ?_);simp only[bB]))
  (refine aC ?_;exact aB (hK))
 |i x=>
  refine aH Tryz.func293 ?_
  repeat' (first|refine v3 ?_|refine w5 ?_ ?_|((refine bh fun h=>?_) <;> try exact w6 h)|(refine aE fun hA=>?_;subst hA)|intro _|(show aA _ 107 _ _ _;refine CA (h:=qN (x:=.i x) ?_);simp only[bB]))
  (refine aC ?_;exact aB (hK))
theorem Zc (hb:KL m.x+d.size≤800000000) (hb2:KL m.x≤700000000) (hK:K (.tuple #[I6 (UX m d),I6 (Vh m d)]) (mS s (Az m d)::R)):CT 138 #[PO s,.string d] (mS s m::R) K:=by
 obtain⟨id,own,sta,x,y⟩:=m
 refine mH fun li t r h=>?_
 by_cases hg:sta=1∨sta=3
 ·have hg':SQ ⟨id,own,sta,x,y⟩=true:=decide_eq_true hg
  simp only[UX,Vh,Az,if_pos hg'] at hK
  have hk:bB (Aj x d)=bB x:=by cases x <;> rfl
  have hok:wX ⟨id,own,sta,Aj x d,y⟩:=⟨hk.trans h.1,h.2⟩
  refine aH Tryz.func138 ?_
  repeat' (first|refine Jo ?_|refine w5 ?_ ?_|((refine bh fun h=>?_) <;> try exact w6 h)|(refine aE fun hA=>?_;subst hA)|intro _|(show aA _ 232 _ _ _;refine CA (h:=tM (if_pos hg) ?_))|(show aA _ 233 _ _ _;refine CA (h:=Aeh hb hb2 ?_)))
  (refine aC ?_;exact aK (aG.trans (by exact aZ) ((cN hok))) (hK))
 ·have hg':SQ ⟨id,own,sta,x,y⟩=false:=decide_eq_false hg
  simp only[UX,Vh,Az,hg',Bool.false_eq_true,if_false] at hK
  refine aH Tryz.func138 ?_
  repeat' (first|refine Jo ?_|refine w5 ?_ ?_|((refine bh fun h=>?_) <;> try exact w6 h)|(refine aE fun hA=>?_;subst hA)|intro _|(show aA _ 232 _ _ _;refine CA (h:=tM (if_neg hg) ?_)))
  (refine aC ?_;exact aK (aG.trans (by exact aZ) ((cN h))) (hK))
theorem Acj (hK:K (I6 (UJ m)) (mS s (AO m)::R)):CT 295 #[PO s] (mS s m::R) K:=by
 obtain⟨id,own,sta,x,y⟩:=m
 refine mH fun li t r h=>?_
 by_cases hg:sta=1∨sta=3
 ·have hg':SQ ⟨id,own,sta,x,y⟩=true:=decide_eq_true hg
  simp only[UJ,AO,if_pos hg'] at hK
  have hk:bB (JJ x)=bB x:=by cases x <;> rfl
  have hok:wX ⟨id,own,sta,JJ x,y⟩:=⟨hk.trans h.1,h.2⟩
  refine aH Tryz.func295 ?_
  repeat' (first|refine Jo ?_|refine w5 ?_ ?_|((refine bh fun h=>?_) <;> try exact w6 h)|(refine aE fun hA=>?_;subst hA)|intro _|(show aA _ 232 _ _ _;refine CA (h:=tM (if_pos hg) ?_))|(show aA _ 359 _ _ _;refine CA (h:=Aic ?_)))
  (refine aC ?_;exact aK (aG.trans (by exact aZ) ((cN hok))) (hK))
 ·have hg':SQ ⟨id,own,sta,x,y⟩=false:=decide_eq_false hg
  simp only[UJ,AO,hg',Bool.false_eq_true,if_false] at hK
  refine aH Tryz.func295 ?_
  repeat' (first|refine Jo ?_|refine w5 ?_ ?_|((refine bh fun h=>?_) <;> try exact w6 h)|(refine aE fun hA=>?_;subst hA)|intro _|(show aA _ 232 _ _ _;refine CA (h:=tM (if_neg hg) ?_)))
  (refine aC ?_;exact aK (aG.trans (by exact aZ) ((cN h))) (hK))
theorem Kk (hK:K (.bool (Is m)) (mS s m::R)):CT 222 #[PO s] (mS s m::R) K:=by
 obtain⟨id,own,sta,x,y⟩:=m
 refine mH fun li t r h=>?_
 cases y with
 |b y=>
  have e:(decide (sta=4) && decide (y.bs= []))=Is ⟨id,own,sta,x,.b y⟩:=by simp[Is,gF]
  exact aA.entK (CA (h:=Xc e ⟨_,aG.trans (by exact aZ) (cN (m:=⟨id,own,sta,x,.b y⟩) h),hK⟩))
 |i y=>
  have e:(decide (sta=4) && decide (y.l= []))=Is ⟨id,own,sta,x,.i y⟩:=by simp[Is,gF]
  exact aA.entK (CA (h:=Wc e ⟨_,aG.trans (by exact aZ) (cN (m:=⟨id,own,sta,x,.i y⟩) h),hK⟩))
theorem Oo {ev:Int} (he:ev=4∨ev=5) (hK:K (I6 (Jv m)) (mS s (BS m)::R)):CT 337 #[PO s,I6 ev] (mS s m::R) K:=by
 obtain⟨id,own,sta,x,y⟩:=m
 refine mH fun li t r h=>?_
 by_cases hg:sta=1∨sta=2∨sta=3
 ·have hg':Un ⟨id,own,sta,x,y⟩=true:=decide_eq_true hg
  simp only[Jv,BS,if_pos hg'] at hK
  obtain⟨hk,hs⟩:=h
  cases x with
  |b x=>
   cases y with
   |b y=>exact aA.entK (CA (h:=ZQ he hg ⟨_,aG.trans (by exact aZ) (cN (m:=⟨id,own,4,Aie (.b x),Ew (.b y)⟩) ⟨rfl,.inr (.inr (.inr rfl))⟩),hK⟩))
   |i y=>cases hk
  |i x=>
   cases y with
   |b y=>cases hk
   |i y=>exact aA.entK (CA (h:=Adu he hg ⟨_,aG.trans (by exact aZ) (cN (m:=⟨id,own,4,Aie (.i x),Ew (.i y)⟩) ⟨rfl,.inr (.inr (.inr rfl))⟩),hK⟩))
 ·have hg':Un ⟨id,own,sta,x,y⟩=false:=decide_eq_false hg
  simp only[Jv,BS,hg',Bool.false_eq_true,if_false] at hK
  exact aA.entK (CA (h:=Abu he (by rcases h.2 with h|h|h|h <;> first|exact h|(exfalso;exact hg (by simp only at h;omega))) ⟨_,aG.trans (by exact aZ) (cN (m:=⟨id,own,sta,x,y⟩) h),hK⟩))
end
end
end Go.Proofs.YtifgibijcmppmaaGreat
