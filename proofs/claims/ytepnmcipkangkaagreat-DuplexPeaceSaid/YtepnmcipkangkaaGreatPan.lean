/- A part of the proof: lemmas; each with the conditions that it states. -/
import Derived.Test.YtepnmcipkangkaaGreatPam
import Derived.Test.YtepnmcipkangkaaGreatPal
import Derived.Test.YtepnmcipkangkaaGreatPao
set_option linter.unusedVariables false
set_option linter.unusedSimpArgs false
set_option maxRecDepth 100000
set_option maxHeartbeats 40000000
namespace Go.Proofs.YtepnmcipkangkaaGreat
open Go Go.Proofs Go.Sl
attribute [local irreducible] aN fJ cY bN aM aS aA dM dN aV dL pt ro fB star sep bF
variable {R C:List HP} {K:KP} {s li t r cap:Nat} {id sta ac se dr w0 sg n mr room open_ ask a1 t1 d1:Int} {own en ou b ren:Bool} {l rl:List ByteArray} {d:ByteArray}
theorem Zv (hb:(decide (sta=4) && decide (rl= []))=b) (hK:K (.bool b) (pt s [PO li,PO t,PO r,I6 id,.bool own] 223::qW li sta::wH r mr room open_ ask rl a1 t1 d1 ren::R)):CT 242 #[PO s] (pt s [PO li,PO t,PO r,I6 id,.bool own] 223::qW li sta::wH r mr room open_ ask rl a1 t1 d1 ren::R) K:=by
 subst hb
 by_cases h:sta=4
 ·have hd:(sta == 4)=true:=by simpa using h
  refine aH Tryz.func242 ?_
  repeat' (first|(show cY _ _ _;rw[hd])|refine Kv ?_|refine w5 ?_ ?_|((refine bh fun h=>?_) <;> try exact w6 h)|(refine aE fun hA=>?_;subst hA)|intro _|(show aA _ 348 _ _ _;refine CA (h:=ER ?_))|(show aA _ 64 _ _ _;refine CA (h:=vZ ?_)))
  all_goals(refine aC ?_;exact aB (kb hK (by cases rl <;> simp[h] <;> omega)))
 ·have hd:(sta == 4)=false:=by simpa using h
  refine aH Tryz.func242 ?_
  repeat' (first|(show cY _ _ _;rw[hd])|refine Kv ?_|refine w5 ?_ ?_|((refine bh fun h=>?_) <;> try exact w6 h)|(refine aE fun hA=>?_;subst hA)|intro _|(show aA _ 348 _ _ _;refine CA (h:=ER ?_))|(show aA _ 64 _ _ _;refine CA (h:=vZ ?_)))
  all_goals(refine aC ?_;exact aB (kb hK (by simp[h])))
end Go.Proofs.YtepnmcipkangkaaGreat
namespace Go.Proofs.YtepnmcipkangkaaGreat
open Go Go.Proofs Go.Sl
structure XB where
 cap:Nat
 bs:List UInt8
 en:Bool
 ou:Bool
 ac:Int
 se:Int
 dr:Int
structure XI where
 cap:Nat
 st:Int
 l:List ByteArray
 w:Int
 en:Bool
 ou:Bool
 ac:Int
 se:Int
 dr:Int
inductive Xs where
 |b (x:XB)
 |i (x:XI)
structure YB where
 cap:Int
 most:Int
 gr:Int
 got:Int
 us:Int
 bs:List UInt8
 en:Bool
structure YI where
 mr:Int
 room:Int
 op:Int
 ask:Int
 l:List ByteArray
 ac:Int
 tk:Int
 dr:Int
 en:Bool
inductive Ys where
 |b (y:YB)
 |i (y:YI)
structure Sm where
 id:Int
 own:Bool
 sta:Int
 x:Xs
 y:Ys
def bA:Xs->Int
 |.b _=>1
 |.i _=>2
def Hd:Xs->ByteArray->Int
 |.b x,d=>(Gq x.cap x.bs x.en d:Nat)
 |.i x,d=>if x.en=true\/256<d.size then 0 else if x.l.length<x.cap then 1 else if x.st=0 then 0 else if x.st=1\/x.cap=0 then 2 else 3
def G9:Xs->ByteArray->Int
 |.b x,_=>if x.en=true then 11 else 0
 |.i x,d=>if x.en=true then 11 else if 256<d.size then 4 else if x.l.length<x.cap then 0 else if x.st=0 then 9 else 0
def BI:Xs->ByteArray->Xs
 |.b x,d=>.b { x with bs:=x.bs++d.data.toList.take (Gq x.cap x.bs x.en d),ac:=x.ac+(Gq x.cap x.bs x.en d:Nat) }
 |.i x,d=>.i (if x.en=true\/256<d.size then x else if x.l.length<x.cap then { x with l:=x.l++ [d],ac:=x.ac+1 } else if x.st=0 then x else if x.st=1\/x.cap=0 then { x with ac:=x.ac+1,dr:=x.dr+1 } else { x with l:=x.l.tail++ [d],ac:=x.ac+1,dr:=x.dr+1 })
def Al6:Xs->Int
 |.b x=>if x.en=true then 11 else 0
 |.i x=>if x.en=true then 11 else 0
def KV:Xs->Xs
 |.b x=>.b { x with en:=true }
 |.i x=>.i { x with en:=true }
def Rp:Xs->Int->Bool
 |.b x,n=>rdB x.bs x.en x.ou n
 |.i x,_=>Jq x.l x.w x.en x.ou
def JQ:Xs->Nat
 |.b x=>x.bs.length
 |.i x=>x.l.length
def Ak7 (x:Xs) (n:Int):Bool:=decide (0<JQ x) && !Rp x n
def iJ:Xs->Int->ByteArray
 |.b x,n=>⟨(x.bs.take (C4 x.bs n)).toArray⟩
 |.i x,_=>match x.l with
  | []=>⟨#[]⟩
  |s::_=>s
def By:Xs->Int->Bool
 |.b x,n=>x.en && decide (x.bs.drop (C4 x.bs n)= [])
 |.i x,_=>match x.l with
  | []=>true
  |_::_=>false
def xTk:Xs->Int->Xs
 |.b x,n=>.b { x with bs:=x.bs.drop (C4 x.bs n),ou:=x.en && decide (x.bs.drop (C4 x.bs n)= []),se:=x.se+(C4 x.bs n:Nat) }
 |.i x,_=>match x.l with
  | []=>.i { x with ou:=true }
  |_::r=>.i { x with l:=r,w:=x.w - 1,ou:=false,se:=x.se+1 }
def Gi:Xs->Int->Int
 |.b _,_=>13
 |.i _,n=>if 1<=n then 0 else 2
def qD:Xs->Int->Xs
 |.b x,_=>.b x
 |.i x,n=>.i (if 1<=n then { x with w:=x.w+min n (2147483647 - x.w) } else x)
def Ahm:Xs->Xs
 |.b x=>.b { x with bs:= [],dr:=x.dr+x.bs.length }
 |.i x=>.i { x with l:= [],dr:=x.dr+x.l.length }
def Mo:Xs->Int
 |.b x=>x.ac
 |.i x=>x.ac
def xSe:Xs->Int
 |.b x=>x.se
 |.i x=>x.se
def xDr:Xs->Int
 |.b x=>x.dr
 |.i x=>x.dr
def lO:Ys->Int
 |.b _=>1
 |.i _=>2
def MH (y:YB) (n:Int):Nat:=(max (min n y.bs.length) 0).toNat
def P8:Ys->Int
 |.b _=>0
 |.i _=>13
def CX:Ys->Int->ByteArray
 |.b y,n=>⟨(y.bs.take (MH y n)).toArray⟩
 |.i _,_=>⟨#[]⟩
def FL:Ys->Int->Ys
 |.b y,n=>.b { y with us:=y.us+(MH y n:Nat),bs:=y.bs.drop (MH y n) }
 |.i y,_=>.i y
def YE:Ys->Int
 |.b _=>13
 |.i _=>0
def Aor:Ys->ByteArray
 |.b _=>⟨#[]⟩
 |.i y=>match y.l with
  | []=>⟨#[]⟩
  |s::_=>s
def Afw:Ys->Bool
 |.b _=>false
 |.i y=>match y.l with
  | []=>false
  |_::_=>true
def Ga:Ys->Ys
 |.b y=>.b y
 |.i y=>match y.l with
  | []=>.i y
  |_::r=>.i { y with l:=r,tk:=y.tk+1 }
def W0:Ys->Int->Int
 |.b _,_=>13
 |.i _,n=>if 1<=n then 0 else 2
def Hy:Ys->Int->Ys
 |.b y,_=>.b y
 |.i y,n=>.i (if 1<=n then { y with ask:=y.ask+min n (2147483647 - y.ask) } else y)
def iQ:Ys->Nat
 |.b y=>y.bs.length
 |.i y=>y.l.length
def yEn:Ys->Bool
 |.b y=>y.en
 |.i y=>y.en
def Kh (y:Ys):Bool:=yEn y && decide (iQ y=0)
def Hz:Ys->Int
 |.b y=>rJ y.cap y.gr y.us
 |.i y=>xO y.room y.op y.ask y.l
def yGr:Ys->Ys
 |.b y=>.b { y with gr:=y.gr+rJ y.cap y.gr y.us }
 |.i y=>.i { y with op:=y.op+xO y.room y.op y.ask y.l,ask:=y.ask - xO y.room y.op y.ask y.l }
def Fv:Ys->dZ->Ys
 |.b y,s=>.b { y with cap:=s.w,most:=max y.most s.w,gr:=y.gr+(s.w - y.cap) }
 |.i y,s=>.i { y with mr:=max y.mr s.it,room:=s.it }
def EB:Ys->Ys
 |.b y=>.b { y with us:=y.us+y.bs.length,bs:= [] }
 |.i y=>.i { y with l:= [],dr:=y.dr+y.l.length }
def xU:Ys->ByteArray->Bool->Int
 |.b y,d,_=>if y.en=true then 7 else if max (y.gr - y.got) 0<d.size then 8 else 0
 |.i y,d,e=>if y.en=true then 7 else if(d≠⟨#[]⟩\/e=false)/\y.op<1 then 10 else 0
def D3:Ys->ByteArray->Bool->Ys
 |.b y,d,e=>.b { y with got:=y.got+d.size,bs:=y.bs++d.data.toList,en:=e }
 |.i y,d,e=>.i (if d≠⟨#[]⟩\/e=false then { y with op:=y.op - 1,l:=y.l++ [d],ac:=y.ac+1,en:=e } else { y with en:=true })
def UD (s:Sm):Bool:=decide (s.sta=1\/s.sta=3)
def XZ (s:Sm):Bool:=decide (s.sta=1\/s.sta=2)
def VE (s:Sm) (d:ByteArray):Int:=if UD s=true then Hd s.x d else 0
def Wj (s:Sm) (d:ByteArray):Int:=if UD s=true then G9 s.x d else 14
def Bz (s:Sm) (d:ByteArray):Sm:=if UD s=true then { s with x:=BI s.x d } else s
def Vl (s:Sm):Int:=if UD s=true then Al6 s.x else 14
def Bm (s:Sm):Sm:=if UD s=true then { s with x:=KV s.x } else s
def IK (s:Sm) (n:Int):Bool:=UD s && Rp s.x n
def D7 (s:Sm) (n:Int):Sm:=if IK s n=true then { s with sta:=KD s.sta (By s.x n),x:=xTk s.x n } else s
def eS (s:Sm) (t:Int) (d:ByteArray) (e:Bool):Int:=if t≠bA s.x - 1 then 6 else if XZ s=false then 7 else xU s.y d e
def fV (s:Sm) (d:ByteArray) (e:Bool):Sm:= { s with sta:=pU s.sta e,y:=D3 s.y d e }
def VJ (s:Sm):Bool:=decide (s.sta=1\/s.sta=2\/s.sta=3)
def KC (s:Sm):Int:=if VJ s=true then(match s.y with
 |.b y=>y.bs.length
 |.i _=>0) else 0
def CR (s:Sm):Sm:=if VJ s=true then { s with sta:=4,x:=Ahm s.x,y:=EB s.y } else s
def Kq (s:Sm):Bool:=decide (s.sta=4) && decide (iQ s.y=0)
def x9 (s:Sm):Prop:=bA s.x=lO s.y/\(s.sta=1\/s.sta=2\/s.sta=3\/s.sta=4)
end Go.Proofs.YtepnmcipkangkaaGreat
namespace Go.Proofs.YtepnmcipkangkaaGreat
open Go Go.Proofs Go.Sl
attribute [local irreducible] aN fJ cY bN aM aS aA dM dN aV dL pt ro fB star sep bF
variable {R C:List HP} {K:KP} {t r s li pn pc:Nat} {x:Xs} {y:Ys} {n id sta tt st kk on w c la nn:Int} {d:ByteArray} {e own xx:Bool} {m:Sm} {f:FuncId} {args:Array Value} {pa:Option Addr}
def B1 (t:Nat):Xs->HP
 |.b x=>zU t x.cap x.bs x.en x.ou x.ac x.se x.dr
 |.i x=>rP t x.cap x.st x.l x.w x.en x.ou x.ac x.se x.dr
def Ed (r:Nat):Ys->HP
 |.b y=>zO r y.cap y.most y.gr y.got y.us y.bs y.en
 |.i y=>wH r y.mr y.room y.op y.ask y.l y.ac y.tk y.dr y.en
theorem Adp (hK:K (.agg #[I6 (Mo x),I6 (xSe x),I6 (xDr x)]) (B1 t x::R)):CT 43 #[PO t] (B1 t x::R) K:=by
 cases x with
 |b x=>exact UB hK
 |i x=>exact TS hK
theorem Alj (hK:K (.bool (Rp x n)) (B1 t x::R)):CT 267 #[PO t,I6 n] (B1 t x::R) K:=by
 cases x with
 |b x=>exact QK hK
 |i x=>exact Rn hK
theorem Ai7 (hK:K (.bool (Ak7 x n)) (B1 t x::R)):CT 181 #[PO t,I6 n] (B1 t x::R) K:=by
 cases x with
 |b x=>exact QF hK
 |i x=>exact Qg hK
theorem Pk (hK:K (I6 (Gi x n)) (B1 t (qD x n)::R)):CT 390 #[PO t,I6 n] (B1 t x::R) K:=by
 cases x with
 |b x=>exact Tl hK
 |i x=>
  by_cases h:1<=n
  ·simp only[Gi,qD,if_pos h] at hK
   exact T5 h hK
  ·simp only[Gi,qD,if_neg h] at hK
   exact Pf (by omega) hK
theorem Aax (hK:K (I6 (iQ y:Nat)) (Ed r y::R)):CT 64 #[PO r] (Ed r y::R) K:=by
 cases y with
 |b y=>exact u9 hK
 |i y=>exact vZ hK
theorem Rb (hK:K (.bool (Kh y)) (Ed r y::R)):CT 145 #[PO r] (Ed r y::R) K:=by
 cases y with
 |b y=>
  refine Vg ?_
  rw[show(y.en && decide (y.bs= []))=Kh (.b y) by simp[Kh,yEn,iQ]]
  exact hK
 |i y=>
  refine S5 ?_
  rw[show(y.en && decide (y.l= []))=Kh (.i y) by simp[Kh,yEn,iQ]]
  exact hK
theorem QS (hK:K (.tuple #[.string (CX y n),I6 (P8 y)]) (Ed r (FL y n)::R)):CT 143 #[PO r,I6 n] (Ed r y::R) K:=by
 cases y with
 |b y=>exact T9 (kk:=MH y n) (by unfold MH;omega) hK
 |i y=>exact UR hK
theorem Rm (hK:K (.tuple #[.string (Aor y),.bool (Afw y),I6 (YE y)]) (Ed r (Ga y)::R)):CT 247 #[PO r] (Ed r y::R) K:=by
 cases y with
 |b y=>exact TQ hK
 |i y=>
  obtain⟨mr,room,op,ask,l,ac,tk,dr,en⟩:=y
  cases l with
  |nil=>exact Qe hK
  |cons s l=>exact UN hK
theorem Ah8 (hK:K (I6 (W0 y n)) (Ed r (Hy y n)::R)):CT 248 #[PO r,I6 n] (Ed r y::R) K:=by
 cases y with
 |b y=>exact YO hK
 |i y=>
  by_cases h:1<=n
  ·simp only[W0,Hy,if_pos h] at hK
   exact XU h hK
  ·simp only[W0,Hy,if_neg h] at hK
   exact TR (by omega) hK
theorem Mi (hK:K (I6 (Hz y)) (Ed r (yGr y)::R)):CT 187 #[PO r] (Ed r y::R) K:=by
 cases y with
 |b y=>exact Sw hK
 |i y=>exact RQ hK
theorem Ajj {s:dZ} (hs:rT s.w s.st s.it=true) (hK:K (I6 0) (Ed r (Fv y s)::R)):CT 297 #[PO r,.agg #[I6 s.w,I6 s.st,I6 s.it]] (Ed r y::R) K:=by
 cases y with
 |b y=>exact Nk hs hK
 |i y=>exact Oy hs hK
theorem Alx (hK:K (I6 (iQ y:Nat)) (Ed r (EB y)::R)):CT 359 #[PO r] (Ed r y::R) K:=by
 cases y with
 |b y=>exact GV hK
 |i y=>exact G6 hK
def tO (s:Nat) (m:Sm):HP:=fB fun li=>fB fun t=>fB fun r=>sep (pt s [PO li,PO t,PO r,I6 m.id,.bool m.own] 223) (sep (qW li m.sta) (sep (B1 t m.x) (sep (Ed r m.y) (bF (x9 m)))))
theorem Tp {A B D E:HP} {p:Prop} (h:p->CT f args (A::B::D::E::R) K):CT f args (sep A (sep B (sep D (sep E (bF p))))::R) K:=
 aA.ent s6 (aA.pure fun hI=>h hI)
theorem cU (h:x9 m):aG (pt s [PO li,PO t,PO r,I6 m.id,.bool m.own] 223::qW li m.sta::B1 t m.x::Ed r m.y::R) (tO s m::R):=
 aG.ex li (aG.ex t (aG.ex r (Mq h)))
theorem m8 (h:∀li t r,x9 m->CT f args (pt s [PO li,PO t,PO r,I6 m.id,.bool m.own] 223::qW li m.sta::B1 t m.x::Ed r m.y::R) K):CT f args (tO s m::R) K:=
 aA.ex fun li=>aA.ex fun t=>aA.ex fun r=>Tp fun hI=>h li t r hI
theorem Akp (hb:Mo x+d.size<=800000000) (hb2:Mo x<=700000000) (hK:K (.tuple #[I6 (Hd x d),I6 (G9 x d)]) (B1 t (BI x d)::R)):CT 238 #[PO t,.string d] (B1 t x::R) K:=by
 cases x with
 |b x=>exact Zi (by simp only[Mo] at hb;omega) hK
 |i x=>
  obtain⟨cap,st,l,w,en,ou,ac,se,dr⟩:=x
  simp only[Mo] at hb hb2
  cases en with
  |true=>
   simp only[Hd,G9,BI,true_or,if_true] at hK
   exact S3 rfl hK
  |false=>
   change CT 238 #[PO t,.string d] (rP t cap st l w false ou ac se dr::R) K
   by_cases h1:256<d.size
   ·simp only[Hd,G9,BI,h1,or_true,if_true,Bool.false_eq_true,if_false] at hK
    exact Tq rfl h1 hK
   ·by_cases h2:l.length<cap
    ·simp only[Hd,G9,BI,h1,h2,or_self,Bool.false_eq_true,if_false,if_true] at hK
     exact UP rfl (by omega) h2 (by omega) hK
    ·by_cases h3:st=0
     ·simp only[Hd,G9,BI,h1,h2,h3,or_self,Bool.false_eq_true,if_false,if_true] at hK
      exact S0 rfl (by omega) (by omega) h3 (by subst h3;exact hK)
     ·by_cases h4:st=1\/cap=0
      ·simp only[Hd,G9,BI,h1,h2,h3,h4,or_self,Bool.false_eq_true,if_false,if_true] at hK
       exact Tf rfl (by omega) (by omega) h3 h4 (by omega) hK
      ·simp only[Hd,G9,BI,h1,h2,h3,h4,or_self,Bool.false_eq_true,if_false] at hK
       cases l with
       |nil=>simp at h2;omega
       |cons s0 l=>exact U6 rfl (by omega) (by omega) h3 (fun q=>h4 (.inl q)) (fun q=>h4 (.inr q)) (by omega) hK
theorem Ai1 (hK:K (I6 (Al6 x)) (B1 t (KV x)::R)):CT 353 #[PO t] (B1 t x::R) K:=by
 cases x with
 |b x=>exact Z1 hK
 |i x=>exact XD hK
theorem PH (hr:Rp x n=true) (hK:K (.tuple #[.string (iJ x n),.bool (By x n),.bool true]) (B1 t (xTk x n)::R)):CT 282 #[PO t,I6 n] (B1 t x::R) K:=by
 cases x with
 |b x=>exact SZ hr hK
 |i x=>
  obtain⟨cap,st,l,w,en,ou,ac,se,dr⟩:=x
  cases l with
  |nil=>exact P4 hr hK
  |cons s l=>
   have hw:0<w:=by simpa[Rp,Jq] using hr
   exact Uz hw hK
theorem BM (hK:K (.bool m.own) (tO s m::R)):CT 156 #[PO s] (tO s m::R) K:=by
 refine m8 fun li t r h=>?_
 exact aA.entK (CA (h:=Alm ⟨_,aG.trans (by exact aZ) (cU h),hK⟩))
theorem NS (hK:K (I6 m.id) (tO s m::R)):CT 244 #[PO s] (tO s m::R) K:=by
 refine m8 fun li t r h=>?_
 exact aA.entK (CA (h:=Am2 ⟨_,aG.trans (by exact aZ) (cU h),hK⟩))
theorem sM (hK:K (I6 (bA x)) (pt s [PO li,PO t,PO r,I6 id,.bool own] 223::B1 t x::R)):CT 70 #[PO s] (pt s [PO li,PO t,PO r,I6 id,.bool own] 223::B1 t x::R) K:=by
 cases x with
 |b x=>exact Gv hK
 |i x=>exact Gh hK
theorem lW (hK:K (I6 (bA m.x)) (tO s m::R)):CT 70 #[PO s] (tO s m::R) K:=by
 refine m8 fun li t r h=>?_
 exact aA.entK (CA (h:=sM ⟨_,aG.trans (by exact aZ) (cU h),hK⟩))
theorem Va (hK:K (I6 (bA x - 1)) (pt s [PO li,PO t,PO r,I6 id,.bool own] 223::B1 t x::R)):CT 284 #[PO s] (pt s [PO li,PO t,PO r,I6 id,.bool own] 223::B1 t x::R) K:=by
 cases x with
 |b x=>
  refine aH Tryz.func284 ?_
  repeat' (first|refine v3 ?_|refine w5 ?_ ?_|((refine bh fun h=>?_) <;> try exact w6 h)|(refine aE fun hA=>?_;subst hA)|intro _|(show aA _ 70 _ _ _;refine CA (h:=sM (x:=.b x) ?_);simp only[bA]))
  (refine aC ?_;exact aB (hK))
 |i x=>
  refine aH Tryz.func284 ?_
  repeat' (first|refine v3 ?_|refine w5 ?_ ?_|((refine bh fun h=>?_) <;> try exact w6 h)|(refine aE fun hA=>?_;subst hA)|intro _|(show aA _ 70 _ _ _;refine CA (h:=sM (x:=.i x) ?_);simp only[bA]))
  (refine aC ?_;exact aB (hK))
theorem Aad (hb:Mo m.x+d.size<=800000000) (hb2:Mo m.x<=700000000) (hK:K (.tuple #[I6 (VE m d),I6 (Wj m d)]) (tO s (Bz m d)::R)):CT 142 #[PO s,.string d] (tO s m::R) K:=by
 obtain⟨id,own,sta,x,y⟩:=m
 refine m8 fun li t r h=>?_
 by_cases hg:sta=1\/sta=3
 ·have hg':UD ⟨id,own,sta,x,y⟩=true:=decide_eq_true hg
  simp only[VE,Wj,Bz,if_pos hg'] at hK
  have hk:bA (BI x d)=bA x:=by cases x <;> rfl
  have hok:x9 ⟨id,own,sta,BI x d,y⟩:=⟨hk.trans h.1,h.2⟩
  refine aH Tryz.func142 ?_
  repeat' (first|refine Ku ?_|refine w5 ?_ ?_|((refine bh fun h=>?_) <;> try exact w6 h)|(refine aE fun hA=>?_;subst hA)|intro _|(show aA _ 237 _ _ _;refine CA (h:=u2 (if_pos hg) ?_))|(show aA _ 238 _ _ _;refine CA (h:=Akp hb hb2 ?_)))
  (refine aC ?_;exact aK (aG.trans (by exact aZ) ((cU hok))) (hK))
 ·have hg':UD ⟨id,own,sta,x,y⟩=false:=decide_eq_false hg
  simp only[VE,Wj,Bz,hg',Bool.false_eq_true,if_false] at hK
  refine aH Tryz.func142 ?_
  repeat' (first|refine Ku ?_|refine w5 ?_ ?_|((refine bh fun h=>?_) <;> try exact w6 h)|(refine aE fun hA=>?_;subst hA)|intro _|(show aA _ 237 _ _ _;refine CA (h:=u2 (if_neg hg) ?_)))
  (refine aC ?_;exact aK (aG.trans (by exact aZ) ((cU h))) (hK))
theorem Afe (hK:K (I6 (Vl m)) (tO s (Bm m)::R)):CT 246 #[PO s] (tO s m::R) K:=by
 obtain⟨id,own,sta,x,y⟩:=m
 refine m8 fun li t r h=>?_
 by_cases hg:sta=1\/sta=3
 ·have hg':UD ⟨id,own,sta,x,y⟩=true:=decide_eq_true hg
  simp only[Vl,Bm,if_pos hg'] at hK
  have hk:bA (KV x)=bA x:=by cases x <;> rfl
  have hok:x9 ⟨id,own,sta,KV x,y⟩:=⟨hk.trans h.1,h.2⟩
  refine aH Tryz.func246 ?_
  repeat' (first|refine Ku ?_|refine w5 ?_ ?_|((refine bh fun h=>?_) <;> try exact w6 h)|(refine aE fun hA=>?_;subst hA)|intro _|(show aA _ 237 _ _ _;refine CA (h:=u2 (if_pos hg) ?_))|(show aA _ 353 _ _ _;refine CA (h:=Ai1 ?_)))
  (refine aC ?_;exact aK (aG.trans (by exact aZ) ((cU hok))) (hK))
 ·have hg':UD ⟨id,own,sta,x,y⟩=false:=decide_eq_false hg
  simp only[Vl,Bm,hg',Bool.false_eq_true,if_false] at hK
  refine aH Tryz.func246 ?_
  repeat' (first|refine Ku ?_|refine w5 ?_ ?_|((refine bh fun h=>?_) <;> try exact w6 h)|(refine aE fun hA=>?_;subst hA)|intro _|(show aA _ 237 _ _ _;refine CA (h:=u2 (if_neg hg) ?_)))
  (refine aC ?_;exact aK (aG.trans (by exact aZ) ((cU h))) (hK))
theorem My (hK:K (.bool (Kq m)) (tO s m::R)):CT 242 #[PO s] (tO s m::R) K:=by
 obtain⟨id,own,sta,x,y⟩:=m
 refine m8 fun li t r h=>?_
 cases y with
 |b y=>
  have e:(decide (sta=4) && decide (y.bs= []))=Kq ⟨id,own,sta,x,.b y⟩:=by simp[Kq,iQ]
  exact aA.entK (CA (h:=Z3 e ⟨_,aG.trans (by exact aZ) (cU (m:=⟨id,own,sta,x,.b y⟩) h),hK⟩))
 |i y=>
  have e:(decide (sta=4) && decide (y.l= []))=Kq ⟨id,own,sta,x,.i y⟩:=by simp[Kq,iQ]
  exact aA.entK (CA (h:=Zv e ⟨_,aG.trans (by exact aZ) (cU (m:=⟨id,own,sta,x,.i y⟩) h),hK⟩))
theorem Pl {ev:Int} (he:ev=4\/ev=5) (hK:K (I6 (KC m)) (tO s (CR m)::R)):CT 358 #[PO s,I6 ev] (tO s m::R) K:=by
 obtain⟨id,own,sta,x,y⟩:=m
 refine m8 fun li t r h=>?_
 by_cases hg:sta=1\/sta=2\/sta=3
 ·have hg':VJ ⟨id,own,sta,x,y⟩=true:=decide_eq_true hg
  simp only[KC,CR,if_pos hg'] at hK
  obtain⟨hk,hs⟩:=h
  cases x with
  |b x=>
   cases y with
   |b y=>exact aA.entK (CA (h:=Ag2 he hg ⟨_,aG.trans (by exact aZ) (cU (m:=⟨id,own,4,Ahm (.b x),EB (.b y)⟩) ⟨rfl,.inr (.inr (.inr rfl))⟩),hK⟩))
   |i y=>cases hk
  |i x=>
   cases y with
   |b y=>cases hk
   |i y=>exact aA.entK (CA (h:=Aha he hg ⟨_,aG.trans (by exact aZ) (cU (m:=⟨id,own,4,Ahm (.i x),EB (.i y)⟩) ⟨rfl,.inr (.inr (.inr rfl))⟩),hK⟩))
 ·have hg':VJ ⟨id,own,sta,x,y⟩=false:=decide_eq_false hg
  simp only[KC,CR,hg',Bool.false_eq_true,if_false] at hK
  exact aA.entK (CA (h:=Ac1 he (by rcases h.2 with h|h|h|h <;> first|exact h|(exfalso;exact hg (by simp only at h;omega))) ⟨_,aG.trans (by exact aZ) (cU (m:=⟨id,own,sta,x,y⟩) h),hK⟩))
def CM:List (Nat×Nat):= [(0,0),(1,1),(2,1),(3,1),(4,1),(5,1),(6,1),(7,1),(8,0),(9,1)]
theorem Jd {r2 r3 r4:Nat} (hK:K (.agg #[I6 (bA x - 1),I6 id,.bool e,.string d,I6 0,I6 0,I6 0,.bool false,I6 0,I6 0,I6 0,.slice none 0 0]) (pt r2 [PO s] 92::pt r3 [.string d] 9::pt r4 [.bool e] 4::pt s [PO li,PO t,PO r,I6 id,.bool own] 223::B1 t x::R)):CT 283 #[PO r2,PO r3,PO r4] (pt r2 [PO s] 92::pt r3 [.string d] 9::pt r4 [.bool e] 4::pt s [PO li,PO t,PO r,I6 id,.bool own] 223::B1 t x::R) K:=by
 refine aH Tryz.func283 ?_
 repeat' (first|refine Lc ?_|refine dw CM ?_|refine w5 ?_ ?_|((refine bh fun h=>?_) <;> try exact w6 h)|(refine aE fun hA=>?_;subst hA)|intro _|(show aA _ 284 _ _ _;refine CA (h:=Va ?_)))
 (refine aC ?_;exact aB (hK))
theorem Ff:bA (xTk x n)=bA x:=by
 cases x with
 |b x=>rfl
 |i x=>
  obtain⟨cap,st,l,w,en,ou,ac,se,dr⟩:=x
  cases l <;> rfl
theorem B4 (hr:IK m n=true) (hK:K (.tuple #[.agg #[I6 (bA m.x - 1),I6 m.id,.bool (By m.x n),.string (iJ m.x n),I6 0,I6 0,I6 0,.bool false,I6 0,I6 0,I6 0,.slice none 0 0],.bool true]) (tO s (D7 m n)::R)):CT 190 #[PO s,I6 n] (tO s m::R) K:=by
 simp only[D7,if_pos hr] at hK
 obtain⟨id,own,sta,x,y⟩:=m
 have hr':=hr
 simp only[IK,UD,Bool.and_eq_true,decide_eq_true_eq] at hr'
 obtain⟨hg,hx⟩:=hr'
 refine m8 fun li t r h=>?_
 have hso:∀b,KD sta b=1\/KD sta b=2\/KD sta b=3\/KD sta b=4:=fun b=>by
  unfold KD
  rcases hg with rfl|rfl <;> cases b <;> simp
 have hok:x9 ⟨id,own,KD sta (By x n),xTk x n,y⟩:=⟨Ff.trans h.1,hso _⟩
 have hkd:=Ff (x:=x) (n:=n)
 simp only at hK
 cases he:By x n
 ·rw[he] at hK hok
  have e0:KD sta false=sta:=rfl
  rw[e0] at hK hok
  refine aH Tryz.func190 ?_
  repeat' (first|refine O1 ?_|refine w5 ?_ ?_|((refine bh fun h=>?_) <;> try exact w6 h)|(refine aE fun hA=>?_;subst hA)|intro _|(show aA _ 237 _ _ _;refine CA (h:=u2 (if_pos hg) ?_))|(show aA _ 282 _ _ _;refine CA (h:=PH hx ?_);rw[he])|(show aA _ 283 _ _ _;refine CA (h:=Jd ?_);rw[hkd]))
  (refine aC ?_;exact aK (aG.trans (by exact aZ) ((cU hok))) (hK))
 ·rw[he] at hK hok
  have hl:yH sta 2=KD sta true:=by rcases hg with rfl|rfl <;> rfl
  have hl1:KD sta true≠-1:=by rcases hg with rfl|rfl <;> decide
  refine aH Tryz.func190 ?_
  repeat' (first|refine O1 ?_|refine w5 ?_ ?_|((refine bh fun h=>?_) <;> try exact w6 h)|(refine aE fun hA=>?_;subst hA)|intro _|(show aA _ 237 _ _ _;refine CA (h:=u2 (if_pos hg) ?_))|(show aA _ 282 _ _ _;refine CA (h:=PH hx ?_);rw[he])|(show aA _ 258 _ _ _;refine CA (h:=lY (by omega) (by omega) hl hl1 ?_))|(show aA _ 283 _ _ _;refine CA (h:=Jd ?_);rw[hkd]))
  (refine aC ?_;exact aK (aG.trans (by exact aZ) ((cU hok))) (hK))
theorem Is (hw:eS m tt d e≠0) (hK:K (.tuple #[I6 (eS m tt d e),.bool false]) (tO s m::R)):CT 306 #[PO s,.agg #[I6 tt,I6 st,.bool e,.string d,I6 kk,I6 on,I6 w,.bool xx,I6 c,I6 la,I6 nn,.slice pa pn pc]] (tO s m::R) K:=by
 obtain⟨id,own,sta,x,y⟩:=m
 refine m8 fun li t r h=>?_
 refine aA.entK ?_
 cases x with
 |b x=>
  cases y with
  |i y=>cases h.1
  |b y=>
   by_cases h1:tt=0
   ·subst h1
    by_cases h2:sta=1\/sta=2
    ·have h2':XZ ⟨id,own,sta,.b x,.b y⟩=true:=decide_eq_true h2
     simp only[eS,bA,h2'] at hK hw
     cases h3:y.en
     ·by_cases h4:max (y.gr - y.got) 0<d.size
      ·simp[xU,h3,h4] at hK
       exact CA (h:=UJ h2 h3 h4 ⟨_,aG.trans (by exact aZ) (cU (m:=⟨id,own,sta,.b x,.b y⟩) h),hK⟩)
      ·exact absurd (by simp[xU,h3,h4]) hw
     ·simp[xU,h3] at hK
      exact CA (h:=TV h2 h3 ⟨_,aG.trans (by exact aZ) (cU (m:=⟨id,own,sta,.b x,.b y⟩) h),hK⟩)
    ·have h2':XZ ⟨id,own,sta,.b x,.b y⟩=false:=decide_eq_false h2
     simp[eS,bA,h2'] at hK
     exact CA (h:=Ui h2 ⟨_,aG.trans (by exact aZ) (cU (m:=⟨id,own,sta,.b x,.b y⟩) h),hK⟩)
   ·have h1':tt≠bA (.b x) - 1:=h1
    simp only[eS,if_pos h1'] at hK
    exact CA (h:=U5 h1 ⟨_,aG.trans (by exact aZ) (cU (m:=⟨id,own,sta,.b x,.b y⟩) h),hK⟩)
 |i x=>
  cases y with
  |b y=>cases h.1
  |i y=>
   by_cases h1:tt=1
   ·subst h1
    by_cases h2:sta=1\/sta=2
    ·have h2':XZ ⟨id,own,sta,.i x,.i y⟩=true:=decide_eq_true h2
     simp only[eS,bA,h2'] at hK hw
     cases h3:y.en
     ·by_cases h4:(d≠⟨#[]⟩\/e=false)/\y.op<1
      ·simp only[xU,h3,h4] at hK
       exact CA (h:=S1 h2 h3 h4.1 h4.2 ⟨_,aG.trans (by exact aZ) (cU (m:=⟨id,own,sta,.i x,.i y⟩) h),by simpa using hK⟩)
      ·exact absurd (by simp only[xU,h3,h4];simp) hw
     ·simp[xU,h3] at hK
      exact CA (h:=Uo h2 h3 ⟨_,aG.trans (by exact aZ) (cU (m:=⟨id,own,sta,.i x,.i y⟩) h),hK⟩)
    ·have h2':XZ ⟨id,own,sta,.i x,.i y⟩=false:=decide_eq_false h2
     simp[eS,bA,h2'] at hK
     exact CA (h:=Ut h2 ⟨_,aG.trans (by exact aZ) (cU (m:=⟨id,own,sta,.i x,.i y⟩) h),hK⟩)
   ·have h1':tt≠bA (.i x) - 1:=h1
    simp only[eS,if_pos h1'] at hK
    exact CA (h:=U9 h1 ⟨_,aG.trans (by exact aZ) (cU (m:=⟨id,own,sta,.i x,.i y⟩) h),hK⟩)
def KT:Ys->Int
 |.b y=>y.got
 |.i y=>y.ac
theorem Ka (h:sta=1\/sta=2):pU sta e=1\/pU sta e=2\/pU sta e=3\/pU sta e=4:=by
 unfold pU
 rcases h with rfl|rfl <;> cases e <;> simp
theorem Ck (hw:eS m tt d e=0) (hb:KT m.y+d.size<=300000000) (hb2:KT m.y<=290000000) (hK:K (.tuple #[I6 0,.bool true]) (tO s (fV m d e)::R)):CT 306 #[PO s,.agg #[I6 tt,I6 st,.bool e,.string d,I6 kk,I6 on,I6 w,.bool xx,I6 c,I6 la,I6 nn,.slice pa pn pc]] (tO s m::R) K:=by
 obtain⟨id,own,sta,x,y⟩:=m
 refine m8 fun li t r h=>?_
 refine aA.entK ?_
 cases x with
 |b x=>
  cases y with
  |i y=>cases h.1
  |b y=>
   have h1:tt=0:=by
    by_cases h1:tt=0
    ·exact h1
    ·have h1':tt≠bA (.b x) - 1:=h1
     simp only[eS,if_pos h1'] at hw
     cases hw
   subst h1
   have h2:sta=1\/sta=2:=by
    by_cases h2:sta=1\/sta=2
    ·exact h2
    ·have h2':XZ ⟨id,own,sta,.b x,.b y⟩=false:=decide_eq_false h2
     simp[eS,bA,h2'] at hw
   have h2':XZ ⟨id,own,sta,.b x,.b y⟩=true:=decide_eq_true h2
   have h3:y.en=false:=by
    cases h3:y.en
    ·rfl
    ·simp[eS,bA,h2',xU,h3] at hw
   have h4:¬max (y.gr - y.got) 0<d.size:=fun h4=>by
    simp[eS,bA,h2',xU,h3,h4] at hw
   exact CA (h:=ZB h2 h3 (by omega) (by simp only[KT] at hb;omega) ⟨_,aG.trans (by exact aZ) (cU (m:=⟨id,own,pU sta e,.b x,D3 (.b y) d e⟩) ⟨rfl,Ka h2⟩),hK⟩)
 |i x=>
  cases y with
  |b y=>cases h.1
  |i y=>
   obtain⟨mr,room,op,ask,l,ac,tk,dr,en⟩:=y
   have h1:tt=1:=by
    by_cases h1:tt=1
    ·exact h1
    ·have h1':tt≠bA (.i x) - 1:=h1
     simp only[eS,if_pos h1'] at hw
     cases hw
   subst h1
   have h2:sta=1\/sta=2:=by
    by_cases h2:sta=1\/sta=2
    ·exact h2
    ·have h2':XZ ⟨id,own,sta,.i x,.i ⟨mr,room,op,ask,l,ac,tk,dr,en⟩⟩=false:=decide_eq_false h2
     simp[eS,bA,h2'] at hw
   have h2':XZ ⟨id,own,sta,.i x,.i ⟨mr,room,op,ask,l,ac,tk,dr,en⟩⟩=true:=decide_eq_true h2
   have h3:en=false:=by
    cases en
    ·rfl
    ·simp[eS,bA,h2',xU] at hw
   subst h3
   by_cases h5:d≠⟨#[]⟩\/e=false
   ·have h4:¬op<1:=fun h4=>by
     have h6:(d≠⟨#[]⟩\/e=false)/\op<1:=⟨h5,h4⟩
     simp only[eS,bA,h2',xU,h6] at hw
     simp at hw
    simp only[fV,D3,if_pos h5] at hK
    exact CA (h:=Yi (open_:=op) (a1:=ac) h2 rfl h5 (by omega) (by simp only[KT] at hb2;omega) ⟨_,aG.trans (by exact aZ) (cU (m:=⟨id,own,pU sta e,.i x,.i ⟨mr,room,op - 1,ask,l++ [d],ac+1,tk,dr,e⟩⟩) ⟨rfl,Ka h2⟩),hK⟩)
   ·simp only[fV,D3,if_neg h5] at hK
    have hd:d=⟨#[]⟩:=Classical.byContradiction fun q=>h5 (.inl q)
    have he:e=true:=by cases e <;> simp_all
    subst hd he
    exact CA (h:=U7 h2 rfl ⟨_,aG.trans (by exact aZ) (cU (m:=⟨id,own,pU sta true,.i x,.i ⟨mr,room,op,ask,l,ac,tk,dr,true⟩⟩) ⟨rfl,Ka (e:=true) h2⟩),hK⟩)
end Go.Proofs.YtepnmcipkangkaaGreat
namespace Go.Proofs.YtepnmcipkangkaaGreat
open Go Go.Proofs Go.Sl
attribute [local irreducible] aN fJ cY bN aM aS aA dM dN aV dL pt ro fB star sep bF
attribute [local irreducible] mp CV
variable {R C:List HP} {K:KP} {t:Int} {l:List Sm} {m m':Sm} {p a i c n:Nat} {A:Option Addr} {q:List (jN×Sm)}
def cI (t:Int) (l:List Sm):Nat:=(l.takeWhile fun e=>decide (e.id<t)).length
def bY (t:Int) (l:List Sm):Option Sm:=match l[cI t l]? with
 |some e=>if e.id=t then some e else none
 |none=>none
def lB (x:Sm) (l:List Sm):List Sm:=l.take (cI x.id l)++x::l.drop (cI x.id l)
theorem aX (h:bY t l=some m):l[cI t l]?=some m/\m.id=t:=by
 unfold bY at h
 cases hz:l[cI t l]? with
 |none=>rw[hz] at h;cases h
 |some z=>
  rw[hz] at h
  simp only at h
  split at h
  ·rename_i he;cases h;exact⟨rfl,he⟩
  ·cases h
def Hq (l:List Sm):Prop:=l.length<=64/\l.Pairwise fun a b=>a.id<b.id
def SF (e:jN×Sm):HP:=tO e.1.a e.2
def tbI (q:List (jN×Sm)) (l:List Sm):Prop:=q.map Prod.snd=l/\∀e∈q,e.1.id=e.2.id
def JB (p:Nat) (l:List Sm):HP:=fB fun A=>fB fun c=>fB fun q:List (jN×Sm)=>sep (pt p [I6 64,.slice A (q.map Prod.fst).length c] 259) (sep (bV A c 261 fM (q.map Prod.fst)) (sep (eG SF q) (bF (tbI q l))))
def O4 (p:Nat) (l:List Sm) (i a:Nat):HP:=fB fun A=>fB fun c=>fB fun q:List (jN×Sm)=>sep (pt p [I6 64,.slice A (q.map Prod.fst).length c] 259) (sep (bV A c 261 fM (q.map Prod.fst)) (sep (eG SF (q.eraseIdx i)) (bF (tbI q l/\(q.map fun e=>e.1.a)[i]?=some a))))
theorem zQ {ws:List jN} (h:tbI q l) (hw:ws=q.map Prod.fst) (hn:n=ws.length):aG (pt p [I6 64,.slice A n c] 259::bV A c 261 fM ws::eG SF q::R) (JB p l::R):=by
 subst hn hw
 exact aG.ex A (aG.ex c (aG.ex q (rR h)))
theorem s5 {A B D:HP} {p:Prop}:aG (Go.Sl.sep A (Go.Sl.sep B (Go.Sl.sep D (bF p)))::R) (bF p::A::B::D::R):=
 aG.trans (aG.unsep) (aG.trans (aG.cons aG.unsep) (aG.trans (aG.cons (aG.cons aG.unsep)) (fun _ hs=>hs.perm (List.perm_middle (l₁:= [A,B,D])))))
theorem Ag {f:FuncId} {args:Array Value} (h:∀A c (q:List (jN×Sm)),tbI q l->CT f args (pt p [I6 64,.slice A (q.map Prod.fst).length c] 259::bV A c 261 fM (q.map Prod.fst)::eG SF q::R) K):CT f args (JB p l::R) K:=
 aA.ex fun A=>aA.ex fun c=>aA.ex fun q=>aA.ent s5 (aA.pure fun hI=>h A c q hI)
theorem Dw (h:tbI q l):(q.map Prod.fst).length=l.length:=by rw[<- h.1];simp
theorem NK (h:tbI q l) (hp:l.Pairwise fun a b=>a.id<b.id):(q.map Prod.fst).Pairwise fun a b=>a.id<b.id:=by
 rw[<- h.1,List.pairwise_map] at hp
 rw[List.pairwise_map]
 exact hp.imp_of_mem fun ha hb hab=>by rw[h.2 _ ha,h.2 _ hb];exact hab
theorem QI (h:tbI q l) (hi:l[i]?=some m):∃a,q[i]?=some (⟨m.id,a⟩,m):=by
 rw[<- h.1,List.getElem?_map] at hi
 cases hq:q[i]? with
 |none=>rw[hq] at hi;cases hi
 |some e=>
  rw[hq] at hi
  obtain⟨⟨id,a⟩,m'⟩:=e
  cases hi
  have:=h.2 _ (List.mem_of_getElem? hq)
  simp only at this
  subst this
  exact⟨a,rfl⟩
theorem Sq (h:tbI q l):lb t (q.map Prod.fst)=cI t l:=by
 obtain⟨h1,h2⟩:=h
 subst h1
 induction q with
 |nil=>rfl
 |cons e r ih=>
  have he:=h2 e (List.mem_cons_self ..)
  have ih:=ih fun z hz=>h2 z (List.mem_cons_of_mem _ hz)
  unfold lb cI at ih ⊢
  rw[List.map_cons,List.map_cons,List.takeWhile_cons,List.takeWhile_cons,he]
  split
  ·rw[List.length_cons,List.length_cons,ih]
  ·rfl
theorem Aae (h:tbI q l) (hm:bY t l=some m):Xw t (q.map Prod.fst)=true:=by
 obtain⟨h1,h2⟩:=aX hm
 obtain⟨a,ha⟩:=QI h h1
 unfold Xw
 rw[Sq h,List.getElem?_map,ha]
 exact decide_eq_true h2
theorem W9 (h:tbI q l) (hm:bY t l=none):Xw t (q.map Prod.fst)=false:=by
 unfold Xw
 rw[Sq h]
 cases hq:(q.map Prod.fst)[cI t l]? with
 |none=>rfl
 |some e=>
  rw[List.getElem?_map] at hq
  cases hz:q[cI t l]? with
  |none=>rw[hz] at hq;cases hq
  |some z=>
   rw[hz] at hq
   cases hq
   have h1:l[cI t l]?=some z.2:=by
    have e:(q.map Prod.snd)[cI t l]?=some z.2:=by rw[List.getElem?_map,hz];rfl
    rwa[h.1] at e
   have h2:=h.2 _ (List.mem_of_getElem? hz)
   unfold bY at hm
   rw[h1] at hm
   simp only at hm
   split at hm
   ·cases hm
   ·rename_i hne
    exact decide_eq_false (by rw[h2];exact hne)
theorem RN (h:tbI q l) (hi:q[i]?=some (⟨m.id,a⟩,m)):aG (pt p [I6 64,.slice A (q.map Prod.fst).length c] 259::bV A c 261 fM (q.map Prod.fst)::eG SF q::R) (tO a m::O4 p l i a::R):=by
 refine aG.trans (aG.cons (aG.cons (u4 (f:=SF) hi))) ?_
 refine aG.trans (fun _ hs=>hs.perm (List.perm_middle (l₁:= [pt p [I6 64,.slice A (q.map Prod.fst).length c] 259,bV A c 261 fM (q.map Prod.fst)]) (a:=SF (⟨m.id,a⟩,m)))) ?_
 exact aG.cons (aG.ex A (aG.ex c (aG.ex q (rR ⟨h,by rw[List.getElem?_map,hi];rfl⟩))))
theorem VW (hi:l[i]?=some m) (hid:m'.id=m.id):aG (tO a m'::O4 p l i a::R) (JB p (l.set i m')::R):=fun H hs=>by
 have hs:=bW.swap hs
 obtain⟨A,hs⟩:=hs.ex
 obtain⟨c,hs⟩:=hs.ex
 obtain⟨q,hs⟩:=hs.ex
 obtain⟨⟨hI,hA⟩,hs⟩:=(s5 H hs).pure
 obtain⟨a',ha⟩:=QI hI hi
 rw[List.getElem?_map,ha] at hA
 obtain rfl:a=a':=(Option.some.inj hA).symm
 have h1:aG (tO a m'::eG SF (q.eraseIdx i)::R) (eG SF (q.set i (⟨m.id,a⟩,m'))::R):=Fq (f:=SF) (b':=(⟨m.id,a⟩,m')) ha
 have h2:=(hs.perm (List.Perm.cons _ (List.Perm.cons _ (List.Perm.swap _ _ _))))
 have h3:=(aG.cons (aG.cons h1)) H h2
 refine zQ (q:=q.set i (⟨m.id,a⟩,m')) ⟨?_,?_⟩ ?_ rfl H h3
 ·rw[List.map_set,hI.1]
 ·intro e he
  rcases List.mem_or_eq_of_mem_set he with h|h
  ·exact hI.2 e h
  ·rw[h];exact hid.symm
 ·rw[List.map_set]
  exact(k6 _ (by rw[List.getElem?_map,ha];rfl)).symm
theorem Ahv (hi:l[i]?=some m):aG (tO a m::O4 p l i a::R) (JB p l::R):=by
 have h:=VW (p:=p) (a:=a) (R:=R) (m':=m) hi rfl
 rwa[k6 i hi] at h
theorem Ae (hK:K (I6 (l.length:Nat)) (JB p l::R)):CT 60 #[PO p] (JB p l::R) K:=by
 refine Ag fun A c q hI=>?_
 have hl:=Dw hI
 rw[<- hl] at hK
 exact aA.entK (CA (h:=xW ⟨_,aG.trans (by exact aZ) (zQ hI rfl rfl),hK⟩))
theorem oA (hs:Hq l) (hm:bY t l=none) (hK:K (.tuple #[.pointer none,.bool false]) (JB p l::R)):CT 126 #[PO p,I6 t] (JB p l::R) K:=by
 refine Ag fun A c q hI=>?_
 have hl:=Dw hI
 obtain⟨h1,h2⟩:=hs
 exact aA.entK (CA (h:=XW (by omega) (NK hI h2) (W9 hI hm) ⟨_,aG.trans (by exact aZ) (zQ hI rfl rfl),hK⟩))
theorem g9 (hs:Hq l) (hm:bY t l=some m) (hK:∀a,K (.tuple #[PO a,.bool true]) (tO a m::O4 p l (cI t l) a::R)):CT 126 #[PO p,I6 t] (JB p l::R) K:=by
 refine Ag fun A c q hI=>?_
 have hl:=Dw hI
 obtain⟨h1,h2⟩:=hs
 obtain⟨a,ha⟩:=QI hI (aX hm).1
 exact aA.entK (CA (h:=Mc (e:=⟨m.id,a⟩) (by omega) (NK hI h2) (Aae hI hm) (by rw[Sq hI,List.getElem?_map,ha];rfl) ⟨_,aG.trans (by exact aZ) (RN hI ha),hK a⟩))
theorem Ge (hs:Hq l) (hm:l[i]?=some m) (hK:∀a,K (.tuple #[I6 m.id,PO a,.bool true]) (tO a m::O4 p l i a::R)):CT 62 #[PO p,I6 i] (JB p l::R) K:=by
 refine Ag fun A c q hI=>?_
 have hl:=Dw hI
 obtain⟨h1,h2⟩:=hs
 obtain⟨a,ha⟩:=QI hI hm
 exact aA.entK (CA (h:=Ah6 (e:=⟨m.id,a⟩) (by omega) (by rw[List.getElem?_map,ha];rfl) ⟨_,aG.trans (by exact aZ) (RN hI ha),hK a⟩))
theorem W5 (hs:Hq l) (hK:∀B d,K (.slice B (l.map Sm.id).length d) (bV B d 3 pM (l.map Sm.id)::JB p l::R)):CT 125 #[PO p] (JB p l::R) K:=by
 refine Ag fun A c q hI=>?_
 have hl:=Dw hI
 have he:(q.map Prod.fst).map jN.id=l.map Sm.id:=by
  rw[<- hI.1,List.map_map,List.map_map]
  exact List.map_congr_left fun e he=>hI.2 e he
 have hlen:(l.map Sm.id).length=(q.map Prod.fst).length:=by rw[hl,List.length_map]
 rw[hlen] at hK
 refine aA.entK (CA (h:=Afp (l:=q.map Prod.fst) (by have:=hs.1;omega) (fun B d=>?_)))
 rw[he]
 exact⟨_,aG.cons (aG.trans (by exact aZ) (zQ hI rfl rfl)),hK B d⟩
theorem Aku (hs:Hq l) (hm:bY m.id l=none) (h64:l.length<64) (hK:K (I6 0) (JB p (lB m l)::R)):CT 233 #[PO p,I6 m.id,PO a] (tO a m::JB p l::R) K:=by
 refine aA.ent (fun _ h=>bW.swap h) ?_
 refine Ag fun A c q hI=>?_
 have hl:=Dw hI
 obtain⟨h1,h2⟩:=hs
 have hix:=Sq (t:=m.id) hI
 have hins:aG (tO a m::eG SF q::R) (eG SF (q.take (cI m.id l)++(⟨m.id,a⟩,m)::q.drop (cI m.id l))::R):=Md (f:=SF) (b:=(⟨m.id,a⟩,m))
 refine aA.entK (CA (h:=Aas (a:=a) (by omega) (NK hI h2) (W9 hI hm) (by omega) (fun A' c'=>⟨_,aG.trans (by exact aZ) (aG.trans (aG.cons (aG.cons hins)) (zQ (q:=q.take (cI m.id l)++(⟨m.id,a⟩,m)::q.drop (cI m.id l)) ⟨?_,?_⟩ ?_ ?_)),hK⟩)))
 ·rw[List.map_append,List.map_cons,List.map_take,List.map_drop,hI.1];rfl
 ·intro e he
  rcases List.mem_append.1 he with he|he
  ·exact hI.2 e (List.mem_of_mem_take he)
  ·rcases List.mem_cons.1 he with rfl|he
   ·rfl
   ·exact hI.2 e (List.mem_of_mem_drop he)
 ·unfold Aac
  rw[hix,List.map_append,List.map_cons,List.map_take,List.map_drop]
 ·unfold Aac
  have:=Wi m.id (q.map Prod.fst)
  simp only[List.length_append,List.length_cons,List.length_take,List.length_drop]
  omega
theorem Ajn (hs:Hq l) (hm:bY t l=some m) (hK:∀v,K v (JB p (l.eraseIdx (cI t l))::R)):CT 349 #[PO p,I6 t] (JB p l::R) K:=by
 refine Ag fun A c q hI=>?_
 have hl:=Dw hI
 obtain⟨h1,h2⟩:=hs
 obtain⟨a,ha⟩:=QI hI (aX hm).1
 have hix:=Sq (t:=t) hI
 have hlt:=(List.getElem?_eq_some_iff.1 ha).1
 refine aA.entK (CA (h:=X9 (e:=⟨m.id,a⟩) (by omega) (NK hI h2) (Aae hI hm) (by rw[hix,List.getElem?_map,ha];rfl) (fun A' c'=>⟨_,aG.trans (by exact aZ) (aG.trans (aG.cons (aG.cons (aG.trans (u4 (f:=SF) ha) (aG.drop (aG.refl _))))) (zQ (q:=q.eraseIdx (cI t l)) ⟨?_,?_⟩ ?_ ?_)),hK _⟩)))
 ·rw[<- nZ,hI.1]
 ·exact fun e he=>hI.2 e (List.mem_of_mem_eraseIdx he)
 ·rw[hix,nZ]
 ·rw[List.length_eraseIdx,if_pos (by rw[hix,List.length_map];exact hlt)]
end Go.Proofs.YtepnmcipkangkaaGreat
