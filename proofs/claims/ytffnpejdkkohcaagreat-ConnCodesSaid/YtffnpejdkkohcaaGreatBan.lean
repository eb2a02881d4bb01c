/- A part of the proof: lemmas; each with the conditions that it states. -/
import Derived.Test.YtffnpejdkkohcaaGreatBaz
import Derived.Test.YtffnpejdkkohcaaGreatBax
import Derived.Test.YtffnpejdkkohcaaGreatBao
set_option linter.unusedVariables false
set_option linter.unusedSimpArgs false
set_option maxRecDepth 100000
set_option maxHeartbeats 40000000
namespace Go.Proofs.YtffnpejdkkohcaaGreat
open Go Go.Proofs Go.Sl
attribute [local irreducible] aM eY cU bQ aL aW aA dS dT aZ dR pt ro fN star sep bH
variable {R C:List HP} {K:KP} {s li t r cap:Nat} {id sta ac se dr w0 sg n mr room open_ ask a1 t1 d1:Int} {own en ou b ren:Bool} {l rl:List ByteArray} {d:ByteArray}
theorem We (hb:(decide (sta=4) && decide (rl= []))=b) (hK:K (.bool b) (pt s [PO li,PO t,PO r,I6 id,.bool own] 206::p6 li sta::xQ r mr room open_ ask rl a1 t1 d1 ren::R)):CT 168 #[PO s] (pt s [PO li,PO t,PO r,I6 id,.bool own] 206::p6 li sta::xQ r mr room open_ ask rl a1 t1 d1 ren::R) K:=by
 subst hb
 by_cases h:sta=4
 ·have hd:(sta == 4)=true:=by simpa using h
  refine aJ Tryz.func168 ?_
  repeat' (first|(show cU _ _ _;rw[hd])|refine I3 ?_|refine w5 ?_ ?_|((refine bh fun h=>?_) <;> try exact w6 h)|(refine aF fun hA=>?_;subst hA)|intro _|(show aA _ 251 _ _ _;refine CA (h:=D1 ?_))|(show aA _ 68 _ _ _;refine CA (h:=uD ?_)))
  all_goals(refine aC ?_;exact aB (kb hK (by cases rl <;> simp[h] <;> omega)))
 ·have hd:(sta == 4)=false:=by simpa using h
  refine aJ Tryz.func168 ?_
  repeat' (first|(show cU _ _ _;rw[hd])|refine I3 ?_|refine w5 ?_ ?_|((refine bh fun h=>?_) <;> try exact w6 h)|(refine aF fun hA=>?_;subst hA)|intro _|(show aA _ 251 _ _ _;refine CA (h:=D1 ?_))|(show aA _ 68 _ _ _;refine CA (h:=uD ?_)))
  all_goals(refine aC ?_;exact aB (kb hK (by simp[h])))
end Go.Proofs.YtffnpejdkkohcaaGreat
namespace Go.Proofs.YtffnpejdkkohcaaGreat
open Go Go.Proofs Go.Sl
structure XB where
 cap:Nat
 bs:List UInt8
 en:Bool
 ou:Bool
 ac:Int
 se:Int
 dr:Int
structure XI where
 cap:Nat
 st:Int
 l:List ByteArray
 w:Int
 en:Bool
 ou:Bool
 ac:Int
 se:Int
 dr:Int
inductive Xs where
 |b (x:XB)
 |i (x:XI)
structure YB where
 cap:Int
 most:Int
 gr:Int
 got:Int
 us:Int
 bs:List UInt8
 en:Bool
structure YI where
 mr:Int
 room:Int
 op:Int
 ask:Int
 l:List ByteArray
 ac:Int
 tk:Int
 dr:Int
 en:Bool
inductive Ys where
 |b (y:YB)
 |i (y:YI)
structure Sm where
 id:Int
 own:Bool
 sta:Int
 x:Xs
 y:Ys
def bA:Xs->Int
 |.b _=>1
 |.i _=>2
def FD:Xs->ByteArray->Int
 |.b x,d=>(EK x.cap x.bs x.en d:Nat)
 |.i x,d=>if x.en=true\/256<d.size then 0 else if x.l.length<x.cap then 1 else if x.st=0 then 0 else if x.st=1\/x.cap=0 then 2 else 3
def FL:Xs->ByteArray->Int
 |.b x,_=>if x.en=true then 11 else 0
 |.i x,d=>if x.en=true then 11 else if 256<d.size then 4 else if x.l.length<x.cap then 0 else if x.st=0 then 9 else 0
def zI:Xs->ByteArray->Xs
 |.b x,d=>.b { x with bs:=x.bs++d.data.toList.take (EK x.cap x.bs x.en d),ac:=x.ac+(EK x.cap x.bs x.en d:Nat) }
 |.i x,d=>.i (if x.en=true\/256<d.size then x else if x.l.length<x.cap then { x with l:=x.l++ [d],ac:=x.ac+1 } else if x.st=0 then x else if x.st=1\/x.cap=0 then { x with ac:=x.ac+1,dr:=x.dr+1 } else { x with l:=x.l.tail++ [d],ac:=x.ac+1,dr:=x.dr+1 })
def Als:Xs->Int
 |.b x=>if x.en=true then 11 else 0
 |.i x=>if x.en=true then 11 else 0
def R6:Xs->Xs
 |.b x=>.b { x with en:=true }
 |.i x=>.i { x with en:=true }
def OM:Xs->Int->Bool
 |.b x,n=>rdB x.bs x.en x.ou n
 |.i x,_=>Is x.l x.w x.en x.ou
def HC:Xs->Nat
 |.b x=>x.bs.length
 |.i x=>x.l.length
def Acy (x:Xs) (n:Int):Bool:=decide (0<HC x) && !OM x n
def iL:Xs->Int->ByteArray
 |.b x,n=>⟨(x.bs.take (B5 x.bs n)).toArray⟩
 |.i x,_=>match x.l with
  | []=>⟨#[]⟩
  |s::_=>s
def BY:Xs->Int->Bool
 |.b x,n=>x.en && decide (x.bs.drop (B5 x.bs n)= [])
 |.i x,_=>match x.l with
  | []=>true
  |_::_=>false
def xTk:Xs->Int->Xs
 |.b x,n=>.b { x with bs:=x.bs.drop (B5 x.bs n),ou:=x.en && decide (x.bs.drop (B5 x.bs n)= []),se:=x.se+(B5 x.bs n:Nat) }
 |.i x,_=>match x.l with
  | []=>.i { x with ou:=true }
  |_::r=>.i { x with l:=r,w:=x.w - 1,ou:=false,se:=x.se+1 }
def Cv:Xs->Int->Int
 |.b _,_=>13
 |.i _,n=>if 1<=n then 0 else 2
def mF:Xs->Int->Xs
 |.b x,_=>.b x
 |.i x,n=>.i (if 1<=n then { x with w:=x.w+min n (2147483647 - x.w) } else x)
def Ag3:Xs->Xs
 |.b x=>.b { x with bs:= [],dr:=x.dr+x.bs.length }
 |.i x=>.i { x with l:= [],dr:=x.dr+x.l.length }
def K0:Xs->Int
 |.b x=>x.ac
 |.i x=>x.ac
def xSe:Xs->Int
 |.b x=>x.se
 |.i x=>x.se
def xDr:Xs->Int
 |.b x=>x.dr
 |.i x=>x.dr
def jH:Ys->Int
 |.b _=>1
 |.i _=>2
def L3 (y:YB) (n:Int):Nat:=(max (min n y.bs.length) 0).toNat
def OV:Ys->Int
 |.b _=>0
 |.i _=>13
def BN:Ys->Int->ByteArray
 |.b y,n=>⟨(y.bs.take (L3 y n)).toArray⟩
 |.i _,_=>⟨#[]⟩
def Es:Ys->Int->Ys
 |.b y,n=>.b { y with us:=y.us+(L3 y n:Nat),bs:=y.bs.drop (L3 y n) }
 |.i y,_=>.i y
def Aih:Ys->Int
 |.b _=>13
 |.i _=>0
def Ams:Ys->ByteArray
 |.b _=>⟨#[]⟩
 |.i y=>match y.l with
  | []=>⟨#[]⟩
  |s::_=>s
def Akt:Ys->Bool
 |.b _=>false
 |.i y=>match y.l with
  | []=>false
  |_::_=>true
def Ng:Ys->Ys
 |.b y=>.b y
 |.i y=>match y.l with
  | []=>.i y
  |_::r=>.i { y with l:=r,tk:=y.tk+1 }
def Ak7:Ys->Int->Int
 |.b _,_=>13
 |.i _,n=>if 1<=n then 0 else 2
def SI:Ys->Int->Ys
 |.b y,_=>.b y
 |.i y,n=>.i (if 1<=n then { y with ask:=y.ask+min n (2147483647 - y.ask) } else y)
def gH:Ys->Nat
 |.b y=>y.bs.length
 |.i y=>y.l.length
def yEn:Ys->Bool
 |.b y=>y.en
 |.i y=>y.en
def IW (y:Ys):Bool:=yEn y && decide (gH y=0)
def GV:Ys->Int
 |.b y=>uF y.cap y.gr y.us
 |.i y=>x7 y.room y.op y.ask y.l
def yGr:Ys->Ys
 |.b y=>.b { y with gr:=y.gr+uF y.cap y.gr y.us }
 |.i y=>.i { y with op:=y.op+x7 y.room y.op y.ask y.l,ask:=y.ask - x7 y.room y.op y.ask y.l }
def tY:Ys->dI->Ys
 |.b y,s=>.b { y with cap:=s.w,most:=max y.most s.w,gr:=y.gr+(s.w - y.cap) }
 |.i y,s=>.i { y with mr:=max y.mr s.it,room:=s.it }
def Eh:Ys->Ys
 |.b y=>.b { y with us:=y.us+y.bs.length,bs:= [] }
 |.i y=>.i { y with l:= [],dr:=y.dr+y.l.length }
def u4:Ys->ByteArray->Bool->Int
 |.b y,d,_=>if y.en=true then 7 else if max (y.gr - y.got) 0<d.size then 8 else 0
 |.i y,d,e=>if y.en=true then 7 else if(d≠⟨#[]⟩\/e=false)/\y.op<1 then 10 else 0
def xH:Ys->ByteArray->Bool->Ys
 |.b y,d,e=>.b { y with got:=y.got+d.size,bs:=y.bs++d.data.toList,en:=e }
 |.i y,d,e=>.i (if d≠⟨#[]⟩\/e=false then { y with op:=y.op - 1,l:=y.l++ [d],ac:=y.ac+1,en:=e } else { y with en:=true })
def VN (s:Sm):Bool:=decide (s.sta=1\/s.sta=3)
def SY (s:Sm):Bool:=decide (s.sta=1\/s.sta=2)
def SZ (s:Sm) (d:ByteArray):Int:=if VN s=true then FD s.x d else 0
def T2 (s:Sm) (d:ByteArray):Int:=if VN s=true then FL s.x d else 14
def zN (s:Sm) (d:ByteArray):Sm:=if VN s=true then { s with x:=zI s.x d } else s
def Ali (s:Sm):Int:=if VN s=true then Als s.x else 14
def E7 (s:Sm):Sm:=if VN s=true then { s with x:=R6 s.x } else s
def Hm (s:Sm) (n:Int):Bool:=VN s && OM s.x n
def CX (s:Sm) (n:Int):Sm:=if Hm s n=true then { s with sta:=Jc s.sta (BY s.x n),x:=xTk s.x n } else s
def dO (s:Sm) (t:Int) (d:ByteArray) (e:Bool):Int:=if t≠bA s.x - 1 then 6 else if SY s=false then 7 else u4 s.y d e
def eB (s:Sm) (d:ByteArray) (e:Bool):Sm:= { s with sta:=lW s.sta e,y:=xH s.y d e }
def TX (s:Sm):Bool:=decide (s.sta=1\/s.sta=2\/s.sta=3)
def Je (s:Sm):Int:=if TX s=true then(match s.y with
 |.b y=>y.bs.length
 |.i _=>0) else 0
def BR (s:Sm):Sm:=if TX s=true then { s with sta:=4,x:=Ag3 s.x,y:=Eh s.y } else s
def DF (s:Sm):Bool:=decide (s.sta=4) && decide (gH s.y=0)
def x6 (s:Sm):Prop:=bA s.x=jH s.y/\(s.sta=1\/s.sta=2\/s.sta=3\/s.sta=4)
end Go.Proofs.YtffnpejdkkohcaaGreat
namespace Go.Proofs.YtffnpejdkkohcaaGreat
open Go Go.Proofs Go.Sl
attribute [local irreducible] aM eY cU bQ aL aW aA dS dT aZ dR pt ro fN star sep bH
variable {R C:List HP} {K:KP} {t r s li pn pc:Nat} {x:Xs} {y:Ys} {n id sta tt st kk on w c la nn:Int} {d:ByteArray} {e own xx:Bool} {m:Sm} {f:FuncId} {args:Array Value} {pa:Option Addr}
def B9 (t:Nat):Xs->HP
 |.b x=>yZ t x.cap x.bs x.en x.ou x.ac x.se x.dr
 |.i x=>rN t x.cap x.st x.l x.w x.en x.ou x.ac x.se x.dr
def F2 (r:Nat):Ys->HP
 |.b y=>zE r y.cap y.most y.gr y.got y.us y.bs y.en
 |.i y=>xQ r y.mr y.room y.op y.ask y.l y.ac y.tk y.dr y.en
theorem XD (hK:K (.agg #[I6 (K0 x),I6 (xSe x),I6 (xDr x)]) (B9 t x::R)):CT 65 #[PO t] (B9 t x::R) K:=by
 cases x with
 |b x=>exact QB hK
 |i x=>exact Rq hK
theorem Afd (hK:K (.bool (OM x n)) (B9 t x::R)):CT 211 #[PO t,I6 n] (B9 t x::R) K:=by
 cases x with
 |b x=>exact O7 hK
 |i x=>exact Ph hK
theorem Afm (hK:K (.bool (Acy x n)) (B9 t x::R)):CT 134 #[PO t,I6 n] (B9 t x::R) K:=by
 cases x with
 |b x=>exact Pb hK
 |i x=>exact O5 hK
theorem Pf (hK:K (I6 (Cv x n)) (B9 t (mF x n)::R)):CT 278 #[PO t,I6 n] (B9 t x::R) K:=by
 cases x with
 |b x=>exact QY hK
 |i x=>
  by_cases h:1<=n
  ·simp only[Cv,mF,if_pos h] at hK
   exact R7 h hK
  ·simp only[Cv,mF,if_neg h] at hK
   exact P9 (by omega) hK
theorem Abf (hK:K (I6 (gH y:Nat)) (F2 r y::R)):CT 68 #[PO r] (F2 r y::R) K:=by
 cases y with
 |b y=>exact uI hK
 |i y=>exact uD hK
theorem YP (hK:K (.bool (IW y)) (F2 r y::R)):CT 88 #[PO r] (F2 r y::R) K:=by
 cases y with
 |b y=>
  refine QS ?_
  rw[show(y.en && decide (y.bs= []))=IW (.b y) by simp[IW,yEn,gH]]
  exact hK
 |i y=>
  refine QP ?_
  rw[show(y.en && decide (y.l= []))=IW (.i y) by simp[IW,yEn,gH]]
  exact hK
theorem Qc (hK:K (.tuple #[.string (BN y n),I6 (OV y)]) (F2 r (Es y n)::R)):CT 86 #[PO r,I6 n] (F2 r y::R) K:=by
 cases y with
 |b y=>exact SC (kk:=L3 y n) (by unfold L3;omega) hK
 |i y=>exact Rl hK
theorem JU (hK:K (I6 (GV y)) (F2 r (yGr y)::R)):CT 141 #[PO r] (F2 r y::R) K:=by
 cases y with
 |b y=>exact Oh hK
 |i y=>exact O2 hK
theorem Agm {s:dI} (hs:pP s.w s.st s.it=true) (hK:K (I6 0) (F2 r (tY y s)::R)):CT 187 #[PO r,.agg #[I6 s.w,I6 s.st,I6 s.it]] (F2 r y::R) K:=by
 cases y with
 |b y=>exact Mr hs hK
 |i y=>exact L6 hs hK
theorem Adg (hK:K (I6 (gH y:Nat)) (F2 r (Eh y)::R)):CT 272 #[PO r] (F2 r y::R) K:=by
 cases y with
 |b y=>exact FH hK
 |i y=>exact FB hK
def sR (s:Nat) (m:Sm):HP:=fN fun li=>fN fun t=>fN fun r=>sep (pt s [PO li,PO t,PO r,I6 m.id,.bool m.own] 206) (sep (p6 li m.sta) (sep (B9 t m.x) (sep (F2 r m.y) (bH (x6 m)))))
theorem Sp {A B D E:HP} {p:Prop} (h:p->CT f args (A::B::D::E::R) K):CT f args (sep A (sep B (sep D (sep E (bH p))))::R) K:=
 aA.ent sD (aA.pure fun hI=>h hI)
theorem cX (h:x6 m):aG (pt s [PO li,PO t,PO r,I6 m.id,.bool m.own] 206::p6 li m.sta::B9 t m.x::F2 r m.y::R) (sR s m::R):=
 aG.ex li (aG.ex t (aG.ex r (KL h)))
theorem nI (h:∀li t r,x6 m->CT f args (pt s [PO li,PO t,PO r,I6 m.id,.bool m.own] 206::p6 li m.sta::B9 t m.x::F2 r m.y::R) K):CT f args (sR s m::R) K:=
 aA.ex fun li=>aA.ex fun t=>aA.ex fun r=>Sp fun hI=>h li t r hI
theorem Ads (hb:K0 x+d.size<=800000000) (hb2:K0 x<=700000000) (hK:K (.tuple #[I6 (FD x d),I6 (FL x d)]) (B9 t (zI x d)::R)):CT 164 #[PO t,.string d] (B9 t x::R) K:=by
 cases x with
 |b x=>exact Wj (by simp only[K0] at hb;omega) hK
 |i x=>
  obtain⟨cap,st,l,w,en,ou,ac,se,dr⟩:=x
  simp only[K0] at hb hb2
  cases en with
  |true=>
   simp only[FD,FL,zI,true_or,if_true] at hK
   exact Q9 rfl hK
  |false=>
   change CT 164 #[PO t,.string d] (rN t cap st l w false ou ac se dr::R) K
   by_cases h1:256<d.size
   ·simp only[FD,FL,zI,h1,or_true,if_true,Bool.false_eq_true,if_false] at hK
    exact Sk rfl h1 hK
   ·by_cases h2:l.length<cap
    ·simp only[FD,FL,zI,h1,h2,or_self,Bool.false_eq_true,if_false,if_true] at hK
     exact RF rfl (by omega) h2 (by omega) hK
    ·by_cases h3:st=0
     ·simp only[FD,FL,zI,h1,h2,h3,or_self,Bool.false_eq_true,if_false,if_true] at hK
      exact Q2 rfl (by omega) (by omega) h3 (by subst h3;exact hK)
     ·by_cases h4:st=1\/cap=0
      ·simp only[FD,FL,zI,h1,h2,h3,h4,or_self,Bool.false_eq_true,if_false,if_true] at hK
       exact Sa rfl (by omega) (by omega) h3 h4 (by omega) hK
      ·simp only[FD,FL,zI,h1,h2,h3,h4,or_self,Bool.false_eq_true,if_false] at hK
       cases l with
       |nil=>simp at h2;omega
       |cons s0 l=>exact RO rfl (by omega) (by omega) h3 (fun q=>h4 (.inl q)) (fun q=>h4 (.inr q)) (by omega) hK
theorem Oa (hr:OM x n=true) (hK:K (.tuple #[.string (iL x n),.bool (BY x n),.bool true]) (B9 t (xTk x n)::R)):CT 229 #[PO t,I6 n] (B9 t x::R) K:=by
 cases x with
 |b x=>exact QX hr hK
 |i x=>
  obtain⟨cap,st,l,w,en,ou,ac,se,dr⟩:=x
  cases l with
  |nil=>exact Nl hr hK
  |cons s l=>
   have hw:0<w:=by simpa[OM,Is] using hr
   exact Qq hw hK
theorem zZ (hK:K (.bool m.own) (sR s m::R)):CT 129 #[PO s] (sR s m::R) K:=by
 refine nI fun li t r h=>?_
 exact aA.entK (CA (h:=Afy ⟨_,aG.trans (by exact bE) (cX h),hK⟩))
theorem L9 (hK:K (I6 m.id) (sR s m::R)):CT 170 #[PO s] (sR s m::R) K:=by
 refine nI fun li t r h=>?_
 exact aA.entK (CA (h:=Aht ⟨_,aG.trans (by exact bE) (cX h),hK⟩))
theorem rL (hK:K (I6 (bA x)) (pt s [PO li,PO t,PO r,I6 id,.bool own] 206::B9 t x::R)):CT 139 #[PO s] (pt s [PO li,PO t,PO r,I6 id,.bool own] 206::B9 t x::R) K:=by
 cases x with
 |b x=>exact Ew hK
 |i x=>exact ER hK
theorem lA (hK:K (I6 (bA m.x)) (sR s m::R)):CT 139 #[PO s] (sR s m::R) K:=by
 refine nI fun li t r h=>?_
 exact aA.entK (CA (h:=rL ⟨_,aG.trans (by exact bE) (cX h),hK⟩))
theorem QO (hK:K (I6 (bA x - 1)) (pt s [PO li,PO t,PO r,I6 id,.bool own] 206::B9 t x::R)):CT 231 #[PO s] (pt s [PO li,PO t,PO r,I6 id,.bool own] 206::B9 t x::R) K:=by
 cases x with
 |b x=>
  refine aJ Tryz.func231 ?_
  repeat' (first|refine v3 ?_|refine w5 ?_ ?_|((refine bh fun h=>?_) <;> try exact w6 h)|(refine aF fun hA=>?_;subst hA)|intro _|(show aA _ 139 _ _ _;refine CA (h:=rL (x:=.b x) ?_);simp only[bA]))
  (refine aC ?_;exact aB (hK))
 |i x=>
  refine aJ Tryz.func231 ?_
  repeat' (first|refine v3 ?_|refine w5 ?_ ?_|((refine bh fun h=>?_) <;> try exact w6 h)|(refine aF fun hA=>?_;subst hA)|intro _|(show aA _ 139 _ _ _;refine CA (h:=rL (x:=.i x) ?_);simp only[bA]))
  (refine aC ?_;exact aB (hK))
theorem Aa8 (hb:K0 m.x+d.size<=800000000) (hb2:K0 m.x<=700000000) (hK:K (.tuple #[I6 (SZ m d),I6 (T2 m d)]) (sR s (zN m d)::R)):CT 85 #[PO s,.string d] (sR s m::R) K:=by
 obtain⟨id,own,sta,x,y⟩:=m
 refine nI fun li t r h=>?_
 by_cases hg:sta=1\/sta=3
 ·have hg':VN ⟨id,own,sta,x,y⟩=true:=decide_eq_true hg
  simp only[SZ,T2,zN,if_pos hg'] at hK
  have hk:bA (zI x d)=bA x:=by cases x <;> rfl
  have hok:x6 ⟨id,own,sta,zI x d,y⟩:=⟨hk.trans h.1,h.2⟩
  refine aJ Tryz.func85 ?_
  repeat' (first|refine TO ?_|refine w5 ?_ ?_|((refine bh fun h=>?_) <;> try exact w6 h)|(refine aF fun hA=>?_;subst hA)|intro _|(show aA _ 163 _ _ _;refine CA (h:=Bl (if_pos hg) ?_))|(show aA _ 164 _ _ _;refine CA (h:=Ads hb hb2 ?_)))
  (refine aC ?_;exact aQ (aG.trans (by exact bE) ((cX hok))) (hK))
 ·have hg':VN ⟨id,own,sta,x,y⟩=false:=decide_eq_false hg
  simp only[SZ,T2,zN,hg',Bool.false_eq_true,if_false] at hK
  refine aJ Tryz.func85 ?_
  repeat' (first|refine TO ?_|refine w5 ?_ ?_|((refine bh fun h=>?_) <;> try exact w6 h)|(refine aF fun hA=>?_;subst hA)|intro _|(show aA _ 163 _ _ _;refine CA (h:=Bl (if_neg hg) ?_)))
  (refine aC ?_;exact aQ (aG.trans (by exact bE) ((cX h))) (hK))
theorem J7 (hK:K (.bool (DF m)) (sR s m::R)):CT 168 #[PO s] (sR s m::R) K:=by
 obtain⟨id,own,sta,x,y⟩:=m
 refine nI fun li t r h=>?_
 cases y with
 |b y=>
  have e:(decide (sta=4) && decide (y.bs= []))=DF ⟨id,own,sta,x,.b y⟩:=by simp[DF,gH]
  exact aA.entK (CA (h:=Vo e ⟨_,aG.trans (by exact bE) (cX (m:=⟨id,own,sta,x,.b y⟩) h),hK⟩))
 |i y=>
  have e:(decide (sta=4) && decide (y.l= []))=DF ⟨id,own,sta,x,.i y⟩:=by simp[DF,gH]
  exact aA.entK (CA (h:=We e ⟨_,aG.trans (by exact bE) (cX (m:=⟨id,own,sta,x,.i y⟩) h),hK⟩))
theorem N1 {ev:Int} (he:ev=4\/ev=5) (hK:K (I6 (Je m)) (sR s (BR m)::R)):CT 271 #[PO s,I6 ev] (sR s m::R) K:=by
 obtain⟨id,own,sta,x,y⟩:=m
 refine nI fun li t r h=>?_
 by_cases hg:sta=1\/sta=2\/sta=3
 ·have hg':TX ⟨id,own,sta,x,y⟩=true:=decide_eq_true hg
  simp only[Je,BR,if_pos hg'] at hK
  obtain⟨hk,hs⟩:=h
  cases x with
  |b x=>
   cases y with
   |b y=>exact aA.entK (CA (h:=YT he hg ⟨_,aG.trans (by exact bE) (cX (m:=⟨id,own,4,Ag3 (.b x),Eh (.b y)⟩) ⟨rfl,.inr (.inr (.inr rfl))⟩),hK⟩))
   |i y=>cases hk
  |i x=>
   cases y with
   |b y=>cases hk
   |i y=>exact aA.entK (CA (h:=Abx he hg ⟨_,aG.trans (by exact bE) (cX (m:=⟨id,own,4,Ag3 (.i x),Eh (.i y)⟩) ⟨rfl,.inr (.inr (.inr rfl))⟩),hK⟩))
 ·have hg':TX ⟨id,own,sta,x,y⟩=false:=decide_eq_false hg
  simp only[Je,BR,hg',Bool.false_eq_true,if_false] at hK
  exact aA.entK (CA (h:=Acb he (by rcases h.2 with h|h|h|h <;> first|exact h|(exfalso;exact hg (by simp only at h;omega))) ⟨_,aG.trans (by exact bE) (cX (m:=⟨id,own,sta,x,y⟩) h),hK⟩))
def BQ:List (Nat×Nat):= [(0,0),(1,1),(2,1),(3,1),(4,1),(5,1),(6,1),(7,1),(8,0),(9,1)]
theorem H4 {r2 r3 r4:Nat} (hK:K (.agg #[I6 (bA x - 1),I6 id,.bool e,.string d,I6 0,I6 0,I6 0,.bool false,I6 0,I6 0,I6 0,.slice none 0 0]) (pt r2 [PO s] 100::pt r3 [.string d] 9::pt r4 [.bool e] 4::pt s [PO li,PO t,PO r,I6 id,.bool own] 206::B9 t x::R)):CT 230 #[PO r2,PO r3,PO r4] (pt r2 [PO s] 100::pt r3 [.string d] 9::pt r4 [.bool e] 4::pt s [PO li,PO t,PO r,I6 id,.bool own] 206::B9 t x::R) K:=by
 refine aJ Tryz.func230 ?_
 repeat' (first|refine Qo ?_|refine dw BQ ?_|refine w5 ?_ ?_|((refine bh fun h=>?_) <;> try exact w6 h)|(refine aF fun hA=>?_;subst hA)|intro _|(show aA _ 231 _ _ _;refine CA (h:=QO ?_)))
 (refine aC ?_;exact aB (hK))
theorem Dw:bA (xTk x n)=bA x:=by
 cases x with
 |b x=>rfl
 |i x=>
  obtain⟨cap,st,l,w,en,ou,ac,se,dr⟩:=x
  cases l <;> rfl
theorem Bd (hr:Hm m n=true) (hK:K (.tuple #[.agg #[I6 (bA m.x - 1),I6 m.id,.bool (BY m.x n),.string (iL m.x n),I6 0,I6 0,I6 0,.bool false,I6 0,I6 0,I6 0,.slice none 0 0],.bool true]) (sR s (CX m n)::R)):CT 145 #[PO s,I6 n] (sR s m::R) K:=by
 simp only[CX,if_pos hr] at hK
 obtain⟨id,own,sta,x,y⟩:=m
 have hr':=hr
 simp only[Hm,VN,Bool.and_eq_true,decide_eq_true_eq] at hr'
 obtain⟨hg,hx⟩:=hr'
 refine nI fun li t r h=>?_
 have hso:∀b,Jc sta b=1\/Jc sta b=2\/Jc sta b=3\/Jc sta b=4:=fun b=>by
  unfold Jc
  rcases hg with rfl|rfl <;> cases b <;> simp
 have hok:x6 ⟨id,own,Jc sta (BY x n),xTk x n,y⟩:=⟨Dw.trans h.1,hso _⟩
 have hkd:=Dw (x:=x) (n:=n)
 simp only at hK
 cases he:BY x n
 ·rw[he] at hK hok
  have e0:Jc sta false=sta:=rfl
  rw[e0] at hK hok
  refine aJ Tryz.func145 ?_
  repeat' (first|refine v96 ?_|refine w5 ?_ ?_|((refine bh fun h=>?_) <;> try exact w6 h)|(refine aF fun hA=>?_;subst hA)|intro _|(show aA _ 163 _ _ _;refine CA (h:=Bl (if_pos hg) ?_))|(show aA _ 229 _ _ _;refine CA (h:=Oa hx ?_);rw[he])|(show aA _ 230 _ _ _;refine CA (h:=H4 ?_);rw[hkd]))
  (refine aC ?_;exact aQ (aG.trans (by exact bE) ((cX hok))) (hK))
 ·rw[he] at hK hok
  have hl:xK sta 2=Jc sta true:=by rcases hg with rfl|rfl <;> rfl
  have hl1:Jc sta true≠-1:=by rcases hg with rfl|rfl <;> decide
  refine aJ Tryz.func145 ?_
  repeat' (first|refine v96 ?_|refine w5 ?_ ?_|((refine bh fun h=>?_) <;> try exact w6 h)|(refine aF fun hA=>?_;subst hA)|intro _|(show aA _ 163 _ _ _;refine CA (h:=Bl (if_pos hg) ?_))|(show aA _ 229 _ _ _;refine CA (h:=Oa hx ?_);rw[he])|(show aA _ 174 _ _ _;refine CA (h:=k9 (by omega) (by omega) hl hl1 ?_))|(show aA _ 230 _ _ _;refine CA (h:=H4 ?_);rw[hkd]))
  (refine aC ?_;exact aQ (aG.trans (by exact bE) ((cX hok))) (hK))
theorem GZ (hw:dO m tt d e≠0) (hK:K (.tuple #[I6 (dO m tt d e),.bool false]) (sR s m::R)):CT 198 #[PO s,.agg #[I6 tt,I6 st,.bool e,.string d,I6 kk,I6 on,I6 w,.bool xx,I6 c,I6 la,I6 nn,.slice pa pn pc]] (sR s m::R) K:=by
 obtain⟨id,own,sta,x,y⟩:=m
 refine nI fun li t r h=>?_
 refine aA.entK ?_
 cases x with
 |b x=>
  cases y with
  |i y=>cases h.1
  |b y=>
   by_cases h1:tt=0
   ·subst h1
    by_cases h2:sta=1\/sta=2
    ·have h2':SY ⟨id,own,sta,.b x,.b y⟩=true:=decide_eq_true h2
     simp only[dO,bA,h2'] at hK hw
     cases h3:y.en
     ·by_cases h4:max (y.gr - y.got) 0<d.size
      ·simp[u4,h3,h4] at hK
       exact CA (h:=R5 h2 h3 h4 ⟨_,aG.trans (by exact bE) (cX (m:=⟨id,own,sta,.b x,.b y⟩) h),hK⟩)
      ·exact absurd (by simp[u4,h3,h4]) hw
     ·simp[u4,h3] at hK
      exact CA (h:=Q4 h2 h3 ⟨_,aG.trans (by exact bE) (cX (m:=⟨id,own,sta,.b x,.b y⟩) h),hK⟩)
    ·have h2':SY ⟨id,own,sta,.b x,.b y⟩=false:=decide_eq_false h2
     simp[dO,bA,h2'] at hK
     exact CA (h:=QV h2 ⟨_,aG.trans (by exact bE) (cX (m:=⟨id,own,sta,.b x,.b y⟩) h),hK⟩)
   ·have h1':tt≠bA (.b x) - 1:=h1
    simp only[dO,if_pos h1'] at hK
    exact CA (h:=Rk h1 ⟨_,aG.trans (by exact bE) (cX (m:=⟨id,own,sta,.b x,.b y⟩) h),hK⟩)
 |i x=>
  cases y with
  |b y=>cases h.1
  |i y=>
   by_cases h1:tt=1
   ·subst h1
    by_cases h2:sta=1\/sta=2
    ·have h2':SY ⟨id,own,sta,.i x,.i y⟩=true:=decide_eq_true h2
     simp only[dO,bA,h2'] at hK hw
     cases h3:y.en
     ·by_cases h4:(d≠⟨#[]⟩\/e=false)/\y.op<1
      ·simp only[u4,h3,h4] at hK
       exact CA (h:=QT h2 h3 h4.1 h4.2 ⟨_,aG.trans (by exact bE) (cX (m:=⟨id,own,sta,.i x,.i y⟩) h),by simpa using hK⟩)
      ·exact absurd (by simp only[u4,h3,h4];simp) hw
     ·simp[u4,h3] at hK
      exact CA (h:=Qu h2 h3 ⟨_,aG.trans (by exact bE) (cX (m:=⟨id,own,sta,.i x,.i y⟩) h),hK⟩)
    ·have h2':SY ⟨id,own,sta,.i x,.i y⟩=false:=decide_eq_false h2
     simp[dO,bA,h2'] at hK
     exact CA (h:=SK h2 ⟨_,aG.trans (by exact bE) (cX (m:=⟨id,own,sta,.i x,.i y⟩) h),hK⟩)
   ·have h1':tt≠bA (.i x) - 1:=h1
    simp only[dO,if_pos h1'] at hK
    exact CA (h:=Ss h1 ⟨_,aG.trans (by exact bE) (cX (m:=⟨id,own,sta,.i x,.i y⟩) h),hK⟩)
def Jk:Ys->Int
 |.b y=>y.got
 |.i y=>y.ac
theorem Ii (h:sta=1\/sta=2):lW sta e=1\/lW sta e=2\/lW sta e=3\/lW sta e=4:=by
 unfold lW
 rcases h with rfl|rfl <;> cases e <;> simp
theorem Bg (hw:dO m tt d e=0) (hb:Jk m.y+d.size<=300000000) (hb2:Jk m.y<=290000000) (hK:K (.tuple #[I6 0,.bool true]) (sR s (eB m d e)::R)):CT 198 #[PO s,.agg #[I6 tt,I6 st,.bool e,.string d,I6 kk,I6 on,I6 w,.bool xx,I6 c,I6 la,I6 nn,.slice pa pn pc]] (sR s m::R) K:=by
 obtain⟨id,own,sta,x,y⟩:=m
 refine nI fun li t r h=>?_
 refine aA.entK ?_
 cases x with
 |b x=>
  cases y with
  |i y=>cases h.1
  |b y=>
   have h1:tt=0:=by
    by_cases h1:tt=0
    ·exact h1
    ·have h1':tt≠bA (.b x) - 1:=h1
     simp only[dO,if_pos h1'] at hw
     cases hw
   subst h1
   have h2:sta=1\/sta=2:=by
    by_cases h2:sta=1\/sta=2
    ·exact h2
    ·have h2':SY ⟨id,own,sta,.b x,.b y⟩=false:=decide_eq_false h2
     simp[dO,bA,h2'] at hw
   have h2':SY ⟨id,own,sta,.b x,.b y⟩=true:=decide_eq_true h2
   have h3:y.en=false:=by
    cases h3:y.en
    ·rfl
    ·simp[dO,bA,h2',u4,h3] at hw
   have h4:¬max (y.gr - y.got) 0<d.size:=fun h4=>by
    simp[dO,bA,h2',u4,h3,h4] at hw
   exact CA (h:=Va h2 h3 (by omega) (by simp only[Jk] at hb;omega) ⟨_,aG.trans (by exact bE) (cX (m:=⟨id,own,lW sta e,.b x,xH (.b y) d e⟩) ⟨rfl,Ii h2⟩),hK⟩)
 |i x=>
  cases y with
  |b y=>cases h.1
  |i y=>
   obtain⟨mr,room,op,ask,l,ac,tk,dr,en⟩:=y
   have h1:tt=1:=by
    by_cases h1:tt=1
    ·exact h1
    ·have h1':tt≠bA (.i x) - 1:=h1
     simp only[dO,if_pos h1'] at hw
     cases hw
   subst h1
   have h2:sta=1\/sta=2:=by
    by_cases h2:sta=1\/sta=2
    ·exact h2
    ·have h2':SY ⟨id,own,sta,.i x,.i ⟨mr,room,op,ask,l,ac,tk,dr,en⟩⟩=false:=decide_eq_false h2
     simp[dO,bA,h2'] at hw
   have h2':SY ⟨id,own,sta,.i x,.i ⟨mr,room,op,ask,l,ac,tk,dr,en⟩⟩=true:=decide_eq_true h2
   have h3:en=false:=by
    cases en
    ·rfl
    ·simp[dO,bA,h2',u4] at hw
   subst h3
   by_cases h5:d≠⟨#[]⟩\/e=false
   ·have h4:¬op<1:=fun h4=>by
     have h6:(d≠⟨#[]⟩\/e=false)/\op<1:=⟨h5,h4⟩
     simp only[dO,bA,h2',u4,h6] at hw
     simp at hw
    simp only[eB,xH,if_pos h5] at hK
    exact CA (h:=VG (open_:=op) (a1:=ac) h2 rfl h5 (by omega) (by simp only[Jk] at hb2;omega) ⟨_,aG.trans (by exact bE) (cX (m:=⟨id,own,lW sta e,.i x,.i ⟨mr,room,op - 1,ask,l++ [d],ac+1,tk,dr,e⟩⟩) ⟨rfl,Ii h2⟩),hK⟩)
   ·simp only[eB,xH,if_neg h5] at hK
    have hd:d=⟨#[]⟩:=Classical.byContradiction fun q=>h5 (.inl q)
    have he:e=true:=by cases e <;> simp_all
    subst hd he
    exact CA (h:=SG h2 rfl ⟨_,aG.trans (by exact bE) (cX (m:=⟨id,own,lW sta true,.i x,.i ⟨mr,room,op,ask,l,ac,tk,dr,true⟩⟩) ⟨rfl,Ii (e:=true) h2⟩),hK⟩)
end Go.Proofs.YtffnpejdkkohcaaGreat
namespace Go.Proofs.YtffnpejdkkohcaaGreat
open Go Go.Proofs Go.Sl
attribute [local irreducible] aM eY cU bQ aL aW aA dS dT aZ dR pt ro fN star sep bH
attribute [local irreducible] mp FV
variable {R C:List HP} {K:KP} {t:Int} {l:List Sm} {m m':Sm} {p a i c n:Nat} {A:Option Addr} {q:List (jR×Sm)}
def cB (t:Int) (l:List Sm):Nat:=(l.takeWhile fun e=>decide (e.id<t)).length
def bX (t:Int) (l:List Sm):Option Sm:=match l[cB t l]? with
 |some e=>if e.id=t then some e else none
 |none=>none
def jT (x:Sm) (l:List Sm):List Sm:=l.take (cB x.id l)++x::l.drop (cB x.id l)
theorem aX (h:bX t l=some m):l[cB t l]?=some m/\m.id=t:=by
 unfold bX at h
 cases hz:l[cB t l]? with
 |none=>rw[hz] at h;cases h
 |some z=>
  rw[hz] at h
  simp only at h
  split at h
  ·rename_i he;cases h;exact⟨rfl,he⟩
  ·cases h
def Ga (l:List Sm):Prop:=l.length<=64/\l.Pairwise fun a b=>a.id<b.id
def Qn (e:jR×Sm):HP:=sR e.1.a e.2
def Z8 (q:List (jR×Sm)) (l:List Sm):Prop:=q.map Prod.snd=l/\∀e∈q,e.1.id=e.2.id
def HT (p:Nat) (l:List Sm):HP:=fN fun A=>fN fun c=>fN fun q:List (jR×Sm)=>sep (pt p [I6 64,.slice A (q.map Prod.fst).length c] 172) (sep (bU A c 203 fL (q.map Prod.fst)) (sep (eC Qn q) (bH (Z8 q l))))
def Na (p:Nat) (l:List Sm) (i a:Nat):HP:=fN fun A=>fN fun c=>fN fun q:List (jR×Sm)=>sep (pt p [I6 64,.slice A (q.map Prod.fst).length c] 172) (sep (bU A c 203 fL (q.map Prod.fst)) (sep (eC Qn (q.eraseIdx i)) (bH (Z8 q l/\(q.map fun e=>e.1.a)[i]?=some a))))
theorem yE {ws:List jR} (h:Z8 q l) (hw:ws=q.map Prod.fst) (hn:n=ws.length):aG (pt p [I6 64,.slice A n c] 172::bU A c 203 fL ws::eC Qn q::R) (HT p l::R):=by
 subst hn hw
 exact aG.ex A (aG.ex c (aG.ex q (qU h)))
theorem sK {A B D:HP} {p:Prop}:aG (Go.Sl.sep A (Go.Sl.sep B (Go.Sl.sep D (bH p)))::R) (bH p::A::B::D::R):=
 aG.trans (aG.unsep) (aG.trans (aG.cons aG.unsep) (aG.trans (aG.cons (aG.cons aG.unsep)) (fun _ hs=>hs.perm (List.perm_middle (l₁:= [A,B,D])))))
theorem yM {f:FuncId} {args:Array Value} (h:∀A c (q:List (jR×Sm)),Z8 q l->CT f args (pt p [I6 64,.slice A (q.map Prod.fst).length c] 172::bU A c 203 fL (q.map Prod.fst)::eC Qn q::R) K):CT f args (HT p l::R) K:=
 aA.ex fun A=>aA.ex fun c=>aA.ex fun q=>aA.ent sK (aA.pure fun hI=>h A c q hI)
theorem CP (h:Z8 q l):(q.map Prod.fst).length=l.length:=by rw[<- h.1];simp
theorem MX (h:Z8 q l) (hp:l.Pairwise fun a b=>a.id<b.id):(q.map Prod.fst).Pairwise fun a b=>a.id<b.id:=by
 rw[<- h.1,List.pairwise_map] at hp
 rw[List.pairwise_map]
 exact hp.imp_of_mem fun ha hb hab=>by rw[h.2 _ ha,h.2 _ hb];exact hab
theorem ND (h:Z8 q l) (hi:l[i]?=some m):∃a,q[i]?=some (⟨m.id,a⟩,m):=by
 rw[<- h.1,List.getElem?_map] at hi
 cases hq:q[i]? with
 |none=>rw[hq] at hi;cases hi
 |some e=>
  rw[hq] at hi
  obtain⟨⟨id,a⟩,m'⟩:=e
  cases hi
  have:=h.2 _ (List.mem_of_getElem? hq)
  simp only at this
  subst this
  exact⟨a,rfl⟩
theorem Pq (h:Z8 q l):lb t (q.map Prod.fst)=cB t l:=by
 obtain⟨h1,h2⟩:=h
 subst h1
 induction q with
 |nil=>rfl
 |cons e r ih=>
  have he:=h2 e (List.mem_cons_self ..)
  have ih:=ih fun z hz=>h2 z (List.mem_cons_of_mem _ hz)
  unfold lb cB at ih ⊢
  rw[List.map_cons,List.map_cons,List.takeWhile_cons,List.takeWhile_cons,he]
  split
  ·rw[List.length_cons,List.length_cons,ih]
  ·rfl
theorem Acd (h:Z8 q l) (hm:bX t l=some m):U6 t (q.map Prod.fst)=true:=by
 obtain⟨h1,h2⟩:=aX hm
 obtain⟨a,ha⟩:=ND h h1
 unfold U6
 rw[Pq h,List.getElem?_map,ha]
 exact decide_eq_true h2
theorem Ut (h:Z8 q l) (hm:bX t l=none):U6 t (q.map Prod.fst)=false:=by
 unfold U6
 rw[Pq h]
 cases hq:(q.map Prod.fst)[cB t l]? with
 |none=>rfl
 |some e=>
  rw[List.getElem?_map] at hq
  cases hz:q[cB t l]? with
  |none=>rw[hz] at hq;cases hq
  |some z=>
   rw[hz] at hq
   cases hq
   have h1:l[cB t l]?=some z.2:=by
    have e:(q.map Prod.snd)[cB t l]?=some z.2:=by rw[List.getElem?_map,hz];rfl
    rwa[h.1] at e
   have h2:=h.2 _ (List.mem_of_getElem? hz)
   unfold bX at hm
   rw[h1] at hm
   simp only at hm
   split at hm
   ·cases hm
   ·rename_i hne
    exact decide_eq_false (by rw[h2];exact hne)
theorem NE (h:Z8 q l) (hi:q[i]?=some (⟨m.id,a⟩,m)):aG (pt p [I6 64,.slice A (q.map Prod.fst).length c] 172::bU A c 203 fL (q.map Prod.fst)::eC Qn q::R) (sR a m::Na p l i a::R):=by
 refine aG.trans (aG.cons (aG.cons (tO (f:=Qn) hi))) ?_
 refine aG.trans (fun _ hs=>hs.perm (List.perm_middle (l₁:= [pt p [I6 64,.slice A (q.map Prod.fst).length c] 172,bU A c 203 fL (q.map Prod.fst)]) (a:=Qn (⟨m.id,a⟩,m)))) ?_
 exact aG.cons (aG.ex A (aG.ex c (aG.ex q (qU ⟨h,by rw[List.getElem?_map,hi];rfl⟩))))
theorem S7 (hi:l[i]?=some m) (hid:m'.id=m.id):aG (sR a m'::Na p l i a::R) (HT p (l.set i m')::R):=fun H hs=>by
 have hs:=bZ.swap hs
 obtain⟨A,hs⟩:=hs.ex
 obtain⟨c,hs⟩:=hs.ex
 obtain⟨q,hs⟩:=hs.ex
 obtain⟨⟨hI,hA⟩,hs⟩:=(sK H hs).pure
 obtain⟨a',ha⟩:=ND hI hi
 rw[List.getElem?_map,ha] at hA
 obtain rfl:a=a':=(Option.some.inj hA).symm
 have h1:aG (sR a m'::eC Qn (q.eraseIdx i)::R) (eC Qn (q.set i (⟨m.id,a⟩,m'))::R):=Ej (f:=Qn) (b':=(⟨m.id,a⟩,m')) ha
 have h2:=(hs.perm (List.Perm.cons _ (List.Perm.cons _ (List.Perm.swap _ _ _))))
 have h3:=(aG.cons (aG.cons h1)) H h2
 refine yE (q:=q.set i (⟨m.id,a⟩,m')) ⟨?_,?_⟩ ?_ rfl H h3
 ·rw[List.map_set,hI.1]
 ·intro e he
  rcases List.mem_or_eq_of_mem_set he with h|h
  ·exact hI.2 e h
  ·rw[h];exact hid.symm
 ·rw[List.map_set]
  exact(kB _ (by rw[List.getElem?_map,ha];rfl)).symm
theorem Ag8 (hi:l[i]?=some m):aG (sR a m::Na p l i a::R) (HT p l::R):=by
 have h:=S7 (p:=p) (a:=a) (R:=R) (m':=m) hi rfl
 rwa[kB i hi] at h
theorem yF (hK:K (I6 (l.length:Nat)) (HT p l::R)):CT 61 #[PO p] (HT p l::R) K:=by
 refine yM fun A c q hI=>?_
 have hl:=CP hI
 rw[<- hl] at hK
 exact aA.entK (CA (h:=wY ⟨_,aG.trans (by exact bE) (yE hI rfl rfl),hK⟩))
theorem mY (hs:Ga l) (hm:bX t l=none) (hK:K (.tuple #[.pointer none,.bool false]) (HT p l::R)):CT 144 #[PO p,I6 t] (HT p l::R) K:=by
 refine yM fun A c q hI=>?_
 have hl:=CP hI
 obtain⟨h1,h2⟩:=hs
 exact aA.entK (CA (h:=W3 (by omega) (MX hI h2) (Ut hI hm) ⟨_,aG.trans (by exact bE) (yE hI rfl rfl),hK⟩))
theorem gG (hs:Ga l) (hm:bX t l=some m) (hK:∀a,K (.tuple #[PO a,.bool true]) (sR a m::Na p l (cB t l) a::R)):CT 144 #[PO p,I6 t] (HT p l::R) K:=by
 refine yM fun A c q hI=>?_
 have hl:=CP hI
 obtain⟨h1,h2⟩:=hs
 obtain⟨a,ha⟩:=ND hI (aX hm).1
 exact aA.entK (CA (h:=JZ (e:=⟨m.id,a⟩) (by omega) (MX hI h2) (Acd hI hm) (by rw[Pq hI,List.getElem?_map,ha];rfl) ⟨_,aG.trans (by exact bE) (NE hI ha),hK a⟩))
theorem Fq (hs:Ga l) (hm:l[i]?=some m) (hK:∀a,K (.tuple #[I6 m.id,PO a,.bool true]) (sR a m::Na p l i a::R)):CT 63 #[PO p,I6 i] (HT p l::R) K:=by
 refine yM fun A c q hI=>?_
 have hl:=CP hI
 obtain⟨h1,h2⟩:=hs
 obtain⟨a,ha⟩:=ND hI hm
 exact aA.entK (CA (h:=Agp (e:=⟨m.id,a⟩) (by omega) (by rw[List.getElem?_map,ha];rfl) ⟨_,aG.trans (by exact bE) (NE hI ha),hK a⟩))
theorem Lx (hs:Ga l) (hK:∀B d,K (.slice B (l.map Sm.id).length d) (bU B d 3 mI (l.map Sm.id)::HT p l::R)):CT 69 #[PO p] (HT p l::R) K:=by
 refine yM fun A c q hI=>?_
 have hl:=CP hI
 have he:(q.map Prod.fst).map jR.id=l.map Sm.id:=by
  rw[<- hI.1,List.map_map,List.map_map]
  exact List.map_congr_left fun e he=>hI.2 e he
 have hlen:(l.map Sm.id).length=(q.map Prod.fst).length:=by rw[hl,List.length_map]
 rw[hlen] at hK
 refine aA.entK (CA (h:=Acf (l:=q.map Prod.fst) (by have:=hs.1;omega) (fun B d=>?_)))
 rw[he]
 exact⟨_,aG.cons (aG.trans (by exact bE) (yE hI rfl rfl)),hK B d⟩
theorem Agz (hs:Ga l) (hm:bX m.id l=none) (h64:l.length<64) (hK:K (I6 0) (HT p (jT m l)::R)):CT 159 #[PO p,I6 m.id,PO a] (sR a m::HT p l::R) K:=by
 refine aA.ent (fun _ h=>bZ.swap h) ?_
 refine yM fun A c q hI=>?_
 have hl:=CP hI
 obtain⟨h1,h2⟩:=hs
 have hix:=Pq (t:=m.id) hI
 have hins:aG (sR a m::eC Qn q::R) (eC Qn (q.take (cB m.id l)++(⟨m.id,a⟩,m)::q.drop (cB m.id l))::R):=J2 (f:=Qn) (b:=(⟨m.id,a⟩,m))
 refine aA.entK (CA (h:=Acg (a:=a) (by omega) (MX hI h2) (Ut hI hm) (by omega) (fun A' c'=>⟨_,aG.trans (by exact bE) (aG.trans (aG.cons (aG.cons hins)) (yE (q:=q.take (cB m.id l)++(⟨m.id,a⟩,m)::q.drop (cB m.id l)) ⟨?_,?_⟩ ?_ ?_)),hK⟩)))
 ·rw[List.map_append,List.map_cons,List.map_take,List.map_drop,hI.1];rfl
 ·intro e he
  rcases List.mem_append.1 he with he|he
  ·exact hI.2 e (List.mem_of_mem_take he)
  ·rcases List.mem_cons.1 he with rfl|he
   ·rfl
   ·exact hI.2 e (List.mem_of_mem_drop he)
 ·unfold Yj
  rw[hix,List.map_append,List.map_cons,List.map_take,List.map_drop]
 ·unfold Yj
  have:=TE m.id (q.map Prod.fst)
  simp only[List.length_append,List.length_cons,List.length_take,List.length_drop]
  omega
theorem Afb (hs:Ga l) (hm:bX t l=some m) (hK:∀v,K v (HT p (l.eraseIdx (cB t l))::R)):CT 252 #[PO p,I6 t] (HT p l::R) K:=by
 refine yM fun A c q hI=>?_
 have hl:=CP hI
 obtain⟨h1,h2⟩:=hs
 obtain⟨a,ha⟩:=ND hI (aX hm).1
 have hix:=Pq (t:=t) hI
 have hlt:=(List.getElem?_eq_some_iff.1 ha).1
 refine aA.entK (CA (h:=W4 (e:=⟨m.id,a⟩) (by omega) (MX hI h2) (Acd hI hm) (by rw[hix,List.getElem?_map,ha];rfl) (fun A' c'=>⟨_,aG.trans (by exact bE) (aG.trans (aG.cons (aG.cons (aG.trans (tO (f:=Qn) ha) (aG.drop (aG.refl _))))) (yE (q:=q.eraseIdx (cB t l)) ⟨?_,?_⟩ ?_ ?_)),hK _⟩)))
 ·rw[<- m8,hI.1]
 ·exact fun e he=>hI.2 e (List.mem_of_mem_eraseIdx he)
 ·rw[hix,m8]
 ·rw[List.length_eraseIdx,if_pos (by rw[hix,List.length_map];exact hlt)]
end Go.Proofs.YtffnpejdkkohcaaGreat
