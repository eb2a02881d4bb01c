/- A part of the proof: lemmas; each with the conditions that it states. -/
import Derived.Test.YtepnmcipkangkaaGreatCba
import Derived.Test.YtepnmcipkangkaaGreatCax
import Derived.Test.YtepnmcipkangkaaGreatCam
import Derived.Test.YtepnmcipkangkaaGreatCao
set_option linter.unusedVariables false
set_option linter.unusedSimpArgs false
set_option maxRecDepth 100000
set_option maxHeartbeats 40000000
namespace Go.Proofs.YtepnmcipkangkaaGreat
open Go Go.Proofs Go.Sl
attribute [local irreducible] aN fL cL bM aL aR aA dJ dK aU dI pt ro fC star sep bF
variable {R C:List HP} {K:KP} {s li t r cap:Nat} {id sta ac se dr w0 sg n mr room open_ ask a1 t1 d1:Int} {own en ou b ren:Bool} {l rl:List ByteArray} {d:ByteArray}
theorem YQ (hb:(decide (sta=4) && decide (rl= []))=b) (hK:K (.bool b) (pt s [PO li,PO t,PO r,I6 id,.bool own] 223::qU li sta::uB r mr room open_ ask rl a1 t1 d1 ren::R)):CT 242 #[PO s] (pt s [PO li,PO t,PO r,I6 id,.bool own] 223::qU li sta::uB r mr room open_ ask rl a1 t1 d1 ren::R) K:=by
 subst hb
 by_cases h:sta=4
 ·have hd:(sta == 4)=true:=by simpa using h
  refine aH Tryz.func242 ?_
  repeat' (first|(show cL _ _ _;rw[hd])|refine J5 ?_|refine w5 ?_ ?_|((refine bh fun h=>?_) <;> try exact w6 h)|(refine aE fun hA=>?_;subst hA)|intro _|(show aA _ 348 _ _ _;refine CA (h:=D6 ?_))|(show aA _ 64 _ _ _;refine CA (h:=vJ ?_)))
  all_goals(refine aC ?_;exact aB (kb hK (by cases rl <;> simp[h] <;> omega)))
 ·have hd:(sta == 4)=false:=by simpa using h
  refine aH Tryz.func242 ?_
  repeat' (first|(show cL _ _ _;rw[hd])|refine J5 ?_|refine w5 ?_ ?_|((refine bh fun h=>?_) <;> try exact w6 h)|(refine aE fun hA=>?_;subst hA)|intro _|(show aA _ 348 _ _ _;refine CA (h:=D6 ?_))|(show aA _ 64 _ _ _;refine CA (h:=vJ ?_)))
  all_goals(refine aC ?_;exact aB (kb hK (by simp[h])))
end Go.Proofs.YtepnmcipkangkaaGreat
namespace Go.Proofs.YtepnmcipkangkaaGreat
open Go Go.Proofs Go.Sl
structure XB where
 cap:Nat
 bs:List UInt8
 en:Bool
 ou:Bool
 ac:Int
 se:Int
 dr:Int
structure XI where
 cap:Nat
 st:Int
 l:List ByteArray
 w:Int
 en:Bool
 ou:Bool
 ac:Int
 se:Int
 dr:Int
inductive Xs where
 |b (x:XB)
 |i (x:XI)
structure YB where
 cap:Int
 most:Int
 gr:Int
 got:Int
 us:Int
 bs:List UInt8
 en:Bool
structure YI where
 mr:Int
 room:Int
 op:Int
 ask:Int
 l:List ByteArray
 ac:Int
 tk:Int
 dr:Int
 en:Bool
inductive Ys where
 |b (y:YB)
 |i (y:YI)
structure Sm where
 id:Int
 own:Bool
 sta:Int
 x:Xs
 y:Ys
def bA:Xs->Int
 |.b _=>1
 |.i _=>2
def GR:Xs->ByteArray->Int
 |.b x,d=>(FB x.cap x.bs x.en d:Nat)
 |.i x,d=>if x.en=true\/256<d.size then 0 else if x.l.length<x.cap then 1 else if x.st=0 then 0 else if x.st=1\/x.cap=0 then 2 else 3
def GT:Xs->ByteArray->Int
 |.b x,_=>if x.en=true then 11 else 0
 |.i x,d=>if x.en=true then 11 else if 256<d.size then 4 else if x.l.length<x.cap then 0 else if x.st=0 then 9 else 0
def AR:Xs->ByteArray->Xs
 |.b x,d=>.b { x with bs:=x.bs++d.data.toList.take (FB x.cap x.bs x.en d),ac:=x.ac+(FB x.cap x.bs x.en d:Nat) }
 |.i x,d=>.i (if x.en=true\/256<d.size then x else if x.l.length<x.cap then { x with l:=x.l++ [d],ac:=x.ac+1 } else if x.st=0 then x else if x.st=1\/x.cap=0 then { x with ac:=x.ac+1,dr:=x.dr+1 } else { x with l:=x.l.tail++ [d],ac:=x.ac+1,dr:=x.dr+1 })
def Al1:Xs->Int
 |.b x=>if x.en=true then 11 else 0
 |.i x=>if x.en=true then 11 else 0
def Ko:Xs->Xs
 |.b x=>.b { x with en:=true }
 |.i x=>.i { x with en:=true }
def Pt:Xs->Int->Bool
 |.b x,n=>rdB x.bs x.en x.ou n
 |.i x,_=>IR x.l x.w x.en x.ou
def JX:Xs->Nat
 |.b x=>x.bs.length
 |.i x=>x.l.length
def Ahc (x:Xs) (n:Int):Bool:=decide (0<JX x) && !Pt x n
def iP:Xs->Int->ByteArray
 |.b x,n=>⟨(x.bs.take (CS x.bs n)).toArray⟩
 |.i x,_=>match x.l with
  | []=>⟨#[]⟩
  |s::_=>s
def Be:Xs->Int->Bool
 |.b x,n=>x.en && decide (x.bs.drop (CS x.bs n)= [])
 |.i x,_=>match x.l with
  | []=>true
  |_::_=>false
def xTk:Xs->Int->Xs
 |.b x,n=>.b { x with bs:=x.bs.drop (CS x.bs n),ou:=x.en && decide (x.bs.drop (CS x.bs n)= []),se:=x.se+(CS x.bs n:Nat) }
 |.i x,_=>match x.l with
  | []=>.i { x with ou:=true }
  |_::r=>.i { x with l:=r,w:=x.w - 1,ou:=false,se:=x.se+1 }
def Fz:Xs->Int->Int
 |.b _,_=>13
 |.i _,n=>if 1<=n then 0 else 2
def qA:Xs->Int->Xs
 |.b x,_=>.b x
 |.i x,n=>.i (if 1<=n then { x with w:=x.w+min n (2147483647 - x.w) } else x)
def Ag8:Xs->Xs
 |.b x=>.b { x with bs:= [],dr:=x.dr+x.bs.length }
 |.i x=>.i { x with l:= [],dr:=x.dr+x.l.length }
def L3:Xs->Int
 |.b x=>x.ac
 |.i x=>x.ac
def xSe:Xs->Int
 |.b x=>x.se
 |.i x=>x.se
def xDr:Xs->Int
 |.b x=>x.dr
 |.i x=>x.dr
def jZ:Ys->Int
 |.b _=>1
 |.i _=>2
def MD (y:YB) (n:Int):Nat:=(max (min n y.bs.length) 0).toNat
def Pb:Ys->Int
 |.b _=>0
 |.i _=>13
def CI:Ys->Int->ByteArray
 |.b y,n=>⟨(y.bs.take (MD y n)).toArray⟩
 |.i _,_=>⟨#[]⟩
def Fi:Ys->Int->Ys
 |.b y,n=>.b { y with us:=y.us+(MD y n:Nat),bs:=y.bs.drop (MD y n) }
 |.i y,_=>.i y
def ZB:Ys->Int
 |.b _=>13
 |.i _=>0
def Ank:Ys->ByteArray
 |.b _=>⟨#[]⟩
 |.i y=>match y.l with
  | []=>⟨#[]⟩
  |s::_=>s
def Afe:Ys->Bool
 |.b _=>false
 |.i y=>match y.l with
  | []=>false
  |_::_=>true
def FC:Ys->Ys
 |.b y=>.b y
 |.i y=>match y.l with
  | []=>.i y
  |_::r=>.i { y with l:=r,tk:=y.tk+1 }
def V9:Ys->Int->Int
 |.b _,_=>13
 |.i _,n=>if 1<=n then 0 else 2
def G7:Ys->Int->Ys
 |.b y,_=>.b y
 |.i y,n=>.i (if 1<=n then { y with ask:=y.ask+min n (2147483647 - y.ask) } else y)
def iD:Ys->Nat
 |.b y=>y.bs.length
 |.i y=>y.l.length
def yEn:Ys->Bool
 |.b y=>y.en
 |.i y=>y.en
def IK (y:Ys):Bool:=yEn y && decide (iD y=0)
def PZ:Ys->Int
 |.b y=>y.gr - y.us
 |.i y=>y.op
def G3:Ys->Int
 |.b y=>rQ y.cap y.gr y.us
 |.i y=>xO y.room y.op y.ask y.l
def yGr:Ys->Ys
 |.b y=>.b { y with gr:=y.gr+rQ y.cap y.gr y.us }
 |.i y=>.i { y with op:=y.op+xO y.room y.op y.ask y.l,ask:=y.ask - xO y.room y.op y.ask y.l }
def Ex:Ys->dR->Ys
 |.b y,s=>.b { y with cap:=s.w,most:=max y.most s.w,gr:=y.gr+(s.w - y.cap) }
 |.i y,s=>.i { y with mr:=max y.mr s.it,room:=s.it }
def EK:Ys->Ys
 |.b y=>.b { y with us:=y.us+y.bs.length,bs:= [] }
 |.i y=>.i { y with l:= [],dr:=y.dr+y.l.length }
def xW:Ys->ByteArray->Bool->Int
 |.b y,d,_=>if y.en=true then 7 else if max (y.gr - y.got) 0<d.size then 8 else 0
 |.i y,d,e=>if y.en=true then 7 else if(d≠⟨#[]⟩\/e=false)/\y.op<1 then 10 else 0
def Dv:Ys->ByteArray->Bool->Ys
 |.b y,d,e=>.b { y with got:=y.got+d.size,bs:=y.bs++d.data.toList,en:=e }
 |.i y,d,e=>.i (if d≠⟨#[]⟩\/e=false then { y with op:=y.op - 1,l:=y.l++ [d],ac:=y.ac+1,en:=e } else { y with en:=true })
def Sw (s:Sm):Bool:=decide (s.sta=1\/s.sta=3)
def YG (s:Sm):Bool:=decide (s.sta=1\/s.sta=2)
def WC (s:Sm) (d:ByteArray):Int:=if Sw s=true then GR s.x d else 0
def Wr (s:Sm) (d:ByteArray):Int:=if Sw s=true then GT s.x d else 14
def Bw (s:Sm) (d:ByteArray):Sm:=if Sw s=true then { s with x:=AR s.x d } else s
def Va (s:Sm):Int:=if Sw s=true then Al1 s.x else 14
def Bl (s:Sm):Sm:=if Sw s=true then { s with x:=Ko s.x } else s
def IP (s:Sm) (n:Int):Bool:=Sw s && Pt s.x n
def DL (s:Sm) (n:Int):Sm:=if IP s n=true then { s with sta:=Ki s.sta (Be s.x n),x:=xTk s.x n } else s
def eT (s:Sm) (t:Int) (d:ByteArray) (e:Bool):Int:=if t≠bA s.x - 1 then 6 else if YG s=false then 7 else xW s.y d e
def fX (s:Sm) (d:ByteArray) (e:Bool):Sm:= { s with sta:=pW s.sta e,y:=Dv s.y d e }
def U6 (s:Sm):Bool:=decide (s.sta=1\/s.sta=2\/s.sta=3)
def Kx (s:Sm):Int:=if U6 s=true then(match s.y with
 |.b y=>y.bs.length
 |.i _=>0) else 0
def CG (s:Sm):Sm:=if U6 s=true then { s with sta:=4,x:=Ag8 s.x,y:=EK s.y } else s
def Jo (s:Sm):Bool:=decide (s.sta=4) && decide (iD s.y=0)
def xV (s:Sm):Prop:=bA s.x=jZ s.y/\(s.sta=1\/s.sta=2\/s.sta=3\/s.sta=4)
end Go.Proofs.YtepnmcipkangkaaGreat
namespace Go.Proofs.YtepnmcipkangkaaGreat
open Go Go.Proofs Go.Sl
attribute [local irreducible] aN fL cL bM aL aR aA dJ dK aU dI pt ro fC star sep bF
variable {R C:List HP} {K:KP} {t r s li pn pc:Nat} {x:Xs} {y:Ys} {n id sta tt st kk on w c la nn:Int} {d:ByteArray} {e own xx:Bool} {m:Sm} {f:FuncId} {args:Array Value} {pa:Option Addr}
def BX (t:Nat):Xs->HP
 |.b x=>zF t x.cap x.bs x.en x.ou x.ac x.se x.dr
 |.i x=>rV t x.cap x.st x.l x.w x.en x.ou x.ac x.se x.dr
def Cs (r:Nat):Ys->HP
 |.b y=>xN r y.cap y.most y.gr y.got y.us y.bs y.en
 |.i y=>uB r y.mr y.room y.op y.ask y.l y.ac y.tk y.dr y.en
theorem Acp (hK:K (.agg #[I6 (L3 x),I6 (xSe x),I6 (xDr x)]) (BX t x::R)):CT 43 #[PO t] (BX t x::R) K:=by
 cases x with
 |b x=>exact Uo hK
 |i x=>exact SH hK
theorem Ahi (hK:K (.bool (Pt x n)) (BX t x::R)):CT 267 #[PO t,I6 n] (BX t x::R) K:=by
 cases x with
 |b x=>exact QL hK
 |i x=>exact Qg hK
theorem Ahb (hK:K (.bool (Ahc x n)) (BX t x::R)):CT 181 #[PO t,I6 n] (BX t x::R) K:=by
 cases x with
 |b x=>exact Qq hK
 |i x=>exact OW hK
theorem R4 (hK:K (I6 (Fz x n)) (BX t (qA x n)::R)):CT 390 #[PO t,I6 n] (BX t x::R) K:=by
 cases x with
 |b x=>exact S3 hK
 |i x=>
  by_cases h:1<=n
  ·simp only[Fz,qA,if_pos h] at hK
   exact SK h hK
  ·simp only[Fz,qA,if_neg h] at hK
   exact RO (by omega) hK
theorem HL (hK:K (I6 (iD y:Nat)) (Cs r y::R)):CT 64 #[PO r] (Cs r y::R) K:=by
 cases y with
 |b y=>exact vX hK
 |i y=>exact vJ hK
theorem Adr (hK:K (I6 (jZ y)) (Cs r y::R)):CT 68 #[PO r] (Cs r y::R) K:=by
 cases y with
 |b y=>exact T7 hK
 |i y=>exact TY hK
theorem Aaf (hK:K (I6 (PZ y)) (Cs r y::R)):CT 69 #[PO r] (Cs r y::R) K:=by
 cases y with
 |b y=>exact UY hK
 |i y=>exact UG hK
theorem O2 (hK:K (.bool (IK y)) (Cs r y::R)):CT 145 #[PO r] (Cs r y::R) K:=by
 cases y with
 |b y=>
  refine UF ?_
  rw[show(y.en && decide (y.bs= []))=IK (.b y) by simp[IK,yEn,iD]]
  exact hK
 |i y=>
  refine UR ?_
  rw[show(y.en && decide (y.l= []))=IK (.i y) by simp[IK,yEn,iD]]
  exact hK
theorem PV (hK:K (.tuple #[.string (CI y n),I6 (Pb y)]) (Cs r (Fi y n)::R)):CT 143 #[PO r,I6 n] (Cs r y::R) K:=by
 cases y with
 |b y=>exact SG (kk:=MD y n) (by unfold MD;omega) hK
 |i y=>exact S5 hK
theorem Rs (hK:K (.tuple #[.string (Ank y),.bool (Afe y),I6 (ZB y)]) (Cs r (FC y)::R)):CT 247 #[PO r] (Cs r y::R) K:=by
 cases y with
 |b y=>exact TH hK
 |i y=>
  obtain⟨mr,room,op,ask,l,ac,tk,dr,en⟩:=y
  cases l with
  |nil=>exact P9 hK
  |cons s l=>exact TL hK
theorem Ail (hK:K (I6 (V9 y n)) (Cs r (G7 y n)::R)):CT 248 #[PO r,I6 n] (Cs r y::R) K:=by
 cases y with
 |b y=>exact YZ hK
 |i y=>
  by_cases h:1<=n
  ·simp only[V9,G7,if_pos h] at hK
   exact XX h hK
  ·simp only[V9,G7,if_neg h] at hK
   exact TR (by omega) hK
theorem LU (hK:K (I6 (G3 y)) (Cs r (yGr y)::R)):CT 187 #[PO r] (Cs r y::R) K:=by
 cases y with
 |b y=>exact QT hK
 |i y=>exact O4 hK
theorem Ajc {s:dR} (hs:sD s.w s.st s.it=true) (hK:K (I6 0) (Cs r (Ex y s)::R)):CT 297 #[PO r,.agg #[I6 s.w,I6 s.st,I6 s.it]] (Cs r y::R) K:=by
 cases y with
 |b y=>exact OH hs hK
 |i y=>exact Mc hs hK
theorem Aie (hK:K (I6 (iD y:Nat)) (Cs r (EK y)::R)):CT 359 #[PO r] (Cs r y::R) K:=by
 cases y with
 |b y=>exact GP hK
 |i y=>exact GW hK
def tH (s:Nat) (m:Sm):HP:=fC fun li=>fC fun t=>fC fun r=>sep (pt s [PO li,PO t,PO r,I6 m.id,.bool m.own] 223) (sep (qU li m.sta) (sep (BX t m.x) (sep (Cs r m.y) (bF (xV m)))))
theorem Tf {A B D E:HP} {p:Prop} (h:p->CT f args (A::B::D::E::R) K):CT f args (sep A (sep B (sep D (sep E (bF p))))::R) K:=
 aA.ent tM (aA.pure fun hI=>h hI)
theorem cS (h:xV m):aG (pt s [PO li,PO t,PO r,I6 m.id,.bool m.own] 223::qU li m.sta::BX t m.x::Cs r m.y::R) (tH s m::R):=
 aG.ex li (aG.ex t (aG.ex r (LZ h)))
theorem nM (h:∀li t r,xV m->CT f args (pt s [PO li,PO t,PO r,I6 m.id,.bool m.own] 223::qU li m.sta::BX t m.x::Cs r m.y::R) K):CT f args (tH s m::R) K:=
 aA.ex fun li=>aA.ex fun t=>aA.ex fun r=>Tf fun hI=>h li t r hI
theorem Aiq (hb:L3 x+d.size<=800000000) (hb2:L3 x<=700000000) (hK:K (.tuple #[I6 (GR x d),I6 (GT x d)]) (BX t (AR x d)::R)):CT 238 #[PO t,.string d] (BX t x::R) K:=by
 cases x with
 |b x=>exact Ym (by simp only[L3] at hb;omega) hK
 |i x=>
  obtain⟨cap,st,l,w,en,ou,ac,se,dr⟩:=x
  simp only[L3] at hb hb2
  cases en with
  |true=>
   simp only[GR,GT,AR,true_or,if_true] at hK
   exact UJ rfl hK
  |false=>
   change CT 238 #[PO t,.string d] (rV t cap st l w false ou ac se dr::R) K
   by_cases h1:256<d.size
   ·simp only[GR,GT,AR,h1,or_true,if_true,Bool.false_eq_true,if_false] at hK
    exact Uq rfl h1 hK
   ·by_cases h2:l.length<cap
    ·simp only[GR,GT,AR,h1,h2,or_self,Bool.false_eq_true,if_false,if_true] at hK
     exact TD rfl (by omega) h2 (by omega) hK
    ·by_cases h3:st=0
     ·simp only[GR,GT,AR,h1,h2,h3,or_self,Bool.false_eq_true,if_false,if_true] at hK
      exact Ue rfl (by omega) (by omega) h3 (by subst h3;exact hK)
     ·by_cases h4:st=1\/cap=0
      ·simp only[GR,GT,AR,h1,h2,h3,h4,or_self,Bool.false_eq_true,if_false,if_true] at hK
       exact Uh rfl (by omega) (by omega) h3 h4 (by omega) hK
      ·simp only[GR,GT,AR,h1,h2,h3,h4,or_self,Bool.false_eq_true,if_false] at hK
       cases l with
       |nil=>simp at h2;omega
       |cons s0 l=>exact SE rfl (by omega) (by omega) h3 (fun q=>h4 (.inl q)) (fun q=>h4 (.inr q)) (by omega) hK
theorem Ajs (hK:K (I6 (Al1 x)) (BX t (Ko x)::R)):CT 353 #[PO t] (BX t x::R) K:=by
 cases x with
 |b x=>exact Yw hK
 |i x=>exact Yt hK
theorem Rp (hr:Pt x n=true) (hK:K (.tuple #[.string (iP x n),.bool (Be x n),.bool true]) (BX t (xTk x n)::R)):CT 282 #[PO t,I6 n] (BX t x::R) K:=by
 cases x with
 |b x=>exact SU hr hK
 |i x=>
  obtain⟨cap,st,l,w,en,ou,ac,se,dr⟩:=x
  cases l with
  |nil=>exact Qy hr hK
  |cons s l=>
   have hw:0<w:=by simpa[Pt,IR] using hr
   exact SD hw hK
theorem BC (hK:K (.bool m.own) (tH s m::R)):CT 156 #[PO s] (tH s m::R) K:=by
 refine nM fun li t r h=>?_
 exact aA.entK (CA (h:=Aks ⟨_,aG.trans (by exact aY) (cS h),hK⟩))
theorem NE (hK:K (I6 m.id) (tH s m::R)):CT 244 #[PO s] (tH s m::R) K:=by
 refine nM fun li t r h=>?_
 exact aA.entK (CA (h:=Amu ⟨_,aG.trans (by exact aY) (cS h),hK⟩))
theorem rX (hK:K (I6 (bA x)) (pt s [PO li,PO t,PO r,I6 id,.bool own] 223::BX t x::R)):CT 70 #[PO s] (pt s [PO li,PO t,PO r,I6 id,.bool own] 223::BX t x::R) K:=by
 cases x with
 |b x=>exact Gl hK
 |i x=>exact Gf hK
theorem jX (hK:K (I6 (bA m.x)) (tH s m::R)):CT 70 #[PO s] (tH s m::R) K:=by
 refine nM fun li t r h=>?_
 exact aA.entK (CA (h:=rX ⟨_,aG.trans (by exact aY) (cS h),hK⟩))
theorem TP (hK:K (I6 (bA x - 1)) (pt s [PO li,PO t,PO r,I6 id,.bool own] 223::BX t x::R)):CT 284 #[PO s] (pt s [PO li,PO t,PO r,I6 id,.bool own] 223::BX t x::R) K:=by
 cases x with
 |b x=>
  refine aH Tryz.func284 ?_
  repeat' (first|refine v3 ?_|refine w5 ?_ ?_|((refine bh fun h=>?_) <;> try exact w6 h)|(refine aE fun hA=>?_;subst hA)|intro _|(show aA _ 70 _ _ _;refine CA (h:=rX (x:=.b x) ?_);simp only[bA]))
  (refine aC ?_;exact aB (hK))
 |i x=>
  refine aH Tryz.func284 ?_
  repeat' (first|refine v3 ?_|refine w5 ?_ ?_|((refine bh fun h=>?_) <;> try exact w6 h)|(refine aE fun hA=>?_;subst hA)|intro _|(show aA _ 70 _ _ _;refine CA (h:=rX (x:=.i x) ?_);simp only[bA]))
  (refine aC ?_;exact aB (hK))
theorem Ac1 (hb:L3 m.x+d.size<=800000000) (hb2:L3 m.x<=700000000) (hK:K (.tuple #[I6 (WC m d),I6 (Wr m d)]) (tH s (Bw m d)::R)):CT 142 #[PO s,.string d] (tH s m::R) K:=by
 obtain⟨id,own,sta,x,y⟩:=m
 refine nM fun li t r h=>?_
 by_cases hg:sta=1\/sta=3
 ·have hg':Sw ⟨id,own,sta,x,y⟩=true:=decide_eq_true hg
  simp only[WC,Wr,Bw,if_pos hg'] at hK
  have hk:bA (AR x d)=bA x:=by cases x <;> rfl
  have hok:xV ⟨id,own,sta,AR x d,y⟩:=⟨hk.trans h.1,h.2⟩
  refine aH Tryz.func142 ?_
  repeat' (first|refine MN ?_|refine w5 ?_ ?_|((refine bh fun h=>?_) <;> try exact w6 h)|(refine aE fun hA=>?_;subst hA)|intro _|(show aA _ 237 _ _ _;refine CA (h:=u5 (if_pos hg) ?_))|(show aA _ 238 _ _ _;refine CA (h:=Aiq hb hb2 ?_)))
  (refine aC ?_;exact aM (aG.trans (by exact aY) ((cS hok))) (hK))
 ·have hg':Sw ⟨id,own,sta,x,y⟩=false:=decide_eq_false hg
  simp only[WC,Wr,Bw,hg',Bool.false_eq_true,if_false] at hK
  refine aH Tryz.func142 ?_
  repeat' (first|refine MN ?_|refine w5 ?_ ?_|((refine bh fun h=>?_) <;> try exact w6 h)|(refine aE fun hA=>?_;subst hA)|intro _|(show aA _ 237 _ _ _;refine CA (h:=u5 (if_neg hg) ?_)))
  (refine aC ?_;exact aM (aG.trans (by exact aY) ((cS h))) (hK))
theorem Adi (hK:K (I6 (Va m)) (tH s (Bl m)::R)):CT 246 #[PO s] (tH s m::R) K:=by
 obtain⟨id,own,sta,x,y⟩:=m
 refine nM fun li t r h=>?_
 by_cases hg:sta=1\/sta=3
 ·have hg':Sw ⟨id,own,sta,x,y⟩=true:=decide_eq_true hg
  simp only[Va,Bl,if_pos hg'] at hK
  have hk:bA (Ko x)=bA x:=by cases x <;> rfl
  have hok:xV ⟨id,own,sta,Ko x,y⟩:=⟨hk.trans h.1,h.2⟩
  refine aH Tryz.func246 ?_
  repeat' (first|refine MN ?_|refine w5 ?_ ?_|((refine bh fun h=>?_) <;> try exact w6 h)|(refine aE fun hA=>?_;subst hA)|intro _|(show aA _ 237 _ _ _;refine CA (h:=u5 (if_pos hg) ?_))|(show aA _ 353 _ _ _;refine CA (h:=Ajs ?_)))
  (refine aC ?_;exact aM (aG.trans (by exact aY) ((cS hok))) (hK))
 ·have hg':Sw ⟨id,own,sta,x,y⟩=false:=decide_eq_false hg
  simp only[Va,Bl,hg',Bool.false_eq_true,if_false] at hK
  refine aH Tryz.func246 ?_
  repeat' (first|refine MN ?_|refine w5 ?_ ?_|((refine bh fun h=>?_) <;> try exact w6 h)|(refine aE fun hA=>?_;subst hA)|intro _|(show aA _ 237 _ _ _;refine CA (h:=u5 (if_neg hg) ?_)))
  (refine aC ?_;exact aM (aG.trans (by exact aY) ((cS h))) (hK))
theorem Ls (hK:K (.bool (Jo m)) (tH s m::R)):CT 242 #[PO s] (tH s m::R) K:=by
 obtain⟨id,own,sta,x,y⟩:=m
 refine nM fun li t r h=>?_
 cases y with
 |b y=>
  have e:(decide (sta=4) && decide (y.bs= []))=Jo ⟨id,own,sta,x,.b y⟩:=by simp[Jo,iD]
  exact aA.entK (CA (h:=XP e ⟨_,aG.trans (by exact aY) (cS (m:=⟨id,own,sta,x,.b y⟩) h),hK⟩))
 |i y=>
  have e:(decide (sta=4) && decide (y.l= []))=Jo ⟨id,own,sta,x,.i y⟩:=by simp[Jo,iD]
  exact aA.entK (CA (h:=YQ e ⟨_,aG.trans (by exact aY) (cS (m:=⟨id,own,sta,x,.i y⟩) h),hK⟩))
theorem Pj {ev:Int} (he:ev=4\/ev=5) (hK:K (I6 (Kx m)) (tH s (CG m)::R)):CT 358 #[PO s,I6 ev] (tH s m::R) K:=by
 obtain⟨id,own,sta,x,y⟩:=m
 refine nM fun li t r h=>?_
 by_cases hg:sta=1\/sta=2\/sta=3
 ·have hg':U6 ⟨id,own,sta,x,y⟩=true:=decide_eq_true hg
  simp only[Kx,CG,if_pos hg'] at hK
  obtain⟨hk,hs⟩:=h
  cases x with
  |b x=>
   cases y with
   |b y=>exact aA.entK (CA (h:=Aaz he hg ⟨_,aG.trans (by exact aY) (cS (m:=⟨id,own,4,Ag8 (.b x),EK (.b y)⟩) ⟨rfl,.inr (.inr (.inr rfl))⟩),hK⟩))
   |i y=>cases hk
  |i x=>
   cases y with
   |b y=>cases hk
   |i y=>exact aA.entK (CA (h:=Aal he hg ⟨_,aG.trans (by exact aY) (cS (m:=⟨id,own,4,Ag8 (.i x),EK (.i y)⟩) ⟨rfl,.inr (.inr (.inr rfl))⟩),hK⟩))
 ·have hg':U6 ⟨id,own,sta,x,y⟩=false:=decide_eq_false hg
  simp only[Kx,CG,hg',Bool.false_eq_true,if_false] at hK
  exact aA.entK (CA (h:=Ad3 he (by rcases h.2 with h|h|h|h <;> first|exact h|(exfalso;exact hg (by simp only at h;omega))) ⟨_,aG.trans (by exact aY) (cS (m:=⟨id,own,sta,x,y⟩) h),hK⟩))
def Cy:List (Nat×Nat):= [(0,0),(1,1),(2,1),(3,1),(4,1),(5,1),(6,1),(7,1),(8,0),(9,1)]
theorem Jr {r2 r3 r4:Nat} (hK:K (.agg #[I6 (bA x - 1),I6 id,.bool e,.string d,I6 0,I6 0,I6 0,.bool false,I6 0,I6 0,I6 0,.slice none 0 0]) (pt r2 [PO s] 92::pt r3 [.string d] 9::pt r4 [.bool e] 4::pt s [PO li,PO t,PO r,I6 id,.bool own] 223::BX t x::R)):CT 283 #[PO r2,PO r3,PO r4] (pt r2 [PO s] 92::pt r3 [.string d] 9::pt r4 [.bool e] 4::pt s [PO li,PO t,PO r,I6 id,.bool own] 223::BX t x::R) K:=by
 refine aH Tryz.func283 ?_
 repeat' (first|refine Ng ?_|refine dw Cy ?_|refine w5 ?_ ?_|((refine bh fun h=>?_) <;> try exact w6 h)|(refine aE fun hA=>?_;subst hA)|intro _|(show aA _ 284 _ _ _;refine CA (h:=TP ?_)))
 (refine aC ?_;exact aB (hK))
theorem EQ:bA (xTk x n)=bA x:=by
 cases x with
 |b x=>rfl
 |i x=>
  obtain⟨cap,st,l,w,en,ou,ac,se,dr⟩:=x
  cases l <;> rfl
theorem BU (hr:IP m n=true) (hK:K (.tuple #[.agg #[I6 (bA m.x - 1),I6 m.id,.bool (Be m.x n),.string (iP m.x n),I6 0,I6 0,I6 0,.bool false,I6 0,I6 0,I6 0,.slice none 0 0],.bool true]) (tH s (DL m n)::R)):CT 190 #[PO s,I6 n] (tH s m::R) K:=by
 simp only[DL,if_pos hr] at hK
 obtain⟨id,own,sta,x,y⟩:=m
 have hr':=hr
 simp only[IP,Sw,Bool.and_eq_true,decide_eq_true_eq] at hr'
 obtain⟨hg,hx⟩:=hr'
 refine nM fun li t r h=>?_
 have hso:∀b,Ki sta b=1\/Ki sta b=2\/Ki sta b=3\/Ki sta b=4:=fun b=>by
  unfold Ki
  rcases hg with rfl|rfl <;> cases b <;> simp
 have hok:xV ⟨id,own,Ki sta (Be x n),xTk x n,y⟩:=⟨EQ.trans h.1,hso _⟩
 have hkd:=EQ (x:=x) (n:=n)
 simp only at hK
 cases he:Be x n
 ·rw[he] at hK hok
  have e0:Ki sta false=sta:=rfl
  rw[e0] at hK hok
  refine aH Tryz.func190 ?_
  repeat' (first|refine v96 ?_|refine w5 ?_ ?_|((refine bh fun h=>?_) <;> try exact w6 h)|(refine aE fun hA=>?_;subst hA)|intro _|(show aA _ 237 _ _ _;refine CA (h:=u5 (if_pos hg) ?_))|(show aA _ 282 _ _ _;refine CA (h:=Rp hx ?_);rw[he])|(show aA _ 283 _ _ _;refine CA (h:=Jr ?_);rw[hkd]))
  (refine aC ?_;exact aM (aG.trans (by exact aY) ((cS hok))) (hK))
 ·rw[he] at hK hok
  have hl:y6 sta 2=Ki sta true:=by rcases hg with rfl|rfl <;> rfl
  have hl1:Ki sta true≠-1:=by rcases hg with rfl|rfl <;> decide
  refine aH Tryz.func190 ?_
  repeat' (first|refine v96 ?_|refine w5 ?_ ?_|((refine bh fun h=>?_) <;> try exact w6 h)|(refine aE fun hA=>?_;subst hA)|intro _|(show aA _ 237 _ _ _;refine CA (h:=u5 (if_pos hg) ?_))|(show aA _ 282 _ _ _;refine CA (h:=Rp hx ?_);rw[he])|(show aA _ 258 _ _ _;refine CA (h:=mE (by omega) (by omega) hl hl1 ?_))|(show aA _ 283 _ _ _;refine CA (h:=Jr ?_);rw[hkd]))
  (refine aC ?_;exact aM (aG.trans (by exact aY) ((cS hok))) (hK))
theorem JC (hw:eT m tt d e≠0) (hK:K (.tuple #[I6 (eT m tt d e),.bool false]) (tH s m::R)):CT 306 #[PO s,.agg #[I6 tt,I6 st,.bool e,.string d,I6 kk,I6 on,I6 w,.bool xx,I6 c,I6 la,I6 nn,.slice pa pn pc]] (tH s m::R) K:=by
 obtain⟨id,own,sta,x,y⟩:=m
 refine nM fun li t r h=>?_
 refine aA.entK ?_
 cases x with
 |b x=>
  cases y with
  |i y=>cases h.1
  |b y=>
   by_cases h1:tt=0
   ·subst h1
    by_cases h2:sta=1\/sta=2
    ·have h2':YG ⟨id,own,sta,.b x,.b y⟩=true:=decide_eq_true h2
     simp only[eT,bA,h2'] at hK hw
     cases h3:y.en
     ·by_cases h4:max (y.gr - y.got) 0<d.size
      ·simp[xW,h3,h4] at hK
       exact CA (h:=S6 h2 h3 h4 ⟨_,aG.trans (by exact aY) (cS (m:=⟨id,own,sta,.b x,.b y⟩) h),hK⟩)
      ·exact absurd (by simp[xW,h3,h4]) hw
     ·simp[xW,h3] at hK
      exact CA (h:=Tl h2 h3 ⟨_,aG.trans (by exact aY) (cS (m:=⟨id,own,sta,.b x,.b y⟩) h),hK⟩)
    ·have h2':YG ⟨id,own,sta,.b x,.b y⟩=false:=decide_eq_false h2
     simp[eT,bA,h2'] at hK
     exact CA (h:=SZ h2 ⟨_,aG.trans (by exact aY) (cS (m:=⟨id,own,sta,.b x,.b y⟩) h),hK⟩)
   ·have h1':tt≠bA (.b x) - 1:=h1
    simp only[eT,if_pos h1'] at hK
    exact CA (h:=Tw h1 ⟨_,aG.trans (by exact aY) (cS (m:=⟨id,own,sta,.b x,.b y⟩) h),hK⟩)
 |i x=>
  cases y with
  |b y=>cases h.1
  |i y=>
   by_cases h1:tt=1
   ·subst h1
    by_cases h2:sta=1\/sta=2
    ·have h2':YG ⟨id,own,sta,.i x,.i y⟩=true:=decide_eq_true h2
     simp only[eT,bA,h2'] at hK hw
     cases h3:y.en
     ·by_cases h4:(d≠⟨#[]⟩\/e=false)/\y.op<1
      ·simp only[xW,h3,h4] at hK
       exact CA (h:=Up h2 h3 h4.1 h4.2 ⟨_,aG.trans (by exact aY) (cS (m:=⟨id,own,sta,.i x,.i y⟩) h),by simpa using hK⟩)
      ·exact absurd (by simp only[xW,h3,h4];simp) hw
     ·simp[xW,h3] at hK
      exact CA (h:=Tk h2 h3 ⟨_,aG.trans (by exact aY) (cS (m:=⟨id,own,sta,.i x,.i y⟩) h),hK⟩)
    ·have h2':YG ⟨id,own,sta,.i x,.i y⟩=false:=decide_eq_false h2
     simp[eT,bA,h2'] at hK
     exact CA (h:=S7 h2 ⟨_,aG.trans (by exact aY) (cS (m:=⟨id,own,sta,.i x,.i y⟩) h),hK⟩)
   ·have h1':tt≠bA (.i x) - 1:=h1
    simp only[eT,if_pos h1'] at hK
    exact CA (h:=UZ h1 ⟨_,aG.trans (by exact aY) (cS (m:=⟨id,own,sta,.i x,.i y⟩) h),hK⟩)
def Kq:Ys->Int
 |.b y=>y.got
 |.i y=>y.ac
theorem JJ (h:sta=1\/sta=2):pW sta e=1\/pW sta e=2\/pW sta e=3\/pW sta e=4:=by
 unfold pW
 rcases h with rfl|rfl <;> cases e <;> simp
theorem B1 (hw:eT m tt d e=0) (hb:Kq m.y+d.size<=300000000) (hb2:Kq m.y<=290000000) (hK:K (.tuple #[I6 0,.bool true]) (tH s (fX m d e)::R)):CT 306 #[PO s,.agg #[I6 tt,I6 st,.bool e,.string d,I6 kk,I6 on,I6 w,.bool xx,I6 c,I6 la,I6 nn,.slice pa pn pc]] (tH s m::R) K:=by
 obtain⟨id,own,sta,x,y⟩:=m
 refine nM fun li t r h=>?_
 refine aA.entK ?_
 cases x with
 |b x=>
  cases y with
  |i y=>cases h.1
  |b y=>
   have h1:tt=0:=by
    by_cases h1:tt=0
    ·exact h1
    ·have h1':tt≠bA (.b x) - 1:=h1
     simp only[eT,if_pos h1'] at hw
     cases hw
   subst h1
   have h2:sta=1\/sta=2:=by
    by_cases h2:sta=1\/sta=2
    ·exact h2
    ·have h2':YG ⟨id,own,sta,.b x,.b y⟩=false:=decide_eq_false h2
     simp[eT,bA,h2'] at hw
   have h2':YG ⟨id,own,sta,.b x,.b y⟩=true:=decide_eq_true h2
   have h3:y.en=false:=by
    cases h3:y.en
    ·rfl
    ·simp[eT,bA,h2',xW,h3] at hw
   have h4:¬max (y.gr - y.got) 0<d.size:=fun h4=>by
    simp[eT,bA,h2',xW,h3,h4] at hw
   exact CA (h:=Za h2 h3 (by omega) (by simp only[Kq] at hb;omega) ⟨_,aG.trans (by exact aY) (cS (m:=⟨id,own,pW sta e,.b x,Dv (.b y) d e⟩) ⟨rfl,JJ h2⟩),hK⟩)
 |i x=>
  cases y with
  |b y=>cases h.1
  |i y=>
   obtain⟨mr,room,op,ask,l,ac,tk,dr,en⟩:=y
   have h1:tt=1:=by
    by_cases h1:tt=1
    ·exact h1
    ·have h1':tt≠bA (.i x) - 1:=h1
     simp only[eT,if_pos h1'] at hw
     cases hw
   subst h1
   have h2:sta=1\/sta=2:=by
    by_cases h2:sta=1\/sta=2
    ·exact h2
    ·have h2':YG ⟨id,own,sta,.i x,.i ⟨mr,room,op,ask,l,ac,tk,dr,en⟩⟩=false:=decide_eq_false h2
     simp[eT,bA,h2'] at hw
   have h2':YG ⟨id,own,sta,.i x,.i ⟨mr,room,op,ask,l,ac,tk,dr,en⟩⟩=true:=decide_eq_true h2
   have h3:en=false:=by
    cases en
    ·rfl
    ·simp[eT,bA,h2',xW] at hw
   subst h3
   by_cases h5:d≠⟨#[]⟩\/e=false
   ·have h4:¬op<1:=fun h4=>by
     have h6:(d≠⟨#[]⟩\/e=false)/\op<1:=⟨h5,h4⟩
     simp only[eT,bA,h2',xW,h6] at hw
     simp at hw
    simp only[fX,Dv,if_pos h5] at hK
    exact CA (h:=Zf (open_:=op) (a1:=ac) h2 rfl h5 (by omega) (by simp only[Kq] at hb2;omega) ⟨_,aG.trans (by exact aY) (cS (m:=⟨id,own,pW sta e,.i x,.i ⟨mr,room,op - 1,ask,l++ [d],ac+1,tk,dr,e⟩⟩) ⟨rfl,JJ h2⟩),hK⟩)
   ·simp only[fX,Dv,if_neg h5] at hK
    have hd:d=⟨#[]⟩:=Classical.byContradiction fun q=>h5 (.inl q)
    have he:e=true:=by cases e <;> simp_all
    subst hd he
    exact CA (h:=TF h2 rfl ⟨_,aG.trans (by exact aY) (cS (m:=⟨id,own,pW sta true,.i x,.i ⟨mr,room,op,ask,l,ac,tk,dr,true⟩⟩) ⟨rfl,JJ (e:=true) h2⟩),hK⟩)
end Go.Proofs.YtepnmcipkangkaaGreat
namespace Go.Proofs.YtepnmcipkangkaaGreat
open Go Go.Proofs Go.Sl
attribute [local irreducible] aN fL cL bM aL aR aA dJ dK aU dI pt ro fC star sep bF
attribute [local irreducible] mp DG
variable {R C:List HP} {K:KP} {t:Int} {l:List Sm} {m m':Sm} {p a i c n:Nat} {A:Option Addr} {q:List (kD×Sm)}
def cI (t:Int) (l:List Sm):Nat:=(l.takeWhile fun e=>decide (e.id<t)).length
def bX (t:Int) (l:List Sm):Option Sm:=match l[cI t l]? with
 |some e=>if e.id=t then some e else none
 |none=>none
def lM (x:Sm) (l:List Sm):List Sm:=l.take (cI x.id l)++x::l.drop (cI x.id l)
theorem aS (h:bX t l=some m):l[cI t l]?=some m/\m.id=t:=by
 unfold bX at h
 cases hz:l[cI t l]? with
 |none=>rw[hz] at h;cases h
 |some z=>
  rw[hz] at h
  simp only at h
  split at h
  ·rename_i he;cases h;exact⟨rfl,he⟩
  ·cases h
def G6 (l:List Sm):Prop:=l.length<=64/\l.Pairwise fun a b=>a.id<b.id
def Sp (e:kD×Sm):HP:=tH e.1.a e.2
def tbI (q:List (kD×Sm)) (l:List Sm):Prop:=q.map Prod.snd=l/\∀e∈q,e.1.id=e.2.id
def IH (p:Nat) (l:List Sm):HP:=fC fun A=>fC fun c=>fC fun q:List (kD×Sm)=>sep (pt p [I6 64,.slice A (q.map Prod.fst).length c] 259) (sep (bT A c 261 fP (q.map Prod.fst)) (sep (eH Sp q) (bF (tbI q l))))
def OM (p:Nat) (l:List Sm) (i a:Nat):HP:=fC fun A=>fC fun c=>fC fun q:List (kD×Sm)=>sep (pt p [I6 64,.slice A (q.map Prod.fst).length c] 259) (sep (bT A c 261 fP (q.map Prod.fst)) (sep (eH Sp (q.eraseIdx i)) (bF (tbI q l/\(q.map fun e=>e.1.a)[i]?=some a))))
theorem zC {ws:List kD} (h:tbI q l) (hw:ws=q.map Prod.fst) (hn:n=ws.length):aG (pt p [I6 64,.slice A n c] 259::bT A c 261 fP ws::eH Sp q::R) (IH p l::R):=by
 subst hn hw
 exact aG.ex A (aG.ex c (aG.ex q (sN h)))
theorem tI {A B D:HP} {p:Prop}:aG (Go.Sl.sep A (Go.Sl.sep B (Go.Sl.sep D (bF p)))::R) (bF p::A::B::D::R):=
 aG.trans (aG.unsep) (aG.trans (aG.cons aG.unsep) (aG.trans (aG.cons (aG.cons aG.unsep)) (fun _ hs=>hs.perm (List.perm_middle (l₁:= [A,B,D])))))
theorem zT {f:FuncId} {args:Array Value} (h:∀A c (q:List (kD×Sm)),tbI q l->CT f args (pt p [I6 64,.slice A (q.map Prod.fst).length c] 259::bT A c 261 fP (q.map Prod.fst)::eH Sp q::R) K):CT f args (IH p l::R) K:=
 aA.ex fun A=>aA.ex fun c=>aA.ex fun q=>aA.ent tI (aA.pure fun hI=>h A c q hI)
theorem DR (h:tbI q l):(q.map Prod.fst).length=l.length:=by rw[<- h.1];simp
theorem Nj (h:tbI q l) (hp:l.Pairwise fun a b=>a.id<b.id):(q.map Prod.fst).Pairwise fun a b=>a.id<b.id:=by
 rw[<- h.1,List.pairwise_map] at hp
 rw[List.pairwise_map]
 exact hp.imp_of_mem fun ha hb hab=>by rw[h.2 _ ha,h.2 _ hb];exact hab
theorem Rm (h:tbI q l) (hi:l[i]?=some m):∃a,q[i]?=some (⟨m.id,a⟩,m):=by
 rw[<- h.1,List.getElem?_map] at hi
 cases hq:q[i]? with
 |none=>rw[hq] at hi;cases hi
 |some e=>
  rw[hq] at hi
  obtain⟨⟨id,a⟩,m'⟩:=e
  cases hi
  have:=h.2 _ (List.mem_of_getElem? hq)
  simp only at this
  subst this
  exact⟨a,rfl⟩
theorem Pv (h:tbI q l):lb t (q.map Prod.fst)=cI t l:=by
 obtain⟨h1,h2⟩:=h
 subst h1
 induction q with
 |nil=>rfl
 |cons e r ih=>
  have he:=h2 e (List.mem_cons_self ..)
  have ih:=ih fun z hz=>h2 z (List.mem_cons_of_mem _ hz)
  unfold lb cI at ih ⊢
  rw[List.map_cons,List.map_cons,List.takeWhile_cons,List.takeWhile_cons,he]
  split
  ·rw[List.length_cons,List.length_cons,ih]
  ·rfl
theorem Acs (h:tbI q l) (hm:bX t l=some m):ZK t (q.map Prod.fst)=true:=by
 obtain⟨h1,h2⟩:=aS hm
 obtain⟨a,ha⟩:=Rm h h1
 unfold ZK
 rw[Pv h,List.getElem?_map,ha]
 exact decide_eq_true h2
theorem Ve (h:tbI q l) (hm:bX t l=none):ZK t (q.map Prod.fst)=false:=by
 unfold ZK
 rw[Pv h]
 cases hq:(q.map Prod.fst)[cI t l]? with
 |none=>rfl
 |some e=>
  rw[List.getElem?_map] at hq
  cases hz:q[cI t l]? with
  |none=>rw[hz] at hq;cases hq
  |some z=>
   rw[hz] at hq
   cases hq
   have h1:l[cI t l]?=some z.2:=by
    have e:(q.map Prod.snd)[cI t l]?=some z.2:=by rw[List.getElem?_map,hz];rfl
    rwa[h.1] at e
   have h2:=h.2 _ (List.mem_of_getElem? hz)
   unfold bX at hm
   rw[h1] at hm
   simp only at hm
   split at hm
   ·cases hm
   ·rename_i hne
    exact decide_eq_false (by rw[h2];exact hne)
theorem O9 (h:tbI q l) (hi:q[i]?=some (⟨m.id,a⟩,m)):aG (pt p [I6 64,.slice A (q.map Prod.fst).length c] 259::bT A c 261 fP (q.map Prod.fst)::eH Sp q::R) (tH a m::OM p l i a::R):=by
 refine aG.trans (aG.cons (aG.cons (vA (f:=Sp) hi))) ?_
 refine aG.trans (fun _ hs=>hs.perm (List.perm_middle (l₁:= [pt p [I6 64,.slice A (q.map Prod.fst).length c] 259,bT A c 261 fP (q.map Prod.fst)]) (a:=Sp (⟨m.id,a⟩,m)))) ?_
 exact aG.cons (aG.ex A (aG.ex c (aG.ex q (sN ⟨h,by rw[List.getElem?_map,hi];rfl⟩))))
theorem U5 (hi:l[i]?=some m) (hid:m'.id=m.id):aG (tH a m'::OM p l i a::R) (IH p (l.set i m')::R):=fun H hs=>by
 have hs:=bZ.swap hs
 obtain⟨A,hs⟩:=hs.ex
 obtain⟨c,hs⟩:=hs.ex
 obtain⟨q,hs⟩:=hs.ex
 obtain⟨⟨hI,hA⟩,hs⟩:=(tI H hs).pure
 obtain⟨a',ha⟩:=Rm hI hi
 rw[List.getElem?_map,ha] at hA
 obtain rfl:a=a':=(Option.some.inj hA).symm
 have h1:aG (tH a m'::eH Sp (q.eraseIdx i)::R) (eH Sp (q.set i (⟨m.id,a⟩,m'))::R):=E9 (f:=Sp) (b':=(⟨m.id,a⟩,m')) ha
 have h2:=(hs.perm (List.Perm.cons _ (List.Perm.cons _ (List.Perm.swap _ _ _))))
 have h3:=(aG.cons (aG.cons h1)) H h2
 refine zC (q:=q.set i (⟨m.id,a⟩,m')) ⟨?_,?_⟩ ?_ rfl H h3
 ·rw[List.map_set,hI.1]
 ·intro e he
  rcases List.mem_or_eq_of_mem_set he with h|h
  ·exact hI.2 e h
  ·rw[h];exact hid.symm
 ·rw[List.map_set]
  exact(lB _ (by rw[List.getElem?_map,ha];rfl)).symm
theorem Aj7 (hi:l[i]?=some m):aG (tH a m::OM p l i a::R) (IH p l::R):=by
 have h:=U5 (p:=p) (a:=a) (R:=R) (m':=m) hi rfl
 rwa[lB i hi] at h
theorem Ad (hK:K (I6 (l.length:Nat)) (IH p l::R)):CT 60 #[PO p] (IH p l::R) K:=by
 refine zT fun A c q hI=>?_
 have hl:=DR hI
 rw[<- hl] at hK
 exact aA.entK (CA (h:=yQ ⟨_,aG.trans (by exact aY) (zC hI rfl rfl),hK⟩))
theorem oU (hs:G6 l) (hm:bX t l=none) (hK:K (.tuple #[.pointer none,.bool false]) (IH p l::R)):CT 126 #[PO p,I6 t] (IH p l::R) K:=by
 refine zT fun A c q hI=>?_
 have hl:=DR hI
 obtain⟨h1,h2⟩:=hs
 exact aA.entK (CA (h:=Xy (by omega) (Nj hI h2) (Ve hI hm) ⟨_,aG.trans (by exact aY) (zC hI rfl rfl),hK⟩))
theorem gR (hs:G6 l) (hm:bX t l=some m) (hK:∀a,K (.tuple #[PO a,.bool true]) (tH a m::OM p l (cI t l) a::R)):CT 126 #[PO p,I6 t] (IH p l::R) K:=by
 refine zT fun A c q hI=>?_
 have hl:=DR hI
 obtain⟨h1,h2⟩:=hs
 obtain⟨a,ha⟩:=Rm hI (aS hm).1
 exact aA.entK (CA (h:=Lf (e:=⟨m.id,a⟩) (by omega) (Nj hI h2) (Acs hI hm) (by rw[Pv hI,List.getElem?_map,ha];rfl) ⟨_,aG.trans (by exact aY) (O9 hI ha),hK a⟩))
theorem FM (hs:G6 l) (hm:l[i]?=some m) (hK:∀a,K (.tuple #[I6 m.id,PO a,.bool true]) (tH a m::OM p l i a::R)):CT 62 #[PO p,I6 i] (IH p l::R) K:=by
 refine zT fun A c q hI=>?_
 have hl:=DR hI
 obtain⟨h1,h2⟩:=hs
 obtain⟨a,ha⟩:=Rm hI hm
 exact aA.entK (CA (h:=Ah9 (e:=⟨m.id,a⟩) (by omega) (by rw[List.getElem?_map,ha];rfl) ⟨_,aG.trans (by exact aY) (O9 hI ha),hK a⟩))
theorem M6 (hs:G6 l) (hK:∀B d,K (.slice B (l.map Sm.id).length d) (bT B d 3 k8 (l.map Sm.id)::IH p l::R)):CT 125 #[PO p] (IH p l::R) K:=by
 refine zT fun A c q hI=>?_
 have hl:=DR hI
 have he:(q.map Prod.fst).map kD.id=l.map Sm.id:=by
  rw[<- hI.1,List.map_map,List.map_map]
  exact List.map_congr_left fun e he=>hI.2 e he
 have hlen:(l.map Sm.id).length=(q.map Prod.fst).length:=by rw[hl,List.length_map]
 rw[hlen] at hK
 refine aA.entK (CA (h:=Aea (l:=q.map Prod.fst) (by have:=hs.1;omega) (fun B d=>?_)))
 rw[he]
 exact⟨_,aG.cons (aG.trans (by exact aY) (zC hI rfl rfl)),hK B d⟩
theorem Ai3 (hs:G6 l) (hm:bX m.id l=none) (h64:l.length<64) (hK:K (I6 0) (IH p (lM m l)::R)):CT 233 #[PO p,I6 m.id,PO a] (tH a m::IH p l::R) K:=by
 refine aA.ent (fun _ h=>bZ.swap h) ?_
 refine zT fun A c q hI=>?_
 have hl:=DR hI
 obtain⟨h1,h2⟩:=hs
 have hix:=Pv (t:=m.id) hI
 have hins:aG (tH a m::eH Sp q::R) (eH Sp (q.take (cI m.id l)++(⟨m.id,a⟩,m)::q.drop (cI m.id l))::R):=Lt (f:=Sp) (b:=(⟨m.id,a⟩,m))
 refine aA.entK (CA (h:=Afh (a:=a) (by omega) (Nj hI h2) (Ve hI hm) (by omega) (fun A' c'=>⟨_,aG.trans (by exact aY) (aG.trans (aG.cons (aG.cons hins)) (zC (q:=q.take (cI m.id l)++(⟨m.id,a⟩,m)::q.drop (cI m.id l)) ⟨?_,?_⟩ ?_ ?_)),hK⟩)))
 ·rw[List.map_append,List.map_cons,List.map_take,List.map_drop,hI.1];rfl
 ·intro e he
  rcases List.mem_append.1 he with he|he
  ·exact hI.2 e (List.mem_of_mem_take he)
  ·rcases List.mem_cons.1 he with rfl|he
   ·rfl
   ·exact hI.2 e (List.mem_of_mem_drop he)
 ·unfold Agk
  rw[hix,List.map_append,List.map_cons,List.map_take,List.map_drop]
 ·unfold Agk
  have:=Wj m.id (q.map Prod.fst)
  simp only[List.length_append,List.length_cons,List.length_take,List.length_drop]
  omega
theorem Akp (hs:G6 l) (hm:bX t l=some m) (hK:∀v,K v (IH p (l.eraseIdx (cI t l))::R)):CT 349 #[PO p,I6 t] (IH p l::R) K:=by
 refine zT fun A c q hI=>?_
 have hl:=DR hI
 obtain⟨h1,h2⟩:=hs
 obtain⟨a,ha⟩:=Rm hI (aS hm).1
 have hix:=Pv (t:=t) hI
 have hlt:=(List.getElem?_eq_some_iff.1 ha).1
 refine aA.entK (CA (h:=YP (e:=⟨m.id,a⟩) (by omega) (Nj hI h2) (Acs hI hm) (by rw[hix,List.getElem?_map,ha];rfl) (fun A' c'=>⟨_,aG.trans (by exact aY) (aG.trans (aG.cons (aG.cons (aG.trans (vA (f:=Sp) ha) (aG.drop (aG.refl _))))) (zC (q:=q.eraseIdx (cI t l)) ⟨?_,?_⟩ ?_ ?_)),hK _⟩)))
 ·rw[<- oH,hI.1]
 ·exact fun e he=>hI.2 e (List.mem_of_mem_eraseIdx he)
 ·rw[hix,oH]
 ·rw[List.length_eraseIdx,if_pos (by rw[hix,List.length_map];exact hlt)]
end Go.Proofs.YtepnmcipkangkaaGreat
