/- A part of the proof: lemmas; each with the conditions that it states. -/
import Derived.Test.YtffnpejdkkohcaaGreatBbb
import Derived.Test.YtffnpejdkkohcaaGreatBan
set_option linter.unusedVariables false
set_option linter.unusedSimpArgs false
set_option maxRecDepth 100000
set_option maxHeartbeats 40000000
namespace Go.Proofs.YtffnpejdkkohcaaGreat
open Go Go.Proofs Go.Sl
attribute [local irreducible] aM eY cU bQ aL aW aA dS dT aZ dR pt ro fN star sep bH
attribute [local irreducible] mp FV
structure Cf where
 w:Int
 st:Int
 it:Int
 sb:Int
 si:Int
 sg:Int
 ev:Int
 wa:Int
 sl:Int
structure Yp where
 cap:Int
 most:Int
 gr:Int
 got:Int
 us:Int
structure Mv where
 k:Int
 id:Int
 n:Int
 s:ByteArray
 e:Bool
structure Cn where
 cf:Cf
 sd:Int
 nx:Int
 la:Int
 l:List Sm
 tr:eS
 pk:List (KE Int)
 pc:Nat
 ld:Ld
 rv:Yp
 sh:EC
 pe:dI
 bt:Bt
 sl:PV
 dr:Dr
 out:List Fm
 inb:List UInt8
 ine:Int
 now:Int
 last:ByteArray
 mv:List Mv
def fr0 (t st:Int):Fm:=⟨t,st,false,⟨#[]⟩,0,0,0,false,0,0,0,none,0,0,[]⟩
def qQ (t st:Int) (d:ByteArray) (e:Bool):Fm:=⟨t,st,e,d,0,0,0,false,0,0,0,none,0,0,[]⟩
def q6 (st k on w:Int) (x:Bool):Fm:=⟨2,st,false,⟨#[]⟩,k,on,w,x,0,0,0,none,0,0,[]⟩
def Fb (st on w:Int) (x:Bool):Fm:=⟨3,st,false,⟨#[]⟩,0,on,w,x,0,0,0,none,0,0,[]⟩
def nJ (st c:Int):Fm:=⟨4,st,false,⟨#[]⟩,0,0,0,false,c,0,0,none,0,0,[]⟩
def B4 (ps:List Pr):Fm:=⟨5,0,false,⟨#[]⟩,0,0,0,false,0,0,0,none,ps.length,0,ps⟩
def Ci (la c:Int):Fm:=⟨9,0,false,⟨#[]⟩,0,0,0,false,c,la,0,none,0,0,[]⟩
def D4 (t st n:Int):Fm:=⟨t,st,false,⟨#[]⟩,0,0,0,false,0,0,n,none,0,0,[]⟩
def jD (y:Yp) (k:Int):Int:=if max (y.gr - y.got) 0<k then 9 else 0
def fG (y:Yp) (k:Int):Yp:=if jD y k=0 then { y with got:=y.got+k } else y
def d8 (y:Yp) (k:Int):Yp:=if 0<=k/\k<=y.got - y.us then { y with us:=y.us+k } else y
def vE (y:Yp):Int:=uF y.cap y.gr y.us
def Rw (y:Yp):Yp:= { y with gr:=y.gr+vE y }
def fJ (s:Cn) (b:Bool):Nat:=(s.l.filter fun m=>m.own == b).length
def tI (m:Mv) (s:Cn):Cn:= { s with mv:=s.mv++ [m] }
def rI (s:Cn) (id:Int):Bool:=jV s.sd s.nx s.la id
def aD (s:Cn):Cn:= { s with mv:= [] }
def d7 (s:Cn) (id:Int):Int:=if s.dr.ov=true then 14 else match bX id s.l with
 |some _=>0
 |none=>if rI s id=true then 14 else 7
def kA (id code:Int) (gone:Bool) (s:Cn):Cn:=
 { s with l:=s.l.eraseIdx (cB id s.l),tr:=yO id s.tr,pk:=(if qY id s.pk=0 then s.pk else mO id s.pk),ld:=iK id s.ld,mv:=s.mv++ [⟨4,id,code,⟨#[]⟩,gone⟩] }
def pO (code:Int):List Int->Cn->Cn
 | [],s=>s
 |id::r,s=>pO code r (kA id code false s)
def kT (m:Sm) (s:Cn):Cn:=if DF m=true then kA m.id 0 true s else s
def o4 (s:Cn):Cn:= { pO s.dr.co (s.l.map Sm.id) s with out:= [] }
def iD (w o:Int) (s:Cn):Cn:=o4 { s with dr:=p9 s.dr (hQ w o),last:=oU (Ci s.la (hQ w o)) }
def pA (f:Fm) (s:Cn):Cn:=if CN f s.out=0 then { s with out:=z8 f s.out } else iD 18 0 s
def lY (m:Sm) (code:Int) (s:Cn):Cn:=kA m.id code false { s with rv:=d8 s.rv (if bA m.x=1 then(gH m.y:Nat) else 0) }
def iM (w st:Int) (s:Cn):Cn:=if Js w=true then iD w 0 s else
 pA (nJ st (hQ w 0)) (match bX st s.l with
  |some m=>lY m (hQ w 0) s
  |none=>s)
def fQ (cf:Cf) (h:dI) (id kind sg:Int) (own:Bool):Sm:=if kind=1 then⟨id,own,1,.b ⟨cf.sb.toNat,[],false,false,0,0,0⟩,.b ⟨h.w,h.w,h.w,0,0,[],false⟩⟩ else⟨id,own,1,.i ⟨cf.si.toNat,sg,[],0,false,false,0,0,0⟩,.i ⟨h.it,h.it,0,0,[],0,0,0,false⟩⟩
def Iy (id kind on w:Int) (x own:Bool) (sg:Int) (s:Cn):Cn:=
 { s with l:=jT (fQ s.cf s.sh.h id kind sg own) s.l,tr:=nB id on w x 64 s.tr,ld:=if kind=1 then iB id s.pe.w s.ld else s.ld }
def j2 (kind sg on w:Int) (x:Bool) (s:Cn):Int:=if s.dr.ov=true then 14 else if kind≠1/\kind≠2 then 13 else if sg<0\/2<sg then 2 else if KW s.dr=false then 15 else if 2147483647<s.nx\/min s.pe.st 32<=(fJ s true:Nat) then 16 else if l7 (q6 s.nx kind on w x)=false then 2 else if on=s.nx then 12 else if 64<=s.out.length then 9 else 0
def pT (kind sg on w:Int) (x:Bool) (s:Cn):Cn:=if j2 kind sg on w x s≠0 then aD s else
 Iy s.nx kind on w x true sg { aD s with nx:=s.nx+2,out:=z8 (q6 s.nx kind on w x) s.out }
def zM (m:Sm) (s:Cn):Cn:= { s with l:=s.l.set (cB m.id s.l) m }
def pN (id:Int) (d:ByteArray) (s:Cn):Int×Int:=if d7 s id≠0 then(0,d7 s id) else match bX id s.l with
 |some m=>(SZ m d,T2 m d)
 |none=>(0,0)
def nH (id:Int) (d:ByteArray) (s:Cn):Cn:=if d7 s id≠0 then aD s else match bX id s.l with
 |some m=>zM (zN m d) (aD s)
 |none=>s
def Ah4 (id:Int) (s:Cn):Int:=if d7 s id≠0 then d7 s id else match bX id s.l with
 |some m=>Ali m
 |none=>0
def FE (id:Int) (s:Cn):Cn:=if d7 s id≠0 then aD s else match bX id s.l with
 |some m=>zM (E7 m) (aD s)
 |none=>s
def lF (id n:Int) (s:Cn):ByteArray×Bool×Int:=if d7 s id≠0 then(⟨#[]⟩,false,d7 s id) else match bX id s.l with
 |some m=>if OV m.y≠0 then(⟨#[]⟩,false,OV m.y) else(BN m.y n,IW (Es m.y n),0)
 |none=>(⟨#[]⟩,false,0)
def pU (id n:Int) (s:Cn):Cn:=if d7 s id≠0 then aD s else match bX id s.l with
 |some m=>if OV m.y≠0 then aD s else kT { m with y:=Es m.y n } { zM { m with y:=Es m.y n } (aD s) with rv:=d8 s.rv ((BN m.y n).size:Nat) }
 |none=>s
def Gk (id:Int) (s:Cn):ByteArray×Bool×Bool×Int:=if d7 s id≠0 then(⟨#[]⟩,false,false,d7 s id) else match bX id s.l with
 |some m=>if Aih m.y≠0 then(⟨#[]⟩,false,false,Aih m.y) else(Ams m.y,Akt m.y,IW (Ng m.y),0)
 |none=>(⟨#[]⟩,false,false,0)
def zK (id:Int) (s:Cn):Cn:=if d7 s id≠0 then aD s else match bX id s.l with
 |some m=>if Aih m.y≠0 then aD s else kT { m with y:=Ng m.y } (zM { m with y:=Ng m.y } (aD s))
 |none=>s
def Akb (id n:Int) (s:Cn):Int:=if d7 s id≠0 then d7 s id else match bX id s.l with
 |some m=>Ak7 m.y n
 |none=>0
def Fv (id n:Int) (s:Cn):Cn:=if d7 s id≠0 then aD s else match bX id s.l with
 |some m=>zM { m with y:=SI m.y n } (aD s)
 |none=>s
def Afg (id on w:Int) (x:Bool) (s:Cn):Int:=if d7 s id≠0 then d7 s id else if l7 (Fb id on w x)=false then 2 else if on=id then 12 else if CN (Fb id on w x) s.out≠0 then 9 else qA id on w s.tr
def Ad (id on w:Int) (x:Bool) (s:Cn):Cn:=if d7 s id≠0\/l7 (Fb id on w x)=false\/on=id\/CN (Fb id on w x) s.out≠0 then aD s else { aD s with out:=z8 (Fb id on w x) s.out,tr:=k8 id on w x s.tr }
def P3 (id c:Int) (s:Cn):Int:=if d7 s id≠0 then d7 s id else if l7 (nJ id c)=false then 2 else if CN (nJ id c) s.out≠0 then 9 else 0
def vM (id c:Int) (s:Cn):Cn:=if P3 id c s≠0 then aD s else match bX id s.l with
 |some m=>lY m c { aD s with out:=z8 (nJ id c) s.out }
 |none=>s
def Alp (s:Cn):Int:=if s.dr.ov=true then 14 else if s.dr.se=true then 11 else if CN (Ci s.la 0) s.out≠0 then 9 else Tw s.dr s.la
def Of (s:Cn):Cn:=if s.dr.ov=true\/s.dr.se=true\/CN (Ci s.la 0) s.out≠0 then aD s else { aD s with out:=z8 (Ci s.la 0) s.out,dr:=Lu s.dr s.la }
def Aii (t:dI) (s:Cn):Int:=if s.dr.ov=true then 14 else if 64<=s.out.length then 9 else if i8 s.sh t≠0 then i8 s.sh t else CN (B4 (Ix (wK s.sh) t)) s.out
def FP (t:dI) (s:Cn):Cn:=if s.dr.ov=true\/64<=s.out.length\/i8 s.sh t≠0 then aD s else { aD s with sh:=eR s.sh t,out:=z8 (B4 (Ix (wK s.sh) t)) s.out }
def XW (s:Cn):Cn:= { s with now:=s.now+1 }
def qM (f:Fm) (s:Cn):Cn:=
 if jD s.rv (if f.t=0 then(f.d.size:Nat) else 0)≠0 then iD 9 0 s
 else match bX f.st s.l with
  |none=> { s with rv:=d8 (fG s.rv (if f.t=0 then(f.d.size:Nat) else 0)) (if f.t=0 then(f.d.size:Nat) else 0) }
  |some m=>if dO m f.t f.d f.e≠0 then iM (dO m f.t f.d f.e) f.st { s with rv:=d8 (fG s.rv (if f.t=0 then(f.d.size:Nat) else 0)) (if f.t=0 then(f.d.size:Nat) else 0) }
   else kT (eB m f.d f.e) (tI ⟨2,f.st,if f.t=1/\(f.d≠⟨#[]⟩\/f.e=false) then 1 else if f.t=0 then(f.d.size:Nat) else 0,f.d,f.e⟩ (zM (eB m f.d f.e) { s with rv:=fG s.rv (if f.t=0 then(f.d.size:Nat) else 0) }))
def kY (f:Fm) (s:Cn):Cn:=
 if lH s.sd s.la f.st≠0 then iD 1 0 s
 else if f.on=f.st then iD 2 0 { s with la:=f.st }
 else if x4 s.dr f.st=false then iM 4 f.st { s with la:=f.st }
 else if s.sh.h.st<=(fJ s false:Nat) then iM 3 f.st { s with la:=f.st }
 else tI ⟨3,f.st,f.k,⟨#[]⟩,false⟩ (Iy f.st f.k f.on f.w f.x false s.cf.sg { s with la:=f.st })
def kG (f:Fm) (m:Sm) (s:Cn):Cn:=
 if(bA m.x=1)≠(f.t=10) then iM 6 f.st s
 else if f.n=0 then iM 11 f.st s
 else if bA m.x=1 then(if l6 f.st f.n s.ld≠0 then iM 13 f.st s else { s with ld:=j8 f.st f.n s.ld,sl:=iO s.sl s.now })
 else(if Cv m.x f.n≠0 then iM 13 f.st s else zM { m with x:=mF m.x f.n } { s with sl:=iO s.sl s.now })
def pW (f:Fm) (s:Cn):Cn:=if f.n=0 then iD 12 0 s else if l6 0 f.n s.ld≠0 then iD 14 0 s else { s with ld:=j8 0 f.n s.ld,sl:=iO s.sl s.now }
def uH (f:Fm) (s:Cn):Cn:=match Qg s.pe f.ps with
 |none=>iD 16 0 s
 |some t=>if yD s.pe.w t.w s.ld≠0 then iD 17 0 s else pA (fr0 6 0) { s with ld:=mG s.pe.w t.w s.ld,pe:=t }
def pK (s:Cn):Cn:=if vU s.sh≠0 then iD 15 0 s else { s with sh:=dC s.sh,l:=s.l.map fun m=> { m with y:=tY m.y (dC s.sh).h } }
def lU:List Int->Cn->Cn
 | [],s=>s
 |id::r,s=>lU r (match bX id s.l with
  |some m=>if m.own=true/\Fz s.dr id=true then lY m 7 s else s
  |none=>s)
def uE (f:Fm) (s:Cn):Cn:=if(iP s.dr f.la f.c).ov=true then o4 { s with dr:=iP s.dr f.la f.c } else lU (s.l.map Sm.id) { s with dr:=iP s.dr f.la f.c }
def jI (f:Fm) (s:Cn):Cn:=if f.t=3/\f.on=f.st then iD 2 0 s else match bX f.st s.l with
 |none=>s
 |some m=>if f.t=3 then { s with tr:=k8 f.st f.on f.w f.x s.tr } else if f.t=4 then lY m f.c s else kG f m s
def eM (f:Fm) (s:Cn):Cn:=
 if f.t=5 then uH f s else if f.t=6 then pK s else if f.t=7 then pA (qQ 8 0 f.d false) s
 else if f.t=8 then { s with bt:=lB s.bt s.now f.d } else if f.t=9 then uE f s else if f.t=2 then kY f s
 else if f.st=0 then pW f s else if rI s f.st=false then iD 5 0 s else if f.t=0\/f.t=1 then qM f s else jI f s
def bM (f:Fm) (s:Cn):Cn:=eM f { s with bt:=bN s.bt s.now }
def eD:List Fm->Cn->Cn
 | [],s=>s
 |f::r,s=>if(bM f s).dr.ov=true then bM f s else eD r (bM f s)
def iC (u:List UInt8) (s:Cn):List Fm×Cn:=((pF (s.inb++u)).1.map F5,{ s with inb:=if(pF (s.inb++u)).2.2=0 then(pF (s.inb++u)).2.1 else [],ine:=(pF (s.inb++u)).2.2 })
def vL (s:Cn):Int:=if s.dr.ov=true then 14 else 0
def kC (u:List UInt8) (s:Cn):Cn:=if s.dr.ov=true then aD s else
 if(eD (iC u (aD s)).1 (iC u (aD s)).2).dr.ov=true\/(pF (s.inb++u)).2.2=0 then eD (iC u (aD s)).1 (iC u (aD s)).2 else iD 0 (pF (s.inb++u)).2.2 (eD (iC u (aD s)).1 (iC u (aD s)).2)
def G9 (ld:Ld) (m:Sm):Bool:=VN m && Acy m.x (bC m.id ld)
def s6 (s:Cn):Bool:=s.l.any (G9 s.ld)
def fT (s:Cn):List Fm:=if Qi s.bt s.now=2\/AV s.sl s.now (s6 s)=true\/Qi s.bt s.now≠1 then [] else [qQ 7 0 (btD s.bt s.now) false]
def bI (s:Cn):Cn:=if Qi s.bt s.now=2 then iD 20 0 { s with bt:=g0 s.bt s.now } else if AV s.sl s.now (s6 s)=true then iD 19 0 { s with bt:=g0 s.bt s.now,sl:=nS s.sl s.now (s6 s) } else { s with bt:=g0 s.bt s.now,sl:=nS s.sl s.now (s6 s) }
def K2 (t st n:Int):List Fm:=if 0<n then [D4 t st n] else []
def rY (m:Sm):List Fm:=if SY m=true then K2 (if bA m.x=2 then 11 else 10) m.id (GV m.y) else []
def l8 (m:Sm):Sm:=if SY m=true then { m with y:=yGr m.y } else m
def uU (s:Cn):List Fm:=K2 10 0 (vE s.rv)++s.l.flatMap rY
def BV (s:Cn):Cn:= { s with rv:=Rw s.rv,l:=s.l.map l8 }
def nT (s:Cn) (id:Int):Tu:=⟨id,if dZ id s.tr.1=true then(dD id s.tr).w else 0,match bX id s.l with
 |some m=>VN m && OM m.x (bC id s.ld)
 |none=>false⟩
def eO (s:Cn):List Tu:=(eE s.tr).map (nT s)
def qN (s:Cn):Option Fm×Cn:=match AO (s.pk,s.pc) (eO s) with
 |(none,p)=>(none,{ s with pk:=p.1,pc:=p.2 })
 |(some id,p)=>match bX id s.l with
  |none=>(none,{ s with pk:=p.1,pc:=p.2 })
  |some m=>if Hm m (bC id s.ld)=false then(none,{ s with pk:=p.1,pc:=p.2 }) else
   (some (qQ (bA m.x - 1) id (iL m.x (bC id s.ld)) (BY m.x (bC id s.ld))),
    kT (CX m (bC id s.ld)) (tI ⟨1,id,if bA m.x=1 then((iL m.x (bC id s.ld)).size:Nat) else if iL m.x (bC id s.ld)=⟨#[]⟩/\BY m.x (bC id s.ld)=true then 0 else 1,iL m.x (bC id s.ld),BY m.x (bC id s.ld)⟩
     (zM (CX m (bC id s.ld)) { s with ld:=(if bA m.x=1 then mB id ((iL m.x (bC id s.ld)).size:Nat) s.ld else s.ld),pk:=(jW id (qY id p.1 - fV ((iL m.x (bC id s.ld)).size:Nat)) p).1,pc:=(jW id (qY id p.1 - fV ((iL m.x (bC id s.ld)).size:Nat)) p).2 })))
def fU:Nat->Cn->List Fm×Cn
 |0,s=>([],s)
 |n+1,s=>match qN s with
  |(none,s)=>([],s)
  |(some f,s)=>(f::(fU n s).1,(fU n s).2)
def RR (l:List Fm):List UInt8:=if l.all l7=true then sO l else []
def eN (s:Cn):List UInt8×Cn:=
 if s.dr.ov=true then(s.last.data.toList,{ aD s with last:=⟨#[]⟩ })
 else if(bI (aD s)).dr.ov=true then((bI (aD s)).last.data.toList,{ bI (aD s) with last:=⟨#[]⟩ })
 else let s1:=bI (aD s)
  let s2:=BV { s1 with out:= [] }
  let b:=fU 4 s2
  (RR (fT (aD s)++s1.out++uU { s1 with out:= [] }++b.1),{ b.2 with dr:=zH b.2.dr b.2.l.length })
section
structure Ca where
 ids:Nat
 l:Nat
 t:Nat
 tq:Nat
 p:Nat
 pq:Nat
 fr:Nat
 rc:Nat
 sh:Nat
 bt:Nat
 sl:Nat
 dr:Nat
 ou:Nat
 inn:Nat
def mvD:List Value->Option Mv
 | [.int .i64 k,.int .i64 id,.int .i64 n,.string s,.bool e]=>some ⟨k,id,n,s,e⟩
 |_=>none
theorem Ajz (cs:List Value) (y:Mv) (h:mvD cs=some y): [I6 y.k,I6 y.id,I6 y.n,.string y.s,.bool y.e]=cs:=by
 unfold mvD at h
 split at h
 ·cases h;rfl
 ·cases h
def mvC:tP Mv:= { enc:=fun y=> [I6 y.k,I6 y.id,I6 y.n,.string y.s,.bool y.e],sz:=5,dec:=mvD,len:=fun _=>rfl,one:=fun _=>rfl,ok:=Ajz }
abbrev p8 (x:Nat) (a:Ca) (s:Cn) (M:Option Addr) (mc:Nat) (T:HP) (R:List HP):List HP:=
 pt x [I6 s.cf.w,I6 s.cf.st,I6 s.cf.it,I6 s.cf.sb,I6 s.cf.si,I6 s.cf.sg,I6 s.cf.ev,I6 s.cf.wa,I6 s.cf.sl,PO a.ids,PO a.l,PO a.t,PO a.p,PO a.fr,PO a.rc,PO a.sh,I6 s.pe.w,I6 s.pe.st,I6 s.pe.it,PO a.bt,PO a.sl,PO a.dr,PO a.ou,PO a.inn,I6 s.now,.string s.last,.slice M s.mv.length mc] 90::
 pt a.ids [I6 s.sd,I6 s.nx,I6 s.la] 164::T::pt a.t [I6 64,.map (some a.tq)] 175::mp a.tq (kM qW s.tr.1) s.tr.2::pt a.p [.map (some a.pq)] 155::mp a.pq (kM KF s.pk) s.pc::Qf a.fr s.ld::zC a.rc s.rv.cap s.rv.most s.rv.gr s.rv.got s.rv.us::T1 a.sh s.sh::btP a.bt s.bt::slP a.sl s.sl::Gc a.dr s.dr::Ni a.ou s.out::spP a.inn s.inb s.ine::bU M mc 228 mvC s.mv::R
abbrev cY (x:Nat) (a:Ca) (s:Cn) (M:Option Addr) (mc:Nat) (R:List HP):List HP:=p8 x a s M mc (HT a.l s.l) R
abbrev cnH (x:Nat) (a:Ca) (s:Cn) (M:Option Addr) (mc:Nat) (i b:Nat) (R:List HP):List HP:=p8 x a s M mc (Na a.l s.l i b) R
variable {R C:List HP} {K:KP} {x mc:Nat} {a:Ca} {s:Cn} {M:Option Addr}
theorem kI (hK:K (.bool s.dr.ov) (cY x a s M mc R)):CT 56 #[PO x] (cY x a s M mc R) K:=by
 dsimp only[cY,p8] at hK ⊢
 refine aJ Tryz.func56 ?_
 repeat' (first|refine Y9 ?_|refine w5 ?_ ?_|((refine bh fun h=>?_) <;> try exact w6 h)|(refine aF fun hA=>?_;subst hA)|intro _|(show aA _ 60 _ _ _;refine CA (h:=GG ?_)))
 all_goals(refine aC ?_;exact aB (hK))
theorem d6 (hK:K (I6 (if s.dr.ov=true then 14 else 0)) (cY x a (aD s) none 0 R)):CT 53 #[PO x] (cY x a s M mc R) K:=by
 cases ho:s.dr.ov
 ·rw[ho,if_neg Bool.false_ne_true] at hK
  dsimp only[cY,p8] at ⊢
  refine aJ Tryz.func53 ?_
  repeat' (first|refine v13 ?_|refine w5 ?_ ?_|((refine bh fun h=>?_) <;> try exact w6 h)|(refine aF fun hA=>?_;subst hA)|intro _|(show aA _ 56 _ _ _;refine CA (h:=kI (x:=x) (a:=a) (s:=aD s) (M:=none) (mc:=0) (R:=R) ?_);rw[show(aD s).dr.ov=false from ho]))
  all_goals(refine aC ?_;exact aB (hK))
 ·rw[ho,if_pos rfl] at hK
  dsimp only[cY,p8] at ⊢
  refine aJ Tryz.func53 ?_
  repeat' (first|refine v13 ?_|refine w5 ?_ ?_|((refine bh fun h=>?_) <;> try exact w6 h)|(refine aF fun hA=>?_;subst hA)|intro _|(show aA _ 56 _ _ _;refine CA (h:=kI (x:=x) (a:=a) (s:=aD s) (M:=none) (mc:=0) (R:=R) ?_);rw[show(aD s).dr.ov=true from ho]))
  all_goals(refine aC ?_;exact aB (hK))
def BX:List (Nat×Nat):= [(5,0),(6,1),(1,1),(2,1),(3,1),(4,1),(7,1),(0,2),(8,0),(9,0),(10,1)]
theorem GH {k id n:Int} {z:ByteArray} {b:Bool} (hb:s.mv.length<=1000000000) (hK:∀M mc,K (.tuple #[]) (cY x a (tI ⟨k,id,n,z,b⟩ s) M mc R)):CT 149 #[PO x,.agg #[I6 k,I6 id,I6 n,.string z,.bool b]] (cY x a s M mc R) K:=by
 dsimp only[cY,p8,tI] at hK ⊢
 refine aJ Tryz.func149 ?_
 repeat' (first|(show aM _ _ _ _ _ _ _;(refine cN (E:=mvC) (ys:= [⟨k,id,n,z,b⟩]) ?_;intro _ _))|refine v54 ?_|refine dw BX ?_|refine w5 ?_ ?_|((refine bh fun h=>?_) <;> try exact w6 h)|(refine aF fun hA=>?_;subst hA)|intro _)
 all_goals(refine aC ?_;exact aB (hK _ _))
end
end Go.Proofs.YtffnpejdkkohcaaGreat
namespace Go.Proofs.YtffnpejdkkohcaaGreat
open Go Go.Proofs Go.Sl
attribute [local irreducible] aM eY cU bQ aL aW aA dS dT aZ dR pt ro fN star sep bH
variable {α:Type} {i:Nat} {t B B' n k a b:Int} {m m':Sm} {s:Ld} {e:fD}
section
variable {f:α->Int}
theorem Aa3 {t:Int}:∀ {l:List α},∀z∈l.take (l.takeWhile fun e=>decide (f e<t)).length,f z<t
 | [],z,h=>by simp at h
 |e::r,z,h=>by
  rw[List.takeWhile_cons] at h
  by_cases he:f e<t
  ·rw[if_pos (decide_eq_true he),List.length_cons,List.take_succ_cons] at h
   rcases List.mem_cons.1 h with rfl|h
   ·exact he
   ·exact Aa3 z h
  ·rw[if_neg (by simpa using he)] at h
   simp at h
theorem PC {t:Int}:∀ {l:List α},l.Pairwise (fun a b=>f a<f b)->∀z∈l.drop (l.takeWhile fun e=>decide (f e<t)).length,t<=f z
 | [],_,z,h=>by simp at h
 |e::r,hp,z,h=>by
  obtain⟨h1,h2⟩:=List.pairwise_cons.1 hp
  rw[List.takeWhile_cons] at h
  by_cases he:f e<t
  ·rw[if_pos (decide_eq_true he),List.length_cons,List.drop_succ_cons] at h
   exact PC h2 z h
  ·rw[if_neg (by simpa using he)] at h
   rcases List.mem_cons.1 (by simpa using h) with rfl|h
   ·omega
   ·have:=h1 z h;omega
theorem T8 {l:List α} {x:α} (hp:l.Pairwise fun a b=>f a<f b) (hx:∀z∈l,f z≠f x):(l.take (l.takeWhile fun e=>decide (f e<f x)).length++x::l.drop (l.takeWhile fun e=>decide (f e<f x)).length).Pairwise fun a b=>f a<f b:=by
 rw[List.pairwise_append]
 refine⟨hp.sublist (List.take_sublist ..),List.pairwise_cons.2 ⟨fun b hb=>?_,hp.sublist (List.drop_sublist ..)⟩,fun a ha b hb=>?_⟩
 ·have h1:=PC hp b hb
  have h2:=hx b (List.mem_of_mem_drop hb)
  omega
 ·have h1:=Aa3 a ha
  rcases List.mem_cons.1 hb with rfl|hb
  ·exact h1
  ·have h2:=PC hp b hb
   omega
theorem S3 {l:List α} {x:α} {y:α} (hp:l.Pairwise fun a b=>f a<f b) (hy:l[i]?=some y) (he:f x=f y):(l.set i x).Pairwise fun a b=>f a<f b:=by
 have hm:(l.set i x).map f=l.map f:=by
  rw[List.map_set,he]
  refine kB i ?_
  rw[List.getElem?_map,hy];rfl
 have h1:(l.map f).Pairwise (·<·):=List.pairwise_map.2 hp
 rw[<- hm] at h1
 exact List.pairwise_map.1 h1
theorem QF {l:List α} (hp:l.Pairwise fun a b=>f a<f b) (h:∀e,l[(l.takeWhile fun e=>decide (f e<t)).length]?=some e->f e≠t):∀z∈l,f z≠t:=fun z hz e=>by
 rw[<- List.take_append_drop (l.takeWhile fun e=>decide (f e<t)).length l] at hz
 rcases List.mem_append.1 hz with hz|hz
 ·have:=Aa3 z hz;omega
 ·have h1:=PC hp z hz
  cases hd:l.drop (l.takeWhile fun e=>decide (f e<t)).length with
  |nil=>rw[hd] at hz;cases hz
  |cons y r=>
   have hy:l[(l.takeWhile fun e=>decide (f e<t)).length]?=some y:=by
    rw[<- List.head?_drop,hd];rfl
   rw[hd] at hz
   rcases List.mem_cons.1 hz with rfl|hz
   ·exact h z hy e
   ·have h2:=PC hp y (by rw[hd];exact List.mem_cons_self ..)
    have h3:=hp.sublist (List.drop_sublist (l.takeWhile fun e=>decide (f e<t)).length l)
    rw[hd] at h3
    have:=(List.pairwise_cons.1 h3).1 z hz
    omega
end
section
variable {l:List Sm}
theorem Mf (h:Ga l) (hm:bX t l=none):∀z∈l,z.id≠t:=QF (f:=Sm.id) h.2 fun e he hid=>by
 unfold bX cB at hm
 rw[he] at hm
 simp only[hid,if_true] at hm
 cases hm
theorem Aeq (h:Ga l) (hm:bX m.id l=none) (hl:l.length<64):Ga (jT m l):=by
 refine⟨?_,T8 (f:=Sm.id) h.2 (Mf h hm)⟩
 unfold jT
 rw[List.length_append,List.length_cons,List.length_take,List.length_drop]
 omega
theorem W6 (h:Ga l):Ga (l.eraseIdx i):=⟨Nat.le_trans (List.length_eraseIdx_le ..) h.1,h.2.sublist (List.eraseIdx_sublist ..)⟩
theorem Aem (h:Ga l) (hm:l[i]?=some m) (he:m'.id=m.id):Ga (l.set i m'):=⟨by rw[List.length_set];exact h.1,S3 (f:=Sm.id) h.2 hm he⟩
theorem Uu {g:Sm->Sm} (h:Ga l) (hg:∀m,(g m).id=m.id):Ga (l.map g):=by
 refine⟨by rw[List.length_map];exact h.1,List.pairwise_map.2 (h.2.imp fun hab=>?_)⟩
 rw[hg,hg];exact hab
theorem A8 {z:Sm} (h:z∈jT m l):z=m\/z∈l:=by
 unfold jT at h
 rcases List.mem_append.1 h with h|h
 ·exact .inr (List.mem_of_mem_take h)
 ·rcases List.mem_cons.1 h with h|h
  ·exact .inl h
  ·exact .inr (List.mem_of_mem_drop h)
end
def F4 (B:Int) (s:Ld):Prop:=s.l.length<=64/\(s.l.Pairwise fun a b=>a.id<b.id)/\(∀e∈s.l,(-2147483647<=e.n/\e.n<=2147483647)/\0<=e.sp/\e.sp<=B)/\(-2147483647<=s.n0/\s.n0<=2147483647)/\0<=s.sp/\s.sp<=B
theorem F4.ok (h:F4 B s) (hB:B<=1000000000000):RJ s:=by
 obtain⟨h1,h2,h3,h4,h5⟩:=h
 exact⟨h1,h2,fun e he=>by have:=h3 e he;omega,by omega,by omega⟩
theorem F4.mono (h:F4 B s) (hB:B<=B'):F4 B' s:=by
 obtain⟨h1,h2,h3,h4,h5⟩:=h
 exact⟨h1,h2,fun e he=>by have:=h3 e he;omega,h4,by omega⟩
theorem WJ (h:F4 B s):F4 B (iK t s):=by
 unfold iK
 split
 ·exact⟨Nat.le_trans (List.length_eraseIdx_le ..) h.1,h.2.1.sublist (List.eraseIdx_sublist ..),fun e he=>h.2.2.1 e (List.mem_of_mem_eraseIdx he),h.2.2.2⟩
 ·exact h
theorem Y3 (h:F4 B s):F4 B (iB t n s):=by
 obtain⟨h1,h2,h3,h4,h5⟩:=h
 unfold iB
 split
 ·exact⟨h1,h2,h3,h4,h5⟩
 ·rename_i hc
  have hw:lL n=true:=by cases hq:lL n <;> first|rfl|exact absurd (.inr (.inr (.inl hq))) hc
  unfold lL at hw
  simp only[Bool.and_eq_true,decide_eq_true_eq] at hw
  have hno:∀z∈s.l,z.id≠t:=QF (f:=fD.id) h2 fun e he hid=>hc (.inr (.inr (.inr (.inl (by
   unfold lS lE
   rw[he]
   simp[hid])))))
  refine⟨?_,T8 (f:=fD.id) (x:=⟨t,n,0⟩) h2 hno,fun e he=>?_,h4,h5⟩
  ·show(s.l.take _++_::s.l.drop _).length<=64
   rw[List.length_append,List.length_cons,List.length_take,List.length_drop]
   omega
  ·rcases List.mem_append.1 he with he|he
   ·exact h3 e (List.mem_of_mem_take he)
   ·rcases List.mem_cons.1 he with rfl|he
    ·exact⟨by show -2147483647<=n/\n<=2147483647;omega,Int.le_refl 0,by show(0:Int)<=B;omega⟩
    ·exact h3 e (List.mem_of_mem_drop he)
theorem mW (h:lS t s.l=some e):s.l[lE t s.l]?=some e/\e.id=t:=by
 unfold lS at h
 cases hz:s.l[lE t s.l]? with
 |none=>rw[hz] at h;cases h
 |some z=>
  rw[hz] at h
  simp only at h
  split at h
  ·rename_i he;cases h;exact⟨rfl,he⟩
  ·cases h
theorem Ti (h:F4 B s) {e':fD} (he:lS t s.l=some e) (hi:e'.id=e.id) (hn:(-2147483647<=e'.n/\e'.n<=2147483647)/\0<=e'.sp/\e'.sp<=B) {n0 sp:Int} (h0:-2147483647<=n0/\n0<=2147483647) (hs:0<=sp/\sp<=B):F4 B { n0:=n0,sp:=sp,l:=s.l.set (lE t s.l) e' }:=by
 obtain⟨h1,h2,h3,h4,h5⟩:=h
 refine⟨by rw[List.length_set];exact h1,S3 (f:=fD.id) h2 (mW he).1 hi,fun z hz=>?_,h0,hs⟩
 rcases List.mem_or_eq_of_mem_set hz with hz|rfl
 ·exact h3 z hz
 ·exact hn
theorem Wd (h:F4 B s) (hk:k<=B' - B) (h0:B<=B'):F4 B' (mB t k s):=by
 unfold mB
 split
 ·exact h.mono h0
 ·rename_i hc
  have hc:sJ t k s=0:=Classical.byContradiction hc
  cases he:lS t s.l with
  |none=>exact h.mono h0
  |some e=>
   unfold sJ bC at hc
   rw[he] at hc
   simp only[Option.isSome_some,Bool.true_eq_false,if_false] at hc
   have hm:=List.mem_of_getElem? (mW he).1
   obtain⟨h1,h2,h3,h4,h5⟩:=h
   have h6:=h3 e hm
   have hkk:0<=k/\k<=max e.n 0/\k<=max s.n0 0:=by
    split at hc
    ·cases hc
    ·split at hc
     ·cases hc
     ·omega
   exact Ti (B:=B') ⟨h1,h2,fun e he=>by have:=h3 e he;omega,h4,by omega⟩ he (e':=⟨e.id,e.n - k,e.sp+k⟩) rfl (by show(_<=e.n - k/\e.n - k<=_)/\0<=e.sp+k/\e.sp+k<=B';omega) (by omega) (by omega)
theorem SQ (h:-2147483647<=n/\n<=2147483647):-2147483647<=DK n b/\DK n b<=2147483647:=by
 unfold DK
 split
 ·rename_i hf
  unfold CQ at hf
  simp only[Bool.and_eq_true,decide_eq_true_eq] at hf
  exact hf
 ·exact h
theorem Oc (h:-2147483647<=n/\n<=2147483647):-2147483647<=gA n b/\gA n b<=2147483647:=by
 unfold gA
 split
 ·exact SQ h
 ·exact h
theorem Aen (h:-2147483647<=n/\n<=2147483647):-2147483647<=vR n a b/\vR n a b<=2147483647:=by
 unfold vR
 split
 ·exact SQ h
 ·exact h
theorem OA (h:F4 B s):F4 B (j8 t b s):=by
 have h':=h
 obtain⟨h1,h2,h3,h4,h5⟩:=h'
 unfold j8
 split
 ·exact⟨h1,h2,h3,Oc h4,h5⟩
 ·cases he:lS t s.l with
  |none=>exact h
  |some e=>
   have h6:=h3 e (List.mem_of_getElem? (mW he).1)
   exact Ti h he (e':=⟨e.id,gA e.n b,e.sp⟩) rfl ⟨Oc h6.1,h6.2⟩ h4 h5
theorem Gs (h:F4 B s):F4 B (mG a b s):=by
 obtain⟨h1,h2,h3,h4,h5⟩:=h
 unfold mG
 split
 ·exact⟨h1,h2,h3,h4,h5⟩
 ·refine⟨by rw[List.length_map];exact h1,List.pairwise_map.2 h2,fun e he=>?_,h4,h5⟩
  obtain⟨z,hz,rfl⟩:=List.mem_map.1 he
  exact⟨Aen (h3 z hz).1,(h3 z hz).2⟩
end Go.Proofs.YtffnpejdkkohcaaGreat
namespace Go.Proofs.YtffnpejdkkohcaaGreat
open Go Go.Proofs Go.Sl
attribute [local irreducible] aM eY cU bQ aL aW aA dS dT aZ dR pt ro fN star sep bH
attribute [local irreducible] mp FV
variable {R C:List HP} {K:KP} {x mc i b p r t li:Nat} {a:Ca} {s:Cn} {M:Option Addr} {B code k c w o on sg kind B':Int} {gone xx e:Bool} {m m':Sm} {f:Fm} {h3:dI} {z:Yp} {d:ByteArray}
section
def x9 (n:Int):Prop:=0<=n/\n<=2147483647
structure Ey (B:Int) (m:Sm):Prop where
 id:1<=m.id/\m.id<=2147483647
 ac:K0 m.x<=B
 got:Jk m.y<=B
 ln:(gH m.y:Int)<=B
def qF (t:dI):Prop:=pP t.w t.st t.it=true
def Ha (B:Int) (y:Yp):Prop:=y.cap=512/\0<=y.us/\y.us<=y.got/\y.got<=y.gr/\y.gr<=y.us+512/\y.got<=B
structure bR (B:Int) (s:Cn):Prop where
 bb:0<=B/\B<=250000000
 cf:(0<=s.cf.sb/\s.cf.sb<=4096)/\(0<=s.cf.si/\s.cf.si<=64)/\0<=s.cf.sg/\s.cf.sg<=2
 sd:s.sd=0\/s.sd=1
 nx:1<=s.nx/\s.nx<=2147483649/\(s.nx % 2=1↔s.sd=0)
 la:x9 s.la
 sm:Ga s.l
 st:∀m∈s.l,Ey B m
 ids:∀m∈s.l,jV s.sd s.nx s.la m.id=true
 own:∀b,fJ s b<=32
 tr:Mt s.tr
 pk:KN (s.pk,s.pc)
 ld:F4 B s.ld
 rv:Ha B s.rv
 sh:s.sh.l.length<=4/\qF s.sh.h/\qF s.sh.g/\∀t∈s.sh.l,qF t
 pe:x9 s.pe.w/\x9 s.pe.st/\x9 s.pe.it
 bt:(0<=s.bt.no/\s.bt.no<=B)/\(0<=s.bt.he/\s.bt.he<=B)/\(0<=s.bt.si/\s.bt.si<=B)/\0<=s.bt.nn/\s.bt.nn<=B
 sl:(0<=s.sl.nw/\s.sl.nw<=B)/\0<=s.sl.si/\s.sl.si<=B
 ou:MD s.out
 inb:(s.inb.length:Int)<=B
 now:0<=s.now/\s.now<=B
 mv:(s.mv.length:Int)+s.l.length<=B
variable {id:Int}
theorem Ab5 {l:List Sm} {t:Int} (h:bX t l=some m):(l.eraseIdx (cB t l)).length+1=l.length:=by
 have:=(List.getElem?_eq_some_iff.1 (aX h).1).1
 rw[List.length_eraseIdx,if_pos this];omega
theorem zW (h:bR B s) (hm:bX id s.l=some m):bR B (kA id code gone s):=
 { h with
   sm:=W6 h.sm
   st:=fun z hz=>h.st z (List.mem_of_mem_eraseIdx hz)
   ids:=fun z hz=>h.ids z (List.mem_of_mem_eraseIdx hz)
   own:=fun b=>Nat.le_trans ((List.Sublist.filter _ (List.eraseIdx_sublist ..)).length_le) (h.own b)
   tr:=Ad0 h.tr
   pk:=by
    show KN ((if qY id s.pk=0 then s.pk else mO id s.pk),s.pc)
    split
    ·exact h.pk
    ·exact Af1 h.pk
   ld:=WJ h.ld
   mv:=by
    have h1:=h.mv
    have h2:=Ab5 hm
    show((s.mv++ [_]).length:Int)+((s.l.eraseIdx (cB id s.l)).length:Int)<=B
    rw[List.length_append,List.length_singleton]
    omega }
theorem BI (h:bR B s) (hm:bX id s.l=some m) (hK:∀M mc,K (.tuple #[]) (cY x a (kA id code gone s) M mc R)):CT 169 #[PO x,I6 id,I6 code,.bool gone] (cY x a s M mc R) K:=by
 have hl:=h.tr.len
 have hmv:=h.mv
 have hB:=h.bb
 dsimp only[cY,p8]
 refine aJ Tryz.func169 ?_
 repeat' (first|refine v25 ?_|refine w5 ?_ ?_|((refine bh fun h=>?_) <;> try exact w6 h)|(refine aF fun hA=>?_;subst hA)|intro _|(show aA _ 252 _ _ _;refine CA (h:=Afb h.sm hm (fun _=>?_)))|(show aA _ 253 _ _ _;refine CA (h:=NF (s:=s.tr) h.tr.kok (by omega) h.tr.w h.tr.nd (fun _=>?_)))|(show aA _ 254 _ _ _;refine CA (h:=OX ?_))|(show aA _ 255 _ _ _;refine CA (h:=Qp (h.ld.ok (by omega)) (fun _=>?_)))|(show aA _ 149 _ _ _;refine CA (h:=GH (x:=x) (a:=a) (s:= { s with l:=s.l.eraseIdx (cB id s.l),tr:=yO id s.tr,pk:=(if qY id s.pk=0 then s.pk else mO id s.pk),ld:=iK id s.ld }) (M:=M) (mc:=mc) (R:=R) (by show s.mv.length<=1000000000;omega) (fun _ _=>?_))))
 all_goals(refine aC ?_;exact aB (hK _ _))
end
section
variable {id:Int} {y:Yp}
def EV:List (Nat×Nat):= [(0,0),(1,0),(2,0),(3,0),(4,0),(5,0),(6,0),(7,0),(8,0),(9,0),(10,0),(11,0)]
theorem uO (hb:0<=y.us/\y.us<=y.got/\y.got<=900000000) (hk:-900000000<=k/\k<=900000000) (hK:∀v,K v (zC p (d8 y k).cap (d8 y k).most (d8 y k).gr (d8 y k).got (d8 y k).us::R)):CT 87 #[PO p,I6 k] (zC p y.cap y.most y.gr y.got y.us::R) K:=by
 by_cases h:0<=k/\k<=y.got - y.us
 ·unfold d8 at hK
  simp only[if_pos h] at hK
  exact HK h (by omega) (hK _)
 ·unfold d8 at hK
  simp only[if_neg h] at hK
  unfold zC at *
  refine aJ Tryz.func87 ?_
  repeat' (first|refine v33 ?_|refine dw EV ?_|refine w5 ?_ ?_|((refine bh fun h=>?_) <;> try exact w6 h)|(refine aF fun hA=>?_;subst hA)|intro _)
  all_goals(refine aC ?_;exact aB (hK _))
theorem pG (hi:s.l[i]?=some m) (hid:m'.id=m.id):aG (sR b m'::cnH x a s M mc i b R) (cY x a { s with l:=s.l.set i m' } M mc R):=
 aG.trans (fun _ hs=>hs.perm (List.Perm.cons _ (List.perm_middle (l₁:= [_,_])))) (aG.trans (S7 hi hid) (fun _ hs=>hs.perm (List.perm_middle (l₁:= [_,_])).symm))
theorem f3 (hi:s.l[i]?=some m):aG (sR b m::cnH x a s M mc i b R) (cY x a s M mc R):=
 aG.trans (fun _ hs=>hs.perm (List.Perm.cons _ (List.perm_middle (l₁:= [_,_])))) (aG.trans (Ag8 hi) (fun _ hs=>hs.perm (List.perm_middle (l₁:= [_,_])).symm))
theorem Cd (h:bR B s) (ho:s.dr.ov=false) (hm:bX id s.l=some m) (hK:∀b,K (.tuple #[PO b,I6 0]) (sR b m::cnH x a (aD s) none 0 (cB id s.l) b R)):CT 84 #[PO x,I6 id] (cY x a s M mc R) K:=by
 refine aJ Tryz.func84 ?_
 repeat' (first|refine TO ?_|refine w5 ?_ ?_|((refine bh fun h=>?_) <;> try exact w6 h)|(refine aF fun hA=>?_;subst hA)|intro _|(show aA _ 53 _ _ _;refine CA (h:=d6 (x:=x) (a:=a) (s:=s) (M:=M) (mc:=mc) (R:=R) ?_);rw[ho,if_neg Bool.false_ne_true])|(show aA _ 144 _ _ _;refine CA (h:=gG (l:=s.l) h.sm hm (fun _=>?_))))
 all_goals(refine aC ?_;exact aB (hK _))
theorem IH (h:bR B s) (he:d7 s id≠0) (hK:K (.tuple #[.pointer none,I6 (d7 s id)]) (cY x a (aD s) none 0 R)):CT 84 #[PO x,I6 id] (cY x a s M mc R) K:=by
 unfold d7 at he hK
 cases ho:s.dr.ov
 ·rw[ho,if_neg Bool.false_ne_true] at he hK
  cases hm:bX id s.l with
  |some m=>rw[hm] at he;exact absurd rfl he
  |none=>
   rw[hm] at he hK
   simp only at he hK
   cases hp:rI s id
   ·rw[hp,if_neg Bool.false_ne_true] at hK
    refine aJ Tryz.func84 ?_
    repeat' (first|refine TO ?_|refine w5 ?_ ?_|((refine bh fun h=>?_) <;> try exact w6 h)|(refine aF fun hA=>?_;subst hA)|intro _|(show aA _ 53 _ _ _;refine CA (h:=d6 (x:=x) (a:=a) (s:=s) (M:=M) (mc:=mc) (R:=R) ?_);rw[ho,if_neg Bool.false_ne_true])|(show aA _ 144 _ _ _;refine CA (h:=mY (l:=s.l) h.sm hm ?_))|(show aA _ 162 _ _ _;refine CA (h:=Cu (sd:=s.sd) (nx:=s.nx) (la:=s.la) ?_);rw[show jV s.sd s.nx s.la id=false from hp]))
    all_goals(refine aC ?_;exact aB (hK))
   ·rw[hp,if_pos rfl] at hK
    refine aJ Tryz.func84 ?_
    repeat' (first|refine TO ?_|refine w5 ?_ ?_|((refine bh fun h=>?_) <;> try exact w6 h)|(refine aF fun hA=>?_;subst hA)|intro _|(show aA _ 53 _ _ _;refine CA (h:=d6 (x:=x) (a:=a) (s:=s) (M:=M) (mc:=mc) (R:=R) ?_);rw[ho,if_neg Bool.false_ne_true])|(show aA _ 144 _ _ _;refine CA (h:=mY (l:=s.l) h.sm hm ?_))|(show aA _ 162 _ _ _;refine CA (h:=Cu (sd:=s.sd) (nx:=s.nx) (la:=s.la) ?_);rw[show jV s.sd s.nx s.la id=true from hp]))
    all_goals(refine aC ?_;exact aB (hK))
 ·rw[ho,if_pos rfl] at hK
  refine aJ Tryz.func84 ?_
  repeat' (first|refine TO ?_|refine w5 ?_ ?_|((refine bh fun h=>?_) <;> try exact w6 h)|(refine aF fun hA=>?_;subst hA)|intro _|(show aA _ 53 _ _ _;refine CA (h:=d6 (x:=x) (a:=a) (s:=s) (M:=M) (mc:=mc) (R:=R) ?_);rw[ho,if_pos rfl]))
  all_goals(refine aC ?_;exact aB (hK))
theorem mC (hi:s.l[i]?=some m) (hid:m'.id=m.id) (h:bR B { s with l:=s.l.set i m' }) (hm:bX m'.id (s.l.set i m')=some m') (hK:∀M mc,K (.tuple #[]) (cY x a (kT m' { s with l:=s.l.set i m' }) M mc R)):CT 89 #[PO x,PO b] (sR b m'::cnH x a s M mc i b R) K:=by
 cases hg:DF m'
 ·have e:∀s,kT m' s=s:=fun s=>by unfold kT;rw[hg,if_neg Bool.false_ne_true]
  rw[e] at hK
  refine aJ Tryz.func89 ?_
  repeat' (first|refine v0 ?_|refine w5 ?_ ?_|((refine bh fun h=>?_) <;> try exact w6 h)|(refine aF fun hA=>?_;subst hA)|intro _|(show aA _ 168 _ _ _;refine CA (h:=J7 (m:=m') ?_);rw[hg]))
  all_goals(refine aC ?_;exact aQ (aG.trans (by exact bE) ((pG (x:=x) (a:=a) (M:=M) (mc:=mc) (R:=R) (b:=b) hi hid))) (hK _ _))
 ·have e:∀s,kT m' s=kA m'.id 0 true s:=fun s=>by unfold kT;rw[hg,if_pos rfl]
  rw[e] at hK
  refine aJ Tryz.func89 ?_
  repeat' (first|refine v0 ?_|refine w5 ?_ ?_|((refine bh fun h=>?_) <;> try exact w6 h)|(refine aF fun hA=>?_;subst hA)|intro _|(show aA _ 168 _ _ _;refine CA (h:=J7 (m:=m') ?_);rw[hg])|(show aA _ 170 _ _ _;refine CA (h:=L9 (m:=m') ?_))|(show aA _ 169 _ _ _;refine CA (h:=aA.ent (pG (x:=x) (a:=a) (M:=M) (mc:=mc) (R:=R) (b:=b) hi hid) (BI h hm (fun _ _=>?_)))))
  all_goals(refine aC ?_;exact aB (hK _ _))
theorem Fo {l:List Sm}:bX m.id (m::l)=some m:=by
 unfold bX cB
 rw[List.takeWhile_cons]
 simp
theorem YK:(kA id code gone s).l=s.l.eraseIdx (cB id s.l):=rfl
theorem EU {l:List Sm} (h:s.l=m::l):(kA m.id code gone s).l=l:=by
 rw[YK,h]
 unfold cB
 rw[List.takeWhile_cons]
 simp
theorem Fg:∀ {l:List Sm} {s:Cn},s.l=l->bR B s->bR B (pO code (l.map Sm.id) s)/\(pO code (l.map Sm.id) s).l= []
 | [],s,he,h=>⟨h,he⟩
 |m::l,s,he,h=>by
  have hm:bX m.id s.l=some m:=by rw[he];exact Fo
  exact Fg (s:=kA m.id code false s) (l:=l) (EU he) (zW h hm)
theorem Mc:MD []:=⟨by decide,fun y hy=>by cases hy⟩
theorem Ka (h:bR B s):bR B (o4 s):=
 { (Fg (code:=s.dr.co) rfl h).1 with ou:=Mc }
theorem Ik (h:bR B s) (hK:∀M mc,K (.tuple #[]) (cY x a (o4 s) M mc R)):CT 127 #[PO x] (cY x a s M mc R) K:=by
 have h64:=h.sm.1
 have hlm:(s.l.map Sm.id).length=s.l.length:=List.length_map ..
 unfold o4 at hK
 refine aJ Tryz.func127 ?_
 repeat' (first|refine v45 ?_|refine w5 ?_ ?_|((refine bh fun h=>?_) <;> try exact w6 h)|(refine aF fun hA=>?_;subst hA)|intro _|(show aA _ 60 _ _ _;refine CA (h:=GG (d:=s.dr) ?_))|(show aA _ 69 _ _ _;refine CA (h:=Lx (l:=s.l) h.sm (fun Bq dq=>?_))))
 refine iH (fun n a' C'=>∃(j:Nat) (s':Cn) (M':Option Addr) (mc':Nat),j+n=s.l.length/\s'.l=s.l.drop j/\bR B s'/\pO s.dr.co ((s.l.drop j).map Sm.id) s'=pO s.dr.co (s.l.map Sm.id) s/\cW a' [(0,PO x),(3,I6 s.dr.co),(18,.slice Bq (s.l.map Sm.id).length dq),(19,I6 s.l.length),(20,I6 j)]/\C'=bU Bq dq 3 mI (s.l.map Sm.id)::cY x a s' M' mc' R) s.l.length (cG s.l.length ⟨0,s,M,mc,by omega,rfl,h,rfl,⟨rfl,rfl,rfl,(by simp;rfl),rfl,trivial⟩,rfl⟩ (by omega)) ?_
 rintro n a' C' ⟨j,s',M',mc',hj,hl,h',hc,ha,rfl⟩
 refine gJ _ ha ?_
 simp only[fF]
 by_cases hlt:j<s.l.length
 ·obtain⟨m,hm,hd⟩:=i0 (l:=s.l) (j:=j) hlt
  rw[hd] at hl hc
  have hat:bX m.id s'.l=some m:=by rw[hl];exact Fo
  have hv:(s.l.map Sm.id)[((j:Nat):Int).toNat]?=some m.id:=by rw[Int.toNat_natCast,List.getElem?_map,hm];rfl
  repeat' (first|refine v45 ?_|refine w5 ?_ ?_|((refine bh fun h=>?_) <;> try exact w6 h)|(refine aF fun hA=>?_;subst hA)|intro _|(show aA _ 169 _ _ _;refine CA (h:=BI h' hat (fun _ _=>?_))))
  all_goals(show aZ _ _ _ _;exact cG (n - 1) ⟨j+1,kA m.id s.dr.co false s',_,_,by omega,EU hl,zW h' hat,hc,⟨rfl,rfl,rfl,rfl,rfl,trivial⟩,rfl⟩)
 ·have hj0:j=s.l.length:=by omega
  subst hj0
  rw[List.drop_length] at hc hl
  have hc:s'=pO s.dr.co (s.l.map Sm.id) s:=hc
  subst hc
  repeat' (first|refine v45 ?_|refine w5 ?_ ?_|((refine bh fun h=>?_) <;> try exact w6 h)|(refine aF fun hA=>?_;subst hA)|intro _|(show aA _ 208 _ _ _;refine CA (h:=Rx (fun _=>?_))))
  all_goals(refine aC ?_;exact aB (hK _ _))
end
section
variable {id la st:Int}
theorem Abi (hl:x9 la) (hc:x9 c):bV (Ci la c):=by
 have h1:=(gI la).2 hl
 have h2:=(gI c).2 hc
 have h3:y8 0=true:=by decide
 have h4:BF []=true:=Rb rfl
 have h5:(⟨#[]⟩:ByteArray)=ByteArray.empty:=rfl
 unfold bV jB Ci
 simp[h1,h2,h3,h4,h5,u5]
theorem iZ (h:bR B s):bR B (iD w o s):=
 Ka (s:= { s with dr:=p9 s.dr (hQ w o),last:=oU (Ci s.la (hQ w o)) }) { h with }
def DI:Tr:=(.br (.st 1 1 (.st 2 1 (.st 3 1 (.st 4 1 (.st 5 2 (.br (.st 0 2 (.st 6 2 (.st 10 3 (.st 7 1 (.st 8 1 (.st 11 1 (.st 9 2 (.st 12 0 .nil)))))))) (.st 10 3 (.st 0 2 (.st 6 2 (.st 7 1 (.st 8 1 (.st 11 1 (.st 9 2 (.st 12 0 .nil)))))))))))))) (.st 10 3 (.st 1 1 (.st 2 1 (.st 3 1 (.st 4 1 (.st 5 2 (.st 0 2 (.st 6 2 (.st 7 1 (.st 8 1 (.st 11 1 (.st 9 2 (.st 12 0 .nil))))))))))))))
def DT:List (Nat×Nat):= [(0,0),(1,0),(2,0),(3,0),(4,0),(5,0),(6,1)]
theorem dK (h:bR B s) (hw:0<=w/\w<=20) (ht:Js w=true) (hK:∀M mc,K (.tuple #[]) (cY x a (iD w o s) M mc R)):CT 57 #[PO x,.agg #[I6 w,I6 st,I6 o]] (cY x a s M mc R) K:=by
 have hla:=h.la
 have hc:=Kh (o:=o) hw
 have hr:=Abi hla (c:=hQ w o) ⟨by omega,by omega⟩
 unfold x9 at hla
 dsimp only[cY,p8]
 refine aJ Tryz.func57 ?_
 repeat' (first|refine v31 ?_|refine Hq DI ?_|refine dw DT ?_|refine w5 ?_ ?_|((refine bh fun h=>?_) <;> try exact w6 h)|(refine aF fun hA=>?_;subst hA)|intro _|(show aA _ 124 _ _ _;refine CA (h:=Q5 ?_))|(show aA _ 123 _ _ _;refine CA (h:=Afc hw ht hla ?_))|(show aA _ 125 _ _ _;refine CA (h:=Aau (d:=s.dr) ?_))|(show aA _ 126 _ _ _;refine CA (h:=OW (ps:= []) (show jB 9 0 false ⟨#[]⟩ 0 0 0 false (hQ w o) s.la 0 [] from hr) nD rfl ?_))|(show aA _ 127 _ _ _;refine CA (h:=Ik (x:=x) (a:=a) (s:= { s with dr:=p9 s.dr (hQ w o),last:=oU (Ci s.la (hQ w o)) }) (M:=M) (mc:=mc) (R:=R) (B:=B) { h with } (fun _ _=>?_))))
 all_goals(refine aC ?_;exact aB (hK _ _))
theorem Fj {out:List Fm} (h:MD out):MD (z8 f out):=by
 obtain⟨h1,h2⟩:=h
 unfold z8
 split
 ·exact⟨h1,h2⟩
 ·rename_i he
  have he:CN f out=0:=Classical.byContradiction he
  unfold CN at he
  split at he
  ·cases he
  ·rename_i hc
   have hc:l7 f=true:=by cases hq:l7 f <;> first|exact absurd hq hc|rfl
   have hn:=GD hc
   split at he
   ·cases he
   ·split at he
    ·rename_i hlt
     cases hy:out[qZ f out]? with
     |none=>exact absurd (List.getElem?_eq_none_iff.1 hy) (by omega)
     |some y=>
      refine⟨by simp only[List.length_set];exact h1,fun z hz=>?_⟩
      rcases List.mem_or_eq_of_mem_set hz with hz|rfl
      ·exact h2 z hz
      ·have:=h2 y (List.mem_of_getElem? hy)
       show 0<=y.n+f.n
       omega
    ·rename_i hlt
     split at he
     ·cases he
     ·have hy:out[qZ f out]?=none:=List.getElem?_eq_none_iff.2 (by omega)
      rw[hy]
      refine⟨by simp only[List.length_append,List.length_singleton];omega,fun z hz=>?_⟩
      rcases List.mem_append.1 hz with hz|hz
      ·exact h2 z hz
      ·rw[List.mem_singleton.1 hz];exact hn.1
theorem GT (h:bR B s):bR B (pA f s):=by
 unfold pA
 split
 ·exact { h with ou:=Fj h.ou }
 ·exact iZ h
def tZ:List (Nat×Nat):= [(0,0),(1,0),(2,0),(3,0),(4,0),(5,1),(6,0)]
theorem BD (h:bR B s) (hp:f.pa=none) (hp0:f.ps= []) (I8:f.pn=0) (hK:∀M mc,K (.tuple #[]) (cY x a (pA f s) M mc R)):CT 115 #[PO x,.agg #[I6 f.t,I6 f.st,.bool f.e,.string f.d,I6 f.k,I6 f.on,I6 f.w,.bool f.x,I6 f.c,I6 f.la,I6 f.n,.slice f.pa f.pn f.pc]] (cY x a s M mc R) K:=by
 unfold pA at hK
 by_cases he:CN f s.out=0
 ·rw[if_pos he] at hK
  dsimp only[cY,p8]
  refine aJ Tryz.func115 ?_
  repeat' (first|refine v46 ?_|refine dw tZ ?_|refine w5 ?_ ?_|((refine bh fun h=>?_) <;> try exact w6 h)|(refine aF fun hA=>?_;subst hA)|intro _|(show aA _ 38 _ _ _;refine CA (h:=Bw (f:=f) h.ou (by rw[hp0];exact nD) (by rw[hp0,I8];rfl) (by rw[I8];decide) ?_);rw[he]))
  all_goals(refine aC ?_;exact aB (hK _ _))
 ·rw[if_neg he] at hK
  have hou:z8 f s.out=s.out:=by unfold z8;rw[if_pos he]
  dsimp only[cY,p8]
  refine aJ Tryz.func115 ?_
  repeat' (first|(show Br _ _ _;refine Br.t (by simpa using he) ?_)|refine v46 ?_|refine dw tZ ?_|refine w5 ?_ ?_|((refine bh fun h=>?_) <;> try exact w6 h)|(refine aF fun hA=>?_;subst hA)|intro _|(show aA _ 38 _ _ _;refine CA (h:=Bw (f:=f) h.ou (by rw[hp0];exact nD) (by rw[hp0,I8];rfl) (by rw[I8];decide) ?_);rw[hou])|(show aA _ 57 _ _ _;refine CA (h:=dK (x:=x) (a:=a) (s:=s) h (by decide) (by decide) (fun _ _=>?_))))
  all_goals(refine aC ?_;exact aB (hK _ _))
end
section
variable {id la st:Int} {y:Ys} {l:List Sm}
def smR (b r:Nat) (m:Sm):HP:=fN fun li=>fN fun t=>sep (pt b [PO li,PO t,PO r,I6 m.id,.bool m.own] 206) (sep (p6 li m.sta) (sep (B9 t m.x) (bH (x6 m))))
def smT (b t:Nat) (m:Sm):HP:=fN fun li=>fN fun r=>sep (pt b [PO li,PO t,PO r,I6 m.id,.bool m.own] 206) (sep (p6 li m.sta) (sep (F2 r m.y) (bH (x6 m))))
theorem Aaz (h:x6 m):aG (F2 r m.y::pt b [PO li,PO t,PO r,I6 m.id,.bool m.own] 206::p6 li m.sta::B9 t m.x::R) (F2 r m.y::smR b r m::R):=
 aG.cons (aG.ex li (aG.ex t (qU h)))
theorem XY (h:x6 m):aG (B9 t m.x::pt b [PO li,PO t,PO r,I6 m.id,.bool m.own] 206::p6 li m.sta::F2 r m.y::R) (B9 t m.x::smT b t m::R):=
 aG.cons (aG.ex li (aG.ex r (qU h)))
theorem TV {f:FuncId} {args:Array Value} (h:x6 m->CT f args (sR b m::R) K):CT f args (sR b m::R) K:=
 nI fun _ _ _ hok=>aA.ent (cX hok) (h hok)
theorem BG (hK:∀r,K (PO r) (F2 r m.y::smR b r m::R)):CT 67 #[PO b] (sR b m::R) K:=by
 refine nI fun li t r h=>?_
 refine aJ Tryz.func67 ?_
 repeat' (first|refine v4 ?_|refine w5 ?_ ?_|((refine bh fun h=>?_) <;> try exact w6 h)|(refine aF fun hA=>?_;subst hA)|intro _)
 (refine aC ?_;exact aQ (aG.trans (by exact bE) ((Aaz h))) (hK _))
theorem Lc (hK:∀t,K (PO t) (B9 t m.x::smT b t m::R)):CT 64 #[PO b] (sR b m::R) K:=by
 refine nI fun li t r h=>?_
 refine aJ Tryz.func64 ?_
 repeat' (first|refine v4 ?_|refine w5 ?_ ?_|((refine bh fun h=>?_) <;> try exact w6 h)|(refine aF fun hA=>?_;subst hA)|intro _)
 (refine aC ?_;exact aQ (aG.trans (by exact bE) ((XY h))) (hK _))
theorem xO (hy:jH y=jH m.y):aG (F2 r y::smR b r m::R) (sR b { m with y:=y }::R):=fun H hs=>by
 have hs:=bZ.swap hs
 obtain⟨li,hs⟩:=hs.ex
 obtain⟨t,hs⟩:=hs.ex
 obtain⟨hok,hs⟩:=(sK H hs).pure
 have hok':x6 { m with y:=y }:=⟨hok.1.trans hy.symm,hok.2⟩
 exact cX (li:=li) (t:=t) (r:=r) hok' H hs
theorem G6 {z:Xs} (hy:bA z=bA m.x):aG (B9 t z::smT b t m::R) (sR b { m with x:=z }::R):=fun H hs=>by
 have hs:=bZ.swap hs
 obtain⟨li,hs⟩:=hs.ex
 obtain⟨r,hs⟩:=hs.ex
 obtain⟨hok,hs⟩:=(sK H hs).pure
 have hok':x6 { m with x:=z }:=⟨hy.trans hok.1,hok.2⟩
 exact cX (li:=li) (t:=t) (r:=r) hok' H (hs.perm (List.Perm.cons _ (List.Perm.cons _ (List.Perm.swap _ _ _))))
theorem Ij {t:Int}:∀l:List Sm,cB t l=((l.map Sm.id).takeWhile fun k=>decide (k<t)).length
 | []=>rfl
 |e::r=>by
  have ih:=Ij (t:=t) r
  unfold cB at ih ⊢
  rw[List.map_cons,List.takeWhile_cons,List.takeWhile_cons]
  split
  ·rw[List.length_cons,List.length_cons,ih]
  ·rfl
theorem CW (hi:l[i]?=some m) (hid:m'.id=m.id):(l.set i m').map Sm.id=l.map Sm.id:=by
 rw[List.map_set,hid]
 exact kB i (by rw[List.getElem?_map,hi];rfl)
theorem OC {t:Int} (hi:l[i]?=some m) (hid:m'.id=m.id):cB t (l.set i m')=cB t l:=by
 rw[Ij,Ij,CW hi hid]
theorem mM (hm:bX id l=some m) (hid:m'.id=m.id):bX m'.id (l.set (cB id l) m')=some m':=by
 obtain⟨h1,h2⟩:=aX hm
 have hlt:=(List.getElem?_eq_some_iff.1 h1).1
 unfold bX
 rw[OC h1 hid,hid,h2,List.getElem?_set_self hlt]
 simp only[hid,h2,if_true]
theorem WA (hm:bX id l=some m) (hid:m'.id=m.id):(l.set (cB id l) m').eraseIdx (cB m.id (l.set (cB id l) m'))=l.eraseIdx (cB m.id l):=by
 obtain⟨h1,h2⟩:=aX hm
 rw[OC h1 hid,h2,List.eraseIdx_set_eq]
theorem nF {b:Bool}:∀l:List Sm,(l.filter fun m=>m.own == b).length=((l.map Sm.own).filter fun q=>q == b).length
 | []=>rfl
 |m::l=>by
  rw[List.map_cons,List.filter_cons,List.filter_cons]
  split
  ·rw[List.length_cons,List.length_cons,nF l]
  ·exact nF l
theorem LF {b:Bool} (hi:l[i]?=some m) (ho:m'.own=m.own):((l.set i m').filter fun m=>m.own == b).length=(l.filter fun m=>m.own == b).length:=by
 rw[nF,nF,List.map_set,ho,kB i (by rw[List.getElem?_map,hi];rfl)]
theorem mA (h:bR B s) (hi:s.l[i]?=some m) (hid:m'.id=m.id) (ho:m'.own=m.own) (hm:Ey B m'):bR B { s with l:=s.l.set i m' }:=
 { h with
   sm:=Aem h.sm hi hid
   st:=fun z hz=>by
    rcases List.mem_or_eq_of_mem_set hz with hz|rfl
    ·exact h.st z hz
    ·exact hm
   ids:=fun z hz=>by
    rcases List.mem_or_eq_of_mem_set hz with hz|rfl
    ·exact h.ids z hz
    ·have:=h.ids m (List.mem_of_getElem? hi)
     show jV s.sd s.nx s.la z.id=true
     rw[hid];exact this
   own:=fun b=>by
    show((s.l.set i m').filter fun m=>m.own == b).length<=32
    rw[LF hi ho];exact h.own b
   mv:=by
    have:=h.mv
    show(s.mv.length:Int)+((s.l.set i m').length:Int)<=B
    rw[List.length_set];exact this }
theorem Aea {y:Yp} (h:Ha B y):Ha B (d8 y k):=by
 unfold Ha at h
 unfold d8
 split
 ·unfold Ha;dsimp only;omega
 ·exact h
theorem nE (h:bR B s):bR B { s with rv:=d8 s.rv k }:= { h with rv:=Aea h.rv }
theorem Y7 (h:Ey B m):Ey B (BR m):=by
 obtain⟨h1,h2,h3,h4⟩:=h
 unfold BR
 split
 ·refine⟨h1,?_,?_,?_⟩
  ·cases hx:m.x <;> rw[hx] at h2 <;> exact h2
  ·cases hy:m.y <;> rw[hy] at h3 <;> exact h3
  ·cases hy:m.y <;> (rw[hy] at h4;simp only[Eh,gH,List.length_nil] at h4 ⊢;omega)
 ·exact⟨h1,h2,h3,h4⟩
theorem Acx (h:Ey B m):Ey B { m with y:=Eh m.y }:=by
 obtain⟨h1,h2,h3,h4⟩:=h
 refine⟨h1,h2,?_,?_⟩
 ·cases hy:m.y <;> rw[hy] at h3 <;> exact h3
 ·cases hy:m.y <;> (rw[hy] at h4;simp only[Eh,gH,List.length_nil] at h4 ⊢;omega)
theorem Ace:(BR m).id=m.id:=by unfold BR;split <;> rfl
theorem TY:(BR m).own=m.own:=by unfold BR;split <;> rfl
theorem Ahd:bA (BR m).x=bA m.x:=by
 unfold BR
 split
 ·cases hx:m.x <;> simp only[Ag3] <;> rfl
 ·rfl
theorem Ah2:jH (Eh y)=jH y:=by cases y <;> rfl
theorem Ak9 (hok:x6 m) (h1:bA m.x=1):Je m+(gH (BR m).y:Nat)=(gH m.y:Nat):=by
 have h2:=hok.1
 rw[h1] at h2
 cases hy:m.y with
 |i z=>rw[hy] at h2;cases h2
 |b z=>
  unfold Je BR
  split
  ·rw[hy];simp[Eh,gH]
  ·rw[hy];simp
theorem Aje (hok:x6 m) (h1:bA m.x≠1):Je m=0:=by
 have h2:=hok.1
 cases hy:m.y with
 |b z=>rw[hy] at h2;exact absurd h2 h1
 |i z=>
  unfold Je
  rw[hy]
  split <;> rfl
theorem Nt (hm:bX id s.l=some m) (hid:m'.id=m.id):kA m'.id code gone { s with l:=s.l.set (cB id s.l) m' }=kA m.id code gone s:=by
 unfold kA
 dsimp only
 rw[hid,WA hm hid]
theorem o5 (h:bR B s) (hm:bX id s.l=some m):bR B (lY m code s):=by
 have h2:=(aX hm).2
 have h1:bX m.id s.l=some m:=by rw[h2];exact hm
 exact zW (nE h) (id:=m.id) (m:=m) h1
theorem EN {ev:Int} (h:bR B s) (hm:bX id s.l=some m) (he:ev=4\/ev=5) (hK:∀M mc,K (.tuple #[]) (cY x a (lY m code s) M mc R)):CT 191 #[PO x,PO b,I6 ev,I6 code] (sR b m::cnH x a s M mc (cB id s.l) b R) K:=by
 refine TV fun hok=>?_
 obtain⟨hi,hmid⟩:=aX hm
 have hI:=h.st m (List.mem_of_getElem? hi)
 have hln:=hI.ln
 have hB:=h.bb
 have hrv:=h.rv
 unfold Ha at hrv
 unfold lY at hK
 by_cases h1:bA m.x=1
 ·rw[if_pos h1] at hK
  have hn:=Ak9 hok h1
  have hid2:({ BR m with y:=Eh (BR m).y }:Sm).id=m.id:=Ace
  have hI2:bR B { { s with rv:=d8 s.rv (gH m.y:Nat) } with l:=s.l.set (cB id s.l) { BR m with y:=Eh (BR m).y } }:=mA (s:= { s with rv:=d8 s.rv (gH m.y:Nat) }) (nE h) hi hid2 TY (Acx (Y7 hI))
  have hK':=hK
  rw[<- Nt (s:= { s with rv:=d8 s.rv (gH m.y:Nat) }) (m:=m) (m':= { BR m with y:=Eh (BR m).y }) (id:=id) hm hid2] at hK'
  have h0:0<=Je m/\Je m<=gH m.y:=by
   unfold Je
   split
   ·cases hy:m.y with
    |b z=>simp[gH]
    |i z=>simp[gH]
   ·omega
  dsimp only[cnH,p8]
  refine aJ Tryz.func191 ?_
  repeat' (first|refine Hf ?_|refine w5 ?_ ?_|((refine bh fun h=>?_) <;> try exact w6 h)|(refine aF fun hA=>?_;subst hA)|intro _|(show aA _ 271 _ _ _;refine CA (h:=N1 (m:=m) he ?_))|(show aA _ 139 _ _ _;refine CA (h:=lA (m:=BR m) ?_);rw[Ahd,h1])|(show aA _ 67 _ _ _;refine CA (h:=BG (m:=BR m) (fun _=>?_)))|(show aA _ 272 _ _ _;refine CA (h:=Adg (y:=(BR m).y) ?_))|(show aA _ 87 _ _ _;rw[hn];refine CA (h:=uO (y:=s.rv) (by omega) (by omega) (fun _=>?_)))|(show aA _ 170 _ _ _;refine CA (h:=aA.ent (xO Ah2) (L9 (m:= { BR m with y:=Eh (BR m).y }) ?_)))|(show aA _ 169 _ _ _;refine CA (h:=aA.ent (pG (x:=x) (a:=a) (s:= { s with rv:=d8 s.rv (gH m.y:Nat) }) (M:=M) (mc:=mc) (R:=R) (b:=b) (m':= { BR m with y:=Eh (BR m).y }) hi hid2) (BI hI2 (mM hm hid2) (fun _ _=>?_)))))
  all_goals(refine aC ?_;exact aB (hK' _ _))
 ·rw[if_neg h1] at hK
  have hn:=Aje hok h1
  have hid2:(BR m).id=m.id:=Ace
  have hI2:bR B { { s with rv:=d8 s.rv 0 } with l:=s.l.set (cB id s.l) (BR m) }:=mA (s:= { s with rv:=d8 s.rv 0 }) (nE h) hi hid2 TY (Y7 hI)
  have hK':=hK
  rw[<- Nt (s:= { s with rv:=d8 s.rv 0 }) (m:=m) (m':=BR m) (id:=id) hm hid2] at hK'
  have hk1:bA (BR m).x≠1:=by rw[Ahd];exact h1
  dsimp only[cnH,p8]
  refine aJ Tryz.func191 ?_
  repeat' (first|(show Br _ _ _;refine Br.f (by simpa using hk1) ?_)|refine Hf ?_|refine w5 ?_ ?_|((refine bh fun h=>?_) <;> try exact w6 h)|(refine aF fun hA=>?_;subst hA)|intro _|(show aA _ 271 _ _ _;refine CA (h:=N1 (m:=m) he ?_);rw[hn])|(show aA _ 139 _ _ _;refine CA (h:=lA (m:=BR m) ?_))|(show aA _ 87 _ _ _;refine CA (h:=uO (y:=s.rv) (by omega) (by omega) (fun _=>?_)))|(show aA _ 170 _ _ _;refine CA (h:=L9 (m:=BR m) ?_))|(show aA _ 169 _ _ _;refine CA (h:=aA.ent (pG (x:=x) (a:=a) (s:= { s with rv:=d8 s.rv 0 }) (M:=M) (mc:=mc) (R:=R) (b:=b) (m':=BR m) hi hid2) (BI hI2 (mM hm hid2) (fun _ _=>?_)))))
  all_goals(refine aC ?_;exact aB (hK' _ _))
end
section
variable {id la st:Int} {own:Bool} {y:Ys} {l:List Sm} {cf:Cf}
theorem rA (h:bR B s):bR B (iM w st s):=by
 unfold iM
 split
 ·exact iZ h
 ·refine GT ?_
  cases hm:bX st s.l with
  |none=>exact h
  |some m=>exact o5 h hm
def mR:List (Nat×Nat):= [(0,0),(1,0),(2,0),(3,0),(4,0),(5,0),(6,1),(7,0),(8,0),(9,0),(10,0),(11,0)]
theorem jU (h:bR B s) (hw:0<=w/\w<=20) (hst:1<=st/\st<=2147483647) (hK:∀M mc,K (.tuple #[]) (cY x a (iM w st s) M mc R)):CT 194 #[PO x,.agg #[I6 w,I6 st,I6 0]] (cY x a s M mc R) K:=by
 unfold iM at hK
 cases ht:Js w
 ·rw[ht,if_neg Bool.false_ne_true] at hK
  cases hm:bX st s.l with
  |none=>
   rw[hm] at hK
   dsimp only[cY,p8]
   refine aJ Tryz.func194 ?_
   repeat' (first|refine v31 ?_|refine dw mR ?_|refine w5 ?_ ?_|((refine bh fun h=>?_) <;> try exact w6 h)|(refine aF fun hA=>?_;subst hA)|intro _|(show aA _ 202 _ _ _;refine CA (h:=xF hw ?_);rw[ht])|(show aA _ 123 _ _ _;refine CA (h:=TR hw ht hst ?_))|(show aA _ 144 _ _ _;refine CA (h:=mY (l:=s.l) h.sm hm ?_))|(show aA _ 115 _ _ _;refine CA (h:=BD (x:=x) (a:=a) (s:=s) (M:=M) (mc:=mc) (R:=R) (f:=nJ st (hQ w 0)) h rfl rfl rfl (fun _ _=>?_))))
   all_goals(refine aC ?_;exact aB (hK _ _))
  |some m=>
   rw[hm] at hK
   dsimp only[cY,p8]
   refine aJ Tryz.func194 ?_
   repeat' (first|refine v31 ?_|refine dw mR ?_|refine w5 ?_ ?_|((refine bh fun h=>?_) <;> try exact w6 h)|(refine aF fun hA=>?_;subst hA)|intro _|(show aA _ 202 _ _ _;refine CA (h:=xF hw ?_);rw[ht])|(show aA _ 123 _ _ _;refine CA (h:=TR hw ht hst ?_))|(show aA _ 144 _ _ _;refine CA (h:=gG (l:=s.l) h.sm hm (fun _=>?_)))|(show aA _ 191 _ _ _;refine CA (h:=EN (x:=x) (a:=a) (s:=s) (M:=M) (mc:=mc) (m:=m) h hm (.inl rfl) (fun _ _=>?_)))|(show aA _ 115 _ _ _;refine CA (h:=BD (x:=x) (a:=a) (s:=lY m (hQ w 0) s) (f:=nJ st (hQ w 0)) (o5 h hm) rfl rfl rfl (fun _ _=>?_))))
   all_goals(refine aC ?_;exact aB (hK _ _))
 ·rw[ht,if_pos rfl] at hK
  refine aJ Tryz.func194 ?_
  repeat' (first|refine v31 ?_|refine dw mR ?_|refine w5 ?_ ?_|((refine bh fun h=>?_) <;> try exact w6 h)|(refine aF fun hA=>?_;subst hA)|intro _|(show aA _ 202 _ _ _;refine CA (h:=xF hw ?_);rw[ht])|(show aA _ 57 _ _ _;refine CA (h:=dK (x:=x) (a:=a) (s:=s) h hw ht (fun _ _=>?_))))
  all_goals(refine aC ?_;exact aB (hK _ _))
theorem s8 {n m:Nat} {I:Nat->Fr->List HP->Prop} {a:Fr} {C':List HP} (hm:m<n) (he:aG C C') (hi:I m a C'):aZ n I a C:=cG m hi hm he
theorem sC (hI:bR B s) (hK:K (I6 (fJ s own:Nat)) (cY x a s M mc R)):CT 62 #[PO x,.bool own] (cY x a s M mc R) K:=by
 have h64:=hI.sm.1
 refine aJ Tryz.func62 ?_
 repeat' (first|refine Hf ?_|refine w5 ?_ ?_|((refine bh fun h=>?_) <;> try exact w6 h)|(refine aF fun hA=>?_;subst hA)|intro _|(show aA _ 61 _ _ _;refine CA (h:=yF (l:=s.l) ?_)))
 refine iH (fun n a' C'=>∃(j q:Nat),j+n=s.l.length/\q<=j/\q+((s.l.drop j).filter fun m=>m.own == own).length=fJ s own/\cW a' [(0,PO x),(1,.bool own),(5,I6 q),(14,I6 s.l.length),(15,I6 j)]/\C'=cY x a s M mc R) s.l.length (cG s.l.length ⟨0,0,by omega,by omega,by unfold fJ;simp,⟨rfl,rfl,rfl,rfl,rfl,trivial⟩,rfl⟩ (by omega)) ?_
 rintro n a' C' ⟨j,q,hj,hq,hc,ha,rfl⟩
 refine gJ _ ha ?_
 simp only[fF]
 by_cases hlt:j<s.l.length
 ·obtain⟨m,hm,hd⟩:=i0 (l:=s.l) (j:=j) hlt
  rw[hd,List.filter_cons] at hc
  cases ho:(m.own == own)
  ·rw[ho,if_neg Bool.false_ne_true] at hc
   have hne:m.own≠own:=by simpa using ho
   repeat' (first|(show Br _ _ _;refine Br.f (by simpa using hne) ?_)|refine Hf ?_|refine w5 ?_ ?_|((refine bh fun h=>?_) <;> try exact w6 h)|(refine aF fun hA=>?_;subst hA)|intro _|(show aA _ 63 _ _ _;refine CA (h:=Fq (l:=s.l) hI.sm hm (fun _=>?_)))|(show aA _ 129 _ _ _;refine CA (h:=zZ (m:=m) ?_)))
   all_goals(show aZ _ _ _ _;exact s8 (m:=n - 1) (by omega) (aG.trans (by exact bE) (f3 (x:=x) (a:=a) (s:=s) (M:=M) (mc:=mc) (R:=R) hm)) ⟨j+1,q,by omega,by omega,hc,⟨rfl,rfl,rfl,rfl,rfl,trivial⟩,rfl⟩)
  ·rw[ho,if_pos rfl,List.length_cons] at hc
   have hne:m.own=own:=by simpa using ho
   repeat' (first|(show Br _ _ _;refine Br.t (by simpa using hne) ?_)|refine Hf ?_|refine w5 ?_ ?_|((refine bh fun h=>?_) <;> try exact w6 h)|(refine aF fun hA=>?_;subst hA)|intro _|(show aA _ 63 _ _ _;refine CA (h:=Fq (l:=s.l) hI.sm hm (fun _=>?_)))|(show aA _ 129 _ _ _;refine CA (h:=zZ (m:=m) ?_)))
   all_goals(show aZ _ _ _ _;exact s8 (m:=n - 1) (by omega) (aG.trans (by exact bE) (f3 (x:=x) (a:=a) (s:=s) (M:=M) (mc:=mc) (R:=R) hm)) ⟨j+1,q+1,by omega,by omega,by omega,⟨rfl,rfl,rfl,rfl,rfl,trivial⟩,rfl⟩)
 ·have hj0:j=s.l.length:=by omega
  subst hj0
  rw[List.drop_length] at hc
  have hc:q=fJ s own:=by simpa using hc
  subst hc
  repeat' (first|refine Hf ?_|refine w5 ?_ ?_|((refine bh fun h=>?_) <;> try exact w6 h)|(refine aF fun hA=>?_;subst hA)|intro _)
  all_goals(refine aC ?_;exact aB (hK))
theorem Pl (hk:kind=1\/kind=2) (hid:1<=id/\id<=2147483647) (hb:0<=cf.sb/\cf.sb<=4096) (hi:0<=cf.si/\cf.si<=64) (hg:0<=sg/\sg<=2) (hh:qF h3) (hK:∀b,K (.tuple #[PO b,I6 0]) (sR b (fQ cf h3 id kind sg own)::R)):CT 90 #[I6 id,I6 kind,.bool own,.agg #[I6 h3.w,I6 h3.st,I6 h3.it,I6 cf.sb,I6 cf.si,I6 sg,I6 cf.ev,I6 cf.wa,I6 cf.sl]] R K:=by
 obtain⟨cw,cst,cit,sb,si,csg,ev,wa,sl⟩:=cf
 obtain⟨cap,rfl⟩:∃n:Nat,sb=n:=⟨sb.toNat,(Int.toNat_of_nonneg hb.1).symm⟩
 obtain⟨cai,rfl⟩:∃n:Nat,si=n:=⟨si.toNat,(Int.toNat_of_nonneg hi.1).symm⟩
 have e1:((cap:Nat):Int).toNat=cap:=Int.toNat_natCast cap
 have e2:((cai:Nat):Int).toNat=cai:=Int.toNat_natCast cai
 rcases hk with rfl|rfl
 ·have e:fQ ⟨cw,cst,cit,(cap:Nat),(cai:Nat),csg,ev,wa,sl⟩ h3 id 1 sg own=⟨id,own,1,.b ⟨cap,[],false,false,0,0,0⟩,.b ⟨h3.w,h3.w,h3.w,0,0,[],false⟩⟩:=by
   unfold fQ;rw[if_pos rfl];dsimp only;rw[e1]
  rw[e] at hK
  exact aA.entK (PK hid (by simp only at hb;omega) hh fun b li t r=>⟨_,cX (m:=⟨id,own,1,.b ⟨cap,[],false,false,0,0,0⟩,.b ⟨h3.w,h3.w,h3.w,0,0,[],false⟩⟩) ⟨rfl,.inl rfl⟩,hK b⟩)
 ·have e:fQ ⟨cw,cst,cit,(cap:Nat),(cai:Nat),csg,ev,wa,sl⟩ h3 id 2 sg own=⟨id,own,1,.i ⟨cai,sg,[],0,false,false,0,0,0⟩,.i ⟨h3.it,h3.it,0,0,[],0,0,0,false⟩⟩:=by
   unfold fQ;rw[if_neg (by decide)];dsimp only;rw[e2]
  rw[e] at hK
  exact aA.entK (P4 hid (by simp only at hi;omega) hg hh fun b li t r=>⟨_,cX (m:=⟨id,own,1,.i ⟨cai,sg,[],0,false,false,0,0,0⟩,.i ⟨h3.it,h3.it,0,0,[],0,0,0,false⟩⟩) ⟨rfl,.inl rfl⟩,hK b⟩)
theorem OQ (he:m.id=id) (hs:Ga l) (hm:bX id l=none) (h64:l.length<64) (hK:K (I6 0) (HT p (jT m l)::R)):CT 159 #[PO p,I6 id,PO b] (sR b m::HT p l::R) K:=by
 subst he;exact Agz hs hm h64 hK
theorem S9 {b:Bool}:((jT m l).filter fun m=>m.own == b).length=(l.filter fun m=>m.own == b).length+if m.own == b then 1 else 0:=by
 have h:(l.filter fun m=>m.own == b).length=((l.take (cB m.id l)).filter fun m=>m.own == b).length+((l.drop (cB m.id l)).filter fun m=>m.own == b).length:=by
  rw[<- List.length_append,<- List.filter_append,List.take_append_drop]
 unfold jT
 rw[h,List.filter_append,List.length_append,List.filter_cons]
 split <;> first|(simp only[List.length_cons];omega)|omega
theorem TW (hI:bR B s) (hm:bX id s.l=none) (hl:s.l.length<64) (hid:1<=id/\id<=2147483647) (hp:jV s.sd s.nx s.la id=true) (ho:fJ s own<32) (hb:(s.mv.length:Int)+s.l.length+1<=B):bR B (Iy id kind on w xx own sg s):=
 { hI with
   sm:=Aeq (m:=fQ s.cf s.sh.h id kind sg own) hI.sm (by
    have e:(fQ s.cf s.sh.h id kind sg own).id=id:=by unfold fQ;split <;> rfl
    rw[e];exact hm) hl
   st:=fun z hz=>by
    have hB:=hI.bb
    rcases A8 hz with rfl|hz
    ·unfold fQ
     split
     ·exact⟨hid,by show(0:Int)<=B;omega,by show(0:Int)<=B;omega,by show((0:Nat):Int)<=B;omega⟩
     ·exact⟨hid,by show(0:Int)<=B;omega,by show(0:Int)<=B;omega,by show((0:Nat):Int)<=B;omega⟩
    ·exact hI.st z hz
   ids:=fun z hz=>by
    rcases A8 hz with rfl|hz
    ·have e:(fQ s.cf s.sh.h id kind sg own).id=id:=by unfold fQ;split <;> rfl
     show jV s.sd s.nx s.la _=true
     rw[e];exact hp
    ·exact hI.ids z hz
   own:=fun b=>by
    have e:(fQ s.cf s.sh.h id kind sg own).own=own:=by unfold fQ;split <;> rfl
    show((jT (fQ s.cf s.sh.h id kind sg own) s.l).filter fun m=>m.own == b).length<=32
    rw[S9,e]
    have h1:=hI.own b
    unfold fJ at h1 ho
    split
    ·rename_i hb
     have hb:own=b:=by simpa using hb
     subst hb;omega
    ·omega
   tr:=Agb hI.tr
   ld:=by
    show F4 B (if kind=1 then iB id s.pe.w s.ld else s.ld)
    split
    ·exact Y3 hI.ld
    ·exact hI.ld
   mv:=by
    show(s.mv.length:Int)+((jT _ s.l).length:Int)<=B
    have e:(jT (fQ s.cf s.sh.h id kind sg own) s.l).length<=s.l.length+1:=by
     unfold jT
     rw[List.length_append,List.length_cons,List.length_take,List.length_drop]
     omega
    omega }
def wH:List (Nat×Nat):= [(0,0),(1,0),(2,0),(3,0),(4,0),(5,0),(6,1)]
def vT:List (Nat×Nat):= [(0,0),(1,0),(2,0),(3,0),(4,0),(5,0),(6,0),(7,0),(8,0),(9,0),(10,1)]
theorem NW (hI:bR B s) (hk:kind=1\/kind=2) (hg:0<=sg/\sg<=2) (hm:bX id s.l=none) (hl:s.l.length<64) (hid:1<=id/\id<=2147483647) (hK:K (I6 0) (cY x a (Iy id kind on w xx own sg s) M mc R)):CT 83 #[PO x,I6 id,I6 kind,.bool own,.agg #[I6 on,I6 w,.bool xx],I6 sg] (cY x a s M mc R) K:=by
 have hB:=hI.bb
 have htl:=hI.tr.len
 have he:(fQ s.cf s.sh.h id kind sg own).id=id:=by unfold fQ;split <;> rfl
 unfold Iy at hK
 by_cases h1:kind=1
 ·simp only[if_pos h1] at hK
  dsimp only[cY,p8] at hK ⊢
  refine aJ Tryz.func83 ?_
  repeat' (first|(show Br _ _ _;refine Br.t (by simpa using h1) ?_)|refine v64 ?_|refine dw wH ?_|refine dw vT ?_|refine w5 ?_ ?_|((refine bh fun h=>?_) <;> try exact w6 h)|(refine aF fun hA=>?_;subst hA)|intro _|(show aA _ 158 _ _ _;refine CA (h:=xV (s:=s.sh) ?_))|(show aA _ 90 _ _ _;refine CA (h:=Pl (cf:=s.cf) (h3:=s.sh.h) hk hid hI.cf.1 hI.cf.2.1 hg hI.sh.2.1 (fun _=>?_)))|(show aA _ 159 _ _ _;refine CA (h:=OQ (l:=s.l) (m:=fQ s.cf s.sh.h id kind sg own) he hI.sm hm hl ?_))|(show aA _ 160 _ _ _;refine CA (h:=FJ (s:=s.tr) hI.tr.kok (by omega) (by decide) ?_))|(show aA _ 161 _ _ _;refine CA (h:=Wh (hI.ld.ok (by omega)) (fun _=>?_))))
  all_goals(refine aC ?_;exact aB (hK))
 ·simp only[if_neg h1] at hK
  dsimp only[cY,p8] at hK ⊢
  refine aJ Tryz.func83 ?_
  repeat' (first|(show Br _ _ _;refine Br.f (by first|(simp <;> done)|simpa using h1) ?_)|refine v64 ?_|refine dw wH ?_|refine dw vT ?_|refine w5 ?_ ?_|((refine bh fun h=>?_) <;> try exact w6 h)|(refine aF fun hA=>?_;subst hA)|intro _|(show aA _ 158 _ _ _;refine CA (h:=xV (s:=s.sh) ?_))|(show aA _ 90 _ _ _;refine CA (h:=Pl (cf:=s.cf) (h3:=s.sh.h) hk hid hI.cf.1 hI.cf.2.1 hg hI.sh.2.1 (fun _=>?_)))|(show aA _ 159 _ _ _;refine CA (h:=OQ (l:=s.l) (m:=fQ s.cf s.sh.h id kind sg own) he hI.sm hm hl ?_))|(show aA _ 160 _ _ _;refine CA (h:=FJ (s:=s.tr) hI.tr.kok (by omega) (by decide) ?_)))
  all_goals(refine aC ?_;exact aB (hK))
end
section
variable {id la st:Int} {own:Bool} {y:Ys} {l:List Sm} {cf:Cf}
theorem Ey.mono (h:Ey B m) (hB:B<=B'):Ey B' m:=by
 obtain⟨h1,h2,h3,h4⟩:=h
 exact⟨h1,by omega,by omega,by omega⟩
theorem bR.mono (h:bR B s) (hB:B<=B') (hb:B'<=250000000):bR B' s:=
 { h with
   bb:=by have:=h.bb;omega
   st:=fun z hz=>(h.st z hz).mono hB
   ld:=h.ld.mono hB
   rv:=by have:=h.rv;unfold Ha at this ⊢;omega
   bt:=by have:=h.bt;omega
   sl:=by have:=h.sl;omega
   inb:=by have:=h.inb;omega
   now:=by have:=h.now;omega
   mv:=by have:=h.mv;omega }
theorem nC (hb:Ha B z) (hB:B<=250000000) (hk:0<=k/\k<=900000000) (hK:K (I6 (jD z k)) (zC p (fG z k).cap (fG z k).most (fG z k).gr (fG z k).got (fG z k).us::R)):CT 197 #[PO p,I6 k] (zC p z.cap z.most z.gr z.got z.us::R) K:=by
 unfold Ha at hb
 by_cases h:max (z.gr - z.got) 0<k
 ·have e:jD z k=9:=by unfold jD;rw[if_pos h]
  unfold fG at hK
  rw[e] at hK
  simp only[if_neg (show ¬(9:Int)=0 by decide)] at hK
  exact Ks h (by omega) hK
 ·have e:jD z k=0:=by unfold jD;rw[if_neg h]
  unfold fG at hK
  rw[e] at hK
  simp only[if_true] at hK
  exact GI (by omega) (by omega) hK
theorem Afq (h:Ha B z) (hk:0<=k/\k<=B' - B):Ha B' (fG z k):=by
 unfold Ha at h
 by_cases hg:jD z k=0
 ·have e:fG z k= { z with got:=z.got+k }:=by unfold fG;rw[if_pos hg]
  rw[e]
  unfold jD at hg
  by_cases h0:max (z.gr - z.got) 0<k
  ·rw[if_pos h0] at hg;cases hg
  ·unfold Ha;dsimp only;omega
 ·have e:fG z k=z:=by unfold fG;rw[if_neg hg]
  rw[e]
  unfold Ha;omega
theorem KQ:0<=dO m t d e/\dO m t d e<=20:=by
 unfold dO
 split
 ·omega
 ·split
  ·omega
  ·unfold u4
   split <;> (split <;> (try split) <;> omega)
theorem Zn (h:Ey B m) (hd:d.size<=256) (hB:B+300<=B'):Ey B' (eB m d e):=by
 obtain⟨h1,h2,h3,h4⟩:=h
 refine⟨h1,by show K0 m.x<=B';omega,?_,?_⟩
 ·show Jk (xH m.y d e)<=B'
  cases hy:m.y with
  |b y=>rw[hy] at h3;simp only[xH,Jk] at h3 ⊢;omega
  |i y=>
   rw[hy] at h3
   by_cases hc:d≠⟨#[]⟩\/e=false
   ·simp only[xH,if_pos hc,Jk] at h3 ⊢;omega
   ·simp only[xH,if_neg hc,Jk] at h3 ⊢;omega
 ·show(gH (xH m.y d e):Int)<=B'
  have hdl:d.data.toList.length=d.size:=Array.length_toList
  cases hy:m.y with
  |b y=>rw[hy] at h4;simp only[xH,gH,List.length_append] at h4 ⊢;omega
  |i y=>
   rw[hy] at h4
   by_cases hc:d≠⟨#[]⟩\/e=false
   ·simp only[xH,if_pos hc,gH,List.length_append,List.length_singleton] at h4 ⊢;omega
   ·simp only[xH,if_neg hc,gH] at h4 ⊢;omega
end
end Go.Proofs.YtffnpejdkkohcaaGreat
