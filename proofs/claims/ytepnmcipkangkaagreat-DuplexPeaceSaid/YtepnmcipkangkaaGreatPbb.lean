/- A part of the proof: lemmas; each with the conditions that it states. -/
import Derived.Test.YtepnmcipkangkaaGreatPax
import Derived.Test.YtepnmcipkangkaaGreatPay
import Derived.Test.YtepnmcipkangkaaGreatPan
set_option linter.unusedVariables false
set_option linter.unusedSimpArgs false
set_option maxRecDepth 100000
set_option maxHeartbeats 40000000
namespace Go.Proofs.YtepnmcipkangkaaGreat
open Go Go.Proofs Go.Sl
attribute [local irreducible] aN fJ cY bN aM aS aA dM dN aV dL pt ro fB star sep bF
attribute [local irreducible] mp CV
structure Cf where
 w:Int
 st:Int
 it:Int
 sb:Int
 si:Int
 sg:Int
 ev:Int
 wa:Int
 sl:Int
structure Yp where
 cap:Int
 most:Int
 gr:Int
 got:Int
 us:Int
structure Mv where
 k:Int
 id:Int
 n:Int
 s:ByteArray
 e:Bool
structure Cn where
 cf:Cf
 sd:Int
 nx:Int
 la:Int
 l:List Sm
 tr:eW
 pk:List (KE Int)
 pc:Nat
 ld:Ld
 rv:Yp
 sh:Gm
 pe:dZ
 bt:Bt
 sl:Pp
 dr:Dr
 out:List Fm
 inb:List UInt8
 ine:Int
 now:Int
 last:ByteArray
 mv:List Mv
def fr0 (t st:Int):Fm:=⟨t,st,false,⟨#[]⟩,0,0,0,false,0,0,0,none,0,0,[]⟩
def tQ (t st:Int) (d:ByteArray) (e:Bool):Fm:=⟨t,st,e,d,0,0,0,false,0,0,0,none,0,0,[]⟩
def lK (st k on w:Int) (x:Bool):Fm:=⟨2,st,false,⟨#[]⟩,k,on,w,x,0,0,0,none,0,0,[]⟩
def mP (st on w:Int) (x:Bool):Fm:=⟨3,st,false,⟨#[]⟩,0,on,w,x,0,0,0,none,0,0,[]⟩
def fK (st c:Int):Fm:=⟨4,st,false,⟨#[]⟩,0,0,0,false,c,0,0,none,0,0,[]⟩
def vK (ps:List Pr):Fm:=⟨5,0,false,⟨#[]⟩,0,0,0,false,0,0,0,none,ps.length,0,ps⟩
def zM (la c:Int):Fm:=⟨9,0,false,⟨#[]⟩,0,0,0,false,c,la,0,none,0,0,[]⟩
def zD (t st n:Int):Fm:=⟨t,st,false,⟨#[]⟩,0,0,0,false,0,0,n,none,0,0,[]⟩
def kL (y:Yp) (k:Int):Int:=if max (y.gr - y.got) 0<k then 9 else 0
def f7 (y:Yp) (k:Int):Yp:=if kL y k=0 then { y with got:=y.got+k } else y
def fL (y:Yp) (k:Int):Yp:=if 0<=k/\k<=y.got - y.us then { y with us:=y.us+k } else y
def nH (y:Yp):Int:=rJ y.cap y.gr y.us
def S4 (y:Yp):Yp:= { y with gr:=y.gr+nH y }
def fW (s:Cn) (b:Bool):Nat:=(s.l.filter fun m=>m.own == b).length
def tY (m:Mv) (s:Cn):Cn:= { s with mv:=s.mv++ [m] }
def vU (s:Cn) (id:Int):Bool:=gF s.sd s.nx s.la id
def aD (s:Cn):Cn:= { s with mv:= [] }
def cG (s:Cn) (id:Int):Int:=if s.dr.ov=true then 14 else match bY id s.l with
 |some _=>0
 |none=>if vU s id=true then 14 else 7
def lI (id code:Int) (gone:Bool) (s:Cn):Cn:=
 { s with l:=s.l.eraseIdx (cI id s.l),tr:=Az id s.tr,pk:=(if sP id s.pk=0 then s.pk else nJ id s.pk),ld:=kJ id s.ld,mv:=s.mv++ [⟨4,id,code,⟨#[]⟩,gone⟩] }
def qK (code:Int):List Int->Cn->Cn
 | [],s=>s
 |id::r,s=>qK code r (lI id code false s)
def kW (m:Sm) (s:Cn):Cn:=if Kq m=true then lI m.id 0 true s else s
def uS (s:Cn):Cn:= { qK s.dr.co (s.l.map Sm.id) s with out:= [] }
def iA (w o:Int) (s:Cn):Cn:=uS { s with dr:=wJ s.dr (iY w o),last:=xP (zM s.la (iY w o)) }
def mQ (f:Fm) (s:Cn):Cn:=if zB f s.out=0 then { s with out:=wK f s.out } else iA 18 0 s
def qI (m:Sm) (code:Int) (s:Cn):Cn:=lI m.id code false { s with rv:=fL s.rv (if bA m.x=1 then(iQ m.y:Nat) else 0) }
def i3 (w st:Int) (s:Cn):Cn:=if K0 w=true then iA w 0 s else
 mQ (fK st (iY w 0)) (match bY st s.l with
  |some m=>qI m (iY w 0) s
  |none=>s)
def iC (cf:Cf) (h:dZ) (id kind sg:Int) (own:Bool):Sm:=if kind=1 then⟨id,own,1,.b ⟨cf.sb.toNat,[],false,false,0,0,0⟩,.b ⟨h.w,h.w,h.w,0,0,[],false⟩⟩ else⟨id,own,1,.i ⟨cf.si.toNat,sg,[],0,false,false,0,0,0⟩,.i ⟨h.it,h.it,0,0,[],0,0,0,false⟩⟩
def GZ (id kind on w:Int) (x own:Bool) (sg:Int) (s:Cn):Cn:=
 { s with l:=lB (iC s.cf s.sh.h id kind sg own) s.l,tr:=nY id on w x 64 s.tr,ld:=if kind=1 then gG id s.pe.w s.ld else s.ld }
def mE (kind sg on w:Int) (x:Bool) (s:Cn):Int:=if s.dr.ov=true then 14 else if kind≠1/\kind≠2 then 13 else if sg<0\/2<sg then 2 else if L5 s.dr=false then 15 else if 2147483647<s.nx\/min s.pe.st 32<=(fW s true:Nat) then 16 else if lM (lK s.nx kind on w x)=false then 2 else if on=s.nx then 12 else if 64<=s.out.length then 9 else 0
def mM (kind sg on w:Int) (x:Bool) (s:Cn):Cn:=if mE kind sg on w x s≠0 then aD s else
 GZ s.nx kind on w x true sg { aD s with nx:=s.nx+2,out:=wK (lK s.nx kind on w x) s.out }
def wV (m:Sm) (s:Cn):Cn:= { s with l:=s.l.set (cI m.id s.l) m }
def BE (id:Int) (d:ByteArray) (s:Cn):Int×Int:=if cG s id≠0 then(0,cG s id) else match bY id s.l with
 |some m=>(VE m d,Wj m d)
 |none=>(0,0)
def oW (id:Int) (d:ByteArray) (s:Cn):Cn:=if cG s id≠0 then aD s else match bY id s.l with
 |some m=>wV (Bz m d) (aD s)
 |none=>s
def Tk (id:Int) (s:Cn):Int:=if cG s id≠0 then cG s id else match bY id s.l with
 |some m=>Vl m
 |none=>0
def Ax (id:Int) (s:Cn):Cn:=if cG s id≠0 then aD s else match bY id s.l with
 |some m=>wV (Bm m) (aD s)
 |none=>s
def xA (id n:Int) (s:Cn):ByteArray×Bool×Int:=if cG s id≠0 then(⟨#[]⟩,false,cG s id) else match bY id s.l with
 |some m=>if P8 m.y≠0 then(⟨#[]⟩,false,P8 m.y) else(CX m.y n,Kh (FL m.y n),0)
 |none=>(⟨#[]⟩,false,0)
def tV (id n:Int) (s:Cn):Cn:=if cG s id≠0 then aD s else match bY id s.l with
 |some m=>if P8 m.y≠0 then aD s else kW { m with y:=FL m.y n } { wV { m with y:=FL m.y n } (aD s) with rv:=fL s.rv ((CX m.y n).size:Nat) }
 |none=>s
def uJ (id:Int) (s:Cn):ByteArray×Bool×Bool×Int:=if cG s id≠0 then(⟨#[]⟩,false,false,cG s id) else match bY id s.l with
 |some m=>if YE m.y≠0 then(⟨#[]⟩,false,false,YE m.y) else(Aor m.y,Afw m.y,Kh (Ga m.y),0)
 |none=>(⟨#[]⟩,false,false,0)
def tZ (id:Int) (s:Cn):Cn:=if cG s id≠0 then aD s else match bY id s.l with
 |some m=>if YE m.y≠0 then aD s else kW { m with y:=Ga m.y } (wV { m with y:=Ga m.y } (aD s))
 |none=>s
def Uj (id n:Int) (s:Cn):Int:=if cG s id≠0 then cG s id else match bY id s.l with
 |some m=>W0 m.y n
 |none=>0
def Ar (id n:Int) (s:Cn):Cn:=if cG s id≠0 then aD s else match bY id s.l with
 |some m=>wV { m with y:=Hy m.y n } (aD s)
 |none=>s
def ND (id on w:Int) (x:Bool) (s:Cn):Int:=if cG s id≠0 then cG s id else if lM (mP id on w x)=false then 2 else if on=id then 12 else if zB (mP id on w x) s.out≠0 then 9 else qJ id on w s.tr
def sI (id on w:Int) (x:Bool) (s:Cn):Cn:=if cG s id≠0\/lM (mP id on w x)=false\/on=id\/zB (mP id on w x) s.out≠0 then aD s else { aD s with out:=wK (mP id on w x) s.out,tr:=lC id on w x s.tr }
def kQ (id c:Int) (s:Cn):Int:=if cG s id≠0 then cG s id else if lM (fK id c)=false then 2 else if zB (fK id c) s.out≠0 then 9 else 0
def nC (id c:Int) (s:Cn):Cn:=if kQ id c s≠0 then aD s else match bY id s.l with
 |some m=>qI m c { aD s with out:=wK (fK id c) s.out }
 |none=>s
def Abu (s:Cn):Int:=if s.dr.ov=true then 14 else if s.dr.se=true then 11 else if zB (zM s.la 0) s.out≠0 then 9 else HZ s.dr s.la
def EK (s:Cn):Cn:=if s.dr.ov=true\/s.dr.se=true\/zB (zM s.la 0) s.out≠0 then aD s else { aD s with out:=wK (zM s.la 0) s.out,dr:=AQ s.dr s.la }
def TM (t:dZ) (s:Cn):Int:=if s.dr.ov=true then 14 else if 64<=s.out.length then 9 else if g8 s.sh t≠0 then g8 s.sh t else zB (vK (Ds (mK s.sh) t)) s.out
def wO (t:dZ) (s:Cn):Cn:=if s.dr.ov=true\/64<=s.out.length\/g8 s.sh t≠0 then aD s else { aD s with sh:=eB s.sh t,out:=wK (vK (Ds (mK s.sh) t)) s.out }
def pI (s:Cn):Cn:= { s with now:=s.now+1 }
def rS (f:Fm) (s:Cn):Cn:=
 if kL s.rv (if f.t=0 then(f.d.size:Nat) else 0)≠0 then iA 9 0 s
 else match bY f.st s.l with
  |none=> { s with rv:=fL (f7 s.rv (if f.t=0 then(f.d.size:Nat) else 0)) (if f.t=0 then(f.d.size:Nat) else 0) }
  |some m=>if eS m f.t f.d f.e≠0 then i3 (eS m f.t f.d f.e) f.st { s with rv:=fL (f7 s.rv (if f.t=0 then(f.d.size:Nat) else 0)) (if f.t=0 then(f.d.size:Nat) else 0) }
   else kW (fV m f.d f.e) (tY ⟨2,f.st,if f.t=1/\(f.d≠⟨#[]⟩\/f.e=false) then 1 else if f.t=0 then(f.d.size:Nat) else 0,f.d,f.e⟩ (wV (fV m f.d f.e) { s with rv:=f7 s.rv (if f.t=0 then(f.d.size:Nat) else 0) }))
def mN (f:Fm) (s:Cn):Cn:=
 if nF s.sd s.la f.st≠0 then iA 1 0 s
 else if f.on=f.st then iA 2 0 { s with la:=f.st }
 else if E4 s.dr f.st=false then i3 4 f.st { s with la:=f.st }
 else if s.sh.h.st<=(fW s false:Nat) then i3 3 f.st { s with la:=f.st }
 else tY ⟨3,f.st,f.k,⟨#[]⟩,false⟩ (GZ f.st f.k f.on f.w f.x false s.cf.sg { s with la:=f.st })
def kT (f:Fm) (m:Sm) (s:Cn):Cn:=
 if(bA m.x=1)≠(f.t=10) then i3 6 f.st s
 else if f.n=0 then i3 11 f.st s
 else if bA m.x=1 then(if l9 f.st f.n s.ld≠0 then i3 13 f.st s else { s with ld:=j0 f.st f.n s.ld,sl:=f5 s.sl s.now })
 else(if Gi m.x f.n≠0 then i3 13 f.st s else wV { m with x:=qD m.x f.n } { s with sl:=f5 s.sl s.now })
def qQ (f:Fm) (s:Cn):Cn:=if f.n=0 then iA 12 0 s else if l9 0 f.n s.ld≠0 then iA 14 0 s else { s with ld:=j0 0 f.n s.ld,sl:=f5 s.sl s.now }
def vV (f:Fm) (s:Cn):Cn:=match WG s.pe f.ps with
 |none=>iA 16 0 s
 |some t=>if Bd s.pe.w t.w s.ld≠0 then iA 17 0 s else mQ (fr0 6 0) { s with ld:=mA s.pe.w t.w s.ld,pe:=t }
def qM (s:Cn):Cn:=if Ak s.sh≠0 then iA 15 0 s else { s with sh:=dG s.sh,l:=s.l.map fun m=> { m with y:=Fv m.y (dG s.sh).h } }
def mS:List Int->Cn->Cn
 | [],s=>s
 |id::r,s=>mS r (match bY id s.l with
  |some m=>if m.own=true/\IB s.dr id=true then qI m 7 s else s
  |none=>s)
def vP (f:Fm) (s:Cn):Cn:=if(mC s.dr f.la f.c).ov=true then uS { s with dr:=mC s.dr f.la f.c } else mS (s.l.map Sm.id) { s with dr:=mC s.dr f.la f.c }
def jU (f:Fm) (s:Cn):Cn:=if f.t=3/\f.on=f.st then iA 2 0 s else match bY f.st s.l with
 |none=>s
 |some m=>if f.t=3 then { s with tr:=lC f.st f.on f.w f.x s.tr } else if f.t=4 then qI m f.c s else kT f m s
def fG (f:Fm) (s:Cn):Cn:=
 if f.t=5 then vV f s else if f.t=6 then qM s else if f.t=7 then mQ (tQ 8 0 f.d false) s
 else if f.t=8 then { s with bt:=kA s.bt s.now f.d } else if f.t=9 then vP f s else if f.t=2 then mN f s
 else if f.st=0 then qQ f s else if vU s f.st=false then iA 5 0 s else if f.t=0\/f.t=1 then rS f s else jU f s
def bD (f:Fm) (s:Cn):Cn:=fG f { s with bt:=bQ s.bt s.now }
def cA:List Fm->Cn->Cn
 | [],s=>s
 |f::r,s=>if(bD f s).dr.ov=true then bD f s else cA r (bD f s)
def eC (u:List UInt8) (s:Cn):List Fm×Cn:=((pF (s.inb++u)).1.map G8,{ s with inb:=if(pF (s.inb++u)).2.2=0 then(pF (s.inb++u)).2.1 else [],ine:=(pF (s.inb++u)).2.2 })
def HE (s:Cn):Int:=if s.dr.ov=true then 14 else 0
def fS (u:List UInt8) (s:Cn):Cn:=if s.dr.ov=true then aD s else
 if(cA (eC u (aD s)).1 (eC u (aD s)).2).dr.ov=true\/(pF (s.inb++u)).2.2=0 then cA (eC u (aD s)).1 (eC u (aD s)).2 else iA 0 (pF (s.inb++u)).2.2 (cA (eC u (aD s)).1 (eC u (aD s)).2)
def I0 (ld:Ld) (m:Sm):Bool:=UD m && Ak7 m.x (bB m.id ld)
def rL (s:Cn):Bool:=s.l.any (I0 s.ld)
def fA (s:Cn):List Fm:=if PL s.bt s.now=2\/Ah s.sl s.now (rL s)=true\/PL s.bt s.now≠1 then [] else [tQ 7 0 (btD s.bt s.now) false]
def bH (s:Cn):Cn:=if PL s.bt s.now=2 then iA 20 0 { s with bt:=gT s.bt s.now } else if Ah s.sl s.now (rL s)=true then iA 19 0 { s with bt:=gT s.bt s.now,sl:=nL s.sl s.now (rL s) } else { s with bt:=gT s.bt s.now,sl:=nL s.sl s.now (rL s) }
def Eg (t st n:Int):List Fm:=if 0<n then [zD t st n] else []
def mD (m:Sm):List Fm:=if XZ m=true then Eg (if bA m.x=2 then 11 else 10) m.id (Hz m.y) else []
def m6 (m:Sm):Sm:=if XZ m=true then { m with y:=yGr m.y } else m
def iR (s:Cn):List Fm:=Eg 10 0 (nH s.rv)++s.l.flatMap mD
def zY (s:Cn):Cn:= { s with rv:=S4 s.rv,l:=s.l.map m6 }
def pP (s:Cn) (id:Int):Tu:=⟨id,if eA id s.tr.1=true then(dH id s.tr).w else 0,match bY id s.l with
 |some m=>UD m && Rp m.x (bB id s.ld)
 |none=>false⟩
def eI (s:Cn):List Tu:=(eJ s.tr).map (pP s)
def rV (s:Cn):Option Fm×Cn:=match AD (s.pk,s.pc) (eI s) with
 |(none,p)=>(none,{ s with pk:=p.1,pc:=p.2 })
 |(some id,p)=>match bY id s.l with
  |none=>(none,{ s with pk:=p.1,pc:=p.2 })
  |some m=>if IK m (bB id s.ld)=false then(none,{ s with pk:=p.1,pc:=p.2 }) else
   (some (tQ (bA m.x - 1) id (iJ m.x (bB id s.ld)) (By m.x (bB id s.ld))),
    kW (D7 m (bB id s.ld)) (tY ⟨1,id,if bA m.x=1 then((iJ m.x (bB id s.ld)).size:Nat) else if iJ m.x (bB id s.ld)=⟨#[]⟩/\By m.x (bB id s.ld)=true then 0 else 1,iJ m.x (bB id s.ld),By m.x (bB id s.ld)⟩
     (wV (D7 m (bB id s.ld)) { s with ld:=(if bA m.x=1 then jI id ((iJ m.x (bB id s.ld)).size:Nat) s.ld else s.ld),pk:=(kB id (sP id p.1 - fU ((iJ m.x (bB id s.ld)).size:Nat)) p).1,pc:=(kB id (sP id p.1 - fU ((iJ m.x (bB id s.ld)).size:Nat)) p).2 })))
def eH:Nat->Cn->List Fm×Cn
 |0,s=>([],s)
 |n+1,s=>match rV s with
  |(none,s)=>([],s)
  |(some f,s)=>(f::(eH n s).1,(eH n s).2)
def T7 (l:List Fm):List UInt8:=if l.all lM=true then kC l else []
def cR (s:Cn):List UInt8×Cn:=
 if s.dr.ov=true then(s.last.data.toList,{ aD s with last:=⟨#[]⟩ })
 else if(bH (aD s)).dr.ov=true then((bH (aD s)).last.data.toList,{ bH (aD s) with last:=⟨#[]⟩ })
 else let s1:=bH (aD s)
  let s2:=zY { s1 with out:= [] }
  let b:=eH 4 s2
  (T7 (fA (aD s)++s1.out++iR { s1 with out:= [] }++b.1),{ b.2 with dr:=tP b.2.dr b.2.l.length })
section
structure Ca where
 ids:Nat
 l:Nat
 t:Nat
 tq:Nat
 p:Nat
 pq:Nat
 fr:Nat
 rc:Nat
 sh:Nat
 bt:Nat
 sl:Nat
 dr:Nat
 ou:Nat
 inn:Nat
def mvD:List Value->Option Mv
 | [.int .i64 k,.int .i64 id,.int .i64 n,.string s,.bool e]=>some ⟨k,id,n,s,e⟩
 |_=>none
theorem Aoa (cs:List Value) (y:Mv) (h:mvD cs=some y): [I6 y.k,I6 y.id,I6 y.n,.string y.s,.bool y.e]=cs:=by
 unfold mvD at h
 split at h
 ·cases h;rfl
 ·cases h
def mvC:u5 Mv:= { enc:=fun y=> [I6 y.k,I6 y.id,I6 y.n,.string y.s,.bool y.e],sz:=5,dec:=mvD,len:=fun _=>rfl,one:=fun _=>rfl,ok:=Aoa }
abbrev rI (x:Nat) (a:Ca) (s:Cn) (M:Option Addr) (mc:Nat) (T:HP) (R:List HP):List HP:=
 pt x [I6 s.cf.w,I6 s.cf.st,I6 s.cf.it,I6 s.cf.sb,I6 s.cf.si,I6 s.cf.sg,I6 s.cf.ev,I6 s.cf.wa,I6 s.cf.sl,PO a.ids,PO a.l,PO a.t,PO a.p,PO a.fr,PO a.rc,PO a.sh,I6 s.pe.w,I6 s.pe.st,I6 s.pe.it,PO a.bt,PO a.sl,PO a.dr,PO a.ou,PO a.inn,I6 s.now,.string s.last,.slice M s.mv.length mc] 121::
 pt a.ids [I6 s.sd,I6 s.nx,I6 s.la] 279::T::pt a.t [I6 64,.map (some a.tq)] 287::mp a.tq (kM sG s.tr.1) s.tr.2::pt a.p [.map (some a.pq)] 275::mp a.pq (kM Mu s.pk) s.pc::SI a.fr s.ld::AO a.rc s.rv.cap s.rv.most s.rv.gr s.rv.got s.rv.us::Wg a.sh s.sh::btP a.bt s.bt::slP a.sl s.sl::Ei a.dr s.dr::SL a.ou s.out::spP a.inn s.inb s.ine::bV M mc 311 mvC s.mv::R
abbrev cB (x:Nat) (a:Ca) (s:Cn) (M:Option Addr) (mc:Nat) (R:List HP):List HP:=rI x a s M mc (JB a.l s.l) R
abbrev cnH (x:Nat) (a:Ca) (s:Cn) (M:Option Addr) (mc:Nat) (i b:Nat) (R:List HP):List HP:=rI x a s M mc (O4 a.l s.l i b) R
variable {R C:List HP} {K:KP} {x mc:Nat} {a:Ca} {s:Cn} {M:Option Addr}
theorem kU (hK:K (.bool s.dr.ov) (cB x a s M mc R)):CT 105 #[PO x] (cB x a s M mc R) K:=by
 dsimp only[cB,rI] at hK ⊢
 refine aH Tryz.func105 ?_
 repeat' (first|refine v10 ?_|refine w5 ?_ ?_|((refine bh fun h=>?_) <;> try exact w6 h)|(refine aE fun hA=>?_;subst hA)|intro _|(show aA _ 59 _ _ _;refine CA (h:=IF ?_)))
 all_goals(refine aC ?_;exact aB (hK))
theorem cE (hK:K (I6 (if s.dr.ov=true then 14 else 0)) (cB x a (aD s) none 0 R)):CT 104 #[PO x] (cB x a s M mc R) K:=by
 cases ho:s.dr.ov
 ·rw[ho,if_neg Bool.false_ne_true] at hK
  dsimp only[cB,rI] at ⊢
  refine aH Tryz.func104 ?_
  repeat' (first|refine v13 ?_|refine w5 ?_ ?_|((refine bh fun h=>?_) <;> try exact w6 h)|(refine aE fun hA=>?_;subst hA)|intro _|(show aA _ 105 _ _ _;refine CA (h:=kU (x:=x) (a:=a) (s:=aD s) (M:=none) (mc:=0) (R:=R) ?_);rw[show(aD s).dr.ov=false from ho]))
  all_goals(refine aC ?_;exact aB (hK))
 ·rw[ho,if_pos rfl] at hK
  dsimp only[cB,rI] at ⊢
  refine aH Tryz.func104 ?_
  repeat' (first|refine v13 ?_|refine w5 ?_ ?_|((refine bh fun h=>?_) <;> try exact w6 h)|(refine aE fun hA=>?_;subst hA)|intro _|(show aA _ 105 _ _ _;refine CA (h:=kU (x:=x) (a:=a) (s:=aD s) (M:=none) (mc:=0) (R:=R) ?_);rw[show(aD s).dr.ov=true from ho]))
  all_goals(refine aC ?_;exact aB (hK))
def CY:List (Nat×Nat):= [(5,0),(6,1),(1,1),(2,1),(3,1),(4,1),(7,1),(0,2),(8,0),(9,0),(10,1)]
theorem J4 {k id n:Int} {z:ByteArray} {b:Bool} (hb:s.mv.length<=1000000000) (hK:∀M mc,K (.tuple #[]) (cB x a (tY ⟨k,id,n,z,b⟩ s) M mc R)):CT 194 #[PO x,.agg #[I6 k,I6 id,I6 n,.string z,.bool b]] (cB x a s M mc R) K:=by
 dsimp only[cB,rI,tY] at hK ⊢
 refine aH Tryz.func194 ?_
 repeat' (first|(show aN _ _ _ _ _ _ _;(refine dD (E:=mvC) (ys:= [⟨k,id,n,z,b⟩]) ?_;intro _ _))|refine v54 ?_|refine dw CY ?_|refine w5 ?_ ?_|((refine bh fun h=>?_) <;> try exact w6 h)|(refine aE fun hA=>?_;subst hA)|intro _)
 all_goals(refine aC ?_;exact aB (hK _ _))
end
end Go.Proofs.YtepnmcipkangkaaGreat
namespace Go.Proofs.YtepnmcipkangkaaGreat
open Go Go.Proofs Go.Sl
attribute [local irreducible] aN fJ cY bN aM aS aA dM dN aV dL pt ro fB star sep bF
variable {α:Type} {i:Nat} {t B B' n k a b:Int} {m m':Sm} {s:Ld} {e:gQ}
section
variable {f:α->Int}
theorem Aej {t:Int}:∀ {l:List α},∀z∈l.take (l.takeWhile fun e=>decide (f e<t)).length,f z<t
 | [],z,h=>by simp at h
 |e::r,z,h=>by
  rw[List.takeWhile_cons] at h
  by_cases he:f e<t
  ·rw[if_pos (decide_eq_true he),List.length_cons,List.take_succ_cons] at h
   rcases List.mem_cons.1 h with rfl|h
   ·exact he
   ·exact Aej z h
  ·rw[if_neg (by simpa using he)] at h
   simp at h
theorem Rr {t:Int}:∀ {l:List α},l.Pairwise (fun a b=>f a<f b)->∀z∈l.drop (l.takeWhile fun e=>decide (f e<t)).length,t<=f z
 | [],_,z,h=>by simp at h
 |e::r,hp,z,h=>by
  obtain⟨h1,h2⟩:=List.pairwise_cons.1 hp
  rw[List.takeWhile_cons] at h
  by_cases he:f e<t
  ·rw[if_pos (decide_eq_true he),List.length_cons,List.drop_succ_cons] at h
   exact Rr h2 z h
  ·rw[if_neg (by simpa using he)] at h
   rcases List.mem_cons.1 (by simpa using h) with rfl|h
   ·omega
   ·have:=h1 z h;omega
theorem VX {l:List α} {x:α} (hp:l.Pairwise fun a b=>f a<f b) (hx:∀z∈l,f z≠f x):(l.take (l.takeWhile fun e=>decide (f e<f x)).length++x::l.drop (l.takeWhile fun e=>decide (f e<f x)).length).Pairwise fun a b=>f a<f b:=by
 rw[List.pairwise_append]
 refine⟨hp.sublist (List.take_sublist ..),List.pairwise_cons.2 ⟨fun b hb=>?_,hp.sublist (List.drop_sublist ..)⟩,fun a ha b hb=>?_⟩
 ·have h1:=Rr hp b hb
  have h2:=hx b (List.mem_of_mem_drop hb)
  omega
 ·have h1:=Aej a ha
  rcases List.mem_cons.1 hb with rfl|hb
  ·exact h1
  ·have h2:=Rr hp b hb
   omega
theorem WX {l:List α} {x:α} {y:α} (hp:l.Pairwise fun a b=>f a<f b) (hy:l[i]?=some y) (he:f x=f y):(l.set i x).Pairwise fun a b=>f a<f b:=by
 have hm:(l.set i x).map f=l.map f:=by
  rw[List.map_set,he]
  refine k6 i ?_
  rw[List.getElem?_map,hy];rfl
 have h1:(l.map f).Pairwise (·<·):=List.pairwise_map.2 hp
 rw[<- hm] at h1
 exact List.pairwise_map.1 h1
theorem Ug {l:List α} (hp:l.Pairwise fun a b=>f a<f b) (h:∀e,l[(l.takeWhile fun e=>decide (f e<t)).length]?=some e->f e≠t):∀z∈l,f z≠t:=fun z hz e=>by
 rw[<- List.take_append_drop (l.takeWhile fun e=>decide (f e<t)).length l] at hz
 rcases List.mem_append.1 hz with hz|hz
 ·have:=Aej z hz;omega
 ·have h1:=Rr hp z hz
  cases hd:l.drop (l.takeWhile fun e=>decide (f e<t)).length with
  |nil=>rw[hd] at hz;cases hz
  |cons y r=>
   have hy:l[(l.takeWhile fun e=>decide (f e<t)).length]?=some y:=by
    rw[<- List.head?_drop,hd];rfl
   rw[hd] at hz
   rcases List.mem_cons.1 hz with rfl|hz
   ·exact h z hy e
   ·have h2:=Rr hp y (by rw[hd];exact List.mem_cons_self ..)
    have h3:=hp.sublist (List.drop_sublist (l.takeWhile fun e=>decide (f e<t)).length l)
    rw[hd] at h3
    have:=(List.pairwise_cons.1 h3).1 z hz
    omega
end
section
variable {l:List Sm}
theorem ML (h:Hq l) (hm:bY t l=none):∀z∈l,z.id≠t:=Ug (f:=Sm.id) h.2 fun e he hid=>by
 unfold bY cI at hm
 rw[he] at hm
 simp only[hid,if_true] at hm
 cases hm
theorem Ait (h:Hq l) (hm:bY m.id l=none) (hl:l.length<64):Hq (lB m l):=by
 refine⟨?_,VX (f:=Sm.id) h.2 (ML h hm)⟩
 unfold lB
 rw[List.length_append,List.length_cons,List.length_take,List.length_drop]
 omega
theorem XG (h:Hq l):Hq (l.eraseIdx i):=⟨Nat.le_trans (List.length_eraseIdx_le ..) h.1,h.2.sublist (List.eraseIdx_sublist ..)⟩
theorem Aj6 (h:Hq l) (hm:l[i]?=some m) (he:m'.id=m.id):Hq (l.set i m'):=⟨by rw[List.length_set];exact h.1,WX (f:=Sm.id) h.2 hm he⟩
theorem W6 {g:Sm->Sm} (h:Hq l) (hg:∀m,(g m).id=m.id):Hq (l.map g):=by
 refine⟨by rw[List.length_map];exact h.1,List.pairwise_map.2 (h.2.imp fun hab=>?_)⟩
 rw[hg,hg];exact hab
theorem CH {z:Sm} (h:z∈lB m l):z=m\/z∈l:=by
 unfold lB at h
 rcases List.mem_append.1 h with h|h
 ·exact .inr (List.mem_of_mem_take h)
 ·rcases List.mem_cons.1 h with h|h
  ·exact .inl h
  ·exact .inr (List.mem_of_mem_drop h)
end
def G7 (B:Int) (s:Ld):Prop:=s.l.length<=64/\(s.l.Pairwise fun a b=>a.id<b.id)/\(∀e∈s.l,(-2147483647<=e.n/\e.n<=2147483647)/\0<=e.sp/\e.sp<=B)/\(-2147483647<=s.n0/\s.n0<=2147483647)/\0<=s.sp/\s.sp<=B
theorem G7.ok (h:G7 B s) (hB:B<=1000000000000):Ud s:=by
 obtain⟨h1,h2,h3,h4,h5⟩:=h
 exact⟨h1,h2,fun e he=>by have:=h3 e he;omega,by omega,by omega⟩
theorem G7.mono (h:G7 B s) (hB:B<=B'):G7 B' s:=by
 obtain⟨h1,h2,h3,h4,h5⟩:=h
 exact⟨h1,h2,fun e he=>by have:=h3 e he;omega,h4,by omega⟩
theorem Yu (h:G7 B s):G7 B (kJ t s):=by
 unfold kJ
 split
 ·exact⟨Nat.le_trans (List.length_eraseIdx_le ..) h.1,h.2.1.sublist (List.eraseIdx_sublist ..),fun e he=>h.2.2.1 e (List.mem_of_mem_eraseIdx he),h.2.2.2⟩
 ·exact h
theorem Ae0 (h:G7 B s):G7 B (gG t n s):=by
 obtain⟨h1,h2,h3,h4,h5⟩:=h
 unfold gG
 split
 ·exact⟨h1,h2,h3,h4,h5⟩
 ·rename_i hc
  have hw:lZ n=true:=by cases hq:lZ n <;> first|rfl|exact absurd (.inr (.inr (.inl hq))) hc
  unfold lZ at hw
  simp only[Bool.and_eq_true,decide_eq_true_eq] at hw
  have hno:∀z∈s.l,z.id≠t:=Ug (f:=gQ.id) h2 fun e he hid=>hc (.inr (.inr (.inr (.inl (by
   unfold pL nI
   rw[he]
   simp[hid])))))
  refine⟨?_,VX (f:=gQ.id) (x:=⟨t,n,0⟩) h2 hno,fun e he=>?_,h4,h5⟩
  ·show(s.l.take _++_::s.l.drop _).length<=64
   rw[List.length_append,List.length_cons,List.length_take,List.length_drop]
   omega
  ·rcases List.mem_append.1 he with he|he
   ·exact h3 e (List.mem_of_mem_take he)
   ·rcases List.mem_cons.1 he with rfl|he
    ·exact⟨by show -2147483647<=n/\n<=2147483647;omega,Int.le_refl 0,by show(0:Int)<=B;omega⟩
    ·exact h3 e (List.mem_of_mem_drop he)
theorem nV (h:pL t s.l=some e):s.l[nI t s.l]?=some e/\e.id=t:=by
 unfold pL at h
 cases hz:s.l[nI t s.l]? with
 |none=>rw[hz] at h;cases h
 |some z=>
  rw[hz] at h
  simp only at h
  split at h
  ·rename_i he;cases h;exact⟨rfl,he⟩
  ·cases h
theorem VI (h:G7 B s) {e':gQ} (he:pL t s.l=some e) (hi:e'.id=e.id) (hn:(-2147483647<=e'.n/\e'.n<=2147483647)/\0<=e'.sp/\e'.sp<=B) {n0 sp:Int} (h0:-2147483647<=n0/\n0<=2147483647) (hs:0<=sp/\sp<=B):G7 B { n0:=n0,sp:=sp,l:=s.l.set (nI t s.l) e' }:=by
 obtain⟨h1,h2,h3,h4,h5⟩:=h
 refine⟨by rw[List.length_set];exact h1,WX (f:=gQ.id) h2 (nV he).1 hi,fun z hz=>?_,h0,hs⟩
 rcases List.mem_or_eq_of_mem_set hz with hz|rfl
 ·exact h3 z hz
 ·exact hn
theorem Y8 (h:G7 B s) (hk:k<=B' - B) (h0:B<=B'):G7 B' (jI t k s):=by
 unfold jI
 split
 ·exact h.mono h0
 ·rename_i hc
  have hc:nS t k s=0:=Classical.byContradiction hc
  cases he:pL t s.l with
  |none=>exact h.mono h0
  |some e=>
   unfold nS bB at hc
   rw[he] at hc
   simp only[Option.isSome_some,Bool.true_eq_false,if_false] at hc
   have hm:=List.mem_of_getElem? (nV he).1
   obtain⟨h1,h2,h3,h4,h5⟩:=h
   have h6:=h3 e hm
   have hkk:0<=k/\k<=max e.n 0/\k<=max s.n0 0:=by
    split at hc
    ·cases hc
    ·split at hc
     ·cases hc
     ·omega
   exact VI (B:=B') ⟨h1,h2,fun e he=>by have:=h3 e he;omega,h4,by omega⟩ he (e':=⟨e.id,e.n - k,e.sp+k⟩) rfl (by show(_<=e.n - k/\e.n - k<=_)/\0<=e.sp+k/\e.sp+k<=B';omega) (by omega) (by omega)
theorem Vt (h:-2147483647<=n/\n<=2147483647):-2147483647<=AA n b/\AA n b<=2147483647:=by
 unfold AA
 split
 ·rename_i hf
  unfold vW at hf
  simp only[Bool.and_eq_true,decide_eq_true_eq] at hf
  exact hf
 ·exact h
theorem P0 (h:-2147483647<=n/\n<=2147483647):-2147483647<=j8 n b/\j8 n b<=2147483647:=by
 unfold j8
 split
 ·exact Vt h
 ·exact h
theorem Ajh (h:-2147483647<=n/\n<=2147483647):-2147483647<=uD n a b/\uD n a b<=2147483647:=by
 unfold uD
 split
 ·exact Vt h
 ·exact h
theorem QH (h:G7 B s):G7 B (j0 t b s):=by
 have h':=h
 obtain⟨h1,h2,h3,h4,h5⟩:=h'
 unfold j0
 split
 ·exact⟨h1,h2,h3,P0 h4,h5⟩
 ·cases he:pL t s.l with
  |none=>exact h
  |some e=>
   have h6:=h3 e (List.mem_of_getElem? (nV he).1)
   exact VI h he (e':=⟨e.id,j8 e.n b,e.sp⟩) rfl ⟨P0 h6.1,h6.2⟩ h4 h5
theorem NA (h:G7 B s):G7 B (mA a b s):=by
 obtain⟨h1,h2,h3,h4,h5⟩:=h
 unfold mA
 split
 ·exact⟨h1,h2,h3,h4,h5⟩
 ·refine⟨by rw[List.length_map];exact h1,List.pairwise_map.2 h2,fun e he=>?_,h4,h5⟩
  obtain⟨z,hz,rfl⟩:=List.mem_map.1 he
  exact⟨Ajh (h3 z hz).1,(h3 z hz).2⟩
end Go.Proofs.YtepnmcipkangkaaGreat
namespace Go.Proofs.YtepnmcipkangkaaGreat
open Go Go.Proofs Go.Sl
attribute [local irreducible] aN fJ cY bN aM aS aA dM dN aV dL pt ro fB star sep bF
attribute [local irreducible] mp CV
variable {R C:List HP} {K:KP} {x mc i b p r t li:Nat} {a:Ca} {s:Cn} {M:Option Addr} {B code k c w o on sg kind B':Int} {gone xx e:Bool} {m m':Sm} {f:Fm} {h3:dZ} {z:Yp} {d:ByteArray}
section
def AG (n:Int):Prop:=0<=n/\n<=2147483647
structure GH (B:Int) (m:Sm):Prop where
 id:1<=m.id/\m.id<=2147483647
 ac:Mo m.x<=B
 got:KT m.y<=B
 ln:(iQ m.y:Int)<=B
def tM (t:dZ):Prop:=rT t.w t.st t.it=true
def JV (B:Int) (y:Yp):Prop:=y.cap=512/\0<=y.us/\y.us<=y.got/\y.got<=y.gr/\y.gr<=y.us+512/\y.got<=B
structure bO (B:Int) (s:Cn):Prop where
 bb:0<=B/\B<=250000000
 cf:(0<=s.cf.sb/\s.cf.sb<=4096)/\(0<=s.cf.si/\s.cf.si<=64)/\0<=s.cf.sg/\s.cf.sg<=2
 sd:s.sd=0\/s.sd=1
 nx:1<=s.nx/\s.nx<=2147483649/\(s.nx % 2=1↔s.sd=0)
 la:AG s.la
 sm:Hq s.l
 st:∀m∈s.l,GH B m
 ids:∀m∈s.l,gF s.sd s.nx s.la m.id=true
 own:∀b,fW s b<=32
 tr:N3 s.tr
 pk:Lu (s.pk,s.pc)
 ld:G7 B s.ld
 rv:JV B s.rv
 sh:s.sh.l.length<=4/\tM s.sh.h/\tM s.sh.g/\∀t∈s.sh.l,tM t
 pe:AG s.pe.w/\AG s.pe.st/\AG s.pe.it
 bt:(0<=s.bt.no/\s.bt.no<=B)/\(0<=s.bt.he/\s.bt.he<=B)/\(0<=s.bt.si/\s.bt.si<=B)/\0<=s.bt.nn/\s.bt.nn<=B
 sl:(0<=s.sl.nw/\s.sl.nw<=B)/\0<=s.sl.si/\s.sl.si<=B
 ou:Py s.out
 inb:(s.inb.length:Int)<=B
 now:0<=s.now/\s.now<=B
 mv:(s.mv.length:Int)+s.l.length<=B
variable {id:Int}
theorem Aek {l:List Sm} {t:Int} (h:bY t l=some m):(l.eraseIdx (cI t l)).length+1=l.length:=by
 have:=(List.getElem?_eq_some_iff.1 (aX h).1).1
 rw[List.length_eraseIdx,if_pos this];omega
theorem BY (h:bO B s) (hm:bY id s.l=some m):bO B (lI id code gone s):=
 { h with
   sm:=XG h.sm
   st:=fun z hz=>h.st z (List.mem_of_mem_eraseIdx hz)
   ids:=fun z hz=>h.ids z (List.mem_of_mem_eraseIdx hz)
   own:=fun b=>Nat.le_trans ((List.Sublist.filter _ (List.eraseIdx_sublist ..)).length_le) (h.own b)
   tr:=Ajv h.tr
   pk:=by
    show Lu ((if sP id s.pk=0 then s.pk else nJ id s.pk),s.pc)
    split
    ·exact h.pk
    ·exact Ake h.pk
   ld:=Yu h.ld
   mv:=by
    have h1:=h.mv
    have h2:=Aek hm
    show((s.mv++ [_]).length:Int)+((s.l.eraseIdx (cI id s.l)).length:Int)<=B
    rw[List.length_append,List.length_singleton]
    omega }
theorem Cj (h:bO B s) (hm:bY id s.l=some m) (hK:∀M mc,K (.tuple #[]) (cB x a (lI id code gone s) M mc R)):CT 243 #[PO x,I6 id,I6 code,.bool gone] (cB x a s M mc R) K:=by
 have hl:=h.tr.len
 have hmv:=h.mv
 have hB:=h.bb
 dsimp only[cB,rI]
 refine aH Tryz.func243 ?_
 repeat' (first|refine v25 ?_|refine w5 ?_ ?_|((refine bh fun h=>?_) <;> try exact w6 h)|(refine aE fun hA=>?_;subst hA)|intro _|(show aA _ 349 _ _ _;refine CA (h:=Ajn h.sm hm (fun _=>?_)))|(show aA _ 350 _ _ _;refine CA (h:=Qb (s:=s.tr) h.tr.kok (by omega) h.tr.w h.tr.nd (fun _=>?_)))|(show aA _ 351 _ _ _;refine CA (h:=QX ?_))|(show aA _ 352 _ _ _;refine CA (h:=T8 (h.ld.ok (by omega)) (fun _=>?_)))|(show aA _ 194 _ _ _;refine CA (h:=J4 (x:=x) (a:=a) (s:= { s with l:=s.l.eraseIdx (cI id s.l),tr:=Az id s.tr,pk:=(if sP id s.pk=0 then s.pk else nJ id s.pk),ld:=kJ id s.ld }) (M:=M) (mc:=mc) (R:=R) (by show s.mv.length<=1000000000;omega) (fun _ _=>?_))))
 all_goals(refine aC ?_;exact aB (hK _ _))
end
section
variable {id:Int} {y:Yp}
def FD:List (Nat×Nat):= [(0,0),(1,0),(2,0),(3,0),(4,0),(5,0),(6,0),(7,0),(8,0),(9,0),(10,0),(11,0)]
theorem vF (hb:0<=y.us/\y.us<=y.got/\y.got<=900000000) (hk:-900000000<=k/\k<=900000000) (hK:∀v,K v (AO p (fL y k).cap (fL y k).most (fL y k).gr (fL y k).got (fL y k).us::R)):CT 144 #[PO p,I6 k] (AO p y.cap y.most y.gr y.got y.us::R) K:=by
 by_cases h:0<=k/\k<=y.got - y.us
 ·unfold fL at hK
  simp only[if_pos h] at hK
  exact JL h (by omega) (hK _)
 ·unfold fL at hK
  simp only[if_neg h] at hK
  unfold AO at *
  refine aH Tryz.func144 ?_
  repeat' (first|refine v33 ?_|refine dw FD ?_|refine w5 ?_ ?_|((refine bh fun h=>?_) <;> try exact w6 h)|(refine aE fun hA=>?_;subst hA)|intro _)
  all_goals(refine aC ?_;exact aB (hK _))
theorem nA (hi:s.l[i]?=some m) (hid:m'.id=m.id):aG (tO b m'::cnH x a s M mc i b R) (cB x a { s with l:=s.l.set i m' } M mc R):=
 aG.trans (fun _ hs=>hs.perm (List.Perm.cons _ (List.perm_middle (l₁:= [_,_])))) (aG.trans (VW hi hid) (fun _ hs=>hs.perm (List.perm_middle (l₁:= [_,_])).symm))
theorem eD (hi:s.l[i]?=some m):aG (tO b m::cnH x a s M mc i b R) (cB x a s M mc R):=
 aG.trans (fun _ hs=>hs.perm (List.Perm.cons _ (List.perm_middle (l₁:= [_,_])))) (aG.trans (Ahv hi) (fun _ hs=>hs.perm (List.perm_middle (l₁:= [_,_])).symm))
theorem f8 (h:bO B s) (ho:s.dr.ov=false) (hm:bY id s.l=some m) (hK:∀b,K (.tuple #[PO b,I6 0]) (tO b m::cnH x a (aD s) none 0 (cI id s.l) b R)):CT 141 #[PO x,I6 id] (cB x a s M mc R) K:=by
 refine aH Tryz.func141 ?_
 repeat' (first|refine Ku ?_|refine w5 ?_ ?_|((refine bh fun h=>?_) <;> try exact w6 h)|(refine aE fun hA=>?_;subst hA)|intro _|(show aA _ 104 _ _ _;refine CA (h:=cE (x:=x) (a:=a) (s:=s) (M:=M) (mc:=mc) (R:=R) ?_);rw[ho,if_neg Bool.false_ne_true])|(show aA _ 126 _ _ _;refine CA (h:=g9 (l:=s.l) h.sm hm (fun _=>?_))))
 all_goals(refine aC ?_;exact aB (hK _))
theorem pC (h:bO B s) (he:cG s id≠0) (hK:K (.tuple #[.pointer none,I6 (cG s id)]) (cB x a (aD s) none 0 R)):CT 141 #[PO x,I6 id] (cB x a s M mc R) K:=by
 unfold cG at he hK
 cases ho:s.dr.ov
 ·rw[ho,if_neg Bool.false_ne_true] at he hK
  cases hm:bY id s.l with
  |some m=>rw[hm] at he;exact absurd rfl he
  |none=>
   rw[hm] at he hK
   simp only at he hK
   cases hp:vU s id
   ·rw[hp,if_neg Bool.false_ne_true] at hK
    refine aH Tryz.func141 ?_
    repeat' (first|refine Ku ?_|refine w5 ?_ ?_|((refine bh fun h=>?_) <;> try exact w6 h)|(refine aE fun hA=>?_;subst hA)|intro _|(show aA _ 104 _ _ _;refine CA (h:=cE (x:=x) (a:=a) (s:=s) (M:=M) (mc:=mc) (R:=R) ?_);rw[ho,if_neg Bool.false_ne_true])|(show aA _ 126 _ _ _;refine CA (h:=oA (l:=s.l) h.sm hm ?_))|(show aA _ 236 _ _ _;refine CA (h:=DU (sd:=s.sd) (nx:=s.nx) (la:=s.la) ?_);rw[show gF s.sd s.nx s.la id=false from hp]))
    all_goals(refine aC ?_;exact aB (hK))
   ·rw[hp,if_pos rfl] at hK
    refine aH Tryz.func141 ?_
    repeat' (first|refine Ku ?_|refine w5 ?_ ?_|((refine bh fun h=>?_) <;> try exact w6 h)|(refine aE fun hA=>?_;subst hA)|intro _|(show aA _ 104 _ _ _;refine CA (h:=cE (x:=x) (a:=a) (s:=s) (M:=M) (mc:=mc) (R:=R) ?_);rw[ho,if_neg Bool.false_ne_true])|(show aA _ 126 _ _ _;refine CA (h:=oA (l:=s.l) h.sm hm ?_))|(show aA _ 236 _ _ _;refine CA (h:=DU (sd:=s.sd) (nx:=s.nx) (la:=s.la) ?_);rw[show gF s.sd s.nx s.la id=true from hp]))
    all_goals(refine aC ?_;exact aB (hK))
 ·rw[ho,if_pos rfl] at hK
  refine aH Tryz.func141 ?_
  repeat' (first|refine Ku ?_|refine w5 ?_ ?_|((refine bh fun h=>?_) <;> try exact w6 h)|(refine aE fun hA=>?_;subst hA)|intro _|(show aA _ 104 _ _ _;refine CA (h:=cE (x:=x) (a:=a) (s:=s) (M:=M) (mc:=mc) (R:=R) ?_);rw[ho,if_pos rfl]))
  all_goals(refine aC ?_;exact aB (hK))
theorem lX (hi:s.l[i]?=some m) (hid:m'.id=m.id) (h:bO B { s with l:=s.l.set i m' }) (hm:bY m'.id (s.l.set i m')=some m') (hK:∀M mc,K (.tuple #[]) (cB x a (kW m' { s with l:=s.l.set i m' }) M mc R)):CT 146 #[PO x,PO b] (tO b m'::cnH x a s M mc i b R) K:=by
 cases hg:Kq m'
 ·have e:∀s,kW m' s=s:=fun s=>by unfold kW;rw[hg,if_neg Bool.false_ne_true]
  rw[e] at hK
  refine aH Tryz.func146 ?_
  repeat' (first|refine v0 ?_|refine w5 ?_ ?_|((refine bh fun h=>?_) <;> try exact w6 h)|(refine aE fun hA=>?_;subst hA)|intro _|(show aA _ 242 _ _ _;refine CA (h:=My (m:=m') ?_);rw[hg]))
  all_goals(refine aC ?_;exact aK (aG.trans (by exact aZ) ((nA (x:=x) (a:=a) (M:=M) (mc:=mc) (R:=R) (b:=b) hi hid))) (hK _ _))
 ·have e:∀s,kW m' s=lI m'.id 0 true s:=fun s=>by unfold kW;rw[hg,if_pos rfl]
  rw[e] at hK
  refine aH Tryz.func146 ?_
  repeat' (first|refine v0 ?_|refine w5 ?_ ?_|((refine bh fun h=>?_) <;> try exact w6 h)|(refine aE fun hA=>?_;subst hA)|intro _|(show aA _ 242 _ _ _;refine CA (h:=My (m:=m') ?_);rw[hg])|(show aA _ 244 _ _ _;refine CA (h:=NS (m:=m') ?_))|(show aA _ 243 _ _ _;refine CA (h:=aA.ent (nA (x:=x) (a:=a) (M:=M) (mc:=mc) (R:=R) (b:=b) hi hid) (Cj h hm (fun _ _=>?_)))))
  all_goals(refine aC ?_;exact aB (hK _ _))
theorem Gn {l:List Sm}:bY m.id (m::l)=some m:=by
 unfold bY cI
 rw[List.takeWhile_cons]
 simp
theorem Ad7:(lI id code gone s).l=s.l.eraseIdx (cI id s.l):=rfl
theorem Gx {l:List Sm} (h:s.l=m::l):(lI m.id code gone s).l=l:=by
 rw[Ad7,h]
 unfold cI
 rw[List.takeWhile_cons]
 simp
theorem F3:∀ {l:List Sm} {s:Cn},s.l=l->bO B s->bO B (qK code (l.map Sm.id) s)/\(qK code (l.map Sm.id) s).l= []
 | [],s,he,h=>⟨h,he⟩
 |m::l,s,he,h=>by
  have hm:bY m.id s.l=some m:=by rw[he];exact Gn
  exact F3 (s:=lI m.id code false s) (l:=l) (Gx he) (BY h hm)
theorem OL:Py []:=⟨by decide,fun y hy=>by cases hy⟩
theorem Lw (h:bO B s):bO B (uS s):=
 { (F3 (code:=s.dr.co) rfl h).1 with ou:=OL }
theorem Js (h:bO B s) (hK:∀M mc,K (.tuple #[]) (cB x a (uS s) M mc R)):CT 219 #[PO x] (cB x a s M mc R) K:=by
 have h64:=h.sm.1
 have hlm:(s.l.map Sm.id).length=s.l.length:=List.length_map ..
 unfold uS at hK
 refine aH Tryz.func219 ?_
 repeat' (first|refine v45 ?_|refine w5 ?_ ?_|((refine bh fun h=>?_) <;> try exact w6 h)|(refine aE fun hA=>?_;subst hA)|intro _|(show aA _ 59 _ _ _;refine CA (h:=IF (d:=s.dr) ?_))|(show aA _ 125 _ _ _;refine CA (h:=W5 (l:=s.l) h.sm (fun Bq dq=>?_))))
 refine jG (fun n a' C'=>∃(j:Nat) (s':Cn) (M':Option Addr) (mc':Nat),j+n=s.l.length/\s'.l=s.l.drop j/\bO B s'/\qK s.dr.co ((s.l.drop j).map Sm.id) s'=qK s.dr.co (s.l.map Sm.id) s/\dP a' [(0,PO x),(3,I6 s.dr.co),(18,.slice Bq (s.l.map Sm.id).length dq),(19,I6 s.l.length),(20,I6 j)]/\C'=bV Bq dq 3 pM (s.l.map Sm.id)::cB x a s' M' mc' R) s.l.length (cN s.l.length ⟨0,s,M,mc,by omega,rfl,h,rfl,⟨rfl,rfl,rfl,(by simp;rfl),rfl,trivial⟩,rfl⟩ (by omega)) ?_
 rintro n a' C' ⟨j,s',M',mc',hj,hl,h',hc,ha,rfl⟩
 refine iT _ ha ?_
 simp only[gH]
 by_cases hlt:j<s.l.length
 ·obtain⟨m,hm,hd⟩:=lH (l:=s.l) (j:=j) hlt
  rw[hd] at hl hc
  have hat:bY m.id s'.l=some m:=by rw[hl];exact Gn
  have hv:(s.l.map Sm.id)[((j:Nat):Int).toNat]?=some m.id:=by rw[Int.toNat_natCast,List.getElem?_map,hm];rfl
  repeat' (first|refine v45 ?_|refine w5 ?_ ?_|((refine bh fun h=>?_) <;> try exact w6 h)|(refine aE fun hA=>?_;subst hA)|intro _|(show aA _ 243 _ _ _;refine CA (h:=Cj h' hat (fun _ _=>?_))))
  all_goals(show aV _ _ _ _;exact cN (n - 1) ⟨j+1,lI m.id s.dr.co false s',_,_,by omega,Gx hl,BY h' hat,hc,⟨rfl,rfl,rfl,rfl,rfl,trivial⟩,rfl⟩)
 ·have hj0:j=s.l.length:=by omega
  subst hj0
  rw[List.drop_length] at hc hl
  have hc:s'=qK s.dr.co (s.l.map Sm.id) s:=hc
  subst hc
  repeat' (first|refine v45 ?_|refine w5 ?_ ?_|((refine bh fun h=>?_) <;> try exact w6 h)|(refine aE fun hA=>?_;subst hA)|intro _|(show aA _ 311 _ _ _;refine CA (h:=UM (fun _=>?_))))
  all_goals(refine aC ?_;exact aB (hK _ _))
end
section
variable {id la st:Int}
theorem Adw (hl:AG la) (hc:AG c):bR (zM la c):=by
 have h1:=(oV la).2 hl
 have h2:=(oV c).2 hc
 have h3:Hu 0=true:=by decide
 have h4:KY []=true:=Ahe rfl
 have h5:(⟨#[]⟩:ByteArray)=ByteArray.empty:=rfl
 unfold bR sJ zM
 simp[h1,h2,h3,h4,h5,C9]
theorem jF (h:bO B s):bO B (iA w o s):=
 Lw (s:= { s with dr:=wJ s.dr (iY w o),last:=xP (zM s.la (iY w o)) }) { h with }
def DW:Tr:=(.br (.st 1 1 (.st 2 1 (.st 3 1 (.st 4 1 (.st 5 2 (.br (.st 0 2 (.st 6 2 (.st 10 3 (.st 7 1 (.st 8 1 (.st 11 1 (.st 9 2 (.st 12 0 .nil)))))))) (.st 10 3 (.st 0 2 (.st 6 2 (.st 7 1 (.st 8 1 (.st 11 1 (.st 9 2 (.st 12 0 .nil)))))))))))))) (.st 10 3 (.st 1 1 (.st 2 1 (.st 3 1 (.st 4 1 (.st 5 2 (.st 0 2 (.st 6 2 (.st 7 1 (.st 8 1 (.st 11 1 (.st 9 2 (.st 12 0 .nil))))))))))))))
def Dp:List (Nat×Nat):= [(0,0),(1,0),(2,0),(3,0),(4,0),(5,0),(6,1)]
theorem dU (h:bO B s) (hw:0<=w/\w<=20) (ht:K0 w=true) (hK:∀M mc,K (.tuple #[]) (cB x a (iA w o s) M mc R)):CT 118 #[PO x,.agg #[I6 w,I6 st,I6 o]] (cB x a s M mc R) K:=by
 have hla:=h.la
 have hc:=Mp (o:=o) hw
 have hr:=Adw hla (c:=iY w o) ⟨by omega,by omega⟩
 unfold AG at hla
 dsimp only[cB,rI]
 refine aH Tryz.func118 ?_
 repeat' (first|refine v31 ?_|refine SK DW ?_|refine dw Dp ?_|refine w5 ?_ ?_|((refine bh fun h=>?_) <;> try exact w6 h)|(refine aE fun hA=>?_;subst hA)|intro _|(show aA _ 148 _ _ _;refine CA (h:=DR ?_))|(show aA _ 217 _ _ _;refine CA (h:=Aki hw ht hla ?_))|(show aA _ 218 _ _ _;refine CA (h:=Aay (d:=s.dr) ?_))|(show aA _ 198 _ _ _;refine CA (h:=Q8 (ps:= []) (show sJ 9 0 false ⟨#[]⟩ 0 0 0 false (iY w o) s.la 0 [] from hr) eN rfl ?_))|(show aA _ 219 _ _ _;refine CA (h:=Js (x:=x) (a:=a) (s:= { s with dr:=wJ s.dr (iY w o),last:=xP (zM s.la (iY w o)) }) (M:=M) (mc:=mc) (R:=R) (B:=B) { h with } (fun _ _=>?_))))
 all_goals(refine aC ?_;exact aB (hK _ _))
theorem GK {out:List Fm} (h:Py out):Py (wK f out):=by
 obtain⟨h1,h2⟩:=h
 unfold wK
 split
 ·exact⟨h1,h2⟩
 ·rename_i he
  have he:zB f out=0:=Classical.byContradiction he
  unfold zB at he
  split at he
  ·cases he
  ·rename_i hc
   have hc:lM f=true:=by cases hq:lM f <;> first|exact absurd hq hc|rfl
   have hn:=HR hc
   split at he
   ·cases he
   ·split at he
    ·rename_i hlt
     cases hy:out[tU f out]? with
     |none=>exact absurd (List.getElem?_eq_none_iff.1 hy) (by omega)
     |some y=>
      refine⟨by simp only[List.length_set];exact h1,fun z hz=>?_⟩
      rcases List.mem_or_eq_of_mem_set hz with hz|rfl
      ·exact h2 z hz
      ·have:=h2 y (List.mem_of_getElem? hy)
       show 0<=y.n+f.n
       omega
    ·rename_i hlt
     split at he
     ·cases he
     ·have hy:out[tU f out]?=none:=List.getElem?_eq_none_iff.2 (by omega)
      rw[hy]
      refine⟨by simp only[List.length_append,List.length_singleton];omega,fun z hz=>?_⟩
      rcases List.mem_append.1 hz with hz|hz
      ·exact h2 z hz
      ·rw[List.mem_singleton.1 hz];exact hn.1
theorem J8 (h:bO B s):bO B (mQ f s):=by
 unfold mQ
 split
 ·exact { h with ou:=GK h.ou }
 ·exact jF h
def wE:List (Nat×Nat):= [(0,0),(1,0),(2,0),(3,0),(4,0),(5,1),(6,0)]
theorem Cp (h:bO B s) (hp:f.pa=none) (hp0:f.ps= []) (Ex:f.pn=0) (hK:∀M mc,K (.tuple #[]) (cB x a (mQ f s) M mc R)):CT 209 #[PO x,.agg #[I6 f.t,I6 f.st,.bool f.e,.string f.d,I6 f.k,I6 f.on,I6 f.w,.bool f.x,I6 f.c,I6 f.la,I6 f.n,.slice f.pa f.pn f.pc]] (cB x a s M mc R) K:=by
 unfold mQ at hK
 by_cases he:zB f s.out=0
 ·rw[if_pos he] at hK
  dsimp only[cB,rI]
  refine aH Tryz.func209 ?_
  repeat' (first|refine v46 ?_|refine dw wE ?_|refine w5 ?_ ?_|((refine bh fun h=>?_) <;> try exact w6 h)|(refine aE fun hA=>?_;subst hA)|intro _|(show aA _ 100 _ _ _;refine CA (h:=kV (f:=f) h.ou (by rw[hp0];exact eN) (by rw[hp0,Ex];rfl) (by rw[Ex];decide) ?_);rw[he]))
  all_goals(refine aC ?_;exact aB (hK _ _))
 ·rw[if_neg he] at hK
  have hou:wK f s.out=s.out:=by unfold wK;rw[if_pos he]
  dsimp only[cB,rI]
  refine aH Tryz.func209 ?_
  repeat' (first|(show Br _ _ _;refine Br.t (by simpa using he) ?_)|refine v46 ?_|refine dw wE ?_|refine w5 ?_ ?_|((refine bh fun h=>?_) <;> try exact w6 h)|(refine aE fun hA=>?_;subst hA)|intro _|(show aA _ 100 _ _ _;refine CA (h:=kV (f:=f) h.ou (by rw[hp0];exact eN) (by rw[hp0,Ex];rfl) (by rw[Ex];decide) ?_);rw[hou])|(show aA _ 118 _ _ _;refine CA (h:=dU (x:=x) (a:=a) (s:=s) h (by decide) (by decide) (fun _ _=>?_))))
  all_goals(refine aC ?_;exact aB (hK _ _))
end
section
variable {id la st:Int} {y:Ys} {l:List Sm}
def smR (b r:Nat) (m:Sm):HP:=fB fun li=>fB fun t=>sep (pt b [PO li,PO t,PO r,I6 m.id,.bool m.own] 223) (sep (qW li m.sta) (sep (B1 t m.x) (bF (x9 m))))
def smT (b t:Nat) (m:Sm):HP:=fB fun li=>fB fun r=>sep (pt b [PO li,PO t,PO r,I6 m.id,.bool m.own] 223) (sep (qW li m.sta) (sep (Ed r m.y) (bF (x9 m))))
theorem Ag9 (h:x9 m):aG (Ed r m.y::pt b [PO li,PO t,PO r,I6 m.id,.bool m.own] 223::qW li m.sta::B1 t m.x::R) (Ed r m.y::smR b r m::R):=
 aG.cons (aG.ex li (aG.ex t (rR h)))
theorem Ade (h:x9 m):aG (B1 t m.x::pt b [PO li,PO t,PO r,I6 m.id,.bool m.own] 223::qW li m.sta::Ed r m.y::R) (B1 t m.x::smT b t m::R):=
 aG.cons (aG.ex li (aG.ex r (rR h)))
theorem WO {f:FuncId} {args:Array Value} (h:x9 m->CT f args (tO b m::R) K):CT f args (tO b m::R) K:=
 m8 fun _ _ _ hok=>aA.ent (cU hok) (h hok)
theorem sR (hK:∀r,K (PO r) (Ed r m.y::smR b r m::R)):CT 63 #[PO b] (tO b m::R) K:=by
 refine m8 fun li t r h=>?_
 refine aH Tryz.func63 ?_
 repeat' (first|refine v4 ?_|refine w5 ?_ ?_|((refine bh fun h=>?_) <;> try exact w6 h)|(refine aE fun hA=>?_;subst hA)|intro _)
 (refine aC ?_;exact aK (aG.trans (by exact aZ) ((Ag9 h))) (hK _))
theorem OX (hK:∀t,K (PO t) (B1 t m.x::smT b t m::R)):CT 42 #[PO b] (tO b m::R) K:=by
 refine m8 fun li t r h=>?_
 refine aH Tryz.func42 ?_
 repeat' (first|refine v4 ?_|refine w5 ?_ ?_|((refine bh fun h=>?_) <;> try exact w6 h)|(refine aE fun hA=>?_;subst hA)|intro _)
 (refine aC ?_;exact aK (aG.trans (by exact aZ) ((Ade h))) (hK _))
theorem nX (hy:lO y=lO m.y):aG (Ed r y::smR b r m::R) (tO b { m with y:=y }::R):=fun H hs=>by
 have hs:=bW.swap hs
 obtain⟨li,hs⟩:=hs.ex
 obtain⟨t,hs⟩:=hs.ex
 obtain⟨hok,hs⟩:=(s5 H hs).pure
 have hok':x9 { m with y:=y }:=⟨hok.1.trans hy.symm,hok.2⟩
 exact cU (li:=li) (t:=t) (r:=r) hok' H hs
theorem I4 {z:Xs} (hy:bA z=bA m.x):aG (B1 t z::smT b t m::R) (tO b { m with x:=z }::R):=fun H hs=>by
 have hs:=bW.swap hs
 obtain⟨li,hs⟩:=hs.ex
 obtain⟨r,hs⟩:=hs.ex
 obtain⟨hok,hs⟩:=(s5 H hs).pure
 have hok':x9 { m with x:=z }:=⟨hy.trans hok.1,hok.2⟩
 exact cU (li:=li) (t:=t) (r:=r) hok' H (hs.perm (List.Perm.cons _ (List.Perm.cons _ (List.Perm.swap _ _ _))))
theorem Kf {t:Int}:∀l:List Sm,cI t l=((l.map Sm.id).takeWhile fun k=>decide (k<t)).length
 | []=>rfl
 |e::r=>by
  have ih:=Kf (t:=t) r
  unfold cI at ih ⊢
  rw[List.map_cons,List.takeWhile_cons,List.takeWhile_cons]
  split
  ·rw[List.length_cons,List.length_cons,ih]
  ·rfl
theorem Dt (hi:l[i]?=some m) (hid:m'.id=m.id):(l.set i m').map Sm.id=l.map Sm.id:=by
 rw[List.map_set,hid]
 exact k6 i (by rw[List.getElem?_map,hi];rfl)
theorem Pe {t:Int} (hi:l[i]?=some m) (hid:m'.id=m.id):cI t (l.set i m')=cI t l:=by
 rw[Kf,Kf,Dt hi hid]
theorem mO (hm:bY id l=some m) (hid:m'.id=m.id):bY m'.id (l.set (cI id l) m')=some m':=by
 obtain⟨h1,h2⟩:=aX hm
 have hlt:=(List.getElem?_eq_some_iff.1 h1).1
 unfold bY
 rw[Pe h1 hid,hid,h2,List.getElem?_set_self hlt]
 simp only[hid,h2,if_true]
theorem YL (hm:bY id l=some m) (hid:m'.id=m.id):(l.set (cI id l) m').eraseIdx (cI m.id (l.set (cI id l) m'))=l.eraseIdx (cI m.id l):=by
 obtain⟨h1,h2⟩:=aX hm
 rw[Pe h1 hid,h2,List.eraseIdx_set_eq]
theorem oZ {b:Bool}:∀l:List Sm,(l.filter fun m=>m.own == b).length=((l.map Sm.own).filter fun q=>q == b).length
 | []=>rfl
 |m::l=>by
  rw[List.map_cons,List.filter_cons,List.filter_cons]
  split
  ·rw[List.length_cons,List.length_cons,oZ l]
  ·exact oZ l
theorem N4 {b:Bool} (hi:l[i]?=some m) (ho:m'.own=m.own):((l.set i m').filter fun m=>m.own == b).length=(l.filter fun m=>m.own == b).length:=by
 rw[oZ,oZ,List.map_set,ho,k6 i (by rw[List.getElem?_map,hi];rfl)]
theorem l7 (h:bO B s) (hi:s.l[i]?=some m) (hid:m'.id=m.id) (ho:m'.own=m.own) (hm:GH B m'):bO B { s with l:=s.l.set i m' }:=
 { h with
   sm:=Aj6 h.sm hi hid
   st:=fun z hz=>by
    rcases List.mem_or_eq_of_mem_set hz with hz|rfl
    ·exact h.st z hz
    ·exact hm
   ids:=fun z hz=>by
    rcases List.mem_or_eq_of_mem_set hz with hz|rfl
    ·exact h.ids z hz
    ·have:=h.ids m (List.mem_of_getElem? hi)
     show gF s.sd s.nx s.la z.id=true
     rw[hid];exact this
   own:=fun b=>by
    show((s.l.set i m').filter fun m=>m.own == b).length<=32
    rw[N4 hi ho];exact h.own b
   mv:=by
    have:=h.mv
    show(s.mv.length:Int)+((s.l.set i m').length:Int)<=B
    rw[List.length_set];exact this }
theorem Aiz {y:Yp} (h:JV B y):JV B (fL y k):=by
 unfold JV at h
 unfold fL
 split
 ·unfold JV;dsimp only;omega
 ·exact h
theorem rG (h:bO B s):bO B { s with rv:=fL s.rv k }:= { h with rv:=Aiz h.rv }
theorem Afm (h:GH B m):GH B (CR m):=by
 obtain⟨h1,h2,h3,h4⟩:=h
 unfold CR
 split
 ·refine⟨h1,?_,?_,?_⟩
  ·cases hx:m.x <;> rw[hx] at h2 <;> exact h2
  ·cases hy:m.y <;> rw[hy] at h3 <;> exact h3
  ·cases hy:m.y <;> (rw[hy] at h4;simp only[EB,iQ,List.length_nil] at h4 ⊢;omega)
 ·exact⟨h1,h2,h3,h4⟩
theorem All (h:GH B m):GH B { m with y:=EB m.y }:=by
 obtain⟨h1,h2,h3,h4⟩:=h
 refine⟨h1,h2,?_,?_⟩
 ·cases hy:m.y <;> rw[hy] at h3 <;> exact h3
 ·cases hy:m.y <;> (rw[hy] at h4;simp only[EB,iQ,List.length_nil] at h4 ⊢;omega)
theorem Aav:(CR m).id=m.id:=by unfold CR;split <;> rfl
theorem Vp:(CR m).own=m.own:=by unfold CR;split <;> rfl
theorem Al8:bA (CR m).x=bA m.x:=by
 unfold CR
 split
 ·cases hx:m.x <;> simp only[Ahm] <;> rfl
 ·rfl
theorem Amt:lO (EB y)=lO y:=by cases y <;> rfl
theorem Ap2 (hok:x9 m) (h1:bA m.x=1):KC m+(iQ (CR m).y:Nat)=(iQ m.y:Nat):=by
 have h2:=hok.1
 rw[h1] at h2
 cases hy:m.y with
 |i z=>rw[hy] at h2;cases h2
 |b z=>
  unfold KC CR
  split
  ·rw[hy];simp[EB,iQ]
  ·rw[hy];simp
theorem Ana (hok:x9 m) (h1:bA m.x≠1):KC m=0:=by
 have h2:=hok.1
 cases hy:m.y with
 |b z=>rw[hy] at h2;exact absurd h2 h1
 |i z=>
  unfold KC
  rw[hy]
  split <;> rfl
theorem R2 (hm:bY id s.l=some m) (hid:m'.id=m.id):lI m'.id code gone { s with l:=s.l.set (cI id s.l) m' }=lI m.id code gone s:=by
 unfold lI
 dsimp only
 rw[hid,YL hm hid]
theorem tN (h:bO B s) (hm:bY id s.l=some m):bO B (qI m code s):=by
 have h2:=(aX hm).2
 have h1:bY m.id s.l=some m:=by rw[h2];exact hm
 exact BY (rG h) (id:=m.id) (m:=m) h1
theorem Ch {ev:Int} (h:bO B s) (hm:bY id s.l=some m) (he:ev=4\/ev=5) (hK:∀M mc,K (.tuple #[]) (cB x a (qI m code s) M mc R)):CT 250 #[PO x,PO b,I6 ev,I6 code] (tO b m::cnH x a s M mc (cI id s.l) b R) K:=by
 refine WO fun hok=>?_
 obtain⟨hi,hmid⟩:=aX hm
 have hI:=h.st m (List.mem_of_getElem? hi)
 have hln:=hI.ln
 have hB:=h.bb
 have hrv:=h.rv
 unfold JV at hrv
 unfold qI at hK
 by_cases h1:bA m.x=1
 ·rw[if_pos h1] at hK
  have hn:=Ap2 hok h1
  have hid2:({ CR m with y:=EB (CR m).y }:Sm).id=m.id:=Aav
  have hI2:bO B { { s with rv:=fL s.rv (iQ m.y:Nat) } with l:=s.l.set (cI id s.l) { CR m with y:=EB (CR m).y } }:=l7 (s:= { s with rv:=fL s.rv (iQ m.y:Nat) }) (rG h) hi hid2 Vp (All (Afm hI))
  have hK':=hK
  rw[<- R2 (s:= { s with rv:=fL s.rv (iQ m.y:Nat) }) (m:=m) (m':= { CR m with y:=EB (CR m).y }) (id:=id) hm hid2] at hK'
  have h0:0<=KC m/\KC m<=iQ m.y:=by
   unfold KC
   split
   ·cases hy:m.y with
    |b z=>simp[iQ]
    |i z=>simp[iQ]
   ·omega
  dsimp only[cnH,rI]
  refine aH Tryz.func250 ?_
  repeat' (first|refine HA ?_|refine w5 ?_ ?_|((refine bh fun h=>?_) <;> try exact w6 h)|(refine aE fun hA=>?_;subst hA)|intro _|(show aA _ 358 _ _ _;refine CA (h:=Pl (m:=m) he ?_))|(show aA _ 70 _ _ _;refine CA (h:=lW (m:=CR m) ?_);rw[Al8,h1])|(show aA _ 63 _ _ _;refine CA (h:=sR (m:=CR m) (fun _=>?_)))|(show aA _ 359 _ _ _;refine CA (h:=Alx (y:=(CR m).y) ?_))|(show aA _ 144 _ _ _;rw[hn];refine CA (h:=vF (y:=s.rv) (by omega) (by omega) (fun _=>?_)))|(show aA _ 244 _ _ _;refine CA (h:=aA.ent (nX Amt) (NS (m:= { CR m with y:=EB (CR m).y }) ?_)))|(show aA _ 243 _ _ _;refine CA (h:=aA.ent (nA (x:=x) (a:=a) (s:= { s with rv:=fL s.rv (iQ m.y:Nat) }) (M:=M) (mc:=mc) (R:=R) (b:=b) (m':= { CR m with y:=EB (CR m).y }) hi hid2) (Cj hI2 (mO hm hid2) (fun _ _=>?_)))))
  all_goals(refine aC ?_;exact aB (hK' _ _))
 ·rw[if_neg h1] at hK
  have hn:=Ana hok h1
  have hid2:(CR m).id=m.id:=Aav
  have hI2:bO B { { s with rv:=fL s.rv 0 } with l:=s.l.set (cI id s.l) (CR m) }:=l7 (s:= { s with rv:=fL s.rv 0 }) (rG h) hi hid2 Vp (Afm hI)
  have hK':=hK
  rw[<- R2 (s:= { s with rv:=fL s.rv 0 }) (m:=m) (m':=CR m) (id:=id) hm hid2] at hK'
  have hk1:bA (CR m).x≠1:=by rw[Al8];exact h1
  dsimp only[cnH,rI]
  refine aH Tryz.func250 ?_
  repeat' (first|(show Br _ _ _;refine Br.f (by simpa using hk1) ?_)|refine HA ?_|refine w5 ?_ ?_|((refine bh fun h=>?_) <;> try exact w6 h)|(refine aE fun hA=>?_;subst hA)|intro _|(show aA _ 358 _ _ _;refine CA (h:=Pl (m:=m) he ?_);rw[hn])|(show aA _ 70 _ _ _;refine CA (h:=lW (m:=CR m) ?_))|(show aA _ 144 _ _ _;refine CA (h:=vF (y:=s.rv) (by omega) (by omega) (fun _=>?_)))|(show aA _ 244 _ _ _;refine CA (h:=NS (m:=CR m) ?_))|(show aA _ 243 _ _ _;refine CA (h:=aA.ent (nA (x:=x) (a:=a) (s:= { s with rv:=fL s.rv 0 }) (M:=M) (mc:=mc) (R:=R) (b:=b) (m':=CR m) hi hid2) (Cj hI2 (mO hm hid2) (fun _ _=>?_)))))
  all_goals(refine aC ?_;exact aB (hK' _ _))
end
section
variable {id la st:Int} {own:Bool} {y:Ys} {l:List Sm} {cf:Cf}
theorem sC (h:bO B s):bO B (i3 w st s):=by
 unfold i3
 split
 ·exact jF h
 ·refine J8 ?_
  cases hm:bY st s.l with
  |none=>exact h
  |some m=>exact tN h hm
def nR:List (Nat×Nat):= [(0,0),(1,0),(2,0),(3,0),(4,0),(5,0),(6,1),(7,0),(8,0),(9,0),(10,0),(11,0)]
theorem j9 (h:bO B s) (hw:0<=w/\w<=20) (hst:1<=st/\st<=2147483647) (hK:∀M mc,K (.tuple #[]) (cB x a (i3 w st s) M mc R)):CT 302 #[PO x,.agg #[I6 w,I6 st,I6 0]] (cB x a s M mc R) K:=by
 unfold i3 at hK
 cases ht:K0 w
 ·rw[ht,if_neg Bool.false_ne_true] at hK
  cases hm:bY st s.l with
  |none=>
   rw[hm] at hK
   dsimp only[cB,rI]
   refine aH Tryz.func302 ?_
   repeat' (first|refine v31 ?_|refine dw nR ?_|refine w5 ?_ ?_|((refine bh fun h=>?_) <;> try exact w6 h)|(refine aE fun hA=>?_;subst hA)|intro _|(show aA _ 309 _ _ _;refine CA (h:=y9 hw ?_);rw[ht])|(show aA _ 217 _ _ _;refine CA (h:=Vr hw ht hst ?_))|(show aA _ 126 _ _ _;refine CA (h:=oA (l:=s.l) h.sm hm ?_))|(show aA _ 209 _ _ _;refine CA (h:=Cp (x:=x) (a:=a) (s:=s) (M:=M) (mc:=mc) (R:=R) (f:=fK st (iY w 0)) h rfl rfl rfl (fun _ _=>?_))))
   all_goals(refine aC ?_;exact aB (hK _ _))
  |some m=>
   rw[hm] at hK
   dsimp only[cB,rI]
   refine aH Tryz.func302 ?_
   repeat' (first|refine v31 ?_|refine dw nR ?_|refine w5 ?_ ?_|((refine bh fun h=>?_) <;> try exact w6 h)|(refine aE fun hA=>?_;subst hA)|intro _|(show aA _ 309 _ _ _;refine CA (h:=y9 hw ?_);rw[ht])|(show aA _ 217 _ _ _;refine CA (h:=Vr hw ht hst ?_))|(show aA _ 126 _ _ _;refine CA (h:=g9 (l:=s.l) h.sm hm (fun _=>?_)))|(show aA _ 250 _ _ _;refine CA (h:=Ch (x:=x) (a:=a) (s:=s) (M:=M) (mc:=mc) (m:=m) h hm (.inl rfl) (fun _ _=>?_)))|(show aA _ 209 _ _ _;refine CA (h:=Cp (x:=x) (a:=a) (s:=qI m (iY w 0) s) (f:=fK st (iY w 0)) (tN h hm) rfl rfl rfl (fun _ _=>?_))))
   all_goals(refine aC ?_;exact aB (hK _ _))
 ·rw[ht,if_pos rfl] at hK
  refine aH Tryz.func302 ?_
  repeat' (first|refine v31 ?_|refine dw nR ?_|refine w5 ?_ ?_|((refine bh fun h=>?_) <;> try exact w6 h)|(refine aE fun hA=>?_;subst hA)|intro _|(show aA _ 309 _ _ _;refine CA (h:=y9 hw ?_);rw[ht])|(show aA _ 118 _ _ _;refine CA (h:=dU (x:=x) (a:=a) (s:=s) h hw ht (fun _ _=>?_))))
  all_goals(refine aC ?_;exact aB (hK _ _))
theorem uF {n m:Nat} {I:Nat->Fr->List HP->Prop} {a:Fr} {C':List HP} (hm:m<n) (he:aG C C') (hi:I m a C'):aV n I a C:=cN m hi hm he
theorem s9 (hI:bO B s) (hK:K (I6 (fW s own:Nat)) (cB x a s M mc R)):CT 61 #[PO x,.bool own] (cB x a s M mc R) K:=by
 have h64:=hI.sm.1
 refine aH Tryz.func61 ?_
 repeat' (first|refine HA ?_|refine w5 ?_ ?_|((refine bh fun h=>?_) <;> try exact w6 h)|(refine aE fun hA=>?_;subst hA)|intro _|(show aA _ 60 _ _ _;refine CA (h:=Ae (l:=s.l) ?_)))
 refine jG (fun n a' C'=>∃(j q:Nat),j+n=s.l.length/\q<=j/\q+((s.l.drop j).filter fun m=>m.own == own).length=fW s own/\dP a' [(0,PO x),(1,.bool own),(5,I6 q),(14,I6 s.l.length),(15,I6 j)]/\C'=cB x a s M mc R) s.l.length (cN s.l.length ⟨0,0,by omega,by omega,by unfold fW;simp,⟨rfl,rfl,rfl,rfl,rfl,trivial⟩,rfl⟩ (by omega)) ?_
 rintro n a' C' ⟨j,q,hj,hq,hc,ha,rfl⟩
 refine iT _ ha ?_
 simp only[gH]
 by_cases hlt:j<s.l.length
 ·obtain⟨m,hm,hd⟩:=lH (l:=s.l) (j:=j) hlt
  rw[hd,List.filter_cons] at hc
  cases ho:(m.own == own)
  ·rw[ho,if_neg Bool.false_ne_true] at hc
   have hne:m.own≠own:=by simpa using ho
   repeat' (first|(show Br _ _ _;refine Br.f (by simpa using hne) ?_)|refine HA ?_|refine w5 ?_ ?_|((refine bh fun h=>?_) <;> try exact w6 h)|(refine aE fun hA=>?_;subst hA)|intro _|(show aA _ 62 _ _ _;refine CA (h:=Ge (l:=s.l) hI.sm hm (fun _=>?_)))|(show aA _ 156 _ _ _;refine CA (h:=BM (m:=m) ?_)))
   all_goals(show aV _ _ _ _;exact uF (m:=n - 1) (by omega) (aG.trans (by exact aZ) (eD (x:=x) (a:=a) (s:=s) (M:=M) (mc:=mc) (R:=R) hm)) ⟨j+1,q,by omega,by omega,hc,⟨rfl,rfl,rfl,rfl,rfl,trivial⟩,rfl⟩)
  ·rw[ho,if_pos rfl,List.length_cons] at hc
   have hne:m.own=own:=by simpa using ho
   repeat' (first|(show Br _ _ _;refine Br.t (by simpa using hne) ?_)|refine HA ?_|refine w5 ?_ ?_|((refine bh fun h=>?_) <;> try exact w6 h)|(refine aE fun hA=>?_;subst hA)|intro _|(show aA _ 62 _ _ _;refine CA (h:=Ge (l:=s.l) hI.sm hm (fun _=>?_)))|(show aA _ 156 _ _ _;refine CA (h:=BM (m:=m) ?_)))
   all_goals(show aV _ _ _ _;exact uF (m:=n - 1) (by omega) (aG.trans (by exact aZ) (eD (x:=x) (a:=a) (s:=s) (M:=M) (mc:=mc) (R:=R) hm)) ⟨j+1,q+1,by omega,by omega,by omega,⟨rfl,rfl,rfl,rfl,rfl,trivial⟩,rfl⟩)
 ·have hj0:j=s.l.length:=by omega
  subst hj0
  rw[List.drop_length] at hc
  have hc:q=fW s own:=by simpa using hc
  subst hc
  repeat' (first|refine HA ?_|refine w5 ?_ ?_|((refine bh fun h=>?_) <;> try exact w6 h)|(refine aE fun hA=>?_;subst hA)|intro _)
  all_goals(refine aC ?_;exact aB (hK))
theorem Su (hk:kind=1\/kind=2) (hid:1<=id/\id<=2147483647) (hb:0<=cf.sb/\cf.sb<=4096) (hi:0<=cf.si/\cf.si<=64) (hg:0<=sg/\sg<=2) (hh:tM h3) (hK:∀b,K (.tuple #[PO b,I6 0]) (tO b (iC cf h3 id kind sg own)::R)):CT 166 #[I6 id,I6 kind,.bool own,.agg #[I6 h3.w,I6 h3.st,I6 h3.it,I6 cf.sb,I6 cf.si,I6 sg,I6 cf.ev,I6 cf.wa,I6 cf.sl]] R K:=by
 obtain⟨cw,cst,cit,sb,si,csg,ev,wa,sl⟩:=cf
 obtain⟨cap,rfl⟩:∃n:Nat,sb=n:=⟨sb.toNat,(Int.toNat_of_nonneg hb.1).symm⟩
 obtain⟨cai,rfl⟩:∃n:Nat,si=n:=⟨si.toNat,(Int.toNat_of_nonneg hi.1).symm⟩
 have e1:((cap:Nat):Int).toNat=cap:=Int.toNat_natCast cap
 have e2:((cai:Nat):Int).toNat=cai:=Int.toNat_natCast cai
 rcases hk with rfl|rfl
 ·have e:iC ⟨cw,cst,cit,(cap:Nat),(cai:Nat),csg,ev,wa,sl⟩ h3 id 1 sg own=⟨id,own,1,.b ⟨cap,[],false,false,0,0,0⟩,.b ⟨h3.w,h3.w,h3.w,0,0,[],false⟩⟩:=by
   unfold iC;rw[if_pos rfl];dsimp only;rw[e1]
  rw[e] at hK
  exact aA.entK (Rw hid (by simp only at hb;omega) hh fun b li t r=>⟨_,cU (m:=⟨id,own,1,.b ⟨cap,[],false,false,0,0,0⟩,.b ⟨h3.w,h3.w,h3.w,0,0,[],false⟩⟩) ⟨rfl,.inl rfl⟩,hK b⟩)
 ·have e:iC ⟨cw,cst,cit,(cap:Nat),(cai:Nat),csg,ev,wa,sl⟩ h3 id 2 sg own=⟨id,own,1,.i ⟨cai,sg,[],0,false,false,0,0,0⟩,.i ⟨h3.it,h3.it,0,0,[],0,0,0,false⟩⟩:=by
   unfold iC;rw[if_neg (by decide)];dsimp only;rw[e2]
  rw[e] at hK
  exact aA.entK (RV hid (by simp only at hi;omega) hg hh fun b li t r=>⟨_,cU (m:=⟨id,own,1,.i ⟨cai,sg,[],0,false,false,0,0,0⟩,.i ⟨h3.it,h3.it,0,0,[],0,0,0,false⟩⟩) ⟨rfl,.inl rfl⟩,hK b⟩)
theorem PU (he:m.id=id) (hs:Hq l) (hm:bY id l=none) (h64:l.length<64) (hK:K (I6 0) (JB p (lB m l)::R)):CT 233 #[PO p,I6 id,PO b] (tO b m::JB p l::R) K:=by
 subst he;exact Aku hs hm h64 hK
theorem W1 {b:Bool}:((lB m l).filter fun m=>m.own == b).length=(l.filter fun m=>m.own == b).length+if m.own == b then 1 else 0:=by
 have h:(l.filter fun m=>m.own == b).length=((l.take (cI m.id l)).filter fun m=>m.own == b).length+((l.drop (cI m.id l)).filter fun m=>m.own == b).length:=by
  rw[<- List.length_append,<- List.filter_append,List.take_append_drop]
 unfold lB
 rw[h,List.filter_append,List.length_append,List.filter_cons]
 split <;> first|(simp only[List.length_cons];omega)|omega
theorem We (hI:bO B s) (hm:bY id s.l=none) (hl:s.l.length<64) (hid:1<=id/\id<=2147483647) (hp:gF s.sd s.nx s.la id=true) (ho:fW s own<32) (hb:(s.mv.length:Int)+s.l.length+1<=B):bO B (GZ id kind on w xx own sg s):=
 { hI with
   sm:=Ait (m:=iC s.cf s.sh.h id kind sg own) hI.sm (by
    have e:(iC s.cf s.sh.h id kind sg own).id=id:=by unfold iC;split <;> rfl
    rw[e];exact hm) hl
   st:=fun z hz=>by
    have hB:=hI.bb
    rcases CH hz with rfl|hz
    ·unfold iC
     split
     ·exact⟨hid,by show(0:Int)<=B;omega,by show(0:Int)<=B;omega,by show((0:Nat):Int)<=B;omega⟩
     ·exact⟨hid,by show(0:Int)<=B;omega,by show(0:Int)<=B;omega,by show((0:Nat):Int)<=B;omega⟩
    ·exact hI.st z hz
   ids:=fun z hz=>by
    rcases CH hz with rfl|hz
    ·have e:(iC s.cf s.sh.h id kind sg own).id=id:=by unfold iC;split <;> rfl
     show gF s.sd s.nx s.la _=true
     rw[e];exact hp
    ·exact hI.ids z hz
   own:=fun b=>by
    have e:(iC s.cf s.sh.h id kind sg own).own=own:=by unfold iC;split <;> rfl
    show((lB (iC s.cf s.sh.h id kind sg own) s.l).filter fun m=>m.own == b).length<=32
    rw[W1,e]
    have h1:=hI.own b
    unfold fW at h1 ho
    split
    ·rename_i hb
     have hb:own=b:=by simpa using hb
     subst hb;omega
    ·omega
   tr:=Aj2 hI.tr
   ld:=by
    show G7 B (if kind=1 then gG id s.pe.w s.ld else s.ld)
    split
    ·exact Ae0 hI.ld
    ·exact hI.ld
   mv:=by
    show(s.mv.length:Int)+((lB _ s.l).length:Int)<=B
    have e:(lB (iC s.cf s.sh.h id kind sg own) s.l).length<=s.l.length+1:=by
     unfold lB
     rw[List.length_append,List.length_cons,List.length_take,List.length_drop]
     omega
    omega }
def wP:List (Nat×Nat):= [(0,0),(1,0),(2,0),(3,0),(4,0),(5,0),(6,1)]
def vD:List (Nat×Nat):= [(0,0),(1,0),(2,0),(3,0),(4,0),(5,0),(6,0),(7,0),(8,0),(9,0),(10,1)]
theorem SA (hI:bO B s) (hk:kind=1\/kind=2) (hg:0<=sg/\sg<=2) (hm:bY id s.l=none) (hl:s.l.length<64) (hid:1<=id/\id<=2147483647) (hK:K (I6 0) (cB x a (GZ id kind on w xx own sg s) M mc R)):CT 140 #[PO x,I6 id,I6 kind,.bool own,.agg #[I6 on,I6 w,.bool xx],I6 sg] (cB x a s M mc R) K:=by
 have hB:=hI.bb
 have htl:=hI.tr.len
 have he:(iC s.cf s.sh.h id kind sg own).id=id:=by unfold iC;split <;> rfl
 unfold GZ at hK
 by_cases h1:kind=1
 ·simp only[if_pos h1] at hK
  dsimp only[cB,rI] at hK ⊢
  refine aH Tryz.func140 ?_
  repeat' (first|(show Br _ _ _;refine Br.t (by simpa using h1) ?_)|refine KM ?_|refine dw wP ?_|refine dw vD ?_|refine w5 ?_ ?_|((refine bh fun h=>?_) <;> try exact w6 h)|(refine aE fun hA=>?_;subst hA)|intro _|(show aA _ 232 _ _ _;refine CA (h:=zJ (s:=s.sh) ?_))|(show aA _ 166 _ _ _;refine CA (h:=Su (cf:=s.cf) (h3:=s.sh.h) hk hid hI.cf.1 hI.cf.2.1 hg hI.sh.2.1 (fun _=>?_)))|(show aA _ 233 _ _ _;refine CA (h:=PU (l:=s.l) (m:=iC s.cf s.sh.h id kind sg own) he hI.sm hm hl ?_))|(show aA _ 234 _ _ _;refine CA (h:=G3 (s:=s.tr) hI.tr.kok (by omega) (by decide) ?_))|(show aA _ 235 _ _ _;refine CA (h:=Xy (hI.ld.ok (by omega)) (fun _=>?_))))
  all_goals(refine aC ?_;exact aB (hK))
 ·simp only[if_neg h1] at hK
  dsimp only[cB,rI] at hK ⊢
  refine aH Tryz.func140 ?_
  repeat' (first|(show Br _ _ _;refine Br.f (by first|(simp <;> done)|simpa using h1) ?_)|refine KM ?_|refine dw wP ?_|refine dw vD ?_|refine w5 ?_ ?_|((refine bh fun h=>?_) <;> try exact w6 h)|(refine aE fun hA=>?_;subst hA)|intro _|(show aA _ 232 _ _ _;refine CA (h:=zJ (s:=s.sh) ?_))|(show aA _ 166 _ _ _;refine CA (h:=Su (cf:=s.cf) (h3:=s.sh.h) hk hid hI.cf.1 hI.cf.2.1 hg hI.sh.2.1 (fun _=>?_)))|(show aA _ 233 _ _ _;refine CA (h:=PU (l:=s.l) (m:=iC s.cf s.sh.h id kind sg own) he hI.sm hm hl ?_))|(show aA _ 234 _ _ _;refine CA (h:=G3 (s:=s.tr) hI.tr.kok (by omega) (by decide) ?_)))
  all_goals(refine aC ?_;exact aB (hK))
end
section
variable {id la st:Int} {own:Bool} {y:Ys} {l:List Sm} {cf:Cf}
theorem GH.mono (h:GH B m) (hB:B<=B'):GH B' m:=by
 obtain⟨h1,h2,h3,h4⟩:=h
 exact⟨h1,by omega,by omega,by omega⟩
theorem bO.mono (h:bO B s) (hB:B<=B') (hb:B'<=250000000):bO B' s:=
 { h with
   bb:=by have:=h.bb;omega
   st:=fun z hz=>(h.st z hz).mono hB
   ld:=h.ld.mono hB
   rv:=by have:=h.rv;unfold JV at this ⊢;omega
   bt:=by have:=h.bt;omega
   sl:=by have:=h.sl;omega
   inb:=by have:=h.inb;omega
   now:=by have:=h.now;omega
   mv:=by have:=h.mv;omega }
theorem oH (hb:JV B z) (hB:B<=250000000) (hk:0<=k/\k<=900000000) (hK:K (I6 (kL z k)) (AO p (f7 z k).cap (f7 z k).most (f7 z k).gr (f7 z k).got (f7 z k).us::R)):CT 305 #[PO p,I6 k] (AO p z.cap z.most z.gr z.got z.us::R) K:=by
 unfold JV at hb
 by_cases h:max (z.gr - z.got) 0<k
 ·have e:kL z k=9:=by unfold kL;rw[if_pos h]
  unfold f7 at hK
  rw[e] at hK
  simp only[if_neg (show ¬(9:Int)=0 by decide)] at hK
  exact LM h (by omega) hK
 ·have e:kL z k=0:=by unfold kL;rw[if_neg h]
  unfold f7 at hK
  rw[e] at hK
  simp only[if_true] at hK
  exact Ke (by omega) (by omega) hK
theorem Alh (h:JV B z) (hk:0<=k/\k<=B' - B):JV B' (f7 z k):=by
 unfold JV at h
 by_cases hg:kL z k=0
 ·have e:f7 z k= { z with got:=z.got+k }:=by unfold f7;rw[if_pos hg]
  rw[e]
  unfold kL at hg
  by_cases h0:max (z.gr - z.got) 0<k
  ·rw[if_pos h0] at hg;cases hg
  ·unfold JV;dsimp only;omega
 ·have e:f7 z k=z:=by unfold f7;rw[if_neg hg]
  rw[e]
  unfold JV;omega
theorem LC:0<=eS m t d e/\eS m t d e<=20:=by
 unfold eS
 split
 ·omega
 ·split
  ·omega
  ·unfold xU
   split <;> (split <;> (try split) <;> omega)
theorem Abf (h:GH B m) (hd:d.size<=256) (hB:B+300<=B'):GH B' (fV m d e):=by
 obtain⟨h1,h2,h3,h4⟩:=h
 refine⟨h1,by show Mo m.x<=B';omega,?_,?_⟩
 ·show KT (D3 m.y d e)<=B'
  cases hy:m.y with
  |b y=>rw[hy] at h3;simp only[D3,KT] at h3 ⊢;omega
  |i y=>
   rw[hy] at h3
   by_cases hc:d≠⟨#[]⟩\/e=false
   ·simp only[D3,if_pos hc,KT] at h3 ⊢;omega
   ·simp only[D3,if_neg hc,KT] at h3 ⊢;omega
 ·show(iQ (D3 m.y d e):Int)<=B'
  have hdl:d.data.toList.length=d.size:=Array.length_toList
  cases hy:m.y with
  |b y=>rw[hy] at h4;simp only[D3,iQ,List.length_append] at h4 ⊢;omega
  |i y=>
   rw[hy] at h4
   by_cases hc:d≠⟨#[]⟩\/e=false
   ·simp only[D3,if_pos hc,iQ,List.length_append,List.length_singleton] at h4 ⊢;omega
   ·simp only[D3,if_neg hc,iQ] at h4 ⊢;omega
end
end Go.Proofs.YtepnmcipkangkaaGreat
