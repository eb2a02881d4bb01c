/- A part of the proof: lemmas; each with the conditions that it states. -/
import Derived.Test.YtepnmcipkangkaaGreatCay
import Derived.Test.YtepnmcipkangkaaGreatCaz
import Derived.Test.YtepnmcipkangkaaGreatCan
set_option linter.unusedVariables false
set_option linter.unusedSimpArgs false
set_option maxRecDepth 100000
set_option maxHeartbeats 40000000
namespace Go.Proofs.YtepnmcipkangkaaGreat
open Go Go.Proofs Go.Sl
attribute [local irreducible] aN fL cL bM aL aR aA dJ dK aU dI pt ro fC star sep bF
attribute [local irreducible] mp DG
structure Cf where
 w:Int
 st:Int
 it:Int
 sb:Int
 si:Int
 sg:Int
 ev:Int
 wa:Int
 sl:Int
structure Yp where
 cap:Int
 most:Int
 gr:Int
 got:Int
 us:Int
structure Mv where
 k:Int
 id:Int
 n:Int
 s:ByteArray
 e:Bool
structure Cn where
 cf:Cf
 sd:Int
 nx:Int
 la:Int
 l:List Sm
 tr:eX
 pk:List (KE Int)
 pc:Nat
 ld:Ld
 rv:Yp
 sh:FA
 pe:dR
 bt:Bt
 sl:PM
 dr:Dr
 out:List Fm
 inb:List UInt8
 ine:Int
 now:Int
 last:ByteArray
 mv:List Mv
def fr0 (t st:Int):Fm:=⟨t,st,false,⟨#[]⟩,0,0,0,false,0,0,0,none,0,0,[]⟩
def uD (t st:Int) (d:ByteArray) (e:Bool):Fm:=⟨t,st,e,d,0,0,0,false,0,0,0,none,0,0,[]⟩
def lV (st k on w:Int) (x:Bool):Fm:=⟨2,st,false,⟨#[]⟩,k,on,w,x,0,0,0,none,0,0,[]⟩
def mX (st on w:Int) (x:Bool):Fm:=⟨3,st,false,⟨#[]⟩,0,on,w,x,0,0,0,none,0,0,[]⟩
def fM (st c:Int):Fm:=⟨4,st,false,⟨#[]⟩,0,0,0,false,c,0,0,none,0,0,[]⟩
def vS (ps:List Pr):Fm:=⟨5,0,false,⟨#[]⟩,0,0,0,false,0,0,0,none,ps.length,0,ps⟩
def zZ (la c:Int):Fm:=⟨9,0,false,⟨#[]⟩,0,0,0,false,c,la,0,none,0,0,[]⟩
def Ab (t st n:Int):Fm:=⟨t,st,false,⟨#[]⟩,0,0,0,false,0,0,n,none,0,0,[]⟩
def k7 (y:Yp) (k:Int):Int:=if max (y.gr - y.got) 0<k then 9 else 0
def gA (y:Yp) (k:Int):Yp:=if k7 y k=0 then { y with got:=y.got+k } else y
def fO (y:Yp) (k:Int):Yp:=if 0<=k/\k<=y.got - y.us then { y with us:=y.us+k } else y
def nP (y:Yp):Int:=rQ y.cap y.gr y.us
def SF (y:Yp):Yp:= { y with gr:=y.gr+nP y }
def fQ (s:Cn) (b:Bool):Nat:=(s.l.filter fun m=>m.own == b).length
def t7 (m:Mv) (s:Cn):Cn:= { s with mv:=s.mv++ [m] }
def vH (s:Cn) (id:Int):Bool:=gI s.sd s.nx s.la id
def aD (s:Cn):Cn:= { s with mv:= [] }
def cH (s:Cn) (id:Int):Int:=if s.dr.ov=true then 14 else match bX id s.l with
 |some _=>0
 |none=>if vH s id=true then 14 else 7
def lR (id code:Int) (gone:Bool) (s:Cn):Cn:=
 { s with l:=s.l.eraseIdx (cI id s.l),tr:=Ar id s.tr,pk:=(if sY id s.pk=0 then s.pk else nX id s.pk),ld:=kU id s.ld,mv:=s.mv++ [⟨4,id,code,⟨#[]⟩,gone⟩] }
def qN (code:Int):List Int->Cn->Cn
 | [],s=>s
 |id::r,s=>qN code r (lR id code false s)
def lJ (m:Sm) (s:Cn):Cn:=if Jo m=true then lR m.id 0 true s else s
def uZ (s:Cn):Cn:= { qN s.dr.co (s.l.map Sm.id) s with out:= [] }
def iM (w o:Int) (s:Cn):Cn:=uZ { s with dr:=vY s.dr (i0 w o),last:=xK (zZ s.la (i0 w o)) }
def nC (f:Fm) (s:Cn):Cn:=if zA f s.out=0 then { s with out:=wL f s.out } else iM 18 0 s
def qF (m:Sm) (code:Int) (s:Cn):Cn:=lR m.id code false { s with rv:=fO s.rv (if bA m.x=1 then(iD m.y:Nat) else 0) }
def i8 (w st:Int) (s:Cn):Cn:=if Kv w=true then iM w 0 s else
 nC (fM st (i0 w 0)) (match bX st s.l with
  |some m=>qF m (i0 w 0) s
  |none=>s)
def iI (cf:Cf) (h:dR) (id kind sg:Int) (own:Bool):Sm:=if kind=1 then⟨id,own,1,.b ⟨cf.sb.toNat,[],false,false,0,0,0⟩,.b ⟨h.w,h.w,h.w,0,0,[],false⟩⟩ else⟨id,own,1,.i ⟨cf.si.toNat,sg,[],0,false,false,0,0,0⟩,.i ⟨h.it,h.it,0,0,[],0,0,0,false⟩⟩
def GV (id kind on w:Int) (x own:Bool) (sg:Int) (s:Cn):Cn:=
 { s with l:=lM (iI s.cf s.sh.h id kind sg own) s.l,tr:=oI id on w x 64 s.tr,ld:=if kind=1 then gM id s.pe.w s.ld else s.ld }
def jP (kind sg on w:Int) (x:Bool) (s:Cn):Int:=if s.dr.ov=true then 14 else if kind≠1/\kind≠2 then 13 else if sg<0\/2<sg then 2 else if KL s.dr=false then 15 else if 2147483647<s.nx\/min s.pe.st 32<=(fQ s true:Nat) then 16 else if lZ (lV s.nx kind on w x)=false then 2 else if on=s.nx then 12 else if 64<=s.out.length then 9 else 0
def lF (kind sg on w:Int) (x:Bool) (s:Cn):Cn:=if jP kind sg on w x s≠0 then aD s else
 GV s.nx kind on w x true sg { aD s with nx:=s.nx+2,out:=wL (lV s.nx kind on w x) s.out }
def w4 (m:Sm) (s:Cn):Cn:= { s with l:=s.l.set (cI m.id s.l) m }
def qD (id:Int) (d:ByteArray) (s:Cn):Int×Int:=if cH s id≠0 then(0,cH s id) else match bX id s.l with
 |some m=>(WC m d,Wr m d)
 |none=>(0,0)
def kY (id:Int) (d:ByteArray) (s:Cn):Cn:=if cH s id≠0 then aD s else match bX id s.l with
 |some m=>w4 (Bw m d) (aD s)
 |none=>s
def M8 (id:Int) (s:Cn):Int:=if cH s id≠0 then cH s id else match bX id s.l with
 |some m=>Va m
 |none=>0
def xF (id:Int) (s:Cn):Cn:=if cH s id≠0 then aD s else match bX id s.l with
 |some m=>w4 (Bl m) (aD s)
 |none=>s
def mH (id n:Int) (s:Cn):ByteArray×Bool×Int:=if cH s id≠0 then(⟨#[]⟩,false,cH s id) else match bX id s.l with
 |some m=>if Pb m.y≠0 then(⟨#[]⟩,false,Pb m.y) else(CI m.y n,IK (Fi m.y n),0)
 |none=>(⟨#[]⟩,false,0)
def mY (id n:Int) (s:Cn):Cn:=if cH s id≠0 then aD s else match bX id s.l with
 |some m=>if Pb m.y≠0 then aD s else lJ { m with y:=Fi m.y n } { w4 { m with y:=Fi m.y n } (aD s) with rv:=fO s.rv ((CI m.y n).size:Nat) }
 |none=>s
def nJ (id:Int) (s:Cn):ByteArray×Bool×Bool×Int:=if cH s id≠0 then(⟨#[]⟩,false,false,cH s id) else match bX id s.l with
 |some m=>if ZB m.y≠0 then(⟨#[]⟩,false,false,ZB m.y) else(Ank m.y,Afe m.y,IK (FC m.y),0)
 |none=>(⟨#[]⟩,false,false,0)
def rJ (id:Int) (s:Cn):Cn:=if cH s id≠0 then aD s else match bX id s.l with
 |some m=>if ZB m.y≠0 then aD s else lJ { m with y:=FC m.y } (w4 { m with y:=FC m.y } (aD s))
 |none=>s
def N0 (id n:Int) (s:Cn):Int:=if cH s id≠0 then cH s id else match bX id s.l with
 |some m=>V9 m.y n
 |none=>0
def wR (id n:Int) (s:Cn):Cn:=if cH s id≠0 then aD s else match bX id s.l with
 |some m=>w4 { m with y:=G7 m.y n } (aD s)
 |none=>s
def Hi (id on w:Int) (x:Bool) (s:Cn):Int:=if cH s id≠0 then cH s id else if lZ (mX id on w x)=false then 2 else if on=id then 12 else if zA (mX id on w x) s.out≠0 then 9 else rC id on w s.tr
def pJ (id on w:Int) (x:Bool) (s:Cn):Cn:=if cH s id≠0\/lZ (mX id on w x)=false\/on=id\/zA (mX id on w x) s.out≠0 then aD s else { aD s with out:=wL (mX id on w x) s.out,tr:=lO id on w x s.tr }
def kB (id c:Int) (s:Cn):Int:=if cH s id≠0 then cH s id else if lZ (fM id c)=false then 2 else if zA (fM id c) s.out≠0 then 9 else 0
def lU (id c:Int) (s:Cn):Cn:=if kB id c s≠0 then aD s else match bX id s.l with
 |some m=>qF m c { aD s with out:=wL (fM id c) s.out }
 |none=>s
def VX (s:Cn):Int:=if s.dr.ov=true then 14 else if s.dr.se=true then 11 else if zA (zZ s.la 0) s.out≠0 then 9 else Hj s.dr s.la
def AT (s:Cn):Cn:=if s.dr.ov=true\/s.dr.se=true\/zA (zZ s.la 0) s.out≠0 then aD s else { aD s with out:=wL (zZ s.la 0) s.out,dr:=BI s.dr s.la }
def MZ (t:dR) (s:Cn):Int:=if s.dr.ov=true then 14 else if 64<=s.out.length then 9 else if iE s.sh t≠0 then iE s.sh t else zA (vS (CX (nD s.sh) t)) s.out
def tD (t:dR) (s:Cn):Cn:=if s.dr.ov=true\/64<=s.out.length\/iE s.sh t≠0 then aD s else { aD s with sh:=eC s.sh t,out:=wL (vS (CX (nD s.sh) t)) s.out }
def s4 (s:Cn):Cn:= { s with now:=s.now+1 }
def rZ (f:Fm) (s:Cn):Cn:=
 if k7 s.rv (if f.t=0 then(f.d.size:Nat) else 0)≠0 then iM 9 0 s
 else match bX f.st s.l with
  |none=> { s with rv:=fO (gA s.rv (if f.t=0 then(f.d.size:Nat) else 0)) (if f.t=0 then(f.d.size:Nat) else 0) }
  |some m=>if eT m f.t f.d f.e≠0 then i8 (eT m f.t f.d f.e) f.st { s with rv:=fO (gA s.rv (if f.t=0 then(f.d.size:Nat) else 0)) (if f.t=0 then(f.d.size:Nat) else 0) }
   else lJ (fX m f.d f.e) (t7 ⟨2,f.st,if f.t=1/\(f.d≠⟨#[]⟩\/f.e=false) then 1 else if f.t=0 then(f.d.size:Nat) else 0,f.d,f.e⟩ (w4 (fX m f.d f.e) { s with rv:=gA s.rv (if f.t=0 then(f.d.size:Nat) else 0) }))
def mU (f:Fm) (s:Cn):Cn:=
 if nQ s.sd s.la f.st≠0 then iM 1 0 s
 else if f.on=f.st then iM 2 0 { s with la:=f.st }
 else if EB s.dr f.st=false then i8 4 f.st { s with la:=f.st }
 else if s.sh.h.st<=(fQ s false:Nat) then i8 3 f.st { s with la:=f.st }
 else t7 ⟨3,f.st,f.k,⟨#[]⟩,false⟩ (GV f.st f.k f.on f.w f.x false s.cf.sg { s with la:=f.st })
def lE (f:Fm) (m:Sm) (s:Cn):Cn:=
 if(bA m.x=1)≠(f.t=10) then i8 6 f.st s
 else if f.n=0 then i8 11 f.st s
 else if bA m.x=1 then(if mQ f.st f.n s.ld≠0 then i8 13 f.st s else { s with ld:=kK f.st f.n s.ld,sl:=f6 s.sl s.now })
 else(if Fz m.x f.n≠0 then i8 13 f.st s else w4 { m with x:=qA m.x f.n } { s with sl:=f6 s.sl s.now })
def qZ (f:Fm) (s:Cn):Cn:=if f.n=0 then iM 12 0 s else if mQ 0 f.n s.ld≠0 then iM 14 0 s else { s with ld:=kK 0 f.n s.ld,sl:=f6 s.sl s.now }
def wJ (f:Fm) (s:Cn):Cn:=match Vg s.pe f.ps with
 |none=>iM 16 0 s
 |some t=>if AQ s.pe.w t.w s.ld≠0 then iM 17 0 s else nC (fr0 6 0) { s with ld:=mO s.pe.w t.w s.ld,pe:=t }
def rD (s:Cn):Cn:=if zW s.sh≠0 then iM 15 0 s else { s with sh:=dE s.sh,l:=s.l.map fun m=> { m with y:=Ex m.y (dE s.sh).h } }
def nB:List Int->Cn->Cn
 | [],s=>s
 |id::r,s=>nB r (match bX id s.l with
  |some m=>if m.own=true/\Ih s.dr id=true then qF m 7 s else s
  |none=>s)
def vK (f:Fm) (s:Cn):Cn:=if(mI s.dr f.la f.c).ov=true then uZ { s with dr:=mI s.dr f.la f.c } else nB (s.l.map Sm.id) { s with dr:=mI s.dr f.la f.c }
def kE (f:Fm) (s:Cn):Cn:=if f.t=3/\f.on=f.st then iM 2 0 s else match bX f.st s.l with
 |none=>s
 |some m=>if f.t=3 then { s with tr:=lO f.st f.on f.w f.x s.tr } else if f.t=4 then qF m f.c s else lE f m s
def fG (f:Fm) (s:Cn):Cn:=
 if f.t=5 then wJ f s else if f.t=6 then rD s else if f.t=7 then nC (uD 8 0 f.d false) s
 else if f.t=8 then { s with bt:=kJ s.bt s.now f.d } else if f.t=9 then vK f s else if f.t=2 then mU f s
 else if f.st=0 then qZ f s else if vH s f.st=false then iM 5 0 s else if f.t=0\/f.t=1 then rZ f s else kE f s
def bC (f:Fm) (s:Cn):Cn:=fG f { s with bt:=bQ s.bt s.now }
def cC:List Fm->Cn->Cn
 | [],s=>s
 |f::r,s=>if(bC f s).dr.ov=true then bC f s else cC r (bC f s)
def eB (u:List UInt8) (s:Cn):List Fm×Cn:=((pF (s.inb++u)).1.map GG,{ s with inb:=if(pF (s.inb++u)).2.2=0 then(pF (s.inb++u)).2.1 else [],ine:=(pF (s.inb++u)).2.2 })
def zP (s:Cn):Int:=if s.dr.ov=true then 14 else 0
def fJ (u:List UInt8) (s:Cn):Cn:=if s.dr.ov=true then aD s else
 if(cC (eB u (aD s)).1 (eB u (aD s)).2).dr.ov=true\/(pF (s.inb++u)).2.2=0 then cC (eB u (aD s)).1 (eB u (aD s)).2 else iM 0 (pF (s.inb++u)).2.2 (cC (eB u (aD s)).1 (eB u (aD s)).2)
def HO (ld:Ld) (m:Sm):Bool:=Sw m && Ahc m.x (bB m.id ld)
def rW (s:Cn):Bool:=s.l.any (HO s.ld)
def fD (s:Cn):List Fm:=if QI s.bt s.now=2\/Ae s.sl s.now (rW s)=true\/QI s.bt s.now≠1 then [] else [uD 7 0 (btD s.bt s.now) false]
def bI (s:Cn):Cn:=if QI s.bt s.now=2 then iM 20 0 { s with bt:=iA s.bt s.now } else if Ae s.sl s.now (rW s)=true then iM 19 0 { s with bt:=iA s.bt s.now,sl:=nW s.sl s.now (rW s) } else { s with bt:=iA s.bt s.now,sl:=nW s.sl s.now (rW s) }
def DX (t st n:Int):List Fm:=if 0<n then [Ab t st n] else []
def mL (m:Sm):List Fm:=if YG m=true then DX (if bA m.x=2 then 11 else 10) m.id (G3 m.y) else []
def nK (m:Sm):Sm:=if YG m=true then { m with y:=yGr m.y } else m
def iZ (s:Cn):List Fm:=DX 10 0 (nP s.rv)++s.l.flatMap mL
def Ag (s:Cn):Cn:= { s with rv:=SF s.rv,l:=s.l.map nK }
def pG (s:Cn) (id:Int):Tu:=⟨id,if d6 id s.tr.1=true then(dG id s.tr).w else 0,match bX id s.l with
 |some m=>Sw m && Pt m.x (bB id s.ld)
 |none=>false⟩
def eK (s:Cn):List Tu:=(eI s.tr).map (pG s)
def sU (s:Cn):Option Fm×Cn:=match Ax (s.pk,s.pc) (eK s) with
 |(none,p)=>(none,{ s with pk:=p.1,pc:=p.2 })
 |(some id,p)=>match bX id s.l with
  |none=>(none,{ s with pk:=p.1,pc:=p.2 })
  |some m=>if IP m (bB id s.ld)=false then(none,{ s with pk:=p.1,pc:=p.2 }) else
   (some (uD (bA m.x - 1) id (iP m.x (bB id s.ld)) (Be m.x (bB id s.ld))),
    lJ (DL m (bB id s.ld)) (t7 ⟨1,id,if bA m.x=1 then((iP m.x (bB id s.ld)).size:Nat) else if iP m.x (bB id s.ld)=⟨#[]⟩/\Be m.x (bB id s.ld)=true then 0 else 1,iP m.x (bB id s.ld),Be m.x (bB id s.ld)⟩
     (w4 (DL m (bB id s.ld)) { s with ld:=(if bA m.x=1 then jQ id ((iP m.x (bB id s.ld)).size:Nat) s.ld else s.ld),pk:=(kO id (sY id p.1 - fY ((iP m.x (bB id s.ld)).size:Nat)) p).1,pc:=(kO id (sY id p.1 - fY ((iP m.x (bB id s.ld)).size:Nat)) p).2 })))
def eJ:Nat->Cn->List Fm×Cn
 |0,s=>([],s)
 |n+1,s=>match sU s with
  |(none,s)=>([],s)
  |(some f,s)=>(f::(eJ n s).1,(eJ n s).2)
def Tc (l:List Fm):List UInt8:=if l.all lZ=true then kP l else []
def bW (s:Cn):List UInt8×Cn:=
 if s.dr.ov=true then(s.last.data.toList,{ aD s with last:=⟨#[]⟩ })
 else if(bI (aD s)).dr.ov=true then((bI (aD s)).last.data.toList,{ bI (aD s) with last:=⟨#[]⟩ })
 else let s1:=bI (aD s)
  let s2:=Ag { s1 with out:= [] }
  let b:=eJ 4 s2
  (Tc (fD (aD s)++s1.out++iZ { s1 with out:= [] }++b.1),{ b.2 with dr:=uF b.2.dr b.2.l.length })
section
structure Ca where
 ids:Nat
 l:Nat
 t:Nat
 tq:Nat
 p:Nat
 pq:Nat
 fr:Nat
 rc:Nat
 sh:Nat
 bt:Nat
 sl:Nat
 dr:Nat
 ou:Nat
 inn:Nat
def mvD:List Value->Option Mv
 | [.int .i64 k,.int .i64 id,.int .i64 n,.string s,.bool e]=>some ⟨k,id,n,s,e⟩
 |_=>none
theorem Am6 (cs:List Value) (y:Mv) (h:mvD cs=some y): [I6 y.k,I6 y.id,I6 y.n,.string y.s,.bool y.e]=cs:=by
 unfold mvD at h
 split at h
 ·cases h;rfl
 ·cases h
def mvC:u6 Mv:= { enc:=fun y=> [I6 y.k,I6 y.id,I6 y.n,.string y.s,.bool y.e],sz:=5,dec:=mvD,len:=fun _=>rfl,one:=fun _=>rfl,ok:=Am6 }
abbrev nF (x:Nat) (a:Ca) (s:Cn) (M:Option Addr) (mc:Nat) (T:HP) (R:List HP):List HP:=
 pt x [I6 s.cf.w,I6 s.cf.st,I6 s.cf.it,I6 s.cf.sb,I6 s.cf.si,I6 s.cf.sg,I6 s.cf.ev,I6 s.cf.wa,I6 s.cf.sl,PO a.ids,PO a.l,PO a.t,PO a.p,PO a.fr,PO a.rc,PO a.sh,I6 s.pe.w,I6 s.pe.st,I6 s.pe.it,PO a.bt,PO a.sl,PO a.dr,PO a.ou,PO a.inn,I6 s.now,.string s.last,.slice M s.mv.length mc] 121::
 pt a.ids [I6 s.sd,I6 s.nx,I6 s.la] 279::T::pt a.t [I6 64,.map (some a.tq)] 287::mp a.tq (kM sR s.tr.1) s.tr.2::pt a.p [.map (some a.pq)] 275::mp a.pq (kM LY s.pk) s.pc::Mo a.fr s.ld::y9 a.rc s.rv.cap s.rv.most s.rv.gr s.rv.got s.rv.us::R6 a.sh s.sh::btP a.bt s.bt::slP a.sl s.sl::DZ a.dr s.dr::Sq a.ou s.out::spP a.inn s.inb s.ine::bT M mc 311 mvC s.mv::R
abbrev cA (x:Nat) (a:Ca) (s:Cn) (M:Option Addr) (mc:Nat) (R:List HP):List HP:=nF x a s M mc (IH a.l s.l) R
abbrev cnH (x:Nat) (a:Ca) (s:Cn) (M:Option Addr) (mc:Nat) (i b:Nat) (R:List HP):List HP:=nF x a s M mc (OM a.l s.l i b) R
variable {R C:List HP} {K:KP} {x mc:Nat} {a:Ca} {s:Cn} {M:Option Addr}
theorem lC (hK:K (.bool s.dr.ov) (cA x a s M mc R)):CT 105 #[PO x] (cA x a s M mc R) K:=by
 dsimp only[cA,nF] at hK ⊢
 refine aH Tryz.func105 ?_
 repeat' (first|refine ZR ?_|refine w5 ?_ ?_|((refine bh fun h=>?_) <;> try exact w6 h)|(refine aE fun hA=>?_;subst hA)|intro _|(show aA _ 59 _ _ _;refine CA (h:=JQ ?_)))
 all_goals(refine aC ?_;exact aB (hK))
theorem cG (hK:K (I6 (if s.dr.ov=true then 14 else 0)) (cA x a (aD s) none 0 R)):CT 104 #[PO x] (cA x a s M mc R) K:=by
 cases ho:s.dr.ov
 ·rw[ho,if_neg Bool.false_ne_true] at hK
  dsimp only[cA,nF] at ⊢
  refine aH Tryz.func104 ?_
  repeat' (first|refine v13 ?_|refine w5 ?_ ?_|((refine bh fun h=>?_) <;> try exact w6 h)|(refine aE fun hA=>?_;subst hA)|intro _|(show aA _ 105 _ _ _;refine CA (h:=lC (x:=x) (a:=a) (s:=aD s) (M:=none) (mc:=0) (R:=R) ?_);rw[show(aD s).dr.ov=false from ho]))
  all_goals(refine aC ?_;exact aB (hK))
 ·rw[ho,if_pos rfl] at hK
  dsimp only[cA,nF] at ⊢
  refine aH Tryz.func104 ?_
  repeat' (first|refine v13 ?_|refine w5 ?_ ?_|((refine bh fun h=>?_) <;> try exact w6 h)|(refine aE fun hA=>?_;subst hA)|intro _|(show aA _ 105 _ _ _;refine CA (h:=lC (x:=x) (a:=a) (s:=aD s) (M:=none) (mc:=0) (R:=R) ?_);rw[show(aD s).dr.ov=true from ho]))
  all_goals(refine aC ?_;exact aB (hK))
def CL:List (Nat×Nat):= [(5,0),(6,1),(1,1),(2,1),(3,1),(4,1),(7,1),(0,2),(8,0),(9,0),(10,1)]
theorem It {k id n:Int} {z:ByteArray} {b:Bool} (hb:s.mv.length<=1000000000) (hK:∀M mc,K (.tuple #[]) (cA x a (t7 ⟨k,id,n,z,b⟩ s) M mc R)):CT 194 #[PO x,.agg #[I6 k,I6 id,I6 n,.string z,.bool b]] (cA x a s M mc R) K:=by
 dsimp only[cA,nF,t7] at hK ⊢
 refine aH Tryz.func194 ?_
 repeat' (first|(show aN _ _ _ _ _ _ _;(refine dD (E:=mvC) (ys:= [⟨k,id,n,z,b⟩]) ?_;intro _ _))|refine v54 ?_|refine dw CL ?_|refine w5 ?_ ?_|((refine bh fun h=>?_) <;> try exact w6 h)|(refine aE fun hA=>?_;subst hA)|intro _)
 all_goals(refine aC ?_;exact aB (hK _ _))
end
end Go.Proofs.YtepnmcipkangkaaGreat
namespace Go.Proofs.YtepnmcipkangkaaGreat
open Go Go.Proofs Go.Sl
attribute [local irreducible] aN fL cL bM aL aR aA dJ dK aU dI pt ro fC star sep bF
variable {α:Type} {i:Nat} {t B B' n k a b:Int} {m m':Sm} {s:Ld} {e:gZ}
section
variable {f:α->Int}
theorem Ab5 {t:Int}:∀ {l:List α},∀z∈l.take (l.takeWhile fun e=>decide (f e<t)).length,f z<t
 | [],z,h=>by simp at h
 |e::r,z,h=>by
  rw[List.takeWhile_cons] at h
  by_cases he:f e<t
  ·rw[if_pos (decide_eq_true he),List.length_cons,List.take_succ_cons] at h
   rcases List.mem_cons.1 h with rfl|h
   ·exact he
   ·exact Ab5 z h
  ·rw[if_neg (by simpa using he)] at h
   simp at h
theorem O7 {t:Int}:∀ {l:List α},l.Pairwise (fun a b=>f a<f b)->∀z∈l.drop (l.takeWhile fun e=>decide (f e<t)).length,t<=f z
 | [],_,z,h=>by simp at h
 |e::r,hp,z,h=>by
  obtain⟨h1,h2⟩:=List.pairwise_cons.1 hp
  rw[List.takeWhile_cons] at h
  by_cases he:f e<t
  ·rw[if_pos (decide_eq_true he),List.length_cons,List.drop_succ_cons] at h
   exact O7 h2 z h
  ·rw[if_neg (by simpa using he)] at h
   rcases List.mem_cons.1 (by simpa using h) with rfl|h
   ·omega
   ·have:=h1 z h;omega
theorem WN {l:List α} {x:α} (hp:l.Pairwise fun a b=>f a<f b) (hx:∀z∈l,f z≠f x):(l.take (l.takeWhile fun e=>decide (f e<f x)).length++x::l.drop (l.takeWhile fun e=>decide (f e<f x)).length).Pairwise fun a b=>f a<f b:=by
 rw[List.pairwise_append]
 refine⟨hp.sublist (List.take_sublist ..),List.pairwise_cons.2 ⟨fun b hb=>?_,hp.sublist (List.drop_sublist ..)⟩,fun a ha b hb=>?_⟩
 ·have h1:=O7 hp b hb
  have h2:=hx b (List.mem_of_mem_drop hb)
  omega
 ·have h1:=Ab5 a ha
  rcases List.mem_cons.1 hb with rfl|hb
  ·exact h1
  ·have h2:=O7 hp b hb
   omega
theorem U4 {l:List α} {x:α} {y:α} (hp:l.Pairwise fun a b=>f a<f b) (hy:l[i]?=some y) (he:f x=f y):(l.set i x).Pairwise fun a b=>f a<f b:=by
 have hm:(l.set i x).map f=l.map f:=by
  rw[List.map_set,he]
  refine lB i ?_
  rw[List.getElem?_map,hy];rfl
 have h1:(l.map f).Pairwise (·<·):=List.pairwise_map.2 hp
 rw[<- hm] at h1
 exact List.pairwise_map.1 h1
theorem T8 {l:List α} (hp:l.Pairwise fun a b=>f a<f b) (h:∀e,l[(l.takeWhile fun e=>decide (f e<t)).length]?=some e->f e≠t):∀z∈l,f z≠t:=fun z hz e=>by
 rw[<- List.take_append_drop (l.takeWhile fun e=>decide (f e<t)).length l] at hz
 rcases List.mem_append.1 hz with hz|hz
 ·have:=Ab5 z hz;omega
 ·have h1:=O7 hp z hz
  cases hd:l.drop (l.takeWhile fun e=>decide (f e<t)).length with
  |nil=>rw[hd] at hz;cases hz
  |cons y r=>
   have hy:l[(l.takeWhile fun e=>decide (f e<t)).length]?=some y:=by
    rw[<- List.head?_drop,hd];rfl
   rw[hd] at hz
   rcases List.mem_cons.1 hz with rfl|hz
   ·exact h z hy e
   ·have h2:=O7 hp y (by rw[hd];exact List.mem_cons_self ..)
    have h3:=hp.sublist (List.drop_sublist (l.takeWhile fun e=>decide (f e<t)).length l)
    rw[hd] at h3
    have:=(List.pairwise_cons.1 h3).1 z hz
    omega
end
section
variable {l:List Sm}
theorem Mz (h:G6 l) (hm:bX t l=none):∀z∈l,z.id≠t:=T8 (f:=Sm.id) h.2 fun e he hid=>by
 unfold bX cI at hm
 rw[he] at hm
 simp only[hid,if_true] at hm
 cases hm
theorem Ai7 (h:G6 l) (hm:bX m.id l=none) (hl:l.length<64):G6 (lM m l):=by
 refine⟨?_,WN (f:=Sm.id) h.2 (Mz h hm)⟩
 unfold lM
 rw[List.length_append,List.length_cons,List.length_take,List.length_drop]
 omega
theorem Yi (h:G6 l):G6 (l.eraseIdx i):=⟨Nat.le_trans (List.length_eraseIdx_le ..) h.1,h.2.sublist (List.eraseIdx_sublist ..)⟩
theorem Ali (h:G6 l) (hm:l[i]?=some m) (he:m'.id=m.id):G6 (l.set i m'):=⟨by rw[List.length_set];exact h.1,U4 (f:=Sm.id) h.2 hm he⟩
theorem U8 {g:Sm->Sm} (h:G6 l) (hg:∀m,(g m).id=m.id):G6 (l.map g):=by
 refine⟨by rw[List.length_map];exact h.1,List.pairwise_map.2 (h.2.imp fun hab=>?_)⟩
 rw[hg,hg];exact hab
theorem BW {z:Sm} (h:z∈lM m l):z=m\/z∈l:=by
 unfold lM at h
 rcases List.mem_append.1 h with h|h
 ·exact .inr (List.mem_of_mem_take h)
 ·rcases List.mem_cons.1 h with h|h
  ·exact .inl h
  ·exact .inr (List.mem_of_mem_drop h)
end
def GH (B:Int) (s:Ld):Prop:=s.l.length<=64/\(s.l.Pairwise fun a b=>a.id<b.id)/\(∀e∈s.l,(-2147483647<=e.n/\e.n<=2147483647)/\0<=e.sp/\e.sp<=B)/\(-2147483647<=s.n0/\s.n0<=2147483647)/\0<=s.sp/\s.sp<=B
theorem GH.ok (h:GH B s) (hB:B<=1000000000000):Ux s:=by
 obtain⟨h1,h2,h3,h4,h5⟩:=h
 exact⟨h1,h2,fun e he=>by have:=h3 e he;omega,by omega,by omega⟩
theorem GH.mono (h:GH B s) (hB:B<=B'):GH B' s:=by
 obtain⟨h1,h2,h3,h4,h5⟩:=h
 exact⟨h1,h2,fun e he=>by have:=h3 e he;omega,h4,by omega⟩
theorem XK (h:GH B s):GH B (kU t s):=by
 unfold kU
 split
 ·exact⟨Nat.le_trans (List.length_eraseIdx_le ..) h.1,h.2.1.sublist (List.eraseIdx_sublist ..),fun e he=>h.2.2.1 e (List.mem_of_mem_eraseIdx he),h.2.2.2⟩
 ·exact h
theorem Abz (h:GH B s):GH B (gM t n s):=by
 obtain⟨h1,h2,h3,h4,h5⟩:=h
 unfold gM
 split
 ·exact⟨h1,h2,h3,h4,h5⟩
 ·rename_i hc
  have hw:mG n=true:=by cases hq:mG n <;> first|rfl|exact absurd (.inr (.inr (.inl hq))) hc
  unfold mG at hw
  simp only[Bool.and_eq_true,decide_eq_true_eq] at hw
  have hno:∀z∈s.l,z.id≠t:=T8 (f:=gZ.id) h2 fun e he hid=>hc (.inr (.inr (.inr (.inl (by
   unfold pR oB
   rw[he]
   simp[hid])))))
  refine⟨?_,WN (f:=gZ.id) (x:=⟨t,n,0⟩) h2 hno,fun e he=>?_,h4,h5⟩
  ·show(s.l.take _++_::s.l.drop _).length<=64
   rw[List.length_append,List.length_cons,List.length_take,List.length_drop]
   omega
  ·rcases List.mem_append.1 he with he|he
   ·exact h3 e (List.mem_of_mem_take he)
   ·rcases List.mem_cons.1 he with rfl|he
    ·exact⟨by show -2147483647<=n/\n<=2147483647;omega,Int.le_refl 0,by show(0:Int)<=B;omega⟩
    ·exact h3 e (List.mem_of_mem_drop he)
theorem oM (h:pR t s.l=some e):s.l[oB t s.l]?=some e/\e.id=t:=by
 unfold pR at h
 cases hz:s.l[oB t s.l]? with
 |none=>rw[hz] at h;cases h
 |some z=>
  rw[hz] at h
  simp only at h
  split at h
  ·rename_i he;cases h;exact⟨rfl,he⟩
  ·cases h
theorem Ww (h:GH B s) {e':gZ} (he:pR t s.l=some e) (hi:e'.id=e.id) (hn:(-2147483647<=e'.n/\e'.n<=2147483647)/\0<=e'.sp/\e'.sp<=B) {n0 sp:Int} (h0:-2147483647<=n0/\n0<=2147483647) (hs:0<=sp/\sp<=B):GH B { n0:=n0,sp:=sp,l:=s.l.set (oB t s.l) e' }:=by
 obtain⟨h1,h2,h3,h4,h5⟩:=h
 refine⟨by rw[List.length_set];exact h1,U4 (f:=gZ.id) h2 (oM he).1 hi,fun z hz=>?_,h0,hs⟩
 rcases List.mem_or_eq_of_mem_set hz with hz|rfl
 ·exact h3 z hz
 ·exact hn
theorem XR (h:GH B s) (hk:k<=B' - B) (h0:B<=B'):GH B' (jQ t k s):=by
 unfold jQ
 split
 ·exact h.mono h0
 ·rename_i hc
  have hc:oR t k s=0:=Classical.byContradiction hc
  cases he:pR t s.l with
  |none=>exact h.mono h0
  |some e=>
   unfold oR bB at hc
   rw[he] at hc
   simp only[Option.isSome_some,Bool.true_eq_false,if_false] at hc
   have hm:=List.mem_of_getElem? (oM he).1
   obtain⟨h1,h2,h3,h4,h5⟩:=h
   have h6:=h3 e hm
   have hkk:0<=k/\k<=max e.n 0/\k<=max s.n0 0:=by
    split at hc
    ·cases hc
    ·split at hc
     ·cases hc
     ·omega
   exact Ww (B:=B') ⟨h1,h2,fun e he=>by have:=h3 e he;omega,h4,by omega⟩ he (e':=⟨e.id,e.n - k,e.sp+k⟩) rfl (by show(_<=e.n - k/\e.n - k<=_)/\0<=e.sp+k/\e.sp+k<=B';omega) (by omega) (by omega)
theorem VR (h:-2147483647<=n/\n<=2147483647):-2147483647<=Am n b/\Am n b<=2147483647:=by
 unfold Am
 split
 ·rename_i hf
  unfold wK at hf
  simp only[Bool.and_eq_true,decide_eq_true_eq] at hf
  exact hf
 ·exact h
theorem OV (h:-2147483647<=n/\n<=2147483647):-2147483647<=kI n b/\kI n b<=2147483647:=by
 unfold kI
 split
 ·exact VR h
 ·exact h
theorem Aj2 (h:-2147483647<=n/\n<=2147483647):-2147483647<=uL n a b/\uL n a b<=2147483647:=by
 unfold uL
 split
 ·exact VR h
 ·exact h
theorem QM (h:GH B s):GH B (kK t b s):=by
 have h':=h
 obtain⟨h1,h2,h3,h4,h5⟩:=h'
 unfold kK
 split
 ·exact⟨h1,h2,h3,OV h4,h5⟩
 ·cases he:pR t s.l with
  |none=>exact h
  |some e=>
   have h6:=h3 e (List.mem_of_getElem? (oM he).1)
   exact Ww h he (e':=⟨e.id,kI e.n b,e.sp⟩) rfl ⟨OV h6.1,h6.2⟩ h4 h5
theorem MW (h:GH B s):GH B (mO a b s):=by
 obtain⟨h1,h2,h3,h4,h5⟩:=h
 unfold mO
 split
 ·exact⟨h1,h2,h3,h4,h5⟩
 ·refine⟨by rw[List.length_map];exact h1,List.pairwise_map.2 h2,fun e he=>?_,h4,h5⟩
  obtain⟨z,hz,rfl⟩:=List.mem_map.1 he
  exact⟨Aj2 (h3 z hz).1,(h3 z hz).2⟩
end Go.Proofs.YtepnmcipkangkaaGreat
namespace Go.Proofs.YtepnmcipkangkaaGreat
open Go Go.Proofs Go.Sl
attribute [local irreducible] aN fL cL bM aL aR aA dJ dK aU dI pt ro fC star sep bF
attribute [local irreducible] mp DG
variable {R C:List HP} {K:KP} {x mc i b p r t li:Nat} {a:Ca} {s:Cn} {M:Option Addr} {B code k c w o on sg kind B':Int} {gone xx e:Bool} {m m':Sm} {f:Fm} {h3:dR} {z:Yp} {d:ByteArray}
section
def AD (n:Int):Prop:=0<=n/\n<=2147483647
structure FI (B:Int) (m:Sm):Prop where
 id:1<=m.id/\m.id<=2147483647
 ac:L3 m.x<=B
 got:Kq m.y<=B
 ln:(iD m.y:Int)<=B
def tC (t:dR):Prop:=sD t.w t.st t.it=true
def JN (B:Int) (y:Yp):Prop:=y.cap=512/\0<=y.us/\y.us<=y.got/\y.got<=y.gr/\y.gr<=y.us+512/\y.got<=B
structure bO (B:Int) (s:Cn):Prop where
 bb:0<=B/\B<=250000000
 cf:(0<=s.cf.sb/\s.cf.sb<=4096)/\(0<=s.cf.si/\s.cf.si<=64)/\0<=s.cf.sg/\s.cf.sg<=2
 sd:s.sd=0\/s.sd=1
 nx:1<=s.nx/\s.nx<=2147483649/\(s.nx % 2=1↔s.sd=0)
 la:AD s.la
 sm:G6 s.l
 st:∀m∈s.l,FI B m
 ids:∀m∈s.l,gI s.sd s.nx s.la m.id=true
 own:∀b,fQ s b<=32
 tr:NJ s.tr
 pk:K4 (s.pk,s.pc)
 ld:GH B s.ld
 rv:JN B s.rv
 sh:s.sh.l.length<=4/\tC s.sh.h/\tC s.sh.g/\∀t∈s.sh.l,tC t
 pe:AD s.pe.w/\AD s.pe.st/\AD s.pe.it
 bt:(0<=s.bt.no/\s.bt.no<=B)/\(0<=s.bt.he/\s.bt.he<=B)/\(0<=s.bt.si/\s.bt.si<=B)/\0<=s.bt.nn/\s.bt.nn<=B
 sl:(0<=s.sl.nw/\s.sl.nw<=B)/\0<=s.sl.si/\s.sl.si<=B
 ou:Qu s.out
 inb:(s.inb.length:Int)<=B
 now:0<=s.now/\s.now<=B
 mv:(s.mv.length:Int)+s.l.length<=B
variable {id:Int}
theorem Abf {l:List Sm} {t:Int} (h:bX t l=some m):(l.eraseIdx (cI t l)).length+1=l.length:=by
 have:=(List.getElem?_eq_some_iff.1 (aS h).1).1
 rw[List.length_eraseIdx,if_pos this];omega
theorem Bm (h:bO B s) (hm:bX id s.l=some m):bO B (lR id code gone s):=
 { h with
   sm:=Yi h.sm
   st:=fun z hz=>h.st z (List.mem_of_mem_eraseIdx hz)
   ids:=fun z hz=>h.ids z (List.mem_of_mem_eraseIdx hz)
   own:=fun b=>Nat.le_trans ((List.Sublist.filter _ (List.eraseIdx_sublist ..)).length_le) (h.own b)
   tr:=Aho h.tr
   pk:=by
    show K4 ((if sY id s.pk=0 then s.pk else nX id s.pk),s.pc)
    split
    ·exact h.pk
    ·exact Ahg h.pk
   ld:=XK h.ld
   mv:=by
    have h1:=h.mv
    have h2:=Abf hm
    show((s.mv++ [_]).length:Int)+((s.l.eraseIdx (cI id s.l)).length:Int)<=B
    rw[List.length_append,List.length_singleton]
    omega }
theorem BV (h:bO B s) (hm:bX id s.l=some m) (hK:∀M mc,K (.tuple #[]) (cA x a (lR id code gone s) M mc R)):CT 243 #[PO x,I6 id,I6 code,.bool gone] (cA x a s M mc R) K:=by
 have hl:=h.tr.len
 have hmv:=h.mv
 have hB:=h.bb
 dsimp only[cA,nF]
 refine aH Tryz.func243 ?_
 repeat' (first|refine v25 ?_|refine w5 ?_ ?_|((refine bh fun h=>?_) <;> try exact w6 h)|(refine aE fun hA=>?_;subst hA)|intro _|(show aA _ 349 _ _ _;refine CA (h:=Akp h.sm hm (fun _=>?_)))|(show aA _ 350 _ _ _;refine CA (h:=O6 (s:=s.tr) h.tr.kok (by omega) h.tr.w h.tr.nd (fun _=>?_)))|(show aA _ 351 _ _ _;refine CA (h:=Rj ?_))|(show aA _ 352 _ _ _;refine CA (h:=T5 (h.ld.ok (by omega)) (fun _=>?_)))|(show aA _ 194 _ _ _;refine CA (h:=It (x:=x) (a:=a) (s:= { s with l:=s.l.eraseIdx (cI id s.l),tr:=Ar id s.tr,pk:=(if sY id s.pk=0 then s.pk else nX id s.pk),ld:=kU id s.ld }) (M:=M) (mc:=mc) (R:=R) (by show s.mv.length<=1000000000;omega) (fun _ _=>?_))))
 all_goals(refine aC ?_;exact aB (hK _ _))
end
section
variable {id:Int} {y:Yp}
def E3:List (Nat×Nat):= [(0,0),(1,0),(2,0),(3,0),(4,0),(5,0),(6,0),(7,0),(8,0),(9,0),(10,0),(11,0)]
theorem vI (hb:0<=y.us/\y.us<=y.got/\y.got<=900000000) (hk:-900000000<=k/\k<=900000000) (hK:∀v,K v (y9 p (fO y k).cap (fO y k).most (fO y k).gr (fO y k).got (fO y k).us::R)):CT 144 #[PO p,I6 k] (y9 p y.cap y.most y.gr y.got y.us::R) K:=by
 by_cases h:0<=k/\k<=y.got - y.us
 ·unfold fO at hK
  simp only[if_pos h] at hK
  exact J2 h (by omega) (hK _)
 ·unfold fO at hK
  simp only[if_neg h] at hK
  unfold y9 at *
  refine aH Tryz.func144 ?_
  repeat' (first|refine v33 ?_|refine dw E3 ?_|refine w5 ?_ ?_|((refine bh fun h=>?_) <;> try exact w6 h)|(refine aE fun hA=>?_;subst hA)|intro _)
  all_goals(refine aC ?_;exact aB (hK _))
theorem nL (hi:s.l[i]?=some m) (hid:m'.id=m.id):aG (tH b m'::cnH x a s M mc i b R) (cA x a { s with l:=s.l.set i m' } M mc R):=
 aG.trans (fun _ hs=>hs.perm (List.Perm.cons _ (List.perm_middle (l₁:= [_,_])))) (aG.trans (U5 hi hid) (fun _ hs=>hs.perm (List.perm_middle (l₁:= [_,_])).symm))
theorem dF (hi:s.l[i]?=some m):aG (tH b m::cnH x a s M mc i b R) (cA x a s M mc R):=
 aG.trans (fun _ hs=>hs.perm (List.Perm.cons _ (List.perm_middle (l₁:= [_,_])))) (aG.trans (Aj7 hi) (fun _ hs=>hs.perm (List.perm_middle (l₁:= [_,_])).symm))
theorem gF (h:bO B s) (ho:s.dr.ov=false) (hm:bX id s.l=some m) (hK:∀b,K (.tuple #[PO b,I6 0]) (tH b m::cnH x a (aD s) none 0 (cI id s.l) b R)):CT 141 #[PO x,I6 id] (cA x a s M mc R) K:=by
 refine aH Tryz.func141 ?_
 repeat' (first|refine MN ?_|refine w5 ?_ ?_|((refine bh fun h=>?_) <;> try exact w6 h)|(refine aE fun hA=>?_;subst hA)|intro _|(show aA _ 104 _ _ _;refine CA (h:=cG (x:=x) (a:=a) (s:=s) (M:=M) (mc:=mc) (R:=R) ?_);rw[ho,if_neg Bool.false_ne_true])|(show aA _ 126 _ _ _;refine CA (h:=gR (l:=s.l) h.sm hm (fun _=>?_))))
 all_goals(refine aC ?_;exact aB (hK _))
theorem pH (h:bO B s) (he:cH s id≠0) (hK:K (.tuple #[.pointer none,I6 (cH s id)]) (cA x a (aD s) none 0 R)):CT 141 #[PO x,I6 id] (cA x a s M mc R) K:=by
 unfold cH at he hK
 cases ho:s.dr.ov
 ·rw[ho,if_neg Bool.false_ne_true] at he hK
  cases hm:bX id s.l with
  |some m=>rw[hm] at he;exact absurd rfl he
  |none=>
   rw[hm] at he hK
   simp only at he hK
   cases hp:vH s id
   ·rw[hp,if_neg Bool.false_ne_true] at hK
    refine aH Tryz.func141 ?_
    repeat' (first|refine MN ?_|refine w5 ?_ ?_|((refine bh fun h=>?_) <;> try exact w6 h)|(refine aE fun hA=>?_;subst hA)|intro _|(show aA _ 104 _ _ _;refine CA (h:=cG (x:=x) (a:=a) (s:=s) (M:=M) (mc:=mc) (R:=R) ?_);rw[ho,if_neg Bool.false_ne_true])|(show aA _ 126 _ _ _;refine CA (h:=oU (l:=s.l) h.sm hm ?_))|(show aA _ 236 _ _ _;refine CA (h:=Dm (sd:=s.sd) (nx:=s.nx) (la:=s.la) ?_);rw[show gI s.sd s.nx s.la id=false from hp]))
    all_goals(refine aC ?_;exact aB (hK))
   ·rw[hp,if_pos rfl] at hK
    refine aH Tryz.func141 ?_
    repeat' (first|refine MN ?_|refine w5 ?_ ?_|((refine bh fun h=>?_) <;> try exact w6 h)|(refine aE fun hA=>?_;subst hA)|intro _|(show aA _ 104 _ _ _;refine CA (h:=cG (x:=x) (a:=a) (s:=s) (M:=M) (mc:=mc) (R:=R) ?_);rw[ho,if_neg Bool.false_ne_true])|(show aA _ 126 _ _ _;refine CA (h:=oU (l:=s.l) h.sm hm ?_))|(show aA _ 236 _ _ _;refine CA (h:=Dm (sd:=s.sd) (nx:=s.nx) (la:=s.la) ?_);rw[show gI s.sd s.nx s.la id=true from hp]))
    all_goals(refine aC ?_;exact aB (hK))
 ·rw[ho,if_pos rfl] at hK
  refine aH Tryz.func141 ?_
  repeat' (first|refine MN ?_|refine w5 ?_ ?_|((refine bh fun h=>?_) <;> try exact w6 h)|(refine aE fun hA=>?_;subst hA)|intro _|(show aA _ 104 _ _ _;refine CA (h:=cG (x:=x) (a:=a) (s:=s) (M:=M) (mc:=mc) (R:=R) ?_);rw[ho,if_pos rfl]))
  all_goals(refine aC ?_;exact aB (hK))
theorem mD (hi:s.l[i]?=some m) (hid:m'.id=m.id) (h:bO B { s with l:=s.l.set i m' }) (hm:bX m'.id (s.l.set i m')=some m') (hK:∀M mc,K (.tuple #[]) (cA x a (lJ m' { s with l:=s.l.set i m' }) M mc R)):CT 146 #[PO x,PO b] (tH b m'::cnH x a s M mc i b R) K:=by
 cases hg:Jo m'
 ·have e:∀s,lJ m' s=s:=fun s=>by unfold lJ;rw[hg,if_neg Bool.false_ne_true]
  rw[e] at hK
  refine aH Tryz.func146 ?_
  repeat' (first|refine v0 ?_|refine w5 ?_ ?_|((refine bh fun h=>?_) <;> try exact w6 h)|(refine aE fun hA=>?_;subst hA)|intro _|(show aA _ 242 _ _ _;refine CA (h:=Ls (m:=m') ?_);rw[hg]))
  all_goals(refine aC ?_;exact aM (aG.trans (by exact aY) ((nL (x:=x) (a:=a) (M:=M) (mc:=mc) (R:=R) (b:=b) hi hid))) (hK _ _))
 ·have e:∀s,lJ m' s=lR m'.id 0 true s:=fun s=>by unfold lJ;rw[hg,if_pos rfl]
  rw[e] at hK
  refine aH Tryz.func146 ?_
  repeat' (first|refine v0 ?_|refine w5 ?_ ?_|((refine bh fun h=>?_) <;> try exact w6 h)|(refine aE fun hA=>?_;subst hA)|intro _|(show aA _ 242 _ _ _;refine CA (h:=Ls (m:=m') ?_);rw[hg])|(show aA _ 244 _ _ _;refine CA (h:=NE (m:=m') ?_))|(show aA _ 243 _ _ _;refine CA (h:=aA.ent (nL (x:=x) (a:=a) (M:=M) (mc:=mc) (R:=R) (b:=b) hi hid) (BV h hm (fun _ _=>?_)))))
  all_goals(refine aC ?_;exact aB (hK _ _))
theorem FU {l:List Sm}:bX m.id (m::l)=some m:=by
 unfold bX cI
 rw[List.takeWhile_cons]
 simp
theorem Aav:(lR id code gone s).l=s.l.eraseIdx (cI id s.l):=rfl
theorem Fy {l:List Sm} (h:s.l=m::l):(lR m.id code gone s).l=l:=by
 rw[Aav,h]
 unfold cI
 rw[List.takeWhile_cons]
 simp
theorem F4:∀ {l:List Sm} {s:Cn},s.l=l->bO B s->bO B (qN code (l.map Sm.id) s)/\(qN code (l.map Sm.id) s).l= []
 | [],s,he,h=>⟨h,he⟩
 |m::l,s,he,h=>by
  have hm:bX m.id s.l=some m:=by rw[he];exact FU
  exact F4 (s:=lR m.id code false s) (l:=l) (Fy he) (Bm h hm)
theorem No:Qu []:=⟨by decide,fun y hy=>by cases hy⟩
theorem LV (h:bO B s):bO B (uZ s):=
 { (F4 (code:=s.dr.co) rfl h).1 with ou:=No }
theorem JH (h:bO B s) (hK:∀M mc,K (.tuple #[]) (cA x a (uZ s) M mc R)):CT 219 #[PO x] (cA x a s M mc R) K:=by
 have h64:=h.sm.1
 have hlm:(s.l.map Sm.id).length=s.l.length:=List.length_map ..
 unfold uZ at hK
 refine aH Tryz.func219 ?_
 repeat' (first|refine v45 ?_|refine w5 ?_ ?_|((refine bh fun h=>?_) <;> try exact w6 h)|(refine aE fun hA=>?_;subst hA)|intro _|(show aA _ 59 _ _ _;refine CA (h:=JQ (d:=s.dr) ?_))|(show aA _ 125 _ _ _;refine CA (h:=M6 (l:=s.l) h.sm (fun Bq dq=>?_))))
 refine jA (fun n a' C'=>∃(j:Nat) (s':Cn) (M':Option Addr) (mc':Nat),j+n=s.l.length/\s'.l=s.l.drop j/\bO B s'/\qN s.dr.co ((s.l.drop j).map Sm.id) s'=qN s.dr.co (s.l.map Sm.id) s/\dH a' [(0,PO x),(3,I6 s.dr.co),(18,.slice Bq (s.l.map Sm.id).length dq),(19,I6 s.l.length),(20,I6 j)]/\C'=bT Bq dq 3 k8 (s.l.map Sm.id)::cA x a s' M' mc' R) s.l.length (cJ s.l.length ⟨0,s,M,mc,by omega,rfl,h,rfl,⟨rfl,rfl,rfl,(by simp;rfl),rfl,trivial⟩,rfl⟩ (by omega)) ?_
 rintro n a' C' ⟨j,s',M',mc',hj,hl,h',hc,ha,rfl⟩
 refine i6 _ ha ?_
 simp only[gJ]
 by_cases hlt:j<s.l.length
 ·obtain⟨m,hm,hd⟩:=lS (l:=s.l) (j:=j) hlt
  rw[hd] at hl hc
  have hat:bX m.id s'.l=some m:=by rw[hl];exact FU
  have hv:(s.l.map Sm.id)[((j:Nat):Int).toNat]?=some m.id:=by rw[Int.toNat_natCast,List.getElem?_map,hm];rfl
  repeat' (first|refine v45 ?_|refine w5 ?_ ?_|((refine bh fun h=>?_) <;> try exact w6 h)|(refine aE fun hA=>?_;subst hA)|intro _|(show aA _ 243 _ _ _;refine CA (h:=BV h' hat (fun _ _=>?_))))
  all_goals(show aU _ _ _ _;exact cJ (n - 1) ⟨j+1,lR m.id s.dr.co false s',_,_,by omega,Fy hl,Bm h' hat,hc,⟨rfl,rfl,rfl,rfl,rfl,trivial⟩,rfl⟩)
 ·have hj0:j=s.l.length:=by omega
  subst hj0
  rw[List.drop_length] at hc hl
  have hc:s'=qN s.dr.co (s.l.map Sm.id) s:=hc
  subst hc
  repeat' (first|refine v45 ?_|refine w5 ?_ ?_|((refine bh fun h=>?_) <;> try exact w6 h)|(refine aE fun hA=>?_;subst hA)|intro _|(show aA _ 311 _ _ _;refine CA (h:=UN (fun _=>?_))))
  all_goals(refine aC ?_;exact aB (hK _ _))
end
section
variable {id la st:Int}
theorem Ac0 (hl:AD la) (hc:AD c):bR (zZ la c):=by
 have h1:=(oW la).2 hl
 have h2:=(oW c).2 hc
 have h3:G5 0=true:=by decide
 have h4:Kh []=true:=Af4 rfl
 have h5:(⟨#[]⟩:ByteArray)=ByteArray.empty:=rfl
 unfold bR sK zZ
 simp[h1,h2,h3,h4,h5,CU]
theorem jN (h:bO B s):bO B (iM w o s):=
 LV (s:= { s with dr:=vY s.dr (i0 w o),last:=xK (zZ s.la (i0 w o)) }) { h with }
def De:Tr:=(.br (.st 1 1 (.st 2 1 (.st 3 1 (.st 4 1 (.st 5 2 (.br (.st 0 2 (.st 6 2 (.st 10 3 (.st 7 1 (.st 8 1 (.st 11 1 (.st 9 2 (.st 12 0 .nil)))))))) (.st 10 3 (.st 0 2 (.st 6 2 (.st 7 1 (.st 8 1 (.st 11 1 (.st 9 2 (.st 12 0 .nil)))))))))))))) (.st 10 3 (.st 1 1 (.st 2 1 (.st 3 1 (.st 4 1 (.st 5 2 (.st 0 2 (.st 6 2 (.st 7 1 (.st 8 1 (.st 11 1 (.st 9 2 (.st 12 0 .nil))))))))))))))
def Dl:List (Nat×Nat):= [(0,0),(1,0),(2,0),(3,0),(4,0),(5,0),(6,1)]
theorem dQ (h:bO B s) (hw:0<=w/\w<=20) (ht:Kv w=true) (hK:∀M mc,K (.tuple #[]) (cA x a (iM w o s) M mc R)):CT 118 #[PO x,.agg #[I6 w,I6 st,I6 o]] (cA x a s M mc R) K:=by
 have hla:=h.la
 have hc:=KY (o:=o) hw
 have hr:=Ac0 hla (c:=i0 w o) ⟨by omega,by omega⟩
 unfold AD at hla
 dsimp only[cA,nF]
 refine aH Tryz.func118 ?_
 repeat' (first|refine v31 ?_|refine Sf De ?_|refine dw Dl ?_|refine w5 ?_ ?_|((refine bh fun h=>?_) <;> try exact w6 h)|(refine aE fun hA=>?_;subst hA)|intro _|(show aA _ 148 _ _ _;refine CA (h:=DJ ?_))|(show aA _ 217 _ _ _;refine CA (h:=Aje hw ht hla ?_))|(show aA _ 218 _ _ _;refine CA (h:=Ab4 (d:=s.dr) ?_))|(show aA _ 198 _ _ _;refine CA (h:=Qe (ps:= []) (show sK 9 0 false ⟨#[]⟩ 0 0 0 false (i0 w o) s.la 0 [] from hr) eM rfl ?_))|(show aA _ 219 _ _ _;refine CA (h:=JH (x:=x) (a:=a) (s:= { s with dr:=vY s.dr (i0 w o),last:=xK (zZ s.la (i0 w o)) }) (M:=M) (mc:=mc) (R:=R) (B:=B) { h with } (fun _ _=>?_))))
 all_goals(refine aC ?_;exact aB (hK _ _))
theorem Gs {out:List Fm} (h:Qu out):Qu (wL f out):=by
 obtain⟨h1,h2⟩:=h
 unfold wL
 split
 ·exact⟨h1,h2⟩
 ·rename_i he
  have he:zA f out=0:=Classical.byContradiction he
  unfold zA at he
  split at he
  ·cases he
  ·rename_i hc
   have hc:lZ f=true:=by cases hq:lZ f <;> first|exact absurd hq hc|rfl
   have hn:=HE hc
   split at he
   ·cases he
   ·split at he
    ·rename_i hlt
     cases hy:out[t8 f out]? with
     |none=>exact absurd (List.getElem?_eq_none_iff.1 hy) (by omega)
     |some y=>
      refine⟨by simp only[List.length_set];exact h1,fun z hz=>?_⟩
      rcases List.mem_or_eq_of_mem_set hz with hz|rfl
      ·exact h2 z hz
      ·have:=h2 y (List.mem_of_getElem? hy)
       show 0<=y.n+f.n
       omega
    ·rename_i hlt
     split at he
     ·cases he
     ·have hy:out[t8 f out]?=none:=List.getElem?_eq_none_iff.2 (by omega)
      rw[hy]
      refine⟨by simp only[List.length_append,List.length_singleton];omega,fun z hz=>?_⟩
      rcases List.mem_append.1 hz with hz|hz
      ·exact h2 z hz
      ·rw[List.mem_singleton.1 hz];exact hn.1
theorem IC (h:bO B s):bO B (nC f s):=by
 unfold nC
 split
 ·exact { h with ou:=Gs h.ou }
 ·exact jN h
def vN:List (Nat×Nat):= [(0,0),(1,0),(2,0),(3,0),(4,0),(5,1),(6,0)]
theorem Ce (h:bO B s) (hp:f.pa=none) (hp0:f.ps= []) (Fw:f.pn=0) (hK:∀M mc,K (.tuple #[]) (cA x a (nC f s) M mc R)):CT 209 #[PO x,.agg #[I6 f.t,I6 f.st,.bool f.e,.string f.d,I6 f.k,I6 f.on,I6 f.w,.bool f.x,I6 f.c,I6 f.la,I6 f.n,.slice f.pa f.pn f.pc]] (cA x a s M mc R) K:=by
 unfold nC at hK
 by_cases he:zA f s.out=0
 ·rw[if_pos he] at hK
  dsimp only[cA,nF]
  refine aH Tryz.func209 ?_
  repeat' (first|refine v46 ?_|refine dw vN ?_|refine w5 ?_ ?_|((refine bh fun h=>?_) <;> try exact w6 h)|(refine aE fun hA=>?_;subst hA)|intro _|(show aA _ 100 _ _ _;refine CA (h:=k9 (f:=f) h.ou (by rw[hp0];exact eM) (by rw[hp0,Fw];rfl) (by rw[Fw];decide) ?_);rw[he]))
  all_goals(refine aC ?_;exact aB (hK _ _))
 ·rw[if_neg he] at hK
  have hou:wL f s.out=s.out:=by unfold wL;rw[if_pos he]
  dsimp only[cA,nF]
  refine aH Tryz.func209 ?_
  repeat' (first|(show Br _ _ _;refine Br.t (by simpa using he) ?_)|refine v46 ?_|refine dw vN ?_|refine w5 ?_ ?_|((refine bh fun h=>?_) <;> try exact w6 h)|(refine aE fun hA=>?_;subst hA)|intro _|(show aA _ 100 _ _ _;refine CA (h:=k9 (f:=f) h.ou (by rw[hp0];exact eM) (by rw[hp0,Fw];rfl) (by rw[Fw];decide) ?_);rw[hou])|(show aA _ 118 _ _ _;refine CA (h:=dQ (x:=x) (a:=a) (s:=s) h (by decide) (by decide) (fun _ _=>?_))))
  all_goals(refine aC ?_;exact aB (hK _ _))
end
section
variable {id la st:Int} {y:Ys} {l:List Sm}
def smR (b r:Nat) (m:Sm):HP:=fC fun li=>fC fun t=>sep (pt b [PO li,PO t,PO r,I6 m.id,.bool m.own] 223) (sep (qU li m.sta) (sep (BX t m.x) (bF (xV m))))
def smT (b t:Nat) (m:Sm):HP:=fC fun li=>fC fun r=>sep (pt b [PO li,PO t,PO r,I6 m.id,.bool m.own] 223) (sep (qU li m.sta) (sep (Cs r m.y) (bF (xV m))))
theorem Z9 (h:xV m):aG (Cs r m.y::pt b [PO li,PO t,PO r,I6 m.id,.bool m.own] 223::qU li m.sta::BX t m.x::R) (Cs r m.y::smR b r m::R):=
 aG.cons (aG.ex li (aG.ex t (sN h)))
theorem Aed (h:xV m):aG (BX t m.x::pt b [PO li,PO t,PO r,I6 m.id,.bool m.own] 223::qU li m.sta::Cs r m.y::R) (BX t m.x::smT b t m::R):=
 aG.cons (aG.ex li (aG.ex r (sN h)))
theorem Vv {f:FuncId} {args:Array Value} (h:xV m->CT f args (tH b m::R) K):CT f args (tH b m::R) K:=
 nM fun _ _ _ hok=>aA.ent (cS hok) (h hok)
theorem o9 (hK:∀r,K (PO r) (Cs r m.y::smR b r m::R)):CT 63 #[PO b] (tH b m::R) K:=by
 refine nM fun li t r h=>?_
 refine aH Tryz.func63 ?_
 repeat' (first|refine v4 ?_|refine w5 ?_ ?_|((refine bh fun h=>?_) <;> try exact w6 h)|(refine aE fun hA=>?_;subst hA)|intro _)
 (refine aC ?_;exact aM (aG.trans (by exact aY) ((Z9 h))) (hK _))
theorem OJ (hK:∀t,K (PO t) (BX t m.x::smT b t m::R)):CT 42 #[PO b] (tH b m::R) K:=by
 refine nM fun li t r h=>?_
 refine aH Tryz.func42 ?_
 repeat' (first|refine v4 ?_|refine w5 ?_ ?_|((refine bh fun h=>?_) <;> try exact w6 h)|(refine aE fun hA=>?_;subst hA)|intro _)
 (refine aC ?_;exact aM (aG.trans (by exact aY) ((Aed h))) (hK _))
theorem lX (hy:jZ y=jZ m.y):aG (Cs r y::smR b r m::R) (tH b { m with y:=y }::R):=fun H hs=>by
 have hs:=bZ.swap hs
 obtain⟨li,hs⟩:=hs.ex
 obtain⟨t,hs⟩:=hs.ex
 obtain⟨hok,hs⟩:=(tI H hs).pure
 have hok':xV { m with y:=y }:=⟨hok.1.trans hy.symm,hok.2⟩
 exact cS (li:=li) (t:=t) (r:=r) hok' H hs
theorem JK {z:Xs} (hy:bA z=bA m.x):aG (BX t z::smT b t m::R) (tH b { m with x:=z }::R):=fun H hs=>by
 have hs:=bZ.swap hs
 obtain⟨li,hs⟩:=hs.ex
 obtain⟨r,hs⟩:=hs.ex
 obtain⟨hok,hs⟩:=(tI H hs).pure
 have hok':xV { m with x:=z }:=⟨hy.trans hok.1,hok.2⟩
 exact cS (li:=li) (t:=t) (r:=r) hok' H (hs.perm (List.Perm.cons _ (List.Perm.cons _ (List.Perm.swap _ _ _))))
theorem JP {t:Int}:∀l:List Sm,cI t l=((l.map Sm.id).takeWhile fun k=>decide (k<t)).length
 | []=>rfl
 |e::r=>by
  have ih:=JP (t:=t) r
  unfold cI at ih ⊢
  rw[List.map_cons,List.takeWhile_cons,List.takeWhile_cons]
  split
  ·rw[List.length_cons,List.length_cons,ih]
  ·rfl
theorem Dk (hi:l[i]?=some m) (hid:m'.id=m.id):(l.set i m').map Sm.id=l.map Sm.id:=by
 rw[List.map_set,hid]
 exact lB i (by rw[List.getElem?_map,hi];rfl)
theorem PY {t:Int} (hi:l[i]?=some m) (hid:m'.id=m.id):cI t (l.set i m')=cI t l:=by
 rw[JP,JP,Dk hi hid]
theorem m7 (hm:bX id l=some m) (hid:m'.id=m.id):bX m'.id (l.set (cI id l) m')=some m':=by
 obtain⟨h1,h2⟩:=aS hm
 have hlt:=(List.getElem?_eq_some_iff.1 h1).1
 unfold bX
 rw[PY h1 hid,hid,h2,List.getElem?_set_self hlt]
 simp only[hid,h2,if_true]
theorem XQ (hm:bX id l=some m) (hid:m'.id=m.id):(l.set (cI id l) m').eraseIdx (cI m.id (l.set (cI id l) m'))=l.eraseIdx (cI m.id l):=by
 obtain⟨h1,h2⟩:=aS hm
 rw[PY h1 hid,h2,List.eraseIdx_set_eq]
theorem pA {b:Bool}:∀l:List Sm,(l.filter fun m=>m.own == b).length=((l.map Sm.own).filter fun q=>q == b).length
 | []=>rfl
 |m::l=>by
  rw[List.map_cons,List.filter_cons,List.filter_cons]
  split
  ·rw[List.length_cons,List.length_cons,pA l]
  ·exact pA l
theorem Ns {b:Bool} (hi:l[i]?=some m) (ho:m'.own=m.own):((l.set i m').filter fun m=>m.own == b).length=(l.filter fun m=>m.own == b).length:=by
 rw[pA,pA,List.map_set,ho,lB i (by rw[List.getElem?_map,hi];rfl)]
theorem mN (h:bO B s) (hi:s.l[i]?=some m) (hid:m'.id=m.id) (ho:m'.own=m.own) (hm:FI B m'):bO B { s with l:=s.l.set i m' }:=
 { h with
   sm:=Ali h.sm hi hid
   st:=fun z hz=>by
    rcases List.mem_or_eq_of_mem_set hz with hz|rfl
    ·exact h.st z hz
    ·exact hm
   ids:=fun z hz=>by
    rcases List.mem_or_eq_of_mem_set hz with hz|rfl
    ·exact h.ids z hz
    ·have:=h.ids m (List.mem_of_getElem? hi)
     show gI s.sd s.nx s.la z.id=true
     rw[hid];exact this
   own:=fun b=>by
    show((s.l.set i m').filter fun m=>m.own == b).length<=32
    rw[Ns hi ho];exact h.own b
   mv:=by
    have:=h.mv
    show(s.mv.length:Int)+((s.l.set i m').length:Int)<=B
    rw[List.length_set];exact this }
theorem Ajh {y:Yp} (h:JN B y):JN B (fO y k):=by
 unfold JN at h
 unfold fO
 split
 ·unfold JN;dsimp only;omega
 ·exact h
theorem rN (h:bO B s):bO B { s with rv:=fO s.rv k }:= { h with rv:=Ajh h.rv }
theorem Af7 (h:FI B m):FI B (CG m):=by
 obtain⟨h1,h2,h3,h4⟩:=h
 unfold CG
 split
 ·refine⟨h1,?_,?_,?_⟩
  ·cases hx:m.x <;> rw[hx] at h2 <;> exact h2
  ·cases hy:m.y <;> rw[hy] at h3 <;> exact h3
  ·cases hy:m.y <;> (rw[hy] at h4;simp only[EK,iD,List.length_nil] at h4 ⊢;omega)
 ·exact⟨h1,h2,h3,h4⟩
theorem Ai2 (h:FI B m):FI B { m with y:=EK m.y }:=by
 obtain⟨h1,h2,h3,h4⟩:=h
 refine⟨h1,h2,?_,?_⟩
 ·cases hy:m.y <;> rw[hy] at h3 <;> exact h3
 ·cases hy:m.y <;> (rw[hy] at h4;simp only[EK,iD,List.length_nil] at h4 ⊢;omega)
theorem Agw:(CG m).id=m.id:=by unfold CG;split <;> rfl
theorem WE:(CG m).own=m.own:=by unfold CG;split <;> rfl
theorem Alt:bA (CG m).x=bA m.x:=by
 unfold CG
 split
 ·cases hx:m.x <;> simp only[Ag8] <;> rfl
 ·rfl
theorem Aoo:jZ (EK y)=jZ y:=by cases y <;> rfl
theorem Aoy (hok:xV m) (h1:bA m.x=1):Kx m+(iD (CG m).y:Nat)=(iD m.y:Nat):=by
 have h2:=hok.1
 rw[h1] at h2
 cases hy:m.y with
 |i z=>rw[hy] at h2;cases h2
 |b z=>
  unfold Kx CG
  split
  ·rw[hy];simp[EK,iD]
  ·rw[hy];simp
theorem Anm (hok:xV m) (h1:bA m.x≠1):Kx m=0:=by
 have h2:=hok.1
 cases hy:m.y with
 |b z=>rw[hy] at h2;exact absurd h2 h1
 |i z=>
  unfold Kx
  rw[hy]
  split <;> rfl
theorem QO (hm:bX id s.l=some m) (hid:m'.id=m.id):lR m'.id code gone { s with l:=s.l.set (cI id s.l) m' }=lR m.id code gone s:=by
 unfold lR
 dsimp only
 rw[hid,XQ hm hid]
theorem tJ (h:bO B s) (hm:bX id s.l=some m):bO B (qF m code s):=by
 have h2:=(aS hm).2
 have h1:bX m.id s.l=some m:=by rw[h2];exact hm
 exact Bm (rN h) (id:=m.id) (m:=m) h1
theorem Cj {ev:Int} (h:bO B s) (hm:bX id s.l=some m) (he:ev=4\/ev=5) (hK:∀M mc,K (.tuple #[]) (cA x a (qF m code s) M mc R)):CT 250 #[PO x,PO b,I6 ev,I6 code] (tH b m::cnH x a s M mc (cI id s.l) b R) K:=by
 refine Vv fun hok=>?_
 obtain⟨hi,hmid⟩:=aS hm
 have hI:=h.st m (List.mem_of_getElem? hi)
 have hln:=hI.ln
 have hB:=h.bb
 have hrv:=h.rv
 unfold JN at hrv
 unfold qF at hK
 by_cases h1:bA m.x=1
 ·rw[if_pos h1] at hK
  have hn:=Aoy hok h1
  have hid2:({ CG m with y:=EK (CG m).y }:Sm).id=m.id:=Agw
  have hI2:bO B { { s with rv:=fO s.rv (iD m.y:Nat) } with l:=s.l.set (cI id s.l) { CG m with y:=EK (CG m).y } }:=mN (s:= { s with rv:=fO s.rv (iD m.y:Nat) }) (rN h) hi hid2 WE (Ai2 (Af7 hI))
  have hK':=hK
  rw[<- QO (s:= { s with rv:=fO s.rv (iD m.y:Nat) }) (m:=m) (m':= { CG m with y:=EK (CG m).y }) (id:=id) hm hid2] at hK'
  have h0:0<=Kx m/\Kx m<=iD m.y:=by
   unfold Kx
   split
   ·cases hy:m.y with
    |b z=>simp[iD]
    |i z=>simp[iD]
   ·omega
  dsimp only[cnH,nF]
  refine aH Tryz.func250 ?_
  repeat' (first|refine GF ?_|refine w5 ?_ ?_|((refine bh fun h=>?_) <;> try exact w6 h)|(refine aE fun hA=>?_;subst hA)|intro _|(show aA _ 358 _ _ _;refine CA (h:=Pj (m:=m) he ?_))|(show aA _ 70 _ _ _;refine CA (h:=jX (m:=CG m) ?_);rw[Alt,h1])|(show aA _ 63 _ _ _;refine CA (h:=o9 (m:=CG m) (fun _=>?_)))|(show aA _ 359 _ _ _;refine CA (h:=Aie (y:=(CG m).y) ?_))|(show aA _ 144 _ _ _;rw[hn];refine CA (h:=vI (y:=s.rv) (by omega) (by omega) (fun _=>?_)))|(show aA _ 244 _ _ _;refine CA (h:=aA.ent (lX Aoo) (NE (m:= { CG m with y:=EK (CG m).y }) ?_)))|(show aA _ 243 _ _ _;refine CA (h:=aA.ent (nL (x:=x) (a:=a) (s:= { s with rv:=fO s.rv (iD m.y:Nat) }) (M:=M) (mc:=mc) (R:=R) (b:=b) (m':= { CG m with y:=EK (CG m).y }) hi hid2) (BV hI2 (m7 hm hid2) (fun _ _=>?_)))))
  all_goals(refine aC ?_;exact aB (hK' _ _))
 ·rw[if_neg h1] at hK
  have hn:=Anm hok h1
  have hid2:(CG m).id=m.id:=Agw
  have hI2:bO B { { s with rv:=fO s.rv 0 } with l:=s.l.set (cI id s.l) (CG m) }:=mN (s:= { s with rv:=fO s.rv 0 }) (rN h) hi hid2 WE (Af7 hI)
  have hK':=hK
  rw[<- QO (s:= { s with rv:=fO s.rv 0 }) (m:=m) (m':=CG m) (id:=id) hm hid2] at hK'
  have hk1:bA (CG m).x≠1:=by rw[Alt];exact h1
  dsimp only[cnH,nF]
  refine aH Tryz.func250 ?_
  repeat' (first|(show Br _ _ _;refine Br.f (by simpa using hk1) ?_)|refine GF ?_|refine w5 ?_ ?_|((refine bh fun h=>?_) <;> try exact w6 h)|(refine aE fun hA=>?_;subst hA)|intro _|(show aA _ 358 _ _ _;refine CA (h:=Pj (m:=m) he ?_);rw[hn])|(show aA _ 70 _ _ _;refine CA (h:=jX (m:=CG m) ?_))|(show aA _ 144 _ _ _;refine CA (h:=vI (y:=s.rv) (by omega) (by omega) (fun _=>?_)))|(show aA _ 244 _ _ _;refine CA (h:=NE (m:=CG m) ?_))|(show aA _ 243 _ _ _;refine CA (h:=aA.ent (nL (x:=x) (a:=a) (s:= { s with rv:=fO s.rv 0 }) (M:=M) (mc:=mc) (R:=R) (b:=b) (m':=CG m) hi hid2) (BV hI2 (m7 hm hid2) (fun _ _=>?_)))))
  all_goals(refine aC ?_;exact aB (hK' _ _))
end
section
variable {id la st:Int} {own:Bool} {y:Ys} {l:List Sm} {cf:Cf}
theorem sX (h:bO B s):bO B (i8 w st s):=by
 unfold i8
 split
 ·exact jN h
 ·refine IC ?_
  cases hm:bX st s.l with
  |none=>exact h
  |some m=>exact tJ h hm
def nU:List (Nat×Nat):= [(0,0),(1,0),(2,0),(3,0),(4,0),(5,0),(6,1),(7,0),(8,0),(9,0),(10,0),(11,0)]
theorem kL (h:bO B s) (hw:0<=w/\w<=20) (hst:1<=st/\st<=2147483647) (hK:∀M mc,K (.tuple #[]) (cA x a (i8 w st s) M mc R)):CT 302 #[PO x,.agg #[I6 w,I6 st,I6 0]] (cA x a s M mc R) K:=by
 unfold i8 at hK
 cases ht:Kv w
 ·rw[ht,if_neg Bool.false_ne_true] at hK
  cases hm:bX st s.l with
  |none=>
   rw[hm] at hK
   dsimp only[cA,nF]
   refine aH Tryz.func302 ?_
   repeat' (first|refine v31 ?_|refine dw nU ?_|refine w5 ?_ ?_|((refine bh fun h=>?_) <;> try exact w6 h)|(refine aE fun hA=>?_;subst hA)|intro _|(show aA _ 309 _ _ _;refine CA (h:=xU hw ?_);rw[ht])|(show aA _ 217 _ _ _;refine CA (h:=Ws hw ht hst ?_))|(show aA _ 126 _ _ _;refine CA (h:=oU (l:=s.l) h.sm hm ?_))|(show aA _ 209 _ _ _;refine CA (h:=Ce (x:=x) (a:=a) (s:=s) (M:=M) (mc:=mc) (R:=R) (f:=fM st (i0 w 0)) h rfl rfl rfl (fun _ _=>?_))))
   all_goals(refine aC ?_;exact aB (hK _ _))
  |some m=>
   rw[hm] at hK
   dsimp only[cA,nF]
   refine aH Tryz.func302 ?_
   repeat' (first|refine v31 ?_|refine dw nU ?_|refine w5 ?_ ?_|((refine bh fun h=>?_) <;> try exact w6 h)|(refine aE fun hA=>?_;subst hA)|intro _|(show aA _ 309 _ _ _;refine CA (h:=xU hw ?_);rw[ht])|(show aA _ 217 _ _ _;refine CA (h:=Ws hw ht hst ?_))|(show aA _ 126 _ _ _;refine CA (h:=gR (l:=s.l) h.sm hm (fun _=>?_)))|(show aA _ 250 _ _ _;refine CA (h:=Cj (x:=x) (a:=a) (s:=s) (M:=M) (mc:=mc) (m:=m) h hm (.inl rfl) (fun _ _=>?_)))|(show aA _ 209 _ _ _;refine CA (h:=Ce (x:=x) (a:=a) (s:=qF m (i0 w 0) s) (f:=fM st (i0 w 0)) (tJ h hm) rfl rfl rfl (fun _ _=>?_))))
   all_goals(refine aC ?_;exact aB (hK _ _))
 ·rw[ht,if_pos rfl] at hK
  refine aH Tryz.func302 ?_
  repeat' (first|refine v31 ?_|refine dw nU ?_|refine w5 ?_ ?_|((refine bh fun h=>?_) <;> try exact w6 h)|(refine aE fun hA=>?_;subst hA)|intro _|(show aA _ 309 _ _ _;refine CA (h:=xU hw ?_);rw[ht])|(show aA _ 118 _ _ _;refine CA (h:=dQ (x:=x) (a:=a) (s:=s) h hw ht (fun _ _=>?_))))
  all_goals(refine aC ?_;exact aB (hK _ _))
theorem qK {n m:Nat} {I:Nat->Fr->List HP->Prop} {a:Fr} {C':List HP} (hm:m<n) (he:aG C C') (hi:I m a C'):aU n I a C:=cJ m hi hm he
theorem tB (hI:bO B s) (hK:K (I6 (fQ s own:Nat)) (cA x a s M mc R)):CT 61 #[PO x,.bool own] (cA x a s M mc R) K:=by
 have h64:=hI.sm.1
 refine aH Tryz.func61 ?_
 repeat' (first|refine GF ?_|refine w5 ?_ ?_|((refine bh fun h=>?_) <;> try exact w6 h)|(refine aE fun hA=>?_;subst hA)|intro _|(show aA _ 60 _ _ _;refine CA (h:=Ad (l:=s.l) ?_)))
 refine jA (fun n a' C'=>∃(j q:Nat),j+n=s.l.length/\q<=j/\q+((s.l.drop j).filter fun m=>m.own == own).length=fQ s own/\dH a' [(0,PO x),(1,.bool own),(5,I6 q),(14,I6 s.l.length),(15,I6 j)]/\C'=cA x a s M mc R) s.l.length (cJ s.l.length ⟨0,0,by omega,by omega,by unfold fQ;simp,⟨rfl,rfl,rfl,rfl,rfl,trivial⟩,rfl⟩ (by omega)) ?_
 rintro n a' C' ⟨j,q,hj,hq,hc,ha,rfl⟩
 refine i6 _ ha ?_
 simp only[gJ]
 by_cases hlt:j<s.l.length
 ·obtain⟨m,hm,hd⟩:=lS (l:=s.l) (j:=j) hlt
  rw[hd,List.filter_cons] at hc
  cases ho:(m.own == own)
  ·rw[ho,if_neg Bool.false_ne_true] at hc
   have hne:m.own≠own:=by simpa using ho
   repeat' (first|(show Br _ _ _;refine Br.f (by simpa using hne) ?_)|refine GF ?_|refine w5 ?_ ?_|((refine bh fun h=>?_) <;> try exact w6 h)|(refine aE fun hA=>?_;subst hA)|intro _|(show aA _ 62 _ _ _;refine CA (h:=FM (l:=s.l) hI.sm hm (fun _=>?_)))|(show aA _ 156 _ _ _;refine CA (h:=BC (m:=m) ?_)))
   all_goals(show aU _ _ _ _;exact qK (m:=n - 1) (by omega) (aG.trans (by exact aY) (dF (x:=x) (a:=a) (s:=s) (M:=M) (mc:=mc) (R:=R) hm)) ⟨j+1,q,by omega,by omega,hc,⟨rfl,rfl,rfl,rfl,rfl,trivial⟩,rfl⟩)
  ·rw[ho,if_pos rfl,List.length_cons] at hc
   have hne:m.own=own:=by simpa using ho
   repeat' (first|(show Br _ _ _;refine Br.t (by simpa using hne) ?_)|refine GF ?_|refine w5 ?_ ?_|((refine bh fun h=>?_) <;> try exact w6 h)|(refine aE fun hA=>?_;subst hA)|intro _|(show aA _ 62 _ _ _;refine CA (h:=FM (l:=s.l) hI.sm hm (fun _=>?_)))|(show aA _ 156 _ _ _;refine CA (h:=BC (m:=m) ?_)))
   all_goals(show aU _ _ _ _;exact qK (m:=n - 1) (by omega) (aG.trans (by exact aY) (dF (x:=x) (a:=a) (s:=s) (M:=M) (mc:=mc) (R:=R) hm)) ⟨j+1,q+1,by omega,by omega,by omega,⟨rfl,rfl,rfl,rfl,rfl,trivial⟩,rfl⟩)
 ·have hj0:j=s.l.length:=by omega
  subst hj0
  rw[List.drop_length] at hc
  have hc:q=fQ s own:=by simpa using hc
  subst hc
  repeat' (first|refine GF ?_|refine w5 ?_ ?_|((refine bh fun h=>?_) <;> try exact w6 h)|(refine aE fun hA=>?_;subst hA)|intro _)
  all_goals(refine aC ?_;exact aB (hK))
theorem RL (hk:kind=1\/kind=2) (hid:1<=id/\id<=2147483647) (hb:0<=cf.sb/\cf.sb<=4096) (hi:0<=cf.si/\cf.si<=64) (hg:0<=sg/\sg<=2) (hh:tC h3) (hK:∀b,K (.tuple #[PO b,I6 0]) (tH b (iI cf h3 id kind sg own)::R)):CT 166 #[I6 id,I6 kind,.bool own,.agg #[I6 h3.w,I6 h3.st,I6 h3.it,I6 cf.sb,I6 cf.si,I6 sg,I6 cf.ev,I6 cf.wa,I6 cf.sl]] R K:=by
 obtain⟨cw,cst,cit,sb,si,csg,ev,wa,sl⟩:=cf
 obtain⟨cap,rfl⟩:∃n:Nat,sb=n:=⟨sb.toNat,(Int.toNat_of_nonneg hb.1).symm⟩
 obtain⟨cai,rfl⟩:∃n:Nat,si=n:=⟨si.toNat,(Int.toNat_of_nonneg hi.1).symm⟩
 have e1:((cap:Nat):Int).toNat=cap:=Int.toNat_natCast cap
 have e2:((cai:Nat):Int).toNat=cai:=Int.toNat_natCast cai
 rcases hk with rfl|rfl
 ·have e:iI ⟨cw,cst,cit,(cap:Nat),(cai:Nat),csg,ev,wa,sl⟩ h3 id 1 sg own=⟨id,own,1,.b ⟨cap,[],false,false,0,0,0⟩,.b ⟨h3.w,h3.w,h3.w,0,0,[],false⟩⟩:=by
   unfold iI;rw[if_pos rfl];dsimp only;rw[e1]
  rw[e] at hK
  exact aA.entK (OO hid (by simp only at hb;omega) hh fun b li t r=>⟨_,cS (m:=⟨id,own,1,.b ⟨cap,[],false,false,0,0,0⟩,.b ⟨h3.w,h3.w,h3.w,0,0,[],false⟩⟩) ⟨rfl,.inl rfl⟩,hK b⟩)
 ·have e:iI ⟨cw,cst,cit,(cap:Nat),(cai:Nat),csg,ev,wa,sl⟩ h3 id 2 sg own=⟨id,own,1,.i ⟨cai,sg,[],0,false,false,0,0,0⟩,.i ⟨h3.it,h3.it,0,0,[],0,0,0,false⟩⟩:=by
   unfold iI;rw[if_neg (by decide)];dsimp only;rw[e2]
  rw[e] at hK
  exact aA.entK (RG hid (by simp only at hi;omega) hg hh fun b li t r=>⟨_,cS (m:=⟨id,own,1,.i ⟨cai,sg,[],0,false,false,0,0,0⟩,.i ⟨h3.it,h3.it,0,0,[],0,0,0,false⟩⟩) ⟨rfl,.inl rfl⟩,hK b⟩)
theorem Py (he:m.id=id) (hs:G6 l) (hm:bX id l=none) (h64:l.length<64) (hK:K (I6 0) (IH p (lM m l)::R)):CT 233 #[PO p,I6 id,PO b] (tH b m::IH p l::R) K:=by
 subst he;exact Ai3 hs hm h64 hK
theorem VC {b:Bool}:((lM m l).filter fun m=>m.own == b).length=(l.filter fun m=>m.own == b).length+if m.own == b then 1 else 0:=by
 have h:(l.filter fun m=>m.own == b).length=((l.take (cI m.id l)).filter fun m=>m.own == b).length+((l.drop (cI m.id l)).filter fun m=>m.own == b).length:=by
  rw[<- List.length_append,<- List.filter_append,List.take_append_drop]
 unfold lM
 rw[h,List.filter_append,List.length_append,List.filter_cons]
 split <;> first|(simp only[List.length_cons];omega)|omega
theorem Wb (hI:bO B s) (hm:bX id s.l=none) (hl:s.l.length<64) (hid:1<=id/\id<=2147483647) (hp:gI s.sd s.nx s.la id=true) (ho:fQ s own<32) (hb:(s.mv.length:Int)+s.l.length+1<=B):bO B (GV id kind on w xx own sg s):=
 { hI with
   sm:=Ai7 (m:=iI s.cf s.sh.h id kind sg own) hI.sm (by
    have e:(iI s.cf s.sh.h id kind sg own).id=id:=by unfold iI;split <;> rfl
    rw[e];exact hm) hl
   st:=fun z hz=>by
    have hB:=hI.bb
    rcases BW hz with rfl|hz
    ·unfold iI
     split
     ·exact⟨hid,by show(0:Int)<=B;omega,by show(0:Int)<=B;omega,by show((0:Nat):Int)<=B;omega⟩
     ·exact⟨hid,by show(0:Int)<=B;omega,by show(0:Int)<=B;omega,by show((0:Nat):Int)<=B;omega⟩
    ·exact hI.st z hz
   ids:=fun z hz=>by
    rcases BW hz with rfl|hz
    ·have e:(iI s.cf s.sh.h id kind sg own).id=id:=by unfold iI;split <;> rfl
     show gI s.sd s.nx s.la _=true
     rw[e];exact hp
    ·exact hI.ids z hz
   own:=fun b=>by
    have e:(iI s.cf s.sh.h id kind sg own).own=own:=by unfold iI;split <;> rfl
    show((lM (iI s.cf s.sh.h id kind sg own) s.l).filter fun m=>m.own == b).length<=32
    rw[VC,e]
    have h1:=hI.own b
    unfold fQ at h1 ho
    split
    ·rename_i hb
     have hb:own=b:=by simpa using hb
     subst hb;omega
    ·omega
   tr:=Ajg hI.tr
   ld:=by
    show GH B (if kind=1 then gM id s.pe.w s.ld else s.ld)
    split
    ·exact Abz hI.ld
    ·exact hI.ld
   mv:=by
    show(s.mv.length:Int)+((lM _ s.l).length:Int)<=B
    have e:(lM (iI s.cf s.sh.h id kind sg own) s.l).length<=s.l.length+1:=by
     unfold lM
     rw[List.length_append,List.length_cons,List.length_take,List.length_drop]
     omega
    omega }
def w8:List (Nat×Nat):= [(0,0),(1,0),(2,0),(3,0),(4,0),(5,0),(6,1)]
def wE:List (Nat×Nat):= [(0,0),(1,0),(2,0),(3,0),(4,0),(5,0),(6,0),(7,0),(8,0),(9,0),(10,1)]
theorem P8 (hI:bO B s) (hk:kind=1\/kind=2) (hg:0<=sg/\sg<=2) (hm:bX id s.l=none) (hl:s.l.length<64) (hid:1<=id/\id<=2147483647) (hK:K (I6 0) (cA x a (GV id kind on w xx own sg s) M mc R)):CT 140 #[PO x,I6 id,I6 kind,.bool own,.agg #[I6 on,I6 w,.bool xx],I6 sg] (cA x a s M mc R) K:=by
 have hB:=hI.bb
 have htl:=hI.tr.len
 have he:(iI s.cf s.sh.h id kind sg own).id=id:=by unfold iI;split <;> rfl
 unfold GV at hK
 by_cases h1:kind=1
 ·simp only[if_pos h1] at hK
  dsimp only[cA,nF] at hK ⊢
  refine aH Tryz.func140 ?_
  repeat' (first|(show Br _ _ _;refine Br.t (by simpa using h1) ?_)|refine ZO ?_|refine dw w8 ?_|refine dw wE ?_|refine w5 ?_ ?_|((refine bh fun h=>?_) <;> try exact w6 h)|(refine aE fun hA=>?_;subst hA)|intro _|(show aA _ 232 _ _ _;refine CA (h:=zQ (s:=s.sh) ?_))|(show aA _ 166 _ _ _;refine CA (h:=RL (cf:=s.cf) (h3:=s.sh.h) hk hid hI.cf.1 hI.cf.2.1 hg hI.sh.2.1 (fun _=>?_)))|(show aA _ 233 _ _ _;refine CA (h:=Py (l:=s.l) (m:=iI s.cf s.sh.h id kind sg own) he hI.sm hm hl ?_))|(show aA _ 234 _ _ _;refine CA (h:=GC (s:=s.tr) hI.tr.kok (by omega) (by decide) ?_))|(show aA _ 235 _ _ _;refine CA (h:=YE (hI.ld.ok (by omega)) (fun _=>?_))))
  all_goals(refine aC ?_;exact aB (hK))
 ·simp only[if_neg h1] at hK
  dsimp only[cA,nF] at hK ⊢
  refine aH Tryz.func140 ?_
  repeat' (first|(show Br _ _ _;refine Br.f (by first|(simp <;> done)|simpa using h1) ?_)|refine ZO ?_|refine dw w8 ?_|refine dw wE ?_|refine w5 ?_ ?_|((refine bh fun h=>?_) <;> try exact w6 h)|(refine aE fun hA=>?_;subst hA)|intro _|(show aA _ 232 _ _ _;refine CA (h:=zQ (s:=s.sh) ?_))|(show aA _ 166 _ _ _;refine CA (h:=RL (cf:=s.cf) (h3:=s.sh.h) hk hid hI.cf.1 hI.cf.2.1 hg hI.sh.2.1 (fun _=>?_)))|(show aA _ 233 _ _ _;refine CA (h:=Py (l:=s.l) (m:=iI s.cf s.sh.h id kind sg own) he hI.sm hm hl ?_))|(show aA _ 234 _ _ _;refine CA (h:=GC (s:=s.tr) hI.tr.kok (by omega) (by decide) ?_)))
  all_goals(refine aC ?_;exact aB (hK))
end
section
variable {id la st:Int} {own:Bool} {y:Ys} {l:List Sm} {cf:Cf}
theorem FI.mono (h:FI B m) (hB:B<=B'):FI B' m:=by
 obtain⟨h1,h2,h3,h4⟩:=h
 exact⟨h1,by omega,by omega,by omega⟩
theorem bO.mono (h:bO B s) (hB:B<=B') (hb:B'<=250000000):bO B' s:=
 { h with
   bb:=by have:=h.bb;omega
   st:=fun z hz=>(h.st z hz).mono hB
   ld:=h.ld.mono hB
   rv:=by have:=h.rv;unfold JN at this ⊢;omega
   bt:=by have:=h.bt;omega
   sl:=by have:=h.sl;omega
   inb:=by have:=h.inb;omega
   now:=by have:=h.now;omega
   mv:=by have:=h.mv;omega }
theorem oJ (hb:JN B z) (hB:B<=250000000) (hk:0<=k/\k<=900000000) (hK:K (I6 (k7 z k)) (y9 p (gA z k).cap (gA z k).most (gA z k).gr (gA z k).got (gA z k).us::R)):CT 305 #[PO p,I6 k] (y9 p z.cap z.most z.gr z.got z.us::R) K:=by
 unfold JN at hb
 by_cases h:max (z.gr - z.got) 0<k
 ·have e:k7 z k=9:=by unfold k7;rw[if_pos h]
  unfold gA at hK
  rw[e] at hK
  simp only[if_neg (show ¬(9:Int)=0 by decide)] at hK
  exact K0 h (by omega) hK
 ·have e:k7 z k=0:=by unfold k7;rw[if_neg h]
  unfold gA at hK
  rw[e] at hK
  simp only[if_true] at hK
  exact IE (by omega) (by omega) hK
theorem Aj5 (h:JN B z) (hk:0<=k/\k<=B' - B):JN B' (gA z k):=by
 unfold JN at h
 by_cases hg:k7 z k=0
 ·have e:gA z k= { z with got:=z.got+k }:=by unfold gA;rw[if_pos hg]
  rw[e]
  unfold k7 at hg
  by_cases h0:max (z.gr - z.got) 0<k
  ·rw[if_pos h0] at hg;cases hg
  ·unfold JN;dsimp only;omega
 ·have e:gA z k=z:=by unfold gA;rw[if_neg hg]
  rw[e]
  unfold JN;omega
theorem Lo:0<=eT m t d e/\eT m t d e<=20:=by
 unfold eT
 split
 ·omega
 ·split
  ·omega
  ·unfold xW
   split <;> (split <;> (try split) <;> omega)
theorem Adz (h:FI B m) (hd:d.size<=256) (hB:B+300<=B'):FI B' (fX m d e):=by
 obtain⟨h1,h2,h3,h4⟩:=h
 refine⟨h1,by show L3 m.x<=B';omega,?_,?_⟩
 ·show Kq (Dv m.y d e)<=B'
  cases hy:m.y with
  |b y=>rw[hy] at h3;simp only[Dv,Kq] at h3 ⊢;omega
  |i y=>
   rw[hy] at h3
   by_cases hc:d≠⟨#[]⟩\/e=false
   ·simp only[Dv,if_pos hc,Kq] at h3 ⊢;omega
   ·simp only[Dv,if_neg hc,Kq] at h3 ⊢;omega
 ·show(iD (Dv m.y d e):Int)<=B'
  have hdl:d.data.toList.length=d.size:=Array.length_toList
  cases hy:m.y with
  |b y=>rw[hy] at h4;simp only[Dv,iD,List.length_append] at h4 ⊢;omega
  |i y=>
   rw[hy] at h4
   by_cases hc:d≠⟨#[]⟩\/e=false
   ·simp only[Dv,if_pos hc,iD,List.length_append,List.length_singleton] at h4 ⊢;omega
   ·simp only[Dv,if_neg hc,iD] at h4 ⊢;omega
end
end Go.Proofs.YtepnmcipkangkaaGreat
