/- A part of the proof: lemmas; each with the conditions that it states. -/
import Derived.Test.YtifgibijcmppmaaGreatNaz
import Derived.Test.YtifgibijcmppmaaGreatNax
import Derived.Test.YtifgibijcmppmaaGreatNba
set_option linter.unusedVariables false
set_option linter.unusedSimpArgs false
namespace Go.Proofs.YtifgibijcmppmaaGreat
open Go Go.Proofs Go.Sl
set_option maxRecDepth 100000
set_option maxHeartbeats 40000000
attribute [local irreducible] aN fB cJ bO aM aY aA dM dQ aW dK pt ro fF star sep bI
attribute [local irreducible] mp El
structure Cf where
 w:Int
 st:Int
 it:Int
 sb:Int
 si:Int
 sg:Int
 ev:Int
 wa:Int
 sl:Int
structure Yp where
 cap:Int
 most:Int
 gr:Int
 got:Int
 us:Int
structure Mv where
 k:Int
 id:Int
 n:Int
 s:ByteArray
 e:Bool
structure Cn where
 cf:Cf
 sd:Int
 nx:Int
 la:Int
 l:List Sm
 tr:eT
 pk:List (KE Int)
 pc:Nat
 ld:Ld
 rv:Yp
 sh:F2
 pe:eJ
 bt:Bt
 sl:OG
 dr:Dr
 out:List Fm
 inb:List UInt8
 ine:Int
 now:Int
 last:ByteArray
 mv:List Mv
def fr0 (t st:Int):Fm:=⟨t,st,false,⟨#[]⟩,0,0,0,false,0,0,0,none,0,0,[]⟩
def wA (t st:Int) (d:ByteArray) (e:Bool):Fm:=⟨t,st,e,d,0,0,0,false,0,0,0,none,0,0,[]⟩
def rA (st k on w:Int) (x:Bool):Fm:=⟨2,st,false,⟨#[]⟩,k,on,w,x,0,0,0,none,0,0,[]⟩
def s5 (st on w:Int) (x:Bool):Fm:=⟨3,st,false,⟨#[]⟩,0,on,w,x,0,0,0,none,0,0,[]⟩
def mN (st c:Int):Fm:=⟨4,st,false,⟨#[]⟩,0,0,0,false,c,0,0,none,0,0,[]⟩
def JV (ps:List Pr):Fm:=⟨5,0,false,⟨#[]⟩,0,0,0,false,0,0,0,none,ps.length,0,ps⟩
def Eu (la c:Int):Fm:=⟨9,0,false,⟨#[]⟩,0,0,0,false,c,la,0,none,0,0,[]⟩
def Dq (t st n:Int):Fm:=⟨t,st,false,⟨#[]⟩,0,0,0,false,0,0,n,none,0,0,[]⟩
def lJ (y:Yp) (k:Int):Int:=if max (y.gr - y.got) 0<k then 9 else 0
def gJ (y:Yp) (k:Int):Yp:=if lJ y k=0 then { y with got:=y.got+k } else y
def gA (y:Yp) (k:Int):Yp:=if 0≤k∧k≤y.got - y.us then { y with us:=y.us+k } else y
def vS (y:Yp):Int:=uZ y.cap y.gr y.us
def QJ (y:Yp):Yp:= { y with gr:=y.gr+vS y }
def fG (s:Cn) (b:Bool):Nat:=(s.l.filter fun m=>m.own == b).length
def tW (m:Mv) (s:Cn):Cn:= { s with mv:=s.mv++ [m] }
def wC (s:Cn) (id:Int):Bool:=oY s.sd s.nx s.la id
def aD (s:Cn):Cn:= { s with mv:= [] }
def cH (s:Cn) (id:Int):Int:=if s.dr.ov=true then 14 else match cB id s.l with
 |some _=>0
 |none=>if wC s id=true then 14 else 7
def mE (id code:Int) (gone:Bool) (s:Cn):Cn:=
 { s with l:=s.l.eraseIdx (cE id s.l),tr:=yY id s.tr,pk:=(if rC id s.pk=0 then s.pk else mY id s.pk),ld:=nU id s.ld,mv:=s.mv++ [⟨4,id,code,⟨#[]⟩,gone⟩] }
def rJ (code:Int):List Int→Cn→Cn
 | [],s=>s
 |id::r,s=>rJ code r (mE id code false s)
def lK (m:Sm) (s:Cn):Cn:=if HS m=true then mE m.id 0 true s else s
def vV (s:Cn):Cn:= { rJ s.dr.co (s.l.map Sm.id) s with out:= [] }
def i3 (w o:Int) (s:Cn):Cn:=vV { s with dr:=B4 s.dr (l9 w o),last:=Pf (Eu s.la (l9 w o)) }
def uG (f:Fm) (s:Cn):Cn:=if Em f s.out=0 then { s with out:=zA f s.out } else i3 18 0 s
def s6 (m:Sm) (code:Int) (s:Cn):Cn:=mE m.id code false { s with rv:=gA s.rv (if bD m.x=1 then(gT m.y:Nat) else 0) }
def kZ (w st:Int) (s:Cn):Cn:=if QE w=true then i3 w 0 s else
 uG (mN st (l9 w 0)) (match cB st s.l with
  |some m=>s6 m (l9 w 0) s
  |none=>s)
def iB (cf:Cf) (h:eJ) (id kind sg:Int) (own:Bool):Sm:=if kind=1 then⟨id,own,1,.b ⟨cf.sb.toNat,[],false,false,0,0,0⟩,.b ⟨h.w,h.w,h.w,0,0,[],false⟩⟩ else⟨id,own,1,.i ⟨cf.si.toNat,sg,[],0,false,false,0,0,0⟩,.i ⟨h.it,h.it,0,0,[],0,0,0,false⟩⟩
def G5 (id kind on w:Int) (x own:Bool) (sg:Int) (s:Cn):Cn:=
 { s with l:=kS (iB s.cf s.sh.h id kind sg own) s.l,tr:=nK id on w x 64 s.tr,ld:=if kind=1 then lN id s.pe.w s.ld else s.ld }
def iV (kind sg on w:Int) (x:Bool) (s:Cn):Int:=if s.dr.ov=true then 14 else if kind≠1∧kind≠2 then 13 else if sg<0∨2<sg then 2 else if K0 s.dr=false then 15 else if 2147483647<s.nx∨min s.pe.st 32≤(fG s true:Nat) then 16 else if mQ (rA s.nx kind on w x)=false then 2 else if on=s.nx then 12 else if 64≤s.out.length then 9 else 0
def l5 (kind sg on w:Int) (x:Bool) (s:Cn):Cn:=if iV kind sg on w x s≠0 then aD s else
 G5 s.nx kind on w x true sg { aD s with nx:=s.nx+2,out:=zA (rA s.nx kind on w x) s.out }
def Aj (m:Sm) (s:Cn):Cn:= { s with l:=s.l.set (cE m.id s.l) m }
def pD (id:Int) (d:ByteArray) (s:Cn):Int×Int:=if cH s id≠0 then(0,cH s id) else match cB id s.l with
 |some m=>(Tp m d,UZ m d)
 |none=>(0,0)
def lW (id:Int) (d:ByteArray) (s:Cn):Cn:=if cH s id≠0 then aD s else match cB id s.l with
 |some m=>Aj (zG m d) (aD s)
 |none=>s
def Mp (id:Int) (s:Cn):Int:=if cH s id≠0 then cH s id else match cB id s.l with
 |some m=>Ui m
 |none=>0
def y5 (id:Int) (s:Cn):Cn:=if cH s id≠0 then aD s else match cB id s.l with
 |some m=>Aj (z1 m) (aD s)
 |none=>s
def kB (id n:Int) (s:Cn):ByteArray×Bool×Int:=if cH s id≠0 then(⟨#[]⟩,false,cH s id) else match cB id s.l with
 |some m=>if NJ m.y≠0 then(⟨#[]⟩,false,NJ m.y) else(BO m.y n,I2 (Ek m.y n),0)
 |none=>(⟨#[]⟩,false,0)
def mG (id n:Int) (s:Cn):Cn:=if cH s id≠0 then aD s else match cB id s.l with
 |some m=>if NJ m.y≠0 then aD s else lK { m with y:=Ek m.y n } { Aj { m with y:=Ek m.y n } (aD s) with rv:=gA s.rv ((BO m.y n).size:Nat) }
 |none=>s
def k7 (id:Int) (s:Cn):ByteArray×Bool×Bool×Int:=if cH s id≠0 then(⟨#[]⟩,false,false,cH s id) else match cB id s.l with
 |some m=>if W1 m.y≠0 then(⟨#[]⟩,false,false,W1 m.y) else(Akf m.y,XS m.y,I2 (EP m.y),0)
 |none=>(⟨#[]⟩,false,false,0)
def pR (id:Int) (s:Cn):Cn:=if cH s id≠0 then aD s else match cB id s.l with
 |some m=>if W1 m.y≠0 then aD s else lK { m with y:=EP m.y } (Aj { m with y:=EP m.y } (aD s))
 |none=>s
def Mu (id n:Int) (s:Cn):Int:=if cH s id≠0 then cH s id else match cB id s.l with
 |some m=>T8 m.y n
 |none=>0
def yZ (id n:Int) (s:Cn):Cn:=if cH s id≠0 then aD s else match cB id s.l with
 |some m=>Aj { m with y:=F1 m.y n } (aD s)
 |none=>s
def Gn (id on w:Int) (x:Bool) (s:Cn):Int:=if cH s id≠0 then cH s id else if mQ (s5 id on w x)=false then 2 else if on=id then 12 else if Em (s5 id on w x) s.out≠0 then 9 else pZ id on w s.tr
def sU (id on w:Int) (x:Bool) (s:Cn):Cn:=if cH s id≠0∨mQ (s5 id on w x)=false∨on=id∨Em (s5 id on w x) s.out≠0 then aD s else { aD s with out:=zA (s5 id on w x) s.out,tr:=kT id on w x s.tr }
def lD (id c:Int) (s:Cn):Int:=if cH s id≠0 then cH s id else if mQ (mN id c)=false then 2 else if Em (mN id c) s.out≠0 then 9 else 0
def nN (id c:Int) (s:Cn):Cn:=if lD id c s≠0 then aD s else match cB id s.l with
 |some m=>s6 m c { aD s with out:=zA (mN id c) s.out }
 |none=>s
def Um (s:Cn):Int:=if s.dr.ov=true then 14 else if s.dr.se=true then 11 else if Em (Eu s.la 0) s.out≠0 then 9 else Gb s.dr s.la
def Ey (s:Cn):Cn:=if s.dr.ov=true∨s.dr.se=true∨Em (Eu s.la 0) s.out≠0 then aD s else { aD s with out:=zA (Eu s.la 0) s.out,dr:=EY s.dr s.la }
def MJ (t:eJ) (s:Cn):Int:=if s.dr.ov=true then 14 else if 64≤s.out.length then 9 else if iU s.sh t≠0 then iU s.sh t else Em (JV (MA (rM s.sh) t)) s.out
def wV (t:eJ) (s:Cn):Cn:=if s.dr.ov=true∨64≤s.out.length∨iU s.sh t≠0 then aD s else { aD s with sh:=eK s.sh t,out:=zA (JV (MA (rM s.sh) t)) s.out }
def sV (s:Cn):Cn:= { s with now:=s.now+1 }
def uE (f:Fm) (s:Cn):Cn:=
 if lJ s.rv (if f.t=0 then(f.d.size:Nat) else 0)≠0 then i3 9 0 s
 else match cB f.st s.l with
  |none=> { s with rv:=gA (gJ s.rv (if f.t=0 then(f.d.size:Nat) else 0)) (if f.t=0 then(f.d.size:Nat) else 0) }
  |some m=>if gZ m f.t f.d f.e≠0 then kZ (gZ m f.t f.d f.e) f.st { s with rv:=gA (gJ s.rv (if f.t=0 then(f.d.size:Nat) else 0)) (if f.t=0 then(f.d.size:Nat) else 0) }
   else lK (fT m f.d f.e) (tW ⟨2,f.st,if f.t=1∧(f.d≠⟨#[]⟩∨f.e=false) then 1 else if f.t=0 then(f.d.size:Nat) else 0,f.d,f.e⟩ (Aj (fT m f.d f.e) { s with rv:=gJ s.rv (if f.t=0 then(f.d.size:Nat) else 0) }))
def pY (f:Fm) (s:Cn):Cn:=
 if p8 s.sd s.la f.st≠0 then i3 1 0 s
 else if f.on=f.st then i3 2 0 { s with la:=f.st }
 else if CV s.dr f.st=false then kZ 4 f.st { s with la:=f.st }
 else if s.sh.h.st≤(fG s false:Nat) then kZ 3 f.st { s with la:=f.st }
 else tW ⟨3,f.st,f.k,⟨#[]⟩,false⟩ (G5 f.st f.k f.on f.w f.x false s.cf.sg { s with la:=f.st })
def mK (f:Fm) (m:Sm) (s:Cn):Cn:=
 if(bD m.x=1)≠(f.t=10) then kZ 6 f.st s
 else if f.n=0 then kZ 11 f.st s
 else if bD m.x=1 then(if tU f.st f.n s.ld≠0 then kZ 13 f.st s else { s with ld:=qC f.st f.n s.ld,sl:=iZ s.sl s.now })
 else(if E7 m.x f.n≠0 then kZ 13 f.st s else Aj { m with x:=qA m.x f.n } { s with sl:=iZ s.sl s.now })
def tP (f:Fm) (s:Cn):Cn:=if f.n=0 then i3 12 0 s else if tU 0 f.n s.ld≠0 then i3 14 0 s else { s with ld:=qC 0 f.n s.ld,sl:=iZ s.sl s.now }
def yE (f:Fm) (s:Cn):Cn:=match XK s.pe f.ps with
 |none=>i3 16 0 s
 |some t=>if E2 s.pe.w t.w s.ld≠0 then i3 17 0 s else uG (fr0 6 0) { s with ld:=tH s.pe.w t.w s.ld,pe:=t }
def tJ (s:Cn):Cn:=if Am s.sh≠0 then i3 15 0 s else { s with sh:=dG s.sh,l:=s.l.map fun m=> { m with y:=Do m.y (dG s.sh).h } }
def oH:List Int→Cn→Cn
 | [],s=>s
 |id::r,s=>oH r (match cB id s.l with
  |some m=>if m.own=true∧J9 s.dr id=true then s6 m 7 s else s
  |none=>s)
def yJ (f:Fm) (s:Cn):Cn:=if(p9 s.dr f.la f.c).ov=true then vV { s with dr:=p9 s.dr f.la f.c } else oH (s.l.map Sm.id) { s with dr:=p9 s.dr f.la f.c }
def kY (f:Fm) (s:Cn):Cn:=if f.t=3∧f.on=f.st then i3 2 0 s else match cB f.st s.l with
 |none=>s
 |some m=>if f.t=3 then { s with tr:=kT f.st f.on f.w f.x s.tr } else if f.t=4 then s6 m f.c s else mK f m s
def f7 (f:Fm) (s:Cn):Cn:=
 if f.t=5 then yE f s else if f.t=6 then tJ s else if f.t=7 then uG (wA 8 0 f.d false) s
 else if f.t=8 then { s with bt:=lM s.bt s.now f.d } else if f.t=9 then yJ f s else if f.t=2 then pY f s
 else if f.st=0 then tP f s else if wC s f.st=false then i3 5 0 s else if f.t=0∨f.t=1 then uE f s else kY f s
def bS (f:Fm) (s:Cn):Cn:=f7 f { s with bt:=bQ s.bt s.now }
def eD:List Fm→Cn→Cn
 | [],s=>s
 |f::r,s=>if(bS f s).dr.ov=true then bS f s else eD r (bS f s)
def i9 (u:List UInt8) (s:Cn):List Fm×Cn:=((pF (s.inb++u)).1.map KF,{ s with inb:=if(pF (s.inb++u)).2.2=0 then(pF (s.inb++u)).2.1 else [],ine:=(pF (s.inb++u)).2.2 })
def vK (s:Cn):Int:=if s.dr.ov=true then 14 else 0
def eB (u:List UInt8) (s:Cn):Cn:=if s.dr.ov=true then aD s else
 if(eD (i9 u (aD s)).1 (i9 u (aD s)).2).dr.ov=true∨(pF (s.inb++u)).2.2=0 then eD (i9 u (aD s)).1 (i9 u (aD s)).2 else i3 0 (pF (s.inb++u)).2.2 (eD (i9 u (aD s)).1 (i9 u (aD s)).2)
def IU (ld:Ld) (m:Sm):Bool:=RN m && Ae7 m.x (bE m.id ld)
def tG (s:Cn):Bool:=s.l.any (IU s.ld)
def fQ (s:Cn):List Fm:=if Qy s.bt s.now=2∨AX s.sl s.now (tG s)=true∨Qy s.bt s.now≠1 then [] else [wA 7 0 (btD s.bt s.now) false]
def bJ (s:Cn):Cn:=if Qy s.bt s.now=2 then i3 20 0 { s with bt:=iA s.bt s.now } else if AX s.sl s.now (tG s)=true then i3 19 0 { s with bt:=iA s.bt s.now,sl:=oF s.sl s.now (tG s) } else { s with bt:=iA s.bt s.now,sl:=oF s.sl s.now (tG s) }
def J2 (t st n:Int):List Fm:=if 0<n then [Dq t st n] else []
def rU (m:Sm):List Fm:=if XM m=true then J2 (if bD m.x=2 then 11 else 10) m.id (IK m.y) else []
def mJ (m:Sm):Sm:=if XM m=true then { m with y:=yGr m.y } else m
def uT (s:Cn):List Fm:=J2 10 0 (vS s.rv)++s.l.flatMap rU
def BE (s:Cn):Cn:= { s with rv:=QJ s.rv,l:=s.l.map mJ }
def oG (s:Cn) (id:Int):Tu:=⟨id,if d4 id s.tr.1=true then(dF id s.tr).w else 0,match cB id s.l with
 |some m=>RN m && OR m.x (bE id s.ld)
 |none=>false⟩
def eP (s:Cn):List Tu:=(eE s.tr).map (oG s)
def qQ (s:Cn):Option Fm×Cn:=match zM (s.pk,s.pc) (eP s) with
 |(none,p)=>(none,{ s with pk:=p.1,pc:=p.2 })
 |(some id,p)=>match cB id s.l with
  |none=>(none,{ s with pk:=p.1,pc:=p.2 })
  |some m=>if IR m (bE id s.ld)=false then(none,{ s with pk:=p.1,pc:=p.2 }) else
   (some (wA (bD m.x - 1) id (iR m.x (bE id s.ld)) (BI m.x (bE id s.ld))),
    lK (CR m (bE id s.ld)) (tW ⟨1,id,if bD m.x=1 then((iR m.x (bE id s.ld)).size:Nat) else if iR m.x (bE id s.ld)=⟨#[]⟩∧BI m.x (bE id s.ld)=true then 0 else 1,iR m.x (bE id s.ld),BI m.x (bE id s.ld)⟩
     (Aj (CR m (bE id s.ld)) { s with ld:=(if bD m.x=1 then mR id ((iR m.x (bE id s.ld)).size:Nat) s.ld else s.ld),pk:=(jX id (rC id p.1 - fS ((iR m.x (bE id s.ld)).size:Nat)) p).1,pc:=(jX id (rC id p.1 - fS ((iR m.x (bE id s.ld)).size:Nat)) p).2 })))
def fR:Nat→Cn→List Fm×Cn
 |0,s=>([],s)
 |n+1,s=>match qQ s with
  |(none,s)=>([],s)
  |(some f,s)=>(f::(fR n s).1,(fR n s).2)
def R2 (l:List Fm):List UInt8:=if l.all mQ=true then s4 l else []
def bP (s:Cn):List UInt8×Cn:=
 if s.dr.ov=true then(s.last.data.toList,{ aD s with last:=⟨#[]⟩ })
 else if(bJ (aD s)).dr.ov=true then((bJ (aD s)).last.data.toList,{ bJ (aD s) with last:=⟨#[]⟩ })
 else let s1:=bJ (aD s)
  let s2:=BE { s1 with out:= [] }
  let b:=fR 4 s2
  (R2 (fQ (aD s)++s1.out++uT { s1 with out:= [] }++b.1),{ b.2 with dr:=zL b.2.dr b.2.l.length })
section
structure Ca where
 ids:Nat
 l:Nat
 t:Nat
 tq:Nat
 p:Nat
 pq:Nat
 fr:Nat
 rc:Nat
 sh:Nat
 bt:Nat
 sl:Nat
 dr:Nat
 ou:Nat
 inn:Nat
def mvD:List Value→Option Mv
 | [.int .i64 k,.int .i64 id,.int .i64 n,.string s,.bool e]=>some ⟨k,id,n,s,e⟩
 |_=>none
theorem Aj4 (cs:List Value) (y:Mv) (h:mvD cs=some y): [.int .i64 y.k,.int .i64 y.id,.int .i64 y.n,.string y.s,.bool y.e]=cs:=by
 unfold mvD at h
 split at h
 ·cases h;rfl
 ·cases h
def mvC:t6 Mv:= { enc:=fun y=> [.int .i64 y.k,.int .i64 y.id,.int .i64 y.n,.string y.s,.bool y.e],sz:=5,dec:=mvD,len:=fun _=>rfl,one:=fun _=>rfl,ok:=Aj4 }
abbrev mV (x:Nat) (a:Ca) (s:Cn) (M:Option Addr) (mc:Nat) (T:HP) (R:List HP):List HP:=
 pt x [.int .i64 s.cf.w,.int .i64 s.cf.st,.int .i64 s.cf.it,.int .i64 s.cf.sb,.int .i64 s.cf.si,.int .i64 s.cf.sg,.int .i64 s.cf.ev,.int .i64 s.cf.wa,.int .i64 s.cf.sl,.pointer (some ⟨a.ids,0,none⟩),.pointer (some ⟨a.l,0,none⟩),.pointer (some ⟨a.t,0,none⟩),.pointer (some ⟨a.p,0,none⟩),.pointer (some ⟨a.fr,0,none⟩),.pointer (some ⟨a.rc,0,none⟩),.pointer (some ⟨a.sh,0,none⟩),.int .i64 s.pe.w,.int .i64 s.pe.st,.int .i64 s.pe.it,.pointer (some ⟨a.bt,0,none⟩),.pointer (some ⟨a.sl,0,none⟩),.pointer (some ⟨a.dr,0,none⟩),.pointer (some ⟨a.ou,0,none⟩),.pointer (some ⟨a.inn,0,none⟩),.int .i64 s.now,.string s.last,.slice M s.mv.length mc] 124::
 pt a.ids [.int .i64 s.sd,.int .i64 s.nx,.int .i64 s.la] 218::T::pt a.t [.int .i64 64,.map (some a.tq)] 229::mp a.tq (kM qK s.tr.1) s.tr.2::pt a.p [.map (some a.pq)] 211::mp a.pq (kM Kh s.pk) s.pc::Qt a.fr s.ld::zD a.rc s.rv.cap s.rv.most s.rv.gr s.rv.got s.rv.us::PH a.sh s.sh::btP a.bt s.bt::slP a.sl s.sl::CS a.dr s.dr::Qw a.ou s.out::spP a.inn s.inb s.ine::bT M mc 280 mvC s.mv::R
abbrev b7 (x:Nat) (a:Ca) (s:Cn) (M:Option Addr) (mc:Nat) (R:List HP):List HP:=mV x a s M mc (IN a.l s.l) R
abbrev cnH (x:Nat) (a:Ca) (s:Cn) (M:Option Addr) (mc:Nat) (i b:Nat) (R:List HP):List HP:=mV x a s M mc (Nh a.l s.l i b) R
variable {R C:List HP} {K:Value→List HP→Prop} {x mc:Nat} {a:Ca} {s:Cn} {M:Option Addr}
theorem kI (hK:K (.bool s.dr.ov) (b7 x a s M mc R)):aA Tryz.prog 78 #[.pointer (some ⟨x,0,none⟩)] (b7 x a s M mc R) K:=by
 dsimp only[b7,mV] at hK ⊢
 refine aH Tryz.func78 ?_
 repeat' (first|refine SL ?_|refine wr ?_|refine w5 ?_ ?_|((refine bh fun h=>?_) <;> try exact w6 h)|(refine aE fun hA=>?_;subst hA)|intro _|(show aA _ 82 _ _ _;refine CA (h:=H4 ?_)))
 all_goals(refine aC ?_;exact aB (hK))
theorem cC (hK:K (.int .i64 (if s.dr.ov=true then 14 else 0)) (b7 x a (aD s) none 0 R)):aA Tryz.prog 75 #[.pointer (some ⟨x,0,none⟩)] (b7 x a s M mc R) K:=by
 cases ho:s.dr.ov
 ·rw[ho,if_neg Bool.false_ne_true] at hK
  dsimp only[b7,mV] at ⊢
  refine aH Tryz.func75 ?_
  repeat' (first|refine v13 ?_|refine wr ?_|refine w5 ?_ ?_|((refine bh fun h=>?_) <;> try exact w6 h)|(refine aE fun hA=>?_;subst hA)|intro _|(show aA _ 78 _ _ _;refine CA (h:=kI (x:=x) (a:=a) (s:=aD s) (M:=none) (mc:=0) (R:=R) ?_);rw[show(aD s).dr.ov=false from ho]))
  all_goals(refine aC ?_;exact aB (hK))
 ·rw[ho,if_pos rfl] at hK
  dsimp only[b7,mV] at ⊢
  refine aH Tryz.func75 ?_
  repeat' (first|refine v13 ?_|refine wr ?_|refine w5 ?_ ?_|((refine bh fun h=>?_) <;> try exact w6 h)|(refine aE fun hA=>?_;subst hA)|intro _|(show aA _ 78 _ _ _;refine CA (h:=kI (x:=x) (a:=a) (s:=aD s) (M:=none) (mc:=0) (R:=R) ?_);rw[show(aD s).dr.ov=true from ho]))
  all_goals(refine aC ?_;exact aB (hK))
def BG:List (Nat×Nat):= [(5,0),(6,1),(1,1),(2,1),(3,1),(4,1),(7,1),(0,2),(8,0),(9,0),(10,1)]
theorem HD {k id n:Int} {z:ByteArray} {b:Bool} (hb:s.mv.length≤1000000000) (hK:∀M mc,K (.tuple #[]) (b7 x a (tW ⟨k,id,n,z,b⟩ s) M mc R)):aA Tryz.prog 197 #[.pointer (some ⟨x,0,none⟩),.agg #[.int .i64 k,.int .i64 id,.int .i64 n,.string z,.bool b]] (b7 x a s M mc R) K:=by
 dsimp only[b7,mV,tW] at hK ⊢
 refine aH Tryz.func197 ?_
 repeat' (first|(show aN _ _ _ _ _ _ _;(refine cY (E:=mvC) (ys:= [⟨k,id,n,z,b⟩]) ?_;intro _ _))|refine v54 ?_|refine dw BG ?_|refine wr ?_|refine w5 ?_ ?_|((refine bh fun h=>?_) <;> try exact w6 h)|(refine aE fun hA=>?_;subst hA)|intro _)
 all_goals(refine aC ?_;exact aB (hK _ _))
end
section
def y8 (n:Int):Prop:=0≤n∧n≤2147483647
structure Fs (B:Int) (m:Sm):Prop where
 id:1≤m.id∧m.id≤2147483647
 ac:Kv m.x≤B
 got:Jr m.y≤B
 ln:(gT m.y:Int)≤B
def wD (t:eJ):Prop:=sW t.w t.st t.it=true
def I8 (B:Int) (y:Yp):Prop:=y.cap=512∧0≤y.us∧y.us≤y.got∧y.got≤y.gr∧y.gr≤y.us+512∧y.got≤B
structure bU (B:Int) (s:Cn):Prop where
 bb:0≤B∧B≤250000000
 cf:(0≤s.cf.sb∧s.cf.sb≤4096)∧(0≤s.cf.si∧s.cf.si≤64)∧0≤s.cf.sg∧s.cf.sg≤2
 sd:s.sd=0∨s.sd=1
 nx:1≤s.nx∧s.nx≤2147483649∧(s.nx % 2=1↔s.sd=0)
 la:y8 s.la
 sm:F4 s.l
 st:∀m∈s.l,Fs B m
 ids:∀m∈s.l,oY s.sd s.nx s.la m.id=true
 own:∀b,fG s b≤32
 tr:Ly s.tr
 pk:Ke (s.pk,s.pc)
 ld:FY B s.ld
 rv:I8 B s.rv
 sh:s.sh.l.length≤4∧wD s.sh.h∧wD s.sh.g∧∀t∈s.sh.l,wD t
 pe:y8 s.pe.w∧y8 s.pe.st∧y8 s.pe.it
 bt:(0≤s.bt.no∧s.bt.no≤B)∧(0≤s.bt.he∧s.bt.he≤B)∧(0≤s.bt.si∧s.bt.si≤B)∧0≤s.bt.nn∧s.bt.nn≤B
 sl:(0≤s.sl.nw∧s.sl.nw≤B)∧0≤s.sl.si∧s.sl.si≤B
 ou:PG s.out
 inb:(s.inb.length:Int)≤B
 now:0≤s.now∧s.now≤B
 mv:(s.mv.length:Int)+s.l.length≤B
variable {R C:List HP} {K:Value→List HP→Prop} {x mc:Nat} {a:Ca} {s:Cn} {M:Option Addr} {B id code:Int} {gone:Bool} {m m':Sm}
theorem YW {l:List Sm} {t:Int} (h:cB t l=some m):(l.eraseIdx (cE t l)).length+1=l.length:=by
 have:=(List.getElem?_eq_some_iff.1 (aU h).1).1
 rw[List.length_eraseIdx,if_pos this];omega
theorem An (h:bU B s) (hm:cB id s.l=some m):bU B (mE id code gone s):=
 { h with
   sm:=WP h.sm
   st:=fun z hz=>h.st z (List.mem_of_mem_eraseIdx hz)
   ids:=fun z hz=>h.ids z (List.mem_of_mem_eraseIdx hz)
   own:=fun b=>Nat.le_trans ((List.Sublist.filter _ (List.eraseIdx_sublist ..)).length_le) (h.own b)
   tr:=Afq h.tr
   pk:=by
    show Ke ((if rC id s.pk=0 then s.pk else mY id s.pk),s.pc)
    split
    ·exact h.pk
    ·exact Afh h.pk
   ld:=Vv h.ld
   mv:=by
    have h1:=h.mv
    have h2:=YW hm
    show((s.mv++ [_]).length:Int)+((s.l.eraseIdx (cE id s.l)).length:Int)≤B
    rw[List.length_append,List.length_singleton]
    omega }
theorem Bg (h:bU B s) (hm:cB id s.l=some m) (hK:∀M mc,K (.tuple #[]) (b7 x a (mE id code gone s) M mc R)):aA Tryz.prog 223 #[.pointer (some ⟨x,0,none⟩),.int .i64 id,.int .i64 code,.bool gone] (b7 x a s M mc R) K:=by
 have hl:=h.tr.len
 have hmv:=h.mv
 have hB:=h.bb
 dsimp only[b7,mV]
 refine aH Tryz.func223 ?_
 repeat' (first|refine v25 ?_|refine wr ?_|refine w5 ?_ ?_|((refine bh fun h=>?_) <;> try exact w6 h)|(refine aE fun hA=>?_;subst hA)|intro _|(show aA _ 313 _ _ _;refine CA (h:=Ad3 h.sm hm (fun _=>?_)))|(show aA _ 314 _ _ _;refine CA (h:=PZ (s:=s.tr) h.tr.kok (by omega) h.tr.w h.tr.nd (fun _=>?_)))|(show aA _ 315 _ _ _;refine CA (h:=OV ?_))|(show aA _ 316 _ _ _;refine CA (h:=SK (h.ld.ok (by omega)) (fun _=>?_)))|(show aA _ 197 _ _ _;refine CA (h:=HD (x:=x) (a:=a) (s:= { s with l:=s.l.eraseIdx (cE id s.l),tr:=yY id s.tr,pk:=(if rC id s.pk=0 then s.pk else mY id s.pk),ld:=nU id s.ld }) (M:=M) (mc:=mc) (R:=R) (by show s.mv.length≤1000000000;omega) (fun _ _=>?_))))
 all_goals(refine aC ?_;exact aB (hK _ _))
end
section
variable {R C:List HP} {K:Value→List HP→Prop} {x mc i b p:Nat} {a:Ca} {s:Cn} {M:Option Addr} {B id code k:Int} {gone:Bool} {m m':Sm} {y:Yp}
def Dv:List (Nat×Nat):= [(0,0),(1,0),(2,0),(3,0),(4,0),(5,0),(6,0),(7,0),(8,0),(9,0),(10,0),(11,0)]
theorem uM (hb:0≤y.us∧y.us≤y.got∧y.got≤900000000) (hk:-900000000≤k∧k≤900000000) (hK:∀v,K v (zD p (gA y k).cap (gA y k).most (gA y k).gr (gA y k).got (gA y k).us::R)):aA Tryz.prog 118 #[.pointer (some ⟨p,0,none⟩),.int .i64 k] (zD p y.cap y.most y.gr y.got y.us::R) K:=by
 by_cases h:0≤k∧k≤y.got - y.us
 ·unfold gA at hK
  simp only[if_pos h] at hK
  exact H8 h (by omega) (hK _)
 ·unfold gA at hK
  simp only[if_neg h] at hK
  unfold zD at *
  refine aH Tryz.func118 ?_
  repeat' (first|refine v33 ?_|refine dw Dv ?_|refine wr ?_|refine w5 ?_ ?_|((refine bh fun h=>?_) <;> try exact w6 h)|(refine aE fun hA=>?_;subst hA)|intro _)
  all_goals(refine aC ?_;exact aB (hK _))
theorem mO (hi:s.l[i]?=some m) (hid:m'.id=m.id):aG (rR b m'::cnH x a s M mc i b R) (b7 x a { s with l:=s.l.set i m' } M mc R):=
 aG.trans (fun _ hs=>hs.perm (List.Perm.cons _ (List.perm_middle (l₁:= [_,_])))) (aG.trans (U6 hi hid) (fun _ hs=>hs.perm (List.perm_middle (l₁:= [_,_])).symm))
theorem dD (hi:s.l[i]?=some m):aG (rR b m::cnH x a s M mc i b R) (b7 x a s M mc R):=
 aG.trans (fun _ hs=>hs.perm (List.Perm.cons _ (List.perm_middle (l₁:= [_,_])))) (aG.trans (Ahi hi) (fun _ hs=>hs.perm (List.perm_middle (l₁:= [_,_])).symm))
theorem fV (h:bU B s) (ho:s.dr.ov=false) (hm:cB id s.l=some m) (hK:∀b,K (.tuple #[.pointer (some ⟨b,0,none⟩),.int .i64 0]) (rR b m::cnH x a (aD s) none 0 (cE id s.l) b R)):aA Tryz.prog 116 #[.pointer (some ⟨x,0,none⟩),.int .i64 id] (b7 x a s M mc R) K:=by
 refine aH Tryz.func116 ?_
 repeat' (first|refine I6 ?_|refine wr ?_|refine w5 ?_ ?_|((refine bh fun h=>?_) <;> try exact w6 h)|(refine aE fun hA=>?_;subst hA)|intro _|(show aA _ 75 _ _ _;refine CA (h:=cC (x:=x) (a:=a) (s:=s) (M:=M) (mc:=mc) (R:=R) ?_);rw[ho,if_neg Bool.false_ne_true])|(show aA _ 192 _ _ _;refine CA (h:=gG (l:=s.l) h.sm hm (fun _=>?_))))
 all_goals(refine aC ?_;exact aB (hK _))
theorem oB (h:bU B s) (he:cH s id≠0) (hK:K (.tuple #[.pointer none,.int .i64 (cH s id)]) (b7 x a (aD s) none 0 R)):aA Tryz.prog 116 #[.pointer (some ⟨x,0,none⟩),.int .i64 id] (b7 x a s M mc R) K:=by
 unfold cH at he hK
 cases ho:s.dr.ov
 ·rw[ho,if_neg Bool.false_ne_true] at he hK
  cases hm:cB id s.l with
  |some m=>rw[hm] at he;exact absurd rfl he
  |none=>
   rw[hm] at he hK
   simp only at he hK
   cases hp:wC s id
   ·rw[hp,if_neg Bool.false_ne_true] at hK
    refine aH Tryz.func116 ?_
    repeat' (first|refine I6 ?_|refine wr ?_|refine w5 ?_ ?_|((refine bh fun h=>?_) <;> try exact w6 h)|(refine aE fun hA=>?_;subst hA)|intro _|(show aA _ 75 _ _ _;refine CA (h:=cC (x:=x) (a:=a) (s:=s) (M:=M) (mc:=mc) (R:=R) ?_);rw[ho,if_neg Bool.false_ne_true])|(show aA _ 192 _ _ _;refine CA (h:=nF (l:=s.l) h.sm hm ?_))|(show aA _ 218 _ _ _;refine CA (h:=Cs (sd:=s.sd) (nx:=s.nx) (la:=s.la) ?_);rw[show oY s.sd s.nx s.la id=false from hp]))
    all_goals(refine aC ?_;exact aB (hK))
   ·rw[hp,if_pos rfl] at hK
    refine aH Tryz.func116 ?_
    repeat' (first|refine I6 ?_|refine wr ?_|refine w5 ?_ ?_|((refine bh fun h=>?_) <;> try exact w6 h)|(refine aE fun hA=>?_;subst hA)|intro _|(show aA _ 75 _ _ _;refine CA (h:=cC (x:=x) (a:=a) (s:=s) (M:=M) (mc:=mc) (R:=R) ?_);rw[ho,if_neg Bool.false_ne_true])|(show aA _ 192 _ _ _;refine CA (h:=nF (l:=s.l) h.sm hm ?_))|(show aA _ 218 _ _ _;refine CA (h:=Cs (sd:=s.sd) (nx:=s.nx) (la:=s.la) ?_);rw[show oY s.sd s.nx s.la id=true from hp]))
    all_goals(refine aC ?_;exact aB (hK))
 ·rw[ho,if_pos rfl] at hK
  refine aH Tryz.func116 ?_
  repeat' (first|refine I6 ?_|refine wr ?_|refine w5 ?_ ?_|((refine bh fun h=>?_) <;> try exact w6 h)|(refine aE fun hA=>?_;subst hA)|intro _|(show aA _ 75 _ _ _;refine CA (h:=cC (x:=x) (a:=a) (s:=s) (M:=M) (mc:=mc) (R:=R) ?_);rw[ho,if_pos rfl]))
  all_goals(refine aC ?_;exact aB (hK))
theorem lG (hi:s.l[i]?=some m) (hid:m'.id=m.id) (h:bU B { s with l:=s.l.set i m' }) (hm:cB m'.id (s.l.set i m')=some m') (hK:∀M mc,K (.tuple #[]) (b7 x a (lK m' { s with l:=s.l.set i m' }) M mc R)):aA Tryz.prog 120 #[.pointer (some ⟨x,0,none⟩),.pointer (some ⟨b,0,none⟩)] (rR b m'::cnH x a s M mc i b R) K:=by
 cases hg:HS m'
 ·have e:∀s,lK m' s=s:=fun s=>by unfold lK;rw[hg,if_neg Bool.false_ne_true]
  rw[e] at hK
  refine aH Tryz.func120 ?_
  repeat' (first|refine v0 ?_|refine wr ?_|refine w5 ?_ ?_|((refine bh fun h=>?_) <;> try exact w6 h)|(refine aE fun hA=>?_;subst hA)|intro _|(show aA _ 222 _ _ _;refine CA (h:=KV (m:=m') ?_);rw[hg]))
  all_goals(refine aC ?_;exact aL (aG.trans (by exact bA) ((mO (x:=x) (a:=a) (M:=M) (mc:=mc) (R:=R) (b:=b) hi hid))) (hK _ _))
 ·have e:∀s,lK m' s=mE m'.id 0 true s:=fun s=>by unfold lK;rw[hg,if_pos rfl]
  rw[e] at hK
  refine aH Tryz.func120 ?_
  repeat' (first|refine v0 ?_|refine wr ?_|refine w5 ?_ ?_|((refine bh fun h=>?_) <;> try exact w6 h)|(refine aE fun hA=>?_;subst hA)|intro _|(show aA _ 222 _ _ _;refine CA (h:=KV (m:=m') ?_);rw[hg])|(show aA _ 224 _ _ _;refine CA (h:=Ln (m:=m') ?_))|(show aA _ 223 _ _ _;refine CA (h:=aA.ent (mO (x:=x) (a:=a) (M:=M) (mc:=mc) (R:=R) (b:=b) hi hid) (Bg h hm (fun _ _=>?_)))))
  all_goals(refine aC ?_;exact aB (hK _ _))
theorem EJ {m:Sm} {l:List Sm}:cB m.id (m::l)=some m:=by
 unfold cB cE
 rw[List.takeWhile_cons]
 simp
theorem ZP:(mE id code gone s).l=s.l.eraseIdx (cE id s.l):=rfl
theorem E4 {m:Sm} {l:List Sm} (h:s.l=m::l):(mE m.id code gone s).l=l:=by
 rw[ZP,h]
 unfold cE
 rw[List.takeWhile_cons]
 simp
theorem E5:∀ {l:List Sm} {s:Cn},s.l=l→bU B s→bU B (rJ code (l.map Sm.id) s)∧(rJ code (l.map Sm.id) s).l= []
 | [],s,he,h=>⟨h,he⟩
 |m::l,s,he,h=>by
  have hm:cB m.id s.l=some m:=by rw[he];exact EJ
  exact E5 (s:=mE m.id code false s) (l:=l) (E4 he) (An h hm)
theorem K8:PG []:=⟨by decide,fun y hy=>by cases hy⟩
theorem Ka (h:bU B s):bU B (vV s):=
 { (E5 (code:=s.dr.co) rfl h).1 with ou:=K8 }
theorem IS (h:bU B s) (hK:∀M mc,K (.tuple #[]) (b7 x a (vV s) M mc R)):aA Tryz.prog 176 #[.pointer (some ⟨x,0,none⟩)] (b7 x a s M mc R) K:=by
 have h64:=h.sm.1
 have hlm:(s.l.map Sm.id).length=s.l.length:=List.length_map ..
 unfold vV at hK
 refine aH Tryz.func176 ?_
 repeat' (first|refine v45 ?_|refine wr ?_|refine w5 ?_ ?_|((refine bh fun h=>?_) <;> try exact w6 h)|(refine aE fun hA=>?_;subst hA)|intro _|(show aA _ 82 _ _ _;refine CA (h:=H4 (d:=s.dr) ?_))|(show aA _ 91 _ _ _;refine CA (h:=MV (l:=s.l) h.sm (fun Bq dq=>?_))))
 refine iF (fun n a' C'=>∃(j:Nat) (s':Cn) (M':Option Addr) (mc':Nat),j+n=s.l.length∧s'.l=s.l.drop j∧bU B s'∧rJ s.dr.co ((s.l.drop j).map Sm.id) s'=rJ s.dr.co (s.l.map Sm.id) s∧cN a' [(0,.pointer (some ⟨x,0,none⟩)),(3,.int .i64 s.dr.co),(18,.slice Bq (s.l.map Sm.id).length dq),(19,.int .i64 s.l.length),(20,.int .i64 j)]∧C'=bT Bq dq 3 kH (s.l.map Sm.id)::b7 x a s' M' mc' R) s.l.length (b9 s.l.length ⟨0,s,M,mc,by omega,rfl,h,rfl,⟨rfl,rfl,rfl,(by simp;rfl),rfl,trivial⟩,rfl⟩ (by omega)) ?_
 rintro n a' C' ⟨j,s',M',mc',hj,hl,h',hc,ha,rfl⟩
 refine gF _ ha ?_
 simp only[eQ]
 by_cases hlt:j<s.l.length
 ·obtain⟨m,hm,hd⟩:=jP (l:=s.l) (j:=j) hlt
  rw[hd] at hl hc
  have hat:cB m.id s'.l=some m:=by rw[hl];exact EJ
  have hv:(s.l.map Sm.id)[((j:Nat):Int).toNat]?=some m.id:=by rw[Int.toNat_natCast,List.getElem?_map,hm];rfl
  repeat' (first|refine v45 ?_|refine wr ?_|refine w5 ?_ ?_|((refine bh fun h=>?_) <;> try exact w6 h)|(refine aE fun hA=>?_;subst hA)|intro _|(show aA _ 223 _ _ _;refine CA (h:=Bg h' hat (fun _ _=>?_))))
  all_goals(show aW _ _ _ _;exact b9 (n - 1) ⟨j+1,mE m.id s.dr.co false s',_,_,by omega,E4 hl,An h' hat,hc,⟨rfl,rfl,rfl,rfl,rfl,trivial⟩,rfl⟩)
 ·have hj0:j=s.l.length:=by omega
  subst hj0
  rw[List.drop_length] at hc hl
  have hc:s'=rJ s.dr.co (s.l.map Sm.id) s:=hc
  subst hc
  repeat' (first|refine v45 ?_|refine wr ?_|refine w5 ?_ ?_|((refine bh fun h=>?_) <;> try exact w6 h)|(refine aE fun hA=>?_;subst hA)|intro _|(show aA _ 271 _ _ _;refine CA (h:=QI (fun _=>?_))))
  all_goals(refine aC ?_;exact aB (hK _ _))
end
section
variable {R C:List HP} {K:Value→List HP→Prop} {x mc i b p:Nat} {a:Ca} {s:Cn} {M:Option Addr} {B id code k la c st w o:Int} {gone:Bool} {m m':Sm} {f:Fm}
theorem ZV (hl:y8 la) (hc:y8 c):dB (Eu la c):=by
 have h1:=(lV la).2 hl
 have h2:=(lV c).2 hc
 have h3:BW 0=true:=by decide
 have h4:Jg []=true:=Yn rfl
 have h5:(⟨#[]⟩:ByteArray)=ByteArray.empty:=rfl
 unfold dB k6 Eu
 simp[h1,h2,h3,h4,h5,BR]
theorem i0 (h:bU B s):bU B (i3 w o s):=
 Ka (s:= { s with dr:=B4 s.dr (l9 w o),last:=Pf (Eu s.la (l9 w o)) }) { h with }
def DN:Tr:=(.br (.st 1 1 (.st 2 1 (.st 3 1 (.st 4 1 (.st 5 2 (.br (.st 0 2 (.st 6 2 (.st 10 3 (.st 7 1 (.st 8 1 (.st 11 1 (.st 9 2 (.st 12 0 .nil)))))))) (.st 10 3 (.st 0 2 (.st 6 2 (.st 7 1 (.st 8 1 (.st 11 1 (.st 9 2 (.st 12 0 .nil)))))))))))))) (.st 10 3 (.st 1 1 (.st 2 1 (.st 3 1 (.st 4 1 (.st 5 2 (.st 0 2 (.st 6 2 (.st 7 1 (.st 8 1 (.st 11 1 (.st 9 2 (.st 12 0 .nil))))))))))))))
def Dp:List (Nat×Nat):= [(0,0),(1,0),(2,0),(3,0),(4,0),(5,0),(6,1)]
theorem dN (h:bU B s) (hw:0≤w∧w≤20) (ht:QE w=true) (hK:∀M mc,K (.tuple #[]) (b7 x a (i3 w o s) M mc R)):aA Tryz.prog 79 #[.pointer (some ⟨x,0,none⟩),.agg #[.int .i64 w,.int .i64 st,.int .i64 o]] (b7 x a s M mc R) K:=by
 have hla:=h.la
 have hc:=Ku (o:=o) hw
 have hr:=ZV hla (c:=l9 w o) ⟨by omega,by omega⟩
 unfold y8 at hla
 dsimp only[b7,mV]
 refine aH Tryz.func79 ?_
 repeat' (first|refine v31 ?_|refine Hi DN ?_|refine dw Dp ?_|refine wr ?_|refine w5 ?_ ?_|((refine bh fun h=>?_) <;> try exact w6 h)|(refine aE fun hA=>?_;subst hA)|intro _|(show aA _ 173 _ _ _;refine CA (h:=B8 ?_))|(show aA _ 172 _ _ _;refine CA (h:=Aeu hw ht hla ?_))|(show aA _ 174 _ _ _;refine CA (h:=Ab8 (d:=s.dr) ?_))|(show aA _ 175 _ _ _;refine CA (h:=P1 (ps:= []) (show k6 9 0 false ⟨#[]⟩ 0 0 0 false (l9 w o) s.la 0 [] from hr) eH rfl ?_))|(show aA _ 176 _ _ _;refine CA (h:=IS (x:=x) (a:=a) (s:= { s with dr:=B4 s.dr (l9 w o),last:=Pf (Eu s.la (l9 w o)) }) (M:=M) (mc:=mc) (R:=R) (B:=B) { h with } (fun _ _=>?_))))
 all_goals(refine aC ?_;exact aB (hK _ _))
theorem EI {out:List Fm} (h:PG out):PG (zA f out):=by
 obtain⟨h1,h2⟩:=h
 unfold zA
 split
 ·exact⟨h1,h2⟩
 ·rename_i he
  have he:Em f out=0:=Classical.byContradiction he
  unfold Em at he
  split at he
  ·cases he
  ·rename_i hc
   have hc:mQ f=true:=by cases hq:mQ f <;> first|exact absurd hq hc|rfl
   have hn:=Ge hc
   split at he
   ·cases he
   ·split at he
    ·rename_i hlt
     cases hy:out[u3 f out]? with
     |none=>exact absurd (List.getElem?_eq_none_iff.1 hy) (by omega)
     |some y=>
      refine⟨by simp only[List.length_set];exact h1,fun z hz=>?_⟩
      rcases List.mem_or_eq_of_mem_set hz with hz|rfl
      ·exact h2 z hz
      ·have:=h2 y (List.mem_of_getElem? hy)
       show 0≤y.n+f.n
       omega
    ·rename_i hlt
     split at he
     ·cases he
     ·have hy:out[u3 f out]?=none:=List.getElem?_eq_none_iff.2 (by omega)
      rw[hy]
      refine⟨by simp only[List.length_append,List.length_singleton];omega,fun z hz=>?_⟩
      rcases List.mem_append.1 hz with hz|hz
      ·exact h2 z hz
      ·rw[List.mem_singleton.1 hz];exact hn.1
theorem GG (h:bU B s):bU B (uG f s):=by
 unfold uG
 split
 ·exact { h with ou:=EI h.ou }
 ·exact i0 h
def uF:List (Nat×Nat):= [(0,0),(1,0),(2,0),(3,0),(4,0),(5,1),(6,0)]
theorem BA (h:bU B s) (hp:f.pa=none) (hp0:f.ps= []) (L2:f.pn=0) (hK:∀M mc,K (.tuple #[]) (b7 x a (uG f s) M mc R)):aA Tryz.prog 164 #[.pointer (some ⟨x,0,none⟩),.agg #[.int .i64 f.t,.int .i64 f.st,.bool f.e,.string f.d,.int .i64 f.k,.int .i64 f.on,.int .i64 f.w,.bool f.x,.int .i64 f.c,.int .i64 f.la,.int .i64 f.n,.slice f.pa f.pn f.pc]] (b7 x a s M mc R) K:=by
 unfold uG at hK
 by_cases he:Em f s.out=0
 ·rw[if_pos he] at hK
  dsimp only[b7,mV]
  refine aH Tryz.func164 ?_
  repeat' (first|refine v46 ?_|refine dw uF ?_|refine wr ?_|refine w5 ?_ ?_|((refine bh fun h=>?_) <;> try exact w6 h)|(refine aE fun hA=>?_;subst hA)|intro _|(show aA _ 60 _ _ _;refine CA (h:=kN (f:=f) h.ou (by rw[hp0];exact eH) (by rw[hp0,L2];rfl) (by rw[L2];decide) ?_);rw[he]))
  all_goals(refine aC ?_;exact aB (hK _ _))
 ·rw[if_neg he] at hK
  have hou:zA f s.out=s.out:=by unfold zA;rw[if_pos he]
  dsimp only[b7,mV]
  refine aH Tryz.func164 ?_
  repeat' (first|(show Br _ _ _;refine Br.t (by simpa using he) ?_)|refine v46 ?_|refine dw uF ?_|refine wr ?_|refine w5 ?_ ?_|((refine bh fun h=>?_) <;> try exact w6 h)|(refine aE fun hA=>?_;subst hA)|intro _|(show aA _ 60 _ _ _;refine CA (h:=kN (f:=f) h.ou (by rw[hp0];exact eH) (by rw[hp0,L2];rfl) (by rw[L2];decide) ?_);rw[hou])|(show aA _ 79 _ _ _;refine CA (h:=dN (x:=x) (a:=a) (s:=s) h (by decide) (by decide) (fun _ _=>?_))))
  all_goals(refine aC ?_;exact aB (hK _ _))
end
section
variable {R C:List HP} {K:Value→List HP→Prop} {x mc i b p r t:Nat} {a:Ca} {s:Cn} {M:Option Addr} {B id code k la c st w o:Int} {gone:Bool} {m m':Sm} {f:Fm} {y:Ys} {l:List Sm}
def smR (b r:Nat) (m:Sm):HP:=fF fun li=>fF fun t=>sep (pt b [.pointer (some ⟨li,0,none⟩),.pointer (some ⟨t,0,none⟩),.pointer (some ⟨r,0,none⟩),.int .i64 m.id,.bool m.own] 258) (sep (pG li m.sta) (sep (AS t m.x) (bI (wZ m))))
def smT (b t:Nat) (m:Sm):HP:=fF fun li=>fF fun r=>sep (pt b [.pointer (some ⟨li,0,none⟩),.pointer (some ⟨t,0,none⟩),.pointer (some ⟨r,0,none⟩),.int .i64 m.id,.bool m.own] 258) (sep (pG li m.sta) (sep (Bn r m.y) (bI (wZ m))))
theorem Z4 {li t r:Nat} (h:wZ m):aG (Bn r m.y::pt b [.pointer (some ⟨li,0,none⟩),.pointer (some ⟨t,0,none⟩),.pointer (some ⟨r,0,none⟩),.int .i64 m.id,.bool m.own] 258::pG li m.sta::AS t m.x::R) (Bn r m.y::smR b r m::R):=
 aG.cons (aG.ex li (aG.ex t (qN h)))
theorem Aac {li t r:Nat} (h:wZ m):aG (AS t m.x::pt b [.pointer (some ⟨li,0,none⟩),.pointer (some ⟨t,0,none⟩),.pointer (some ⟨r,0,none⟩),.int .i64 m.id,.bool m.own] 258::pG li m.sta::Bn r m.y::R) (AS t m.x::smT b t m::R):=
 aG.cons (aG.ex li (aG.ex r (qN h)))
theorem T2 {f:FuncId} {args:Array Value} (h:wZ m→aA Tryz.prog f args (rR b m::R) K):aA Tryz.prog f args (rR b m::R) K:=
 mT fun _ _ _ hok=>aA.ent (cO hok) (h hok)
theorem nM (hK:∀r,K (.pointer (some ⟨r,0,none⟩)) (Bn r m.y::smR b r m::R)):aA Tryz.prog 89 #[.pointer (some ⟨b,0,none⟩)] (rR b m::R) K:=by
 refine mT fun li t r h=>?_
 refine aH Tryz.func89 ?_
 repeat' (first|refine v4 ?_|refine wr ?_|refine w5 ?_ ?_|((refine bh fun h=>?_) <;> try exact w6 h)|(refine aE fun hA=>?_;subst hA)|intro _)
 (refine aC ?_;exact aL (aG.trans (by exact bA) ((Z4 h))) (hK _))
theorem ML (hK:∀t,K (.pointer (some ⟨t,0,none⟩)) (AS t m.x::smT b t m::R)):aA Tryz.prog 86 #[.pointer (some ⟨b,0,none⟩)] (rR b m::R) K:=by
 refine mT fun li t r h=>?_
 refine aH Tryz.func86 ?_
 repeat' (first|refine v4 ?_|refine wr ?_|refine w5 ?_ ?_|((refine bh fun h=>?_) <;> try exact w6 h)|(refine aE fun hA=>?_;subst hA)|intro _)
 (refine aC ?_;exact aL (aG.trans (by exact bA) ((Aac h))) (hK _))
theorem k8 (hy:jI y=jI m.y):aG (Bn r y::smR b r m::R) (rR b { m with y:=y }::R):=fun H hs=>by
 have hs:=bY.swap hs
 obtain⟨li,hs⟩:=hs.ex
 obtain⟨t,hs⟩:=hs.ex
 obtain⟨hok,hs⟩:=(sC H hs).pure
 have hok':wZ { m with y:=y }:=⟨hok.1.trans hy.symm,hok.2⟩
 exact cO (li:=li) (t:=t) (r:=r) hok' H hs
theorem Ic {z:Xs} (hy:bD z=bD m.x):aG (AS t z::smT b t m::R) (rR b { m with x:=z }::R):=fun H hs=>by
 have hs:=bY.swap hs
 obtain⟨li,hs⟩:=hs.ex
 obtain⟨r,hs⟩:=hs.ex
 obtain⟨hok,hs⟩:=(sC H hs).pure
 have hok':wZ { m with x:=z }:=⟨hy.trans hok.1,hok.2⟩
 exact cO (li:=li) (t:=t) (r:=r) hok' H (hs.perm (List.Perm.cons _ (List.Perm.cons _ (List.Perm.swap _ _ _))))
theorem Hh {t:Int}:∀l:List Sm,cE t l=((l.map Sm.id).takeWhile fun k=>decide (k<t)).length
 | []=>rfl
 |e::r=>by
  have ih:=Hh (t:=t) r
  unfold cE at ih ⊢
  rw[List.map_cons,List.takeWhile_cons,List.takeWhile_cons]
  split
  ·rw[List.length_cons,List.length_cons,ih]
  ·rfl
theorem CB (hi:l[i]?=some m) (hid:m'.id=m.id):(l.set i m').map Sm.id=l.map Sm.id:=by
 rw[List.map_set,hid]
 exact kE i (by rw[List.getElem?_map,hi];rfl)
theorem Pk {t:Int} (hi:l[i]?=some m) (hid:m'.id=m.id):cE t (l.set i m')=cE t l:=by
 rw[Hh,Hh,CB hi hid]
theorem mB (hm:cB id l=some m) (hid:m'.id=m.id):cB m'.id (l.set (cE id l) m')=some m':=by
 obtain⟨h1,h2⟩:=aU hm
 have hlt:=(List.getElem?_eq_some_iff.1 h1).1
 unfold cB
 rw[Pk h1 hid,hid,h2,List.getElem?_set_self hlt]
 simp only[hid,h2,if_true]
theorem Xa (hm:cB id l=some m) (hid:m'.id=m.id):(l.set (cE id l) m').eraseIdx (cE m.id (l.set (cE id l) m'))=l.eraseIdx (cE m.id l):=by
 obtain⟨h1,h2⟩:=aU hm
 rw[Pk h1 hid,h2,List.eraseIdx_set_eq]
theorem nP {b:Bool}:∀l:List Sm,(l.filter fun m=>m.own == b).length=((l.map Sm.own).filter fun q=>q == b).length
 | []=>rfl
 |m::l=>by
  rw[List.map_cons,List.filter_cons,List.filter_cons]
  split
  ·rw[List.length_cons,List.length_cons,nP l]
  ·exact nP l
theorem Mb {b:Bool} (hi:l[i]?=some m) (ho:m'.own=m.own):((l.set i m').filter fun m=>m.own == b).length=(l.filter fun m=>m.own == b).length:=by
 rw[nP,nP,List.map_set,ho,kE i (by rw[List.getElem?_map,hi];rfl)]
theorem lP (h:bU B s) (hi:s.l[i]?=some m) (hid:m'.id=m.id) (ho:m'.own=m.own) (hm:Fs B m'):bU B { s with l:=s.l.set i m' }:=
 { h with
   sm:=Ad8 h.sm hi hid
   st:=fun z hz=>by
    rcases List.mem_or_eq_of_mem_set hz with hz|rfl
    ·exact h.st z hz
    ·exact hm
   ids:=fun z hz=>by
    rcases List.mem_or_eq_of_mem_set hz with hz|rfl
    ·exact h.ids z hz
    ·have:=h.ids m (List.mem_of_getElem? hi)
     show oY s.sd s.nx s.la z.id=true
     rw[hid];exact this
   own:=fun b=>by
    show((s.l.set i m').filter fun m=>m.own == b).length≤32
    rw[Mb hi ho];exact h.own b
   mv:=by
    have:=h.mv
    show(s.mv.length:Int)+((s.l.set i m').length:Int)≤B
    rw[List.length_set];exact this }
theorem Ahm {y:Yp} (h:I8 B y):I8 B (gA y k):=by
 unfold I8 at h
 unfold gA
 split
 ·unfold I8;dsimp only;omega
 ·exact h
theorem pU (h:bU B s):bU B { s with rv:=gA s.rv k }:= { h with rv:=Ahm h.rv }
theorem Aa5 (h:Fs B m):Fs B (BK m):=by
 obtain⟨h1,h2,h3,h4⟩:=h
 unfold BK
 split
 ·refine⟨h1,?_,?_,?_⟩
  ·cases hx:m.x <;> rw[hx] at h2 <;> exact h2
  ·cases hy:m.y <;> rw[hy] at h3 <;> exact h3
  ·cases hy:m.y <;> (rw[hy] at h4;simp only[Dl,gT,List.length_nil] at h4 ⊢;omega)
 ·exact⟨h1,h2,h3,h4⟩
theorem Ae5 (h:Fs B m):Fs B { m with y:=Dl m.y }:=by
 obtain⟨h1,h2,h3,h4⟩:=h
 refine⟨h1,h2,?_,?_⟩
 ·cases hy:m.y <;> rw[hy] at h3 <;> exact h3
 ·cases hy:m.y <;> (rw[hy] at h4;simp only[Dl,gT,List.length_nil] at h4 ⊢;omega)
theorem Aa9:(BK m).id=m.id:=by unfold BK;split <;> rfl
theorem UI:(BK m).own=m.own:=by unfold BK;split <;> rfl
theorem Ahv:bD (BK m).x=bD m.x:=by
 unfold BK
 split
 ·cases hx:m.x <;> simp only[Agy] <;> rfl
 ·rfl
theorem Ait:jI (Dl y)=jI y:=by cases y <;> rfl
theorem Akq (hok:wZ m) (h1:bD m.x=1):Jw m+(gT (BK m).y:Nat)=(gT m.y:Nat):=by
 have h2:=hok.1
 rw[h1] at h2
 cases hy:m.y with
 |i z=>rw[hy] at h2;cases h2
 |b z=>
  unfold Jw BK
  split
  ·rw[hy];simp[Dl,gT]
  ·rw[hy];simp
theorem Aip (hok:wZ m) (h1:bD m.x≠1):Jw m=0:=by
 have h2:=hok.1
 cases hy:m.y with
 |b z=>rw[hy] at h2;exact absurd h2 h1
 |i z=>
  unfold Jw
  rw[hy]
  split <;> rfl
theorem Np (hm:cB id s.l=some m) (hid:m'.id=m.id):mE m'.id code gone { s with l:=s.l.set (cE id s.l) m' }=mE m.id code gone s:=by
 unfold mE
 dsimp only
 rw[hid,Xa hm hid]
theorem sE (h:bU B s) (hm:cB id s.l=some m):bU B (s6 m code s):=by
 have h2:=(aU hm).2
 have h1:cB m.id s.l=some m:=by rw[h2];exact hm
 exact An (pU h) (id:=m.id) (m:=m) h1
theorem Be {ev:Int} (h:bU B s) (hm:cB id s.l=some m) (he:ev=4∨ev=5) (hK:∀M mc,K (.tuple #[]) (b7 x a (s6 m code s) M mc R)):aA Tryz.prog 254 #[.pointer (some ⟨x,0,none⟩),.pointer (some ⟨b,0,none⟩),.int .i64 ev,.int .i64 code] (rR b m::cnH x a s M mc (cE id s.l) b R) K:=by
 refine T2 fun hok=>?_
 obtain⟨hi,hmid⟩:=aU hm
 have hI:=h.st m (List.mem_of_getElem? hi)
 have hln:=hI.ln
 have hB:=h.bb
 have hrv:=h.rv
 unfold I8 at hrv
 unfold s6 at hK
 by_cases h1:bD m.x=1
 ·rw[if_pos h1] at hK
  have hn:=Akq hok h1
  have hid2:({ BK m with y:=Dl (BK m).y }:Sm).id=m.id:=Aa9
  have hI2:bU B { { s with rv:=gA s.rv (gT m.y:Nat) } with l:=s.l.set (cE id s.l) { BK m with y:=Dl (BK m).y } }:=lP (s:= { s with rv:=gA s.rv (gT m.y:Nat) }) (pU h) hi hid2 UI (Ae5 (Aa5 hI))
  have hK':=hK
  rw[← Np (s:= { s with rv:=gA s.rv (gT m.y:Nat) }) (m:=m) (m':= { BK m with y:=Dl (BK m).y }) (id:=id) hm hid2] at hK'
  have h0:0≤Jw m∧Jw m≤gT m.y:=by
   unfold Jw
   split
   ·cases hy:m.y with
    |b z=>simp[gT]
    |i z=>simp[gT]
   ·omega
  dsimp only[cnH,mV]
  refine aH Tryz.func254 ?_
  repeat' (first|refine FL ?_|refine wr ?_|refine w5 ?_ ?_|((refine bh fun h=>?_) <;> try exact w6 h)|(refine aE fun hA=>?_;subst hA)|intro _|(show aA _ 337 _ _ _;refine CA (h:=Of (m:=m) he ?_))|(show aA _ 107 _ _ _;refine CA (h:=jF (m:=BK m) ?_);rw[Ahv,h1])|(show aA _ 89 _ _ _;refine CA (h:=nM (m:=BK m) (fun _=>?_)))|(show aA _ 338 _ _ _;refine CA (h:=Aet (y:=(BK m).y) ?_))|(show aA _ 118 _ _ _;rw[hn];refine CA (h:=uM (y:=s.rv) (by omega) (by omega) (fun _=>?_)))|(show aA _ 224 _ _ _;refine CA (h:=aA.ent (k8 Ait) (Ln (m:= { BK m with y:=Dl (BK m).y }) ?_)))|(show aA _ 223 _ _ _;refine CA (h:=aA.ent (mO (x:=x) (a:=a) (s:= { s with rv:=gA s.rv (gT m.y:Nat) }) (M:=M) (mc:=mc) (R:=R) (b:=b) (m':= { BK m with y:=Dl (BK m).y }) hi hid2) (Bg hI2 (mB hm hid2) (fun _ _=>?_)))))
  all_goals(refine aC ?_;exact aB (hK' _ _))
 ·rw[if_neg h1] at hK
  have hn:=Aip hok h1
  have hid2:(BK m).id=m.id:=Aa9
  have hI2:bU B { { s with rv:=gA s.rv 0 } with l:=s.l.set (cE id s.l) (BK m) }:=lP (s:= { s with rv:=gA s.rv 0 }) (pU h) hi hid2 UI (Aa5 hI)
  have hK':=hK
  rw[← Np (s:= { s with rv:=gA s.rv 0 }) (m:=m) (m':=BK m) (id:=id) hm hid2] at hK'
  have hk1:bD (BK m).x≠1:=by rw[Ahv];exact h1
  dsimp only[cnH,mV]
  refine aH Tryz.func254 ?_
  repeat' (first|(show Br _ _ _;refine Br.f (by simpa using hk1) ?_)|refine FL ?_|refine wr ?_|refine w5 ?_ ?_|((refine bh fun h=>?_) <;> try exact w6 h)|(refine aE fun hA=>?_;subst hA)|intro _|(show aA _ 337 _ _ _;refine CA (h:=Of (m:=m) he ?_);rw[hn])|(show aA _ 107 _ _ _;refine CA (h:=jF (m:=BK m) ?_))|(show aA _ 118 _ _ _;refine CA (h:=uM (y:=s.rv) (by omega) (by omega) (fun _=>?_)))|(show aA _ 224 _ _ _;refine CA (h:=Ln (m:=BK m) ?_))|(show aA _ 223 _ _ _;refine CA (h:=aA.ent (mO (x:=x) (a:=a) (s:= { s with rv:=gA s.rv 0 }) (M:=M) (mc:=mc) (R:=R) (b:=b) (m':=BK m) hi hid2) (Bg hI2 (mB hm hid2) (fun _ _=>?_)))))
  all_goals(refine aC ?_;exact aB (hK' _ _))
end
section
variable {R C:List HP} {K:Value→List HP→Prop} {x mc i b p r t:Nat} {a:Ca} {s:Cn} {M:Option Addr} {B id code k la c st w o on sg kind:Int} {gone own xx:Bool} {m m':Sm} {f:Fm} {y:Ys} {l:List Sm} {cf:Cf} {h3:eJ}
theorem qH (h:bU B s):bU B (kZ w st s):=by
 unfold kZ
 split
 ·exact i0 h
 ·refine GG ?_
  cases hm:cB st s.l with
  |none=>exact h
  |some m=>exact sE h hm
def m8:List (Nat×Nat):= [(0,0),(1,0),(2,0),(3,0),(4,0),(5,0),(6,1),(7,0),(8,0),(9,0),(10,0),(11,0)]
theorem jV (h:bU B s) (hw:0≤w∧w≤20) (hst:1≤st∧st≤2147483647) (hK:∀M mc,K (.tuple #[]) (b7 x a (kZ w st s) M mc R)):aA Tryz.prog 257 #[.pointer (some ⟨x,0,none⟩),.agg #[.int .i64 w,.int .i64 st,.int .i64 0]] (b7 x a s M mc R) K:=by
 unfold kZ at hK
 cases ht:QE w
 ·rw[ht,if_neg Bool.false_ne_true] at hK
  cases hm:cB st s.l with
  |none=>
   rw[hm] at hK
   dsimp only[b7,mV]
   refine aH Tryz.func257 ?_
   repeat' (first|refine v31 ?_|refine dw m8 ?_|refine wr ?_|refine w5 ?_ ?_|((refine bh fun h=>?_) <;> try exact w6 h)|(refine aE fun hA=>?_;subst hA)|intro _|(show aA _ 265 _ _ _;refine CA (h:=xK hw ?_);rw[ht])|(show aA _ 172 _ _ _;refine CA (h:=Tq hw ht hst ?_))|(show aA _ 192 _ _ _;refine CA (h:=nF (l:=s.l) h.sm hm ?_))|(show aA _ 164 _ _ _;refine CA (h:=BA (x:=x) (a:=a) (s:=s) (M:=M) (mc:=mc) (R:=R) (f:=mN st (l9 w 0)) h rfl rfl rfl (fun _ _=>?_))))
   all_goals(refine aC ?_;exact aB (hK _ _))
  |some m=>
   rw[hm] at hK
   dsimp only[b7,mV]
   refine aH Tryz.func257 ?_
   repeat' (first|refine v31 ?_|refine dw m8 ?_|refine wr ?_|refine w5 ?_ ?_|((refine bh fun h=>?_) <;> try exact w6 h)|(refine aE fun hA=>?_;subst hA)|intro _|(show aA _ 265 _ _ _;refine CA (h:=xK hw ?_);rw[ht])|(show aA _ 172 _ _ _;refine CA (h:=Tq hw ht hst ?_))|(show aA _ 192 _ _ _;refine CA (h:=gG (l:=s.l) h.sm hm (fun _=>?_)))|(show aA _ 254 _ _ _;refine CA (h:=Be (x:=x) (a:=a) (s:=s) (M:=M) (mc:=mc) (m:=m) h hm (.inl rfl) (fun _ _=>?_)))|(show aA _ 164 _ _ _;refine CA (h:=BA (x:=x) (a:=a) (s:=s6 m (l9 w 0) s) (f:=mN st (l9 w 0)) (sE h hm) rfl rfl rfl (fun _ _=>?_))))
   all_goals(refine aC ?_;exact aB (hK _ _))
 ·rw[ht,if_pos rfl] at hK
  refine aH Tryz.func257 ?_
  repeat' (first|refine v31 ?_|refine dw m8 ?_|refine wr ?_|refine w5 ?_ ?_|((refine bh fun h=>?_) <;> try exact w6 h)|(refine aE fun hA=>?_;subst hA)|intro _|(show aA _ 265 _ _ _;refine CA (h:=xK hw ?_);rw[ht])|(show aA _ 79 _ _ _;refine CA (h:=dN (x:=x) (a:=a) (s:=s) h hw ht (fun _ _=>?_))))
  all_goals(refine aC ?_;exact aB (hK _ _))
theorem pJ {n m:Nat} {I:Nat→Fr→List HP→Prop} {a:Fr} {C C':List HP} (hm:m<n) (he:aG C C') (hi:I m a C'):aW n I a C:=b9 m hi hm he
theorem sK (hI:bU B s) (hK:K (.int .i64 (fG s own:Nat)) (b7 x a s M mc R)):aA Tryz.prog 84 #[.pointer (some ⟨x,0,none⟩),.bool own] (b7 x a s M mc R) K:=by
 have h64:=hI.sm.1
 refine aH Tryz.func84 ?_
 repeat' (first|refine FL ?_|refine wr ?_|refine w5 ?_ ?_|((refine bh fun h=>?_) <;> try exact w6 h)|(refine aE fun hA=>?_;subst hA)|intro _|(show aA _ 83 _ _ _;refine CA (h:=x4 (l:=s.l) ?_)))
 refine iF (fun n a' C'=>∃(j q:Nat),j+n=s.l.length∧q≤j∧q+((s.l.drop j).filter fun m=>m.own == own).length=fG s own∧cN a' [(0,.pointer (some ⟨x,0,none⟩)),(1,.bool own),(5,.int .i64 q),(14,.int .i64 s.l.length),(15,.int .i64 j)]∧C'=b7 x a s M mc R) s.l.length (b9 s.l.length ⟨0,0,by omega,by omega,by unfold fG;simp,⟨rfl,rfl,rfl,rfl,rfl,trivial⟩,rfl⟩ (by omega)) ?_
 rintro n a' C' ⟨j,q,hj,hq,hc,ha,rfl⟩
 refine gF _ ha ?_
 simp only[eQ]
 by_cases hlt:j<s.l.length
 ·obtain⟨m,hm,hd⟩:=jP (l:=s.l) (j:=j) hlt
  rw[hd,List.filter_cons] at hc
  cases ho:(m.own == own)
  ·rw[ho,if_neg Bool.false_ne_true] at hc
   have hne:m.own≠own:=by simpa using ho
   repeat' (first|(show Br _ _ _;refine Br.f (by simpa using hne) ?_)|refine FL ?_|refine wr ?_|refine w5 ?_ ?_|((refine bh fun h=>?_) <;> try exact w6 h)|(refine aE fun hA=>?_;subst hA)|intro _|(show aA _ 85 _ _ _;refine CA (h:=EA (l:=s.l) hI.sm hm (fun _=>?_)))|(show aA _ 178 _ _ _;refine CA (h:=zH (m:=m) ?_)))
   all_goals(show aW _ _ _ _;exact pJ (m:=n - 1) (by omega) (aG.trans (by exact bA) (dD (x:=x) (a:=a) (s:=s) (M:=M) (mc:=mc) (R:=R) hm)) ⟨j+1,q,by omega,by omega,hc,⟨rfl,rfl,rfl,rfl,rfl,trivial⟩,rfl⟩)
  ·rw[ho,if_pos rfl,List.length_cons] at hc
   have hne:m.own=own:=by simpa using ho
   repeat' (first|(show Br _ _ _;refine Br.t (by simpa using hne) ?_)|refine FL ?_|refine wr ?_|refine w5 ?_ ?_|((refine bh fun h=>?_) <;> try exact w6 h)|(refine aE fun hA=>?_;subst hA)|intro _|(show aA _ 85 _ _ _;refine CA (h:=EA (l:=s.l) hI.sm hm (fun _=>?_)))|(show aA _ 178 _ _ _;refine CA (h:=zH (m:=m) ?_)))
   all_goals(show aW _ _ _ _;exact pJ (m:=n - 1) (by omega) (aG.trans (by exact bA) (dD (x:=x) (a:=a) (s:=s) (M:=M) (mc:=mc) (R:=R) hm)) ⟨j+1,q+1,by omega,by omega,by omega,⟨rfl,rfl,rfl,rfl,rfl,trivial⟩,rfl⟩)
 ·have hj0:j=s.l.length:=by omega
  subst hj0
  rw[List.drop_length] at hc
  have hc:q=fG s own:=by simpa using hc
  subst hc
  repeat' (first|refine FL ?_|refine wr ?_|refine w5 ?_ ?_|((refine bh fun h=>?_) <;> try exact w6 h)|(refine aE fun hA=>?_;subst hA)|intro _)
  all_goals(refine aC ?_;exact aB (hK))
theorem Pz (hk:kind=1∨kind=2) (hid:1≤id∧id≤2147483647) (hb:0≤cf.sb∧cf.sb≤4096) (hi:0≤cf.si∧cf.si≤64) (hg:0≤sg∧sg≤2) (hh:wD h3) (hK:∀b,K (.tuple #[.pointer (some ⟨b,0,none⟩),.int .i64 0]) (rR b (iB cf h3 id kind sg own)::R)):aA Tryz.prog 139 #[.int .i64 id,.int .i64 kind,.bool own,.agg #[.int .i64 h3.w,.int .i64 h3.st,.int .i64 h3.it,.int .i64 cf.sb,.int .i64 cf.si,.int .i64 sg,.int .i64 cf.ev,.int .i64 cf.wa,.int .i64 cf.sl]] R K:=by
 obtain⟨cw,cst,cit,sb,si,csg,ev,wa,sl⟩:=cf
 obtain⟨cap,rfl⟩:∃n:Nat,sb=n:=⟨sb.toNat,(Int.toNat_of_nonneg hb.1).symm⟩
 obtain⟨cai,rfl⟩:∃n:Nat,si=n:=⟨si.toNat,(Int.toNat_of_nonneg hi.1).symm⟩
 have e1:((cap:Nat):Int).toNat=cap:=Int.toNat_natCast cap
 have e2:((cai:Nat):Int).toNat=cai:=Int.toNat_natCast cai
 rcases hk with rfl|rfl
 ·have e:iB ⟨cw,cst,cit,(cap:Nat),(cai:Nat),csg,ev,wa,sl⟩ h3 id 1 sg own=⟨id,own,1,.b ⟨cap,[],false,false,0,0,0⟩,.b ⟨h3.w,h3.w,h3.w,0,0,[],false⟩⟩:=by
   unfold iB;rw[if_pos rfl];dsimp only;rw[e1]
  rw[e] at hK
  exact aA.entK (PL hid (by simp only at hb;omega) hh fun b li t r=>⟨_,cO (m:=⟨id,own,1,.b ⟨cap,[],false,false,0,0,0⟩,.b ⟨h3.w,h3.w,h3.w,0,0,[],false⟩⟩) ⟨rfl,.inl rfl⟩,hK b⟩)
 ·have e:iB ⟨cw,cst,cit,(cap:Nat),(cai:Nat),csg,ev,wa,sl⟩ h3 id 2 sg own=⟨id,own,1,.i ⟨cai,sg,[],0,false,false,0,0,0⟩,.i ⟨h3.it,h3.it,0,0,[],0,0,0,false⟩⟩:=by
   unfold iB;rw[if_neg (by decide)];dsimp only;rw[e2]
  rw[e] at hK
  exact aA.entK (Ow hid (by simp only at hi;omega) hg hh fun b li t r=>⟨_,cO (m:=⟨id,own,1,.i ⟨cai,sg,[],0,false,false,0,0,0⟩,.i ⟨h3.it,h3.it,0,0,[],0,0,0,false⟩⟩) ⟨rfl,.inl rfl⟩,hK b⟩)
theorem Ox (he:m.id=id) (hs:F4 l) (hm:cB id l=none) (h64:l.length<64) (hK:K (.int .i64 0) (IN p (kS m l)::R)):aA Tryz.prog 215 #[.pointer (some ⟨p,0,none⟩),.int .i64 id,.pointer (some ⟨b,0,none⟩)] (rR b m::IN p l::R) K:=by
 subst he;exact Aga hs hm h64 hK
theorem TK {b:Bool}:((kS m l).filter fun m=>m.own == b).length=(l.filter fun m=>m.own == b).length+if m.own == b then 1 else 0:=by
 have h:(l.filter fun m=>m.own == b).length=((l.take (cE m.id l)).filter fun m=>m.own == b).length+((l.drop (cE m.id l)).filter fun m=>m.own == b).length:=by
  rw[← List.length_append,← List.filter_append,List.take_append_drop]
 unfold kS
 rw[h,List.filter_append,List.length_append,List.filter_cons]
 split <;> first|(simp only[List.length_cons];omega)|omega
theorem TN (hI:bU B s) (hm:cB id s.l=none) (hl:s.l.length<64) (hid:1≤id∧id≤2147483647) (hp:oY s.sd s.nx s.la id=true) (ho:fG s own<32) (hb:(s.mv.length:Int)+s.l.length+1≤B):bU B (G5 id kind on w xx own sg s):=
 { hI with
   sm:=Af8 (m:=iB s.cf s.sh.h id kind sg own) hI.sm (by
    have e:(iB s.cf s.sh.h id kind sg own).id=id:=by unfold iB;split <;> rfl
    rw[e];exact hm) hl
   st:=fun z hz=>by
    have hB:=hI.bb
    rcases AO hz with rfl|hz
    ·unfold iB
     split
     ·exact⟨hid,by show(0:Int)≤B;omega,by show(0:Int)≤B;omega,by show((0:Nat):Int)≤B;omega⟩
     ·exact⟨hid,by show(0:Int)≤B;omega,by show(0:Int)≤B;omega,by show((0:Nat):Int)≤B;omega⟩
    ·exact hI.st z hz
   ids:=fun z hz=>by
    rcases AO hz with rfl|hz
    ·have e:(iB s.cf s.sh.h id kind sg own).id=id:=by unfold iB;split <;> rfl
     show oY s.sd s.nx s.la _=true
     rw[e];exact hp
    ·exact hI.ids z hz
   own:=fun b=>by
    have e:(iB s.cf s.sh.h id kind sg own).own=own:=by unfold iB;split <;> rfl
    show((kS (iB s.cf s.sh.h id kind sg own) s.l).filter fun m=>m.own == b).length≤32
    rw[TK,e]
    have h1:=hI.own b
    unfold fG at h1 ho
    split
    ·rename_i hb
     have hb:own=b:=by simpa using hb
     subst hb;omega
    ·omega
   tr:=Afa hI.tr
   ld:=by
    show FY B (if kind=1 then lN id s.pe.w s.ld else s.ld)
    split
    ·exact Zo hI.ld
    ·exact hI.ld
   mv:=by
    show(s.mv.length:Int)+((kS _ s.l).length:Int)≤B
    have e:(kS (iB s.cf s.sh.h id kind sg own) s.l).length≤s.l.length+1:=by
     unfold kS
     rw[List.length_append,List.length_cons,List.length_take,List.length_drop]
     omega
    omega }
def vR:List (Nat×Nat):= [(0,0),(1,0),(2,0),(3,0),(4,0),(5,0),(6,1)]
def u2:List (Nat×Nat):= [(0,0),(1,0),(2,0),(3,0),(4,0),(5,0),(6,0),(7,0),(8,0),(9,0),(10,1)]
theorem O0 (hI:bU B s) (hk:kind=1∨kind=2) (hg:0≤sg∧sg≤2) (hm:cB id s.l=none) (hl:s.l.length<64) (hid:1≤id∧id≤2147483647) (hK:K (.int .i64 0) (b7 x a (G5 id kind on w xx own sg s) M mc R)):aA Tryz.prog 115 #[.pointer (some ⟨x,0,none⟩),.int .i64 id,.int .i64 kind,.bool own,.agg #[.int .i64 on,.int .i64 w,.bool xx],.int .i64 sg] (b7 x a s M mc R) K:=by
 have hB:=hI.bb
 have htl:=hI.tr.len
 have he:(iB s.cf s.sh.h id kind sg own).id=id:=by unfold iB;split <;> rfl
 unfold G5 at hK
 by_cases h1:kind=1
 ·simp only[if_pos h1] at hK
  dsimp only[b7,mV] at hK ⊢
  refine aH Tryz.func115 ?_
  repeat' (first|(show Br _ _ _;refine Br.t (by simpa using h1) ?_)|refine XO ?_|refine dw vR ?_|refine dw u2 ?_|refine wr ?_|refine w5 ?_ ?_|((refine bh fun h=>?_) <;> try exact w6 h)|(refine aE fun hA=>?_;subst hA)|intro _|(show aA _ 214 _ _ _;refine CA (h:=yM (s:=s.sh) ?_))|(show aA _ 139 _ _ _;refine CA (h:=Pz (cf:=s.cf) (h3:=s.sh.h) hk hid hI.cf.1 hI.cf.2.1 hg hI.sh.2.1 (fun _=>?_)))|(show aA _ 215 _ _ _;refine CA (h:=Ox (l:=s.l) (m:=iB s.cf s.sh.h id kind sg own) he hI.sm hm hl ?_))|(show aA _ 216 _ _ _;refine CA (h:=FQ (s:=s.tr) hI.tr.kok (by omega) (by decide) ?_))|(show aA _ 217 _ _ _;refine CA (h:=V6 (hI.ld.ok (by omega)) (fun _=>?_))))
  all_goals(refine aC ?_;exact aB (hK))
 ·simp only[if_neg h1] at hK
  dsimp only[b7,mV] at hK ⊢
  refine aH Tryz.func115 ?_
  repeat' (first|(show Br _ _ _;refine Br.f (by first|(simp <;> done)|simpa using h1) ?_)|refine XO ?_|refine dw vR ?_|refine dw u2 ?_|refine wr ?_|refine w5 ?_ ?_|((refine bh fun h=>?_) <;> try exact w6 h)|(refine aE fun hA=>?_;subst hA)|intro _|(show aA _ 214 _ _ _;refine CA (h:=yM (s:=s.sh) ?_))|(show aA _ 139 _ _ _;refine CA (h:=Pz (cf:=s.cf) (h3:=s.sh.h) hk hid hI.cf.1 hI.cf.2.1 hg hI.sh.2.1 (fun _=>?_)))|(show aA _ 215 _ _ _;refine CA (h:=Ox (l:=s.l) (m:=iB s.cf s.sh.h id kind sg own) he hI.sm hm hl ?_))|(show aA _ 216 _ _ _;refine CA (h:=FQ (s:=s.tr) hI.tr.kok (by omega) (by decide) ?_)))
  all_goals(refine aC ?_;exact aB (hK))
end
section
variable {R C:List HP} {K:Value→List HP→Prop} {x mc i b p r t:Nat} {a:Ca} {s:Cn} {M:Option Addr} {B B' id code k la c st w o on sg kind:Int} {gone own xx:Bool} {m m':Sm} {f:Fm} {y:Ys} {l:List Sm} {cf:Cf} {h3:eJ} {z:Yp}
theorem Fs.mono (h:Fs B m) (hB:B≤B'):Fs B' m:=by
 obtain⟨h1,h2,h3,h4⟩:=h
 exact⟨h1,by omega,by omega,by omega⟩
theorem bU.mono (h:bU B s) (hB:B≤B') (hb:B'≤250000000):bU B' s:=
 { h with
   bb:=by have:=h.bb;omega
   st:=fun z hz=>(h.st z hz).mono hB
   ld:=h.ld.mono hB
   rv:=by have:=h.rv;unfold I8 at this ⊢;omega
   bt:=by have:=h.bt;omega
   sl:=by have:=h.sl;omega
   inb:=by have:=h.inb;omega
   now:=by have:=h.now;omega
   mv:=by have:=h.mv;omega }
theorem nD (hb:I8 B z) (hB:B≤250000000) (hk:0≤k∧k≤900000000) (hK:K (.int .i64 (lJ z k)) (zD p (gJ z k).cap (gJ z k).most (gJ z k).gr (gJ z k).got (gJ z k).us::R)):aA Tryz.prog 260 #[.pointer (some ⟨p,0,none⟩),.int .i64 k] (zD p z.cap z.most z.gr z.got z.us::R) K:=by
 unfold I8 at hb
 by_cases h:max (z.gr - z.got) 0<k
 ·have e:lJ z k=9:=by unfold lJ;rw[if_pos h]
  unfold gJ at hK
  rw[e] at hK
  simp only[if_neg (show ¬(9:Int)=0 by decide)] at hK
  exact Ky h (by omega) hK
 ·have e:lJ z k=0:=by unfold lJ;rw[if_neg h]
  unfold gJ at hK
  rw[e] at hK
  simp only[if_true] at hK
  exact Ih (by omega) (by omega) hK
theorem Ahk (h:I8 B z) (hk:0≤k∧k≤B' - B):I8 B' (gJ z k):=by
 unfold I8 at h
 by_cases hg:lJ z k=0
 ·have e:gJ z k= { z with got:=z.got+k }:=by unfold gJ;rw[if_pos hg]
  rw[e]
  unfold lJ at hg
  by_cases h0:max (z.gr - z.got) 0<k
  ·rw[if_pos h0] at hg;cases hg
  ·unfold I8;dsimp only;omega
 ·have e:gJ z k=z:=by unfold gJ;rw[if_neg hg]
  rw[e]
  unfold I8;omega
theorem Kn {d:ByteArray} {e:Bool}:0≤gZ m t d e∧gZ m t d e≤20:=by
 unfold gZ
 split
 ·omega
 ·split
  ·omega
  ·unfold yO
   split <;> (split <;> (try split) <;> omega)
theorem Zk {d:ByteArray} {e:Bool} (h:Fs B m) (hd:d.size≤256) (hB:B+300≤B'):Fs B' (fT m d e):=by
 obtain⟨h1,h2,h3,h4⟩:=h
 refine⟨h1,by show Kv m.x≤B';omega,?_,?_⟩
 ·show Jr (B9 m.y d e)≤B'
  cases hy:m.y with
  |b y=>rw[hy] at h3;simp only[B9,Jr] at h3 ⊢;omega
  |i y=>
   rw[hy] at h3
   by_cases hc:d≠⟨#[]⟩∨e=false
   ·simp only[B9,if_pos hc,Jr] at h3 ⊢;omega
   ·simp only[B9,if_neg hc,Jr] at h3 ⊢;omega
 ·show(gT (B9 m.y d e):Int)≤B'
  have hdl:d.data.toList.length=d.size:=Array.length_toList
  cases hy:m.y with
  |b y=>rw[hy] at h4;simp only[B9,gT,List.length_append] at h4 ⊢;omega
  |i y=>
   rw[hy] at h4
   by_cases hc:d≠⟨#[]⟩∨e=false
   ·simp only[B9,if_pos hc,gT,List.length_append,List.length_singleton] at h4 ⊢;omega
   ·simp only[B9,if_neg hc,gT] at h4 ⊢;omega
end
end Go.Proofs.YtifgibijcmppmaaGreat
