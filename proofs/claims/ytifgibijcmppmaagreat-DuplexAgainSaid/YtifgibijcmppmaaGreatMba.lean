/- A part of the proof: lemmas; each with the conditions that it states. -/
import Derived.Test.YtifgibijcmppmaaGreatMaz
import Derived.Test.YtifgibijcmppmaaGreatMaw
import Derived.Test.YtifgibijcmppmaaGreatMam
set_option linter.unusedVariables false
set_option linter.unusedSimpArgs false
namespace Go.Proofs.YtifgibijcmppmaaGreat
open Go Go.Proofs Go.Sl
set_option maxRecDepth 100000
set_option maxHeartbeats 40000000
attribute [local irreducible] aM fG cV bP aN aW aA dP dX aV dO pt ro eW star sep bH
attribute [local irreducible] mp Ec
structure Cf where
 w:Int
 st:Int
 it:Int
 sb:Int
 si:Int
 sg:Int
 ev:Int
 wa:Int
 sl:Int
structure Yp where
 cap:Int
 most:Int
 gr:Int
 got:Int
 us:Int
structure Mv where
 k:Int
 id:Int
 n:Int
 s:ByteArray
 e:Bool
structure Cn where
 cf:Cf
 sd:Int
 nx:Int
 la:Int
 l:List Sm
 tr:eJ
 pk:List (KE Int)
 pc:Nat
 ld:Ld
 rv:Yp
 sh:F0
 pe:eE
 bt:Bt
 sl:PM
 dr:Dr
 out:List Fm
 inb:List UInt8
 ine:Int
 now:Int
 last:ByteArray
 mv:List Mv
def fr0 (t st:Int):Fm:=⟨t,st,false,⟨#[]⟩,0,0,0,false,0,0,0,none,0,0,[]⟩
def vW (t st:Int) (d:ByteArray) (e:Bool):Fm:=⟨t,st,e,d,0,0,0,false,0,0,0,none,0,0,[]⟩
def qE (st k on w:Int) (x:Bool):Fm:=⟨2,st,false,⟨#[]⟩,k,on,w,x,0,0,0,none,0,0,[]⟩
def rZ (st on w:Int) (x:Bool):Fm:=⟨3,st,false,⟨#[]⟩,0,on,w,x,0,0,0,none,0,0,[]⟩
def lX (st c:Int):Fm:=⟨4,st,false,⟨#[]⟩,0,0,0,false,c,0,0,none,0,0,[]⟩
def KM (ps:List Pr):Fm:=⟨5,0,false,⟨#[]⟩,0,0,0,false,0,0,0,none,ps.length,0,ps⟩
def EF (la c:Int):Fm:=⟨9,0,false,⟨#[]⟩,0,0,0,false,c,la,0,none,0,0,[]⟩
def CR (t st n:Int):Fm:=⟨t,st,false,⟨#[]⟩,0,0,0,false,0,0,n,none,0,0,[]⟩
def kS (y:Yp) (k:Int):Int:=if max (y.gr - y.got) 0<k then 9 else 0
def fX (y:Yp) (k:Int):Yp:=if kS y k=0 then { y with got:=y.got+k } else y
def fT (y:Yp) (k:Int):Yp:=if 0≤k∧k≤y.got - y.us then { y with us:=y.us+k } else y
def uT (y:Yp):Int:=uE y.cap y.gr y.us
def RY (y:Yp):Yp:= { y with gr:=y.gr+uT y }
def fH (s:Cn) (b:Bool):Nat:=(s.l.filter fun m=>m.own == b).length
def sY (m:Mv) (s:Cn):Cn:= { s with mv:=s.mv++ [m] }
def vU (s:Cn) (id:Int):Bool:=nS s.sd s.nx s.la id
def aD (s:Cn):Cn:= { s with mv:= [] }
def cJ (s:Cn) (id:Int):Int:=if s.dr.ov=true then 14 else match b7 id s.l with
 |some _=>0
 |none=>if vU s id=true then 14 else 7
def lE (id code:Int) (gone:Bool) (s:Cn):Cn:=
 { s with l:=s.l.eraseIdx (cB id s.l),tr:=yQ id s.tr,pk:=(if p7 id s.pk=0 then s.pk else mD id s.pk),ld:=mV id s.ld,mv:=s.mv++ [⟨4,id,code,⟨#[]⟩,gone⟩] }
def qR (code:Int):List Int→Cn→Cn
 | [],s=>s
 |id::r,s=>qR code r (lE id code false s)
def kP (m:Sm) (s:Cn):Cn:=if Ii m=true then lE m.id 0 true s else s
def vE (s:Cn):Cn:= { qR s.dr.co (s.l.map Sm.id) s with out:= [] }
def iJ (w o:Int) (s:Cn):Cn:=vE { s with dr:=CC s.dr (lH w o),last:=Rn (EF s.la (lH w o)) }
def tO (f:Fm) (s:Cn):Cn:=if Ei f s.out=0 then { s with out:=yZ f s.out } else iJ 18 0 s
def sB (m:Sm) (code:Int) (s:Cn):Cn:=lE m.id code false { s with rv:=fT s.rv (if bB m.x=1 then(hO m.y:Nat) else 0) }
def kA (w st:Int) (s:Cn):Cn:=if Sg w=true then iJ w 0 s else
 tO (lX st (lH w 0)) (match b7 st s.l with
  |some m=>sB m (lH w 0) s
  |none=>s)
def gJ (cf:Cf) (h:eE) (id kind sg:Int) (own:Bool):Sm:=if kind=1 then⟨id,own,1,.b ⟨cf.sb.toNat,[],false,false,0,0,0⟩,.b ⟨h.w,h.w,h.w,0,0,[],false⟩⟩ else⟨id,own,1,.i ⟨cf.si.toNat,sg,[],0,false,false,0,0,0⟩,.i ⟨h.it,h.it,0,0,[],0,0,0,false⟩⟩
def Hl (id kind on w:Int) (x own:Bool) (sg:Int) (s:Cn):Cn:=
 { s with l:=j0 (gJ s.cf s.sh.h id kind sg own) s.l,tr:=mH id on w x 64 s.tr,ld:=if kind=1 then kQ id s.pe.w s.ld else s.ld }
def mY (kind sg on w:Int) (x:Bool) (s:Cn):Int:=if s.dr.ov=true then 14 else if kind≠1∧kind≠2 then 13 else if sg<0∨2<sg then 2 else if K6 s.dr=false then 15 else if 2147483647<s.nx∨min s.pe.st 32≤(fH s true:Nat) then 16 else if l8 (qE s.nx kind on w x)=false then 2 else if on=s.nx then 12 else if 64≤s.out.length then 9 else 0
def rU (kind sg on w:Int) (x:Bool) (s:Cn):Cn:=if mY kind sg on w x s≠0 then aD s else
 Hl s.nx kind on w x true sg { aD s with nx:=s.nx+2,out:=yZ (qE s.nx kind on w x) s.out }
def Aj (m:Sm) (s:Cn):Cn:= { s with l:=s.l.set (cB m.id s.l) m }
def Ay (id:Int) (d:ByteArray) (s:Cn):Int×Int:=if cJ s id≠0 then(0,cJ s id) else match b7 id s.l with
 |some m=>(Uv m d,UL m d)
 |none=>(0,0)
def qK (id:Int) (d:ByteArray) (s:Cn):Cn:=if cJ s id≠0 then aD s else match b7 id s.l with
 |some m=>Aj (Al m d) (aD s)
 |none=>s
def Sc (id:Int) (s:Cn):Int:=if cJ s id≠0 then cJ s id else match b7 id s.l with
 |some m=>T1 m
 |none=>0
def BQ (id:Int) (s:Cn):Cn:=if cJ s id≠0 then aD s else match b7 id s.l with
 |some m=>Aj (Au m) (aD s)
 |none=>s
def vF (id n:Int) (s:Cn):ByteArray×Bool×Int:=if cJ s id≠0 then(⟨#[]⟩,false,cJ s id) else match b7 id s.l with
 |some m=>if OF m.y≠0 then(⟨#[]⟩,false,OF m.y) else(BC m.y n,Ht (Ej m.y n),0)
 |none=>(⟨#[]⟩,false,0)
def vQ (id n:Int) (s:Cn):Cn:=if cJ s id≠0 then aD s else match b7 id s.l with
 |some m=>if OF m.y≠0 then aD s else kP { m with y:=Ej m.y n } { Aj { m with y:=Ej m.y n } (aD s) with rv:=fT s.rv ((BC m.y n).size:Nat) }
 |none=>s
def tA (id:Int) (s:Cn):ByteArray×Bool×Bool×Int:=if cJ s id≠0 then(⟨#[]⟩,false,false,cJ s id) else match b7 id s.l with
 |some m=>if WT m.y≠0 then(⟨#[]⟩,false,false,WT m.y) else(Aji m.y,YC m.y,Ht (Ek m.y),0)
 |none=>(⟨#[]⟩,false,false,0)
def vO (id:Int) (s:Cn):Cn:=if cJ s id≠0 then aD s else match b7 id s.l with
 |some m=>if WT m.y≠0 then aD s else kP { m with y:=Ek m.y } (Aj { m with y:=Ek m.y } (aD s))
 |none=>s
def QM (id n:Int) (s:Cn):Int:=if cJ s id≠0 then cJ s id else match b7 id s.l with
 |some m=>T7 m.y n
 |none=>0
def BJ (id n:Int) (s:Cn):Cn:=if cJ s id≠0 then aD s else match b7 id s.l with
 |some m=>Aj { m with y:=FX m.y n } (aD s)
 |none=>s
def Mb (id on w:Int) (x:Bool) (s:Cn):Int:=if cJ s id≠0 then cJ s id else if l8 (rZ id on w x)=false then 2 else if on=id then 12 else if Ei (rZ id on w x) s.out≠0 then 9 else o6 id on w s.tr
def vR (id on w:Int) (x:Bool) (s:Cn):Cn:=if cJ s id≠0∨l8 (rZ id on w x)=false∨on=id∨Ei (rZ id on w x) s.out≠0 then aD s else { aD s with out:=yZ (rZ id on w x) s.out,tr:=jZ id on w x s.tr }
def lK (id c:Int) (s:Cn):Int:=if cJ s id≠0 then cJ s id else if l8 (lX id c)=false then 2 else if Ei (lX id c) s.out≠0 then 9 else 0
def qQ (id c:Int) (s:Cn):Cn:=if lK id c s≠0 then aD s else match b7 id s.l with
 |some m=>sB m c { aD s with out:=yZ (lX id c) s.out }
 |none=>s
def XQ (s:Cn):Int:=if s.dr.ov=true then 14 else if s.dr.se=true then 11 else if Ei (EF s.la 0) s.out≠0 then 9 else Gk s.dr s.la
def Jp (s:Cn):Cn:=if s.dr.ov=true∨s.dr.se=true∨Ei (EF s.la 0) s.out≠0 then aD s else { aD s with out:=yZ (EF s.la 0) s.out,dr:=Er s.dr s.la }
def Qz (t:eE) (s:Cn):Int:=if s.dr.ov=true then 14 else if 64≤s.out.length then 9 else if iA s.sh t≠0 then iA s.sh t else Ei (KM (LG (rD s.sh) t)) s.out
def BW (t:eE) (s:Cn):Cn:=if s.dr.ov=true∨64≤s.out.length∨iA s.sh t≠0 then aD s else { aD s with sh:=d8 s.sh t,out:=yZ (KM (LG (rD s.sh) t)) s.out }
def qH (s:Cn):Cn:= { s with now:=s.now+1 }
def uC (f:Fm) (s:Cn):Cn:=
 if kS s.rv (if f.t=0 then(f.d.size:Nat) else 0)≠0 then iJ 9 0 s
 else match b7 f.st s.l with
  |none=> { s with rv:=fT (fX s.rv (if f.t=0 then(f.d.size:Nat) else 0)) (if f.t=0 then(f.d.size:Nat) else 0) }
  |some m=>if f3 m f.t f.d f.e≠0 then kA (f3 m f.t f.d f.e) f.st { s with rv:=fT (fX s.rv (if f.t=0 then(f.d.size:Nat) else 0)) (if f.t=0 then(f.d.size:Nat) else 0) }
   else kP (fE m f.d f.e) (sY ⟨2,f.st,if f.t=1∧(f.d≠⟨#[]⟩∨f.e=false) then 1 else if f.t=0 then(f.d.size:Nat) else 0,f.d,f.e⟩ (Aj (fE m f.d f.e) { s with rv:=fX s.rv (if f.t=0 then(f.d.size:Nat) else 0) }))
def o7 (f:Fm) (s:Cn):Cn:=
 if oJ s.sd s.la f.st≠0 then iJ 1 0 s
 else if f.on=f.st then iJ 2 0 { s with la:=f.st }
 else if DY s.dr f.st=false then kA 4 f.st { s with la:=f.st }
 else if s.sh.h.st≤(fH s false:Nat) then kA 3 f.st { s with la:=f.st }
 else sY ⟨3,f.st,f.k,⟨#[]⟩,false⟩ (Hl f.st f.k f.on f.w f.x false s.cf.sg { s with la:=f.st })
def lV (f:Fm) (m:Sm) (s:Cn):Cn:=
 if(bB m.x=1)≠(f.t=10) then kA 6 f.st s
 else if f.n=0 then kA 11 f.st s
 else if bB m.x=1 then(if s5 f.st f.n s.ld≠0 then kA 13 f.st s else { s with ld:=pB f.st f.n s.ld,sl:=iF s.sl s.now })
 else(if EG m.x f.n≠0 then kA 13 f.st s else Aj { m with x:=oT m.x f.n } { s with sl:=iF s.sl s.now })
def s4 (f:Fm) (s:Cn):Cn:=if f.n=0 then iJ 12 0 s else if s5 0 f.n s.ld≠0 then iJ 14 0 s else { s with ld:=pB 0 f.n s.ld,sl:=iF s.sl s.now }
def x6 (f:Fm) (s:Cn):Cn:=match XC s.pe f.ps with
 |none=>iJ 16 0 s
 |some t=>if Ey s.pe.w t.w s.ld≠0 then iJ 17 0 s else tO (fr0 6 0) { s with ld:=sG s.pe.w t.w s.ld,pe:=t }
def sV (s:Cn):Cn:=if zS s.sh≠0 then iJ 15 0 s else { s with sh:=dA s.sh,l:=s.l.map fun m=> { m with y:=C9 m.y (dA s.sh).h } }
def nL:List Int→Cn→Cn
 | [],s=>s
 |id::r,s=>nL r (match b7 id s.l with
  |some m=>if m.own=true∧JJ s.dr id=true then sB m 7 s else s
  |none=>s)
def yA (f:Fm) (s:Cn):Cn:=if(o4 s.dr f.la f.c).ov=true then vE { s with dr:=o4 s.dr f.la f.c } else nL (s.l.map Sm.id) { s with dr:=o4 s.dr f.la f.c }
def j7 (f:Fm) (s:Cn):Cn:=if f.t=3∧f.on=f.st then iJ 2 0 s else match b7 f.st s.l with
 |none=>s
 |some m=>if f.t=3 then { s with tr:=jZ f.st f.on f.w f.x s.tr } else if f.t=4 then sB m f.c s else lV f m s
def fP (f:Fm) (s:Cn):Cn:=
 if f.t=5 then x6 f s else if f.t=6 then sV s else if f.t=7 then tO (vW 8 0 f.d false) s
 else if f.t=8 then { s with bt:=kR s.bt s.now f.d } else if f.t=9 then yA f s else if f.t=2 then o7 f s
 else if f.st=0 then s4 f s else if vU s f.st=false then iJ 5 0 s else if f.t=0∨f.t=1 then uC f s else j7 f s
def bQ (f:Fm) (s:Cn):Cn:=fP f { s with bt:=bN s.bt s.now }
def d4:List Fm→Cn→Cn
 | [],s=>s
 |f::r,s=>if(bQ f s).dr.ov=true then bQ f s else d4 r (bQ f s)
def iQ (u:List UInt8) (s:Cn):List Fm×Cn:=((pF (s.inb++u)).1.map Ke,{ s with inb:=if(pF (s.inb++u)).2.2=0 then(pF (s.inb++u)).2.1 else [],ine:=(pF (s.inb++u)).2.2 })
def Gn (s:Cn):Int:=if s.dr.ov=true then 14 else 0
def lB (u:List UInt8) (s:Cn):Cn:=if s.dr.ov=true then aD s else
 if(d4 (iQ u (aD s)).1 (iQ u (aD s)).2).dr.ov=true∨(pF (s.inb++u)).2.2=0 then d4 (iQ u (aD s)).1 (iQ u (aD s)).2 else iJ 0 (pF (s.inb++u)).2.2 (d4 (iQ u (aD s)).1 (iQ u (aD s)).2)
def HJ (ld:Ld) (m:Sm):Bool:=SH m && Afr m.x (bC m.id ld)
def sK (s:Cn):Bool:=s.l.any (HJ s.ld)
def fC (s:Cn):List Fm:=if Qt s.bt s.now=2∨AY s.sl s.now (sK s)=true∨Qt s.bt s.now≠1 then [] else [vW 7 0 (btD s.bt s.now) false]
def bG (s:Cn):Cn:=if Qt s.bt s.now=2 then iJ 20 0 { s with bt:=gA s.bt s.now } else if AY s.sl s.now (sK s)=true then iJ 19 0 { s with bt:=gA s.bt s.now,sl:=nC s.sl s.now (sK s) } else { s with bt:=gA s.bt s.now,sl:=nC s.sl s.now (sK s) }
def Kx (t st n:Int):List Fm:=if 0<n then [CR t st n] else []
def qS (m:Sm):List Fm:=if XE m=true then Kx (if bB m.x=2 then 11 else 10) m.id (Iy m.y) else []
def lZ (m:Sm):Sm:=if XE m=true then { m with y:=yGr m.y } else m
def uG (s:Cn):List Fm:=Kx 10 0 (uT s.rv)++s.l.flatMap qS
def Bp (s:Cn):Cn:= { s with rv:=RY s.rv,l:=s.l.map lZ }
def nM (s:Cn) (id:Int):Tu:=⟨id,if dR id s.tr.1=true then(cZ id s.tr).w else 0,match b7 id s.l with
 |some m=>SH m && Nw m.x (bC id s.ld)
 |none=>false⟩
def eG (s:Cn):List Tu:=(d6 s.tr).map (nM s)
def p8 (s:Cn):Option Fm×Cn:=match zC (s.pk,s.pc) (eG s) with
 |(none,p)=>(none,{ s with pk:=p.1,pc:=p.2 })
 |(some id,p)=>match b7 id s.l with
  |none=>(none,{ s with pk:=p.1,pc:=p.2 })
  |some m=>if HC m (bC id s.ld)=false then(none,{ s with pk:=p.1,pc:=p.2 }) else
   (some (vW (bB m.x - 1) id (iC m.x (bC id s.ld)) (BF m.x (bC id s.ld))),
    kP (CQ m (bC id s.ld)) (sY ⟨1,id,if bB m.x=1 then((iC m.x (bC id s.ld)).size:Nat) else if iC m.x (bC id s.ld)=⟨#[]⟩∧BF m.x (bC id s.ld)=true then 0 else 1,iC m.x (bC id s.ld),BF m.x (bC id s.ld)⟩
     (Aj (CQ m (bC id s.ld)) { s with ld:=(if bB m.x=1 then lO id ((iC m.x (bC id s.ld)).size:Nat) s.ld else s.ld),pk:=(jC id (p7 id p.1 - fF ((iC m.x (bC id s.ld)).size:Nat)) p).1,pc:=(jC id (p7 id p.1 - fF ((iC m.x (bC id s.ld)).size:Nat)) p).2 })))
def fB:Nat→Cn→List Fm×Cn
 |0,s=>([],s)
 |n+1,s=>match p8 s with
  |(none,s)=>([],s)
  |(some f,s)=>(f::(fB n s).1,(fB n s).2)
def R5 (l:List Fm):List UInt8:=if l.all l8=true then rW l else []
def eR (s:Cn):List UInt8×Cn:=
 if s.dr.ov=true then(s.last.data.toList,{ aD s with last:=⟨#[]⟩ })
 else if(bG (aD s)).dr.ov=true then((bG (aD s)).last.data.toList,{ bG (aD s) with last:=⟨#[]⟩ })
 else let s1:=bG (aD s)
  let s2:=Bp { s1 with out:= [] }
  let b:=fB 4 s2
  (R5 (fC (aD s)++s1.out++uG { s1 with out:= [] }++b.1),{ b.2 with dr:=AD b.2.dr b.2.l.length })
section
structure Ca where
 ids:Nat
 l:Nat
 t:Nat
 tq:Nat
 p:Nat
 pq:Nat
 fr:Nat
 rc:Nat
 sh:Nat
 bt:Nat
 sl:Nat
 dr:Nat
 ou:Nat
 inn:Nat
def mvD:List Value→Option Mv
 | [.int .i64 k,.int .i64 id,.int .i64 n,.string s,.bool e]=>some ⟨k,id,n,s,e⟩
 |_=>none
theorem Aij (cs:List Value) (y:Mv) (h:mvD cs=some y): [.int .i64 y.k,.int .i64 y.id,.int .i64 y.n,.string y.s,.bool y.e]=cs:=by
 unfold mvD at h
 split at h
 ·cases h;rfl
 ·cases h
def mvC:tG Mv:= { enc:=fun y=> [.int .i64 y.k,.int .i64 y.id,.int .i64 y.n,.string y.s,.bool y.e],sz:=5,dec:=mvD,len:=fun _=>rfl,one:=fun _=>rfl,ok:=Aij }
abbrev pM (x:Nat) (a:Ca) (s:Cn) (M:Option Addr) (mc:Nat) (T:HP) (R:List HP):List HP:=
 pt x [.int .i64 s.cf.w,.int .i64 s.cf.st,.int .i64 s.cf.it,.int .i64 s.cf.sb,.int .i64 s.cf.si,.int .i64 s.cf.sg,.int .i64 s.cf.ev,.int .i64 s.cf.wa,.int .i64 s.cf.sl,.pointer (some ⟨a.ids,0,none⟩),.pointer (some ⟨a.l,0,none⟩),.pointer (some ⟨a.t,0,none⟩),.pointer (some ⟨a.p,0,none⟩),.pointer (some ⟨a.fr,0,none⟩),.pointer (some ⟨a.rc,0,none⟩),.pointer (some ⟨a.sh,0,none⟩),.int .i64 s.pe.w,.int .i64 s.pe.st,.int .i64 s.pe.it,.pointer (some ⟨a.bt,0,none⟩),.pointer (some ⟨a.sl,0,none⟩),.pointer (some ⟨a.dr,0,none⟩),.pointer (some ⟨a.ou,0,none⟩),.pointer (some ⟨a.inn,0,none⟩),.int .i64 s.now,.string s.last,.slice M s.mv.length mc] 124::
 pt a.ids [.int .i64 s.sd,.int .i64 s.nx,.int .i64 s.la] 218::T::pt a.t [.int .i64 64,.map (some a.tq)] 229::mp a.tq (kM qI s.tr.1) s.tr.2::pt a.p [.map (some a.pq)] 211::mp a.pq (kM K8 s.pk) s.pc::Qy a.fr s.ld::y4 a.rc s.rv.cap s.rv.most s.rv.gr s.rv.got s.rv.us::Tj a.sh s.sh::btP a.bt s.bt::slP a.sl s.sl::CP a.dr s.dr::Qs a.ou s.out::spP a.inn s.inb s.ine::bU M mc 280 mvC s.mv::R
abbrev bY (x:Nat) (a:Ca) (s:Cn) (M:Option Addr) (mc:Nat) (R:List HP):List HP:=pM x a s M mc (Hg a.l s.l) R
abbrev cnH (x:Nat) (a:Ca) (s:Cn) (M:Option Addr) (mc:Nat) (i b:Nat) (R:List HP):List HP:=pM x a s M mc (Nh a.l s.l i b) R
variable {R C:List HP} {K:Value→List HP→Prop} {x mc:Nat} {a:Ca} {s:Cn} {M:Option Addr}
theorem jN (hK:K (.bool s.dr.ov) (bY x a s M mc R)):aA Tryz.prog 78 #[.pointer (some ⟨x,0,none⟩)] (bY x a s M mc R) K:=by
 dsimp only[bY,pM] at hK ⊢
 refine aH Tryz.func78 ?_
 repeat' (first|refine v10 ?_|refine wr ?_|refine w5 ?_ ?_|((refine bh fun h=>?_) <;> try exact w6 h)|(refine aE fun hA=>?_;subst hA)|intro _|(show aA _ 82 _ _ _;refine CA (h:=HQ ?_)))
 all_goals(refine aC ?_;exact aB (hK))
theorem b5 (hK:K (.int .i64 (if s.dr.ov=true then 14 else 0)) (bY x a (aD s) none 0 R)):aA Tryz.prog 75 #[.pointer (some ⟨x,0,none⟩)] (bY x a s M mc R) K:=by
 cases ho:s.dr.ov
 ·rw[ho,if_neg Bool.false_ne_true] at hK
  dsimp only[bY,pM] at ⊢
  refine aH Tryz.func75 ?_
  repeat' (first|refine v13 ?_|refine wr ?_|refine w5 ?_ ?_|((refine bh fun h=>?_) <;> try exact w6 h)|(refine aE fun hA=>?_;subst hA)|intro _|(show aA _ 78 _ _ _;refine CA (h:=jN (x:=x) (a:=a) (s:=aD s) (M:=none) (mc:=0) (R:=R) ?_);rw[show(aD s).dr.ov=false from ho]))
  all_goals(refine aC ?_;exact aB (hK))
 ·rw[ho,if_pos rfl] at hK
  dsimp only[bY,pM] at ⊢
  refine aH Tryz.func75 ?_
  repeat' (first|refine v13 ?_|refine wr ?_|refine w5 ?_ ?_|((refine bh fun h=>?_) <;> try exact w6 h)|(refine aE fun hA=>?_;subst hA)|intro _|(show aA _ 78 _ _ _;refine CA (h:=jN (x:=x) (a:=a) (s:=aD s) (M:=none) (mc:=0) (R:=R) ?_);rw[show(aD s).dr.ov=true from ho]))
  all_goals(refine aC ?_;exact aB (hK))
def BG:List (Nat×Nat):= [(5,0),(6,1),(1,1),(2,1),(3,1),(4,1),(7,1),(0,2),(8,0),(9,0),(10,1)]
theorem H5 {k id n:Int} {z:ByteArray} {b:Bool} (hb:s.mv.length≤1000000000) (hK:∀M mc,K (.tuple #[]) (bY x a (sY ⟨k,id,n,z,b⟩ s) M mc R)):aA Tryz.prog 197 #[.pointer (some ⟨x,0,none⟩),.agg #[.int .i64 k,.int .i64 id,.int .i64 n,.string z,.bool b]] (bY x a s M mc R) K:=by
 dsimp only[bY,pM,sY] at hK ⊢
 refine aH Tryz.func197 ?_
 repeat' (first|(show aM _ _ _ _ _ _ _;(refine cU (E:=mvC) (ys:= [⟨k,id,n,z,b⟩]) ?_;intro _ _))|refine v54 ?_|refine dw BG ?_|refine wr ?_|refine w5 ?_ ?_|((refine bh fun h=>?_) <;> try exact w6 h)|(refine aE fun hA=>?_;subst hA)|intro _)
 all_goals(refine aC ?_;exact aB (hK _ _))
end
section
def yT (n:Int):Prop:=0≤n∧n≤2147483647
structure ED (B:Int) (m:Sm):Prop where
 id:1≤m.id∧m.id≤2147483647
 ac:JK m.x≤B
 got:Jn m.y≤B
 ln:(hO m.y:Int)≤B
def vT (t:eE):Prop:=rY t.w t.st t.it=true
def I3 (B:Int) (y:Yp):Prop:=y.cap=512∧0≤y.us∧y.us≤y.got∧y.got≤y.gr∧y.gr≤y.us+512∧y.got≤B
structure bS (B:Int) (s:Cn):Prop where
 bb:0≤B∧B≤250000000
 cf:(0≤s.cf.sb∧s.cf.sb≤4096)∧(0≤s.cf.si∧s.cf.si≤64)∧0≤s.cf.sg∧s.cf.sg≤2
 sd:s.sd=0∨s.sd=1
 nx:1≤s.nx∧s.nx≤2147483649∧(s.nx % 2=1↔s.sd=0)
 la:yT s.la
 sm:FY s.l
 st:∀m∈s.l,ED B m
 ids:∀m∈s.l,nS s.sd s.nx s.la m.id=true
 own:∀b,fH s b≤32
 tr:Lu s.tr
 pk:KO (s.pk,s.pc)
 ld:F1 B s.ld
 rv:I3 B s.rv
 sh:s.sh.l.length≤4∧vT s.sh.h∧vT s.sh.g∧∀t∈s.sh.l,vT t
 pe:yT s.pe.w∧yT s.pe.st∧yT s.pe.it
 bt:(0≤s.bt.no∧s.bt.no≤B)∧(0≤s.bt.he∧s.bt.he≤B)∧(0≤s.bt.si∧s.bt.si≤B)∧0≤s.bt.nn∧s.bt.nn≤B
 sl:(0≤s.sl.nw∧s.sl.nw≤B)∧0≤s.sl.si∧s.sl.si≤B
 ou:P9 s.out
 inb:(s.inb.length:Int)≤B
 now:0≤s.now∧s.now≤B
 mv:(s.mv.length:Int)+s.l.length≤B
variable {R C:List HP} {K:Value→List HP→Prop} {x mc:Nat} {a:Ca} {s:Cn} {M:Option Addr} {B id code:Int} {gone:Bool} {m m':Sm}
theorem ZH {l:List Sm} {t:Int} (h:b7 t l=some m):(l.eraseIdx (cB t l)).length+1=l.length:=by
 have:=(List.getElem?_eq_some_iff.1 (aZ h).1).1
 rw[List.length_eraseIdx,if_pos this];omega
theorem zE (h:bS B s) (hm:b7 id s.l=some m):bS B (lE id code gone s):=
 { h with
   sm:=Wy h.sm
   st:=fun z hz=>h.st z (List.mem_of_mem_eraseIdx hz)
   ids:=fun z hz=>h.ids z (List.mem_of_mem_eraseIdx hz)
   own:=fun b=>Nat.le_trans ((List.Sublist.filter _ (List.eraseIdx_sublist ..)).length_le) (h.own b)
   tr:=Ac4 h.tr
   pk:=by
    show KO ((if p7 id s.pk=0 then s.pk else mD id s.pk),s.pc)
    split
    ·exact h.pk
    ·exact Ad2 h.pk
   ld:=VM h.ld
   mv:=by
    have h1:=h.mv
    have h2:=ZH hm
    show((s.mv++ [_]).length:Int)+((s.l.eraseIdx (cB id s.l)).length:Int)≤B
    rw[List.length_append,List.length_singleton]
    omega }
theorem Bd (h:bS B s) (hm:b7 id s.l=some m) (hK:∀M mc,K (.tuple #[]) (bY x a (lE id code gone s) M mc R)):aA Tryz.prog 223 #[.pointer (some ⟨x,0,none⟩),.int .i64 id,.int .i64 code,.bool gone] (bY x a s M mc R) K:=by
 have hl:=h.tr.len
 have hmv:=h.mv
 have hB:=h.bb
 dsimp only[bY,pM]
 refine aH Tryz.func223 ?_
 repeat' (first|refine v25 ?_|refine wr ?_|refine w5 ?_ ?_|((refine bh fun h=>?_) <;> try exact w6 h)|(refine aE fun hA=>?_;subst hA)|intro _|(show aA _ 313 _ _ _;refine CA (h:=Aem h.sm hm (fun _=>?_)))|(show aA _ 314 _ _ _;refine CA (h:=Pj (s:=s.tr) h.tr.kok (by omega) h.tr.w h.tr.nd (fun _=>?_)))|(show aA _ 315 _ _ _;refine CA (h:=PL ?_))|(show aA _ 316 _ _ _;refine CA (h:=SB (h.ld.ok (by omega)) (fun _=>?_)))|(show aA _ 197 _ _ _;refine CA (h:=H5 (x:=x) (a:=a) (s:= { s with l:=s.l.eraseIdx (cB id s.l),tr:=yQ id s.tr,pk:=(if p7 id s.pk=0 then s.pk else mD id s.pk),ld:=mV id s.ld }) (M:=M) (mc:=mc) (R:=R) (by show s.mv.length≤1000000000;omega) (fun _ _=>?_))))
 all_goals(refine aC ?_;exact aB (hK _ _))
end
section
variable {R C:List HP} {K:Value→List HP→Prop} {x mc i b p:Nat} {a:Ca} {s:Cn} {M:Option Addr} {B id code k:Int} {gone:Bool} {m m':Sm} {y:Yp}
def DZ:List (Nat×Nat):= [(0,0),(1,0),(2,0),(3,0),(4,0),(5,0),(6,0),(7,0),(8,0),(9,0),(10,0),(11,0)]
theorem tM (hb:0≤y.us∧y.us≤y.got∧y.got≤900000000) (hk:-900000000≤k∧k≤900000000) (hK:∀v,K v (y4 p (fT y k).cap (fT y k).most (fT y k).gr (fT y k).got (fT y k).us::R)):aA Tryz.prog 118 #[.pointer (some ⟨p,0,none⟩),.int .i64 k] (y4 p y.cap y.most y.gr y.got y.us::R) K:=by
 by_cases h:0≤k∧k≤y.got - y.us
 ·unfold fT at hK
  simp only[if_pos h] at hK
  exact HG h (by omega) (hK _)
 ·unfold fT at hK
  simp only[if_neg h] at hK
  unfold y4 at *
  refine aH Tryz.func118 ?_
  repeat' (first|refine v33 ?_|refine dw DZ ?_|refine wr ?_|refine w5 ?_ ?_|((refine bh fun h=>?_) <;> try exact w6 h)|(refine aE fun hA=>?_;subst hA)|intro _)
  all_goals(refine aC ?_;exact aB (hK _))
theorem lP (hi:s.l[i]?=some m) (hid:m'.id=m.id):aG (rT b m'::cnH x a s M mc i b R) (bY x a { s with l:=s.l.set i m' } M mc R):=
 aG.trans (fun _ hs=>hs.perm (List.Perm.cons _ (List.perm_middle (l₁:= [_,_])))) (aG.trans (Um hi hid) (fun _ hs=>hs.perm (List.perm_middle (l₁:= [_,_])).symm))
theorem dY (hi:s.l[i]?=some m):aG (rT b m::cnH x a s M mc i b R) (bY x a s M mc R):=
 aG.trans (fun _ hs=>hs.perm (List.Perm.cons _ (List.perm_middle (l₁:= [_,_])))) (aG.trans (Afu hi) (fun _ hs=>hs.perm (List.perm_middle (l₁:= [_,_])).symm))
theorem fJ (h:bS B s) (ho:s.dr.ov=false) (hm:b7 id s.l=some m) (hK:∀b,K (.tuple #[.pointer (some ⟨b,0,none⟩),.int .i64 0]) (rT b m::cnH x a (aD s) none 0 (cB id s.l) b R)):aA Tryz.prog 116 #[.pointer (some ⟨x,0,none⟩),.int .i64 id] (bY x a s M mc R) K:=by
 refine aH Tryz.func116 ?_
 repeat' (first|refine I2 ?_|refine wr ?_|refine w5 ?_ ?_|((refine bh fun h=>?_) <;> try exact w6 h)|(refine aE fun hA=>?_;subst hA)|intro _|(show aA _ 75 _ _ _;refine CA (h:=b5 (x:=x) (a:=a) (s:=s) (M:=M) (mc:=mc) (R:=R) ?_);rw[ho,if_neg Bool.false_ne_true])|(show aA _ 192 _ _ _;refine CA (h:=f7 (l:=s.l) h.sm hm (fun _=>?_))))
 all_goals(refine aC ?_;exact aB (hK _))
theorem nA (h:bS B s) (he:cJ s id≠0) (hK:K (.tuple #[.pointer none,.int .i64 (cJ s id)]) (bY x a (aD s) none 0 R)):aA Tryz.prog 116 #[.pointer (some ⟨x,0,none⟩),.int .i64 id] (bY x a s M mc R) K:=by
 unfold cJ at he hK
 cases ho:s.dr.ov
 ·rw[ho,if_neg Bool.false_ne_true] at he hK
  cases hm:b7 id s.l with
  |some m=>rw[hm] at he;exact absurd rfl he
  |none=>
   rw[hm] at he hK
   simp only at he hK
   cases hp:vU s id
   ·rw[hp,if_neg Bool.false_ne_true] at hK
    refine aH Tryz.func116 ?_
    repeat' (first|refine I2 ?_|refine wr ?_|refine w5 ?_ ?_|((refine bh fun h=>?_) <;> try exact w6 h)|(refine aE fun hA=>?_;subst hA)|intro _|(show aA _ 75 _ _ _;refine CA (h:=b5 (x:=x) (a:=a) (s:=s) (M:=M) (mc:=mc) (R:=R) ?_);rw[ho,if_neg Bool.false_ne_true])|(show aA _ 192 _ _ _;refine CA (h:=mO (l:=s.l) h.sm hm ?_))|(show aA _ 218 _ _ _;refine CA (h:=CG (sd:=s.sd) (nx:=s.nx) (la:=s.la) ?_);rw[show nS s.sd s.nx s.la id=false from hp]))
    all_goals(refine aC ?_;exact aB (hK))
   ·rw[hp,if_pos rfl] at hK
    refine aH Tryz.func116 ?_
    repeat' (first|refine I2 ?_|refine wr ?_|refine w5 ?_ ?_|((refine bh fun h=>?_) <;> try exact w6 h)|(refine aE fun hA=>?_;subst hA)|intro _|(show aA _ 75 _ _ _;refine CA (h:=b5 (x:=x) (a:=a) (s:=s) (M:=M) (mc:=mc) (R:=R) ?_);rw[ho,if_neg Bool.false_ne_true])|(show aA _ 192 _ _ _;refine CA (h:=mO (l:=s.l) h.sm hm ?_))|(show aA _ 218 _ _ _;refine CA (h:=CG (sd:=s.sd) (nx:=s.nx) (la:=s.la) ?_);rw[show nS s.sd s.nx s.la id=true from hp]))
    all_goals(refine aC ?_;exact aB (hK))
 ·rw[ho,if_pos rfl] at hK
  refine aH Tryz.func116 ?_
  repeat' (first|refine I2 ?_|refine wr ?_|refine w5 ?_ ?_|((refine bh fun h=>?_) <;> try exact w6 h)|(refine aE fun hA=>?_;subst hA)|intro _|(show aA _ 75 _ _ _;refine CA (h:=b5 (x:=x) (a:=a) (s:=s) (M:=M) (mc:=mc) (R:=R) ?_);rw[ho,if_pos rfl]))
  all_goals(refine aC ?_;exact aB (hK))
theorem kL (hi:s.l[i]?=some m) (hid:m'.id=m.id) (h:bS B { s with l:=s.l.set i m' }) (hm:b7 m'.id (s.l.set i m')=some m') (hK:∀M mc,K (.tuple #[]) (bY x a (kP m' { s with l:=s.l.set i m' }) M mc R)):aA Tryz.prog 120 #[.pointer (some ⟨x,0,none⟩),.pointer (some ⟨b,0,none⟩)] (rT b m'::cnH x a s M mc i b R) K:=by
 cases hg:Ii m'
 ·have e:∀s,kP m' s=s:=fun s=>by unfold kP;rw[hg,if_neg Bool.false_ne_true]
  rw[e] at hK
  refine aH Tryz.func120 ?_
  repeat' (first|refine v0 ?_|refine wr ?_|refine w5 ?_ ?_|((refine bh fun h=>?_) <;> try exact w6 h)|(refine aE fun hA=>?_;subst hA)|intro _|(show aA _ 222 _ _ _;refine CA (h:=J1 (m:=m') ?_);rw[hg]))
  all_goals(refine aC ?_;exact aK (aG.trans (by exact aY) ((lP (x:=x) (a:=a) (M:=M) (mc:=mc) (R:=R) (b:=b) hi hid))) (hK _ _))
 ·have e:∀s,kP m' s=lE m'.id 0 true s:=fun s=>by unfold kP;rw[hg,if_pos rfl]
  rw[e] at hK
  refine aH Tryz.func120 ?_
  repeat' (first|refine v0 ?_|refine wr ?_|refine w5 ?_ ?_|((refine bh fun h=>?_) <;> try exact w6 h)|(refine aE fun hA=>?_;subst hA)|intro _|(show aA _ 222 _ _ _;refine CA (h:=J1 (m:=m') ?_);rw[hg])|(show aA _ 224 _ _ _;refine CA (h:=Ln (m:=m') ?_))|(show aA _ 223 _ _ _;refine CA (h:=aA.ent (lP (x:=x) (a:=a) (M:=M) (mc:=mc) (R:=R) (b:=b) hi hid) (Bd h hm (fun _ _=>?_)))))
  all_goals(refine aC ?_;exact aB (hK _ _))
theorem EC {m:Sm} {l:List Sm}:b7 m.id (m::l)=some m:=by
 unfold b7 cB
 rw[List.takeWhile_cons]
 simp
theorem Aam:(lE id code gone s).l=s.l.eraseIdx (cB id s.l):=rfl
theorem En {m:Sm} {l:List Sm} (h:s.l=m::l):(lE m.id code gone s).l=l:=by
 rw[Aam,h]
 unfold cB
 rw[List.takeWhile_cons]
 simp
theorem Ew:∀ {l:List Sm} {s:Cn},s.l=l→bS B s→bS B (qR code (l.map Sm.id) s)∧(qR code (l.map Sm.id) s).l= []
 | [],s,he,h=>⟨h,he⟩
 |m::l,s,he,h=>by
  have hm:b7 m.id s.l=some m:=by rw[he];exact EC
  exact Ew (s:=lE m.id code false s) (l:=l) (En he) (zE h hm)
theorem LN:P9 []:=⟨by decide,fun y hy=>by cases hy⟩
theorem JH (h:bS B s):bS B (vE s):=
 { (Ew (code:=s.dr.co) rfl h).1 with ou:=LN }
theorem GV (h:bS B s) (hK:∀M mc,K (.tuple #[]) (bY x a (vE s) M mc R)):aA Tryz.prog 176 #[.pointer (some ⟨x,0,none⟩)] (bY x a s M mc R) K:=by
 have h64:=h.sm.1
 have hlm:(s.l.map Sm.id).length=s.l.length:=List.length_map ..
 unfold vE at hK
 refine aH Tryz.func176 ?_
 repeat' (first|refine v45 ?_|refine wr ?_|refine w5 ?_ ?_|((refine bh fun h=>?_) <;> try exact w6 h)|(refine aE fun hA=>?_;subst hA)|intro _|(show aA _ 82 _ _ _;refine CA (h:=HQ (d:=s.dr) ?_))|(show aA _ 91 _ _ _;refine CA (h:=UH (l:=s.l) h.sm (fun Bq dq=>?_))))
 refine iL (fun n a' C'=>∃(j:Nat) (s':Cn) (M':Option Addr) (mc':Nat),j+n=s.l.length∧s'.l=s.l.drop j∧bS B s'∧qR s.dr.co ((s.l.drop j).map Sm.id) s'=qR s.dr.co (s.l.map Sm.id) s∧dC a' [(0,.pointer (some ⟨x,0,none⟩)),(3,.int .i64 s.dr.co),(18,.slice Bq (s.l.map Sm.id).length dq),(19,.int .i64 s.l.length),(20,.int .i64 j)]∧C'=bU Bq dq 3 nI (s.l.map Sm.id)::bY x a s' M' mc' R) s.l.length (cC s.l.length ⟨0,s,M,mc,by omega,rfl,h,rfl,⟨rfl,rfl,rfl,(by simp;rfl),rfl,trivial⟩,rfl⟩ (by omega)) ?_
 rintro n a' C' ⟨j,s',M',mc',hj,hl,h',hc,ha,rfl⟩
 refine gV _ ha ?_
 simp only[fN]
 by_cases hlt:j<s.l.length
 ·obtain⟨m,hm,hd⟩:=iS (l:=s.l) (j:=j) hlt
  rw[hd] at hl hc
  have hat:b7 m.id s'.l=some m:=by rw[hl];exact EC
  have hv:(s.l.map Sm.id)[((j:Nat):Int).toNat]?=some m.id:=by rw[Int.toNat_natCast,List.getElem?_map,hm];rfl
  repeat' (first|refine v45 ?_|refine wr ?_|refine w5 ?_ ?_|((refine bh fun h=>?_) <;> try exact w6 h)|(refine aE fun hA=>?_;subst hA)|intro _|(show aA _ 223 _ _ _;refine CA (h:=Bd h' hat (fun _ _=>?_))))
  all_goals(show aV _ _ _ _;exact cC (n - 1) ⟨j+1,lE m.id s.dr.co false s',_,_,by omega,En hl,zE h' hat,hc,⟨rfl,rfl,rfl,rfl,rfl,trivial⟩,rfl⟩)
 ·have hj0:j=s.l.length:=by omega
  subst hj0
  rw[List.drop_length] at hc hl
  have hc:s'=qR s.dr.co (s.l.map Sm.id) s:=hc
  subst hc
  repeat' (first|refine v45 ?_|refine wr ?_|refine w5 ?_ ?_|((refine bh fun h=>?_) <;> try exact w6 h)|(refine aE fun hA=>?_;subst hA)|intro _|(show aA _ 271 _ _ _;refine CA (h:=SK (fun _=>?_))))
  all_goals(refine aC ?_;exact aB (hK _ _))
end
section
variable {R C:List HP} {K:Value→List HP→Prop} {x mc i b p:Nat} {a:Ca} {s:Cn} {M:Option Addr} {B id code k la c st w o:Int} {gone:Bool} {m m':Sm} {f:Fm}
theorem Yl (hl:yT la) (hc:yT c):cX (EF la c):=by
 have h1:=(vK la).2 hl
 have h2:=(vK c).2 hc
 have h3:HM 0=true:=by decide
 have h4:Rq []=true:=Abs rfl
 have h5:(⟨#[]⟩:ByteArray)=ByteArray.empty:=rfl
 unfold cX sA EF
 simp[h1,h2,h3,h4,h5,Hm]
theorem iM (h:bS B s):bS B (iJ w o s):=
 JH (s:= { s with dr:=CC s.dr (lH w o),last:=Rn (EF s.la (lH w o)) }) { h with }
def CY:Tr:=(.br (.st 1 1 (.st 2 1 (.st 3 1 (.st 4 1 (.st 5 2 (.br (.st 0 2 (.st 6 2 (.st 10 3 (.st 7 1 (.st 8 1 (.st 11 1 (.st 9 2 (.st 12 0 .nil)))))))) (.st 10 3 (.st 0 2 (.st 6 2 (.st 7 1 (.st 8 1 (.st 11 1 (.st 9 2 (.st 12 0 .nil)))))))))))))) (.st 10 3 (.st 1 1 (.st 2 1 (.st 3 1 (.st 4 1 (.st 5 2 (.st 0 2 (.st 6 2 (.st 7 1 (.st 8 1 (.st 11 1 (.st 9 2 (.st 12 0 .nil))))))))))))))
def Ee:List (Nat×Nat):= [(0,0),(1,0),(2,0),(3,0),(4,0),(5,0),(6,1)]
theorem dH (h:bS B s) (hw:0≤w∧w≤20) (ht:Sg w=true) (hK:∀M mc,K (.tuple #[]) (bY x a (iJ w o s) M mc R)):aA Tryz.prog 79 #[.pointer (some ⟨x,0,none⟩),.agg #[.int .i64 w,.int .i64 st,.int .i64 o]] (bY x a s M mc R) K:=by
 have hla:=h.la
 have hc:=K9 (o:=o) hw
 have hr:=Yl hla (c:=lH w o) ⟨by omega,by omega⟩
 unfold yT at hla
 dsimp only[bY,pM]
 refine aH Tryz.func79 ?_
 repeat' (first|refine v31 ?_|refine Gm CY ?_|refine dw Ee ?_|refine wr ?_|refine w5 ?_ ?_|((refine bh fun h=>?_) <;> try exact w6 h)|(refine aE fun hA=>?_;subst hA)|intro _|(show aA _ 173 _ _ _;refine CA (h:=CF ?_))|(show aA _ 172 _ _ _;refine CA (h:=Aef hw ht hla ?_))|(show aA _ 174 _ _ _;refine CA (h:=Abj (d:=s.dr) ?_))|(show aA _ 175 _ _ _;refine CA (h:=NT (ps:= []) (show sA 9 0 false ⟨#[]⟩ 0 0 0 false (lH w o) s.la 0 [] from hr) eD rfl ?_))|(show aA _ 176 _ _ _;refine CA (h:=GV (x:=x) (a:=a) (s:= { s with dr:=CC s.dr (lH w o),last:=Rn (EF s.la (lH w o)) }) (M:=M) (mc:=mc) (R:=R) (B:=B) { h with } (fun _ _=>?_))))
 all_goals(refine aC ?_;exact aB (hK _ _))
theorem Ez {out:List Fm} (h:P9 out):P9 (yZ f out):=by
 obtain⟨h1,h2⟩:=h
 unfold yZ
 split
 ·exact⟨h1,h2⟩
 ·rename_i he
  have he:Ei f out=0:=Classical.byContradiction he
  unfold Ei at he
  split at he
  ·cases he
  ·rename_i hc
   have hc:l8 f=true:=by cases hq:l8 f <;> first|exact absurd hq hc|rfl
   have hn:=Gf hc
   split at he
   ·cases he
   ·split at he
    ·rename_i hlt
     cases hy:out[uA f out]? with
     |none=>exact absurd (List.getElem?_eq_none_iff.1 hy) (by omega)
     |some y=>
      refine⟨by simp only[List.length_set];exact h1,fun z hz=>?_⟩
      rcases List.mem_or_eq_of_mem_set hz with hz|rfl
      ·exact h2 z hz
      ·have:=h2 y (List.mem_of_getElem? hy)
       show 0≤y.n+f.n
       omega
    ·rename_i hlt
     split at he
     ·cases he
     ·have hy:out[uA f out]?=none:=List.getElem?_eq_none_iff.2 (by omega)
      rw[hy]
      refine⟨by simp only[List.length_append,List.length_singleton];omega,fun z hz=>?_⟩
      rcases List.mem_append.1 hz with hz|hz
      ·exact h2 z hz
      ·rw[List.mem_singleton.1 hz];exact hn.1
theorem It (h:bS B s):bS B (tO f s):=by
 unfold tO
 split
 ·exact { h with ou:=Ez h.ou }
 ·exact iM h
def uK:List (Nat×Nat):= [(0,0),(1,0),(2,0),(3,0),(4,0),(5,1),(6,0)]
theorem Bc (h:bS B s) (hp:f.pa=none) (hp0:f.ps= []) (Jd:f.pn=0) (hK:∀M mc,K (.tuple #[]) (bY x a (tO f s) M mc R)):aA Tryz.prog 164 #[.pointer (some ⟨x,0,none⟩),.agg #[.int .i64 f.t,.int .i64 f.st,.bool f.e,.string f.d,.int .i64 f.k,.int .i64 f.on,.int .i64 f.w,.bool f.x,.int .i64 f.c,.int .i64 f.la,.int .i64 f.n,.slice f.pa f.pn f.pc]] (bY x a s M mc R) K:=by
 unfold tO at hK
 by_cases he:Ei f s.out=0
 ·rw[if_pos he] at hK
  dsimp only[bY,pM]
  refine aH Tryz.func164 ?_
  repeat' (first|refine v46 ?_|refine dw uK ?_|refine wr ?_|refine w5 ?_ ?_|((refine bh fun h=>?_) <;> try exact w6 h)|(refine aE fun hA=>?_;subst hA)|intro _|(show aA _ 60 _ _ _;refine CA (h:=jR (f:=f) h.ou (by rw[hp0];exact eD) (by rw[hp0,Jd];rfl) (by rw[Jd];decide) ?_);rw[he]))
  all_goals(refine aC ?_;exact aB (hK _ _))
 ·rw[if_neg he] at hK
  have hou:yZ f s.out=s.out:=by unfold yZ;rw[if_pos he]
  dsimp only[bY,pM]
  refine aH Tryz.func164 ?_
  repeat' (first|(show Br _ _ _;refine Br.t (by simpa using he) ?_)|refine v46 ?_|refine dw uK ?_|refine wr ?_|refine w5 ?_ ?_|((refine bh fun h=>?_) <;> try exact w6 h)|(refine aE fun hA=>?_;subst hA)|intro _|(show aA _ 60 _ _ _;refine CA (h:=jR (f:=f) h.ou (by rw[hp0];exact eD) (by rw[hp0,Jd];rfl) (by rw[Jd];decide) ?_);rw[hou])|(show aA _ 79 _ _ _;refine CA (h:=dH (x:=x) (a:=a) (s:=s) h (by decide) (by decide) (fun _ _=>?_))))
  all_goals(refine aC ?_;exact aB (hK _ _))
end
section
variable {R C:List HP} {K:Value→List HP→Prop} {x mc i b p r t:Nat} {a:Ca} {s:Cn} {M:Option Addr} {B id code k la c st w o:Int} {gone:Bool} {m m':Sm} {f:Fm} {y:Ys} {l:List Sm}
def smR (b r:Nat) (m:Sm):HP:=eW fun li=>eW fun t=>sep (pt b [.pointer (some ⟨li,0,none⟩),.pointer (some ⟨t,0,none⟩),.pointer (some ⟨r,0,none⟩),.int .i64 m.id,.bool m.own] 258) (sep (oR li m.sta) (sep (AV t m.x) (bH (xA m))))
def smT (b t:Nat) (m:Sm):HP:=eW fun li=>eW fun r=>sep (pt b [.pointer (some ⟨li,0,none⟩),.pointer (some ⟨t,0,none⟩),.pointer (some ⟨r,0,none⟩),.int .i64 m.id,.bool m.own] 258) (sep (oR li m.sta) (sep (CO r m.y) (bH (xA m))))
theorem Aan {li t r:Nat} (h:xA m):aG (CO r m.y::pt b [.pointer (some ⟨li,0,none⟩),.pointer (some ⟨t,0,none⟩),.pointer (some ⟨r,0,none⟩),.int .i64 m.id,.bool m.own] 258::oR li m.sta::AV t m.x::R) (CO r m.y::smR b r m::R):=
 aG.cons (aG.ex li (aG.ex t (pY h)))
theorem Zo {li t r:Nat} (h:xA m):aG (AV t m.x::pt b [.pointer (some ⟨li,0,none⟩),.pointer (some ⟨t,0,none⟩),.pointer (some ⟨r,0,none⟩),.int .i64 m.id,.bool m.own] 258::oR li m.sta::CO r m.y::R) (AV t m.x::smT b t m::R):=
 aG.cons (aG.ex li (aG.ex r (pY h)))
theorem Uf {f:FuncId} {args:Array Value} (h:xA m→aA Tryz.prog f args (rT b m::R) K):aA Tryz.prog f args (rT b m::R) K:=
 lT fun _ _ _ hok=>aA.ent (cK hok) (h hok)
theorem qP (hK:∀r,K (.pointer (some ⟨r,0,none⟩)) (CO r m.y::smR b r m::R)):aA Tryz.prog 89 #[.pointer (some ⟨b,0,none⟩)] (rT b m::R) K:=by
 refine lT fun li t r h=>?_
 refine aH Tryz.func89 ?_
 repeat' (first|refine v4 ?_|refine wr ?_|refine w5 ?_ ?_|((refine bh fun h=>?_) <;> try exact w6 h)|(refine aE fun hA=>?_;subst hA)|intro _)
 (refine aC ?_;exact aK (aG.trans (by exact aY) ((Aan h))) (hK _))
theorem L8 (hK:∀t,K (.pointer (some ⟨t,0,none⟩)) (AV t m.x::smT b t m::R)):aA Tryz.prog 86 #[.pointer (some ⟨b,0,none⟩)] (rT b m::R) K:=by
 refine lT fun li t r h=>?_
 refine aH Tryz.func86 ?_
 repeat' (first|refine v4 ?_|refine wr ?_|refine w5 ?_ ?_|((refine bh fun h=>?_) <;> try exact w6 h)|(refine aE fun hA=>?_;subst hA)|intro _)
 (refine aC ?_;exact aK (aG.trans (by exact aY) ((Zo h))) (hK _))
theorem mM (hy:kG y=kG m.y):aG (CO r y::smR b r m::R) (rT b { m with y:=y }::R):=fun H hs=>by
 have hs:=bV.swap hs
 obtain⟨li,hs⟩:=hs.ex
 obtain⟨t,hs⟩:=hs.ex
 obtain⟨hok,hs⟩:=(rG H hs).pure
 have hok':xA { m with y:=y }:=⟨hok.1.trans hy.symm,hok.2⟩
 exact cK (li:=li) (t:=t) (r:=r) hok' H hs
theorem HS {z:Xs} (hy:bB z=bB m.x):aG (AV t z::smT b t m::R) (rT b { m with x:=z }::R):=fun H hs=>by
 have hs:=bV.swap hs
 obtain⟨li,hs⟩:=hs.ex
 obtain⟨r,hs⟩:=hs.ex
 obtain⟨hok,hs⟩:=(rG H hs).pure
 have hok':xA { m with x:=z }:=⟨hy.trans hok.1,hok.2⟩
 exact cK (li:=li) (t:=t) (r:=r) hok' H (hs.perm (List.Perm.cons _ (List.Perm.cons _ (List.Perm.swap _ _ _))))
theorem GD {t:Int}:∀l:List Sm,cB t l=((l.map Sm.id).takeWhile fun k=>decide (k<t)).length
 | []=>rfl
 |e::r=>by
  have ih:=GD (t:=t) r
  unfold cB at ih ⊢
  rw[List.map_cons,List.takeWhile_cons,List.takeWhile_cons]
  split
  ·rw[List.length_cons,List.length_cons,ih]
  ·rfl
theorem Cz (hi:l[i]?=some m) (hid:m'.id=m.id):(l.set i m').map Sm.id=l.map Sm.id:=by
 rw[List.map_set,hid]
 exact jT i (by rw[List.getElem?_map,hi];rfl)
theorem N9 {t:Int} (hi:l[i]?=some m) (hid:m'.id=m.id):cB t (l.set i m')=cB t l:=by
 rw[GD,GD,Cz hi hid]
theorem lN (hm:b7 id l=some m) (hid:m'.id=m.id):b7 m'.id (l.set (cB id l) m')=some m':=by
 obtain⟨h1,h2⟩:=aZ hm
 have hlt:=(List.getElem?_eq_some_iff.1 h1).1
 unfold b7
 rw[N9 h1 hid,hid,h2,List.getElem?_set_self hlt]
 simp only[hid,h2,if_true]
theorem W1 (hm:b7 id l=some m) (hid:m'.id=m.id):(l.set (cB id l) m').eraseIdx (cB m.id (l.set (cB id l) m'))=l.eraseIdx (cB m.id l):=by
 obtain⟨h1,h2⟩:=aZ hm
 rw[N9 h1 hid,h2,List.eraseIdx_set_eq]
theorem m7 {b:Bool}:∀l:List Sm,(l.filter fun m=>m.own == b).length=((l.map Sm.own).filter fun q=>q == b).length
 | []=>rfl
 |m::l=>by
  rw[List.map_cons,List.filter_cons,List.filter_cons]
  split
  ·rw[List.length_cons,List.length_cons,m7 l]
  ·exact m7 l
theorem M8 {b:Bool} (hi:l[i]?=some m) (ho:m'.own=m.own):((l.set i m').filter fun m=>m.own == b).length=(l.filter fun m=>m.own == b).length:=by
 rw[m7,m7,List.map_set,ho,jT i (by rw[List.getElem?_map,hi];rfl)]
theorem kZ (h:bS B s) (hi:s.l[i]?=some m) (hid:m'.id=m.id) (ho:m'.own=m.own) (hm:ED B m'):bS B { s with l:=s.l.set i m' }:=
 { h with
   sm:=Adr h.sm hi hid
   st:=fun z hz=>by
    rcases List.mem_or_eq_of_mem_set hz with hz|rfl
    ·exact h.st z hz
    ·exact hm
   ids:=fun z hz=>by
    rcases List.mem_or_eq_of_mem_set hz with hz|rfl
    ·exact h.ids z hz
    ·have:=h.ids m (List.mem_of_getElem? hi)
     show nS s.sd s.nx s.la z.id=true
     rw[hid];exact this
   own:=fun b=>by
    show((s.l.set i m').filter fun m=>m.own == b).length≤32
    rw[M8 hi ho];exact h.own b
   mv:=by
    have:=h.mv
    show(s.mv.length:Int)+((s.l.set i m').length:Int)≤B
    rw[List.length_set];exact this }
theorem Aeu {y:Yp} (h:I3 B y):I3 B (fT y k):=by
 unfold I3 at h
 unfold fT
 split
 ·unfold I3;dsimp only;omega
 ·exact h
theorem oM (h:bS B s):bS B { s with rv:=fT s.rv k }:= { h with rv:=Aeu h.rv }
theorem Yn (h:ED B m):ED B (BH m):=by
 obtain⟨h1,h2,h3,h4⟩:=h
 unfold BH
 split
 ·refine⟨h1,?_,?_,?_⟩
  ·cases hx:m.x <;> rw[hx] at h2 <;> exact h2
  ·cases hy:m.y <;> rw[hy] at h3 <;> exact h3
  ·cases hy:m.y <;> (rw[hy] at h4;simp only[Dh,hO,List.length_nil] at h4 ⊢;omega)
 ·exact⟨h1,h2,h3,h4⟩
theorem Ae0 (h:ED B m):ED B { m with y:=Dh m.y }:=by
 obtain⟨h1,h2,h3,h4⟩:=h
 refine⟨h1,h2,?_,?_⟩
 ·cases hy:m.y <;> rw[hy] at h3 <;> exact h3
 ·cases hy:m.y <;> (rw[hy] at h4;simp only[Dh,hO,List.length_nil] at h4 ⊢;omega)
theorem Aap:(BH m).id=m.id:=by unfold BH;split <;> rfl
theorem Ut:(BH m).own=m.own:=by unfold BH;split <;> rfl
theorem Ag5:bB (BH m).x=bB m.x:=by
 unfold BH
 split
 ·cases hx:m.x <;> simp only[Adq] <;> rfl
 ·rfl
theorem Aje:kG (Dh y)=kG y:=by cases y <;> rfl
theorem Ajr (hok:xA m) (h1:bB m.x=1):Ju m+(hO (BH m).y:Nat)=(hO m.y:Nat):=by
 have h2:=hok.1
 rw[h1] at h2
 cases hy:m.y with
 |i z=>rw[hy] at h2;cases h2
 |b z=>
  unfold Ju BH
  split
  ·rw[hy];simp[Dh,hO]
  ·rw[hy];simp
theorem Ah2 (hok:xA m) (h1:bB m.x≠1):Ju m=0:=by
 have h2:=hok.1
 cases hy:m.y with
 |b z=>rw[hy] at h2;exact absurd h2 h1
 |i z=>
  unfold Ju
  rw[hy]
  split <;> rfl
theorem NN (hm:b7 id s.l=some m) (hid:m'.id=m.id):lE m'.id code gone { s with l:=s.l.set (cB id s.l) m' }=lE m.id code gone s:=by
 unfold lE
 dsimp only
 rw[hid,W1 hm hid]
theorem rS (h:bS B s) (hm:b7 id s.l=some m):bS B (sB m code s):=by
 have h2:=(aZ hm).2
 have h1:b7 m.id s.l=some m:=by rw[h2];exact hm
 exact zE (oM h) (id:=m.id) (m:=m) h1
theorem AJ {ev:Int} (h:bS B s) (hm:b7 id s.l=some m) (he:ev=4∨ev=5) (hK:∀M mc,K (.tuple #[]) (bY x a (sB m code s) M mc R)):aA Tryz.prog 254 #[.pointer (some ⟨x,0,none⟩),.pointer (some ⟨b,0,none⟩),.int .i64 ev,.int .i64 code] (rT b m::cnH x a s M mc (cB id s.l) b R) K:=by
 refine Uf fun hok=>?_
 obtain⟨hi,hmid⟩:=aZ hm
 have hI:=h.st m (List.mem_of_getElem? hi)
 have hln:=hI.ln
 have hB:=h.bb
 have hrv:=h.rv
 unfold I3 at hrv
 unfold sB at hK
 by_cases h1:bB m.x=1
 ·rw[if_pos h1] at hK
  have hn:=Ajr hok h1
  have hid2:({ BH m with y:=Dh (BH m).y }:Sm).id=m.id:=Aap
  have hI2:bS B { { s with rv:=fT s.rv (hO m.y:Nat) } with l:=s.l.set (cB id s.l) { BH m with y:=Dh (BH m).y } }:=kZ (s:= { s with rv:=fT s.rv (hO m.y:Nat) }) (oM h) hi hid2 Ut (Ae0 (Yn hI))
  have hK':=hK
  rw[← NN (s:= { s with rv:=fT s.rv (hO m.y:Nat) }) (m:=m) (m':= { BH m with y:=Dh (BH m).y }) (id:=id) hm hid2] at hK'
  have h0:0≤Ju m∧Ju m≤hO m.y:=by
   unfold Ju
   split
   ·cases hy:m.y with
    |b z=>simp[hO]
    |i z=>simp[hO]
   ·omega
  dsimp only[cnH,pM]
  refine aH Tryz.func254 ?_
  repeat' (first|refine Ga ?_|refine wr ?_|refine w5 ?_ ?_|((refine bh fun h=>?_) <;> try exact w6 h)|(refine aE fun hA=>?_;subst hA)|intro _|(show aA _ 337 _ _ _;refine CA (h:=Qc (m:=m) he ?_))|(show aA _ 107 _ _ _;refine CA (h:=kJ (m:=BH m) ?_);rw[Ag5,h1])|(show aA _ 89 _ _ _;refine CA (h:=qP (m:=BH m) (fun _=>?_)))|(show aA _ 338 _ _ _;refine CA (h:=Af8 (y:=(BH m).y) ?_))|(show aA _ 118 _ _ _;rw[hn];refine CA (h:=tM (y:=s.rv) (by omega) (by omega) (fun _=>?_)))|(show aA _ 224 _ _ _;refine CA (h:=aA.ent (mM Aje) (Ln (m:= { BH m with y:=Dh (BH m).y }) ?_)))|(show aA _ 223 _ _ _;refine CA (h:=aA.ent (lP (x:=x) (a:=a) (s:= { s with rv:=fT s.rv (hO m.y:Nat) }) (M:=M) (mc:=mc) (R:=R) (b:=b) (m':= { BH m with y:=Dh (BH m).y }) hi hid2) (Bd hI2 (lN hm hid2) (fun _ _=>?_)))))
  all_goals(refine aC ?_;exact aB (hK' _ _))
 ·rw[if_neg h1] at hK
  have hn:=Ah2 hok h1
  have hid2:(BH m).id=m.id:=Aap
  have hI2:bS B { { s with rv:=fT s.rv 0 } with l:=s.l.set (cB id s.l) (BH m) }:=kZ (s:= { s with rv:=fT s.rv 0 }) (oM h) hi hid2 Ut (Yn hI)
  have hK':=hK
  rw[← NN (s:= { s with rv:=fT s.rv 0 }) (m:=m) (m':=BH m) (id:=id) hm hid2] at hK'
  have hk1:bB (BH m).x≠1:=by rw[Ag5];exact h1
  dsimp only[cnH,pM]
  refine aH Tryz.func254 ?_
  repeat' (first|(show Br _ _ _;refine Br.f (by simpa using hk1) ?_)|refine Ga ?_|refine wr ?_|refine w5 ?_ ?_|((refine bh fun h=>?_) <;> try exact w6 h)|(refine aE fun hA=>?_;subst hA)|intro _|(show aA _ 337 _ _ _;refine CA (h:=Qc (m:=m) he ?_);rw[hn])|(show aA _ 107 _ _ _;refine CA (h:=kJ (m:=BH m) ?_))|(show aA _ 118 _ _ _;refine CA (h:=tM (y:=s.rv) (by omega) (by omega) (fun _=>?_)))|(show aA _ 224 _ _ _;refine CA (h:=Ln (m:=BH m) ?_))|(show aA _ 223 _ _ _;refine CA (h:=aA.ent (lP (x:=x) (a:=a) (s:= { s with rv:=fT s.rv 0 }) (M:=M) (mc:=mc) (R:=R) (b:=b) (m':=BH m) hi hid2) (Bd hI2 (lN hm hid2) (fun _ _=>?_)))))
  all_goals(refine aC ?_;exact aB (hK' _ _))
end
section
variable {R C:List HP} {K:Value→List HP→Prop} {x mc i b p r t:Nat} {a:Ca} {s:Cn} {M:Option Addr} {B id code k la c st w o on sg kind:Int} {gone own xx:Bool} {m m':Sm} {f:Fm} {y:Ys} {l:List Sm} {cf:Cf} {h3:eE}
theorem p9 (h:bS B s):bS B (kA w st s):=by
 unfold kA
 split
 ·exact iM h
 ·refine It ?_
  cases hm:b7 st s.l with
  |none=>exact h
  |some m=>exact rS h hm
def mE:List (Nat×Nat):= [(0,0),(1,0),(2,0),(3,0),(4,0),(5,0),(6,1),(7,0),(8,0),(9,0),(10,0),(11,0)]
theorem jB (h:bS B s) (hw:0≤w∧w≤20) (hst:1≤st∧st≤2147483647) (hK:∀M mc,K (.tuple #[]) (bY x a (kA w st s) M mc R)):aA Tryz.prog 257 #[.pointer (some ⟨x,0,none⟩),.agg #[.int .i64 w,.int .i64 st,.int .i64 0]] (bY x a s M mc R) K:=by
 unfold kA at hK
 cases ht:Sg w
 ·rw[ht,if_neg Bool.false_ne_true] at hK
  cases hm:b7 st s.l with
  |none=>
   rw[hm] at hK
   dsimp only[bY,pM]
   refine aH Tryz.func257 ?_
   repeat' (first|refine v31 ?_|refine dw mE ?_|refine wr ?_|refine w5 ?_ ?_|((refine bh fun h=>?_) <;> try exact w6 h)|(refine aE fun hA=>?_;subst hA)|intro _|(show aA _ 265 _ _ _;refine CA (h:=wL hw ?_);rw[ht])|(show aA _ 172 _ _ _;refine CA (h:=Uk hw ht hst ?_))|(show aA _ 192 _ _ _;refine CA (h:=mO (l:=s.l) h.sm hm ?_))|(show aA _ 164 _ _ _;refine CA (h:=Bc (x:=x) (a:=a) (s:=s) (M:=M) (mc:=mc) (R:=R) (f:=lX st (lH w 0)) h rfl rfl rfl (fun _ _=>?_))))
   all_goals(refine aC ?_;exact aB (hK _ _))
  |some m=>
   rw[hm] at hK
   dsimp only[bY,pM]
   refine aH Tryz.func257 ?_
   repeat' (first|refine v31 ?_|refine dw mE ?_|refine wr ?_|refine w5 ?_ ?_|((refine bh fun h=>?_) <;> try exact w6 h)|(refine aE fun hA=>?_;subst hA)|intro _|(show aA _ 265 _ _ _;refine CA (h:=wL hw ?_);rw[ht])|(show aA _ 172 _ _ _;refine CA (h:=Uk hw ht hst ?_))|(show aA _ 192 _ _ _;refine CA (h:=f7 (l:=s.l) h.sm hm (fun _=>?_)))|(show aA _ 254 _ _ _;refine CA (h:=AJ (x:=x) (a:=a) (s:=s) (M:=M) (mc:=mc) (m:=m) h hm (.inl rfl) (fun _ _=>?_)))|(show aA _ 164 _ _ _;refine CA (h:=Bc (x:=x) (a:=a) (s:=sB m (lH w 0) s) (f:=lX st (lH w 0)) (rS h hm) rfl rfl rfl (fun _ _=>?_))))
   all_goals(refine aC ?_;exact aB (hK _ _))
 ·rw[ht,if_pos rfl] at hK
  refine aH Tryz.func257 ?_
  repeat' (first|refine v31 ?_|refine dw mE ?_|refine wr ?_|refine w5 ?_ ?_|((refine bh fun h=>?_) <;> try exact w6 h)|(refine aE fun hA=>?_;subst hA)|intro _|(show aA _ 265 _ _ _;refine CA (h:=wL hw ?_);rw[ht])|(show aA _ 79 _ _ _;refine CA (h:=dH (x:=x) (a:=a) (s:=s) h hw ht (fun _ _=>?_))))
  all_goals(refine aC ?_;exact aB (hK _ _))
theorem sO {n m:Nat} {I:Nat→Fr→List HP→Prop} {a:Fr} {C C':List HP} (hm:m<n) (he:aG C C') (hi:I m a C'):aV n I a C:=cC m hi hm he
theorem qZ (hI:bS B s) (hK:K (.int .i64 (fH s own:Nat)) (bY x a s M mc R)):aA Tryz.prog 84 #[.pointer (some ⟨x,0,none⟩),.bool own] (bY x a s M mc R) K:=by
 have h64:=hI.sm.1
 refine aH Tryz.func84 ?_
 repeat' (first|refine Ga ?_|refine wr ?_|refine w5 ?_ ?_|((refine bh fun h=>?_) <;> try exact w6 h)|(refine aE fun hA=>?_;subst hA)|intro _|(show aA _ 83 _ _ _;refine CA (h:=x8 (l:=s.l) ?_)))
 refine iL (fun n a' C'=>∃(j q:Nat),j+n=s.l.length∧q≤j∧q+((s.l.drop j).filter fun m=>m.own == own).length=fH s own∧dC a' [(0,.pointer (some ⟨x,0,none⟩)),(1,.bool own),(5,.int .i64 q),(14,.int .i64 s.l.length),(15,.int .i64 j)]∧C'=bY x a s M mc R) s.l.length (cC s.l.length ⟨0,0,by omega,by omega,by unfold fH;simp,⟨rfl,rfl,rfl,rfl,rfl,trivial⟩,rfl⟩ (by omega)) ?_
 rintro n a' C' ⟨j,q,hj,hq,hc,ha,rfl⟩
 refine gV _ ha ?_
 simp only[fN]
 by_cases hlt:j<s.l.length
 ·obtain⟨m,hm,hd⟩:=iS (l:=s.l) (j:=j) hlt
  rw[hd,List.filter_cons] at hc
  cases ho:(m.own == own)
  ·rw[ho,if_neg Bool.false_ne_true] at hc
   have hne:m.own≠own:=by simpa using ho
   repeat' (first|(show Br _ _ _;refine Br.f (by simpa using hne) ?_)|refine Ga ?_|refine wr ?_|refine w5 ?_ ?_|((refine bh fun h=>?_) <;> try exact w6 h)|(refine aE fun hA=>?_;subst hA)|intro _|(show aA _ 85 _ _ _;refine CA (h:=Em (l:=s.l) hI.sm hm (fun _=>?_)))|(show aA _ 178 _ _ _;refine CA (h:=z6 (m:=m) ?_)))
   all_goals(show aV _ _ _ _;exact sO (m:=n - 1) (by omega) (aG.trans (by exact aY) (dY (x:=x) (a:=a) (s:=s) (M:=M) (mc:=mc) (R:=R) hm)) ⟨j+1,q,by omega,by omega,hc,⟨rfl,rfl,rfl,rfl,rfl,trivial⟩,rfl⟩)
  ·rw[ho,if_pos rfl,List.length_cons] at hc
   have hne:m.own=own:=by simpa using ho
   repeat' (first|(show Br _ _ _;refine Br.t (by simpa using hne) ?_)|refine Ga ?_|refine wr ?_|refine w5 ?_ ?_|((refine bh fun h=>?_) <;> try exact w6 h)|(refine aE fun hA=>?_;subst hA)|intro _|(show aA _ 85 _ _ _;refine CA (h:=Em (l:=s.l) hI.sm hm (fun _=>?_)))|(show aA _ 178 _ _ _;refine CA (h:=z6 (m:=m) ?_)))
   all_goals(show aV _ _ _ _;exact sO (m:=n - 1) (by omega) (aG.trans (by exact aY) (dY (x:=x) (a:=a) (s:=s) (M:=M) (mc:=mc) (R:=R) hm)) ⟨j+1,q+1,by omega,by omega,by omega,⟨rfl,rfl,rfl,rfl,rfl,trivial⟩,rfl⟩)
 ·have hj0:j=s.l.length:=by omega
  subst hj0
  rw[List.drop_length] at hc
  have hc:q=fH s own:=by simpa using hc
  subst hc
  repeat' (first|refine Ga ?_|refine wr ?_|refine w5 ?_ ?_|((refine bh fun h=>?_) <;> try exact w6 h)|(refine aE fun hA=>?_;subst hA)|intro _)
  all_goals(refine aC ?_;exact aB (hK))
theorem Of (hk:kind=1∨kind=2) (hid:1≤id∧id≤2147483647) (hb:0≤cf.sb∧cf.sb≤4096) (hi:0≤cf.si∧cf.si≤64) (hg:0≤sg∧sg≤2) (hh:vT h3) (hK:∀b,K (.tuple #[.pointer (some ⟨b,0,none⟩),.int .i64 0]) (rT b (gJ cf h3 id kind sg own)::R)):aA Tryz.prog 139 #[.int .i64 id,.int .i64 kind,.bool own,.agg #[.int .i64 h3.w,.int .i64 h3.st,.int .i64 h3.it,.int .i64 cf.sb,.int .i64 cf.si,.int .i64 sg,.int .i64 cf.ev,.int .i64 cf.wa,.int .i64 cf.sl]] R K:=by
 obtain⟨cw,cst,cit,sb,si,csg,ev,wa,sl⟩:=cf
 obtain⟨cap,rfl⟩:∃n:Nat,sb=n:=⟨sb.toNat,(Int.toNat_of_nonneg hb.1).symm⟩
 obtain⟨cai,rfl⟩:∃n:Nat,si=n:=⟨si.toNat,(Int.toNat_of_nonneg hi.1).symm⟩
 have e1:((cap:Nat):Int).toNat=cap:=Int.toNat_natCast cap
 have e2:((cai:Nat):Int).toNat=cai:=Int.toNat_natCast cai
 rcases hk with rfl|rfl
 ·have e:gJ ⟨cw,cst,cit,(cap:Nat),(cai:Nat),csg,ev,wa,sl⟩ h3 id 1 sg own=⟨id,own,1,.b ⟨cap,[],false,false,0,0,0⟩,.b ⟨h3.w,h3.w,h3.w,0,0,[],false⟩⟩:=by
   unfold gJ;rw[if_pos rfl];dsimp only;rw[e1]
  rw[e] at hK
  exact aA.entK (PS hid (by simp only at hb;omega) hh fun b li t r=>⟨_,cK (m:=⟨id,own,1,.b ⟨cap,[],false,false,0,0,0⟩,.b ⟨h3.w,h3.w,h3.w,0,0,[],false⟩⟩) ⟨rfl,.inl rfl⟩,hK b⟩)
 ·have e:gJ ⟨cw,cst,cit,(cap:Nat),(cai:Nat),csg,ev,wa,sl⟩ h3 id 2 sg own=⟨id,own,1,.i ⟨cai,sg,[],0,false,false,0,0,0⟩,.i ⟨h3.it,h3.it,0,0,[],0,0,0,false⟩⟩:=by
   unfold gJ;rw[if_neg (by decide)];dsimp only;rw[e2]
  rw[e] at hK
  exact aA.entK (PZ hid (by simp only at hi;omega) hg hh fun b li t r=>⟨_,cK (m:=⟨id,own,1,.i ⟨cai,sg,[],0,false,false,0,0,0⟩,.i ⟨h3.it,h3.it,0,0,[],0,0,0,false⟩⟩) ⟨rfl,.inl rfl⟩,hK b⟩)
theorem O4 (he:m.id=id) (hs:FY l) (hm:b7 id l=none) (h64:l.length<64) (hK:K (.int .i64 0) (Hg p (j0 m l)::R)):aA Tryz.prog 215 #[.pointer (some ⟨p,0,none⟩),.int .i64 id,.pointer (some ⟨b,0,none⟩)] (rT b m::Hg p l::R) K:=by
 subst he;exact Afd hs hm h64 hK
theorem UY {b:Bool}:((j0 m l).filter fun m=>m.own == b).length=(l.filter fun m=>m.own == b).length+if m.own == b then 1 else 0:=by
 have h:(l.filter fun m=>m.own == b).length=((l.take (cB m.id l)).filter fun m=>m.own == b).length+((l.drop (cB m.id l)).filter fun m=>m.own == b).length:=by
  rw[← List.length_append,← List.filter_append,List.take_append_drop]
 unfold j0
 rw[h,List.filter_append,List.length_append,List.filter_cons]
 split <;> first|(simp only[List.length_cons];omega)|omega
theorem TP (hI:bS B s) (hm:b7 id s.l=none) (hl:s.l.length<64) (hid:1≤id∧id≤2147483647) (hp:nS s.sd s.nx s.la id=true) (ho:fH s own<32) (hb:(s.mv.length:Int)+s.l.length+1≤B):bS B (Hl id kind on w xx own sg s):=
 { hI with
   sm:=Aet (m:=gJ s.cf s.sh.h id kind sg own) hI.sm (by
    have e:(gJ s.cf s.sh.h id kind sg own).id=id:=by unfold gJ;split <;> rfl
    rw[e];exact hm) hl
   st:=fun z hz=>by
    have hB:=hI.bb
    rcases AW hz with rfl|hz
    ·unfold gJ
     split
     ·exact⟨hid,by show(0:Int)≤B;omega,by show(0:Int)≤B;omega,by show((0:Nat):Int)≤B;omega⟩
     ·exact⟨hid,by show(0:Int)≤B;omega,by show(0:Int)≤B;omega,by show((0:Nat):Int)≤B;omega⟩
    ·exact hI.st z hz
   ids:=fun z hz=>by
    rcases AW hz with rfl|hz
    ·have e:(gJ s.cf s.sh.h id kind sg own).id=id:=by unfold gJ;split <;> rfl
     show nS s.sd s.nx s.la _=true
     rw[e];exact hp
    ·exact hI.ids z hz
   own:=fun b=>by
    have e:(gJ s.cf s.sh.h id kind sg own).own=own:=by unfold gJ;split <;> rfl
    show((j0 (gJ s.cf s.sh.h id kind sg own) s.l).filter fun m=>m.own == b).length≤32
    rw[UY,e]
    have h1:=hI.own b
    unfold fH at h1 ho
    split
    ·rename_i hb
     have hb:own=b:=by simpa using hb
     subst hb;omega
    ·omega
   tr:=Ade hI.tr
   ld:=by
    show F1 B (if kind=1 then kQ id s.pe.w s.ld else s.ld)
    split
    ·exact Ab1 hI.ld
    ·exact hI.ld
   mv:=by
    show(s.mv.length:Int)+((j0 _ s.l).length:Int)≤B
    have e:(j0 (gJ s.cf s.sh.h id kind sg own) s.l).length≤s.l.length+1:=by
     unfold j0
     rw[List.length_append,List.length_cons,List.length_take,List.length_drop]
     omega
    omega }
def vI:List (Nat×Nat):= [(0,0),(1,0),(2,0),(3,0),(4,0),(5,0),(6,1)]
def uB:List (Nat×Nat):= [(0,0),(1,0),(2,0),(3,0),(4,0),(5,0),(6,0),(7,0),(8,0),(9,0),(10,1)]
theorem P6 (hI:bS B s) (hk:kind=1∨kind=2) (hg:0≤sg∧sg≤2) (hm:b7 id s.l=none) (hl:s.l.length<64) (hid:1≤id∧id≤2147483647) (hK:K (.int .i64 0) (bY x a (Hl id kind on w xx own sg s) M mc R)):aA Tryz.prog 115 #[.pointer (some ⟨x,0,none⟩),.int .i64 id,.int .i64 kind,.bool own,.agg #[.int .i64 on,.int .i64 w,.bool xx],.int .i64 sg] (bY x a s M mc R) K:=by
 have hB:=hI.bb
 have htl:=hI.tr.len
 have he:(gJ s.cf s.sh.h id kind sg own).id=id:=by unfold gJ;split <;> rfl
 unfold Hl at hK
 by_cases h1:kind=1
 ·simp only[if_pos h1] at hK
  dsimp only[bY,pM] at hK ⊢
  refine aH Tryz.func115 ?_
  repeat' (first|(show Br _ _ _;refine Br.t (by simpa using h1) ?_)|refine Jc ?_|refine dw vI ?_|refine dw uB ?_|refine wr ?_|refine w5 ?_ ?_|((refine bh fun h=>?_) <;> try exact w6 h)|(refine aE fun hA=>?_;subst hA)|intro _|(show aA _ 214 _ _ _;refine CA (h:=xO (s:=s.sh) ?_))|(show aA _ 139 _ _ _;refine CA (h:=Of (cf:=s.cf) (h3:=s.sh.h) hk hid hI.cf.1 hI.cf.2.1 hg hI.sh.2.1 (fun _=>?_)))|(show aA _ 215 _ _ _;refine CA (h:=O4 (l:=s.l) (m:=gJ s.cf s.sh.h id kind sg own) he hI.sm hm hl ?_))|(show aA _ 216 _ _ _;refine CA (h:=FD (s:=s.tr) hI.tr.kok (by omega) (by decide) ?_))|(show aA _ 217 _ _ _;refine CA (h:=Wo (hI.ld.ok (by omega)) (fun _=>?_))))
  all_goals(refine aC ?_;exact aB (hK))
 ·simp only[if_neg h1] at hK
  dsimp only[bY,pM] at hK ⊢
  refine aH Tryz.func115 ?_
  repeat' (first|(show Br _ _ _;refine Br.f (by first | (simp <;> done) | simpa using h1) ?_)|refine Jc ?_|refine dw vI ?_|refine dw uB ?_|refine wr ?_|refine w5 ?_ ?_|((refine bh fun h=>?_) <;> try exact w6 h)|(refine aE fun hA=>?_;subst hA)|intro _|(show aA _ 214 _ _ _;refine CA (h:=xO (s:=s.sh) ?_))|(show aA _ 139 _ _ _;refine CA (h:=Of (cf:=s.cf) (h3:=s.sh.h) hk hid hI.cf.1 hI.cf.2.1 hg hI.sh.2.1 (fun _=>?_)))|(show aA _ 215 _ _ _;refine CA (h:=O4 (l:=s.l) (m:=gJ s.cf s.sh.h id kind sg own) he hI.sm hm hl ?_))|(show aA _ 216 _ _ _;refine CA (h:=FD (s:=s.tr) hI.tr.kok (by omega) (by decide) ?_)))
  all_goals(refine aC ?_;exact aB (hK))
end
section
variable {R C:List HP} {K:Value→List HP→Prop} {x mc i b p r t:Nat} {a:Ca} {s:Cn} {M:Option Addr} {B B' id code k la c st w o on sg kind:Int} {gone own xx:Bool} {m m':Sm} {f:Fm} {y:Ys} {l:List Sm} {cf:Cf} {h3:eE} {z:Yp}
theorem ED.mono (h:ED B m) (hB:B≤B'):ED B' m:=by
 obtain⟨h1,h2,h3,h4⟩:=h
 exact⟨h1,by omega,by omega,by omega⟩
theorem bS.mono (h:bS B s) (hB:B≤B') (hb:B'≤250000000):bS B' s:=
 { h with
   bb:=by have:=h.bb;omega
   st:=fun z hz=>(h.st z hz).mono hB
   ld:=h.ld.mono hB
   rv:=by have:=h.rv;unfold I3 at this ⊢;omega
   bt:=by have:=h.bt;omega
   sl:=by have:=h.sl;omega
   inb:=by have:=h.inb;omega
   now:=by have:=h.now;omega
   mv:=by have:=h.mv;omega }
theorem mN (hb:I3 B z) (hB:B≤250000000) (hk:0≤k∧k≤900000000) (hK:K (.int .i64 (kS z k)) (y4 p (fX z k).cap (fX z k).most (fX z k).gr (fX z k).got (fX z k).us::R)):aA Tryz.prog 260 #[.pointer (some ⟨p,0,none⟩),.int .i64 k] (y4 p z.cap z.most z.gr z.got z.us::R) K:=by
 unfold I3 at hb
 by_cases h:max (z.gr - z.got) 0<k
 ·have e:kS z k=9:=by unfold kS;rw[if_pos h]
  unfold fX at hK
  rw[e] at hK
  simp only[if_neg (show ¬(9:Int)=0 by decide)] at hK
  exact K1 h (by omega) hK
 ·have e:kS z k=0:=by unfold kS;rw[if_neg h]
  unfold fX at hK
  rw[e] at hK
  simp only[if_true] at hK
  exact H7 (by omega) (by omega) hK
theorem Agt (h:I3 B z) (hk:0≤k∧k≤B' - B):I3 B' (fX z k):=by
 unfold I3 at h
 by_cases hg:kS z k=0
 ·have e:fX z k= { z with got:=z.got+k }:=by unfold fX;rw[if_pos hg]
  rw[e]
  unfold kS at hg
  by_cases h0:max (z.gr - z.got) 0<k
  ·rw[if_pos h0] at hg;cases hg
  ·unfold I3;dsimp only;omega
 ·have e:fX z k=z:=by unfold fX;rw[if_neg hg]
  rw[e]
  unfold I3;omega
theorem JY {d:ByteArray} {e:Bool}:0≤f3 m t d e∧f3 m t d e≤20:=by
 unfold f3
 split
 ·omega
 ·split
  ·omega
  ·unfold yI
   split <;> (split <;> (try split) <;> omega)
theorem Aba {d:ByteArray} {e:Bool} (h:ED B m) (hd:d.size≤256) (hB:B+300≤B'):ED B' (fE m d e):=by
 obtain⟨h1,h2,h3,h4⟩:=h
 refine⟨h1,by show JK m.x≤B';omega,?_,?_⟩
 ·show Jn (BZ m.y d e)≤B'
  cases hy:m.y with
  |b y=>rw[hy] at h3;simp only[BZ,Jn] at h3 ⊢;omega
  |i y=>
   rw[hy] at h3
   by_cases hc:d≠⟨#[]⟩∨e=false
   ·simp only[BZ,if_pos hc,Jn] at h3 ⊢;omega
   ·simp only[BZ,if_neg hc,Jn] at h3 ⊢;omega
 ·show(hO (BZ m.y d e):Int)≤B'
  have hdl:d.data.toList.length=d.size:=Array.length_toList
  cases hy:m.y with
  |b y=>rw[hy] at h4;simp only[BZ,hO,List.length_append] at h4 ⊢;omega
  |i y=>
   rw[hy] at h4
   by_cases hc:d≠⟨#[]⟩∨e=false
   ·simp only[BZ,if_pos hc,hO,List.length_append,List.length_singleton] at h4 ⊢;omega
   ·simp only[BZ,if_neg hc,hO] at h4 ⊢;omega
end
end Go.Proofs.YtifgibijcmppmaaGreat
