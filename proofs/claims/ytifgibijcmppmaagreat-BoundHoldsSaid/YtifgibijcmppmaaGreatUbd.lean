/- A part of the proof: lemmas; each with the conditions that it states. -/
import Derived.Test.YtifgibijcmppmaaGreatUax
import Derived.Test.YtifgibijcmppmaaGreatUas
import Derived.Test.YtifgibijcmppmaaGreatUba
set_option linter.unusedVariables false
set_option linter.unusedSimpArgs false
set_option maxRecDepth 100000
set_option maxHeartbeats 40000000
namespace Go.Proofs.YtifgibijcmppmaaGreat
open Go Go.Proofs Go.Sl
attribute [local irreducible] aN fN cX bP aM aX aA dS dV aT dU pt ro eV star sep bH
attribute [local irreducible] mp ED
structure Cf where
 w:Int
 st:Int
 it:Int
 sb:Int
 si:Int
 sg:Int
 ev:Int
 wa:Int
 sl:Int
structure Yp where
 cap:Int
 most:Int
 gr:Int
 got:Int
 us:Int
structure Mv where
 k:Int
 id:Int
 n:Int
 s:ByteArray
 e:Bool
structure Cn where
 cf:Cf
 sd:Int
 nx:Int
 la:Int
 l:List Sm
 tr:eN
 pk:List (KE Int)
 pc:Nat
 ld:Ld
 rv:Yp
 sh:Gh
 pe:eJ
 bt:Bt
 sl:PV
 dr:Dr
 out:List Fm
 inb:List UInt8
 ine:Int
 now:Int
 last:ByteArray
 mv:List Mv
def fr0 (t st:Int):Fm:=⟨t,st,false,⟨#[]⟩,0,0,0,false,0,0,0,none,0,0,[]⟩
def wA (t st:Int) (d:ByteArray) (e:Bool):Fm:=⟨t,st,e,d,0,0,0,false,0,0,0,none,0,0,[]⟩
def qE (st k on w:Int) (x:Bool):Fm:=⟨2,st,false,⟨#[]⟩,k,on,w,x,0,0,0,none,0,0,[]⟩
def sK (st on w:Int) (x:Bool):Fm:=⟨3,st,false,⟨#[]⟩,0,on,w,x,0,0,0,none,0,0,[]⟩
def mE (st c:Int):Fm:=⟨4,st,false,⟨#[]⟩,0,0,0,false,c,0,0,none,0,0,[]⟩
def J6 (ps:List Pr):Fm:=⟨5,0,false,⟨#[]⟩,0,0,0,false,0,0,0,none,ps.length,0,ps⟩
def E8 (la c:Int):Fm:=⟨9,0,false,⟨#[]⟩,0,0,0,false,c,la,0,none,0,0,[]⟩
def DJ (t st n:Int):Fm:=⟨t,st,false,⟨#[]⟩,0,0,0,false,0,0,n,none,0,0,[]⟩
def lB (y:Yp) (k:Int):Int:=if max (y.gr - y.got) 0<k then 9 else 0
def f7 (y:Yp) (k:Int):Yp:=if lB y k=0 then { y with got:=y.got+k } else y
def fY (y:Yp) (k:Int):Yp:=if 0≤k∧k≤y.got - y.us then { y with us:=y.us+k } else y
def vX (y:Yp):Int:=tQ y.cap y.gr y.us
def SJ (y:Yp):Yp:= { y with gr:=y.gr+vX y }
def fO (s:Cn) (b:Bool):Nat:=(s.l.filter fun m=>m.own == b).length
def tF (m:Mv) (s:Cn):Cn:= { s with mv:=s.mv++ [m] }
def wD (s:Cn) (id:Int):Bool:=oJ s.sd s.nx s.la id
def aD (s:Cn):Cn:= { s with mv:= [] }
def cM (s:Cn) (id:Int):Int:=if s.dr.ov=true then 14 else match bY id s.l with
 |some _=>0
 |none=>if wD s id=true then 14 else 7
def lW (id code:Int) (gone:Bool) (s:Cn):Cn:=
 { s with l:=s.l.eraseIdx (b7 id s.l),tr:=y6 id s.tr,pk:=(if p9 id s.pk=0 then s.pk else mQ id s.pk),ld:=nI id s.ld,mv:=s.mv++ [⟨4,id,code,⟨#[]⟩,gone⟩] }
def qU (code:Int):List Int→Cn→Cn
 | [],s=>s
 |id::r,s=>qU code r (lW id code false s)
def k7 (m:Sm) (s:Cn):Cn:=if Is m=true then lW m.id 0 true s else s
def vE (s:Cn):Cn:= { qU s.dr.co (s.l.map Sm.id) s with out:= [] }
def iO (w o:Int) (s:Cn):Cn:=vE { s with dr:=CJ s.dr (lO w o),last:=S5 (E8 s.la (lO w o)) }
def tX (f:Fm) (s:Cn):Cn:=if EF f s.out=0 then { s with out:=zF f s.out } else iO 18 0 s
def sH (m:Sm) (code:Int) (s:Cn):Cn:=lW m.id code false { s with rv:=fY s.rv (if bB m.x=1 then(gF m.y:Nat) else 0) }
def kK (w st:Int) (s:Cn):Cn:=if Rn w=true then iO w 0 s else
 tX (mE st (lO w 0)) (match bY st s.l with
  |some m=>sH m (lO w 0) s
  |none=>s)
def gU (cf:Cf) (h:eJ) (id kind sg:Int) (own:Bool):Sm:=if kind=1 then⟨id,own,1,.b ⟨cf.sb.toNat,[],false,false,0,0,0⟩,.b ⟨h.w,h.w,h.w,0,0,[],false⟩⟩ else⟨id,own,1,.i ⟨cf.si.toNat,sg,[],0,false,false,0,0,0⟩,.i ⟨h.it,h.it,0,0,[],0,0,0,false⟩⟩
def HG (id kind on w:Int) (x own:Bool) (sg:Int) (s:Cn):Cn:=
 { s with l:=kG (gU s.cf s.sh.h id kind sg own) s.l,tr:=m8 id on w x 64 s.tr,ld:=if kind=1 then k8 id s.pe.w s.ld else s.ld }
def nE (kind sg on w:Int) (x:Bool) (s:Cn):Int:=if s.dr.ov=true then 14 else if kind≠1∧kind≠2 then 13 else if sg<0∨2<sg then 2 else if Ke s.dr=false then 15 else if 2147483647<s.nx∨min s.pe.st 32≤(fO s true:Nat) then 16 else if mK (qE s.nx kind on w x)=false then 2 else if on=s.nx then 12 else if 64≤s.out.length then 9 else 0
def sD (kind sg on w:Int) (x:Bool) (s:Cn):Cn:=if nE kind sg on w x s≠0 then aD s else
 HG s.nx kind on w x true sg { aD s with nx:=s.nx+2,out:=zF (qE s.nx kind on w x) s.out }
def zV (m:Sm) (s:Cn):Cn:= { s with l:=s.l.set (b7 m.id s.l) m }
def Ac (id:Int) (d:ByteArray) (s:Cn):Int×Int:=if cM s id≠0 then(0,cM s id) else match bY id s.l with
 |some m=>(UX m d,Vh m d)
 |none=>(0,0)
def qX (id:Int) (d:ByteArray) (s:Cn):Cn:=if cM s id≠0 then aD s else match bY id s.l with
 |some m=>zV (Az m d) (aD s)
 |none=>s
def R3 (id:Int) (s:Cn):Int:=if cM s id≠0 then cM s id else match bY id s.l with
 |some m=>UJ m
 |none=>0
def Cd (id:Int) (s:Cn):Cn:=if cM s id≠0 then aD s else match bY id s.l with
 |some m=>zV (AO m) (aD s)
 |none=>s
def vS (id n:Int) (s:Cn):ByteArray×Bool×Int:=if cM s id≠0 then(⟨#[]⟩,false,cM s id) else match bY id s.l with
 |some m=>if Ox m.y≠0 then(⟨#[]⟩,false,Ox m.y) else(BZ m.y n,Ip (EE m.y n),0)
 |none=>(⟨#[]⟩,false,0)
def wF (id n:Int) (s:Cn):Cn:=if cM s id≠0 then aD s else match bY id s.l with
 |some m=>if Ox m.y≠0 then aD s else k7 { m with y:=EE m.y n } { zV { m with y:=EE m.y n } (aD s) with rv:=fY s.rv ((BZ m.y n).size:Nat) }
 |none=>s
def s7 (id:Int) (s:Cn):ByteArray×Bool×Bool×Int:=if cM s id≠0 then(⟨#[]⟩,false,false,cM s id) else match bY id s.l with
 |some m=>if VL m.y≠0 then(⟨#[]⟩,false,false,VL m.y) else(Aiz m.y,Adi m.y,Ip (Fw m.y),0)
 |none=>(⟨#[]⟩,false,false,0)
def wE (id:Int) (s:Cn):Cn:=if cM s id≠0 then aD s else match bY id s.l with
 |some m=>if VL m.y≠0 then aD s else k7 { m with y:=Fw m.y } (zV { m with y:=Fw m.y } (aD s))
 |none=>s
def SX (id n:Int) (s:Cn):Int:=if cM s id≠0 then cM s id else match bY id s.l with
 |some m=>US m.y n
 |none=>0
def Ci (id n:Int) (s:Cn):Cn:=if cM s id≠0 then aD s else match bY id s.l with
 |some m=>zV { m with y:=Gq m.y n } (aD s)
 |none=>s
def LR (id on w:Int) (x:Bool) (s:Cn):Int:=if cM s id≠0 then cM s id else if mK (sK id on w x)=false then 2 else if on=id then 12 else if EF (sK id on w x) s.out≠0 then 9 else pK id on w s.tr
def wC (id on w:Int) (x:Bool) (s:Cn):Cn:=if cM s id≠0∨mK (sK id on w x)=false∨on=id∨EF (sK id on w x) s.out≠0 then aD s else { aD s with out:=zF (sK id on w x) s.out,tr:=kC id on w x s.tr }
def lS (id c:Int) (s:Cn):Int:=if cM s id≠0 then cM s id else if mK (mE id c)=false then 2 else if EF (mE id c) s.out≠0 then 9 else 0
def qZ (id c:Int) (s:Cn):Cn:=if lS id c s≠0 then aD s else match bY id s.l with
 |some m=>sH m c { aD s with out:=zF (mE id c) s.out }
 |none=>s
def Aa4 (s:Cn):Int:=if s.dr.ov=true then 14 else if s.dr.se=true then 11 else if EF (E8 s.la 0) s.out≠0 then 9 else GF s.dr s.la
def JI (s:Cn):Cn:=if s.dr.ov=true∨s.dr.se=true∨EF (E8 s.la 0) s.out≠0 then aD s else { aD s with out:=zF (E8 s.la 0) s.out,dr:=FA s.dr s.la }
def SO (t:eJ) (s:Cn):Int:=if s.dr.ov=true then 14 else if 64≤s.out.length then 9 else if iJ s.sh t≠0 then iJ s.sh t else EF (J6 (NE (rU s.sh) t)) s.out
def Cc (t:eJ) (s:Cn):Cn:=if s.dr.ov=true∨64≤s.out.length∨iJ s.sh t≠0 then aD s else { aD s with sh:=eF s.sh t,out:=zF (J6 (NE (rU s.sh) t)) s.out }
def qC (s:Cn):Cn:= { s with now:=s.now+1 }
def uB (f:Fm) (s:Cn):Cn:=
 if lB s.rv (if f.t=0 then(f.d.size:Nat) else 0)≠0 then iO 9 0 s
 else match bY f.st s.l with
  |none=> { s with rv:=fY (f7 s.rv (if f.t=0 then(f.d.size:Nat) else 0)) (if f.t=0 then(f.d.size:Nat) else 0) }
  |some m=>if gI m f.t f.d f.e≠0 then kK (gI m f.t f.d f.e) f.st { s with rv:=fY (f7 s.rv (if f.t=0 then(f.d.size:Nat) else 0)) (if f.t=0 then(f.d.size:Nat) else 0) }
   else k7 (fM m f.d f.e) (tF ⟨2,f.st,if f.t=1∧(f.d≠⟨#[]⟩∨f.e=false) then 1 else if f.t=0 then(f.d.size:Nat) else 0,f.d,f.e⟩ (zV (fM m f.d f.e) { s with rv:=f7 s.rv (if f.t=0 then(f.d.size:Nat) else 0) }))
def pT (f:Fm) (s:Cn):Cn:=
 if pV s.sd s.la f.st≠0 then iO 1 0 s
 else if f.on=f.st then iO 2 0 { s with la:=f.st }
 else if D3 s.dr f.st=false then kK 4 f.st { s with la:=f.st }
 else if s.sh.h.st≤(fO s false:Nat) then kK 3 f.st { s with la:=f.st }
 else tF ⟨3,f.st,f.k,⟨#[]⟩,false⟩ (HG f.st f.k f.on f.w f.x false s.cf.sg { s with la:=f.st })
def l8 (f:Fm) (m:Sm) (s:Cn):Cn:=
 if(bB m.x=1)≠(f.t=10) then kK 6 f.st s
 else if f.n=0 then kK 11 f.st s
 else if bB m.x=1 then(if s9 f.st f.n s.ld≠0 then kK 13 f.st s else { s with ld:=o4 f.st f.n s.ld,sl:=iS s.sl s.now })
 else(if Ft m.x f.n≠0 then kK 13 f.st s else zV { m with x:=pR m.x f.n } { s with sl:=iS s.sl s.now })
def tH (f:Fm) (s:Cn):Cn:=if f.n=0 then iO 12 0 s else if s9 0 f.n s.ld≠0 then iO 14 0 s else { s with ld:=o4 0 f.n s.ld,sl:=iS s.sl s.now }
def yQ (f:Fm) (s:Cn):Cn:=match Yy s.pe f.ps with
 |none=>iO 16 0 s
 |some t=>if EN s.pe.w t.w s.ld≠0 then iO 17 0 s else tX (fr0 6 0) { s with ld:=sV s.pe.w t.w s.ld,pe:=t }
def tD (s:Cn):Cn:=if Ax s.sh≠0 then iO 15 0 s else { s with sh:=dD s.sh,l:=s.l.map fun m=> { m with y:=DV m.y (dD s.sh).h } }
def nY:List Int→Cn→Cn
 | [],s=>s
 |id::r,s=>nY r (match bY id s.l with
  |some m=>if m.own=true∧Ln s.dr id=true then sH m 7 s else s
  |none=>s)
def xV (f:Fm) (s:Cn):Cn:=if(oU s.dr f.la f.c).ov=true then vE { s with dr:=oU s.dr f.la f.c } else nY (s.l.map Sm.id) { s with dr:=oU s.dr f.la f.c }
def kL (f:Fm) (s:Cn):Cn:=if f.t=3∧f.on=f.st then iO 2 0 s else match bY f.st s.l with
 |none=>s
 |some m=>if f.t=3 then { s with tr:=kC f.st f.on f.w f.x s.tr } else if f.t=4 then sH m f.c s else l8 f m s
def fX (f:Fm) (s:Cn):Cn:=
 if f.t=5 then yQ f s else if f.t=6 then tD s else if f.t=7 then tX (wA 8 0 f.d false) s
 else if f.t=8 then { s with bt:=k6 s.bt s.now f.d } else if f.t=9 then xV f s else if f.t=2 then pT f s
 else if f.st=0 then tH f s else if wD s f.st=false then iO 5 0 s else if f.t=0∨f.t=1 then uB f s else kL f s
def bT (f:Fm) (s:Cn):Cn:=fX f { s with bt:=bO s.bt s.now }
def d9:List Fm→Cn→Cn
 | [],s=>s
 |f::r,s=>if(bT f s).dr.ov=true then bT f s else d9 r (bT f s)
def iQ (u:List UInt8) (s:Cn):List Fm×Cn:=((pF (s.inb++u)).1.map Lu,{ s with inb:=if(pF (s.inb++u)).2.2=0 then(pF (s.inb++u)).2.1 else [],ine:=(pF (s.inb++u)).2.2 })
def Gx (s:Cn):Int:=if s.dr.ov=true then 14 else 0
def lQ (u:List UInt8) (s:Cn):Cn:=if s.dr.ov=true then aD s else
 if(d9 (iQ u (aD s)).1 (iQ u (aD s)).2).dr.ov=true∨(pF (s.inb++u)).2.2=0 then d9 (iQ u (aD s)).1 (iQ u (aD s)).2 else iO 0 (pF (s.inb++u)).2.2 (d9 (iQ u (aD s)).1 (iQ u (aD s)).2)
def HE (ld:Ld) (m:Sm):Bool:=SQ m && Agv m.x (bD m.id ld)
def s3 (s:Cn):Bool:=s.l.any (HE s.ld)
def fJ (s:Cn):List Fm:=if Q9 s.bt s.now=2∨BB s.sl s.now (s3 s)=true∨Q9 s.bt s.now≠1 then [] else [wA 7 0 (btD s.bt s.now) false]
def bI (s:Cn):Cn:=if Q9 s.bt s.now=2 then iO 20 0 { s with bt:=gS s.bt s.now } else if BB s.sl s.now (s3 s)=true then iO 19 0 { s with bt:=gS s.bt s.now,sl:=nP s.sl s.now (s3 s) } else { s with bt:=gS s.bt s.now,sl:=nP s.sl s.now (s3 s) }
def K1 (t st n:Int):List Fm:=if 0<n then [DJ t st n] else []
def rO (m:Sm):List Fm:=if Yu m=true then K1 (if bB m.x=2 then 11 else 10) m.id (HS m.y) else []
def mD (m:Sm):Sm:=if Yu m=true then { m with y:=yGr m.y } else m
def uI (s:Cn):List Fm:=K1 10 0 (vX s.rv)++s.l.flatMap rO
def BU (s:Cn):Cn:= { s with rv:=SJ s.rv,l:=s.l.map mD }
def oA (s:Cn) (id:Int):Tu:=⟨id,if dZ id s.tr.1=true then(dB id s.tr).w else 0,match bY id s.l with
 |some m=>SQ m && Qh m.x (bD id s.ld)
 |none=>false⟩
def eL (s:Cn):List Tu:=(eC s.tr).map (oA s)
def qD (s:Cn):Option Fm×Cn:=match As (s.pk,s.pc) (eL s) with
 |(none,p)=>(none,{ s with pk:=p.1,pc:=p.2 })
 |(some id,p)=>match bY id s.l with
  |none=>(none,{ s with pk:=p.1,pc:=p.2 })
  |some m=>if Hb m (bD id s.ld)=false then(none,{ s with pk:=p.1,pc:=p.2 }) else
   (some (wA (bB m.x - 1) id (iL m.x (bD id s.ld)) (BY m.x (bD id s.ld))),
    k7 (C9 m (bD id s.ld)) (tF ⟨1,id,if bB m.x=1 then((iL m.x (bD id s.ld)).size:Nat) else if iL m.x (bD id s.ld)=⟨#[]⟩∧BY m.x (bD id s.ld)=true then 0 else 1,iL m.x (bD id s.ld),BY m.x (bD id s.ld)⟩
     (zV (C9 m (bD id s.ld)) { s with ld:=(if bB m.x=1 then mC id ((iL m.x (bD id s.ld)).size:Nat) s.ld else s.ld),pk:=(jK id (p9 id p.1 - fL ((iL m.x (bD id s.ld)).size:Nat)) p).1,pc:=(jK id (p9 id p.1 - fL ((iL m.x (bD id s.ld)).size:Nat)) p).2 })))
def fI:Nat→Cn→List Fm×Cn
 |0,s=>([],s)
 |n+1,s=>match qD s with
  |(none,s)=>([],s)
  |(some f,s)=>(f::(fI n s).1,(fI n s).2)
def Ti (l:List Fm):List UInt8:=if l.all mK=true then sG l else []
def eZ (s:Cn):List UInt8×Cn:=
 if s.dr.ov=true then(s.last.data.toList,{ aD s with last:=⟨#[]⟩ })
 else if(bI (aD s)).dr.ov=true then((bI (aD s)).last.data.toList,{ bI (aD s) with last:=⟨#[]⟩ })
 else let s1:=bI (aD s)
  let s2:=BU { s1 with out:= [] }
  let b:=fI 4 s2
  (Ti (fJ (aD s)++s1.out++uI { s1 with out:= [] }++b.1),{ b.2 with dr:=zO b.2.dr b.2.l.length })
section
structure Ca where
 ids:Nat
 l:Nat
 t:Nat
 tq:Nat
 p:Nat
 pq:Nat
 fr:Nat
 rc:Nat
 sh:Nat
 bt:Nat
 sl:Nat
 dr:Nat
 ou:Nat
 inn:Nat
def mvD:List Value→Option Mv
 | [.int .i64 k,.int .i64 id,.int .i64 n,.string s,.bool e]=>some ⟨k,id,n,s,e⟩
 |_=>none
theorem Ajn (cs:List Value) (y:Mv) (h:mvD cs=some y): [I6 y.k,I6 y.id,I6 y.n,.string y.s,.bool y.e]=cs:=by
 unfold mvD at h
 split at h
 ·cases h;rfl
 ·cases h
def mvC:tJ Mv:= { enc:=fun y=> [I6 y.k,I6 y.id,I6 y.n,.string y.s,.bool y.e],sz:=5,dec:=mvD,len:=fun _=>rfl,one:=fun _=>rfl,ok:=Ajn }
abbrev nW (x:Nat) (a:Ca) (s:Cn) (M:Option Addr) (mc:Nat) (T:HP) (R:List HP):List HP:=
 pt x [I6 s.cf.w,I6 s.cf.st,I6 s.cf.it,I6 s.cf.sb,I6 s.cf.si,I6 s.cf.sg,I6 s.cf.ev,I6 s.cf.wa,I6 s.cf.sl,PO a.ids,PO a.l,PO a.t,PO a.p,PO a.fr,PO a.rc,PO a.sh,I6 s.pe.w,I6 s.pe.st,I6 s.pe.it,PO a.bt,PO a.sl,PO a.dr,PO a.ou,PO a.inn,I6 s.now,.string s.last,.slice M s.mv.length mc] 124::
 pt a.ids [I6 s.sd,I6 s.nx,I6 s.la] 218::T::pt a.t [I6 64,.map (some a.tq)] 229::mp a.tq (kM qR s.tr.1) s.tr.2::pt a.p [.map (some a.pq)] 211::mp a.pq (kM LB s.pk) s.pc::Re a.fr s.ld::zG a.rc s.rv.cap s.rv.most s.rv.gr s.rv.got s.rv.us::NR a.sh s.sh::btP a.bt s.bt::slP a.sl s.sl::Da a.dr s.dr::Q4 a.ou s.out::spP a.inn s.inb s.ine::bQ M mc 280 mvC s.mv::R
abbrev b5 (x:Nat) (a:Ca) (s:Cn) (M:Option Addr) (mc:Nat) (R:List HP):List HP:=nW x a s M mc (Iz a.l s.l) R
abbrev OY (x:Nat) (a:Ca) (s:Cn) (M:Option Addr) (mc:Nat) (i b:Nat) (R:List HP):List HP:=nW x a s M mc (NN a.l s.l i b) R
variable {R C:List HP} {K:KP} {x mc:Nat} {a:Ca} {s:Cn} {M:Option Addr}
theorem j8 (hK:K (.bool s.dr.ov) (b5 x a s M mc R)):CT 78 #[PO x] (b5 x a s M mc R) K:=by
 dsimp only[b5,nW] at hK ⊢
 refine aH Tryz.func78 ?_
 repeat' (first|refine Yw ?_|refine w5 ?_ ?_|((refine bh fun h=>?_) <;> try exact w6 h)|(refine aE fun hA=>?_;subst hA)|intro _|(show aA _ 82 _ _ _;refine CA (h:=O7 ?_)))
 all_goals(refine aC ?_;exact aB (hK))
theorem b9 (hK:K (I6 (if s.dr.ov=true then 14 else 0)) (b5 x a (aD s) none 0 R)):CT 75 #[PO x] (b5 x a s M mc R) K:=by
 cases ho:s.dr.ov
 ·rw[ho,if_neg Bool.false_ne_true] at hK
  dsimp only[b5,nW] at ⊢
  refine aH Tryz.func75 ?_
  repeat' (first|refine v13 ?_|refine w5 ?_ ?_|((refine bh fun h=>?_) <;> try exact w6 h)|(refine aE fun hA=>?_;subst hA)|intro _|(show aA _ 78 _ _ _;refine CA (h:=j8 (x:=x) (a:=a) (s:=aD s) (M:=none) (mc:=0) (R:=R) ?_);rw[show(aD s).dr.ov=false from ho]))
  all_goals(refine aC ?_;exact aB (hK))
 ·rw[ho,if_pos rfl] at hK
  dsimp only[b5,nW] at ⊢
  refine aH Tryz.func75 ?_
  repeat' (first|refine v13 ?_|refine w5 ?_ ?_|((refine bh fun h=>?_) <;> try exact w6 h)|(refine aE fun hA=>?_;subst hA)|intro _|(show aA _ 78 _ _ _;refine CA (h:=j8 (x:=x) (a:=a) (s:=aD s) (M:=none) (mc:=0) (R:=R) ?_);rw[show(aD s).dr.ov=true from ho]))
  all_goals(refine aC ?_;exact aB (hK))
def B3:List (Nat×Nat):= [(5,0),(6,1),(1,1),(2,1),(3,1),(4,1),(7,1),(0,2),(8,0),(9,0),(10,1)]
theorem Ii {k id n:Int} {z:ByteArray} {b:Bool} (hb:s.mv.length≤1000000000) (hK:∀M mc,K (.tuple #[]) (b5 x a (tF ⟨k,id,n,z,b⟩ s) M mc R)):CT 197 #[PO x,.agg #[I6 k,I6 id,I6 n,.string z,.bool b]] (b5 x a s M mc R) K:=by
 dsimp only[b5,nW,tF] at hK ⊢
 refine aH Tryz.func197 ?_
 repeat' (first|(show aN _ _ _ _ _ _ _;(refine cU (E:=mvC) (ys:= [⟨k,id,n,z,b⟩]) ?_;intro _ _))|refine v54 ?_|refine dw B3 ?_|refine w5 ?_ ?_|((refine bh fun h=>?_) <;> try exact w6 h)|(refine aE fun hA=>?_;subst hA)|intro _)
 all_goals(refine aC ?_;exact aB (hK _ _))
end
end Go.Proofs.YtifgibijcmppmaaGreat
namespace Go.Proofs.YtifgibijcmppmaaGreat
open Go Go.Proofs Go.Sl
attribute [local irreducible] aN fN cX bP aM aX aA dS dV aT dU pt ro eV star sep bH
section
section
variable {α:Type} {f:α→Int}
theorem Zx {t:Int}:∀ {l:List α},∀z∈l.take (l.takeWhile fun e=>decide (f e<t)).length,f z<t
 | [],z,h=>by simp at h
 |e::r,z,h=>by
  rw[List.takeWhile_cons] at h
  by_cases he:f e<t
  ·rw[if_pos (decide_eq_true he),List.length_cons,List.take_succ_cons] at h
   rcases List.mem_cons.1 h with rfl|h
   ·exact he
   ·exact Zx z h
  ·rw[if_neg (by simpa using he)] at h
   simp at h
theorem ON {t:Int}:∀ {l:List α},l.Pairwise (fun a b=>f a<f b)→∀z∈l.drop (l.takeWhile fun e=>decide (f e<t)).length,t≤f z
 | [],_,z,h=>by simp at h
 |e::r,hp,z,h=>by
  obtain⟨h1,h2⟩:=List.pairwise_cons.1 hp
  rw[List.takeWhile_cons] at h
  by_cases he:f e<t
  ·rw[if_pos (decide_eq_true he),List.length_cons,List.drop_succ_cons] at h
   exact ON h2 z h
  ·rw[if_neg (by simpa using he)] at h
   rcases List.mem_cons.1 (by simpa using h) with rfl|h
   ·omega
   ·have:=h1 z h;omega
theorem VF {l:List α} {x:α} (hp:l.Pairwise fun a b=>f a<f b) (hx:∀z∈l,f z≠f x):(l.take (l.takeWhile fun e=>decide (f e<f x)).length++x::l.drop (l.takeWhile fun e=>decide (f e<f x)).length).Pairwise fun a b=>f a<f b:=by
 rw[List.pairwise_append]
 refine⟨hp.sublist (List.take_sublist ..),List.pairwise_cons.2 ⟨fun b hb=>?_,hp.sublist (List.drop_sublist ..)⟩,fun a ha b hb=>?_⟩
 ·have h1:=ON hp b hb
  have h2:=hx b (List.mem_of_mem_drop hb)
  omega
 ·have h1:=Zx a ha
  rcases List.mem_cons.1 hb with rfl|hb
  ·exact h1
  ·have h2:=ON hp b hb
   omega
theorem U1 {l:List α} {x:α} {i:Nat} {y:α} (hp:l.Pairwise fun a b=>f a<f b) (hy:l[i]?=some y) (he:f x=f y):(l.set i x).Pairwise fun a b=>f a<f b:=by
 have hm:(l.set i x).map f=l.map f:=by
  rw[List.map_set,he]
  refine j9 i ?_
  rw[List.getElem?_map,hy];rfl
 have h1:(l.map f).Pairwise (·<·):=List.pairwise_map.2 hp
 rw[← hm] at h1
 exact List.pairwise_map.1 h1
theorem SI {l:List α} {t:Int} (hp:l.Pairwise fun a b=>f a<f b) (h:∀e,l[(l.takeWhile fun e=>decide (f e<t)).length]?=some e→f e≠t):∀z∈l,f z≠t:=fun z hz e=>by
 rw[← List.take_append_drop (l.takeWhile fun e=>decide (f e<t)).length l] at hz
 rcases List.mem_append.1 hz with hz|hz
 ·have:=Zx z hz;omega
 ·have h1:=ON hp z hz
  cases hd:l.drop (l.takeWhile fun e=>decide (f e<t)).length with
  |nil=>rw[hd] at hz;cases hz
  |cons y r=>
   have hy:l[(l.takeWhile fun e=>decide (f e<t)).length]?=some y:=by
    rw[← List.head?_drop,hd];rfl
   rw[hd] at hz
   rcases List.mem_cons.1 hz with rfl|hz
   ·exact h z hy e
   ·have h2:=ON hp y (by rw[hd];exact List.mem_cons_self ..)
    have h3:=hp.sublist (List.drop_sublist (l.takeWhile fun e=>decide (f e<t)).length l)
    rw[hd] at h3
    have:=(List.pairwise_cons.1 h3).1 z hz
    omega
end
section
variable {l:List Sm} {m m':Sm} {t:Int} {i:Nat}
theorem MX (h:Gl l) (hm:bY t l=none):∀z∈l,z.id≠t:=SI (f:=Sm.id) h.2 fun e he hid=>by
 unfold bY b7 at hm
 rw[he] at hm
 simp only[hid,if_true] at hm
 cases hm
theorem Aem (h:Gl l) (hm:bY m.id l=none) (hl:l.length<64):Gl (kG m l):=by
 refine⟨?_,VF (f:=Sm.id) h.2 (MX h hm)⟩
 unfold kG
 rw[List.length_append,List.length_cons,List.length_take,List.length_drop]
 omega
theorem Xf (h:Gl l):Gl (l.eraseIdx i):=⟨Nat.le_trans (List.length_eraseIdx_le ..) h.1,h.2.sublist (List.eraseIdx_sublist ..)⟩
theorem Afa (h:Gl l) (hm:l[i]?=some m) (he:m'.id=m.id):Gl (l.set i m'):=⟨by rw[List.length_set];exact h.1,U1 (f:=Sm.id) h.2 hm he⟩
theorem U6 {g:Sm→Sm} (h:Gl l) (hg:∀m,(g m).id=m.id):Gl (l.map g):=by
 refine⟨by rw[List.length_map];exact h.1,List.pairwise_map.2 (h.2.imp fun hab=>?_)⟩
 rw[hg,hg];exact hab
theorem AX {z:Sm} (h:z∈kG m l):z=m∨z∈l:=by
 unfold kG at h
 rcases List.mem_append.1 h with h|h
 ·exact .inr (List.mem_of_mem_take h)
 ·rcases List.mem_cons.1 h with h|h
  ·exact .inl h
  ·exact .inr (List.mem_of_mem_drop h)
end
def Gn (B:Int) (s:Ld):Prop:=s.l.length≤64∧(s.l.Pairwise fun a b=>a.id<b.id)∧(∀e∈s.l,(-2147483647≤e.n∧e.n≤2147483647)∧0≤e.sp∧e.sp≤B)∧(-2147483647≤s.n0∧s.n0≤2147483647)∧0≤s.sp∧s.sp≤B
section
variable {B B' t n k a b:Int} {s:Ld}
theorem Gn.ok (h:Gn B s) (hB:B≤1000000000000):R4 s:=by
 obtain⟨h1,h2,h3,h4,h5⟩:=h
 exact⟨h1,h2,fun e he=>by have:=h3 e he;omega,by omega,by omega⟩
theorem Gn.mono (h:Gn B s) (hB:B≤B'):Gn B' s:=by
 obtain⟨h1,h2,h3,h4,h5⟩:=h
 exact⟨h1,h2,fun e he=>by have:=h3 e he;omega,h4,by omega⟩
theorem WP (h:Gn B s):Gn B (nI t s):=by
 unfold nI
 split
 ·exact⟨Nat.le_trans (List.length_eraseIdx_le ..) h.1,h.2.1.sublist (List.eraseIdx_sublist ..),fun e he=>h.2.2.1 e (List.mem_of_mem_eraseIdx he),h.2.2.2⟩
 ·exact h
theorem Aax (h:Gn B s):Gn B (k8 t n s):=by
 obtain⟨h1,h2,h3,h4,h5⟩:=h
 unfold k8
 split
 ·exact⟨h1,h2,h3,h4,h5⟩
 ·rename_i hc
  have hw:mF n=true:=by cases hq:mF n <;> first|rfl|exact absurd (.inr (.inr (.inl hq))) hc
  unfold mF at hw
  simp only[Bool.and_eq_true,decide_eq_true_eq] at hw
  have hno:∀z∈s.l,z.id≠t:=SI (f:=g8.id) h2 fun e he hid=>hc (.inr (.inr (.inr (.inl (by
   unfold o7 nV
   rw[he]
   simp[hid])))))
  refine⟨?_,VF (f:=g8.id) (x:=⟨t,n,0⟩) h2 hno,fun e he=>?_,h4,h5⟩
  ·show(s.l.take _++_::s.l.drop _).length≤64
   rw[List.length_append,List.length_cons,List.length_take,List.length_drop]
   omega
  ·rcases List.mem_append.1 he with he|he
   ·exact h3 e (List.mem_of_mem_take he)
   ·rcases List.mem_cons.1 he with rfl|he
    ·exact⟨by show -2147483647≤n∧n≤2147483647;omega,Int.le_refl 0,by show(0:Int)≤B;omega⟩
    ·exact h3 e (List.mem_of_mem_drop he)
theorem rZ {e:g8} (h:o7 t s.l=some e):s.l[nV t s.l]?=some e∧e.id=t:=by
 unfold o7 at h
 cases hz:s.l[nV t s.l]? with
 |none=>rw[hz] at h;cases h
 |some z=>
  rw[hz] at h
  simp only at h
  split at h
  ·rename_i he;cases h;exact⟨rfl,he⟩
  ·cases h
theorem Um (h:Gn B s) {e e':g8} (he:o7 t s.l=some e) (hi:e'.id=e.id) (hn:(-2147483647≤e'.n∧e'.n≤2147483647)∧0≤e'.sp∧e'.sp≤B) {n0 sp:Int} (h0:-2147483647≤n0∧n0≤2147483647) (hs:0≤sp∧sp≤B):Gn B { n0:=n0,sp:=sp,l:=s.l.set (nV t s.l) e' }:=by
 obtain⟨h1,h2,h3,h4,h5⟩:=h
 refine⟨by rw[List.length_set];exact h1,U1 (f:=g8.id) h2 (rZ he).1 hi,fun z hz=>?_,h0,hs⟩
 rcases List.mem_or_eq_of_mem_set hz with hz|rfl
 ·exact h3 z hz
 ·exact hn
theorem Wx (h:Gn B s) (hk:k≤B' - B) (h0:B≤B'):Gn B' (mC t k s):=by
 unfold mC
 split
 ·exact h.mono h0
 ·rename_i hc
  have hc:rH t k s=0:=Classical.byContradiction hc
  cases he:o7 t s.l with
  |none=>exact h.mono h0
  |some e=>
   unfold rH bD at hc
   rw[he] at hc
   simp only[Option.isSome_some,Bool.true_eq_false,if_false] at hc
   have hm:=List.mem_of_getElem? (rZ he).1
   obtain⟨h1,h2,h3,h4,h5⟩:=h
   have h6:=h3 e hm
   have hkk:0≤k∧k≤max e.n 0∧k≤max s.n0 0:=by
    split at hc
    ·cases hc
    ·split at hc
     ·cases hc
     ·omega
   exact Um (B:=B') ⟨h1,h2,fun e he=>by have:=h3 e he;omega,h4,by omega⟩ he (e':=⟨e.id,e.n - k,e.sp+k⟩) rfl (by show(_≤e.n - k∧e.n - k≤_)∧0≤e.sp+k∧e.sp+k≤B';omega) (by omega) (by omega)
theorem T8 (h:-2147483647≤n∧n≤2147483647):-2147483647≤Eo n b∧Eo n b≤2147483647:=by
 unfold Eo
 split
 ·rename_i hf
  unfold CV at hf
  simp only[Bool.and_eq_true,decide_eq_true_eq] at hf
  exact hf
 ·exact h
theorem PL (h:-2147483647≤n∧n≤2147483647):-2147483647≤lX n b∧lX n b≤2147483647:=by
 unfold lX
 split
 ·exact T8 h
 ·exact h
theorem Ah0 (h:-2147483647≤n∧n≤2147483647):-2147483647≤Aw n a b∧Aw n a b≤2147483647:=by
 unfold Aw
 split
 ·exact T8 h
 ·exact h
theorem Qy (h:Gn B s):Gn B (o4 t b s):=by
 have h':=h
 obtain⟨h1,h2,h3,h4,h5⟩:=h'
 unfold o4
 split
 ·exact⟨h1,h2,h3,PL h4,h5⟩
 ·cases he:o7 t s.l with
  |none=>exact h
  |some e=>
   have h6:=h3 e (List.mem_of_getElem? (rZ he).1)
   exact Um h he (e':=⟨e.id,lX e.n b,e.sp⟩) rfl ⟨PL h6.1,h6.2⟩ h4 h5
theorem MW (h:Gn B s):Gn B (sV a b s):=by
 obtain⟨h1,h2,h3,h4,h5⟩:=h
 unfold sV
 split
 ·exact⟨h1,h2,h3,h4,h5⟩
 ·refine⟨by rw[List.length_map];exact h1,List.pairwise_map.2 h2,fun e he=>?_,h4,h5⟩
  obtain⟨z,hz,rfl⟩:=List.mem_map.1 he
  exact⟨Ah0 (h3 z hz).1,(h3 z hz).2⟩
end
end
end Go.Proofs.YtifgibijcmppmaaGreat
namespace Go.Proofs.YtifgibijcmppmaaGreat
open Go Go.Proofs Go.Sl
attribute [local irreducible] aN fN cX bP aM aX aA dS dV aT dU pt ro eV star sep bH
attribute [local irreducible] mp ED
section
def zA (n:Int):Prop:=0≤n∧n≤2147483647
structure E6 (B:Int) (m:Sm):Prop where
 id:1≤m.id∧m.id≤2147483647
 ac:KL m.x≤B
 got:J2 m.y≤B
 ln:(gF m.y:Int)≤B
def u3 (t:eJ):Prop:=rY t.w t.st t.it=true
def Jn (B:Int) (y:Yp):Prop:=y.cap=512∧0≤y.us∧y.us≤y.got∧y.got≤y.gr∧y.gr≤y.us+512∧y.got≤B
structure bU (B:Int) (s:Cn):Prop where
 bb:0≤B∧B≤250000000
 cf:(0≤s.cf.sb∧s.cf.sb≤4096)∧(0≤s.cf.si∧s.cf.si≤64)∧0≤s.cf.sg∧s.cf.sg≤2
 sd:s.sd=0∨s.sd=1
 nx:1≤s.nx∧s.nx≤2147483649∧(s.nx % 2=1↔s.sd=0)
 la:zA s.la
 sm:Gl s.l
 st:∀m∈s.l,E6 B m
 ids:∀m∈s.l,oJ s.sd s.nx s.la m.id=true
 own:∀b,fO s b≤32
 tr:Mn s.tr
 pk:K4 (s.pk,s.pc)
 ld:Gn B s.ld
 rv:Jn B s.rv
 sh:s.sh.l.length≤4∧u3 s.sh.h∧u3 s.sh.g∧∀t∈s.sh.l,u3 t
 pe:zA s.pe.w∧zA s.pe.st∧zA s.pe.it
 bt:(0≤s.bt.no∧s.bt.no≤B)∧(0≤s.bt.he∧s.bt.he≤B)∧(0≤s.bt.si∧s.bt.si≤B)∧0≤s.bt.nn∧s.bt.nn≤B
 sl:(0≤s.sl.nw∧s.sl.nw≤B)∧0≤s.sl.si∧s.sl.si≤B
 ou:N8 s.out
 inb:(s.inb.length:Int)≤B
 now:0≤s.now∧s.now≤B
 mv:(s.mv.length:Int)+s.l.length≤B
variable {R C:List HP} {K:KP} {x mc:Nat} {a:Ca} {s:Cn} {M:Option Addr} {B id code:Int} {gone:Bool} {m m':Sm}
theorem Acl {l:List Sm} {t:Int} (h:bY t l=some m):(l.eraseIdx (b7 t l)).length+1=l.length:=by
 have:=(List.getElem?_eq_some_iff.1 (bA h).1).1
 rw[List.length_eraseIdx,if_pos this];omega
theorem Ay (h:bU B s) (hm:bY id s.l=some m):bU B (lW id code gone s):=
 { h with
   sm:=Xf h.sm
   st:=fun z hz=>h.st z (List.mem_of_mem_eraseIdx hz)
   ids:=fun z hz=>h.ids z (List.mem_of_mem_eraseIdx hz)
   own:=fun b=>Nat.le_trans ((List.Sublist.filter _ (List.eraseIdx_sublist ..)).length_le) (h.own b)
   tr:=Agu h.tr
   pk:=by
    show K4 ((if p9 id s.pk=0 then s.pk else mQ id s.pk),s.pc)
    split
    ·exact h.pk
    ·exact Af0 h.pk
   ld:=WP h.ld
   mv:=by
    have h1:=h.mv
    have h2:=Acl hm
    show((s.mv++ [_]).length:Int)+((s.l.eraseIdx (b7 id s.l)).length:Int)≤B
    rw[List.length_append,List.length_singleton]
    omega }
theorem Bd (h:bU B s) (hm:bY id s.l=some m) (hK:∀M mc,K (.tuple #[]) (b5 x a (lW id code gone s) M mc R)):CT 223 #[PO x,I6 id,I6 code,.bool gone] (b5 x a s M mc R) K:=by
 have hl:=h.tr.len
 have hmv:=h.mv
 have hB:=h.bb
 dsimp only[b5,nW]
 refine aH Tryz.func223 ?_
 repeat' (first|refine v25 ?_|refine w5 ?_ ?_|((refine bh fun h=>?_) <;> try exact w6 h)|(refine aE fun hA=>?_;subst hA)|intro _|(show aA _ 313 _ _ _;refine CA (h:=Ahe h.sm hm (fun _=>?_)))|(show aA _ 314 _ _ _;refine CA (h:=O3 (s:=s.tr) h.tr.kok (by omega) h.tr.w h.tr.nd (fun _=>?_)))|(show aA _ 315 _ _ _;refine CA (h:=N7 ?_))|(show aA _ 316 _ _ _;refine CA (h:=Tx (h.ld.ok (by omega)) (fun _=>?_)))|(show aA _ 197 _ _ _;refine CA (h:=Ii (x:=x) (a:=a) (s:= { s with l:=s.l.eraseIdx (b7 id s.l),tr:=y6 id s.tr,pk:=(if p9 id s.pk=0 then s.pk else mQ id s.pk),ld:=nI id s.ld }) (M:=M) (mc:=mc) (R:=R) (by show s.mv.length≤1000000000;omega) (fun _ _=>?_))))
 all_goals(refine aC ?_;exact aB (hK _ _))
end
section
variable {R C:List HP} {K:KP} {x mc i b p:Nat} {a:Ca} {s:Cn} {M:Option Addr} {B id code k:Int} {gone:Bool} {m m':Sm} {y:Yp}
def Ej:List (Nat×Nat):= [(0,0),(1,0),(2,0),(3,0),(4,0),(5,0),(6,0),(7,0),(8,0),(9,0),(10,0),(11,0)]
theorem tV (hb:0≤y.us∧y.us≤y.got∧y.got≤900000000) (hk:-900000000≤k∧k≤900000000) (hK:∀v,K v (zG p (fY y k).cap (fY y k).most (fY y k).gr (fY y k).got (fY y k).us::R)):CT 118 #[PO p,I6 k] (zG p y.cap y.most y.gr y.got y.us::R) K:=by
 by_cases h:0≤k∧k≤y.got - y.us
 ·unfold fY at hK
  simp only[if_pos h] at hK
  exact IN h (by omega) (hK _)
 ·unfold fY at hK
  simp only[if_neg h] at hK
  unfold zG at *
  refine aH Tryz.func118 ?_
  repeat' (first|refine v33 ?_|refine dw Ej ?_|refine w5 ?_ ?_|((refine bh fun h=>?_) <;> try exact w6 h)|(refine aE fun hA=>?_;subst hA)|intro _)
  all_goals(refine aC ?_;exact aB (hK _))
theorem l6 (hi:s.l[i]?=some m) (hid:m'.id=m.id):aG (mS b m'::OY x a s M mc i b R) (b5 x a { s with l:=s.l.set i m' } M mc R):=
 aG.trans (fun _ hs=>hs.perm (List.Perm.cons _ (List.perm_middle (l₁:= [_,_])))) (aG.trans (Uz hi hid) (fun _ hs=>hs.perm (List.perm_middle (l₁:= [_,_])).symm))
theorem d8 (hi:s.l[i]?=some m):aG (mS b m::OY x a s M mc i b R) (b5 x a s M mc R):=
 aG.trans (fun _ hs=>hs.perm (List.Perm.cons _ (List.perm_middle (l₁:= [_,_])))) (aG.trans (Ag5 hi) (fun _ hs=>hs.perm (List.perm_middle (l₁:= [_,_])).symm))
theorem fQ (h:bU B s) (ho:s.dr.ov=false) (hm:bY id s.l=some m) (hK:∀b,K (.tuple #[PO b,I6 0]) (mS b m::OY x a (aD s) none 0 (b7 id s.l) b R)):CT 116 #[PO x,I6 id] (b5 x a s M mc R) K:=by
 refine aH Tryz.func116 ?_
 repeat' (first|refine Jo ?_|refine w5 ?_ ?_|((refine bh fun h=>?_) <;> try exact w6 h)|(refine aE fun hA=>?_;subst hA)|intro _|(show aA _ 75 _ _ _;refine CA (h:=b9 (x:=x) (a:=a) (s:=s) (M:=M) (mc:=mc) (R:=R) ?_);rw[ho,if_neg Bool.false_ne_true])|(show aA _ 192 _ _ _;refine CA (h:=f5 (l:=s.l) h.sm hm (fun _=>?_))))
 all_goals(refine aC ?_;exact aB (hK _))
theorem nT (h:bU B s) (he:cM s id≠0) (hK:K (.tuple #[.pointer none,I6 (cM s id)]) (b5 x a (aD s) none 0 R)):CT 116 #[PO x,I6 id] (b5 x a s M mc R) K:=by
 unfold cM at he hK
 cases ho:s.dr.ov
 ·rw[ho,if_neg Bool.false_ne_true] at he hK
  cases hm:bY id s.l with
  |some m=>rw[hm] at he;exact absurd rfl he
  |none=>
   rw[hm] at he hK
   simp only at he hK
   cases hp:wD s id
   ·rw[hp,if_neg Bool.false_ne_true] at hK
    refine aH Tryz.func116 ?_
    repeat' (first|refine Jo ?_|refine w5 ?_ ?_|((refine bh fun h=>?_) <;> try exact w6 h)|(refine aE fun hA=>?_;subst hA)|intro _|(show aA _ 75 _ _ _;refine CA (h:=b9 (x:=x) (a:=a) (s:=s) (M:=M) (mc:=mc) (R:=R) ?_);rw[ho,if_neg Bool.false_ne_true])|(show aA _ 192 _ _ _;refine CA (h:=mW (l:=s.l) h.sm hm ?_))|(show aA _ 218 _ _ _;refine CA (h:=C6 (sd:=s.sd) (nx:=s.nx) (la:=s.la) ?_);rw[show oJ s.sd s.nx s.la id=false from hp]))
    all_goals(refine aC ?_;exact aB (hK))
   ·rw[hp,if_pos rfl] at hK
    refine aH Tryz.func116 ?_
    repeat' (first|refine Jo ?_|refine w5 ?_ ?_|((refine bh fun h=>?_) <;> try exact w6 h)|(refine aE fun hA=>?_;subst hA)|intro _|(show aA _ 75 _ _ _;refine CA (h:=b9 (x:=x) (a:=a) (s:=s) (M:=M) (mc:=mc) (R:=R) ?_);rw[ho,if_neg Bool.false_ne_true])|(show aA _ 192 _ _ _;refine CA (h:=mW (l:=s.l) h.sm hm ?_))|(show aA _ 218 _ _ _;refine CA (h:=C6 (sd:=s.sd) (nx:=s.nx) (la:=s.la) ?_);rw[show oJ s.sd s.nx s.la id=true from hp]))
    all_goals(refine aC ?_;exact aB (hK))
 ·rw[ho,if_pos rfl] at hK
  refine aH Tryz.func116 ?_
  repeat' (first|refine Jo ?_|refine w5 ?_ ?_|((refine bh fun h=>?_) <;> try exact w6 h)|(refine aE fun hA=>?_;subst hA)|intro _|(show aA _ 75 _ _ _;refine CA (h:=b9 (x:=x) (a:=a) (s:=s) (M:=M) (mc:=mc) (R:=R) ?_);rw[ho,if_pos rfl]))
  all_goals(refine aC ?_;exact aB (hK))
theorem kX (hi:s.l[i]?=some m) (hid:m'.id=m.id) (h:bU B { s with l:=s.l.set i m' }) (hm:bY m'.id (s.l.set i m')=some m') (hK:∀M mc,K (.tuple #[]) (b5 x a (k7 m' { s with l:=s.l.set i m' }) M mc R)):CT 120 #[PO x,PO b] (mS b m'::OY x a s M mc i b R) K:=by
 cases hg:Is m'
 ·have e:∀s,k7 m' s=s:=fun s=>by unfold k7;rw[hg,if_neg Bool.false_ne_true]
  rw[e] at hK
  refine aH Tryz.func120 ?_
  repeat' (first|refine v0 ?_|refine w5 ?_ ?_|((refine bh fun h=>?_) <;> try exact w6 h)|(refine aE fun hA=>?_;subst hA)|intro _|(show aA _ 222 _ _ _;refine CA (h:=Kk (m:=m') ?_);rw[hg]))
  all_goals(refine aC ?_;exact aK (aG.trans (by exact aZ) ((l6 (x:=x) (a:=a) (M:=M) (mc:=mc) (R:=R) (b:=b) hi hid))) (hK _ _))
 ·have e:∀s,k7 m' s=lW m'.id 0 true s:=fun s=>by unfold k7;rw[hg,if_pos rfl]
  rw[e] at hK
  refine aH Tryz.func120 ?_
  repeat' (first|refine v0 ?_|refine w5 ?_ ?_|((refine bh fun h=>?_) <;> try exact w6 h)|(refine aE fun hA=>?_;subst hA)|intro _|(show aA _ 222 _ _ _;refine CA (h:=Kk (m:=m') ?_);rw[hg])|(show aA _ 224 _ _ _;refine CA (h:=MP (m:=m') ?_))|(show aA _ 223 _ _ _;refine CA (h:=aA.ent (l6 (x:=x) (a:=a) (M:=M) (mc:=mc) (R:=R) (b:=b) hi hid) (Bd h hm (fun _ _=>?_)))))
  all_goals(refine aC ?_;exact aB (hK _ _))
theorem E0 {m:Sm} {l:List Sm}:bY m.id (m::l)=some m:=by
 unfold bY b7
 rw[List.takeWhile_cons]
 simp
theorem Z4:(lW id code gone s).l=s.l.eraseIdx (b7 id s.l):=rfl
theorem FG {m:Sm} {l:List Sm} (h:s.l=m::l):(lW m.id code gone s).l=l:=by
 rw[Z4,h]
 unfold b7
 rw[List.takeWhile_cons]
 simp
theorem Fh:∀ {l:List Sm} {s:Cn},s.l=l→bU B s→bU B (qU code (l.map Sm.id) s)∧(qU code (l.map Sm.id) s).l= []
 | [],s,he,h=>⟨h,he⟩
 |m::l,s,he,h=>by
  have hm:bY m.id s.l=some m:=by rw[he];exact E0
  exact Fh (s:=lW m.id code false s) (l:=l) (FG he) (Ay h hm)
theorem LJ:N8 []:=⟨by decide,fun y hy=>by cases hy⟩
theorem Lq (h:bU B s):bU B (vE s):=
 { (Fh (code:=s.dr.co) rfl h).1 with ou:=LJ }
theorem Il (h:bU B s) (hK:∀M mc,K (.tuple #[]) (b5 x a (vE s) M mc R)):CT 176 #[PO x] (b5 x a s M mc R) K:=by
 have h64:=h.sm.1
 have hlm:(s.l.map Sm.id).length=s.l.length:=List.length_map ..
 unfold vE at hK
 refine aH Tryz.func176 ?_
 repeat' (first|refine Y8 ?_|refine w5 ?_ ?_|((refine bh fun h=>?_) <;> try exact w6 h)|(refine aE fun hA=>?_;subst hA)|intro _|(show aA _ 82 _ _ _;refine CA (h:=O7 (d:=s.dr) ?_))|(show aA _ 91 _ _ _;refine CA (h:=Mj (l:=s.l) h.sm (fun Bq dq=>?_))))
 refine fZ (fun n a' C'=>∃(j:Nat) (s':Cn) (M':Option Addr) (mc':Nat),j+n=s.l.length∧s'.l=s.l.drop j∧bU B s'∧qU s.dr.co ((s.l.drop j).map Sm.id) s'=qU s.dr.co (s.l.map Sm.id) s∧cJ a' [(0,PO x),(3,I6 s.dr.co),(18,.slice Bq (s.l.map Sm.id).length dq),(19,I6 s.l.length),(20,I6 j)]∧C'=bQ Bq dq 3 jI (s.l.map Sm.id)::b5 x a s' M' mc' R) s.l.length (bV s.l.length ⟨0,s,M,mc,by omega,rfl,h,rfl,⟨rfl,rfl,rfl,(by simp;rfl),rfl,trivial⟩,rfl⟩ (by omega)) ?_
 rintro n a' C' ⟨j,s',M',mc',hj,hl,h',hc,ha,rfl⟩
 refine fP _ ha ?_
 simp only[eP]
 by_cases hlt:j<s.l.length
 ·obtain⟨m,hm,hd⟩:=i7 (l:=s.l) (j:=j) hlt
  rw[hd] at hl hc
  have hat:bY m.id s'.l=some m:=by rw[hl];exact E0
  have hv:(s.l.map Sm.id)[((j:Nat):Int).toNat]?=some m.id:=by rw[Int.toNat_natCast,List.getElem?_map,hm];rfl
  repeat' (first|refine Y8 ?_|refine w5 ?_ ?_|((refine bh fun h=>?_) <;> try exact w6 h)|(refine aE fun hA=>?_;subst hA)|intro _|(show aA _ 223 _ _ _;refine CA (h:=Bd h' hat (fun _ _=>?_))))
  all_goals(show aT _ _ _ _;exact bV (n - 1) ⟨j+1,lW m.id s.dr.co false s',_,_,by omega,FG hl,Ay h' hat,hc,⟨rfl,rfl,rfl,rfl,rfl,trivial⟩,rfl⟩)
 ·have hj0:j=s.l.length:=by omega
  subst hj0
  rw[List.drop_length] at hc hl
  have hc:s'=qU s.dr.co (s.l.map Sm.id) s:=hc
  subst hc
  repeat' (first|refine Y8 ?_|refine w5 ?_ ?_|((refine bh fun h=>?_) <;> try exact w6 h)|(refine aE fun hA=>?_;subst hA)|intro _|(show aA _ 271 _ _ _;refine CA (h:=TT (fun _=>?_))))
  all_goals(refine aC ?_;exact aB (hK _ _))
end
section
variable {R C:List HP} {K:KP} {x mc i b p:Nat} {a:Ca} {s:Cn} {M:Option Addr} {B id code k la c st w o:Int} {gone:Bool} {m m':Sm} {f:Fm}
theorem YP (hl:zA la) (hc:zA c):cZ (E8 la c):=by
 have h1:=(vW la).2 hl
 have h2:=(vW c).2 hc
 have h3:HR 0=true:=by decide
 have h4:Rq []=true:=Aci rfl
 have h5:(⟨#[]⟩:ByteArray)=ByteArray.empty:=rfl
 unfold cZ sJ E8
 simp[h1,h2,h3,h4,h5,IW]
theorem iU (h:bU B s):bU B (iO w o s):=
 Lq (s:= { s with dr:=CJ s.dr (lO w o),last:=S5 (E8 s.la (lO w o)) }) { h with }
def Ed:Tr:=(.br (.st 1 1 (.st 2 1 (.st 3 1 (.st 4 1 (.st 5 2 (.br (.st 0 2 (.st 6 2 (.st 10 3 (.st 7 1 (.st 8 1 (.st 11 1 (.st 9 2 (.st 12 0 .nil)))))))) (.st 10 3 (.st 0 2 (.st 6 2 (.st 7 1 (.st 8 1 (.st 11 1 (.st 9 2 (.st 12 0 .nil)))))))))))))) (.st 10 3 (.st 1 1 (.st 2 1 (.st 3 1 (.st 4 1 (.st 5 2 (.st 0 2 (.st 6 2 (.st 7 1 (.st 8 1 (.st 11 1 (.st 9 2 (.st 12 0 .nil))))))))))))))
def El:List (Nat×Nat):= [(0,0),(1,0),(2,0),(3,0),(4,0),(5,0),(6,1)]
theorem dO (h:bU B s) (hw:0≤w∧w≤20) (ht:Rn w=true) (hK:∀M mc,K (.tuple #[]) (b5 x a (iO w o s) M mc R)):CT 79 #[PO x,.agg #[I6 w,I6 st,I6 o]] (b5 x a s M mc R) K:=by
 have hla:=h.la
 have hc:=KO (o:=o) hw
 have hr:=YP hla (c:=lO w o) ⟨by omega,by omega⟩
 unfold zA at hla
 dsimp only[b5,nW]
 refine aH Tryz.func79 ?_
 repeat' (first|refine v31 ?_|refine JD Ed ?_|refine dw El ?_|refine w5 ?_ ?_|((refine bh fun h=>?_) <;> try exact w6 h)|(refine aE fun hA=>?_;subst hA)|intro _|(show aA _ 173 _ _ _;refine CA (h:=C3 ?_))|(show aA _ 172 _ _ _;refine CA (h:=Aev hw ht hla ?_))|(show aA _ 174 _ _ _;refine CA (h:=Ac3 (d:=s.dr) ?_))|(show aA _ 175 _ _ _;refine CA (h:=O4 (ps:= []) (show sJ 9 0 false ⟨#[]⟩ 0 0 0 false (lO w o) s.la 0 [] from hr) eI rfl ?_))|(show aA _ 176 _ _ _;refine CA (h:=Il (x:=x) (a:=a) (s:= { s with dr:=CJ s.dr (lO w o),last:=S5 (E8 s.la (lO w o)) }) (M:=M) (mc:=mc) (R:=R) (B:=B) { h with } (fun _ _=>?_))))
 all_goals(refine aC ?_;exact aB (hK _ _))
theorem EQ {out:List Fm} (h:N8 out):N8 (zF f out):=by
 obtain⟨h1,h2⟩:=h
 unfold zF
 split
 ·exact⟨h1,h2⟩
 ·rename_i he
  have he:EF f out=0:=Classical.byContradiction he
  unfold EF at he
  split at he
  ·cases he
  ·rename_i hc
   have hc:mK f=true:=by cases hq:mK f <;> first|exact absurd hq hc|rfl
   have hn:=GB hc
   split at he
   ·cases he
   ·split at he
    ·rename_i hlt
     cases hy:out[tT f out]? with
     |none=>exact absurd (List.getElem?_eq_none_iff.1 hy) (by omega)
     |some y=>
      refine⟨by simp only[List.length_set];exact h1,fun z hz=>?_⟩
      rcases List.mem_or_eq_of_mem_set hz with hz|rfl
      ·exact h2 z hz
      ·have:=h2 y (List.mem_of_getElem? hy)
       show 0≤y.n+f.n
       omega
    ·rename_i hlt
     split at he
     ·cases he
     ·have hy:out[tT f out]?=none:=List.getElem?_eq_none_iff.2 (by omega)
      rw[hy]
      refine⟨by simp only[List.length_append,List.length_singleton];omega,fun z hz=>?_⟩
      rcases List.mem_append.1 hz with hz|hz
      ·exact h2 z hz
      ·rw[List.mem_singleton.1 hz];exact hn.1
theorem Hi (h:bU B s):bU B (tX f s):=by
 unfold tX
 split
 ·exact { h with ou:=EQ h.ou }
 ·exact iU h
def u2:List (Nat×Nat):= [(0,0),(1,0),(2,0),(3,0),(4,0),(5,1),(6,0)]
theorem Bh (h:bU B s) (hp:f.pa=none) (hp0:f.ps= []) (JE:f.pn=0) (hK:∀M mc,K (.tuple #[]) (b5 x a (tX f s) M mc R)):CT 164 #[PO x,.agg #[I6 f.t,I6 f.st,.bool f.e,.string f.d,I6 f.k,I6 f.on,I6 f.w,.bool f.x,I6 f.c,I6 f.la,I6 f.n,.slice f.pa f.pn f.pc]] (b5 x a s M mc R) K:=by
 unfold tX at hK
 by_cases he:EF f s.out=0
 ·rw[if_pos he] at hK
  dsimp only[b5,nW]
  refine aH Tryz.func164 ?_
  repeat' (first|refine v46 ?_|refine dw u2 ?_|refine w5 ?_ ?_|((refine bh fun h=>?_) <;> try exact w6 h)|(refine aE fun hA=>?_;subst hA)|intro _|(show aA _ 60 _ _ _;refine CA (h:=jZ (f:=f) h.ou (by rw[hp0];exact eI) (by rw[hp0,JE];rfl) (by rw[JE];decide) ?_);rw[he]))
  all_goals(refine aC ?_;exact aB (hK _ _))
 ·rw[if_neg he] at hK
  have hou:zF f s.out=s.out:=by unfold zF;rw[if_pos he]
  dsimp only[b5,nW]
  refine aH Tryz.func164 ?_
  repeat' (first|(show Br _ _ _;refine Br.t (by simpa using he) ?_)|refine v46 ?_|refine dw u2 ?_|refine w5 ?_ ?_|((refine bh fun h=>?_) <;> try exact w6 h)|(refine aE fun hA=>?_;subst hA)|intro _|(show aA _ 60 _ _ _;refine CA (h:=jZ (f:=f) h.ou (by rw[hp0];exact eI) (by rw[hp0,JE];rfl) (by rw[JE];decide) ?_);rw[hou])|(show aA _ 79 _ _ _;refine CA (h:=dO (x:=x) (a:=a) (s:=s) h (by decide) (by decide) (fun _ _=>?_))))
  all_goals(refine aC ?_;exact aB (hK _ _))
end
section
variable {R C:List HP} {K:KP} {x mc i b p r t:Nat} {a:Ca} {s:Cn} {M:Option Addr} {B id code k la c st w o:Int} {gone:Bool} {m m':Sm} {f:Fm} {y:Ys} {l:List Sm}
def smR (b r:Nat) (m:Sm):HP:=eV fun li=>eV fun t=>sep (pt b [PO li,PO t,PO r,I6 m.id,.bool m.own] 258) (sep (o6 li m.sta) (sep (BH t m.x) (bH (wX m))))
def smT (b t:Nat) (m:Sm):HP:=eV fun li=>eV fun r=>sep (pt b [PO li,PO t,PO r,I6 m.id,.bool m.own] 258) (sep (o6 li m.sta) (sep (Dc r m.y) (bH (wX m))))
theorem YH {li t r:Nat} (h:wX m):aG (Dc r m.y::pt b [PO li,PO t,PO r,I6 m.id,.bool m.own] 258::o6 li m.sta::BH t m.x::R) (Dc r m.y::smR b r m::R):=
 aG.cons (aG.ex li (aG.ex t (qS h)))
theorem Ab4 {li t r:Nat} (h:wX m):aG (BH t m.x::pt b [PO li,PO t,PO r,I6 m.id,.bool m.own] 258::o6 li m.sta::Dc r m.y::R) (BH t m.x::smT b t m::R):=
 aG.cons (aG.ex li (aG.ex r (qS h)))
theorem U0 {f:FuncId} {args:Array Value} (h:wX m→CT f args (mS b m::R) K):CT f args (mS b m::R) K:=
 mH fun _ _ _ hok=>aA.ent (cN hok) (h hok)
theorem l5 (hK:∀r,K (PO r) (Dc r m.y::smR b r m::R)):CT 89 #[PO b] (mS b m::R) K:=by
 refine mH fun li t r h=>?_
 refine aH Tryz.func89 ?_
 repeat' (first|refine v4 ?_|refine w5 ?_ ?_|((refine bh fun h=>?_) <;> try exact w6 h)|(refine aE fun hA=>?_;subst hA)|intro _)
 (refine aC ?_;exact aK (aG.trans (by exact aZ) ((YH h))) (hK _))
theorem s5 (hK:∀t,K (PO t) (BH t m.x::smT b t m::R)):CT 86 #[PO b] (mS b m::R) K:=by
 refine mH fun li t r h=>?_
 refine aH Tryz.func86 ?_
 repeat' (first|refine v4 ?_|refine w5 ?_ ?_|((refine bh fun h=>?_) <;> try exact w6 h)|(refine aE fun hA=>?_;subst hA)|intro _)
 (refine aC ?_;exact aK (aG.trans (by exact aZ) ((Ab4 h))) (hK _))
theorem jU (hy:kV y=kV m.y):aG (Dc r y::smR b r m::R) (mS b { m with y:=y }::R):=fun H hs=>by
 have hs:=bX.swap hs
 obtain⟨li,hs⟩:=hs.ex
 obtain⟨t,hs⟩:=hs.ex
 obtain⟨hok,hs⟩:=(rP H hs).pure
 have hok':wX { m with y:=y }:=⟨hok.1.trans hy.symm,hok.2⟩
 exact cN (li:=li) (t:=t) (r:=r) hok' H hs
theorem pO {z:Xs} (hy:bB z=bB m.x):aG (BH t z::smT b t m::R) (mS b { m with x:=z }::R):=fun H hs=>by
 have hs:=bX.swap hs
 obtain⟨li,hs⟩:=hs.ex
 obtain⟨r,hs⟩:=hs.ex
 obtain⟨hok,hs⟩:=(rP H hs).pure
 have hok':wX { m with x:=z }:=⟨hy.trans hok.1,hok.2⟩
 exact cN (li:=li) (t:=t) (r:=r) hok' H (hs.perm (List.Perm.cons _ (List.Perm.cons _ (List.Perm.swap _ _ _))))
theorem I5 {t:Int}:∀l:List Sm,b7 t l=((l.map Sm.id).takeWhile fun k=>decide (k<t)).length
 | []=>rfl
 |e::r=>by
  have ih:=I5 (t:=t) r
  unfold b7 at ih ⊢
  rw[List.map_cons,List.takeWhile_cons,List.takeWhile_cons]
  split
  ·rw[List.length_cons,List.length_cons,ih]
  ·rfl
theorem Co (hi:l[i]?=some m) (hid:m'.id=m.id):(l.set i m').map Sm.id=l.map Sm.id:=by
 rw[List.map_set,hid]
 exact j9 i (by rw[List.getElem?_map,hi];rfl)
theorem NX {t:Int} (hi:l[i]?=some m) (hid:m'.id=m.id):b7 t (l.set i m')=b7 t l:=by
 rw[I5,I5,Co hi hid]
theorem lN (hm:bY id l=some m) (hid:m'.id=m.id):bY m'.id (l.set (b7 id l) m')=some m':=by
 obtain⟨h1,h2⟩:=bA hm
 have hlt:=(List.getElem?_eq_some_iff.1 h1).1
 unfold bY
 rw[NX h1 hid,hid,h2,List.getElem?_set_self hlt]
 simp only[hid,h2,if_true]
theorem XN (hm:bY id l=some m) (hid:m'.id=m.id):(l.set (b7 id l) m').eraseIdx (b7 m.id (l.set (b7 id l) m'))=l.eraseIdx (b7 m.id l):=by
 obtain⟨h1,h2⟩:=bA hm
 rw[NX h1 hid,h2,List.eraseIdx_set_eq]
theorem nL {b:Bool}:∀l:List Sm,(l.filter fun m=>m.own == b).length=((l.map Sm.own).filter fun q=>q == b).length
 | []=>rfl
 |m::l=>by
  rw[List.map_cons,List.filter_cons,List.filter_cons]
  split
  ·rw[List.length_cons,List.length_cons,nL l]
  ·exact nL l
theorem MD {b:Bool} (hi:l[i]?=some m) (ho:m'.own=m.own):((l.set i m').filter fun m=>m.own == b).length=(l.filter fun m=>m.own == b).length:=by
 rw[nL,nL,List.map_set,ho,j9 i (by rw[List.getElem?_map,hi];rfl)]
theorem lI (h:bU B s) (hi:s.l[i]?=some m) (hid:m'.id=m.id) (ho:m'.own=m.own) (hm:E6 B m'):bU B { s with l:=s.l.set i m' }:=
 { h with
   sm:=Afa h.sm hi hid
   st:=fun z hz=>by
    rcases List.mem_or_eq_of_mem_set hz with hz|rfl
    ·exact h.st z hz
    ·exact hm
   ids:=fun z hz=>by
    rcases List.mem_or_eq_of_mem_set hz with hz|rfl
    ·exact h.ids z hz
    ·have:=h.ids m (List.mem_of_getElem? hi)
     show oJ s.sd s.nx s.la z.id=true
     rw[hid];exact this
   own:=fun b=>by
    show((s.l.set i m').filter fun m=>m.own == b).length≤32
    rw[MD hi ho];exact h.own b
   mv:=by
    have:=h.mv
    show(s.mv.length:Int)+((s.l.set i m').length:Int)≤B
    rw[List.length_set];exact this }
theorem Aga {y:Yp} (h:Jn B y):Jn B (fY y k):=by
 unfold Jn at h
 unfold fY
 split
 ·unfold Jn;dsimp only;omega
 ·exact h
theorem pI (h:bU B s):bU B { s with rv:=fY s.rv k }:= { h with rv:=Aga h.rv }
theorem Z1 (h:E6 B m):E6 B (BS m):=by
 obtain⟨h1,h2,h3,h4⟩:=h
 unfold BS
 split
 ·refine⟨h1,?_,?_,?_⟩
  ·cases hx:m.x <;> rw[hx] at h2 <;> exact h2
  ·cases hy:m.y <;> rw[hy] at h3 <;> exact h3
  ·cases hy:m.y <;> (rw[hy] at h4;simp only[Ew,gF,List.length_nil] at h4 ⊢;omega)
 ·exact⟨h1,h2,h3,h4⟩
theorem Aey (h:E6 B m):E6 B { m with y:=Ew m.y }:=by
 obtain⟨h1,h2,h3,h4⟩:=h
 refine⟨h1,h2,?_,?_⟩
 ·cases hy:m.y <;> rw[hy] at h3 <;> exact h3
 ·cases hy:m.y <;> (rw[hy] at h4;simp only[Ew,gF,List.length_nil] at h4 ⊢;omega)
theorem ZS:(BS m).id=m.id:=by unfold BS;split <;> rfl
theorem T2:(BS m).own=m.own:=by unfold BS;split <;> rfl
theorem Aik:bB (BS m).x=bB m.x:=by
 unfold BS
 split
 ·cases hx:m.x <;> simp only[Aie] <;> rfl
 ·rfl
theorem Ai0:kV (Ew y)=kV y:=by cases y <;> rfl
theorem Ak9 (hok:wX m) (h1:bB m.x=1):Jv m+(gF (BS m).y:Nat)=(gF m.y:Nat):=by
 have h2:=hok.1
 rw[h1] at h2
 cases hy:m.y with
 |i z=>rw[hy] at h2;cases h2
 |b z=>
  unfold Jv BS
  split
  ·rw[hy];simp[Ew,gF]
  ·rw[hy];simp
theorem Ajz (hok:wX m) (h1:bB m.x≠1):Jv m=0:=by
 have h2:=hok.1
 cases hy:m.y with
 |b z=>rw[hy] at h2;exact absurd h2 h1
 |i z=>
  unfold Jv
  rw[hy]
  split <;> rfl
theorem OF (hm:bY id s.l=some m) (hid:m'.id=m.id):lW m'.id code gone { s with l:=s.l.set (b7 id s.l) m' }=lW m.id code gone s:=by
 unfold lW
 dsimp only
 rw[hid,XN hm hid]
theorem rW (h:bU B s) (hm:bY id s.l=some m):bU B (sH m code s):=by
 have h2:=(bA hm).2
 have h1:bY m.id s.l=some m:=by rw[h2];exact hm
 exact Ay (pI h) (id:=m.id) (m:=m) h1
theorem BL {ev:Int} (h:bU B s) (hm:bY id s.l=some m) (he:ev=4∨ev=5) (hK:∀M mc,K (.tuple #[]) (b5 x a (sH m code s) M mc R)):CT 254 #[PO x,PO b,I6 ev,I6 code] (mS b m::OY x a s M mc (b7 id s.l) b R) K:=by
 refine U0 fun hok=>?_
 obtain⟨hi,hmid⟩:=bA hm
 have hI:=h.st m (List.mem_of_getElem? hi)
 have hln:=hI.ln
 have hB:=h.bb
 have hrv:=h.rv
 unfold Jn at hrv
 unfold sH at hK
 by_cases h1:bB m.x=1
 ·rw[if_pos h1] at hK
  have hn:=Ak9 hok h1
  have hid2:({ BS m with y:=Ew (BS m).y }:Sm).id=m.id:=ZS
  have hI2:bU B { { s with rv:=fY s.rv (gF m.y:Nat) } with l:=s.l.set (b7 id s.l) { BS m with y:=Ew (BS m).y } }:=lI (s:= { s with rv:=fY s.rv (gF m.y:Nat) }) (pI h) hi hid2 T2 (Aey (Z1 hI))
  have hK':=hK
  rw[← OF (s:= { s with rv:=fY s.rv (gF m.y:Nat) }) (m:=m) (m':= { BS m with y:=Ew (BS m).y }) (id:=id) hm hid2] at hK'
  have h0:0≤Jv m∧Jv m≤gF m.y:=by
   unfold Jv
   split
   ·cases hy:m.y with
    |b z=>simp[gF]
    |i z=>simp[gF]
   ·omega
  dsimp only[OY,nW]
  refine aH Tryz.func254 ?_
  repeat' (first|refine Gt ?_|refine w5 ?_ ?_|((refine bh fun h=>?_) <;> try exact w6 h)|(refine aE fun hA=>?_;subst hA)|intro _|(show aA _ 337 _ _ _;refine CA (h:=Oo (m:=m) he ?_))|(show aA _ 107 _ _ _;refine CA (h:=gM (m:=BS m) ?_);rw[Aik,h1])|(show aA _ 89 _ _ _;refine CA (h:=l5 (m:=BS m) (fun _=>?_)))|(show aA _ 338 _ _ _;refine CA (h:=Af9 (y:=(BS m).y) ?_))|(show aA _ 118 _ _ _;rw[hn];refine CA (h:=tV (y:=s.rv) (by omega) (by omega) (fun _=>?_)))|(show aA _ 224 _ _ _;refine CA (h:=aA.ent (jU Ai0) (MP (m:= { BS m with y:=Ew (BS m).y }) ?_)))|(show aA _ 223 _ _ _;refine CA (h:=aA.ent (l6 (x:=x) (a:=a) (s:= { s with rv:=fY s.rv (gF m.y:Nat) }) (M:=M) (mc:=mc) (R:=R) (b:=b) (m':= { BS m with y:=Ew (BS m).y }) hi hid2) (Bd hI2 (lN hm hid2) (fun _ _=>?_)))))
  all_goals(refine aC ?_;exact aB (hK' _ _))
 ·rw[if_neg h1] at hK
  have hn:=Ajz hok h1
  have hid2:(BS m).id=m.id:=ZS
  have hI2:bU B { { s with rv:=fY s.rv 0 } with l:=s.l.set (b7 id s.l) (BS m) }:=lI (s:= { s with rv:=fY s.rv 0 }) (pI h) hi hid2 T2 (Z1 hI)
  have hK':=hK
  rw[← OF (s:= { s with rv:=fY s.rv 0 }) (m:=m) (m':=BS m) (id:=id) hm hid2] at hK'
  have hk1:bB (BS m).x≠1:=by rw[Aik];exact h1
  dsimp only[OY,nW]
  refine aH Tryz.func254 ?_
  repeat' (first|(show Br _ _ _;refine Br.f (by simpa using hk1) ?_)|refine Gt ?_|refine w5 ?_ ?_|((refine bh fun h=>?_) <;> try exact w6 h)|(refine aE fun hA=>?_;subst hA)|intro _|(show aA _ 337 _ _ _;refine CA (h:=Oo (m:=m) he ?_);rw[hn])|(show aA _ 107 _ _ _;refine CA (h:=gM (m:=BS m) ?_))|(show aA _ 118 _ _ _;refine CA (h:=tV (y:=s.rv) (by omega) (by omega) (fun _=>?_)))|(show aA _ 224 _ _ _;refine CA (h:=MP (m:=BS m) ?_))|(show aA _ 223 _ _ _;refine CA (h:=aA.ent (l6 (x:=x) (a:=a) (s:= { s with rv:=fY s.rv 0 }) (M:=M) (mc:=mc) (R:=R) (b:=b) (m':=BS m) hi hid2) (Bd hI2 (lN hm hid2) (fun _ _=>?_)))))
  all_goals(refine aC ?_;exact aB (hK' _ _))
end
section
variable {R C:List HP} {K:KP} {x mc i b p r t:Nat} {a:Ca} {s:Cn} {M:Option Addr} {B id code k la c st w o on sg kind:Int} {gone own xx:Bool} {m m':Sm} {f:Fm} {y:Ys} {l:List Sm} {cf:Cf} {h3:eJ}
theorem qP (h:bU B s):bU B (kK w st s):=by
 unfold kK
 split
 ·exact iU h
 ·refine Hi ?_
  cases hm:bY st s.l with
  |none=>exact h
  |some m=>exact rW h hm
def mP:List (Nat×Nat):= [(0,0),(1,0),(2,0),(3,0),(4,0),(5,0),(6,1),(7,0),(8,0),(9,0),(10,0),(11,0)]
theorem jJ (h:bU B s) (hw:0≤w∧w≤20) (hst:1≤st∧st≤2147483647) (hK:∀M mc,K (.tuple #[]) (b5 x a (kK w st s) M mc R)):CT 257 #[PO x,.agg #[I6 w,I6 st,I6 0]] (b5 x a s M mc R) K:=by
 unfold kK at hK
 cases ht:Rn w
 ·rw[ht,if_neg Bool.false_ne_true] at hK
  cases hm:bY st s.l with
  |none=>
   rw[hm] at hK
   dsimp only[b5,nW]
   refine aH Tryz.func257 ?_
   repeat' (first|refine v31 ?_|refine dw mP ?_|refine w5 ?_ ?_|((refine bh fun h=>?_) <;> try exact w6 h)|(refine aE fun hA=>?_;subst hA)|intro _|(show aA _ 265 _ _ _;refine CA (h:=wT hw ?_);rw[ht])|(show aA _ 172 _ _ _;refine CA (h:=Vv hw ht hst ?_))|(show aA _ 192 _ _ _;refine CA (h:=mW (l:=s.l) h.sm hm ?_))|(show aA _ 164 _ _ _;refine CA (h:=Bh (x:=x) (a:=a) (s:=s) (M:=M) (mc:=mc) (R:=R) (f:=mE st (lO w 0)) h rfl rfl rfl (fun _ _=>?_))))
   all_goals(refine aC ?_;exact aB (hK _ _))
  |some m=>
   rw[hm] at hK
   dsimp only[b5,nW]
   refine aH Tryz.func257 ?_
   repeat' (first|refine v31 ?_|refine dw mP ?_|refine w5 ?_ ?_|((refine bh fun h=>?_) <;> try exact w6 h)|(refine aE fun hA=>?_;subst hA)|intro _|(show aA _ 265 _ _ _;refine CA (h:=wT hw ?_);rw[ht])|(show aA _ 172 _ _ _;refine CA (h:=Vv hw ht hst ?_))|(show aA _ 192 _ _ _;refine CA (h:=f5 (l:=s.l) h.sm hm (fun _=>?_)))|(show aA _ 254 _ _ _;refine CA (h:=BL (x:=x) (a:=a) (s:=s) (M:=M) (mc:=mc) (m:=m) h hm (.inl rfl) (fun _ _=>?_)))|(show aA _ 164 _ _ _;refine CA (h:=Bh (x:=x) (a:=a) (s:=sH m (lO w 0) s) (f:=mE st (lO w 0)) (rW h hm) rfl rfl rfl (fun _ _=>?_))))
   all_goals(refine aC ?_;exact aB (hK _ _))
 ·rw[ht,if_pos rfl] at hK
  refine aH Tryz.func257 ?_
  repeat' (first|refine v31 ?_|refine dw mP ?_|refine w5 ?_ ?_|((refine bh fun h=>?_) <;> try exact w6 h)|(refine aE fun hA=>?_;subst hA)|intro _|(show aA _ 265 _ _ _;refine CA (h:=wT hw ?_);rw[ht])|(show aA _ 79 _ _ _;refine CA (h:=dO (x:=x) (a:=a) (s:=s) h hw ht (fun _ _=>?_))))
  all_goals(refine aC ?_;exact aB (hK _ _))
theorem pE {n m:Nat} {I:Nat→Fr→List HP→Prop} {a:Fr} {C C':List HP} (hm:m<n) (he:aG C C') (hi:I m a C'):aT n I a C:=bV m hi hm he
theorem tW (hI:bU B s) (hK:K (I6 (fO s own:Nat)) (b5 x a s M mc R)):CT 84 #[PO x,.bool own] (b5 x a s M mc R) K:=by
 have h64:=hI.sm.1
 refine aH Tryz.func84 ?_
 repeat' (first|refine Gt ?_|refine w5 ?_ ?_|((refine bh fun h=>?_) <;> try exact w6 h)|(refine aE fun hA=>?_;subst hA)|intro _|(show aA _ 83 _ _ _;refine CA (h:=BJ (l:=s.l) ?_)))
 refine fZ (fun n a' C'=>∃(j q:Nat),j+n=s.l.length∧q≤j∧q+((s.l.drop j).filter fun m=>m.own == own).length=fO s own∧cJ a' [(0,PO x),(1,.bool own),(5,I6 q),(14,I6 s.l.length),(15,I6 j)]∧C'=b5 x a s M mc R) s.l.length (bV s.l.length ⟨0,0,by omega,by omega,by unfold fO;simp,⟨rfl,rfl,rfl,rfl,rfl,trivial⟩,rfl⟩ (by omega)) ?_
 rintro n a' C' ⟨j,q,hj,hq,hc,ha,rfl⟩
 refine fP _ ha ?_
 simp only[eP]
 by_cases hlt:j<s.l.length
 ·obtain⟨m,hm,hd⟩:=i7 (l:=s.l) (j:=j) hlt
  rw[hd,List.filter_cons] at hc
  cases ho:(m.own == own)
  ·rw[ho,if_neg Bool.false_ne_true] at hc
   have hne:m.own≠own:=by simpa using ho
   repeat' (first|(show Br _ _ _;refine Br.f (by simpa using hne) ?_)|refine Gt ?_|refine w5 ?_ ?_|((refine bh fun h=>?_) <;> try exact w6 h)|(refine aE fun hA=>?_;subst hA)|intro _|(show aA _ 85 _ _ _;refine CA (h:=Ie (l:=s.l) hI.sm hm (fun _=>?_)))|(show aA _ 178 _ _ _;refine CA (h:=zN (m:=m) ?_)))
   all_goals(show aT _ _ _ _;exact pE (m:=n - 1) (by omega) (aG.trans (by exact aZ) (d8 (x:=x) (a:=a) (s:=s) (M:=M) (mc:=mc) (R:=R) hm)) ⟨j+1,q,by omega,by omega,hc,⟨rfl,rfl,rfl,rfl,rfl,trivial⟩,rfl⟩)
  ·rw[ho,if_pos rfl,List.length_cons] at hc
   have hne:m.own=own:=by simpa using ho
   repeat' (first|(show Br _ _ _;refine Br.t (by simpa using hne) ?_)|refine Gt ?_|refine w5 ?_ ?_|((refine bh fun h=>?_) <;> try exact w6 h)|(refine aE fun hA=>?_;subst hA)|intro _|(show aA _ 85 _ _ _;refine CA (h:=Ie (l:=s.l) hI.sm hm (fun _=>?_)))|(show aA _ 178 _ _ _;refine CA (h:=zN (m:=m) ?_)))
   all_goals(show aT _ _ _ _;exact pE (m:=n - 1) (by omega) (aG.trans (by exact aZ) (d8 (x:=x) (a:=a) (s:=s) (M:=M) (mc:=mc) (R:=R) hm)) ⟨j+1,q+1,by omega,by omega,by omega,⟨rfl,rfl,rfl,rfl,rfl,trivial⟩,rfl⟩)
 ·have hj0:j=s.l.length:=by omega
  subst hj0
  rw[List.drop_length] at hc
  have hc:q=fO s own:=by simpa using hc
  subst hc
  repeat' (first|refine Gt ?_|refine w5 ?_ ?_|((refine bh fun h=>?_) <;> try exact w6 h)|(refine aE fun hA=>?_;subst hA)|intro _)
  all_goals(refine aC ?_;exact aB (hK))
theorem Qc (hk:kind=1∨kind=2) (hid:1≤id∧id≤2147483647) (hb:0≤cf.sb∧cf.sb≤4096) (hi:0≤cf.si∧cf.si≤64) (hg:0≤sg∧sg≤2) (hh:u3 h3) (hK:∀b,K (.tuple #[PO b,I6 0]) (mS b (gU cf h3 id kind sg own)::R)):CT 139 #[I6 id,I6 kind,.bool own,.agg #[I6 h3.w,I6 h3.st,I6 h3.it,I6 cf.sb,I6 cf.si,I6 sg,I6 cf.ev,I6 cf.wa,I6 cf.sl]] R K:=by
 obtain⟨cw,cst,cit,sb,si,csg,ev,wa,sl⟩:=cf
 obtain⟨cap,rfl⟩:∃n:Nat,sb=n:=⟨sb.toNat,(Int.toNat_of_nonneg hb.1).symm⟩
 obtain⟨cai,rfl⟩:∃n:Nat,si=n:=⟨si.toNat,(Int.toNat_of_nonneg hi.1).symm⟩
 have e1:((cap:Nat):Int).toNat=cap:=Int.toNat_natCast cap
 have e2:((cai:Nat):Int).toNat=cai:=Int.toNat_natCast cai
 rcases hk with rfl|rfl
 ·have e:gU ⟨cw,cst,cit,(cap:Nat),(cai:Nat),csg,ev,wa,sl⟩ h3 id 1 sg own=⟨id,own,1,.b ⟨cap,[],false,false,0,0,0⟩,.b ⟨h3.w,h3.w,h3.w,0,0,[],false⟩⟩:=by
   unfold gU;rw[if_pos rfl];dsimp only;rw[e1]
  rw[e] at hK
  exact aA.entK (Ou hid (by simp only at hb;omega) hh fun b li t r=>⟨_,cN (m:=⟨id,own,1,.b ⟨cap,[],false,false,0,0,0⟩,.b ⟨h3.w,h3.w,h3.w,0,0,[],false⟩⟩) ⟨rfl,.inl rfl⟩,hK b⟩)
 ·have e:gU ⟨cw,cst,cit,(cap:Nat),(cai:Nat),csg,ev,wa,sl⟩ h3 id 2 sg own=⟨id,own,1,.i ⟨cai,sg,[],0,false,false,0,0,0⟩,.i ⟨h3.it,h3.it,0,0,[],0,0,0,false⟩⟩:=by
   unfold gU;rw[if_neg (by decide)];dsimp only;rw[e2]
  rw[e] at hK
  exact aA.entK (Om hid (by simp only at hi;omega) hg hh fun b li t r=>⟨_,cN (m:=⟨id,own,1,.i ⟨cai,sg,[],0,false,false,0,0,0⟩,.i ⟨h3.it,h3.it,0,0,[],0,0,0,false⟩⟩) ⟨rfl,.inl rfl⟩,hK b⟩)
theorem O9 (he:m.id=id) (hs:Gl l) (hm:bY id l=none) (h64:l.length<64) (hK:K (I6 0) (Iz p (kG m l)::R)):CT 215 #[PO p,I6 id,PO b] (mS b m::Iz p l::R) K:=by
 subst he;exact Afc hs hm h64 hK
theorem UT {b:Bool}:((kG m l).filter fun m=>m.own == b).length=(l.filter fun m=>m.own == b).length+if m.own == b then 1 else 0:=by
 have h:(l.filter fun m=>m.own == b).length=((l.take (b7 m.id l)).filter fun m=>m.own == b).length+((l.drop (b7 m.id l)).filter fun m=>m.own == b).length:=by
  rw[← List.length_append,← List.filter_append,List.take_append_drop]
 unfold kG
 rw[h,List.filter_append,List.length_append,List.filter_cons]
 split <;> first|(simp only[List.length_cons];omega)|omega
theorem Ul (hI:bU B s) (hm:bY id s.l=none) (hl:s.l.length<64) (hid:1≤id∧id≤2147483647) (hp:oJ s.sd s.nx s.la id=true) (ho:fO s own<32) (hb:(s.mv.length:Int)+s.l.length+1≤B):bU B (HG id kind on w xx own sg s):=
 { hI with
   sm:=Aem (m:=gU s.cf s.sh.h id kind sg own) hI.sm (by
    have e:(gU s.cf s.sh.h id kind sg own).id=id:=by unfold gU;split <;> rfl
    rw[e];exact hm) hl
   st:=fun z hz=>by
    have hB:=hI.bb
    rcases AX hz with rfl|hz
    ·unfold gU
     split
     ·exact⟨hid,by show(0:Int)≤B;omega,by show(0:Int)≤B;omega,by show((0:Nat):Int)≤B;omega⟩
     ·exact⟨hid,by show(0:Int)≤B;omega,by show(0:Int)≤B;omega,by show((0:Nat):Int)≤B;omega⟩
    ·exact hI.st z hz
   ids:=fun z hz=>by
    rcases AX hz with rfl|hz
    ·have e:(gU s.cf s.sh.h id kind sg own).id=id:=by unfold gU;split <;> rfl
     show oJ s.sd s.nx s.la _=true
     rw[e];exact hp
    ·exact hI.ids z hz
   own:=fun b=>by
    have e:(gU s.cf s.sh.h id kind sg own).own=own:=by unfold gU;split <;> rfl
    show((kG (gU s.cf s.sh.h id kind sg own) s.l).filter fun m=>m.own == b).length≤32
    rw[UT,e]
    have h1:=hI.own b
    unfold fO at h1 ho
    split
    ·rename_i hb
     have hb:own=b:=by simpa using hb
     subst hb;omega
    ·omega
   tr:=Ae6 hI.tr
   ld:=by
    show Gn B (if kind=1 then k8 id s.pe.w s.ld else s.ld)
    split
    ·exact Aax hI.ld
    ·exact hI.ld
   mv:=by
    show(s.mv.length:Int)+((kG _ s.l).length:Int)≤B
    have e:(kG (gU s.cf s.sh.h id kind sg own) s.l).length≤s.l.length+1:=by
     unfold kG
     rw[List.length_append,List.length_cons,List.length_take,List.length_drop]
     omega
    omega }
def vN:List (Nat×Nat):= [(0,0),(1,0),(2,0),(3,0),(4,0),(5,0),(6,1)]
def uZ:List (Nat×Nat):= [(0,0),(1,0),(2,0),(3,0),(4,0),(5,0),(6,0),(7,0),(8,0),(9,0),(10,1)]
theorem PW (hI:bU B s) (hk:kind=1∨kind=2) (hg:0≤sg∧sg≤2) (hm:bY id s.l=none) (hl:s.l.length<64) (hid:1≤id∧id≤2147483647) (hK:K (I6 0) (b5 x a (HG id kind on w xx own sg s) M mc R)):CT 115 #[PO x,I6 id,I6 kind,.bool own,.agg #[I6 on,I6 w,.bool xx],I6 sg] (b5 x a s M mc R) K:=by
 have hB:=hI.bb
 have htl:=hI.tr.len
 have he:(gU s.cf s.sh.h id kind sg own).id=id:=by unfold gU;split <;> rfl
 unfold HG at hK
 by_cases h1:kind=1
 ·simp only[if_pos h1] at hK
  dsimp only[b5,nW] at hK ⊢
  refine aH Tryz.func115 ?_
  repeat' (first|(show Br _ _ _;refine Br.t (by simpa using h1) ?_)|refine JK ?_|refine dw vN ?_|refine dw uZ ?_|refine w5 ?_ ?_|((refine bh fun h=>?_) <;> try exact w6 h)|(refine aE fun hA=>?_;subst hA)|intro _|(show aA _ 214 _ _ _;refine CA (h:=xZ (s:=s.sh) ?_))|(show aA _ 139 _ _ _;refine CA (h:=Qc (cf:=s.cf) (h3:=s.sh.h) hk hid hI.cf.1 hI.cf.2.1 hg hI.sh.2.1 (fun _=>?_)))|(show aA _ 215 _ _ _;refine CA (h:=O9 (l:=s.l) (m:=gU s.cf s.sh.h id kind sg own) he hI.sm hm hl ?_))|(show aA _ 216 _ _ _;refine CA (h:=F5 (s:=s.tr) hI.tr.kok (by omega) (by decide) ?_))|(show aA _ 217 _ _ _;refine CA (h:=WG (hI.ld.ok (by omega)) (fun _=>?_))))
  all_goals(refine aC ?_;exact aB (hK))
 ·simp only[if_neg h1] at hK
  dsimp only[b5,nW] at hK ⊢
  refine aH Tryz.func115 ?_
  repeat' (first|(show Br _ _ _;refine Br.f (by first|(simp <;> done)|simpa using h1) ?_)|refine JK ?_|refine dw vN ?_|refine dw uZ ?_|refine w5 ?_ ?_|((refine bh fun h=>?_) <;> try exact w6 h)|(refine aE fun hA=>?_;subst hA)|intro _|(show aA _ 214 _ _ _;refine CA (h:=xZ (s:=s.sh) ?_))|(show aA _ 139 _ _ _;refine CA (h:=Qc (cf:=s.cf) (h3:=s.sh.h) hk hid hI.cf.1 hI.cf.2.1 hg hI.sh.2.1 (fun _=>?_)))|(show aA _ 215 _ _ _;refine CA (h:=O9 (l:=s.l) (m:=gU s.cf s.sh.h id kind sg own) he hI.sm hm hl ?_))|(show aA _ 216 _ _ _;refine CA (h:=F5 (s:=s.tr) hI.tr.kok (by omega) (by decide) ?_)))
  all_goals(refine aC ?_;exact aB (hK))
end
section
variable {R C:List HP} {K:KP} {x mc i b p r t:Nat} {a:Ca} {s:Cn} {M:Option Addr} {B B' id code k la c st w o on sg kind:Int} {gone own xx:Bool} {m m':Sm} {f:Fm} {y:Ys} {l:List Sm} {cf:Cf} {h3:eJ} {z:Yp}
theorem E6.mono (h:E6 B m) (hB:B≤B'):E6 B' m:=by
 obtain⟨h1,h2,h3,h4⟩:=h
 exact⟨h1,by omega,by omega,by omega⟩
theorem bU.mono (h:bU B s) (hB:B≤B') (hb:B'≤250000000):bU B' s:=
 { h with
   bb:=by have:=h.bb;omega
   st:=fun z hz=>(h.st z hz).mono hB
   ld:=h.ld.mono hB
   rv:=by have:=h.rv;unfold Jn at this ⊢;omega
   bt:=by have:=h.bt;omega
   sl:=by have:=h.sl;omega
   inb:=by have:=h.inb;omega
   now:=by have:=h.now;omega
   mv:=by have:=h.mv;omega }
theorem mV (hb:Jn B z) (hB:B≤250000000) (hk:0≤k∧k≤900000000) (hK:K (I6 (lB z k)) (zG p (f7 z k).cap (f7 z k).most (f7 z k).gr (f7 z k).got (f7 z k).us::R)):CT 260 #[PO p,I6 k] (zG p z.cap z.most z.gr z.got z.us::R) K:=by
 unfold Jn at hb
 by_cases h:max (z.gr - z.got) 0<k
 ·have e:lB z k=9:=by unfold lB;rw[if_pos h]
  unfold f7 at hK
  rw[e] at hK
  simp only[if_neg (show ¬(9:Int)=0 by decide)] at hK
  exact K0 h (by omega) hK
 ·have e:lB z k=0:=by unfold lB;rw[if_neg h]
  unfold f7 at hK
  rw[e] at hK
  simp only[if_true] at hK
  exact Hw (by omega) (by omega) hK
theorem Af4 (h:Jn B z) (hk:0≤k∧k≤B' - B):Jn B' (f7 z k):=by
 unfold Jn at h
 by_cases hg:lB z k=0
 ·have e:f7 z k= { z with got:=z.got+k }:=by unfold f7;rw[if_pos hg]
  rw[e]
  unfold lB at hg
  by_cases h0:max (z.gr - z.got) 0<k
  ·rw[if_pos h0] at hg;cases hg
  ·unfold Jn;dsimp only;omega
 ·have e:f7 z k=z:=by unfold f7;rw[if_neg hg]
  rw[e]
  unfold Jn;omega
theorem J7 {d:ByteArray} {e:Bool}:0≤gI m t d e∧gI m t d e≤20:=by
 unfold gI
 split
 ·omega
 ·split
  ·omega
  ·unfold y5
   split <;> (split <;> (try split) <;> omega)
theorem Zz {d:ByteArray} {e:Bool} (h:E6 B m) (hd:d.size≤256) (hB:B+300≤B'):E6 B' (fM m d e):=by
 obtain⟨h1,h2,h3,h4⟩:=h
 refine⟨h1,by show KL m.x≤B';omega,?_,?_⟩
 ·show J2 (Cr m.y d e)≤B'
  cases hy:m.y with
  |b y=>rw[hy] at h3;simp only[Cr,J2] at h3 ⊢;omega
  |i y=>
   rw[hy] at h3
   by_cases hc:d≠⟨#[]⟩∨e=false
   ·simp only[Cr,if_pos hc,J2] at h3 ⊢;omega
   ·simp only[Cr,if_neg hc,J2] at h3 ⊢;omega
 ·show(gF (Cr m.y d e):Int)≤B'
  have hdl:d.data.toList.length=d.size:=Array.length_toList
  cases hy:m.y with
  |b y=>rw[hy] at h4;simp only[Cr,gF,List.length_append] at h4 ⊢;omega
  |i y=>
   rw[hy] at h4
   by_cases hc:d≠⟨#[]⟩∨e=false
   ·simp only[Cr,if_pos hc,gF,List.length_append,List.length_singleton] at h4 ⊢;omega
   ·simp only[Cr,if_neg hc,gF] at h4 ⊢;omega
end
end Go.Proofs.YtifgibijcmppmaaGreat
