/- A part of the proof: lemmas; each with the conditions that it states. -/
import Derived.Test.YtffnpejdkkohcaaGreatBaq
import Derived.Test.YtffnpejdkkohcaaGreatBar
import Derived.Test.YtffnpejdkkohcaaGreatBbc
set_option linter.unusedVariables false
set_option linter.unusedSimpArgs false
set_option maxRecDepth 100000
set_option maxHeartbeats 40000000
section
namespace Go.Proofs.YtffnpejdkkohcaaGreat
open Go Go.Proofs Go.Sl
attribute [local irreducible] aM eY cU bQ aL aW aA dS dT aZ dR pt ro fN star sep bH
attribute [local irreducible] ByteArray.extract qL eW
variable {R C:List HP} {K:KP}
def gB (t st:Int) (e:Bool) (p:ByteArray):Bool:=vY t st e (gD t p) (gK t p) (gO t p) (gW t p) (gX t p) (gC t p) (gL t p) (gN t p) (gP t p)
def gY (t:Int) (p:ByteArray):ByteArray:=⟨(kE t (gD t p) (gK t p) (gO t p) (gW t p) (gX t p) (gC t p) (gL t p) (gN t p) (gP t p)).toArray⟩
def gOk (t st:Int) (e:Bool) (p:ByteArray):Bool:=gB t st e p && decide (gY t p=p)
end Go.Proofs.YtffnpejdkkohcaaGreat
namespace Go.Proofs.YtffnpejdkkohcaaGreat
open Go Go.Proofs Go.Sl
attribute [local irreducible] aM eY cU bQ aL aW aA dS dT aZ dR pt ro fN star sep bH
attribute [local irreducible] ByteArray.extract qL eW
variable {R C:List HP} {K:KP}
theorem UI {t st:Int} {e:Bool} {d:ByteArray} {k on w:Int} {x:Bool} {c la n:Int} {pa:Option Addr} {pn pc:Nat} {ps:List Pr} (h:jB t st e d k on w x c la n ps) (hv:dE C pa oG ps) (hn:ps.length=pn) (hK:K (.string ⟨(kE t d k on w x c la n ps).toArray⟩) C):CT 205 #[.agg #[I6 t,I6 st,.bool e,.string d,I6 k,I6 on,I6 w,.bool x,I6 c,I6 la,I6 n,.slice pa pn pc]] C K:=by
 have hl:=h.2.2.2.2.2.2.2.2.2.2.2.2.2.2.2.2.2.2.2.2
 have hd:=h.2.2.2.2.2.2.2.2.2.2.2.2.2.2.2.1
 refine QL hv hn (by omega) ?_ (by rw[(BB h).1];exact hK)
 by_cases h2:t=2\/t=3
 ·have:=hd h2
  unfold Gb at this
  simp only[Bool.and_eq_true,decide_eq_true_eq] at this
  omega
 ·exact .inr h2
def gE (l t f s:Int) (p:ByteArray):Int:=if sU l t f s=0 then(if(p.size:Int)=l then(if gOk t s (f == 1) p=true then 0 else 1) else 6) else sU l t f s
def Al2:Value:=.agg #[I6 0,I6 0,.bool false,.string ⟨#[]⟩,I6 0,I6 0,I6 0,.bool false,I6 0,I6 0,I6 0,.slice none 0 0]
theorem TK {l t f s:Int} {p:ByteArray} (hf:-9223372036854775808<=f/\f<=9223372036854775807) (hK1:gE l t f s p=0->∀A c,K (.tuple #[.agg #[I6 t,I6 s,.bool (f == 1),.string (gD t p),I6 (gK t p),I6 (gO t p),I6 (gW t p),.bool (gX t p),I6 (gC t p),I6 (gL t p),I6 (gN t p),.slice A (gP t p).length c],I6 0]) (bU A c 114 oG (gP t p)::R))
  (hK2:gE l t f s p≠0->K (.tuple #[Al2,I6 (gE l t f s p)]) R):CT 182 #[.agg #[I6 l,I6 t,I6 f,I6 s],.string p] R K:=by
 by_cases h1:sU l t f s=0
 ·by_cases h2:(p.size:Int)=l
  ·have hL:=VS h1 h2.symm
   have hgl:=Aj5 t p
   have hp1000:(gP t p).length<1000000000000000:=by rw[hgl];have:=hL.2.2.1;split <;> omega
   unfold gE at hK1 hK2
   rw[if_pos h1,if_pos h2] at hK1 hK2
   unfold gOk gB at hK1 hK2
   cases hb:vY t s (f == 1) (gD t p) (gK t p) (gO t p) (gW t p) (gX t p) (gC t p) (gL t p) (gN t p) (gP t p)
   ·rw[hb] at hK2
    simp only[Bool.false_and,Bool.false_eq_true,if_false] at hK2
    have hi:MR t s (f == 1) (gD t p) (gK t p) (gO t p) (gW t p) (gX t p) (gC t p) (gL t p) (gN t p) (gP t p)=2:=by unfold MR;rw[hb];rfl
    refine aJ Tryz.func182 ?_
    repeat' (first|refine v82 ?_|refine w5 ?_ ?_|((refine bh fun h=>?_) <;> try exact w6 h)|(refine aF fun hA=>?_;subst hA)|intro _|(show aA _ 181 _ _ _;refine CA (h:=vK hf ?_))|(show aA _ 264 _ _ _;refine CA (h:=NU hL (fun A c=>?_)))|(show aA _ 80 _ _ _;refine CA (h:=Bs (ps:=gP t p) (by exact kU) rfl hp1000 ?_)))
    all_goals(refine aC ?_;exact aB (hK2 (by decide)))
   ·rw[hb] at hK1 hK2
    have hR:=(tK _ _ _ _ _ _ _ _ _ _ _ _).1 hb
    have hi:MR t s (f == 1) (gD t p) (gK t p) (gO t p) (gW t p) (gX t p) (gC t p) (gL t p) (gN t p) (gP t p)=0:=by unfold MR;rw[hb];rfl
    refine aJ Tryz.func182 ?_
    repeat' (first|refine v82 ?_|refine w5 ?_ ?_|((refine bh fun h=>?_) <;> try exact w6 h)|(refine aF fun hA=>?_;subst hA)|intro _|(show aA _ 181 _ _ _;refine CA (h:=vK hf ?_))|(show aA _ 264 _ _ _;refine CA (h:=NU hL (fun A c=>?_)))|(show aA _ 80 _ _ _;refine CA (h:=Bs (ps:=gP t p) (by exact kU) rfl hp1000 ?_))|(show aA _ 205 _ _ _;refine CA (h:=UI (ps:=gP t p) hR (by exact kU) rfl ?_)))
    ·have hd:decide (gY t p=p)=false:=decide_eq_false fun e=>h (congrArg ByteArray.toList e)
     rw[hd] at hK2
     (refine aC ?_;exact aB (hK2 (by decide)))
    ·have hd:decide (gY t p=p)=true:=decide_eq_true (Lh.1 h)
     rw[hd] at hK1
     (refine aC ?_;exact aB (hK1 rfl _ _))
  ·unfold gE at hK2
   rw[if_pos h1,if_neg h2] at hK2
   refine aJ Tryz.func182 ?_
   repeat' (first|refine v82 ?_|refine w5 ?_ ?_|((refine bh fun h=>?_) <;> try exact w6 h)|(refine aF fun hA=>?_;subst hA)|intro _|(show aA _ 181 _ _ _;refine CA (h:=vK hf ?_)))
   all_goals(refine aC ?_;exact aB (hK2 (by decide)))
 ·unfold gE at hK2
  rw[if_neg h1] at hK2
  refine aJ Tryz.func182 ?_
  repeat' (first|refine v82 ?_|refine w5 ?_ ?_|((refine bh fun h=>?_) <;> try exact w6 h)|(refine aF fun hA=>?_;subst hA)|intro _|(show aA _ 181 _ _ _;refine CA (h:=vK hf ?_)))
  all_goals(refine aC ?_;exact aB (hK2 h1))
end Go.Proofs.YtffnpejdkkohcaaGreat
end
section
namespace Go.Proofs.YtffnpejdkkohcaaGreat
open Go Go.Proofs Go.Sl
attribute [local irreducible] aM eY cU bQ aL aW aA dS dT aZ dR pt ro fN star sep bH
attribute [local irreducible] ByteArray.extract qL eW
variable {R C:List HP} {K:KP} {t st k on w c la n l f s:Int} {e x:Bool} {d:ByteArray} {ps:List Pr} {pa:Option Addr} {pn pc:Nat}
def frB (t st:Int) (e:Bool) (d:ByteArray) (k on w:Int) (x:Bool) (c la n:Int) (ps:List Pr):ByteArray:=i9 ((ByteArray.mk (kE t d k on w x c la n ps).toArray).size:Nat) t (qX e) st++⟨(kE t d k on w x c la n ps).toArray⟩
theorem uG (h:jB t st e d k on w x c la n ps):NN ((ByteArray.mk (kE t d k on w x c la n ps).toArray).size:Nat) t (qX e) st=true:=by
 have hl:=(BB h).2
 have hb:=Dt e
 obtain⟨h1,h2,_⟩:=h
 unfold NN
 simp only[Bool.and_eq_true,decide_eq_true_eq,pJ]
 omega
theorem wA (h:NN l t f s=true):(i9 l t f s).size=9:=by
 have e:=EG h
 have:(i9 l t f s).data.toList.length=(i9 l t f s).size:=by simp
 rw[<- this,e]
 simp only[List.length_append,iT]
 decide
theorem oR (h:vY t st e d k on w x c la n ps=true) (hv:dE C pa oG ps) (hn:ps.length=pn) (hn2:pn<1000000000000000) (hK:K (I6 0) C):CT 80 #[.agg #[I6 t,I6 st,.bool e,.string d,I6 k,I6 on,I6 w,.bool x,I6 c,I6 la,I6 n,.slice pa pn pc]] C K:=by
 refine Bs hv hn hn2 ?_
 unfold MR;rw[h];exact hK
theorem KZ (h:vY t st e d k on w x c la n ps=false) (hv:dE C pa oG ps) (hn:ps.length=pn) (hn2:pn<1000000000000000) (hK:K (I6 2) C):CT 80 #[.agg #[I6 t,I6 st,.bool e,.string d,I6 k,I6 on,I6 w,.bool x,I6 c,I6 la,I6 n,.slice pa pn pc]] C K:=by
 refine Bs hv hn hn2 ?_
 unfold MR;rw[h];exact hK
theorem Zk (h:NN l t f s=true) (hK:K (.string (i9 l t f s)) R):CT 59 #[.agg #[I6 l,I6 t,I6 f,I6 s]] R K:=by
 unfold NN at h
 simp only[Bool.and_eq_true,decide_eq_true_eq] at h
 exact Afp (by omega) (by omega) (by omega) (by omega) hK
def D9:List (Nat×Nat):= [(4,0),(5,0),(6,1),(0,1),(1,1),(2,1),(3,1),(7,1),(8,1),(9,0),(10,1),(11,0),(12,0),(13,0),(14,0),(15,0)]
theorem OW (h:jB t st e d k on w x c la n ps) (hv:dE C pa oG ps) (hn:ps.length=pn) (hK:K (.tuple #[.string (frB t st e d k on w x c la n ps),I6 0]) C):CT 126 #[.agg #[I6 t,I6 st,.bool e,.string d,I6 k,I6 on,I6 w,.bool x,I6 c,I6 la,I6 n,.slice pa pn pc]] C K:=by
 have hl:=h.2.2.2.2.2.2.2.2.2.2.2.2.2.2.2.2.2.2.2.2
 have hc:=(tK _ _ _ _ _ _ _ _ _ _ _ _).2 h
 have hn2:pn<1000000000000000:=by omega
 have ho:=uG h
 have hs:=wA ho
 have hp:=(BB h).2
 have hps:(ByteArray.mk (kE t d k on w x c la n ps).toArray).size<=256:=by rw[pJ];exact hp
 unfold frB at hK
 refine aJ Tryz.func126 ?_
 repeat' (first|refine Wy ?_|refine dw D9 ?_|refine w5 ?_ ?_|((refine bh fun h=>?_) <;> try exact w6 h)|(refine aF fun hA=>?_;subst hA)|intro _|(show aA _ 80 _ _ _;refine CA (h:=oR (ps:=ps) hc (bF hv) hn hn2 ?_))|(show aA _ 205 _ _ _;refine CA (h:=UI (ps:=ps) h (bF hv) hn ?_))|(show aA _ 207 _ _ _;refine CA (h:=T5 ?_))|(show aA _ 206 _ _ _;refine CA (h:=XH ho ?_)))
 all_goals(refine aC ?_;exact aB (hK))
theorem Aki (h:jB t st e d k on w x c la n ps) (hv:dE C pa oG ps) (hn:ps.length=pn) (hK:K (.string (frB t st e d k on w x c la n ps)) C):CT 12 #[.agg #[I6 t,I6 st,.bool e,.string d,I6 k,I6 on,I6 w,.bool x,I6 c,I6 la,I6 n,.slice pa pn pc]] C K:=by
 have ho:=uG h
 have hs:=wA ho
 have hp:=(BB h).2
 have hps:(ByteArray.mk (kE t d k on w x c la n ps).toArray).size<=256:=by rw[pJ];exact hp
 have hO:=ho
 unfold NN at hO
 simp only[Bool.and_eq_true,decide_eq_true_eq] at hO
 unfold frB at hK
 refine aJ Tryz.func12 ?_
 cases e
 all_goals
  simp only[qX] at ho hs hK
  repeat' (first|refine Wy ?_|refine w5 ?_ ?_|((refine bh fun h=>?_) <;> try exact w6 h)|(refine aF fun hA=>?_;subst hA)|intro _|(show aA _ 58 _ _ _;refine CA (h:=Pj (ps:=ps) h (bF hv) hn ?_))|(show aA _ 59 _ _ _;refine CA (h:=Zk ho ?_)))
  all_goals(refine aC ?_;exact aB (hK))
end Go.Proofs.YtffnpejdkkohcaaGreat
namespace Go.Proofs.YtffnpejdkkohcaaGreat
open Go Go.Proofs Go.Sl
attribute [local irreducible] aM eY cU bQ aL aW aA dS dT aZ dR pt ro fN star sep bH
attribute [local irreducible] ByteArray.extract qL eW
variable {R C:List HP} {K:KP} {l t f s:Int} {p:ByteArray}
theorem XN (hf:-9223372036854775808<=f/\f<=9223372036854775807) (h:gE l t f s p=0) (hK:∀A c,K (.tuple #[.agg #[I6 t,I6 s,.bool (f == 1),.string (gD t p),I6 (gK t p),I6 (gO t p),I6 (gW t p),.bool (gX t p),I6 (gC t p),I6 (gL t p),I6 (gN t p),.slice A (gP t p).length c],I6 0]) (bU A c 114 oG (gP t p)::R)):CT 182 #[.agg #[I6 l,I6 t,I6 f,I6 s],.string p] R K:=TK hf (fun _=>hK) (fun h'=>absurd h h')
theorem Aa1 (hf:-9223372036854775808<=f/\f<=9223372036854775807) (h:gE l t f s p≠0) (hK:K (.tuple #[.agg #[I6 0,I6 0,.bool false,.string ⟨#[]⟩,I6 0,I6 0,I6 0,.bool false,I6 0,I6 0,I6 0,.slice none 0 0],I6 (gE l t f s p)]) R):CT 182 #[.agg #[I6 l,I6 t,I6 f,I6 s],.string p] R K:=TK hf (fun h'=>absurd h' h) (fun _=>hK)
end Go.Proofs.YtffnpejdkkohcaaGreat
namespace Go.Proofs.YtffnpejdkkohcaaGreat
open Go Go.Proofs Go.Sl
attribute [local irreducible] aM eY cU bQ aL aW aA dS dT aZ dR pt ro fN star sep bH
attribute [local irreducible] ByteArray.extract qL eW
variable {R C:List HP} {K:KP} {y:Fm}
def fmD:List Value->Option Fm
 | [.int .i64 t,.int .i64 st,.bool e,.string d,.int .i64 k,.int .i64 on,.int .i64 w,.bool x,.int .i64 c,.int .i64 la,.int .i64 n,.slice pa pn pc]=>some ⟨t,st,e,d,k,on,w,x,c,la,n,pa,pn,pc,[]⟩
 |_=>none
theorem Ai5 (cs:List Value) (y:Fm) (h:fmD cs=some y): [I6 y.t,I6 y.st,.bool y.e,.string y.d,I6 y.k,I6 y.on,I6 y.w,.bool y.x,I6 y.c,I6 y.la,I6 y.n,.slice y.pa y.pn y.pc]=cs:=by
 unfold fmD at h
 split at h
 ·cases h;rfl
 ·cases h
def tC:tP Fm:= { enc:=fun y=> [I6 y.t,I6 y.st,.bool y.e,.string y.d,I6 y.k,I6 y.on,I6 y.w,.bool y.x,I6 y.c,I6 y.la,I6 y.n,.slice y.pa y.pn y.pc],sz:=12,dec:=fmD,len:=fun _=>rfl,one:=fun _=>rfl,ok:=Ai5 }
def FmV (C:List HP) (y:Fm):Prop:=dE C y.pa oG y.ps/\y.ps.length=y.pn
theorem FmV.there {X:HP} (h:FmV C y):FmV (X::C) y:=⟨bF h.1,h.2⟩
def l7 (y:Fm):Bool:=vY y.t y.st y.e y.d y.k y.on y.w y.x y.c y.la y.n y.ps
def oU (y:Fm):ByteArray:=frB y.t y.st y.e y.d y.k y.on y.w y.x y.c y.la y.n y.ps
def bV (y:Fm):Prop:=jB y.t y.st y.e y.d y.k y.on y.w y.x y.c y.la y.n y.ps
theorem lT (y:Fm):l7 y=true↔bV y:=tK _ _ _ _ _ _ _ _ _ _ _ _
theorem ZU (h:bV y):(oU y).size<=265:=by
 have h1:=wA (uG h)
 have h2:=(BB h).2
 have:(oU y).size=9+(kE y.t y.d y.k y.on y.w y.x y.c y.la y.n y.ps).length:=by
  unfold oU frB
  rw[ByteArray.size_append,h1,pJ]
 omega
def sO (l:List Fm):List UInt8:=l.flatMap fun y=>(oU y).data.toList
theorem LO:∀ {l:List Fm},(∀y∈l,bV y)->(sO l).length<=265 * l.length
 | [],_=>by simp[sO]
 |y::l,h=>by
  have h1:=ZU (h y (by simp))
  have h2:=LO (l:=l) fun z hz=>h z (List.mem_cons_of_mem _ hz)
  have e:(oU y).data.toList.length=(oU y).size:=by simp
  have e2:(sO (y::l)).length=(oU y).size+(sO l).length:=by rw[<- e];simp[sO]
  rw[e2,List.length_cons];omega
theorem WZ {l:List Fm} {j:Nat} (h:l[j]?=some y):sO (l.take (j+1))=sO (l.take j)++(oU y).data.toList:=by
 unfold sO
 rw[List.take_add_one,h]
 simp
theorem NC {A:Option Addr} {n c:Nat} {xs:List Fm} (hr:∀y∈xs,bV y) (hv:dE C A tC xs) (hps:∀y∈xs,FmV C y) (hn:xs.length=n) (hn2:n<=1000000) (hK:K (.tuple #[.string ⟨(sO xs).toArray⟩,I6 0]) C):CT 77 #[.slice A n c] C K:=by
 subst hn
 refine aJ Tryz.func77 ?_
 repeat' (first|refine v74 ?_|refine w5 ?_ ?_|((refine bh fun h=>?_) <;> try exact w6 h)|(refine aF fun hA=>?_;subst hA)|intro _)
 refine iH (fun m a C'=>∃(j:Nat) (B:Option Addr) (kk:Nat),j+m=xs.length/\C'=bU B kk 5 dX (sO (xs.take j))::C/\cW a [(4,.slice B (sO (xs.take j)).length kk),(9,.slice A xs.length c),(10,I6 xs.length),(11,I6 j)]) xs.length (cG xs.length ⟨0,none,0,by omega,rfl,rfl,rfl,rfl,rfl,trivial⟩) ?_
 rintro n1 a C' ⟨j,B,kk,hj,rfl,ha⟩
 refine gJ _ ha ?_
 simp only[fF]
 have hle:=LO (l:=xs.take j) fun y hy=>hr y (List.mem_of_mem_take hy)
 rw[List.length_take] at hle
 by_cases hlt:j<xs.length
 ·obtain⟨y,hy,hd⟩:=i0 (l:=xs) (j:=j) (by omega)
  have hm:=List.mem_of_getElem? hy
  have hp:=hps y hm
  have hR:bV y:=hr y hm
  have ht:=WZ hy
  have hsz:=ZU hR
  have hdl:(oU y).data.toList.length=(oU y).size:=by simp
  unfold oU at ht hsz hdl
  repeat' (first|refine v74 ?_|refine w5 ?_ ?_|((refine bh fun h=>?_) <;> try exact w6 h)|(refine aF fun hA=>?_;subst hA)|intro _|(show aA _ 126 _ _ _;refine CA (h:=OW (ps:=y.ps) hR (bF (bF hp.1)) hp.2 ?_)))
  all_goals exact cG (n1 - 1) ⟨j+1,_,_,by omega,by rw[ht],by rw[ht];rfl,rfl,rfl,rfl,trivial⟩
 ·obtain rfl:j=xs.length:=by omega
  rw[List.take_of_length_le (Nat.le_refl _)]
  repeat' (first|refine v74 ?_|refine w5 ?_ ?_|((refine bh fun h=>?_) <;> try exact w6 h)|(refine aF fun hA=>?_;subst hA)|intro _)
  all_goals(refine aC ?_;exact aB (hK))
end Go.Proofs.YtffnpejdkkohcaaGreat
namespace Go.Proofs.YtffnpejdkkohcaaGreat
open Go Go.Proofs Go.Sl
attribute [local irreducible] aM eY cU bQ aL aW aA dS dT aZ dR pt ro fN star sep bH
variable {W:World} {n:Nat} {cs:List Value}
def xP (y:Fm):HP:=pD y.pa oG y.ps
theorem zO (y:Fm):EI (xP y):=qT _ _ _
theorem Ab (y:Fm):Al (xP y):=V1 _ _ _
theorem wL {C:List HP} {l:List Fm} {y:Fm} (hy:y∈l):dE (kS xP l::C) y.pa oG y.ps:=Pk (aG.allget (P:=xP) zO Ab hy) jF
def FmW (W:World) (y:Fm):Prop:=pD y.pa oG y.ps (yP W)/\y.ps.length=y.pn/\y.pn<1000000000000000/\(-9223372036854775808<=y.n/\y.n<=9223372036854775807)
theorem RG (hg:Go.Sl.Good Tryz.prog W n 114 cs):∃y:Pr,cs=oG.enc y:=by
 have hz:Tryz.prog.cellsOf 114=2:=by kernel_rfl
 obtain⟨m2,k3,k4⟩:=rT Tryz.underlying114 hg
 obtain⟨i,r0,_⟩:=fX Tryz.underlying3 (k4 0 _ rfl)
 obtain⟨v,r1,_⟩:=fX Tryz.underlying3 (k4 1 _ rfl)
 exact⟨⟨i,v⟩,Ajh (k3.trans hz) r0 r1⟩
theorem Ajt (hg:Go.Sl.Good Tryz.prog W n 45 cs):∃y:Fm,cs=tC.enc y/\FmW W y:=by
 have hz:Tryz.prog.cellsOf 45=12:=by kernel_rfl
 have hz2:Tryz.prog.cellsOf 114=2:=by kernel_rfl
 have hz3:Tryz.prog.cellsOf 42=3:=by kernel_rfl
 have hby:Tryz.prog.bytesOf 114=16:=by kernel_rfl
 have hr:reachBytes=140737488351232:=by decide
 obtain⟨m2,k3,k4⟩:=rT Tryz.underlying45 hg
 obtain⟨t,r0,_⟩:=fX Tryz.underlying3 (k4 0 _ rfl)
 obtain⟨st,r1,_⟩:=fX Tryz.underlying3 (k4 1 _ rfl)
 obtain⟨e,r2⟩:=KC Tryz.underlying4 (k4 2 _ rfl)
 obtain⟨d,r3,_⟩:=Oo Tryz.underlying9 (k4 3 _ rfl)
 obtain⟨k,r4,_⟩:=fX Tryz.underlying3 (k4 4 _ rfl)
 obtain⟨m5,j3,j4⟩:=rT Tryz.underlying42 (k4 5 _ rfl)
 obtain⟨on,s0,_⟩:=fX Tryz.underlying3 (j4 0 _ rfl)
 obtain⟨w,s1,_⟩:=fX Tryz.underlying3 (j4 1 _ rfl)
 obtain⟨x,s2⟩:=KC Tryz.underlying4 (j4 2 _ rfl)
 obtain⟨c,r6,_⟩:=fX Tryz.underlying3 (k4 6 _ rfl)
 obtain⟨la,r7,_⟩:=fX Tryz.underlying3 (k4 7 _ rfl)
 obtain⟨n,r8,w8⟩:=fX Tryz.underlying3 (k4 8 _ rfl)
 have hsl:=Rv Tryz.underlying43 (k4 9 _ rfl)
 have s0':(cs.drop 5).take 1= [I6 on]:=by
  have:=s0
  rw[<- this]
  show _=List.take 1 (List.drop 0 (List.take (Tryz.prog.cellsOf 42) (List.drop 5 cs)))
  rw[hz3];simp[List.take_take]
 have s1':(cs.drop 6).take 1= [I6 w]:=by
  rw[<- s1]
  show _=List.take 1 (List.drop 1 (List.take (Tryz.prog.cellsOf 42) (List.drop 5 cs)))
  rw[hz3];simp[List.take_take,List.drop_take]
 have s2':(cs.drop 7).take 1= [.bool x]:=by
  rw[<- s2]
  show _=List.take 1 (List.drop 2 (List.take (Tryz.prog.cellsOf 42) (List.drop 5 cs)))
  rw[hz3];simp[List.take_take,List.drop_take]
 rcases hsl with h2|⟨ad,len,cap,m,h2,hl,hc,hi⟩
 ·exact⟨⟨t,st,e,d,k,on,w,x,c,la,n,none,0,0,[]⟩,TU (k3.trans hz) r0 r1 r2 r3 r4 s0' s1' s2' r6 r7 r8 h2,.inl rfl,rfl,by show(0:Nat)<_;decide,Ak6 w8⟩
 ·rw[hz2] at hi
  rw[hby] at hc
  obtain⟨xs,h1,h3,_⟩:=Ae4 (E:=oG) (φ:=fun _=>True) (by decide) (fun i hil=>by
   obtain⟨cs',q1,q2⟩:=hi i hil
   obtain⟨y,hy⟩:=RG q2
   exact⟨y,by rw[show oG.sz=2 from rfl,q1,hy],trivial⟩)
  exact⟨⟨t,st,e,d,k,on,w,x,c,la,n,some ad,len,cap,xs⟩,TU (k3.trans hz) r0 r1 r2 r3 r4 s0' s1' s2' r6 r7 r8 h2,h3,h1,by show len<_;omega,Ak6 w8⟩
end Go.Proofs.YtffnpejdkkohcaaGreat
end
namespace Go.Proofs.YtffnpejdkkohcaaGreat
open Go Go.Proofs Go.Sl
attribute [local irreducible] aM eY cU bQ aL aW aA dS dT aZ dR pt ro fN star sep bH
variable {has has':Int->Prop} {k j id on:Int} {r:Int->Nat} {on':Int->Int} {n:Nd} {s:eS} {x:Bool}
inductive Ql (has:Int->Prop) (on:Int->Int) (k:Int):Int->Prop
 |base {j:Int}:has j->on j=k->Ql has on k j
 |step {j:Int}:has j->Ql has on k (on j)->Ql has on k j
theorem xT {on:Int->Int} (h:Ql has on k j):has j:=by cases h <;> assumption
theorem MZ {on:Int->Int} (hr:∀j,has j->has (on j)->r (on j)<r j) (hk:has k) (h:Ql has on k j):r k<r j:=by
 induction h with
 |base h1 h2=>have:=hr _ h1 (by rw[h2];exact hk);rw[h2] at this;exact this
 |step h1 h2 ih=>exact Nat.lt_trans ih (hr _ h1 (xT h2))
theorem XS {on:Int->Int} (hr:∀j,has j->has (on j)->r (on j)<r j) (U:Int->Prop) (q:Int) (hU:∀j,has j->has (on j)->U (on j)->U j) (hq:¬U q)
  (hn:∀j,has' j->has' (on' j)->(has j/\has (on j)/\on' j=on j)\/(U j/\on' j=q)):∃r':Int->Nat,∀j,has' j->has' (on' j)->r' (on' j)<r' j:=by
 classical
 refine⟨fun j=>if U j then r j+r q+1 else r j,fun j h1 h2=>?_⟩
 rcases hn j h1 h2 with⟨a,b,c⟩|⟨a,b⟩
 ·rw[c]
  have h:=hr j a b
  show(if U (on j) then r (on j)+r q+1 else r (on j))<(if U j then r j+r q+1 else r j)
  by_cases hu:U (on j)
  ·rw[if_pos hu,if_pos (hU j a b hu)];omega
  ·rw[if_neg hu]
   split <;> omega
 ·rw[b]
  show(if U q then r q+r q+1 else r q)<(if U j then r j+r q+1 else r j)
  rw[if_neg hq,if_pos a];omega
theorem Y8 {on:Int->Int} {p:Int} (hr:∀j,has j->has (on j)->r (on j)<r j) (hkp:p≠k) (hu:¬Ql has on k p) (h1:∀j,has' j->j=k\/has j) (h3:on' k=p) (h4:∀j,j≠k->on' j=on j) (h5:∀j,j≠k->has' j->has' (on j)->has (on j)):
  ∃r':Int->Nat,∀j,has' j->has' (on' j)->r' (on' j)<r' j:=by
 refine XS hr (fun j=>j=k\/Ql has on k j) p (fun j a b c=>?_) (fun h=>h.elim hkp hu) fun j a b=>?_
 ·rcases c with c|c
  ·exact .inr (.base a c)
  ·exact .inr (.step a c)
 ·by_cases hj:j=k
  ·subst hj;exact .inr ⟨.inl rfl,h3⟩
  ·rw[h4 j hj] at b ⊢
   exact .inl ⟨(h1 j a).resolve_left hj,h5 j hj a b,rfl⟩
theorem VK {on:Int->Int} {q:Int} (hr:∀j,has j->has (on j)->r (on j)<r j) (hid:on id=q) (hq:has q\/∀j,has j->j≠q) (hqi:q≠id)
  (h1:∀j,has' j->has j) (h2:∀j,has j->j≠id->on j=q->on' j=id) (h3:∀j,has j->(j=id\/on j≠q)->on' j=on j):
  ∃r':Int->Nat,∀j,has' j->has' (on' j)->r' (on' j)<r' j:=by
 refine XS hr (fun j=>∃k,has k/\k≠id/\on k=q/\(j=k\/Ql has on k j)) id (fun j a b c=>?_) (fun h=>?_) fun j a b=>?_
 ·obtain⟨k,c1,c2,c3,c4⟩:=c
  refine⟨k,c1,c2,c3,?_⟩
  rcases c4 with c4|c4
  ·exact .inr (.base a c4)
  ·exact .inr (.step a c4)
 ·obtain⟨k,c1,c2,c3,c4⟩:=h
  rcases c4 with c4|c4
  ·exact c2 c4.symm
  ·have hlt:¬Ql has on k q:=fun h=>by
    have h1:=xT h
    have h2:=MZ hr c1 h
    have h3:=hr k c1 (by rw[c3];exact h1)
    rw[c3] at h3
    omega
   cases c4 with
   |base d1 d2=>
    rw[hid] at d2
    rcases hq with e|e
    ·have:=hr k c1 (by rw[c3];exact e)
     rw[c3,d2] at this
     omega
    ·exact e k c1 d2.symm
   |step d1 d2=>rw[hid] at d2;exact hlt d2
 ·have ha:=h1 j a
  by_cases hj:j=id\/on j≠q
  ·rw[h3 j ha hj] at b ⊢
   exact .inl ⟨ha,h1 _ b,rfl⟩
  ·have hj1:j≠id:=fun h=>hj (.inl h)
   have hj2:on j=q:=Classical.byContradiction fun h=>hj (.inr h)
   rw[h2 j ha hj1 hj2]
   exact .inr ⟨⟨j,ha,hj1,hj2,.inl rfl⟩,rfl⟩
section
variable {w:Int}
theorem Ae2:dZ j (fK id n s).1=(decide (j=id) || dZ j s.1):=by
 unfold dZ fK
 simp only
 rw[HM]
 by_cases h:j=id
 ·rw[if_pos h,decide_eq_true h];rfl
 ·rw[if_neg h,decide_eq_false h];rfl
theorem Fe {id:Int} {n:Nd} {ck:Nat}:∀ {l:List (KE Nd)},(gM id l).isSome=true->(s9 id n ck l).map KE.k=l.map KE.k
 | [],h=>by cases h
 |e::r,h=>by
  unfold gM at h
  unfold s9
  by_cases he:id=e.k
  ·rw[if_pos he];rfl
  ·rw[if_neg he] at h ⊢
   rw[List.map_cons,List.map_cons,Fe h]
theorem La (h:dZ id s.1=true):(fK id n s).1.length=s.1.length:=by
 have:=congrArg List.length (Fe (n:=n) (ck:=s.2) h)
 simpa[fK] using this
theorem T9 {id:Int}:∀ {l:List (KE Nd)},gM id l=none->∀e∈l,e.k≠id
 | [],_,e,he=>by cases he
 |z::r,h,e,he=>by
  unfold gM at h
  split at h
  ·cases h
  ·rename_i hz
   rcases List.mem_cons.1 he with rfl|he
   ·exact fun h'=>hz h'.symm
   ·exact T9 h e he
theorem G3 (h:Nh s):Nh (fK id n s):=by
 unfold Nh fK
 simp only
 cases hg:gM id s.1 with
 |some v=>rw[Fe (by rw[hg];rfl)];exact h
 |none=>
  rw[DO hg,List.map_append,List.nodup_append]
  refine⟨h,by simp,fun a ha b hb=>?_⟩
  simp only[List.map_cons,List.map_nil,List.mem_cons,List.not_mem_nil,or_false] at hb
  obtain⟨e,he,rfl⟩:=List.mem_map.1 ha
  subst hb
  exact T9 hg e he
theorem C3 {id j:Int}:∀ {l:List (KE Nd)},(l.map KE.k).Nodup->gM j (mO id l)=if j=id then none else gM j l
 | [],_=>by split <;> rfl
 |e::r,h=>by
  rw[List.map_cons,List.nodup_cons] at h
  unfold mO
  by_cases he:id=e.k
  ·rw[if_pos he]
   by_cases hj:j=id
   ·rw[if_pos hj]
    cases hg:gM j r with
    |none=>rfl
    |some v=>
     have:=wE (id:=j) (l:=r) (by rw[hg];rfl)
     rw[hj,he] at this
     exact absurd this h.1
   ·rw[if_neg hj]
    show _=if j=e.k then _ else _
    rw[if_neg (by rw[<- he];exact hj)]
  ·rw[if_neg he]
   show(if j=e.k then _ else gM j (mO id r))=if j=id then none else if j=e.k then _ else gM j r
   rw[C3 h.2]
   by_cases hj:j=id
   ·rw[if_pos hj,if_pos hj,if_neg (by rw[hj];exact he)]
   ·rw[if_neg hj,if_neg hj]
theorem EY {id:Int}:∀ {l:List (KE Nd)},((mO id l).map KE.k).Sublist (l.map KE.k)
 | []=>List.Sublist.refl _
 |e::r=>by
  unfold mO
  split
  ·exact List.sublist_cons_self ..
  ·exact List.Sublist.cons_cons _ EY
theorem Ab0 {id:Int}:∀ {l:List (KE Nd)},((mO id l).map KE.b).Sublist (l.map KE.b)
 | []=>List.Sublist.refl _
 |e::r=>by
  unfold mO
  split
  ·exact List.sublist_cons_self ..
  ·exact List.Sublist.cons_cons _ Ab0
theorem Kw {id:Int} {e:KE Nd}:∀ {l:List (KE Nd)},e∈mO id l->e∈l
 | [],h=>h
 |z::r,h=>by
  unfold mO at h
  split at h
  ·exact List.mem_cons_of_mem _ h
  ·exact(List.mem_cons.1 h).elim (fun e=>by rw[e];exact List.mem_cons_self ..) fun h=>List.mem_cons_of_mem _ (Kw h)
theorem YM {l:List (KE Nd)}:(mO id l).length<=l.length:=by
 have:=(EY (id:=id) (l:=l)).length_le
 simpa using this
end
structure Mt (s:eS):Prop where
 kok:Qe s.1 s.2
 nd:Nh s
 len:s.1.length<=64
 w:TrW s
 ky:∀id,dZ id s.1=true->1<=id/\id<=2147483647
 cl:∀id,dZ id s.1=true->(dD id s).on=0\/dZ (dD id s).on s.1=true
 rk:∃r,Sf r s
end Go.Proofs.YtffnpejdkkohcaaGreat
