/- A part of the proof: lemmas; each with the conditions that it states. -/
import Derived.Test.YtepnmcipkangkaaGreatCbb
import Derived.Test.YtepnmcipkangkaaGreatCar
import Derived.Test.YtepnmcipkangkaaGreatCaw
import Derived.Test.YtepnmcipkangkaaGreatCal
set_option linter.unusedVariables false
set_option linter.unusedSimpArgs false
set_option maxRecDepth 100000
set_option maxHeartbeats 40000000
namespace Go.Proofs.YtepnmcipkangkaaGreat
open Go Go.Proofs Go.Sl
attribute [local irreducible] aN fL cL bM aL aR aA dJ dK aU dI pt ro fC star sep bF
variable {R C:List HP} {K:KP} {t x cap c:Nat} {st ac se dr w kd:Int} {bs:List UInt8} {en ou:Bool} {l:List ByteArray} {A:Option Addr}
structure TA where
 k:Int
 n:Int
 s:ByteArray
section
variable {k n:Int} {s:ByteArray}
end
section
variable {n:Nat} {ls:List TA}
end
end Go.Proofs.YtepnmcipkangkaaGreat
namespace Go.Proofs.YtepnmcipkangkaaGreat
open Go Go.Proofs Go.Sl
attribute [local irreducible] aN fL cL bM aL aR aA dJ dK aU dI pt ro fC star sep bF
attribute [local irreducible] ByteArray.extract rP eV
variable {R C:List HP} {K:KP} {bs:List UInt8} {e:Int} {x:Nat}
def jD (y:Fm):Fm:=⟨y.t,y.st,y.e,y.d,y.k,y.on,y.w,y.x,y.c,y.la,y.n,none,y.pn,0,y.ps⟩
def GG (p:ByteArray):Fm:=jD (frA p none 0)
def CV:Nat->List UInt8->List ByteArray×List UInt8×Int
 |0,bs=>([],bs,0)
 |k+1,bs=>match uR (iG bs) with
  |some e=>([],bs,e)
  |none=>(iG bs::(CV k (bs.drop (9+sL (iG bs)).toNat)).1,(CV k (bs.drop (9+sL (iG bs)).toNat)).2)
def pF (bs:List UInt8):List ByteArray×List UInt8×Int:=CV (bs.length+1) bs
theorem yD (h:uR (iG bs)=none):(bs.drop (9+sL (iG bs)).toNat).length+9<=bs.length:=by
 obtain⟨h1,h2,h3,h4,h5,h6,h7⟩:=Ea h
 have:=jF bs
 rw[List.length_drop]
 omega
theorem HN:∀(k m:Nat) (bs:List UInt8),bs.length<k->bs.length<m->CV k bs=CV m bs
 |0,_,_,h,_=>by omega
 |_+1,0,_,_,h=>by omega
 |k+1,m+1,bs,h1,h2=>by
  unfold CV
  cases hs:uR (iG bs) with
  |some e=>rfl
  |none=>
   have hd:=yD hs
   rw[HN k m _ (by omega) (by omega)]
theorem uV (h:uR (iG bs)=some e):pF bs=([],bs,e):=by
 unfold pF CV;rw[h]
theorem EO (h:uR (iG bs)=none):pF bs=(iG bs::(pF (bs.drop (9+sL (iG bs)).toNat)).1,(pF (bs.drop (9+sL (iG bs)).toNat)).2):=by
 have hd:=yD h
 have e:pF (bs.drop (9+sL (iG bs)).toNat)=CV bs.length (bs.drop (9+sL (iG bs)).toNat):=HN _ _ _ (by omega) (by omega)
 rw[e]
 unfold pF
 conv=>lhs;unfold CV
 rw[h]
def qE:Tr:=(.br (.st 0 1 (.st 1 1 (.st 2 1 (.st 3 1 (.st 4 1 (.st 5 1 (.st 6 1 (.st 7 1 (.st 8 1 (.st 9 1 (.st 10 1 (.st 11 1 (.st 12 1 (.st 13 1 (.st 14 1 (.st 15 1 (.st 16 2 (.st 17 2 (.st 18 1 .nil))))))))))))))))))) (.st 17 2 (.st 0 1 (.st 1 1 (.st 2 1 (.st 3 1 (.st 4 1 (.st 5 1 (.st 6 1 (.st 7 1 (.st 8 1 (.st 9 1 (.st 10 1 (.st 11 1 (.st 12 1 (.st 13 1 (.st 14 1 (.st 15 1 (.st 16 2 (.st 18 1 .nil))))))))))))))))))))
def rL:List (Nat×Nat):= [(1,0),(2,1),(0,1),(3,0),(4,0),(5,1)]
def pN:List (Nat×Nat):= [(0,0),(1,0),(2,0),(3,0),(4,0),(5,0),(6,0)]
theorem Ahw {r:Nat}:aG (pt r [.slice none 0 0] 189::R) (Kt r []::R):=aG.trans (aG.pick aW.here (aG.nilrow' (aG.allnil (aG.refl _)))) (QU (A:=none) (c:=0) (fs:= []) rfl)
theorem Xo {Q:Exit->Fr->List HP->Prop} {a:Fr} {r7 r2 r6 nx cx c:Nat} {A S:Option Addr} {all:List UInt8} (hc:all.length<=c) (hz:all.length<4000000)
  (ha:dH a [(2,PO r2),(6,PO r6),(7,PO r7),(8,.func (.func 199) #[] #[PO r7,PO r2,PO r6])])
  (hK:∀a A c F cF fs,(pF all).2.1.length<=all.length->fs.map jD=(pF all).1.map GG->fs.length<=all.length->Q (.exit 0) (gJ a [(2,PO r2),(6,PO r6),(7,PO r7)]) (pt r7 [.slice A (pF all).2.1.length c] 187::rF A eG (pF all).2.1::pt x [.slice S nx cx,I6 (pF all).2.2] 277::pt r2 [PO x] 118::pt r6 [.slice F fs.length cF] 189::bT F cF 178 wD fs::mC zE fs::R)):
  fL Tryz.prog (TS Tryz.f115 0) Q a (pt r7 [.slice A all.length c] 187::rF A eG all::pt x [.slice S nx cx,I6 0] 277::pt r2 [PO x] 118::Kt r6 []::R):=by
 refine jA (fun m a C'=>∃(bs:List UInt8) (A:Option Addr) (c:Nat) (srcs:List ByteArray) (fs:List Fm),bs.length=m/\bs.length<=c/\fs.map jD=srcs.map GG/\(pF all).1=srcs++(pF bs).1/\(pF all).2=(pF bs).2/\fs.length+bs.length<=all.length/\C'=pt r7 [.slice A bs.length c] 187::rF A eG bs::pt x [.slice S nx cx,I6 0] 277::pt r2 [PO x] 118::Kt r6 fs::R/\dH a [(2,PO r2),(6,PO r6),(7,PO r7),(8,.func (.func 199) #[] #[PO r7,PO r2,PO r6])]) all.length (cJ all.length ⟨all,A,c,[],[],rfl,hc,rfl,rfl,rfl,by simp,rfl,ha⟩) ?_
 clear ha hc
 rintro n1 a C' ⟨bs,A,c,srcs,fs,hm,hbc,hfs,h1,h2,hfl,rfl,ha⟩
 refine i6 _ ha ?_
 simp only[gJ]
 have hbz:bs.length<1000000000000:=by omega
 have hfz:fs.length<4000000:=by omega
 cases hs:uR (iG bs) with
 |none=>
  have hd:=yD hs
  obtain⟨g1,g2,g3,g4,g5,g6,g7⟩:=Ea hs
  have hp:=EO hs
  repeat' (first|refine w1 ?_|refine w5 ?_ ?_|((refine bh fun h=>?_) <;> try exact w6 h)|(refine aE fun hA=>?_;subst hA)|intro _|(show aA _ 199 _ _ _;refine CA (h:=Acr rfl rfl hbc hbz hfz hs (fun A' c' A2 c2 hc'=>?_))))
  rw[<- List.length_drop] at *
  exact cJ (bs.drop (9+sL (iG bs)).toNat).length ⟨bs.drop (9+sL (iG bs)).toNat,A',c',srcs++ [iG bs],fs++ [frA (iG bs) A2 c2],rfl,hc',by rw[List.map_append,List.map_append,hfs];rfl,by rw[h1,hp];simp,by rw[h2,hp],by rw[List.length_append];simp only[List.length_cons,List.length_nil];omega,rfl,rfl,rfl,rfl,rfl,trivial⟩
 |some e=>
  have hp:=uV hs
  rw[hp,List.append_nil] at h1
  rw[hp] at h2
  refine o7 (C':=Kt r6 fs::pt r7 [.slice A bs.length c] 187::rF A eG bs::pt x [.slice S nx cx,I6 0] 277::pt r2 [PO x] 118::R) (by exact aY) ?_
  refine xL fun F=>xL fun cF=>Y3 (o7 (aG.cons aG.unsep) ?_)
  repeat' (first|refine w1 ?_|refine w5 ?_ ?_|((refine bh fun h=>?_) <;> try exact w6 h)|(refine aE fun hA=>?_;subst hA)|intro _|(show aA _ 199 _ _ _;refine CA (h:=Af1 rfl hbc hbz hs ?_)))
  rw[h2,h1] at hK
  exact WT (p:=fun a=>Q (.exit 0) a _) [(2,PO r2),(6,PO r6),(7,PO r7)] ⟨rfl,rfl,rfl,trivial⟩ (hK _ A c F cF fs (by show bs.length<=_;omega) hfs (by omega))
theorem Am4:aG (pt x [.slice none 0 0,I6 e] 277::R) (spP x [] e::R):=aG.trans (aG.pick aW.here (aG.nilrow' (aG.refl _))) (Mi (A:=none) (c:=0) (bs:= []) rfl)
theorem Aib {ks:List UInt8} {s:ByteArray} (hz:ks.length+s.size<4000000) (hK:∀F c fs,fs.map jD=(pF (ks++s.data.toList)).1.map GG->K (.tuple #[.slice F fs.length c,I6 (pF (ks++s.data.toList)).2.2]) (bT F c 178 wD fs::mC zE fs::spP x (if(pF (ks++s.data.toList)).2.2=0 then(pF (ks++s.data.toList)).2.1 else []) (pF (ks++s.data.toList)).2.2::R)):CT 115 #[PO x,.string s] (spP x ks 0::R) K:=by
 have hsl:s.data.toList.length=s.size:=by simp
 refine Akm fun A c=>?_
 refine i7 (l:=ks) (A:=A) (c:=c) (by((repeat (first|exact aW.here|apply aW.there)) <;> exact aW.here)) fun hkc=>?_
 have e0:List.take (((ks.length:Nat):Int).toNat - (0:Int).toNat) (List.drop (0:Int).toNat ks)=ks:=by simp
 have e1:(List.take (((ks.length:Nat):Int).toNat - (0:Int).toNat) (List.drop (0:Int).toNat ks)).length=((ks.length:Nat):Int).toNat - (0:Int).toNat:=by simp
 refine aH Tryz.func115 ?_
 repeat' (first|refine v92 ?_|refine Sf qE ?_|refine dw rL ?_|refine dw pN ?_|refine w5 ?_ ?_|((refine bh fun h=>?_) <;> try exact w6 h)|(refine aE fun hA=>?_;subst hA)|intro _|(show aA _ 114 _ _ _;refine CA (h:=Ts ?_)))
 all_goals
  rw[e0]
  refine Pp (l:=ks++s.data.toList) (by((repeat (first|exact aW.here|apply aW.there)) <;> exact aW.here)) fun hc=>?_
  have hall:(ks++s.data.toList).length<4000000:=by rw[List.length_append];omega
  refine o7 (Ds (E:=eG) (xs:=ks++s.data.toList) (by((repeat (first|exact aW.here|apply aW.there)) <;> exact aW.here)) (aG.trans (by exact aY) (aG.trans Ahw (by exact aY)))) (Xo (S:=A) (nx:=ks.length) (cx:=c) hc hall ⟨rfl,rfl,rfl,rfl,trivial⟩ (fun a A2 c2 F cF fs hl hfs hfl=>?_))
  have hrz:(pF (ks++s.data.toList)).2.1.length<4000000:=by omega
  generalize pF (ks++s.data.toList)=res at *
  obtain⟨srcs,rest,e⟩:=res
  simp only at hK hl hfs hrz
  by_cases he:e=0
  ·subst he
   rw[if_pos rfl] at hK
   repeat' (first|refine v92 ?_|refine Sf qE ?_|refine dw rL ?_|refine dw pN ?_|refine w5 ?_ ?_|((refine bh fun h=>?_) <;> try exact w6 h)|(refine aE fun hA=>?_;subst hA)|intro _)
   all_goals
    refine aC ?_
    exact aM (aG.trans (by exact aY) (aG.trans (Mi (bs:=rest) rfl) (by exact aY))) (hK F cF fs hfs)
  ·rw[if_neg he] at hK
   repeat' (first|refine v92 ?_|refine Sf qE ?_|refine dw rL ?_|refine dw pN ?_|refine w5 ?_ ?_|((refine bh fun h=>?_) <;> try exact w6 h)|(refine aE fun hA=>?_;subst hA)|intro _)
   all_goals
    refine aC ?_
    exact aM (aG.trans (by exact aY) (aG.trans Am4 (by exact aY))) (hK F cF fs hfs)
end Go.Proofs.YtepnmcipkangkaaGreat
namespace Go.Proofs.YtepnmcipkangkaaGreat
open Go Go.Proofs Go.Sl
attribute [local irreducible] aN fL cL bM aL aR aA dJ dK aU dI pt ro fC star sep bF
attribute [local irreducible] mp DG
variable {R C:List HP} {K:KP} {q:Nat} {out:List Fm} {f:Fm}
def t8 (f:Fm) (xs:List Fm):Nat:=(xs.takeWhile fun x=>!rI f x).length
def zA (f:Fm) (xs:List Fm):Int:=if lZ f=false then 2 else if f.t<2 then 13 else if t8 f xs<xs.length then 0 else if 64<=xs.length then 9 else 0
def wL (f:Fm) (xs:List Fm):List Fm:=if zA f xs≠0 then xs else match xs[t8 f xs]? with
 |some y=>xs.set (t8 f xs) (Zh y f.n)
 |none=>xs++ [jD f]
def Sq (q:Nat) (out:List Fm):HP:=fC fun xs:List Fm=>sep (wO q xs) (bF (xs.map jD=out))
def Qu (out:List Fm):Prop:=out.length<=64/\∀y∈out,0<=y.n
theorem KQ {f:Fm}:∀xs:List Fm,t8 f (xs.map jD)=t8 f xs
 | []=>rfl
 |x::r=>by
  have ih:=KQ (f:=f) r
  unfold t8 at ih ⊢
  rw[List.map_cons,List.takeWhile_cons,List.takeWhile_cons]
  show(if(!rI f x)=true then _ else _:List Fm).length=_
  split
  ·rw[List.length_cons,List.length_cons,ih]
  ·rfl
theorem Oo {f:Fm}:∀ {xs:List Fm},t8 f xs<xs.length->∃y,xs[t8 f xs]?=some y/\rI f y=true
 | [],h=>by cases h
 |x::r,h=>by
  unfold t8 at h ⊢
  rw[List.takeWhile_cons] at h ⊢
  by_cases hx:(!rI f x)=true
  ·rw[if_pos hx] at h ⊢
   obtain⟨y,hy,hl⟩:=Oo (f:=f) (xs:=r) (by simpa[t8] using h)
   exact⟨y,by simpa[t8] using hy,hl⟩
  ·rw[if_neg hx]
   exact⟨x,rfl,by simpa using hx⟩
theorem Iw {f:Fm}:∀ {xs:List Fm} {i:Nat} {z:Fm},i<t8 f xs->xs[i]?=some z->rI f z=false
 | [],_,_,_,h=>by cases h
 |x::r,i,z,h,hz=>by
  unfold t8 at h
  rw[List.takeWhile_cons] at h
  by_cases hx:(!rI f x)=true
  ·rw[if_pos hx] at h
   cases i with
   |zero=>cases hz;simpa using hx
   |succ i=>exact Iw (xs:=r) (i:=i) (by simpa[t8] using h) (by simpa using hz)
  ·rw[if_neg hx] at h;cases h
theorem s6 {xs:List Fm} (h:xs.map jD=out):aG (wO q xs::R) (Sq q out::R):=aG.ex xs (aG.sep (aG.pick aW.here (aG.pure h (aG.refl _))))
theorem EW {f:FuncId} {args:Array Value} (h:∀xs:List Fm,xs.map jD=out->CT f args (wO q xs::R) K):CT f args (Sq q out::R) K:=
 aA.ex fun xs=>aA.ent (aG.trans aG.unsep (fun _ hs=>bZ.swap hs)) (aA.pure fun hI=>h xs hI)
theorem Aet (hK:∀q,K (PO q) (Sq q []::R)):CT 89 #[] R K:=
 aA.entK (Ah6 fun q=>⟨_,s6 (xs:= []) rfl,hK q⟩)
theorem IN (hK:K (I6 (out.length:Nat)) (Sq q out::R)):CT 73 #[PO q] (Sq q out::R) K:=by
 refine EW fun xs h=>?_
 have hl:out.length=xs.length:=by rw[<- h,List.length_map]
 rw[hl] at hK
 exact aA.entK (Ahs ⟨_,s6 h,hK⟩)
theorem xY (ho:Qu out) (hK:K (I6 (64 - (out.length:Nat))) (Sq q out::R)):CT 138 #[PO q] (Sq q out::R) K:=by
 refine EW fun xs h=>?_
 have hl:out.length=xs.length:=by rw[<- h,List.length_map]
 have h1:=ho.1
 rw[hl] at hK
 exact aA.entK (Abs (by omega) ⟨_,s6 h,hK⟩)
theorem UN (hK:∀v,K v (Sq q []::R)):CT 311 #[PO q] (Sq q out::R) K:=by
 refine EW fun xs h=>?_
 exact aA.entK (YS ⟨_,s6 (xs:= []) rfl,hK _⟩)
theorem Xd {r:List Fm} (ho:Qu (f::r)) (hK:∀y:Fm,jD y=f->K (.tuple #[.agg #[I6 y.t,I6 y.st,.bool y.e,.string y.d,I6 y.k,I6 y.on,I6 y.w,.bool y.x,I6 y.c,I6 y.la,I6 y.n,.slice y.pa y.pn y.pc],.bool true]) (Sq q r::zE y::R)):CT 108 #[PO q] (Sq q (f::r)::R) K:=by
 refine EW fun xs h=>?_
 cases xs with
 |nil=>cases h
 |cons y xs=>
  have h1:jD y=f:=(List.cons.inj h).1
  have h2:xs.map jD=r:=(List.cons.inj h).2
  have hl:xs.length≤1000:=by have:=ho.1;have e:r.length=xs.length:=by rw[← h2,List.length_map]
                             rw[List.length_cons] at this;omega
  exact aA.entK (XG hl ⟨_,s6 h2,hK y h1⟩)
theorem k9 (ho:Qu out) (hv:dW R f.pa tX f.ps) (hvn:f.ps.length=f.pn) (hn2:f.pn<1000000000000000) (hK:K (I6 (zA f out)) (Sq q (wL f out)::R)):CT 100 #[PO q,.agg #[I6 f.t,I6 f.st,.bool f.e,.string f.d,I6 f.k,I6 f.on,I6 f.w,.bool f.x,I6 f.c,I6 f.la,I6 f.n,.slice f.pa f.pn f.pc]] (Sq q out::R) K:=by
 refine EW fun xs h=>?_
 have hl:out.length=xs.length:=by rw[<- h,List.length_map]
 have hix:t8 f out=t8 f xs:=by rw[<- h,KQ]
 obtain⟨h64,hnn⟩:=ho
 refine aA.entK ?_
 cases hc:lZ f
 ·have e:zA f out=2:=by unfold zA;rw[if_pos hc]
  have e2:wL f out=out:=by unfold wL;rw[if_pos (by rw[e];decide)]
  rw[e,e2] at hK
  exact YH (by simp) hc ⟨bN hv,hvn⟩ hn2 ⟨_,s6 h,hK⟩
 ·have ht0:0<=f.t:=((iX f).1 hc).1.1
  by_cases ht:f.t<2
  ·have e:zA f out=13:=by unfold zA;rw[if_neg (by rw[hc];decide),if_pos ht]
   have e2:wL f out=out:=by unfold wL;rw[if_pos (by rw[e];decide)]
   rw[e,e2] at hK
   exact Zv (by simp) hc (by omega) ⟨bN hv,hvn⟩ hn2 ⟨_,s6 h,hK⟩
  ·by_cases hlt:t8 f xs<xs.length
   ·have e:zA f out=0:=by unfold zA;rw[if_neg (by rw[hc];decide),if_neg ht,if_pos (by omega)]
    obtain⟨y,hy,hly⟩:=Oo hlt
    have hoy:out[t8 f xs]?=some (jD y):=by rw[<- h,List.getElem?_map,hy];rfl
    have e2:wL f out=out.set (t8 f xs) (Zh (jD y) f.n):=by
     unfold wL
     rw[if_neg (by rw[e];decide),hix,hoy]
    rw[e,e2] at hK
    have hyn:0<=y.n:=hnn (jD y) (List.mem_of_getElem? hoy)
    exact Y9 hc (by omega) hy hly (fun i z hi hz=>Iw hi hz) hyn (by omega) hv hvn hn2 ⟨_,s6 (xs:=xs.set (t8 f xs) (Zh y f.n)) (by rw[List.map_set,h];rfl),hK⟩
   ·have hb:∀z∈xs,rI f z=false:=fun z hz=>by
     obtain⟨i,hi⟩:=List.getElem?_of_mem hz
     exact Iw (xs:=xs) (i:=i) (by have:=(List.getElem?_eq_some_iff.1 hi).1;omega) hi
    by_cases hf:64<=xs.length
    ·have e:zA f out=9:=by unfold zA;rw[if_neg (by rw[hc];decide),if_neg ht,if_neg (by omega),if_pos (by omega)]
     have e2:wL f out=out:=by unfold wL;rw[if_pos (by rw[e];decide)]
     rw[e,e2] at hK
     exact YJ hc (by omega) hb (by omega) hf hv hvn hn2 ⟨_,s6 h,hK⟩
    ·have e:zA f out=0:=by unfold zA;rw[if_neg (by rw[hc];decide),if_neg ht,if_neg (by omega),if_neg (by omega)]
     have e2:wL f out=out++ [jD f]:=by
      unfold wL
      rw[if_neg (by rw[e];decide),List.getElem?_eq_none (by omega)]
     rw[e,e2] at hK
     exact Zs hc (by omega) hb (by omega) hv hvn fun A' c'=>⟨_,s6 (by rw[List.map_append,h];simp[jD,hvn]),hK⟩
end Go.Proofs.YtepnmcipkangkaaGreat
namespace Go.Proofs.YtepnmcipkangkaaGreat
open Go Go.Proofs Go.Sl
attribute [local irreducible] aN fL cL bM aL aR aA dJ dK aU dI pt ro fC star sep bF
variable {id j on w low xw all:Int} {s:eX} {x:Bool} {r:Int->Nat}
theorem Ahf (h:NJ s):NJ (lO id on w x s):=by
 unfold lO
 split
 ·exact h
 ·rename_i he
  have he:rC id on w s=0:=Classical.byContradiction he
  unfold rC at he
  split at he
  ·cases he
  ·rename_i h1
   split at he
   ·cases he
   ·rename_i h2
    split at he
    ·cases he
    ·rename_i h3
     have hh:fE s id:=by cases hq:d6 id s.1 <;> first|exact absurd hq h1|exact hq
     have hmay:Aj on w=true:=by cases hq:Aj on w <;> first|exact absurd hq h2|rfl
     unfold Aj at hmay
     simp only[Bool.and_eq_true,decide_eq_true_eq] at hmay
     have hid:=h.ky id hh
     obtain⟨r,hr⟩:=h.rk
     have n0:¬fE s 0:=fun e=>by have:=(h.ky 0 e).1;omega
     have hn0:¬Sk (fE s) (rT s) id 0:=fun e=>n0 (zR e)
     have hab0:tN id s (s.1.length+1) 0=false:=by
      cases hq:tN id s (s.1.length+1) 0
      ·rfl
      ·exact absurd (U2 hq) hn0
     split
     ·rw[hab0,if_neg Bool.false_ne_true]
      exact Ck h hid (.inl rfl) (by omega) hn0 ⟨hmay.1.2,hmay.2⟩ (.inl hh)
     ·rename_i h5
      have hon:on=0\/fE s on:=by
       unfold Bf at h5
       by_cases h0:on=0
       ·exact .inl h0
       ·right
        cases hq:d6 on s.1
        ·exact absurd (by rw[hq];simp[h0]) h5
        ·exact hq
      cases hq:tN id s (s.1.length+1) on
      ·rw[if_neg Bool.false_ne_true]
       exact Ck h hid hon h3 (Apd hr hq) ⟨hmay.1.2,hmay.2⟩ (.inl hh)
      ·rw[if_pos rfl]
       have hu:=U2 hq
       have ho:=zR hu
       have hlt:=Oy hr hh hu
       have hko:=h.ky on ho
       have g:NJ (jJ on (rT s id) s):=by
        refine Ck (x:=false) h hko (h.cl id hh) (fun e=>?_) (fun e=>?_) (h.w on ho) (.inl ho)
        ·have:=hr id hh (by show fE s (rT s id);rw[e];exact ho)
         have e':(dG id s).on=on:=e
         rw[e'] at this
         omega
        ·have h6:=Oy hr ho e
         have h7:=hr id hh (zR e)
         have e':rT s id=(dG id s).on:=rfl
         rw[e'] at h6
         omega
       have hid':rT (jJ on (rT s id) s) id=rT s id:=by
        unfold jJ
        rw[vW,if_neg (fun e=>h3 e.symm)]
       have hon':rT (jJ on (rT s id) s) on=rT s id:=by
        unfold jJ
        rw[vW,if_pos rfl]
       have hh':fE (jJ on (rT s id) s) id:=dX.2 (.inr hh)
       refine Ck g hid (.inr (dX.2 (.inl rfl))) h3 (fun e=>?_) ⟨hmay.1.2,hmay.2⟩ (.inl hh')
       obtain⟨r',hr'⟩:=g.rk
       cases e with
       |base d1 d2=>
        rw[hon'] at d2
        have:=hr id hh (by show fE s (rT s id);rw[d2];exact hh)
        have e':(dG id s).on=id:=d2
        rw[e'] at this
        omega
       |step d1 d2=>
        rw[hon'] at d2
        have h6:=Oy hr' hh' d2
        have h7:r' (rT (jJ on (rT s id) s) id)<r' id:=hr' id hh' (by show fE _ (rT _ id);rw[hid'];exact zR d2)
        rw[hid'] at h7
        omega
theorem Aox (hw:1<=w/\w<=all) (hx:1<=xw/\xw<=256):1<=D9 w xw all/\D9 w xw all<=256:=by
 have h:w * xw / all<=xw:=Int.ediv_le_of_le_mul (by omega) (by rw[Int.mul_comm w xw];exact Int.mul_le_mul_of_nonneg_left hw.2 (by omega))
 unfold D9
 omega
theorem OD (h:TrW s):∀ {ks:List Int},(∀k∈ks,fE s k)->∀k∈ks,(dG k s).w<=rK s ks
 | [],_,k,hk=>by cases hk
 |z::ks,hh,k,hk=>by
  have h1:=hh z (List.mem_cons_self ..)
  have h2:=Ip h (l:=ks) fun y hy=>hh y (List.mem_cons_of_mem _ hy)
  unfold rK
  rcases List.mem_cons.1 hk with rfl|hk
  ·omega
  ·have h3:=OD h (fun y hy=>hh y (List.mem_cons_of_mem _ hy)) k hk
   have h4:=h z h1
   omega
theorem T3 (hx:1<=xw/\xw<=256):∀ {ks:List Int} {s:eX},(∀k∈ks,fE s k)->ks.Nodup->(∀k∈ks,1<=(dG k s).w/\(dG k s).w<=all)->Si s.1 s.2->OL s->TrW s->(∀j,fE (qX on xw all ks s) j↔fE s j)/\(∀j,rT (qX on xw all ks s) j=if j∈ks then on else rT s j)/\TrW (qX on xw all ks s)/\Si (qX on xw all ks s).1 (qX on xw all ks s).2/\OL (qX on xw all ks s)/\(qX on xw all ks s).1.length=s.1.length
 | [],s,_,_,_,h1,h2,h3=>⟨fun j=>Iff.rfl,fun j=>by rw[if_neg (by simp)];rfl,h3,h1,h2,rfl⟩
 |k::ks,s,hk,hn,hw,h1,h2,h3=>by
  unfold qX
  have hkk:=hk k (List.mem_cons_self ..)
  obtain⟨n1,n2⟩:=List.nodup_cons.1 hn
  have hsh:=Aox (hw k (List.mem_cons_self ..)) hx
  have hne:∀z∈ks,z≠k:=fun z hz e=>n1 (by rw[<- e];exact hz)
  obtain⟨a1,a2,a3,a4,a5,a6⟩:=T3 hx (ks:=ks) (s:=fR k ⟨on,D9 (dG k s).w xw all⟩ s) (fun z hz=>dX.2 (.inr (hk z (List.mem_cons_of_mem _ hz)))) n2 (fun z hz=>by rw[QV,if_neg (hne z hz)];exact hw z (List.mem_cons_of_mem _ hz)) (Eg h1) (Jz h2) (fun j hj=>by
   rw[QV]
   split
   ·exact hsh
   ·rename_i hjk;exact h3 j ((dX.1 hj).resolve_left hjk))
  refine⟨fun j=>(a1 j).trans (dX.trans ⟨fun h=>h.elim (fun e=>by rw[e];exact hkk) (fun h=>h),.inr⟩),fun j=>?_,a3,a4,a5,a6.trans (MK hkk)⟩
  rw[a2 j,vW]
  by_cases hj:j∈ks
  ·rw[if_pos hj,if_pos (List.mem_cons_of_mem _ hj)]
  ·rw[if_neg hj]
   by_cases hjk:j=k
   ·rw[if_pos hjk,if_pos (by rw[hjk];exact List.mem_cons_self ..)]
   ·rw[if_neg hjk,if_neg (fun h=>(List.mem_cons.1 h).elim hjk hj)]
theorem Aho (h:NJ s):NJ (Ar id s):=by
 unfold Ar
 split
 ·rename_i hh
  obtain⟨r,hr⟩:=h.rk
  have hks:∀k∈cD id s.1,fE s k:=fun k hk=>((y7 h.nd).1 hk).1
  obtain⟨a1,a2,a3,a4,a5,a6⟩:=T3 (on:=(dG id s).on) (all:=rK s (cD id s.1)) (h.w id hh) hks (Cd h.nd) (fun k hk=>⟨(h.w k (hks k hk)).1,OD h.w hks k hk⟩) h.kok h.nd h.w
  generalize qX (dG id s).on (dG id s).w (rK s (cD id s.1)) (cD id s.1) s=t at a1 a2 a3 a4 a5 a6 ⊢
  have b1:∀j,fE (nX id t.1,t.2) j↔j≠id/\fE s j:=fun j=>by
   rw[<- a1 j]
   unfold fE d6
   show(iF j (nX id t.1)).isSome=true↔_
   rw[EV a5]
   by_cases hj:j=id
   ·rw[if_pos hj];simp[hj]
   ·rw[if_neg hj];simp[hj]
  have b2:∀j,j≠id->dG j (nX id t.1,t.2)=dG j t:=fun j hj=>by
   unfold dG
   show(iF j (nX id t.1)).getD _=_
   rw[EV a5,if_neg hj]
  have b3:∀j,fE (nX id t.1,t.2) j->rT (nX id t.1,t.2) j=if rT s j=id then rT s id else rT s j:=fun j hj=>by
   have hj':=(b1 j).1 hj
   unfold rT
   rw[b2 j hj'.1]
   have:=a2 j
   unfold rT at this
   rw[this]
   by_cases hk:(dG j s).on=id
   ·rw[if_pos hk,if_pos ((y7 h.nd).2 ⟨hj'.2,hk⟩)]
   ·rw[if_neg hk,if_neg (fun e=>hk ((y7 h.nd).1 e).2)]
  have hne:rT s id≠id:=fun e=>by
   have e':(dG id s).on=id:=e
   have:=hr id hh (by rw[e'];exact hh)
   rw[e'] at this
   omega
  refine⟨⟨List.Nodup.sublist Af9 a4.1,fun e he=>a4.2 e (LD he)⟩,List.Nodup.sublist F5 a5,?_,fun j hj=>?_,fun j hj=>h.ky j ((b1 j).1 hj).2,fun j hj=>?_,r,fun j hj hp=>?_⟩
  ·have:=Ade (id:=id) (l:=t.1)
   have:=h.len
   show(nX id t.1).length<=64
   omega
  ·have hj':=(b1 j).1 hj
   rw[b2 j hj'.1]
   exact a3 j ((a1 j).2 hj'.2)
  ·have hj':=(b1 j).1 hj
   show rT _ j=0\/fE _ (rT _ j)
   rw[b3 j hj]
   by_cases hk:rT s j=id
   ·rw[if_pos hk]
    exact(h.cl id hh).imp (fun e=>e) fun e=>(b1 _).2 ⟨hne,e⟩
   ·rw[if_neg hk]
    exact(h.cl j hj'.2).imp (fun e=>e) fun e=>(b1 _).2 ⟨hk,e⟩
  ·have hj':=(b1 j).1 hj
   change r (rT (nX id t.1,t.2) j)<r j
   have hp:fE (nX id t.1,t.2) (rT (nX id t.1,t.2) j):=hp
   rw[b3 j hj] at hp ⊢
   by_cases hk:rT s j=id
   ·rw[if_pos hk] at hp ⊢
    have h1:=hr j hj'.2 (by show fE s (rT s j);rw[hk];exact hh)
    have h2:=hr id hh ((b1 _).1 hp).2
    have e':(dG j s).on=id:=hk
    rw[e'] at h1
    exact Nat.lt_trans h2 h1
   ·rw[if_neg hk] at hp ⊢
    exact hr j hj'.2 ((b1 _).1 hp).2
 ·exact h
end Go.Proofs.YtepnmcipkangkaaGreat
namespace Go.Proofs.YtepnmcipkangkaaGreat
open Go Go.Proofs Go.Sl
attribute [local irreducible] aN fL cL bM aL aR aA dJ dK aU dI pt ro fC star sep bF
attribute [local irreducible] ByteArray.extract rP eV
variable {R C:List HP} {K:KP}
theorem Ahk {p:ByteArray} {e:Int} (h:uR p=some e):(p.size<9/\e=0)\/(9<=p.size/\J9 (p.extract 0 9)≠0/\e=1)\/(9<=p.size/\J9 (p.extract 0 9)=0/\nA (sL p) (sT p) (sF p) (sS p)≠0/\e=nA (sL p) (sT p) (sF p) (sS p))\/(9<=p.size/\J9 (p.extract 0 9)=0/\nA (sL p) (sT p) (sF p) (sS p)=0/\(p.size:Int)<9+sL p/\e=0)\/(9<=p.size/\J9 (p.extract 0 9)=0/\nA (sL p) (sT p) (sF p) (sS p)=0/\9+sL p<=p.size/\gE (sL p) (sT p) (sF p) (sS p) (sQ p)≠0/\e=gE (sL p) (sT p) (sF p) (sS p) (sQ p)):=by
 unfold uR at h
 split at h
 ·cases h;exact .inl ⟨by assumption,rfl⟩
 ·split at h
  ·split at h
   ·split at h
    ·cases h;exact .inr (.inr (.inr (.inl ⟨by omega,by assumption,by assumption,by assumption,rfl⟩)))
    ·split at h
     ·cases h
     ·cases h;exact .inr (.inr (.inr (.inr ⟨by omega,by assumption,by assumption,by omega,by assumption,rfl⟩)))
   ·cases h;exact .inr (.inr (.inl ⟨by omega,by assumption,by assumption,rfl⟩))
  ·cases h;exact .inr (.inl ⟨by omega,by assumption,rfl⟩)
end Go.Proofs.YtepnmcipkangkaaGreat
namespace Go.Proofs.YtepnmcipkangkaaGreat
open Go Go.Proofs Go.Sl
attribute [local irreducible] pF CV
variable {a b:List UInt8} {p:ByteArray}
theorem Wn (a b:List UInt8) (i j:Nat) (h:j<=a.length):(iG (a++b)).extract i j=(iG a).extract i j:=by
 rw[<- BQ,<- BQ]
 congr 1
 by_cases hi:i<=a.length
 ·rw[List.drop_append_of_le_length hi,List.take_append_of_le_length (by rw[List.length_drop];omega)]
 ·rw[show j - i=0 by omega];simp
theorem BG (h:9<=a.length):sL (iG (a++b))=sL (iG a)/\sT (iG (a++b))=sT (iG a)/\sF (iG (a++b))=sF (iG a)/\sS (iG (a++b))=sS (iG a)/\J9 ((iG (a++b)).extract 0 9)=J9 ((iG a).extract 0 9):=by
 have e:=Wn a b 0 9 h
 unfold sL sT sF sS
 rw[e]
 exact⟨rfl,rfl,rfl,rfl,rfl⟩
theorem PG (h:9<=a.length) (h2:9+(sL (iG a)).toNat<=a.length):sQ (iG (a++b))=sQ (iG a):=by
 unfold sQ
 rw[(BG h).1]
 exact Wn a b _ _ h2
theorem Ab2 (h1:9<=p.size) (h2:J9 (p.extract 0 9)≠0):uR p=some 1:=by
 unfold uR;rw[if_neg (by omega),if_neg h2]
theorem Aax (h1:9<=p.size) (h2:J9 (p.extract 0 9)=0) (h3:nA (sL p) (sT p) (sF p) (sS p)≠0):uR p=some (nA (sL p) (sT p) (sF p) (sS p)):=by
 unfold uR;rw[if_neg (by omega),if_pos h2,if_neg h3]
theorem Aat (h1:9<=p.size) (h2:J9 (p.extract 0 9)=0) (h3:nA (sL p) (sT p) (sF p) (sS p)=0) (h4:9+sL p<=p.size) (h5:gE (sL p) (sT p) (sF p) (sS p) (sQ p)≠0):uR p=some (gE (sL p) (sT p) (sF p) (sS p) (sQ p)):=by
 unfold uR;rw[if_neg (by omega),if_pos h2,if_pos h3,if_neg (by omega),if_neg h5]
theorem Alo (h1:9<=p.size) (h2:J9 (p.extract 0 9)=0) (h3:nA (sL p) (sT p) (sF p) (sS p)=0) (h4:9+sL p<=p.size) (h5:gE (sL p) (sT p) (sF p) (sS p) (sQ p)=0):uR p=none:=by
 unfold uR;rw[if_neg (by omega),if_pos h2,if_pos h3,if_neg (by omega),if_pos h5]
theorem Aiy {e:Int} (h:uR (iG a)=some e) (he:e≠0):uR (iG (a++b))=some e:=by
 have hs:=jF a
 have hs2:(iG (a++b)).size=a.length+b.length:=by rw[jF,List.length_append]
 rcases Ahk h with⟨q1,rfl⟩|⟨q1,q2,rfl⟩|⟨q1,q2,q3,rfl⟩|⟨q1,q2,q3,q4,rfl⟩|⟨q1,q2,q3,q4,q5,rfl⟩
 ·exact absurd rfl he
 ·obtain⟨e1,e2,e3,e4,e5⟩:=BG (b:=b) (by omega:9<=a.length)
  exact Ab2 (by omega) (by rw[e5];exact q2)
 ·obtain⟨e1,e2,e3,e4,e5⟩:=BG (b:=b) (by omega:9<=a.length)
  rw[<- e1,<- e2,<- e3,<- e4] at q3 ⊢
  exact Aax (by omega) (by rw[e5];exact q2) q3
 ·exact absurd rfl he
 ·obtain⟨e1,e2,e3,e4,e5⟩:=BG (b:=b) (by omega:9<=a.length)
  have hl:=IF q3
  have e6:=PG (b:=b) (by omega:9<=a.length) (by omega)
  rw[<- e1,<- e2,<- e3,<- e4,<- e6] at q5 ⊢
  rw[<- e1,<- e2,<- e3,<- e4] at q3
  rw[<- e1] at q4
  exact Aat (by omega) (by rw[e5];exact q2) q3 (by omega) q5
theorem WH (h:uR (iG a)=none):uR (iG (a++b))=none/\sL (iG (a++b))=sL (iG a)/\GG (iG (a++b))=GG (iG a):=by
 have hs:=jF a
 have hs2:(iG (a++b)).size=a.length+b.length:=by rw[jF,List.length_append]
 obtain⟨g1,g2,g3,g4,g5,g6,g7⟩:=Ea h
 obtain⟨e1,e2,e3,e4,e5⟩:=BG (b:=b) (by omega:9<=a.length)
 have e6:=PG (b:=b) (by omega:9<=a.length) (by omega)
 refine⟨Alo (by omega) (by rw[e5];exact g2) (by rw[e1,e2,e3,e4];exact g3) (by rw[e1];omega) (by rw[e1,e2,e3,e4,e6];exact g5),e1,?_⟩
 unfold GG frA
 rw[e2,e3,e4,e6]
theorem VV:∀(k:Nat) (a:List UInt8),a.length<=k->uR (iG (pF a).2.1)=some (pF a).2.2/\(pF a).2.1.length<=a.length:=fun k=>by
 induction k with
 |zero=>
  intro a h
  obtain rfl:a= []:=List.length_eq_zero_iff.1 (by omega)
  have hs:uR (iG [])=some 0:=by unfold uR;rw[if_pos (by rw[jF];decide)]
  rw[uV hs]
  exact⟨hs,Nat.le_refl _⟩
 |succ k ih=>
  intro a h
  cases hs:uR (iG a) with
  |some e=>rw[uV hs];exact⟨hs,Nat.le_refl _⟩
  |none=>
   have hd:=yD hs
   obtain⟨i1,i2⟩:=ih (a.drop (9+sL (iG a)).toNat) (by omega)
   rw[EO hs]
   exact⟨i1,by show(pF (a.drop (9+sL (iG a)).toNat)).2.1.length<=a.length;omega⟩
end Go.Proofs.YtepnmcipkangkaaGreat
