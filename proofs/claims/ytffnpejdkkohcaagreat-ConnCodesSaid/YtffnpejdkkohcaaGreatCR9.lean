/- Layer 26: whatever frames come, they are answered as the document says: lemmas; each with the conditions that it states. -/
import Derived.Test.YtffnpejdkkohcaaGreatBag
import Derived.Test.YtffnpejdkkohcaaGreatCR8
import Derived.Test.YtffnpejdkkohcaaGreatBbm
import Derived.Test.YtffnpejdkkohcaaGreatBar
import Derived.Test.YtffnpejdkkohcaaGreatBas
import Derived.Test.YtffnpejdkkohcaaGreatQx
namespace Go.Proofs.YtffnpejdkkohcaaGreat
open Go Go.Proofs Go.Sl
set_option maxRecDepth 100000
set_option maxHeartbeats 40000000
set_option linter.unusedSimpArgs false
set_option linter.unusedVariables false
attribute [local irreducible] aM eY cU bQ aL aW aA dS dT aZ dR pt ro fN star sep bH
attribute [local irreducible] mp FV
variable {R C:List HP} {K:Value→List HP→Prop} {x:Nat} {ad:Ca} {c:Cn} {cf:Cf} {P k k':Int} {A1:Option Addr} {c1:Nat} {ls:List Fm} {w0 st0 it0:Int} {xr:Rc} {l:List Int}
theorem SV.mono (h:SV cf k c xr) (hk:k≤k'):SV cf k' c xr:=⟨h.p.mono (by omega),h.inb,h.s⟩
theorem cnS_sats {H:Hp} (hs:bZ (I4 x ad c::R) H):∀m∈c.l,smF m:=by
 obtain⟨M,hs⟩:=hs.ex
 obtain⟨mc,hs⟩:=hs.ex
 have hs:bZ (cY x ad c M mc R) H:=hs.star
 exact YU hs.tail.tail
theorem light26_ok {t st:Int} {e:Bool} {d:ByteArray} {k on w:Int} {x:Bool} {c la n:Int} {pa:Option Addr} {pn pc:Nat} (hK:K (.bool (decide (d.size<600) && decide (pn<20))) R):aA Tryz.prog 8 #[.agg #[.int .i64 t,.int .i64 st,.bool e,.string d,.int .i64 k,.int .i64 on,.int .i64 w,.bool x,.int .i64 c,.int .i64 la,.int .i64 n,.slice pa pn pc]] R K:=by
 refine aJ Tryz.func8 ?_
 repeat' (first|refine v19 ?_|refine w5 ?_ ?_|((refine bh fun h=>?_) <;> try exact w6 h)|(refine aF fun hA=>?_;subst hA)|intro _)
 all_goals(refine aC ?_;exact aB (Go.Sl.kb hK (by simp <;> omega)))
def d14_6_0_ints26_ok:List (Nat×Nat):= [(0,0),(1,0),(2,0),(3,0),(4,0),(5,0),(6,0),(7,0),(8,0)]
theorem ints26_ok {A B:Option Addr} {n1 n2 c1 c2:Nat} (hv:dE C A mI l) (hw:dE C B mI l) (h1:l.length=n1) (h2:l.length=n2) (hl:l.length≤1000) (hK:K (.bool true) C):aA Tryz.prog 14 #[.slice A n1 c1,.slice B n2 c2] C K:=by
 subst h1
 subst h2
 refine aJ Tryz.func14 ?_
 repeat' (first|refine v29 ?_|refine dw d14_6_0_ints26_ok ?_|refine w5 ?_ ?_|((refine bh fun h=>?_) <;> try exact w6 h)|(refine aF fun hA=>?_;subst hA)|intro _)
 refine iH (fun k a C'=>∃j:Nat,j+k=l.length∧C'=C∧cW a [(0,.slice A l.length c1),(1,.slice B l.length c2),(4,.bool false),(5,.int .i64 j)]) l.length (cG l.length ⟨0,by omega,rfl,rfl,rfl,rfl,rfl,trivial⟩ (by omega)) ?_
 rintro k a C' ⟨j,hj,rfl,ha⟩
 refine gJ _ ha ?_
 simp only[fF]
 by_cases hlt:j<l.length
 ·obtain⟨y,hy⟩:∃y,l[j]?=some y:=⟨_,List.getElem?_eq_getElem hlt⟩
  repeat' (first|refine v29 ?_|refine dw d14_6_0_ints26_ok ?_|refine w5 ?_ ?_|((refine bh fun h=>?_) <;> try exact w6 h)|(refine aF fun hA=>?_;subst hA)|intro _)
  all_goals(show aZ _ _ _ _;exact cG (k - 1) ⟨j+1,by omega,rfl,rfl,rfl,rfl,rfl,trivial⟩)
 ·repeat' (first|refine v29 ?_|refine dw d14_6_0_ints26_ok ?_|refine w5 ?_ ?_|((refine bh fun h=>?_) <;> try exact w6 h)|(refine aF fun hA=>?_;subst hA)|intro _)
  all_goals(refine aC ?_;exact aB (hK))
theorem view_in {A:Option Addr} (h:dE C A inC l):dE C A mI l:=h
theorem qu26_ok (hK:K (.pointer (some ⟨ad.ou,0,none⟩)) (I4 x ad c::R)):aA Tryz.prog 16 #[.pointer (some ⟨x,0,none⟩)] (I4 x ad c::R) K:=uL fun M mc=>aA.entK (Ait ⟨_,o6,hK⟩)
theorem ty26_ok (hP:Gv cf P c) (hK:∀A d,K (.slice A c.out.length d) (bU A d 3 inC (c.out.map Fm.t)::I4 x ad c::R)):aA Tryz.prog 17 #[.pointer (some ⟨ad.ou,0,none⟩)] (I4 x ad c::R) K:=by
 obtain⟨B,hG,_⟩:=hP
 refine uL fun M mc=>aA.entK ?_
 dsimp only[cY,p8]
 exact CA (h:=Aip hG.I.ou (fun A d=>⟨_,aG.trans (by exact bE) (aG.cons (o6 (M:=M) (mc:=mc))),hK A d⟩))
def d3_21_0_connCodes_ok:List Nat:= [0,1,0,4,12,28,63,127,255,511,255,1279,3327,7423,16383,32767,65535,131071,262143,131071,1048575,2097151,4194303,8388607,16777215,33554431,67108863,16777215,150994943,419430399,956301311,2147483647,4294967295,8589934591]
def d3_21_1_connCodes_ok:List Nat:= [8589934591,4294967295,2147483647,956301311,419430399,150994943,16777215,67108863,33554431,16777215,8388607,4194303,2097151,1048575,131071,262143,131071,65535,32767,16383,7423,3327,1279,255,511,255,127,63,28,12,4,0,1,0]
def d3_21_2_connCodes_ok:List (Nat×Nat):= [(0,0),(1,0),(2,0),(3,0),(4,0),(5,0),(6,0),(7,0),(8,0),(9,0),(10,0),(11,0),(12,0),(13,0),(14,0),(15,0),(16,0),(17,0),(18,1),(19,1),(20,1),(21,0),(22,0),(23,0),(24,0),(25,1),(26,1),(27,2),(28,2),(29,2),(30,2),(31,1),(32,0),(33,0)]
def d3_28_0_connCodes_ok:List (Nat×Nat):= [(1,0),(2,0),(3,0),(4,0),(5,0),(6,0),(7,0),(8,0),(9,0),(10,1),(0,1),(11,0),(12,0)]
theorem connCodes_ok (hv:dE R A1 tC ls) (hvp:∀y∈ls,dE R y.pa oG y.ps) (hz1:ls.length<1000000000000000) (hpn:∀y∈ls,y.ps.length=y.pn∧y.pn<1000000000000000) (hK:K (.bool true) R):aA Tryz.prog 3 #[.agg #[.int .i64 w0,.int .i64 st0,.int .i64 it0],.slice A1 ls.length c1] R K:=by
 have k1:∀v:Bool,v=true→K (.bool v) R:=fun v hv=>hv▸hK
 cases hs:pP w0 st0 it0
 ·refine aJ Tryz.func3 ?_
  repeat' (first|refine Uk ?_|refine ON d3_21_0_connCodes_ok d3_21_1_connCodes_ok d3_21_2_connCodes_ok ?_|refine dw d3_28_0_connCodes_ok ?_|refine w5 ?_ ?_|((refine bh fun h=>?_) <;> try exact w6 h)|(refine aF fun hA=>?_;subst hA)|intro _|(show aA _ 4 _ _ _;refine CA (h:=Ahn hs ?_))|(show aA _ 5 _ _ _;refine CA (h:=Ahl ?_)))
  all_goals(refine aC ?_;exact aB (k1 _ rfl))
 ·have hf0:Nu ⟨w0,st0,it0,0,0,0,0,0,0⟩:=⟨hs,(by decide:(0:Int)≤0∧(0:Int)≤4096),(by decide:(0:Int)≤0∧(0:Int)≤64),(by decide:(0:Int)≤0∧(0:Int)≤2),(by decide:(0:Int)≤0∧(0:Int)≤1048576),(by decide:(0:Int)≤0∧(0:Int)≤1048576),(by decide:(0:Int)≤0∧(0:Int)≤1048576)⟩
  refine aJ Tryz.func3 ?_
  repeat' (first|refine Uk ?_|refine ON d3_21_0_connCodes_ok d3_21_1_connCodes_ok d3_21_2_connCodes_ok ?_|refine dw d3_28_0_connCodes_ok ?_|refine w5 ?_ ?_|((refine bh fun h=>?_) <;> try exact w6 h)|(refine aF fun hA=>?_;subst hA)|intro _|(show aA _ 4 _ _ _;refine CA (h:=Ahn hs ?_))|(show aA _ 6 _ _ _;refine CA (h:=JP (cf:=⟨w0,st0,it0,0,0,0,0,0,0⟩) (.inr rfl) hf0 (fun x ad=>?_)))|(show aA _ 7 _ _ _;refine CA (h:=rcnew_ok (s:=⟨w0,st0,it0⟩) (fun p rv W wc O oc=>?_)))|(show aA _ 5 _ _ _;refine CA (h:=Ahl ?_)))
  refine iH (fun m a C'=>∃(j:Nat) (A:Option Addr) (c:Nat) (W:Option Addr) (wc:Nat) (O:Option Addr) (oc:Nat) (cn:Cn) (xr:Rc),j+m=ls.length∧j≤120∧SV ⟨w0,st0,it0,0,0,0,0,0,0⟩ j cn xr∧LCq0 xr∧cW a [(1,.slice A1 ls.length c1),(4,.bool false),(5,.pointer (some ⟨x,0,none⟩)),(7,.pointer (some ⟨p,0,none⟩)),(8,.int .i64 j)]∧C'=rcL p A c rv W wc O oc xr (I4 x ad cn::R)) ls.length (cG ls.length ⟨0,_,_,_,_,_,_,_,_,by omega,by omega,SV.start hf0,lc_new,⟨rfl,rfl,rfl,rfl,rfl,trivial⟩,rfl⟩ (by omega)) ?_
  rintro m a C' ⟨j,A,c,W,wc,O,oc,cn,xr,hj,hj120,hSV,hLC,ha,rfl⟩
  refine gJ _ ha ?_
  simp only[fF]
  cases hcl:xr.cl with
  |true=>
   have hst:=hSV.last hcl
   have hrt:=Abi (la:=xr.la) (c:=xr.co) hLC.1 hLC.2
   dsimp only[rcL,rcX]
   rw[hcl]
   rcases hst with hst|hst
   ·repeat' (first|(show aA _ 18 _ _ _;refine CA (h:=Ajg hSV.p (by omega) (fun _=>?_));rw[hst])|refine Uk ?_|refine ON d3_21_0_connCodes_ok d3_21_1_connCodes_ok d3_21_2_connCodes_ok ?_|refine dw d3_28_0_connCodes_ok ?_|refine w5 ?_ ?_|((refine bh fun h=>?_) <;> try exact w6 h)|(refine aF fun hA=>?_;subst hA)|intro _)
    all_goals(refine aC ?_;exact aB (k1 _ (by first|rfl|simp)))
   ·have hne:oU (Ci xr.la xr.co)≠⟨#[]⟩:=fun h=>by
     have h1:(oU (Ci xr.la xr.co)).size=0:=by rw[h];rfl
     have hk:NN ((l9 (Ci xr.la xr.co)).size:Nat) (Ci xr.la xr.co).t (qX (Ci xr.la xr.co).e) (Ci xr.la xr.co).st=true:=uG hrt
     rw[Lw,ByteArray.size_append,wA hk] at h1
     omega
    have hbq:((oU (Ci xr.la xr.co)).toList == (ByteArray.mk #[]).toList)=false:=by simpa using Ry hne
    have hbe:(oU (Ci xr.la xr.co)).data.toList.toArray=(oU (Ci xr.la xr.co)).data:=Array.toArray_toList
    repeat' (first|(show aA _ 18 _ _ _;refine CA (h:=Ajg hSV.p (by omega) (fun _=>?_));rw[hst,hbe])|(show Br _ _ _;refine Br.f hbq ?_)|(show cU _ _ _;rw[hbq])|refine Uk ?_|refine ON d3_21_0_connCodes_ok d3_21_1_connCodes_ok d3_21_2_connCodes_ok ?_|refine dw d3_28_0_connCodes_ok ?_|refine w5 ?_ ?_|((refine bh fun h=>?_) <;> try exact w6 h)|(refine aF fun hA=>?_;subst hA)|intro _|(show aA _ 12 _ _ _;refine CA (h:=Aki (ps:= []) hrt nD rfl ?_)))
    all_goals(refine aC ?_;exact aB (k1 _ (by first|exact beq_self_eq_true _|simp)))
  |false=>
   refine Alo (p:=∀m∈cn.l,smF m) (fun H hs=>cnS_sats hs.tail.tail.tail.tail.tail.tail) fun hF=>?_
   have hB:=hSV.bound hcl hF
   by_cases hlt:j<ls.length
   ·by_cases h120:j<120
    ·obtain⟨y,hy⟩:∃y,ls[j]?=some y:=⟨_,List.getElem?_eq_getElem hlt⟩
     have hmem:=List.mem_of_getElem? hy
     have hyv:=hvp y hmem
     obtain⟨hy1,hy2⟩:=hpn y hmem
     have hmono:SV ⟨w0,st0,it0,0,0,0,0,0,0⟩ ((j:Nat)+1:Int) cn xr:=hSV.mono (by omega)
     have hmono:SV ⟨w0,st0,it0,0,0,0,0,0,0⟩ ((j+1:Nat):Int) cn xr:=hSV.mono (by omega)
     obtain⟨l1,ca1,mo1,gr1,go1,us1,sd1,h1,pe1,w1,la1,o1,cl1,co1⟩:=xr
     dsimp only at hcl
     subst hcl
     dsimp only[rcL,rcX]
     cases hL:(decide (y.d.size<600) && decide (y.pn<20))
     ·repeat' (first|refine Uk ?_|refine ON d3_21_0_connCodes_ok d3_21_1_connCodes_ok d3_21_2_connCodes_ok ?_|refine dw d3_28_0_connCodes_ok ?_|refine w5 ?_ ?_|((refine bh fun h=>?_) <;> try exact w6 h)|(refine aF fun hA=>?_;subst hA)|intro _|(show aA _ 8 _ _ _;refine CA (h:=light26_ok ?_);rw[hL]))
      all_goals(show aZ _ _ _ _;exact cG (m - 1) ⟨j+1,_,_,_,_,_,_,_,_,by omega,by omega,hmono,hLC,⟨rfl,rfl,rfl,rfl,rfl,trivial⟩,rfl⟩)
     cases hRt:l7 y
     ·repeat' (first|refine Uk ?_|refine ON d3_21_0_connCodes_ok d3_21_1_connCodes_ok d3_21_2_connCodes_ok ?_|refine dw d3_28_0_connCodes_ok ?_|refine w5 ?_ ?_|((refine bh fun h=>?_) <;> try exact w6 h)|(refine aF fun hA=>?_;subst hA)|intro _|(show aA _ 8 _ _ _;refine CA (h:=light26_ok ?_);rw[hL])|(show aA _ 9 _ _ _;refine CA (h:=Aj8 (ps:=y.ps) (bF (bF (bF (bF (bF (bF (bF (bF hyv)))))))) hy1 hy2 ?_);rw[show vY y.t y.st y.e y.d y.k y.on y.w y.x y.c y.la y.n y.ps=false from hRt]))
      all_goals(show aZ _ _ _ _;exact cG (m - 1) ⟨j+1,_,_,_,_,_,_,_,_,by omega,by omega,hmono,hLC,⟨rfl,rfl,rfl,rfl,rfl,trivial⟩,rfl⟩)
     have hRF:=(lT y).1 hRt
     have hfl:=ZU hRF
     have hfe:frB y.t y.st y.e y.d y.k y.on y.w y.x y.c y.la y.n y.ps=oU y:=rfl
     have hrE:=(hSV.recv (i:=0) (f:=y) (by omega) rfl hRF).1
     have hst:=hRF.2.1
     have hco:=(gI y.c).1 hRF.2.2.2.2.2.2.2.2.2.2.2.2.2.2.2.2.2.1
     repeat' (first|refine Uk ?_|refine ON d3_21_0_connCodes_ok d3_21_1_connCodes_ok d3_21_2_connCodes_ok ?_|refine dw d3_28_0_connCodes_ok ?_|refine w5 ?_ ?_|((refine bh fun h=>?_) <;> try exact w6 h)|(refine aF fun hA=>?_;subst hA)|intro _|(show aA _ 8 _ _ _;refine CA (h:=light26_ok ?_);rw[hL])|(show aA _ 9 _ _ _;refine CA (h:=Aj8 (ps:=y.ps) (bF (bF (bF (bF (bF (bF (bF (bF hyv)))))))) hy1 hy2 ?_);rw[show vY y.t y.st y.e y.d y.k y.on y.w y.x y.c y.la y.n y.ps=true from hRt])|(show aA _ 10 _ _ _;refine CA (h:=rctake_ok (x:=⟨l1,ca1,mo1,gr1,go1,us1,sd1,h1,pe1,w1,la1,o1,false,co1⟩) (f:=y) hB hRF (bF (bF hyv)) hy1 (fun A' c' W' wc' O' oc' i'=>?_)))|(show aA _ 12 _ _ _;refine CA (h:=Aki (ps:=y.ps) hRF (bF (bF (bF (bF (bF (bF (bF (bF hyv)))))))) hy1 ?_);rw[hfe])|(show aA _ 11 _ _ _;refine CA (h:=Ajj hSV.p (by omega) (by omega) ?_);rw[hrE]))
     rename_i A' c' W' wc' O' oc' i'
     have hSV2:=(hSV.recv (i:=i') (f:=y) (by omega) rfl hRF).2
     have hLC2:=lc_take (f:=y) (i:=i') hLC hst hco
     generalize kC (oU y).data.toList cn=c2 at hSV2 ⊢
     generalize SE y i' ⟨l1,ca1,mo1,gr1,go1,us1,sd1,h1,pe1,w1,la1,o1,false,co1⟩=x2 at hSV2 hLC2 ⊢
     have hSV3:SV ⟨w0,st0,it0,0,0,0,0,0,0⟩ ((j+1:Nat):Int) c2 x2:=hSV2.mono (by omega)
     obtain⟨t1,t2,t3,t4⟩:=hSV2.tell
     have hl2:x2.l.length≤64:=by
      obtain⟨B,hG,_⟩:=hSV2.p
      have q1:=hG.I.sm.1
      have q2:=congrArg List.length t3
      rw[List.length_map,List.length_map] at q2
      omega
     have ho2:x2.o.length≤64:=by
      obtain⟨B,hG,_⟩:=hSV2.p
      have q1:=hG.I.ou.1
      rw[← t4,List.length_map];exact q1
     have hol:x2.o.length=c2.out.length:=by rw[← t4,List.length_map]
     have hP2:=hSV2.p
     obtain⟨l2,ca2,mo2,gr2,go2,us2,sd2,h2,pe2,w2,la2,o2,cl2,co2⟩:=x2
     dsimp only at t1 t2 t3 t4 hl2 ho2 hol
     refine iH (fun mm a C'=>∃(k:Nat) (B:Option Addr) (d:Nat) (w:List Int),k+mm=l2.length∧w=(l2.take k).map Rs.id∧cW a [(1,.slice _ ls.length c1),(4,.bool false),(5,.pointer (some ⟨x,0,none⟩)),(7,.pointer (some ⟨p,0,none⟩)),(8,.int .i64 j),(10,.slice B w.length d),(11,.int .i64 k)]∧C'=bU B d 3 mI w::rcL p A' c' rv W' wc' O' oc' ⟨l2,ca2,mo2,gr2,go2,us2,sd2,h2,pe2,w2,la2,o2,cl2,co2⟩ (I4 x ad c2::R)) l2.length (cG l2.length ⟨0,none,0,[],by omega,rfl,⟨rfl,rfl,rfl,rfl,rfl,rfl,rfl,trivial⟩,rfl⟩ (by omega)) ?_
     rintro mm a C' ⟨k,B,d,w,hk,hw,ha,rfl⟩
     dsimp only[rcL,rcX]
     refine gJ _ ha ?_
     simp only[fF]
     have hwl:w.length≤64:=by
      have q1:=List.length_take_le k l2
      rw[hw,List.length_map];omega
     have hlen:(l2.map rqe).length=l2.length:=List.length_map ..
     by_cases hlt2:k<l2.length
     ·obtain⟨z,hz1,hz2,hz3⟩:=rq_at hlt2
      have hw2:w++ [z.id]=(l2.take (k+1)).map Rs.id:=by
       rw[List.take_add_one,hz1,hw]
       simp
      repeat' (first|(show aM _ _ _ _ _ _ _;refine mD ?_;intro _ _)|refine Uk ?_|refine ON d3_21_0_connCodes_ok d3_21_1_connCodes_ok d3_21_2_connCodes_ok ?_|refine dw d3_28_0_connCodes_ok ?_|refine w5 ?_ ?_|((refine bh fun h=>?_) <;> try exact w6 h)|(refine aF fun hA=>?_;subst hA)|intro _)
      all_goals(show aZ _ _ _ _;exact cG (mm - 1) ⟨k+1,_,_,w++ [z.id],by omega,hw2,⟨rfl,rfl,rfl,rfl,rfl,rfl,rfl,trivial⟩,rfl⟩)
     ·rw[List.take_of_length_le (by omega)] at hw
      subst hw
      have hln:(l2.map Rs.id).length≤1000:=by rw[List.length_map];omega
      cases cl2
      all_goals
       repeat' (first|refine Uk ?_|refine ON d3_21_0_connCodes_ok d3_21_1_connCodes_ok d3_21_2_connCodes_ok ?_|refine dw d3_28_0_connCodes_ok ?_|refine w5 ?_ ?_|((refine bh fun h=>?_) <;> try exact w6 h)|(refine aF fun hA=>?_;subst hA)|intro _|(show aA _ 13 _ _ _;refine CA (h:=ZF hP2 ?_);unfold LL;rw[t1,t2])|(show aA _ 15 _ _ _;refine CA (h:=Amg hP2 (fun B2 d2=>?_));rw[t3])|(show aA _ 14 _ _ _;first|refine ints26_ok (l:=l2.map Rs.id) (by exact kU) (by exact kU) rfl rfl hln ?_|refine ints26_ok (l:=o2) (view_in (by exact kU)) (by exact kU) hol rfl (by omega) ?_)|(show aA _ 16 _ _ _;refine CA (h:=qu26_ok ?_))|(show aA _ 17 _ _ _;refine CA (h:=ty26_ok hP2 (fun A3 d3q0=>?_));rw[t4]))
       all_goals(show aZ _ _ _ _;exact cG (m - 1) ⟨j+1,_,_,_,_,_,_,c2,_,by omega,by omega,hSV3,hLC2,⟨rfl,rfl,rfl,rfl,rfl,trivial⟩,rfl⟩)
    ·repeat' (first|refine Uk ?_|refine ON d3_21_0_connCodes_ok d3_21_1_connCodes_ok d3_21_2_connCodes_ok ?_|refine dw d3_28_0_connCodes_ok ?_|refine w5 ?_ ?_|((refine bh fun h=>?_) <;> try exact w6 h)|(refine aF fun hA=>?_;subst hA)|intro _)
     all_goals(refine aC ?_;exact aB (k1 _ rfl))
   ·repeat' (first|refine Uk ?_|refine ON d3_21_0_connCodes_ok d3_21_1_connCodes_ok d3_21_2_connCodes_ok ?_|refine dw d3_28_0_connCodes_ok ?_|refine w5 ?_ ?_|((refine bh fun h=>?_) <;> try exact w6 h)|(refine aF fun hA=>?_;subst hA)|intro _)
    all_goals(refine aC ?_;exact aB (k1 _ rfl))
section
variable {W:World}
theorem good_set26 {n:Nat} {cs:List Value} (hg:Go.Sl.Good Tryz.prog W n 23 cs):∃w st it:Int,cs= [.int .i64 w,.int .i64 st,.int .i64 it]:=by
 have hz:Tryz.prog.cellsOf 23=3:=by kernel_rfl
 obtain⟨m2,k3,k4⟩:=rT Tryz.underlying23 hg
 obtain⟨w,r0,_⟩:=fX Tryz.underlying3 (k4 0 _ rfl)
 obtain⟨st,r1,_⟩:=fX Tryz.underlying3 (k4 1 _ rfl)
 obtain⟨it,r2,_⟩:=fX Tryz.underlying3 (k4 2 _ rfl)
 exact⟨w,st,it,Amt (k3.trans hz) r0 r1 r2⟩
end
end Go.Proofs.YtffnpejdkkohcaaGreat
