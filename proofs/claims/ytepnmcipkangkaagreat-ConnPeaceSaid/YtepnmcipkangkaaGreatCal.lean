/- A part of the proof: lemmas; each with the conditions that it states. -/
import Derived.Test.YtepnmcipkangkaaGreatCav
set_option linter.unusedVariables false
set_option linter.unusedSimpArgs false
set_option maxRecDepth 100000
set_option maxHeartbeats 40000000
namespace Go.Proofs.YtepnmcipkangkaaGreat
open Go Go.Proofs Go.Sl
attribute [local irreducible] aN fL cL bM aL aR aA dJ dK aU dI pt ro fC star sep bF
variable {R C:List HP} {K:KP} {t cap q d r2 r3:Nat} {st w ac se dr n:Int} {l:List ByteArray} {en ou:Bool} {s:ByteArray}
def TI (cap:Nat) (st:Int) (l:List ByteArray) (w:Int) (en ou:Bool) (ac se dr:Int):Prop:=ac=se+dr+l.length/\0<=se/\0<=dr/\ac<=900000000/\l.length<=cap/\cap<=64/\(0<=w/\w<=2147483647)/\(0<=st/\st<=2)/\(ou=true->en=true/\l= [])
def rV (t cap:Nat) (st:Int) (l:List ByteArray) (w:Int) (en ou:Bool) (ac se dr:Int):HP:=fC fun q=>fC fun d=>sep (pt t [I6 ac,I6 se,I6 dr,I6 2,.pointer none,PO q,PO d,.bool en,.bool ou] 228) (sep (y5 q cap st l ac se dr) (sep (rE d w 2147483647) (bF (TI cap st l w en ou ac se dr))))
theorem f7 (h:TI cap st l w en ou ac se dr):aG (pt t [I6 ac,I6 se,I6 dr,I6 2,.pointer none,PO q,PO d,.bool en,.bool ou] 228::y5 q cap st l ac se dr::rE d w 2147483647::R) (rV t cap st l w en ou ac se dr::R):=
 aG.ex q (aG.ex d (sN h))
theorem i3 {f:FuncId} {args:Array Value} (h:∀q d,TI cap st l w en ou ac se dr->CT f args (pt t [I6 ac,I6 se,I6 dr,I6 2,.pointer none,PO q,PO d,.bool en,.bool ou] 228::y5 q cap st l ac se dr::rE d w 2147483647::R) K):CT f args (rV t cap st l w en ou ac se dr::R) K:=
 aA.ex fun q=>aA.ex fun d=>DV fun hI=>h q d hI
theorem LS (h:cap<=64) (hs:0<=st/\st<=2) (hK:∀t,K (.tuple #[PO t,I6 0]) (rV t cap st [] 0 false false 0 0 0::R)):CT 255 #[I6 2,I6 cap,I6 st] R K:=by
 refine aH Tryz.func255 ?_
 repeat' (first|refine AB ?_|refine w5 ?_ ?_|((refine bh fun h=>?_) <;> try exact w6 h)|(refine aE fun hA=>?_;subst hA)|intro _|(show aA _ 362 _ _ _;refine CA (h:=PT (by omega) (by omega) (fun q=>?_)))|(show aA _ 363 _ _ _;refine CA (h:=VK (by omega) (fun d=>?_))))
 (refine aC ?_;exact aM (aG.trans (by exact aY) ((f7 ⟨by simp,by omega,by omega,by omega,by simp,h,by omega,hs,by simp⟩))) (hK _))
theorem Uj (hK:K (I6 2) (rV t cap st l w en ou ac se dr::R)):CT 160 #[PO t] (rV t cap st l w en ou ac se dr::R) K:=by
 refine i3 fun q d hT=>?_
 refine aH Tryz.func160 ?_
 repeat' (first|refine v4 ?_|refine w5 ?_ ?_|((refine bh fun h=>?_) <;> try exact w6 h)|(refine aE fun hA=>?_;subst hA)|intro _)
 (refine aC ?_;exact aM (aG.trans (by exact aY) ((f7 hT))) (hK))
theorem SH (hK:K (.agg #[I6 ac,I6 se,I6 dr]) (rV t cap st l w en ou ac se dr::R)):CT 43 #[PO t] (rV t cap st l w en ou ac se dr::R) K:=by
 refine i3 fun q d hT=>?_
 refine aH Tryz.func43 ?_
 repeat' (first|refine v30 ?_|refine w5 ?_ ?_|((refine bh fun h=>?_) <;> try exact w6 h)|(refine aE fun hA=>?_;subst hA)|intro _)
 (refine aC ?_;exact aM (aG.trans (by exact aY) ((f7 hT))) (hK))
theorem Kf (hK:K (I6 w) (pt t [I6 ac,I6 se,I6 dr,I6 2,.pointer none,PO q,PO d,.bool en,.bool ou] 228::rE d w 2147483647::R)):CT 368 #[PO t] (pt t [I6 ac,I6 se,I6 dr,I6 2,.pointer none,PO q,PO d,.bool en,.bool ou] 228::rE d w 2147483647::R) K:=by
 refine aH Tryz.func368 ?_
 repeat' (first|refine ZR ?_|refine w5 ?_ ?_|((refine bh fun h=>?_) <;> try exact w6 h)|(refine aE fun hA=>?_;subst hA)|intro _|(show aA _ 372 _ _ _;refine CA (h:=RJ ?_)))
 (refine aC ?_;exact aB (hK))
theorem SK (h:1<=n) (hK:K (I6 0) (rV t cap st l (w+min n (2147483647 - w)) en ou ac se dr::R)):CT 390 #[PO t,I6 n] (rV t cap st l w en ou ac se dr::R) K:=by
 refine i3 fun q d hT=>?_
 obtain⟨h1,h2,h3,h4,h5,h6,h7,h8,h9⟩:=hT
 have hw:TI cap st l (w+min n (2147483647 - w)) en ou ac se dr:=⟨h1,h2,h3,h4,h5,h6,by omega,h8,h9⟩
 refine aH Tryz.func390 ?_
 repeat' (first|refine v35 ?_|refine w5 ?_ ?_|((refine bh fun h=>?_) <;> try exact w6 h)|(refine aE fun hA=>?_;subst hA)|intro _|(show aA _ 355 _ _ _;refine CA (h:=Vl h h7 (by omega) ?_)))
 (refine aC ?_;exact aM (aG.trans (by exact aY) ((f7 hw))) (hK))
theorem RO (h:n<1) (hK:K (I6 2) (rV t cap st l w en ou ac se dr::R)):CT 390 #[PO t,I6 n] (rV t cap st l w en ou ac se dr::R) K:=by
 refine i3 fun q d hT=>?_
 refine aH Tryz.func390 ?_
 repeat' (first|refine v35 ?_|refine w5 ?_ ?_|((refine bh fun h=>?_) <;> try exact w6 h)|(refine aE fun hA=>?_;subst hA)|intro _|(show aA _ 355 _ _ _;refine CA (h:=Qi (by simp) h ?_)))
 (refine aC ?_;exact aM (aG.trans (by exact aY) ((f7 hT))) (hK))
theorem lQ (hK:K (I6 (if en=true then 11 else 0)) (pt t [I6 ac,I6 se,I6 dr,I6 2,.pointer none,PO q,PO d,.bool en,.bool ou] 228::R)):CT 343 #[PO t] (pt t [I6 ac,I6 se,I6 dr,I6 2,.pointer none,PO q,PO d,.bool en,.bool ou] 228::R) K:=by
 cases en
 ·refine aH Tryz.func343 ?_
  repeat' (first|refine v4 ?_|refine w5 ?_ ?_|((refine bh fun h=>?_) <;> try exact w6 h)|(refine aE fun hA=>?_;subst hA)|intro _)
  (refine aC ?_;exact aB (hK))
 ·refine aH Tryz.func343 ?_
  repeat' (first|refine v4 ?_|refine w5 ?_ ?_|((refine bh fun h=>?_) <;> try exact w6 h)|(refine aE fun hA=>?_;subst hA)|intro _)
  (refine aC ?_;exact aB (hK))
theorem Yt (hK:K (I6 (if en=true then 11 else 0)) (rV t cap st l w true ou ac se dr::R)):CT 353 #[PO t] (rV t cap st l w en ou ac se dr::R) K:=by
 refine i3 fun q d hT=>?_
 obtain⟨h1,h2,h3,h4,h5,h6,h7,h8,h9⟩:=hT
 have hT:TI cap st l w true ou ac se dr:=⟨h1,h2,h3,h4,h5,h6,h7,h8,fun h=>⟨rfl,(h9 h).2⟩⟩
 cases en
 ·refine aH Tryz.func353 ?_
  repeat' (first|refine v13 ?_|refine w5 ?_ ?_|((refine bh fun h=>?_) <;> try exact w6 h)|(refine aE fun hA=>?_;subst hA)|intro _|(show aA _ 343 _ _ _;refine CA (h:=lQ ?_)))
  (refine aC ?_;exact aM (aG.trans (by exact aY) ((f7 hT))) (hK))
 ·refine aH Tryz.func353 ?_
  repeat' (first|refine v13 ?_|refine w5 ?_ ?_|((refine bh fun h=>?_) <;> try exact w6 h)|(refine aE fun hA=>?_;subst hA)|intro _|(show aA _ 343 _ _ _;refine CA (h:=lQ ?_)))
  (refine aC ?_;exact aM (aG.trans (by exact aY) ((f7 hT))) (hK))
def IR (l:List ByteArray) (w:Int) (en ou:Bool):Bool:=if l= [] then en && !ou else decide (0<w)
theorem qL {b:Bool} (hT:TI cap st l w en ou ac se dr) (hb:IR l w en ou=b) (hK:K (.bool b) (pt t [I6 ac,I6 se,I6 dr,I6 2,.pointer none,PO q,PO d,.bool en,.bool ou] 228::rE d w 2147483647::R)):CT 267 #[PO t,I6 n] (pt t [I6 ac,I6 se,I6 dr,I6 2,.pointer none,PO q,PO d,.bool en,.bool ou] 228::rE d w 2147483647::R) K:=by
 obtain⟨h1,h2,h3,h4,h5,h6,h7,h8,h9⟩:=hT
 subst hb
 by_cases hb:l= []
 ·subst hb
  rw[IR,if_pos rfl] at hK
  cases en
  ·refine aH Tryz.func267 ?_
   repeat' (first|refine J5 ?_|refine w5 ?_ ?_|((refine bh fun h=>?_) <;> try exact w6 h)|(refine aE fun hA=>?_;subst hA)|intro _|(show aA _ 46 _ _ _;refine CA (h:=iB (by simp at *;omega) ?_)))
   all_goals first|(exfalso;simp at *;omega)|((refine aC ?_;exact aB (hK)))
  ·refine aH Tryz.func267 ?_
   repeat' (first|refine J5 ?_|refine w5 ?_ ?_|((refine bh fun h=>?_) <;> try exact w6 h)|(refine aE fun hA=>?_;subst hA)|intro _|(show aA _ 46 _ _ _;refine CA (h:=iB (by simp at *;omega) ?_)))
   all_goals first|(exfalso;simp at *;omega)|((refine aC ?_;exact aB (hK)))
 ·have:0<l.length:=List.length_pos_iff.2 hb
  rw[IR,if_neg hb] at hK
  refine aH Tryz.func267 ?_
  repeat' (first|refine J5 ?_|refine w5 ?_ ?_|((refine bh fun h=>?_) <;> try exact w6 h)|(refine aE fun hA=>?_;subst hA)|intro _|(show aA _ 46 _ _ _;refine CA (h:=iB (by omega) ?_))|(show aA _ 368 _ _ _;refine CA (h:=Kf ?_)))
  (refine aC ?_;exact aB (hK))
theorem Qg (hK:K (.bool (IR l w en ou)) (rV t cap st l w en ou ac se dr::R)):CT 267 #[PO t,I6 n] (rV t cap st l w en ou ac se dr::R) K:=by
 refine i3 fun q d hT=>?_
 refine aA.ent (C':=pt t [I6 ac,I6 se,I6 dr,I6 2,.pointer none,PO q,PO d,.bool en,.bool ou] 228::rE d w 2147483647::y5 q cap st l ac se dr::R) (by exact aY) ?_
 exact aA.entK (qL hT rfl ⟨_,aG.trans (by exact aY) (f7 hT),hK⟩)
theorem OW (hK:K (.bool (decide (0<l.length) && !IR l w en ou)) (rV t cap st l w en ou ac se dr::R)):CT 181 #[PO t,I6 n] (rV t cap st l w en ou ac se dr::R) K:=by
 refine i3 fun q d hT=>?_
 have hT':=hT
 obtain⟨h1,h2,h3,h4,h5,h6,h7,h8,h9⟩:=hT'
 by_cases hb:0<l.length
 ·refine aH Tryz.func181 ?_
  repeat' (first|refine v48 ?_|refine w5 ?_ ?_|((refine bh fun h=>?_) <;> try exact w6 h)|(refine aE fun hA=>?_;subst hA)|intro _|(show aA _ 46 _ _ _;refine CA (h:=iB (by omega) ?_))|(show aA _ 267 _ _ _;refine CA (h:=qL hT rfl ?_)))
  all_goals(refine aC ?_;exact aM (aG.trans (by exact aY) ((f7 hT))) ((kb hK (by simp_all))))
 ·refine aH Tryz.func181 ?_
  repeat' (first|refine v48 ?_|refine w5 ?_ ?_|((refine bh fun h=>?_) <;> try exact w6 h)|(refine aE fun hA=>?_;subst hA)|intro _|(show aA _ 46 _ _ _;refine CA (h:=iB (by omega) ?_))|(show aA _ 267 _ _ _;refine CA (h:=qL hT rfl ?_)))
  all_goals(refine aC ?_;exact aM (aG.trans (by exact aY) ((f7 hT))) ((kb hK (by simp_all))))
theorem UJ (he:en=true) (hK:K (.tuple #[I6 0,I6 11]) (rV t cap st l w en ou ac se dr::R)):CT 238 #[PO t,.string s] (rV t cap st l w en ou ac se dr::R) K:=by
 subst he
 refine i3 fun q d hT=>?_
 refine aH Tryz.func238 ?_
 repeat' (first|refine v49 ?_|refine w5 ?_ ?_|((refine bh fun h=>?_) <;> try exact w6 h)|(refine aE fun hA=>?_;subst hA)|intro _|(show aA _ 343 _ _ _;refine CA (h:=lQ ?_)))
 (refine aC ?_;exact aM (aG.trans (by exact aY) ((f7 hT))) (hK))
theorem Uq (he:en=false) (hs:256<s.size) (hK:K (.tuple #[I6 0,I6 4]) (rV t cap st l w en ou ac se dr::R)):CT 238 #[PO t,.string s] (rV t cap st l w en ou ac se dr::R) K:=by
 subst he
 refine i3 fun q d hT=>?_
 refine aH Tryz.func238 ?_
 repeat' (first|refine v49 ?_|refine w5 ?_ ?_|((refine bh fun h=>?_) <;> try exact w6 h)|(refine aE fun hA=>?_;subst hA)|intro _|(show aA _ 343 _ _ _;refine CA (h:=lQ ?_)))
 (refine aC ?_;exact aM (aG.trans (by exact aY) ((f7 hT))) (hK))
theorem Ue (he:en=false) (hs:s.size<=256) (hc:cap<=l.length) (h0:st=0) (hK:K (.tuple #[I6 0,I6 9]) (rV t cap st l w en ou ac se dr::R)):CT 238 #[PO t,.string s] (rV t cap st l w en ou ac se dr::R) K:=by
 subst he
 refine i3 fun q d hT=>?_
 refine aH Tryz.func238 ?_
 repeat' (first|refine v49 ?_|refine w5 ?_ ?_|((refine bh fun h=>?_) <;> try exact w6 h)|(refine aE fun hA=>?_;subst hA)|intro _|(show aA _ 343 _ _ _;refine CA (h:=lQ ?_))|(show aA _ 345 _ _ _;refine CA (h:=Zq (by omega) h0 ?_)))
 (refine aC ?_;exact aM (aG.trans (by exact aY) ((f7 hT))) (hK))
theorem TD (he:en=false) (hs:s.size<=256) (hc:l.length<cap) (hb:ac<=800000000) (hK:K (.tuple #[I6 1,I6 0]) (rV t cap st (l++ [s]) w en ou (ac+1) se dr::R)):CT 238 #[PO t,.string s] (rV t cap st l w en ou ac se dr::R) K:=by
 subst he
 refine i3 fun q d hT=>?_
 obtain⟨h1,h2,h3,h4,h5,h6,h7,h8,h9⟩:=hT
 have hT:TI cap st (l++ [s]) w false ou (ac+1) se dr:=⟨by simp;omega,h2,h3,by omega,by simp;omega,h6,h7,h8,fun h=>by simpa using (h9 h).1⟩
 refine aH Tryz.func238 ?_
 repeat' (first|refine v49 ?_|refine w5 ?_ ?_|((refine bh fun h=>?_) <;> try exact w6 h)|(refine aE fun hA=>?_;subst hA)|intro _|(show aA _ 343 _ _ _;refine CA (h:=lQ ?_))|(show aA _ 345 _ _ _;refine CA (h:=FH (by omega) (by omega) (by omega) ?_)))
 (refine aC ?_;exact aM (aG.trans (by exact aY) ((f7 hT))) (hK))
theorem Uh (he:en=false) (hs:s.size<=256) (hc:cap<=l.length) (h0:st≠0) (h10:st=1\/cap=0) (hb:ac<=800000000) (hK:K (.tuple #[I6 2,I6 0]) (rV t cap st l w en ou (ac+1) se (dr+1)::R)):CT 238 #[PO t,.string s] (rV t cap st l w en ou ac se dr::R) K:=by
 subst he
 refine i3 fun q d hT=>?_
 obtain⟨h1,h2,h3,h4,h5,h6,h7,h8,h9⟩:=hT
 have hT:TI cap st l w false ou (ac+1) se (dr+1):=⟨by omega,h2,by omega,by omega,h5,h6,h7,h8,h9⟩
 refine aH Tryz.func238 ?_
 repeat' (first|refine v49 ?_|refine w5 ?_ ?_|((refine bh fun h=>?_) <;> try exact w6 h)|(refine aE fun hA=>?_;subst hA)|intro _|(show aA _ 343 _ _ _;refine CA (h:=lQ ?_))|(show aA _ 345 _ _ _;refine CA (h:=Zc (by omega) (by omega) (by omega) h0 (by omega) ?_)))
 (refine aC ?_;exact aM (aG.trans (by exact aY) ((f7 hT))) (hK))
theorem SE {s0:ByteArray} (he:en=false) (hs:s.size<=256) (hc:cap<=(s0::l).length) (h0:st≠0) (h10:st≠1) (h11:cap≠0) (hb:ac<=800000000) (hK:K (.tuple #[I6 3,I6 0]) (rV t cap st (l++ [s]) w en ou (ac+1) se (dr+1)::R)):CT 238 #[PO t,.string s] (rV t cap st (s0::l) w en ou ac se dr::R) K:=by
 subst he
 refine i3 fun q d hT=>?_
 obtain⟨h1,h2,h3,h4,h5,h6,h7,h8,h9⟩:=hT
 have hl:(s0::l).length=l.length+1:=rfl
 have hT:TI cap st (l++ [s]) w false ou (ac+1) se (dr+1):=⟨by simp;omega,h2,by omega,by omega,by simp;omega,h6,h7,h8,fun h=>by simpa using (h9 h).1⟩
 refine aH Tryz.func238 ?_
 repeat' (first|refine v49 ?_|refine w5 ?_ ?_|((refine bh fun h=>?_) <;> try exact w6 h)|(refine aE fun hA=>?_;subst hA)|intro _|(show aA _ 343 _ _ _;refine CA (h:=lQ ?_))|(show aA _ 345 _ _ _;refine CA (h:=Y7 (by omega) (by omega) (by omega) (by omega) h0 h10 (by omega) ?_)))
 (refine aC ?_;exact aM (aG.trans (by exact aY) ((f7 hT))) (hK))
def rR:List (Nat×Nat):= [(0,0),(1,0),(2,0),(3,0),(4,0),(5,0),(6,1),(7,0)]
theorem Me (hK:K (.tuple #[.string ⟨#[]⟩,.bool true]) (pt r2 [PO t] 91::pt r3 [I6 n] 3::pt t [I6 ac,I6 se,I6 dr,I6 2,.pointer none,PO q,PO d,.bool en,.bool ou] 228::y5 q cap st [] ac se dr::rE d w 2147483647::R)):CT 374 #[PO r2,PO r3] (pt r2 [PO t] 91::pt r3 [I6 n] 3::pt t [I6 ac,I6 se,I6 dr,I6 2,.pointer none,PO q,PO d,.bool en,.bool ou] 228::y5 q cap st [] ac se dr::rE d w 2147483647::R) K:=by
 refine aH Tryz.func374 ?_
 repeat' (first|refine v85 ?_|refine dw rR ?_|refine w5 ?_ ?_|((refine bh fun h=>?_) <;> try exact w6 h)|(refine aE fun hA=>?_;subst hA)|intro _|(show aA _ 354 _ _ _;refine CA (h:=JZ ?_)))
 (refine aC ?_;exact aB (hK))
theorem Qc (hT:TI cap st (s::l) w en ou ac se dr) (hw:0<w) (hK:K (.tuple #[.string s,.bool false]) (pt r2 [PO t] 91::pt r3 [I6 n] 3::pt t [I6 ac,I6 (se+1),I6 dr,I6 2,.pointer none,PO q,PO d,.bool en,.bool ou] 228::y5 q cap st l ac (se+1) dr::rE d (w - 1) 2147483647::R)):CT 374 #[PO r2,PO r3] (pt r2 [PO t] 91::pt r3 [I6 n] 3::pt t [I6 ac,I6 se,I6 dr,I6 2,.pointer none,PO q,PO d,.bool en,.bool ou] 228::y5 q cap st (s::l) ac se dr::rE d w 2147483647::R) K:=by
 obtain⟨h1,h2,h3,h4,h5,h6,h7,h8,h9⟩:=hT
 have hl:(s::l).length=l.length+1:=rfl
 refine aH Tryz.func374 ?_
 repeat' (first|refine v85 ?_|refine dw rR ?_|refine w5 ?_ ?_|((refine bh fun h=>?_) <;> try exact w6 h)|(refine aE fun hA=>?_;subst hA)|intro _|(show aA _ 354 _ _ _;refine CA (h:=Lg (by omega) (by omega) ?_))|(show aA _ 273 _ _ _;refine CA (h:=R0 (by omega) (by omega) (by omega) ?_)))
 (refine aC ?_;exact aB (hK))
theorem Qy (hr:IR [] w en ou=true) (hK:K (.tuple #[.string ⟨#[]⟩,.bool true,.bool true]) (rV t cap st [] w en true ac se dr::R)):CT 282 #[PO t,I6 n] (rV t cap st [] w en ou ac se dr::R) K:=by
 refine i3 fun q d hT=>?_
 have hT':=hT
 obtain⟨h1,h2,h3,h4,h5,h6,h7,h8,h9⟩:=hT'
 have hw:TI cap st [] w en true ac se dr:=⟨h1,h2,h3,h4,h5,h6,h7,h8,fun _=>⟨by rw[IR,if_pos rfl] at hr;simp at hr;exact hr.1,rfl⟩⟩
 refine aH Tryz.func282 ?_
 repeat' (first|refine Sn ?_|refine w5 ?_ ?_|((refine bh fun h=>?_) <;> try exact w6 h)|(refine aE fun hA=>?_;subst hA)|intro _|(show aA _ 267 _ _ _;refine CA (h:=qL hT hr ?_))|(show aA _ 374 _ _ _;refine CA (h:=Me ?_)))
 (refine aC ?_;exact aM (aG.trans (by exact aY) ((f7 hw))) (hK))
theorem SD (hr:0<w) (hK:K (.tuple #[.string s,.bool false,.bool true]) (rV t cap st l (w - 1) en false ac (se+1) dr::R)):CT 282 #[PO t,I6 n] (rV t cap st (s::l) w en ou ac se dr::R) K:=by
 refine i3 fun q d hT=>?_
 have hT':=hT
 obtain⟨h1,h2,h3,h4,h5,h6,h7,h8,h9⟩:=hT'
 have hl:(s::l).length=l.length+1:=rfl
 have hw:TI cap st l (w - 1) en false ac (se+1) dr:=⟨by omega,by omega,h3,h4,by omega,h6,by omega,h8,by simp⟩
 have hr2:IR (s::l) w en ou=true:=by simp[IR,hr]
 refine aH Tryz.func282 ?_
 repeat' (first|refine Sn ?_|refine w5 ?_ ?_|((refine bh fun h=>?_) <;> try exact w6 h)|(refine aE fun hA=>?_;subst hA)|intro _|(show aA _ 267 _ _ _;refine CA (h:=qL hT hr2 ?_))|(show aA _ 374 _ _ _;refine CA (h:=Qc hT hr ?_)))
 (refine aC ?_;exact aM (aG.trans (by exact aY) ((f7 hw))) (hK))
def BK:List (Nat×Nat):= [(0,0),(1,0),(2,0),(3,0),(4,1),(5,1),(6,1),(7,1),(8,1),(9,1),(10,0),(11,0)]
theorem R3 (hK:K (I6 l.length) (rV t cap st [] w en ou ac se (dr+l.length)::R)):CT 425 #[PO t] (rV t cap st l w en ou ac se dr::R) K:=by
 refine i3 fun q d hT=>?_
 obtain⟨h1,h2,h3,h4,h5,h6,h7,h8,h9⟩:=hT
 have hw:TI cap st [] w en ou ac se (dr+l.length):=⟨by simp;omega,h2,by omega,h4,by simp,h6,h7,h8,fun h=>⟨(h9 h).1,rfl⟩⟩
 refine aH Tryz.func425 ?_
 repeat' (first|refine GF ?_|refine dw BK ?_|refine w5 ?_ ?_|((refine bh fun h=>?_) <;> try exact w6 h)|(refine aE fun hA=>?_;subst hA)|intro _|(show aA _ 426 _ _ _;refine CA (h:=HZ ?_))|(show aA _ 427 _ _ _;refine CA (h:=Jb (by omega) (by omega) ?_)))
 rw[show(0:Int)+((l.length:Nat):Int)=l.length by omega]
 (refine aC ?_;exact aM (aG.trans (by exact aY) ((f7 hw))) (hK))
end Go.Proofs.YtepnmcipkangkaaGreat
