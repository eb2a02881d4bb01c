/- A part of the proof: lemmas; each with the conditions that it states. -/
import Derived.Test.YtffnpejdkkohcaaGreatBaw
import Derived.Test.YtffnpejdkkohcaaGreatBay
set_option linter.unusedVariables false
set_option linter.unusedSimpArgs false
set_option maxRecDepth 100000
set_option maxHeartbeats 40000000
namespace Go.Proofs.YtffnpejdkkohcaaGreat
open Go Go.Proofs Go.Sl
attribute [local irreducible] aM eY cU bQ aL aW aA dS dT aZ dR pt ro fN star sep bH
attribute [local irreducible] mp FV
variable {R C:List HP} {K:KP} {α:Type} {i c n B off j p q r5 r7:Nat} {A:Option Addr} {xs:List iA} {y:iA} {k id on xw all most low w:Int} {l ks:List Int} {s:eS} {x:Bool}
section
theorem S0 {xs:List α} {y:α} (hi:i<xs.length) {ys0 ys1:List (Option α)} (h0:ys0=(xs.take i).map some++List.replicate (xs.length+1 - i) none) (h1:ys1=ys0.take i++([some y]++ys0.drop (i+1))):ys1.take (i+1)++((xs.drop i).map some++ys1.drop (i+1+((xs.drop i).map some).length))=(xs.take i++(y::xs.drop i)).map some:=by
 have l0:((xs.take i).map some).length=i:=by rw[List.length_map,List.length_take];omega
 have e0:ys0.take i=(xs.take i).map some:=by rw[h0,List.take_left' l0]
 have e1:ys1.take (i+1)=(xs.take i).map some++ [some y]:=by
  rw[h1,e0,<- List.append_assoc,List.take_left' (by rw[List.length_append,l0];rfl)]
 have l1:ys1.length=xs.length+1:=by
  rw[h1,e0,h0]
  simp only[List.length_append,List.length_drop,List.length_map,List.length_take,List.length_replicate,List.length_cons,List.length_nil]
  omega
 have e2:ys1.drop (i+1+((xs.drop i).map some).length)= []:=List.drop_eq_nil_of_le (by rw[l1,List.length_map,List.length_drop];omega)
 rw[e1,e2]
 simp
theorem XA {xs ys:List α} {y:α} (hi:i<xs.length) (h:ys=xs.take (i+1)++(xs.drop i++xs.drop (i+1+(xs.drop i).length))):ys.take i++([y]++ys.drop (i+1))=xs.take i++(y::xs.drop i):=by
 have e:xs.drop (i+1+(xs.drop i).length)= []:=List.drop_eq_nil_of_le (by rw[List.length_drop];omega)
 have l:(xs.take (i+1)).length=i+1:=by rw[List.length_take];omega
 rw[h,e,List.append_nil,List.drop_left' l,List.take_append_of_le_length (by omega),List.take_take,Nat.min_eq_left (by omega)]
 simp
variable {r:Nat}
def cL:List (Nat×Nat):= [(0,0),(1,0),(2,0),(3,0),(4,0),(5,0),(6,0),(7,0),(8,1)]
def cO:List (Nat×Nat):= [(0,0),(1,0),(2,0),(3,0),(4,0),(5,0),(6,0),(7,0),(8,1)]
theorem Zt (hn:xs.length=n) (hi:i<n) (hs:n<=1000) (hc:n<=c) (hroom:(c:Int)<(n:Int)+1) (hK:∀A' c',K (.slice A' (n+1) c') (bU A' c' 270 wO (xs.take i++(y::xs.drop i))::R)):CT 244 #[.slice (some ⟨B,off,none⟩) n c,I6 i,.slice (some ⟨r,0,none⟩) 1 1] (bU (some ⟨B,off,none⟩) c 270 wO xs::pt r [I6 y.id,PO y.w,I6 y.sp] 270::R) K:=by
 subst hn
 have hdl:(xs.drop i).length=xs.length - i:=List.length_drop ..
 have htl:((xs.take i).map some).length=i:=by rw[List.length_map,List.length_take];omega
 refine aJ Tryz.func244 ?_
 repeat' (first|(show aM _ _ _ _ _ _ _;first|refine oT ?_|refine d9 (sz:=3) ?_)|refine JE ?_|refine dw cL ?_|refine dw cO ?_|refine w5 ?_ ?_|((refine bh fun h=>?_) <;> try exact w6 h)|(refine aF fun hA=>?_;subst hA)|intro _)
 refine KB (E:=wO) (xs:=xs.take i) (k:=xs.length+1 - i) ⟨rfl,rfl⟩ (fun r2 N hN=>?_) (D7 (off:=off) (lo:=0) eA i (Nat.zero_le _) rfl)
 repeat' (first|(show aM _ _ _ _ _ _ _;first|refine oT ?_|refine d9 (sz:=3) ?_)|refine JE ?_|refine dw cL ?_|refine dw cO ?_|refine w5 ?_ ?_|((refine bh fun h=>?_) <;> try exact w6 h)|(refine aF fun hA=>?_;subst hA)|intro _)
 refine rR (sz:=3) (j:=i) (vs:= [some y]) ?_ (hsrc:=Gd (vs:= [y]) w7)
 repeat' (first|(show aM _ _ _ _ _ _ _;first|refine oT ?_|refine d9 (sz:=3) ?_)|refine JE ?_|refine dw cL ?_|refine dw cO ?_|refine w5 ?_ ?_|((refine bh fun h=>?_) <;> try exact w6 h)|(refine aF fun hA=>?_;subst hA)|intro _)
 refine rR (sz:=3) (j:=i+1) (vs:=(xs.drop i).map some) ?_ (hsrc:=Gd (Eo (sz:=3) (j:=i)))
 repeat' (first|(show aM _ _ _ _ _ _ _;first|refine oT ?_|refine d9 (sz:=3) ?_)|refine JE ?_|refine dw cL ?_|refine dw cO ?_|refine w5 ?_ ?_|((refine bh fun h=>?_) <;> try exact w6 h)|(refine aF fun hA=>?_;subst hA)|intro _)
 (refine aC ?_;exact aQ (aG.trans (by exact bE) ((OJ (S0 hi rfl rfl)))) ((kv (hK _ _) (congrArg (fun n=>Value.slice _ n _) (by omega)))))
theorem Abp (hn:xs.length=n) (hi:i<n) (hs:n<=1000) (hc:n<=c) (hroom:¬(c:Int)<(n:Int)+1) (hK:∀A' c',K (.slice A' (n+1) c') (bU A' c' 270 wO (xs.take i++(y::xs.drop i))::R)):CT 244 #[.slice (some ⟨B,off,none⟩) n c,I6 i,.slice (some ⟨r,0,none⟩) 1 1] (bU (some ⟨B,off,none⟩) c 270 wO xs::pt r [I6 y.id,PO y.w,I6 y.sp] 270::R) K:=by
 subst hn
 have hdl:(xs.drop i).length=xs.length - i:=List.length_drop ..
 refine aJ Tryz.func244 ?_
 repeat' (first|(show aM _ _ _ _ _ _ _;first|refine oT ?_|refine d9 (sz:=3) ?_)|refine dw cL ?_|refine dw cO ?_|refine w1m ?_|refine w5 ?_ ?_|((refine bh fun h=>?_) <;> try exact w6 h)|(refine aF fun hA=>?_;subst hA)|intro _)
 refine HE (E:=wO) (sz:=3) (tS:=179) (tR:=4) (off:=off) (j:=i+1) (fun b=>?_)
 cases b
 ·repeat' (first|(show aM _ _ _ _ _ _ _;first|refine oT ?_|refine d9 (sz:=3) ?_)|refine JE ?_|refine dw cL ?_|refine dw cO ?_|refine w5 ?_ ?_|((refine bh fun h=>?_) <;> try exact w6 h)|(refine aF fun hA=>?_;subst hA)|intro _)
  refine rR (sz:=3) (j:=i+1) (vs:=xs.drop i) ?_ (hsrc:=Eo (sz:=3) (j:=i))
  repeat' (first|(show aM _ _ _ _ _ _ _;first|refine oT ?_|refine d9 (sz:=3) ?_)|refine JE ?_|refine dw cL ?_|refine dw cO ?_|refine w5 ?_ ?_|((refine bh fun h=>?_) <;> try exact w6 h)|(refine aF fun hA=>?_;subst hA)|intro _)
  refine rR (sz:=3) (j:=i) (vs:= [y]) ?_ (hsrc:=w7)
  repeat' (first|(show aM _ _ _ _ _ _ _;first|refine oT ?_|refine d9 (sz:=3) ?_)|refine JE ?_|refine dw cL ?_|refine dw cO ?_|refine w5 ?_ ?_|((refine bh fun h=>?_) <;> try exact w6 h)|(refine aF fun hA=>?_;subst hA)|intro _)
  (refine aC ?_;exact aQ (aG.trans (by exact bE) ((Uq (XA hi rfl)))) ((kv (hK _ _) (El (by omega) (by omega) (by omega)))))
 ·repeat' (first|(show aM _ _ _ _ _ _ _;first|refine oT ?_|refine d9 (sz:=3) ?_)|refine JE ?_|refine dw cL ?_|refine dw cO ?_|refine w5 ?_ ?_|((refine bh fun h=>?_) <;> try exact w6 h)|(refine aF fun hA=>?_;subst hA)|intro _)
  refine rR (sz:=3) (j:=xs.length) (vs:= [y]) ?_ (hsrc:=w7)
  repeat' (first|(show aM _ _ _ _ _ _ _;first|refine oT ?_|refine d9 (sz:=3) ?_)|refine JE ?_|refine dw cL ?_|refine dw cO ?_|refine w5 ?_ ?_|((refine bh fun h=>?_) <;> try exact w6 h)|(refine aF fun hA=>?_;subst hA)|intro _|(show aA _ 302 _ _ _;refine CA (h:=Aai (xs:=xs.take xs.length++([y]++xs.drop (xs.length+ [y].length))) (P:=xs.take i) (D:=xs.drop i) (y:=y) (lo:=i) (by rw[List.take_of_length_le (Nat.le_refl _),List.drop_eq_nil_of_le (by simp),List.append_nil,<- List.append_assoc,List.take_append_drop]) (by rw[List.length_take];omega) (by rw[hdl];omega) (by omega) (vS (by omega)) (by simp only[List.length_append,List.length_take,List.length_drop,List.length_cons,List.length_nil];omega) ?_)))
  all_goals(refine aC ?_;exact aB ((kv (hK (some ⟨B,off,none⟩) c) (El (by omega) (by omega) (by omega)))))
theorem Adf (hn:xs.length=n) (hi:i<=n) (hs:n<=1000) (hK:∀A' c',K (.slice A' (n+1) c') (bU A' c' 270 wO (xs.take i++(y::xs.drop i))::R)):CT 244 #[.slice A n c,I6 i,.slice (some ⟨r,0,none⟩) 1 1] (bU A c 270 wO xs::pt r [I6 y.id,PO y.w,I6 y.sp] 270::R) K:=by
 refine iJ aS.here fun hc=>?_
 subst hn
 rcases Nat.lt_or_ge i xs.length with hlt|hge
 ·refine pV aS.here (by omega) fun B off hA=>?_
  subst hA
  by_cases hroom:(c:Int)<(xs.length:Int)+1
  ·exact Zt rfl hlt hs hc hroom hK
  ·exact Abp rfl hlt hs hc hroom hK
 ·have hi':i=xs.length:=by omega
  subst hi'
  rw[List.take_of_length_le (Nat.le_refl _),List.drop_eq_nil_of_le (Nat.le_refl _)] at hK
  refine aJ Tryz.func244 ?_
  repeat' (first|(show aM _ _ _ _ _ _ _;first|(refine mX ?_;intro A1 hA1)|(refine cN (E:=wO) (xs:=xs) (ys:= [y]) ?_ (hsrc:=vI);intro A2 c2))|refine JE ?_|refine dw cL ?_|refine dw cO ?_|refine w5 ?_ ?_|((refine bh fun h=>?_) <;> try exact w6 h)|(refine aF fun hA=>?_;subst hA)|intro _)
  all_goals(refine aC ?_;exact aB ((by rw[List.length_append];exact hK _ _)))
def cS:List (Nat×Nat):= [(0,0),(1,0),(2,0),(3,0),(4,0),(5,0),(6,0),(7,0),(8,1)]
def cQ:List (Nat×Nat):= [(0,0),(1,0),(2,0),(3,0),(4,0),(5,0),(6,0),(7,0),(8,1)]
theorem Z2 {xs:List jR} {y:jR} (hn:xs.length=n) (hi:i<n) (hs:n<=1000) (hc:n<=c) (hroom:(c:Int)<(n:Int)+1) (hK:∀A' c',K (.slice A' (n+1) c') (bU A' c' 203 fL (xs.take i++(y::xs.drop i))::R)):CT 238 #[.slice (some ⟨B,off,none⟩) n c,I6 i,.slice (some ⟨r,0,none⟩) 1 1] (bU (some ⟨B,off,none⟩) c 203 fL xs::pt r [I6 y.id,PO y.a] 203::R) K:=by
 subst hn
 have hdl:(xs.drop i).length=xs.length - i:=List.length_drop ..
 have htl:((xs.take i).map some).length=i:=by rw[List.length_map,List.length_take];omega
 refine aJ Tryz.func238 ?_
 repeat' (first|(show aM _ _ _ _ _ _ _;first|refine oT ?_|refine d9 (sz:=2) ?_)|refine JE ?_|refine dw cS ?_|refine dw cQ ?_|refine w5 ?_ ?_|((refine bh fun h=>?_) <;> try exact w6 h)|(refine aF fun hA=>?_;subst hA)|intro _)
 refine KB (E:=fL) (xs:=xs.take i) (k:=xs.length+1 - i) ⟨rfl,rfl⟩ (fun r2 N hN=>?_) (D7 (off:=off) (lo:=0) eA i (Nat.zero_le _) rfl)
 repeat' (first|(show aM _ _ _ _ _ _ _;first|refine oT ?_|refine d9 (sz:=2) ?_)|refine JE ?_|refine dw cS ?_|refine dw cQ ?_|refine w5 ?_ ?_|((refine bh fun h=>?_) <;> try exact w6 h)|(refine aF fun hA=>?_;subst hA)|intro _)
 refine rR (sz:=2) (j:=i) (vs:= [some y]) ?_ (hsrc:=Gd (vs:= [y]) w7)
 repeat' (first|(show aM _ _ _ _ _ _ _;first|refine oT ?_|refine d9 (sz:=2) ?_)|refine JE ?_|refine dw cS ?_|refine dw cQ ?_|refine w5 ?_ ?_|((refine bh fun h=>?_) <;> try exact w6 h)|(refine aF fun hA=>?_;subst hA)|intro _)
 refine rR (sz:=2) (j:=i+1) (vs:=(xs.drop i).map some) ?_ (hsrc:=Gd (Eo (sz:=2) (j:=i)))
 repeat' (first|(show aM _ _ _ _ _ _ _;first|refine oT ?_|refine d9 (sz:=2) ?_)|refine JE ?_|refine dw cS ?_|refine dw cQ ?_|refine w5 ?_ ?_|((refine bh fun h=>?_) <;> try exact w6 h)|(refine aF fun hA=>?_;subst hA)|intro _)
 (refine aC ?_;exact aQ (aG.trans (by exact bE) ((OJ (S0 hi rfl rfl)))) ((kv (hK _ _) (congrArg (fun n=>Value.slice _ n _) (by omega)))))
theorem Acr {xs:List jR} {y:jR} (hn:xs.length=n) (hi:i<n) (hs:n<=1000) (hc:n<=c) (hroom:¬(c:Int)<(n:Int)+1) (hK:∀A' c',K (.slice A' (n+1) c') (bU A' c' 203 fL (xs.take i++(y::xs.drop i))::R)):CT 238 #[.slice (some ⟨B,off,none⟩) n c,I6 i,.slice (some ⟨r,0,none⟩) 1 1] (bU (some ⟨B,off,none⟩) c 203 fL xs::pt r [I6 y.id,PO y.a] 203::R) K:=by
 subst hn
 have hdl:(xs.drop i).length=xs.length - i:=List.length_drop ..
 refine aJ Tryz.func238 ?_
 repeat' (first|(show aM _ _ _ _ _ _ _;first|refine oT ?_|refine d9 (sz:=2) ?_)|refine dw cS ?_|refine dw cQ ?_|refine w1m ?_|refine w5 ?_ ?_|((refine bh fun h=>?_) <;> try exact w6 h)|(refine aF fun hA=>?_;subst hA)|intro _)
 refine HE (E:=fL) (sz:=2) (tS:=170) (tR:=4) (off:=off) (j:=i+1) (fun b=>?_)
 cases b
 ·repeat' (first|(show aM _ _ _ _ _ _ _;first|refine oT ?_|refine d9 (sz:=2) ?_)|refine JE ?_|refine dw cS ?_|refine dw cQ ?_|refine w5 ?_ ?_|((refine bh fun h=>?_) <;> try exact w6 h)|(refine aF fun hA=>?_;subst hA)|intro _)
  refine rR (sz:=2) (j:=i+1) (vs:=xs.drop i) ?_ (hsrc:=Eo (sz:=2) (j:=i))
  repeat' (first|(show aM _ _ _ _ _ _ _;first|refine oT ?_|refine d9 (sz:=2) ?_)|refine JE ?_|refine dw cS ?_|refine dw cQ ?_|refine w5 ?_ ?_|((refine bh fun h=>?_) <;> try exact w6 h)|(refine aF fun hA=>?_;subst hA)|intro _)
  refine rR (sz:=2) (j:=i) (vs:= [y]) ?_ (hsrc:=w7)
  repeat' (first|(show aM _ _ _ _ _ _ _;first|refine oT ?_|refine d9 (sz:=2) ?_)|refine JE ?_|refine dw cS ?_|refine dw cQ ?_|refine w5 ?_ ?_|((refine bh fun h=>?_) <;> try exact w6 h)|(refine aF fun hA=>?_;subst hA)|intro _)
  (refine aC ?_;exact aQ (aG.trans (by exact bE) ((Uq (XA hi rfl)))) ((kv (hK _ _) (El (by omega) (by omega) (by omega)))))
 ·repeat' (first|(show aM _ _ _ _ _ _ _;first|refine oT ?_|refine d9 (sz:=2) ?_)|refine JE ?_|refine dw cS ?_|refine dw cQ ?_|refine w5 ?_ ?_|((refine bh fun h=>?_) <;> try exact w6 h)|(refine aF fun hA=>?_;subst hA)|intro _)
  refine rR (sz:=2) (j:=xs.length) (vs:= [y]) ?_ (hsrc:=w7)
  repeat' (first|(show aM _ _ _ _ _ _ _;first|refine oT ?_|refine d9 (sz:=2) ?_)|refine JE ?_|refine dw cS ?_|refine dw cQ ?_|refine w5 ?_ ?_|((refine bh fun h=>?_) <;> try exact w6 h)|(refine aF fun hA=>?_;subst hA)|intro _|(show aA _ 297 _ _ _;refine CA (h:=Aa6 (xs:=xs.take xs.length++([y]++xs.drop (xs.length+ [y].length))) (P:=xs.take i) (D:=xs.drop i) (y:=y) (lo:=i) (by rw[List.take_of_length_le (Nat.le_refl _),List.drop_eq_nil_of_le (by simp),List.append_nil,<- List.append_assoc,List.take_append_drop]) (by rw[List.length_take];omega) (by rw[hdl];omega) (by omega) (vS (by omega)) (by simp only[List.length_append,List.length_take,List.length_drop,List.length_cons,List.length_nil];omega) ?_)))
  all_goals(refine aC ?_;exact aB ((kv (hK (some ⟨B,off,none⟩) c) (El (by omega) (by omega) (by omega)))))
theorem Ag5 {xs:List jR} {y:jR} (hn:xs.length=n) (hi:i<=n) (hs:n<=1000) (hK:∀A' c',K (.slice A' (n+1) c') (bU A' c' 203 fL (xs.take i++(y::xs.drop i))::R)):CT 238 #[.slice A n c,I6 i,.slice (some ⟨r,0,none⟩) 1 1] (bU A c 203 fL xs::pt r [I6 y.id,PO y.a] 203::R) K:=by
 refine iJ aS.here fun hc=>?_
 subst hn
 rcases Nat.lt_or_ge i xs.length with hlt|hge
 ·refine pV aS.here (by omega) fun B off hA=>?_
  subst hA
  by_cases hroom:(c:Int)<(xs.length:Int)+1
  ·exact Z2 rfl hlt hs hc hroom hK
  ·exact Acr rfl hlt hs hc hroom hK
 ·have hi':i=xs.length:=by omega
  subst hi'
  rw[List.take_of_length_le (Nat.le_refl _),List.drop_eq_nil_of_le (Nat.le_refl _)] at hK
  refine aJ Tryz.func238 ?_
  repeat' (first|(show aM _ _ _ _ _ _ _;first|(refine mX ?_;intro A1 hA1)|(refine cN (E:=fL) (xs:=xs) (ys:= [y]) ?_ (hsrc:=vI);intro A2 c2))|refine JE ?_|refine dw cS ?_|refine dw cQ ?_|refine w5 ?_ ?_|((refine bh fun h=>?_) <;> try exact w6 h)|(refine aF fun hA=>?_;subst hA)|intro _)
  all_goals(refine aC ?_;exact aB ((by rw[List.length_append];exact hK _ _)))
end
def TrW (s:eS):Prop:=∀id,dZ id s.1=true->1<=(dD id s).w/\(dD id s).w<=256
def Nh (s:eS):Prop:=(s.1.map KE.k).Nodup
def p7 (s:eS):List Int->Int
 | []=>0
 |k::r=>(dD k s).w+p7 s r
def Er (w xw all:Int):Int:=max 1 (w * xw / all)
def oY (on xw all:Int):List Int->eS->eS
 | [],s=>s
 |k::r,s=>oY on xw all r (fK k ⟨on,Er (dD k s).w xw all⟩ s)
def yO (id:Int) (s:eS):eS:=if dZ id s.1=true then(mO id (oY (dD id s).on (dD id s).w (p7 s (cC id s.1)) (cC id s.1) s).1,(oY (dD id s).on (dD id s).w (p7 s (cC id s.1)) (cC id s.1) s).2) else s
theorem Au:k∈MG l↔k∈l:=(List.mergeSort_perm l _).mem_iff
theorem Un (h:l.Nodup):(MG l).Nodup:=(List.mergeSort_perm l _).nodup_iff.2 h
theorem Bp (h:Nh s):(cC id s.1).Nodup:=Un (List.Nodup.sublist ((List.filter_sublist ..).map _) h)
theorem LZ {e:KE Nd}:∀ {l:List (KE Nd)},(l.map KE.k).Nodup->e∈l->gM e.k l=some e.v
 | [],_,h=>by cases h
 |z::r,hnd,h=>by
  rw[List.map_cons] at hnd
  obtain⟨h1,h2⟩:=List.nodup_cons.1 hnd
  unfold gM
  rcases List.mem_cons.1 h with rfl|h
  ·rw[if_pos rfl]
  ·rw[if_neg (fun q=>h1 (by rw[<- q];exact List.mem_map_of_mem h)),LZ h2 h]
theorem kZ (h:Nh s) (hk:k∈cC id s.1):dZ k s.1=true/\(dD k s).on=id:=by
 unfold cC at hk
 rw[Au] at hk
 obtain⟨e,he,rfl⟩:=List.mem_map.1 hk
 obtain⟨h1,h2⟩:=List.mem_filter.1 he
 have:=LZ h h1
 exact⟨by unfold dZ;rw[this];rfl,by unfold dD;rw[this];simpa using h2⟩
theorem Hz {j:Int} {n:Nd}:dD j (fK id n s)=if j=id then n else dD j s:=by
 unfold dD fK
 simp only
 rw[HM]
 split <;> rfl
theorem H6 {s:eS} (h:TrW s):∀ {l:List Int},(∀k∈l,dZ k s.1=true)->(l.length:Int)<=p7 s l/\p7 s l<=256 * l.length
 | [],_=>by simp[p7]
 |k::r,hh=>by
  have h1:=h k (hh k (List.mem_cons_self ..))
  have h2:=H6 h (l:=r) fun z hz=>hh z (List.mem_cons_of_mem _ hz)
  simp only[p7,List.length_cons]
  omega
theorem YV (h:ks[j]?=some k):p7 s (ks.drop j)=(dD k s).w+p7 s (ks.drop (j+1)):=by
 have hj:=(List.getElem?_eq_some_iff.1 h).1
 rw[List.drop_eq_getElem_cons hj,(List.getElem?_eq_some_iff.1 h).2]
 rfl
theorem ZM (h:ks[j]?=some k):oY on xw all (ks.drop j) s=oY on xw all (ks.drop (j+1)) (fK k ⟨on,Er (dD k s).w xw all⟩ s):=by
 have hj:=(List.getElem?_eq_some_iff.1 h).1
 rw[List.drop_eq_getElem_cons hj,(List.getElem?_eq_some_iff.1 h).2]
 rfl
section
variable {r:Int->Nat}
theorem Q3 (hw:0<=w/\w<=100000) (hx:0<=xw/\xw<=100000) (ha:0<all) (hK:K (I6 (Er w xw all)) (pt r5 [I6 on,I6 xw] 314::pt r7 [I6 all] 3::R)):CT 309 #[I6 w,PO r5,PO r7] (pt r5 [I6 on,I6 xw] 314::pt r7 [I6 all] 3::R) K:=by
 have h1:0<=w * xw:=Int.mul_nonneg hw.1 hx.1
 have h2:w * xw<=100000 * 100000:=Int.mul_le_mul hw.2 hx.2 hx.1 (by omega)
 have hq1:0<=w * xw / all:=Int.ediv_nonneg h1 (by omega)
 have hq2:w * xw / all<=w * xw:=Int.ediv_le_self all h1
 have hm:IntKind.wrap .i64 (w * xw / all)=w * xw / all:=uT (by omega) (by omega)
 refine aJ Tryz.func309 ?_
 repeat' (first|refine v43 ?_|refine w5 ?_ ?_|((refine bh fun h=>?_) <;> try exact w6 h)|(refine aF fun hA=>?_;subst hA)|intro _)
 all_goals(refine aC ?_;exact aB (hK))
def eZ:List (Nat×Nat):= [(1,0),(2,0),(3,0),(4,0),(5,0),(6,1),(0,1),(7,0),(8,0),(9,1)]
def fB:List (Nat×Nat):= [(8,0),(9,0),(10,0),(11,0),(12,0),(13,1),(7,1),(14,0),(15,1),(0,2),(1,2),(2,2),(3,2),(4,2),(5,2),(6,2),(16,0),(17,1)]
theorem NF (hok:Qe s.1 s.2) (hl:s.1.length<=1000) (hw:TrW s) (hn:Nh s) (hK:∀v,K v (pt p [I6 most,.map (some q)] 175::mp q (kM qW (yO id s).1) (yO id s).2::R)):CT 253 #[PO p,I6 id] (pt p [I6 most,.map (some q)] 175::mp q (kM qW s.1) s.2::R) K:=by
 cases h1:dZ id s.1
 ·have e:yO id s=s:=by unfold yO;rw[h1,if_neg (by decide)]
  rw[e] at hK
  refine aJ Tryz.func253 ?_
  repeat' (first|refine Xv ?_|refine dw eZ ?_|refine dw fB ?_|refine w5 ?_ ?_|((refine bh fun h=>?_) <;> try exact w6 h)|(refine aF fun hA=>?_;subst hA)|intro _|(show aA _ 240 _ _ _;refine CA (h:=fR ?_);rw[h1]))
  all_goals(refine aC ?_;exact aB (hK _))
 ·have hx:=hw id h1
  have hnd:=Bp (id:=id) hn
  have hkh:∀k∈cC id s.1,dZ k s.1=true:=fun k hk=>(kZ hn hk).1
  have hkl:(cC id s.1).length<=1000:=by
   unfold cC
   rw[Am,List.length_map]
   exact Nat.le_trans (List.length_filter_le _ _) hl
  have hal:=H6 hw hkh
  have e:yO id s=(mO id (oY (dD id s).on (dD id s).w (p7 s (cC id s.1)) (cC id s.1) s).1,(oY (dD id s).on (dD id s).w (p7 s (cC id s.1)) (cC id s.1) s).2):=by unfold yO;rw[h1,if_pos rfl]
  rw[e] at hK
  have hxe:(gM id s.1).getD ⟨0,0⟩=dD id s:=rfl
  generalize hks:cC id s.1=ks at hK hnd hkh hkl hal
  generalize hxo:dD id s=X at hK hx hxe
  generalize hA:p7 s ks=AL at hK hal
  refine aJ Tryz.func253 ?_
  repeat' (first|refine Xv ?_|refine dw eZ ?_|refine dw fB ?_|refine w5 ?_ ?_|((refine bh fun h=>?_) <;> try exact w6 h)|(refine aF fun hA=>?_;subst hA)|intro _|(show aA _ 240 _ _ _;refine CA (h:=fR ?_);rw[h1])|(show aM _ _ _ _ _ _ _;first|(refine jO ?_ (hv:=qC);simp only[qW];rw[hxe])|refine iQ ?_)|(show aA _ 290 _ _ _;refine CA (h:=Ba hok (by omega) (fun A c=>?_));rw[hks]))
  rename_i r5 r7
  refine iH (fun kk a C'=>∃(j:Nat) (acc:Int),j+kk=ks.length/\acc+p7 s (ks.drop j)=AL/\0<=acc/\acc<=256 * j/\cW a [(0,PO p),(1,I6 id),(5,PO r5),(6,.slice A ks.length c),(7,PO r7),(30,.slice A ks.length c),(31,I6 ks.length),(32,I6 j)]/\C'=pt r7 [I6 acc] 3::bU A c 3 mI ks::pt p [I6 most,.map (some q)] 175::mp q (kM qW s.1) s.2::pt r5 [I6 X.on,I6 X.w] 314::R) ks.length (cG ks.length ⟨0,0,by omega,by rw[List.drop_zero,hA];omega,by omega,by omega,⟨rfl,rfl,rfl,rfl,rfl,rfl,rfl,rfl,trivial⟩,rfl⟩ (by omega)) ?_
  rintro kk a C' ⟨j,acc,hj,hac,h0,h2,ha,rfl⟩
  refine gJ _ ha ?_
  simp only[fF]
  by_cases hlt:j<ks.length
  ·obtain⟨k,hk⟩:∃k,ks[j]?=some k:=⟨_,List.getElem?_eq_getElem hlt⟩
   have hk':ks[((j:Nat):Int).toNat]?=some k:=by rw[Int.toNat_natCast];exact hk
   have hkw:=hw k (hkh k (List.mem_of_getElem? hk))
   rw[YV hk] at hac
   have hke:(gM k s.1).getD ⟨0,0⟩=dD k s:=rfl
   repeat' (first|refine Xv ?_|refine dw eZ ?_|refine dw fB ?_|refine w5 ?_ ?_|((refine bh fun h=>?_) <;> try exact w6 h)|(refine aF fun hA=>?_;subst hA)|intro _|(show aM _ _ _ _ _ _ _;first|(refine jO ?_ (hv:=qC);simp only[qW];rw[hke])|refine iQ ?_))
   all_goals(show aZ _ _ _ _;exact cG (kk - 1) ⟨j+1,acc+(dD k s).w,by omega,by omega,by omega,by omega,⟨rfl,rfl,rfl,rfl,rfl,rfl,rfl,rfl,trivial⟩,rfl⟩)
  ·have hd:ks.drop j= []:=List.drop_eq_nil_of_le (by omega)
   rw[hd] at hac
   simp only[p7] at hac
   obtain rfl:acc=AL:=by omega
   repeat' (first|refine Xv ?_|refine dw eZ ?_|refine dw fB ?_|refine w5 ?_ ?_|((refine bh fun h=>?_) <;> try exact w6 h)|(refine aF fun hA=>?_;subst hA)|intro _)
   refine iH (fun kk a C'=>∃(j:Nat) (s':eS),j+kk=ks.length/\oY X.on X.w acc (ks.drop j) s'=oY X.on X.w acc ks s/\(∀k∈ks.drop j,dD k s'=dD k s)/\cW a [(0,PO p),(1,I6 id),(5,PO r5),(7,PO r7),(10,.func (.func 309) #[] #[PO r5,PO r7]),(47,.slice A ks.length c),(48,I6 ks.length),(49,I6 j)]/\C'=pt r7 [I6 acc] 3::bU A c 3 mI ks::pt p [I6 most,.map (some q)] 175::mp q (kM qW s'.1) s'.2::pt r5 [I6 X.on,I6 X.w] 314::R) ks.length (cG ks.length ⟨0,s,by omega,rfl,(fun _ _=>rfl),⟨rfl,rfl,rfl,rfl,rfl,rfl,rfl,rfl,trivial⟩,rfl⟩ (by omega)) ?_
   rintro kk a C' ⟨j,s',hj,hs',hsame,ha,rfl⟩
   refine gJ _ ha ?_
   simp only[fF]
   by_cases hlt:j<ks.length
   ·obtain⟨k,hk⟩:∃k,ks[j]?=some k:=⟨_,List.getElem?_eq_getElem hlt⟩
    have hk':ks[((j:Nat):Int).toNat]?=some k:=by rw[Int.toNat_natCast];exact hk
    have hkw:=hw k (hkh k (List.mem_of_getElem? hk))
    have hdr:ks.drop j=k::ks.drop (j+1):=by rw[List.drop_eq_getElem_cons hlt,(List.getElem?_eq_some_iff.1 hk).2]
    have hks':=hsame k (by rw[hdr];exact List.mem_cons_self ..)
    rw[ZM hk] at hs'
    have hnk:k ∉ ks.drop (j+1):=by
     have:=List.Nodup.sublist (List.drop_sublist j ks) hnd
     rw[hdr] at this
     exact(List.nodup_cons.1 this).1
    have hsm:∀z∈ks.drop (j+1),dD z (fK k ⟨X.on,Er (dD k s').w X.w acc⟩ s')=dD z s:=fun z hz=>by
     rw[Hz,if_neg (fun e:z=k=>hnk (e▸hz))]
     exact hsame z (by rw[hdr];exact List.mem_cons_of_mem _ hz)
    have hke:(gM k s'.1).getD ⟨0,0⟩=dD k s':=rfl
    rw[<- hks'] at hkw
    simp only[fK] at hs' hsm
    repeat' (first|refine Xv ?_|refine dw eZ ?_|refine dw fB ?_|refine w5 ?_ ?_|((refine bh fun h=>?_) <;> try exact w6 h)|(refine aF fun hA=>?_;subst hA)|intro _|(show aM _ _ _ _ _ _ _;first|(refine jO ?_ (hv:=qC);simp only[qW];rw[hke])|refine iQ ?_|refine kQ ?_ (hv:=OD (enc:=qW) (v:=⟨X.on,Er (dD k s').w X.w acc⟩)) (hu:=by exact rfl))|(show aA _ 309 _ _ _;refine CA (h:=Q3 (by omega) (by omega) (by omega) ?_)))
    all_goals(show aZ _ _ _ _;exact cG (kk - 1) ⟨j+1,_,by omega,hs',hsm,⟨rfl,rfl,rfl,rfl,rfl,rfl,rfl,rfl,trivial⟩,rfl⟩)
   ·have hd:ks.drop j= []:=List.drop_eq_nil_of_le (by omega)
    rw[hd] at hs'
    simp only[oY] at hs'
    subst hs'
    repeat' (first|refine Xv ?_|refine dw eZ ?_|refine dw fB ?_|refine w5 ?_ ?_|((refine bh fun h=>?_) <;> try exact w6 h)|(refine aF fun hA=>?_;subst hA)|intro _|(show aM _ _ _ _ _ _ _;first|refine G_delete ?_ (hv:=XK)|refine J5 ?_ (hv:=XK)))
    all_goals(refine aC ?_;exact aB (hK _))
end
end Go.Proofs.YtffnpejdkkohcaaGreat
