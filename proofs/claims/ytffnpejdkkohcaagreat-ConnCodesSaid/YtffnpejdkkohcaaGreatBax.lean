/- A part of the proof: lemmas; each with the conditions that it states. -/
import Derived.Test.YtffnpejdkkohcaaGreatBbc
set_option linter.unusedVariables false
set_option linter.unusedSimpArgs false
set_option maxRecDepth 100000
set_option maxHeartbeats 40000000
namespace Go.Proofs.YtffnpejdkkohcaaGreat
open Go Go.Proofs Go.Sl
attribute [local irreducible] aM eY cU bQ aL aW aA dS dT aZ dR pt ro fN star sep bH
attribute [local irreducible] mp FV
variable {R C:List HP} {K:KP} {i c p r2 r3 j w0 w q:Nat} {A:Option Addr} {most t m k b:Int} {z:iA×Int} {X Y Z:HP} {lv:List Int}
section
theorem Ya {α:Type} {xs:List α} (hi:i<xs.length):xs.take i++(xs.drop (i+1)++xs.drop (i+(xs.drop (i+1)).length))=xs.eraseIdx i++xs.drop (i+(xs.drop (i+1)).length):=by
 rw[List.eraseIdx_eq_take_drop_succ,List.append_assoc]
variable {r n:Nat}
def rM:List (Nat×Nat):= [(0,0),(1,0),(2,0),(3,0),(4,0),(5,0),(6,1),(7,0)]
theorem Adp {xs:List iA} (hn:xs.length=n) (hi:i<n) (hs:n<=1000) (hK:∀A' c',K (.slice A' (n - 1) c') (bU A' c' 270 wO (xs.eraseIdx i)::R)):CT 310 #[.slice A n c,I6 i,I6 ((i:Int)+1)] (bU A c 270 wO xs::R) K:=by
 refine iJ aS.here fun hc=>?_
 subst hn
 refine pV aS.here (by omega) fun B off hA=>?_
 subst hA
 have hdl:(xs.drop (i+1)).length=xs.length - (i+1):=List.length_drop ..
 have hel:(xs.eraseIdx i).length=xs.length - 1:=by rw[List.length_eraseIdx,if_pos hi]
 refine aJ Tryz.func310 ?_
 repeat' (first|(show aM _ _ _ _ _ _ _;first|refine d9 (sz:=3) ?_|(refine mX (sz:=3) ?_;intro A1 hA1))|refine v9 ?_|refine dw rM ?_|refine w5 ?_ ?_|((refine bh fun h=>?_) <;> try exact w6 h)|(refine aF fun hA=>?_;subst hA)|intro _)
 refine Ko (sz:=3) (j:=i) (N:=xs.length - 1) (vs:=xs.drop (i+1)) ?_ (hsrc:=Tq eA hA1 rfl (by omega) (by omega) (by omega) (by omega))
 repeat' (first|(show aM _ _ _ _ _ _ _;refine d9 (sz:=3) ?_)|refine v9 ?_|refine dw rM ?_|refine w5 ?_ ?_|((refine bh fun h=>?_) <;> try exact w6 h)|(refine aF fun hA=>?_;subst hA)|intro _)
 refine PN (sz:=3) (xs:=xs.eraseIdx i) ?_ (Ya hi) (hA:=vS (by rw[hel];omega)) (hk0:=by rw[List.length_drop,hdl];omega)
 repeat' (first|refine v9 ?_|refine dw rM ?_|refine w5 ?_ ?_|((refine bh fun h=>?_) <;> try exact w6 h)|(refine aF fun hA=>?_;subst hA)|intro _)
 all_goals(refine aC ?_;exact aB (hK _ _))
def rD:List (Nat×Nat):= [(0,0),(1,0),(2,0),(3,0),(4,0),(5,0),(6,1),(7,0)]
theorem Aez {xs:List jR} (hn:xs.length=n) (hi:i<n) (hs:n<=1000) (hK:∀A' c',K (.slice A' (n - 1) c') (bU A' c' 203 fL (xs.eraseIdx i)::R)):CT 308 #[.slice A n c,I6 i,I6 ((i:Int)+1)] (bU A c 203 fL xs::R) K:=by
 refine iJ aS.here fun hc=>?_
 subst hn
 refine pV aS.here (by omega) fun B off hA=>?_
 subst hA
 have hdl:(xs.drop (i+1)).length=xs.length - (i+1):=List.length_drop ..
 have hel:(xs.eraseIdx i).length=xs.length - 1:=by rw[List.length_eraseIdx,if_pos hi]
 refine aJ Tryz.func308 ?_
 repeat' (first|(show aM _ _ _ _ _ _ _;first|refine d9 (sz:=2) ?_|(refine mX (sz:=2) ?_;intro A1 hA1))|refine v9 ?_|refine dw rD ?_|refine w5 ?_ ?_|((refine bh fun h=>?_) <;> try exact w6 h)|(refine aF fun hA=>?_;subst hA)|intro _)
 refine Ko (sz:=2) (j:=i) (N:=xs.length - 1) (vs:=xs.drop (i+1)) ?_ (hsrc:=Tq eA hA1 rfl (by omega) (by omega) (by omega) (by omega))
 repeat' (first|(show aM _ _ _ _ _ _ _;refine d9 (sz:=2) ?_)|refine v9 ?_|refine dw rD ?_|refine w5 ?_ ?_|((refine bh fun h=>?_) <;> try exact w6 h)|(refine aF fun hA=>?_;subst hA)|intro _)
 refine PN (sz:=2) (xs:=xs.eraseIdx i) ?_ (Ya hi) (hA:=vS (by rw[hel];omega)) (hk0:=by rw[List.length_drop,hdl];omega)
 repeat' (first|refine v9 ?_|refine dw rD ?_|refine w5 ?_ ?_|((refine bh fun h=>?_) <;> try exact w6 h)|(refine aF fun hA=>?_;subst hA)|intro _)
 all_goals(refine aC ?_;exact aB (hK _ _))
end
def lb (t:Int) (l:List jR):Nat:=(l.takeWhile fun e=>decide (e.id<t)).length
def U6 (t:Int) (l:List jR):Bool:=match l[lb t l]? with
 |some e=>decide (e.id=t)
 |none=>false
theorem TE (t:Int):∀l:List jR,lb t l<=l.length
 | []=>Nat.le_refl _
 |e::r=>by
  unfold lb
  rw[List.takeWhile_cons]
  split
  ·have:=TE t r;unfold lb at this;simp;omega
  ·simp
theorem TN {t:Int}:∀ {l:List jR} {j:Nat} {e:jR},l.Pairwise (fun a b=>a.id<b.id)->l[j]?=some e->(e.id<t↔j<lb t l)
 | [],_,_,_,h=>by cases h
 |z::r,0,e,_,h=>by
  cases h
  unfold lb
  rw[List.takeWhile_cons]
  split
  ·rename_i hz;simp at hz;simp[hz]
  ·rename_i hz;simp at hz;simp;omega
 |z::r,j+1,e,hp,h=>by
  have hp':=(List.pairwise_cons.1 hp)
  have h':r[j]?=some e:=by simpa using h
  have ih:=TN (t:=t) hp'.2 h'
  unfold lb at ih ⊢
  rw[List.takeWhile_cons]
  split
  ·rw[ih];simp
  ·rename_i hz
   have:=hp'.1 e (List.mem_of_getElem? h')
   simp at hz
   simp
   omega
section
variable {l:List jR} {e:jR}
theorem wY (hK:K (I6 (l.length:Nat)) (pt p [I6 most,.slice A l.length c] 172::R)):CT 61 #[PO p] (pt p [I6 most,.slice A l.length c] 172::R) K:=by
 refine aJ Tryz.func61 ?_
 repeat' (first|refine v4 ?_|refine w5 ?_ ?_|((refine bh fun h=>?_) <;> try exact w6 h)|(refine aF fun hA=>?_;subst hA)|intro _)
 all_goals(refine aC ?_;exact aB (hK))
theorem Aa4 (h:1<=most/\most<=1024) (hK:∀p,K (.tuple #[PO p,I6 0]) (pt p [I6 most,.slice none 0 0] 172::R)):CT 33 #[I6 most] R K:=by
 refine aJ Tryz.func33 ?_
 repeat' (first|refine v6 ?_|refine w5 ?_ ?_|((refine bh fun h=>?_) <;> try exact w6 h)|(refine aF fun hA=>?_;subst hA)|intro _)
 all_goals(refine aC ?_;exact aB (hK _))
def BK:List (Nat×Nat):= [(0,0),(1,0),(2,0),(3,0),(4,0),(5,0),(6,0),(7,0),(8,0),(9,0),(10,0)]
theorem Ht {b:Bool} (hi:l[i]?=some e) (hb:decide (e.id<t)=b) (hK:K (.bool b) (pt r2 [PO p] 82::pt r3 [I6 t] 3::pt p [I6 most,.slice A l.length c] 172::bU A c 203 fL l::R)):CT 292 #[I6 i,PO r2,PO r3] (pt r2 [PO p] 82::pt r3 [I6 t] 3::pt p [I6 most,.slice A l.length c] 172::bU A c 203 fL l::R) K:=by
 subst hb
 have hlt:=(List.getElem?_eq_some_iff.1 hi).1
 have hi':l[((i:Nat):Int).toNat]?=some e:=by rw[Int.toNat_natCast];exact hi
 refine aJ Tryz.func292 ?_
 repeat' (first|refine v29 ?_|refine dw BK ?_|refine w5 ?_ ?_|((refine bh fun h=>?_) <;> try exact w6 h)|(refine aF fun hA=>?_;subst hA)|intro _)
 all_goals(refine aC ?_;exact aB (hK))
theorem Aiy (h:i<=j):((i:Int)+((j:Int) - i) / 2)=((i+(j - i) / 2:Nat):Int):=by omega
def iW:List (Nat×Nat):= [(2,0),(3,1),(0,1),(1,1),(4,0),(5,0),(6,0),(7,0),(8,0),(9,0),(10,0),(11,0),(12,0),(13,0),(14,0),(15,0),(16,0),(17,0),(18,0)]
theorem AY (hs:l.length<=100000) (hp:l.Pairwise fun a b=>a.id<b.id) (hK:K (.tuple #[I6 (lb t l),.bool (U6 t l)]) (pt p [I6 most,.slice A l.length c] 172::bU A c 203 fL l::R)):CT 228 #[PO p,I6 t] (pt p [I6 most,.slice A l.length c] 172::bU A c 203 fL l::R) K:=by
 have hle:=TE t l
 refine aJ Tryz.func228 ?_
 repeat' (first|refine v84 ?_|refine dw iW ?_|refine w5 ?_ ?_|((refine bh fun h=>?_) <;> try exact w6 h)|(refine aF fun hA=>?_;subst hA)|intro _|(show aA _ 61 _ _ _;refine CA (h:=wY ?_)))
 rename_i r2 r3
 refine iH (fun kk a C'=>∃(i jj:Nat),i+kk=jj/\i<=lb t l/\lb t l<=jj/\jj<=l.length/\cW a [(2,PO r2),(3,PO r3),(6,I6 i),(7,I6 jj),(8,.func (.func 292) #[] #[PO r2,PO r3])]/\C'=pt r3 [I6 t] 3::pt r2 [PO p] 82::pt p [I6 most,.slice A l.length c] 172::bU A c 203 fL l::R) l.length (cG l.length ⟨0,l.length,by omega,Nat.zero_le _,hle,Nat.le_refl _,⟨rfl,rfl,rfl,rfl,rfl,trivial⟩,rfl⟩ (by omega)) ?_
 rintro kk a C' ⟨i,jj,hk,h1,h2,h3,ha,rfl⟩
 refine gJ _ ha ?_
 simp only[fF]
 by_cases hlt:i<jj
 ·have hhalf:=Aiy (i:=i) (j:=jj) (by omega)
  obtain⟨e,he⟩:∃e,l[i+(jj - i) / 2]?=some e:=⟨_,List.getElem?_eq_getElem (by omega)⟩
  have hiff:=TN (t:=t) hp he
  by_cases hc:e.id<t
  ·have hv1:decide (e.id<t)=true:=decide_eq_true hc
   have hj:=hiff.1 hc
   repeat' (first|refine v84 ?_|refine dw iW ?_|refine w5 ?_ ?_|((refine bh fun h=>?_) <;> try exact w6 h)|(refine aF fun hA=>?_;subst hA)|intro _|(show aA _ 292 _ _ _;rw[hhalf];refine CA (h:=Ht he hv1 ?_)))
   all_goals(show aZ _ _ _ _;exact cG (kk - (i+(jj - i) / 2+1 - i)) ⟨i+(jj - i) / 2+1,jj,by omega,by omega,h2,h3,⟨rfl,rfl,congrArg (Value.int .i64) (by omega),rfl,rfl,trivial⟩,rfl⟩)
  ·have hj:¬i+(jj - i) / 2<lb t l:=fun q=>hc (hiff.2 q)
   have hv1:decide (e.id<t)=false:=decide_eq_false hc
   repeat' (first|refine v84 ?_|refine dw iW ?_|refine w5 ?_ ?_|((refine bh fun h=>?_) <;> try exact w6 h)|(refine aF fun hA=>?_;subst hA)|intro _|(show aA _ 292 _ _ _;rw[hhalf];refine CA (h:=Ht he hv1 ?_)))
   all_goals(show aZ _ _ _ _;exact cG (kk - (jj - (i+(jj - i) / 2))) ⟨i,i+(jj - i) / 2,by omega,h1,by omega,by omega,⟨rfl,rfl,rfl,rfl,rfl,trivial⟩,rfl⟩)
 ·obtain rfl:i=lb t l:=by omega
  by_cases hn:lb t l<l.length
  ·obtain⟨e,he⟩:∃e,l[lb t l]?=some e:=⟨_,List.getElem?_eq_getElem hn⟩
   have hf:U6 t l=decide (e.id=t):=by unfold U6;rw[he]
   have he':l[((lb t l:Nat):Int).toNat]?=some e:=by rw[Int.toNat_natCast];exact he
   rw[hf] at hK
   repeat' (first|refine v84 ?_|refine dw iW ?_|refine w5 ?_ ?_|((refine bh fun h=>?_) <;> try exact w6 h)|(refine aF fun hA=>?_;subst hA)|intro _|(show aA _ 61 _ _ _;refine CA (h:=wY ?_)))
   all_goals(refine aC ?_;exact aB (hK))
  ·have hf:U6 t l=false:=by unfold U6;rw[List.getElem?_eq_none (by omega)]
   rw[hf] at hK
   repeat' (first|refine v84 ?_|refine dw iW ?_|refine w5 ?_ ?_|((refine bh fun h=>?_) <;> try exact w6 h)|(refine aF fun hA=>?_;subst hA)|intro _|(show aA _ 61 _ _ _;refine CA (h:=wY ?_)))
   all_goals(refine aC ?_;exact aB (hK))
end
def Yj (t:Int) (a:Nat) (l:List jR):List jR:=l.take (lb t l)++⟨t,a⟩::l.drop (lb t l)
section
variable {a:Nat} {l:List jR} {e:jR}
theorem W3 (hs:l.length<=100000) (hp:l.Pairwise fun a b=>a.id<b.id) (hf:U6 t l=false) (hK:K (.tuple #[.pointer none,.bool false]) (pt p [I6 most,.slice A l.length c] 172::bU A c 203 fL l::R)):CT 144 #[PO p,I6 t] (pt p [I6 most,.slice A l.length c] 172::bU A c 203 fL l::R) K:=by
 refine aJ Tryz.func144 ?_
 repeat' (first|refine v41 ?_|refine w5 ?_ ?_|((refine bh fun h=>?_) <;> try exact w6 h)|(refine aF fun hA=>?_;subst hA)|intro _|(show aA _ 228 _ _ _;refine CA (h:=AY hs hp ?_);rw[hf]))
 all_goals(refine aC ?_;exact aB (hK))
theorem JZ (hs:l.length<=100000) (hp:l.Pairwise fun a b=>a.id<b.id) (hf:U6 t l=true) (he:l[lb t l]?=some e) (hK:K (.tuple #[PO e.a,.bool true]) (pt p [I6 most,.slice A l.length c] 172::bU A c 203 fL l::R)):CT 144 #[PO p,I6 t] (pt p [I6 most,.slice A l.length c] 172::bU A c 203 fL l::R) K:=by
 have hlt:=(List.getElem?_eq_some_iff.1 he).1
 have he':l[((lb t l:Nat):Int).toNat]?=some e:=by rw[Int.toNat_natCast];exact he
 refine aJ Tryz.func144 ?_
 repeat' (first|refine v41 ?_|refine w5 ?_ ?_|((refine bh fun h=>?_) <;> try exact w6 h)|(refine aF fun hA=>?_;subst hA)|intro _|(show aA _ 228 _ _ _;refine CA (h:=AY hs hp ?_);rw[hf]))
 all_goals(refine aC ?_;exact aB (hK))
def F9:List (Nat×Nat):= [(0,0),(1,0),(2,0),(3,0),(4,0),(5,0),(6,0),(7,0),(8,0),(9,0),(10,0),(11,0),(12,0),(13,0),(14,0),(15,0),(16,0),(17,0),(18,0)]
theorem Agp (hs:l.length<=100000) (he:l[i]?=some e) (hK:K (.tuple #[I6 e.id,PO e.a,.bool true]) (pt p [I6 most,.slice A l.length c] 172::bU A c 203 fL l::R)):CT 63 #[PO p,I6 i] (pt p [I6 most,.slice A l.length c] 172::bU A c 203 fL l::R) K:=by
 have hlt:=(List.getElem?_eq_some_iff.1 he).1
 have he':l[((i:Nat):Int).toNat]?=some e:=by rw[Int.toNat_natCast];exact he
 refine aJ Tryz.func63 ?_
 repeat' (first|refine v41 ?_|refine dw F9 ?_|refine w5 ?_ ?_|((refine bh fun h=>?_) <;> try exact w6 h)|(refine aF fun hA=>?_;subst hA)|intro _|(show aA _ 61 _ _ _;refine CA (h:=wY ?_)))
 all_goals(refine aC ?_;exact aB (hK))
def Cr:List (Nat×Nat):= [(0,0),(1,0),(2,0),(3,0),(4,0),(5,0),(6,0),(7,0),(8,0),(9,0),(10,0)]
theorem Acg (hs:l.length<=1000) (hp:l.Pairwise fun a b=>a.id<b.id) (hf:U6 t l=false) (hm:(l.length:Nat)<most) (hK:∀A' c',K (I6 0) (pt p [I6 most,.slice A' (l.length+1) c'] 172::bU A' c' 203 fL (Yj t a l)::R)):CT 159 #[PO p,I6 t,PO a] (pt p [I6 most,.slice A l.length c] 172::bU A c 203 fL l::R) K:=by
 have hle:=TE t l
 refine aJ Tryz.func159 ?_
 repeat' (first|refine v90 ?_|refine dw Cr ?_|refine w5 ?_ ?_|((refine bh fun h=>?_) <;> try exact w6 h)|(refine aF fun hA=>?_;subst hA)|intro _|(show aA _ 228 _ _ _;refine CA (h:=AY (by omega) hp ?_);rw[hf])|(show aA _ 238 _ _ _;refine CA (h:=Ag5 (y:=⟨t,a⟩) rfl hle hs (fun A' c'=>?_))))
 all_goals(refine aC ?_;exact aB (hK _ _))
theorem W4 (hs:l.length<=1000) (hp:l.Pairwise fun a b=>a.id<b.id) (hf:U6 t l=true) (he:l[lb t l]?=some e) (hK:∀A' c',K (.tuple #[PO e.a,.bool true]) (pt p [I6 most,.slice A' (l.length - 1) c'] 172::bU A' c' 203 fL (l.eraseIdx (lb t l))::R)):CT 252 #[PO p,I6 t] (pt p [I6 most,.slice A l.length c] 172::bU A c 203 fL l::R) K:=by
 have hlt:=(List.getElem?_eq_some_iff.1 he).1
 refine aJ Tryz.func252 ?_
 repeat' (first|refine Hf ?_|refine w5 ?_ ?_|((refine bh fun h=>?_) <;> try exact w6 h)|(refine aF fun hA=>?_;subst hA)|intro _|(show aA _ 144 _ _ _;refine CA (h:=JZ (by omega) hp hf he ?_))|(show aA _ 228 _ _ _;refine CA (h:=AY (by omega) hp ?_);rw[hf])|(show aA _ 308 _ _ _;refine CA (h:=Aez rfl hlt (by omega) (fun A' c'=>?_))))
 all_goals(refine aC ?_;exact aB (hK _ _))
theorem Acf (hs:l.length<=100000) (hK:∀B d,K (.slice B l.length d) (bU B d 3 mI (l.map jR.id)::pt p [I6 most,.slice A l.length c] 172::bU A c 203 fL l::R)):CT 69 #[PO p] (pt p [I6 most,.slice A l.length c] 172::bU A c 203 fL l::R) K:=by
 refine aJ Tryz.func69 ?_
 repeat' (first|refine v45 ?_|refine w5 ?_ ?_|((refine bh fun h=>?_) <;> try exact w6 h)|(refine aF fun hA=>?_;subst hA)|intro _|(show aA _ 61 _ _ _;refine CA (h:=wY ?_)))
 refine nN (aG.nilrow 3 mI _) ?_
 refine iH (fun kk a C'=>∃(j:Nat) (B:Option Addr) (d:Nat),j+kk=l.length/\cW a [(0,PO p),(3,.slice B ((l.take j).map jR.id).length d),(6,I6 l.length),(7,I6 j)]/\C'=bU B d 3 mI ((l.take j).map jR.id)::pt p [I6 most,.slice A l.length c] 172::bU A c 203 fL l::R) l.length (cG l.length ⟨0,none,0,by omega,⟨rfl,rfl,rfl,rfl,trivial⟩,rfl⟩ (by omega)) ?_
 rintro kk a C' ⟨j,B,d,hj,ha,rfl⟩
 refine gJ _ ha ?_
 simp only[fF]
 by_cases hlt:j<l.length
 ·obtain⟨e,he⟩:∃e,l[j]?=some e:=⟨_,List.getElem?_eq_getElem hlt⟩
  have he':l[((j:Nat):Int).toNat]?=some e:=by rw[Int.toNat_natCast];exact he
  have hl:((l.take j).map jR.id).length<=100000:=by rw[List.length_map,List.length_take];omega
  have hn:(l.take j).map jR.id++ [e.id]=(l.take (j+1)).map jR.id:=by rw[List.take_add_one,he];simp
  repeat' (first|(show aM _ _ _ _ _ _ _;(refine cN (E:=mI) (xs:=(l.take j).map jR.id) (ys:= [e.id]) ?_;intro _ _))|refine v45 ?_|refine w5 ?_ ?_|((refine bh fun h=>?_) <;> try exact w6 h)|(refine aF fun hA=>?_;subst hA)|intro _)
  all_goals rw[hn]
  all_goals(show aZ _ _ _ _;exact cG (kk - 1) ⟨j+1,_,_,by omega,⟨rfl,rfl,rfl,rfl,trivial⟩,rfl⟩)
 ·have hjl:j=l.length:=by omega
  subst hjl
  rw[List.take_length]
  simp only[List.length_map]
  repeat' (first|refine v45 ?_|refine w5 ?_ ?_|((refine bh fun h=>?_) <;> try exact w6 h)|(refine aF fun hA=>?_;subst hA)|intro _)
  all_goals(refine aC ?_;exact aB (hK _ _))
end
section
variable {n:Nat} {sp n0:Int} {l:List iA} {e:iA}
theorem uR (hs:l.length<=100000) (hp:l.Pairwise fun a b=>a.id<b.id) (hK:K (.tuple #[I6 (AM t l),.bool (Md t l)]) (pt p [PO w0,I6 sp,.slice A l.length c] 181::bU A c 270 wO l::R)):CT 243 #[PO p,I6 t] (pt p [PO w0,I6 sp,.slice A l.length c] 181::bU A c 270 wO l::R) K:=by
 refine aJ Tryz.func243 ?_
 repeat' (first|refine Y9 ?_|refine w5 ?_ ?_|((refine bh fun h=>?_) <;> try exact w6 h)|(refine aF fun hA=>?_;subst hA)|intro _|(show aA _ 298 _ _ _;refine CA (h:=MS (l:=l) (by exact kU) rfl hs hp ?_)))
 all_goals(refine aC ?_;exact aB (hK))
theorem Kq (hs:l.length<=100000) (hp:l.Pairwise fun a b=>a.id<b.id) (hf:Md t l=false) (hK:K (.tuple #[.pointer none,I6 7]) (pt p [PO w0,I6 sp,.slice A l.length c] 181::bU A c 270 wO l::R)):CT 212 #[PO p,I6 t] (pt p [PO w0,I6 sp,.slice A l.length c] 181::bU A c 270 wO l::R) K:=by
 refine aJ Tryz.func212 ?_
 repeat' (first|refine v41 ?_|refine w5 ?_ ?_|((refine bh fun h=>?_) <;> try exact w6 h)|(refine aF fun hA=>?_;subst hA)|intro _|(show aA _ 243 _ _ _;refine CA (h:=uR hs hp ?_);rw[hf]))
 all_goals(refine aC ?_;exact aB (hK))
theorem Ahz (h:Md t l=true):∃e,l[AM t l]?=some e/\e.id=t/\AM t l<l.length:=by
 unfold Md at h
 cases he:l[AM t l]? with
 |none=>rw[he] at h;cases h
 |some e=>
  rw[he] at h
  exact⟨e,rfl,by simpa using h,(List.getElem?_eq_some_iff.1 he).1⟩
theorem Ff (hs:l.length<=100000) (hp:l.Pairwise fun a b=>a.id<b.id) (hf:Md t l=true) (hK:∀B off,A=some ⟨B,off,none⟩->K (.tuple #[.pointer (some ⟨B,off+AM t l * 3,none⟩),I6 0]) (pt p [PO w0,I6 sp,.slice A l.length c] 181::bU A c 270 wO l::R)):CT 212 #[PO p,I6 t] (pt p [PO w0,I6 sp,.slice A l.length c] 181::bU A c 270 wO l::R) K:=by
 obtain⟨e,he,_,hlt⟩:=Ahz hf
 refine pV (aS.there aS.here) (by omega) fun B off hA=>?_
 subst hA
 refine aJ Tryz.func212 ?_
 repeat' (first|refine v41 ?_|refine w5 ?_ ?_|((refine bh fun h=>?_) <;> try exact w6 h)|(refine aF fun hA=>?_;subst hA)|intro _|(show aA _ 243 _ _ _;refine CA (h:=uR hs hp ?_);rw[hf]))
 all_goals(refine aC ?_;exact aB (hK _ _ rfl))
def nR:List (Nat×Nat):= [(0,0),(1,0),(2,0),(3,0),(4,1),(5,1),(6,1),(7,1),(8,1),(9,1),(10,0),(11,0)]
theorem V6 (hs:l.length<=100000) (hp:l.Pairwise fun a b=>a.id<b.id) (hf:Md t l=false) (hK:K (I6 0) (pt p [PO w0,I6 sp,.slice A l.length c] 181::bU A c 270 wO l::R)):CT 135 #[PO p,I6 t] (pt p [PO w0,I6 sp,.slice A l.length c] 181::bU A c 270 wO l::R) K:=by
 refine aJ Tryz.func135 ?_
 repeat' (first|refine v35 ?_|refine dw nR ?_|refine w5 ?_ ?_|((refine bh fun h=>?_) <;> try exact w6 h)|(refine aF fun hA=>?_;subst hA)|intro _|(show aA _ 212 _ _ _;refine CA (h:=Kq hs hp hf ?_)))
 all_goals(refine aC ?_;exact aB (hK))
theorem K3 (hs:l.length<=100000) (hp:l.Pairwise fun a b=>a.id<b.id) (hf:Md t l=true) (he:l[AM t l]?=some e) (hK:K (I6 (min (max m 0) (max n0 0))) (pt p [PO w0,I6 sp,.slice A l.length c] 181::bU A c 270 wO l::sV w0 n0::sV e.w m::R)):CT 135 #[PO p,I6 t] (pt p [PO w0,I6 sp,.slice A l.length c] 181::bU A c 270 wO l::sV w0 n0::sV e.w m::R) K:=by
 refine pV (aS.there aS.here) (by have:=(List.getElem?_eq_some_iff.1 he).1;omega) fun B off hA=>?_
 subst hA
 refine aJ Tryz.func135 ?_
 repeat' (first|refine v35 ?_|refine dw nR ?_|refine w5 ?_ ?_|((refine bh fun h=>?_) <;> try exact w6 h)|(refine aF fun hA=>?_;subst hA)|intro _|(show aA _ 212 _ _ _;refine CA (h:=Ff hs hp hf (fun B' off' hA'=>?_))))
 cases hA'
 repeat' (first|refine v35 ?_|refine dw nR ?_|refine w5 ?_ ?_|((refine bh fun h=>?_) <;> try exact w6 h)|(refine aF fun hA=>?_;subst hA)|intro _|(show aA _ 213 _ _ _;first|refine CA (h:=xE (p:=e.w) ?_)|refine CA (h:=xE ?_)))
 all_goals(refine aC ?_;exact aB (hK))
end
section
variable {n:Nat} {sp n0:Int} {l:List iA} {e:iA}
theorem VL (hs:l.length<=100000) (hp:l.Pairwise fun a b=>a.id<b.id) (hf:Md t l=true) (he:l[AM t l]?=some e) (hk:0<=k) (hkf:k<=min (max m 0) (max n0 0)) (hm:-4294967296<=m/\m<=4294967296) (hn:-4294967296<=n0/\n0<=4294967296) (hsp:0<=sp/\sp<=1000000000000) (hes:0<=e.sp/\e.sp<=1000000000000)
  (hK:K (I6 0) (pt p [PO w0,I6 (sp+k),.slice A l.length c] 181::bU A c 270 wO (l.set (AM t l) ⟨e.id,e.w,e.sp+k⟩)::sV w0 (n0 - k)::sV e.w (m - k)::R)):CT 146 #[PO p,I6 t,I6 k] (pt p [PO w0,I6 sp,.slice A l.length c] 181::bU A c 270 wO l::sV w0 n0::sV e.w m::R) K:=by
 have e1:o8 m k=0:=by unfold o8;rw[if_neg (by omega),if_neg (by omega)]
 have e2:o8 n0 k=0:=by unfold o8;rw[if_neg (by omega),if_neg (by omega)]
 have f1:u9 m k=m - k:=by unfold u9;rw[if_pos e1]
 have f2:u9 n0 k=n0 - k:=by unfold u9;rw[if_pos e2]
 refine pV (aS.there aS.here) (by have:=(List.getElem?_eq_some_iff.1 he).1;omega) fun B off hA=>?_
 subst hA
 refine aJ Tryz.func146 ?_
 repeat' (first|refine Yw ?_|refine w5 ?_ ?_|((refine bh fun h=>?_) <;> try exact w6 h)|(refine aF fun hA=>?_;subst hA)|intro _|(show aA _ 212 _ _ _;refine CA (h:=Ff hs hp hf (fun B' off' hA'=>?_))))
 cases hA'
 repeat' (first|refine Yw ?_|refine w5 ?_ ?_|((refine bh fun h=>?_) <;> try exact w6 h)|(refine aF fun hA=>?_;subst hA)|intro _|(show aA _ 135 _ _ _;refine CA (h:=K3 hs hp hf he ?_))|(show aA _ 232 _ _ _;first|(refine CA (h:=G4 (p:=e.w) (n:=m) hm (by omega) ?_);rw[f1])|(refine CA (h:=G4 (p:=w0) (n:=n0) hn (by omega) ?_);rw[f2]))|(show aM _ _ _ _ _ _ _;first|refine IZ ?_|refine tN ?_))
 all_goals(refine aC ?_;exact aB (hK))
theorem Xr (hn:-4294967296<=n0/\n0<=4294967296) (hK:K (I6 (j5 n0 b)) (pt p [PO w0,I6 sp,.slice A n c] 181::sV w0 (gA n0 b)::R)):CT 195 #[PO p,I6 0,I6 b] (pt p [PO w0,I6 sp,.slice A n c] 181::sV w0 n0::R) K:=by
 refine aJ Tryz.func195 ?_
 repeat' (first|refine v58 ?_|refine w5 ?_ ?_|((refine bh fun h=>?_) <;> try exact w6 h)|(refine aF fun hA=>?_;subst hA)|intro _|(show aA _ 274 _ _ _;refine CA (h:=KS hn ?_)))
 all_goals(refine aC ?_;exact aB (hK))
theorem UY (hs:l.length<=100000) (hp:l.Pairwise fun a b=>a.id<b.id) (ht:t≠0) (hf:Md t l=false) (hK:K (I6 7) (pt p [PO w0,I6 sp,.slice A l.length c] 181::bU A c 270 wO l::R)):CT 195 #[PO p,I6 t,I6 b] (pt p [PO w0,I6 sp,.slice A l.length c] 181::bU A c 270 wO l::R) K:=by
 refine aJ Tryz.func195 ?_
 repeat' (first|refine v58 ?_|refine w5 ?_ ?_|((refine bh fun h=>?_) <;> try exact w6 h)|(refine aF fun hA=>?_;subst hA)|intro _|(show aA _ 212 _ _ _;refine CA (h:=Kq hs hp hf ?_)))
 all_goals(refine aC ?_;exact aB (hK))
theorem US (hs:l.length<=100000) (hp:l.Pairwise fun a b=>a.id<b.id) (ht:t≠0) (hf:Md t l=true) (he:l[AM t l]?=some e) (hm:-4294967296<=m/\m<=4294967296) (hK:K (I6 (j5 m b)) (pt p [PO w0,I6 sp,.slice A l.length c] 181::bU A c 270 wO l::sV e.w (gA m b)::R)):CT 195 #[PO p,I6 t,I6 b] (pt p [PO w0,I6 sp,.slice A l.length c] 181::bU A c 270 wO l::sV e.w m::R) K:=by
 refine pV (aS.there aS.here) (by have:=(List.getElem?_eq_some_iff.1 he).1;omega) fun B off hA=>?_
 subst hA
 refine aJ Tryz.func195 ?_
 repeat' (first|refine v58 ?_|refine w5 ?_ ?_|((refine bh fun h=>?_) <;> try exact w6 h)|(refine aF fun hA=>?_;subst hA)|intro _|(show aA _ 212 _ _ _;refine CA (h:=Ff hs hp hf (fun B' off' hA'=>?_))))
 cases hA'
 repeat' (first|refine v58 ?_|refine w5 ?_ ?_|((refine bh fun h=>?_) <;> try exact w6 h)|(refine aF fun hA=>?_;subst hA)|intro _|(show aA _ 274 _ _ _;refine CA (h:=KS hm ?_)))
 all_goals(refine aC ?_;exact aB (hK))
end
structure fD where
 id:Int
 n:Int
 sp:Int
structure Ld where
 n0:Int
 sp:Int
 l:List fD
def JF (e:iA×Int):fD:=⟨e.1.id,e.2,e.1.sp⟩
def BS (e:iA×Int):HP:=sV e.1.w e.2
def Qf (p:Nat) (s:Ld):HP:=fN fun w0=>fN fun A=>fN fun c=>fN fun q:List (iA×Int)=>sep (pt p [PO w0,I6 s.sp,.slice A (q.map Prod.fst).length c] 181) (sep (sV w0 s.n0) (sep (bU A c 270 wO (q.map Prod.fst)) (sep (eC BS q) (bH (q.map JF=s.l)))))
def RJ (s:Ld):Prop:=s.l.length<=64/\(s.l.Pairwise fun a b=>a.id<b.id)/\(∀e∈s.l,(-2147483648<=e.n/\e.n<=2147483648)/\0<=e.sp/\e.sp<=1000000000000)/\(-2147483648<=s.n0/\s.n0<=2147483648)/\0<=s.sp/\s.sp<=1000000000000
def lE (t:Int) (l:List fD):Nat:=(l.takeWhile fun e=>decide (e.id<t)).length
def lS (t:Int) (l:List fD):Option fD:=match l[lE t l]? with
 |some e=>if e.id=t then some e else none
 |none=>none
def bC (t:Int) (s:Ld):Int:=match lS t s.l with
 |some e=>min (max e.n 0) (max s.n0 0)
 |none=>0
def iB (t n:Int) (s:Ld):Ld:=if t<1\/2147483647<t\/lL n=false\/(lS t s.l).isSome=true\/64<=s.l.length then s else { s with l:=s.l.take (lE t s.l)++⟨t,n,0⟩::s.l.drop (lE t s.l) }
def iK (t:Int) (s:Ld):Ld:=if(lS t s.l).isSome=true then { s with l:=s.l.eraseIdx (lE t s.l) } else s
def sJ (t k:Int) (s:Ld):Int:=if(lS t s.l).isSome=false then 7 else if k<0 then 2 else if bC t s<k then 9 else 0
def mB (t k:Int) (s:Ld):Ld:=if sJ t k s≠0 then s else match lS t s.l with
 |some e=> { n0:=s.n0 - k,sp:=s.sp+k,l:=s.l.set (lE t s.l) ⟨e.id,e.n - k,e.sp+k⟩ }
 |none=>s
def l6 (t b:Int) (s:Ld):Int:=if t=0 then j5 s.n0 b else match lS t s.l with
 |some e=>j5 e.n b
 |none=>7
def j8 (t b:Int) (s:Ld):Ld:=if t=0 then { s with n0:=gA s.n0 b } else match lS t s.l with
 |some e=> { s with l:=s.l.set (lE t s.l) ⟨e.id,gA e.n b,e.sp⟩ }
 |none=>s
def uZ (a b:Int):List fD->Int
 | []=>0
 |e::r=>if gR e.n a b≠0 then gR e.n a b else uZ a b r
def yD (a b:Int) (s:Ld):Int:=if gR 0 a b≠0/\gR 0 a b≠10 then gR 0 a b else uZ a b s.l
def mG (a b:Int) (s:Ld):Ld:=if yD a b s≠0 then s else { s with l:=s.l.map fun e=>⟨e.id,vR e.n a b,e.sp⟩ }
theorem yG {t:Int}:∀q:List (iA×Int),lE t (q.map JF)=AM t (q.map Prod.fst)
 | []=>rfl
 |e::r=>by
  have ih:=yG (t:=t) r
  unfold lE AM at ih ⊢
  rw[List.map_cons,List.map_cons,List.takeWhile_cons,List.takeWhile_cons]
  show(if decide (e.1.id<t)=true then _ else _:List fD).length=_
  split
  ·rw[List.length_cons,List.length_cons,ih]
  ·rfl
theorem xB {q:List (iA×Int)} {e:fD} (h:lS t (q.map JF)=some e):∃z,q[AM t (q.map Prod.fst)]?=some z/\JF z=e/\z.1.id=t/\Md t (q.map Prod.fst)=true:=by
 unfold lS at h
 rw[yG,List.getElem?_map] at h
 cases hz:q[AM t (q.map Prod.fst)]? with
 |none=>rw[hz] at h;cases h
 |some z=>
  rw[hz] at h
  simp only[Option.map_some] at h
  split at h
  ·rename_i he
   cases h
   refine⟨z,rfl,rfl,he,?_⟩
   unfold Md
   rw[List.getElem?_map,hz]
   exact decide_eq_true he
  ·cases h
theorem BE {q:List (iA×Int)} (h:lS t (q.map JF)=none):Md t (q.map Prod.fst)=false:=by
 unfold lS at h
 unfold Md
 rw[yG,List.getElem?_map] at h
 rw[List.getElem?_map]
 cases hz:q[AM t (q.map Prod.fst)]? with
 |none=>rfl
 |some z=>
  rw[hz] at h
  simp only[Option.map_some] at h ⊢
  split at h
  ·cases h
  ·rename_i he
   exact decide_eq_false he
theorem jM {n:Nat} {n0 sp:Int} {q:List (iA×Int)} {ws:List iA} {l:List fD} (h:q.map JF=l) (hw:ws=q.map Prod.fst) (hn:n=ws.length):aG (pt p [PO w0,I6 sp,.slice A n c] 181::sV w0 n0::bU A c 270 wO ws::eC BS q::R) (Qf p ⟨n0,sp,l⟩::R):=by
 subst hn hw
 exact aG.ex w0 (aG.ex A (aG.ex c (aG.ex q (KL h))))
theorem Bf {f:FuncId} {args:Array Value} {s:Ld} (h:∀w0 A c (q:List (iA×Int)),q.map JF=s.l->CT f args (pt p [PO w0,I6 s.sp,.slice A (q.map Prod.fst).length c] 181::sV w0 s.n0::bU A c 270 wO (q.map Prod.fst)::eC BS q::R) K):CT f args (Qf p s::R) K:=
 aA.ex fun w0=>aA.ex fun A=>aA.ex fun c=>aA.ex fun q=>aA.ent sD (aA.pure fun hI=>h w0 A c q hI)
theorem E8 {q:List (iA×Int)} {l:List fD} (h:q.map JF=l):(q.map Prod.fst).length=l.length:=by rw[<- h];simp
theorem GL {q:List (iA×Int)} {l:List fD} (h:q.map JF=l) (hp:l.Pairwise fun a b=>a.id<b.id):(q.map Prod.fst).Pairwise fun a b=>a.id<b.id:=by
 rw[<- h] at hp
 rw[List.pairwise_map] at hp ⊢
 exact hp
theorem LW {q:List (iA×Int)} {l:List fD} (h:q.map JF=l) (hz:q[j]?=some z):JF z∈l:=by
 rw[<- h]
 exact List.mem_map_of_mem (List.mem_of_getElem? hz)
theorem M9 {q:List (iA×Int)} (hz:q[j]?=some z):aG (X::Y::Z::eC BS q::R) (X::Z::Y::sV z.1.w z.2::eC BS (q.eraseIdx j)::R):=
 aG.cons (aG.trans (fun _ h=>bZ.swap h) (aG.cons (aG.cons (tO (f:=BS) hz))))
theorem Lp {q:List (iA×Int)} {n:Int} {z':iA} (hz:q[j]?=some z) (hw:z'.w=w):aG (X::Z::Y::sV w n::eC BS (q.eraseIdx j)::R) (X::Y::Z::eC BS (q.set j (z',n))::R):=by
 subst hw
 exact aG.cons (aG.trans (aG.cons (aG.cons (Ej (f:=BS) (b':=(z',n)) hz))) (fun _ h=>bZ.swap h))
section
variable {s:Ld} {n:Int}
theorem tT (hok:RJ s) (hK:K (I6 (bC t s)) (Qf p s::R)):CT 135 #[PO p,I6 t] (Qf p s::R) K:=by
 refine Bf fun w0 A c q hq=>?_
 obtain⟨h1,h2,h3,h4,h5⟩:=hok
 have hl:=E8 hq
 have hp:=GL hq h2
 refine aA.entK ?_
 cases ha:lS t s.l with
 |none=>
  simp only[bC,ha] at hK
  rw[<- hq] at ha
  exact CA (h:=V6 (l:=q.map Prod.fst) (by omega) hp (BE ha) ⟨_,aG.trans (by exact bE) (jM hq rfl rfl),hK⟩)
 |some e=>
  simp only[bC,ha] at hK
  rw[<- hq] at ha
  obtain⟨z,hz,rfl,hid,hf⟩:=xB ha
  refine aA.ent (M9 hz) (K3 (l:=q.map Prod.fst) (e:=z.1) (m:=z.2) (by omega) hp hf (by rw[List.getElem?_map,hz];rfl) ⟨_,aG.trans (Lp (z':=z.1) hz rfl) (jM (q:=q.set _ (z.1,z.2)) ?_ ?_ rfl),hK⟩)
  ·rw[List.map_set]
   have e:(q.map JF).set (AM t (q.map Prod.fst)) (JF z)=q.map JF:=kB _ (by rw[List.getElem?_map,hz];rfl)
   exact e.trans hq
  ·rw[List.map_set]
   exact(kB _ (by rw[List.getElem?_map,hz];rfl)).symm
theorem Bz (hok:RJ s) (hK:K (I6 (l6 t b s)) (Qf p (j8 t b s)::R)):CT 195 #[PO p,I6 t,I6 b] (Qf p s::R) K:=by
 refine Bf fun w0 A c q hq=>?_
 obtain⟨h1,h2,h3,h4,h5⟩:=hok
 have hl:=E8 hq
 have hp:=GL hq h2
 refine aA.entK ?_
 by_cases h0:t=0
 ·simp only[l6,j8,if_pos h0] at hK
  subst h0
  exact CA (h:=Xr (by omega) ⟨_,aG.trans (by exact bE) (jM hq rfl rfl),hK⟩)
 ·simp only[l6,j8,if_neg h0] at hK
  cases ha:lS t s.l with
  |none=>
   simp only[ha] at hK
   rw[<- hq] at ha
   exact CA (h:=UY (l:=q.map Prod.fst) (by omega) hp h0 (BE ha) ⟨_,aG.trans (by exact bE) (jM hq rfl rfl),hK⟩)
  |some e=>
   simp only[ha] at hK
   rw[<- hq] at ha
   obtain⟨z,hz,rfl,hid,hf⟩:=xB ha
   have hzm:=h3 _ (LW hq hz)
   refine aA.ent (M9 hz) (CA (h:=US (l:=q.map Prod.fst) (e:=z.1) (m:=z.2) (by omega) hp h0 hf (by rw[List.getElem?_map,hz];rfl) (by have:=hzm.1;simp only[JF] at this;omega) ⟨_,aG.trans (by exact bE) (aG.trans (Lp (z':=z.1) (n:=gA z.2 b) hz rfl) (jM (q:=q.set (AM t (q.map Prod.fst)) (z.1,gA z.2 b)) (l:=s.l.set (lE t s.l) ⟨z.1.id,gA z.2 b,z.1.sp⟩) ?_ ?_ rfl)),hK⟩))
   ·rw[List.map_set,<- hq,yG];rfl
   ·rw[List.map_set]
    exact(kB _ (by rw[List.getElem?_map,hz];rfl)).symm
theorem QR (hok:RJ s) (hK:K (I6 (sJ t k s)) (Qf p (mB t k s)::R)) (hk:sJ t k s=0):CT 146 #[PO p,I6 t,I6 k] (Qf p s::R) K:=by
 refine Bf fun w0 A c q hq=>?_
 obtain⟨h1,h2,h3,h4,h5⟩:=hok
 have hl:=E8 hq
 have hp:=GL hq h2
 refine aA.entK ?_
 rw[hk] at hK
 simp only[mB,hk,ne_eq,not_true_eq_false,if_false] at hK
 unfold sJ bC at hk
 cases ha:lS t s.l with
 |none=>rw[ha] at hk;simp at hk
 |some e=>
  simp only[ha] at hK hk
  rw[<- hq] at ha
  obtain⟨z,hz,rfl,hid,hf⟩:=xB ha
  have hzm:=h3 _ (LW hq hz)
  simp only[JF] at hzm hk
  have hkk:0<=k/\k<=min (max z.2 0) (max s.n0 0):=by
   by_cases h6:k<0
   ·simp[h6] at hk
   ·by_cases h7:min (max z.2 0) (max s.n0 0)<k
    ·simp[h6,h7] at hk
    ·omega
  refine aA.ent (M9 hz) (CA (h:=VL (l:=q.map Prod.fst) (e:=z.1) (m:=z.2) (by omega) hp hf (by rw[List.getElem?_map,hz];rfl) hkk.1 hkk.2 (by omega) (by omega) (by omega) (by omega) ⟨_,aG.trans (by exact bE) (aG.trans (Lp (z':=⟨z.1.id,z.1.w,z.1.sp+k⟩) (n:=z.2 - k) hz rfl) (jM (q:=q.set (AM t (q.map Prod.fst)) (⟨z.1.id,z.1.w,z.1.sp+k⟩,z.2 - k)) (l:=s.l.set (lE t s.l) ⟨z.1.id,z.2 - k,z.1.sp+k⟩) ?_ ?_ ?_)),hK⟩))
  ·rw[List.map_set,<- hq,yG];rfl
  ·rw[List.map_set]
  ·simp
theorem Ab7 (h:0<=n/\n<=2147483647) (hK:∀p,K (.tuple #[PO p,I6 0]) (Qf p ⟨n,0,[]⟩::R)):CT 35 #[I6 n] R K:=by
 refine aJ Tryz.func35 ?_
 repeat' (first|refine v21 ?_|refine w5 ?_ ?_|((refine bh fun h=>?_) <;> try exact w6 h)|(refine aF fun hA=>?_;subst hA)|intro _|(show aA _ 92 _ _ _;refine CA (h:=zY (by unfold lL;simp;omega) (fun w0=>?_))))
 rename_i r
 all_goals(refine aC ?_;exact aQ (aG.trans (by exact bE) ((aG.trans (aG.trans (aG.nilrow 270 wO _) (aG.trans (K1 (f:=BS)) (by exact bE))) (jM (q:= []) (A:=none) (c:=0) (w0:=w0) (p:=r) (sp:=0) (n0:=n) (R:=R) rfl rfl rfl)))) ((hK r)))
end
theorem Aj3 {q:List (iA×Int)} {n:Int} {z:iA} (hw:z.w=w):aG (sV w n::X::Y::Z::eC BS q::R) (X::Y::Z::eC BS (q.take i++(z,n)::q.drop i)::R):=by
 subst hw
 have h1:aG (sV z.w n::eC BS q::R) (eC BS (q.take i++(z,n)::q.drop i)::R):=J2 (f:=BS) (b:=(z,n))
 exact aG.trans (fun _ h=>h.perm (List.perm_middle (l₁:= [X,Y,Z]) (a:=sV z.w n) (l₂:=eC BS q::R)).symm) (aG.cons (aG.cons (aG.cons h1)))
theorem Ah3 {q:List (iA×Int)} (hz:q[i]?=some z):aG (X::Y::Z::eC BS q::R) (X::Y::Z::eC BS (q.eraseIdx i)::R):=
 aG.cons (aG.cons (aG.cons (aG.trans (tO (f:=BS) hz) (aG.drop (aG.refl _)))))
section
variable {s:Ld} {n a:Int}
theorem Wh (hok:RJ s) (hK:∀v,K v (Qf p (iB t n s)::R)):CT 161 #[PO p,I6 t,I6 n] (Qf p s::R) K:=by
 refine Bf fun w0 A c q hq=>?_
 obtain⟨h1,h2,h3,h4,h5⟩:=hok
 have hl:=E8 hq
 have hp:=GL hq h2
 by_cases g1:t<1\/2147483647<t
 ·have e:iB t n s=s:=by unfold iB;rw[if_pos (by omega)]
  rw[e] at hK
  refine aJ Tryz.func161 ?_
  repeat' (first|refine v90 ?_|refine w5 ?_ ?_|((refine bh fun h=>?_) <;> try exact w6 h)|(refine aF fun hA=>?_;subst hA)|intro _)
  all_goals(refine aC ?_;exact aQ (aG.trans (by exact bE) ((jM hq rfl rfl))) ((hK _)))
 ·cases g2:lL n
  ·have e:iB t n s=s:=by unfold iB;rw[if_pos (.inr (.inr (.inl g2)))]
   rw[e] at hK
   refine aJ Tryz.func161 ?_
   repeat' (first|refine v90 ?_|refine w5 ?_ ?_|((refine bh fun h=>?_) <;> try exact w6 h)|(refine aF fun hA=>?_;subst hA)|intro _|(show aA _ 92 _ _ _;refine CA (h:=Xk g2 ?_)))
   all_goals(refine aC ?_;exact aQ (aG.trans (by exact bE) ((jM hq rfl rfl))) ((hK _)))
  ·cases g3:lS t s.l with
   |some z=>
    have e:iB t n s=s:=by unfold iB;rw[if_pos (.inr (.inr (.inr (.inl (by rw[g3];rfl)))))]
    rw[e] at hK
    have g3':=g3
    rw[<- hq] at g3'
    obtain⟨_,_,_,_,hf⟩:=xB g3'
    refine aJ Tryz.func161 ?_
    repeat' (first|refine v90 ?_|refine w5 ?_ ?_|((refine bh fun h=>?_) <;> try exact w6 h)|(refine aF fun hA=>?_;subst hA)|intro _|(show aA _ 92 _ _ _;refine CA (h:=zY g2 (fun w1=>?_)))|(show aA _ 243 _ _ _;refine CA (h:=uR (l:=q.map Prod.fst) (by omega) hp ?_);rw[hf]))
    all_goals(refine aC ?_;exact aQ (aG.trans (by exact bE) ((jM hq rfl rfl))) ((hK _)))
   |none=>
    have g3':=g3
    rw[<- hq] at g3'
    have hf:=BE g3'
    by_cases g4:64<=s.l.length
    ·have e:iB t n s=s:=by unfold iB;rw[if_pos (.inr (.inr (.inr (.inr g4))))]
     rw[e] at hK
     refine aJ Tryz.func161 ?_
     repeat' (first|refine v90 ?_|refine w5 ?_ ?_|((refine bh fun h=>?_) <;> try exact w6 h)|(refine aF fun hA=>?_;subst hA)|intro _|(show aA _ 92 _ _ _;refine CA (h:=zY g2 (fun w1=>?_)))|(show aA _ 243 _ _ _;refine CA (h:=uR (l:=q.map Prod.fst) (by omega) hp ?_);rw[hf]))
     all_goals(refine aC ?_;exact aQ (aG.trans (by exact bE) ((jM hq rfl rfl))) ((hK _)))
    ·have e:iB t n s= { s with l:=s.l.take (lE t s.l)++⟨t,n,0⟩::s.l.drop (lE t s.l) }:=by
      unfold iB
      rw[if_neg]
      rintro(h|h|h|h|h)
      ·omega
      ·omega
      ·rw[g2] at h;cases h
      ·rw[g3] at h;cases h
      ·exact g4 h
     rw[e] at hK
     have hix:AM t (q.map Prod.fst)=lE t s.l:=by rw[<- hq,yG]
     have hle:=RX t (q.map Prod.fst)
     refine aJ Tryz.func161 ?_
     repeat' (first|refine v90 ?_|refine w5 ?_ ?_|((refine bh fun h=>?_) <;> try exact w6 h)|(refine aF fun hA=>?_;subst hA)|intro _|(show aA _ 92 _ _ _;refine CA (h:=zY g2 (fun w1=>?_)))|(show aA _ 243 _ _ _;refine CA (h:=uR (l:=q.map Prod.fst) (by omega) hp ?_);rw[hf])|(show aA _ 244 _ _ _;refine CA (h:=Adf (xs:=q.map Prod.fst) (y:=⟨t,w1,0⟩) rfl hle (by omega) (fun A' c'=>?_))))
     all_goals(refine aC ?_;exact aQ (aG.trans (by exact bE) ((aG.trans (Aj3 (i:=lE t s.l) (z:=⟨t,w1,0⟩) rfl) (jM (q:=q.take (lE t s.l)++(⟨t,w1,0⟩,n)::q.drop (lE t s.l)) (l:=s.l.take (lE t s.l)++⟨t,n,0⟩::s.l.drop (lE t s.l)) (by rw[<- hq];simp[JF]) (by rw[hix];simp) (by simp only[List.length_append,List.length_cons,List.length_take,List.length_drop];omega))))) ((hK _)))
theorem Qp (hok:RJ s) (hK:∀v,K v (Qf p (iK t s)::R)):CT 255 #[PO p,I6 t] (Qf p s::R) K:=by
 refine Bf fun w0 A c q hq=>?_
 obtain⟨h1,h2,h3,h4,h5⟩:=hok
 have hl:=E8 hq
 have hp:=GL hq h2
 cases g3:lS t s.l with
 |none=>
  have e:iK t s=s:=by unfold iK;rw[g3];rfl
  rw[e] at hK
  rw[<- hq] at g3
  have hf:=BE g3
  refine aJ Tryz.func255 ?_
  repeat' (first|refine v68 ?_|refine w5 ?_ ?_|((refine bh fun h=>?_) <;> try exact w6 h)|(refine aF fun hA=>?_;subst hA)|intro _|(show aA _ 243 _ _ _;refine CA (h:=uR (l:=q.map Prod.fst) (by omega) hp ?_);rw[hf]))
  all_goals(refine aC ?_;exact aQ (aG.trans (by exact bE) ((jM hq rfl rfl))) ((hK _)))
 |some z=>
  have e:iK t s= { s with l:=s.l.eraseIdx (lE t s.l) }:=by unfold iK;rw[g3];rfl
  rw[e] at hK
  rw[<- hq] at g3
  obtain⟨z,hz,rfl,hid,hf⟩:=xB g3
  have hlt:AM t (q.map Prod.fst)<(q.map Prod.fst).length:=by rw[List.length_map];exact(List.getElem?_eq_some_iff.1 hz).1
  have hix:AM t (q.map Prod.fst)=lE t s.l:=by rw[<- hq,yG]
  refine aJ Tryz.func255 ?_
  repeat' (first|refine v68 ?_|refine w5 ?_ ?_|((refine bh fun h=>?_) <;> try exact w6 h)|(refine aF fun hA=>?_;subst hA)|intro _|(show aA _ 243 _ _ _;refine CA (h:=uR (l:=q.map Prod.fst) (by omega) hp ?_);rw[hf])|(show aA _ 310 _ _ _;refine CA (h:=Adp (xs:=q.map Prod.fst) rfl hlt (by omega) (fun A' c'=>?_))))
  all_goals(refine aC ?_;exact aQ (aG.trans (by exact bE) ((aG.trans (Ah3 hz) (jM (q:=q.eraseIdx (AM t (q.map Prod.fst))) (l:=s.l.eraseIdx (lE t s.l)) (by rw[<- m8,hq,hix]) (m8 ..) (by rw[List.length_eraseIdx,if_pos hlt]))))) ((hK _)))
theorem Oq {l:List fD} {e:fD} (h:l[j]?=some e):uZ a b (l.drop j)=if gR e.n a b≠0 then gR e.n a b else uZ a b (l.drop (j+1)):=by
 have hj:=(List.getElem?_eq_some_iff.1 h).1
 rw[List.drop_eq_getElem_cons hj,(List.getElem?_eq_some_iff.1 h).2]
 rfl
theorem Aer {l:List fD} {e:fD} {n:Int} (h:l[j]?=some e) (hn:e.n=n) (h0:gR n a b=0):uZ a b (l.drop (j+1))=uZ a b (l.drop j):=by
 subst hn
 rw[Oq h,if_neg (by simpa using h0)]
theorem Adh {l:List fD} {e:fD} {n:Int} (h:l[j]?=some e) (hn:e.n=n) (h0:gR n a b≠0):gR n a b=uZ a b (l.drop j):=by
 subst hn
 rw[Oq h,if_pos h0]
def yT (a b:Int) (e:iA×Int):iA×Int:=(e.1,vR e.2 a b)
def D3:List (Nat×Nat):= [(0,0),(1,0),(2,1),(3,1),(4,1),(5,1),(6,0)]
theorem ZW {r4 r5:Nat} {i sp:Int} (hm:-4294967296<=m/\m<=4294967296) (hK:∀w',K (I6 (gR m a b)) (sV w' (vR m a b)::pt r4 [I6 a] 3::pt r5 [I6 b] 3::sV w m::R)):CT 266 #[.agg #[I6 i,PO w,I6 sp],PO r4,PO r5] (pt r4 [I6 a] 3::pt r5 [I6 b] 3::sV w m::R) K:=by
 refine aJ Tryz.func266 ?_
 repeat' (first|refine v19 ?_|refine dw D3 ?_|refine w5 ?_ ?_|((refine bh fun h=>?_) <;> try exact w6 h)|(refine aF fun hA=>?_;subst hA)|intro _|(show aA _ 267 _ _ _;refine CA (h:=Wv (fun q=>?_)))|(show aA _ 265 _ _ _;refine CA (h:=GY (p:=q) hm ?_)))
 all_goals(refine aC ?_;exact aB (hK _))
theorem Aik (h:lL a=true/\lL b=true):gR 0 a b=0:=by
 have h2:=h
 unfold lL at h2
 simp only[Bool.and_eq_true,decide_eq_true_eq] at h2
 unfold gR zU CQ
 rw[if_pos h,if_pos]
 simp only[Bool.and_eq_true,decide_eq_true_eq]
 omega
theorem N8 (hok:RJ s) (hab:lL a=true/\lL b=true) (hK:K (I6 (yD a b s)) (Qf p (mG a b s)::R)):CT 185 #[PO p,I6 a,I6 b] (Qf p s::R) K:=by
 have hv:=Aik hab
 have hE:yD a b s=uZ a b s.l:=by unfold yD;rw[hv];rfl
 refine Bf fun w0 A c q hq=>?_
 obtain⟨h1,h2,h3,h4,h5⟩:=hok
 have hl:=E8 hq
 have hql:(q.map Prod.fst).length=q.length:=List.length_map ..
 refine aJ Tryz.func185 ?_
 repeat' (first|refine I9 ?_|refine w5 ?_ ?_|((refine bh fun h=>?_) <;> try exact w6 h)|(refine aF fun hA=>?_;subst hA)|intro _|(show aA _ 92 _ _ _;refine CA (h:=zY (n:=0) (by decide) (fun w1=>?_)))|(show aA _ 265 _ _ _;refine CA (h:=GY (p:=w1) (n:=0) (by omega) ?_);rw[hv]))
 rename_i r4 r5
 refine iH (fun kk f C'=>∃(j:Nat) (er:Int),j+kk=q.length/\((er=0/\uZ a b (s.l.drop j)=uZ a b s.l)\/(er≠0/\er=uZ a b s.l))/\cW f [(0,PO p),(4,PO r4),(5,PO r5),(9,I6 er),(10,.func (.func 266) #[] #[PO r4,PO r5]),(31,.slice A (q.map Prod.fst).length c),(32,I6 (q.map Prod.fst).length),(33,I6 j)]/\C'=pt r4 [I6 a] 3::pt r5 [I6 b] 3::pt p [PO w0,I6 s.sp,.slice A (q.map Prod.fst).length c] 181::sV w0 s.n0::bU A c 270 wO (q.map Prod.fst)::eC BS q::R) q.length (cG q.length ⟨0,0,by omega,.inl ⟨rfl,rfl⟩,⟨rfl,rfl,rfl,rfl,rfl,rfl,rfl,rfl,trivial⟩,rfl⟩ (by omega)) ?_
 rintro kk f C' ⟨j,er,hj,her,ha,rfl⟩
 refine gJ _ ha ?_
 simp only[fF]
 by_cases hlt:j<q.length
 ·obtain⟨z,hz⟩:∃z,q[j]?=some z:=⟨_,List.getElem?_eq_getElem hlt⟩
  have hz1:(q.map Prod.fst)[j]?=some z.1:=by rw[List.getElem?_map,hz];rfl
  have hz':(q.map Prod.fst)[((j:Nat):Int).toNat]?=some z.1:=by rw[Int.toNat_natCast];exact hz1
  have hlj:s.l[j]?=some (JF z):=by rw[<- hq,List.getElem?_map,hz];rfl
  rcases her with⟨rfl,he⟩|⟨hne,he⟩
  ·have hzm:=h3 _ (LW hq hz)
   simp only[JF] at hzm
   have hout:aG (eC BS q::R) (sV z.1.w z.2::eC BS (q.eraseIdx j)::R):=tO (f:=BS) hz
   have hin:aG (sV z.1.w z.2::eC BS (q.eraseIdx j)::R) (eC BS q::R):=by
    have h:=Ej (f:=BS) (b':=z) (R:=R) hz
    rw[kB j hz] at h
    exact h
   refine nN (aG.cons (aG.cons (aG.cons (aG.cons (aG.cons hout))))) ?_
   repeat' (first|refine I9 ?_|refine w5 ?_ ?_|((refine bh fun h=>?_) <;> try exact w6 h)|(refine aF fun hA=>?_;subst hA)|intro _|(show aA _ 266 _ _ _;refine CA (h:=ZW (w:=z.1.w) (m:=z.2) (by omega) (fun w'=>?_))))
   all_goals(show aZ _ _ _ _;refine cG (kk - 1) ⟨j+1,gR z.2 a b,by omega,?_,⟨rfl,rfl,rfl,rfl,rfl,rfl,rfl,rfl,trivial⟩,rfl⟩ (by omega) (aG.trans (by exact bE) (aG.cons (aG.cons (aG.cons (aG.cons (aG.cons hin)))))))
   by_cases hz0:gR z.2 a b=0
   ·exact .inl ⟨hz0,(Aer hlj rfl hz0).trans he⟩
   ·exact .inr ⟨hz0,(Adh hlj rfl hz0).trans he⟩
  ·have hR:mG a b s=s:=by unfold mG;rw[if_pos (by rw[hE,<- he];exact hne)]
   rw[hR,hE,<- he] at hK
   repeat' (first|refine I9 ?_|refine w5 ?_ ?_|((refine bh fun h=>?_) <;> try exact w6 h)|(refine aF fun hA=>?_;subst hA)|intro _)
   all_goals(refine aC ?_;exact aQ (aG.trans (by exact bE) ((jM hq rfl rfl))) (hK))
 ·have hjl:j=q.length:=by omega
  subst hjl
  rcases her with⟨rfl,he⟩|⟨hne,he⟩
  ·have hd:s.l.drop q.length= []:=List.drop_eq_nil_of_le (by omega)
   rw[hd] at he
   have he:uZ a b s.l=0:=he.symm
   have hR:mG a b s= { s with l:=s.l.map fun e=>⟨e.id,vR e.n a b,e.sp⟩ }:=by unfold mG;rw[if_neg (by rw[hE,he];decide)]
   rw[hR,hE,he] at hK
   repeat' (first|refine I9 ?_|refine w5 ?_ ?_|((refine bh fun h=>?_) <;> try exact w6 h)|(refine aF fun hA=>?_;subst hA)|intro _)
   refine iH (fun kk f C'=>∃j:Nat,j+kk=q.length/\cW f [(4,PO r4),(5,PO r5),(49,.slice A (q.map Prod.fst).length c),(50,I6 (q.map Prod.fst).length),(51,I6 j)]/\C'=pt r4 [I6 a] 3::pt r5 [I6 b] 3::pt p [PO w0,I6 s.sp,.slice A (q.map Prod.fst).length c] 181::sV w0 s.n0::bU A c 270 wO (q.map Prod.fst)::eC BS ((q.take j).map (yT a b)++q.drop j)::R) q.length (cG q.length ⟨0,by omega,⟨rfl,rfl,rfl,rfl,rfl,trivial⟩,rfl⟩ (by omega)) ?_
   rintro kk f C' ⟨j,hj,ha,rfl⟩
   refine gJ _ ha ?_
   simp only[fF]
   by_cases hlt:j<q.length
   ·obtain⟨z,hz⟩:∃z,q[j]?=some z:=⟨_,List.getElem?_eq_getElem hlt⟩
    have hz1:(q.map Prod.fst)[j]?=some z.1:=by rw[List.getElem?_map,hz];rfl
    have hz':(q.map Prod.fst)[((j:Nat):Int).toNat]?=some z.1:=by rw[Int.toNat_natCast];exact hz1
    have hzm:=h3 _ (LW hq hz)
    simp only[JF] at hzm
    have htl:((q.take j).map (yT a b)).length=j:=by rw[List.length_map,List.length_take];omega
    have hzq:((q.take j).map (yT a b)++q.drop j)[j]?=some z:=by rw[List.getElem?_append_right (by omega),htl,Nat.sub_self,List.getElem?_drop,Nat.add_zero];exact hz
    have hset:((q.take j).map (yT a b)++q.drop j).set j (yT a b z)=(q.take (j+1)).map (yT a b)++q.drop (j+1):=by
     rw[List.set_append_right _ _ (by omega),htl,Nat.sub_self,List.drop_eq_getElem_cons hlt,List.set_cons_zero,List.take_add_one,hz]
     simp
    have hout:aG (eC BS ((q.take j).map (yT a b)++q.drop j)::R) (sV z.1.w z.2::eC BS (((q.take j).map (yT a b)++q.drop j).eraseIdx j)::R):=tO (f:=BS) hzq
    have hin:aG (sV z.1.w (vR z.2 a b)::eC BS (((q.take j).map (yT a b)++q.drop j).eraseIdx j)::R) (eC BS ((q.take (j+1)).map (yT a b)++q.drop (j+1))::R):=by
     have h:=Ej (f:=BS) (b':=yT a b z) (R:=R) hzq
     rw[hset] at h
     exact h
    refine nN (aG.cons (aG.cons (aG.cons (aG.cons (aG.cons hout))))) ?_
    repeat' (first|refine I9 ?_|refine w5 ?_ ?_|((refine bh fun h=>?_) <;> try exact w6 h)|(refine aF fun hA=>?_;subst hA)|intro _|(show aA _ 265 _ _ _;refine CA (h:=GY (p:=z.1.w) (n:=z.2) (by omega) ?_)))
    all_goals(show aZ _ _ _ _;refine cG (kk - 1) ⟨j+1,by omega,⟨rfl,rfl,rfl,rfl,rfl,trivial⟩,rfl⟩ (by omega) (aG.trans (by exact bE) (aG.cons (aG.cons (aG.cons (aG.cons (aG.cons hin)))))))
   ·have hjl:j=q.length:=by omega
    subst hjl
    rw[List.take_length,List.drop_length,List.append_nil]
    repeat' (first|refine I9 ?_|refine w5 ?_ ?_|((refine bh fun h=>?_) <;> try exact w6 h)|(refine aF fun hA=>?_;subst hA)|intro _)
    all_goals(refine aC ?_;exact aQ (aG.trans (by exact bE) ((jM (q:=q.map (yT a b)) (l:=s.l.map fun e=>⟨e.id,vR e.n a b,e.sp⟩) (by rw[<- hq,List.map_map,List.map_map];rfl) (by rw[List.map_map];rfl) rfl))) (hK))
  ·have hR:mG a b s=s:=by unfold mG;rw[if_pos (by rw[hE,<- he];exact hne)]
   rw[hR,hE,<- he] at hK
   repeat' (first|refine I9 ?_|refine w5 ?_ ?_|((refine bh fun h=>?_) <;> try exact w6 h)|(refine aF fun hA=>?_;subst hA)|intro _)
   all_goals(refine aC ?_;exact aQ (aG.trans (by exact bE) ((jM hq rfl rfl))) (hK))
end
def Jv (s:eS) (lv:List Int):List Int:=MG (lv.flatMap fun k=>cC k s.1)
def yN (s:eS):Nat->List Int->List Int
 |0,_=> []
 |n+1,lv=>if lv= [] then [] else lv++yN s n (Jv s lv)
def eE (s:eS):List Int:=yN s (s.1.length+1) (cC 0 s.1)
theorem tE {s:eS} (h:Nh s):∀ {lv:List Int},lv.Nodup->(lv.flatMap fun k=>cC k s.1).Nodup
 | [],_=>List.nodup_nil
 |k::r,hn=>by
  obtain⟨h1,h2⟩:=List.nodup_cons.1 hn
  rw[List.flatMap_cons]
  refine List.nodup_append.2 ⟨Bp h,tE h h2,?_⟩
  intro a ha b hb e
  subst e
  obtain⟨z,hz,hzb⟩:=List.mem_flatMap.1 hb
  have e1:=(kZ h ha).2
  have e2:=(kZ h hzb).2
  exact h1 (by rw[<- e1,e2];exact hz)
theorem Ac6 {s:eS} {l:List Int} (h:∀k∈l,dZ k s.1=true):∀k∈l,k∈s.1.map KE.k:=fun k hk=>wE (h k hk)
theorem IX {s:eS} {l:List Int} (hn:l.Nodup) (h:∀k∈l,dZ k s.1=true):l.length<=s.1.length:=by
 have:=List.Nodup.length_le_of_subset hn (Ac6 h)
 rwa[List.length_map] at this
theorem Aj {s:eS} (h:Nh s):∀y∈lv.flatMap fun k=>cC k s.1,dZ y s.1=true/\(dD y s).on∈lv:=fun y hy=>by
 obtain⟨k,hk,hy⟩:=List.mem_flatMap.1 hy
 obtain⟨h1,h2⟩:=kZ h hy
 exact⟨h1,by rw[h2];exact hk⟩
def Ym (s:eS) (r:Int->Nat) (n:Nat) (lv:List Int):Prop:=∀x∈lv,dZ x s.1=true/\∃c:List Int,c.Nodup/\c.length=n/\∀z∈c,dZ z s.1=true/\r z<r x
theorem Ald {s:eS} {r:Int->Nat} {n:Nat} (hr:Sf r s) (hk:Nh s) (h:Ym s r n lv):Ym s r (n+1) (Jv s lv):=fun y hy=>by
 unfold Jv at hy
 rw[Au] at hy
 obtain⟨h1,h2⟩:=Aj hk y hy
 obtain⟨h3,c,h4,h5,h6⟩:=h _ h2
 have h7:=hr y h1 h3
 refine⟨h1,(dD y s).on::c,List.nodup_cons.2 ⟨fun q=>by have:=(h6 _ q).2;omega,h4⟩,by rw[List.length_cons,h5],fun z hz=>?_⟩
 rcases List.mem_cons.1 hz with rfl|hz
 ·exact⟨h3,h7⟩
 ·exact⟨(h6 z hz).1,Nat.lt_trans (h6 z hz).2 h7⟩
theorem Ak2 {s:eS} {r:Int->Nat} {n:Nat} (h:Ym s r n lv) (hn:lv≠ []):n<s.1.length:=by
 obtain⟨x,hx⟩:=List.exists_mem_of_ne_nil lv hn
 obtain⟨h1,c,h2,h3,h4⟩:=h x hx
 have:=IX (s:=s) (l:=x::c) (List.nodup_cons.2 ⟨fun q=>by have:=(h4 _ q).2;omega,h2⟩) (fun z hz=>by
  rcases List.mem_cons.1 hz with rfl|hz
  ·exact h1
  ·exact(h4 z hz).1)
 rw[List.length_cons,h3] at this
 exact this
theorem Ahh {s:eS} (hk:Nh s) (h:lv.Nodup):(Jv s lv).Nodup:=Un (tE hk h)
section
variable {s:eS} {r:Int->Nat}
theorem Rr (hok:Qe s.1 s.2) (hl:s.1.length<=1000) (hn:Nh s) (hr:Sf r s) (hK:∀B d,K (.slice B (eE s).length d) (bU B d 3 mI (eE s)::pt p [I6 most,.map (some q)] 175::mp q (kM qW s.1) s.2::R)):CT 226 #[PO p] (pt p [I6 most,.map (some q)] 175::mp q (kM qW s.1) s.2::R) K:=by
 have hc0:Ym s r 0 (cC 0 s.1):=fun x hx=>⟨(kZ hn hx).1,[],List.nodup_nil,rfl,fun z hz=>by cases hz⟩
 refine aJ Tryz.func226 ?_
 repeat' (first|refine v45 ?_|refine w5 ?_ ?_|((refine bh fun h=>?_) <;> try exact w6 h)|(refine aF fun hA=>?_;subst hA)|intro _|(show aA _ 290 _ _ _;refine CA (h:=Ba hok (by omega) (fun A c=>?_))))
 refine nN (aG.nilrow 3 mI _) ?_
 refine iH (fun kk a C'=>∃(n:Nat) (acc lv:List Int) (A:Option Addr) (c:Nat) (B:Option Addr) (d:Nat),n+kk=s.1.length/\acc++yN s (kk+1) lv=eE s/\acc.length<=1000 * n/\lv.Nodup/\Ym s r n lv/\cW a [(0,PO p),(3,.slice B acc.length d),(4,.slice A lv.length c)]/\C'=bU B d 3 mI acc::bU A c 3 mI lv::pt p [I6 most,.map (some q)] 175::mp q (kM qW s.1) s.2::R) s.1.length (cG s.1.length ⟨0,[],_,A,c,none,0,by omega,rfl,by simp,Bp hn,hc0,⟨rfl,rfl,rfl,trivial⟩,rfl⟩ (by omega)) ?_
 rintro kk a C' ⟨n,acc,lv,A,c,B,d,hk,hac,hal,hnd,hch,ha,rfl⟩
 refine gJ _ ha ?_
 simp only[fF]
 by_cases h0:lv= []
 ·subst h0
  have e:yN s (kk+1) []= []:=by unfold yN;rw[if_pos rfl]
  rw[e,List.append_nil] at hac
  subst hac
  repeat' (first|refine v45 ?_|refine w5 ?_ ?_|((refine bh fun h=>?_) <;> try exact w6 h)|(refine aF fun hA=>?_;subst hA)|intro _)
  all_goals(refine aC ?_;exact aB (hK _ _))
 ·have hlt:=Ak2 hch h0
  have e:yN s (kk+1) lv=lv++yN s kk (Jv s lv):=by
   conv=>lhs;unfold yN
   rw[if_neg h0]
  rw[e,<- List.append_assoc] at hac
  have hll:lv.length<=s.1.length:=IX hnd fun k hk=>(hch k hk).1
  have hl0:0<lv.length:=List.length_pos_iff.2 h0
  have hn1:1000 * n<=1000 * 1000:=Nat.mul_le_mul_left _ (by omega)
  repeat' (first|(show aM _ _ _ _ _ _ _;(refine cN (E:=mI) (xs:=acc) (ys:=lv) ?_;intro B2 d2))|refine v45 ?_|refine w5 ?_ ?_|((refine bh fun h=>?_) <;> try exact w6 h)|(refine aF fun hA=>?_;subst hA)|intro _)
  refine nN (aG.nilrow 3 mI _) ?_
  refine iH (fun k2 a C'=>∃(j:Nat) (N:Option Addr) (e:Nat),j+k2=lv.length/\cW a [(0,PO p),(3,.slice B2 (acc++lv).length d2),(5,.slice N ((lv.take j).flatMap fun k=>cC k s.1).length e),(16,.slice A lv.length c),(17,I6 lv.length),(18,I6 j)]/\C'=bU N e 3 mI ((lv.take j).flatMap fun k=>cC k s.1)::bU B2 d2 3 mI (acc++lv)::bU A c 3 mI lv::pt p [I6 most,.map (some q)] 175::mp q (kM qW s.1) s.2::R) lv.length (cG lv.length ⟨0,none,0,by omega,⟨rfl,rfl,rfl,rfl,rfl,rfl,trivial⟩,rfl⟩ (by omega)) ?_
  rintro k2 a2 C' ⟨j,N,e2,hj,ha,rfl⟩
  refine gJ _ ha ?_
  simp only[fF]
  by_cases hlt2:j<lv.length
  ·obtain⟨k,hkj⟩:∃k,lv[j]?=some k:=⟨_,List.getElem?_eq_getElem hlt2⟩
   have hk':lv[((j:Nat):Int).toNat]?=some k:=by rw[Int.toNat_natCast];exact hkj
   have hfl:((lv.take j).flatMap fun k=>cC k s.1).length<=1000:=Nat.le_trans (IX (tE hn (List.Nodup.sublist (List.take_sublist ..) hnd)) fun y hy=>(Aj hn y hy).1) hl
   have hkl:(cC k s.1).length<=1000:=by
    unfold cC
    rw[Am,List.length_map]
    exact Nat.le_trans (List.length_filter_le _ _) hl
   have hnx:((lv.take j).flatMap fun k=>cC k s.1)++cC k s.1=(lv.take (j+1)).flatMap fun k=>cC k s.1:=by rw[List.take_add_one,hkj];simp
   repeat' (first|(show aM _ _ _ _ _ _ _;(refine cN (E:=mI) (xs:=(lv.take j).flatMap fun k=>cC k s.1) (ys:=cC k s.1) ?_;intro N2 e3))|refine v45 ?_|refine w5 ?_ ?_|((refine bh fun h=>?_) <;> try exact w6 h)|(refine aF fun hA=>?_;subst hA)|intro _|(show aA _ 290 _ _ _;refine CA (h:=Ba hok (by omega) (fun A3 c3=>?_))))
   all_goals rw[hnx]
   all_goals(show aZ _ _ _ _;exact cG (k2 - 1) ⟨j+1,_,_,by omega,⟨rfl,rfl,rfl,rfl,rfl,rfl,trivial⟩,rfl⟩)
  ·have hjl:lv.take j=lv:=List.take_of_length_le (by omega)
   rw[hjl]
   have hfl:(lv.flatMap fun k=>cC k s.1).length<=1000:=Nat.le_trans (IX (tE hn hnd) fun y hy=>(Aj hn y hy).1) hl
   have hsl:(Jv s lv).length=(lv.flatMap fun k=>cC k s.1).length:=Am _
   repeat' (first|refine v45 ?_|refine w5 ?_ ?_|((refine bh fun h=>?_) <;> try exact w6 h)|(refine aF fun hA=>?_;subst hA)|intro _|(show aA _ 291 _ _ _;refine CA (h:=Ob (xs:=lv.flatMap fun k=>cC k s.1) rfl (by omega) ?_)))
   all_goals rw[<- hsl]
   all_goals(show aZ _ _ _ _;exact cG (kk - 1) ⟨n+1,acc++lv,Jv s lv,N,e2,B2,d2,by omega,by rw[show kk - 1+1=kk by omega];exact hac,by rw[List.length_append];omega,Ahh hn hnd,Ald hr hn hch,⟨rfl,rfl,rfl,trivial⟩,rfl⟩)
end
end Go.Proofs.YtffnpejdkkohcaaGreat
