/- A part of the proof: lemmas; each with the conditions that it states. -/
import Derived.Test.YtifgibijcmppmaaGreatUam
set_option linter.unusedVariables false
set_option linter.unusedSimpArgs false
set_option maxRecDepth 100000
set_option maxHeartbeats 40000000
namespace Go.Proofs.YtifgibijcmppmaaGreat
open Go Go.Proofs Go.Sl
attribute [local irreducible] aN fN cX bP aM aX aA dS dV aT dU pt ro eV star sep bH
attribute [local irreducible] mp ED
section
variable {R C:List HP} {K:KP}
def lb (t:Int) (l:List jF):Nat:=(l.takeWhile fun e=>decide (e.id<t)).length
def Ym (t:Int) (l:List jF):Bool:=match l[lb t l]? with
 |some e=>decide (e.id=t)
 |none=>false
theorem UM (t:Int):∀l:List jF,lb t l≤l.length
 | []=>Nat.le_refl _
 |e::r=>by
  unfold lb
  rw[List.takeWhile_cons]
  split
  ·have:=UM t r;unfold lb at this;simp;omega
  ·simp
theorem UW {t:Int}:∀ {l:List jF} {j:Nat} {e:jF},l.Pairwise (fun a b=>a.id<b.id)→l[j]?=some e→(e.id<t↔j<lb t l)
 | [],_,_,_,h=>by cases h
 |z::r,0,e,_,h=>by
  cases h
  unfold lb
  rw[List.takeWhile_cons]
  split
  ·rename_i hz;simp at hz;simp[hz]
  ·rename_i hz;simp at hz;simp;omega
 |z::r,j+1,e,hp,h=>by
  have hp':=(List.pairwise_cons.1 hp)
  have h':r[j]?=some e:=by simpa using h
  have ih:=UW (t:=t) hp'.2 h'
  unfold lb at ih ⊢
  rw[List.takeWhile_cons]
  split
  ·rw[ih];simp
  ·rename_i hz
   have:=hp'.1 e (List.mem_of_getElem? h')
   simp at hz
   simp
   omega
section
variable {p r2 r3 c:Nat} {most t:Int} {A:Option Addr} {l:List jF} {e:jF}
theorem w7 (hK:K (I6 (l.length:Nat)) (pt p [I6 most,.slice A l.length c] 226::R)):CT 83 #[PO p] (pt p [I6 most,.slice A l.length c] 226::R) K:=by
 refine aH Tryz.func83 ?_
 repeat' (first|refine v4 ?_|refine w5 ?_ ?_|((refine bh fun h=>?_) <;> try exact w6 h)|(refine aE fun hA=>?_;subst hA)|intro _)
 all_goals(refine aC ?_;exact aB (hK))
theorem Aaf (h:1≤most∧most≤1024) (hK:∀p,K (.tuple #[PO p,I6 0]) (pt p [I6 most,.slice none 0 0] 226::R)):CT 55 #[I6 most] R K:=by
 refine aH Tryz.func55 ?_
 repeat' (first|refine v6 ?_|refine w5 ?_ ?_|((refine bh fun h=>?_) <;> try exact w6 h)|(refine aE fun hA=>?_;subst hA)|intro _)
 all_goals(refine aC ?_;exact aB (hK _))
def BV:List (Nat×Nat):= [(0,0),(1,0),(2,0),(3,0),(4,0),(5,0),(6,0),(7,0),(8,0),(9,0),(10,0)]
theorem HJ {i:Nat} {b:Bool} (hi:l[i]?=some e) (hb:decide (e.id<t)=b) (hK:K (.bool b) (pt r2 [PO p] 117::pt r3 [I6 t] 3::pt p [I6 most,.slice A l.length c] 226::bQ A c 255 fD l::R)):CT 357 #[I6 i,PO r2,PO r3] (pt r2 [PO p] 117::pt r3 [I6 t] 3::pt p [I6 most,.slice A l.length c] 226::bQ A c 255 fD l::R) K:=by
 subst hb
 have hlt:=(List.getElem?_eq_some_iff.1 hi).1
 have hi':l[((i:Nat):Int).toNat]?=some e:=by rw[Int.toNat_natCast];exact hi
 refine aH Tryz.func357 ?_
 repeat' (first|refine v29 ?_|refine dw BV ?_|refine w5 ?_ ?_|((refine bh fun h=>?_) <;> try exact w6 h)|(refine aE fun hA=>?_;subst hA)|intro _)
 all_goals(refine aC ?_;exact aB (hK))
theorem Akc {i j:Nat} (h:i≤j):((i:Int)+((j:Int) - i) / 2)=((i+(j - i) / 2:Nat):Int):=by omega
def iW:List (Nat×Nat):= [(2,0),(3,1),(0,1),(1,1),(4,0),(5,0),(6,0),(7,0),(8,0),(9,0),(10,0),(11,0),(12,0),(13,0),(14,0),(15,0),(16,0),(17,0),(18,0)]
theorem BD (hs:l.length≤100000) (hp:l.Pairwise fun a b=>a.id<b.id) (hK:K (.tuple #[I6 (lb t l),.bool (Ym t l)]) (pt p [I6 most,.slice A l.length c] 226::bQ A c 255 fD l::R)):CT 290 #[PO p,I6 t] (pt p [I6 most,.slice A l.length c] 226::bQ A c 255 fD l::R) K:=by
 have hle:=UM t l
 refine aH Tryz.func290 ?_
 repeat' (first|refine v84 ?_|refine dw iW ?_|refine w5 ?_ ?_|((refine bh fun h=>?_) <;> try exact w6 h)|(refine aE fun hA=>?_;subst hA)|intro _|(show aA _ 83 _ _ _;refine CA (h:=w7 ?_)))
 rename_i r2 r3
 refine fZ (fun kk a C'=>∃(i jj:Nat),i+kk=jj∧i≤lb t l∧lb t l≤jj∧jj≤l.length∧cJ a [(2,PO r2),(3,PO r3),(6,I6 i),(7,I6 jj),(8,.func (.func 357) #[] #[PO r2,PO r3])]∧C'=pt r3 [I6 t] 3::pt r2 [PO p] 117::pt p [I6 most,.slice A l.length c] 226::bQ A c 255 fD l::R) l.length (bV l.length ⟨0,l.length,by omega,Nat.zero_le _,hle,Nat.le_refl _,⟨rfl,rfl,rfl,rfl,rfl,trivial⟩,rfl⟩ (by omega)) ?_
 rintro kk a C' ⟨i,jj,hk,h1,h2,h3,ha,rfl⟩
 refine fP _ ha ?_
 simp only[eP]
 by_cases hlt:i<jj
 ·have hhalf:=Akc (i:=i) (j:=jj) (by omega)
  obtain⟨e,he⟩:∃e,l[i+(jj - i) / 2]?=some e:=⟨_,List.getElem?_eq_getElem (by omega)⟩
  have hiff:=UW (t:=t) hp he
  by_cases hc:e.id<t
  ·have hv1:decide (e.id<t)=true:=decide_eq_true hc
   have hj:=hiff.1 hc
   repeat' (first|refine v84 ?_|refine dw iW ?_|refine w5 ?_ ?_|((refine bh fun h=>?_) <;> try exact w6 h)|(refine aE fun hA=>?_;subst hA)|intro _|(show aA _ 357 _ _ _;rw[hhalf];refine CA (h:=HJ he hv1 ?_)))
   all_goals(show aT _ _ _ _;exact bV (kk - (i+(jj - i) / 2+1 - i)) ⟨i+(jj - i) / 2+1,jj,by omega,by omega,h2,h3,⟨rfl,rfl,congrArg (Value.int .i64) (by omega),rfl,rfl,trivial⟩,rfl⟩)
  ·have hj:¬i+(jj - i) / 2<lb t l:=fun q=>hc (hiff.2 q)
   have hv1:decide (e.id<t)=false:=decide_eq_false hc
   repeat' (first|refine v84 ?_|refine dw iW ?_|refine w5 ?_ ?_|((refine bh fun h=>?_) <;> try exact w6 h)|(refine aE fun hA=>?_;subst hA)|intro _|(show aA _ 357 _ _ _;rw[hhalf];refine CA (h:=HJ he hv1 ?_)))
   all_goals(show aT _ _ _ _;exact bV (kk - (jj - (i+(jj - i) / 2))) ⟨i,i+(jj - i) / 2,by omega,h1,by omega,by omega,⟨rfl,rfl,rfl,rfl,rfl,trivial⟩,rfl⟩)
 ·obtain rfl:i=lb t l:=by omega
  by_cases hn:lb t l<l.length
  ·obtain⟨e,he⟩:∃e,l[lb t l]?=some e:=⟨_,List.getElem?_eq_getElem hn⟩
   have hf:Ym t l=decide (e.id=t):=by unfold Ym;rw[he]
   have he':l[((lb t l:Nat):Int).toNat]?=some e:=by rw[Int.toNat_natCast];exact he
   rw[hf] at hK
   repeat' (first|refine v84 ?_|refine dw iW ?_|refine w5 ?_ ?_|((refine bh fun h=>?_) <;> try exact w6 h)|(refine aE fun hA=>?_;subst hA)|intro _|(show aA _ 83 _ _ _;refine CA (h:=w7 ?_)))
   all_goals(refine aC ?_;exact aB (hK))
  ·have hf:Ym t l=false:=by unfold Ym;rw[List.getElem?_eq_none (by omega)]
   rw[hf] at hK
   repeat' (first|refine v84 ?_|refine dw iW ?_|refine w5 ?_ ?_|((refine bh fun h=>?_) <;> try exact w6 h)|(refine aE fun hA=>?_;subst hA)|intro _|(show aA _ 83 _ _ _;refine CA (h:=w7 ?_)))
   all_goals(refine aC ?_;exact aB (hK))
end
end
section
variable {R C:List HP} {K:KP}
def Z6 (t:Int) (a:Nat) (l:List jF):List jF:=l.take (lb t l)++⟨t,a⟩::l.drop (lb t l)
section
variable {p a c:Nat} {most t:Int} {A:Option Addr} {l:List jF} {e:jF}
theorem Yb (hs:l.length≤100000) (hp:l.Pairwise fun a b=>a.id<b.id) (hf:Ym t l=false) (hK:K (.tuple #[.pointer none,.bool false]) (pt p [I6 most,.slice A l.length c] 226::bQ A c 255 fD l::R)):CT 192 #[PO p,I6 t] (pt p [I6 most,.slice A l.length c] 226::bQ A c 255 fD l::R) K:=by
 refine aH Tryz.func192 ?_
 repeat' (first|refine v41 ?_|refine w5 ?_ ?_|((refine bh fun h=>?_) <;> try exact w6 h)|(refine aE fun hA=>?_;subst hA)|intro _|(show aA _ 290 _ _ _;refine CA (h:=BD hs hp ?_);rw[hf]))
 all_goals(refine aC ?_;exact aB (hK))
theorem KR (hs:l.length≤100000) (hp:l.Pairwise fun a b=>a.id<b.id) (hf:Ym t l=true) (he:l[lb t l]?=some e) (hK:K (.tuple #[PO e.a,.bool true]) (pt p [I6 most,.slice A l.length c] 226::bQ A c 255 fD l::R)):CT 192 #[PO p,I6 t] (pt p [I6 most,.slice A l.length c] 226::bQ A c 255 fD l::R) K:=by
 have hlt:=(List.getElem?_eq_some_iff.1 he).1
 have he':l[((lb t l:Nat):Int).toNat]?=some e:=by rw[Int.toNat_natCast];exact he
 refine aH Tryz.func192 ?_
 repeat' (first|refine v41 ?_|refine w5 ?_ ?_|((refine bh fun h=>?_) <;> try exact w6 h)|(refine aE fun hA=>?_;subst hA)|intro _|(show aA _ 290 _ _ _;refine CA (h:=BD hs hp ?_);rw[hf]))
 all_goals(refine aC ?_;exact aB (hK))
def Gm:List (Nat×Nat):= [(0,0),(1,0),(2,0),(3,0),(4,0),(5,0),(6,0),(7,0),(8,0),(9,0),(10,0),(11,0),(12,0),(13,0),(14,0),(15,0),(16,0),(17,0),(18,0)]
theorem Af6 {i:Nat} (hs:l.length≤100000) (he:l[i]?=some e) (hK:K (.tuple #[I6 e.id,PO e.a,.bool true]) (pt p [I6 most,.slice A l.length c] 226::bQ A c 255 fD l::R)):CT 85 #[PO p,I6 i] (pt p [I6 most,.slice A l.length c] 226::bQ A c 255 fD l::R) K:=by
 have hlt:=(List.getElem?_eq_some_iff.1 he).1
 have he':l[((i:Nat):Int).toNat]?=some e:=by rw[Int.toNat_natCast];exact he
 refine aH Tryz.func85 ?_
 repeat' (first|refine v41 ?_|refine dw Gm ?_|refine w5 ?_ ?_|((refine bh fun h=>?_) <;> try exact w6 h)|(refine aE fun hA=>?_;subst hA)|intro _|(show aA _ 83 _ _ _;refine CA (h:=w7 ?_)))
 all_goals(refine aC ?_;exact aB (hK))
def CQ:List (Nat×Nat):= [(0,0),(1,0),(2,0),(3,0),(4,0),(5,0),(6,0),(7,0),(8,0),(9,0),(10,0)]
theorem YM (hs:l.length≤1000) (hp:l.Pairwise fun a b=>a.id<b.id) (hf:Ym t l=false) (hm:(l.length:Nat)<most) (hK:∀A' c',K (I6 0) (pt p [I6 most,.slice A' (l.length+1) c'] 226::bQ A' c' 255 fD (Z6 t a l)::R)):CT 215 #[PO p,I6 t,PO a] (pt p [I6 most,.slice A l.length c] 226::bQ A c 255 fD l::R) K:=by
 have hle:=UM t l
 refine aH Tryz.func215 ?_
 repeat' (first|refine v90 ?_|refine dw CQ ?_|refine w5 ?_ ?_|((refine bh fun h=>?_) <;> try exact w6 h)|(refine aE fun hA=>?_;subst hA)|intro _|(show aA _ 290 _ _ _;refine CA (h:=BD (by omega) hp ?_);rw[hf])|(show aA _ 302 _ _ _;refine CA (h:=Ahf (y:=⟨t,a⟩) rfl hle hs (fun A' c'=>?_))))
 all_goals(refine aC ?_;exact aB (hK _ _))
theorem Xg (hs:l.length≤1000) (hp:l.Pairwise fun a b=>a.id<b.id) (hf:Ym t l=true) (he:l[lb t l]?=some e) (hK:∀A' c',K (.tuple #[PO e.a,.bool true]) (pt p [I6 most,.slice A' (l.length - 1) c'] 226::bQ A' c' 255 fD (l.eraseIdx (lb t l))::R)):CT 313 #[PO p,I6 t] (pt p [I6 most,.slice A l.length c] 226::bQ A c 255 fD l::R) K:=by
 have hlt:=(List.getElem?_eq_some_iff.1 he).1
 refine aH Tryz.func313 ?_
 repeat' (first|refine Gt ?_|refine w5 ?_ ?_|((refine bh fun h=>?_) <;> try exact w6 h)|(refine aE fun hA=>?_;subst hA)|intro _|(show aA _ 192 _ _ _;refine CA (h:=KR (by omega) hp hf he ?_))|(show aA _ 290 _ _ _;refine CA (h:=BD (by omega) hp ?_);rw[hf])|(show aA _ 370 _ _ _;refine CA (h:=Ae8 rfl hlt (by omega) (fun A' c'=>?_))))
 all_goals(refine aC ?_;exact aB (hK _ _))
theorem Ad5 (hs:l.length≤100000) (hK:∀B d,K (.slice B l.length d) (bQ B d 3 jI (l.map jF.id)::pt p [I6 most,.slice A l.length c] 226::bQ A c 255 fD l::R)):CT 91 #[PO p] (pt p [I6 most,.slice A l.length c] 226::bQ A c 255 fD l::R) K:=by
 refine aH Tryz.func91 ?_
 repeat' (first|refine Y8 ?_|refine w5 ?_ ?_|((refine bh fun h=>?_) <;> try exact w6 h)|(refine aE fun hA=>?_;subst hA)|intro _|(show aA _ 83 _ _ _;refine CA (h:=w7 ?_)))
 refine l7 (aG.nilrow 3 jI _) ?_
 refine fZ (fun kk a C'=>∃(j:Nat) (B:Option Addr) (d:Nat),j+kk=l.length∧cJ a [(0,PO p),(3,.slice B ((l.take j).map jF.id).length d),(6,I6 l.length),(7,I6 j)]∧C'=bQ B d 3 jI ((l.take j).map jF.id)::pt p [I6 most,.slice A l.length c] 226::bQ A c 255 fD l::R) l.length (bV l.length ⟨0,none,0,by omega,⟨rfl,rfl,rfl,rfl,trivial⟩,rfl⟩ (by omega)) ?_
 rintro kk a C' ⟨j,B,d,hj,ha,rfl⟩
 refine fP _ ha ?_
 simp only[eP]
 by_cases hlt:j<l.length
 ·obtain⟨e,he⟩:∃e,l[j]?=some e:=⟨_,List.getElem?_eq_getElem hlt⟩
  have he':l[((j:Nat):Int).toNat]?=some e:=by rw[Int.toNat_natCast];exact he
  have hl:((l.take j).map jF.id).length≤100000:=by rw[List.length_map,List.length_take];omega
  have hn:(l.take j).map jF.id++ [e.id]=(l.take (j+1)).map jF.id:=by rw[List.take_add_one,he];simp
  repeat' (first|(show aN _ _ _ _ _ _ _;(refine cU (E:=jI) (xs:=(l.take j).map jF.id) (ys:= [e.id]) ?_;intro _ _))|refine Y8 ?_|refine w5 ?_ ?_|((refine bh fun h=>?_) <;> try exact w6 h)|(refine aE fun hA=>?_;subst hA)|intro _)
  all_goals rw[hn]
  all_goals(show aT _ _ _ _;exact bV (kk - 1) ⟨j+1,_,_,by omega,⟨rfl,rfl,rfl,rfl,trivial⟩,rfl⟩)
 ·have hjl:j=l.length:=by omega
  subst hjl
  rw[List.take_length]
  simp only[List.length_map]
  repeat' (first|refine Y8 ?_|refine w5 ?_ ?_|((refine bh fun h=>?_) <;> try exact w6 h)|(refine aE fun hA=>?_;subst hA)|intro _)
  all_goals(refine aC ?_;exact aB (hK _ _))
end
end
end Go.Proofs.YtifgibijcmppmaaGreat
