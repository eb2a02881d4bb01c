/- A part of the proof: lemmas; each with the conditions that it states. -/
import Derived.Test.YtifgibijcmppmaaGreatNal
set_option linter.unusedVariables false
set_option linter.unusedSimpArgs false
namespace Go.Proofs.YtifgibijcmppmaaGreat
open Go Go.Proofs Go.Sl
set_option maxRecDepth 100000
set_option maxHeartbeats 40000000
attribute [local irreducible] aN fB cJ bO aM aY aA dM dQ aW dK pt ro fF star sep bI
attribute [local irreducible] mp El
section
variable {R C:List HP} {K:Value→List HP→Prop}
def lb (t:Int) (l:List jR):Nat:=(l.takeWhile fun e=>decide (e.id<t)).length
def XE (t:Int) (l:List jR):Bool:=match l[lb t l]? with
 |some e=>decide (e.id=t)
 |none=>false
theorem TY (t:Int):∀l:List jR,lb t l≤l.length
 | []=>Nat.le_refl _
 |e::r=>by
  unfold lb
  rw[List.takeWhile_cons]
  split
  ·have:=TY t r;unfold lb at this;simp;omega
  ·simp
theorem TE {t:Int}:∀ {l:List jR} {j:Nat} {e:jR},l.Pairwise (fun a b=>a.id<b.id)→l[j]?=some e→(e.id<t↔j<lb t l)
 | [],_,_,_,h=>by cases h
 |z::r,0,e,_,h=>by
  cases h
  unfold lb
  rw[List.takeWhile_cons]
  split
  ·rename_i hz;simp at hz;simp[hz]
  ·rename_i hz;simp at hz;simp;omega
 |z::r,j+1,e,hp,h=>by
  have hp':=(List.pairwise_cons.1 hp)
  have h':r[j]?=some e:=by simpa using h
  have ih:=TE (t:=t) hp'.2 h'
  unfold lb at ih ⊢
  rw[List.takeWhile_cons]
  split
  ·rw[ih];simp
  ·rename_i hz
   have:=hp'.1 e (List.mem_of_getElem? h')
   simp at hz
   simp
   omega
section
variable {p r2 r3 c:Nat} {most t:Int} {A:Option Addr} {l:List jR} {e:jR}
theorem wR (hK:K (.int .i64 (l.length:Nat)) (pt p [.int .i64 most,.slice A l.length c] 226::R)):aA Tryz.prog 83 #[.pointer (some ⟨p,0,none⟩)] (pt p [.int .i64 most,.slice A l.length c] 226::R) K:=by
 refine aH Tryz.func83 ?_
 repeat' (first|refine v4 ?_|refine wr ?_|refine w5 ?_ ?_|((refine bh fun h=>?_) <;> try exact w6 h)|(refine aE fun hA=>?_;subst hA)|intro _)
 all_goals(refine aC ?_;exact aB (hK))
theorem Ac1 (h:1≤most∧most≤1024) (hK:∀p,K (.tuple #[.pointer (some ⟨p,0,none⟩),.int .i64 0]) (pt p [.int .i64 most,.slice none 0 0] 226::R)):aA Tryz.prog 55 #[.int .i64 most] R K:=by
 refine aH Tryz.func55 ?_
 repeat' (first|refine v6 ?_|refine wr ?_|refine w5 ?_ ?_|((refine bh fun h=>?_) <;> try exact w6 h)|(refine aE fun hA=>?_;subst hA)|intro _)
 all_goals(refine aC ?_;exact aB (hK _))
def BM:List (Nat×Nat):= [(0,0),(1,0),(2,0),(3,0),(4,0),(5,0),(6,0),(7,0),(8,0),(9,0),(10,0)]
theorem IH {i:Nat} {b:Bool} (hi:l[i]?=some e) (hb:decide (e.id<t)=b) (hK:K (.bool b) (pt r2 [.pointer (some ⟨p,0,none⟩)] 117::pt r3 [.int .i64 t] 3::pt p [.int .i64 most,.slice A l.length c] 226::bT A c 255 fI l::R)):aA Tryz.prog 357 #[.int .i64 i,.pointer (some ⟨r2,0,none⟩),.pointer (some ⟨r3,0,none⟩)] (pt r2 [.pointer (some ⟨p,0,none⟩)] 117::pt r3 [.int .i64 t] 3::pt p [.int .i64 most,.slice A l.length c] 226::bT A c 255 fI l::R) K:=by
 subst hb
 have hlt:=(List.getElem?_eq_some_iff.1 hi).1
 have hi':l[((i:Nat):Int).toNat]?=some e:=by rw[Int.toNat_natCast];exact hi
 refine aH Tryz.func357 ?_
 repeat' (first|refine v29 ?_|refine dw BM ?_|refine wr ?_|refine w5 ?_ ?_|((refine bh fun h=>?_) <;> try exact w6 h)|(refine aE fun hA=>?_;subst hA)|intro _)
 all_goals(refine aC ?_;exact aB (hK))
theorem Aij {i j:Nat} (h:i≤j):((i:Int)+((j:Int) - i) / 2)=((i+(j - i) / 2:Nat):Int):=by omega
def iX:List (Nat×Nat):= [(2,0),(3,1),(0,1),(1,1),(4,0),(5,0),(6,0),(7,0),(8,0),(9,0),(10,0),(11,0),(12,0),(13,0),(14,0),(15,0),(16,0),(17,0),(18,0)]
theorem Bb (hs:l.length≤100000) (hp:l.Pairwise fun a b=>a.id<b.id) (hK:K (.tuple #[.int .i64 (lb t l),.bool (XE t l)]) (pt p [.int .i64 most,.slice A l.length c] 226::bT A c 255 fI l::R)):aA Tryz.prog 290 #[.pointer (some ⟨p,0,none⟩),.int .i64 t] (pt p [.int .i64 most,.slice A l.length c] 226::bT A c 255 fI l::R) K:=by
 have hle:=TY t l
 refine aH Tryz.func290 ?_
 repeat' (first|refine v84 ?_|refine dw iX ?_|refine wr ?_|refine w5 ?_ ?_|((refine bh fun h=>?_) <;> try exact w6 h)|(refine aE fun hA=>?_;subst hA)|intro _|(show aA _ 83 _ _ _;refine CA (h:=wR ?_)))
 rename_i r2 r3
 refine iF (fun kk a C'=>∃(i jj:Nat),i+kk=jj∧i≤lb t l∧lb t l≤jj∧jj≤l.length∧cN a [(2,.pointer (some ⟨r2,0,none⟩)),(3,.pointer (some ⟨r3,0,none⟩)),(6,.int .i64 i),(7,.int .i64 jj),(8,.func (.func 357) #[] #[.pointer (some ⟨r2,0,none⟩),.pointer (some ⟨r3,0,none⟩)])]∧C'=pt r3 [.int .i64 t] 3::pt r2 [.pointer (some ⟨p,0,none⟩)] 117::pt p [.int .i64 most,.slice A l.length c] 226::bT A c 255 fI l::R) l.length (b9 l.length ⟨0,l.length,by omega,Nat.zero_le _,hle,Nat.le_refl _,⟨rfl,rfl,rfl,rfl,rfl,trivial⟩,rfl⟩ (by omega)) ?_
 rintro kk a C' ⟨i,jj,hk,h1,h2,h3,ha,rfl⟩
 refine gF _ ha ?_
 simp only[eQ]
 by_cases hlt:i<jj
 ·have hhalf:=Aij (i:=i) (j:=jj) (by omega)
  obtain⟨e,he⟩:∃e,l[i+(jj - i) / 2]?=some e:=⟨_,List.getElem?_eq_getElem (by omega)⟩
  have hiff:=TE (t:=t) hp he
  by_cases hc:e.id<t
  ·have hv1:decide (e.id<t)=true:=decide_eq_true hc
   have hj:=hiff.1 hc
   repeat' (first|refine v84 ?_|refine dw iX ?_|refine wr ?_|refine w5 ?_ ?_|((refine bh fun h=>?_) <;> try exact w6 h)|(refine aE fun hA=>?_;subst hA)|intro _|(show aA _ 357 _ _ _;rw[hhalf];refine CA (h:=IH he hv1 ?_)))
   all_goals(show aW _ _ _ _;exact b9 (kk - (i+(jj - i) / 2+1 - i)) ⟨i+(jj - i) / 2+1,jj,by omega,by omega,h2,h3,⟨rfl,rfl,congrArg (Value.int .i64) (by omega),rfl,rfl,trivial⟩,rfl⟩)
  ·have hj:¬i+(jj - i) / 2<lb t l:=fun q=>hc (hiff.2 q)
   have hv1:decide (e.id<t)=false:=decide_eq_false hc
   repeat' (first|refine v84 ?_|refine dw iX ?_|refine wr ?_|refine w5 ?_ ?_|((refine bh fun h=>?_) <;> try exact w6 h)|(refine aE fun hA=>?_;subst hA)|intro _|(show aA _ 357 _ _ _;rw[hhalf];refine CA (h:=IH he hv1 ?_)))
   all_goals(show aW _ _ _ _;exact b9 (kk - (jj - (i+(jj - i) / 2))) ⟨i,i+(jj - i) / 2,by omega,h1,by omega,by omega,⟨rfl,rfl,rfl,rfl,rfl,trivial⟩,rfl⟩)
 ·obtain rfl:i=lb t l:=by omega
  by_cases hn:lb t l<l.length
  ·obtain⟨e,he⟩:∃e,l[lb t l]?=some e:=⟨_,List.getElem?_eq_getElem hn⟩
   have hf:XE t l=decide (e.id=t):=by unfold XE;rw[he]
   have he':l[((lb t l:Nat):Int).toNat]?=some e:=by rw[Int.toNat_natCast];exact he
   rw[hf] at hK
   repeat' (first|refine v84 ?_|refine dw iX ?_|refine wr ?_|refine w5 ?_ ?_|((refine bh fun h=>?_) <;> try exact w6 h)|(refine aE fun hA=>?_;subst hA)|intro _|(show aA _ 83 _ _ _;refine CA (h:=wR ?_)))
   all_goals(refine aC ?_;exact aB (hK))
  ·have hf:XE t l=false:=by unfold XE;rw[List.getElem?_eq_none (by omega)]
   rw[hf] at hK
   repeat' (first|refine v84 ?_|refine dw iX ?_|refine wr ?_|refine w5 ?_ ?_|((refine bh fun h=>?_) <;> try exact w6 h)|(refine aE fun hA=>?_;subst hA)|intro _|(show aA _ 83 _ _ _;refine CA (h:=wR ?_)))
   all_goals(refine aC ?_;exact aB (hK))
end
end
section
variable {R C:List HP} {K:Value→List HP→Prop}
def Zg (t:Int) (a:Nat) (l:List jR):List jR:=l.take (lb t l)++⟨t,a⟩::l.drop (lb t l)
section
variable {p a c:Nat} {most t:Int} {A:Option Addr} {l:List jR} {e:jR}
theorem Xk (hs:l.length≤100000) (hp:l.Pairwise fun a b=>a.id<b.id) (hf:XE t l=false) (hK:K (.tuple #[.pointer none,.bool false]) (pt p [.int .i64 most,.slice A l.length c] 226::bT A c 255 fI l::R)):aA Tryz.prog 192 #[.pointer (some ⟨p,0,none⟩),.int .i64 t] (pt p [.int .i64 most,.slice A l.length c] 226::bT A c 255 fI l::R) K:=by
 refine aH Tryz.func192 ?_
 repeat' (first|refine v41 ?_|refine wr ?_|refine w5 ?_ ?_|((refine bh fun h=>?_) <;> try exact w6 h)|(refine aE fun hA=>?_;subst hA)|intro _|(show aA _ 290 _ _ _;refine CA (h:=Bb hs hp ?_);rw[hf]))
 all_goals(refine aC ?_;exact aB (hK))
theorem KX (hs:l.length≤100000) (hp:l.Pairwise fun a b=>a.id<b.id) (hf:XE t l=true) (he:l[lb t l]?=some e) (hK:K (.tuple #[.pointer (some ⟨e.a,0,none⟩),.bool true]) (pt p [.int .i64 most,.slice A l.length c] 226::bT A c 255 fI l::R)):aA Tryz.prog 192 #[.pointer (some ⟨p,0,none⟩),.int .i64 t] (pt p [.int .i64 most,.slice A l.length c] 226::bT A c 255 fI l::R) K:=by
 have hlt:=(List.getElem?_eq_some_iff.1 he).1
 have he':l[((lb t l:Nat):Int).toNat]?=some e:=by rw[Int.toNat_natCast];exact he
 refine aH Tryz.func192 ?_
 repeat' (first|refine v41 ?_|refine wr ?_|refine w5 ?_ ?_|((refine bh fun h=>?_) <;> try exact w6 h)|(refine aE fun hA=>?_;subst hA)|intro _|(show aA _ 290 _ _ _;refine CA (h:=Bb hs hp ?_);rw[hf]))
 all_goals(refine aC ?_;exact aB (hK))
def F5:List (Nat×Nat):= [(0,0),(1,0),(2,0),(3,0),(4,0),(5,0),(6,0),(7,0),(8,0),(9,0),(10,0),(11,0),(12,0),(13,0),(14,0),(15,0),(16,0),(17,0),(18,0)]
theorem Aeg {i:Nat} (hs:l.length≤100000) (he:l[i]?=some e) (hK:K (.tuple #[.int .i64 e.id,.pointer (some ⟨e.a,0,none⟩),.bool true]) (pt p [.int .i64 most,.slice A l.length c] 226::bT A c 255 fI l::R)):aA Tryz.prog 85 #[.pointer (some ⟨p,0,none⟩),.int .i64 i] (pt p [.int .i64 most,.slice A l.length c] 226::bT A c 255 fI l::R) K:=by
 have hlt:=(List.getElem?_eq_some_iff.1 he).1
 have he':l[((i:Nat):Int).toNat]?=some e:=by rw[Int.toNat_natCast];exact he
 refine aH Tryz.func85 ?_
 repeat' (first|refine v41 ?_|refine dw F5 ?_|refine wr ?_|refine w5 ?_ ?_|((refine bh fun h=>?_) <;> try exact w6 h)|(refine aE fun hA=>?_;subst hA)|intro _|(show aA _ 83 _ _ _;refine CA (h:=wR ?_)))
 all_goals(refine aC ?_;exact aB (hK))
def CJ:List (Nat×Nat):= [(0,0),(1,0),(2,0),(3,0),(4,0),(5,0),(6,0),(7,0),(8,0),(9,0),(10,0)]
theorem Zb (hs:l.length≤1000) (hp:l.Pairwise fun a b=>a.id<b.id) (hf:XE t l=false) (hm:(l.length:Nat)<most) (hK:∀A' c',K (.int .i64 0) (pt p [.int .i64 most,.slice A' (l.length+1) c'] 226::bT A' c' 255 fI (Zg t a l)::R)):aA Tryz.prog 215 #[.pointer (some ⟨p,0,none⟩),.int .i64 t,.pointer (some ⟨a,0,none⟩)] (pt p [.int .i64 most,.slice A l.length c] 226::bT A c 255 fI l::R) K:=by
 have hle:=TY t l
 refine aH Tryz.func215 ?_
 repeat' (first|refine v90 ?_|refine dw CJ ?_|refine wr ?_|refine w5 ?_ ?_|((refine bh fun h=>?_) <;> try exact w6 h)|(refine aE fun hA=>?_;subst hA)|intro _|(show aA _ 290 _ _ _;refine CA (h:=Bb (by omega) hp ?_);rw[hf])|(show aA _ 302 _ _ _;refine CA (h:=Af3 (y:=⟨t,a⟩) rfl hle hs (fun A' c'=>?_))))
 all_goals(refine aC ?_;exact aB (hK _ _))
theorem V1 (hs:l.length≤1000) (hp:l.Pairwise fun a b=>a.id<b.id) (hf:XE t l=true) (he:l[lb t l]?=some e) (hK:∀A' c',K (.tuple #[.pointer (some ⟨e.a,0,none⟩),.bool true]) (pt p [.int .i64 most,.slice A' (l.length - 1) c'] 226::bT A' c' 255 fI (l.eraseIdx (lb t l))::R)):aA Tryz.prog 313 #[.pointer (some ⟨p,0,none⟩),.int .i64 t] (pt p [.int .i64 most,.slice A l.length c] 226::bT A c 255 fI l::R) K:=by
 have hlt:=(List.getElem?_eq_some_iff.1 he).1
 refine aH Tryz.func313 ?_
 repeat' (first|refine FL ?_|refine wr ?_|refine w5 ?_ ?_|((refine bh fun h=>?_) <;> try exact w6 h)|(refine aE fun hA=>?_;subst hA)|intro _|(show aA _ 192 _ _ _;refine CA (h:=KX (by omega) hp hf he ?_))|(show aA _ 290 _ _ _;refine CA (h:=Bb (by omega) hp ?_);rw[hf])|(show aA _ 370 _ _ _;refine CA (h:=Afx rfl hlt (by omega) (fun A' c'=>?_))))
 all_goals(refine aC ?_;exact aB (hK _ _))
theorem Aai (hs:l.length≤100000) (hK:∀B d,K (.slice B l.length d) (bT B d 3 kH (l.map jR.id)::pt p [.int .i64 most,.slice A l.length c] 226::bT A c 255 fI l::R)):aA Tryz.prog 91 #[.pointer (some ⟨p,0,none⟩)] (pt p [.int .i64 most,.slice A l.length c] 226::bT A c 255 fI l::R) K:=by
 refine aH Tryz.func91 ?_
 repeat' (first|refine v45 ?_|refine wr ?_|refine w5 ?_ ?_|((refine bh fun h=>?_) <;> try exact w6 h)|(refine aE fun hA=>?_;subst hA)|intro _|(show aA _ 83 _ _ _;refine CA (h:=wR ?_)))
 refine nR (aG.nilrow 3 kH _) ?_
 refine iF (fun kk a C'=>∃(j:Nat) (B:Option Addr) (d:Nat),j+kk=l.length∧cN a [(0,.pointer (some ⟨p,0,none⟩)),(3,.slice B ((l.take j).map jR.id).length d),(6,.int .i64 l.length),(7,.int .i64 j)]∧C'=bT B d 3 kH ((l.take j).map jR.id)::pt p [.int .i64 most,.slice A l.length c] 226::bT A c 255 fI l::R) l.length (b9 l.length ⟨0,none,0,by omega,⟨rfl,rfl,rfl,rfl,trivial⟩,rfl⟩ (by omega)) ?_
 rintro kk a C' ⟨j,B,d,hj,ha,rfl⟩
 refine gF _ ha ?_
 simp only[eQ]
 by_cases hlt:j<l.length
 ·obtain⟨e,he⟩:∃e,l[j]?=some e:=⟨_,List.getElem?_eq_getElem hlt⟩
  have he':l[((j:Nat):Int).toNat]?=some e:=by rw[Int.toNat_natCast];exact he
  have hl:((l.take j).map jR.id).length≤100000:=by rw[List.length_map,List.length_take];omega
  have hn:(l.take j).map jR.id++ [e.id]=(l.take (j+1)).map jR.id:=by rw[List.take_add_one,he];simp
  repeat' (first|(show aN _ _ _ _ _ _ _;(refine cY (E:=kH) (xs:=(l.take j).map jR.id) (ys:= [e.id]) ?_;intro _ _))|refine v45 ?_|refine wr ?_|refine w5 ?_ ?_|((refine bh fun h=>?_) <;> try exact w6 h)|(refine aE fun hA=>?_;subst hA)|intro _)
  all_goals rw[hn]
  all_goals(show aW _ _ _ _;exact b9 (kk - 1) ⟨j+1,_,_,by omega,⟨rfl,rfl,rfl,rfl,trivial⟩,rfl⟩)
 ·have hjl:j=l.length:=by omega
  subst hjl
  rw[List.take_length]
  simp only[List.length_map]
  repeat' (first|refine v45 ?_|refine wr ?_|refine w5 ?_ ?_|((refine bh fun h=>?_) <;> try exact w6 h)|(refine aE fun hA=>?_;subst hA)|intro _)
  all_goals(refine aC ?_;exact aB (hK _ _))
end
end
end Go.Proofs.YtifgibijcmppmaaGreat
