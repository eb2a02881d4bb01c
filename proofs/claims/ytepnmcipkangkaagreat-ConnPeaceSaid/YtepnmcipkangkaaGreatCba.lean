/- A part of the proof: lemmas; each with the conditions that it states. -/
import Derived.Test.YtepnmcipkangkaaGreatCav
import Derived.Test.YtepnmcipkangkaaGreatCap
set_option linter.unusedVariables false
set_option linter.unusedSimpArgs false
set_option maxRecDepth 100000
set_option maxHeartbeats 40000000
namespace Go.Proofs.YtepnmcipkangkaaGreat
open Go Go.Proofs Go.Sl
attribute [local irreducible] aN fL cL bM aL aR aA dJ dK aU dI pt ro fC star sep bF
attribute [local irreducible] mp DG
variable {R C:List HP} {K:KP} {p r2 r3 c i j w0 w:Nat} {most t m k b:Int} {A:Option Addr} {q:List (iT×Int)} {z:iT×Int} {X Y Z:HP}
def lb (t:Int) (l:List kD):Nat:=(l.takeWhile fun e=>decide (e.id<t)).length
def ZK (t:Int) (l:List kD):Bool:=match l[lb t l]? with
 |some e=>decide (e.id=t)
 |none=>false
theorem Wj (t:Int):∀l:List kD,lb t l<=l.length
 | []=>Nat.le_refl _
 |e::r=>by
  unfold lb
  rw[List.takeWhile_cons]
  split
  ·have:=Wj t r;unfold lb at this;simp;omega
  ·simp
theorem WR {t:Int}:∀ {l:List kD} {j:Nat} {e:kD},l.Pairwise (fun a b=>a.id<b.id)->l[j]?=some e->(e.id<t↔j<lb t l)
 | [],_,_,_,h=>by cases h
 |z::r,0,e,_,h=>by
  cases h
  unfold lb
  rw[List.takeWhile_cons]
  split
  ·rename_i hz;simp at hz;simp[hz]
  ·rename_i hz;simp at hz;simp;omega
 |z::r,j+1,e,hp,h=>by
  have hp':=(List.pairwise_cons.1 hp)
  have h':r[j]?=some e:=by simpa using h
  have ih:=WR (t:=t) hp'.2 h'
  unfold lb at ih ⊢
  rw[List.takeWhile_cons]
  split
  ·rw[ih];simp
  ·rename_i hz
   have:=hp'.1 e (List.mem_of_getElem? h')
   simp at hz
   simp
   omega
section
variable {l:List kD} {e:kD}
theorem yQ (hK:K (I6 (l.length:Nat)) (pt p [I6 most,.slice A l.length c] 259::R)):CT 60 #[PO p] (pt p [I6 most,.slice A l.length c] 259::R) K:=by
 refine aH Tryz.func60 ?_
 repeat' (first|refine v4 ?_|refine w5 ?_ ?_|((refine bh fun h=>?_) <;> try exact w6 h)|(refine aE fun hA=>?_;subst hA)|intro _)
 all_goals(refine aC ?_;exact aB (hK))
theorem Aad (h:1<=most/\most<=1024) (hK:∀p,K (.tuple #[PO p,I6 0]) (pt p [I6 most,.slice none 0 0] 259::R)):CT 95 #[I6 most] R K:=by
 refine aH Tryz.func95 ?_
 repeat' (first|refine v6 ?_|refine w5 ?_ ?_|((refine bh fun h=>?_) <;> try exact w6 h)|(refine aE fun hA=>?_;subst hA)|intro _)
 all_goals(refine aC ?_;exact aB (hK _))
def CC:List (Nat×Nat):= [(0,0),(1,0),(2,0),(3,0),(4,0),(5,0),(6,0),(7,0),(8,0),(9,0),(10,0)]
theorem Im {b:Bool} (hi:l[i]?=some e) (hb:decide (e.id<t)=b) (hK:K (.bool b) (pt r2 [PO p] 110::pt r3 [I6 t] 3::pt p [I6 most,.slice A l.length c] 259::bT A c 261 fP l::R)):CT 330 #[I6 i,PO r2,PO r3] (pt r2 [PO p] 110::pt r3 [I6 t] 3::pt p [I6 most,.slice A l.length c] 259::bT A c 261 fP l::R) K:=by
 subst hb
 have hlt:=(List.getElem?_eq_some_iff.1 hi).1
 have hi':l[((i:Nat):Int).toNat]?=some e:=by rw[Int.toNat_natCast];exact hi
 refine aH Tryz.func330 ?_
 repeat' (first|refine v29 ?_|refine dw CC ?_|refine w5 ?_ ?_|((refine bh fun h=>?_) <;> try exact w6 h)|(refine aE fun hA=>?_;subst hA)|intro _)
 all_goals(refine aC ?_;exact aB (hK))
theorem Ani (h:i<=j):((i:Int)+((j:Int) - i) / 2)=((i+(j - i) / 2:Nat):Int):=by omega
def jL:List (Nat×Nat):= [(2,0),(3,1),(0,1),(1,1),(4,0),(5,0),(6,0),(7,0),(8,0),(9,0),(10,0),(11,0),(12,0),(13,0),(14,0),(15,0),(16,0),(17,0),(18,0)]
theorem Ct (hs:l.length<=100000) (hp:l.Pairwise fun a b=>a.id<b.id) (hK:K (.tuple #[I6 (lb t l),.bool (ZK t l)]) (pt p [I6 most,.slice A l.length c] 259::bT A c 261 fP l::R)):CT 225 #[PO p,I6 t] (pt p [I6 most,.slice A l.length c] 259::bT A c 261 fP l::R) K:=by
 have hle:=Wj t l
 refine aH Tryz.func225 ?_
 repeat' (first|refine v84 ?_|refine dw jL ?_|refine w5 ?_ ?_|((refine bh fun h=>?_) <;> try exact w6 h)|(refine aE fun hA=>?_;subst hA)|intro _|(show aA _ 60 _ _ _;refine CA (h:=yQ ?_)))
 rename_i r2 r3
 refine jA (fun kk a C'=>∃(i jj:Nat),i+kk=jj/\i<=lb t l/\lb t l<=jj/\jj<=l.length/\dH a [(2,PO r2),(3,PO r3),(6,I6 i),(7,I6 jj),(8,.func (.func 330) #[] #[PO r2,PO r3])]/\C'=pt r3 [I6 t] 3::pt r2 [PO p] 110::pt p [I6 most,.slice A l.length c] 259::bT A c 261 fP l::R) l.length (cJ l.length ⟨0,l.length,by omega,Nat.zero_le _,hle,Nat.le_refl _,⟨rfl,rfl,rfl,rfl,rfl,trivial⟩,rfl⟩ (by omega)) ?_
 rintro kk a C' ⟨i,jj,hk,h1,h2,h3,ha,rfl⟩
 refine i6 _ ha ?_
 simp only[gJ]
 by_cases hlt:i<jj
 ·have hhalf:=Ani (i:=i) (j:=jj) (by omega)
  obtain⟨e,he⟩:∃e,l[i+(jj - i) / 2]?=some e:=⟨_,List.getElem?_eq_getElem (by omega)⟩
  have hiff:=WR (t:=t) hp he
  by_cases hc:e.id<t
  ·have hv1:decide (e.id<t)=true:=decide_eq_true hc
   have hj:=hiff.1 hc
   repeat' (first|refine v84 ?_|refine dw jL ?_|refine w5 ?_ ?_|((refine bh fun h=>?_) <;> try exact w6 h)|(refine aE fun hA=>?_;subst hA)|intro _|(show aA _ 330 _ _ _;rw[hhalf];refine CA (h:=Im he hv1 ?_)))
   all_goals(show aU _ _ _ _;exact cJ (kk - (i+(jj - i) / 2+1 - i)) ⟨i+(jj - i) / 2+1,jj,by omega,by omega,h2,h3,⟨rfl,rfl,congrArg (Value.int .i64) (by omega),rfl,rfl,trivial⟩,rfl⟩)
  ·have hj:¬i+(jj - i) / 2<lb t l:=fun q=>hc (hiff.2 q)
   have hv1:decide (e.id<t)=false:=decide_eq_false hc
   repeat' (first|refine v84 ?_|refine dw jL ?_|refine w5 ?_ ?_|((refine bh fun h=>?_) <;> try exact w6 h)|(refine aE fun hA=>?_;subst hA)|intro _|(show aA _ 330 _ _ _;rw[hhalf];refine CA (h:=Im he hv1 ?_)))
   all_goals(show aU _ _ _ _;exact cJ (kk - (jj - (i+(jj - i) / 2))) ⟨i,i+(jj - i) / 2,by omega,h1,by omega,by omega,⟨rfl,rfl,rfl,rfl,rfl,trivial⟩,rfl⟩)
 ·obtain rfl:i=lb t l:=by omega
  by_cases hn:lb t l<l.length
  ·obtain⟨e,he⟩:∃e,l[lb t l]?=some e:=⟨_,List.getElem?_eq_getElem hn⟩
   have hf:ZK t l=decide (e.id=t):=by unfold ZK;rw[he]
   have he':l[((lb t l:Nat):Int).toNat]?=some e:=by rw[Int.toNat_natCast];exact he
   rw[hf] at hK
   repeat' (first|refine v84 ?_|refine dw jL ?_|refine w5 ?_ ?_|((refine bh fun h=>?_) <;> try exact w6 h)|(refine aE fun hA=>?_;subst hA)|intro _|(show aA _ 60 _ _ _;refine CA (h:=yQ ?_)))
   all_goals(refine aC ?_;exact aB (hK))
  ·have hf:ZK t l=false:=by unfold ZK;rw[List.getElem?_eq_none (by omega)]
   rw[hf] at hK
   repeat' (first|refine v84 ?_|refine dw jL ?_|refine w5 ?_ ?_|((refine bh fun h=>?_) <;> try exact w6 h)|(refine aE fun hA=>?_;subst hA)|intro _|(show aA _ 60 _ _ _;refine CA (h:=yQ ?_)))
   all_goals(refine aC ?_;exact aB (hK))
end
def Agk (t:Int) (a:Nat) (l:List kD):List kD:=l.take (lb t l)++⟨t,a⟩::l.drop (lb t l)
section
variable {a:Nat} {l:List kD} {e:kD}
theorem Xy (hs:l.length<=100000) (hp:l.Pairwise fun a b=>a.id<b.id) (hf:ZK t l=false) (hK:K (.tuple #[.pointer none,.bool false]) (pt p [I6 most,.slice A l.length c] 259::bT A c 261 fP l::R)):CT 126 #[PO p,I6 t] (pt p [I6 most,.slice A l.length c] 259::bT A c 261 fP l::R) K:=by
 refine aH Tryz.func126 ?_
 repeat' (first|refine v41 ?_|refine w5 ?_ ?_|((refine bh fun h=>?_) <;> try exact w6 h)|(refine aE fun hA=>?_;subst hA)|intro _|(show aA _ 225 _ _ _;refine CA (h:=Ct hs hp ?_);rw[hf]))
 all_goals(refine aC ?_;exact aB (hK))
theorem Lf (hs:l.length<=100000) (hp:l.Pairwise fun a b=>a.id<b.id) (hf:ZK t l=true) (he:l[lb t l]?=some e) (hK:K (.tuple #[PO e.a,.bool true]) (pt p [I6 most,.slice A l.length c] 259::bT A c 261 fP l::R)):CT 126 #[PO p,I6 t] (pt p [I6 most,.slice A l.length c] 259::bT A c 261 fP l::R) K:=by
 have hlt:=(List.getElem?_eq_some_iff.1 he).1
 have he':l[((lb t l:Nat):Int).toNat]?=some e:=by rw[Int.toNat_natCast];exact he
 refine aH Tryz.func126 ?_
 repeat' (first|refine v41 ?_|refine w5 ?_ ?_|((refine bh fun h=>?_) <;> try exact w6 h)|(refine aE fun hA=>?_;subst hA)|intro _|(show aA _ 225 _ _ _;refine CA (h:=Ct hs hp ?_);rw[hf]))
 all_goals(refine aC ?_;exact aB (hK))
def G0:List (Nat×Nat):= [(0,0),(1,0),(2,0),(3,0),(4,0),(5,0),(6,0),(7,0),(8,0),(9,0),(10,0),(11,0),(12,0),(13,0),(14,0),(15,0),(16,0),(17,0),(18,0)]
theorem Ah9 (hs:l.length<=100000) (he:l[i]?=some e) (hK:K (.tuple #[I6 e.id,PO e.a,.bool true]) (pt p [I6 most,.slice A l.length c] 259::bT A c 261 fP l::R)):CT 62 #[PO p,I6 i] (pt p [I6 most,.slice A l.length c] 259::bT A c 261 fP l::R) K:=by
 have hlt:=(List.getElem?_eq_some_iff.1 he).1
 have he':l[((i:Nat):Int).toNat]?=some e:=by rw[Int.toNat_natCast];exact he
 refine aH Tryz.func62 ?_
 repeat' (first|refine v41 ?_|refine dw G0 ?_|refine w5 ?_ ?_|((refine bh fun h=>?_) <;> try exact w6 h)|(refine aE fun hA=>?_;subst hA)|intro _|(show aA _ 60 _ _ _;refine CA (h:=yQ ?_)))
 all_goals(refine aC ?_;exact aB (hK))
def DO:List (Nat×Nat):= [(0,0),(1,0),(2,0),(3,0),(4,0),(5,0),(6,0),(7,0),(8,0),(9,0),(10,0)]
theorem Afh (hs:l.length<=1000) (hp:l.Pairwise fun a b=>a.id<b.id) (hf:ZK t l=false) (hm:(l.length:Nat)<most) (hK:∀A' c',K (I6 0) (pt p [I6 most,.slice A' (l.length+1) c'] 259::bT A' c' 261 fP (Agk t a l)::R)):CT 233 #[PO p,I6 t,PO a] (pt p [I6 most,.slice A l.length c] 259::bT A c 261 fP l::R) K:=by
 have hle:=Wj t l
 refine aH Tryz.func233 ?_
 repeat' (first|refine v90 ?_|refine dw DO ?_|refine w5 ?_ ?_|((refine bh fun h=>?_) <;> try exact w6 h)|(refine aE fun hA=>?_;subst hA)|intro _|(show aA _ 225 _ _ _;refine CA (h:=Ct (by omega) hp ?_);rw[hf])|(show aA _ 336 _ _ _;refine CA (h:=Ahh (y:=⟨t,a⟩) rfl hle hs (fun A' c'=>?_))))
 all_goals(refine aC ?_;exact aB (hK _ _))
theorem YP (hs:l.length<=1000) (hp:l.Pairwise fun a b=>a.id<b.id) (hf:ZK t l=true) (he:l[lb t l]?=some e) (hK:∀A' c',K (.tuple #[PO e.a,.bool true]) (pt p [I6 most,.slice A' (l.length - 1) c'] 259::bT A' c' 261 fP (l.eraseIdx (lb t l))::R)):CT 349 #[PO p,I6 t] (pt p [I6 most,.slice A l.length c] 259::bT A c 261 fP l::R) K:=by
 have hlt:=(List.getElem?_eq_some_iff.1 he).1
 refine aH Tryz.func349 ?_
 repeat' (first|refine GF ?_|refine w5 ?_ ?_|((refine bh fun h=>?_) <;> try exact w6 h)|(refine aE fun hA=>?_;subst hA)|intro _|(show aA _ 126 _ _ _;refine CA (h:=Lf (by omega) hp hf he ?_))|(show aA _ 225 _ _ _;refine CA (h:=Ct (by omega) hp ?_);rw[hf])|(show aA _ 422 _ _ _;refine CA (h:=Ahr rfl hlt (by omega) (fun A' c'=>?_))))
 all_goals(refine aC ?_;exact aB (hK _ _))
theorem Aea (hs:l.length<=100000) (hK:∀B d,K (.slice B l.length d) (bT B d 3 k8 (l.map kD.id)::pt p [I6 most,.slice A l.length c] 259::bT A c 261 fP l::R)):CT 125 #[PO p] (pt p [I6 most,.slice A l.length c] 259::bT A c 261 fP l::R) K:=by
 refine aH Tryz.func125 ?_
 repeat' (first|refine v45 ?_|refine w5 ?_ ?_|((refine bh fun h=>?_) <;> try exact w6 h)|(refine aE fun hA=>?_;subst hA)|intro _|(show aA _ 60 _ _ _;refine CA (h:=yQ ?_)))
 refine o7 (aG.nilrow 3 k8 _) ?_
 refine jA (fun kk a C'=>∃(j:Nat) (B:Option Addr) (d:Nat),j+kk=l.length/\dH a [(0,PO p),(3,.slice B ((l.take j).map kD.id).length d),(6,I6 l.length),(7,I6 j)]/\C'=bT B d 3 k8 ((l.take j).map kD.id)::pt p [I6 most,.slice A l.length c] 259::bT A c 261 fP l::R) l.length (cJ l.length ⟨0,none,0,by omega,⟨rfl,rfl,rfl,rfl,trivial⟩,rfl⟩ (by omega)) ?_
 rintro kk a C' ⟨j,B,d,hj,ha,rfl⟩
 refine i6 _ ha ?_
 simp only[gJ]
 by_cases hlt:j<l.length
 ·obtain⟨e,he⟩:∃e,l[j]?=some e:=⟨_,List.getElem?_eq_getElem hlt⟩
  have he':l[((j:Nat):Int).toNat]?=some e:=by rw[Int.toNat_natCast];exact he
  have hl:((l.take j).map kD.id).length<=100000:=by rw[List.length_map,List.length_take];omega
  have hn:(l.take j).map kD.id++ [e.id]=(l.take (j+1)).map kD.id:=by rw[List.take_add_one,he];simp
  repeat' (first|(show aN _ _ _ _ _ _ _;(refine dD (E:=k8) (xs:=(l.take j).map kD.id) (ys:= [e.id]) ?_;intro _ _))|refine v45 ?_|refine w5 ?_ ?_|((refine bh fun h=>?_) <;> try exact w6 h)|(refine aE fun hA=>?_;subst hA)|intro _)
  all_goals rw[hn]
  all_goals(show aU _ _ _ _;exact cJ (kk - 1) ⟨j+1,_,_,by omega,⟨rfl,rfl,rfl,rfl,trivial⟩,rfl⟩)
 ·have hjl:j=l.length:=by omega
  subst hjl
  rw[List.take_length]
  simp only[List.length_map]
  repeat' (first|refine v45 ?_|refine w5 ?_ ?_|((refine bh fun h=>?_) <;> try exact w6 h)|(refine aE fun hA=>?_;subst hA)|intro _)
  all_goals(refine aC ?_;exact aB (hK _ _))
end
section
variable {n:Nat} {sp n0:Int} {l:List iT} {e:iT}
theorem vU (hs:l.length<=100000) (hp:l.Pairwise fun a b=>a.id<b.id) (hK:K (.tuple #[I6 (AY t l),.bool (Mr t l)]) (pt p [PO w0,I6 sp,.slice A l.length c] 131::bT A c 136 yN l::R)):CT 159 #[PO p,I6 t] (pt p [PO w0,I6 sp,.slice A l.length c] 131::bT A c 136 yN l::R) K:=by
 refine aH Tryz.func159 ?_
 repeat' (first|refine ZR ?_|refine w5 ?_ ?_|((refine bh fun h=>?_) <;> try exact w6 h)|(refine aE fun hA=>?_;subst hA)|intro _|(show aA _ 251 _ _ _;refine CA (h:=M4 (l:=l) (by exact lL) rfl hs hp ?_)))
 all_goals(refine aC ?_;exact aB (hK))
theorem LN (hs:l.length<=100000) (hp:l.Pairwise fun a b=>a.id<b.id) (hf:Mr t l=false) (hK:K (.tuple #[.pointer none,I6 7]) (pt p [PO w0,I6 sp,.slice A l.length c] 131::bT A c 136 yN l::R)):CT 65 #[PO p,I6 t] (pt p [PO w0,I6 sp,.slice A l.length c] 131::bT A c 136 yN l::R) K:=by
 refine aH Tryz.func65 ?_
 repeat' (first|refine v41 ?_|refine w5 ?_ ?_|((refine bh fun h=>?_) <;> try exact w6 h)|(refine aE fun hA=>?_;subst hA)|intro _|(show aA _ 159 _ _ _;refine CA (h:=vU hs hp ?_);rw[hf]))
 all_goals(refine aC ?_;exact aB (hK))
theorem Ama (h:Mr t l=true):∃e,l[AY t l]?=some e/\e.id=t/\AY t l<l.length:=by
 unfold Mr at h
 cases he:l[AY t l]? with
 |none=>rw[he] at h;cases h
 |some e=>
  rw[he] at h
  exact⟨e,rfl,by simpa using h,(List.getElem?_eq_some_iff.1 he).1⟩
theorem FE (hs:l.length<=100000) (hp:l.Pairwise fun a b=>a.id<b.id) (hf:Mr t l=true) (hK:∀B off,A=some ⟨B,off,none⟩->K (.tuple #[.pointer (some ⟨B,off+AY t l * 3,none⟩),I6 0]) (pt p [PO w0,I6 sp,.slice A l.length c] 131::bT A c 136 yN l::R)):CT 65 #[PO p,I6 t] (pt p [PO w0,I6 sp,.slice A l.length c] 131::bT A c 136 yN l::R) K:=by
 obtain⟨e,he,_,hlt⟩:=Ama hf
 refine qI (aW.there aW.here) (by omega) fun B off hA=>?_
 subst hA
 refine aH Tryz.func65 ?_
 repeat' (first|refine v41 ?_|refine w5 ?_ ?_|((refine bh fun h=>?_) <;> try exact w6 h)|(refine aE fun hA=>?_;subst hA)|intro _|(show aA _ 159 _ _ _;refine CA (h:=vU hs hp ?_);rw[hf]))
 all_goals(refine aC ?_;exact aB (hK _ _ rfl))
def pM:List (Nat×Nat):= [(0,0),(1,0),(2,0),(3,0),(4,1),(5,1),(6,1),(7,1),(8,1),(9,1),(10,0),(11,0)]
theorem Zu (hs:l.length<=100000) (hp:l.Pairwise fun a b=>a.id<b.id) (hf:Mr t l=false) (hK:K (I6 0) (pt p [PO w0,I6 sp,.slice A l.length c] 131::bT A c 136 yN l::R)):CT 182 #[PO p,I6 t] (pt p [PO w0,I6 sp,.slice A l.length c] 131::bT A c 136 yN l::R) K:=by
 refine aH Tryz.func182 ?_
 repeat' (first|refine v35 ?_|refine dw pM ?_|refine w5 ?_ ?_|((refine bh fun h=>?_) <;> try exact w6 h)|(refine aE fun hA=>?_;subst hA)|intro _|(show aA _ 65 _ _ _;refine CA (h:=LN hs hp hf ?_)))
 all_goals(refine aC ?_;exact aB (hK))
theorem Lm (hs:l.length<=100000) (hp:l.Pairwise fun a b=>a.id<b.id) (hf:Mr t l=true) (he:l[AY t l]?=some e) (hK:K (I6 (min (max m 0) (max n0 0))) (pt p [PO w0,I6 sp,.slice A l.length c] 131::bT A c 136 yN l::uQ w0 n0::uQ e.w m::R)):CT 182 #[PO p,I6 t] (pt p [PO w0,I6 sp,.slice A l.length c] 131::bT A c 136 yN l::uQ w0 n0::uQ e.w m::R) K:=by
 refine qI (aW.there aW.here) (by have:=(List.getElem?_eq_some_iff.1 he).1;omega) fun B off hA=>?_
 subst hA
 refine aH Tryz.func182 ?_
 repeat' (first|refine v35 ?_|refine dw pM ?_|refine w5 ?_ ?_|((refine bh fun h=>?_) <;> try exact w6 h)|(refine aE fun hA=>?_;subst hA)|intro _|(show aA _ 65 _ _ _;refine CA (h:=FE hs hp hf (fun B' off' hA'=>?_))))
 cases hA'
 repeat' (first|refine v35 ?_|refine dw pM ?_|refine w5 ?_ ?_|((refine bh fun h=>?_) <;> try exact w6 h)|(refine aE fun hA=>?_;subst hA)|intro _|(show aA _ 268 _ _ _;first|refine CA (h:=x8 (p:=e.w) ?_)|refine CA (h:=x8 ?_)))
 all_goals(refine aC ?_;exact aB (hK))
end
section
variable {n:Nat} {sp n0:Int} {l:List iT} {e:iT}
theorem Xp (hs:l.length<=100000) (hp:l.Pairwise fun a b=>a.id<b.id) (hf:Mr t l=true) (he:l[AY t l]?=some e) (hk:0<=k) (hkf:k<=min (max m 0) (max n0 0)) (hm:-4294967296<=m/\m<=4294967296) (hn:-4294967296<=n0/\n0<=4294967296) (hsp:0<=sp/\sp<=1000000000000) (hes:0<=e.sp/\e.sp<=1000000000000)
  (hK:K (I6 0) (pt p [PO w0,I6 (sp+k),.slice A l.length c] 131::bT A c 136 yN (l.set (AY t l) ⟨e.id,e.w,e.sp+k⟩)::uQ w0 (n0 - k)::uQ e.w (m - k)::R)):CT 191 #[PO p,I6 t,I6 k] (pt p [PO w0,I6 sp,.slice A l.length c] 131::bT A c 136 yN l::uQ w0 n0::uQ e.w m::R) K:=by
 have e1:qH m k=0:=by unfold qH;rw[if_neg (by omega),if_neg (by omega)]
 have e2:qH n0 k=0:=by unfold qH;rw[if_neg (by omega),if_neg (by omega)]
 have f1:xI m k=m - k:=by unfold xI;rw[if_pos e1]
 have f2:xI n0 k=n0 - k:=by unfold xI;rw[if_pos e2]
 refine qI (aW.there aW.here) (by have:=(List.getElem?_eq_some_iff.1 he).1;omega) fun B off hA=>?_
 subst hA
 refine aH Tryz.func191 ?_
 repeat' (first|refine v49 ?_|refine w5 ?_ ?_|((refine bh fun h=>?_) <;> try exact w6 h)|(refine aE fun hA=>?_;subst hA)|intro _|(show aA _ 65 _ _ _;refine CA (h:=FE hs hp hf (fun B' off' hA'=>?_))))
 cases hA'
 repeat' (first|refine v49 ?_|refine w5 ?_ ?_|((refine bh fun h=>?_) <;> try exact w6 h)|(refine aE fun hA=>?_;subst hA)|intro _|(show aA _ 182 _ _ _;refine CA (h:=Lm hs hp hf he ?_))|(show aA _ 285 _ _ _;first|(refine CA (h:=Jd (p:=e.w) (n:=m) hm (by omega) ?_);rw[f1])|(refine CA (h:=Jd (p:=w0) (n:=n0) hn (by omega) ?_);rw[f2]))|(show aN _ _ _ _ _ _ _;first|refine HK ?_|refine vC ?_))
 all_goals(refine aC ?_;exact aB (hK))
theorem ZA (hn:-4294967296<=n0/\n0<=4294967296) (hK:K (I6 (nI n0 b)) (pt p [PO w0,I6 sp,.slice A n c] 131::uQ w0 (kI n0 b)::R)):CT 303 #[PO p,I6 0,I6 b] (pt p [PO w0,I6 sp,.slice A n c] 131::uQ w0 n0::R) K:=by
 refine aH Tryz.func303 ?_
 repeat' (first|refine v58 ?_|refine w5 ?_ ?_|((refine bh fun h=>?_) <;> try exact w6 h)|(refine aE fun hA=>?_;subst hA)|intro _|(show aA _ 388 _ _ _;refine CA (h:=L6 hn ?_)))
 all_goals(refine aC ?_;exact aB (hK))
theorem Yy (hs:l.length<=100000) (hp:l.Pairwise fun a b=>a.id<b.id) (ht:t≠0) (hf:Mr t l=false) (hK:K (I6 7) (pt p [PO w0,I6 sp,.slice A l.length c] 131::bT A c 136 yN l::R)):CT 303 #[PO p,I6 t,I6 b] (pt p [PO w0,I6 sp,.slice A l.length c] 131::bT A c 136 yN l::R) K:=by
 refine aH Tryz.func303 ?_
 repeat' (first|refine v58 ?_|refine w5 ?_ ?_|((refine bh fun h=>?_) <;> try exact w6 h)|(refine aE fun hA=>?_;subst hA)|intro _|(show aA _ 65 _ _ _;refine CA (h:=LN hs hp hf ?_)))
 all_goals(refine aC ?_;exact aB (hK))
theorem Y8 (hs:l.length<=100000) (hp:l.Pairwise fun a b=>a.id<b.id) (ht:t≠0) (hf:Mr t l=true) (he:l[AY t l]?=some e) (hm:-4294967296<=m/\m<=4294967296) (hK:K (I6 (nI m b)) (pt p [PO w0,I6 sp,.slice A l.length c] 131::bT A c 136 yN l::uQ e.w (kI m b)::R)):CT 303 #[PO p,I6 t,I6 b] (pt p [PO w0,I6 sp,.slice A l.length c] 131::bT A c 136 yN l::uQ e.w m::R) K:=by
 refine qI (aW.there aW.here) (by have:=(List.getElem?_eq_some_iff.1 he).1;omega) fun B off hA=>?_
 subst hA
 refine aH Tryz.func303 ?_
 repeat' (first|refine v58 ?_|refine w5 ?_ ?_|((refine bh fun h=>?_) <;> try exact w6 h)|(refine aE fun hA=>?_;subst hA)|intro _|(show aA _ 65 _ _ _;refine CA (h:=FE hs hp hf (fun B' off' hA'=>?_))))
 cases hA'
 repeat' (first|refine v58 ?_|refine w5 ?_ ?_|((refine bh fun h=>?_) <;> try exact w6 h)|(refine aE fun hA=>?_;subst hA)|intro _|(show aA _ 388 _ _ _;refine CA (h:=L6 hm ?_)))
 all_goals(refine aC ?_;exact aB (hK))
end
structure gZ where
 id:Int
 n:Int
 sp:Int
structure Ld where
 n0:Int
 sp:Int
 l:List gZ
def KD (e:iT×Int):gZ:=⟨e.1.id,e.2,e.1.sp⟩
def Cz (e:iT×Int):HP:=uQ e.1.w e.2
def Mo (p:Nat) (s:Ld):HP:=fC fun w0=>fC fun A=>fC fun c=>fC fun q:List (iT×Int)=>sep (pt p [PO w0,I6 s.sp,.slice A (q.map Prod.fst).length c] 131) (sep (uQ w0 s.n0) (sep (bT A c 136 yN (q.map Prod.fst)) (sep (eH Cz q) (bF (q.map KD=s.l)))))
def Ux (s:Ld):Prop:=s.l.length<=64/\(s.l.Pairwise fun a b=>a.id<b.id)/\(∀e∈s.l,(-2147483648<=e.n/\e.n<=2147483648)/\0<=e.sp/\e.sp<=1000000000000)/\(-2147483648<=s.n0/\s.n0<=2147483648)/\0<=s.sp/\s.sp<=1000000000000
def oB (t:Int) (l:List gZ):Nat:=(l.takeWhile fun e=>decide (e.id<t)).length
def pR (t:Int) (l:List gZ):Option gZ:=match l[oB t l]? with
 |some e=>if e.id=t then some e else none
 |none=>none
def bB (t:Int) (s:Ld):Int:=match pR t s.l with
 |some e=>min (max e.n 0) (max s.n0 0)
 |none=>0
def gM (t n:Int) (s:Ld):Ld:=if t<1\/2147483647<t\/mG n=false\/(pR t s.l).isSome=true\/64<=s.l.length then s else { s with l:=s.l.take (oB t s.l)++⟨t,n,0⟩::s.l.drop (oB t s.l) }
def kU (t:Int) (s:Ld):Ld:=if(pR t s.l).isSome=true then { s with l:=s.l.eraseIdx (oB t s.l) } else s
def oR (t k:Int) (s:Ld):Int:=if(pR t s.l).isSome=false then 7 else if k<0 then 2 else if bB t s<k then 9 else 0
def jQ (t k:Int) (s:Ld):Ld:=if oR t k s≠0 then s else match pR t s.l with
 |some e=> { n0:=s.n0 - k,sp:=s.sp+k,l:=s.l.set (oB t s.l) ⟨e.id,e.n - k,e.sp+k⟩ }
 |none=>s
def mQ (t b:Int) (s:Ld):Int:=if t=0 then nI s.n0 b else match pR t s.l with
 |some e=>nI e.n b
 |none=>7
def kK (t b:Int) (s:Ld):Ld:=if t=0 then { s with n0:=kI s.n0 b } else match pR t s.l with
 |some e=> { s with l:=s.l.set (oB t s.l) ⟨e.id,kI e.n b,e.sp⟩ }
 |none=>s
def wP (a b:Int):List gZ->Int
 | []=>0
 |e::r=>if kN e.n a b≠0 then kN e.n a b else wP a b r
def AQ (a b:Int) (s:Ld):Int:=if kN 0 a b≠0/\kN 0 a b≠10 then kN 0 a b else wP a b s.l
def mO (a b:Int) (s:Ld):Ld:=if AQ a b s≠0 then s else { s with l:=s.l.map fun e=>⟨e.id,uL e.n a b,e.sp⟩ }
theorem zO {t:Int}:∀q:List (iT×Int),oB t (q.map KD)=AY t (q.map Prod.fst)
 | []=>rfl
 |e::r=>by
  have ih:=zO (t:=t) r
  unfold oB AY at ih ⊢
  rw[List.map_cons,List.map_cons,List.takeWhile_cons,List.takeWhile_cons]
  show(if decide (e.1.id<t)=true then _ else _:List gZ).length=_
  split
  ·rw[List.length_cons,List.length_cons,ih]
  ·rfl
theorem yL {e:gZ} (h:pR t (q.map KD)=some e):∃z,q[AY t (q.map Prod.fst)]?=some z/\KD z=e/\z.1.id=t/\Mr t (q.map Prod.fst)=true:=by
 unfold pR at h
 rw[zO,List.getElem?_map] at h
 cases hz:q[AY t (q.map Prod.fst)]? with
 |none=>rw[hz] at h;cases h
 |some z=>
  rw[hz] at h
  simp only[Option.map_some] at h
  split at h
  ·rename_i he
   cases h
   refine⟨z,rfl,rfl,he,?_⟩
   unfold Mr
   rw[List.getElem?_map,hz]
   exact decide_eq_true he
  ·cases h
theorem Cm (h:pR t (q.map KD)=none):Mr t (q.map Prod.fst)=false:=by
 unfold pR at h
 unfold Mr
 rw[zO,List.getElem?_map] at h
 rw[List.getElem?_map]
 cases hz:q[AY t (q.map Prod.fst)]? with
 |none=>rfl
 |some z=>
  rw[hz] at h
  simp only[Option.map_some] at h ⊢
  split at h
  ·cases h
  ·rename_i he
   exact decide_eq_false he
theorem jR {n:Nat} {n0 sp:Int} {ws:List iT} {l:List gZ} (h:q.map KD=l) (hw:ws=q.map Prod.fst) (hn:n=ws.length):aG (pt p [PO w0,I6 sp,.slice A n c] 131::uQ w0 n0::bT A c 136 yN ws::eH Cz q::R) (Mo p ⟨n0,sp,l⟩::R):=by
 subst hn hw
 exact aG.ex w0 (aG.ex A (aG.ex c (aG.ex q (LZ h))))
theorem Ah {f:FuncId} {args:Array Value} {s:Ld} (h:∀w0 A c (q:List (iT×Int)),q.map KD=s.l->CT f args (pt p [PO w0,I6 s.sp,.slice A (q.map Prod.fst).length c] 131::uQ w0 s.n0::bT A c 136 yN (q.map Prod.fst)::eH Cz q::R) K):CT f args (Mo p s::R) K:=
 aA.ex fun w0=>aA.ex fun A=>aA.ex fun c=>aA.ex fun q=>aA.ent tM (aA.pure fun hI=>h w0 A c q hI)
theorem FJ {l:List gZ} (h:q.map KD=l):(q.map Prod.fst).length=l.length:=by rw[<- h];simp
theorem IW {l:List gZ} (h:q.map KD=l) (hp:l.Pairwise fun a b=>a.id<b.id):(q.map Prod.fst).Pairwise fun a b=>a.id<b.id:=by
 rw[<- h] at hp
 rw[List.pairwise_map] at hp ⊢
 exact hp
theorem OI {l:List gZ} (h:q.map KD=l) (hz:q[j]?=some z):KD z∈l:=by
 rw[<- h]
 exact List.mem_map_of_mem (List.mem_of_getElem? hz)
theorem ND (hz:q[j]?=some z):aG (X::Y::Z::eH Cz q::R) (X::Z::Y::uQ z.1.w z.2::eH Cz (q.eraseIdx j)::R):=
 aG.cons (aG.trans (fun _ h=>bZ.swap h) (aG.cons (aG.cons (vA (f:=Cz) hz))))
theorem Om {n:Int} {z':iT} (hz:q[j]?=some z) (hw:z'.w=w):aG (X::Z::Y::uQ w n::eH Cz (q.eraseIdx j)::R) (X::Y::Z::eH Cz (q.set j (z',n))::R):=by
 subst hw
 exact aG.cons (aG.trans (aG.cons (aG.cons (E9 (f:=Cz) (b':=(z',n)) hz))) (fun _ h=>bZ.swap h))
section
variable {s:Ld} {n:Int}
theorem u9 (hok:Ux s) (hK:K (I6 (bB t s)) (Mo p s::R)):CT 182 #[PO p,I6 t] (Mo p s::R) K:=by
 refine Ah fun w0 A c q hq=>?_
 obtain⟨h1,h2,h3,h4,h5⟩:=hok
 have hl:=FJ hq
 have hp:=IW hq h2
 refine aA.entK ?_
 cases ha:pR t s.l with
 |none=>
  simp only[bB,ha] at hK
  rw[<- hq] at ha
  exact CA (h:=Zu (l:=q.map Prod.fst) (by omega) hp (Cm ha) ⟨_,aG.trans (by exact aY) (jR hq rfl rfl),hK⟩)
 |some e=>
  simp only[bB,ha] at hK
  rw[<- hq] at ha
  obtain⟨z,hz,rfl,hid,hf⟩:=yL ha
  refine aA.ent (ND hz) (Lm (l:=q.map Prod.fst) (e:=z.1) (m:=z.2) (by omega) hp hf (by rw[List.getElem?_map,hz];rfl) ⟨_,aG.trans (Om (z':=z.1) hz rfl) (jR (q:=q.set _ (z.1,z.2)) ?_ ?_ rfl),hK⟩)
  ·rw[List.map_set]
   have e:(q.map KD).set (AY t (q.map Prod.fst)) (KD z)=q.map KD:=lB _ (by rw[List.getElem?_map,hz];rfl)
   exact e.trans hq
  ·rw[List.map_set]
   exact(lB _ (by rw[List.getElem?_map,hz];rfl)).symm
theorem Ug (hK:K (.tuple #[I6 s.sp,I6 0]) (Mo p s::R)):CT 15 #[PO p,I6 0] (Mo p s::R) K:=by
 refine Ah fun w0 A c q hq=>?_
 refine aH Tryz.func15 ?_
 repeat' (first|refine AB ?_|refine w5 ?_ ?_|((refine bh fun h=>?_) <;> try exact w6 h)|(refine aE fun hA=>?_;subst hA)|intro _)
 all_goals(refine aC ?_;exact aM (aG.trans (by exact aY) ((jR hq rfl rfl))) (hK))
theorem Ch (hok:Ux s) (hK:K (I6 (mQ t b s)) (Mo p (kK t b s)::R)):CT 303 #[PO p,I6 t,I6 b] (Mo p s::R) K:=by
 refine Ah fun w0 A c q hq=>?_
 obtain⟨h1,h2,h3,h4,h5⟩:=hok
 have hl:=FJ hq
 have hp:=IW hq h2
 refine aA.entK ?_
 by_cases h0:t=0
 ·simp only[mQ,kK,if_pos h0] at hK
  subst h0
  exact CA (h:=ZA (by omega) ⟨_,aG.trans (by exact aY) (jR hq rfl rfl),hK⟩)
 ·simp only[mQ,kK,if_neg h0] at hK
  cases ha:pR t s.l with
  |none=>
   simp only[ha] at hK
   rw[<- hq] at ha
   exact CA (h:=Yy (l:=q.map Prod.fst) (by omega) hp h0 (Cm ha) ⟨_,aG.trans (by exact aY) (jR hq rfl rfl),hK⟩)
  |some e=>
   simp only[ha] at hK
   rw[<- hq] at ha
   obtain⟨z,hz,rfl,hid,hf⟩:=yL ha
   have hzm:=h3 _ (OI hq hz)
   refine aA.ent (ND hz) (CA (h:=Y8 (l:=q.map Prod.fst) (e:=z.1) (m:=z.2) (by omega) hp h0 hf (by rw[List.getElem?_map,hz];rfl) (by have:=hzm.1;simp only[KD] at this;omega) ⟨_,aG.trans (by exact aY) (aG.trans (Om (z':=z.1) (n:=kI z.2 b) hz rfl) (jR (q:=q.set (AY t (q.map Prod.fst)) (z.1,kI z.2 b)) (l:=s.l.set (oB t s.l) ⟨z.1.id,kI z.2 b,z.1.sp⟩) ?_ ?_ rfl)),hK⟩))
   ·rw[List.map_set,<- hq,zO];rfl
   ·rw[List.map_set]
    exact(lB _ (by rw[List.getElem?_map,hz];rfl)).symm
theorem Tm (hok:Ux s) (hK:K (I6 (oR t k s)) (Mo p (jQ t k s)::R)) (hk:oR t k s=0):CT 191 #[PO p,I6 t,I6 k] (Mo p s::R) K:=by
 refine Ah fun w0 A c q hq=>?_
 obtain⟨h1,h2,h3,h4,h5⟩:=hok
 have hl:=FJ hq
 have hp:=IW hq h2
 refine aA.entK ?_
 rw[hk] at hK
 simp only[jQ,hk,ne_eq,not_true_eq_false,if_false] at hK
 unfold oR bB at hk
 cases ha:pR t s.l with
 |none=>rw[ha] at hk;simp at hk
 |some e=>
  simp only[ha] at hK hk
  rw[<- hq] at ha
  obtain⟨z,hz,rfl,hid,hf⟩:=yL ha
  have hzm:=h3 _ (OI hq hz)
  simp only[KD] at hzm hk
  have hkk:0<=k/\k<=min (max z.2 0) (max s.n0 0):=by
   by_cases h6:k<0
   ·simp[h6] at hk
   ·by_cases h7:min (max z.2 0) (max s.n0 0)<k
    ·simp[h6,h7] at hk
    ·omega
  refine aA.ent (ND hz) (CA (h:=Xp (l:=q.map Prod.fst) (e:=z.1) (m:=z.2) (by omega) hp hf (by rw[List.getElem?_map,hz];rfl) hkk.1 hkk.2 (by omega) (by omega) (by omega) (by omega) ⟨_,aG.trans (by exact aY) (aG.trans (Om (z':=⟨z.1.id,z.1.w,z.1.sp+k⟩) (n:=z.2 - k) hz rfl) (jR (q:=q.set (AY t (q.map Prod.fst)) (⟨z.1.id,z.1.w,z.1.sp+k⟩,z.2 - k)) (l:=s.l.set (oB t s.l) ⟨z.1.id,z.2 - k,z.1.sp+k⟩) ?_ ?_ ?_)),hK⟩))
  ·rw[List.map_set,<- hq,zO];rfl
  ·rw[List.map_set]
  ·simp
theorem Aaa (h:0<=n/\n<=2147483647) (hK:∀p,K (.tuple #[PO p,I6 0]) (Mo p ⟨n,0,[]⟩::R)):CT 97 #[I6 n] R K:=by
 refine aH Tryz.func97 ?_
 repeat' (first|refine v21 ?_|refine w5 ?_ ?_|((refine bh fun h=>?_) <;> try exact w6 h)|(refine aE fun hA=>?_;subst hA)|intro _|(show aA _ 168 _ _ _;refine CA (h:=BL (by unfold mG;simp;omega) (fun w0=>?_))))
 rename_i r
 all_goals(refine aC ?_;exact aM (aG.trans (by exact aY) ((aG.trans (aG.trans (aG.nilrow 136 yN _) (aG.trans (L4 (f:=Cz)) (by exact aY))) (jR (q:= []) (A:=none) (c:=0) (w0:=w0) (p:=r) (sp:=0) (n0:=n) (R:=R) rfl rfl rfl)))) ((hK r)))
end
theorem Anw {n:Int} {z:iT} (hw:z.w=w):aG (uQ w n::X::Y::Z::eH Cz q::R) (X::Y::Z::eH Cz (q.take i++(z,n)::q.drop i)::R):=by
 subst hw
 have h1:aG (uQ z.w n::eH Cz q::R) (eH Cz (q.take i++(z,n)::q.drop i)::R):=Lt (f:=Cz) (b:=(z,n))
 exact aG.trans (fun _ h=>h.perm (List.perm_middle (l₁:= [X,Y,Z]) (a:=uQ z.w n) (l₂:=eH Cz q::R)).symm) (aG.cons (aG.cons (aG.cons h1)))
theorem Am1 (hz:q[i]?=some z):aG (X::Y::Z::eH Cz q::R) (X::Y::Z::eH Cz (q.eraseIdx i)::R):=
 aG.cons (aG.cons (aG.cons (aG.trans (vA (f:=Cz) hz) (aG.drop (aG.refl _)))))
section
variable {s:Ld} {n a:Int}
theorem YE (hok:Ux s) (hK:∀v,K v (Mo p (gM t n s)::R)):CT 235 #[PO p,I6 t,I6 n] (Mo p s::R) K:=by
 refine Ah fun w0 A c q hq=>?_
 obtain⟨h1,h2,h3,h4,h5⟩:=hok
 have hl:=FJ hq
 have hp:=IW hq h2
 by_cases g1:t<1\/2147483647<t
 ·have e:gM t n s=s:=by unfold gM;rw[if_pos (by omega)]
  rw[e] at hK
  refine aH Tryz.func235 ?_
  repeat' (first|refine v90 ?_|refine w5 ?_ ?_|((refine bh fun h=>?_) <;> try exact w6 h)|(refine aE fun hA=>?_;subst hA)|intro _)
  all_goals(refine aC ?_;exact aM (aG.trans (by exact aY) ((jR hq rfl rfl))) ((hK _)))
 ·cases g2:mG n
  ·have e:gM t n s=s:=by unfold gM;rw[if_pos (.inr (.inr (.inl g2)))]
   rw[e] at hK
   refine aH Tryz.func235 ?_
   repeat' (first|refine v90 ?_|refine w5 ?_ ?_|((refine bh fun h=>?_) <;> try exact w6 h)|(refine aE fun hA=>?_;subst hA)|intro _|(show aA _ 168 _ _ _;refine CA (h:=Xr g2 ?_)))
   all_goals(refine aC ?_;exact aM (aG.trans (by exact aY) ((jR hq rfl rfl))) ((hK _)))
  ·cases g3:pR t s.l with
   |some z=>
    have e:gM t n s=s:=by unfold gM;rw[if_pos (.inr (.inr (.inr (.inl (by rw[g3];rfl)))))]
    rw[e] at hK
    have g3':=g3
    rw[<- hq] at g3'
    obtain⟨_,_,_,_,hf⟩:=yL g3'
    refine aH Tryz.func235 ?_
    repeat' (first|refine v90 ?_|refine w5 ?_ ?_|((refine bh fun h=>?_) <;> try exact w6 h)|(refine aE fun hA=>?_;subst hA)|intro _|(show aA _ 168 _ _ _;refine CA (h:=BL g2 (fun w1=>?_)))|(show aA _ 159 _ _ _;refine CA (h:=vU (l:=q.map Prod.fst) (by omega) hp ?_);rw[hf]))
    all_goals(refine aC ?_;exact aM (aG.trans (by exact aY) ((jR hq rfl rfl))) ((hK _)))
   |none=>
    have g3':=g3
    rw[<- hq] at g3'
    have hf:=Cm g3'
    by_cases g4:64<=s.l.length
    ·have e:gM t n s=s:=by unfold gM;rw[if_pos (.inr (.inr (.inr (.inr g4))))]
     rw[e] at hK
     refine aH Tryz.func235 ?_
     repeat' (first|refine v90 ?_|refine w5 ?_ ?_|((refine bh fun h=>?_) <;> try exact w6 h)|(refine aE fun hA=>?_;subst hA)|intro _|(show aA _ 168 _ _ _;refine CA (h:=BL g2 (fun w1=>?_)))|(show aA _ 159 _ _ _;refine CA (h:=vU (l:=q.map Prod.fst) (by omega) hp ?_);rw[hf]))
     all_goals(refine aC ?_;exact aM (aG.trans (by exact aY) ((jR hq rfl rfl))) ((hK _)))
    ·have e:gM t n s= { s with l:=s.l.take (oB t s.l)++⟨t,n,0⟩::s.l.drop (oB t s.l) }:=by
      unfold gM
      rw[if_neg]
      rintro(h|h|h|h|h)
      ·omega
      ·omega
      ·rw[g2] at h;cases h
      ·rw[g3] at h;cases h
      ·exact g4 h
     rw[e] at hK
     have hix:AY t (q.map Prod.fst)=oB t s.l:=by rw[<- hq,zO]
     have hle:=TG t (q.map Prod.fst)
     refine aH Tryz.func235 ?_
     repeat' (first|refine v90 ?_|refine w5 ?_ ?_|((refine bh fun h=>?_) <;> try exact w6 h)|(refine aE fun hA=>?_;subst hA)|intro _|(show aA _ 168 _ _ _;refine CA (h:=BL g2 (fun w1=>?_)))|(show aA _ 159 _ _ _;refine CA (h:=vU (l:=q.map Prod.fst) (by omega) hp ?_);rw[hf])|(show aA _ 341 _ _ _;refine CA (h:=Akt (xs:=q.map Prod.fst) (y:=⟨t,w1,0⟩) rfl hle (by omega) (fun A' c'=>?_))))
     all_goals(refine aC ?_;exact aM (aG.trans (by exact aY) ((aG.trans (Anw (i:=oB t s.l) (z:=⟨t,w1,0⟩) rfl) (jR (q:=q.take (oB t s.l)++(⟨t,w1,0⟩,n)::q.drop (oB t s.l)) (l:=s.l.take (oB t s.l)++⟨t,n,0⟩::s.l.drop (oB t s.l)) (by rw[<- hq];simp[KD]) (by rw[hix];simp) (by simp only[List.length_append,List.length_cons,List.length_take,List.length_drop];omega))))) ((hK _)))
theorem T5 (hok:Ux s) (hK:∀v,K v (Mo p (kU t s)::R)):CT 352 #[PO p,I6 t] (Mo p s::R) K:=by
 refine Ah fun w0 A c q hq=>?_
 obtain⟨h1,h2,h3,h4,h5⟩:=hok
 have hl:=FJ hq
 have hp:=IW hq h2
 cases g3:pR t s.l with
 |none=>
  have e:kU t s=s:=by unfold kU;rw[g3];rfl
  rw[e] at hK
  rw[<- hq] at g3
  have hf:=Cm g3
  refine aH Tryz.func352 ?_
  repeat' (first|refine v68 ?_|refine w5 ?_ ?_|((refine bh fun h=>?_) <;> try exact w6 h)|(refine aE fun hA=>?_;subst hA)|intro _|(show aA _ 159 _ _ _;refine CA (h:=vU (l:=q.map Prod.fst) (by omega) hp ?_);rw[hf]))
  all_goals(refine aC ?_;exact aM (aG.trans (by exact aY) ((jR hq rfl rfl))) ((hK _)))
 |some z=>
  have e:kU t s= { s with l:=s.l.eraseIdx (oB t s.l) }:=by unfold kU;rw[g3];rfl
  rw[e] at hK
  rw[<- hq] at g3
  obtain⟨z,hz,rfl,hid,hf⟩:=yL g3
  have hlt:AY t (q.map Prod.fst)<(q.map Prod.fst).length:=by rw[List.length_map];exact(List.getElem?_eq_some_iff.1 hz).1
  have hix:AY t (q.map Prod.fst)=oB t s.l:=by rw[<- hq,zO]
  refine aH Tryz.func352 ?_
  repeat' (first|refine v68 ?_|refine w5 ?_ ?_|((refine bh fun h=>?_) <;> try exact w6 h)|(refine aE fun hA=>?_;subst hA)|intro _|(show aA _ 159 _ _ _;refine CA (h:=vU (l:=q.map Prod.fst) (by omega) hp ?_);rw[hf])|(show aA _ 424 _ _ _;refine CA (h:=Akx (xs:=q.map Prod.fst) rfl hlt (by omega) (fun A' c'=>?_))))
  all_goals(refine aC ?_;exact aM (aG.trans (by exact aY) ((aG.trans (Am1 hz) (jR (q:=q.eraseIdx (AY t (q.map Prod.fst))) (l:=s.l.eraseIdx (oB t s.l)) (by rw[<- oH,hq,hix]) (oH ..) (by rw[List.length_eraseIdx,if_pos hlt]))))) ((hK _)))
theorem Q7 {l:List gZ} {e:gZ} (h:l[j]?=some e):wP a b (l.drop j)=if kN e.n a b≠0 then kN e.n a b else wP a b (l.drop (j+1)):=by
 have hj:=(List.getElem?_eq_some_iff.1 h).1
 rw[List.drop_eq_getElem_cons hj,(List.getElem?_eq_some_iff.1 h).2]
 rfl
theorem Ako {l:List gZ} {e:gZ} {n:Int} (h:l[j]?=some e) (hn:e.n=n) (h0:kN n a b=0):wP a b (l.drop (j+1))=wP a b (l.drop j):=by
 subst hn
 rw[Q7 h,if_neg (by simpa using h0)]
theorem Ag9 {l:List gZ} {e:gZ} {n:Int} (h:l[j]?=some e) (hn:e.n=n) (h0:kN n a b≠0):kN n a b=wP a b (l.drop j):=by
 subst hn
 rw[Q7 h,if_pos h0]
def Au (a b:Int) (e:iT×Int):iT×Int:=(e.1,uL e.2 a b)
def El:List (Nat×Nat):= [(0,0),(1,0),(2,1),(3,1),(4,1),(5,1),(6,0)]
theorem Ab7 {r4 r5:Nat} {i sp:Int} (hm:-4294967296<=m/\m<=4294967296) (hK:∀w',K (I6 (kN m a b)) (uQ w' (uL m a b)::pt r4 [I6 a] 3::pt r5 [I6 b] 3::uQ w m::R)):CT 384 #[.agg #[I6 i,PO w,I6 sp],PO r4,PO r5] (pt r4 [I6 a] 3::pt r5 [I6 b] 3::uQ w m::R) K:=by
 refine aH Tryz.func384 ?_
 repeat' (first|refine v19 ?_|refine dw El ?_|refine w5 ?_ ?_|((refine bh fun h=>?_) <;> try exact w6 h)|(refine aE fun hA=>?_;subst hA)|intro _|(show aA _ 385 _ _ _;refine CA (h:=W4 (fun q=>?_)))|(show aA _ 383 _ _ _;refine CA (h:=Ii (p:=q) hm ?_)))
 all_goals(refine aC ?_;exact aB (hK _))
theorem An8 (h:mG a=true/\mG b=true):kN 0 a b=0:=by
 have h2:=h
 unfold mG at h2
 simp only[Bool.and_eq_true,decide_eq_true_eq] at h2
 unfold kN xM wK
 rw[if_pos h,if_pos]
 simp only[Bool.and_eq_true,decide_eq_true_eq]
 omega
theorem R7 (hok:Ux s) (hab:mG a=true/\mG b=true) (hK:K (I6 (AQ a b s)) (Mo p (mO a b s)::R)):CT 295 #[PO p,I6 a,I6 b] (Mo p s::R) K:=by
 have hv:=An8 hab
 have hE:AQ a b s=wP a b s.l:=by unfold AQ;rw[hv];rfl
 refine Ah fun w0 A c q hq=>?_
 obtain⟨h1,h2,h3,h4,h5⟩:=hok
 have hl:=FJ hq
 have hql:(q.map Prod.fst).length=q.length:=List.length_map ..
 refine aH Tryz.func295 ?_
 repeat' (first|refine J4 ?_|refine w5 ?_ ?_|((refine bh fun h=>?_) <;> try exact w6 h)|(refine aE fun hA=>?_;subst hA)|intro _|(show aA _ 168 _ _ _;refine CA (h:=BL (n:=0) (by decide) (fun w1=>?_)))|(show aA _ 383 _ _ _;refine CA (h:=Ii (p:=w1) (n:=0) (by omega) ?_);rw[hv]))
 rename_i r4 r5
 refine jA (fun kk f C'=>∃(j:Nat) (er:Int),j+kk=q.length/\((er=0/\wP a b (s.l.drop j)=wP a b s.l)\/(er≠0/\er=wP a b s.l))/\dH f [(0,PO p),(4,PO r4),(5,PO r5),(9,I6 er),(10,.func (.func 384) #[] #[PO r4,PO r5]),(31,.slice A (q.map Prod.fst).length c),(32,I6 (q.map Prod.fst).length),(33,I6 j)]/\C'=pt r4 [I6 a] 3::pt r5 [I6 b] 3::pt p [PO w0,I6 s.sp,.slice A (q.map Prod.fst).length c] 131::uQ w0 s.n0::bT A c 136 yN (q.map Prod.fst)::eH Cz q::R) q.length (cJ q.length ⟨0,0,by omega,.inl ⟨rfl,rfl⟩,⟨rfl,rfl,rfl,rfl,rfl,rfl,rfl,rfl,trivial⟩,rfl⟩ (by omega)) ?_
 rintro kk f C' ⟨j,er,hj,her,ha,rfl⟩
 refine i6 _ ha ?_
 simp only[gJ]
 by_cases hlt:j<q.length
 ·obtain⟨z,hz⟩:∃z,q[j]?=some z:=⟨_,List.getElem?_eq_getElem hlt⟩
  have hz1:(q.map Prod.fst)[j]?=some z.1:=by rw[List.getElem?_map,hz];rfl
  have hz':(q.map Prod.fst)[((j:Nat):Int).toNat]?=some z.1:=by rw[Int.toNat_natCast];exact hz1
  have hlj:s.l[j]?=some (KD z):=by rw[<- hq,List.getElem?_map,hz];rfl
  rcases her with⟨rfl,he⟩|⟨hne,he⟩
  ·have hzm:=h3 _ (OI hq hz)
   simp only[KD] at hzm
   have hout:aG (eH Cz q::R) (uQ z.1.w z.2::eH Cz (q.eraseIdx j)::R):=vA (f:=Cz) hz
   have hin:aG (uQ z.1.w z.2::eH Cz (q.eraseIdx j)::R) (eH Cz q::R):=by
    have h:=E9 (f:=Cz) (b':=z) (R:=R) hz
    rw[lB j hz] at h
    exact h
   refine o7 (aG.cons (aG.cons (aG.cons (aG.cons (aG.cons hout))))) ?_
   repeat' (first|refine J4 ?_|refine w5 ?_ ?_|((refine bh fun h=>?_) <;> try exact w6 h)|(refine aE fun hA=>?_;subst hA)|intro _|(show aA _ 384 _ _ _;refine CA (h:=Ab7 (w:=z.1.w) (m:=z.2) (by omega) (fun w'=>?_))))
   all_goals(show aU _ _ _ _;refine cJ (kk - 1) ⟨j+1,kN z.2 a b,by omega,?_,⟨rfl,rfl,rfl,rfl,rfl,rfl,rfl,rfl,trivial⟩,rfl⟩ (by omega) (aG.trans (by exact aY) (aG.cons (aG.cons (aG.cons (aG.cons (aG.cons hin)))))))
   by_cases hz0:kN z.2 a b=0
   ·exact .inl ⟨hz0,(Ako hlj rfl hz0).trans he⟩
   ·exact .inr ⟨hz0,(Ag9 hlj rfl hz0).trans he⟩
  ·have hR:mO a b s=s:=by unfold mO;rw[if_pos (by rw[hE,<- he];exact hne)]
   rw[hR,hE,<- he] at hK
   repeat' (first|refine J4 ?_|refine w5 ?_ ?_|((refine bh fun h=>?_) <;> try exact w6 h)|(refine aE fun hA=>?_;subst hA)|intro _)
   all_goals(refine aC ?_;exact aM (aG.trans (by exact aY) ((jR hq rfl rfl))) (hK))
 ·have hjl:j=q.length:=by omega
  subst hjl
  rcases her with⟨rfl,he⟩|⟨hne,he⟩
  ·have hd:s.l.drop q.length= []:=List.drop_eq_nil_of_le (by omega)
   rw[hd] at he
   have he:wP a b s.l=0:=he.symm
   have hR:mO a b s= { s with l:=s.l.map fun e=>⟨e.id,uL e.n a b,e.sp⟩ }:=by unfold mO;rw[if_neg (by rw[hE,he];decide)]
   rw[hR,hE,he] at hK
   repeat' (first|refine J4 ?_|refine w5 ?_ ?_|((refine bh fun h=>?_) <;> try exact w6 h)|(refine aE fun hA=>?_;subst hA)|intro _)
   refine jA (fun kk f C'=>∃j:Nat,j+kk=q.length/\dH f [(4,PO r4),(5,PO r5),(49,.slice A (q.map Prod.fst).length c),(50,I6 (q.map Prod.fst).length),(51,I6 j)]/\C'=pt r4 [I6 a] 3::pt r5 [I6 b] 3::pt p [PO w0,I6 s.sp,.slice A (q.map Prod.fst).length c] 131::uQ w0 s.n0::bT A c 136 yN (q.map Prod.fst)::eH Cz ((q.take j).map (Au a b)++q.drop j)::R) q.length (cJ q.length ⟨0,by omega,⟨rfl,rfl,rfl,rfl,rfl,trivial⟩,rfl⟩ (by omega)) ?_
   rintro kk f C' ⟨j,hj,ha,rfl⟩
   refine i6 _ ha ?_
   simp only[gJ]
   by_cases hlt:j<q.length
   ·obtain⟨z,hz⟩:∃z,q[j]?=some z:=⟨_,List.getElem?_eq_getElem hlt⟩
    have hz1:(q.map Prod.fst)[j]?=some z.1:=by rw[List.getElem?_map,hz];rfl
    have hz':(q.map Prod.fst)[((j:Nat):Int).toNat]?=some z.1:=by rw[Int.toNat_natCast];exact hz1
    have hzm:=h3 _ (OI hq hz)
    simp only[KD] at hzm
    have htl:((q.take j).map (Au a b)).length=j:=by rw[List.length_map,List.length_take];omega
    have hzq:((q.take j).map (Au a b)++q.drop j)[j]?=some z:=by rw[List.getElem?_append_right (by omega),htl,Nat.sub_self,List.getElem?_drop,Nat.add_zero];exact hz
    have hset:((q.take j).map (Au a b)++q.drop j).set j (Au a b z)=(q.take (j+1)).map (Au a b)++q.drop (j+1):=by
     rw[List.set_append_right _ _ (by omega),htl,Nat.sub_self,List.drop_eq_getElem_cons hlt,List.set_cons_zero,List.take_add_one,hz]
     simp
    have hout:aG (eH Cz ((q.take j).map (Au a b)++q.drop j)::R) (uQ z.1.w z.2::eH Cz (((q.take j).map (Au a b)++q.drop j).eraseIdx j)::R):=vA (f:=Cz) hzq
    have hin:aG (uQ z.1.w (uL z.2 a b)::eH Cz (((q.take j).map (Au a b)++q.drop j).eraseIdx j)::R) (eH Cz ((q.take (j+1)).map (Au a b)++q.drop (j+1))::R):=by
     have h:=E9 (f:=Cz) (b':=Au a b z) (R:=R) hzq
     rw[hset] at h
     exact h
    refine o7 (aG.cons (aG.cons (aG.cons (aG.cons (aG.cons hout))))) ?_
    repeat' (first|refine J4 ?_|refine w5 ?_ ?_|((refine bh fun h=>?_) <;> try exact w6 h)|(refine aE fun hA=>?_;subst hA)|intro _|(show aA _ 383 _ _ _;refine CA (h:=Ii (p:=z.1.w) (n:=z.2) (by omega) ?_)))
    all_goals(show aU _ _ _ _;refine cJ (kk - 1) ⟨j+1,by omega,⟨rfl,rfl,rfl,rfl,rfl,trivial⟩,rfl⟩ (by omega) (aG.trans (by exact aY) (aG.cons (aG.cons (aG.cons (aG.cons (aG.cons hin)))))))
   ·have hjl:j=q.length:=by omega
    subst hjl
    rw[List.take_length,List.drop_length,List.append_nil]
    repeat' (first|refine J4 ?_|refine w5 ?_ ?_|((refine bh fun h=>?_) <;> try exact w6 h)|(refine aE fun hA=>?_;subst hA)|intro _)
    all_goals(refine aC ?_;exact aM (aG.trans (by exact aY) ((jR (q:=q.map (Au a b)) (l:=s.l.map fun e=>⟨e.id,uL e.n a b,e.sp⟩) (by rw[<- hq,List.map_map,List.map_map];rfl) (by rw[List.map_map];rfl) rfl))) (hK))
  ·have hR:mO a b s=s:=by unfold mO;rw[if_pos (by rw[hE,<- he];exact hne)]
   rw[hR,hE,<- he] at hK
   repeat' (first|refine J4 ?_|refine w5 ?_ ?_|((refine bh fun h=>?_) <;> try exact w6 h)|(refine aE fun hA=>?_;subst hA)|intro _)
   all_goals(refine aC ?_;exact aM (aG.trans (by exact aY) ((jR hq rfl rfl))) (hK))
end
end Go.Proofs.YtepnmcipkangkaaGreat
