/- A part of the proof: lemmas; each with the conditions that it states. -/
import Derived.Test.YtepnmcipkangkaaGreatCag
set_option linter.unusedVariables false
set_option linter.unusedSimpArgs false
set_option maxRecDepth 100000
set_option maxHeartbeats 40000000
namespace Go.Proofs.YtepnmcipkangkaaGreat
open Go Go.Proofs Go.Sl
attribute [local irreducible] aN fL cL bM aL aR aA dJ dK aU dI pt ro fC star sep bF
variable {R C:List HP} {K:KP} {w ev wa no he si nn now m k:Int} {p i:Nat} {ou lo:Bool} {s:ByteArray}
def nN (p:Nat) (ev wa no he:Int) (ou lo:Bool) (si nn:Int):HP:=pt p [I6 ev,I6 wa,I6 no,I6 he,.bool ou,.bool lo,I6 si,I6 nn] 282
def xQ (n:Int):ByteArray:=wN [⟨0,4,⟨#[]⟩⟩,⟨n % 2147483648,4,⟨#[]⟩⟩]
theorem Ak9 {n:Int} (hK:K (.bool (decide (0<=n) && decide (n<=1048576))) R):CT 167 #[I6 n] R K:=by
 refine aH Tryz.func167 ?_
 repeat' (first|refine v1 ?_|refine w5 ?_ ?_|((refine bh fun h=>?_) <;> try exact w6 h)|(refine aE fun hA=>?_;subst hA)|intro _)
 all_goals(refine aC ?_;exact aB (kb hK (by simp <;> omega)))
theorem Ua {e:Int} (he:0<=e/\e<=1048576) (hw:0<=w/\w<=1048576) (hK:∀p,K (.tuple #[PO p,I6 0]) (nN p e w 0 0 false false 0 0::R)):CT 93 #[I6 e,I6 w] R K:=by
 have h1:(decide (0<=e) && decide (e<=1048576))=true:=by simp[he]
 have h2:(decide (0<=w) && decide (w<=1048576))=true:=by simp[hw]
 refine aH Tryz.func93 ?_
 repeat' (first|refine v53 ?_|refine w5 ?_ ?_|((refine bh fun h=>?_) <;> try exact w6 h)|(refine aE fun hA=>?_;subst hA)|intro _|(show aA _ 167 _ _ _;refine CA (h:=Ak9 ?_)))
 all_goals first
  |(refine aC ?_;exact aB (hK _))
  |(exfalso;simp_all)
theorem Hv (hK:K (I6 (max no now)) (nN p ev wa (max no now) he ou lo si nn::R)):CT 264 #[PO p,I6 now] (nN p ev wa no he ou lo si nn::R) K:=by
 refine aH Tryz.func264 ?_
 repeat' (first|refine v14 ?_|refine w5 ?_ ?_|((refine bh fun h=>?_) <;> try exact w6 h)|(refine aE fun hA=>?_;subst hA)|intro _)
 (refine aC ?_;exact aB (hK))
def Gb:List (Nat×Nat):= [(0,1),(1,1),(2,1),(3,1),(4,1),(5,1),(6,1),(7,1),(8,1),(9,0),(10,0),(11,0),(12,0),(13,0)]
theorem D7 (hn:0<=nn) (hK:K (.string (xQ nn)) (nN p ev wa no he ou lo si nn::R)):CT 265 #[PO p] (nN p ev wa no he ou lo si nn::R) K:=by
 refine aH Tryz.func265 ?_
 repeat' (first|refine v83 ?_|refine dw Gb ?_|refine w5 ?_ ?_|((refine bh fun h=>?_) <;> try exact w6 h)|(refine aE fun hA=>?_;subst hA)|intro _|(show aA _ 367 _ _ _;refine CA (h:=Abl ?_))|(show aA _ 366 _ _ _;refine CA (h:=TZ (by exact lL) (by exact rfl) (by decide) ?_)))
 (refine aC ?_;exact aB (hK))
theorem PE (hK:K (.tuple #[]) (nN p ev wa (max no now) (max no now) ou lo si nn::R)):CT 206 #[PO p,I6 now] (nN p ev wa no he ou lo si nn::R) K:=by
 refine aH Tryz.func206 ?_
 repeat' (first|refine v48 ?_|refine w5 ?_ ?_|((refine bh fun h=>?_) <;> try exact w6 h)|(refine aE fun hA=>?_;subst hA)|intro _|(show aA _ 264 _ _ _;refine CA (h:=Hv ?_)))
 (refine aC ?_;exact aB (hK))
theorem Adp (hb:ou=false) (hK:K (.bool false) (nN p ev wa no he ou lo si nn::R)):CT 210 #[PO p,I6 now,.string s] (nN p ev wa no he ou lo si nn::R) K:=by
 refine aH Tryz.func210 ?_
 repeat' (first|refine NY ?_|refine w5 ?_ ?_|((refine bh fun h=>?_) <;> try exact w6 h)|(refine aE fun hA=>?_;subst hA)|intro _)
 all_goals first
  |(refine aC ?_;exact aB (hK))
  |(exfalso;simp_all)
theorem Z2 (hmx:max no now=m) (hn:0<=nn) (hK:K (.bool true) (nN p ev wa m m false lo si nn::R)):CT 210 #[PO p,I6 now,.string (xQ nn)] (nN p ev wa no he true lo si nn::R) K:=by
 subst hmx
 refine aH Tryz.func210 ?_
 repeat' (first|refine NY ?_|refine w5 ?_ ?_|((refine bh fun h=>?_) <;> try exact w6 h)|(refine aE fun hA=>?_;subst hA)|intro _|(show aA _ 265 _ _ _;refine CA (h:=D7 (by assumption) ?_))|(show aA _ 206 _ _ _;refine CA (h:=PE ?_)))
 all_goals first
  |(refine aC ?_;exact aB (hK))
  |(exfalso;simp_all)
def AK (ev wa he:Int) (ou lo:Bool) (si m:Int):Int:=if lo=true\/(ou=true/\wa<=m - si) then 2 else if ou=true\/m - he<ev then 0 else 1
def mJ:List Nat:= [0,1,3,7,15,31,63,127,255,511,1023,1023,3071,7167,15359,32767,1023,66559,197631,459775,1048575,2097151,4194303,8388607]
def mK:List Nat:= [8388607,4194303,2097151,1048575,459775,197631,66559,1023,32767,15359,7167,3071,1023,1023,511,255,127,63,31,15,7,3,1,0]
def mM:List (Nat×Nat):= [(0,0),(1,0),(2,0),(3,0),(4,0),(5,0),(6,0),(7,0),(8,0),(9,0),(10,0),(11,0),(12,0),(13,0),(14,0),(15,0),(16,0),(17,0),(18,0),(19,0),(20,0),(21,0),(22,0),(23,0)]
def mP:List (Nat×Nat):= [(0,0),(1,0),(2,0),(3,0),(4,0),(5,0),(6,0),(7,0),(8,0),(9,0),(10,0),(11,0),(12,0),(13,0),(14,0),(15,0),(16,0),(17,0)]
theorem Afq (hk:AK ev wa he ou lo si m=0) (hmx:max no now=m) (h0:ev≠0) (hm:-1000000000000<=m/\m<=1000000000000) (hs:-1000000000000<=si/\si<=1000000000000) (hh:-1000000000000<=he/\he<=1000000000000) (hn:0<=nn/\nn<=1000000000000)
  (hK:K (.tuple #[I6 0,.string ⟨#[]⟩]) (nN p ev wa m he ou lo si nn::R)):CT 179 #[PO p,I6 now] (nN p ev wa no he ou lo si nn::R) K:=by
 subst hmx
 unfold AK at hk
 refine aH Tryz.func179 ?_
 repeat' (first|refine ZN ?_|refine Jv mJ mK mM ?_|refine dw mP ?_|refine w5 ?_ ?_|((refine bh fun h=>?_) <;> try exact w6 h)|(refine aE fun hA=>?_;subst hA)|intro _|(show aA _ 264 _ _ _;refine CA (h:=Hv ?_))|(show aA _ 265 _ _ _;refine CA (h:=D7 (by omega) ?_)))
 all_goals first
  |(refine aC ?_;exact aB (hK))
  |(exfalso;simp_all;done)
  |(exfalso;simp_all <;> omega)
theorem Ae3 (hk:AK ev wa he ou lo si m=1) (hmx:max no now=m) (h0:ev≠0) (hm:-1000000000000<=m/\m<=1000000000000) (hs:-1000000000000<=si/\si<=1000000000000) (hh:-1000000000000<=he/\he<=1000000000000) (hn:0<=nn/\nn<=1000000000000)
  (hK:K (.tuple #[I6 1,.string (xQ (nn+1))]) (nN p ev wa m he true lo m (nn+1)::R)):CT 179 #[PO p,I6 now] (nN p ev wa no he ou lo si nn::R) K:=by
 subst hmx
 unfold AK at hk
 refine aH Tryz.func179 ?_
 repeat' (first|refine ZN ?_|refine Jv mJ mK mM ?_|refine dw mP ?_|refine w5 ?_ ?_|((refine bh fun h=>?_) <;> try exact w6 h)|(refine aE fun hA=>?_;subst hA)|intro _|(show aA _ 264 _ _ _;refine CA (h:=Hv ?_))|(show aA _ 265 _ _ _;refine CA (h:=D7 (by omega) ?_)))
 all_goals first
  |(refine aC ?_;exact aB (hK))
  |(exfalso;simp_all;done)
  |(exfalso;simp_all <;> omega)
theorem Aca (hk:AK ev wa he ou lo si m=2) (hmx:max no now=m) (h0:ev≠0) (hm:-1000000000000<=m/\m<=1000000000000) (hs:-1000000000000<=si/\si<=1000000000000) (hh:-1000000000000<=he/\he<=1000000000000) (hn:0<=nn/\nn<=1000000000000)
  (hK:K (.tuple #[I6 2,.string ⟨#[]⟩]) (nN p ev wa m he ou true si nn::R)):CT 179 #[PO p,I6 now] (nN p ev wa no he ou lo si nn::R) K:=by
 subst hmx
 unfold AK at hk
 refine aH Tryz.func179 ?_
 repeat' (first|refine ZN ?_|refine Jv mJ mK mM ?_|refine dw mP ?_|refine w5 ?_ ?_|((refine bh fun h=>?_) <;> try exact w6 h)|(refine aE fun hA=>?_;subst hA)|intro _|(show aA _ 264 _ _ _;refine CA (h:=Hv ?_))|(show aA _ 265 _ _ _;refine CA (h:=D7 (by omega) ?_)))
 all_goals first
  |(refine aC ?_;exact aB (hK))
  |(exfalso;simp_all;done)
  |(exfalso;simp_all <;> omega)
theorem TC (h0:ev=0) (hK:K (.tuple #[I6 0,.string ⟨#[]⟩]) (nN p ev wa no he ou lo si nn::R)):CT 179 #[PO p,I6 now] (nN p ev wa no he ou lo si nn::R) K:=by
 refine aH Tryz.func179 ?_
 repeat' (first|refine ZN ?_|refine Jv mJ mK mM ?_|refine dw mP ?_|refine w5 ?_ ?_|((refine bh fun h=>?_) <;> try exact w6 h)|(refine aE fun hA=>?_;subst hA)|intro _)
 all_goals first
  |(refine aC ?_;exact aB (hK))
  |(exfalso;omega)
def ZY:List (Bool×Bool×Int×Int):= [(false,true,-1,1),(false,true,-1,1),(false,true,8,0),(false,true,8,0),(false,true,4,0),(true,false,-1,0),(true,false,0,0),(true,false,8,0),(true,false,8,0),(true,false,8,0),(true,true,4,0),(false,true,4,0)]
def Ans:List Value:=ZY.flatMap fun x=> [.bool x.1,.bool x.2.1,I6 x.2.2.1,I6 x.2.2.2]
theorem Rk (hK:K (.agg Ans.toArray) R):CT 412 #[] R K:=by
 refine aH Tryz.func412 ?_
 repeat' (first|refine v5 ?_|refine w5 ?_ ?_|((refine bh fun h=>?_) <;> try exact w6 h)|(refine aE fun hA=>?_;subst hA)|intro _)
 (refine aC ?_;exact aB (hK))
def oA (k:Int):Bool×Bool×Int×Int:=if k<0\/12<=k then(false,false,0,0) else ZY.getD k.toNat (false,false,0,0)
def E4 (k:Int):Int:=if k<0\/12<=k then 3 else 0
theorem M7 (hK:K (.tuple #[.agg #[.bool (oA k).1,.bool (oA k).2.1,I6 (oA k).2.2.1,I6 (oA k).2.2.2],I6 (E4 k)]) R):CT 331 #[I6 k] R K:=by
 rcases(by omega:(k<0\/12<=k)\/k=0\/k=1\/k=2\/k=3\/k=4\/k=5\/k=6\/k=7\/k=8\/k=9\/k=10\/k=11) with h|h|h|h|h|h|h|h|h|h|h|h|h
 ·have e1:oA k=(false,false,0,0):=by unfold oA;rw[if_pos h]
  have e2:E4 k=3:=by unfold E4;rw[if_pos h]
  rw[e1,e2] at hK
  refine aH Tryz.func331 ?_
  repeat' (first|refine v82 ?_|refine w5 ?_ ?_|((refine bh fun h=>?_) <;> try exact w6 h)|(refine aE fun hA=>?_;subst hA)|intro _|(show aA _ 412 _ _ _;refine CA (h:=Rk ?_)))
  all_goals(refine aC ?_;exact aB (hK))
 all_goals
  subst h
  refine aH Tryz.func331 ?_
  repeat' (first|refine v82 ?_|refine w5 ?_ ?_|((refine bh fun h=>?_) <;> try exact w6 h)|(refine aE fun hA=>?_;subst hA)|intro _|(show aA _ 412 _ _ _;refine CA (h:=Rk ?_)))
  (refine aC ?_;exact aB (hK))
def Ee:List (Nat×Nat):= [(0,0),(1,0),(2,0),(3,0),(4,0),(5,0),(6,0),(7,0)]
theorem Rt (hK:K (.tuple #[.bool (oA k).1,.bool (oA k).2.1,I6 (E4 k)]) R):CT 227 #[I6 k] R K:=by
 refine aH Tryz.func227 ?_
 repeat' (first|refine v31 ?_|refine dw Ee ?_|refine w5 ?_ ?_|((refine bh fun h=>?_) <;> try exact w6 h)|(refine aE fun hA=>?_;subst hA)|intro _|(show aA _ 331 _ _ _;refine CA (h:=M7 ?_)))
 (refine aC ?_;exact aB (hK))
def EG (k:Int):Int:=if k=2\/k=3\/k=7\/k=8\/k=9 then 8 else if k=4\/k=10\/k=11 then 4 else if k=6 then 0 else -1
theorem GA (k:Int) (h0:0<=k) (h1:k<=11):(oA k).1=(decide (5<=k) && decide (k<=10))/\(oA k).2.1=(decide (k<=4) || decide (10<=k))/\(oA k).2.2.1=EG k/\E4 k=0/\(oA k).2.2.2=(if k<=1 then 1 else 0):=by
 rcases(by omega:k=0\/k=1\/k=2\/k=3\/k=4\/k=5\/k=6\/k=7\/k=8\/k=9\/k=10\/k=11) with h|h|h|h|h|h|h|h|h|h|h|h <;> subst h <;> decide
def hPs (l t f s:Int):List Pc:= [⟨l,3,⟨#[]⟩⟩,⟨t,1,⟨#[]⟩⟩,⟨f,1,⟨#[]⟩⟩,⟨s,4,⟨#[]⟩⟩]
def WY (l t f s:Int):Bool:=decide (0<=l) && decide (l<16777216) && decide (0<=t) && decide (t<256) && decide (0<=f) && decide (f<256) && decide (0<=s) && decide (s<=2147483647)
def K7 (l t f s:Int):ByteArray:=if 2147483647<s then⟨#[]⟩ else wN (hPs l t f s)
def Lq (l t f s:Int):Int:=if 2147483647<s then 2 else if yZ (hPs l t f s)=0 then 0 else 2
def Ft:List (Nat×Nat):= [(0,0),(1,0),(2,1),(3,1),(4,1),(5,1),(6,2),(7,2),(8,1),(9,3),(10,3),(11,1),(12,1),(13,1),(14,0),(15,0),(16,0),(17,0),(18,0)]
theorem Aix {l t f s:Int} (hK:K (.tuple #[.string (K7 l t f s),I6 (Lq l t f s)]) R):CT 287 #[.agg #[I6 l,I6 t,I6 f,I6 s]] R K:=by
 unfold K7 Lq at hK
 refine aH Tryz.func287 ?_
 repeat' (first|refine v60 ?_|refine dw Ft ?_|refine w5 ?_ ?_|((refine bh fun h=>?_) <;> try exact w6 h)|(refine aE fun hA=>?_;subst hA)|intro _|(show aA _ 367 _ _ _;refine CA (h:=Abl ?_))|(show aA _ 366 _ _ _;refine CA (h:=TZ (ps:=hPs l t f s) (by exact lL) (by exact rfl) (by decide) ?_)))
 all_goals first
  |(rw[if_pos (by assumption),if_pos (by assumption)] at hK;(refine aC ?_;exact aB (hK)))
  |(rw[if_neg (by omega),if_neg (by omega),if_pos (by assumption)] at hK;(refine aC ?_;exact aB (hK)))
  |(rw[if_neg (by omega),if_neg (by omega),if_neg (by assumption),Q9 (by assumption)] at hK;(refine aC ?_;exact aB (hK)))
section
def sub (s:ByteArray) (i j:Nat):ByteArray:=s.extract i j
def rP (s:ByteArray) (i j:Nat):Int:=qB (s.extract i j).data.toList
theorem NG {j:Nat} (hw:1<=w/\w<=4) (hj:(j:Int)=i+w) (h:j<=s.size) (hK:K (I6 (rP s i j)) (eV p (s.extract j s.size) false::R)):CT 379 #[PO p,I6 w] (eV p (s.extract i s.size) false::R) K:=by
 have hW:uW w=w:=by unfold uW;rw[if_neg (by omega)]
 obtain⟨t1,t2,t3⟩:=Wo (s:=s) (at_:=i) (n:=w) (by omega) (by omega) (by omega)
 have e:((i:Int)+w).toNat=j:=by omega
 rw[e] at t2 t3
 rw[Int.toNat_natCast] at t1 t2 t3
 refine Aqd (by rw[hW];exact t1) ?_
 rw[hW,t3]
 unfold uN
 rw[hW,t2]
 exact hK
theorem PI (h:i+1<=s.size) (hK:K (I6 (rP s i (i+1))) (eV p (s.extract (i+1) s.size) false::R)):CT 379 #[PO p,I6 1] (eV p (s.extract i s.size) false::R) K:=
 NG (by decide) (by omega) h hK
theorem Aou (h:i+3<=s.size) (hK:K (I6 (rP s i (i+3))) (eV p (s.extract (i+3) s.size) false::R)):CT 379 #[PO p,I6 3] (eV p (s.extract i s.size) false::R) K:=
 NG (by decide) (by omega) h hK
theorem LA (h:i+4<=s.size) (hK:K (I6 (rP s i (i+4))) (eV p (s.extract (i+4) s.size) false::R)):CT 379 #[PO p,I6 4] (eV p (s.extract i s.size) false::R) K:=
 NG (by decide) (by omega) h hK
theorem Akb (hw:1<=w/\w<=4) (hi:i<=s.size) (h:(s.size:Int)<i+w) (hK:K (I6 0) (eV p (s.extract i s.size) true::R)):CT 379 #[PO p,I6 w] (eV p (s.extract i s.size) false::R) K:=by
 have hW:uW w=w:=by unfold uW;rw[if_neg (by omega)]
 refine Aly ?_ hK
 rw[hW]
 exact Alr (.inr (.inr (by simp;omega)))
theorem Ala (hK:K (I6 0) (eV p s true::R)):CT 379 #[PO p,I6 w] (eV p s true::R) K:=
 Aly (Alr (.inl rfl)) hK
theorem vF (hK:∀r,K (PO r) (eV r (s.extract 0 s.size) false::R)):CT 378 #[.string s] R K:=by
 refine Vf s fun r=>?_
 have e:s.extract 0 s.size=s:=by apply Gc;simp
 have:=hK r
 rwa[e] at this
def XO (s:ByteArray):Value:=if s.size<9\/2147483647<rP s 5 9 then .tuple #[.agg #[I6 0,I6 0,I6 0,I6 0],I6 (if s.size<9 then 5 else 6)] else .tuple #[.agg #[I6 (rP s 0 3),I6 (rP s 3 4),I6 (rP s 4 5),I6 (rP s 5 9)],I6 0]
attribute [local irreducible] ByteArray.extract rP
theorem Aht (hK:K (XO s) R):CT 289 #[.string s] R K:=by
 refine aH Tryz.func289 ?_
 rcases(by omega:s.size<3\/s.size=3\/s.size=4\/(5<=s.size/\s.size<9)\/9<=s.size) with h|h|h|h|h
 all_goals
  repeat' (first|refine v75 ?_|refine w5 ?_ ?_|((refine bh fun h=>?_) <;> try exact w6 h)|(refine aE fun hA=>?_;subst hA)|intro _|(show aA _ 378 _ _ _;refine CA (h:=vF (fun p=>?_)))|(show aA _ 379 _ _ _;refine CA (h:=Aou (by omega) ?_))|(show aA _ 379 _ _ _;refine CA (h:=PI (by omega) ?_))|(show aA _ 379 _ _ _;refine CA (h:=LA (by omega) ?_))|(show aA _ 379 _ _ _;refine CA (h:=Akb (by decide) (by omega) (by omega) ?_))|(show aA _ 379 _ _ _;refine CA (h:=Ala ?_))|(show aA _ 380 _ _ _;refine CA (h:=Acb _ _ _ ?_)))
 all_goals first
  |(refine aC ?_;exact aB (kv hK (by unfold XO;rw[if_pos (Or.inl (by omega)),if_pos (by omega)])))
  |(refine aC ?_;exact aB (kv hK (by unfold XO;rw[if_pos (Or.inr (by assumption)),if_neg (by omega)])))
  |(refine aC ?_;exact aB (kv hK (by unfold XO;rw[if_neg (fun h=>h.elim (fun h=>by omega) (fun h=>absurd h (Int.not_lt.2 (by assumption))))])))
end
end Go.Proofs.YtepnmcipkangkaaGreat
section
namespace Go.Proofs.YtepnmcipkangkaaGreat
open Go Go.Proofs Go.Sl
attribute [local irreducible] aN fL cL bM aL aR aA dJ dK aU dI pt ro fC star sep bF
variable {R C:List HP} {K:KP} {k:Int}
def nA (l t f s:Int):Int:=if l<0\/256<l then 6 else if t<0\/11<t\/s<0 then 1 else if(s=0/\¬(5<=t/\t<=10))\/(0<s/\¬(t<=4\/10<=t)) then 1 else if f≠0/\(f≠1\/1<t) then 1 else if t=5/\(l % 6≠0\/48<l) then 6 else if 0<=EG t/\l≠EG t then 6 else 0
theorem Ahx (h0:0<=k) (h1:k<=1) (hK:K (.tuple #[.agg #[.bool false,.bool true,I6 (-1),I6 1],I6 0]) R):CT 331 #[I6 k] R K:=by
 refine M7 ?_
 rcases(by omega:k=0\/k=1) with rfl|rfl <;> exact hK
theorem Aik (h0:2<=k) (h1:k<=11) (hK:K (.tuple #[.agg #[.bool (decide (5<=k) && decide (k<=10)),.bool (decide (k<=4) || decide (10<=k)),I6 (EG k),I6 0],I6 0]) R):CT 331 #[I6 k] R K:=by
 refine M7 ?_
 obtain⟨e1,e2,e3,e4,e5⟩:=GA k (by omega) h1
 rw[e1,e2,e3,e4,e5,if_neg (by omega)]
 exact hK
theorem Ajt (h0:k<0\/11<k) (hK:K (.tuple #[.agg #[.bool false,.bool false,I6 0,I6 0],I6 3]) R):CT 331 #[I6 k] R K:=by
 refine M7 ?_
 have e1:oA k=(false,false,0,0):=by unfold oA;rw[if_pos (by omega)]
 have e2:E4 k=3:=by unfold E4;rw[if_pos (by omega)]
 rw[e1,e2]
 exact hK
def WA (p:Nat) (l t f s:Int):HP:=pt p [I6 l,I6 t,I6 f,I6 s] 295
def Jh (t l long:Int):Bool:=decide ((t=5->(l % 6=0/\l<=48))/\(t≠5->(long<0\/l=long)))
theorem Aev {p q:Nat} {l t f s long flags:Int} {z o:Bool} (h0:0<=l) (hK:K (.bool (Jh t l long)) (WA p l t f s::pt q [.bool z,.bool o,I6 long,I6 flags] 393::R)):
  CT 381 #[PO p,PO q] (WA p l t f s::pt q [.bool z,.bool o,I6 long,I6 flags] 393::R) K:=by
 unfold WA at *
 refine aH Tryz.func381 ?_
 repeat' (first|refine v27 ?_|refine w5 ?_ ?_|((refine bh fun h=>?_) <;> try exact w6 h)|(refine aE fun hA=>?_;subst hA)|intro _)
 all_goals(refine aC ?_;exact aB (kb hK (by unfold Jh;simp only[decide_eq_true_eq] <;> simp <;> omega)))
theorem wY {l t f s:Int} (hf:-9223372036854775808<=f/\f<=9223372036854775807) (hK:K (I6 (nA l t f s)) R):CT 290 #[.agg #[I6 l,I6 t,I6 f,I6 s]] R K:=by
 have h5:t=5->EG t=-1:=fun h=>by subst h;rfl
 have h1:t<=1->EG t=-1:=fun h=>by unfold EG;rw[if_neg (by omega),if_neg (by omega),if_neg (by omega)]
 have c1:= @Aev
 unfold WA at c1
 rcases(by omega:(t<0\/11<t)\/(0<=t/\t<=1)\/(2<=t/\t<=11)) with h|h|h
 all_goals
  refine aH Tryz.func290 ?_
  repeat' (first|refine v96 ?_|refine w5 ?_ ?_|((refine bh fun h=>?_) <;> try exact w6 h)|(refine aE fun hA=>?_;subst hA)|intro _|(show aA _ 331 _ _ _;refine CA (h:=Ahx (by omega) (by omega) ?_))|(show aA _ 331 _ _ _;refine CA (h:=Aik (by omega) (by omega) ?_))|(show aA _ 331 _ _ _;refine CA (h:=Ajt (by omega) ?_))|(show aA _ 381 _ _ _;refine CA (h:=c1 (by omega) ?_)))
  all_goals(try simp only[Jh,decide_eq_true_eq,decide_eq_false_iff_not] at *)
  all_goals(refine aC ?_;exact aB (ki hK (by unfold nA;(repeat' split) <;> omega)))
end Go.Proofs.YtepnmcipkangkaaGreat
namespace Go.Proofs.YtepnmcipkangkaaGreat
open Go Go.Proofs Go.Sl
attribute [local irreducible] aN fL cL bM aL aR aA dJ dK aU dI pt ro fC star sep bF
variable {R C:List HP} {K:KP} {l t f s:Int}
def J9 (s:ByteArray):Int:=if s.size<9 then 5 else if 2147483647<rP s 5 9 then 6 else 0
def Ho (s:ByteArray) (i j:Nat):Int:=if J9 s=0 then rP s i j else 0
def hgV (s:ByteArray):Value:=.tuple #[.agg #[I6 (Ho s 0 3),I6 (Ho s 3 4),I6 (Ho s 4 5),I6 (Ho s 5 9)],I6 (J9 s)]
theorem Ame (s:ByteArray):XO s=hgV s:=by
 unfold XO hgV Ho J9
 by_cases h:s.size<9
 ·simp[h]
 ·by_cases h2:2147483647<rP s 5 9
  ·simp[h,h2]
  ·simp[h,h2]
theorem Aex {s:ByteArray} (hK:K (.tuple #[.agg #[I6 (Ho s 0 3),I6 (Ho s 3 4),I6 (Ho s 4 5),I6 (Ho s 5 9)],I6 (J9 s)]) R):CT 289 #[.string s] R K:=Aht (by rw[Ame];exact hK)
def jS (l t f s:Int):ByteArray:=rB l 3++rB t 1++rB f 1++rB s 4
theorem Gh (h:WY l t f s=true):(jS l t f s).data.toList=wB l 3++wB t 1++wB f 1++wB s 4:=by
 unfold WY at h
 simp only[Bool.and_eq_true,decide_eq_true_eq] at h
 unfold jS rB
 rw[if_neg (by omega),if_neg (by omega),if_neg (by omega),if_neg (by omega)]
 simp
theorem Nu:(256:Int) ^ (1:Nat)=256/\(256:Int) ^ (3:Nat)=16777216/\(256:Int) ^ (4:Nat)=4294967296:=by decide
theorem C1 {n w:Int} (hw:0<w/\w<=4):(jE n w=0↔(0<=n/\n<256 ^ w.toNat)):=by
 constructor
 ·intro h;exact Aim h hw.1
 ·intro h
  unfold jE
  have e:(2:Int) ^ (8 * w).toNat=256 ^ w.toNat:=by
   have:(8 * w).toNat=8 * w.toNat:=by omega
   rw[this,Int.pow_mul];rfl
  rw[e,Int.ediv_eq_zero_of_lt h.1 h.2,if_neg (by omega),if_neg (by omega)]
theorem QE:(WY l t f s=true->K7 l t f s=jS l t f s/\Lq l t f s=0)/\(WY l t f s=false->K7 l t f s=⟨#[]⟩/\Lq l t f s=2):=by
 obtain⟨p1,p3,p4⟩:=Nu
 have m1:=C1 (n:=l) (w:=3) (by decide)
 have m2:=C1 (n:=t) (w:=1) (by decide)
 have m3:=C1 (n:=f) (w:=1) (by decide)
 have m4:=C1 (n:=s) (w:=4) (by decide)
 rw[show(3:Int).toNat=3 from rfl,p3] at m1
 rw[show(1:Int).toNat=1 from rfl,p1] at m2 m3
 rw[show(4:Int).toNat=4 from rfl,p4] at m4
 have hf:eO (hPs l t f s)=0↔(jE l 3=0/\jE t 1=0/\jE f 1=0/\jE s 4=0):=by
  unfold hPs
  simp only[eO]
  by_cases h1:jE l 3=0 <;> by_cases h2:jE t 1=0 <;> by_cases h3:jE f 1=0 <;> by_cases h4:jE s 4=0 <;> simp[h1,h2,h3,h4]
 constructor
 ·intro h
  have hl:=Gh h
  unfold WY at h
  simp only[Bool.and_eq_true,decide_eq_true_eq] at h
  have hz:eO (hPs l t f s)=0:=hf.2 ⟨m1.2 (by omega),m2.2 (by omega),m3.2 (by omega),m4.2 (by omega)⟩
  have he:yZ (hPs l t f s)=0:=by
   unfold yZ
   rw[if_pos hz,if_neg]
   have:Kk (hPs l t f s) 0=9:=by
    unfold hPs
    simp[Kk,lD] <;> decide
   omega
  unfold K7 Lq
  rw[if_neg (by omega),if_neg (by omega),if_pos he]
  refine⟨Gc ?_,rfl⟩
  rw[hl,(I9 he).2.2.2]
  simp[lK,hPs,Qn]
 ·intro h
  unfold K7 Lq
  by_cases hs:2147483647<s
  ·rw[if_pos hs,if_pos hs];exact⟨rfl,rfl⟩
  ·rw[if_neg hs,if_neg hs]
   have he:¬yZ (hPs l t f s)=0:=by
    intro he
    obtain⟨a,b,c,d⟩:=hf.1 (I9 he).1
    rw[m1] at a
    rw[m2] at b
    rw[m3] at c
    rw[m4] at d
    unfold WY at h
    simp at h
    omega
   rw[if_neg he,Q9 he]
   exact⟨rfl,rfl⟩
theorem Aae (h:WY l t f s=true) (hK:K (.tuple #[.string (jS l t f s),I6 0]) R):CT 287 #[.agg #[I6 l,I6 t,I6 f,I6 s]] R K:=by
 refine Aix ?_
 rw[(QE.1 h).1,(QE.1 h).2]
 exact hK
end Go.Proofs.YtepnmcipkangkaaGreat
end
namespace Go.Proofs.YtepnmcipkangkaaGreat
open Go Go.Proofs Go.Sl
attribute [local irreducible] aN fL cL bM aL aR aA dJ dK aU dI pt ro fC star sep bF
variable {R C:List HP} {K:KP}
structure Pr where
 i:Int
 v:Int
def prD:List Value->Option Pr
 | [.int .i64 i,.int .i64 v]=>some ⟨i,v⟩
 |_=>none
theorem Aoa (cs:List Value) (y:Pr) (h:prD cs=some y): [I6 y.i,I6 y.v]=cs:=by
 unfold prD at h
 split at h
 ·cases h;rfl
 ·cases h
def tX:u6 Pr:= { enc:=fun p=> [I6 p.i,I6 p.v],sz:=2,dec:=prD,len:=fun _=>rfl,one:=fun _=>rfl,ok:=Aoa }
structure Fm where
 t:Int
 st:Int
 e:Bool
 d:ByteArray
 k:Int
 on:Int
 w:Int
 x:Bool
 c:Int
 la:Int
 n:Int
 pa:Option Addr
 pn:Nat
 pc:Nat
 ps:List Pr
theorem AN {n l h:Int} (hK:K (.bool (decide (l<=n) && decide (n<=h))) R):CT 332 #[I6 n,I6 l,I6 h] R K:=by
 refine aH Tryz.func332 ?_
 repeat' (first|refine v1 ?_|refine w5 ?_ ?_|((refine bh fun h=>?_) <;> try exact w6 h)|(refine aE fun hA=>?_;subst hA)|intro _)
 all_goals(refine aC ?_;exact aB (kb hK (by simp <;> omega)))
def G5 (n:Int):Bool:=decide (0<=n) && decide (n<=2147483647)
theorem oY {n:Int} (hK:K (.bool (G5 n)) R):CT 228 #[I6 n] R K:=by
 refine aH Tryz.func228 ?_
 repeat' (first|refine v0 ?_|refine w5 ?_ ?_|((refine bh fun h=>?_) <;> try exact w6 h)|(refine aE fun hA=>?_;subst hA)|intro _|(show aA _ 332 _ _ _;refine CA (h:=AN ?_)))
 (refine aC ?_;exact aB (hK))
def Oz (on w:Int):Bool:=G5 on && (decide (1<=w) && decide (w<=256))
theorem oW (n:Int):G5 n=true↔(0<=n/\n<=2147483647):=by unfold G5;simp
theorem VN {on w:Int} {x:Bool} (hK:K (.bool (Oz on w)) R):CT 335 #[.agg #[I6 on,I6 w,.bool x]] R K:=by
 refine aH Tryz.func335 ?_
 repeat' (first|refine v19 ?_|refine w5 ?_ ?_|((refine bh fun h=>?_) <;> try exact w6 h)|(refine aE fun hA=>?_;subst hA)|intro _|(show aA _ 332 _ _ _;refine CA (h:=AN ?_))|(show aA _ 228 _ _ _;refine CA (h:=oY ?_)))
 all_goals(refine aC ?_;exact aB (kb hK (by unfold Oz;simp[*])))
def CU (on w:Int) (x:Bool):Bool:=decide (on=0) && decide (w=0) && !x
def ON:List Pr->List Pr->Bool
 | [],[]=>true
 |a::l,b::m=>(a.i == b.i && a.v == b.v) && ON l m
 |_,_=>false
theorem Pe:∀l:List Pr,ON l l=true
 | []=>rfl
 |a::l=>by simp[ON,Pe l]
theorem VF:∀ {l m:List Pr},ON l m=true->l.length=m.length
 | [],[],_=>rfl
 |a::l,b::m,h=>by
  simp only[ON,Bool.and_eq_true] at h
  simp[VF h.2]
 | [],_::_,h=>by cases h
 |_::_,[],h=>by cases h
theorem Ag6 (l:List Pr):ON l []=decide (l.length=0):=by cases l <;> simp[ON]
def j9:List (Nat×Nat):= [(0,0),(1,0),(2,0),(3,0),(4,0),(5,0),(6,0),(7,0),(8,0)]
theorem Ace {A B:Option Addr} {n n' c c':Nat} {xs ys:List Pr} (hv:dW C A tX xs) (hw:dW C B tX ys) (hn:xs.length=n) (hn':ys.length=n') (hn2:n<1000000000000000) (hK:K (.bool (ON xs ys)) C):CT 334 #[.slice A n c,.slice B n' c'] C K:=by
 by_cases hnn:n=n'
 ·subst hnn
  refine aH Tryz.func334 ?_
  repeat' (first|refine v29 ?_|refine dw j9 ?_|refine w5 ?_ ?_|((refine bh fun h=>?_) <;> try exact w6 h)|(refine aE fun hA=>?_;subst hA)|intro _)
  refine jA (fun m a C'=>∃j:Nat,j+m=n/\C'=C/\ON xs ys=ON (xs.drop j) (ys.drop j)/\dH a [(0,.slice A n c),(1,.slice B n c'),(12,I6 n),(13,I6 j)]) n (cJ n ⟨0,by omega,rfl,rfl,rfl,rfl,rfl,rfl,trivial⟩) ?_
  rintro n1 a C' ⟨j,hj,rfl,hp,ha⟩
  refine i6 _ ha ?_
  simp only[gJ]
  by_cases hlt:j<n
  ·obtain⟨x,hx,hd⟩:=lS (l:=xs) (j:=j) (by omega)
   obtain⟨y,hy,hd'⟩:=lS (l:=ys) (j:=j) (by omega)
   rw[hd,hd',ON] at hp
   by_cases hxy:x.i=y.i/\x.v=y.v
   ·have e1:(x.i == y.i)=true:=by simpa using hxy.1
    have e2:(x.v == y.v)=true:=by simpa using hxy.2
    rw[e1,e2,Bool.and_self,Bool.true_and] at hp
    repeat' (first|refine v29 ?_|refine dw j9 ?_|refine w5 ?_ ?_|((refine bh fun h=>?_) <;> try exact w6 h)|(refine aE fun hA=>?_;subst hA)|intro _)
    exact cJ (n1 - 1) ⟨j+1,by omega,rfl,hp,rfl,rfl,rfl,rfl,trivial⟩
   ·have e1:(x.i == y.i && x.v == y.v)=false:=by
     rw[Bool.and_eq_false_iff];simp;omega
    rw[e1,Bool.false_and] at hp
    rw[hp] at hK
    repeat' (first|refine v29 ?_|refine dw j9 ?_|refine w5 ?_ ?_|((refine bh fun h=>?_) <;> try exact w6 h)|(refine aE fun hA=>?_;subst hA)|intro _)
    (refine aC ?_;exact aB (hK))
  ·obtain rfl:j=n:=by omega
   rw[List.drop_eq_nil_of_le (by omega),List.drop_eq_nil_of_le (by omega),ON] at hp
   rw[hp] at hK
   repeat' (first|refine v29 ?_|refine dw j9 ?_|refine w5 ?_ ?_|((refine bh fun h=>?_) <;> try exact w6 h)|(refine aE fun hA=>?_;subst hA)|intro _)
   (refine aC ?_;exact aB (hK))
 ·have e:ON xs ys=false:=by
   cases h:ON xs ys
   ·rfl
   ·have:=VF h;omega
  rw[e] at hK
  refine aH Tryz.func334 ?_
  repeat' (first|refine v29 ?_|refine dw j9 ?_|refine w5 ?_ ?_|((refine bh fun h=>?_) <;> try exact w6 h)|(refine aE fun hA=>?_;subst hA)|intro _)
  all_goals(refine aC ?_;exact aB (hK))
def oE (t:Int) (e:Bool):Bool:=if t=0\/t=1 then e else false
def oD (t:Int) (d:ByteArray):ByteArray:=if t=0\/t=1\/t=7\/t=8 then d else⟨#[]⟩
def oK (t k:Int):Int:=if t=2 then k else 0
def oO (t on:Int):Int:=if t=2\/t=3 then on else 0
def oX (t:Int) (x:Bool):Bool:=if t=2\/t=3 then x else false
def oC (t c:Int):Int:=if t=4\/t=9 then c else 0
def oL (t l:Int):Int:=if t=9 then l else 0
def oN (t n:Int):Int:=if t=10\/t=11 then n else 0
def oPa (t:Int) (p:Option Addr):Option Addr:=if t=5 then p else none
def oPn (t:Int) (n:Nat):Nat:=if t=5 then n else 0
def oPs (t:Int) (l:List Pr):List Pr:=if t=5 then l else []
def yI:List (Nat×Nat):= [(0,0),(1,0),(4,0),(5,1),(2,1),(3,1),(6,0),(7,1)]
def yV:List (Nat×Nat):= [(0,0),(1,0),(4,0),(5,1),(2,1),(3,1),(6,0),(7,1)]
def wU:List (Nat×Nat):= [(0,0),(1,0),(4,0),(5,1),(2,1),(3,1),(6,0),(7,1)]
theorem Oe {t st:Int} {e:Bool} {d:ByteArray} {k on w:Int} {x:Bool} {c la n:Int} {pa:Option Addr} {pn pc:Nat} (hK:K (.agg #[I6 t,I6 st,.bool (oE t e),.string (oD t d),I6 (oK t k),I6 (oO t on),I6 (oO t w),.bool (oX t x),I6 (oC t c),I6 (oL t la),I6 (oN t n),.slice (oPa t pa) (oPn t pn) (oPn t pc)]) R):CT 230 #[.agg #[I6 t,I6 st,.bool e,.string d,I6 k,I6 on,I6 w,.bool x,I6 c,I6 la,I6 n,.slice pa pn pc]] R K:=by
 rcases(by omega:(t<0\/11<t\/t=6)\/t=0\/t=1\/t=2\/t=3\/t=4\/t=5\/t=7\/t=8\/t=9\/t=10\/t=11) with h|h|h|h|h|h|h|h|h|h|h|h
 ·have q0:¬t=0:=by omega
  have q1:¬t=1:=by omega
  have q2:¬t=2:=by omega
  have q3:¬t=3:=by omega
  have q4:¬t=4:=by omega
  have q5:¬t=5:=by omega
  have q7:¬t=7:=by omega
  have q8:¬t=8:=by omega
  have q9:¬t=9:=by omega
  have q10:¬t=10:=by omega
  have q11:¬t=11:=by omega
  simp only[oE,oD,oK,oO,oX,oC,oL,oN,oPa,oPn,q0,q1,q2,q3,q4,q5,q7,q8,q9,q10,q11,or_self,if_false] at hK
  refine aH Tryz.func230 ?_
  repeat' (first|refine ZO ?_|refine dw yI ?_|refine dw yV ?_|refine dw wU ?_|refine w5 ?_ ?_|((refine bh fun h=>?_) <;> try exact w6 h)|(refine aE fun hA=>?_;subst hA)|intro _)
  all_goals(refine aC ?_;exact aB (hK))
 all_goals
  subst h
  simp[oE,oD,oK,oO,oX,oC,oL,oN,oPa,oPn] at hK
  refine aH Tryz.func230 ?_
  repeat' (first|refine ZO ?_|refine dw yI ?_|refine dw yV ?_|refine dw wU ?_|refine w5 ?_ ?_|((refine bh fun h=>?_) <;> try exact w6 h)|(refine aE fun hA=>?_;subst hA)|intro _)
  all_goals(refine aC ?_;exact aB (hK))
def Kh (l:List Pr):Bool:=l.all fun p=>decide (0<=p.i) && decide (p.i<=65535) && G5 p.v
def zB (t:Int) (d:ByteArray) (k on w c la n:Int) (ps:List Pr):Bool:=if t=0\/t=1 then decide (d.size<=256) else if t=2 then(decide (k=1) || decide (k=2)) && Oz on w else if t=3 then Oz on w else if t=7\/t=8 then decide (d.size=8) else if t=5 then Kh ps && decide (ps.length<=8) else G5 c && G5 la && G5 n
theorem LJ {t st:Int} {e:Bool} {d:ByteArray} {k on w:Int} {x:Bool} {c la n:Int} {pa:Option Addr} {pn pc:Nat} {ps:List Pr} (hv:dW C pa tX ps) (hn:ps.length=pn) (hn2:pn<1000000000000000) (hK:K (.bool (zB t d k on w c la n ps)) C):CT 231 #[.agg #[I6 t,I6 st,.bool e,.string d,I6 k,I6 on,I6 w,.bool x,I6 c,I6 la,I6 n,.slice pa pn pc]] C K:=by
 subst hn
 by_cases h5:t=5
 ·subst h5
  simp[zB] at hK
  refine aH Tryz.func231 ?_
  repeat' (first|refine Hk ?_|refine w5 ?_ ?_|((refine bh fun h=>?_) <;> try exact w6 h)|(refine aE fun hA=>?_;subst hA)|intro _)
  rename_i r
  have hv2:dW (pt r [I6 5,I6 st,.bool e,.string d,I6 k,I6 on,I6 w,.bool x,I6 c,I6 la,I6 n,.slice pa ps.length pc] 178::C) pa tX ps:=bN hv
  refine jA (fun m a C'=>∃j:Nat,j+m=ps.length/\C'=pt r [I6 5,I6 st,.bool e,.string d,I6 k,I6 on,I6 w,.bool x,I6 c,I6 la,I6 n,.slice pa ps.length pc] 178::C/\Kh ps=Kh (ps.drop j)/\dH a [(1,PO r),(44,.slice pa ps.length pc),(45,I6 ps.length),(46,I6 j)]) ps.length (cJ ps.length ⟨0,by omega,rfl,rfl,rfl,rfl,rfl,rfl,trivial⟩) ?_
  rintro n1 a C' ⟨j,hj,rfl,hp,ha⟩
  refine i6 _ ha ?_
  simp only[gJ]
  by_cases hlt:j<ps.length
  ·obtain⟨y,hy,hd⟩:=lS (l:=ps) (j:=j) (by omega)
   rw[hd] at hp
   simp only[Kh,List.all_cons] at hp
   by_cases hok:(decide (0<=y.i) && decide (y.i<=65535) && G5 y.v)=true
   ·rw[hok,Bool.true_and] at hp
    simp only[Bool.and_eq_true,decide_eq_true_eq] at hok
    obtain⟨⟨o1,o2⟩,o3⟩:=hok
    repeat' (first|refine Hk ?_|refine w5 ?_ ?_|((refine bh fun h=>?_) <;> try exact w6 h)|(refine aE fun hA=>?_;subst hA)|intro _|(show aA _ 332 _ _ _;refine CA (h:=AN ?_))|(show aA _ 228 _ _ _;refine CA (h:=oY ?_)))
    exact cJ (n1 - 1) ⟨j+1,by omega,rfl,hp,rfl,rfl,rfl,rfl,trivial⟩
   ·have hok':(decide (0<=y.i) && decide (y.i<=65535) && G5 y.v)=false:=by simpa using hok
    rw[hok',Bool.false_and] at hp
    have hps:Kh ps=false:=hp
    rw[hps,Bool.false_and] at hK
    have h3:(y.i<0\/65535<y.i)\/G5 y.v=false:=by
     simp only[Bool.and_eq_false_iff,decide_eq_false_iff_not] at hok'
     rcases hok' with(h|h)|h
     ·exact .inl (.inl (by omega))
     ·exact .inl (.inr (by omega))
     ·exact .inr h
    rcases h3 with h3|h3
    ·repeat' (first|refine Hk ?_|refine w5 ?_ ?_|((refine bh fun h=>?_) <;> try exact w6 h)|(refine aE fun hA=>?_;subst hA)|intro _|(show aA _ 332 _ _ _;refine CA (h:=AN ?_))|(show aA _ 228 _ _ _;refine CA (h:=oY ?_)))
     all_goals(refine aC ?_;exact aB (hK))
    ·repeat' (first|refine Hk ?_|refine w5 ?_ ?_|((refine bh fun h=>?_) <;> try exact w6 h)|(refine aE fun hA=>?_;subst hA)|intro _|(show aA _ 332 _ _ _;refine CA (h:=AN ?_))|(show aA _ 228 _ _ _;refine CA (h:=oY ?_)))
     all_goals(refine aC ?_;exact aB (hK))
  ·obtain rfl:j=ps.length:=by omega
   rw[List.drop_eq_nil_of_le (by omega)] at hp
   have hps:Kh ps=true:=hp
   rw[hps,Bool.true_and] at hK
   repeat' (first|refine Hk ?_|refine w5 ?_ ?_|((refine bh fun h=>?_) <;> try exact w6 h)|(refine aE fun hA=>?_;subst hA)|intro _)
   (refine aC ?_;exact aB (kb hK (by simp <;> omega)))
 ·rcases(by omega:(t<0\/11<t\/t=6\/t=4\/t=9\/t=10\/t=11)\/t=0\/t=1\/t=2\/t=3\/t=7\/t=8) with h|h|h|h|h|h|h
  ·have q0:¬t=0:=by omega
   have q1:¬t=1:=by omega
   have q2:¬t=2:=by omega
   have q3:¬t=3:=by omega
   have q7:¬t=7:=by omega
   have q8:¬t=8:=by omega
   simp only[zB,q0,q1,q2,q3,h5,q7,q8,or_self,if_false] at hK
   refine aH Tryz.func231 ?_
   repeat' (first|refine Hk ?_|refine w5 ?_ ?_|((refine bh fun h=>?_) <;> try exact w6 h)|(refine aE fun hA=>?_;subst hA)|intro _|(show aA _ 228 _ _ _;refine CA (h:=oY ?_))|(show aA _ 335 _ _ _;refine CA (h:=VN ?_)))
   all_goals(refine aC ?_;exact aB (kb hK (by simp[*])))
  all_goals
   subst h
   simp[zB] at hK
   refine aH Tryz.func231 ?_
   repeat' (first|refine Hk ?_|refine w5 ?_ ?_|((refine bh fun h=>?_) <;> try exact w6 h)|(refine aE fun hA=>?_;subst hA)|intro _|(show aA _ 228 _ _ _;refine CA (h:=oY ?_))|(show aA _ 335 _ _ _;refine CA (h:=VN ?_)))
   all_goals(refine aC ?_;exact aB (kb hK (by simp[*] <;> omega)))
theorem Um {s t:ByteArray}:s.toList=t.toList↔s=t:=by
 constructor
 ·intro h;rw[Gt,Gt] at h;exact Gc h
 ·rintro rfl;rfl
theorem Aeq {t st:Int} {e:Bool} {d:ByteArray} {k on w:Int} {x:Bool} {c la n:Int} {pa:Option Addr} {pn pc:Nat} (hK:K (.agg #[I6 t,I6 st,.bool e,.string d,I6 k,I6 on,I6 w,.bool x,I6 c,I6 la,I6 n]) R):CT 333 #[.agg #[I6 t,I6 st,.bool e,.string d,I6 k,I6 on,I6 w,.bool x,I6 c,I6 la,I6 n,.slice pa pn pc]] R K:=by
 refine aH Tryz.func333 ?_
 repeat' (first|refine v61 ?_|refine w5 ?_ ?_|((refine bh fun h=>?_) <;> try exact w6 h)|(refine aE fun hA=>?_;subst hA)|intro _)
 (refine aC ?_;exact aB (hK))
def GY (t st:Int) (e:Bool) (d:ByteArray) (k on w:Int) (x:Bool) (c la n t1 st1:Int) (e1:Bool) (d1:ByteArray) (k1 on1 w1:Int) (x1:Bool) (c1 Az n1:Int):Prop:=t=t1/\st=st1/\e=e1/\d=d1/\k=k1/\on=on1/\w=w1/\x=x1/\c=c1/\la=Az/\n=n1
instance (t st:Int) (e:Bool) (d:ByteArray) (k on w:Int) (x:Bool) (c la n t1 st1:Int) (e1:Bool) (d1:ByteArray) (k1 on1 w1:Int) (x1:Bool) (c1 Az n1:Int):Decidable (GY t st e d k on w x c la n t1 st1 e1 d1 k1 on1 w1 x1 c1 Az n1):=by unfold GY;infer_instance
def EM:List (Nat×Nat):= [(0,0),(1,1),(2,1),(3,1),(4,0),(5,0),(6,0),(7,0),(8,0),(9,0),(10,1),(11,0),(12,0)]
theorem IL {t st:Int} {e:Bool} {d:ByteArray} {k on w:Int} {x:Bool} {c la n:Int} {pa:Option Addr} {pn pc:Nat} {t1 st1:Int} {e1:Bool} {d1:ByteArray} {k1 on1 w1:Int} {x1:Bool} {c1 Az n1:Int} {Mp:Option Addr} {pn1 pc1:Nat} {ps ps1:List Pr} (hv:dW C pa tX ps) (hw:dW C Mp tX ps1) (hn:ps.length=pn) (hn':ps1.length=pn1) (hn2:pn<1000000000000000)
  (hK:K (.bool (decide (GY t st e d k on w x c la n t1 st1 e1 d1 k1 on1 w1 x1 c1 Az n1) && ON ps ps1)) C):CT 229 #[.agg #[I6 t,I6 st,.bool e,.string d,I6 k,I6 on,I6 w,.bool x,I6 c,I6 la,I6 n,.slice pa pn pc],.agg #[I6 t1,I6 st1,.bool e1,.string d1,I6 k1,I6 on1,I6 w1,.bool x1,I6 c1,I6 Az,I6 n1,.slice Mp pn1 pc1]] C K:=by
 refine aH Tryz.func229 ?_
 repeat' (first|refine v44 ?_|refine dw EM ?_|refine w5 ?_ ?_|((refine bh fun h=>?_) <;> try exact w6 h)|(refine aE fun hA=>?_;subst hA)|intro _|(show aA _ 333 _ _ _;refine CA (h:=Aeq ?_))|(show aA _ 334 _ _ _;refine CA (h:=Ace (xs:=ps) (ys:=ps1) (by exact lL) (by exact lL) hn hn' hn2 ?_)))
 ·rename_i h
  have hd:decide (GY t st e d k on w x c la n t1 st1 e1 d1 k1 on1 w1 x1 c1 Az n1)=true:=decide_eq_true (by obtain⟨a1,a2,a3,a4,a5,⟨a6,a7,a8⟩,a9,a10,a11⟩:=h;exact⟨a1,a2,a3,Um.1 a4,a5,a6,a7,a8,a9,a10,a11⟩)
  rw[hd,Bool.true_and] at hK
  (refine aC ?_;exact aB (hK))
 ·rename_i h
  have hd:decide (GY t st e d k on w x c la n t1 st1 e1 d1 k1 on1 w1 x1 c1 Az n1)=false:=decide_eq_false (by
   rintro⟨a1,a2,a3,a4,a5,a6,a7,a8,a9,a10,a11⟩
   rw[<- Um] at a4
   rcases h with h|h|h|h|h|(h|h|h)|h|h|h <;> exact h (by assumption))
  rw[hd,Bool.false_and] at hK
  (refine aC ?_;exact aB (hK))
def zH (t st:Int):Bool:=G5 st && ((decide (st=0) && (decide (5<=t) && decide (t<=10))) || (decide (0<st) && (decide (t<=4) || decide (10<=t))))
def wM (t st:Int) (e:Bool) (d:ByteArray) (k on w:Int) (x:Bool) (c la n:Int) (ps:List Pr):Bool:=decide (0<=t) && decide (t<=11) && zH t st && (decide (GY t st e d k on w x c la n t st (oE t e) (oD t d) (oK t k) (oO t on) (oO t w) (oX t x) (oC t c) (oL t la) (oN t n)) && ON ps (oPs t ps)) && zB t d k on w c la n ps
def On (t st:Int) (e:Bool) (d:ByteArray) (k on w:Int) (x:Bool) (c la n:Int) (ps:List Pr):Int:=if wM t st e d k on w x c la n ps=true then 0 else 2
theorem wA {k:Int} (h0:0<=k) (h1:k<=11) (hK:K (.tuple #[.bool (decide (5<=k) && decide (k<=10)),.bool (decide (k<=4) || decide (10<=k)),I6 0]) R):CT 227 #[I6 k] R K:=by
 obtain⟨e1,e2,e3,e4,e5⟩:=GA k h0 h1
 refine Rt ?_
 rw[e1,e2,e4];exact hK
theorem Ql {k:Int} (h0:k<0\/11<k) (hK:K (.tuple #[.bool false,.bool false,I6 3]) R):CT 227 #[I6 k] R K:=by
 have e1:oA k=(false,false,0,0):=by unfold oA;rw[if_pos (by omega)]
 have e2:E4 k=3:=by unfold E4;rw[if_pos (by omega)]
 refine Rt ?_
 rw[e1,e2];exact hK
theorem Ub {pa:Option Addr} {ps:List Pr} {t:Int} (hv:dW C pa tX ps):dW C (oPa t pa) tX (oPs t ps):=by
 unfold oPa oPs
 split
 ·exact hv
 ·exact eM
theorem Agc {ps:List Pr} {t:Int} {pn:Nat} (hn:ps.length=pn):(oPs t ps).length=oPn t pn:=by
 unfold oPn oPs
 split
 ·exact hn
 ·rfl
def hM:List (Nat×Nat):= [(0,0),(1,0),(2,0),(3,0),(4,0),(5,0),(6,0),(8,0),(9,1),(7,1),(10,1),(11,0),(12,0),(13,0),(14,0),(15,1),(16,0),(17,0)]
theorem Cp {t st:Int} {e:Bool} {d:ByteArray} {k on w:Int} {x:Bool} {c la n:Int} {pa:Option Addr} {pn pc:Nat} {ps:List Pr} (hv:dW C pa tX ps) (hn:ps.length=pn) (hn2:pn<1000000000000000) (hK:K (I6 (On t st e d k on w x c la n ps)) C):CT 137 #[.agg #[I6 t,I6 st,.bool e,.string d,I6 k,I6 on,I6 w,.bool x,I6 c,I6 la,I6 n,.slice pa pn pc]] C K:=by
 by_cases ht:0<=t/\t<=11
 ·obtain⟨h0,h1⟩:=ht
  have d0:decide (0<=t)=true:=decide_eq_true h0
  have d1:decide (t<=11)=true:=decide_eq_true h1
  unfold On wM at hK
  rw[d0,d1,Bool.true_and,Bool.true_and] at hK
  cases hs:zH t st
  ·rw[hs] at hK
   simp only[Bool.false_and,Bool.false_eq_true,if_false] at hK
   cases h3:G5 st
   ·refine aH Tryz.func137 ?_
    repeat' (first|refine B8 ?_|refine dw hM ?_|refine w5 ?_ ?_|((refine bh fun h=>?_) <;> try exact w6 h)|(refine aE fun hA=>?_;subst hA)|intro _|(show aA _ 227 _ _ _;refine CA (h:=wA (by assumption) (by assumption) ?_))|(show aA _ 228 _ _ _;refine CA (h:=oY ?_)))
    all_goals(refine aC ?_;exact aB (hK))
   ·have h4:=(oW st).1 h3
    unfold zH at hs
    rw[h3,Bool.true_and] at hs
    simp only[Bool.and_eq_false_iff,Bool.or_eq_false_iff,decide_eq_false_iff_not] at hs
    refine aH Tryz.func137 ?_
    repeat' (first|refine B8 ?_|refine dw hM ?_|refine w5 ?_ ?_|((refine bh fun h=>?_) <;> try exact w6 h)|(refine aE fun hA=>?_;subst hA)|intro _|(show aA _ 227 _ _ _;refine CA (h:=wA (by assumption) (by assumption) ?_))|(show aA _ 228 _ _ _;refine CA (h:=oY ?_)))
    all_goals(refine aC ?_;exact aB (hK))
  ·rw[hs,Bool.true_and] at hK
   have h3:G5 st=true:=by unfold zH at hs;rw[Bool.and_eq_true] at hs;exact hs.1
   have h4:=(oW st).1 h3
   unfold zH at hs
   rw[h3,Bool.true_and] at hs
   simp only[Bool.and_eq_true,Bool.or_eq_true,decide_eq_true_eq] at hs
   cases hq:(decide (GY t st e d k on w x c la n t st (oE t e) (oD t d) (oK t k) (oO t on) (oO t w) (oX t x) (oC t c) (oL t la) (oN t n)) && ON ps (oPs t ps))
   ·rw[hq] at hK
    simp only[Bool.false_and,Bool.false_eq_true,if_false] at hK
    refine aH Tryz.func137 ?_
    repeat' (first|refine B8 ?_|refine dw hM ?_|refine w5 ?_ ?_|((refine bh fun h=>?_) <;> try exact w6 h)|(refine aE fun hA=>?_;subst hA)|intro _|(show aA _ 227 _ _ _;refine CA (h:=wA (by assumption) (by assumption) ?_))|(show aA _ 228 _ _ _;refine CA (h:=oY ?_))|(show aA _ 230 _ _ _;refine CA (h:=Oe ?_))|(show aA _ 229 _ _ _;refine CA (h:=IL (ps:=ps) (ps1:=oPs t ps) (bN hv) (Ub (bN hv)) hn (Agc hn) hn2 ?_)))
    all_goals(refine aC ?_;exact aB (hK))
   ·rw[hq,Bool.true_and] at hK
    cases hf:zB t d k on w c la n ps
    ·rw[hf] at hK
     simp only[Bool.false_eq_true,if_false] at hK
     refine aH Tryz.func137 ?_
     repeat' (first|refine B8 ?_|refine dw hM ?_|refine w5 ?_ ?_|((refine bh fun h=>?_) <;> try exact w6 h)|(refine aE fun hA=>?_;subst hA)|intro _|(show aA _ 227 _ _ _;refine CA (h:=wA (by assumption) (by assumption) ?_))|(show aA _ 228 _ _ _;refine CA (h:=oY ?_))|(show aA _ 230 _ _ _;refine CA (h:=Oe ?_))|(show aA _ 229 _ _ _;refine CA (h:=IL (ps:=ps) (ps1:=oPs t ps) (bN hv) (Ub (bN hv)) hn (Agc hn) hn2 ?_))|(show aA _ 231 _ _ _;refine CA (h:=LJ (ps:=ps) (bN hv) hn hn2 ?_)))
     all_goals(refine aC ?_;exact aB (hK))
    ·rw[hf] at hK
     simp only[if_true] at hK
     refine aH Tryz.func137 ?_
     repeat' (first|refine B8 ?_|refine dw hM ?_|refine w5 ?_ ?_|((refine bh fun h=>?_) <;> try exact w6 h)|(refine aE fun hA=>?_;subst hA)|intro _|(show aA _ 227 _ _ _;refine CA (h:=wA (by assumption) (by assumption) ?_))|(show aA _ 228 _ _ _;refine CA (h:=oY ?_))|(show aA _ 230 _ _ _;refine CA (h:=Oe ?_))|(show aA _ 229 _ _ _;refine CA (h:=IL (ps:=ps) (ps1:=oPs t ps) (bN hv) (Ub (bN hv)) hn (Agc hn) hn2 ?_))|(show aA _ 231 _ _ _;refine CA (h:=LJ (ps:=ps) (bN hv) hn hn2 ?_)))
     all_goals(refine aC ?_;exact aB (hK))
 ·have d0:(decide (0<=t) && decide (t<=11))=false:=by rw[Bool.and_eq_false_iff];simp;omega
  unfold On wM at hK
  rw[d0] at hK
  simp only[Bool.false_and,Bool.false_eq_true,if_false] at hK
  refine aH Tryz.func137 ?_
  repeat' (first|refine B8 ?_|refine dw hM ?_|refine w5 ?_ ?_|((refine bh fun h=>?_) <;> try exact w6 h)|(refine aE fun hA=>?_;subst hA)|intro _|(show aA _ 227 _ _ _;refine CA (h:=Ql (by omega) ?_))|(show aA _ 228 _ _ _;refine CA (h:=oY ?_)))
  all_goals(refine aC ?_;exact aB (hK))
end Go.Proofs.YtepnmcipkangkaaGreat
namespace Go.Proofs.YtepnmcipkangkaaGreat
open Go Go.Proofs Go.Sl
def tL (e:Bool):Int:=match e with
 |true=>1
 |false=>0
theorem EE (e:Bool):0<=tL e/\tL e<=1:=by cases e <;> decide
theorem Abo:(256:Int) ^ (2:Nat)=65536:=by decide
end Go.Proofs.YtepnmcipkangkaaGreat
namespace Go.Proofs.YtepnmcipkangkaaGreat
open Go Go.Proofs Go.Sl
attribute [local irreducible] aN fL cL bM aL aR aA dJ dK aU dI pt ro fC star sep bF
variable {R C:List HP} {K:KP}
theorem yO (s:ByteArray) (i j:Nat):rP s i j=qB ((s.data.toList.drop i).take (j - i)):=by
 unfold rP;simp[List.extract]
theorem zY {n w:Int} (hw:0<=w) (h0:0<=n) (h1:n<256 ^ w.toNat):qB (wB n w)=n:=by
 obtain⟨k,rfl⟩:∃k:Nat,w=k:=⟨w.toNat,by omega⟩
 rw[ZU,Int.emod_eq_of_lt h0 (by rwa[Int.toNat_natCast] at h1)]
theorem Ap8 {l t f s:Int} {b:ByteArray} (h:WY l t f s=true):J9 (jS l t f s++b)=0/\Ho (jS l t f s++b) 0 3=l/\Ho (jS l t f s++b) 3 4=t/\Ho (jS l t f s++b) 4 5=f/\Ho (jS l t f s++b) 5 9=s:=by
 obtain⟨p1,p3,p4⟩:=Nu
 have hl:(jS l t f s++b).data.toList=wB l 3++(wB t 1++(wB f 1++(wB s 4++b.data.toList))):=by
  rw[ByteArray.data_append,Array.toList_append,Gh h];simp
 have l1:=lG l 3
 have l2:=lG t 1
 have l3:=lG f 1
 have l4:=lG s 4
 rw[show(3:Int).toNat=3 from rfl] at l1
 rw[show(1:Int).toNat=1 from rfl] at l2 l3
 rw[show(4:Int).toNat=4 from rfl] at l4
 unfold WY at h
 simp only[Bool.and_eq_true,decide_eq_true_eq] at h
 have n1:=zY (n:=l) (w:=3) (by decide) (by omega) (by rw[show(3:Int).toNat=3 from rfl,p3];omega)
 have n2:=zY (n:=t) (w:=1) (by decide) (by omega) (by rw[show(1:Int).toNat=1 from rfl,p1];omega)
 have n3:=zY (n:=f) (w:=1) (by decide) (by omega) (by rw[show(1:Int).toNat=1 from rfl,p1];omega)
 have n4:=zY (n:=s) (w:=4) (by decide) (by omega) (by rw[show(4:Int).toNat=4 from rfl,p4];omega)
 have a1:rP (jS l t f s++b) 0 3=l:=by
  rw[yO,hl,List.drop_zero,List.take_left' (by omega),n1]
 have a2:rP (jS l t f s++b) 3 4=t:=by
  rw[yO,hl,List.drop_left' (by omega),List.take_left' (by omega),n2]
 have a3:rP (jS l t f s++b) 4 5=f:=by
  rw[yO,hl,<- List.append_assoc,List.drop_left' (by rw[List.length_append];omega),List.take_left' (by omega),n3]
 have a4:rP (jS l t f s++b) 5 9=s:=by
  rw[yO,hl,<- List.append_assoc,<- List.append_assoc,List.drop_left' (by rw[List.length_append,List.length_append];omega),List.take_left' (by omega),n4]
 have hsz:(jS l t f s++b).size=9+b.size:=by
  have:(jS l t f s++b).data.toList.length=(jS l t f s++b).size:=by simp
  rw[<- this,hl]
  simp only[List.length_append,l1,l2,l3,l4]
  have:b.data.toList.length=b.size:=by simp
  omega
 have he:J9 (jS l t f s++b)=0:=by
  unfold J9
  rw[if_neg (by omega),if_neg (by rw[a4];omega)]
 unfold Ho
 rw[he,if_pos rfl,if_pos rfl,if_pos rfl,if_pos rfl]
 exact⟨rfl,a1,a2,a3,a4⟩
theorem ER (s:ByteArray) (i j:Nat):0<=rP s i j/\rP s i j<256 ^ (j - i):=by
 rw[yO]
 refine⟨U3 _,Int.lt_of_lt_of_le (U7 _) ?_⟩
 exact_mod_cast Nat.pow_le_pow_right (by decide) (by rw[List.length_take];omega)
end Go.Proofs.YtepnmcipkangkaaGreat
namespace Go.Proofs.YtepnmcipkangkaaGreat
open Go Go.Proofs Go.Sl
def bq (l:List UInt8):ByteArray:=⟨l.toArray⟩
structure AC where
 kd:Int
 sd:Int
 id:Int
 n:Int
 cd:Int
 s:ByteArray
 on:Int
 ww:Int
 xx:Bool
 xw:Int
 xs:Int
 xi:Int
def isL (c:UInt8):Prop:=c=115\/c=105\/c=110\/c=99\/c=116\/c=111\/c=119\/c=120\/c=112\/c=113\/c=114
instance (c:UInt8):Decidable (isL c):=by unfold isL;infer_instance
end Go.Proofs.YtepnmcipkangkaaGreat
