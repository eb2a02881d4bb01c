/- A part of the proof: lemmas; each with the conditions that it states. -/
import Derived.Test.YtffnpejdkkohcaaGreatBah
import Derived.Test.YtffnpejdkkohcaaGreatBav
import Derived.Test.YtffnpejdkkohcaaGreatBau
set_option linter.unusedVariables false
set_option linter.unusedSimpArgs false
set_option maxRecDepth 100000
set_option maxHeartbeats 40000000
namespace Go.Proofs.YtffnpejdkkohcaaGreat
open Go Go.Proofs Go.Sl
attribute [local irreducible] aM eY cU bQ aL aW aA dS dT aZ dR pt ro fN star sep bH
variable {R C:List HP} {K:KP} {n ev wa no he nn now m:Int} {p r q:Nat} {ou lo b:Bool}
def mH (p:Nat) (ev wa no he:Int) (ou lo:Bool) (si nn:Int):HP:=pt p [I6 ev,I6 wa,I6 no,I6 he,.bool ou,.bool lo,I6 si,I6 nn] 167
def vV (n:Int):ByteArray:=uV [⟨0,4,⟨#[]⟩⟩,⟨n % 2147483648,4,⟨#[]⟩⟩]
theorem Adc (hK:K (.bool (decide (0<=n) && decide (n<=1048576))) R):CT 91 #[I6 n] R K:=by
 refine aJ Tryz.func91 ?_
 repeat' (first|refine v1 ?_|refine w5 ?_ ?_|((refine bh fun h=>?_) <;> try exact w6 h)|(refine aF fun hA=>?_;subst hA)|intro _)
 all_goals(refine aC ?_;exact aB (kb hK (by simp <;> omega)))
theorem Se {e w:Int} (he:0<=e/\e<=1048576) (hw:0<=w/\w<=1048576) (hK:∀p,K (.tuple #[PO p,I6 0]) (mH p e w 0 0 false false 0 0::R)):CT 31 #[I6 e,I6 w] R K:=by
 have h1:(decide (0<=e) && decide (e<=1048576))=true:=by simp[he]
 have h2:(decide (0<=w) && decide (w<=1048576))=true:=by simp[hw]
 refine aJ Tryz.func31 ?_
 repeat' (first|refine v53 ?_|refine w5 ?_ ?_|((refine bh fun h=>?_) <;> try exact w6 h)|(refine aF fun hA=>?_;subst hA)|intro _|(show aA _ 91 _ _ _;refine CA (h:=Adc ?_)))
 all_goals first
  |(refine aC ?_;exact aB (hK _))
  |(exfalso;simp_all)
theorem GF {si:Int} (hK:K (I6 (max no now)) (mH p ev wa (max no now) he ou lo si nn::R)):CT 183 #[PO p,I6 now] (mH p ev wa no he ou lo si nn::R) K:=by
 refine aJ Tryz.func183 ?_
 repeat' (first|refine v14 ?_|refine w5 ?_ ?_|((refine bh fun h=>?_) <;> try exact w6 h)|(refine aF fun hA=>?_;subst hA)|intro _)
 (refine aC ?_;exact aB (hK))
def EM:List (Nat×Nat):= [(0,1),(1,1),(2,1),(3,1),(4,1),(5,1),(6,1),(7,1),(8,1),(9,0),(10,0),(11,0),(12,0),(13,0)]
theorem C9 {si:Int} (hn:0<=nn) (hK:K (.string (vV nn)) (mH p ev wa no he ou lo si nn::R)):CT 188 #[PO p] (mH p ev wa no he ou lo si nn::R) K:=by
 refine aJ Tryz.func188 ?_
 repeat' (first|refine v83 ?_|refine dw EM ?_|refine w5 ?_ ?_|((refine bh fun h=>?_) <;> try exact w6 h)|(refine aF fun hA=>?_;subst hA)|intro _|(show aA _ 270 _ _ _;refine CA (h:=Abl ?_))|(show aA _ 269 _ _ _;refine CA (h:=Qx (by exact kU) (by exact rfl) (by decide) ?_)))
 (refine aC ?_;exact aB (hK))
theorem Nq {si:Int} (hK:K (.tuple #[]) (mH p ev wa (max no now) (max no now) ou lo si nn::R)):CT 112 #[PO p,I6 now] (mH p ev wa no he ou lo si nn::R) K:=by
 refine aJ Tryz.func112 ?_
 repeat' (first|refine v48 ?_|refine w5 ?_ ?_|((refine bh fun h=>?_) <;> try exact w6 h)|(refine aF fun hA=>?_;subst hA)|intro _|(show aA _ 183 _ _ _;refine CA (h:=GF ?_)))
 (refine aC ?_;exact aB (hK))
theorem Yd {si:Int} {s:ByteArray} (hb:ou=false) (hK:K (.bool false) (mH p ev wa no he ou lo si nn::R)):CT 116 #[PO p,I6 now,.string s] (mH p ev wa no he ou lo si nn::R) K:=by
 refine aJ Tryz.func116 ?_
 repeat' (first|refine LK ?_|refine w5 ?_ ?_|((refine bh fun h=>?_) <;> try exact w6 h)|(refine aF fun hA=>?_;subst hA)|intro _)
 all_goals first
  |(refine aC ?_;exact aB (hK))
  |(exfalso;simp_all)
theorem YJ {si:Int} (hmx:max no now=m) (hn:0<=nn) (hK:K (.bool true) (mH p ev wa m m false lo si nn::R)):CT 116 #[PO p,I6 now,.string (vV nn)] (mH p ev wa no he true lo si nn::R) K:=by
 subst hmx
 refine aJ Tryz.func116 ?_
 repeat' (first|refine LK ?_|refine w5 ?_ ?_|((refine bh fun h=>?_) <;> try exact w6 h)|(refine aF fun hA=>?_;subst hA)|intro _|(show aA _ 188 _ _ _;refine CA (h:=C9 (by assumption) ?_))|(show aA _ 112 _ _ _;refine CA (h:=Nq ?_)))
 all_goals first
  |(refine aC ?_;exact aB (hK))
  |(exfalso;simp_all)
def Ay (ev wa he:Int) (ou lo:Bool) (si m:Int):Int:=if lo=true\/(ou=true/\wa<=m - si) then 2 else if ou=true\/m - he<ev then 0 else 1
def lK:List Nat:= [0,1,3,7,15,31,63,127,255,511,1023,1023,3071,7167,15359,32767,1023,66559,197631,459775,1048575,2097151,4194303,8388607]
def lI:List Nat:= [8388607,4194303,2097151,1048575,459775,197631,66559,1023,32767,15359,7167,3071,1023,1023,511,255,127,63,31,15,7,3,1,0]
def lJ:List (Nat×Nat):= [(0,0),(1,0),(2,0),(3,0),(4,0),(5,0),(6,0),(7,0),(8,0),(9,0),(10,0),(11,0),(12,0),(13,0),(14,0),(15,0),(16,0),(17,0),(18,0),(19,0),(20,0),(21,0),(22,0),(23,0)]
def lG:List (Nat×Nat):= [(0,0),(1,0),(2,0),(3,0),(4,0),(5,0),(6,0),(7,0),(8,0),(9,0),(10,0),(11,0),(12,0),(13,0),(14,0),(15,0),(16,0),(17,0)]
theorem Zq {si:Int} (hk:Ay ev wa he ou lo si m=0) (hmx:max no now=m) (h0:ev≠0) (hm:-1000000000000<=m/\m<=1000000000000) (hs:-1000000000000<=si/\si<=1000000000000) (hh:-1000000000000<=he/\he<=1000000000000) (hn:0<=nn/\nn<=1000000000000)
  (hK:K (.tuple #[I6 0,.string ⟨#[]⟩]) (mH p ev wa m he ou lo si nn::R)):CT 132 #[PO p,I6 now] (mH p ev wa no he ou lo si nn::R) K:=by
 subst hmx
 unfold Ay at hk
 refine aJ Tryz.func132 ?_
 repeat' (first|refine v71 ?_|refine ON lK lI lJ ?_|refine dw lG ?_|refine w5 ?_ ?_|((refine bh fun h=>?_) <;> try exact w6 h)|(refine aF fun hA=>?_;subst hA)|intro _|(show aA _ 183 _ _ _;refine CA (h:=GF ?_))|(show aA _ 188 _ _ _;refine CA (h:=C9 (by omega) ?_)))
 all_goals first
  |(refine aC ?_;exact aB (hK))
  |(exfalso;simp_all;done)
  |(exfalso;simp_all <;> omega)
theorem Zj {si:Int} (hk:Ay ev wa he ou lo si m=1) (hmx:max no now=m) (h0:ev≠0) (hm:-1000000000000<=m/\m<=1000000000000) (hs:-1000000000000<=si/\si<=1000000000000) (hh:-1000000000000<=he/\he<=1000000000000) (hn:0<=nn/\nn<=1000000000000)
  (hK:K (.tuple #[I6 1,.string (vV (nn+1))]) (mH p ev wa m he true lo m (nn+1)::R)):CT 132 #[PO p,I6 now] (mH p ev wa no he ou lo si nn::R) K:=by
 subst hmx
 unfold Ay at hk
 refine aJ Tryz.func132 ?_
 repeat' (first|refine v71 ?_|refine ON lK lI lJ ?_|refine dw lG ?_|refine w5 ?_ ?_|((refine bh fun h=>?_) <;> try exact w6 h)|(refine aF fun hA=>?_;subst hA)|intro _|(show aA _ 183 _ _ _;refine CA (h:=GF ?_))|(show aA _ 188 _ _ _;refine CA (h:=C9 (by omega) ?_)))
 all_goals first
  |(refine aC ?_;exact aB (hK))
  |(exfalso;simp_all;done)
  |(exfalso;simp_all <;> omega)
theorem Abz {si:Int} (hk:Ay ev wa he ou lo si m=2) (hmx:max no now=m) (h0:ev≠0) (hm:-1000000000000<=m/\m<=1000000000000) (hs:-1000000000000<=si/\si<=1000000000000) (hh:-1000000000000<=he/\he<=1000000000000) (hn:0<=nn/\nn<=1000000000000)
  (hK:K (.tuple #[I6 2,.string ⟨#[]⟩]) (mH p ev wa m he ou true si nn::R)):CT 132 #[PO p,I6 now] (mH p ev wa no he ou lo si nn::R) K:=by
 subst hmx
 unfold Ay at hk
 refine aJ Tryz.func132 ?_
 repeat' (first|refine v71 ?_|refine ON lK lI lJ ?_|refine dw lG ?_|refine w5 ?_ ?_|((refine bh fun h=>?_) <;> try exact w6 h)|(refine aF fun hA=>?_;subst hA)|intro _|(show aA _ 183 _ _ _;refine CA (h:=GF ?_))|(show aA _ 188 _ _ _;refine CA (h:=C9 (by omega) ?_)))
 all_goals first
  |(refine aC ?_;exact aB (hK))
  |(exfalso;simp_all;done)
  |(exfalso;simp_all <;> omega)
theorem SB {si:Int} (h0:ev=0) (hK:K (.tuple #[I6 0,.string ⟨#[]⟩]) (mH p ev wa no he ou lo si nn::R)):CT 132 #[PO p,I6 now] (mH p ev wa no he ou lo si nn::R) K:=by
 refine aJ Tryz.func132 ?_
 repeat' (first|refine v71 ?_|refine ON lK lI lJ ?_|refine dw lG ?_|refine w5 ?_ ?_|((refine bh fun h=>?_) <;> try exact w6 h)|(refine aF fun hA=>?_;subst hA)|intro _)
 all_goals first
  |(refine aC ?_;exact aB (hK))
  |(exfalso;omega)
structure PV where
 li:Int
 nw:Int
 si:Int
 st:Bool
 fi:Bool
def slP (p:Nat) (s:PV):HP:=pt p [I6 s.li,I6 s.nw,I6 s.si,.bool s.st,.bool s.fi] 169
def iO (s:PV) (n:Int):PV:=if s.fi=true then s else⟨s.li,max s.nw n,if s.st=true then max s.nw n else s.si,s.st,s.fi⟩
def nS (s:PV) (n:Int) (b:Bool):PV:=if s.li=0 then s else if s.fi=true then⟨s.li,max s.nw n,s.si,s.st,s.fi⟩ else if b=false then⟨s.li,max s.nw n,0,false,s.fi⟩ else if s.st=false then⟨s.li,max s.nw n,max s.nw n,true,decide (s.li<=max s.nw n - max s.nw n)⟩ else⟨s.li,max s.nw n,s.si,s.st,decide (s.li<=max s.nw n - s.si)⟩
def AV (s:PV) (n:Int) (b:Bool):Bool:=if s.li=0 then false else if s.fi=true then true else if b=false then false else(nS s n b).fi
section
variable {s:PV} {li nw si:Int} {st fi:Bool}
theorem JM (hK:K (I6 (max nw n)) (pt p [I6 li,I6 (max nw n),I6 si,.bool st,.bool fi] 169::R)):CT 214 #[PO p,I6 n] (pt p [I6 li,I6 nw,I6 si,.bool st,.bool fi] 169::R) K:=by
 refine aJ Tryz.func214 ?_
 repeat' (first|refine v14 ?_|refine w5 ?_ ?_|((refine bh fun h=>?_) <;> try exact w6 h)|(refine aF fun hA=>?_;subst hA)|intro _)
 all_goals(refine aC ?_;exact aB (hK))
theorem AE (hK:K (.tuple #[]) (slP p (iO s n)::R)):CT 196 #[PO p,I6 n] (slP p s::R) K:=by
 obtain⟨li,nw,si,st,fi⟩:=s
 cases fi <;> cases st <;> simp only[slP,iO,if_true,if_false,Bool.false_eq_true,reduceCtorEq] at hK ⊢
 all_goals
  refine aJ Tryz.func196 ?_
  repeat' (first|refine zB ?_|refine w5 ?_ ?_|((refine bh fun h=>?_) <;> try exact w6 h)|(refine aF fun hA=>?_;subst hA)|intro _|(show aA _ 214 _ _ _;refine CA (h:=JM ?_)))
  all_goals(refine aC ?_;exact aB (hK))
def Cm:List (Nat×Nat):= [(0,0),(1,0),(2,0),(3,0),(4,0),(5,0),(6,0),(7,0),(8,0),(9,0),(10,0),(11,0)]
theorem V8 (hb:-1000000000000000<=si/\si<=1000000000000000) (hn:-1000000000000000<=n/\n<=1000000000000000) (hK:K (.bool (decide (li<=n - si))) (pt q [I6 n] 3::pt r [PO p] 87::pt p [I6 li,I6 nw,I6 si,.bool st,.bool fi] 169::R)):CT 215 #[PO q,PO r] (pt q [I6 n] 3::pt r [PO p] 87::pt p [I6 li,I6 nw,I6 si,.bool st,.bool fi] 169::R) K:=by
 refine aJ Tryz.func215 ?_
 repeat' (first|refine v22 ?_|refine dw Cm ?_|refine w5 ?_ ?_|((refine bh fun h=>?_) <;> try exact w6 h)|(refine aF fun hA=>?_;subst hA)|intro _)
 all_goals(refine aC ?_;exact aB (kb hK (by simp)))
def uS:List (Nat×Nat):= [(0,0),(2,0),(3,0),(4,1),(1,1),(5,0),(6,0),(7,1)]
def s5:List (Nat×Nat):= [(0,0),(3,0),(4,0),(5,1),(1,1),(2,1),(6,0),(7,0),(8,1)]
def sZ:List (Nat×Nat):= [(1,0),(2,1),(0,1),(3,0),(4,0),(5,1)]
theorem E6 (h1:0<=s.nw/\s.nw<=100000000000000) (h2:0<=s.si/\s.si<=100000000000000) (h3:0<=n/\n<=100000000000000) (hK:K (.bool (AV s n b)) (slP p (nS s n b)::R)):CT 136 #[PO p,I6 n,.bool b] (slP p s::R) K:=by
 obtain⟨li,nw,si,st,fi⟩:=s
 simp only at h1 h2
 by_cases hl:li=0
 ·subst hl
  simp only[slP,nS,AV,if_true] at hK ⊢
  refine aJ Tryz.func136 ?_
  repeat' (first|refine Qk ?_|refine dw uS ?_|refine dw s5 ?_|refine dw sZ ?_|refine w5 ?_ ?_|((refine bh fun h=>?_) <;> try exact w6 h)|(refine aF fun hA=>?_;subst hA)|intro _)
  all_goals(refine aC ?_;exact aB (hK))
 ·cases fi <;> cases b <;> cases st <;> simp only[slP,nS,AV,hl,if_true,if_false,Bool.false_eq_true,reduceCtorEq] at hK ⊢
  all_goals
   refine aJ Tryz.func136 ?_
   repeat' (first|refine Qk ?_|refine dw uS ?_|refine dw s5 ?_|refine dw sZ ?_|refine w5 ?_ ?_|((refine bh fun h=>?_) <;> try exact w6 h)|(refine aF fun hA=>?_;subst hA)|intro _|(show aA _ 214 _ _ _;refine CA (h:=JM ?_))|(show aA _ 215 _ _ _;refine CA (h:=V8 (by omega) (by omega) ?_)))
   all_goals(refine aC ?_;exact aB (hK))
end
end Go.Proofs.YtffnpejdkkohcaaGreat
namespace Go.Proofs.YtffnpejdkkohcaaGreat
open Go Go.Proofs Go.Sl
attribute [local irreducible] aM eY cU bQ aL aW aA dS dT aZ dR pt ro fN star sep bH
attribute [local irreducible] mp FV
variable {R C:List HP} {K:KP} {p q ck c j:Nat} {k m:Int} {A:Option Addr} {pk:List (KE Int)}
def KF:Int->Value:=fun n=>I6 n
def qY (id:Int) (l:List (KE Int)):Int:=(gM id l).getD 0
def MN (n:Int):Int:=max (min n 1024) (-1024)
def G7 (id n:Int) (ck:Nat) (l:List (KE Int)):List (KE Int):=if n=0 then mO id l else s9 id (MN n) ck l
def VX (id n:Int) (ck:Nat) (l:List (KE Int)):Nat:=if n=0 then ck else kCk id ck l
def fV (n:Int):Int:=if n<=16 then 1 else(n - 1) / 16+1
theorem Agl {id:Int} {l:List (KE Int)}:Iz false (I6 0) (jA id (kM KF l) 0)=I6 (qY id l):=by
 rw[Ts]
 unfold qY
 cases gM id l <;> rfl
section
variable {id n:Int} {l:List (KE Int)}
theorem Aaj (hK:∀p q,K (PO p) (pt p [.map (some q)] 155::mp q (kM KF []) 0::R)):CT 23 #[] R K:=by
 refine aJ Tryz.func23 ?_
 repeat' (first|refine v6 ?_|refine w5 ?_ ?_|((refine bh fun h=>?_) <;> try exact w6 h)|(refine aF fun hA=>?_;subst hA)|intro _|(show aM _ _ _ _ _ _ _;refine EH ?_;intro _))
 all_goals(refine aC ?_;exact aB (hK _ _))
theorem Bo (h:0<=n/\n<=100000000) (hK:K (I6 (fV n)) R):CT 148 #[I6 n] R K:=by
 by_cases h1:n<=16
 ·simp only[fV,if_pos h1] at hK
  refine aJ Tryz.func148 ?_
  repeat' (first|refine v24 ?_|refine w5 ?_ ?_|((refine bh fun h=>?_) <;> try exact w6 h)|(refine aF fun hA=>?_;subst hA)|intro _)
  all_goals(refine aC ?_;exact aB (hK))
 ·simp only[fV,if_neg h1] at hK
  refine aJ Tryz.func148 ?_
  repeat' (first|refine v24 ?_|refine w5 ?_ ?_|((refine bh fun h=>?_) <;> try exact w6 h)|(refine aF fun hA=>?_;subst hA)|intro _)
  all_goals(refine aC ?_;exact aB (hK))
theorem rH (hK:K (I6 (qY id l)) (pt p [.map (some q)] 155::mp q (kM KF l) ck::R)):CT 224 #[PO p,I6 id] (pt p [.map (some q)] 155::mp q (kM KF l) ck::R) K:=by
 refine aJ Tryz.func224 ?_
 repeat' (first|refine v4 ?_|refine w5 ?_ ?_|((refine bh fun h=>?_) <;> try exact w6 h)|(refine aF fun hA=>?_;subst hA)|intro _|(show aM _ _ _ _ _ _ _;refine jO ?_ (hv:=Agl)))
 all_goals(refine aC ?_;exact aB (hK))
theorem Hb (hK:K (.tuple #[]) (pt p [.map (some q)] 155::mp q (kM KF (G7 id n ck l)) (VX id n ck l)::R)):CT 225 #[PO p,I6 id,I6 n] (pt p [.map (some q)] 155::mp q (kM KF l) ck::R) K:=by
 by_cases h:n=0
 ·subst h
  simp only[G7,VX,if_true] at hK
  refine aJ Tryz.func225 ?_
  repeat' (first|refine v39 ?_|refine w5 ?_ ?_|((refine bh fun h=>?_) <;> try exact w6 h)|(refine aF fun hA=>?_;subst hA)|intro _|(show aM _ _ _ _ _ _ _;first|refine G_delete ?_ (hv:=XK)|refine J5 ?_ (hv:=XK)))
  all_goals(refine aC ?_;exact aB (hK))
 ·simp only[G7,VX,if_neg h] at hK
  refine aJ Tryz.func225 ?_
  repeat' (first|refine v39 ?_|refine w5 ?_ ?_|((refine bh fun h=>?_) <;> try exact w6 h)|(refine aF fun hA=>?_;subst hA)|intro _|(show aM _ _ _ _ _ _ _;refine kQ ?_ (hv:=OD (v:=MN n)) (hu:=by exact rfl)))
  all_goals(refine aC ?_;exact aB (hK))
theorem vH (hk:1<=k/\k<=1024) (hb:-10000<=qY id l/\qY id l<=10000) (hK:K (I6 0) (pt p [.map (some q)] 155::mp q (kM KF (G7 id (qY id l - k) ck l)) (VX id (qY id l - k) ck l)::R)):CT 147 #[PO p,I6 id,I6 k] (pt p [.map (some q)] 155::mp q (kM KF l) ck::R) K:=by
 refine aJ Tryz.func147 ?_
 repeat' (first|refine v15 ?_|refine w5 ?_ ?_|((refine bh fun h=>?_) <;> try exact w6 h)|(refine aF fun hA=>?_;subst hA)|intro _|(show aA _ 224 _ _ _;refine CA (h:=rH ?_))|(show aA _ 225 _ _ _;refine CA (h:=Hb ?_)))
 all_goals(refine aC ?_;exact aB (hK))
theorem OX (hK:K (.bool (qY id l != 0)) (pt p [.map (some q)] 155::mp q (kM KF (if qY id l=0 then l else mO id l)) ck::R)):CT 254 #[PO p,I6 id] (pt p [.map (some q)] 155::mp q (kM KF l) ck::R) K:=by
 by_cases h:qY id l=0
 ·simp only[h,if_true] at hK
  refine aJ Tryz.func254 ?_
  repeat' (first|refine v2 ?_|refine w5 ?_ ?_|((refine bh fun h=>?_) <;> try exact w6 h)|(refine aF fun hA=>?_;subst hA)|intro _|(show aA _ 224 _ _ _;refine CA (h:=rH ?_);rw[h]))
  all_goals(refine aC ?_;exact aB (hK))
 ·simp only[if_neg h] at hK
  have hb:(qY id l != 0)=true:=by simpa using h
  refine aJ Tryz.func254 ?_
  repeat' (first|(show Br _ _ _;refine Br.t hb ?_)|refine v2 ?_|refine w5 ?_ ?_|((refine bh fun h=>?_) <;> try exact w6 h)|(refine aF fun hA=>?_;subst hA)|intro _|(show aA _ 224 _ _ _;refine CA (h:=rH ?_))|(show aA _ 225 _ _ _;refine CA (h:=Hb ?_);simp only[G7,VX,if_true]))
  all_goals(refine aC ?_;exact aB (hK))
end
structure Tu where
 id:Int
 w:Int
 rd:Bool
def tuD:List Value->Option Tu
 | [.int .i64 a,.int .i64 b,.bool c]=>some ⟨a,b,c⟩
 |_=>none
theorem Aka (cs:List Value) (y:Tu) (h:tuD cs=some y): [I6 y.id,I6 y.w,.bool y.rd]=cs:=by
 unfold tuD at h
 split at h
 ·cases h;rfl
 ·cases h
def LQ:tP Tu:= { enc:=fun y=> [I6 y.id,I6 y.w,.bool y.rd],sz:=3,dec:=tuD,len:=fun _=>rfl,one:=fun _=>rfl,ok:=Aka }
def blE:Bool->Value:=fun b=>.bool b
def qH:List (KE Bool)->Nat->List Tu->List Tu
 |_,_,[]=> []
 |seen,ck,x::r=>if(gM x.id seen).getD false=false/\x.rd=true then x::qH (s9 x.id true ck seen) (kCk x.id ck seen) r else qH (s9 x.id true ck seen) (kCk x.id ck seen) r
def Cb (x:Tu):Int:=max (min x.w 256) 1
def sG (pk:List (KE Int)):List Tu->Option Int
 | []=>none
 |x::r=>if 1<=qY x.id pk then some x.id else sG pk r
def vO (pk:List (KE Int)) (x:Tu):Int:=(Cb x - qY x.id pk) / Cb x
def FQ (pk:List (KE Int)):List Tu->Int->Int
 | [],n=>n
 |x::r,n=>FQ pk r (min n (vO pk x))
abbrev wX:=List (KE Int)×Nat
def jW (id n:Int) (s:wX):wX:=(G7 id n s.2 s.1,VX id n s.2 s.1)
def xC (n:Int):List Tu->wX->wX
 | [],s=>s
 |x::r,s=>xC n r (jW x.id (qY x.id s.1+n * Cb x) s)
def AO (s:wX) (l:List Tu):Option Int×wX:=match qH [] 0 l with
 | []=>(none,s)
 |x::r=>match sG s.1 (x::r) with
  |some id=>(some id,s)
  |none=>(sG (xC (FQ s.1 (x::r) (vO s.1 x)) (x::r) s).1 (x::r),xC (FQ s.1 (x::r) (vO s.1 x)) (x::r) s)
def KN (s:wX):Prop:=∀e∈s.1,-1024<=e.v/\e.v<=1024
theorem Uy {id v:Int}:∀ {l:List (KE Int)},gM id l=some v->∃e∈l,e.v=v
 | [],h=>by cases h
 |e::r,h=>by
  unfold gM at h
  split at h
  ·cases h;exact⟨e,List.mem_cons_self ..,rfl⟩
  ·obtain⟨z,hz,he⟩:=Uy h
   exact⟨z,List.mem_cons_of_mem _ hz,he⟩
theorem EL {s:wX} (h:KN s) (id:Int):-1024<=qY id s.1/\qY id s.1<=1024:=by
 unfold qY
 cases hg:gM id s.1 with
 |none=>simp
 |some v=>
  obtain⟨e,he,rfl⟩:=Uy hg
  exact h e he
theorem IT {α:Type} {id:Int} {e:KE α}:∀ {l:List (KE α)},e∈mO id l->e∈l
 | [],h=>h
 |z::r,h=>by
  unfold mO at h
  split at h
  ·exact List.mem_cons_of_mem _ h
  ·rcases List.mem_cons.1 h with rfl|h
   ·exact List.mem_cons_self ..
   ·exact List.mem_cons_of_mem _ (IT h)
theorem Qa {α:Type} {id:Int} {v:α} {ck:Nat} {e:KE α}:∀ {l:List (KE α)},e∈s9 id v ck l->e.v=v\/e∈l
 | [],h=>.inl (by rw[List.mem_singleton.1 h])
 |z::r,h=>by
  unfold s9 at h
  split at h
  ·rcases List.mem_cons.1 h with rfl|h
   ·exact .inl rfl
   ·exact .inr (List.mem_cons_of_mem _ h)
  ·rcases List.mem_cons.1 h with rfl|h
   ·exact .inr (List.mem_cons_self ..)
   ·rcases Qa h with h|h
    ·exact .inl h
    ·exact .inr (List.mem_cons_of_mem _ h)
theorem Acu {seen:List (KE Bool)} {x:Tu} {r:List Tu}:qH seen ck (x::r)=(if(gM x.id seen).getD false=false/\x.rd=true then [x] else [])++qH (s9 x.id true ck seen) (kCk x.id ck seen) r:=by
 conv=>lhs;unfold qH
 split <;> simp
theorem G0 {id:Int} {l:List (KE Bool)}:Iz false (.bool false) (jA id (kM blE l) 0)=.bool ((gM id l).getD false):=by
 rw[Ts]
 cases gM id l <;> rfl
section
variable {n:Nat} {l:List Tu} {x:Tu} {s:wX}
theorem Uo (hK:K (I6 (Cb x)) R):CT 223 #[.agg #[I6 x.id,I6 x.w,.bool x.rd]] R K:=by
 refine aJ Tryz.func223 ?_
 repeat' (first|refine v39 ?_|refine w5 ?_ ?_|((refine bh fun h=>?_) <;> try exact w6 h)|(refine aF fun hA=>?_;subst hA)|intro _)
 all_goals(refine aC ?_;exact aB (hK))
theorem CS (hv:dE C A LQ l) (hn:l.length=n) (hs:n<=100000) (hK:∀B d,K (.slice B (qH [] 0 l).length d) (bU B d 274 LQ (qH [] 0 l)::C)):CT 220 #[.slice A n c] C K:=by
 subst hn
 refine aJ Tryz.func220 ?_
 repeat' (first|(show aM _ _ _ _ _ _ _;refine EH ?_;intro _)|refine Uk ?_|refine w5 ?_ ?_|((refine bh fun h=>?_) <;> try exact w6 h)|(refine aF fun hA=>?_;subst hA)|intro _)
 rename_i m
 refine nN (aG.nilrow 274 LQ _) ?_
 refine iH (fun kk a C'=>∃(j ck:Nat) (seen:List (KE Bool)) (os:List Tu) (B:Option Addr) (d:Nat),j+kk=l.length/\os.length<=j/\os++qH seen ck (l.drop j)=qH [] 0 l/\cW a [(0,.slice A l.length c),(3,.map (some m)),(4,.slice B os.length d),(8,.slice A l.length c),(9,I6 l.length),(10,I6 j)]/\C'=bU B d 274 LQ os::mp m (kM blE seen) ck::C) l.length (cG l.length ⟨0,0,[],[],none,0,by omega,by simp,rfl,⟨rfl,rfl,rfl,rfl,rfl,rfl,trivial⟩,rfl⟩ (by omega)) ?_
 rintro kk a C' ⟨j,ck,seen,os,B,d,hj,hol,hos,ha,rfl⟩
 have hv':dE (bU B d 274 LQ os::mp m (kM blE seen) ck::C) A LQ l:=bF (bF hv)
 refine gJ _ ha ?_
 simp only[fF]
 by_cases hlt:j<l.length
 ·obtain⟨x,hx⟩:∃x,l[j]?=some x:=⟨_,List.getElem?_eq_getElem hlt⟩
  have hx':l[((j:Nat):Int).toNat]?=some x:=by rw[Int.toNat_natCast];exact hx
  have hd:l.drop j=x::l.drop (j+1):=by rw[List.drop_eq_getElem_cons hlt,(List.getElem?_eq_some_iff.1 hx).2]
  rw[hd,Acu] at hos
  by_cases hc:(gM x.id seen).getD false=false/\x.rd=true
  ·rw[if_pos hc,<- List.append_assoc] at hos
   obtain⟨hc1,hc2⟩:=hc
   repeat' (first|(show aM _ _ _ _ _ _ _;first|(refine jO ?_ (hv:=G0);rw[hc1])|refine kQ ?_ (hv:=OD (enc:=blE) (v:=true)) (hu:=by exact rfl)|(refine cN (E:=LQ) (xs:=os) (ys:= [x]) ?_;intro B2 d2))|refine Uk ?_|refine w5 ?_ ?_|((refine bh fun h=>?_) <;> try exact w6 h)|(refine aF fun hA=>?_;subst hA)|intro _)
   all_goals(show aZ _ _ _ _;exact cG (kk - 1) ⟨j+1,_,_,os++ [x],B2,d2,by omega,by rw[List.length_append];exact Nat.succ_le_succ hol,hos,⟨rfl,rfl,rfl,rfl,rfl,rfl,trivial⟩,rfl⟩)
  ·rw[if_neg hc,List.nil_append] at hos
   cases hc1:(gM x.id seen).getD false
   ·have hc2:x.rd=false:=by
     cases hx2:x.rd
     ·rfl
     ·exact absurd ⟨hc1,hx2⟩ hc
    repeat' (first|(show aM _ _ _ _ _ _ _;first|(refine jO ?_ (hv:=G0);rw[hc1])|refine kQ ?_ (hv:=OD (enc:=blE) (v:=true)) (hu:=by exact rfl))|refine Uk ?_|refine w5 ?_ ?_|((refine bh fun h=>?_) <;> try exact w6 h)|(refine aF fun hA=>?_;subst hA)|intro _)
    all_goals(show aZ _ _ _ _;exact cG (kk - 1) ⟨j+1,_,_,os,B,d,by omega,by omega,hos,⟨rfl,rfl,rfl,rfl,rfl,rfl,trivial⟩,rfl⟩)
   ·repeat' (first|(show aM _ _ _ _ _ _ _;first|(refine jO ?_ (hv:=G0);rw[hc1])|refine kQ ?_ (hv:=OD (enc:=blE) (v:=true)) (hu:=by exact rfl))|refine Uk ?_|refine w5 ?_ ?_|((refine bh fun h=>?_) <;> try exact w6 h)|(refine aF fun hA=>?_;subst hA)|intro _)
    all_goals(show aZ _ _ _ _;exact cG (kk - 1) ⟨j+1,_,_,os,B,d,by omega,by omega,hos,⟨rfl,rfl,rfl,rfl,rfl,rfl,trivial⟩,rfl⟩)
 ·rw[List.drop_eq_nil_of_le (by omega)] at hos
  have hos:os=qH [] 0 l:=by simpa[qH] using hos
  subst hos
  repeat' (first|refine Uk ?_|refine w5 ?_ ?_|((refine bh fun h=>?_) <;> try exact w6 h)|(refine aF fun hA=>?_;subst hA)|intro _)
  all_goals(refine aC ?_;exact aB (hK _ _))
def Ah (pk:List (KE Int)) (l:List Tu):Value:=match sG pk l with
 |some id=>.tuple #[I6 id,.bool true]
 |none=>.tuple #[I6 0,.bool false]
theorem Yk {x:Tu} (h:l[j]?=some x):sG pk (l.drop j)=if 1<=qY x.id pk then some x.id else sG pk (l.drop (j+1)):=by
 have hj:=(List.getElem?_eq_some_iff.1 h).1
 rw[List.drop_eq_getElem_cons hj,(List.getElem?_eq_some_iff.1 h).2]
 rfl
theorem Zr {x:Tu} (h:l[j]?=some x):FQ pk (l.drop j) m=FQ pk (l.drop (j+1)) (min m (vO pk x)):=by
 have hj:=(List.getElem?_eq_some_iff.1 h).1
 rw[List.drop_eq_getElem_cons hj,(List.getElem?_eq_some_iff.1 h).2]
 rfl
theorem XZ {x:Tu} (h:l[j]?=some x):xC m (l.drop j) s=xC m (l.drop (j+1)) (jW x.id (qY x.id s.1+m * Cb x) s):=by
 have hj:=(List.getElem?_eq_some_iff.1 h).1
 rw[List.drop_eq_getElem_cons hj,(List.getElem?_eq_some_iff.1 h).2]
 rfl
theorem Hy {pk:List (KE Int)}:∀ {l:List Tu},sG pk l=none->∀x∈l,qY x.id pk<=0
 | [],_,x,hx=>by cases hx
 |z::r,h,x,hx=>by
  unfold sG at h
  split at h
  ·cases h
  ·rename_i hz
   rcases List.mem_cons.1 hx with rfl|hx
   ·omega
   ·exact Hy h x hx
theorem xU (hs:l.length<=100000) (hK:K (Ah pk l) (bU A c 274 LQ l::pt p [.map (some q)] 155::mp q (kM KF pk) ck::R)):CT 221 #[PO p,.slice A l.length c] (bU A c 274 LQ l::pt p [.map (some q)] 155::mp q (kM KF pk) ck::R) K:=by
 refine aJ Tryz.func221 ?_
 repeat' (first|refine Qo ?_|refine w5 ?_ ?_|((refine bh fun h=>?_) <;> try exact w6 h)|(refine aF fun hA=>?_;subst hA)|intro _)
 refine iH (fun kk a C'=>∃j:Nat,j+kk=l.length/\sG pk (l.drop j)=sG pk l/\cW a [(0,PO p),(6,I6 0),(7,.bool false),(10,.slice A l.length c),(11,I6 l.length),(12,I6 j)]/\C'=bU A c 274 LQ l::pt p [.map (some q)] 155::mp q (kM KF pk) ck::R) l.length (cG l.length ⟨0,by omega,rfl,⟨rfl,rfl,rfl,rfl,rfl,rfl,trivial⟩,rfl⟩ (by omega)) ?_
 rintro kk a C' ⟨j,hj,hf,ha,rfl⟩
 refine gJ _ ha ?_
 simp only[fF]
 by_cases hlt:j<l.length
 ·obtain⟨x,hx⟩:∃x,l[j]?=some x:=⟨_,List.getElem?_eq_getElem hlt⟩
  have hx':l[((j:Nat):Int).toNat]?=some x:=by rw[Int.toNat_natCast];exact hx
  rw[Yk hx] at hf
  by_cases h1:1<=qY x.id pk
  ·rw[if_pos h1] at hf
   unfold Ah at hK
   rw[<- hf] at hK
   repeat' (first|refine Qo ?_|refine w5 ?_ ?_|((refine bh fun h=>?_) <;> try exact w6 h)|(refine aF fun hA=>?_;subst hA)|intro _|(show aA _ 224 _ _ _;refine CA (h:=rH ?_)))
   all_goals(refine aC ?_;exact aB (hK))
  ·rw[if_neg h1] at hf
   repeat' (first|refine Qo ?_|refine w5 ?_ ?_|((refine bh fun h=>?_) <;> try exact w6 h)|(refine aF fun hA=>?_;subst hA)|intro _|(show aA _ 224 _ _ _;refine CA (h:=rH ?_)))
   all_goals(show aZ _ _ _ _;exact cG (kk - 1) ⟨j+1,by omega,hf,⟨rfl,rfl,rfl,rfl,rfl,rfl,trivial⟩,rfl⟩)
 ·rw[List.drop_eq_nil_of_le (by omega)] at hf
  unfold Ah at hK
  rw[<- hf] at hK
  repeat' (first|refine Qo ?_|refine w5 ?_ ?_|((refine bh fun h=>?_) <;> try exact w6 h)|(refine aF fun hA=>?_;subst hA)|intro _)
  all_goals(refine aC ?_;exact aB (hK))
theorem Qr (x:Tu):1<=Cb x/\Cb x<=256:=by unfold Cb;omega
theorem LV {x:Tu} (h0:qY x.id pk<=0) (h1:-1024<=qY x.id pk):0<=vO pk x/\vO pk x<=1280:=by
 have hw:=Qr x
 unfold vO
 have h2:0<=Cb x - qY x.id pk:=by omega
 exact⟨Int.ediv_nonneg h2 (by omega),Int.le_trans (Int.ediv_le_self _ h2) (by omega)⟩
def C5:List (Nat×Nat):= [(0,0),(1,1),(2,1),(3,1),(4,1),(5,1),(7,2),(8,1),(6,1),(9,0),(10,0)]
theorem PX {r2:Nat} (h0:qY x.id pk<=0) (h1:-1024<=qY x.id pk) (hK:K (I6 (vO pk x)) (pt r2 [PO p] 72::pt p [.map (some q)] 155::mp q (kM KF pk) ck::R)):CT 222 #[.agg #[I6 x.id,I6 x.w,.bool x.rd],PO r2] (pt r2 [PO p] 72::pt p [.map (some q)] 155::mp q (kM KF pk) ck::R) K:=by
 have hw:=Qr x
 have hb:=LV h0 h1
 have hm:IntKind.wrap .i64 ((Cb x - qY x.id pk) / Cb x)=(Cb x - qY x.id pk) / Cb x:=uT (by unfold vO at hb;omega) (by unfold vO at hb;omega)
 refine aJ Tryz.func222 ?_
 repeat' (first|refine v84 ?_|refine dw C5 ?_|refine w5 ?_ ?_|((refine bh fun h=>?_) <;> try exact w6 h)|(refine aF fun hA=>?_;subst hA)|intro _|(show aA _ 223 _ _ _;refine CA (h:=Uo ?_))|(show aA _ 224 _ _ _;refine CA (h:=rH ?_)))
 all_goals(refine aC ?_;exact aB (hK))
theorem MH {id n:Int} (h:KN s):KN (jW id n s):=fun e he=>by
 unfold jW G7 at he
 simp only at he
 split at he
 ·exact h e (IT he)
 ·rcases Qa he with hv|he
  ·rw[hv];unfold MN;omega
  ·exact h e he
theorem Af1 {id:Int} (h:KN s):KN (mO id s.1,s.2):=fun e he=>h e (IT he)
theorem TG {m:Int}:∀ {l:List Tu} {s:wX},KN s->KN (xC m l s)
 | [],_,h=>h
 |_::_,_,h=>by unfold xC;exact TG (MH h)
theorem LB {l:List Tu} (h:KN s):KN (AO s l).2:=by
 unfold AO
 split
 ·exact h
 ·split
  ·exact h
  ·exact TG h
def KI (s:wX) (l:List Tu):Value:=match (AO s l).1 with
 |some id=>.tuple #[I6 id,.bool true]
 |none=>.tuple #[I6 0,.bool false]
theorem Ky:∀(l:List Tu) (seen:List (KE Bool)) (ck:Nat),(qH seen ck l).length<=l.length
 | [],_,_=>Nat.le_refl _
 |x::r,seen,ck=>by
  have h:=Ky r (s9 x.id true ck seen) (kCk x.id ck seen)
  unfold qH
  split
  ·simp only[List.length_cons];omega
  ·simp only[List.length_cons];omega
def d4:List (Nat×Nat):= [(3,0),(4,0),(5,0),(6,1),(8,1),(9,1),(0,2),(1,2),(2,2),(7,2),(10,0),(11,0),(12,1)]
theorem wF (hs:l.length<=10000) (hb:KN s) (hK:K (KI s l) (pt p [.map (some q)] 155::mp q (kM KF (AO s l).2.1) (AO s l).2.2::R)):CT 142 #[PO p,.slice A l.length c] (bU A c 274 LQ l::pt p [.map (some q)] 155::mp q (kM KF s.1) s.2::R) K:=by
 have hle:=Ky l [] 0
 unfold KI AO at hK
 generalize hw:qH [] 0 l=w at hK hle
 cases w with
 |nil=>
  refine aJ Tryz.func142 ?_
  repeat' (first|refine v94 ?_|refine dw d4 ?_|refine w5 ?_ ?_|((refine bh fun h=>?_) <;> try exact w6 h)|(refine aF fun hA=>?_;subst hA)|intro _|(show aA _ 220 _ _ _;refine CA (h:=CS (l:=l) (by exact kU) rfl (by omega) (fun B d=>?_));rw[hw]))
  all_goals(refine aC ?_;exact aB (hK))
 |cons x0 w=>
  simp only at hK
  cases hf:sG s.1 (x0::w) with
  |some id=>
   rw[hf] at hK
   simp only at hK
   have hv:Ah s.1 (x0::w)=.tuple #[I6 id,.bool true]:=by unfold Ah;rw[hf]
   refine aJ Tryz.func142 ?_
   repeat' (first|refine v94 ?_|refine dw d4 ?_|refine w5 ?_ ?_|((refine bh fun h=>?_) <;> try exact w6 h)|(refine aF fun hA=>?_;subst hA)|intro _|(show aA _ 220 _ _ _;refine CA (h:=CS (l:=l) (by exact kU) rfl (by omega) (fun B d=>?_));rw[hw])|(show aA _ 221 _ _ _;refine CA (h:=xU (l:=x0::w) (by omega) ?_);rw[hv]))
   all_goals(refine aC ?_;exact aB (hK))
  |none=>
   rw[hf] at hK
   simp only at hK
   have hv:Ah s.1 (x0::w)=.tuple #[I6 0,.bool false]:=by unfold Ah;rw[hf]
   have h0:=Hy hf
   have hx0:(x0::w)[(0:Int).toNat]?=some x0:=rfl
   have hpos:0<(x0::w).length:=by simp
   have hr0:=LV (h0 x0 (List.mem_cons_self ..)) (EL hb _).1
   refine aJ Tryz.func142 ?_
   repeat' (first|refine v94 ?_|refine dw d4 ?_|refine w5 ?_ ?_|((refine bh fun h=>?_) <;> try exact w6 h)|(refine aF fun hA=>?_;subst hA)|intro _|(show aA _ 220 _ _ _;refine CA (h:=CS (l:=l) (by exact kU) rfl (by omega) (fun B d=>?_));rw[hw])|(show aA _ 221 _ _ _;refine CA (h:=xU (l:=x0::w) (by omega) ?_);rw[hv])|(show aA _ 222 _ _ _;refine CA (h:=PX (h0 _ (List.mem_cons_self ..)) (EL hb _).1 ?_)))
   rename_i r2 B0 o0
   refine iH (fun kk a C'=>∃(j:Nat) (m:Int),j+kk=(x0::w).length/\FQ s.1 ((x0::w).drop j) m=FQ s.1 (x0::w) (vO s.1 x0)/\0<=m/\m<=1280/\cW a [(1,.slice (some ⟨B0,o0,none⟩) (x0::w).length d),(2,PO r2),(8,.func (.func 222) #[] #[PO r2]),(9,I6 m),(37,.slice (some ⟨B0,o0,none⟩) (x0::w).length d),(38,I6 (x0::w).length),(39,I6 j)]/\C'=bU (some ⟨B0,o0,none⟩) d 274 LQ (x0::w)::pt p [.map (some q)] 155::mp q (kM KF s.1) s.2::pt r2 [PO p] 72::R) (x0::w).length (cG (x0::w).length ⟨0,vO s.1 x0,by omega,rfl,hr0.1,hr0.2,⟨rfl,rfl,rfl,rfl,rfl,rfl,rfl,trivial⟩,rfl⟩ (by omega)) ?_
   rintro kk a C' ⟨j,m,hj,hm,hm0,hm1,ha,rfl⟩
   refine gJ _ ha ?_
   simp only[fF]
   by_cases hlt:j<(x0::w).length
   ·obtain⟨x,hx⟩:∃x,(x0::w)[j]?=some x:=⟨_,List.getElem?_eq_getElem hlt⟩
    have hx':(x0::w)[((j:Nat):Int).toNat]?=some x:=by rw[Int.toNat_natCast];exact hx
    have hxm:=List.mem_of_getElem? hx
    have hrx:=LV (h0 x hxm) (EL hb _).1
    rw[Zr hx] at hm
    repeat' (first|refine v94 ?_|refine dw d4 ?_|refine w5 ?_ ?_|((refine bh fun h=>?_) <;> try exact w6 h)|(refine aF fun hA=>?_;subst hA)|intro _|(show aA _ 222 _ _ _;refine CA (h:=PX (h0 _ hxm) (EL hb _).1 ?_)))
    all_goals(show aZ _ _ _ _;exact cG (kk - 1) ⟨j+1,min m (vO s.1 x),by omega,hm,by omega,by omega,⟨rfl,rfl,rfl,rfl,rfl,rfl,rfl,trivial⟩,rfl⟩)
   ·rw[List.drop_eq_nil_of_le (by omega)] at hm
    have hm:m=FQ s.1 (x0::w) (vO s.1 x0):=hm
    rw[<- hm] at hK
    repeat' (first|refine v94 ?_|refine dw d4 ?_|refine w5 ?_ ?_|((refine bh fun h=>?_) <;> try exact w6 h)|(refine aF fun hA=>?_;subst hA)|intro _)
    refine iH (fun kk a C'=>∃(j:Nat) (s':wX),j+kk=(x0::w).length/\xC m ((x0::w).drop j) s'=xC m (x0::w) s/\KN s'/\cW a [(1,.slice (some ⟨B0,o0,none⟩) (x0::w).length d),(2,PO r2),(9,I6 m),(49,.slice (some ⟨B0,o0,none⟩) (x0::w).length d),(50,I6 (x0::w).length),(51,I6 j)]/\C'=bU (some ⟨B0,o0,none⟩) d 274 LQ (x0::w)::pt p [.map (some q)] 155::mp q (kM KF s'.1) s'.2::pt r2 [PO p] 72::R) (x0::w).length (cG (x0::w).length ⟨0,s,by omega,rfl,hb,⟨rfl,rfl,rfl,rfl,rfl,rfl,trivial⟩,rfl⟩ (by omega)) ?_
    rintro kk a C' ⟨j,s',hj,hs',hb',ha,rfl⟩
    refine gJ _ ha ?_
    simp only[fF]
    by_cases hlt:j<(x0::w).length
    ·obtain⟨x,hx⟩:∃x,(x0::w)[j]?=some x:=⟨_,List.getElem?_eq_getElem hlt⟩
     have hx':(x0::w)[((j:Nat):Int).toNat]?=some x:=by rw[Int.toNat_natCast];exact hx
     have hwt:=Qr x
     have hlx:=EL hb' x.id
     have hp0:0<=m * Cb x:=Int.mul_nonneg hm0 (by omega)
     have I8:m * Cb x<=1280 * 256:=Int.mul_le_mul hm1 hwt.2 (by omega) (by omega)
     rw[XZ hx] at hs'
     repeat' (first|refine v94 ?_|refine dw d4 ?_|refine w5 ?_ ?_|((refine bh fun h=>?_) <;> try exact w6 h)|(refine aF fun hA=>?_;subst hA)|intro _|(show aA _ 224 _ _ _;refine CA (h:=rH ?_))|(show aA _ 223 _ _ _;refine CA (h:=Uo ?_))|(show aA _ 225 _ _ _;refine CA (h:=Hb ?_)))
     all_goals(show aZ _ _ _ _;exact cG (kk - 1) ⟨j+1,_,by omega,hs',MH hb',⟨rfl,rfl,rfl,rfl,rfl,rfl,trivial⟩,rfl⟩)
    ·rw[List.drop_eq_nil_of_le (by omega)] at hs'
     have hs':s'=xC m (x0::w) s:=hs'
     subst hs'
     have hfv:Ah (xC m (x0::w) s).1 (x0::w)=match sG (xC m (x0::w) s).1 (x0::w) with
      |some id=>.tuple #[I6 id,.bool true]
      |none=>.tuple #[I6 0,.bool false]:=rfl
     cases hf2:sG (xC m (x0::w) s).1 (x0::w) with
     |some id=>
      rw[hf2] at hK hfv
      repeat' (first|refine v94 ?_|refine dw d4 ?_|refine w5 ?_ ?_|((refine bh fun h=>?_) <;> try exact w6 h)|(refine aF fun hA=>?_;subst hA)|intro _|(show aA _ 221 _ _ _;refine CA (h:=xU (l:=x0::w) (by omega) ?_);rw[hfv]))
      all_goals(refine aC ?_;exact aB (hK))
     |none=>
      rw[hf2] at hK hfv
      repeat' (first|refine v94 ?_|refine dw d4 ?_|refine w5 ?_ ?_|((refine bh fun h=>?_) <;> try exact w6 h)|(refine aF fun hA=>?_;subst hA)|intro _|(show aA _ 221 _ _ _;refine CA (h:=xU (l:=x0::w) (by omega) ?_);rw[hfv]))
      all_goals(refine aC ?_;exact aB (hK))
end
end Go.Proofs.YtffnpejdkkohcaaGreat
