/- A part of the proof: lemmas; each with the conditions that it states. -/
import Derived.Test.YtepnmcipkangkaaGreatCah
import Derived.Test.YtepnmcipkangkaaGreatCau
set_option linter.unusedVariables false
set_option linter.unusedSimpArgs false
set_option maxRecDepth 100000
set_option maxHeartbeats 40000000
namespace Go.Proofs.YtepnmcipkangkaaGreat
open Go Go.Proofs Go.Sl
attribute [local irreducible] aN fL cL bM aL aR aA dJ dK aU dI pt ro fC star sep bF
variable {R C:List HP} {K:KP}
def sK (t st:Int) (e:Bool) (d:ByteArray) (k on w:Int) (x:Bool) (c la n:Int) (ps:List Pr):Prop:=(0<=t/\t<=11)/\(0<=st/\st<=2147483647)/\(st=0->5<=t/\t<=10)/\(0<st->t<=4\/10<=t)/\(e=true->t<=1)/\(k≠0->t=2)/\(c≠0->t=4\/t=9)/\(la≠0->t=9)/\(n≠0->10<=t)/\(0<ps.length->t=5)/\(CU on w x=false->t=2\/t=3)/\(0<d.size->t<=1\/t=7\/t=8)/\(t<=1->d.size<=256)/\(t=7\/t=8->d.size=8)/\(t=2->k=1\/k=2)/\(t=2\/t=3->Oz on w=true)/\Kh ps=true/\G5 c=true/\G5 la=true/\G5 n=true/\ps.length<=8
theorem Al9 {d:ByteArray}:d=⟨#[]⟩↔d.size=0:=by
 constructor
 ·rintro rfl;rfl
 ·intro h;apply ByteArray.ext;exact Array.eq_empty_of_size_eq_zero h
theorem Rh (on w:Int) (x:Bool):CU on w x=true↔(on=0/\w=0/\x=false):=by unfold CU;cases x <;> simp
theorem Af4 {l:List Pr}:l.length=0->Kh l=true:=fun h=>by rw[List.length_eq_zero_iff.1 h];rfl
theorem HH (t st:Int) (e:Bool) (d:ByteArray) (k on w:Int) (x:Bool) (c la n:Int) (ps:List Pr):wM t st e d k on w x c la n ps=true↔sK t st e d k on w x c la n ps:=by
 have hn0:G5 0=true:=by decide
 have hst:=oW st
 have h0:= @Af4 ps
 have hnn:=Rh on w x
 have hpn:ON ps []=true↔ps.length=0:=by rw[Ag6];simp
 have hps:=Pe ps
 have hd:= @Al9 d
 rcases(by omega:(t<0\/11<t)\/t=0\/t=1\/t=2\/t=3\/t=4\/t=5\/t=6\/t=7\/t=8\/t=9\/t=10\/t=11) with h|h|h|h|h|h|h|h|h|h|h|h|h
 ·constructor
  ·intro hh
   unfold wM at hh
   simp only[Bool.and_eq_true,decide_eq_true_eq] at hh
   omega
  ·intro hh
   have:=hh.1
   omega
 all_goals
  subst h
  unfold wM sK zH GY zB
  simp only[oE,oD,oK,oO,oX,oC,oL,oN,oPs,Bool.and_eq_true,Bool.or_eq_true,decide_eq_true_eq]
  grind
end Go.Proofs.YtepnmcipkangkaaGreat
section
namespace Go.Proofs.YtepnmcipkangkaaGreat
open Go Go.Proofs Go.Sl
attribute [local irreducible] aN fL cL bM aL aR aA dJ dK aU dI pt ro fC star sep bF
variable {R C:List HP} {K:KP} {n t k on w c la:Int} {e x:Bool} {d:ByteArray} {ps:List Pr}
def Ah5 (r:Nat) (xs:List Pc):HP:=fC fun A=>fC fun c=>sep (pt r [.slice A xs.length c] 427) (bT A c 423 pcC xs)
theorem Vi {r n c:Nat} {A:Option Addr} {xs ys:List Pc} (hv:dW R A pcC ys) (hn:ys.length=n) (hl:xs.length+n<1000000000) (hK:K (.tuple #[]) (Ah5 r (xs++ys)::R)):
  CT 375 #[.slice A n c,PO r] (Ah5 r xs::R) K:=by
 refine aA.ex fun A=>aA.ex fun c=>aA.sep ?_
 refine aH Tryz.func375 ?_
 repeat' (first|refine v36 ?_|refine w5 ?_ ?_|((refine bh fun h=>?_) <;> try exact w6 h)|(refine aE fun hA=>?_;subst hA)|intro _)
 refine aC ?_
 exact aM (by exact aY) hK
theorem Pd (hK:K (.agg #[I6 n,I6 4,.string ⟨#[]⟩]) R):CT 376 #[I6 n] R K:=by
 refine aH Tryz.func376 ?_
 repeat' (first|refine v31 ?_|refine w5 ?_ ?_|((refine bh fun h=>?_) <;> try exact w6 h)|(refine aE fun hA=>?_;subst hA)|intro _|(show aA _ 367 _ _ _;refine CA (h:=Abl ?_)))
 (refine aC ?_;exact aB (hK))
theorem VD (hK:K (I6 (tL e)) R):CT 288 #[.bool e] R K:=by
 refine aH Tryz.func288 ?_
 cases e
 all_goals
  repeat' (first|refine v0 ?_|refine w5 ?_ ?_|((refine bh fun h=>?_) <;> try exact w6 h)|(refine aE fun hA=>?_;subst hA)|intro _)
  (refine aC ?_;exact aB (hK))
def eZ (t:Int) (d:ByteArray) (k on w:Int) (x:Bool) (c la n:Int):List Pc:=if t=0\/t=1\/t=7\/t=8 then [⟨0,0,d⟩] else if t=2\/t=3 then [⟨k,1,⟨#[]⟩⟩,⟨tL x,1,⟨#[]⟩⟩,⟨w - 1,1,⟨#[]⟩⟩,⟨0,1,⟨#[]⟩⟩,⟨on,4,⟨#[]⟩⟩] else if t=4 then [⟨c,4,⟨#[]⟩⟩] else if t=9 then [⟨la,4,⟨#[]⟩⟩,⟨c,4,⟨#[]⟩⟩] else if t=10\/t=11 then [⟨n,4,⟨#[]⟩⟩] else []
def zJ (ps:List Pr):List Pc:=ps.flatMap fun p=> [⟨p.i,2,⟨#[]⟩⟩,⟨p.v,4,⟨#[]⟩⟩]
theorem Fw (h:t=0\/t=1\/t=7\/t=8):eZ t d k on w x c la n= [⟨0,0,d⟩]:=by unfold eZ;rw[if_pos h]
theorem hp2 (h:t=2\/t=3):eZ t d k on w x c la n= [⟨k,1,⟨#[]⟩⟩,⟨tL x,1,⟨#[]⟩⟩,⟨w - 1,1,⟨#[]⟩⟩,⟨0,1,⟨#[]⟩⟩,⟨on,4,⟨#[]⟩⟩]:=by unfold eZ;rw[if_neg (by omega),if_pos h]
theorem hp3 (h:t=4):eZ t d k on w x c la n= [⟨c,4,⟨#[]⟩⟩]:=by unfold eZ;rw[if_neg (by omega),if_neg (by omega),if_pos h]
theorem hp4 (h:t=9):eZ t d k on w x c la n= [⟨la,4,⟨#[]⟩⟩,⟨c,4,⟨#[]⟩⟩]:=by unfold eZ;rw[if_neg (by omega),if_neg (by omega),if_neg (by omega),if_pos h]
theorem hp5 (h:t=10\/t=11):eZ t d k on w x c la n= [⟨n,4,⟨#[]⟩⟩]:=by unfold eZ;rw[if_neg (by omega),if_neg (by omega),if_neg (by omega),if_neg (by omega),if_pos h]
theorem hp6 (h:¬(t=0\/t=1\/t=7\/t=8)/\¬(t=2\/t=3)/\¬t=4/\¬t=9/\¬(t=10\/t=11)):eZ t d k on w x c la n= []:=by unfold eZ;rw[if_neg h.1,if_neg h.2.1,if_neg h.2.2.1,if_neg h.2.2.2.1,if_neg h.2.2.2.2]
theorem Zo (t:Int) (d:ByteArray) (k on w:Int) (x:Bool) (c la n:Int):(eZ t d k on w x c la n).length<=5:=by
 unfold eZ
 (repeat' split) <;> simp
theorem IY:∀ps:List Pr,(zJ ps).length=2 * ps.length
 | []=>rfl
 |p::l=>by
  have:=IY l
  unfold zJ at this ⊢
  simp only[List.flatMap_cons,List.length_append,List.length_cons,List.length_nil,this]
  omega
theorem XN {j:Nat} {y:Pr} (h:ps[j]?=some y):zJ (ps.take (j+1))=zJ (ps.take j)++ [⟨y.i,2,⟨#[]⟩⟩,⟨y.v,4,⟨#[]⟩⟩]:=by
 unfold zJ
 rw[List.take_add_one,h]
 simp
def kF:List Nat:= [0,0,2,6,0,16,48,126,254,0,512,1536,3584,8190,16382,0,0,65536,196608,524286,1048574,2097151]
def kG:List Nat:= [2097151,1048574,524286,196608,65536,0,0,16382,8190,3584,1536,512,0,254,126,48,16,0,6,2,0,0]
def jY:List (Nat×Nat):= [(1,0),(2,0),(3,1),(4,1),(5,1),(6,1),(7,1),(8,1),(9,3),(10,3),(11,3),(12,3),(13,1),(14,1),(15,5),(16,5),(17,5),(18,5),(19,1),(20,1),(0,7),(21,1)]
def j7:List (Nat×Nat):= [(1,0),(2,0),(3,0),(4,1),(5,1),(6,1),(7,1),(8,1),(9,1),(0,3),(10,1)]
def kC:List (Nat×Nat):= [(1,0),(2,0),(3,1),(4,1),(5,1),(6,1),(7,1),(8,1),(0,3),(9,1)]
theorem UV {st:Int} {pa:Option Addr} {pn pc:Nat} (hv:dW C pa tX ps) (hn:ps.length=pn) (hn2:pn<100000000) (hk:1<=w/\w<=1000\/¬(t=2\/t=3)) (hK:K (.string (wN (eZ t d k on w x c la n++zJ ps))) C):CT 286 #[.agg #[I6 t,I6 st,.bool e,.string d,I6 k,I6 on,I6 w,.bool x,I6 c,I6 la,I6 n,.slice pa pn pc]] C K:=by
 subst hn
 have hh:=Zo t d k on w x c la n
 refine aH Tryz.func286 ?_
 repeat' (first|(show fL _ (.block 0 _) _ _ _;refine Aop (fun a C'=>∃b r:Nat,C'=Ah5 r (eZ t d k on w x c la n)::pt b [I6 t,I6 st,.bool e,.string d,I6 k,I6 on,I6 w,.bool x,I6 c,I6 la,I6 n,.slice pa ps.length pc] 178::C/\dH a [(1,PO b),(3,PO r),(4,.func (.func 375) #[] #[PO r]),(5,.func (.func 376) #[] #[])]) ?_ (fun a C' hI=>?_))|refine J4 ?_|refine Jv kF kG jY ?_|refine dw j7 ?_|refine dw kC ?_|refine w5 ?_ ?_|((refine bh fun h=>?_) <;> try exact w6 h)|(refine aE fun hA=>?_;subst hA)|intro _|(show aA _ 375 _ _ _;refine CA (h:=Vi (xs:= []) (by exact lL) (by exact rfl) (by decide) ?_))|(show aA _ 376 _ _ _;refine CA (h:=Pd ?_))|(show aA _ 288 _ _ _;refine CA (h:=VD ?_))|(show aA _ 367 _ _ _;refine CA (h:=Abl ?_))|(show aA _ 377 _ _ _;refine CA (h:=Aqn ?_)))
 all_goals first
  |(show dI _ _ _
    first
     |rw[Fw (by omega)]
     |rw[hp2 (by omega)]
     |rw[hp3 (by omega)]
     |rw[hp4 (by omega)]
     |rw[hp5 (by omega)]
     |rw[hp6 (by omega)]
    exact Acu ⟨_,_,rfl,rfl,rfl,rfl,rfl,trivial⟩)
  |skip
 obtain⟨b,r,rfl,ha⟩:=hI
 refine⟨?_⟩
 refine t_n ?_
 refine i6 _ ha ?_
 simp only[gJ]
 repeat' (first|refine J4 ?_|refine Jv kF kG jY ?_|refine dw j7 ?_|refine dw kC ?_|refine w5 ?_ ?_|((refine bh fun h=>?_) <;> try exact w6 h)|(refine aE fun hA=>?_;subst hA)|intro _)
 have hpl:=IY ps
 have e0:eZ t d k on w x c la n=eZ t d k on w x c la n++zJ (ps.take 0):=by rw[List.take_zero];exact(List.append_nil _).symm
 rw[e0]
 have hv2:dW (pt b [I6 t,I6 st,.bool e,.string d,I6 k,I6 on,I6 w,.bool x,I6 c,I6 la,I6 n,.slice pa ps.length pc] 178::C) pa tX ps:=bN hv
 refine jA (fun m a C'=>∃j:Nat,j+m=ps.length/\C'=Ah5 r (eZ t d k on w x c la n++zJ (ps.take j))::pt b [I6 t,I6 st,.bool e,.string d,I6 k,I6 on,I6 w,.bool x,I6 c,I6 la,I6 n,.slice pa ps.length pc] 178::C/\dH a [(3,PO r),(4,.func (.func 375) #[] #[PO r]),(5,.func (.func 376) #[] #[]),(82,.slice pa ps.length pc),(83,I6 ps.length),(84,I6 j)]) ps.length (cJ ps.length ⟨0,by omega,rfl,rfl,rfl,rfl,rfl,rfl,rfl,trivial⟩) ?_
 rintro n1 a C' ⟨j,hj,rfl,ha⟩
 refine i6 _ ha ?_
 simp only[gJ]
 by_cases hlt:j<ps.length
 ·obtain⟨y,hy,hd⟩:=lS (l:=ps) (j:=j) (by omega)
  have ht:=XN hy
  have hl2:(eZ t d k on w x c la n++zJ (ps.take j)).length+2<1000000000:=by
   rw[List.length_append,IY,List.length_take];omega
  repeat' (first|refine J4 ?_|refine Jv kF kG jY ?_|refine dw j7 ?_|refine dw kC ?_|refine w5 ?_ ?_|((refine bh fun h=>?_) <;> try exact w6 h)|(refine aE fun hA=>?_;subst hA)|intro _|(show aA _ 375 _ _ _;refine CA (h:=Vi (xs:=eZ t d k on w x c la n++zJ (ps.take j)) (by exact lL) (by exact rfl) hl2 ?_))|(show aA _ 376 _ _ _;refine CA (h:=Pd ?_))|(show aA _ 367 _ _ _;refine CA (h:=Abl ?_)))
  all_goals exact cJ (n1 - 1) ⟨j+1,by omega,by rw[ht,<- List.append_assoc],rfl,rfl,rfl,rfl,rfl,rfl,trivial⟩
 ·obtain rfl:j=ps.length:=by omega
  rw[List.take_of_length_le (Nat.le_refl _)]
  refine xL fun A=>xL fun c'=>HA ?_
  have hl2:(eZ t d k on w x c la n++zJ ps).length=(eZ t d k on w x c la n).length+(zJ ps).length:=List.length_append
  repeat' (first|refine J4 ?_|refine Jv kF kG jY ?_|refine dw j7 ?_|refine dw kC ?_|refine w5 ?_ ?_|((refine bh fun h=>?_) <;> try exact w6 h)|(refine aE fun hA=>?_;subst hA)|intro _|(show aA _ 366 _ _ _;refine CA (h:=TZ (ps:=eZ t d k on w x c la n++zJ ps) (by exact lL) rfl (by omega) ?_)))
  (refine aC ?_;exact aB (hK))
end Go.Proofs.YtepnmcipkangkaaGreat
namespace Go.Proofs.YtepnmcipkangkaaGreat
open Go Go.Proofs Go.Sl
attribute [local irreducible] aN fL cL bM aL aR aA dJ dK aU dI pt ro fC star sep bF
variable {R C:List HP} {K:KP} {n:Int}
theorem LO:∀(ps:List Pc) (n:Int),0<=n->eO ps=0->n+(lK ps).length<=4096->Kk ps n<=4096
 | [],n,_,_,h=>by simp[Kk,lK] at h ⊢;omega
 |p::l,n,h0,he,h=>by
  obtain⟨h1,h2⟩:=Bi he
  have hl:=Ob (n:=p.n) (s:=p.s) (EF h1)
  have hc:((lK (p::l)).length:Int)=lD p.w p.s+(lK l).length:=by rw[<- hl];simp[lK]
  have hnn:=FF p.w p.s
  have hm:min (lD p.w p.s) 4097=lD p.w p.s:=by omega
  unfold Kk
  rw[hm,if_neg (by omega)]
  exact LO l _ (by omega) h2 (by omega)
theorem Aob {ps:List Pc} (h:eO ps=0) (h2:(lK ps).length<=4096):wN ps=⟨(lK ps).toArray⟩:=by
 have h3:=LO ps 0 (by omega) h (by omega)
 have he:yZ ps=0:=by
  unfold yZ
  rw[if_pos h,if_neg (by omega)]
 unfold wN
 rw[if_pos he]
theorem H9:∀(a b:List Pc),eO a=0->eO b=0->eO (a++b)=0
 | [],b,_,h=>h
 |p::l,b,h1,h=>by
  obtain⟨h2,h3⟩:=Bi h1
  show(if jE p.n p.w=0 then eO (l++b) else _)=0
  rw[if_pos h2]
  exact H9 l b h3 h
def Sr (ps:List Pr):List UInt8:=ps.flatMap fun p=>wB p.i 2++wB p.v 4
def nH (t:Int) (d:ByteArray) (k on w:Int) (x:Bool) (c la n:Int) (ps:List Pr):List UInt8:=if t=2\/t=3 then wB k 1++(wB (tL x) 1++(wB (w - 1) 1++(wB 0 1++wB on 4))) else if t=4 then wB c 4 else if t=9 then wB la 4++wB c 4 else if t=10\/t=11 then wB n 4 else d.data.toList++Sr ps
theorem BP:∀ps:List Pr,(Sr ps).length=6 * ps.length
 | []=>rfl
 |p::l=>by
  have:=BP l
  unfold Sr at this ⊢
  simp only[List.flatMap_cons,List.length_append,List.length_cons,this,lG]
  have a2:(2:Int).toNat=2:=rfl
  have a4:(4:Int).toNat=4:=rfl
  omega
theorem Ln (h:G5 n=true):jE n 4=0:=by
 obtain⟨p1,p3,p4⟩:=Nu
 have m:=C1 (n:=n) (w:=4) (by decide)
 rw[show(4:Int).toNat=4 from rfl,p4] at m
 have:=(oW n).1 h
 exact m.2 (by omega)
theorem Ao0 (h:0<=n/\n<=65535):jE n 2=0:=by
 have m:=C1 (n:=n) (w:=2) (by decide)
 rw[show(2:Int).toNat=2 from rfl,Abo] at m
 exact m.2 (by omega)
theorem Aip (h:0<=n/\n<=255):jE n 1=0:=by
 obtain⟨p1,p3,p4⟩:=Nu
 have m:=C1 (n:=n) (w:=1) (by decide)
 rw[show(1:Int).toNat=1 from rfl,p1] at m
 exact m.2 (by omega)
theorem Ij:∀ {ps:List Pr},Kh ps=true->eO (zJ ps)=0
 | [],_=>rfl
 |p::l,h=>by
  simp only[Kh,List.all_cons,Bool.and_eq_true,decide_eq_true_eq] at h
  have:=Ij (ps:=l) (by unfold Kh;simpa using h.2)
  show eO (⟨p.i,2,⟨#[]⟩⟩::⟨p.v,4,⟨#[]⟩⟩::zJ l)=0
  simp only[eO]
  rw[if_pos (Ao0 h.1.1),if_pos (Ln h.1.2)]
  exact this
theorem Jm:∀ps:List Pr,lK (zJ ps)=Sr ps
 | []=>rfl
 |p::l=>by
  have:=Jm l
  show lK (⟨p.i,2,⟨#[]⟩⟩::⟨p.v,4,⟨#[]⟩⟩::zJ l)=Sr (p::l)
  unfold lK at this ⊢
  rw[List.flatMap_cons,List.flatMap_cons,this]
  simp[Qn,Sr]
theorem PW (a b:List Pc):lK (a++b)=lK a++lK b:=by unfold lK;simp
theorem Ev {t st:Int} {e:Bool} {d:ByteArray} {k on w:Int} {x:Bool} {c la:Int} {ps:List Pr} (h:sK t st e d k on w x c la n ps):wN (eZ t d k on w x c la n++zJ ps)=⟨(nH t d k on w x c la n ps).toArray⟩/\(nH t d k on w x c la n ps).length<=256:=by
 obtain⟨h1,h2,h3,h4,h5,h6,h7,h8,h9,h10,h11,h12,h13,h14,h15,h16,h17,h18,h19,h20,h21⟩:=h
 have hd:d.data.toList.length=d.size:=by simp
 have hp:=Ij h17
 have hl:=BP ps
 have a1:(1:Int).toNat=1:=rfl
 have a4:(4:Int).toNat=4:=rfl
 have key:∀hs:List Pc,eZ t d k on w x c la n=hs->eO hs=0->lK hs++Sr ps=nH t d k on w x c la n ps->(nH t d k on w x c la n ps).length<=256->wN (eZ t d k on w x c la n++zJ ps)=⟨(nH t d k on w x c la n ps).toArray⟩/\(nH t d k on w x c la n ps).length<=256:=by
  intro hs e1 e2 e3 e4
  rw[e1,Aob (H9 _ _ e2 hp) (by rw[PW,Jm,e3];omega),PW,Jm,e3]
  exact⟨rfl,e4⟩
 have hps:¬t=5->Sr ps= []:=fun h=>by
  have:ps.length=0:=by
   rcases Nat.eq_zero_or_pos ps.length with h'|h'
   ·exact h'
   ·exact absurd (h10 h') h
  rw[List.length_eq_zero_iff.1 this];rfl
 rcases(by omega:(t=0\/t=1\/t=7\/t=8)\/(t=2\/t=3)\/t=4\/t=9\/(t=10\/t=11)\/t=5\/t=6) with h|h|h|h|h|h|h
 ·refine key [⟨0,0,d⟩] (by unfold eZ;rw[if_pos h]) rfl ?_ ?_
  ·rw[hps (by omega)]
   unfold nH
   rw[if_neg (by omega),if_neg (by omega),if_neg (by omega),if_neg (by omega),hps (by omega)]
   simp[lK,Qn,show wB 0 0= [] from rfl]
  ·unfold nH
   rw[if_neg (by omega),if_neg (by omega),if_neg (by omega),if_neg (by omega),hps (by omega)]
   rw[List.append_nil,hd]
   by_cases h':t<=1
   ·exact h13 h'
   ·have:=h14 (by omega);omega
 ·have hdep:=h16 h
  unfold Oz at hdep
  simp only[Bool.and_eq_true,decide_eq_true_eq] at hdep
  have hb:=EE x
  have hk:0<=k/\k<=255:=by
   by_cases h2:t=2
   ·have:=h15 h2;omega
   ·have:k=0:=Classical.byContradiction fun h'=>h2 (h6 h')
    omega
  refine key [⟨k,1,⟨#[]⟩⟩,⟨tL x,1,⟨#[]⟩⟩,⟨w - 1,1,⟨#[]⟩⟩,⟨0,1,⟨#[]⟩⟩,⟨on,4,⟨#[]⟩⟩] (by unfold eZ;rw[if_neg (by omega),if_pos h]) ?_ ?_ ?_
  ·simp only[eO]
   rw[if_pos (Aip hk),if_pos (Aip (by omega)),if_pos (Aip (by omega)),if_pos (Aip (by omega)),if_pos (Ln hdep.1)]
  ·rw[hps (by omega)]
   unfold nH
   rw[if_pos h]
   simp[lK,Qn]
  ·unfold nH
   rw[if_pos h]
   simp only[List.length_append,lG]
   omega
 ·refine key [⟨c,4,⟨#[]⟩⟩] (by unfold eZ;rw[if_neg (by omega),if_neg (by omega),if_pos h]) ?_ ?_ ?_
  ·simp only[eO]
   rw[if_pos (Ln h18)]
  ·rw[hps (by omega)]
   unfold nH
   rw[if_neg (by omega),if_pos h]
   simp[lK,Qn]
  ·unfold nH
   rw[if_neg (by omega),if_pos h,lG]
   omega
 ·refine key [⟨la,4,⟨#[]⟩⟩,⟨c,4,⟨#[]⟩⟩] (by unfold eZ;rw[if_neg (by omega),if_neg (by omega),if_neg (by omega),if_pos h]) ?_ ?_ ?_
  ·simp only[eO]
   rw[if_pos (Ln h19),if_pos (Ln h18)]
  ·rw[hps (by omega)]
   unfold nH
   rw[if_neg (by omega),if_neg (by omega),if_pos h]
   simp[lK,Qn]
  ·unfold nH
   rw[if_neg (by omega),if_neg (by omega),if_pos h,List.length_append,lG,lG]
   omega
 ·refine key [⟨n,4,⟨#[]⟩⟩] (by unfold eZ;rw[if_neg (by omega),if_neg (by omega),if_neg (by omega),if_neg (by omega),if_pos h]) ?_ ?_ ?_
  ·simp only[eO]
   rw[if_pos (Ln h20)]
  ·rw[hps (by omega)]
   unfold nH
   rw[if_neg (by omega),if_neg (by omega),if_neg (by omega),if_pos h]
   simp[lK,Qn]
  ·unfold nH
   rw[if_neg (by omega),if_neg (by omega),if_neg (by omega),if_pos h,lG]
   omega
 all_goals
  have hd0:d.data.toList= []:=by
   rcases Nat.eq_zero_or_pos d.size with h'|h'
   ·exact List.length_eq_zero_iff.1 (by omega)
   ·have:=h12 h';omega
  refine key [] (by unfold eZ;rw[if_neg (by omega),if_neg (by omega),if_neg (by omega),if_neg (by omega),if_neg (by omega)]) rfl ?_ ?_
  ·unfold nH
   rw[if_neg (by omega),if_neg (by omega),if_neg (by omega),if_neg (by omega),hd0]
   rfl
  ·unfold nH
   rw[if_neg (by omega),if_neg (by omega),if_neg (by omega),if_neg (by omega),hd0,List.nil_append]
   omega
end Go.Proofs.YtepnmcipkangkaaGreat
end
section
namespace Go.Proofs.YtepnmcipkangkaaGreat
open Go Go.Proofs Go.Sl
attribute [local irreducible] aN fL cL bM aL aR aA dJ dK aU dI pt ro fC star sep bF
variable {R C:List HP} {K:KP}
def b2 (t st:Int):Bool:=!(decide (0<=t) && decide (t<=11) && zH t st)
def b4 (t:Int) (e:Bool) (k c la n:Int) (m:Nat):Bool:=(e && decide (1<t)) || (!decide (k=0) && !decide (t=2)) || (!decide (c=0) && !decide (t=4) && !decide (t=9)) || (!decide (la=0) && !decide (t=9)) || (!decide (n=0) && decide (t<10)) || (decide (0<m) && !decide (t=5))
end Go.Proofs.YtepnmcipkangkaaGreat
namespace Go.Proofs.YtepnmcipkangkaaGreat
open Go Go.Proofs Go.Sl
attribute [local irreducible] aN fL cL bM aL aR aA dJ dK aU dI pt ro fC star sep bF
variable {R C:List HP} {K:KP}
def b6 (t:Int) (d:ByteArray) (on w:Int) (x:Bool):Bool:=(!CU on w x && !decide (t=2) && !decide (t=3)) || (!decide (d=⟨#[]⟩) && decide (1<t) && !decide (t=7) && !decide (t=8))
def b8 (t:Int) (d:ByteArray) (k on w:Int):Bool:=(decide (t<=1) && decide (256<d.size)) || ((decide (t=7) || decide (t=8)) && !decide (d.size=8)) || (decide (t=2) && !decide (k=1) && !decide (k=2)) || ((decide (t=2) || decide (t=3)) && !Oz on w)
end Go.Proofs.YtepnmcipkangkaaGreat
end
namespace Go.Proofs.YtepnmcipkangkaaGreat
open Go Go.Proofs Go.Sl
attribute [local irreducible] aN fL cL bM aL aR aA dJ dK aU dI pt ro fC star sep bF
attribute [local irreducible] mp DG
variable {R C:List HP} {K:KP} {i r c n:Nat} {A:Option Addr}
theorem Z1 {α:Type} {xs:List α} (hi:i<xs.length):xs.take i++(xs.drop (i+1)++xs.drop (i+(xs.drop (i+1)).length))=xs.eraseIdx i++xs.drop (i+(xs.drop (i+1)).length):=by
 rw[List.eraseIdx_eq_take_drop_succ,List.append_assoc]
def sV:List (Nat×Nat):= [(0,0),(1,0),(2,0),(3,0),(4,0),(5,0),(6,1),(7,0)]
theorem Akx {xs:List iT} (hn:xs.length=n) (hi:i<n) (hs:n<=1000) (hK:∀A' c',K (.slice A' (n - 1) c') (bT A' c' 136 yN (xs.eraseIdx i)::R)):CT 424 #[.slice A n c,I6 i,I6 ((i:Int)+1)] (bT A c 136 yN xs::R) K:=by
 refine i7 aW.here fun hc=>?_
 subst hn
 refine qI aW.here (by omega) fun B off hA=>?_
 subst hA
 have hdl:(xs.drop (i+1)).length=xs.length - (i+1):=List.length_drop ..
 have hel:(xs.eraseIdx i).length=xs.length - 1:=by rw[List.length_eraseIdx,if_pos hi]
 refine aH Tryz.func424 ?_
 repeat' (first|(show aN _ _ _ _ _ _ _;first|refine eE (sz:=3) ?_|(refine oG (sz:=3) ?_;intro A1 hA1))|refine v9 ?_|refine dw sV ?_|refine w5 ?_ ?_|((refine bh fun h=>?_) <;> try exact w6 h)|(refine aE fun hA=>?_;subst hA)|intro _)
 refine L0 (sz:=3) (j:=i) (N:=xs.length - 1) (vs:=xs.drop (i+1)) ?_ (hsrc:=V7 fT hA1 rfl (by omega) (by omega) (by omega) (by omega))
 repeat' (first|(show aN _ _ _ _ _ _ _;refine eE (sz:=3) ?_)|refine v9 ?_|refine dw sV ?_|refine w5 ?_ ?_|((refine bh fun h=>?_) <;> try exact w6 h)|(refine aE fun hA=>?_;subst hA)|intro _)
 refine QG (sz:=3) (xs:=xs.eraseIdx i) ?_ (Z1 hi) (hA:=w7 (by rw[hel];omega)) (hk0:=by rw[List.length_drop,hdl];omega)
 repeat' (first|refine v9 ?_|refine dw sV ?_|refine w5 ?_ ?_|((refine bh fun h=>?_) <;> try exact w6 h)|(refine aE fun hA=>?_;subst hA)|intro _)
 all_goals(refine aC ?_;exact aB (hK _ _))
def sB:List (Nat×Nat):= [(0,0),(1,0),(2,0),(3,0),(4,0),(5,0),(6,1),(7,0)]
theorem Ahr {xs:List kD} (hn:xs.length=n) (hi:i<n) (hs:n<=1000) (hK:∀A' c',K (.slice A' (n - 1) c') (bT A' c' 261 fP (xs.eraseIdx i)::R)):CT 422 #[.slice A n c,I6 i,I6 ((i:Int)+1)] (bT A c 261 fP xs::R) K:=by
 refine i7 aW.here fun hc=>?_
 subst hn
 refine qI aW.here (by omega) fun B off hA=>?_
 subst hA
 have hdl:(xs.drop (i+1)).length=xs.length - (i+1):=List.length_drop ..
 have hel:(xs.eraseIdx i).length=xs.length - 1:=by rw[List.length_eraseIdx,if_pos hi]
 refine aH Tryz.func422 ?_
 repeat' (first|(show aN _ _ _ _ _ _ _;first|refine eE (sz:=2) ?_|(refine oG (sz:=2) ?_;intro A1 hA1))|refine v9 ?_|refine dw sB ?_|refine w5 ?_ ?_|((refine bh fun h=>?_) <;> try exact w6 h)|(refine aE fun hA=>?_;subst hA)|intro _)
 refine L0 (sz:=2) (j:=i) (N:=xs.length - 1) (vs:=xs.drop (i+1)) ?_ (hsrc:=V7 fT hA1 rfl (by omega) (by omega) (by omega) (by omega))
 repeat' (first|(show aN _ _ _ _ _ _ _;refine eE (sz:=2) ?_)|refine v9 ?_|refine dw sB ?_|refine w5 ?_ ?_|((refine bh fun h=>?_) <;> try exact w6 h)|(refine aE fun hA=>?_;subst hA)|intro _)
 refine QG (sz:=2) (xs:=xs.eraseIdx i) ?_ (Z1 hi) (hA:=w7 (by rw[hel];omega)) (hk0:=by rw[List.length_drop,hdl];omega)
 repeat' (first|refine v9 ?_|refine dw sB ?_|refine w5 ?_ ?_|((refine bh fun h=>?_) <;> try exact w6 h)|(refine aE fun hA=>?_;subst hA)|intro _)
 all_goals(refine aC ?_;exact aB (hK _ _))
end Go.Proofs.YtepnmcipkangkaaGreat
