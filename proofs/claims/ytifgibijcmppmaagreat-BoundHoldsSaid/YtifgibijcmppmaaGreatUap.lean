/- A part of the proof: lemmas; each with the conditions that it states. -/
import Derived.Test.YtifgibijcmppmaaGreatUay
set_option linter.unusedVariables false
set_option linter.unusedSimpArgs false
set_option maxRecDepth 100000
set_option maxHeartbeats 40000000
namespace Go.Proofs.YtifgibijcmppmaaGreat
open Go Go.Proofs Go.Sl
attribute [local irreducible] aN fN cX bP aM aX aA dS dV aT dU pt ro eV star sep bH
section
variable {R C:List HP} {K:KP}
def sJ (t st:Int) (e:Bool) (d:ByteArray) (k on w:Int) (x:Bool) (c la n:Int) (ps:List Pr):Prop:=(0≤t∧t≤11)∧(0≤st∧st≤2147483647)∧(st=0→5≤t∧t≤10)∧(0<st→t≤4∨10≤t)∧(e=true→t≤1)∧(k≠0→t=2)∧(c≠0→t=4∨t=9)∧(la≠0→t=9)∧(n≠0→10≤t)∧(0<ps.length→t=5)∧(IW on w x=false→t=2∨t=3)∧(0<d.size→t≤1∨t=7∨t=8)∧(t≤1→d.size≤256)∧(t=7∨t=8→d.size=8)∧(t=2→k=1∨k=2)∧(t=2∨t=3→Te on w=true)∧Rq ps=true∧HR c=true∧HR la=true∧HR n=true∧ps.length≤8
theorem Alx {d:ByteArray}:d=⟨#[]⟩↔d.size=0:=by
 constructor
 ·rintro rfl;rfl
 ·intro h;apply ByteArray.ext;exact Array.eq_empty_of_size_eq_zero h
theorem ZI (on w:Int) (x:Bool):IW on w x=true↔(on=0∧w=0∧x=false):=by unfold IW;cases x <;> simp
theorem Aci {l:List Pr}:l.length=0→Rq l=true:=fun h=>by rw[List.length_eq_zero_iff.1 h];rfl
theorem GN (t st:Int) (e:Bool) (d:ByteArray) (k on w:Int) (x:Bool) (c la n:Int) (ps:List Pr):u4 t st e d k on w x c la n ps=true↔sJ t st e d k on w x c la n ps:=by
 have hn0:HR 0=true:=by decide
 have hst:=vW st
 have h0:= @Aci ps
 have hnn:=ZI on w x
 have hpn:NO ps []=true↔ps.length=0:=by rw[Afd];simp
 have hps:=QF ps
 have hd:= @Alx d
 rcases(by omega:(t<0∨11<t)∨t=0∨t=1∨t=2∨t=3∨t=4∨t=5∨t=6∨t=7∨t=8∨t=9∨t=10∨t=11) with h|h|h|h|h|h|h|h|h|h|h|h|h
 ·constructor
  ·intro hh
   unfold u4 at hh
   simp only[Bool.and_eq_true,decide_eq_true_eq] at hh
   omega
  ·intro hh
   have:=hh.1
   omega
 all_goals
  subst h
  unfold u4 sJ yD FO x9
  simp only[oE,oD,oK,oO,oX,oC,oL,oN,oPs,Bool.and_eq_true,Bool.or_eq_true,decide_eq_true_eq]
  grind
end
end Go.Proofs.YtifgibijcmppmaaGreat
namespace Go.Proofs.YtifgibijcmppmaaGreat
open Go Go.Proofs Go.Sl
def M9 (e:Bool):Int:=match e with
 |true=>1
 |false=>0
theorem NW (e:Bool):0≤M9 e∧M9 e≤1:=by cases e <;> decide
theorem Abj:(256:Int) ^ (2:Nat)=65536:=by decide
end Go.Proofs.YtifgibijcmppmaaGreat
section
namespace Go.Proofs.YtifgibijcmppmaaGreat
open Go Go.Proofs Go.Sl
attribute [local irreducible] aN fN cX bP aM aX aA dS dV aT dU pt ro eV star sep bH
variable {R C:List HP} {K:KP}
def Agp (r:Nat) (xs:List Pc):HP:=eV fun A=>eV fun c=>sep (pt r [.slice A xs.length c] 377) (bQ A c 369 pcC xs)
theorem Vi {r n c:Nat} {A:Option Addr} {xs ys:List Pc} (hv:dT R A pcC ys) (hn:ys.length=n) (hl:xs.length+n<1000000000) (hK:K (.tuple #[]) (Agp r (xs++ys)::R)):
  CT 347 #[.slice A n c,PO r] (Agp r xs::R) K:=by
 refine aA.ex fun A=>aA.ex fun c=>aA.sep ?_
 refine aH Tryz.func347 ?_
 repeat' (first|refine v36 ?_|refine w5 ?_ ?_|((refine bh fun h=>?_) <;> try exact w6 h)|(refine aE fun hA=>?_;subst hA)|intro _)
 refine aC ?_
 exact aK (by exact aZ) hK
theorem Ow {n:Int} (hK:K (.agg #[I6 n,I6 4,.string ⟨#[]⟩]) R):CT 348 #[I6 n] R K:=by
 refine aH Tryz.func348 ?_
 repeat' (first|refine v31 ?_|refine w5 ?_ ?_|((refine bh fun h=>?_) <;> try exact w6 h)|(refine aE fun hA=>?_;subst hA)|intro _|(show aA _ 336 _ _ _;refine CA (h:=Ad1 ?_)))
 (refine aC ?_;exact aB (hK))
theorem UR {e:Bool} (hK:K (I6 (M9 e)) R):CT 270 #[.bool e] R K:=by
 refine aH Tryz.func270 ?_
 cases e
 all_goals
  repeat' (first|refine v0 ?_|refine w5 ?_ ?_|((refine bh fun h=>?_) <;> try exact w6 h)|(refine aE fun hA=>?_;subst hA)|intro _)
  (refine aC ?_;exact aB (hK))
def eO (t:Int) (d:ByteArray) (k on w:Int) (x:Bool) (c la n:Int):List Pc:=if t=0∨t=1∨t=7∨t=8 then [⟨0,0,d⟩] else if t=2∨t=3 then [⟨k,1,⟨#[]⟩⟩,⟨M9 x,1,⟨#[]⟩⟩,⟨w - 1,1,⟨#[]⟩⟩,⟨0,1,⟨#[]⟩⟩,⟨on,4,⟨#[]⟩⟩] else if t=4 then [⟨c,4,⟨#[]⟩⟩] else if t=9 then [⟨la,4,⟨#[]⟩⟩,⟨c,4,⟨#[]⟩⟩] else if t=10∨t=11 then [⟨n,4,⟨#[]⟩⟩] else []
def xX (ps:List Pr):List Pc:=ps.flatMap fun p=> [⟨p.i,2,⟨#[]⟩⟩,⟨p.v,4,⟨#[]⟩⟩]
section
variable {t:Int} {d:ByteArray} {k on w:Int} {x:Bool} {c la n:Int}
theorem JE (h:t=0∨t=1∨t=7∨t=8):eO t d k on w x c la n= [⟨0,0,d⟩]:=by unfold eO;rw[if_pos h]
theorem hp2 (h:t=2∨t=3):eO t d k on w x c la n= [⟨k,1,⟨#[]⟩⟩,⟨M9 x,1,⟨#[]⟩⟩,⟨w - 1,1,⟨#[]⟩⟩,⟨0,1,⟨#[]⟩⟩,⟨on,4,⟨#[]⟩⟩]:=by unfold eO;rw[if_neg (by omega),if_pos h]
theorem hp3 (h:t=4):eO t d k on w x c la n= [⟨c,4,⟨#[]⟩⟩]:=by unfold eO;rw[if_neg (by omega),if_neg (by omega),if_pos h]
theorem hp4 (h:t=9):eO t d k on w x c la n= [⟨la,4,⟨#[]⟩⟩,⟨c,4,⟨#[]⟩⟩]:=by unfold eO;rw[if_neg (by omega),if_neg (by omega),if_neg (by omega),if_pos h]
theorem hp5 (h:t=10∨t=11):eO t d k on w x c la n= [⟨n,4,⟨#[]⟩⟩]:=by unfold eO;rw[if_neg (by omega),if_neg (by omega),if_neg (by omega),if_neg (by omega),if_pos h]
theorem hp6 (h:¬(t=0∨t=1∨t=7∨t=8)∧¬(t=2∨t=3)∧¬t=4∧¬t=9∧¬(t=10∨t=11)):eO t d k on w x c la n= []:=by unfold eO;rw[if_neg h.1,if_neg h.2.1,if_neg h.2.2.1,if_neg h.2.2.2.1,if_neg h.2.2.2.2]
end
theorem Yj (t:Int) (d:ByteArray) (k on w:Int) (x:Bool) (c la n:Int):(eO t d k on w x c la n).length≤5:=by
 unfold eO
 (repeat' split) <;> simp
theorem G7:∀ps:List Pr,(xX ps).length=2 * ps.length
 | []=>rfl
 |p::l=>by
  have:=G7 l
  unfold xX at this ⊢
  simp only[List.flatMap_cons,List.length_append,List.length_cons,List.length_nil,this]
  omega
theorem WV {ps:List Pr} {j:Nat} {y:Pr} (h:ps[j]?=some y):xX (ps.take (j+1))=xX (ps.take j)++ [⟨y.i,2,⟨#[]⟩⟩,⟨y.v,4,⟨#[]⟩⟩]:=by
 unfold xX
 rw[List.take_add_one,h]
 simp
def i5:List Nat:= [0,0,2,6,0,16,48,126,254,0,512,1536,3584,8190,16382,0,0,65536,196608,524286,1048574,2097151]
def i4:List Nat:= [2097151,1048574,524286,196608,65536,0,0,16382,8190,3584,1536,512,0,254,126,48,16,0,6,2,0,0]
def jE:List (Nat×Nat):= [(1,0),(2,0),(3,1),(4,1),(5,1),(6,1),(7,1),(8,1),(9,3),(10,3),(11,3),(12,3),(13,1),(14,1),(15,5),(16,5),(17,5),(18,5),(19,1),(20,1),(0,7),(21,1)]
def jG:List (Nat×Nat):= [(1,0),(2,0),(3,0),(4,1),(5,1),(6,1),(7,1),(8,1),(9,1),(0,3),(10,1)]
def jC:List (Nat×Nat):= [(1,0),(2,0),(3,1),(4,1),(5,1),(6,1),(7,1),(8,1),(0,3),(9,1)]
theorem S2 {t st:Int} {e:Bool} {d:ByteArray} {k on w:Int} {x:Bool} {c la n:Int} {pa:Option Addr} {pn pc:Nat} {ps:List Pr} (hv:dT C pa rE ps) (hn:ps.length=pn) (hn2:pn<100000000) (hk:1≤w∧w≤1000∨¬(t=2∨t=3)) (hK:K (.string (u5 (eO t d k on w x c la n++xX ps))) C):CT 268 #[.agg #[I6 t,I6 st,.bool e,.string d,I6 k,I6 on,I6 w,.bool x,I6 c,I6 la,I6 n,.slice pa pn pc]] C K:=by
 subst hn
 have hh:=Yj t d k on w x c la n
 refine aH Tryz.func268 ?_
 repeat' (first|(show fN _ (.block 0 _) _ _ _;refine Ak3 (fun a C'=>∃b r:Nat,C'=Agp r (eO t d k on w x c la n)::pt b [I6 t,I6 st,.bool e,.string d,I6 k,I6 on,I6 w,.bool x,I6 c,I6 la,I6 n,.slice pa ps.length pc] 45::C∧cJ a [(1,PO b),(3,PO r),(4,.func (.func 347) #[] #[PO r]),(5,.func (.func 348) #[] #[])]) ?_ (fun a C' hI=>?_))|refine Jp ?_|refine Gp i5 i4 jE ?_|refine dw jG ?_|refine dw jC ?_|refine w5 ?_ ?_|((refine bh fun h=>?_) <;> try exact w6 h)|(refine aE fun hA=>?_;subst hA)|intro _|(show aA _ 347 _ _ _;refine CA (h:=Vi (xs:= []) (by exact kF) (by exact rfl) (by decide) ?_))|(show aA _ 348 _ _ _;refine CA (h:=Ow ?_))|(show aA _ 270 _ _ _;refine CA (h:=UR ?_))|(show aA _ 336 _ _ _;refine CA (h:=Ad1 ?_))|(show aA _ 349 _ _ _;refine CA (h:=Amk ?_)))
 all_goals first
  |(show dU _ _ _
    first
     |rw[JE (by omega)]
     |rw[hp2 (by omega)]
     |rw[hp3 (by omega)]
     |rw[hp4 (by omega)]
     |rw[hp5 (by omega)]
     |rw[hp6 (by omega)]
    exact ZP ⟨_,_,rfl,rfl,rfl,rfl,rfl,trivial⟩)
  |skip
 obtain⟨b,r,rfl,ha⟩:=hI
 refine⟨?_⟩
 refine t_n ?_
 refine fP _ ha ?_
 simp only[eP]
 repeat' (first|refine Jp ?_|refine Gp i5 i4 jE ?_|refine dw jG ?_|refine dw jC ?_|refine w5 ?_ ?_|((refine bh fun h=>?_) <;> try exact w6 h)|(refine aE fun hA=>?_;subst hA)|intro _)
 have hpl:=G7 ps
 have e0:eO t d k on w x c la n=eO t d k on w x c la n++xX (ps.take 0):=by rw[List.take_zero];exact(List.append_nil _).symm
 rw[e0]
 have hv2:dT (pt b [I6 t,I6 st,.bool e,.string d,I6 k,I6 on,I6 w,.bool x,I6 c,I6 la,I6 n,.slice pa ps.length pc] 45::C) pa rE ps:=bM hv
 refine fZ (fun m a C'=>∃j:Nat,j+m=ps.length∧C'=Agp r (eO t d k on w x c la n++xX (ps.take j))::pt b [I6 t,I6 st,.bool e,.string d,I6 k,I6 on,I6 w,.bool x,I6 c,I6 la,I6 n,.slice pa ps.length pc] 45::C∧cJ a [(3,PO r),(4,.func (.func 347) #[] #[PO r]),(5,.func (.func 348) #[] #[]),(82,.slice pa ps.length pc),(83,I6 ps.length),(84,I6 j)]) ps.length (bV ps.length ⟨0,by omega,rfl,rfl,rfl,rfl,rfl,rfl,rfl,trivial⟩) ?_
 rintro n1 a C' ⟨j,hj,rfl,ha⟩
 refine fP _ ha ?_
 simp only[eP]
 by_cases hlt:j<ps.length
 ·obtain⟨y,hy,hd⟩:=i7 (l:=ps) (j:=j) (by omega)
  have ht:=WV hy
  have hl2:(eO t d k on w x c la n++xX (ps.take j)).length+2<1000000000:=by
   rw[List.length_append,G7,List.length_take];omega
  repeat' (first|refine Jp ?_|refine Gp i5 i4 jE ?_|refine dw jG ?_|refine dw jC ?_|refine w5 ?_ ?_|((refine bh fun h=>?_) <;> try exact w6 h)|(refine aE fun hA=>?_;subst hA)|intro _|(show aA _ 347 _ _ _;refine CA (h:=Vi (xs:=eO t d k on w x c la n++xX (ps.take j)) (by exact kF) (by exact rfl) hl2 ?_))|(show aA _ 348 _ _ _;refine CA (h:=Ow ?_))|(show aA _ 336 _ _ _;refine CA (h:=Ad1 ?_)))
  all_goals exact bV (n1 - 1) ⟨j+1,by omega,by rw[ht,← List.append_assoc],rfl,rfl,rfl,rfl,rfl,rfl,trivial⟩
 ·obtain rfl:j=ps.length:=by omega
  rw[List.take_of_length_le (Nat.le_refl _)]
  refine qA fun A=>qA fun c'=>EC ?_
  have hl2:(eO t d k on w x c la n++xX ps).length=(eO t d k on w x c la n).length+(xX ps).length:=List.length_append
  repeat' (first|refine Jp ?_|refine Gp i5 i4 jE ?_|refine dw jG ?_|refine dw jC ?_|refine w5 ?_ ?_|((refine bh fun h=>?_) <;> try exact w6 h)|(refine aE fun hA=>?_;subst hA)|intro _|(show aA _ 335 _ _ _;refine CA (h:=R2 (ps:=eO t d k on w x c la n++xX ps) (by exact kF) rfl (by omega) ?_)))
  (refine aC ?_;exact aB (hK))
end Go.Proofs.YtifgibijcmppmaaGreat
namespace Go.Proofs.YtifgibijcmppmaaGreat
open Go Go.Proofs Go.Sl
attribute [local irreducible] aN fN cX bP aM aX aA dS dV aT dU pt ro eV star sep bH
variable {R C:List HP} {K:KP}
theorem La:∀(ps:List Pc) (n:Int),0≤n→eK ps=0→n+(kB ps).length≤4096→Jy ps n≤4096
 | [],n,_,_,h=>by simp[Jy,kB] at h ⊢;omega
 |p::l,n,h0,he,h=>by
  obtain⟨h1,h2⟩:=AA he
  have hl:=MS (n:=p.n) (s:=p.s) (Ep h1)
  have hc:((kB (p::l)).length:Int)=jY p.w p.s+(kB l).length:=by rw[← hl];simp[kB]
  have hnn:=E4 p.w p.s
  have hm:min (jY p.w p.s) 4097=jY p.w p.s:=by omega
  unfold Jy
  rw[hm,if_neg (by omega)]
  exact La l _ (by omega) h2 (by omega)
theorem Ajk {ps:List Pc} (h:eK ps=0) (h2:(kB ps).length≤4096):u5 ps=⟨(kB ps).toArray⟩:=by
 have h3:=La ps 0 (by omega) h (by omega)
 have he:wP ps=0:=by
  unfold wP
  rw[if_pos h,if_neg (by omega)]
 unfold u5
 rw[if_pos he]
theorem H6:∀(a b:List Pc),eK a=0→eK b=0→eK (a++b)=0
 | [],b,_,h=>h
 |p::l,b,h1,h=>by
  obtain⟨h2,h3⟩:=AA h1
  show(if iR p.n p.w=0 then eK (l++b) else _)=0
  rw[if_pos h2]
  exact H6 l b h3 h
def psL (ps:List Pr):List UInt8:=ps.flatMap fun p=>wB p.i 2++wB p.v 4
def sE (t:Int) (d:ByteArray) (k on w:Int) (x:Bool) (c la n:Int) (ps:List Pr):List UInt8:=if t=2∨t=3 then wB k 1++(wB (M9 x) 1++(wB (w - 1) 1++(wB 0 1++wB on 4))) else if t=4 then wB c 4 else if t=9 then wB la 4++wB c 4 else if t=10∨t=11 then wB n 4 else d.data.toList++psL ps
theorem Vo:∀ps:List Pr,(psL ps).length=6 * ps.length
 | []=>rfl
 |p::l=>by
  have:=Vo l
  unfold psL at this ⊢
  simp only[List.flatMap_cons,List.length_append,List.length_cons,this,sC]
  have a2:(2:Int).toNat=2:=rfl
  have a4:(4:Int).toNat=4:=rfl
  omega
theorem K9 {n:Int} (h:HR n=true):iR n 4=0:=by
 obtain⟨p1,p3,p4⟩:=Si
 have m:=CG (n:=n) (w:=4) (by decide)
 rw[show(4:Int).toNat=4 from rfl,p4] at m
 have:=(vW n).1 h
 exact m.2 (by omega)
theorem Alr {n:Int} (h:0≤n∧n≤65535):iR n 2=0:=by
 have m:=CG (n:=n) (w:=2) (by decide)
 rw[show(2:Int).toNat=2 from rfl,Abj] at m
 exact m.2 (by omega)
theorem Agg {n:Int} (h:0≤n∧n≤255):iR n 1=0:=by
 obtain⟨p1,p3,p4⟩:=Si
 have m:=CG (n:=n) (w:=1) (by decide)
 rw[show(1:Int).toNat=1 from rfl,p1] at m
 exact m.2 (by omega)
theorem H5:∀ {ps:List Pr},Rq ps=true→eK (xX ps)=0
 | [],_=>rfl
 |p::l,h=>by
  simp only[Rq,List.all_cons,Bool.and_eq_true,decide_eq_true_eq] at h
  have:=H5 (ps:=l) (by unfold Rq;simpa using h.2)
  show eK (⟨p.i,2,⟨#[]⟩⟩::⟨p.v,4,⟨#[]⟩⟩::xX l)=0
  simp only[eK]
  rw[if_pos (Alr h.1.1),if_pos (K9 h.1.2)]
  exact this
theorem HX:∀ps:List Pr,kB (xX ps)=psL ps
 | []=>rfl
 |p::l=>by
  have:=HX l
  show kB (⟨p.i,2,⟨#[]⟩⟩::⟨p.v,4,⟨#[]⟩⟩::xX l)=psL (p::l)
  unfold kB at this ⊢
  rw[List.flatMap_cons,List.flatMap_cons,this]
  simp[QT,psL]
theorem QM (a b:List Pc):kB (a++b)=kB a++kB b:=by unfold kB;simp
theorem Gv {t st:Int} {e:Bool} {d:ByteArray} {k on w:Int} {x:Bool} {c la n:Int} {ps:List Pr} (h:sJ t st e d k on w x c la n ps):u5 (eO t d k on w x c la n++xX ps)=⟨(sE t d k on w x c la n ps).toArray⟩∧(sE t d k on w x c la n ps).length≤256:=by
 obtain⟨h1,h2,h3,h4,h5,h6,h7,h8,h9,h10,h11,h12,h13,h14,h15,h16,h17,h18,h19,h20,h21⟩:=h
 have hd:d.data.toList.length=d.size:=by simp
 have hp:=H5 h17
 have hl:=Vo ps
 have a1:(1:Int).toNat=1:=rfl
 have a4:(4:Int).toNat=4:=rfl
 have key:∀hs:List Pc,eO t d k on w x c la n=hs→eK hs=0→kB hs++psL ps=sE t d k on w x c la n ps→(sE t d k on w x c la n ps).length≤256→u5 (eO t d k on w x c la n++xX ps)=⟨(sE t d k on w x c la n ps).toArray⟩∧(sE t d k on w x c la n ps).length≤256:=by
  intro hs e1 e2 e3 e4
  rw[e1,Ajk (H6 _ _ e2 hp) (by rw[QM,HX,e3];omega),QM,HX,e3]
  exact⟨rfl,e4⟩
 have hps:¬t=5→psL ps= []:=fun h=>by
  have:ps.length=0:=by
   rcases Nat.eq_zero_or_pos ps.length with h'|h'
   ·exact h'
   ·exact absurd (h10 h') h
  rw[List.length_eq_zero_iff.1 this];rfl
 rcases(by omega:(t=0∨t=1∨t=7∨t=8)∨(t=2∨t=3)∨t=4∨t=9∨(t=10∨t=11)∨t=5∨t=6) with h|h|h|h|h|h|h
 ·refine key [⟨0,0,d⟩] (by unfold eO;rw[if_pos h]) rfl ?_ ?_
  ·rw[hps (by omega)]
   unfold sE
   rw[if_neg (by omega),if_neg (by omega),if_neg (by omega),if_neg (by omega),hps (by omega)]
   simp[kB,QT,show wB 0 0= [] from rfl]
  ·unfold sE
   rw[if_neg (by omega),if_neg (by omega),if_neg (by omega),if_neg (by omega),hps (by omega)]
   rw[List.append_nil,hd]
   by_cases h':t≤1
   ·exact h13 h'
   ·have:=h14 (by omega);omega
 ·have hdep:=h16 h
  unfold Te at hdep
  simp only[Bool.and_eq_true,decide_eq_true_eq] at hdep
  have hb:=NW x
  have hk:0≤k∧k≤255:=by
   by_cases h2:t=2
   ·have:=h15 h2;omega
   ·have:k=0:=Classical.byContradiction fun h'=>h2 (h6 h')
    omega
  refine key [⟨k,1,⟨#[]⟩⟩,⟨M9 x,1,⟨#[]⟩⟩,⟨w - 1,1,⟨#[]⟩⟩,⟨0,1,⟨#[]⟩⟩,⟨on,4,⟨#[]⟩⟩] (by unfold eO;rw[if_neg (by omega),if_pos h]) ?_ ?_ ?_
  ·simp only[eK]
   rw[if_pos (Agg hk),if_pos (Agg (by omega)),if_pos (Agg (by omega)),if_pos (Agg (by omega)),if_pos (K9 hdep.1)]
  ·rw[hps (by omega)]
   unfold sE
   rw[if_pos h]
   simp[kB,QT]
  ·unfold sE
   rw[if_pos h]
   simp only[List.length_append,sC]
   omega
 ·refine key [⟨c,4,⟨#[]⟩⟩] (by unfold eO;rw[if_neg (by omega),if_neg (by omega),if_pos h]) ?_ ?_ ?_
  ·simp only[eK]
   rw[if_pos (K9 h18)]
  ·rw[hps (by omega)]
   unfold sE
   rw[if_neg (by omega),if_pos h]
   simp[kB,QT]
  ·unfold sE
   rw[if_neg (by omega),if_pos h,sC]
   omega
 ·refine key [⟨la,4,⟨#[]⟩⟩,⟨c,4,⟨#[]⟩⟩] (by unfold eO;rw[if_neg (by omega),if_neg (by omega),if_neg (by omega),if_pos h]) ?_ ?_ ?_
  ·simp only[eK]
   rw[if_pos (K9 h19),if_pos (K9 h18)]
  ·rw[hps (by omega)]
   unfold sE
   rw[if_neg (by omega),if_neg (by omega),if_pos h]
   simp[kB,QT]
  ·unfold sE
   rw[if_neg (by omega),if_neg (by omega),if_pos h,List.length_append,sC,sC]
   omega
 ·refine key [⟨n,4,⟨#[]⟩⟩] (by unfold eO;rw[if_neg (by omega),if_neg (by omega),if_neg (by omega),if_neg (by omega),if_pos h]) ?_ ?_ ?_
  ·simp only[eK]
   rw[if_pos (K9 h20)]
  ·rw[hps (by omega)]
   unfold sE
   rw[if_neg (by omega),if_neg (by omega),if_neg (by omega),if_pos h]
   simp[kB,QT]
  ·unfold sE
   rw[if_neg (by omega),if_neg (by omega),if_neg (by omega),if_pos h,sC]
   omega
 all_goals
  have hd0:d.data.toList= []:=by
   rcases Nat.eq_zero_or_pos d.size with h'|h'
   ·exact List.length_eq_zero_iff.1 (by omega)
   ·have:=h12 h';omega
  refine key [] (by unfold eO;rw[if_neg (by omega),if_neg (by omega),if_neg (by omega),if_neg (by omega),if_neg (by omega)]) rfl ?_ ?_
  ·unfold sE
   rw[if_neg (by omega),if_neg (by omega),if_neg (by omega),if_neg (by omega),hd0]
   rfl
  ·unfold sE
   rw[if_neg (by omega),if_neg (by omega),if_neg (by omega),if_neg (by omega),hd0,List.nil_append]
   omega
end Go.Proofs.YtifgibijcmppmaaGreat
end
namespace Go.Proofs.YtifgibijcmppmaaGreat
open Go Go.Proofs Go.Sl
attribute [local irreducible] aN fN cX bP aM aX aA dS dV aT dU pt ro eV star sep bH
section
variable {R C:List HP} {K:KP}
theorem Zt (s:ByteArray) (i j:Nat):xU s i j=AF ((s.data.toList.drop i).take (j - i)):=by
 unfold xU;simp[List.extract]
theorem D2 (s:ByteArray) (i j:Nat):0≤xU s i j∧xU s i j<256 ^ (j - i):=by
 rw[Zt]
 refine⟨UP _,Int.lt_of_lt_of_le (VA _) ?_⟩
 exact_mod_cast Nat.pow_le_pow_right (by decide) (by rw[List.length_take];omega)
end
section
variable {R C:List HP} {K:KP}
def gD (t:Int) (p:ByteArray):ByteArray:=if t=0∨t=1∨t=7∨t=8 then p else⟨#[]⟩
def gK (t:Int) (p:ByteArray):Int:=if t=2∨t=3 then xU p 0 1 else 0
def gO (t:Int) (p:ByteArray):Int:=if t=2∨t=3 then xU p 4 8 else 0
def gW (t:Int) (p:ByteArray):Int:=if t=2∨t=3 then xU p 2 3+1 else 0
def gX (t:Int) (p:ByteArray):Bool:=if t=2∨t=3 then(xU p 1 2 == 1) else false
def gC (t:Int) (p:ByteArray):Int:=if t=4 then xU p 0 4 else if t=9 then xU p 4 8 else 0
def gL (t:Int) (p:ByteArray):Int:=if t=9 then xU p 0 4 else 0
def gN (t:Int) (p:ByteArray):Int:=if t=10∨t=11 then xU p 0 4 else 0
def Aln (p:ByteArray) (j:Nat):Pr:=⟨xU p (6 * j) (6 * j+2),xU p (6 * j+2) (6 * j+2+4)⟩
def QO (p:ByteArray) (n:Nat):List Pr:=(List.range n).map (Aln p)
def gP (t:Int) (p:ByteArray):List Pr:=if t=5 then QO p (p.size / 6) else []
theorem Wk (p:ByteArray) (n:Nat):QO p (n+1)=QO p n++ [Aln p n]:=by unfold QO;rw[List.range_succ];simp
theorem QN (p:ByteArray) (n:Nat):(QO p n).length=n:=by unfold QO;simp
theorem Ajm (t:Int) (p:ByteArray):(gP t p).length=if t=5 then p.size / 6 else 0:=by
 unfold gP
 split
 ·exact QN _ _
 ·rfl
def SV (t:Int) (p:ByteArray):Prop:=0≤t∧t≤11∧p.size≤256∧(t=5→p.size % 6=0∧p.size≤48)∧(t=2∨t=3∨t=7∨t=8∨t=9→p.size=8)∧(t=4∨t=10∨t=11→p.size=4)∧(t=6→p.size=0)
theorem WT {l t f s:Int} {p:ByteArray} (h:xM l t f s=0) (hl:l=p.size):SV t p:=by
 subst hl
 unfold xM F6 at h
 unfold SV
 (repeat' split at h) <;> omega
theorem Ame {p i:Nat} {s:ByteArray} (h:i+2≤s.size) (hK:K (I6 (xU s i (i+2))) (eT p (s.extract (i+2) s.size) false::R)):CT 327 #[PO p,I6 2] (eT p (s.extract i s.size) false::R) K:=
 MC (by decide) (by omega) h hK
theorem YE (p:ByteArray):AB p.size p false=p:=by
 obtain⟨t1,t2,t3⟩:=VE (s:=p) (at_:=0) (n:=p.size) (by omega) (by omega) (by omega)
 simpa using t2
def dQ:List (Nat×Nat):= [(2,0),(3,1),(4,1),(5,1),(6,0),(7,1),(0,3),(1,3),(8,1),(9,0),(10,1)]
theorem Pk {l t f st:Int} {p:ByteArray} (h:SV t p) (hK:∀A c,K (.agg #[I6 t,I6 st,.bool (f == 1),.string (gD t p),I6 (gK t p),I6 (gO t p),I6 (gW t p),.bool (gX t p),I6 (gC t p),I6 (gL t p),I6 (gN t p),.slice A (gP t p).length c]) (bQ A c 148 rE (gP t p)::R)):CT 330 #[.agg #[I6 l,I6 t,I6 f,I6 st],.string p] R K:=by
 obtain⟨h1,h2,h3,h4,h5,h6,h7⟩:=h
 rcases(by omega:(t=0∨t=1∨t=7∨t=8)∨(t=2∨t=3)∨t=4∨t=9∨(t=10∨t=11)∨t=6∨t=5) with h|h|h|h|h|h|h
 ·have q1:¬(t=2∨t=3):=by omega
  have q2:¬t=4:=by omega
  have q3:¬t=9:=by omega
  have q4:¬(t=10∨t=11):=by omega
  have q5:¬t=5:=by omega
  simp only[gD,gK,gO,gW,gX,gC,gL,gN,gP,if_pos h,if_neg q1,if_neg q2,if_neg q3,if_neg q4,if_neg q5,List.length_nil] at hK
  refine aH Tryz.func330 ?_
  repeat' (first|refine UN ?_|refine dw dQ ?_|refine w5 ?_ ?_|((refine bh fun h=>?_) <;> try exact w6 h)|(refine aE fun hA=>?_;subst hA)|intro _|(show aA _ 326 _ _ _;refine CA (h:=Ut p (fun r=>?_)))|(show aA _ 379 _ _ _;refine CA (h:=Aec (by simp[lA]) ?_)))
  all_goals(rw[YE];(refine aC ?_;exact aB (hK none 0)))
 ·have q1:¬(t=0∨t=1∨t=7∨t=8):=by omega
  have q2:¬t=4:=by omega
  have q3:¬t=9:=by omega
  have q4:¬(t=10∨t=11):=by omega
  have q5:¬t=5:=by omega
  simp only[gD,gK,gO,gW,gX,gC,gL,gN,gP,if_pos h,if_neg q1,if_neg q2,if_neg q3,if_neg q4,if_neg q5,List.length_nil] at hK
  have n1:0≤xU p (0+1+1) (0+1+1+1)∧xU p (0+1+1) (0+1+1+1)<256:=⟨(D2 p 2 3).1,by have:=(D2 p 2 3).2;simpa using this⟩
  refine aH Tryz.func330 ?_
  repeat' (first|refine UN ?_|refine dw dQ ?_|refine w5 ?_ ?_|((refine bh fun h=>?_) <;> try exact w6 h)|(refine aE fun hA=>?_;subst hA)|intro _|(show aA _ 326 _ _ _;refine CA (h:=uX (fun r=>?_)))|(show aA _ 327 _ _ _;refine CA (h:=Qt (by omega) ?_))|(show aA _ 327 _ _ _;refine CA (h:=K2 (by omega) ?_)))
  all_goals(refine aC ?_;exact aB (hK none 0))
 ·subst h
  simp[gD,gK,gO,gW,gX,gC,gL,gN,gP] at hK
  refine aH Tryz.func330 ?_
  repeat' (first|refine UN ?_|refine dw dQ ?_|refine w5 ?_ ?_|((refine bh fun h=>?_) <;> try exact w6 h)|(refine aE fun hA=>?_;subst hA)|intro _|(show aA _ 326 _ _ _;refine CA (h:=uX (fun r=>?_)))|(show aA _ 327 _ _ _;refine CA (h:=Qt (by omega) ?_))|(show aA _ 327 _ _ _;refine CA (h:=K2 (by omega) ?_)))
  all_goals(refine aC ?_;exact aB (hK none 0))
 ·subst h
  simp[gD,gK,gO,gW,gX,gC,gL,gN,gP] at hK
  refine aH Tryz.func330 ?_
  repeat' (first|refine UN ?_|refine dw dQ ?_|refine w5 ?_ ?_|((refine bh fun h=>?_) <;> try exact w6 h)|(refine aE fun hA=>?_;subst hA)|intro _|(show aA _ 326 _ _ _;refine CA (h:=uX (fun r=>?_)))|(show aA _ 327 _ _ _;refine CA (h:=Qt (by omega) ?_))|(show aA _ 327 _ _ _;refine CA (h:=K2 (by omega) ?_)))
  all_goals(refine aC ?_;exact aB (hK none 0))
 ·have q1:¬(t=0∨t=1∨t=7∨t=8):=by omega
  have q2:¬t=4:=by omega
  have q3:¬t=9:=by omega
  have q4:¬(t=2∨t=3):=by omega
  have q5:¬t=5:=by omega
  simp only[gD,gK,gO,gW,gX,gC,gL,gN,gP,if_pos h,if_neg q1,if_neg q2,if_neg q3,if_neg q4,if_neg q5,List.length_nil] at hK
  refine aH Tryz.func330 ?_
  repeat' (first|refine UN ?_|refine dw dQ ?_|refine w5 ?_ ?_|((refine bh fun h=>?_) <;> try exact w6 h)|(refine aE fun hA=>?_;subst hA)|intro _|(show aA _ 326 _ _ _;refine CA (h:=uX (fun r=>?_)))|(show aA _ 327 _ _ _;refine CA (h:=Qt (by omega) ?_))|(show aA _ 327 _ _ _;refine CA (h:=K2 (by omega) ?_)))
  all_goals(refine aC ?_;exact aB (hK none 0))
 ·subst h
  simp[gD,gK,gO,gW,gX,gC,gL,gN,gP] at hK
  refine aH Tryz.func330 ?_
  repeat' (first|refine UN ?_|refine dw dQ ?_|refine w5 ?_ ?_|((refine bh fun h=>?_) <;> try exact w6 h)|(refine aE fun hA=>?_;subst hA)|intro _|(show aA _ 326 _ _ _;refine CA (h:=uX (fun r=>?_))))
  all_goals(refine aC ?_;exact aB (hK none 0))
 ·subst h
  obtain⟨hm,h48⟩:=h4 rfl
  simp[gD,gK,gO,gW,gX,gC,gL,gN,gP] at hK
  refine aH Tryz.func330 ?_
  repeat' (first|refine UN ?_|refine dw dQ ?_|refine w5 ?_ ?_|((refine bh fun h=>?_) <;> try exact w6 h)|(refine aE fun hA=>?_;subst hA)|intro _|(show aA _ 326 _ _ _;refine CA (h:=uX (fun r=>?_))))
  rename_i r1 r2 r3
  refine fZ (fun m a C'=>∃(j:Nat) (B:Option Addr) (kk:Nat),6 * j+m=p.size∧C'=pt r3 [I6 5,I6 st,.bool (f == 1),.string ⟨#[]⟩,I6 0,I6 0,I6 0,.bool false,I6 0,I6 0,I6 0,.slice B (QO p j).length kk] 45::bQ B kk 148 rE (QO p j)::eT r (p.extract (6 * j) p.size) false::pt r2 [I6 0,I6 0,.bool false,.string ⟨#[]⟩,I6 0,I6 0,I6 0,.bool false,I6 0,I6 0,I6 0,.slice none 0 0] 45::R∧cJ a [(4,PO r2),(5,PO r3),(6,PO r)]) p.size
   (bV p.size ⟨0,none,0,by omega,rfl,rfl,rfl,rfl,trivial⟩) ?_
  rintro n1 a C' ⟨j,B,kk,hj,rfl,ha⟩
  refine fP _ ha ?_
  simp only[eP]
  have hs:(p.extract (6 * j) p.size).size=p.size - 6 * j:=by simp
  have hpl:=QN p j
  by_cases hlt:6 * j<p.size
  ·have h6:6 * j+2+4≤p.size:=by omega
   repeat' (first|refine UN ?_|refine dw dQ ?_|refine w5 ?_ ?_|((refine bh fun h=>?_) <;> try exact w6 h)|(refine aE fun hA=>?_;subst hA)|intro _|(show aA _ 380 _ _ _;refine CA (h:=Nw _ _ _ ?_))|(show aA _ 327 _ _ _;refine CA (h:=Ame (by omega) ?_))|(show aA _ 327 _ _ _;refine CA (h:=K2 (by omega) ?_)))
   all_goals exact bV (n1 - 6) ⟨j+1,_,_,by omega,by rw[Wk,show 6 * (j+1)=6 * j+2+4 by omega],rfl,rfl,rfl,trivial⟩
  ·have:j=p.size / 6:=by omega
   subst this
   repeat' (first|refine UN ?_|refine dw dQ ?_|refine w5 ?_ ?_|((refine bh fun h=>?_) <;> try exact w6 h)|(refine aE fun hA=>?_;subst hA)|intro _|(show aA _ 380 _ _ _;refine CA (h:=Nw _ _ _ ?_)))
   all_goals(refine aC ?_;exact aB (hK _ _))
end
section
variable {R C:List HP} {K:KP}
def b2 (t st:Int):Bool:=!(decide (0≤t) && decide (t≤11) && yD t st)
def b4 (t:Int) (e:Bool) (k c la n:Int) (m:Nat):Bool:=(e && decide (1<t)) || (!decide (k=0) && !decide (t=2)) || (!decide (c=0) && !decide (t=4) && !decide (t=9)) || (!decide (la=0) && !decide (t=9)) || (!decide (n=0) && decide (t<10)) || (decide (0<m) && !decide (t=5))
end
end Go.Proofs.YtifgibijcmppmaaGreat
section
namespace Go.Proofs.YtifgibijcmppmaaGreat
open Go Go.Proofs Go.Sl
attribute [local irreducible] aN fN cX bP aM aX aA dS dV aT dU pt ro eV star sep bH
attribute [local irreducible] ByteArray.extract xU eT
variable {R C:List HP} {K:KP}
def gB (t st:Int) (e:Bool) (p:ByteArray):Bool:=u4 t st e (gD t p) (gK t p) (gO t p) (gW t p) (gX t p) (gC t p) (gL t p) (gN t p) (gP t p)
def gY (t:Int) (p:ByteArray):ByteArray:=⟨(sE t (gD t p) (gK t p) (gO t p) (gW t p) (gX t p) (gC t p) (gL t p) (gN t p) (gP t p)).toArray⟩
def gOk (t st:Int) (e:Bool) (p:ByteArray):Bool:=gB t st e p && decide (gY t p=p)
end Go.Proofs.YtifgibijcmppmaaGreat
namespace Go.Proofs.YtifgibijcmppmaaGreat
open Go Go.Proofs Go.Sl
attribute [local irreducible] aN fN cX bP aM aX aA dS dV aT dU pt ro eV star sep bH
attribute [local irreducible] ByteArray.extract xU eT
variable {R C:List HP} {K:KP}
theorem UI {t st:Int} {e:Bool} {d:ByteArray} {k on w:Int} {x:Bool} {c la n:Int} {pa:Option Addr} {pn pc:Nat} {ps:List Pr} (h:sJ t st e d k on w x c la n ps) (hv:dT C pa rE ps) (hn:ps.length=pn) (hK:K (.string ⟨(sE t d k on w x c la n ps).toArray⟩) C):CT 268 #[.agg #[I6 t,I6 st,.bool e,.string d,I6 k,I6 on,I6 w,.bool x,I6 c,I6 la,I6 n,.slice pa pn pc]] C K:=by
 have hl:=h.2.2.2.2.2.2.2.2.2.2.2.2.2.2.2.2.2.2.2.2
 have hd:=h.2.2.2.2.2.2.2.2.2.2.2.2.2.2.2.1
 refine S2 hv hn (by omega) ?_ (by rw[(Gv h).1];exact hK)
 by_cases h2:t=2∨t=3
 ·have:=hd h2
  unfold Te at this
  simp only[Bool.and_eq_true,decide_eq_true_eq] at this
  omega
 ·exact .inr h2
def gE (l t f s:Int) (p:ByteArray):Int:=if xM l t f s=0 then(if(p.size:Int)=l then(if gOk t s (f == 1) p=true then 0 else 1) else 6) else xM l t f s
def Alb:Value:=.agg #[I6 0,I6 0,.bool false,.string ⟨#[]⟩,I6 0,I6 0,I6 0,.bool false,I6 0,I6 0,I6 0,.slice none 0 0]
theorem UH {l t f s:Int} {p:ByteArray} (hf:-9223372036854775808≤f∧f≤9223372036854775807) (hK1:gE l t f s p=0→∀A c,K (.tuple #[.agg #[I6 t,I6 s,.bool (f == 1),.string (gD t p),I6 (gK t p),I6 (gO t p),I6 (gW t p),.bool (gX t p),I6 (gC t p),I6 (gL t p),I6 (gN t p),.slice A (gP t p).length c],I6 0]) (bQ A c 148 rE (gP t p)::R))
  (hK2:gE l t f s p≠0→K (.tuple #[Alb,I6 (gE l t f s p)]) R):CT 245 #[.agg #[I6 l,I6 t,I6 f,I6 s],.string p] R K:=by
 by_cases h1:xM l t f s=0
 ·by_cases h2:(p.size:Int)=l
  ·have hL:=WT h1 h2.symm
   have hgl:=Ajm t p
   have hp1000:(gP t p).length<1000000000000000:=by rw[hgl];have:=hL.2.2.1;split <;> omega
   unfold gE at hK1 hK2
   rw[if_pos h1,if_pos h2] at hK1 hK2
   unfold gOk gB at hK1 hK2
   cases hb:u4 t s (f == 1) (gD t p) (gK t p) (gO t p) (gW t p) (gX t p) (gC t p) (gL t p) (gN t p) (gP t p)
   ·rw[hb] at hK2
    simp only[Bool.false_and,Bool.false_eq_true,if_false] at hK2
    have hi:NI t s (f == 1) (gD t p) (gK t p) (gO t p) (gW t p) (gX t p) (gC t p) (gL t p) (gN t p) (gP t p)=2:=by unfold NI;rw[hb];rfl
    refine aH Tryz.func245 ?_
    repeat' (first|refine v82 ?_|refine w5 ?_ ?_|((refine bh fun h=>?_) <;> try exact w6 h)|(refine aE fun hA=>?_;subst hA)|intro _|(show aA _ 244 _ _ _;refine CA (h:=vQ hf ?_))|(show aA _ 330 _ _ _;refine CA (h:=Pk hL (fun A c=>?_)))|(show aA _ 112 _ _ _;refine CA (h:=BC (ps:=gP t p) (by exact kF) rfl hp1000 ?_)))
    all_goals(refine aC ?_;exact aB (hK2 (by decide)))
   ·rw[hb] at hK1 hK2
    have hR:=(GN _ _ _ _ _ _ _ _ _ _ _ _).1 hb
    have hi:NI t s (f == 1) (gD t p) (gK t p) (gO t p) (gW t p) (gX t p) (gC t p) (gL t p) (gN t p) (gP t p)=0:=by unfold NI;rw[hb];rfl
    refine aH Tryz.func245 ?_
    repeat' (first|refine v82 ?_|refine w5 ?_ ?_|((refine bh fun h=>?_) <;> try exact w6 h)|(refine aE fun hA=>?_;subst hA)|intro _|(show aA _ 244 _ _ _;refine CA (h:=vQ hf ?_))|(show aA _ 330 _ _ _;refine CA (h:=Pk hL (fun A c=>?_)))|(show aA _ 112 _ _ _;refine CA (h:=BC (ps:=gP t p) (by exact kF) rfl hp1000 ?_))|(show aA _ 268 _ _ _;refine CA (h:=UI (ps:=gP t p) hR (by exact kF) rfl ?_)))
    ·have hd:decide (gY t p=p)=false:=decide_eq_false fun e=>h (congrArg ByteArray.toList e)
     rw[hd] at hK2
     (refine aC ?_;exact aB (hK2 (by decide)))
    ·have hd:decide (gY t p=p)=true:=decide_eq_true (S6.1 h)
     rw[hd] at hK1
     (refine aC ?_;exact aB (hK1 rfl _ _))
  ·unfold gE at hK2
   rw[if_pos h1,if_neg h2] at hK2
   refine aH Tryz.func245 ?_
   repeat' (first|refine v82 ?_|refine w5 ?_ ?_|((refine bh fun h=>?_) <;> try exact w6 h)|(refine aE fun hA=>?_;subst hA)|intro _|(show aA _ 244 _ _ _;refine CA (h:=vQ hf ?_)))
   all_goals(refine aC ?_;exact aB (hK2 (by decide)))
 ·unfold gE at hK2
  rw[if_neg h1] at hK2
  refine aH Tryz.func245 ?_
  repeat' (first|refine v82 ?_|refine w5 ?_ ?_|((refine bh fun h=>?_) <;> try exact w6 h)|(refine aE fun hA=>?_;subst hA)|intro _|(show aA _ 244 _ _ _;refine CA (h:=vQ hf ?_)))
  all_goals(refine aC ?_;exact aB (hK2 h1))
end Go.Proofs.YtifgibijcmppmaaGreat
end
section
namespace Go.Proofs.YtifgibijcmppmaaGreat
open Go Go.Proofs Go.Sl
attribute [local irreducible] aN fN cX bP aM aX aA dS dV aT dU pt ro eV star sep bH
attribute [local irreducible] ByteArray.extract xU eT
variable {R C:List HP} {K:KP}
def frB (t st:Int) (e:Bool) (d:ByteArray) (k on w:Int) (x:Bool) (c la n:Int) (ps:List Pr):ByteArray:=B7 ((ByteArray.mk (sE t d k on w x c la n ps).toArray).size:Nat) t (M9 e) st++⟨(sE t d k on w x c la n ps).toArray⟩
theorem HK {t st:Int} {e:Bool} {d:ByteArray} {k on w:Int} {x:Bool} {c la n:Int} {ps:List Pr} (h:sJ t st e d k on w x c la n ps):hOk ((ByteArray.mk (sE t d k on w x c la n ps).toArray).size:Nat) t (M9 e) st=true:=by
 have hl:=(Gv h).2
 have hb:=NW e
 obtain⟨h1,h2,_⟩:=h
 unfold hOk
 simp only[Bool.and_eq_true,decide_eq_true_eq,vR]
 omega
theorem Kx {l t f s:Int} (h:hOk l t f s=true):(B7 l t f s).size=9:=by
 have e:=Ky h
 have:(B7 l t f s).data.toList.length=(B7 l t f s).size:=by simp
 rw[← this,e]
 simp only[List.length_append,sC]
 decide
theorem iN {t st:Int} {e:Bool} {d:ByteArray} {k on w:Int} {x:Bool} {c la n:Int} {pa:Option Addr} {pn pc:Nat} {ps:List Pr} (h:u4 t st e d k on w x c la n ps=true) (hv:dT C pa rE ps) (hn:ps.length=pn) (hn2:pn<1000000000000000) (hK:K (I6 0) C):CT 112 #[.agg #[I6 t,I6 st,.bool e,.string d,I6 k,I6 on,I6 w,.bool x,I6 c,I6 la,I6 n,.slice pa pn pc]] C K:=by
 refine BC hv hn hn2 ?_
 unfold NI;rw[h];exact hK
theorem Bv {t st:Int} {e:Bool} {d:ByteArray} {k on w:Int} {x:Bool} {c la n:Int} {pa:Option Addr} {pn pc:Nat} {ps:List Pr} (h:u4 t st e d k on w x c la n ps=false) (hv:dT C pa rE ps) (hn:ps.length=pn) (hn2:pn<1000000000000000) (hK:K (I6 2) C):CT 112 #[.agg #[I6 t,I6 st,.bool e,.string d,I6 k,I6 on,I6 w,.bool x,I6 c,I6 la,I6 n,.slice pa pn pc]] C K:=by
 refine BC hv hn hn2 ?_
 unfold NI;rw[h];exact hK
def DC:List (Nat×Nat):= [(4,0),(5,0),(6,1),(0,1),(1,1),(2,1),(3,1),(7,1),(8,1),(9,0),(10,1),(11,0),(12,0),(13,0),(14,0),(15,0)]
theorem O4 {t st:Int} {e:Bool} {d:ByteArray} {k on w:Int} {x:Bool} {c la n:Int} {pa:Option Addr} {pn pc:Nat} {ps:List Pr} (h:sJ t st e d k on w x c la n ps) (hv:dT C pa rE ps) (hn:ps.length=pn) (hK:K (.tuple #[.string (frB t st e d k on w x c la n ps),I6 0]) C):CT 175 #[.agg #[I6 t,I6 st,.bool e,.string d,I6 k,I6 on,I6 w,.bool x,I6 c,I6 la,I6 n,.slice pa pn pc]] C K:=by
 have hl:=h.2.2.2.2.2.2.2.2.2.2.2.2.2.2.2.2.2.2.2.2
 have hc:=(GN _ _ _ _ _ _ _ _ _ _ _ _).2 h
 have hn2:pn<1000000000000000:=by omega
 have ho:=HK h
 have hs:=Kx ho
 have hp:=(Gv h).2
 have hps:(ByteArray.mk (sE t d k on w x c la n ps).toArray).size≤256:=by rw[vR];exact hp
 unfold frB at hK
 refine aH Tryz.func175 ?_
 repeat' (first|refine v60 ?_|refine dw DC ?_|refine w5 ?_ ?_|((refine bh fun h=>?_) <;> try exact w6 h)|(refine aE fun hA=>?_;subst hA)|intro _|(show aA _ 112 _ _ _;refine CA (h:=iN (ps:=ps) hc (bM hv) hn hn2 ?_))|(show aA _ 268 _ _ _;refine CA (h:=UI (ps:=ps) h (bM hv) hn ?_))|(show aA _ 270 _ _ _;refine CA (h:=UR ?_))|(show aA _ 269 _ _ _;refine CA (h:=Aa9 ho ?_)))
 all_goals(refine aC ?_;exact aB (hK))
end Go.Proofs.YtifgibijcmppmaaGreat
namespace Go.Proofs.YtifgibijcmppmaaGreat
open Go Go.Proofs Go.Sl
attribute [local irreducible] aN fN cX bP aM aX aA dS dV aT dU pt ro eV star sep bH
attribute [local irreducible] ByteArray.extract xU eT
variable {R C:List HP} {K:KP}
theorem Y1 {l t f s:Int} {p:ByteArray} (hf:-9223372036854775808≤f∧f≤9223372036854775807) (h:gE l t f s p=0) (hK:∀A c,K (.tuple #[.agg #[I6 t,I6 s,.bool (f == 1),.string (gD t p),I6 (gK t p),I6 (gO t p),I6 (gW t p),.bool (gX t p),I6 (gC t p),I6 (gL t p),I6 (gN t p),.slice A (gP t p).length c],I6 0]) (bQ A c 148 rE (gP t p)::R)):CT 245 #[.agg #[I6 l,I6 t,I6 f,I6 s],.string p] R K:=UH hf (fun _=>hK) (fun h'=>absurd h h')
theorem ZD {l t f s:Int} {p:ByteArray} (hf:-9223372036854775808≤f∧f≤9223372036854775807) (h:gE l t f s p≠0) (hK:K (.tuple #[.agg #[I6 0,I6 0,.bool false,.string ⟨#[]⟩,I6 0,I6 0,I6 0,.bool false,I6 0,I6 0,I6 0,.slice none 0 0],I6 (gE l t f s p)]) R):CT 245 #[.agg #[I6 l,I6 t,I6 f,I6 s],.string p] R K:=UH hf (fun h'=>absurd h' h) (fun _=>hK)
end Go.Proofs.YtifgibijcmppmaaGreat
namespace Go.Proofs.YtifgibijcmppmaaGreat
open Go Go.Proofs Go.Sl
attribute [local irreducible] aN fN cX bP aM aX aA dS dV aT dU pt ro eV star sep bH
attribute [local irreducible] ByteArray.extract xU eT
variable {R C:List HP} {K:KP}
def fmD:List Value→Option Fm
 | [.int .i64 t,.int .i64 st,.bool e,.string d,.int .i64 k,.int .i64 on,.int .i64 w,.bool x,.int .i64 c,.int .i64 la,.int .i64 n,.slice pa pn pc]=>some ⟨t,st,e,d,k,on,w,x,c,la,n,pa,pn,pc,[]⟩
 |_=>none
theorem Akb (cs:List Value) (y:Fm) (h:fmD cs=some y): [I6 y.t,I6 y.st,.bool y.e,.string y.d,I6 y.k,I6 y.on,I6 y.w,.bool y.x,I6 y.c,I6 y.la,I6 y.n,.slice y.pa y.pn y.pc]=cs:=by
 unfold fmD at h
 split at h
 ·cases h;rfl
 ·cases h
def uR:tJ Fm:= { enc:=fun y=> [I6 y.t,I6 y.st,.bool y.e,.string y.d,I6 y.k,I6 y.on,I6 y.w,.bool y.x,I6 y.c,I6 y.la,I6 y.n,.slice y.pa y.pn y.pc],sz:=12,dec:=fmD,len:=fun _=>rfl,one:=fun _=>rfl,ok:=Akb }
def FmV (C:List HP) (y:Fm):Prop:=dT C y.pa rE y.ps∧y.ps.length=y.pn
def mK (y:Fm):Bool:=u4 y.t y.st y.e y.d y.k y.on y.w y.x y.c y.la y.n y.ps
def S5 (y:Fm):ByteArray:=frB y.t y.st y.e y.d y.k y.on y.w y.x y.c y.la y.n y.ps
def cZ (y:Fm):Prop:=sJ y.t y.st y.e y.d y.k y.on y.w y.x y.c y.la y.n y.ps
theorem uO (y:Fm):mK y=true↔cZ y:=GN _ _ _ _ _ _ _ _ _ _ _ _
theorem Ail {y:Fm} (h:cZ y):(S5 y).size≤265:=by
 have h1:=Kx (HK h)
 have h2:=(Gv h).2
 have:(S5 y).size=9+(sE y.t y.d y.k y.on y.w y.x y.c y.la y.n y.ps).length:=by
  unfold S5 frB
  rw[ByteArray.size_append,h1,vR]
 omega
def sG (l:List Fm):List UInt8:=l.flatMap fun y=>(S5 y).data.toList
theorem Mz:∀ {l:List Fm},(∀y∈l,cZ y)→(sG l).length≤265 * l.length
 | [],_=>by simp[sG]
 |y::l,h=>by
  have h1:=Ail (h y (by simp))
  have h2:=Mz (l:=l) fun z hz=>h z (List.mem_cons_of_mem _ hz)
  have e:(S5 y).data.toList.length=(S5 y).size:=by simp
  have e2:(sG (y::l)).length=(S5 y).size+(sG l).length:=by rw[← e];simp[sG]
  rw[e2,List.length_cons];omega
theorem VN {l:List Fm} {j:Nat} {y:Fm} (h:l[j]?=some y):sG (l.take (j+1))=sG (l.take j)++(S5 y).data.toList:=by
 unfold sG
 rw[List.take_add_one,h]
 simp
theorem QX {A:Option Addr} {n c:Nat} {xs:List Fm} (hr:∀y∈xs,cZ y) (hv:dT C A uR xs) (hps:∀y∈xs,FmV C y) (hn:xs.length=n) (hn2:n≤1000000) (hK:K (.tuple #[.string ⟨(sG xs).toArray⟩,I6 0]) C):CT 99 #[.slice A n c] C K:=by
 subst hn
 refine aH Tryz.func99 ?_
 repeat' (first|refine v74 ?_|refine w5 ?_ ?_|((refine bh fun h=>?_) <;> try exact w6 h)|(refine aE fun hA=>?_;subst hA)|intro _)
 refine fZ (fun m a C'=>∃(j:Nat) (B:Option Addr) (kk:Nat),j+m=xs.length∧C'=bQ B kk 5 dL (sG (xs.take j))::C∧cJ a [(4,.slice B (sG (xs.take j)).length kk),(9,.slice A xs.length c),(10,I6 xs.length),(11,I6 j)]) xs.length (bV xs.length ⟨0,none,0,by omega,rfl,rfl,rfl,rfl,rfl,trivial⟩) ?_
 rintro n1 a C' ⟨j,B,kk,hj,rfl,ha⟩
 refine fP _ ha ?_
 simp only[eP]
 have hle:=Mz (l:=xs.take j) fun y hy=>hr y (List.mem_of_mem_take hy)
 rw[List.length_take] at hle
 by_cases hlt:j<xs.length
 ·obtain⟨y,hy,hd⟩:=i7 (l:=xs) (j:=j) (by omega)
  have hm:=List.mem_of_getElem? hy
  have hp:=hps y hm
  have hR:cZ y:=hr y hm
  have ht:=VN hy
  have hsz:=Ail hR
  have hdl:(S5 y).data.toList.length=(S5 y).size:=by simp
  unfold S5 at ht hsz hdl
  repeat' (first|refine v74 ?_|refine w5 ?_ ?_|((refine bh fun h=>?_) <;> try exact w6 h)|(refine aE fun hA=>?_;subst hA)|intro _|(show aA _ 175 _ _ _;refine CA (h:=O4 (ps:=y.ps) hR (bM (bM hp.1)) hp.2 ?_)))
  all_goals exact bV (n1 - 1) ⟨j+1,_,_,by omega,by rw[ht],by rw[ht];rfl,rfl,rfl,rfl,trivial⟩
 ·obtain rfl:j=xs.length:=by omega
  rw[List.take_of_length_le (Nat.le_refl _)]
  repeat' (first|refine v74 ?_|refine w5 ?_ ?_|((refine bh fun h=>?_) <;> try exact w6 h)|(refine aE fun hA=>?_;subst hA)|intro _)
  all_goals(refine aC ?_;exact aB (hK))
end Go.Proofs.YtifgibijcmppmaaGreat
namespace Go.Proofs.YtifgibijcmppmaaGreat
open Go Go.Proofs Go.Sl
attribute [local irreducible] aN fN cX bP aM aX aA dS dV aT dU pt ro eV star sep bH
variable {W:World}
def yA (y:Fm):HP:=m7 y.pa rE y.ps
theorem zZ (y:Fm):Fj (yA y):=oF _ _ _
theorem AT (y:Fm):AN (yA y):=V8 _ _ _
theorem w8 {C:List HP} {l:List Fm} {y:Fm} (hy:y∈l):dT (kR yA l::C) y.pa rE y.ps:=Abc (aG.allget (P:=yA) zZ AT hy) j0
end Go.Proofs.YtifgibijcmppmaaGreat
end
namespace Go.Proofs.YtifgibijcmppmaaGreat
open Go Go.Proofs Go.Sl
attribute [local irreducible] aN fN cX bP aM aX aA dS dV aT dU pt ro eV star sep bH
section
variable {R C:List HP} {K:KP}
structure PV where
 li:Int
 nw:Int
 si:Int
 st:Bool
 fi:Bool
def slP (p:Nat) (s:PV):HP:=pt p [I6 s.li,I6 s.nw,I6 s.si,.bool s.st,.bool s.fi] 223
def iS (s:PV) (n:Int):PV:=if s.fi=true then s else⟨s.li,max s.nw n,if s.st=true then max s.nw n else s.si,s.st,s.fi⟩
def nP (s:PV) (n:Int) (b:Bool):PV:=if s.li=0 then s else if s.fi=true then⟨s.li,max s.nw n,s.si,s.st,s.fi⟩ else if b=false then⟨s.li,max s.nw n,0,false,s.fi⟩ else if s.st=false then⟨s.li,max s.nw n,max s.nw n,true,decide (s.li≤max s.nw n - max s.nw n)⟩ else⟨s.li,max s.nw n,s.si,s.st,decide (s.li≤max s.nw n - s.si)⟩
def BB (s:PV) (n:Int) (b:Bool):Bool:=if s.li=0 then false else if s.fi=true then true else if b=false then false else(nP s n b).fi
section
variable {p r q:Nat} {s:PV} {li nw si n:Int} {st fi b:Bool}
theorem Kj (hK:K (I6 (max nw n)) (pt p [I6 li,I6 (max nw n),I6 si,.bool st,.bool fi] 223::R)):CT 277 #[PO p,I6 n] (pt p [I6 li,I6 nw,I6 si,.bool st,.bool fi] 223::R) K:=by
 refine aH Tryz.func277 ?_
 repeat' (first|refine v14 ?_|refine w5 ?_ ?_|((refine bh fun h=>?_) <;> try exact w6 h)|(refine aE fun hA=>?_;subst hA)|intro _)
 all_goals(refine aC ?_;exact aB (hK))
theorem zJ (hK:K (.tuple #[]) (slP p (iS s n)::R)):CT 259 #[PO p,I6 n] (slP p s::R) K:=by
 obtain⟨li,nw,si,st,fi⟩:=s
 cases fi <;> cases st <;> simp only[slP,iS,if_true,if_false,Bool.false_eq_true,reduceCtorEq] at hK ⊢
 all_goals
  refine aH Tryz.func259 ?_
  repeat' (first|refine zQ ?_|refine w5 ?_ ?_|((refine bh fun h=>?_) <;> try exact w6 h)|(refine aE fun hA=>?_;subst hA)|intro _|(show aA _ 277 _ _ _;refine CA (h:=Kj ?_)))
  all_goals(refine aC ?_;exact aB (hK))
def CX:List (Nat×Nat):= [(0,0),(1,0),(2,0),(3,0),(4,0),(5,0),(6,0),(7,0),(8,0),(9,0),(10,0),(11,0)]
theorem Yo (hb:-1000000000000000≤si∧si≤1000000000000000) (hn:-1000000000000000≤n∧n≤1000000000000000) (hK:K (.bool (decide (li≤n - si))) (pt q [I6 n] 3::pt r [PO p] 122::pt p [I6 li,I6 nw,I6 si,.bool st,.bool fi] 223::R)):CT 278 #[PO q,PO r] (pt q [I6 n] 3::pt r [PO p] 122::pt p [I6 li,I6 nw,I6 si,.bool st,.bool fi] 223::R) K:=by
 refine aH Tryz.func278 ?_
 repeat' (first|refine v22 ?_|refine dw CX ?_|refine w5 ?_ ?_|((refine bh fun h=>?_) <;> try exact w6 h)|(refine aE fun hA=>?_;subst hA)|intro _)
 all_goals(refine aC ?_;exact aB (kb hK (by simp)))
def tU:List (Nat×Nat):= [(0,0),(2,0),(3,0),(4,1),(1,1),(5,0),(6,0),(7,1)]
def sY:List (Nat×Nat):= [(0,0),(3,0),(4,0),(5,1),(1,1),(2,1),(6,0),(7,0),(8,1)]
def s4:List (Nat×Nat):= [(1,0),(2,1),(0,1),(3,0),(4,0),(5,1)]
theorem EX (h1:0≤s.nw∧s.nw≤100000000000000) (h2:0≤s.si∧s.si≤100000000000000) (h3:0≤n∧n≤100000000000000) (hK:K (.bool (BB s n b)) (slP p (nP s n b)::R)):CT 185 #[PO p,I6 n,.bool b] (slP p s::R) K:=by
 obtain⟨li,nw,si,st,fi⟩:=s
 simp only at h1 h2
 by_cases hl:li=0
 ·subst hl
  simp only[slP,nP,BB,if_true] at hK ⊢
  refine aH Tryz.func185 ?_
  repeat' (first|refine Q5 ?_|refine dw tU ?_|refine dw sY ?_|refine dw s4 ?_|refine w5 ?_ ?_|((refine bh fun h=>?_) <;> try exact w6 h)|(refine aE fun hA=>?_;subst hA)|intro _)
  all_goals(refine aC ?_;exact aB (hK))
 ·cases fi <;> cases b <;> cases st <;> simp only[slP,nP,BB,hl,if_true,if_false,Bool.false_eq_true,reduceCtorEq] at hK ⊢
  all_goals
   refine aH Tryz.func185 ?_
   repeat' (first|refine Q5 ?_|refine dw tU ?_|refine dw sY ?_|refine dw s4 ?_|refine w5 ?_ ?_|((refine bh fun h=>?_) <;> try exact w6 h)|(refine aE fun hA=>?_;subst hA)|intro _|(show aA _ 277 _ _ _;refine CA (h:=Kj ?_))|(show aA _ 278 _ _ _;refine CA (h:=Yo (by omega) (by omega) ?_)))
   all_goals(refine aC ?_;exact aB (hK))
end
end
end Go.Proofs.YtifgibijcmppmaaGreat
