/- A part of the proof: lemmas; each with the conditions that it states. -/
import Derived.Test.YtifgibijcmppmaaGreatMah
set_option linter.unusedVariables false
set_option linter.unusedSimpArgs false
namespace Go.Proofs.YtifgibijcmppmaaGreat
open Go Go.Proofs Go.Sl
set_option maxRecDepth 100000
set_option maxHeartbeats 40000000
attribute [local irreducible] aM fG cV bP aN aW aA dP dX aV dO pt ro eW star sep bH
section
variable {R C:List HP} {K:Value→List HP→Prop}
def sA (t st:Int) (e:Bool) (d:ByteArray) (k on w:Int) (x:Bool) (c la n:Int) (ps:List Pr):Prop:=(0≤t∧t≤11)∧(0≤st∧st≤2147483647)∧(st=0→5≤t∧t≤10)∧(0<st→t≤4∨10≤t)∧(e=true→t≤1)∧(k≠0→t=2)∧(c≠0→t=4∨t=9)∧(la≠0→t=9)∧(n≠0→10≤t)∧(0<ps.length→t=5)∧(Hm on w x=false→t=2∨t=3)∧(0<d.size→t≤1∨t=7∨t=8)∧(t≤1→d.size≤256)∧(t=7∨t=8→d.size=8)∧(t=2→k=1∨k=2)∧(t=2∨t=3→Q3 on w=true)∧Rq ps=true∧HM c=true∧HM la=true∧HM n=true∧ps.length≤8
theorem Akv {d:ByteArray}:d=⟨#[]⟩↔d.size=0:=by
 constructor
 ·rintro rfl;rfl
 ·intro h;apply ByteArray.ext;exact Array.eq_empty_of_size_eq_zero h
theorem YZ (on w:Int) (x:Bool):Hm on w x=true↔(on=0∧w=0∧x=false):=by unfold Hm;cases x <;> simp
theorem Abs {l:List Pr}:l.length=0→Rq l=true:=fun h=>by rw[List.length_eq_zero_iff.1 h];rfl
theorem Gs (t st:Int) (e:Bool) (d:ByteArray) (k on w:Int) (x:Bool) (c la n:Int) (ps:List Pr):uP t st e d k on w x c la n ps=true↔sA t st e d k on w x c la n ps:=by
 have hn0:HM 0=true:=by decide
 have hst:=vK st
 have h0:= @Abs ps
 have hnn:=YZ on w x
 have hpn:Ng ps []=true↔ps.length=0:=by rw[Afi];simp
 have hps:=Ol ps
 have hd:= @Akv d
 rcases(by omega:(t<0∨11<t)∨t=0∨t=1∨t=2∨t=3∨t=4∨t=5∨t=6∨t=7∨t=8∨t=9∨t=10∨t=11) with h|h|h|h|h|h|h|h|h|h|h|h|h
 ·constructor
  ·intro hh
   unfold uP at hh
   simp only[Bool.and_eq_true,decide_eq_true_eq] at hh
   omega
  ·intro hh
   have:=hh.1
   omega
 all_goals
  subst h
  unfold uP sA x4 FL xS
  simp only[oE,oD,oK,oO,oX,oC,oL,oN,oPs,Bool.and_eq_true,Bool.or_eq_true,decide_eq_true_eq]
  grind
end
end Go.Proofs.YtifgibijcmppmaaGreat
namespace Go.Proofs.YtifgibijcmppmaaGreat
open Go Go.Proofs Go.Sl
def Na (e:Bool):Int:=match e with
 |true=>1
 |false=>0
theorem P0 (e:Bool):0≤Na e∧Na e≤1:=by cases e <;> decide
theorem Zb:(256:Int) ^ (2:Nat)=65536:=by decide
end Go.Proofs.YtifgibijcmppmaaGreat
section
namespace Go.Proofs.YtifgibijcmppmaaGreat
open Go Go.Proofs Go.Sl
set_option maxRecDepth 100000
set_option maxHeartbeats 40000000
attribute [local irreducible] aM fG cV bP aN aW aA dP dX aV dO pt ro eW star sep bH
variable {R C:List HP} {K:Value→List HP→Prop}
def Afw (r:Nat) (xs:List Pc):HP:=eW fun A=>eW fun c=>sep (pt r [.slice A xs.length c] 377) (bU A c 369 pcC xs)
theorem TE {r n c:Nat} {A:Option Addr} {xs ys:List Pc} (hv:dL R A pcC ys) (hn:ys.length=n) (hl:xs.length+n<1000000000) (hK:K (.tuple #[]) (Afw r (xs++ys)::R)):
  aA Tryz.prog 347 #[.slice A n c,.pointer (some ⟨r,0,none⟩)] (Afw r xs::R) K:=by
 refine aA.ex fun A=>aA.ex fun c=>aA.sep ?_
 refine aH Tryz.func347 ?_
 repeat' (first|refine v36 ?_|refine wr ?_|refine w5 ?_ ?_|((refine bh fun h=>?_) <;> try exact w6 h)|(refine aE fun hA=>?_;subst hA)|intro _)
 refine aC ?_
 exact aK (by exact aY) hK
theorem OM {n:Int} (hK:K (.agg #[.int .i64 n,.int .i64 4,.string ⟨#[]⟩]) R):aA Tryz.prog 348 #[.int .i64 n] R K:=by
 refine aH Tryz.func348 ?_
 repeat' (first|refine v31 ?_|refine wr ?_|refine w5 ?_ ?_|((refine bh fun h=>?_) <;> try exact w6 h)|(refine aE fun hA=>?_;subst hA)|intro _|(show aA _ 336 _ _ _;refine CA (h:=Acg ?_)))
 (refine aC ?_;exact aB (hK))
theorem TZ {e:Bool} (hK:K (.int .i64 (Na e)) R):aA Tryz.prog 270 #[.bool e] R K:=by
 refine aH Tryz.func270 ?_
 cases e
 all_goals
  repeat' (first|refine v0 ?_|refine wr ?_|refine w5 ?_ ?_|((refine bh fun h=>?_) <;> try exact w6 h)|(refine aE fun hA=>?_;subst hA)|intro _)
  (refine aC ?_;exact aB (hK))
def eL (t:Int) (d:ByteArray) (k on w:Int) (x:Bool) (c la n:Int):List Pc:=if t=0∨t=1∨t=7∨t=8 then [⟨0,0,d⟩] else if t=2∨t=3 then [⟨k,1,⟨#[]⟩⟩,⟨Na x,1,⟨#[]⟩⟩,⟨w - 1,1,⟨#[]⟩⟩,⟨0,1,⟨#[]⟩⟩,⟨on,4,⟨#[]⟩⟩] else if t=4 then [⟨c,4,⟨#[]⟩⟩] else if t=9 then [⟨la,4,⟨#[]⟩⟩,⟨c,4,⟨#[]⟩⟩] else if t=10∨t=11 then [⟨n,4,⟨#[]⟩⟩] else []
def yC (ps:List Pr):List Pc:=ps.flatMap fun p=> [⟨p.i,2,⟨#[]⟩⟩,⟨p.v,4,⟨#[]⟩⟩]
section
variable {t:Int} {d:ByteArray} {k on w:Int} {x:Bool} {c la n:Int}
theorem Jd (h:t=0∨t=1∨t=7∨t=8):eL t d k on w x c la n= [⟨0,0,d⟩]:=by unfold eL;rw[if_pos h]
theorem hp2 (h:t=2∨t=3):eL t d k on w x c la n= [⟨k,1,⟨#[]⟩⟩,⟨Na x,1,⟨#[]⟩⟩,⟨w - 1,1,⟨#[]⟩⟩,⟨0,1,⟨#[]⟩⟩,⟨on,4,⟨#[]⟩⟩]:=by unfold eL;rw[if_neg (by omega),if_pos h]
theorem hp3 (h:t=4):eL t d k on w x c la n= [⟨c,4,⟨#[]⟩⟩]:=by unfold eL;rw[if_neg (by omega),if_neg (by omega),if_pos h]
theorem hp4 (h:t=9):eL t d k on w x c la n= [⟨la,4,⟨#[]⟩⟩,⟨c,4,⟨#[]⟩⟩]:=by unfold eL;rw[if_neg (by omega),if_neg (by omega),if_neg (by omega),if_pos h]
theorem hp5 (h:t=10∨t=11):eL t d k on w x c la n= [⟨n,4,⟨#[]⟩⟩]:=by unfold eL;rw[if_neg (by omega),if_neg (by omega),if_neg (by omega),if_neg (by omega),if_pos h]
theorem hp6 (h:¬(t=0∨t=1∨t=7∨t=8)∧¬(t=2∨t=3)∧¬t=4∧¬t=9∧¬(t=10∨t=11)):eL t d k on w x c la n= []:=by unfold eL;rw[if_neg h.1,if_neg h.2.1,if_neg h.2.2.1,if_neg h.2.2.2.1,if_neg h.2.2.2.2]
end
theorem V7 (t:Int) (d:ByteArray) (k on w:Int) (x:Bool) (c la n:Int):(eL t d k on w x c la n).length≤5:=by
 unfold eL
 (repeat' split) <;> simp
theorem HX:∀ps:List Pr,(yC ps).length=2 * ps.length
 | []=>rfl
 |p::l=>by
  have:=HX l
  unfold yC at this ⊢
  simp only[List.flatMap_cons,List.length_append,List.length_cons,List.length_nil,this]
  omega
theorem Xl {ps:List Pr} {j:Nat} {y:Pr} (h:ps[j]?=some y):yC (ps.take (j+1))=yC (ps.take j)++ [⟨y.i,2,⟨#[]⟩⟩,⟨y.v,4,⟨#[]⟩⟩]:=by
 unfold yC
 rw[List.take_add_one,h]
 simp
def i8:List Nat:= [0,0,2,6,0,16,48,126,254,0,512,1536,3584,8190,16382,0,0,65536,196608,524286,1048574,2097151]
def i4:List Nat:= [2097151,1048574,524286,196608,65536,0,0,16382,8190,3584,1536,512,0,254,126,48,16,0,6,2,0,0]
def i3:List (Nat×Nat):= [(1,0),(2,0),(3,1),(4,1),(5,1),(6,1),(7,1),(8,1),(9,3),(10,3),(11,3),(12,3),(13,1),(14,1),(15,5),(16,5),(17,5),(18,5),(19,1),(20,1),(0,7),(21,1)]
def iX:List (Nat×Nat):= [(1,0),(2,0),(3,0),(4,1),(5,1),(6,1),(7,1),(8,1),(9,1),(0,3),(10,1)]
def i7:List (Nat×Nat):= [(1,0),(2,0),(3,1),(4,1),(5,1),(6,1),(7,1),(8,1),(0,3),(9,1)]
theorem QU {t st:Int} {e:Bool} {d:ByteArray} {k on w:Int} {x:Bool} {c la n:Int} {pa:Option Addr} {pn pc:Nat} {ps:List Pr} (hv:dL C pa rN ps) (hn:ps.length=pn) (hn2:pn<100000000) (hk:1≤w∧w≤1000∨¬(t=2∨t=3)) (hK:K (.string (uR (eL t d k on w x c la n++yC ps))) C):aA Tryz.prog 268 #[.agg #[.int .i64 t,.int .i64 st,.bool e,.string d,.int .i64 k,.int .i64 on,.int .i64 w,.bool x,.int .i64 c,.int .i64 la,.int .i64 n,.slice pa pn pc]] C K:=by
 subst hn
 have hh:=V7 t d k on w x c la n
 refine aH Tryz.func268 ?_
 repeat' (first|(show fG _ (.block 0 _) _ _ _;refine Air (fun a C'=>∃b r:Nat,C'=Afw r (eL t d k on w x c la n)::pt b [.int .i64 t,.int .i64 st,.bool e,.string d,.int .i64 k,.int .i64 on,.int .i64 w,.bool x,.int .i64 c,.int .i64 la,.int .i64 n,.slice pa ps.length pc] 45::C∧dC a [(1,.pointer (some ⟨b,0,none⟩)),(3,.pointer (some ⟨r,0,none⟩)),(4,.func (.func 347) #[] #[.pointer (some ⟨r,0,none⟩)]),(5,.func (.func 348) #[] #[])]) ?_ (fun a C' hI=>?_))|refine I4 ?_|refine PX i8 i4 i3 ?_|refine dw iX ?_|refine dw i7 ?_|refine wr ?_|refine w5 ?_ ?_|((refine bh fun h=>?_) <;> try exact w6 h)|(refine aE fun hA=>?_;subst hA)|intro _|(show aA _ 347 _ _ _;refine CA (h:=TE (xs:= []) (by exact jY) (by exact rfl) (by decide) ?_))|(show aA _ 348 _ _ _;refine CA (h:=OM ?_))|(show aA _ 270 _ _ _;refine CA (h:=TZ ?_))|(show aA _ 336 _ _ _;refine CA (h:=Acg ?_))|(show aA _ 349 _ _ _;refine CA (h:=Aky ?_)))
 all_goals first
  |(show dO _ _ _
    first
     |rw[Jd (by omega)]
     |rw[hp2 (by omega)]
     |rw[hp3 (by omega)]
     |rw[hp4 (by omega)]
     |rw[hp5 (by omega)]
     |rw[hp6 (by omega)]
    exact Zl ⟨_,_,rfl,rfl,rfl,rfl,rfl,trivial⟩)
  |skip
 obtain⟨b,r,rfl,ha⟩:=hI
 refine⟨?_⟩
 refine t_n ?_
 refine gV _ ha ?_
 simp only[fN]
 repeat' (first|refine I4 ?_|refine PX i8 i4 i3 ?_|refine dw iX ?_|refine dw i7 ?_|refine wr ?_|refine w5 ?_ ?_|((refine bh fun h=>?_) <;> try exact w6 h)|(refine aE fun hA=>?_;subst hA)|intro _)
 have hpl:=HX ps
 have e0:eL t d k on w x c la n=eL t d k on w x c la n++yC (ps.take 0):=by rw[List.take_zero];exact(List.append_nil _).symm
 rw[e0]
 have hv2:dL (pt b [.int .i64 t,.int .i64 st,.bool e,.string d,.int .i64 k,.int .i64 on,.int .i64 w,.bool x,.int .i64 c,.int .i64 la,.int .i64 n,.slice pa ps.length pc] 45::C) pa rN ps:=bI hv
 refine iL (fun m a C'=>∃j:Nat,j+m=ps.length∧C'=Afw r (eL t d k on w x c la n++yC (ps.take j))::pt b [.int .i64 t,.int .i64 st,.bool e,.string d,.int .i64 k,.int .i64 on,.int .i64 w,.bool x,.int .i64 c,.int .i64 la,.int .i64 n,.slice pa ps.length pc] 45::C∧dC a [(3,.pointer (some ⟨r,0,none⟩)),(4,.func (.func 347) #[] #[.pointer (some ⟨r,0,none⟩)]),(5,.func (.func 348) #[] #[]),(82,.slice pa ps.length pc),(83,.int .i64 ps.length),(84,.int .i64 j)]) ps.length (cC ps.length ⟨0,by omega,rfl,rfl,rfl,rfl,rfl,rfl,rfl,trivial⟩) ?_
 rintro n1 a C' ⟨j,hj,rfl,ha⟩
 refine gV _ ha ?_
 simp only[fN]
 by_cases hlt:j<ps.length
 ·obtain⟨y,hy,hd⟩:=iS (l:=ps) (j:=j) (by omega)
  have ht:=Xl hy
  have hl2:(eL t d k on w x c la n++yC (ps.take j)).length+2<1000000000:=by
   rw[List.length_append,HX,List.length_take];omega
  repeat' (first|refine I4 ?_|refine PX i8 i4 i3 ?_|refine dw iX ?_|refine dw i7 ?_|refine wr ?_|refine w5 ?_ ?_|((refine bh fun h=>?_) <;> try exact w6 h)|(refine aE fun hA=>?_;subst hA)|intro _|(show aA _ 347 _ _ _;refine CA (h:=TE (xs:=eL t d k on w x c la n++yC (ps.take j)) (by exact jY) (by exact rfl) hl2 ?_))|(show aA _ 348 _ _ _;refine CA (h:=OM ?_))|(show aA _ 336 _ _ _;refine CA (h:=Acg ?_)))
  all_goals exact cC (n1 - 1) ⟨j+1,by omega,by rw[ht,← List.append_assoc],rfl,rfl,rfl,rfl,rfl,rfl,trivial⟩
 ·obtain rfl:j=ps.length:=by omega
  rw[List.take_of_length_le (Nat.le_refl _)]
  refine vV fun A=>vV fun c'=>F6 ?_
  have hl2:(eL t d k on w x c la n++yC ps).length=(eL t d k on w x c la n).length+(yC ps).length:=List.length_append
  repeat' (first|refine I4 ?_|refine PX i8 i4 i3 ?_|refine dw iX ?_|refine dw i7 ?_|refine wr ?_|refine w5 ?_ ?_|((refine bh fun h=>?_) <;> try exact w6 h)|(refine aE fun hA=>?_;subst hA)|intro _|(show aA _ 335 _ _ _;refine CA (h:=QV (ps:=eL t d k on w x c la n++yC ps) (by exact jY) rfl (by omega) ?_)))
  (refine aC ?_;exact aB (hK))
end Go.Proofs.YtifgibijcmppmaaGreat
namespace Go.Proofs.YtifgibijcmppmaaGreat
open Go Go.Proofs Go.Sl
set_option maxRecDepth 100000
set_option maxHeartbeats 40000000
attribute [local irreducible] aM fG cV bP aN aW aA dP dX aV dO pt ro eW star sep bH
variable {R C:List HP} {K:Value→List HP→Prop}
theorem KG:∀(ps:List Pc) (n:Int),0≤n→d9 ps=0→n+(jW ps).length≤4096→I9 ps n≤4096
 | [],n,_,_,h=>by simp[I9,jW] at h ⊢;omega
 |p::l,n,h0,he,h=>by
  obtain⟨h1,h2⟩:=zJ he
  have hl:=LC (n:=p.n) (s:=p.s) (D2 h1)
  have hc:((jW (p::l)).length:Int)=jS p.w p.s+(jW l).length:=by rw[← hl];simp[jW]
  have hnn:=EK p.w p.s
  have hm:min (jS p.w p.s) 4097=jS p.w p.s:=by omega
  unfold I9
  rw[hm,if_neg (by omega)]
  exact KG l _ (by omega) h2 (by omega)
theorem Aiq {ps:List Pc} (h:d9 ps=0) (h2:(jW ps).length≤4096):uR ps=⟨(jW ps).toArray⟩:=by
 have h3:=KG ps 0 (by omega) h (by omega)
 have he:wI ps=0:=by
  unfold wI
  rw[if_pos h,if_neg (by omega)]
 unfold uR
 rw[if_pos he]
theorem G7:∀(a b:List Pc),d9 a=0→d9 b=0→d9 (a++b)=0
 | [],b,_,h=>h
 |p::l,b,h1,h=>by
  obtain⟨h2,h3⟩:=zJ h1
  show(if iG p.n p.w=0 then d9 (l++b) else _)=0
  rw[if_pos h2]
  exact G7 l b h3 h
def psL (ps:List Pr):List UInt8:=ps.flatMap fun p=>wB p.i 2++wB p.v 4
def rX (t:Int) (d:ByteArray) (k on w:Int) (x:Bool) (c la n:Int) (ps:List Pr):List UInt8:=if t=2∨t=3 then wB k 1++(wB (Na x) 1++(wB (w - 1) 1++(wB 0 1++wB on 4))) else if t=4 then wB c 4 else if t=9 then wB la 4++wB c 4 else if t=10∨t=11 then wB n 4 else d.data.toList++psL ps
theorem Tk:∀ps:List Pr,(psL ps).length=6 * ps.length
 | []=>rfl
 |p::l=>by
  have:=Tk l
  unfold psL at this ⊢
  simp only[List.flatMap_cons,List.length_append,List.length_cons,this,sD]
  have a2:(2:Int).toNat=2:=rfl
  have a4:(4:Int).toNat=4:=rfl
  omega
theorem KC {n:Int} (h:HM n=true):iG n 4=0:=by
 obtain⟨p1,p3,p4⟩:=Q5
 have m:=Co (n:=n) (w:=4) (by decide)
 rw[show(4:Int).toNat=4 from rfl,p4] at m
 have:=(vK n).1 h
 exact m.2 (by omega)
theorem Aj1 {n:Int} (h:0≤n∧n≤65535):iG n 2=0:=by
 have m:=Co (n:=n) (w:=2) (by decide)
 rw[show(2:Int).toNat=2 from rfl,Zb] at m
 exact m.2 (by omega)
theorem Aeh {n:Int} (h:0≤n∧n≤255):iG n 1=0:=by
 obtain⟨p1,p3,p4⟩:=Q5
 have m:=Co (n:=n) (w:=1) (by decide)
 rw[show(1:Int).toNat=1 from rfl,p1] at m
 exact m.2 (by omega)
theorem Ig:∀ {ps:List Pr},Rq ps=true→d9 (yC ps)=0
 | [],_=>rfl
 |p::l,h=>by
  simp only[Rq,List.all_cons,Bool.and_eq_true,decide_eq_true_eq] at h
  have:=Ig (ps:=l) (by unfold Rq;simpa using h.2)
  show d9 (⟨p.i,2,⟨#[]⟩⟩::⟨p.v,4,⟨#[]⟩⟩::yC l)=0
  simp only[d9]
  rw[if_pos (Aj1 h.1.1),if_pos (KC h.1.2)]
  exact this
theorem Gz:∀ps:List Pr,jW (yC ps)=psL ps
 | []=>rfl
 |p::l=>by
  have:=Gz l
  show jW (⟨p.i,2,⟨#[]⟩⟩::⟨p.v,4,⟨#[]⟩⟩::yC l)=psL (p::l)
  unfold jW at this ⊢
  rw[List.flatMap_cons,List.flatMap_cons,this]
  simp[PW,psL]
theorem PC (a b:List Pc):jW (a++b)=jW a++jW b:=by unfold jW;simp
theorem F9 {t st:Int} {e:Bool} {d:ByteArray} {k on w:Int} {x:Bool} {c la n:Int} {ps:List Pr} (h:sA t st e d k on w x c la n ps):uR (eL t d k on w x c la n++yC ps)=⟨(rX t d k on w x c la n ps).toArray⟩∧(rX t d k on w x c la n ps).length≤256:=by
 obtain⟨h1,h2,h3,h4,h5,h6,h7,h8,h9,h10,h11,h12,h13,h14,h15,h16,h17,h18,h19,h20,h21⟩:=h
 have hd:d.data.toList.length=d.size:=by simp
 have hp:=Ig h17
 have hl:=Tk ps
 have a1:(1:Int).toNat=1:=rfl
 have a4:(4:Int).toNat=4:=rfl
 have key:∀hs:List Pc,eL t d k on w x c la n=hs→d9 hs=0→jW hs++psL ps=rX t d k on w x c la n ps→(rX t d k on w x c la n ps).length≤256→uR (eL t d k on w x c la n++yC ps)=⟨(rX t d k on w x c la n ps).toArray⟩∧(rX t d k on w x c la n ps).length≤256:=by
  intro hs e1 e2 e3 e4
  rw[e1,Aiq (G7 _ _ e2 hp) (by rw[PC,Gz,e3];omega),PC,Gz,e3]
  exact⟨rfl,e4⟩
 have hps:¬t=5→psL ps= []:=fun h=>by
  have:ps.length=0:=by
   rcases Nat.eq_zero_or_pos ps.length with h'|h'
   ·exact h'
   ·exact absurd (h10 h') h
  rw[List.length_eq_zero_iff.1 this];rfl
 rcases(by omega:(t=0∨t=1∨t=7∨t=8)∨(t=2∨t=3)∨t=4∨t=9∨(t=10∨t=11)∨t=5∨t=6) with h|h|h|h|h|h|h
 ·refine key [⟨0,0,d⟩] (by unfold eL;rw[if_pos h]) rfl ?_ ?_
  ·rw[hps (by omega)]
   unfold rX
   rw[if_neg (by omega),if_neg (by omega),if_neg (by omega),if_neg (by omega),hps (by omega)]
   simp[jW,PW,show wB 0 0= [] from rfl]
  ·unfold rX
   rw[if_neg (by omega),if_neg (by omega),if_neg (by omega),if_neg (by omega),hps (by omega)]
   rw[List.append_nil,hd]
   by_cases h':t≤1
   ·exact h13 h'
   ·have:=h14 (by omega);omega
 ·have hdep:=h16 h
  unfold Q3 at hdep
  simp only[Bool.and_eq_true,decide_eq_true_eq] at hdep
  have hb:=P0 x
  have hk:0≤k∧k≤255:=by
   by_cases h2:t=2
   ·have:=h15 h2;omega
   ·have:k=0:=Classical.byContradiction fun h'=>h2 (h6 h')
    omega
  refine key [⟨k,1,⟨#[]⟩⟩,⟨Na x,1,⟨#[]⟩⟩,⟨w - 1,1,⟨#[]⟩⟩,⟨0,1,⟨#[]⟩⟩,⟨on,4,⟨#[]⟩⟩] (by unfold eL;rw[if_neg (by omega),if_pos h]) ?_ ?_ ?_
  ·simp only[d9]
   rw[if_pos (Aeh hk),if_pos (Aeh (by omega)),if_pos (Aeh (by omega)),if_pos (Aeh (by omega)),if_pos (KC hdep.1)]
  ·rw[hps (by omega)]
   unfold rX
   rw[if_pos h]
   simp[jW,PW]
  ·unfold rX
   rw[if_pos h]
   simp only[List.length_append,sD]
   omega
 ·refine key [⟨c,4,⟨#[]⟩⟩] (by unfold eL;rw[if_neg (by omega),if_neg (by omega),if_pos h]) ?_ ?_ ?_
  ·simp only[d9]
   rw[if_pos (KC h18)]
  ·rw[hps (by omega)]
   unfold rX
   rw[if_neg (by omega),if_pos h]
   simp[jW,PW]
  ·unfold rX
   rw[if_neg (by omega),if_pos h,sD]
   omega
 ·refine key [⟨la,4,⟨#[]⟩⟩,⟨c,4,⟨#[]⟩⟩] (by unfold eL;rw[if_neg (by omega),if_neg (by omega),if_neg (by omega),if_pos h]) ?_ ?_ ?_
  ·simp only[d9]
   rw[if_pos (KC h19),if_pos (KC h18)]
  ·rw[hps (by omega)]
   unfold rX
   rw[if_neg (by omega),if_neg (by omega),if_pos h]
   simp[jW,PW]
  ·unfold rX
   rw[if_neg (by omega),if_neg (by omega),if_pos h,List.length_append,sD,sD]
   omega
 ·refine key [⟨n,4,⟨#[]⟩⟩] (by unfold eL;rw[if_neg (by omega),if_neg (by omega),if_neg (by omega),if_neg (by omega),if_pos h]) ?_ ?_ ?_
  ·simp only[d9]
   rw[if_pos (KC h20)]
  ·rw[hps (by omega)]
   unfold rX
   rw[if_neg (by omega),if_neg (by omega),if_neg (by omega),if_pos h]
   simp[jW,PW]
  ·unfold rX
   rw[if_neg (by omega),if_neg (by omega),if_neg (by omega),if_pos h,sD]
   omega
 all_goals
  have hd0:d.data.toList= []:=by
   rcases Nat.eq_zero_or_pos d.size with h'|h'
   ·exact List.length_eq_zero_iff.1 (by omega)
   ·have:=h12 h';omega
  refine key [] (by unfold eL;rw[if_neg (by omega),if_neg (by omega),if_neg (by omega),if_neg (by omega),if_neg (by omega)]) rfl ?_ ?_
  ·unfold rX
   rw[if_neg (by omega),if_neg (by omega),if_neg (by omega),if_neg (by omega),hd0]
   rfl
  ·unfold rX
   rw[if_neg (by omega),if_neg (by omega),if_neg (by omega),if_neg (by omega),hd0,List.nil_append]
   omega
end Go.Proofs.YtifgibijcmppmaaGreat
end
namespace Go.Proofs.YtifgibijcmppmaaGreat
open Go Go.Proofs Go.Sl
set_option maxRecDepth 100000
set_option maxHeartbeats 40000000
attribute [local irreducible] aM fG cV bP aN aW aA dP dX aV dO pt ro eW star sep bH
section
variable {R C:List HP} {K:Value→List HP→Prop}
theorem ZL (s:ByteArray) (i j:Nat):xH s i j=zM ((s.data.toList.drop i).take (j - i)):=by
 unfold xH;simp[List.extract]
theorem Dw (s:ByteArray) (i j:Nat):0≤xH s i j∧xH s i j<256 ^ (j - i):=by
 rw[ZL]
 refine⟨UX _,Int.lt_of_lt_of_le (Uq _) ?_⟩
 exact_mod_cast Nat.pow_le_pow_right (by decide) (by rw[List.length_take];omega)
end
section
variable {R C:List HP} {K:Value→List HP→Prop}
def gD (t:Int) (p:ByteArray):ByteArray:=if t=0∨t=1∨t=7∨t=8 then p else⟨#[]⟩
def gK (t:Int) (p:ByteArray):Int:=if t=2∨t=3 then xH p 0 1 else 0
def gO (t:Int) (p:ByteArray):Int:=if t=2∨t=3 then xH p 4 8 else 0
def gW (t:Int) (p:ByteArray):Int:=if t=2∨t=3 then xH p 2 3+1 else 0
def gX (t:Int) (p:ByteArray):Bool:=if t=2∨t=3 then(xH p 1 2 == 1) else false
def gC (t:Int) (p:ByteArray):Int:=if t=4 then xH p 0 4 else if t=9 then xH p 4 8 else 0
def gL (t:Int) (p:ByteArray):Int:=if t=9 then xH p 0 4 else 0
def gN (t:Int) (p:ByteArray):Int:=if t=10∨t=11 then xH p 0 4 else 0
def Ajv (p:ByteArray) (j:Nat):Pr:=⟨xH p (6 * j) (6 * j+2),xH p (6 * j+2) (6 * j+2+4)⟩
def Pe (p:ByteArray) (n:Nat):List Pr:=(List.range n).map (Ajv p)
def gP (t:Int) (p:ByteArray):List Pr:=if t=5 then Pe p (p.size / 6) else []
theorem VY (p:ByteArray) (n:Nat):Pe p (n+1)=Pe p n++ [Ajv p n]:=by unfold Pe;rw[List.range_succ];simp
theorem Qi (p:ByteArray) (n:Nat):(Pe p n).length=n:=by unfold Pe;simp
theorem Aib (t:Int) (p:ByteArray):(gP t p).length=if t=5 then p.size / 6 else 0:=by
 unfold gP
 split
 ·exact Qi _ _
 ·rfl
def Rs (t:Int) (p:ByteArray):Prop:=0≤t∧t≤11∧p.size≤256∧(t=5→p.size % 6=0∧p.size≤48)∧(t=2∨t=3∨t=7∨t=8∨t=9→p.size=8)∧(t=4∨t=10∨t=11→p.size=4)∧(t=6→p.size=0)
theorem V5 {l t f s:Int} {p:ByteArray} (h:wA l t f s=0) (hl:l=p.size):Rs t p:=by
 subst hl
 unfold wA FC at h
 unfold Rs
 (repeat' split at h) <;> omega
theorem Aj5 {p i:Nat} {s:ByteArray} (h:i+2≤s.size) (hK:K (.int .i64 (xH s i (i+2))) (eM p (s.extract (i+2) s.size) false::R)):aA Tryz.prog 327 #[.pointer (some ⟨p,0,none⟩),.int .i64 2] (eM p (s.extract i s.size) false::R) K:=
 MX (by decide) (by omega) h hK
theorem YM (p:ByteArray):Ad p.size p false=p:=by
 obtain⟨t1,t2,t3⟩:=T2 (s:=p) (at_:=0) (n:=p.size) (by omega) (by omega) (by omega)
 simpa using t2
def dJ:List (Nat×Nat):= [(2,0),(3,1),(4,1),(5,1),(6,0),(7,1),(0,3),(1,3),(8,1),(9,0),(10,1)]
theorem OY {l t f st:Int} {p:ByteArray} (h:Rs t p) (hK:∀A c,K (.agg #[.int .i64 t,.int .i64 st,.bool (f == 1),.string (gD t p),.int .i64 (gK t p),.int .i64 (gO t p),.int .i64 (gW t p),.bool (gX t p),.int .i64 (gC t p),.int .i64 (gL t p),.int .i64 (gN t p),.slice A (gP t p).length c]) (bU A c 148 rN (gP t p)::R)):aA Tryz.prog 330 #[.agg #[.int .i64 l,.int .i64 t,.int .i64 f,.int .i64 st],.string p] R K:=by
 obtain⟨h1,h2,h3,h4,h5,h6,h7⟩:=h
 rcases(by omega:(t=0∨t=1∨t=7∨t=8)∨(t=2∨t=3)∨t=4∨t=9∨(t=10∨t=11)∨t=6∨t=5) with h|h|h|h|h|h|h
 ·have q1:¬(t=2∨t=3):=by omega
  have q2:¬t=4:=by omega
  have q3:¬t=9:=by omega
  have q4:¬(t=10∨t=11):=by omega
  have q5:¬t=5:=by omega
  simp only[gD,gK,gO,gW,gX,gC,gL,gN,gP,if_pos h,if_neg q1,if_neg q2,if_neg q3,if_neg q4,if_neg q5,List.length_nil] at hK
  refine aH Tryz.func330 ?_
  repeat' (first|refine Uz ?_|refine dw dJ ?_|refine wr ?_|refine w5 ?_ ?_|((refine bh fun h=>?_) <;> try exact w6 h)|(refine aE fun hA=>?_;subst hA)|intro _|(show aA _ 326 _ _ _;refine CA (h:=UF p (fun r=>?_)))|(show aA _ 379 _ _ _;refine CA (h:=Y2 (by simp[kO]) ?_)))
  all_goals(rw[YM];(refine aC ?_;exact aB (hK none 0)))
 ·have q1:¬(t=0∨t=1∨t=7∨t=8):=by omega
  have q2:¬t=4:=by omega
  have q3:¬t=9:=by omega
  have q4:¬(t=10∨t=11):=by omega
  have q5:¬t=5:=by omega
  simp only[gD,gK,gO,gW,gX,gC,gL,gN,gP,if_pos h,if_neg q1,if_neg q2,if_neg q3,if_neg q4,if_neg q5,List.length_nil] at hK
  have n1:0≤xH p (0+1+1) (0+1+1+1)∧xH p (0+1+1) (0+1+1+1)<256:=⟨(Dw p 2 3).1,by have:=(Dw p 2 3).2;simpa using this⟩
  refine aH Tryz.func330 ?_
  repeat' (first|refine Uz ?_|refine dw dJ ?_|refine wr ?_|refine w5 ?_ ?_|((refine bh fun h=>?_) <;> try exact w6 h)|(refine aE fun hA=>?_;subst hA)|intro _|(show aA _ 326 _ _ _;refine CA (h:=uI (fun r=>?_)))|(show aA _ 327 _ _ _;refine CA (h:=Ou (by omega) ?_))|(show aA _ 327 _ _ _;refine CA (h:=KY (by omega) ?_)))
  all_goals(refine aC ?_;exact aB (hK none 0))
 ·subst h
  simp[gD,gK,gO,gW,gX,gC,gL,gN,gP] at hK
  refine aH Tryz.func330 ?_
  repeat' (first|refine Uz ?_|refine dw dJ ?_|refine wr ?_|refine w5 ?_ ?_|((refine bh fun h=>?_) <;> try exact w6 h)|(refine aE fun hA=>?_;subst hA)|intro _|(show aA _ 326 _ _ _;refine CA (h:=uI (fun r=>?_)))|(show aA _ 327 _ _ _;refine CA (h:=Ou (by omega) ?_))|(show aA _ 327 _ _ _;refine CA (h:=KY (by omega) ?_)))
  all_goals(refine aC ?_;exact aB (hK none 0))
 ·subst h
  simp[gD,gK,gO,gW,gX,gC,gL,gN,gP] at hK
  refine aH Tryz.func330 ?_
  repeat' (first|refine Uz ?_|refine dw dJ ?_|refine wr ?_|refine w5 ?_ ?_|((refine bh fun h=>?_) <;> try exact w6 h)|(refine aE fun hA=>?_;subst hA)|intro _|(show aA _ 326 _ _ _;refine CA (h:=uI (fun r=>?_)))|(show aA _ 327 _ _ _;refine CA (h:=Ou (by omega) ?_))|(show aA _ 327 _ _ _;refine CA (h:=KY (by omega) ?_)))
  all_goals(refine aC ?_;exact aB (hK none 0))
 ·have q1:¬(t=0∨t=1∨t=7∨t=8):=by omega
  have q2:¬t=4:=by omega
  have q3:¬t=9:=by omega
  have q4:¬(t=2∨t=3):=by omega
  have q5:¬t=5:=by omega
  simp only[gD,gK,gO,gW,gX,gC,gL,gN,gP,if_pos h,if_neg q1,if_neg q2,if_neg q3,if_neg q4,if_neg q5,List.length_nil] at hK
  refine aH Tryz.func330 ?_
  repeat' (first|refine Uz ?_|refine dw dJ ?_|refine wr ?_|refine w5 ?_ ?_|((refine bh fun h=>?_) <;> try exact w6 h)|(refine aE fun hA=>?_;subst hA)|intro _|(show aA _ 326 _ _ _;refine CA (h:=uI (fun r=>?_)))|(show aA _ 327 _ _ _;refine CA (h:=Ou (by omega) ?_))|(show aA _ 327 _ _ _;refine CA (h:=KY (by omega) ?_)))
  all_goals(refine aC ?_;exact aB (hK none 0))
 ·subst h
  simp[gD,gK,gO,gW,gX,gC,gL,gN,gP] at hK
  refine aH Tryz.func330 ?_
  repeat' (first|refine Uz ?_|refine dw dJ ?_|refine wr ?_|refine w5 ?_ ?_|((refine bh fun h=>?_) <;> try exact w6 h)|(refine aE fun hA=>?_;subst hA)|intro _|(show aA _ 326 _ _ _;refine CA (h:=uI (fun r=>?_))))
  all_goals(refine aC ?_;exact aB (hK none 0))
 ·subst h
  obtain⟨hm,h48⟩:=h4 rfl
  simp[gD,gK,gO,gW,gX,gC,gL,gN,gP] at hK
  refine aH Tryz.func330 ?_
  repeat' (first|refine Uz ?_|refine dw dJ ?_|refine wr ?_|refine w5 ?_ ?_|((refine bh fun h=>?_) <;> try exact w6 h)|(refine aE fun hA=>?_;subst hA)|intro _|(show aA _ 326 _ _ _;refine CA (h:=uI (fun r=>?_))))
  rename_i r1 r2 r3
  refine iL (fun m a C'=>∃(j:Nat) (B:Option Addr) (kk:Nat),6 * j+m=p.size∧C'=pt r3 [.int .i64 5,.int .i64 st,.bool (f == 1),.string ⟨#[]⟩,.int .i64 0,.int .i64 0,.int .i64 0,.bool false,.int .i64 0,.int .i64 0,.int .i64 0,.slice B (Pe p j).length kk] 45::bU B kk 148 rN (Pe p j)::eM r (p.extract (6 * j) p.size) false::pt r2 [.int .i64 0,.int .i64 0,.bool false,.string ⟨#[]⟩,.int .i64 0,.int .i64 0,.int .i64 0,.bool false,.int .i64 0,.int .i64 0,.int .i64 0,.slice none 0 0] 45::R∧dC a [(4,.pointer (some ⟨r2,0,none⟩)),(5,.pointer (some ⟨r3,0,none⟩)),(6,.pointer (some ⟨r,0,none⟩))]) p.size
   (cC p.size ⟨0,none,0,by omega,rfl,rfl,rfl,rfl,trivial⟩) ?_
  rintro n1 a C' ⟨j,B,kk,hj,rfl,ha⟩
  refine gV _ ha ?_
  simp only[fN]
  have hs:(p.extract (6 * j) p.size).size=p.size - 6 * j:=by simp
  have hpl:=Qi p j
  by_cases hlt:6 * j<p.size
  ·have h6:6 * j+2+4≤p.size:=by omega
   repeat' (first|refine Uz ?_|refine dw dJ ?_|refine wr ?_|refine w5 ?_ ?_|((refine bh fun h=>?_) <;> try exact w6 h)|(refine aE fun hA=>?_;subst hA)|intro _|(show aA _ 380 _ _ _;refine CA (h:=Lj _ _ _ ?_))|(show aA _ 327 _ _ _;refine CA (h:=Aj5 (by omega) ?_))|(show aA _ 327 _ _ _;refine CA (h:=KY (by omega) ?_)))
   all_goals exact cC (n1 - 6) ⟨j+1,_,_,by omega,by rw[VY,show 6 * (j+1)=6 * j+2+4 by omega],rfl,rfl,rfl,trivial⟩
  ·have:j=p.size / 6:=by omega
   subst this
   repeat' (first|refine Uz ?_|refine dw dJ ?_|refine wr ?_|refine w5 ?_ ?_|((refine bh fun h=>?_) <;> try exact w6 h)|(refine aE fun hA=>?_;subst hA)|intro _|(show aA _ 380 _ _ _;refine CA (h:=Lj _ _ _ ?_)))
   all_goals(refine aC ?_;exact aB (hK _ _))
end
section
variable {R C:List HP} {K:Value→List HP→Prop}
def b2 (t st:Int):Bool:=!(decide (0≤t) && decide (t≤11) && x4 t st)
def b4 (t:Int) (e:Bool) (k c la n:Int) (m:Nat):Bool:=(e && decide (1<t)) || (!decide (k=0) && !decide (t=2)) || (!decide (c=0) && !decide (t=4) && !decide (t=9)) || (!decide (la=0) && !decide (t=9)) || (!decide (n=0) && decide (t<10)) || (decide (0<m) && !decide (t=5))
end
end Go.Proofs.YtifgibijcmppmaaGreat
section
namespace Go.Proofs.YtifgibijcmppmaaGreat
open Go Go.Proofs Go.Sl
set_option maxRecDepth 100000
set_option maxHeartbeats 40000000
attribute [local irreducible] aM fG cV bP aN aW aA dP dX aV dO pt ro eW star sep bH
attribute [local irreducible] ByteArray.extract xH eM
variable {R C:List HP} {K:Value→List HP→Prop}
def gB (t st:Int) (e:Bool) (p:ByteArray):Bool:=uP t st e (gD t p) (gK t p) (gO t p) (gW t p) (gX t p) (gC t p) (gL t p) (gN t p) (gP t p)
def gY (t:Int) (p:ByteArray):ByteArray:=⟨(rX t (gD t p) (gK t p) (gO t p) (gW t p) (gX t p) (gC t p) (gL t p) (gN t p) (gP t p)).toArray⟩
def gOk (t st:Int) (e:Bool) (p:ByteArray):Bool:=gB t st e p && decide (gY t p=p)
end Go.Proofs.YtifgibijcmppmaaGreat
namespace Go.Proofs.YtifgibijcmppmaaGreat
open Go Go.Proofs Go.Sl
set_option maxRecDepth 100000
set_option maxHeartbeats 40000000
attribute [local irreducible] aM fG cV bP aN aW aA dP dX aV dO pt ro eW star sep bH
attribute [local irreducible] ByteArray.extract xH eM
variable {R C:List HP} {K:Value→List HP→Prop}
theorem US {t st:Int} {e:Bool} {d:ByteArray} {k on w:Int} {x:Bool} {c la n:Int} {pa:Option Addr} {pn pc:Nat} {ps:List Pr} (h:sA t st e d k on w x c la n ps) (hv:dL C pa rN ps) (hn:ps.length=pn) (hK:K (.string ⟨(rX t d k on w x c la n ps).toArray⟩) C):aA Tryz.prog 268 #[.agg #[.int .i64 t,.int .i64 st,.bool e,.string d,.int .i64 k,.int .i64 on,.int .i64 w,.bool x,.int .i64 c,.int .i64 la,.int .i64 n,.slice pa pn pc]] C K:=by
 have hl:=h.2.2.2.2.2.2.2.2.2.2.2.2.2.2.2.2.2.2.2.2
 have hd:=h.2.2.2.2.2.2.2.2.2.2.2.2.2.2.2.1
 refine QU hv hn (by omega) ?_ (by rw[(F9 h).1];exact hK)
 by_cases h2:t=2∨t=3
 ·have:=hd h2
  unfold Q3 at this
  simp only[Bool.and_eq_true,decide_eq_true_eq] at this
  omega
 ·exact .inr h2
def gE (l t f s:Int) (p:ByteArray):Int:=if wA l t f s=0 then(if(p.size:Int)=l then(if gOk t s (f == 1) p=true then 0 else 1) else 6) else wA l t f s
def Ajn:Value:=.agg #[.int .i64 0,.int .i64 0,.bool false,.string ⟨#[]⟩,.int .i64 0,.int .i64 0,.int .i64 0,.bool false,.int .i64 0,.int .i64 0,.int .i64 0,.slice none 0 0]
theorem TU {l t f s:Int} {p:ByteArray} (hf:-9223372036854775808≤f∧f≤9223372036854775807) (hK1:gE l t f s p=0→∀A c,K (.tuple #[.agg #[.int .i64 t,.int .i64 s,.bool (f == 1),.string (gD t p),.int .i64 (gK t p),.int .i64 (gO t p),.int .i64 (gW t p),.bool (gX t p),.int .i64 (gC t p),.int .i64 (gL t p),.int .i64 (gN t p),.slice A (gP t p).length c],.int .i64 0]) (bU A c 148 rN (gP t p)::R))
  (hK2:gE l t f s p≠0→K (.tuple #[Ajn,.int .i64 (gE l t f s p)]) R):aA Tryz.prog 245 #[.agg #[.int .i64 l,.int .i64 t,.int .i64 f,.int .i64 s],.string p] R K:=by
 by_cases h1:wA l t f s=0
 ·by_cases h2:(p.size:Int)=l
  ·have hL:=V5 h1 h2.symm
   have hgl:=Aib t p
   have hp1000:(gP t p).length<1000000000000000:=by rw[hgl];have:=hL.2.2.1;split <;> omega
   unfold gE at hK1 hK2
   rw[if_pos h1,if_pos h2] at hK1 hK2
   unfold gOk gB at hK1 hK2
   cases hb:uP t s (f == 1) (gD t p) (gK t p) (gO t p) (gW t p) (gX t p) (gC t p) (gL t p) (gN t p) (gP t p)
   ·rw[hb] at hK2
    simp only[Bool.false_and,Bool.false_eq_true,if_false] at hK2
    have hi:M6 t s (f == 1) (gD t p) (gK t p) (gO t p) (gW t p) (gX t p) (gC t p) (gL t p) (gN t p) (gP t p)=2:=by unfold M6;rw[hb];rfl
    refine aH Tryz.func245 ?_
    repeat' (first|refine v82 ?_|refine wr ?_|refine w5 ?_ ?_|((refine bh fun h=>?_) <;> try exact w6 h)|(refine aE fun hA=>?_;subst hA)|intro _|(show aA _ 244 _ _ _;refine CA (h:=vC hf ?_))|(show aA _ 330 _ _ _;refine CA (h:=OY hL (fun A c=>?_)))|(show aA _ 112 _ _ _;refine CA (h:=AI (ps:=gP t p) (by exact jY) rfl hp1000 ?_)))
    all_goals(refine aC ?_;exact aB (hK2 (by decide)))
   ·rw[hb] at hK1 hK2
    have hR:=(Gs _ _ _ _ _ _ _ _ _ _ _ _).1 hb
    have hi:M6 t s (f == 1) (gD t p) (gK t p) (gO t p) (gW t p) (gX t p) (gC t p) (gL t p) (gN t p) (gP t p)=0:=by unfold M6;rw[hb];rfl
    refine aH Tryz.func245 ?_
    repeat' (first|refine v82 ?_|refine wr ?_|refine w5 ?_ ?_|((refine bh fun h=>?_) <;> try exact w6 h)|(refine aE fun hA=>?_;subst hA)|intro _|(show aA _ 244 _ _ _;refine CA (h:=vC hf ?_))|(show aA _ 330 _ _ _;refine CA (h:=OY hL (fun A c=>?_)))|(show aA _ 112 _ _ _;refine CA (h:=AI (ps:=gP t p) (by exact jY) rfl hp1000 ?_))|(show aA _ 268 _ _ _;refine CA (h:=US (ps:=gP t p) hR (by exact jY) rfl ?_)))
    ·have hd:decide (gY t p=p)=false:=decide_eq_false fun e=>h (congrArg ByteArray.toList e)
     rw[hd] at hK2
     (refine aC ?_;exact aB (hK2 (by decide)))
    ·have hd:decide (gY t p=p)=true:=decide_eq_true (QH.1 h)
     rw[hd] at hK1
     (refine aC ?_;exact aB (hK1 rfl _ _))
  ·unfold gE at hK2
   rw[if_pos h1,if_neg h2] at hK2
   refine aH Tryz.func245 ?_
   repeat' (first|refine v82 ?_|refine wr ?_|refine w5 ?_ ?_|((refine bh fun h=>?_) <;> try exact w6 h)|(refine aE fun hA=>?_;subst hA)|intro _|(show aA _ 244 _ _ _;refine CA (h:=vC hf ?_)))
   all_goals(refine aC ?_;exact aB (hK2 (by decide)))
 ·unfold gE at hK2
  rw[if_neg h1] at hK2
  refine aH Tryz.func245 ?_
  repeat' (first|refine v82 ?_|refine wr ?_|refine w5 ?_ ?_|((refine bh fun h=>?_) <;> try exact w6 h)|(refine aE fun hA=>?_;subst hA)|intro _|(show aA _ 244 _ _ _;refine CA (h:=vC hf ?_)))
  all_goals(refine aC ?_;exact aB (hK2 h1))
end Go.Proofs.YtifgibijcmppmaaGreat
end
section
namespace Go.Proofs.YtifgibijcmppmaaGreat
open Go Go.Proofs Go.Sl
set_option maxRecDepth 100000
set_option maxHeartbeats 40000000
attribute [local irreducible] aM fG cV bP aN aW aA dP dX aV dO pt ro eW star sep bH
attribute [local irreducible] ByteArray.extract xH eM
variable {R C:List HP} {K:Value→List HP→Prop}
def frB (t st:Int) (e:Bool) (d:ByteArray) (k on w:Int) (x:Bool) (c la n:Int) (ps:List Pr):ByteArray:=BO ((ByteArray.mk (rX t d k on w x c la n ps).toArray).size:Nat) t (Na e) st++⟨(rX t d k on w x c la n ps).toArray⟩
theorem Iw {t st:Int} {e:Bool} {d:ByteArray} {k on w:Int} {x:Bool} {c la n:Int} {ps:List Pr} (h:sA t st e d k on w x c la n ps):hOk ((ByteArray.mk (rX t d k on w x c la n ps).toArray).size:Nat) t (Na e) st=true:=by
 have hl:=(F9 h).2
 have hb:=P0 e
 obtain⟨h1,h2,_⟩:=h
 unfold hOk
 simp only[Bool.and_eq_true,decide_eq_true_eq,u3]
 omega
theorem JZ {l t f s:Int} (h:hOk l t f s=true):(BO l t f s).size=9:=by
 have e:=K0 h
 have:(BO l t f s).data.toList.length=(BO l t f s).size:=by simp
 rw[← this,e]
 simp only[List.length_append,sD]
 decide
theorem iD {t st:Int} {e:Bool} {d:ByteArray} {k on w:Int} {x:Bool} {c la n:Int} {pa:Option Addr} {pn pc:Nat} {ps:List Pr} (h:uP t st e d k on w x c la n ps=true) (hv:dL C pa rN ps) (hn:ps.length=pn) (hn2:pn<1000000000000000) (hK:K (.int .i64 0) C):aA Tryz.prog 112 #[.agg #[.int .i64 t,.int .i64 st,.bool e,.string d,.int .i64 k,.int .i64 on,.int .i64 w,.bool x,.int .i64 c,.int .i64 la,.int .i64 n,.slice pa pn pc]] C K:=by
 refine AI hv hn hn2 ?_
 unfold M6;rw[h];exact hK
theorem Be {t st:Int} {e:Bool} {d:ByteArray} {k on w:Int} {x:Bool} {c la n:Int} {pa:Option Addr} {pn pc:Nat} {ps:List Pr} (h:uP t st e d k on w x c la n ps=false) (hv:dL C pa rN ps) (hn:ps.length=pn) (hn2:pn<1000000000000000) (hK:K (.int .i64 2) C):aA Tryz.prog 112 #[.agg #[.int .i64 t,.int .i64 st,.bool e,.string d,.int .i64 k,.int .i64 on,.int .i64 w,.bool x,.int .i64 c,.int .i64 la,.int .i64 n,.slice pa pn pc]] C K:=by
 refine AI hv hn hn2 ?_
 unfold M6;rw[h];exact hK
def DV:List (Nat×Nat):= [(4,0),(5,0),(6,1),(0,1),(1,1),(2,1),(3,1),(7,1),(8,1),(9,0),(10,1),(11,0),(12,0),(13,0),(14,0),(15,0)]
theorem NT {t st:Int} {e:Bool} {d:ByteArray} {k on w:Int} {x:Bool} {c la n:Int} {pa:Option Addr} {pn pc:Nat} {ps:List Pr} (h:sA t st e d k on w x c la n ps) (hv:dL C pa rN ps) (hn:ps.length=pn) (hK:K (.tuple #[.string (frB t st e d k on w x c la n ps),.int .i64 0]) C):aA Tryz.prog 175 #[.agg #[.int .i64 t,.int .i64 st,.bool e,.string d,.int .i64 k,.int .i64 on,.int .i64 w,.bool x,.int .i64 c,.int .i64 la,.int .i64 n,.slice pa pn pc]] C K:=by
 have hl:=h.2.2.2.2.2.2.2.2.2.2.2.2.2.2.2.2.2.2.2.2
 have hc:=(Gs _ _ _ _ _ _ _ _ _ _ _ _).2 h
 have hn2:pn<1000000000000000:=by omega
 have ho:=Iw h
 have hs:=JZ ho
 have hp:=(F9 h).2
 have hps:(ByteArray.mk (rX t d k on w x c la n ps).toArray).size≤256:=by rw[u3];exact hp
 unfold frB at hK
 refine aH Tryz.func175 ?_
 repeat' (first|refine XR ?_|refine dw DV ?_|refine wr ?_|refine w5 ?_ ?_|((refine bh fun h=>?_) <;> try exact w6 h)|(refine aE fun hA=>?_;subst hA)|intro _|(show aA _ 112 _ _ _;refine CA (h:=iD (ps:=ps) hc (bI hv) hn hn2 ?_))|(show aA _ 268 _ _ _;refine CA (h:=US (ps:=ps) h (bI hv) hn ?_))|(show aA _ 270 _ _ _;refine CA (h:=TZ ?_))|(show aA _ 269 _ _ _;refine CA (h:=Acf ho ?_)))
 all_goals(refine aC ?_;exact aB (hK))
end Go.Proofs.YtifgibijcmppmaaGreat
namespace Go.Proofs.YtifgibijcmppmaaGreat
open Go Go.Proofs Go.Sl
set_option maxRecDepth 100000
set_option maxHeartbeats 40000000
attribute [local irreducible] aM fG cV bP aN aW aA dP dX aV dO pt ro eW star sep bH
attribute [local irreducible] ByteArray.extract xH eM
variable {R C:List HP} {K:Value→List HP→Prop}
theorem Yr {l t f s:Int} {p:ByteArray} (hf:-9223372036854775808≤f∧f≤9223372036854775807) (h:gE l t f s p=0) (hK:∀A c,K (.tuple #[.agg #[.int .i64 t,.int .i64 s,.bool (f == 1),.string (gD t p),.int .i64 (gK t p),.int .i64 (gO t p),.int .i64 (gW t p),.bool (gX t p),.int .i64 (gC t p),.int .i64 (gL t p),.int .i64 (gN t p),.slice A (gP t p).length c],.int .i64 0]) (bU A c 148 rN (gP t p)::R)):aA Tryz.prog 245 #[.agg #[.int .i64 l,.int .i64 t,.int .i64 f,.int .i64 s],.string p] R K:=TU hf (fun _=>hK) (fun h'=>absurd h h')
theorem XY {l t f s:Int} {p:ByteArray} (hf:-9223372036854775808≤f∧f≤9223372036854775807) (h:gE l t f s p≠0) (hK:K (.tuple #[.agg #[.int .i64 0,.int .i64 0,.bool false,.string ⟨#[]⟩,.int .i64 0,.int .i64 0,.int .i64 0,.bool false,.int .i64 0,.int .i64 0,.int .i64 0,.slice none 0 0],.int .i64 (gE l t f s p)]) R):aA Tryz.prog 245 #[.agg #[.int .i64 l,.int .i64 t,.int .i64 f,.int .i64 s],.string p] R K:=TU hf (fun h'=>absurd h' h) (fun _=>hK)
end Go.Proofs.YtifgibijcmppmaaGreat
namespace Go.Proofs.YtifgibijcmppmaaGreat
open Go Go.Proofs Go.Sl
set_option maxRecDepth 100000
set_option maxHeartbeats 40000000
attribute [local irreducible] aM fG cV bP aN aW aA dP dX aV dO pt ro eW star sep bH
attribute [local irreducible] ByteArray.extract xH eM
variable {R C:List HP} {K:Value→List HP→Prop}
def fmD:List Value→Option Fm
 | [.int .i64 t,.int .i64 st,.bool e,.string d,.int .i64 k,.int .i64 on,.int .i64 w,.bool x,.int .i64 c,.int .i64 la,.int .i64 n,.slice pa pn pc]=>some ⟨t,st,e,d,k,on,w,x,c,la,n,pa,pn,pc,[]⟩
 |_=>none
theorem Aia (cs:List Value) (y:Fm) (h:fmD cs=some y): [.int .i64 y.t,.int .i64 y.st,.bool y.e,.string y.d,.int .i64 y.k,.int .i64 y.on,.int .i64 y.w,.bool y.x,.int .i64 y.c,.int .i64 y.la,.int .i64 y.n,.slice y.pa y.pn y.pc]=cs:=by
 unfold fmD at h
 split at h
 ·cases h;rfl
 ·cases h
def uM:tG Fm:= { enc:=fun y=> [.int .i64 y.t,.int .i64 y.st,.bool y.e,.string y.d,.int .i64 y.k,.int .i64 y.on,.int .i64 y.w,.bool y.x,.int .i64 y.c,.int .i64 y.la,.int .i64 y.n,.slice y.pa y.pn y.pc],sz:=12,dec:=fmD,len:=fun _=>rfl,one:=fun _=>rfl,ok:=Aia }
def FmV (C:List HP) (y:Fm):Prop:=dL C y.pa rN y.ps∧y.ps.length=y.pn
def l8 (y:Fm):Bool:=uP y.t y.st y.e y.d y.k y.on y.w y.x y.c y.la y.n y.ps
def Rn (y:Fm):ByteArray:=frB y.t y.st y.e y.d y.k y.on y.w y.x y.c y.la y.n y.ps
def cX (y:Fm):Prop:=sA y.t y.st y.e y.d y.k y.on y.w y.x y.c y.la y.n y.ps
theorem t6 (y:Fm):l8 y=true↔cX y:=Gs _ _ _ _ _ _ _ _ _ _ _ _
theorem Ag6 {y:Fm} (h:cX y):(Rn y).size≤265:=by
 have h1:=JZ (Iw h)
 have h2:=(F9 h).2
 have:(Rn y).size=9+(rX y.t y.d y.k y.on y.w y.x y.c y.la y.n y.ps).length:=by
  unfold Rn frB
  rw[ByteArray.size_append,h1,u3]
 omega
def rW (l:List Fm):List UInt8:=l.flatMap fun y=>(Rn y).data.toList
theorem MH:∀ {l:List Fm},(∀y∈l,cX y)→(rW l).length≤265 * l.length
 | [],_=>by simp[rW]
 |y::l,h=>by
  have h1:=Ag6 (h y (by simp))
  have h2:=MH (l:=l) fun z hz=>h z (List.mem_cons_of_mem _ hz)
  have e:(Rn y).data.toList.length=(Rn y).size:=by simp
  have e2:(rW (y::l)).length=(Rn y).size+(rW l).length:=by rw[← e];simp[rW]
  rw[e2,List.length_cons];omega
theorem Xg {l:List Fm} {j:Nat} {y:Fm} (h:l[j]?=some y):rW (l.take (j+1))=rW (l.take j)++(Rn y).data.toList:=by
 unfold rW
 rw[List.take_add_one,h]
 simp
theorem P4 {A:Option Addr} {n c:Nat} {xs:List Fm} (hr:∀y∈xs,cX y) (hv:dL C A uM xs) (hps:∀y∈xs,FmV C y) (hn:xs.length=n) (hn2:n≤1000000) (hK:K (.tuple #[.string ⟨(rW xs).toArray⟩,.int .i64 0]) C):aA Tryz.prog 99 #[.slice A n c] C K:=by
 subst hn
 refine aH Tryz.func99 ?_
 repeat' (first|refine v74 ?_|refine wr ?_|refine w5 ?_ ?_|((refine bh fun h=>?_) <;> try exact w6 h)|(refine aE fun hA=>?_;subst hA)|intro _)
 refine iL (fun m a C'=>∃(j:Nat) (B:Option Addr) (kk:Nat),j+m=xs.length∧C'=bU B kk 5 dF (rW (xs.take j))::C∧dC a [(4,.slice B (rW (xs.take j)).length kk),(9,.slice A xs.length c),(10,.int .i64 xs.length),(11,.int .i64 j)]) xs.length (cC xs.length ⟨0,none,0,by omega,rfl,rfl,rfl,rfl,rfl,trivial⟩) ?_
 rintro n1 a C' ⟨j,B,kk,hj,rfl,ha⟩
 refine gV _ ha ?_
 simp only[fN]
 have hle:=MH (l:=xs.take j) fun y hy=>hr y (List.mem_of_mem_take hy)
 rw[List.length_take] at hle
 by_cases hlt:j<xs.length
 ·obtain⟨y,hy,hd⟩:=iS (l:=xs) (j:=j) (by omega)
  have hm:=List.mem_of_getElem? hy
  have hp:=hps y hm
  have hR:cX y:=hr y hm
  have ht:=Xg hy
  have hsz:=Ag6 hR
  have hdl:(Rn y).data.toList.length=(Rn y).size:=by simp
  unfold Rn at ht hsz hdl
  repeat' (first|refine v74 ?_|refine wr ?_|refine w5 ?_ ?_|((refine bh fun h=>?_) <;> try exact w6 h)|(refine aE fun hA=>?_;subst hA)|intro _|(show aA _ 175 _ _ _;refine CA (h:=NT (ps:=y.ps) hR (bI (bI hp.1)) hp.2 ?_)))
  all_goals exact cC (n1 - 1) ⟨j+1,_,_,by omega,by rw[ht],by rw[ht];rfl,rfl,rfl,rfl,trivial⟩
 ·obtain rfl:j=xs.length:=by omega
  rw[List.take_of_length_le (Nat.le_refl _)]
  repeat' (first|refine v74 ?_|refine wr ?_|refine w5 ?_ ?_|((refine bh fun h=>?_) <;> try exact w6 h)|(refine aE fun hA=>?_;subst hA)|intro _)
  all_goals(refine aC ?_;exact aB (hK))
end Go.Proofs.YtifgibijcmppmaaGreat
namespace Go.Proofs.YtifgibijcmppmaaGreat
open Go Go.Proofs Go.Sl
set_option maxRecDepth 100000
set_option maxHeartbeats 40000000
attribute [local irreducible] aM fG cV bP aN aW aA dP dX aV dO pt ro eW star sep bH
variable {W:World}
def yG (y:Fm):HP:=lF y.pa rN y.ps
theorem Ac (y:Fm):Fj (yG y):=lR _ _ _
theorem zV (y:Fm):Ag (yG y):=Vi _ _ _
theorem wE {C:List HP} {l:List Fm} {y:Fm} (hy:y∈l):dL (kB yG l::C) y.pa rN y.ps:=YX (aG.allget (P:=yG) Ac zV hy) iV
end Go.Proofs.YtifgibijcmppmaaGreat
end
namespace Go.Proofs.YtifgibijcmppmaaGreat
open Go Go.Proofs Go.Sl
set_option maxRecDepth 100000
set_option maxHeartbeats 40000000
attribute [local irreducible] aM fG cV bP aN aW aA dP dX aV dO pt ro eW star sep bH
section
variable {R C:List HP} {K:Value→List HP→Prop}
structure PM where
 li:Int
 nw:Int
 si:Int
 st:Bool
 fi:Bool
def slP (p:Nat) (s:PM):HP:=pt p [.int .i64 s.li,.int .i64 s.nw,.int .i64 s.si,.bool s.st,.bool s.fi] 223
def iF (s:PM) (n:Int):PM:=if s.fi=true then s else⟨s.li,max s.nw n,if s.st=true then max s.nw n else s.si,s.st,s.fi⟩
def nC (s:PM) (n:Int) (b:Bool):PM:=if s.li=0 then s else if s.fi=true then⟨s.li,max s.nw n,s.si,s.st,s.fi⟩ else if b=false then⟨s.li,max s.nw n,0,false,s.fi⟩ else if s.st=false then⟨s.li,max s.nw n,max s.nw n,true,decide (s.li≤max s.nw n - max s.nw n)⟩ else⟨s.li,max s.nw n,s.si,s.st,decide (s.li≤max s.nw n - s.si)⟩
def AY (s:PM) (n:Int) (b:Bool):Bool:=if s.li=0 then false else if s.fi=true then true else if b=false then false else(nC s n b).fi
section
variable {p r q:Nat} {s:PM} {li nw si n:Int} {st fi b:Bool}
theorem KP (hK:K (.int .i64 (max nw n)) (pt p [.int .i64 li,.int .i64 (max nw n),.int .i64 si,.bool st,.bool fi] 223::R)):aA Tryz.prog 277 #[.pointer (some ⟨p,0,none⟩),.int .i64 n] (pt p [.int .i64 li,.int .i64 nw,.int .i64 si,.bool st,.bool fi] 223::R) K:=by
 refine aH Tryz.func277 ?_
 repeat' (first|refine v14 ?_|refine wr ?_|refine w5 ?_ ?_|((refine bh fun h=>?_) <;> try exact w6 h)|(refine aE fun hA=>?_;subst hA)|intro _)
 all_goals(refine aC ?_;exact aB (hK))
theorem Ak (hK:K (.tuple #[]) (slP p (iF s n)::R)):aA Tryz.prog 259 #[.pointer (some ⟨p,0,none⟩),.int .i64 n] (slP p s::R) K:=by
 obtain⟨li,nw,si,st,fi⟩:=s
 cases fi <;> cases st <;> simp only[slP,iF,if_true,if_false,Bool.false_eq_true,reduceCtorEq] at hK ⊢
 all_goals
  refine aH Tryz.func259 ?_
  repeat' (first|refine z8 ?_|refine wr ?_|refine w5 ?_ ?_|((refine bh fun h=>?_) <;> try exact w6 h)|(refine aE fun hA=>?_;subst hA)|intro _|(show aA _ 277 _ _ _;refine CA (h:=KP ?_)))
  all_goals(refine aC ?_;exact aB (hK))
def Ck:List (Nat×Nat):= [(0,0),(1,0),(2,0),(3,0),(4,0),(5,0),(6,0),(7,0),(8,0),(9,0),(10,0),(11,0)]
theorem WP (hb:-1000000000000000≤si∧si≤1000000000000000) (hn:-1000000000000000≤n∧n≤1000000000000000) (hK:K (.bool (decide (li≤n - si))) (pt q [.int .i64 n] 3::pt r [.pointer (some ⟨p,0,none⟩)] 122::pt p [.int .i64 li,.int .i64 nw,.int .i64 si,.bool st,.bool fi] 223::R)):aA Tryz.prog 278 #[.pointer (some ⟨q,0,none⟩),.pointer (some ⟨r,0,none⟩)] (pt q [.int .i64 n] 3::pt r [.pointer (some ⟨p,0,none⟩)] 122::pt p [.int .i64 li,.int .i64 nw,.int .i64 si,.bool st,.bool fi] 223::R) K:=by
 refine aH Tryz.func278 ?_
 repeat' (first|refine v22 ?_|refine dw Ck ?_|refine wr ?_|refine w5 ?_ ?_|((refine bh fun h=>?_) <;> try exact w6 h)|(refine aE fun hA=>?_;subst hA)|intro _)
 all_goals(refine aC ?_;exact aB (kb hK (by simp)))
def tJ:List (Nat×Nat):= [(0,0),(2,0),(3,0),(4,1),(1,1),(5,0),(6,0),(7,1)]
def sR:List (Nat×Nat):= [(0,0),(3,0),(4,0),(5,1),(1,1),(2,1),(6,0),(7,0),(8,1)]
def sI:List (Nat×Nat):= [(1,0),(2,1),(0,1),(3,0),(4,0),(5,1)]
theorem EX (h1:0≤s.nw∧s.nw≤100000000000000) (h2:0≤s.si∧s.si≤100000000000000) (h3:0≤n∧n≤100000000000000) (hK:K (.bool (AY s n b)) (slP p (nC s n b)::R)):aA Tryz.prog 185 #[.pointer (some ⟨p,0,none⟩),.int .i64 n,.bool b] (slP p s::R) K:=by
 obtain⟨li,nw,si,st,fi⟩:=s
 simp only at h1 h2
 by_cases hl:li=0
 ·subst hl
  simp only[slP,nC,AY,if_true] at hK ⊢
  refine aH Tryz.func185 ?_
  repeat' (first|refine Qx ?_|refine dw tJ ?_|refine dw sR ?_|refine dw sI ?_|refine wr ?_|refine w5 ?_ ?_|((refine bh fun h=>?_) <;> try exact w6 h)|(refine aE fun hA=>?_;subst hA)|intro _)
  all_goals(refine aC ?_;exact aB (hK))
 ·cases fi <;> cases b <;> cases st <;> simp only[slP,nC,AY,hl,if_true,if_false,Bool.false_eq_true,reduceCtorEq] at hK ⊢
  all_goals
   refine aH Tryz.func185 ?_
   repeat' (first|refine Qx ?_|refine dw tJ ?_|refine dw sR ?_|refine dw sI ?_|refine wr ?_|refine w5 ?_ ?_|((refine bh fun h=>?_) <;> try exact w6 h)|(refine aE fun hA=>?_;subst hA)|intro _|(show aA _ 277 _ _ _;refine CA (h:=KP ?_))|(show aA _ 278 _ _ _;refine CA (h:=WP (by omega) (by omega) ?_)))
   all_goals(refine aC ?_;exact aB (hK))
end
end
end Go.Proofs.YtifgibijcmppmaaGreat
