/- The document's endpoint: a stream is opened: lemmas; each with the conditions that it states. -/
import Derived.Test.YtffnpejdkkohcaaGreatBag
import Derived.Test.YtffnpejdkkohcaaGreatCR2
import Derived.Test.YtffnpejdkkohcaaGreatQx
namespace Go.Proofs.YtffnpejdkkohcaaGreat
open Go Go.Proofs Go.Sl
set_option maxRecDepth 100000
set_option maxHeartbeats 40000000
set_option linter.unusedSimpArgs false
set_option linter.unusedVariables false
attribute [local irreducible] aM eY cU bQ aL aW aA dS dT aZ dR pt ro fN star sep bH
variable {R C:List HP} {K:Value→List HP→Prop} {p c rv wc oc i:Nat} {A W O:Option Addr} {x:Rc} {s s':Rs} {id:Int} {f:Fm}
theorem star_snoc {β:Type} {g:β→HP} {b:β} {l:List β}:aG (g b::eC g l::R) (eC g (l++ [b])::R):=Ho.trans (CB (List.perm_append_singleton b l).symm)
def d45_1_0_rcopen_ok:List (Nat×Nat):= [(0,0),(1,0),(2,0),(3,0),(4,0),(5,0),(6,0),(7,0),(8,0),(9,0),(10,0),(11,0),(12,0)]
def d45_6_0_rcopen_ok:List (Nat×Nat):= [(0,0),(1,0),(2,0),(3,0),(4,0),(5,0),(6,0),(7,0),(8,0),(9,0),(10,0)]
def d45_8_0_rcopen_ok:List Nat:= [0,0,0,4,12,28,62,0,128,0,512,0,2048,6144,14336,30720,63614,0,131072,393216,917504,1966080,4194302,8388606,16777214,33554431,67108863,134217727]
def d45_8_1_rcopen_ok:List Nat:= [134217727,67108863,33554431,16777214,8388606,4194302,1966080,917504,393216,131072,0,63614,30720,14336,6144,2048,0,512,0,128,0,62,28,12,4,0,0,0]
def d45_8_2_rcopen_ok:List (Nat×Nat):= [(1,1),(2,1),(3,1),(4,1),(5,1),(6,1),(11,2),(12,2),(13,2),(14,2),(15,2),(16,1),(7,3),(8,3),(9,3),(10,3),(17,3),(18,3),(19,3),(20,3),(21,3),(22,0),(23,1),(24,1),(0,5),(25,0),(26,0),(27,1)]
theorem rcopen_ok (h0:0≤f.st) (hl:x.l.length≤64) (ho:x.o.length≤64) (hK:∀A c O oc i,K (.tuple #[]) (rcL p A c rv W wc O oc (QJ f i x) R)):aA Tryz.prog 45 #[.pointer (some ⟨p,0,none⟩),.agg #[.int .i64 f.t,.int .i64 f.st,.bool f.e,.string f.d,.int .i64 f.k,.int .i64 f.on,.int .i64 f.w,.bool f.x,.int .i64 f.c,.int .i64 f.la,.int .i64 f.n,.slice f.pa f.pn f.pc]] (rcL p A c rv W wc O oc x R) K:=by
 have hlen:(x.l.map rqe).length=x.l.length:=List.length_map ..
 unfold QJ at hK
 by_cases c1:f.st % 2≠1∨f.st≤x.la
 ·have hK:=hK none 0 none 0 0
  rw[if_pos c1] at hK
  dsimp only[rcL,rcX]
  refine aJ Tryz.func45 ?_
  repeat' (first|refine v90 ?_|refine dw d45_1_0_rcopen_ok ?_|refine dw d45_6_0_rcopen_ok ?_|refine ON d45_8_0_rcopen_ok d45_8_1_rcopen_ok d45_8_2_rcopen_ok ?_|refine w5 ?_ ?_|((refine bh fun h=>?_) <;> try exact w6 h)|(refine aF fun hA=>?_;subst hA)|intro _|(show aA _ 49 _ _ _;refine CA (h:=rcfail_ok (x:=x) ?_)))
  all_goals(refine aC ?_;exact aB (hK))
 by_cases c2:f.on=f.st
 ·have hK:=hK none 0 none 0 0
  rw[if_neg c1,if_pos c2] at hK
  dsimp only[rcL,rcX]
  refine aJ Tryz.func45 ?_
  repeat' (first|refine v90 ?_|refine dw d45_1_0_rcopen_ok ?_|refine dw d45_6_0_rcopen_ok ?_|refine ON d45_8_0_rcopen_ok d45_8_1_rcopen_ok d45_8_2_rcopen_ok ?_|refine w5 ?_ ?_|((refine bh fun h=>?_) <;> try exact w6 h)|(refine aF fun hA=>?_;subst hA)|intro _|(show aA _ 49 _ _ _;refine CA (h:=rcfail_ok (x:= { x with la:=f.st }) ?_)))
  all_goals(refine aC ?_;exact aB (hK))
 by_cases c3:x.h.st≤(x.l.length:Nat)
 ·have hK:=fun A c O oc=>hK A c O oc 0
  rw[if_neg c1,if_neg c2,if_pos c3] at hK
  dsimp only[rcL,rcX]
  refine aJ Tryz.func45 ?_
  repeat' (first|refine v90 ?_|refine dw d45_1_0_rcopen_ok ?_|refine dw d45_6_0_rcopen_ok ?_|refine ON d45_8_0_rcopen_ok d45_8_1_rcopen_ok d45_8_2_rcopen_ok ?_|refine w5 ?_ ?_|((refine bh fun h=>?_) <;> try exact w6 h)|(refine aF fun hA=>?_;subst hA)|intro _|(show aA _ 48 _ _ _;refine CA (h:=rcpush_ok (x:= { x with la:=f.st }) (by dsimp only;omega) (fun _ _ _ _=>?_))))
  all_goals(refine aC ?_;exact aB (hK _ _ _ _))
 ·simp only[if_neg c1,if_neg c2,if_neg c3] at hK
  dsimp only[rcL,rcX] at hK ⊢
  simp only[List.map_append,List.map_cons,List.map_nil] at hK
  refine aJ Tryz.func45 ?_
  repeat' (first|(show aM _ _ _ _ _ _ _;first|(refine Ajs ?_;intro _ _)|(refine Acv ?_;intro _))|refine v90 ?_|refine dw d45_1_0_rcopen_ok ?_|refine dw d45_6_0_rcopen_ok ?_|refine ON d45_8_0_rcopen_ok d45_8_1_rcopen_ok d45_8_2_rcopen_ok ?_|refine w5 ?_ ?_|((refine bh fun h=>?_) <;> try exact w6 h)|(refine aF fun hA=>?_;subst hA)|intro _|(show aA _ 39 _ _ _;refine CA (h:=r08n_ok (fun i=>?_))))
  all_goals(refine aC ?_;exact aQ (aG.trans (by exact bE) ((aG.cons (aG.cons (star_snoc (g:=rsP) (b:=⟨f.st,f.k,x.h.w,x.h.w,x.h.w,0,0,false,x.pe.w,i⟩)))))) ((hK _ _ _ _ i)))
end Go.Proofs.YtffnpejdkkohcaaGreat
