/- The document's endpoint: streams killed and reset: lemmas; each with the conditions that it states. -/
import Derived.Test.YtffnpejdkkohcaaGreatBag
import Derived.Test.YtffnpejdkkohcaaGreatCR1
import Derived.Test.YtffnpejdkkohcaaGreatQx
namespace Go.Proofs.YtffnpejdkkohcaaGreat
open Go Go.Proofs Go.Sl
set_option maxRecDepth 100000
set_option maxHeartbeats 40000000
set_option linter.unusedSimpArgs false
set_option linter.unusedVariables false
attribute [local irreducible] aM eY cU bQ aL aW aA dS dT aZ dR pt ro fN star sep bH
variable {R C:List HP} {K:Value→List HP→Prop} {p c rv wc oc i:Nat} {A W O:Option Addr} {x:Rc} {s s':Rs} {id:Int}
theorem starL_sub {β:Type} {f:β→HP} {l l':List β} (h:l'.Sublist l):∀ {R:List HP},aG (eC f l::R) (eC f l'::R):=by
 induction h with
 |slnil=>exact fun {R}=>aG.refl _
 |cons a h ih=>exact fun {R}=>aG.trans DU (aG.drop ih)
 |cons_cons a h ih=>exact fun {R}=>aG.trans DU (aG.trans (aG.cons ih) Ho)
theorem rs_put (h:x.l[i]?=some s):aG (rsP s::eC rsP (x.l.eraseIdx i)::R) (eC rsP x.l::R):=by
 have:=Ej (f:=rsP) (b':=s) (R:=R) h
 rw[kB i h] at this
 exact this
theorem rs_back {q:Rs→Bool} (h:x.l[i]?=some s):aG (rsP s::eC rsP (x.l.eraseIdx i)::R) (eC rsP (x.l.filter q)::R):=aG.trans (rs_put h) (starL_sub List.filter_sublist)
structure RcN (x:Rc):Prop where
 l:x.l.Pairwise fun a b=>a.id<b.id
 len:x.l.length≤64
 o:x.o.length≤64
 us:0≤x.us∧x.us≤2000000000
 b:∀s∈x.l,s.k=1→0≤s.got∧s.got≤900000000
theorem kill_o:(CH id x).o=x.o:=by
 unfold CH
 split
 ·rfl
 ·unfold Ale
  split <;> rfl
def d107_3_0_rckill_ok:List Nat:= [0,1,3,7,0,16,48,112,240,496,1008,0,2048,6144,14336,0,63488,129024,260096,522240,1046528,2095104,4194288,8388607,16777215,33554431]
def d107_3_1_rckill_ok:List Nat:= [33554431,16777215,8388607,4194288,2095104,1046528,522240,260096,129024,63488,0,14336,6144,2048,0,1008,496,240,112,48,16,0,7,3,1,0]
def d107_3_2_rckill_ok:List (Nat×Nat):= [(0,0),(1,0),(2,0),(3,0),(4,0),(5,0),(6,0),(7,0),(8,0),(9,0),(10,0),(11,0),(12,0),(13,0),(14,0),(15,0),(16,0),(17,0),(18,0),(19,0),(20,0),(21,0),(22,0),(23,0),(24,0),(25,1)]
theorem rckill_ok (hN:RcN x) (hK:∀A c,K (.tuple #[]) (rcL p A c rv W wc O oc (CH id x) R)):aA Tryz.prog 107 #[.pointer (some ⟨p,0,none⟩),.int .i64 id] (rcL p A c rv W wc O oc x R) K:=by
 have hlen:(x.l.map rqe).length≤64:=by rw[List.length_map];exact hN.len
 have hus:=hN.us
 unfold CH at hK
 cases hs:zR id x.l with
 |none=>
  rw[hs] at hK
  dsimp only at hK
  dsimp only[rcL,rcX]
  refine aJ Tryz.func107 ?_
  repeat' (first|refine v62 ?_|refine ON d107_3_0_rckill_ok d107_3_1_rckill_ok d107_3_2_rckill_ok ?_|refine w5 ?_ ?_|((refine bh fun h=>?_) <;> try exact w6 h)|(refine aF fun hA=>?_;subst hA)|intro _|(show aA _ 104 _ _ _;refine CA (h:=rcfindN_ok (x:=x) hN.len (rs_at.2 hs) ?_)))
  all_goals(refine aC ?_;exact aB (hK _ _))
 |some s=>
  rw[hs] at hK
  dsimp only at hK
  obtain⟨i,h1,h2,h3⟩:=rs_at.1 s hs
  have hil:i<(x.l.map rqe).length:=by rw[List.length_map];exact(List.getElem?_eq_some_iff.1 h1).1
  have hz:(x.l.map rqe)[((i:Nat):Int).toNat]?=some (rqe s):=by rw[Int.toNat_natCast,List.getElem?_map,h1];rfl
  have hz0:(x.l.map rqe)[i]?=some (rqe s):=by rw[List.getElem?_map,h1];rfl
  by_cases hk:s.k=1
  ·rw[if_pos hk] at hK
   have hb:=hN.b s (List.mem_of_getElem? h1) hk
   dsimp only[rcL,rcX]
   refine aA.ent (aG.cons (aG.cons (tO (f:=rsP) h1))) ?_
   dsimp only[rsP]
   refine aJ Tryz.func107 ?_
   repeat' (first|refine v62 ?_|refine ON d107_3_0_rckill_ok d107_3_1_rckill_ok d107_3_2_rckill_ok ?_|refine w5 ?_ ?_|((refine bh fun h=>?_) <;> try exact w6 h)|(refine aF fun hA=>?_;subst hA)|intro _|(show aA _ 104 _ _ _;refine CA (h:=rcfindY_ok (x:=x) hN.len h1 h2 h3 ?_))|(show aA _ 179 _ _ _;refine CA (h:=rcdel_ok (x:= { x with us:=x.us+s.got }) hN.len (fun A' c'=>?_))))
   all_goals(refine aC ?_;exact aQ (aG.trans (by exact bE) ((aG.cons (aG.cons (rs_back h1))))) ((hK _ _)))
  ·rw[if_neg hk] at hK
   dsimp only[rcL,rcX]
   refine aJ Tryz.func107 ?_
   repeat' (first|refine v62 ?_|refine ON d107_3_0_rckill_ok d107_3_1_rckill_ok d107_3_2_rckill_ok ?_|refine w5 ?_ ?_|((refine bh fun h=>?_) <;> try exact w6 h)|(refine aF fun hA=>?_;subst hA)|intro _|(show aA _ 104 _ _ _;refine CA (h:=rcfindY_ok (x:=x) hN.len h1 h2 h3 ?_))|(show aA _ 179 _ _ _;refine CA (h:=rcdel_ok (x:=x) hN.len (fun A' c'=>?_))))
   all_goals(refine aC ?_;exact aQ (aG.trans (by exact bE) ((aG.cons (aG.cons (starL_sub List.filter_sublist))))) ((hK _ _)))
theorem rcreset_ok (hN:RcN x) (hK:∀A c O oc,K (.tuple #[]) (rcL p A c rv W wc O oc (tA id x) R)):aA Tryz.prog 105 #[.pointer (some ⟨p,0,none⟩),.int .i64 id] (rcL p A c rv W wc O oc x R) K:=by
 have ho:(CH id x).o.length≤1000:=by rw[kill_o];have:=hN.o;omega
 unfold tA at hK
 refine aJ Tryz.func105 ?_
 repeat' (first|refine v0 ?_|refine w5 ?_ ?_|((refine bh fun h=>?_) <;> try exact w6 h)|(refine aF fun hA=>?_;subst hA)|intro _|(show aA _ 107 _ _ _;refine CA (h:=rckill_ok (x:=x) hN (fun _ _=>?_)))|(show aA _ 48 _ _ _;refine CA (h:=rcpush_ok (x:=CH id x) ho (fun _ _ _ _=>?_))))
 all_goals(refine aC ?_;exact aB (hK _ _ _ _))
end Go.Proofs.YtffnpejdkkohcaaGreat
