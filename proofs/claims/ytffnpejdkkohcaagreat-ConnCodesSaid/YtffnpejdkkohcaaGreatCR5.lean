/- The document's endpoint: settings acknowledged: lemmas; each with the conditions that it states. -/
import Derived.Test.YtffnpejdkkohcaaGreatBag
import Derived.Test.YtffnpejdkkohcaaGreatCR2
import Derived.Test.YtffnpejdkkohcaaGreatQx
namespace Go.Proofs.YtffnpejdkkohcaaGreat
open Go Go.Proofs Go.Sl
set_option maxRecDepth 100000
set_option maxHeartbeats 40000000
set_option linter.unusedSimpArgs false
set_option linter.unusedVariables false
attribute [local irreducible] aM eY cU bQ aL aW aA dS dT aZ dR pt ro fN star sep bH
attribute [local irreducible] mp FV
variable {R C:List HP} {K:Value→List HP→Prop} {p c rv wc oc i:Nat} {A W O:Option Addr} {x:Rc} {s s':Rs} {id:Int} {f:Fm}
theorem rsz_p {w:Int}:(DV w s).p=s.p:=by unfold DV;split <;> rfl
theorem rsz_e {w:Int}:rqe (DV w s)=rqe s:=by unfold DV;split <;> rfl
theorem rsz_next {α:Type} {q:List α} {g:α→α} {z:α} {j:Nat} (hz:q[j]?=some z):((q.take j).map g++q.drop j)[j]?=some z∧((q.take j).map g++q.drop j).set j (g z)=(q.take (j+1)).map g++q.drop (j+1):=by
 have hlt:=(List.getElem?_eq_some_iff.1 hz).1
 have htl:((q.take j).map g).length=j:=by rw[List.length_map,List.length_take];omega
 refine⟨by rw[List.getElem?_append_right (by omega),htl,Nat.sub_self,List.getElem?_drop,Nat.add_zero];exact hz,?_⟩
 rw[List.set_append_right _ _ (by omega),htl,Nat.sub_self,List.drop_eq_getElem_cons hlt,List.set_cons_zero,List.take_add_one,hz]
 simp
def d47_8_0_rcack_ok:List (Nat×Nat):= [(0,0),(1,0),(2,0),(3,0),(4,0),(5,0),(6,0),(7,0),(8,0),(9,0),(10,0),(11,0),(12,0),(13,1)]
theorem rcack_ok (hl:x.l.length≤64) (hw:∀t∈x.w,0≤t.w∧t.w≤4096) (hb:∀s∈x.l,s.k=1→(0≤s.cap∧s.cap≤4096)∧0≤s.gr∧s.gr≤900000000) (hK:∀A c W wc O oc,K (.tuple #[]) (rcL p A c rv W wc O oc (Abm x) R)):aA Tryz.prog 47 #[.pointer (some ⟨p,0,none⟩)] (rcL p A c rv W wc O oc x R) K:=by
 have hlen:(x.l.map rqe).length=x.l.length:=List.length_map ..
 unfold Abm at hK
 cases hx:x.w with
 |nil=>
  rw[hx] at hK
  have h0:x.w.length=0:=by rw[hx];rfl
  dsimp only at hK
  dsimp only[rcL,rcX]
  refine aJ Tryz.func47 ?_
  repeat' (first|refine v62 ?_|refine dw d47_8_0_rcack_ok ?_|refine w5 ?_ ?_|((refine bh fun h=>?_) <;> try exact w6 h)|(refine aF fun hA=>?_;subst hA)|intro _|(show aA _ 49 _ _ _;refine CA (h:=rcfail_ok (x:=x) ?_)))
  all_goals(refine aC ?_;exact aB (hK _ _ _ _ _ _))
 |cons t r=>
  rw[hx] at hK
  have htw:=hw t (by rw[hx];exact List.mem_cons_self ..)
  have e:(x.l.map (DV t.w)).map rqe=x.l.map rqe:=by
   rw[List.map_map]
   exact List.map_congr_left fun z _=>rsz_e
  dsimp only[rcL,rcX] at hK ⊢
  rw[e] at hK
  rw[hx]
  have hx0:(t::r)[(0:Int).toNat]?=some t:=rfl
  have hpos:0<(t::r).length:=Nat.succ_pos _
  have hdr:((t::r).drop (Int.toNat 1)).take ((((t::r).length:Nat):Int).toNat - Int.toNat 1)=r:=by simp
  refine aJ Tryz.func47 ?_
  repeat' (first|(show aM _ _ _ _ _ _ _;refine iF (E:=F0) (xs:=t::r) ?_;intro _;rw[hdr])|refine v62 ?_|refine dw d47_8_0_rcack_ok ?_|refine w5 ?_ ?_|((refine bh fun h=>?_) <;> try exact w6 h)|(refine aF fun hA=>?_;subst hA)|intro _)
  rename_i W2q0
  refine iH (fun m a C'=>∃j:Nat,j+m=x.l.length∧cW a [(0,.pointer (some ⟨p,0,none⟩)),(2,.int .i64 j)]∧C'=pt p [.slice A (x.l.map rqe).length c,.pointer (some ⟨rv,0,none⟩),.int .i64 x.sd,.int .i64 t.w,.int .i64 t.st,.int .i64 t.it,.int .i64 x.pe.w,.int .i64 x.pe.st,.int .i64 x.pe.it,.slice W2q0 r.length (wc - 1),.int .i64 x.la,.bool false,.slice O x.o.length oc,.bool x.cl,.int .i64 x.co] 40::bU A c 51 rqC (x.l.map rqe)::eC rsP ((x.l.take j).map (DV t.w)++x.l.drop j)::pt rv [.int .i64 x.cap,.int .i64 x.most,.int .i64 x.gr,.int .i64 x.got,.int .i64 x.us] 188::bU O oc 3 mI x.o::bU W2q0 (wc - 1) 23 F0 r::R) x.l.length (cG x.l.length ⟨0,by omega,⟨rfl,rfl,trivial⟩,rfl⟩ (by omega)) ?_
  rintro m a C' ⟨j,hj,ha,rfl⟩
  refine gJ _ ha ?_
  simp only[fF]
  by_cases hlt:j<x.l.length
  ·obtain⟨z,hz1,hz2,hz3⟩:=rq_at hlt
   obtain⟨n1,n2⟩:=rsz_next (g:=DV t.w) hz1
   by_cases hk:z.k=1
   ·have hk2:(rqe z).k=1:=hk
    have hzb:=hb z (List.mem_of_getElem? hz1) hk
    have er:DV t.w z= { z with cap:=t.w,most:=max z.most t.w,gr:=z.gr+t.w - z.cap }:=by unfold DV;rw[if_pos hk]
    have hin:∀ {R:List HP},aG (rsP (DV t.w z)::eC rsP (((x.l.take j).map (DV t.w)++x.l.drop j).eraseIdx j)::R) (eC rsP ((x.l.take (j+1)).map (DV t.w)++x.l.drop (j+1))::R):=fun {R}=>by
     have h:=Ej (f:=rsP) (b':=DV t.w z) (R:=R) n1
     rw[n2] at h
     exact h
    rw[er] at hin
    refine nN (aG.cons (aG.cons (tO (f:=rsP) n1))) ?_
    dsimp only[rsP] at hin ⊢
    repeat' (first|refine v62 ?_|refine dw d47_8_0_rcack_ok ?_|refine w5 ?_ ?_|((refine bh fun h=>?_) <;> try exact w6 h)|(refine aF fun hA=>?_;subst hA)|intro _|(show aA _ 102 _ _ _;refine CA (h:=r08z_ok (p:=z.p) (cap:=z.cap) (gr:=z.gr) (to:=t.w) (by omega) ?_)))
    all_goals(show aZ _ _ _ _;refine cG (m - 1) ⟨j+1,by omega,⟨rfl,rfl,trivial⟩,rfl⟩ (by omega) (aG.trans (by exact bE) (aG.cons (aG.cons hin))))
   ·have hk2:(rqe z).k≠1:=hk
    have er:DV t.w z=z:=by unfold DV;rw[if_neg hk]
    rw[er,kB _ n1] at n2
    rw[n2]
    repeat' (first|refine v62 ?_|refine dw d47_8_0_rcack_ok ?_|refine w5 ?_ ?_|((refine bh fun h=>?_) <;> try exact w6 h)|(refine aF fun hA=>?_;subst hA)|intro _)
    all_goals(show aZ _ _ _ _;exact cG (m - 1) ⟨j+1,by omega,⟨rfl,rfl,trivial⟩,rfl⟩)
  ·have hjl:j=x.l.length:=by omega
   subst hjl
   rw[List.take_length,List.drop_length,List.append_nil]
   repeat' (first|refine v62 ?_|refine dw d47_8_0_rcack_ok ?_|refine w5 ?_ ?_|((refine bh fun h=>?_) <;> try exact w6 h)|(refine aF fun hA=>?_;subst hA)|intro _)
   all_goals(refine aC ?_;exact aB (hK _ _ _ _ _ _))
end Go.Proofs.YtffnpejdkkohcaaGreat
