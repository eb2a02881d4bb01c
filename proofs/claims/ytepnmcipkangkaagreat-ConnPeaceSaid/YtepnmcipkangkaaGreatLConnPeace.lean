/- The statement ConnPeace: for every settings and acts the law answers true; no conditions. -/
import Derived.Test.YtepnmcipkangkaaGreatRows
import Derived.ProofKit
import Derived.Lib.SmallJoins
import Derived.Test.YtepnmcipkangkaaGreatJConnPeace
import Derived.Test.YtepnmcipkangkaaGreatCbl
set_option linter.unusedVariables false
set_option linter.unusedSimpArgs false
set_option maxRecDepth 100000
namespace Go.Proofs.YtepnmcipkangkaaGreat
open Go Go.Proofs Go.ChangeShapes Go.WideShapes Go.ChangeAt Go.RowKit Go.Sl Go.Joins
theorem Tryz.own:ownKnob Tryz.prog.godebug=none:=by kernel_rfl
theorem Tryz.laidOut:laidOutB Tryz.prog=true:=by kernel_rfl
theorem Gi (os:Os) (started:os.Started) (H:Type) (enc:TypeId×Value->H):
  ReturnsInHanded {} Tryz.checked os 3 .any (Rows.connPeaceSpec.pre6 enc Tryz.prog Tryz.f3 Rows.connPeaceRow.domain false) (Rows.connPeaceSpec.post enc Tryz.prog Tryz.f3 false true false false):=by
 refine returnsInHanded_of_change_sized (C:=Tryz.checked) Tryz.own started (by kernel_rfl) Tryz.func3
  (ChangeSpec.witness6 (enc:=enc) (C:=Tryz.checked) false ⟨#[],#[.agg #[I6 0,I6 0,I6 0,I6 0,I6 0,I6 0,I6 0,I6 0,I6 0],.agg #[I6 0,I6 0,I6 0,I6 0,I6 0,I6 0,I6 0,I6 0,I6 0],.slice none 0 0],[]⟩ 8 (by kernel_rfl) (by kernel_rfl) (by kernel_rfl) (by kernel_rfl)) ?_
 intro W base args ds gs before hval0 hW hcnd hwt0 _
 have hval:∀(j:Nat) t v,Tryz.f3.params[j]?=some t->args[j]?=some v->Value.okWide Tryz.prog W .any base t v:=hval0
 have hW':=hW
 obtain⟨p,q,hA0,hV,rfl,hfz,hnd⟩:=hW
 have hA:DataW.TrodAll enc Tryz.prog W 0 (fun _=>true) true Tryz.f3.params.toList args.toList ds p:=hA0
 obtain⟨rfl,rfl⟩:=trodVars_none hV
 have hwt:∀n∈DataW.weightsEach Tryz.prog Tryz.f3.params.toList ds,n<=reachBytes:=fun n hn=>by
  have h1:(DataW.weightsEach Tryz.prog (Tryz.f3.params.toList++ []) (ds++ [])).all (·<=reachBytes)=true:=hwt0
  rw[List.append_nil,List.append_nil] at h1
  simpa using List.all_eq_true.1 h1 n hn
 rw[Tryz.params3] at hA hval hwt
 obtain⟨v0,v1,v2,d0,d1,d2,rfl,rfl⟩:=Aps hA
 have hg:=Rw hA hwt
 obtain⟨w0,n0,e0,g0⟩:=hg 0 _ rfl
 cases e0
 have o0:=hval 0 _ v0 rfl rfl
 obtain⟨w1,n1,e1,g1⟩:=hg 1 _ rfl
 cases e1
 have o1:=hval 1 _ v1 rfl rfl
 obtain⟨w2,n2,e2,g2⟩:=hg 2 _ rfl
 cases e2
 have o2:=hval 2 _ v2 rfl rfl
 obtain⟨cs0,rfl,gs0⟩:=Jw Tryz.underlying25 o0 g0
 obtain⟨w0,st0,it0,sb0,si0,sg0,ev0,wa0,stl0,hcs0⟩:=GL gs0
 obtain⟨cs1,rfl,gs1⟩:=Jw Tryz.underlying25 o1 g1
 obtain⟨w1,st1,it1,sb1,si1,sg1,ev1,wa1,stl1,hcs1⟩:=GL gs1
 have hr:reachBytes=140737488351232:=by decide
 have hz2:Tryz.prog.cellsOf 34=11:=by kernel_rfl
 have hby2:Tryz.prog.bytesOf 34=96:=by kernel_rfl
 have hs2:∃(A:Option Addr) (len cap:Nat) (xs:List A6),v2=.slice A len cap/\xs.length=len/\len<1000000000000000/\rF A a6C xs (Ap W)/\∀y∈xs,(fun _:A6=>True) y:=by
  rcases Yx Tryz.underlying26 o2 g2 with rfl|⟨ad,len,cap,m,rfl,hl,hc,hi⟩
  ·exact⟨none,0,0,[],rfl,rfl,by omega,.inl rfl,fun x hx=>by cases hx⟩
  ·rw[hz2] at hi
   rw[hby2] at hc
   obtain⟨xs,h1,h2,h5⟩:=Ajx (E:=a6C) (φ:=fun _:A6=>True) (by decide) (fun i hil=>by
    obtain⟨cs',k1,k2⟩:=hi i hil
    obtain⟨y,e1⟩:=Ajy k2
    exact⟨y,by rw[show a6C.sz=11 from rfl,k1,e1];rfl,trivial⟩)
   exact⟨some ad,len,cap,xs,rfl,h1,by omega,h2,h5⟩
 obtain⟨A1,len,c1,ls,rfl,rfl,hm0,hr0,hp0⟩:=hs2
 have hcall:Calls Tryz.prog 3 #[.agg cs0.toArray,.agg cs1.toArray,.slice A1 ls.length c1] W (fun e W'=>e=.returned (.bool true)/\Below W.heap.size W W'):=by
  rw[hcs0,hcs1]
  exact((NZ (R:= [rF A1 a6C ls]) lH hm0 rfl):aA _ _ _ _ (fun v _=>v=.bool true)).below (Oa (pZ _ _ _) hr0 trivial)
 refine hcall.mono fun e W' ⟨he,hb⟩=>?_
 subst he
 exact⟨_,rfl,Aeo Tryz.laidOut (by kernel_rfl) rfl Tryz.underlying4 rfl hW' rfl rfl rfl hb⟩
theorem connPeace_holds:Rows.ConnPeaceSaid:=
 OpenClaim.holds_of_wide 3 Tryz.f3 rfl rfl rfl rfl rfl rfl rfl ⟨rfl,rfl,rfl,rfl,rfl⟩ rfl rfl rfl rfl rfl (by kernel_rfl) Tryz.func3 Nl
  (of_decide_eq_true (by kernel_rfl)) (by unfold Func.isWrapper;first|(rw[if_pos (by decide +kernel)];kernel_rfl)|(rw[if_neg (by decide +kernel)];exact⟨rfl,rfl⟩))
  (fun os started H enc _=>Gi os started H enc)
#print axioms connPeace_holds
end Go.Proofs.YtepnmcipkangkaaGreat
