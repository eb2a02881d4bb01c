/- The statement DuplexAgain: for every four the law answers true; no conditions. -/
import Derived.Test.YtifgibijcmppmaaGreatRows
import Derived.ProofKit
import Derived.Lib.SmallJoins
import Derived.Test.YtifgibijcmppmaaGreatDB3
import Derived.Test.YtifgibijcmppmaaGreatDB4
import Derived.Test.YtifgibijcmppmaaGreatJDuplexAgain
set_option linter.unusedVariables false
set_option linter.unusedSimpArgs false
namespace Go.Proofs.YtifgibijcmppmaaGreat
open Go Go.Proofs Go.ChangeShapes Go.WideShapes Go.ChangeAt Go.RowKit Go.Sl Go.Joins
set_option maxRecDepth 100000
theorem Tryz.own:ownKnob Tryz.prog.godebug=none:=by kernel_rfl
theorem Tryz.laidOut:laidOutB Tryz.prog=true:=by kernel_rfl
theorem Cw (os:Os) (started:os.Started) (H:Type) (enc:TypeId×Value→H):
  ReturnsInHanded {} Tryz.checked os 5 .any (Rows.duplexAgainSpec.pre6 enc Tryz.prog Tryz.f5 Rows.duplexAgainRow.domain false) (Rows.duplexAgainSpec.post enc Tryz.prog Tryz.f5 false true false false):=by
 refine returnsInHanded_of_change_sized (C:=Tryz.checked) Tryz.own started (by kernel_rfl) Tryz.func5
  (ChangeSpec.witness6 (enc:=enc) (C:=Tryz.checked) false ⟨#[],#[.agg #[.int .i64 0,.int .i64 0,.int .i64 0,.int .i64 0,.int .i64 0,.int .i64 0,.int .i64 0,.int .i64 0,.int .i64 0,.int .i64 0,.int .i64 0,.int .i64 0,.int .i64 0,.int .i64 0,.int .i64 0,.int .i64 0,.int .i64 0,.int .i64 0,.slice none 0 0,.slice none 0 0]],[]⟩ 8 (by kernel_rfl) (by kernel_rfl) (by kernel_rfl) (by kernel_rfl)) ?_
 intro W base args ds gs before hval0 hW hcnd hwt0 _
 have hval:∀(j:Nat) t v,Tryz.f5.params[j]?=some t→args[j]?=some v→Value.okWide Tryz.prog W .any base t v:=hval0
 have hW':=hW
 obtain⟨p,q,hA0,hV,rfl,hfz,hnd⟩:=hW
 have hA:DataW.TrodAll enc Tryz.prog W 0 (fun _=>true) true Tryz.f5.params.toList args.toList ds p:=hA0
 obtain⟨rfl,rfl⟩:=trodVars_none hV
 have hwt:∀n∈DataW.weightsEach Tryz.prog Tryz.f5.params.toList ds,n≤reachBytes:=fun n hn=>by
  have h1:(DataW.weightsEach Tryz.prog (Tryz.f5.params.toList++ []) (ds++ [])).all (·≤reachBytes)=true:=hwt0
  rw[List.append_nil,List.append_nil] at h1
  simpa using List.all_eq_true.1 h1 n hn
 rw[Tryz.params5] at hA hval hwt
 obtain⟨v0,d0,rfl,rfl⟩:=Akh hA
 have hg:=ON hA hwt
 obtain⟨w0,n0,e0,g0⟩:=hg 0 _ rfl
 cases e0
 have o0:=hval 0 _ v0 rfl rfl
 obtain⟨cs,rfl,gs⟩:=SS Tryz.underlying85 o0 g0
 obtain⟨w0,st0,it0,sb0,si0,sg0,ev0,wa0,stl0,w1,st1,it1,sb1,si1,sg1,ev1,wa1,stl1,A1,A2,c1,c2,ls,os2,hcs,hm1,hm2,hr1,hr2⟩:=Px gs
 have hcall:Calls Tryz.prog 5 #[.agg cs.toArray] W (fun e W'=>e=.returned (.bool true)∧Below W.heap.size W W'):=by
  rw[hcs]
  exact((Ha (R:= [lF A1 Dx ls,lF A2 Dx os2]) iV (bI iV) hm1 hm2 rfl):aA _ _ _ _ (fun v _=>v=.bool true)).below (C8 (lR _ _ _) hr1 (C8 (lR _ _ _) hr2 trivial))
 refine hcall.mono fun e W' ⟨he,hb⟩=>?_
 subst he
 exact⟨_,rfl,ZX Tryz.laidOut (by kernel_rfl) rfl Tryz.underlying4 rfl hW' rfl rfl rfl hb⟩
theorem duplexAgain_holds:Rows.DuplexAgainSaid:=
 OpenClaim.holds_of_wide 5 Tryz.f5 rfl rfl rfl rfl rfl rfl rfl ⟨rfl,rfl,rfl,rfl,rfl⟩ rfl rfl rfl rfl rfl (by kernel_rfl) Tryz.func5 HD
  (of_decide_eq_true (by kernel_rfl)) (by unfold Func.isWrapper;first|(rw[if_pos (by decide +kernel)];kernel_rfl)|(rw[if_neg (by decide +kernel)];exact⟨rfl,rfl⟩))
  (fun os started H enc _=>Cw os started H enc)
#print axioms duplexAgain_holds
end Go.Proofs.YtifgibijcmppmaaGreat
