/- The statement ConnCodes: for every settings and frames the law answers true; no conditions. -/
import Derived.Test.YtffnpejdkkohcaaGreatCR9
import Derived.Test.YtffnpejdkkohcaaGreatBas
import Derived.Test.YtffnpejdkkohcaaGreatBac
import Derived.Test.YtffnpejdkkohcaaGreatJConnCodes
import Derived.Test.YtffnpejdkkohcaaGreatRows
import Derived.ProofKit
import Derived.Lib.SmallJoins
import Derived.Test.YtffnpejdkkohcaaGreatQx
namespace Go.Proofs.YtffnpejdkkohcaaGreat
open Go Go.Proofs Go.ChangeShapes Go.WideShapes Go.ChangeAt Go.RowKit Go.Sl Go.Joins
set_option maxRecDepth 100000
theorem Tryz.own:ownKnob Tryz.prog.godebug=none:=by kernel_rfl
theorem Tryz.laidOut:laidOutB Tryz.prog=true:=by kernel_rfl
theorem connCodes_lifted (os:Os) (started:os.Started) (H:Type) (enc:TypeId×Value→H):
  ReturnsInHanded {} Tryz.checked os 3 .any (Rows.connCodesSpec.pre6 enc Tryz.prog Tryz.f3 Rows.connCodesRow.domain false) (Rows.connCodesSpec.post enc Tryz.prog Tryz.f3 false true false false):=by
 refine returnsInHanded_of_change_sized (C:=Tryz.checked) Tryz.own started (by kernel_rfl) Tryz.func3
  (ChangeSpec.witness6 (enc:=enc) (C:=Tryz.checked) false ⟨#[],#[.agg #[.int .i64 0,.int .i64 0,.int .i64 0],.slice none 0 0],[]⟩ 8 (by kernel_rfl) (by kernel_rfl) (by kernel_rfl) (by kernel_rfl)) ?_
 intro W base args ds gs before hval0 hW hcnd hwt0 _
 have hval:∀(j:Nat) t v,Tryz.f3.params[j]?=some t→args[j]?=some v→Value.okWide Tryz.prog W .any base t v:=hval0
 have hW':=hW
 obtain⟨p,q,hA0,hV,rfl,hfz,hnd⟩:=hW
 have hA:DataW.TrodAll enc Tryz.prog W 0 (fun _=>true) true Tryz.f3.params.toList args.toList ds p:=hA0
 obtain⟨rfl,rfl⟩:=trodVars_none hV
 have hwt:∀n∈DataW.weightsEach Tryz.prog Tryz.f3.params.toList ds,n≤reachBytes:=fun n hn=>by
  have h1:(DataW.weightsEach Tryz.prog (Tryz.f3.params.toList++ []) (ds++ [])).all (·≤reachBytes)=true:=hwt0
  rw[List.append_nil,List.append_nil] at h1
  simpa using List.all_eq_true.1 h1 n hn
 rw[Tryz.params3] at hA hval hwt
 obtain⟨v0,v1,d0,d1,rfl,rfl⟩:=args2 hA
 have hg:=Aap hA hwt
 obtain⟨w0,n0,e0,g0q0⟩:=hg 0 _ rfl
 cases e0
 have o0:=hval 0 _ v0 rfl rfl
 obtain⟨w1,n1,e1,g1⟩:=hg 1 _ rfl
 cases e1
 have o1:=hval 1 _ v1 rfl rfl
 obtain⟨cs0,rfl,gs0⟩:=Ajn Tryz.underlying23 o0 g0q0
 obtain⟨w0,st0,it0,hcs0⟩:=good_set26 gs0
 have hr:reachBytes=140737488351232:=by decide
 have hz1:Tryz.prog.cellsOf 45=12:=by kernel_rfl
 have hby1:Tryz.prog.bytesOf 45=120:=by kernel_rfl
 have hs1:∃(A:Option Addr) (len cap:Nat) (xs:List Fm),v1=.slice A len cap∧xs.length=len∧len<1000000000000000∧pD A tC xs (yP W)∧∀y∈xs,(FmW W) y:=by
  rcases Akh Tryz.underlying24 o1 g1 with rfl|⟨ad,len,cap,m,rfl,hl,hc,hi⟩
  ·exact⟨none,0,0,[],rfl,rfl,by omega,.inl rfl,fun x hx=>by cases hx⟩
  ·rw[hz1] at hi
   rw[hby1] at hc
   obtain⟨xs,h1,h2,h5⟩:=Ae4 (E:=tC) (φ:=FmW W) (by decide) (fun i hil=>by
    obtain⟨cs',k1,k2⟩:=hi i hil
    obtain⟨y,e1,e2⟩:=Ajt k2
    exact⟨y,by rw[show tC.sz=12 from rfl,k1,e1],e2⟩)
   exact⟨some ad,len,cap,xs,rfl,h1,by omega,h2,h5⟩
 obtain⟨A1,len,c1,ls,rfl,rfl,hm0,hr0,hp0⟩:=hs1
 have hcall:Calls Tryz.prog 3 #[.agg cs0.toArray,.slice A1 ls.length c1] W (fun e W'=>e=.returned (.bool true)∧Below W.heap.size W W'):=by
  rw[hcs0]
  exact((connCodes_ok (R:= [pD A1 tC ls,kS xP ls]) jF (fun y hy=>bF (wL hy)) hm0 (fun y hy=>⟨(hp0 y hy).2.1,(hp0 y hy).2.2.1⟩) rfl):aA _ _ _ _ (fun v _=>v=.bool true)).below (Ac1 (qT _ _ _) hr0 (Ac1 (Hn zO Ab _) (fun y hy=>(hp0 y hy).1) trivial))
 refine hcall.mono fun e W' ⟨he,hb⟩=>?_
 subst he
 exact⟨_,rfl,Alb Tryz.laidOut (by kernel_rfl) rfl Tryz.underlying4 rfl hW' rfl rfl rfl hb⟩
theorem connCodes_holds:Rows.ConnCodesSaid:=
 OpenClaim.holds_of_wide 3 Tryz.f3 rfl rfl rfl rfl rfl rfl rfl ⟨rfl,rfl,rfl,rfl,rfl⟩ rfl rfl rfl rfl rfl (by kernel_rfl) Tryz.func3 jf_connCodes
  (of_decide_eq_true (by kernel_rfl)) (by unfold Func.isWrapper;first|(rw[if_pos (by decide +kernel)];kernel_rfl)|(rw[if_neg (by decide +kernel)];exact⟨rfl,rfl⟩))
  (fun os started H enc _=>connCodes_lifted os started H enc)
#print axioms connCodes_holds
end Go.Proofs.YtffnpejdkkohcaaGreat
