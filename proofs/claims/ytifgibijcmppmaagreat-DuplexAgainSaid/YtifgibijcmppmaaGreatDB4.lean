/- Duplex: what DuplexAgain gets, out of the world: lemmas; each with the conditions that it states. -/
import Derived.Test.YtifgibijcmppmaaGreatMbj
set_option linter.unusedVariables false
set_option linter.unusedSimpArgs false
namespace Go.Proofs.YtifgibijcmppmaaGreat
open Go Go.Proofs Go.Sl
set_option maxRecDepth 100000
set_option maxHeartbeats 40000000
attribute [local irreducible] aM fG cV bP aN aW aA dP dX aV dO pt ro eW star sep bH
variable {W:World}
theorem Yx {cs:List Value} {v0 v1 v2 v3 v4 v5 v6 v7 v8:Value} (hl:cs.length=9) (h0:(cs.drop 0).take 1= [v0]) (h1:(cs.drop 1).take 1= [v1]) (h2:(cs.drop 2).take 1= [v2]) (h3:(cs.drop 3).take 1= [v3]) (h4:(cs.drop 4).take 1= [v4]) (h5:(cs.drop 5).take 1= [v5]) (h6:(cs.drop 6).take 1= [v6]) (h7:(cs.drop 7).take 1= [v7]) (h8:(cs.drop 8).take 1= [v8]):cs= [v0,v1,v2,v3,v4,v5,v6,v7,v8]:=by
 match cs,hl with
 | [a0,a1,a2,a3,a4,a5,a6,a7,a8],_=>simp_all
theorem Af7 {cs:List Value} {o m j n:Nat} (h:j+n≤m):(((cs.drop o).take m).drop j).take n=(cs.drop (o+j)).take n:=by
 rw[List.drop_take,List.take_take,List.drop_drop]
 congr 1
 omega
theorem FF {n:Nat} {cs:List Value} (hg:Go.Sl.Good Tryz.prog W n 32 cs):∃w st it sb si stg ev wa stl:Int,cs= [.int .i64 w,.int .i64 st,.int .i64 it,.int .i64 sb,.int .i64 si,.int .i64 stg,.int .i64 ev,.int .i64 wa,.int .i64 stl]:=by
 have hz:Tryz.prog.cellsOf 32=9:=by kernel_rfl
 have hz2:Tryz.prog.cellsOf 23=3:=by kernel_rfl
 obtain⟨m2,k3,k4⟩:=nT Tryz.underlying32 hg
 obtain⟨m3,j3,j4⟩:=nT Tryz.underlying23 (k4 0 _ rfl)
 obtain⟨w,r0,_⟩:=fL Tryz.underlying3 (j4 0 _ rfl)
 obtain⟨st,r1,_⟩:=fL Tryz.underlying3 (j4 1 _ rfl)
 obtain⟨it,r2,_⟩:=fL Tryz.underlying3 (j4 2 _ rfl)
 obtain⟨sb,r3,_⟩:=fL Tryz.underlying3 (k4 1 _ rfl)
 obtain⟨si,r4,_⟩:=fL Tryz.underlying3 (k4 2 _ rfl)
 obtain⟨stg,r5,_⟩:=fL Tryz.underlying3 (k4 3 _ rfl)
 obtain⟨ev,r6,_⟩:=fL Tryz.underlying3 (k4 4 _ rfl)
 obtain⟨wa,r7,_⟩:=fL Tryz.underlying3 (k4 5 _ rfl)
 obtain⟨stl,r8,_⟩:=fL Tryz.underlying3 (k4 6 _ rfl)
 have go:∀(j:Nat) (v:Value),j+1≤3→List.take 1 (List.drop j (List.take (Tryz.prog.cellsOf 23) (List.drop 0 cs)))= [v]→(cs.drop (0+j)).take 1= [v]:=fun j v hj h=>by
  rw[hz2,Af7 hj] at h;exact h
 exact⟨w,st,it,sb,si,stg,ev,wa,stl,Yx (k3.trans hz) (go 0 _ (by omega) r0) (go 1 _ (by omega) r1) (go 2 _ (by omega) r2) r3 r4 r5 r6 r7 r8⟩
theorem Akb {cs L0 L1:List Value} {u v:Value} (hl:cs.length=20) (h0:(cs.drop 0).take 9=L0) (h1:(cs.drop 9).take 9=L1) (h2:(cs.drop 18).take 1= [u]) (h3:(cs.drop 19).take 1= [v]):cs=L0++(L1++ [u,v]):=by
 have e0:cs=(cs.drop 0).take 9++cs.drop 9:=(List.take_append_drop 9 cs).symm
 have e1:cs.drop 9=(cs.drop 9).take 9++cs.drop 18:=by
  have:=(List.take_append_drop 9 (cs.drop 9)).symm
  rw[List.drop_drop] at this
  exact this
 have e2:cs.drop 18=(cs.drop 18).take 1++cs.drop 19:=by
  have:=(List.take_append_drop 1 (cs.drop 18)).symm
  rw[List.drop_drop] at this
  exact this
 have e3:cs.drop 19=(cs.drop 19).take 1:=(List.take_of_length_le (by rw[List.length_drop];omega)).symm
 rw[h3] at e3
 rw[h2,e3] at e2
 rw[h1,e2] at e1
 rw[h0,e1] at e0
 exact e0
theorem FV {n:Nat} {cs:List Value} (hg:Go.Sl.Good Tryz.prog W n 83 cs):∃(A:Option Addr) (len cap:Nat) (xs:List AC),cs= [.slice A len cap]∧xs.length=len∧len<1000000000000000∧lF A Dx xs (u5 W):=by
 have hz:Tryz.prog.cellsOf 92=12:=by kernel_rfl
 have hby:Tryz.prog.bytesOf 92=104:=by kernel_rfl
 have hr:reachBytes=140737488351232:=by decide
 rcases Rp Tryz.underlying83 hg with h2|⟨ad,len,cap,m,h2,hl,hc,hi⟩
 ·exact⟨none,0,0,[],h2,rfl,by omega,.inl rfl⟩
 ·rw[hz] at hi
  rw[hby] at hc
  obtain⟨xs,h1,h3,_⟩:=Ad1 (E:=Dx) (φ:=fun _=>True) (by decide) (fun i hil=>by
   obtain⟨cs',q1,q2⟩:=hi i hil
   obtain⟨y,hy⟩:=SR q2
   refine⟨y,?_,trivial⟩
   rw[show Dx.sz=12 from rfl,q1,hy];rfl)
  exact⟨some ad,len,cap,xs,h2,h1,by omega,h3⟩
theorem Px {n:Nat} {cs:List Value} (hg:Go.Sl.Good Tryz.prog W n 85 cs):∃(w0 st0 it0 sb0 si0 sg0 ev0 wa0 stl0 w1 st1 it1 sb1 si1 sg1 ev1 wa1 stl1:Int) (A1 A2:Option Addr) (c1 c2:Nat) (ls os:List AC),cs= [.int .i64 w0,.int .i64 st0,.int .i64 it0,.int .i64 sb0,.int .i64 si0,.int .i64 sg0,.int .i64 ev0,.int .i64 wa0,.int .i64 stl0,.int .i64 w1,.int .i64 st1,.int .i64 it1,.int .i64 sb1,.int .i64 si1,.int .i64 sg1,.int .i64 ev1,.int .i64 wa1,.int .i64 stl1,.slice A1 ls.length c1,.slice A2 os.length c2]∧ls.length<1000000000000000∧os.length<1000000000000000∧lF A1 Dx ls (u5 W)∧lF A2 Dx os (u5 W):=by
 have hz:Tryz.prog.cellsOf 85=20:=by kernel_rfl
 have hz2:Tryz.prog.cellsOf 32=9:=by kernel_rfl
 have hz3:Tryz.prog.cellsOf 83=1:=by kernel_rfl
 obtain⟨m2,k3,k4⟩:=nT Tryz.underlying85 hg
 obtain⟨w0,st0,it0,sb0,si0,sg0,ev0,wa0,stl0,h0⟩:=FF (k4 0 _ rfl)
 obtain⟨w1,st1,it1,sb1,si1,sg1,ev1,wa1,stl1,h1⟩:=FF (k4 1 _ rfl)
 obtain⟨A1,n1,c1,ls,h2,rfl,l1,r1⟩:=FV (k4 2 _ rfl)
 obtain⟨A2,n2,c2,os,h3,rfl,l2,r2⟩:=FV (k4 3 _ rfl)
 refine⟨w0,st0,it0,sb0,si0,sg0,ev0,wa0,stl0,w1,st1,it1,sb1,si1,sg1,ev1,wa1,stl1,A1,A2,c1,c2,ls,os,?_,l1,l2,r1,r2⟩
 exact Akb (k3.trans hz) h0 h1 h2 h3
end Go.Proofs.YtifgibijcmppmaaGreat
