/- A part of the proof: lemmas; each with the conditions that it states. -/
import Derived.Test.YtepnmcipkangkaaGreatPbl
set_option linter.unusedVariables false
set_option linter.unusedSimpArgs false
set_option maxRecDepth 100000
set_option maxHeartbeats 40000000
namespace Go.Proofs.YtepnmcipkangkaaGreat
open Go Go.Proofs Go.Sl
attribute [local irreducible] aN fJ cY bN aM aS aA dM dN aV dL pt ro fB star sep bF
attribute [local irreducible] mp CV
variable {R C:List HP} {K:KP}
def Am7:Cf:=⟨64,8,4,100,5,0,0,0,0⟩
theorem H5:Dq Am7:=⟨by decide,by decide,by decide,by decide,by decide,by decide,by decide⟩
def dz0:Du:=⟨iB 0 Am7,iB 1 Am7,⟨[],0,0⟩,⟨[],0,0⟩,false,false⟩
def da1:AC:=⟨1,0,0,1,0,⟨#[]⟩,0,1,false,0,0,0⟩
def da2:AC:=⟨2,0,1,0,0,"abc".toUTF8,0,0,false,0,0,0⟩
def da3:AC:=⟨11,0,0,0,0,⟨#[]⟩,0,0,false,0,0,0⟩
def da4:AC:=⟨12,1,0,1000,0,⟨#[]⟩,0,0,false,0,0,0⟩
def da5:AC:=⟨4,1,1,9,0,⟨#[]⟩,0,0,false,0,0,0⟩
def dz1:=Ee da1 dz0
def dz2:=Ee da2 dz1
def dz3:=Ee da3 dz2
def dz4:=Ee da4 dz3
theorem y1:(duT da1 dz0).n=1/\(duT da1 dz0).e=0:=by decide +kernel
theorem y2:(duT da2 dz1).n=3:=by decide +kernel
theorem y3:(duT da3 dz2).n=(duT da4 dz3).n/\0<(duT da3 dz2).n:=by decide +kernel
theorem y5:(duT da5 dz4).s= "abc".toUTF8/\(duT da5 dz4).e=0:=by decide +kernel
theorem y6:(((if(0:Int)=0 then(Ee da5 dz4).l0 else(Ee da5 dz4).l1).b.length:Nat):Int)=0:=by decide +kernel
theorem TC (hK:K (.agg #[I6 64,I6 8,I6 4,I6 100,I6 5,I6 0,I6 0,I6 0,I6 0]) R):CT 75 #[] R K:=by
 refine aH Tryz.func75 ?_
 repeat' (first|refine v5 ?_|refine w5 ?_ ?_|((refine bh fun h=>?_) <;> try exact w6 h)|(refine aE fun hA=>?_;subst hA)|intro _)
 all_goals(refine aC ?_;exact aB (hK))
theorem R5 (hK:K (.bool true) R):CT 20 #[] R K:=by
 have hG:=QP H5 H5
 obtain⟨y11,y12⟩:=y1
 have y2:=y2
 obtain⟨y31,y32⟩:=y3
 obtain⟨y51,y52⟩:=y5
 refine aH Tryz.func20 ?_
 repeat' (first|refine v82 ?_|refine w5 ?_ ?_|((refine bh fun h=>?_) <;> try exact w6 h)|(refine aE fun hA=>?_;subst hA)|intro _|(show aA _ 75 _ _ _;refine CA (h:=TC ?_))|(show aA _ 19 _ _ _;refine CA (h:=Q5 H5 H5 (fun d0 A0=>?_));dsimp only[Af])|(show aA _ 22 _ _ _;first|(refine CA (h:=w8 (A:=A0) (a:=da1) (z:=dz0) (k:=0) hG (by decide) (by decide) (fun hG1=>?_));dsimp only[uQ,Af];rw[y11,y12])|(refine CA (h:=w8 (A:=A0) (a:=da2) (z:=dz1) (k:=1) hG1 (by decide) (by decide) (fun hG2=>?_));dsimp only[uQ,Af];rw[y2])|(refine CA (h:=w8 (A:=A0) (a:=da3) (z:=dz2) (k:=2) hG2 (by decide) (by decide) (fun hG3=>?_));dsimp only[uQ,Af];skip)|(refine CA (h:=w8 (A:=A0) (a:=da4) (z:=dz3) (k:=3) hG3 (by decide) (by decide) (fun hG4=>?_));dsimp only[uQ,Af];rw[<- y31])|(refine CA (h:=w8 (A:=A0) (a:=da5) (z:=dz4) (k:=4) hG4 (by decide) (by decide) (fun hG5=>?_));dsimp only[uQ,Af];rw[y51,y52]))|(show aA _ 76 _ _ _;refine CA (h:=Ae3 (A:=A0) (z:=Ee da5 dz4) (.inl rfl) ?_);dsimp only[Af];rw[y6]))
 all_goals(refine aC ?_;exact aB (hK))
end Go.Proofs.YtepnmcipkangkaaGreat
namespace Go.Proofs.YtepnmcipkangkaaGreat
open Go Go.Proofs Go.Sl
attribute [local irreducible] aN fJ cY bN aM aS aA dM dN aV dL pt ro fB star sep bF
variable {W:World} {cs:List Value} {o m j n:Nat} {v0 v1 v2 v3 v4 v5 v6 v7 v8:Value} {R C:List HP} {K:KP} {w st it sb si sg ev wa stl:Int} {a:AC}
def Abl:List Value->Option AC
 | [.int .i64 kd,.int .i64 sd,.int .i64 id,.int .i64 n,.int .i64 cd,.string s,.int .i64 on,.int .i64 ww,.bool xx,.int .i64 xw,.int .i64 xs,.int .i64 xi]=>some ⟨kd,sd,id,n,cd,s,on,ww,xx,xw,xs,xi⟩
 |_=>none
theorem Ae1 (cs:List Value) (y:AC) (h:Abl cs=some y): [I6 y.kd,I6 y.sd,I6 y.id,I6 y.n,I6 y.cd,.string y.s,I6 y.on,I6 y.ww,.bool y.xx,I6 y.xw,I6 y.xs,I6 y.xi]=cs:=by
 unfold Abl at h
 split at h
 ·cases h;rfl
 ·cases h
def QT:u5 AC:= { enc:=fun y=> [I6 y.kd,I6 y.sd,I6 y.id,I6 y.n,I6 y.cd,.string y.s,I6 y.on,I6 y.ww,.bool y.xx,I6 y.xw,I6 y.xs,I6 y.xi],sz:=12,dec:=Abl,len:=fun _=>rfl,one:=fun _=>rfl,ok:=Ae1 }
theorem Aci (h:j+n<=m):(((cs.drop o).take m).drop j).take n=(cs.drop (o+j)).take n:=by
 rw[List.drop_take,List.take_take,List.drop_drop]
 congr 1
 omega
theorem Ajq {v9 v10 Ku:Value} (hl:cs.length=12) (h0:(cs.drop 0).take 1= [v0]) (h1:(cs.drop 1).take 1= [v1]) (h2:(cs.drop 2).take 1= [v2]) (h3:(cs.drop 3).take 1= [v3]) (h4:(cs.drop 4).take 1= [v4]) (h5:(cs.drop 5).take 1= [v5]) (h6:(cs.drop 6).take 1= [v6]) (h7:(cs.drop 7).take 1= [v7]) (h8:(cs.drop 8).take 1= [v8]) (h9:(cs.drop 9).take 1= [v9]) (h10:(cs.drop 10).take 1= [v10]) (h11:(cs.drop 11).take 1= [Ku]):cs= [v0,v1,v2,v3,v4,v5,v6,v7,v8,v9,v10,Ku]:=by
 match cs,hl with
 | [a0,a1,a2,a3,a4,a5,a6,a7,a8,a9,a10,a11],_=>simp_all
theorem Uh (hg:Go.Sl.Good Tryz.prog W n 60 cs):∃a:AC,cs= [I6 a.kd,I6 a.sd,I6 a.id,I6 a.n,I6 a.cd,.string a.s,I6 a.on,I6 a.ww,.bool a.xx,I6 a.xw,I6 a.xs,I6 a.xi]:=by
 have hz:Tryz.prog.cellsOf 60=12:=by kernel_rfl
 have hz2:Tryz.prog.cellsOf 23=3:=by kernel_rfl
 have hz3:Tryz.prog.cellsOf 32=3:=by kernel_rfl
 obtain⟨m2,k3,k4⟩:=tD Tryz.underlying60 hg
 obtain⟨kd,r0,_⟩:=f6 Tryz.underlying3 (k4 0 _ rfl)
 obtain⟨sd,r1,w1⟩:=f6 Tryz.underlying3 (k4 1 _ rfl)
 obtain⟨id,r2,w2⟩:=f6 Tryz.underlying3 (k4 2 _ rfl)
 obtain⟨n,r3,w3⟩:=f6 Tryz.underlying3 (k4 3 _ rfl)
 obtain⟨cd,r4,w4⟩:=f6 Tryz.underlying3 (k4 4 _ rfl)
 obtain⟨s,r5,_⟩:=R3 Tryz.underlying9 (k4 5 _ rfl)
 obtain⟨m5,j5,j6⟩:=tD Tryz.underlying32 (k4 6 _ rfl)
 obtain⟨on,q0,u0⟩:=f6 Tryz.underlying3 (j6 0 _ rfl)
 obtain⟨ww,q1,u1⟩:=f6 Tryz.underlying3 (j6 1 _ rfl)
 obtain⟨xx,q2⟩:=ZU Tryz.underlying4 (j6 2 _ rfl)
 obtain⟨m3,j3,j4⟩:=tD Tryz.underlying23 (k4 7 _ rfl)
 obtain⟨xw,p0,x0⟩:=f6 Tryz.underlying3 (j4 0 _ rfl)
 obtain⟨xs,p1,x1⟩:=f6 Tryz.underlying3 (j4 1 _ rfl)
 obtain⟨xi,p2,x2⟩:=f6 Tryz.underlying3 (j4 2 _ rfl)
 have go:∀(j:Nat) (v:Value),j+1<=3->List.take 1 (List.drop j (List.take (Tryz.prog.cellsOf 32) (List.drop 6 cs)))= [v]->(cs.drop (6+j)).take 1= [v]:=fun j v hj h=>by
  rw[hz3,Aci hj] at h;exact h
 have go2:∀(j:Nat) (v:Value),j+1<=3->List.take 1 (List.drop j (List.take (Tryz.prog.cellsOf 23) (List.drop 9 cs)))= [v]->(cs.drop (9+j)).take 1= [v]:=fun j v hj h=>by
  rw[hz2,Aci hj] at h;exact h
 exact⟨⟨kd,sd,id,n,cd,s,on,ww,xx,xw,xs,xi⟩,Ajq (k3.trans hz) r0 r1 r2 r3 r4 r5 (go 0 _ (by omega) q0) (go 1 _ (by omega) q1) (go 2 _ (by omega) q2) (go2 0 _ (by omega) p0) (go2 1 _ (by omega) p1) (go2 2 _ (by omega) p2)⟩
theorem Te (hK:K (.agg #[I6 (w % 18446744073709551616 % 100),I6 8,I6 (it % 18446744073709551616 % 20),I6 (sb % 18446744073709551616 % 200),I6 (si % 18446744073709551616 % 20),I6 (sg % 18446744073709551616 % 3),I6 (ev % 18446744073709551616 % 30),I6 (wa % 18446744073709551616 % 30),I6 (stl % 18446744073709551616 % 30)]) R):CT 32 #[.agg #[I6 w,I6 st,I6 it,I6 sb,I6 si,I6 sg,I6 ev,I6 wa,I6 stl]] R K:=by
 have h1:∀z:Int,0<=z % 18446744073709551616 % 100/\z % 18446744073709551616 % 100<100:=fun z=>by omega
 have h2:∀z:Int,0<=z % 18446744073709551616 % 20/\z % 18446744073709551616 % 20<20:=fun z=>by omega
 have h3:∀z:Int,0<=z % 18446744073709551616 % 200/\z % 18446744073709551616 % 200<200:=fun z=>by omega
 have h4:∀z:Int,0<=z % 18446744073709551616 % 3/\z % 18446744073709551616 % 3<3:=fun z=>by omega
 have h5:∀z:Int,0<=z % 18446744073709551616 % 30/\z % 18446744073709551616 % 30<30:=fun z=>by omega
 refine aH Tryz.func32 ?_
 repeat' (first|(show aN _ _ _ _ _ _ _;first|refine o8 ?_|refine lN ?_)|refine v61 ?_|refine w5 ?_ ?_|((refine bh fun h=>?_) <;> try exact w6 h)|(refine aE fun hA=>?_;subst hA)|intro _)
 all_goals(refine aC ?_;exact aB (hK))
theorem vI (hK:K (.bool (decide ((a.s.size:Int)<600))) R):CT 21 #[.agg #[I6 a.kd,I6 a.sd,I6 a.id,I6 a.n,I6 a.cd,.string a.s,I6 a.on,I6 a.ww,.bool a.xx,I6 a.xw,I6 a.xs,I6 a.xi]] R K:=by
 refine aH Tryz.func21 ?_
 repeat' (first|refine v19 ?_|refine w5 ?_ ?_|((refine bh fun h=>?_) <;> try exact w6 h)|(refine aE fun hA=>?_;subst hA)|intro _)
 all_goals(refine aC ?_;exact aB (hK))
theorem Aan (hl:cs.length=9) (h0:(cs.drop 0).take 1= [v0]) (h1:(cs.drop 1).take 1= [v1]) (h2:(cs.drop 2).take 1= [v2]) (h3:(cs.drop 3).take 1= [v3]) (h4:(cs.drop 4).take 1= [v4]) (h5:(cs.drop 5).take 1= [v5]) (h6:(cs.drop 6).take 1= [v6]) (h7:(cs.drop 7).take 1= [v7]) (h8:(cs.drop 8).take 1= [v8]):cs= [v0,v1,v2,v3,v4,v5,v6,v7,v8]:=by
 match cs,hl with
 | [a0,a1,a2,a3,a4,a5,a6,a7,a8],_=>simp_all
theorem Ah4 (h:j+n<=m):(((cs.drop o).take m).drop j).take n=(cs.drop (o+j)).take n:=by
 rw[List.drop_take,List.take_take,List.drop_drop]
 congr 1
 omega
theorem Hc (hg:Go.Sl.Good Tryz.prog W n 25 cs):∃w st it sb si stg ev wa stl:Int,cs= [I6 w,I6 st,I6 it,I6 sb,I6 si,I6 stg,I6 ev,I6 wa,I6 stl]:=by
 have hz:Tryz.prog.cellsOf 25=9:=by kernel_rfl
 have hz2:Tryz.prog.cellsOf 23=3:=by kernel_rfl
 obtain⟨m2,k3,k4⟩:=tD Tryz.underlying25 hg
 obtain⟨m3,j3,j4⟩:=tD Tryz.underlying23 (k4 0 _ rfl)
 obtain⟨w,r0,_⟩:=f6 Tryz.underlying3 (j4 0 _ rfl)
 obtain⟨st,r1,_⟩:=f6 Tryz.underlying3 (j4 1 _ rfl)
 obtain⟨it,r2,_⟩:=f6 Tryz.underlying3 (j4 2 _ rfl)
 obtain⟨sb,r3,_⟩:=f6 Tryz.underlying3 (k4 1 _ rfl)
 obtain⟨si,r4,_⟩:=f6 Tryz.underlying3 (k4 2 _ rfl)
 obtain⟨stg,r5,_⟩:=f6 Tryz.underlying3 (k4 3 _ rfl)
 obtain⟨ev,r6,_⟩:=f6 Tryz.underlying3 (k4 4 _ rfl)
 obtain⟨wa,r7,_⟩:=f6 Tryz.underlying3 (k4 5 _ rfl)
 obtain⟨stl,r8,_⟩:=f6 Tryz.underlying3 (k4 6 _ rfl)
 have go:∀(j:Nat) (v:Value),j+1<=3->List.take 1 (List.drop j (List.take (Tryz.prog.cellsOf 23) (List.drop 0 cs)))= [v]->(cs.drop (0+j)).take 1= [v]:=fun j v hj h=>by
  rw[hz2,Ah4 hj] at h;exact h
 exact⟨w,st,it,sb,si,stg,ev,wa,stl,Aan (k3.trans hz) (go 0 _ (by omega) r0) (go 1 _ (by omega) r1) (go 2 _ (by omega) r2) r3 r4 r5 r6 r7 r8⟩
end Go.Proofs.YtepnmcipkangkaaGreat
