/- A part of the proof: lemmas; each with the conditions that it states. -/
import Derived.Test.YtifgibijcmppmaaGreatUbk
set_option linter.unusedVariables false
set_option linter.unusedSimpArgs false
set_option maxRecDepth 100000
set_option maxHeartbeats 40000000
namespace Go.Proofs.YtifgibijcmppmaaGreat
open Go Go.Proofs Go.Sl
attribute [local irreducible] aN fN cX bP aM aX aA dS dV aT dU pt ro eV star sep bH
attribute [local irreducible] mp ED
section
def TS:Cf:=⟨64,8,4,100,5,0,0,0,0⟩
theorem Gz:Fu TS:=⟨by decide,by decide,by decide,by decide,by decide,by decide,by decide⟩
def dz0:Du:=⟨kI 0 TS,kI 1 TS,⟨[],0,0⟩,⟨[],0,0⟩,false,false⟩
def da1:AC:=⟨1,0,0,1,0,⟨#[]⟩,0,1,false,0,0,0⟩
def da2:AC:=⟨2,0,1,0,0,"abc".toUTF8,0,0,false,0,0,0⟩
def da3:AC:=⟨11,0,0,0,0,⟨#[]⟩,0,0,false,0,0,0⟩
def da4:AC:=⟨12,1,0,1000,0,⟨#[]⟩,0,0,false,0,0,0⟩
def dz1:=duS da1 dz0
def dz2:=duS da2 dz1
def dz3:=duS da3 dz2
variable {R C:List HP} {K:KP}
end
end Go.Proofs.YtifgibijcmppmaaGreat
namespace Go.Proofs.YtifgibijcmppmaaGreat
open Go Go.Proofs Go.Sl
attribute [local irreducible] aN fN cX bP aM aX aA dS dV aT dU pt ro eV star sep bH
section
def Aak:List Value→Option AC
 | [.int .i64 kd,.int .i64 sd,.int .i64 id,.int .i64 n,.int .i64 cd,.string s,.int .i64 on,.int .i64 ww,.bool xx,.int .i64 xw,.int .i64 xs,.int .i64 xi]=>some ⟨kd,sd,id,n,cd,s,on,ww,xx,xw,xs,xi⟩
 |_=>none
theorem Zm (cs:List Value) (y:AC) (h:Aak cs=some y): [I6 y.kd,I6 y.sd,I6 y.id,I6 y.n,I6 y.cd,.string y.s,I6 y.on,I6 y.ww,.bool y.xx,I6 y.xw,I6 y.xs,I6 y.xi]=cs:=by
 unfold Aak at h
 split at h
 ·cases h;rfl
 ·cases h
def Ce:tJ AC:= { enc:=fun y=> [I6 y.kd,I6 y.sd,I6 y.id,I6 y.n,I6 y.cd,.string y.s,I6 y.on,I6 y.ww,.bool y.xx,I6 y.xw,I6 y.xs,I6 y.xi],sz:=12,dec:=Aak,len:=fun _=>rfl,one:=fun _=>rfl,ok:=Zm }
variable {W:World}
theorem Z0 {cs:List Value} {o m j n:Nat} (h:j+n≤m):(((cs.drop o).take m).drop j).take n=(cs.drop (o+j)).take n:=by
 rw[List.drop_take,List.take_take,List.drop_drop]
 congr 1
 omega
theorem Ag2 {cs:List Value} {v0 v1 v2 v3 v4 v5 v6 v7 v8 v9 Yw Jo:Value} (hl:cs.length=12) (h0:(cs.drop 0).take 1= [v0]) (h1:(cs.drop 1).take 1= [v1]) (h2:(cs.drop 2).take 1= [v2]) (h3:(cs.drop 3).take 1= [v3]) (h4:(cs.drop 4).take 1= [v4]) (h5:(cs.drop 5).take 1= [v5]) (h6:(cs.drop 6).take 1= [v6]) (h7:(cs.drop 7).take 1= [v7]) (h8:(cs.drop 8).take 1= [v8]) (h9:(cs.drop 9).take 1= [v9]) (h10:(cs.drop 10).take 1= [Yw]) (h11:(cs.drop 11).take 1= [Jo]):cs= [v0,v1,v2,v3,v4,v5,v6,v7,v8,v9,Yw,Jo]:=by
 match cs,hl with
 | [a0,a1,a2,a3,a4,a5,a6,a7,a8,a9,a10,a11],_=>simp_all
theorem S7 {n:Nat} {cs:List Value} (hg:Go.Sl.Good Tryz.prog W n 92 cs):∃a:AC,cs= [I6 a.kd,I6 a.sd,I6 a.id,I6 a.n,I6 a.cd,.string a.s,I6 a.on,I6 a.ww,.bool a.xx,I6 a.xw,I6 a.xs,I6 a.xi]:=by
 have hz:Tryz.prog.cellsOf 92=12:=by kernel_rfl
 have hz2:Tryz.prog.cellsOf 23=3:=by kernel_rfl
 have hz3:Tryz.prog.cellsOf 42=3:=by kernel_rfl
 obtain⟨m2,k3,k4⟩:=rF Tryz.underlying92 hg
 obtain⟨kd,r0,_⟩:=fT Tryz.underlying3 (k4 0 _ rfl)
 obtain⟨sd,r1,w1⟩:=fT Tryz.underlying3 (k4 1 _ rfl)
 obtain⟨id,r2,w2⟩:=fT Tryz.underlying3 (k4 2 _ rfl)
 obtain⟨n,r3,w3⟩:=fT Tryz.underlying3 (k4 3 _ rfl)
 obtain⟨cd,r4,w4⟩:=fT Tryz.underlying3 (k4 4 _ rfl)
 obtain⟨s,r5,_⟩:=NY Tryz.underlying9 (k4 5 _ rfl)
 obtain⟨m5,j5,j6⟩:=rF Tryz.underlying42 (k4 6 _ rfl)
 obtain⟨on,q0,u0⟩:=fT Tryz.underlying3 (j6 0 _ rfl)
 obtain⟨ww,q1,u1⟩:=fT Tryz.underlying3 (j6 1 _ rfl)
 obtain⟨xx,q2⟩:=XP Tryz.underlying4 (j6 2 _ rfl)
 obtain⟨m3,j3,j4⟩:=rF Tryz.underlying23 (k4 7 _ rfl)
 obtain⟨xw,p0,x0⟩:=fT Tryz.underlying3 (j4 0 _ rfl)
 obtain⟨xs,p1,x1⟩:=fT Tryz.underlying3 (j4 1 _ rfl)
 obtain⟨xi,p2,x2⟩:=fT Tryz.underlying3 (j4 2 _ rfl)
 have go:∀(j:Nat) (v:Value),j+1≤3→List.take 1 (List.drop j (List.take (Tryz.prog.cellsOf 42) (List.drop 6 cs)))= [v]→(cs.drop (6+j)).take 1= [v]:=fun j v hj h=>by
  rw[hz3,Z0 hj] at h;exact h
 have go2:∀(j:Nat) (v:Value),j+1≤3→List.take 1 (List.drop j (List.take (Tryz.prog.cellsOf 23) (List.drop 9 cs)))= [v]→(cs.drop (9+j)).take 1= [v]:=fun j v hj h=>by
  rw[hz2,Z0 hj] at h;exact h
 exact⟨⟨kd,sd,id,n,cd,s,on,ww,xx,xw,xs,xi⟩,Ag2 (k3.trans hz) r0 r1 r2 r3 r4 r5 (go 0 _ (by omega) q0) (go 1 _ (by omega) q1) (go 2 _ (by omega) q2) (go2 0 _ (by omega) p0) (go2 1 _ (by omega) p1) (go2 2 _ (by omega) p2)⟩
variable {R C:List HP} {K:KP} {w st it sb si sg ev wa stl:Int} {a:AC}
def cfL (w it sb si sg ev wa stl:Int):Cf:=⟨w % 18446744073709551616 % 100,8,it % 18446744073709551616 % 20,sb % 18446744073709551616 % 200,si % 18446744073709551616 % 20,sg % 18446744073709551616 % 3,ev % 18446744073709551616 % 30,wa % 18446744073709551616 % 30,stl % 18446744073709551616 % 30⟩
theorem Y2:Fu (cfL w it sb si sg ev wa stl):=by
 refine⟨?_,?_,?_,?_,?_,?_,?_⟩
 ·unfold rY cfL;simp only[Bool.and_eq_true,decide_eq_true_eq];omega
 all_goals(unfold cfL;dsimp only;omega)
theorem ID (hK:K (.agg #[I6 (w % 18446744073709551616 % 100),I6 8,I6 (it % 18446744073709551616 % 20),I6 (sb % 18446744073709551616 % 200),I6 (si % 18446744073709551616 % 20),I6 (sg % 18446744073709551616 % 3),I6 (ev % 18446744073709551616 % 30),I6 (wa % 18446744073709551616 % 30),I6 (stl % 18446744073709551616 % 30)]) R):CT 22 #[.agg #[I6 w,I6 st,I6 it,I6 sb,I6 si,I6 sg,I6 ev,I6 wa,I6 stl]] R K:=by
 have h1:∀z:Int,0≤z % 18446744073709551616 % 100∧z % 18446744073709551616 % 100<100:=fun z=>by omega
 have h2:∀z:Int,0≤z % 18446744073709551616 % 20∧z % 18446744073709551616 % 20<20:=fun z=>by omega
 have h3:∀z:Int,0≤z % 18446744073709551616 % 200∧z % 18446744073709551616 % 200<200:=fun z=>by omega
 have h4:∀z:Int,0≤z % 18446744073709551616 % 3∧z % 18446744073709551616 % 3<3:=fun z=>by omega
 have h5:∀z:Int,0≤z % 18446744073709551616 % 30∧z % 18446744073709551616 % 30<30:=fun z=>by omega
 refine aH Tryz.func22 ?_
 repeat' (first|(show aN _ _ _ _ _ _ _;first|refine mA ?_|refine kA ?_)|refine v61 ?_|refine w5 ?_ ?_|((refine bh fun h=>?_) <;> try exact w6 h)|(refine aE fun hA=>?_;subst hA)|intro _)
 all_goals(refine aC ?_;exact aB (hK))
theorem IE (hK:K (.bool (decide ((a.s.size:Int)<600))) R):CT 32 #[.agg #[I6 a.kd,I6 a.sd,I6 a.id,I6 a.n,I6 a.cd,.string a.s,I6 a.on,I6 a.ww,.bool a.xx,I6 a.xw,I6 a.xs,I6 a.xi]] R K:=by
 refine aH Tryz.func32 ?_
 repeat' (first|refine v19 ?_|refine w5 ?_ ?_|((refine bh fun h=>?_) <;> try exact w6 h)|(refine aE fun hA=>?_;subst hA)|intro _)
 all_goals(refine aC ?_;exact aB (hK))
end
section
variable {W:World}
theorem Abm {cs:List Value} {v0 v1 v2 v3 v4 v5 v6 v7 v8:Value} (hl:cs.length=9) (h0:(cs.drop 0).take 1= [v0]) (h1:(cs.drop 1).take 1= [v1]) (h2:(cs.drop 2).take 1= [v2]) (h3:(cs.drop 3).take 1= [v3]) (h4:(cs.drop 4).take 1= [v4]) (h5:(cs.drop 5).take 1= [v5]) (h6:(cs.drop 6).take 1= [v6]) (h7:(cs.drop 7).take 1= [v7]) (h8:(cs.drop 8).take 1= [v8]):cs= [v0,v1,v2,v3,v4,v5,v6,v7,v8]:=by
 match cs,hl with
 | [a0,a1,a2,a3,a4,a5,a6,a7,a8],_=>simp_all
theorem Ahg {cs:List Value} {o m j n:Nat} (h:j+n≤m):(((cs.drop o).take m).drop j).take n=(cs.drop (o+j)).take n:=by
 rw[List.drop_take,List.take_take,List.drop_drop]
 congr 1
 omega
theorem Gc {n:Nat} {cs:List Value} (hg:Go.Sl.Good Tryz.prog W n 32 cs):∃w st it sb si stg ev wa stl:Int,cs= [I6 w,I6 st,I6 it,I6 sb,I6 si,I6 stg,I6 ev,I6 wa,I6 stl]:=by
 have hz:Tryz.prog.cellsOf 32=9:=by kernel_rfl
 have hz2:Tryz.prog.cellsOf 23=3:=by kernel_rfl
 obtain⟨m2,k3,k4⟩:=rF Tryz.underlying32 hg
 obtain⟨m3,j3,j4⟩:=rF Tryz.underlying23 (k4 0 _ rfl)
 obtain⟨w,r0,_⟩:=fT Tryz.underlying3 (j4 0 _ rfl)
 obtain⟨st,r1,_⟩:=fT Tryz.underlying3 (j4 1 _ rfl)
 obtain⟨it,r2,_⟩:=fT Tryz.underlying3 (j4 2 _ rfl)
 obtain⟨sb,r3,_⟩:=fT Tryz.underlying3 (k4 1 _ rfl)
 obtain⟨si,r4,_⟩:=fT Tryz.underlying3 (k4 2 _ rfl)
 obtain⟨stg,r5,_⟩:=fT Tryz.underlying3 (k4 3 _ rfl)
 obtain⟨ev,r6,_⟩:=fT Tryz.underlying3 (k4 4 _ rfl)
 obtain⟨wa,r7,_⟩:=fT Tryz.underlying3 (k4 5 _ rfl)
 obtain⟨stl,r8,_⟩:=fT Tryz.underlying3 (k4 6 _ rfl)
 have go:∀(j:Nat) (v:Value),j+1≤3→List.take 1 (List.drop j (List.take (Tryz.prog.cellsOf 23) (List.drop 0 cs)))= [v]→(cs.drop (0+j)).take 1= [v]:=fun j v hj h=>by
  rw[hz2,Ahg hj] at h;exact h
 exact⟨w,st,it,sb,si,stg,ev,wa,stl,Abm (k3.trans hz) (go 0 _ (by omega) r0) (go 1 _ (by omega) r1) (go 2 _ (by omega) r2) r3 r4 r5 r6 r7 r8⟩
end
end Go.Proofs.YtifgibijcmppmaaGreat
namespace Go.Proofs.YtifgibijcmppmaaGreat
open Go Go.Proofs Go.Sl
attribute [local irreducible] aN fN cX bP aM aX aA dS dV aT dU pt ro eV star sep bH
attribute [local irreducible] mp ED
section
abbrev Zk:=Du×Nat
def aS (a:AC) (z:Zk):Zk:=(duS a z.1,z.2+1)
def EK (side id:Int):AC:=⟨5,side,id,0,0,⟨#[]⟩,0,0,false,0,0,0⟩
def acR (side id:Int):AC:=⟨4,side,id,4096,0,⟨#[]⟩,0,0,false,0,0,0⟩
def acQ (side id:Int):AC:=⟨6,side,id,64,0,⟨#[]⟩,0,0,false,0,0,0⟩
def MN (side:Int):AC:=⟨11,side,0,0,0,⟨#[]⟩,0,0,false,0,0,0⟩
def acD (side:Int):AC:=⟨12,side,0,1048576,0,⟨#[]⟩,0,0,false,0,0,0⟩
def sR:Nat→Int→Int→Zk→Zk
 |0,_,_,z=>z
 |n+1,side,id,z=>if(duT (EK side id) z.1).is=false∨(duT (EK side id) z.1).en=true then aS (EK side id) z else sR n side id (aS (EK side id) z)
def duC (side:Int) (z:Du):Cn:=if side=0 then z.c0 else z.c1
def IV (side id:Int) (z:Zk):Option Zk:=match bY id (duC side z.1).l with
 |none=>none
 |some m=>some (if bB m.x=1 then aS (acR side id) z else aS (acQ side id) (sR 64 side id z))
def wU (side:Int):List Int→Zk→Option Zk
 | [],z=>some z
 |id::r,z=>match IV side id z with
  |none=>none
  |some y=>wU side r y
def GV (z:Zk):Zk:=aS (acD 1) (aS (acD 0) (aS (MN 1) (aS (MN 0) z)))
def rnd (z:Zk):Option Zk:=match wU 0 ((GV z).1.c0.l.map Sm.id) (GV z) with
 |none=>none
 |some y=>wU 1 (y.1.c1.l.map Sm.id) y
def Pg:Nat→Zk→Option Zk
 |0,z=>some z
 |n+1,z=>match Pg n z with
  |none=>none
  |some y=>rnd y
variable {R C:List HP} {K:KP} {d x b r1 r3 n k:Nat} {A:Dd} {z y:Zk} {side id:Int} {cf cf0 cf1:Cf} {a:AC} {m:Sm} {l:List Int}
theorem Hm:sR (n+1) side id z=if(duT (EK side id) z.1).is=false∨(duT (EK side id) z.1).en=true then aS (EK side id) z else sR n side id (aS (EK side id) z):=rfl
theorem Ef:∀ {n:Nat} {z:Zk},z.2≤(sR n side id z).2
 |0,_=>Nat.le_refl _
 |n+1,z=>by
  unfold sR
  split
  ·exact Nat.le_succ _
  ·exact Nat.le_trans (Nat.le_succ _) (Ef (n:=n) (z:=aS (EK side id) z))
theorem Zv (h:IV side id z=some y):z.2<y.2:=by
 unfold IV at h
 split at h
 ·cases h
 ·cases h
  split
  ·exact Nat.lt_succ_self _
  ·exact Nat.lt_succ_of_le Ef
theorem wW:∀ {l:List Int} {z:Zk},wU side l z=some y→z.2≤y.2
 | [],z,h=>by cases h;exact Nat.le_refl _
 |id::l,z,h=>by
  unfold wU at h
  split at h
  ·cases h
  ·rename_i w hw
   exact Nat.le_trans (Nat.le_of_lt (Zv hw)) (wW h)
theorem Aa7 (h:rnd z=some y):z.2+4≤y.2:=by
 unfold rnd at h
 split at h
 ·cases h
 ·rename_i w hw
  exact Nat.le_trans (wW hw) (wW h)
theorem U5:∀ {n j:Nat} {z y:Zk},j≤n→Pg n z=some y→∃w,Pg j z=some w∧w.2≤y.2
 |0,j,z,y,hj,h=>by
  obtain rfl:j=0:=by omega
  exact⟨y,h,Nat.le_refl _⟩
 |n+1,j,z,y,hj,h=>by
  by_cases e:j=n+1
  ·subst e;exact⟨y,h,Nat.le_refl _⟩
  ·have h2:=h
   unfold Pg at h2
   split at h2
   ·cases h2
   ·rename_i w hw
    obtain⟨v,hv,hl⟩:=U5 (j:=j) (by omega) hw
    exact⟨v,hv,Nat.le_trans hl (by have:=Aa7 h2;omega)⟩
def Ue (r3 n:Nat):HP:=eV fun A=>eV fun c=>eV fun l=>sep (pt r3 [.slice A (List.length (α:=AC) l) c] 83) (sep (bQ A c 92 Ce l) (bH (l.length≤n)))
theorem OX {A:Option Addr} {c k:Nat} {l:List AC} (h:l.length≤n) (hk:l.length=k):aG (pt r3 [.slice A k c] 83::bQ A c 92 Ce l::R) (Ue r3 n::R):=by
 subst hk
 exact aG.ex A (aG.ex c (aG.ex l (aG.sep (aG.pick aV.here (aG.sep (aG.pick aV.here (aG.pure h (aG.refl _))))))))
theorem Y0 {f:FuncId} {args:Array Value} (h:∀A c (l:List AC),l.length≤n→CT f args (pt r3 [.slice A l.length c] 83::bQ A c 92 Ce l::R) K):CT f args (Ue r3 n::R) K:=
 aA.ex fun A=>aA.ex fun c=>aA.ex fun l=>aA.sep (aA.ent (aG.trans (aG.cons aG.unsep) (fun _ hs=>(hs.perm (List.Perm.trans (List.Perm.cons _ (List.Perm.swap _ _ _)) (List.Perm.swap _ _ _))))) (aA.pure fun hI=>h A c l hI))
theorem Ah8:aG (pt r3 [.slice none 0 0] 83::R) (Ue r3 n::R):=fun H hs=>by
 have h1:=aG.cons (aG.nilrow 92 Ce R) H hs
 exact OX (l:= []) (c:=0) (Nat.zero_le _) rfl H h1
theorem k9 (hG:Jx cf0 cf1 z.2 z.1) (hk:z.2<100) (hd:a.s.size≤599) (hK:Jx cf0 cf1 (aS a z).2 (aS a z).1→K (m9 (duT a z.1)) (Ue r3 (aS a z).2::pt r1 [PO d] 86::kS d A (aS a z).1 R)):CT 230 #[.agg #[I6 a.kd,I6 a.sd,I6 a.id,I6 a.n,I6 a.cd,.string a.s,I6 a.on,I6 a.ww,.bool a.xx,I6 a.xw,I6 a.xs,I6 a.xi],PO r3,PO r1] (Ue r3 z.2::pt r1 [PO d] 86::kS d A z.1 R) K:=by
 refine Y0 fun A0 c0 l hl=>?_
 have hl2:(l++ [a]).length≤z.2+1:=by simpa using hl
 have hl3:(l++ [a]).length=l.length+1:=by simp
 dsimp only[kS,m9] at hK ⊢
 refine aH Tryz.func230 ?_
 repeat' (first|(show aN _ _ _ _ _ _ _;(refine lZ (E:=Ce) (ys:= [a]) ?_;intro _ _))|refine v51 ?_|refine w5 ?_ ?_|((refine bh fun h=>?_) <;> try exact w6 h)|(refine aE fun hA=>?_;subst hA)|intro _|(show aA _ 33 _ _ _;refine CA (h:=GO (A:=A) (a:=a) (z:=z.1) (k:=z.2) hG (by omega) hd (fun hG2=>?_));dsimp only[m9,kS]))
 all_goals(refine aC ?_;exact aK (aG.trans (by exact aZ) ((OX (n:=z.2+1) hl2 rfl))) (hK hG2))
theorem DK {c:Cn} {ad:Ca} (hm:bY id c.l=some m) (hK:K (I6 (bB m.x)) (mU x ad c::R)):CT 107 #[PO b] (mS b m::Ajv x ad c (b7 id c.l) b::R) K:=aA.entK (gM ⟨_,BG hm,hK⟩)
theorem O8 (hs:side=0∨side=1) (hG:Jx cf0 cf1 z.2 z.1) (h1:IV side id z=some y) (hy:y.2≤100) (hK:Jx cf0 cf1 y.2 y.1→K (.tuple #[]) (Ue r3 y.2::pt r1 [PO d] 86::kS d A y.1 R)):CT 231 #[PO d,I6 side,I6 id,.func (.func 230) #[] #[PO r3,PO r1]] (Ue r3 z.2::pt r1 [PO d] 86::kS d A z.1 R) K:=by
 unfold IV at h1
 cases hm:bY id (duC side z.1).l with
 |none=>rw[hm] at h1;cases h1
 |some m=>
  rw[hm] at h1
  have h1:(if bB m.x=1 then aS (acR side id) z else aS (acQ side id) (sR 64 side id z))=y:=Option.some.inj h1
  by_cases hx:bB m.x=1
  ·rw[if_pos hx] at h1
   subst h1
   dsimp only[kS] at hK
   have hy:z.2+1≤100:=hy
   have hR:(acR side id).s.size≤599:=Nat.zero_le _
   rcases hs with rfl|rfl
   ·have hm:bY id z.1.c0.l=some m:=hm
    dsimp only[kS]
    refine aH Tryz.func231 ?_
    have hx2:bB m.x=1:=hx
    repeat' (first|refine HQ ?_|refine w5 ?_ ?_|((refine bh fun h=>?_) <;> try exact w6 h)|(refine aE fun hA=>?_;subst hA)|intro _|(show aA _ 34 _ _ _;refine CA (h:=i3 (d:=d) (A:=A) (z:=z.1) (.inl rfl) ?_);dsimp only[kS];simp only[Int.reduceEq,if_true,if_false])|(show aA _ 104 _ _ _;refine CA (h:=yM (x:=A.x0) (ad:=A.a0) (c:=z.1.c0) hG.c0 hm (fun strB=>?_)))|(show aA _ 107 _ _ _;refine CA (h:=DK (x:=A.x0) (ad:=A.a0) (c:=z.1.c0) hm ?_);rw[hx])|(show aA _ 230 _ _ _;refine CA (h:=k9 (d:=d) (A:=A) (r1:=r1) (r3:=r3) (z:=z) (a:=acR 0 id) hG (by omega) (Nat.zero_le _) (fun hg1=>?_));dsimp only[kS,m9]))
    all_goals(refine aC ?_;exact aB (hK hg1))
   ·have hm:bY id z.1.c1.l=some m:=hm
    dsimp only[kS]
    refine aH Tryz.func231 ?_
    have hx2:bB m.x=1:=hx
    repeat' (first|refine HQ ?_|refine w5 ?_ ?_|((refine bh fun h=>?_) <;> try exact w6 h)|(refine aE fun hA=>?_;subst hA)|intro _|(show aA _ 34 _ _ _;refine CA (h:=i3 (d:=d) (A:=A) (z:=z.1) (.inr rfl) ?_);dsimp only[kS];simp only[Int.reduceEq,if_true,if_false])|(show aA _ 104 _ _ _;refine CA (h:=yM (x:=A.x1) (ad:=A.a1) (c:=z.1.c1) hG.c1 hm (fun strB=>?_)))|(show aA _ 107 _ _ _;refine CA (h:=DK (x:=A.x1) (ad:=A.a1) (c:=z.1.c1) hm ?_);rw[hx])|(show aA _ 230 _ _ _;refine CA (h:=k9 (d:=d) (A:=A) (r1:=r1) (r3:=r3) (z:=z) (a:=acR 1 id) hG (by omega) (Nat.zero_le _) (fun hg1=>?_));dsimp only[kS,m9]))
    all_goals(refine aC ?_;exact aB (hK hg1))
  ·rw[if_neg hx] at h1
   subst h1
   dsimp only[kS] at hK
   have hy:(sR 64 side id z).2+1≤100:=hy
   have hxk:∃kk,bB m.x=kk∧kk≠1:=⟨_,rfl,hx⟩
   obtain⟨kk,hkk,hk1⟩:=hxk
   rcases hs with rfl|rfl
   ·have hm:bY id z.1.c0.l=some m:=hm
    dsimp only[kS]
    refine aH Tryz.func231 ?_
    repeat' (first|refine HQ ?_|refine w5 ?_ ?_|((refine bh fun h=>?_) <;> try exact w6 h)|(refine aE fun hA=>?_;subst hA)|intro _|(show aA _ 34 _ _ _;refine CA (h:=i3 (d:=d) (A:=A) (z:=z.1) (.inl rfl) ?_);dsimp only[kS];simp only[Int.reduceEq,if_true,if_false])|(show aA _ 104 _ _ _;refine CA (h:=yM (x:=A.x0) (ad:=A.a0) (c:=z.1.c0) hG.c0 hm (fun strB=>?_)))|(show aA _ 107 _ _ _;refine CA (h:=DK (x:=A.x0) (ad:=A.a0) (c:=z.1.c0) hm ?_);rw[hkk]))
    refine fZ (fun n a' C'=>∃(j:Nat) (w:Zk),j+n=64∧sR (64 - j) 0 id w=sR 64 0 id z∧Jx cf0 cf1 w.2 w.1∧cJ a' [(0,PO d),(1,I6 0),(2,I6 id),(3,.func (.func 230) #[] #[PO r3,PO r1]),(21,I6 j)]∧C'=Ue r3 w.2::pt r1 [PO d] 86::pt d [PO A.x0,PO A.x1,PO A.p0,PO A.p1,.bool w.1.b0,.bool w.1.b1] 196::kZ A.p0 w.1.l0::kZ A.p1 w.1.l1::mU A.x0 A.a0 w.1.c0::mU A.x1 A.a1 w.1.c1::R) 64 (bV 64 ⟨0,z,rfl,rfl,hG,⟨rfl,rfl,rfl,rfl,rfl,trivial⟩,rfl⟩ (by omega)) ?_
    rintro n a' C' ⟨j,w,hj,hw,hGw,ha,rfl⟩
    refine fP _ ha ?_
    simp only[eP]
    by_cases hlt:j<64
    ·have e:64 - j=(64 - (j+1))+1:=by omega
     rw[e,Hm (n:=64 - (j+1))] at hw
     cases hi:(duT (EK 0 id) w.1).is
     ·skip
      rw[if_pos (.inl hi)] at hw
      rw[← hw] at hK hy
      have hy:w.2+1+1≤100:=hy
      repeat' (first|refine HQ ?_|refine w5 ?_ ?_|((refine bh fun h=>?_) <;> try exact w6 h)|(refine aE fun hA=>?_;subst hA)|intro _|(show aA _ 230 _ _ _;refine CA (h:=k9 (d:=d) (A:=A) (r1:=r1) (r3:=r3) (z:=w) (a:=EK 0 id) hGw (by omega) (Nat.zero_le _) (fun hg1=>?_));dsimp only[kS,m9];rw[hi])|(show aA _ 230 _ _ _;refine CA (h:=k9 (d:=d) (A:=A) (r1:=r1) (r3:=r3) (z:=(aS (EK 0 id) w)) (a:=acQ 0 id) hg1 (by show w.2+1<100;omega) (Nat.zero_le _) (fun hg2=>?_));dsimp only[kS,m9]))
      all_goals(refine aC ?_;exact aB (hK hg2))
     ·cases he:(duT (EK 0 id) w.1).en
      ·rw[if_neg (by rw[hi,he];decide)] at hw
       have hw2:w.2+1≤(sR 64 0 id z).2:=by rw[← hw];exact Ef (z:=aS (EK 0 id) w)
       repeat' (first|refine HQ ?_|refine w5 ?_ ?_|((refine bh fun h=>?_) <;> try exact w6 h)|(refine aE fun hA=>?_;subst hA)|intro _|(show aA _ 230 _ _ _;refine CA (h:=k9 (d:=d) (A:=A) (r1:=r1) (r3:=r3) (z:=w) (a:=EK 0 id) hGw (by omega) (Nat.zero_le _) (fun hg1=>?_));dsimp only[kS,m9];rw[hi,he]))
       all_goals(show aT _ _ _ _;exact bV (n - 1) ⟨j+1,aS (EK 0 id) w,by omega,hw,hg1,⟨rfl,rfl,rfl,rfl,rfl,trivial⟩,rfl⟩)
      ·skip
       rw[if_pos (.inr he)] at hw
       rw[← hw] at hK hy
       have hy:w.2+1+1≤100:=hy
       repeat' (first|refine HQ ?_|refine w5 ?_ ?_|((refine bh fun h=>?_) <;> try exact w6 h)|(refine aE fun hA=>?_;subst hA)|intro _|(show aA _ 230 _ _ _;refine CA (h:=k9 (d:=d) (A:=A) (r1:=r1) (r3:=r3) (z:=w) (a:=EK 0 id) hGw (by omega) (Nat.zero_le _) (fun hg1=>?_));dsimp only[kS,m9];rw[hi,he])|(show aA _ 230 _ _ _;refine CA (h:=k9 (d:=d) (A:=A) (r1:=r1) (r3:=r3) (z:=(aS (EK 0 id) w)) (a:=acQ 0 id) hg1 (by show w.2+1<100;omega) (Nat.zero_le _) (fun hg2=>?_));dsimp only[kS,m9]))
       all_goals(refine aC ?_;exact aB (hK hg2))
    ·obtain rfl:j=64:=by omega
     have hw:w=sR 64 0 id z:=hw
     rw[← hw] at hK hy
     repeat' (first|refine HQ ?_|refine w5 ?_ ?_|((refine bh fun h=>?_) <;> try exact w6 h)|(refine aE fun hA=>?_;subst hA)|intro _|(show aA _ 230 _ _ _;refine CA (h:=k9 (d:=d) (A:=A) (r1:=r1) (r3:=r3) (z:=w) (a:=acQ 0 id) hGw (by omega) (Nat.zero_le _) (fun hg2=>?_));dsimp only[kS,m9]))
     all_goals(refine aC ?_;exact aB (hK hg2))
   ·have hm:bY id z.1.c1.l=some m:=hm
    dsimp only[kS]
    refine aH Tryz.func231 ?_
    repeat' (first|refine HQ ?_|refine w5 ?_ ?_|((refine bh fun h=>?_) <;> try exact w6 h)|(refine aE fun hA=>?_;subst hA)|intro _|(show aA _ 34 _ _ _;refine CA (h:=i3 (d:=d) (A:=A) (z:=z.1) (.inr rfl) ?_);dsimp only[kS];simp only[Int.reduceEq,if_true,if_false])|(show aA _ 104 _ _ _;refine CA (h:=yM (x:=A.x1) (ad:=A.a1) (c:=z.1.c1) hG.c1 hm (fun strB=>?_)))|(show aA _ 107 _ _ _;refine CA (h:=DK (x:=A.x1) (ad:=A.a1) (c:=z.1.c1) hm ?_);rw[hkk]))
    refine fZ (fun n a' C'=>∃(j:Nat) (w:Zk),j+n=64∧sR (64 - j) 1 id w=sR 64 1 id z∧Jx cf0 cf1 w.2 w.1∧cJ a' [(0,PO d),(1,I6 1),(2,I6 id),(3,.func (.func 230) #[] #[PO r3,PO r1]),(21,I6 j)]∧C'=Ue r3 w.2::pt r1 [PO d] 86::pt d [PO A.x0,PO A.x1,PO A.p0,PO A.p1,.bool w.1.b0,.bool w.1.b1] 196::kZ A.p0 w.1.l0::kZ A.p1 w.1.l1::mU A.x0 A.a0 w.1.c0::mU A.x1 A.a1 w.1.c1::R) 64 (bV 64 ⟨0,z,rfl,rfl,hG,⟨rfl,rfl,rfl,rfl,rfl,trivial⟩,rfl⟩ (by omega)) ?_
    rintro n a' C' ⟨j,w,hj,hw,hGw,ha,rfl⟩
    refine fP _ ha ?_
    simp only[eP]
    by_cases hlt:j<64
    ·have e:64 - j=(64 - (j+1))+1:=by omega
     rw[e,Hm (n:=64 - (j+1))] at hw
     cases hi:(duT (EK 1 id) w.1).is
     ·skip
      rw[if_pos (.inl hi)] at hw
      rw[← hw] at hK hy
      have hy:w.2+1+1≤100:=hy
      repeat' (first|refine HQ ?_|refine w5 ?_ ?_|((refine bh fun h=>?_) <;> try exact w6 h)|(refine aE fun hA=>?_;subst hA)|intro _|(show aA _ 230 _ _ _;refine CA (h:=k9 (d:=d) (A:=A) (r1:=r1) (r3:=r3) (z:=w) (a:=EK 1 id) hGw (by omega) (Nat.zero_le _) (fun hg1=>?_));dsimp only[kS,m9];rw[hi])|(show aA _ 230 _ _ _;refine CA (h:=k9 (d:=d) (A:=A) (r1:=r1) (r3:=r3) (z:=(aS (EK 1 id) w)) (a:=acQ 1 id) hg1 (by show w.2+1<100;omega) (Nat.zero_le _) (fun hg2=>?_));dsimp only[kS,m9]))
      all_goals(refine aC ?_;exact aB (hK hg2))
     ·cases he:(duT (EK 1 id) w.1).en
      ·rw[if_neg (by rw[hi,he];decide)] at hw
       have hw2:w.2+1≤(sR 64 1 id z).2:=by rw[← hw];exact Ef (z:=aS (EK 1 id) w)
       repeat' (first|refine HQ ?_|refine w5 ?_ ?_|((refine bh fun h=>?_) <;> try exact w6 h)|(refine aE fun hA=>?_;subst hA)|intro _|(show aA _ 230 _ _ _;refine CA (h:=k9 (d:=d) (A:=A) (r1:=r1) (r3:=r3) (z:=w) (a:=EK 1 id) hGw (by omega) (Nat.zero_le _) (fun hg1=>?_));dsimp only[kS,m9];rw[hi,he]))
       all_goals(show aT _ _ _ _;exact bV (n - 1) ⟨j+1,aS (EK 1 id) w,by omega,hw,hg1,⟨rfl,rfl,rfl,rfl,rfl,trivial⟩,rfl⟩)
      ·skip
       rw[if_pos (.inr he)] at hw
       rw[← hw] at hK hy
       have hy:w.2+1+1≤100:=hy
       repeat' (first|refine HQ ?_|refine w5 ?_ ?_|((refine bh fun h=>?_) <;> try exact w6 h)|(refine aE fun hA=>?_;subst hA)|intro _|(show aA _ 230 _ _ _;refine CA (h:=k9 (d:=d) (A:=A) (r1:=r1) (r3:=r3) (z:=w) (a:=EK 1 id) hGw (by omega) (Nat.zero_le _) (fun hg1=>?_));dsimp only[kS,m9];rw[hi,he])|(show aA _ 230 _ _ _;refine CA (h:=k9 (d:=d) (A:=A) (r1:=r1) (r3:=r3) (z:=(aS (EK 1 id) w)) (a:=acQ 1 id) hg1 (by show w.2+1<100;omega) (Nat.zero_le _) (fun hg2=>?_));dsimp only[kS,m9]))
       all_goals(refine aC ?_;exact aB (hK hg2))
    ·obtain rfl:j=64:=by omega
     have hw:w=sR 64 1 id z:=hw
     rw[← hw] at hK hy
     repeat' (first|refine HQ ?_|refine w5 ?_ ?_|((refine bh fun h=>?_) <;> try exact w6 h)|(refine aE fun hA=>?_;subst hA)|intro _|(show aA _ 230 _ _ _;refine CA (h:=k9 (d:=d) (A:=A) (r1:=r1) (r3:=r3) (z:=w) (a:=acQ 1 id) hGw (by omega) (Nat.zero_le _) (fun hg2=>?_));dsimp only[kS,m9]))
     all_goals(refine aC ?_;exact aB (hK hg2))
theorem Y4 (hG:Jx cf0 cf1 z.2 z.1) (hr:rnd z=some y) (hy:y.2≤100) (hK:∀v,Jx cf0 cf1 y.2 y.1→K v (kS d A y.1 R)):CT 134 #[PO d] (kS d A z.1 R) K:=by
 have h4:=Aa7 hr
 unfold rnd at hr
 cases hr0:wU 0 ((GV z).1.c0.l.map Sm.id) (GV z) with
 |none=>rw[hr0] at hr;cases hr
 |some y0=>
  rw[hr0] at hr
  have hr:wU 1 (y0.1.c1.l.map Sm.id) y0=some y:=hr
  have hy0:=wW hr
  dsimp only[kS] at hK ⊢
  refine aH Tryz.func134 ?_
  repeat' (first|refine Jj ?_|refine w5 ?_ ?_|((refine bh fun h=>?_) <;> try exact w6 h)|(refine aE fun hA=>?_;subst hA)|intro _)
  rename_i r1 r3
  refine fZ (fun n a' C'=>∃(j:Nat) (w:Zk),j+n=2∧(j=0∧w=z∨j=1∧w=aS (MN 0) z∨j=2∧w=aS (MN 1) (aS (MN 0) z))∧Jx cf0 cf1 w.2 w.1∧cJ a' [(1,PO r1),(3,PO r3),(4,.func (.func 230) #[] #[PO r3,PO r1]),(14,I6 j)]∧C'=Ue r3 w.2::pt r1 [PO d] 86::pt d [PO A.x0,PO A.x1,PO A.p0,PO A.p1,.bool w.1.b0,.bool w.1.b1] 196::kZ A.p0 w.1.l0::kZ A.p1 w.1.l1::mU A.x0 A.a0 w.1.c0::mU A.x1 A.a1 w.1.c1::R) 2 (by exact pE (m:=2) (by omega) (aG.trans (by exact aZ) Ah8) ⟨0,z,rfl,.inl ⟨rfl,rfl⟩,hG,⟨rfl,rfl,rfl,rfl,trivial⟩,rfl⟩) ?_
  rintro n a' C' ⟨j,w,hj,hw,hGw,ha,rfl⟩
  refine fP _ ha ?_
  simp only[eP]
  rcases hw with⟨rfl,rfl⟩|⟨rfl,rfl⟩|⟨rfl,rfl⟩
  ·repeat' (first|refine Jj ?_|refine w5 ?_ ?_|((refine bh fun h=>?_) <;> try exact w6 h)|(refine aE fun hA=>?_;subst hA)|intro _|(show aA _ 230 _ _ _;refine CA (h:=k9 (d:=d) (A:=A) (r1:=r1) (r3:=r3) (z:=w) (a:=MN 0) hGw (by omega) (Nat.zero_le _) (fun hg1=>?_));dsimp only[kS,m9]))
   all_goals(show aT _ _ _ _;exact bV (n - 1) ⟨1,aS (MN 0) w,by omega,.inr (.inl ⟨rfl,rfl⟩),hg1,⟨rfl,rfl,rfl,rfl,trivial⟩,rfl⟩)
  ·repeat' (first|refine Jj ?_|refine w5 ?_ ?_|((refine bh fun h=>?_) <;> try exact w6 h)|(refine aE fun hA=>?_;subst hA)|intro _|(show aA _ 230 _ _ _;refine CA (h:=k9 (d:=d) (A:=A) (r1:=r1) (r3:=r3) (z:=aS (MN 0) z) (a:=MN 1) hGw (by show z.2+1<100;omega) (Nat.zero_le _) (fun hg1=>?_));dsimp only[kS,m9]))
   all_goals(show aT _ _ _ _;exact bV (n - 1) ⟨2,aS (MN 1) (aS (MN 0) z),by omega,.inr (.inr ⟨rfl,rfl⟩),hg1,⟨rfl,rfl,rfl,rfl,trivial⟩,rfl⟩)
  ·repeat' (first|refine Jj ?_|refine w5 ?_ ?_|((refine bh fun h=>?_) <;> try exact w6 h)|(refine aE fun hA=>?_;subst hA)|intro _)
   refine fZ (fun n a' C'=>∃(j:Nat) (w:Zk),j+n=2∧(j=0∧w=aS (MN 1) (aS (MN 0) z)∨j=1∧w=aS (acD 0) (aS (MN 1) (aS (MN 0) z))∨j=2∧w=GV z)∧Jx cf0 cf1 w.2 w.1∧cJ a' [(1,PO r1),(3,PO r3),(4,.func (.func 230) #[] #[PO r3,PO r1]),(22,I6 j)]∧C'=Ue r3 w.2::pt r1 [PO d] 86::pt d [PO A.x0,PO A.x1,PO A.p0,PO A.p1,.bool w.1.b0,.bool w.1.b1] 196::kZ A.p0 w.1.l0::kZ A.p1 w.1.l1::mU A.x0 A.a0 w.1.c0::mU A.x1 A.a1 w.1.c1::R) 2 (bV 2 ⟨0,_,rfl,.inl ⟨rfl,rfl⟩,hGw,⟨rfl,rfl,rfl,rfl,trivial⟩,rfl⟩ (by omega)) ?_
   rintro n a' C' ⟨j,w,hj,hw,hGw,ha,rfl⟩
   refine fP _ ha ?_
   simp only[eP]
   rcases hw with⟨rfl,rfl⟩|⟨rfl,rfl⟩|⟨rfl,rfl⟩
   ·repeat' (first|refine Jj ?_|refine w5 ?_ ?_|((refine bh fun h=>?_) <;> try exact w6 h)|(refine aE fun hA=>?_;subst hA)|intro _|(show aA _ 230 _ _ _;refine CA (h:=k9 (d:=d) (A:=A) (r1:=r1) (r3:=r3) (z:=aS (MN 1) (aS (MN 0) z)) (a:=acD 0) hGw (by show z.2+1+1<100;omega) (Nat.zero_le _) (fun hg1=>?_));dsimp only[kS,m9]))
    all_goals(show aT _ _ _ _;exact bV (n - 1) ⟨1,_,by omega,.inr (.inl ⟨rfl,rfl⟩),hg1,⟨rfl,rfl,rfl,rfl,trivial⟩,rfl⟩)
   ·repeat' (first|refine Jj ?_|refine w5 ?_ ?_|((refine bh fun h=>?_) <;> try exact w6 h)|(refine aE fun hA=>?_;subst hA)|intro _|(show aA _ 230 _ _ _;refine CA (h:=k9 (d:=d) (A:=A) (r1:=r1) (r3:=r3) (z:=aS (acD 0) (aS (MN 1) (aS (MN 0) z))) (a:=acD 1) hGw (by show z.2+1+1+1<100;omega) (Nat.zero_le _) (fun hg1=>?_));dsimp only[kS,m9]))
    all_goals(show aT _ _ _ _;exact bV (n - 1) ⟨2,_,by omega,.inr (.inr ⟨rfl,rfl⟩),hg1,⟨rfl,rfl,rfl,rfl,trivial⟩,rfl⟩)
   ·repeat' (first|refine Jj ?_|refine w5 ?_ ?_|((refine bh fun h=>?_) <;> try exact w6 h)|(refine aE fun hA=>?_;subst hA)|intro _)
    refine fZ (fun n a' C'=>∃(j:Nat) (w:Zk),j+n=2∧(j=0∧w=GV z∨j=1∧w=y0∨j=2∧w=y)∧Jx cf0 cf1 w.2 w.1∧cJ a' [(1,PO r1),(3,PO r3),(4,.func (.func 230) #[] #[PO r3,PO r1]),(30,I6 j)]∧C'=Ue r3 w.2::pt r1 [PO d] 86::pt d [PO A.x0,PO A.x1,PO A.p0,PO A.p1,.bool w.1.b0,.bool w.1.b1] 196::kZ A.p0 w.1.l0::kZ A.p1 w.1.l1::mU A.x0 A.a0 w.1.c0::mU A.x1 A.a1 w.1.c1::R) 2 (bV 2 ⟨0,_,rfl,.inl ⟨rfl,rfl⟩,hGw,⟨rfl,rfl,rfl,rfl,trivial⟩,rfl⟩ (by omega)) ?_
    rintro n a' C' ⟨j,w,hj,hw,hGw2,ha,rfl⟩
    refine fP _ ha ?_
    simp only[eP]
    rcases hw with⟨rfl,rfl⟩|⟨rfl,rfl⟩|⟨rfl,rfl⟩
    ·repeat' (first|refine Jj ?_|refine w5 ?_ ?_|((refine bh fun h=>?_) <;> try exact w6 h)|(refine aE fun hA=>?_;subst hA)|intro _|(show aA _ 34 _ _ _;refine CA (h:=i3 (sd:=0) (d:=d) (A:=A) (z:=(GV z).1) (.inl rfl) ?_);dsimp only[kS];simp only[Int.reduceEq,if_true,if_false])|(show aA _ 18 _ _ _;refine CA (h:=GR (x:=A.x0) (ad:=A.a0) (c:=(GV z).1.c0) hGw2.c0 (fun rowA rowC=>?_))))
     obtain⟨Bq,hGq,_⟩:=id hGw2.c0
     have h64:=hGq.I.sm.1
     have hln:((GV z).1.c0.l.map Sm.id).length=(GV z).1.c0.l.length:=List.length_map ..
     generalize hids:(GV z).1.c0.l.map Sm.id=ids at hr0 hln ⊢
     have h65:ids.length≤64:=by omega
     refine fZ (fun n2 a' C'=>∃(i:Nat) (v:Zk),i+n2=ids.length∧wU 0 (ids.drop i) v=some y0∧Jx cf0 cf1 v.2 v.1∧cJ a' [(1,PO r1),(3,PO r3),(4,.func (.func 230) #[] #[PO r3,PO r1]),(7,I6 0),(30,I6 0),(36,.slice rowA ids.length rowC),(37,I6 ids.length),(38,I6 i)]∧C'=bQ rowA rowC 3 jI ids::Ue r3 v.2::pt r1 [PO d] 86::pt d [PO A.x0,PO A.x1,PO A.p0,PO A.p1,.bool v.1.b0,.bool v.1.b1] 196::kZ A.p0 v.1.l0::kZ A.p1 v.1.l1::mU A.x0 A.a0 v.1.c0::mU A.x1 A.a1 v.1.c1::R) ids.length (bV ids.length ⟨0,_,by omega,hr0,hGw2,⟨rfl,rfl,rfl,rfl,rfl,rfl,rfl,rfl,trivial⟩,rfl⟩ (by omega)) ?_
     rintro n2 a' C' ⟨i,v,hi,hv,hGv,ha,rfl⟩
     refine fP _ ha ?_
     simp only[eP]
     by_cases hlt:i<ids.length
     ·obtain⟨q,hq,hd⟩:=i7 (l:=ids) (j:=i) hlt
      rw[hd] at hv
      unfold wU at hv
      cases ho:IV 0 q v with
      |none=>rw[ho] at hv;cases hv
      |some u=>
       rw[ho] at hv
       have hv:wU 0 (ids.drop (i+1)) u=some y0:=hv
       have hul:=wW hv
       repeat' (first|refine Jj ?_|refine w5 ?_ ?_|((refine bh fun h=>?_) <;> try exact w6 h)|(refine aE fun hA=>?_;subst hA)|intro _|(show aA _ 231 _ _ _;refine CA (h:=O8 (side:=0) (d:=d) (A:=A) (r1:=r1) (r3:=r3) (z:=v) (y:=u) (.inl rfl) hGv ho (by omega) (fun hg1=>?_));dsimp only[kS]))
       all_goals(show aT _ _ _ _;exact bV (n2 - 1) ⟨i+1,u,by omega,hv,hg1,⟨rfl,rfl,rfl,rfl,rfl,rfl,rfl,rfl,trivial⟩,rfl⟩)
     ·have hv:v=y0:=by
       rw[List.drop_of_length_le (by omega)] at hv
       exact Option.some.inj hv
      subst hv
      repeat' (first|refine Jj ?_|refine w5 ?_ ?_|((refine bh fun h=>?_) <;> try exact w6 h)|(refine aE fun hA=>?_;subst hA)|intro _)
      all_goals(show aT _ _ _ _;exact bV (n - 1) ⟨1,_,by omega,.inr (.inl ⟨rfl,rfl⟩),hGv,⟨rfl,rfl,rfl,rfl,trivial⟩,rfl⟩)
    ·repeat' (first|refine Jj ?_|refine w5 ?_ ?_|((refine bh fun h=>?_) <;> try exact w6 h)|(refine aE fun hA=>?_;subst hA)|intro _|(show aA _ 34 _ _ _;refine CA (h:=i3 (sd:=1) (d:=d) (A:=A) (z:=w.1) (.inr rfl) ?_);dsimp only[kS];simp only[Int.reduceEq,if_true,if_false])|(show aA _ 18 _ _ _;refine CA (h:=GR (x:=A.x1) (ad:=A.a1) (c:=w.1.c1) hGw2.c1 (fun rowA rowC=>?_))))
     obtain⟨Bq,hGq,_⟩:=id hGw2.c1
     have h64:=hGq.I.sm.1
     have hln:(w.1.c1.l.map Sm.id).length=w.1.c1.l.length:=List.length_map ..
     generalize hids:w.1.c1.l.map Sm.id=ids at hr hln ⊢
     have h65:ids.length≤64:=by omega
     refine fZ (fun n2 a' C'=>∃(i:Nat) (v:Zk),i+n2=ids.length∧wU 1 (ids.drop i) v=some y∧Jx cf0 cf1 v.2 v.1∧cJ a' [(1,PO r1),(3,PO r3),(4,.func (.func 230) #[] #[PO r3,PO r1]),(7,I6 1),(30,I6 1),(36,.slice rowA ids.length rowC),(37,I6 ids.length),(38,I6 i)]∧C'=bQ rowA rowC 3 jI ids::Ue r3 v.2::pt r1 [PO d] 86::pt d [PO A.x0,PO A.x1,PO A.p0,PO A.p1,.bool v.1.b0,.bool v.1.b1] 196::kZ A.p0 v.1.l0::kZ A.p1 v.1.l1::mU A.x0 A.a0 v.1.c0::mU A.x1 A.a1 v.1.c1::R) ids.length (bV ids.length ⟨0,_,by omega,hr,hGw2,⟨rfl,rfl,rfl,rfl,rfl,rfl,rfl,rfl,trivial⟩,rfl⟩ (by omega)) ?_
     rintro n2 a' C' ⟨i,v,hi,hv,hGv,ha,rfl⟩
     refine fP _ ha ?_
     simp only[eP]
     by_cases hlt:i<ids.length
     ·obtain⟨q,hq,hd⟩:=i7 (l:=ids) (j:=i) hlt
      rw[hd] at hv
      unfold wU at hv
      cases ho:IV 1 q v with
      |none=>rw[ho] at hv;cases hv
      |some u=>
       rw[ho] at hv
       have hv:wU 1 (ids.drop (i+1)) u=some y:=hv
       have hul:=wW hv
       repeat' (first|refine Jj ?_|refine w5 ?_ ?_|((refine bh fun h=>?_) <;> try exact w6 h)|(refine aE fun hA=>?_;subst hA)|intro _|(show aA _ 231 _ _ _;refine CA (h:=O8 (side:=1) (d:=d) (A:=A) (r1:=r1) (r3:=r3) (z:=v) (y:=u) (.inr rfl) hGv ho (by omega) (fun hg1=>?_));dsimp only[kS]))
       all_goals(show aT _ _ _ _;exact bV (n2 - 1) ⟨i+1,u,by omega,hv,hg1,⟨rfl,rfl,rfl,rfl,rfl,rfl,rfl,rfl,trivial⟩,rfl⟩)
     ·have hv:v=y:=by
       rw[List.drop_of_length_le (by omega)] at hv
       exact Option.some.inj hv
      subst hv
      repeat' (first|refine Jj ?_|refine w5 ?_ ?_|((refine bh fun h=>?_) <;> try exact w6 h)|(refine aE fun hA=>?_;subst hA)|intro _)
      all_goals(show aT _ _ _ _;exact bV (n - 1) ⟨2,_,by omega,.inr (.inr ⟨rfl,rfl⟩),hGv,⟨rfl,rfl,rfl,rfl,trivial⟩,rfl⟩)
    ·refine qA fun _=>qA fun _=>qA fun _=>EC (l7 (aG.cons aG.unsep) ?_)
     repeat' (first|refine Jj ?_|refine w5 ?_ ?_|((refine bh fun h=>?_) <;> try exact w6 h)|(refine aE fun hA=>?_;subst hA)|intro _)
     all_goals(refine aC ?_;exact aB (hK _ hGw2))
end
section
variable {R C:List HP} {K:KP} {x d:Nat} {ad:Ca} {A:Dd} {c:Cn} {P:Int} {cf f0 f1:Cf} {m:Sm} {l:List Sm} {z:Du}
theorem Ab3 {g:Sm→Nat} {Z:Nat}:∀ {l:List Sm},(∀m∈l,g m≤Z)→E7 g l≤l.length * Z
 | [],_=>Nat.le_of_eq (Nat.zero_mul Z).symm
 |m::l,h=>by
  have h1:=h m (List.mem_cons_self ..)
  have h2:=Ab3 (l:=l) fun z hz=>h z (List.mem_cons_of_mem _ hz)
  show g m+E7 g l≤(l.length+1) * Z
  rw[Nat.add_mul,Nat.one_mul]
  omega
theorem Ai7 (hk:fV cf c) (hF:∀m∈c.l,NL m) (hm:m∈c.l):(Ji m:Int)≤max cf.sb (cf.si * 256)+max c.sh.g.w (c.sh.g.it * 256):=by
 obtain⟨h1,h2,h3,h4⟩:=hk.mo m hm
 obtain⟨f1,f2,f3⟩:=hF m hm
 obtain⟨id,own,sta,x,y⟩:=m
 cases x with
 |b x=>
  cases y with
  |i y=>exact absurd h3 (by show ¬(1:Int)=2;decide)
  |b y=>
   obtain⟨t1,t2,t3,t4,t5,t6,t7⟩:=f1
   obtain⟨r1,r2,r3,r4,r5,r6,r7,r8,r9⟩:=f2
   have h1:y.most≤c.sh.g.w:=h1
   have h2:(x.cap:Int)≤cf.sb:=h2
   show((x.bs.length+y.bs.length:Nat):Int)≤_
   omega
 |i x=>
  cases y with
  |b y=>exact absurd h3 (by show ¬(2:Int)=1;decide)
  |i y=>
   obtain⟨t1,t2,t3,t4,t5,t6,t7,t8,t9⟩:=f1
   obtain⟨r1,r2,r3,r4,r5,r6,r7,r8,r9,r10⟩:=f2
   have h1:y.mr≤c.sh.g.it:=h1
   have h2:(x.cap:Int)≤cf.si:=h2
   show(((x.l.length+y.l.length) * 256:Nat):Int)≤_
   omega
theorem Akq (hP:zU cf P c):(0≤c.sh.g.w∧c.sh.g.w≤4096)∧(0≤c.sh.g.st∧c.sh.g.st≤32)∧0≤c.sh.g.it∧c.sh.g.it≤64:=by
 obtain⟨B,hG,_⟩:=hP
 have h:=hG.I.sh.2.2.1
 unfold u3 rY at h
 simp only[Bool.and_eq_true,decide_eq_true_eq] at h
 omega
theorem HZ (hP:zU cf P c) (hf:Fu cf) (hF:∀m∈c.l,NL m):((UA c.l:Nat):Int)+265 * (c.out.length:Nat)≤Pe cf.sb cf.si c.sh.g.w c.sh.g.st c.sh.g.it∧UA c.l≤1000000000:=by
 obtain⟨g1,g2,g3⟩:=Akq hP
 obtain⟨q1,q2,q3,q4⟩:=hf
 obtain⟨B,hG,_⟩:=hP
 have hZ:0≤max cf.sb (cf.si * 256)+max c.sh.g.w (c.sh.g.it * 256)∧max cf.sb (cf.si * 256)+max c.sh.g.w (c.sh.g.it * 256)≤40960:=by omega
 unfold Pe
 generalize hz:max cf.sb (cf.si * 256)+max c.sh.g.w (c.sh.g.it * 256)=Z at hZ
 have h1:=Ab3 (g:=Ji) (Z:=Z.toNat) fun m hm=>by
  have:=Ai7 hG.K hF hm
  omega
 have hln:(c.l.length:Int)=(fO c true:Nat)+(fO c false:Nat):=by
  have:c.l.length=fO c true+fO c false:=Gy c.l
  omega
 have ho:=hG.I.own true
 have hn:=hG.K.nf
 have hou:=hG.I.ou.1
 have h64:=hG.I.sm.1
 have h2:c.l.length * Z.toNat≤(32+c.sh.g.st).toNat * Z.toNat:=Nat.mul_le_mul_right _ (by omega)
 have h3:(((32+c.sh.g.st).toNat * Z.toNat:Nat):Int)=(32+c.sh.g.st) * Z:=by
  rw[Int.natCast_mul,Int.toNat_of_nonneg (by omega),Int.toNat_of_nonneg hZ.1]
 have h4:max c.sh.g.st 0=c.sh.g.st:=by omega
 have h5:E7 Ji c.l=UA c.l:=rfl
 have h6:c.l.length * Z.toNat≤64 * 40960:=Nat.mul_le_mul h64 (by omega)
 rw[h4,← h3]
 omega
theorem Abi (hP:zU cf P c) (hf:Fu cf) (hK:((UA c.l:Nat):Int)+265 * (c.out.length:Nat)≤Pe cf.sb cf.si c.sh.g.w c.sh.g.st c.sh.g.it→UA c.l≤1000000000→K (.tuple #[I6 ((UA c.l:Nat)+265 * (c.out.length:Nat)),I6 (YG c.l:Nat)]) (mU x ad c::R)):CT 37 #[PO x] (mU x ad c::R) K:=
 WH fun hF=>Wa hP (HZ hP hf hF).2 (hK (HZ hP hf hF).1 (HZ hP hf hF).2)
def daI:AC:=⟨1,0,0,2,0,⟨#[]⟩,0,1,false,0,0,0⟩
def zb1:Zk:=aS daI (dz0,0)
def zb2:Zk:=aS da2 zb1
def Ais:Bool:=match Pg 12 zb2 with
 |none=>false
 |some y=>decide (y.2≤100) && decide (YG y.1.c0.l=0) && decide (UA y.1.c0.l+265 * y.1.c0.out.length<265)
theorem X5:Ais=true:=by decide +kernel
theorem Alw:YG zb2.1.c0.l=1∧YG zb2.1.c1.l=0:=by decide +kernel
theorem Yl (hK:K (.agg #[I6 64,I6 8,I6 4,I6 100,I6 5,I6 0,I6 0,I6 0,I6 0]) R):CT 132 #[] R K:=by
 refine aH Tryz.func132 ?_
 repeat' (first|refine v5 ?_|refine w5 ?_ ?_|((refine bh fun h=>?_) <;> try exact w6 h)|(refine aE fun hA=>?_;subst hA)|intro _)
 all_goals(refine aC ?_;exact aB (hK))
theorem VO {P0 P1:Int} (h0:zU f0 P0 z.c0) (h1:zU f1 P1 z.c1) (hw:YG z.c0.l≤1000000∧YG z.c1.l≤1000000) (hK:K (I6 (2 * ((YG z.c0.l:Nat)+(YG z.c1.l:Nat))+10)) (kS d A z R)):CT 133 #[PO d] (kS d A z R) K:=by
 dsimp only[kS] at hK ⊢
 refine aH Tryz.func133 ?_
 repeat' (first|refine v12 ?_|refine w5 ?_ ?_|((refine bh fun h=>?_) <;> try exact w6 h)|(refine aE fun hA=>?_;subst hA)|intro _|(show aA _ 34 _ _ _;first|refine CA (h:=i3 (d:=d) (A:=A) (z:=z) (.inl rfl) ?_)|refine CA (h:=i3 (d:=d) (A:=A) (z:=z) (.inr rfl) ?_);dsimp only[kS];simp only[Int.reduceEq,if_true,if_false])|(show aA _ 39 _ _ _;first|refine CA (h:=xD (x:=A.x0) (ad:=A.a0) h0 ?_)|refine CA (h:=xD (x:=A.x1) (ad:=A.a1) h1 ?_)))
 all_goals(refine aC ?_;exact aB (hK))
theorem Pz (hK:K (.bool true) R):CT 36 #[] R K:=by
 have hG:=OU Gz Gz
 have hch:=X5
 unfold Ais at hch
 cases hr:Pg 12 zb2 with
 |none=>rw[hr] at hch;cases hch
 |some y=>
  rw[hr] at hch
  have hch:(decide (y.2≤100) && decide (YG y.1.c0.l=0) && decide (UA y.1.c0.l+265 * y.1.c0.out.length<265))=true:=hch
  simp only[Bool.and_eq_true,decide_eq_true_eq] at hch
  obtain⟨⟨hy,hy0⟩,hyh⟩:=hch
  have hyh2:((UA y.1.c0.l:Nat):Int)+265 * (y.1.c0.out.length:Nat)<265:=by omega
  obtain⟨hz0,hz1⟩:=Alw
  have k1:∀v:Bool,v=true→K (.bool v) R:=fun v hv=>hv▸hK
  refine aH Tryz.func36 ?_
  repeat' (first|refine v42 ?_|refine w5 ?_ ?_|((refine bh fun h=>?_) <;> try exact w6 h)|(refine aE fun hA=>?_;subst hA)|intro _|(show aA _ 132 _ _ _;refine CA (h:=Yl ?_))|(show aA _ 29 _ _ _;refine CA (h:=Q2 Gz Gz (fun d A=>?_));dsimp only[kS])|(show aA _ 33 _ _ _;first|(refine CA (h:=GO (A:=A) (a:=daI) (z:=dz0) (k:=0) hG (by decide) (by decide) (fun hG1=>?_));dsimp only[m9,kS])|(refine CA (h:=GO (A:=A) (a:=da2) (z:=zb1.1) (k:=1) hG1 (by decide) (by decide) (fun hG2=>?_));dsimp only[m9,kS]))|(show aA _ 133 _ _ _;refine CA (h:=VO (d:=d) (A:=A) (z:=zb2.1) hG2.c0 hG2.c1 (by omega) ?_);dsimp only[kS];rw[hz0,hz1])|(show aA _ 34 _ _ _;refine CA (h:=i3 (d:=d) (A:=A) (z:=zb2.1) (.inl rfl) ?_);dsimp only[kS];simp only[Int.reduceEq,if_true,if_false])|(show aA _ 39 _ _ _;refine CA (h:=xD (x:=A.x0) (ad:=A.a0) (c:=zb2.1.c0) hG2.c0 ?_);rw[hz0]))
  have hG2':Jx TS TS zb2.2 zb2.1:=hG2
  refine fZ (fun n a' C'=>∃(j:Nat) (v:Zk),j+n=12∧Pg j zb2=some v∧Jx TS TS v.2 v.1∧cJ a' [(1,PO d),(3,I6 12),(4,I6 1),(5,I6 j)]∧C'=pt d [PO A.x0,PO A.x1,PO A.p0,PO A.p1,.bool v.1.b0,.bool v.1.b1] 196::kZ A.p0 v.1.l0::kZ A.p1 v.1.l1::mU A.x0 A.a0 v.1.c0::mU A.x1 A.a1 v.1.c1::R) 12 (bV 12 ⟨0,zb2,rfl,rfl,hG2',⟨rfl,rfl,rfl,rfl,trivial⟩,rfl⟩ (by omega)) ?_
  rintro n a' C' ⟨j,v,hj,hv,hGv,ha,rfl⟩
  refine fP _ ha ?_
  simp only[eP]
  by_cases hlt:j<12
  ·obtain⟨v2,hv2,hle⟩:=U5 (j:=j+1) hlt hr
   have hn:rnd v=some v2:=by
    have:=hv2
    unfold Pg at this
    rw[hv] at this
    exact this
   repeat' (first|refine v42 ?_|refine w5 ?_ ?_|((refine bh fun h=>?_) <;> try exact w6 h)|(refine aE fun hA=>?_;subst hA)|intro _|(show aA _ 134 _ _ _;refine CA (h:=Y4 (d:=d) (A:=A) (z:=v) (y:=v2) hGv hn (by omega) (fun _ hG3=>?_));dsimp only[kS]))
   all_goals(show aT _ _ _ _;exact bV (n - 1) ⟨j+1,v2,by omega,hv2,hG3,⟨rfl,rfl,rfl,rfl,trivial⟩,rfl⟩)
  ·obtain rfl:j=12:=by omega
   obtain rfl:v=y:=by rw[hr] at hv;exact(Option.some.inj hv).symm
   repeat' (first|refine v42 ?_|refine w5 ?_ ?_|((refine bh fun h=>?_) <;> try exact w6 h)|(refine aE fun hA=>?_;subst hA)|intro _|(show aA _ 34 _ _ _;refine CA (h:=i3 (d:=d) (A:=A) (z:=v.1) (.inl rfl) ?_);dsimp only[kS];simp only[Int.reduceEq,if_true,if_false])|(show aA _ 39 _ _ _;refine CA (h:=xD (x:=A.x0) (ad:=A.a0) hGv.c0 ?_);rw[hy0])|(show aA _ 40 _ _ _;refine CA (h:=Mk (by decide) (by decide) (by decide) (by decide) (by decide) ?_))|(show aA _ 38 _ _ _;refine CA (h:=FC (x:=A.x0) (ad:=A.a0) hGv.c0 (by omega) ?_)))
   all_goals(refine aC ?_;exact aB (k1 _ (by first|exact decide_eq_true hyh2|rfl)))
def dN:Tr:=(.br (.st 0 1 (.st 1 2 (.br (.st 2 2 (.st 3 2 (.st 5 3 (.st 4 1 (.st 6 1 .nil))))) (.st 5 3 (.st 2 2 (.st 3 2 (.st 4 1 (.st 6 1 .nil)))))))) (.st 5 3 (.st 0 1 (.st 1 2 (.st 2 2 (.st 3 2 (.st 4 1 (.st 6 1 .nil))))))))
def dE:List Nat:= [0,1,0,7,15,31,63,31,255,511,1023,2047,2047,6143,14335,2047,34815,100351,260095,524287,1048575]
def dF:List Nat:= [1048575,524287,260095,100351,34815,2047,14335,6143,2047,2047,1023,511,255,31,63,31,15,7,0,1,0]
def dG:List (Nat×Nat):= [(0,0),(1,1),(2,1),(3,0),(4,0),(5,0),(6,1),(7,1),(8,0),(9,0),(10,0),(15,0),(16,1),(17,1),(12,2),(13,2),(14,2),(18,1),(11,3),(19,0),(20,0)]
theorem JM {A1:Option Addr} {c1:Nat} {ls:List AC} {w0 st0 it0 sb0 si0 sg0 ev0 wa0 stl0 w1 st1 it1 sb1 si1 sg1 ev1 wa1 stl1:Int} (hv:dT R A1 Ce ls) (hz1:ls.length<1000000000000000) (hK:K (.bool true) R):CT 6 #[.agg #[I6 w0,I6 st0,I6 it0,I6 sb0,I6 si0,I6 sg0,I6 ev0,I6 wa0,I6 stl0],.agg #[I6 w1,I6 st1,I6 it1,I6 sb1,I6 si1,I6 sg1,I6 ev1,I6 wa1,I6 stl1],.slice A1 ls.length c1] R K:=by
 have hf0:Fu (cfL w0 it0 sb0 si0 sg0 ev0 wa0 stl0):=Y2
 have hf1:Fu (cfL w1 it1 sb1 si1 sg1 ev1 wa1 stl1):=Y2
 have hc0:∀ {R:List HP} {K:KP},(∀f,cfL w0 it0 sb0 si0 sg0 ev0 wa0 stl0=f→K (.agg #[I6 f.w,I6 f.st,I6 f.it,I6 f.sb,I6 f.si,I6 f.sg,I6 f.ev,I6 f.wa,I6 f.sl]) R)→CT 22 #[.agg #[I6 w0,I6 st0,I6 it0,I6 sb0,I6 si0,I6 sg0,I6 ev0,I6 wa0,I6 stl0]] R K:=fun h=>ID (h _ rfl)
 have hc1:∀ {R:List HP} {K:KP},(∀f,cfL w1 it1 sb1 si1 sg1 ev1 wa1 stl1=f→K (.agg #[I6 f.w,I6 f.st,I6 f.it,I6 f.sb,I6 f.si,I6 f.sg,I6 f.ev,I6 f.wa,I6 f.sl]) R)→CT 22 #[.agg #[I6 w1,I6 st1,I6 it1,I6 sb1,I6 si1,I6 sg1,I6 ev1,I6 wa1,I6 stl1]] R K:=fun h=>ID (h _ rfl)
 generalize cfL w0 it0 sb0 si0 sg0 ev0 wa0 stl0=f0 at hf0 hc0
 generalize cfL w1 it1 sb1 si1 sg1 ev1 wa1 stl1=f1 at hf1 hc1
 have hG0:=OU hf0 hf1
 refine aH Tryz.func6 ?_
 repeat' (first|refine Jq ?_|refine JD dN ?_|refine Gp dE dF dG ?_|refine w5 ?_ ?_|((refine bh fun h=>?_) <;> try exact w6 h)|(refine aE fun hA=>?_;subst hA)|intro _|(show aA _ 22 _ _ _;first|(refine CA (h:=hc0 (fun f9 hf9=>?_));subst hf9)|(refine CA (h:=hc1 (fun f9 hf9=>?_));subst hf9))|(show aA _ 29 _ _ _;refine CA (h:=Q2 (cf0:=f0) (cf1:=f1) hf0 hf1 (fun d A=>?_));dsimp only[kS])|(show aA _ 36 _ _ _;refine CA (h:=Pz ?_)))
 all_goals
  rename_i r7
  refine fZ (fun m a C'=>∃(j:Nat) (z:Du),j+m=ls.length∧j≤100∧(∃k:Int,k≤j∧Jx f0 f1 k z)∧cJ a [(2,.slice A1 ls.length c1),(6,.bool false),(7,PO r7),(8,PO d),(10,I6 j)]∧C'=pt r7 [I6 f0.w,I6 f0.st,I6 f0.it,I6 f0.sb,I6 f0.si,I6 f0.sg,I6 f0.ev,I6 f0.wa,I6 f0.sl,I6 f1.w,I6 f1.st,I6 f1.it,I6 f1.sb,I6 f1.si,I6 f1.sg,I6 f1.ev,I6 f1.wa,I6 f1.sl] 99::pt d [PO A.x0,PO A.x1,PO A.p0,PO A.p1,.bool z.b0,.bool z.b1] 196::kZ A.p0 z.l0::kZ A.p1 z.l1::mU A.x0 A.a0 z.c0::mU A.x1 A.a1 z.c1::R) ls.length (bV ls.length ⟨0,_,by omega,by omega,⟨0,by omega,hG0⟩,⟨rfl,rfl,rfl,rfl,rfl,trivial⟩,rfl⟩ (by omega)) ?_
  rintro m a C' ⟨j,z,hj,hj1,⟨k,hk,hG⟩,ha,rfl⟩
  refine fP _ ha ?_
  simp only[eP]
  by_cases hlt:j<ls.length
  ·obtain⟨q,hq⟩:∃q,ls[j]?=some q:=⟨_,List.getElem?_eq_getElem hlt⟩
   by_cases h100:j<100
   ·by_cases hl:(q.s.size:Int)<600
    ·have hd:q.s.size≤599:=by omega
     repeat' (first|refine Jq ?_|refine JD dN ?_|refine Gp dE dF dG ?_|refine w5 ?_ ?_|((refine bh fun h=>?_) <;> try exact w6 h)|(refine aE fun hA=>?_;subst hA)|intro _|(show aA _ 32 _ _ _;refine CA (h:=IE ?_))|(show aA _ 33 _ _ _;refine CA (h:=GO (d:=d) (A:=A) (a:=q) (z:=z) (k:=k) hG (by omega) hd (fun hG2=>?_));dsimp only[m9,kS]))
     all_goals generalize duS q z=z2 at hG2 ⊢
     refine fZ (fun m2 a C'=>∃(i:Nat),i+m2=2∧cJ a [(2,.slice _ ls.length c1),(6,.bool false),(7,PO r7),(8,PO d),(10,I6 j),(11,I6 i)]∧C'=pt r7 [I6 f0.w,I6 f0.st,I6 f0.it,I6 f0.sb,I6 f0.si,I6 f0.sg,I6 f0.ev,I6 f0.wa,I6 f0.sl,I6 f1.w,I6 f1.st,I6 f1.it,I6 f1.sb,I6 f1.si,I6 f1.sg,I6 f1.ev,I6 f1.wa,I6 f1.sl] 99::pt d [PO A.x0,PO A.x1,PO A.p0,PO A.p1,.bool z2.b0,.bool z2.b1] 196::kZ A.p0 z2.l0::kZ A.p1 z2.l1::mU A.x0 A.a0 z2.c0::mU A.x1 A.a1 z2.c1::R) 2 (bV 2 ⟨0,rfl,⟨rfl,rfl,rfl,rfl,rfl,rfl,trivial⟩,rfl⟩ (by omega)) ?_
     rintro m2 a C' ⟨i,hi,ha,rfl⟩
     refine fP _ ha ?_
     simp only[eP]
     have hi3:i=0∨i=1∨i=2:=by omega
     rcases hi3 with rfl|rfl|rfl
     ·obtain⟨g1,g2,g3⟩:=Akq hG2.c0
      obtain⟨q1,q2,q3,q4⟩:=id hf0
      repeat' (first|refine Jq ?_|refine JD dN ?_|refine Gp dE dF dG ?_|refine w5 ?_ ?_|((refine bh fun h=>?_) <;> try exact w6 h)|(refine aE fun hA=>?_;subst hA)|intro _|(show aA _ 34 _ _ _;refine CA (h:=i3 (sd:=0) (d:=d) (A:=A) (z:=z2) (.inl rfl) ?_);dsimp only[kS];simp only[Int.reduceEq,if_true,if_false])|(show aA _ 37 _ _ _;refine CA (h:=Abi (x:=A.x0) (ad:=A.a0) (c:=z2.c0) hG2.c0 hf0 (fun hb1 hb2=>?_)))|(show aA _ 38 _ _ _;refine CA (h:=FC (x:=A.x0) (ad:=A.a0) (c:=z2.c0) hG2.c0 hb2 ?_))|(show aA _ 39 _ _ _;refine CA (h:=xD (x:=A.x0) (ad:=A.a0) (c:=z2.c0) hG2.c0 ?_))|(show aA _ 41 _ _ _;refine CA (h:=Abq (x:=A.x0) (ad:=A.a0) (c:=z2.c0) ?_))|(show aA _ 42 _ _ _;refine CA (h:=Og (ad:=A.a0) A.x0 z2.c0 ?_))|(show aA _ 40 _ _ _;refine CA (h:=Mk (by omega) (by omega) (by omega) (by omega) (by omega) ?_)))
      all_goals(show aT _ _ _ _;exact bV (m2 - 1) ⟨1,by omega,⟨rfl,rfl,rfl,rfl,rfl,rfl,trivial⟩,rfl⟩)
     ·obtain⟨g1,g2,g3⟩:=Akq hG2.c1
      obtain⟨q1,q2,q3,q4⟩:=id hf1
      repeat' (first|refine Jq ?_|refine JD dN ?_|refine Gp dE dF dG ?_|refine w5 ?_ ?_|((refine bh fun h=>?_) <;> try exact w6 h)|(refine aE fun hA=>?_;subst hA)|intro _|(show aA _ 34 _ _ _;refine CA (h:=i3 (sd:=1) (d:=d) (A:=A) (z:=z2) (.inr rfl) ?_);dsimp only[kS];simp only[Int.reduceEq,if_true,if_false])|(show aA _ 37 _ _ _;refine CA (h:=Abi (x:=A.x1) (ad:=A.a1) (c:=z2.c1) hG2.c1 hf1 (fun hb1 hb2=>?_)))|(show aA _ 38 _ _ _;refine CA (h:=FC (x:=A.x1) (ad:=A.a1) (c:=z2.c1) hG2.c1 hb2 ?_))|(show aA _ 39 _ _ _;refine CA (h:=xD (x:=A.x1) (ad:=A.a1) (c:=z2.c1) hG2.c1 ?_))|(show aA _ 41 _ _ _;refine CA (h:=Abq (x:=A.x1) (ad:=A.a1) (c:=z2.c1) ?_))|(show aA _ 42 _ _ _;refine CA (h:=Og (ad:=A.a1) A.x1 z2.c1 ?_))|(show aA _ 40 _ _ _;refine CA (h:=Mk (by omega) (by omega) (by omega) (by omega) (by omega) ?_)))
      all_goals(show aT _ _ _ _;exact bV (m2 - 1) ⟨2,by omega,⟨rfl,rfl,rfl,rfl,rfl,rfl,trivial⟩,rfl⟩)
     ·repeat' (first|refine Jq ?_|refine JD dN ?_|refine Gp dE dF dG ?_|refine w5 ?_ ?_|((refine bh fun h=>?_) <;> try exact w6 h)|(refine aE fun hA=>?_;subst hA)|intro _)
      all_goals(show aT _ _ _ _;exact bV (m - 1) ⟨j+1,z2,by omega,by omega,⟨k+1,by omega,hG2⟩,⟨rfl,rfl,rfl,rfl,rfl,trivial⟩,rfl⟩)
    ·repeat' (first|refine Jq ?_|refine JD dN ?_|refine Gp dE dF dG ?_|refine w5 ?_ ?_|((refine bh fun h=>?_) <;> try exact w6 h)|(refine aE fun hA=>?_;subst hA)|intro _|(show aA _ 32 _ _ _;refine CA (h:=IE ?_)))
     all_goals(show aT _ _ _ _;exact bV (m - 1) ⟨j+1,z,by omega,by omega,⟨k,by omega,hG⟩,⟨rfl,rfl,rfl,rfl,rfl,trivial⟩,rfl⟩)
   ·repeat' (first|refine Jq ?_|refine JD dN ?_|refine Gp dE dF dG ?_|refine w5 ?_ ?_|((refine bh fun h=>?_) <;> try exact w6 h)|(refine aE fun hA=>?_;subst hA)|intro _)
    all_goals(refine aC ?_;exact aB (hK))
  ·repeat' (first|refine Jq ?_|refine JD dN ?_|refine Gp dE dF dG ?_|refine w5 ?_ ?_|((refine bh fun h=>?_) <;> try exact w6 h)|(refine aE fun hA=>?_;subst hA)|intro _)
   all_goals(refine aC ?_;exact aB (hK))
end
end Go.Proofs.YtifgibijcmppmaaGreat
