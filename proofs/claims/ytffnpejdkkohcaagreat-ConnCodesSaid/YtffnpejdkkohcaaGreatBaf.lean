/- A part of the proof: lemmas; each with the conditions that it states. -/
import Derived.Test.YtffnpejdkkohcaaGreatBae
set_option linter.unusedVariables false
set_option linter.unusedSimpArgs false
section
namespace Go.Sl
variable {α:Type} {j k c B off c0 n sz:Nat} {vs:List Value} {P:Program} {ops:Array Oper} {Q:Fr->List HP->Prop} {a:Fr} {C R:List HP} {gd:Bool} {es:ET} {hist:List (List HP)} {ty t e:TypeId} {pos:String} {after:Array Edge} {g:Option (Nat×Bool)} {x z:Operand} {u:Value}
theorem Uv:∀(vs mid post:List Value),vs.length<=mid.length->Ws vs (mid++post)=Ws vs mid++post
 | [],_,_,_=>by simp[Ws]
 |v::vs,[],_,h=>by simp at h
 |v::vs,m::mid,post,h=>by
  have:=Uv vs mid post (by simpa using h)
  simp[Ws,this]
theorem D2:∀(pre l:List Value) (n:Nat) (vs:List Value),uK (pre++l) (pre.length+n) vs=pre++uK l n vs
 | [],l,n,vs=>by simp
 |p::pre,l,n,vs=>by
  have:=D2 pre l n vs
  rw[List.length_cons,show pre.length+1+n=(pre.length+n)+1 by omega,List.cons_append]
  show p::uK (pre++l) (pre.length+n) vs=_
  rw[this];rfl
theorem HL:∀(mid post:List Value) (k:Nat) (vs:List Value),k+vs.length<=mid.length->uK (mid++post) k vs=uK mid k vs++post
 |mid,post,0,vs,h=>by
  have z:∀l,uK l 0 vs=Ws vs l:=fun l=>by cases l <;> rfl
  rw[z,z]
  exact Uv vs mid post (by omega)
 | [],post,k+1,vs,h=>by simp at h
 |m::mid,post,k+1,vs,h=>by
  show m::uK (mid++post) k vs=m::(uK mid k vs++post)
  rw[HL mid post k vs (by simp at h;omega)]
section
variable {E:tP α} {xs:List α}
theorem Abu {y y':α} {pre post:List Value} (hj:xs[j]?=some y) (hk:k+vs.length<=E.sz) (he:uK (E.enc y) k vs=E.enc y'):
  uK (pre++xs.flatMap E.enc++post) (pre.length+(j * E.sz+k)) vs=pre++(xs.set j y').flatMap E.enc++post:=by
 have hlt:j<xs.length:=by
  rcases Nat.lt_or_ge j xs.length with h|h
  ·exact h
  ·rw[List.getElem?_eq_none h] at hj;cases hj
 have e1:xs=xs.take j++y::xs.drop (j+1):=by
  have h2:=List.drop_eq_getElem_cons hlt
  rw[List.getElem?_eq_getElem hlt] at hj
  cases hj
  rw[<- h2,List.take_append_drop]
 have e2:xs.set j y'=xs.take j++y'::xs.drop (j+1):=List.set_eq_take_append_cons_drop▸(by rw[if_pos hlt])
 have hl:((xs.take j).flatMap E.enc).length=j * E.sz:=by rw[E.flat_len,List.length_take,Nat.min_eq_left (by omega)]
 have hE:=E.len y
 rw[e2,List.append_assoc,D2]
 have e3:xs.flatMap E.enc++post=(xs.take j).flatMap E.enc++(E.enc y++((xs.drop (j+1)).flatMap E.enc++post)):=by
  conv=>lhs;rw[e1]
  simp only[List.flatMap_append,List.flatMap_cons,List.append_assoc]
 rw[e3,<- hl,D2,HL _ _ _ _ (by omega),he]
 simp only[List.flatMap_append,List.flatMap_cons,List.append_assoc]
theorem IZ {y y':α} (h:aM P ops Q es (C::hist) a (bU (some ⟨B,off,none⟩) c0 e E (xs.set j y')::R)) (hx:bJ a x=.pointer (some ⟨B,off+j * sz+k,none⟩):=by exact rfl)
  (hp:aS (bU (some ⟨B,off,none⟩) c0 e E xs) C R:=by((repeat (first|exact aS.here|apply aS.there)) <;> exact aS.here)) (hsz:E.sz=sz:=by exact rfl) (hy:iG (bJ a z)=some u:=by exact rfl) (hvs:mU u.cells.toList=some vs:=by exact rfl) (ht:mJ P t=some n:=by exact rfl)
  (hn:(vs.length == n)=true:=by exact rfl) (mS:(vs.all Value.oneCell')=true:=by exact rfl) (hle:Nat.ble (k+n) sz=true:=by exact rfl) (hj:xs[j]?=some y:=by first|assumption|exact rfl) (hs:E.dec (uK (E.enc y) k vs)=some y':=by exact rfl)
  (hw:bD ops ⟨none,.store t x z,ty,pos,after,g⟩ a=true:=by exact rfl):aM P ops Q (ET.cons (c,gd,⟨none,.store t x z,ty,pos,after,g⟩) es) hist a C:=
 Yq (hw:=hw) fun H hH=>by
  have hn':vs.length=n:=by simpa using hn
  have hle':k+n<=sz:=by simpa using hle
  rcases kV (hp.sats hH) with⟨h1,_⟩|⟨B',pre,post,h1,h2,h3,h4⟩
  ·cases h1
  ·cases h1
   subst hsz
   have hlt:j<xs.length:=by
    rcases Nat.lt_or_ge j xs.length with h|h
    ·exact h
    ·rw[List.getElem?_eq_none h] at hj;cases hj
   have hfl:=E.flat_len xs
   have hmul:(j+1) * E.sz<=xs.length * E.sz:=Nat.mul_le_mul_right _ hlt
   rw[Nat.add_mul,Nat.one_mul] at hmul
   refine NI hx (f5 hy) (k6 hvs) ht hn' mS (nG h2).1 (by simp only[List.length_append,hfl];omega) ?_
   rw[<- Gf,show pre.length+j * E.sz+k=pre.length+(j * E.sz+k) by omega,Abu hj (by omega) (E.ok _ _ hs).symm]
   exact⟨_,gQ rfl (rZ h2) (by rw[List.length_set];exact h3) (by rw[List.length_set];exact h4),h⟩
theorem tN {y y':α} (h:aM P ops Q es (C::hist) a (bU (some ⟨B,off,none⟩) c0 e E (xs.set j y')::R)) (hx:bJ a x=.pointer (some ⟨B,off+j * sz,none⟩):=by exact rfl)
  (hp:aS (bU (some ⟨B,off,none⟩) c0 e E xs) C R:=by((repeat (first|exact aS.here|apply aS.there)) <;> exact aS.here)) (hsz:E.sz=sz:=by exact rfl) (hy:iG (bJ a z)=some u:=by exact rfl) (hvs:mU u.cells.toList=some vs:=by exact rfl) (ht:mJ P t=some n:=by exact rfl)
  (hn:(vs.length == n)=true:=by exact rfl) (mS:(vs.all Value.oneCell')=true:=by exact rfl) (hle:Nat.ble (0+n) sz=true:=by exact rfl) (hj:xs[j]?=some y:=by first|assumption|exact rfl) (hs:E.dec (uK (E.enc y) 0 vs)=some y':=by exact rfl)
  (hw:bD ops ⟨none,.store t x z,ty,pos,after,g⟩ a=true:=by exact rfl):aM P ops Q (ET.cons (c,gd,⟨none,.store t x z,ty,pos,after,g⟩) es) hist a C:=
 IZ (k:=0) h (by rw[hx,Nat.add_zero]) hp hsz hy hvs ht hn mS hle hj hs hw
end
end Go.Sl
namespace Go.Sl
variable {C R:List HP} {n sz c d' bytes cp c0 r:Nat} {P:Program} {st xt e ty:TypeId} {α:Type} {ops:Array Oper} {Q:Fr->List HP->Prop} {a:Fr} {d:Option Tmp} {gd:Bool} {es:ET} {hist:List (List HP)} {pos:String} {after:Array Edge} {g:Option (Nat×Bool)} {x y:Operand} {A:Option Addr} {u:Value}
theorem aG.unsep {A B:HP}:aG (Go.Sl.sep A B::C) (A::B::C):=fun _ hs=>bZ.star (l:= [A,B]) hs
def Ahw (n:Nat):Option Nat:=if n<95 then yX n else if n<190 then(yX (n - 95)).map (·+95) else(yX (n - 190)).map (·+190)
theorem Add {m:Nat} (h:Ahw n=some m):n=m:=by
 unfold Ahw at h
 split at h
 ·exact nL h
 ·split at h
  ·cases h1:yX (n - 95) with
   |none=>rw[h1] at h;cases h
   |some k=>rw[h1] at h;cases h;have:=nL h1;show n=k+_;omega
  ·cases h1:yX (n - 190) with
   |none=>rw[h1] at h;cases h
   |some k=>rw[h1] at h;cases h;have:=nL h1;show n=k+_;omega
def W8 (P:Program) (st xt:TypeId):Option (TypeId×Nat×Nat):=match OL P st xt with
 |some (e,sz,b)=>match yX sz with
  |some sz=>match Ahw b with
   |some b=>some (e,sz,b)
   |none=>none
  |none=>none
 |none=>none
theorem QD {b:Nat} (h:W8 P st xt=some (e,sz,b)):∃inf z,P.underlying st=some (.slice e)/\Be P xt=true/\P.info? e=some inf/\inf.zero=some z/\z.cells.size=inf.size/\inf.bytes≠0/\inf.size=sz/\inf.bytes=b:=by
 unfold W8 at h
 split at h
 ·rename_i e' sz' b' h0
  split at h
  ·rename_i sz2 h1
   split at h
   ·rename_i b2 h2
    cases h
    unfold OL at h0
    split at h0
    ·rename_i e2 hst
     split at h0
     ·rename_i inf hi
      split at h0
      ·rename_i z hz
       split at h0
       ·rename_i hc
        cases h0
        exact⟨inf,z,hst,hc.2.2,hi,hz,hc.1,hc.2.1,nL h1,Add h2⟩
       ·cases h0
      ·cases h0
     ·cases h0
    ·cases h0
   ·cases h
  ·cases h
 ·cases h
section
variable {E:tP α} {xs:List α}
theorem HB {ys:List α} {k:Value->List HP->Prop} (ht:W8 P st xt=some (e,sz,bytes)) (hsz:E.sz=sz) (hx:bJ a x=.slice A n cp) (hn:xs.length=n) (hy:bJ a y=u) (hsrc:Xu P C u E ys)
  (hp:aS (bU A c0 e E xs) C R) (hcc:cp=c0\/(n<=cp/\cp<=c0)) (hbig:(2 * (n+ys.length)+512) * bytes<=281474976710656)
  (hk:∀A' c',k (.slice A' (xs++ys).length c') (bU A' c' e E (xs++ys)::R)):AI P ⟨d,.call { callee:=.builtin .append,args:=#[x,y],argTypes:=#[st,xt] },ty,pos,after,g⟩ a C k:=fun H hs=>by
 obtain⟨inf,zz,h1,h2,h3,h4,h5,h6,h7,rfl⟩:=QD ht
 subst hsz
 have hrs:=hp.sats hs
 have hr:=kV hrs
 have hcl:n<=cp/\cp<=c0:=by
  rcases hcc with rfl|h
  ·rcases hr with⟨g1,g2,g3,g4⟩|⟨B,pre,post,g1,g2,g3,g4⟩
   ·subst g2 g3;simp at hn;omega
   ·omega
  ·exact h
 obtain⟨hcp,hc0⟩:=hcl
 have hmn:(xs++ys).length=n+ys.length:=by rw[List.length_append,hn]
 refine fI ?_
 simp only[execOp,resolve,List.map_toArray,List.map_cons,List.map_nil,hx,hy]
 rw[aI,aN (show(pure _:Sem Deferred).pr P=some _ from rfl)]
 simp only[invoke,builtin,aI]
 obtain⟨hlen,hcells⟩:=hsrc
 rw[hmn] at hk
 refine He (xs:=xs.flatMap E.enc) (news:=ys.flatMap E.enc) h1 h2 h3 h4 h5 hlen (by rw[h7];exact hcells H hs) (by rw[E.flat_len,h7]) (E.flat_one ys) (by rw[E.flat_len,hn,h7]) ?_ hbig h6 ?_ ?_ ?_
 ·rcases hr with⟨g1,g2,g3,g4⟩|⟨B,pre,post,g1,g2,g3,g4⟩
  ·subst g2;simp at hn;exact .inl ⟨g1,by omega,by omega⟩
  ·refine .inr ⟨B,pre,post,e,true,g1,(nG g2).1,hcp,?_,.inr (.inl rfl)⟩
   rw[h7]
   exact Nat.le_trans (Nat.mul_le_mul_right _ (by omega)) g4
 ·intro hm0
  have hys:ys= []:=by simpa using hm0
  have hk':=hk A cp
  subst hys
  rw[List.append_nil,List.length_nil,Nat.add_zero] at hk'
  refine⟨_,?_,hk'⟩
  rcases hr with⟨g1,g2,g3,g4⟩|⟨B,pre,post,g1,g2,g3,g4⟩
  ·subst g1 g2 g3
   have:cp=0:=by omega
   subst this
   exact tF g4
  ·exact gQ g1 g2 (by omega) (Nat.le_trans (Nat.mul_le_mul_right _ (by omega)) g4)
 ·intro B pre post e' hA hB hle hpl
  rcases hr with⟨g1,_⟩|⟨B',pre',post',g1,g2,g3,g4⟩
  ·rw[g1] at hA;cases hA
  ·rw[g1] at hA
   have hBB:B'=B:=congrArg Addr.block (Option.some.inj hA)
   subst hBB
   have hpre:pre'.length=pre.length:=congrArg Addr.off (Option.some.inj hA)
   have hB':=(nG g2).1
   rw[hB'] at hB
   injection hB with hB
   injection hB with hcs he _
   subst he
   rw[List.append_assoc,List.append_assoc] at hcs
   obtain⟨q1,q2⟩:=List.append_inj hcs hpre
   obtain⟨_,q3⟩:=List.append_inj q2 rfl
   subst q1 q3
   refine⟨_,gQ (pre:=pre') (post:=post'.drop (ys.flatMap E.enc).length) g1 ?_ (by rw[hmn];exact hle) ?_,hk A cp⟩
   ·rw[List.flatMap_append]
    exact rZ g2
   ·rw[hmn,List.length_drop,E.flat_len,<- Nat.sub_sub,Nat.sub_mul,<- h7]
    omega
 ·intro r post N hr0 hN hpl _
  refine⟨_,gQ (pre:= []) (post:=post) rfl ?_ (by rw[hmn];exact hN) (by rw[hmn,hpl,h7];exact Nat.le_refl _),hk _ N⟩
  rw[List.flatMap_append,List.nil_append]
  exact oZ hr0 hrs.tail
theorem mD {ys:List α} (h:∀A' c',cU gd (.slice A' (xs++ys).length c') fun v=>aM P ops Q es (C::hist) (kH a d' v) (bU A' c' e E (xs++ys)::R))
  (hx:bJ a x=.slice A n cp:=by exact rfl) (hy:bJ a y=u:=by exact rfl) (ht:W8 P st xt=some (e,sz,bytes):=by exact rfl) (hp:aS (bU A c0 e E xs) C R:=by((repeat (first|exact aS.here|apply aS.there)) <;> exact aS.here)) (hsrc:Xu P C u E ys:=by first|exact zS|exact vI|exact Ep|exact pH) (hsz:E.sz=sz:=by exact rfl) (hn:xs.length=n:=by first|exact rfl|assumption|omega)
  (hcc:cp=c0\/(n<=cp/\cp<=c0):=by first|exact .inl rfl|exact .inr ⟨by omega,by omega⟩) (hbig:(2 * (n+ys.length)+512) * bytes<=281474976710656:=by first|omega|assumption|(simp only[List.length_cons,List.length_nil];omega))
  (hw:bD ops ⟨some d',.call { callee:=.builtin .append,args:=#[x,y],argTypes:=#[st,xt] },ty,pos,after,g⟩ a=true:=by exact rfl):aM P ops Q (ET.cons (c,gd,⟨some d',.call { callee:=.builtin .append,args:=#[x,y],argTypes:=#[st,xt] },ty,pos,after,g⟩) es) hist a C:=
 G_o (hw:=hw) (HB ht hsz hx hn hy hsrc hp hcc hbig h)
theorem GN {ys:List α} (h:∀A' c',cU gd (.slice A' ys.length c') fun v=>aM P ops Q es (C::hist) (kH a d' v) (bU A' c' e E ys::C))
  (hx:bJ a x=.slice none 0 0:=by exact rfl) (hy:bJ a y=u:=by exact rfl) (ht:W8 P st xt=some (e,sz,bytes):=by exact rfl) (hsrc:Xu P C u E ys:=by first|exact zS|exact vI|exact Ep|exact pH) (hsz:E.sz=sz:=by exact rfl)
  (hbig:(2 * (0+ys.length)+512) * bytes<=281474976710656:=by first|omega|assumption|(simp only[List.length_cons,List.length_nil];omega))
  (hw:bD ops ⟨some d',.call { callee:=.builtin .append,args:=#[x,y],argTypes:=#[st,xt] },ty,pos,after,g⟩ a=true:=by exact rfl):aM P ops Q (ET.cons (c,gd,⟨some d',.call { callee:=.builtin .append,args:=#[x,y],argTypes:=#[st,xt] },ty,pos,after,g⟩) es) hist a C:=
 G_o (hw:=hw) (AI.ent (aG.nilrow e E C) (HB (xs:= []) ht hsz hx rfl hy ⟨hsrc.1,fun H hs=>hsrc.2 H hs.tail⟩ aS.here (.inl rfl) hbig h))
theorem LA (hp:aS (pt r [] e) C R):aG C (bU (some ⟨r,0,none⟩) 0 e E ([]:List α)::R):=fun H hs=>gQ (pre:= []) (post:= []) rfl (hp.sats hs) (Nat.le_refl _) (by simp)
theorem Ajs {ys:List α} (h:∀A' c',cU gd (.slice A' ys.length c') fun v=>aM P ops Q es ((bU (some ⟨r,0,none⟩) 0 e E ([]:List α)::R)::hist) (kH a d' v) (bU A' c' e E ys::R))
  (hx:bJ a x=.slice (some ⟨r,0,none⟩) 0 0:=by exact rfl) (hy:bJ a y=u:=by exact rfl) (ht:W8 P st xt=some (e,sz,bytes):=by exact rfl) (hp:aS (pt r [] e) C R:=by((repeat (first|exact aS.here|apply aS.there)) <;> exact aS.here)) (hsrc:Xu P (bU (some ⟨r,0,none⟩) 0 e E ([]:List α)::R) u E ys:=by first|exact zS|exact vI|exact Ep|exact pH) (hsz:E.sz=sz:=by exact rfl)
  (hbig:(2 * (0+ys.length)+512) * bytes<=281474976710656:=by first|omega|assumption|(simp only[List.length_cons,List.length_nil];omega))
  (hw:bD ops ⟨some d',.call { callee:=.builtin .append,args:=#[x,y],argTypes:=#[st,xt] },ty,pos,after,g⟩ a=true:=by exact rfl):aM P ops Q (ET.cons (c,gd,⟨some d',.call { callee:=.builtin .append,args:=#[x,y],argTypes:=#[st,xt] },ty,pos,after,g⟩) es) hist a C:=
 L1 (LA hp) (mD (xs:= []) (n:=0) h hx hy ht aS.here hsrc hsz rfl (.inl rfl) hbig hw)
end
end Go.Sl
namespace Go.Sl
variable {P:Program} {a:Fr} {d:Option Tmp} {ty t e:TypeId} {pos:String} {after:Array Edge} {g:Option (Nat×Bool)} {ps:Array (Nat×Operand)} {sz c d':Nat} {ops:Array Oper} {Q:Fr->List HP->Prop} {C:List HP} {gd:Bool} {es:ET} {hist:List (List HP)}
theorem H5 {H:Hp} {k:Value->Hp->Prop} (hps:ps.toList= []) (he:xY P t=some e) (hc:mJ P e=some sz)
  (hk:∀r,H r=none->k (.slice (some ⟨r,0,none⟩) 0 0) (hupd H r (.cells [] e true))):lD P ⟨d,.buildSlice t 0 ps,ty,pos,after,g⟩ a H k:=by
 have hu:=D8 he
 have hp0:ps=#[]:=by apply Array.ext';simpa using hps
 subst hp0
 obtain⟨inf,hi,rfl⟩:=oB hc
 refine fI ?_
 simp only[execOp,Instr.buildSlice,aI]
 rw[aN (aK hu)]
 simp only[aI]
 rw[aN (fC hi),if_neg (by simp)]
 rw[if_pos (by simp)]
 simp only[aI]
 rw[aN (show(pure #[]:Sem (Array Value)).pr P=some #[] from rfl)]
 have hf:∀z:Nat->Value,Instr.fill (fun i=>some (i * inf.size,inf.size)) ((Array.range (0 * inf.size)).map z) (Array.map (fun x:Nat×Operand=>(x.1,bJ a x.2)) #[]).toList=some #[]:=fun z=>by
  simp[Instr.fill]
 rw[hf]
 simp only[aI,newRow]
 intro r hr
 exact⟨rfl,hk r hr⟩
theorem Acv (h:∀r,cU gd (.slice (some ⟨r,0,none⟩) 0 0) fun v=>aM P ops Q es (C::hist) (kH a d' v) (pt r [] e::C))
  (hps:ps.toList= []:=by exact rfl) (he:xY P t=some e:=by exact rfl) (hc:mJ P e=some sz:=by exact rfl)
  (hw:bD ops ⟨some d',.buildSlice t 0 ps,ty,pos,after,g⟩ a=true:=by exact rfl):aM P ops Q (ET.cons (c,gd,⟨some d',.buildSlice t 0 ps,ty,pos,after,g⟩) es) hist a C:=
 vF rfl hw fun H hH=>H5 hps he hc fun r hr=>⟨_,oZ hr hH,h r⟩
end Go.Sl
namespace Go.Sl
variable {α:Type} {A:Option Addr} {c:Nat} {e:TypeId} {C R:List HP} {P:Program} {x:Code} {Q:Exit->Fr->List HP->Prop} {a:Fr}
section
variable {E:tP α} {l:List α}
theorem Iq {H:Hp} (hs:bZ (bU A c e E l::R) H):l.length<=c:=by
 rcases kV hs with⟨_,g2,_⟩|⟨_,_,_,_,_,g,_⟩
 ·subst g2;simp
 ·exact g
theorem Ahg:aG (bU A c e E l::R) (pD A E l::bH (l.length<=c)::R):=fun H hs=>
 yH aS.here (aG.cons (aG.pure (Iq hs) (aG.refl _))) H hs
theorem iJ {f:FuncId} {args:Array Value} {K:Value->List HP->Prop} (hp:aS (bU A c e E l) C R) (h:l.length<=c->aA P f args C K):aA P f args C K:=fun H hs=>h (Iq (hp.sats hs)) H hs
theorem Nm (hp:aS (bU A c e E l) C R) (h:l.length<=c->eY P x Q a C):eY P x Q a C:=fun H hs=>h (Iq (hp.sats hs)) H hs
theorem Vw {B D:HP} (h:eY P x Q a (B::D::C)):eY P x Q a (sep B D::C):=fun H hs=>h H (aG.unsep H hs)
end
end Go.Sl
namespace Go.Sl
theorem aA.entK {P:Program} {f:FuncId} {args:Array Value} {C:List HP} {K:Value->List HP->Prop} (h:aA P f args C fun v C=>∃C',aG C C'/\K v C'):aA P f args C K:=fun H hs=>
 (h H hs).mono fun _ H' ⟨_,h1,C',h2,h3⟩=>⟨C',h2 H' h1,h3⟩
end Go.Sl
namespace Go.Sl
variable {P:Program} {a:Fr} {d:Option Tmp} {ty st xt e:TypeId} {pos:String} {after:Array Edge} {g:Option (Nat×Bool)} {x y:Operand} {B off j dl dc c0 c d':Nat} {s:ByteArray} {xs:List UInt8} {C R:List HP} {ops:Array Oper} {Q:Fr->List HP->Prop} {gd:Bool} {es:ET} {hist:List (List HP)}
theorem Aah (pre mid post vs:List Value) (h:mid.length=vs.length):uK (pre++mid++post) pre.length vs=pre++vs++post:=by
 have h1:=D2 pre (mid++post) 0 vs
 rw[Nat.add_zero] at h1
 rw[List.append_assoc,h1,HL mid post 0 vs (by omega)]
 have h2:∀(vs mid:List Value),mid.length=vs.length->Ws vs mid=vs:=by
  intro vs
  induction vs with
  |nil=>intro mid h;rw[List.length_eq_zero_iff.1 h];rfl
  |cons v vs ih=>
   intro mid h
   cases mid with
   |nil=>simp at h
   |cons m mid=>simp only[Ws];rw[ih mid (by simpa using h)]
 have z:∀l,uK l 0 vs=Ws vs l:=fun l=>by cases l <;> rfl
 rw[z,h2 vs mid h,List.append_assoc]
theorem YW {k:Value->List HP->Prop} (hst:P.underlying st=some (.slice e)) (hi:mJ P e=some 1) (hx:bJ a x=.slice (some ⟨B,off+j,none⟩) dl dc) (hy:bJ a y=.string s)
  (hp:aS (bU (some ⟨B,off,none⟩) c0 e dX xs) C R) (hj:j+min s.size dl<=xs.length)
  (hk:k (.int .i64 (min s.size dl:Nat)) (bU (some ⟨B,off,none⟩) c0 e dX (xs.take j++(s.data.toList.take (min s.size dl)++xs.drop (j+min s.size dl)))::R)):
  AI P ⟨d,.call { callee:=.builtin .copy,args:=#[x,y],argTypes:=#[st,xt] },ty,pos,after,g⟩ a C k:=fun H hs=>by
 obtain⟨inf,hi2,hsz⟩:=oB hi
 refine fI ?_
 simp only[execOp,resolve,List.map_toArray,List.map_cons,List.map_nil,hx,hy]
 rw[aI,aN (show(pure _:Sem Deferred).pr P=some _ from rfl)]
 simp only[invoke,builtin,aI]
 unfold Builtin.copy_
 simp only[List.getElem?_toArray,List.getElem?_cons_zero,List.getElem?_cons_succ,aI]
 rw[aN (aK hst)]
 simp only[aI]
 have hln:(Builtin.lenOf (.string s)).pr P=some s.size:=by simp[Builtin.lenOf];rfl
 rw[aN hln,aN (fC hi2)]
 have hcl:(Builtin.firstCells inf.size (Nat.min s.size dl) (.string s)).rd P H=some ((s.data.toList.take (min s.size dl)).map kN).toArray:=by
  simp only[Builtin.firstCells,yK]
  congr 1
  apply Array.ext'
  simp
  rfl
 refine rU hcl ?_
 rcases kV (hp.sats hs) with⟨h1,_⟩|⟨B',pre,post,h1,h2,h3,h4⟩
 ·cases h1
 ·cases h1
  have hfl:=dX.flat_len xs
  have h1s:dX.sz=1:=rfl
  rw[h1s,Nat.mul_one] at hfl
  have hmin:Nat.min s.size dl=min s.size dl:=rfl
  have hvl:(List.map kN (List.take (min s.size dl) s.data.toList)).length=min s.size dl:=by simp
  refine nA _ 0 (pre.length+j) _ H _ (nG h2).1 (by rw[List.length_append,List.length_append,hfl,hvl];omega) (by rw[<- nY];exact dX.flat_one _) ?_
  have hmid:(List.map kN (List.take (min s.size dl) (List.drop j xs))).length=(List.map kN (List.take (min s.size dl) s.data.toList)).length:=by
   rw[hvl,List.length_map,List.length_take,List.length_drop];omega
  have hsplit:pre++xs.flatMap dX.enc++post=(pre++List.map kN (xs.take j))++List.map kN (List.take (min s.size dl) (List.drop j xs))++(List.map kN (xs.drop (j+min s.size dl))++post):=by
   rw[nY]
   conv=>lhs;rw[<- List.take_append_drop j xs,<- List.take_append_drop (min s.size dl) (List.drop j xs),List.drop_drop]
   simp only[List.map_append,List.append_assoc]
  have hset:mE (pre++xs.flatMap dX.enc++post) (pre.length+j+0) (List.map kN (List.take (min s.size dl) s.data.toList))=pre++(xs.take j++(s.data.toList.take (min s.size dl)++xs.drop (j+min s.size dl))).flatMap dX.enc++post:=by
   rw[<- Gf,hsplit]
   have e1:pre.length+j+0=(pre++List.map kN (xs.take j)).length:=by
    rw[List.length_append,List.length_map,List.length_take];omega
   rw[e1,Aah _ _ _ _ hmid,nY]
   simp only[List.map_append,List.append_assoc]
  rw[hset]
  have hlen:(xs.take j++(s.data.toList.take (min s.size dl)++xs.drop (j+min s.size dl))).length=xs.length:=by
   have hsl:s.data.toList.length=s.size:=by simp
   simp only[List.length_append,List.length_take,List.length_drop,hsl]
   omega
  exact⟨_,gQ rfl (rZ h2) (by rw[hlen];exact h3) (by rw[hlen];exact h4),hk⟩
theorem TS (h:cU gd (.int .i64 (min s.size dl:Nat)) fun v=>aM P ops Q es (C::hist) (kH a d' v) (bU (some ⟨B,off,none⟩) c0 e dX (xs.take j++(s.data.toList.take (min s.size dl)++xs.drop (j+min s.size dl)))::R))
  (hx:bJ a x=.slice (some ⟨B,off+j,none⟩) dl dc:=by exact rfl) (hy:bJ a y=.string s:=by exact rfl) (hst:P.underlying st=some (.slice e):=by exact rfl) (hi:mJ P e=some 1:=by exact rfl)
  (hp:aS (bU (some ⟨B,off,none⟩) c0 e dX xs) C R:=by((repeat (first|exact aS.here|apply aS.there)) <;> exact aS.here)) (hj:j+min s.size dl<=xs.length:=by first|omega|assumption)
  (hk:kd P (.call { callee:=.builtin .copy,args:=#[x,y],argTypes:=#[st,xt] })=.other:=by exact rfl) (hw:bD ops ⟨some d',.call { callee:=.builtin .copy,args:=#[x,y],argTypes:=#[st,xt] },ty,pos,after,g⟩ a=true:=by exact rfl):aM P ops Q (ET.cons (c,gd,⟨some d',.call { callee:=.builtin .copy,args:=#[x,y],argTypes:=#[st,xt] },ty,pos,after,g⟩) es) hist a C:=
 G_o (hk:=hk) (hw:=hw) (YW hst hi hx hy hp hj h)
end Go.Sl
namespace Go.Sl
variable {P:Program} {a:Fr} {d:Option Tmp} {ty t e:TypeId} {pos:String} {after:Array Edge} {g:Option (Nat×Bool)} {x y:Operand} {n c d':Nat} {C:List HP} {ops:Array Oper} {Q:Fr->List HP->Prop} {gd:Bool} {es:ET} {hist:List (List HP)}
theorem MY {k:Value->List HP->Prop} {inf:TypeInfo} {z:Value} (hst:P.underlying t=some (.slice e)) (hi:P.info? e=some inf) (hsz:inf.size=1) (hby:inf.bytes=1) (hz:inf.zero=some z) (hzc:z.cells=#[.int .u8 0]) (hx:bJ a x=.int .i64 n) (hy:bJ a y=.int .i64 n) (hn:n<=1000000)
  (hk:∀r,k (.slice (some ⟨r,0,none⟩) n n) (bU (some ⟨r,0,none⟩) n e dX (List.replicate n 0)::C)):AI P ⟨d,.makeSlice t x y,ty,pos,after,g⟩ a C k:=fun H hs=>by
 refine fI ?_
 have hw:IntKind.i64.wrap (n:Int)=n:=uT (by omega) (by omega)
 simp only[execOp,hx,hy]
 unfold Instr.makeSlice
 simp only[aI]
 rw[aN (aK hst)]
 simp only[aI]
 rw[aN (show(asInt (.int .i64 (n:Int))).pr P=some (n:Int) from rfl),aN (show(asInt (.int .i64 (n:Int))).pr P=some (n:Int) from rfl),aN (d3 hi)]
 simp only[hw,hby]
 have h48:(2:Int) ^ 48=281474976710656:=by decide
 rw[if_neg (by simp only[h48,Bool.or_eq_true,decide_eq_true_eq];omega)]
 simp only[aI]
 refine CE ?_
 rw[aN (fC hi),hsz]
 simp only[Int.toNat_natCast,Nat.mul_one]
 have hz0:kN 0=.int .u8 0:=rfl
 have fin:∀(zs:Array Value) (r:Nat),H r=none->((Array.range n).map (fun i=>zs[i % zs.size]!)).toList=(List.replicate n (0:UInt8)).map kN->upV k (.slice (some ⟨r,0,none⟩) n n) (hupd H r (.cells ((Array.range n).map (fun i=>zs[i % zs.size]!)).toList e true)):=fun zs r hr he=>by
  rw[he]
  refine⟨_,gQ (pre:= []) (post:= []) rfl ?_ (by rw[List.length_replicate];exact Nat.le_refl _) (by rw[List.length_replicate];simp),hk r⟩
  rw[List.nil_append,List.append_nil,nY]
  exact oZ hr hs
 by_cases hn0:n=0
 ·subst hn0
  rw[if_pos rfl]
  simp only[aI,newRow]
  rw[aN (show(pure #[]:Sem (Array Value)).pr P=some #[] from rfl)]
  intro r hr
  exact⟨rfl,fin #[] r hr (by simp)⟩
 ·rw[if_neg hn0]
  simp only[aI,newRow]
  rw[aN (show(zeroValue e).pr P=some z from by simp only[zeroValue,aU,d3 hi,Option.bind_some,hz];rfl)]
  rw[aN (show(pure z.cells:Sem (Array Value)).pr P=some z.cells from rfl),hzc]
  intro r hr
  exact⟨rfl,fin _ r hr (by
   apply List.ext_getElem (by simp)
   intro i h1 h2
   simp[Nat.mod_one]
   rfl)⟩
def Aku (P:Program) (e:TypeId):Prop:=∃inf z,P.info? e=some inf/\inf.size=1/\inf.bytes=1/\inf.zero=some z/\z.cells=#[.int .u8 0]
theorem Pd (h:∀r,cU gd (.slice (some ⟨r,0,none⟩) n n) fun v=>aM P ops Q es (C::hist) (kH a d' v) (bU (some ⟨r,0,none⟩) n e dX (List.replicate n 0)::C)) (hx:bJ a x=.int .i64 n:=by exact rfl) (hy:bJ a y=.int .i64 n:=by exact rfl) (hst:P.underlying t=some (.slice e):=by exact rfl) (hz:Aku P e:=by exact⟨_,_,rfl,rfl,rfl,rfl,rfl⟩) (hn:n<=1000000:=by first|omega|assumption)
  (hk:kd P (.makeSlice t x y)=.other:=by exact rfl) (hw:bD ops ⟨some d',.makeSlice t x y,ty,pos,after,g⟩ a=true:=by exact rfl):aM P ops Q (ET.cons (c,gd,⟨some d',.makeSlice t x y,ty,pos,after,g⟩) es) hist a C:=by
 obtain⟨inf,z,h1,h2,h3,h4,h5⟩:=hz
 exact G_o (hk:=hk) (hw:=hw) (MY hst h1 h2 h3 h4 h5 hx hy hn h)
end Go.Sl
namespace Go.Sl
variable {P:Program} {α:Type} {A:Option Addr} {c:Nat} {e:TypeId} {C R:List HP} {K:Value->List HP->Prop} {f:FuncId} {args:Array Value} {B D:HP} {p:Prop}
section
variable {E:tP α} {l:List α}
theorem pV (hp:aS (bU A c e E l) C R) (hl:0<l.length) (h:∀B off,A=some ⟨B,off,none⟩->aA P f args C K):aA P f args C K:=fun H hs=>by
 rcases kV (hp.sats hs) with⟨_,g2,_⟩|⟨B,pre,post,g1,_⟩
 ·subst g2;simp at hl
 ·exact h _ _ g1 H hs
theorem Ah0 {B off l m j:Nat} {A':Option Addr} (h:HA (some ⟨B,off,none⟩) A' l m 1) (hl:l=j) (hm:j<m):A'=some ⟨B,off+j,none⟩:=by
 subst hl
 unfold HA at h
 rw[h,if_neg (by omega),Nat.mul_one]
 simp[Addr.add]
theorem Akf {A:HP} (h:p):aG (A::B::R) (sep A (sep B (bH p))::R):=
 aG.sep (aG.pick aS.here (aG.sep (aG.pick aS.here (aG.pure h (aG.refl _)))))
theorem Ch {A:HP} (h:p->aA P f args (A::B::D::R) K):aA P f args (sep A (sep B (sep D (bH p)))::R) K:=
 aA.sep (aA.ent (aG.trans (aG.cons aG.unsep) (aG.trans (aG.cons (aG.cons aG.unsep)) (fun _ hs=>hs.perm (List.Perm.symm (List.perm_middle (l₁:= [A,B,D])).symm)))) (aA.pure fun hI=>h hI))
theorem qU {A:HP} (h:p):aG (A::B::D::R) (sep A (sep B (sep D (bH p)))::R):=
 aG.sep (aG.pick aS.here (aG.sep (aG.pick aS.here (aG.sep (aG.pick aS.here (aG.pure h (aG.refl _)))))))
end
end Go.Sl
namespace Go.Sl
variable {P:Program} {ops:Array Oper} {Q:Fr->List HP->Prop} {a:Fr} {C:List HP} {c:Nat} {gd:Bool} {es:ET} {hist:List (List HP)} {d':Tmp} {ty t yt:TypeId} {pos:String} {after:Array Edge} {g:Option (Nat×Bool)} {x y:Operand}
end Go.Sl
namespace Go.Sl
theorem aA.satsK {P:Program} {f:FuncId} {args:Array Value} {C:List HP} {K K':Value->List HP->Prop} (h:aA P f args C K') (hk:∀v C' H,K' v C'->bZ C' H->∃C'',bZ C'' H/\K v C''):aA P f args C K:=fun H hs=>
 (h H hs).mono fun v H' ⟨_,h1,h2⟩=>hk v _ H' h2 h1
end Go.Sl
namespace Go.Sl
theorem Alo {P:Program} {x:Code} {Q:Exit->Fr->List HP->Prop} {a:Fr} {C:List HP} {p:Prop} (hp:∀H,bZ C H->p) (h:p->eY P x Q a C):eY P x Q a C:=fun H hs=>h (hp H hs) H hs
end Go.Sl
namespace Go.Sl
variable {P:Program} {a:Fr} {d:Option Tmp} {ty t u:TypeId} {pos:String} {after:Array Edge} {g:Option (Nat×Bool)} {x:Operand} {f off c d':Nat} {cs:Array Value} {v:Value} {ops:Array Oper} {Q:Fr->List HP->Prop} {C:List HP} {gd:Bool} {es:ET} {hist:List (List HP)}
def Ms (P:Program) (t:TypeId) (f:Nat):Option (TypeId×Nat):=match P.underlying t with
 |some (.struct fs)=>match fs[f]? with
  |some fd=>some (fd.type,fd.offset)
  |none=>none
 |_=>none
theorem Ve (hx:bJ a x=.agg cs) (hf:Ms P t f=some (u,off)) (hv:yS P u cs.toList off=some v):cA P ⟨d,.field t x f,ty,pos,after,g⟩ a=some v:=by
 unfold Ms at hf
 split at hf
 ·rename_i fs hu
  split at hf
  ·rename_i fd hfd
   cases hf
   refine cD ?_
   simp only[execOp,hx]
   unfold Instr.field
   rw[aU,aU,aK hu,Option.bind_some]
   simp only[hfd]
   rw[aU,show(asAgg (.agg cs)).pr P=some cs from rfl,Option.bind_some,Gg hv]
   rfl
  ·cases hf
 ·cases hf
theorem iQ (h:cU gd v fun v=>aM P ops Q es hist (kH a d' v) C) (hx:bJ a x=.agg cs:=by exact rfl) (hf:Ms P t f=some (u,off):=by exact rfl) (hv:yS P u cs.toList off=some v:=by exact rfl)
  (hw:bD ops ⟨some d',.field t x f,ty,pos,after,g⟩ a=true:=by exact rfl):aM P ops Q (ET.cons (c,gd,⟨some d',.field t x f,ty,pos,after,g⟩) es) hist a C:=
 f6 rfl hw (Ve hx hf hv) h
end Go.Sl
namespace Go.Sl
variable {P:Program} {a:Fr} {d:Option Tmp} {ty t u:TypeId} {pos:String} {after:Array Edge} {g:Option (Nat×Bool)} {x y:Operand} {k:IntKind} {j:Int} {n sz c d':Nat} {cs:Array Value} {v:Value} {ops:Array Oper} {Q:Fr->List HP->Prop} {C:List HP} {gd:Bool} {es:ET} {hist:List (List HP)}
def Ajc (P:Program) (t:TypeId):Option (Nat×TypeId):=match P.underlying t with
 |some (.array n e)=>some (n,e)
 |_=>none
theorem Qd (hx:bJ a x=.agg cs) (hy:bJ a y=.int k j) (ht:Ajc P t=some (n,u)) (hs:mJ P u=some sz) (h0:0<=j) (h1:j<n) (hv:yS P u cs.toList (j.toNat * sz)=some v):cA P ⟨d,.index t x y,ty,pos,after,g⟩ a=some v:=by
 unfold Ajc at ht
 split at ht
 ·rename_i n' e hu
  cases ht
  obtain⟨i,hi,rfl⟩:=oB hs
  refine cD ?_
  simp only[execOp,hx,hy]
  unfold Instr.index
  rw[aU,aU,show(asIntOf (.int k j)).pr P=some (k,j) from rfl,Option.bind_some]
  simp only
  rw[aU,aK hu,Option.bind_some]
  simp only
  rw[if_pos ⟨h0,h1⟩,aU,fC hi,Option.bind_some,Gg hv]
  rfl
 ·cases ht
theorem R8 (h:cU gd v fun v=>aM P ops Q es hist (kH a d' v) C) (hx:bJ a x=.agg cs:=by exact rfl) (hy:bJ a y=.int k j:=by exact rfl) (ht:Ajc P t=some (n,u):=by exact rfl) (hs:mJ P u=some sz:=by exact rfl) (h0:0<=j:=by omega) (h1:j<n:=by omega) (hv:yS P u cs.toList (j.toNat * sz)=some v:=by exact rfl)
  (hw:bD ops ⟨some d',.index t x y,ty,pos,after,g⟩ a=true:=by exact rfl):aM P ops Q (ET.cons (c,gd,⟨some d',.index t x y,ty,pos,after,g⟩) es) hist a C:=
 f6 rfl hw (Qd hx hy ht hs h0 h1 hv) h
end Go.Sl
end
section
namespace Go.Sl
variable {P:Program} {t et ty:TypeId} {H:Hp} {kd:IntKind} {n:Int} {a:Fr} {d:Option Tmp} {pos:String} {after:Array Edge} {g:Option (Nat×Bool)} {x y z:Operand} {r ck i since:Nat} {seen:List Nat}
structure k7 where
 k:Int
 v:Value
 b:Nat
variable {es:List k7}
def rW (e:k7):MapEntry:= { key:=.int .i64 e.k,val:=e.v,born:=e.b }
def mp (r:Nat) (es:List k7) (ck:Nat):HP:=fun H=>H r=some (.obj (.map (es.map rW).toArray ck))
def FV (r m since:Nat) (seen:List Nat) (last:Nat):HP:=fun H=>H r=some (.obj (.mapIter (some m) since seen.toArray last))
def jA (n:Int):List k7->Nat->Option (Nat×Value)
 | [],_=>none
 |e::es,i=>if n == e.k then some (i,e.v) else jA n es (i+1)
def M4 (n:Int) (v:Value):List k7->List k7
 | []=> []
 |e::es=>if n == e.k then⟨e.k,v,e.b⟩::es else e::M4 n v es
def F6 (n:Int):List k7->List k7
 | []=> []
 |e::es=>if n == e.k then es else e::F6 n es
theorem zP {n:Int}:∀ {es:List k7} {i j:Nat} {v:Value},jA n es i=some (j,v)->i<=j/\j - i<es.length/\∃e,es[j - i]?=some e/\e.k=n/\e.v=v
 | [],_,_,_,h=>by cases h
 |e::es,i,j,v,h=>by
  unfold jA at h
  split at h
  ·rename_i he
   cases h
   have:=eq_of_beq he
   exact⟨Nat.le_refl _,by simp,e,by simp,this.symm,rfl⟩
  ·obtain⟨h1,h2,e',h3,h4,h5⟩:=zP h
   refine⟨by omega,by simp;omega,e',?_,h4,h5⟩
   rw[show j - i=(j - (i+1))+1 by omega]
   simpa using h3
theorem FT {n:Int} {w:Value}:∀ {es:List k7} {i j:Nat} {v:Value},jA n es i=some (j,v)->(es.map rW).modify (j - i) (fun e=> { key:=.int .i64 n,val:=w,born:=e.born })=(M4 n w es).map rW
 | [],_,_,_,h=>by cases h
 |e::es,i,j,v,h=>by
  have hj:=(zP h).1
  unfold jA at h
  split at h
  ·rename_i he
   cases h
   have:=eq_of_beq he
   subst this
   simp[M4,rW]
  ·rename_i he
   have h1:=(zP h).1
   rw[show j - i=(j - (i+1))+1 by omega]
   simp only[List.map_cons,List.modify_succ_cons,M4,he]
   rw[FT h]
   rfl
theorem Hk {n:Int}:∀ {es:List k7} {i j:Nat} {v:Value},jA n es i=some (j,v)->(es.map rW).eraseIdx (j - i)=(F6 n es).map rW
 | [],_,_,_,h=>by cases h
 |e::es,i,j,v,h=>by
  unfold jA at h
  split at h
  ·rename_i he
   cases h
   simp[F6,he]
  ·rename_i he
   have h1:=(zP h).1
   rw[show j - i=(j - (i+1))+1 by omega]
   simp only[List.map_cons,List.eraseIdx_cons_succ,F6,he]
   rw[Hk h]
   rfl
theorem Ig {kd:IntKind} {n:Int}:∀(es:List k7) (i:Nat),Instr.findNow (.int kd) (.int .i64 n) (es.map rW) i=some (jA n es i)
 | [],_=>rfl
 |e::es,i=>by
  simp only[List.map_cons,Instr.findNow,rW,Instr.sameNow,if_true,jA]
  cases h:(n == e.k) with
  |true=>rfl
  |false=>simpa using Ig es (i+1)
def Ju (P:Program) (t:TypeId):Option TypeId:=match P.underlying t with
 |some (.map kt et)=>match P.underlying kt with
  |some (.int _)=>some et
  |_=>none
 |_=>none
theorem Bv (h:Ju P t=some et):∃kt kd,P.underlying t=some (.map kt et)/\P.underlying kt=some (.int kd):=by
 unfold Ju at h
 split at h
 ·split at h
  ·cases h;exact⟨_,_,‹_›,‹_›⟩
  ·cases h
 ·cases h
def Tn (P:Program) (t:TypeId):Option Value:=match P.info? t with
 |some i=>i.zero
 |none=>none
theorem Aaa {z:Value} (h:Tn P t=some z):(zeroValue t).pr P=some z:=by
 unfold Tn at h
 split at h
 ·rename_i i hi
  simp only[zeroValue,aU,d3 hi,Option.bind_some,h];rfl
 ·cases h
theorem zX {b:Bool} (h:P.underlying t=some (.int kd)):(Instr.checkKey b 10000 t (.int .i64 n)).pr P=some ():=by
 rw[show(10000:Nat)=9999+1 from rfl,Instr.checkKey,aU,aK h]
 rfl
theorem Cl (h:P.underlying t=some (.int kd)):(Instr.findKey t (.int .i64 n) (es.map rW)).pr P=some (jA n es 0):=by
 unfold Instr.findKey
 rw[aU,aK h]
 simp only[Option.bind_some,Ig]
 rfl
section
variable {k:Value->Hp->Prop}
theorem Q7 (hk:∀r,H r=none->k (.map (some r)) (hupd H r (.obj (.map #[] 0)))):lD P ⟨d,.makeMap t none,ty,pos,after,g⟩ a H k:=by
 refine fI ?_
 simp only[execOp,Instr.makeMap,aI,Option.map_none]
 intro r hr
 exact hk r hr
def okV (ok:Bool) (v:Value) (b:Bool):Value:=if ok then .tuple #[v,.bool b] else v
def Iz (ok:Bool) (zv:Value):Option (Nat×Value)->Value
 |some (_,v)=>okV ok v true
 |none=>okV ok zv false
theorem VH {zv:Value} {ok:Bool} (hm:Ju P t=some et) (hz:Tn P et=some zv) (hx:bJ a x=.map (some r)) (hy:bJ a y=.int .i64 n) (hH:H r=some (.obj (.map (es.map rW).toArray ck)))
  (hk:k (Iz ok zv (jA n es 0)) H):lD P ⟨d,.lookup t x y ok,ty,pos,after,g⟩ a H k:=by
 obtain⟨kt,kd,h1,h2⟩:=Bv hm
 refine fI ?_
 simp only[execOp,hx,hy,Instr.lookup,aI]
 rw[aN (aK h1)]
 simp only[aI]
 refine⟨_,hH,?_⟩
 simp only[Sem.ev]
 rw[pure_bind,aI,aN (zX h2),aI,aN (Cl h2)]
 cases hf:jA n es 0 with
 |some p=>
  rw[hf] at hk
  cases ok <;> exact hk
 |none=>
  rw[hf] at hk
  simp only[aI]
  rw[aN (Aaa hz)]
  cases ok <;> exact hk
theorem L4 (j:IntKind) (n:Int):Instr.sameBits 10000 (.int j n) (.int j n)=true:=by
 rw[show(10000:Nat)=9999+1 from rfl]
 simp[Instr.sameBits]
theorem LG {v:Value} (hm:Ju P t=some et) (hx:bJ a x=.map (some r)) (hy:bJ a y=.int .i64 n) (hv:bJ a z=v) (hH:H r=some (.obj (.map (es.map rW).toArray ck)))
  (hk:k undef (hupd H r (.obj (match jA n es 0 with|some _=>Obj.map ((M4 n v es).map rW).toArray ck|none=>Obj.map ((es++ [(⟨n,v,ck⟩:k7)]).map rW).toArray (ck+1))))):lD P ⟨d,.mapUpdate t x y z,ty,pos,after,g⟩ a H k:=by
 obtain⟨kt,kd,h1,h2⟩:=Bv hm
 refine fI ?_
 simp only[execOp,hx,hy,hv,Instr.mapUpdate,aI]
 rw[aN (aK h1)]
 simp only[aI]
 refine⟨_,hH,?_⟩
 simp only[Sem.ev,aI]
 rw[aN (zX h2),aN (Cl h2)]
 cases hf:jA n es 0 with
 |some p=>
  obtain⟨j,w⟩:=p
  rw[hf] at hk
  obtain⟨_,_,e,he,hek,_⟩:=zP hf
  simp only[Nat.sub_zero] at he
  simp only[aI]
  have hkey:((Option.map (fun e=>MapEntry.key e) ((List.map rW es).toArray[j]?)).getD (.int .i64 n))=.int .i64 n:=by
   simp[he,rW,hek]
  rw[hkey]
  rw[aN (show(Instr.keyThatStays (.int .i64 n) (.int .i64 n)).pr P=some (.int .i64 n) by unfold Instr.keyThatStays;rw[L4];rfl)]
  refine⟨⟨_,hH⟩,rfl,?_⟩
  have hmod:=FT (w:=v) hf
  rw[Nat.sub_zero] at hmod
  have e1:(List.map rW es).toArray.modify j (fun e=> { key:=.int .i64 n,val:=v,born:=e.born })=((M4 n v es).map rW).toArray:=by
   apply Array.ext'
   simpa using hmod
  rw[e1]
  exact hk
 |none=>
  rw[hf] at hk
  refine⟨⟨_,hH⟩,rfl,?_⟩
  have e1:(List.map rW es).toArray.push { key:=.int .i64 n,val:=v,born:=ck }=((es++ [(⟨n,v,ck⟩:k7)]).map rW).toArray:=by
   apply Array.ext'
   simp[rW]
  rw[e1]
  exact hk
theorem W2 {ts1:TypeId} (hm:Ju P t=some et) (hx:bJ a x=.map (some r)) (hy:bJ a y=.int .i64 n) (hH:H r=some (.obj (.map (es.map rW).toArray ck)))
  (hk:k (.tuple #[]) (hupd H r (.obj (.map ((F6 n es).map rW).toArray ck)))):lD P ⟨d,.call { callee:=.builtin .delete,args:=#[x,y],argTypes:=#[t,ts1] },ty,pos,after,g⟩ a H k:=by
 obtain⟨kt,kd,h1,h2⟩:=Bv hm
 refine fI ?_
 simp only[execOp,resolve,List.map_toArray,List.map_cons,List.map_nil,hx,hy]
 rw[aI,aN (show(pure _:Sem Deferred).pr P=some _ from rfl)]
 simp only[invoke,builtin,aI]
 unfold Builtin.delete_
 simp only[List.getElem?_toArray,List.getElem?_cons_zero,List.getElem?_cons_succ,aI]
 rw[aN (aK h1)]
 simp only[aI]
 refine⟨_,hH,?_⟩
 simp only[Sem.ev,aI]
 rw[aN (zX h2),aN (Cl h2)]
 cases hf:jA n es 0 with
 |some p=>
  obtain⟨j,w⟩:=p
  refine⟨⟨_,hH⟩,rfl,?_⟩
  have hmod:=Hk hf
  rw[Nat.sub_zero] at hmod
  have e1:(List.map rW es).toArray.eraseIdxIfInBounds j=((F6 n es).map rW).toArray:=by
   apply Array.ext'
   rw[<- hmod]
   simp
  rw[e1]
  exact hk
 |none=>
  refine⟨⟨_,hH⟩,rfl,?_⟩
  have e1:F6 n es=es:=by
   have key:∀(es:List k7) (i:Nat),jA n es i=none->F6 n es=es:=by
    intro es
    induction es with
    |nil=>intro _ _;rfl
    |cons e es ih=>
     intro i h
     unfold jA at h
     split at h
     ·cases h
     ·rename_i he
      simp only[F6,he]
      rw[ih _ h]
      rfl
   exact key es 0 hf
  rw[e1] at hk
  exact hk
theorem Ab6 (hm:Ju P t=some et) (hx:bJ a x=.map (some r)) (hH:H r=some (.obj (.map (es.map rW).toArray ck)))
  (hk:∀i,H i=none->k (.pointer (some ⟨i,0,none⟩)) (hupd H i (.obj (.mapIter (some r) ck #[] ck)))):lD P ⟨d,.range t x,ty,pos,after,g⟩ a H k:=by
 obtain⟨kt,kd,h1,h2⟩:=Bv hm
 refine fI ?_
 simp only[execOp,Instr.range,hx,aI]
 rw[aN (aK h1)]
 simp only[aI]
 refine⟨_,hH,?_⟩
 simp only[Sem.ev]
 intro i hi
 exact hk i hi
theorem Hi {n:Nat} {q:Nat->Hp->Prop} (hn:1<=n) (h:∀j,j<n->q j H):(choose (.mapNext n)).ev P H q:=by
 unfold choose
 simp only[Sem.ev]
 split
 ·exact h 0 (by omega)
 ·exact fun t=>h _ (Nat.mod_lt _ (by omega))
theorem Agf {last:Nat} (hx:bJ a x=.pointer (some ⟨i,0,none⟩)) (hI:H i=some (.obj (.mapIter (some r) since seen.toArray last))) (hH:H r=some (.obj (.map (es.map rW).toArray ck)))
  (hold:∀e∈es,e.b<since)
  (h1:∀e∈es,e.b ∉ seen->k (.tuple #[.bool true,.int .i64 e.k,e.v]) (hupd H i (.obj (.mapIter (some r) since (seen++ [e.b]).toArray ck))))
  (h0:(∀e∈es,e.b∈seen)->k (.tuple #[.bool false]) H) (hlast:seen= []\/es= []\/∃e∈es,e.b<last):lD P ⟨d,.next x false,ty,pos,after,g⟩ a H k:=by
 refine fI ?_
 simp only[execOp,Instr.next,hx,aI]
 refine⟨_,hI,?_⟩
 simp only[Sem.ev,aI]
 refine⟨_,hH,?_⟩
 simp only[Sem.ev]
 have hcond:¬((!seen.toArray.isEmpty && !(List.map rW es).toArray.isEmpty && (List.map rW es).toArray.all fun x=>decide (x.born≥last))=true):=by
  intro h
  rcases hlast with rfl|rfl|⟨e,he,hl⟩
  ·simp at h
  ·simp at h
  ·simp only[Bool.and_eq_true,Array.all_eq_true] at h
   obtain⟨j,hj,hje⟩:=List.mem_iff_getElem.1 he
   have h3:=h.2 j (by simpa using hj)
   simp[rW,hje] at h3
   omega
 rw[if_neg hcond]
 have hA:Array.filter (fun x=>decide (x.born<since)) (Array.filter (fun e=>!seen.toArray.contains e.born) (List.map rW es).toArray)=((es.filter fun e=>!seen.contains e.b).map rW).toArray:=by
  apply Array.ext'
  simp only[Array.toList_filter]
  rw[List.filter_map,List.filter_map,List.filter_filter]
  congr 1
  apply List.filter_congr
  intro e he
  have:=hold e he
  have hd:decide ((rW e).born<since)=true:=decide_eq_true this
  simp only[Function.comp,hd,Bool.true_and]
  simp[rW]
 have hB:Array.filter (fun x=>decide (x.born≥since)) (Array.filter (fun e=>!seen.toArray.contains e.born) (List.map rW es).toArray)=#[]:=by
  apply Array.ext'
  simp only[Array.toList_filter]
  rw[List.filter_map,List.filter_map,List.filter_filter]
  have:List.filter (fun a=>((fun x=>decide (x.born≥since)) ∘ rW) a && ((fun e=>!seen.toArray.contains e.born) ∘ rW) a) es= []:=by
   rw[List.filter_eq_nil_iff]
   intro e he
   have:=hold e he
   have hd:decide ((rW e).born≥since)=false:=decide_eq_false (Nat.not_le.2 this)
   simp[Function.comp,hd]
  rw[this]
  rfl
 simp only[hA,hB]
 generalize hL:(es.filter fun e=>!seen.contains e.b)=L
 have hmem:∀e∈L,e∈es/\e.b ∉ seen:=by
  intro e he
  rw[<- hL] at he
  simpa using List.mem_filter.1 he
 rw[aI]
 cases L with
 |nil=>
  have hc:((if((List.map rW []).toArray).isEmpty=true then #[none] else #[])++Array.map some ((List.map rW []).toArray++#[]):Array (Option MapEntry))=#[none]:=by
   apply Array.ext'
   simp
  rw[hc]
  refine Hi (n:=1) (by omega) fun j hj=>?_
  obtain rfl:j=0:=by omega
  refine h0 fun e he=>?_
  by_cases hs:e.b∈seen
  ·exact hs
  ·have:e∈es.filter fun e=>!seen.contains e.b:=List.mem_filter.2 ⟨he,by simpa using hs⟩
   rw[hL] at this
   cases this
 |cons e0 L=>
  have hc:((if((List.map rW (e0::L)).toArray).isEmpty=true then #[none] else #[])++Array.map some ((List.map rW (e0::L)).toArray++#[]):Array (Option MapEntry))=((e0::L).map fun e=>some (rW e)).toArray:=by
   apply Array.ext'
   simp
  rw[hc]
  refine Hi (n:=(((e0::L).map fun e=>some (rW e)).toArray).size) (by simp) fun j hj=>?_
  have hj2:j<(e0::L).length:=by simpa using hj
  have hg:((e0::L).map fun e=>some (rW e)).toArray[j]?=some (some (rW (e0::L)[j])):=by
   rw[List.getElem?_toArray,List.getElem?_map,List.getElem?_eq_getElem hj2]
   rfl
  rw[hg]
  obtain⟨m1,m2⟩:=hmem _ (List.getElem_mem hj2)
  refine⟨⟨_,hI⟩,rfl,?_⟩
  have:=h1 _ m1 m2
  have e2:seen.toArray.push (rW (e0::L)[j]).born=(seen++ [((e0::L)[j]).b]).toArray:=by
   apply Array.ext';simp[rW]
  rw[e2]
  exact this
theorem Zy {b:Nat} {e:k7} (hx:bJ a x=.pointer (some ⟨i,0,none⟩)) (hI:H i=some (.obj (.mapIter (some r) since (seen++ [b]).toArray ck))) (hH:H r=some (.obj (.map (es.map rW).toArray ck)))
  (he:es.find? (fun e=>e.b == b)=some e) (hk:k (.tuple #[.int .i64 e.k,e.v]) H):lD P ⟨d,.entry x,ty,pos,after,g⟩ a H k:=by
 refine fI ?_
 simp only[execOp,Instr.entry,hx,aI]
 refine⟨_,hI,?_⟩
 simp only[Sem.ev]
 have hb:(seen++ [b]).toArray.back?=some b:=by simp
 rw[hb]
 simp only[aI]
 refine⟨_,hH,?_⟩
 have hf:(List.map rW es).toArray.find? (fun x=>x.born == b)=some (rW e):=by
  rw[List.find?_toArray,List.find?_map]
  have:((fun x=>x.born == b) ∘ rW)=fun e=>e.b == b:=by funext e;rfl
  rw[this,he]
  rfl
 have hne:(ck != ck)=false:=by simp
 simp only[Sem.ev,hne,hf]
 exact hk
end
end Go.Sl
namespace Go.Sl
variable {r c ck i since:Nat} {b:sM} {C R:List HP} {H:Hp} {P:Program} {ops:Array Oper} {Q:Fr->List HP->Prop} {a:Fr} {gd:Bool} {es:ET} {hist:List (List HP)} {d':Tmp} {v:Value} {ty t et:TypeId} {pos:String} {after:Array Edge} {g:Option (Nat×Bool)} {x y z:Operand} {ms ms':List k7} {n:Int} {seen:List Nat}
theorem pC (ho:b.own=true) (hs:bZ ((fun H=>H r=some b)::C) H):H r=some b:=by
 obtain⟨H1,H2,hc,h1,h2,ha,hs⟩:=hs
 obtain⟨b',hb,l⟩:=h1 r b ha
 rw[sM.le_own l ho] at hb
 exact hb
theorem u6 {b':sM} (ho:b.own=true) (hs:bZ ((fun H=>H r=some b)::C) H):bZ ((fun H=>H r=some b')::C) (hupd H r b'):=by
 obtain⟨H1,H2,hc,h1,h2,ha,hs⟩:=hs
 have hn:H2 r=none:=by
  cases hx:H2 r with
  |none=>rfl
  |some x=>have:=(hc r _ x ha hx).1;rw[ho] at this;cases this
 refine⟨mS r b',H2,(fun i b x hb hx=>by rw[(Dv hb).1,hn] at hx;cases hx),Da (kL _ _ _) (sM.le_refl _),fun i b hb=>?_,wJ _ _,hs⟩
 rw[jJ _ _ (fun e=>by subst e;rw[hn] at hb;cases hb)]
 exact h2 i b hb
theorem FG (hr:H r=none) (hs:bZ C H):bZ ((fun H=>H r=some b)::C) (hupd H r b):=
 ⟨mS r b,H,(fun B b x hb hx=>by rw[(Dv hb).1,hr] at hx;cases hx),Da (kL _ _ _) (sM.le_refl _),
  (fun B b hb=>⟨b,by rw[jJ _ _ (fun e=>by subst e;rw[hr] at hb;cases hb)];exact hb,b.le_refl⟩),wJ _ _,hs⟩
theorem EH (h:∀r,cU gd (.map (some r)) fun v=>aM P ops Q es (C::hist) (kH a d' v) (mp r [] 0::C)) (hw:bD ops ⟨some d',.makeMap t none,ty,pos,after,g⟩ a=true:=by exact rfl):
  aM P ops Q (ET.cons (c,gd,⟨some d',.makeMap t none,ty,pos,after,g⟩) es) hist a C:=
 vF rfl hw fun _ hH=>Q7 fun r hr=>⟨_,FG hr hH,h r⟩
theorem jO {zv w:Value} {ok:Bool} (h:cU gd w fun v=>aM P ops Q es (C::hist) (kH a d' v) C) (hx:bJ a x=.map (some r):=by exact rfl) (hy:bJ a y=.int .i64 n:=by exact rfl)
  (hp:aS (mp r ms ck) C R:=by((repeat (first|exact aS.here|apply aS.there)) <;> exact aS.here)) (hm:Ju P t=some et:=by exact rfl) (hz:Tn P et=some zv:=by exact rfl) (hv:Iz ok zv (jA n ms 0)=w:=by first|assumption|exact rfl)
  (hw:bD ops ⟨some d',.lookup t x y ok,ty,pos,after,g⟩ a=true:=by exact rfl):aM P ops Q (ET.cons (c,gd,⟨some d',.lookup t x y ok,ty,pos,after,g⟩) es) hist a C:=
 vF rfl hw fun H hH=>VH hm hz hx hy (pC rfl (hp.sats hH)) (by rw[hv];exact⟨C,hH,h⟩)
def L8 (n:Int) (v:Value) (ms:List k7) (ck:Nat):List k7×Nat:=match jA n ms 0 with
 |some _=>(M4 n v ms,ck)
 |none=>(ms++ [⟨n,v,ck⟩],ck+1)
theorem kQ {ck':Nat} {u:Value} (h:aM P ops Q es (C::hist) a (mp r ms' ck'::R)) (hx:bJ a x=.map (some r):=by exact rfl) (hy:bJ a y=.int .i64 n:=by exact rfl) (hu:iG (bJ a z)=some u:=by exact rfl)
  (hp:aS (mp r ms ck) C R:=by((repeat (first|exact aS.here|apply aS.there)) <;> exact aS.here)) (hm:Ju P t=some et:=by exact rfl) (hv:L8 n u ms ck=(ms',ck'):=by first|assumption|exact rfl)
  (hw:bD ops ⟨none,.mapUpdate t x y z,ty,pos,after,g⟩ a=true:=by exact rfl):aM P ops Q (ET.cons (c,gd,⟨none,.mapUpdate t x y z,ty,pos,after,g⟩) es) hist a C:=
 Yq (hw:=hw) fun H hH=>by
  have h1:=hp.sats hH
  refine LG hm hx hy (f5 hu) (pC rfl h1) ?_
  unfold L8 at hv
  cases hf:jA n ms 0 with
  |some p=>rw[hf] at hv;cases hv;exact⟨_,u6 rfl h1,h⟩
  |none=>rw[hf] at hv;cases hv;exact⟨_,u6 rfl h1,h⟩
theorem J5 {ts1:TypeId} (h:aM P ops Q es (C::hist) a (mp r ms' ck::R)) (hx:bJ a x=.map (some r):=by exact rfl) (hy:bJ a y=.int .i64 n:=by exact rfl)
  (hp:aS (mp r ms ck) C R:=by((repeat (first|exact aS.here|apply aS.there)) <;> exact aS.here)) (hm:Ju P t=some et:=by exact rfl) (hv:F6 n ms=ms':=by first|assumption|exact rfl)
  (hw:bD ops ⟨none,.call { callee:=.builtin .delete,args:=#[x,y],argTypes:=#[t,ts1] },ty,pos,after,g⟩ a=true:=by exact rfl):aM P ops Q (ET.cons (c,gd,⟨none,.call { callee:=.builtin .delete,args:=#[x,y],argTypes:=#[t,ts1] },ty,pos,after,g⟩) es) hist a C:=
 Yq (hw:=hw) fun H hH=>by
  subst hv
  exact W2 hm hx hy (pC rfl (hp.sats hH)) ⟨_,u6 rfl (hp.sats hH),h⟩
theorem Ag0 (h:∀i,cU gd (.pointer (some ⟨i,0,none⟩)) fun v=>aM P ops Q es (C::hist) (kH a d' v) (FV i r ck [] ck::C)) (hx:bJ a x=.map (some r):=by exact rfl)
  (hp:aS (mp r ms ck) C R:=by((repeat (first|exact aS.here|apply aS.there)) <;> exact aS.here)) (hm:Ju P t=some et:=by exact rfl)
  (hw:bD ops ⟨some d',.range t x,ty,pos,after,g⟩ a=true:=by exact rfl):aM P ops Q (ET.cons (c,gd,⟨some d',.range t x,ty,pos,after,g⟩) es) hist a C:=
 vF rfl hw fun H hH=>Ab6 hm hx (pC rfl (hp.sats hH)) fun i hi=>⟨_,FG hi hH,h i⟩
theorem Ajv {last:Nat}
  (h1:∀e∈ms,e.b ∉ seen->cU gd (.tuple #[.bool true,.int .i64 e.k,e.v]) fun v=>aM P ops Q es (C::hist) (kH a d' v) (FV i r since (seen++ [e.b]) ck::R))
  (h0:(∀e∈ms,e.b∈seen)->cU gd (.tuple #[.bool false]) fun v=>aM P ops Q es (C::hist) (kH a d' v) C)
  (hx:bJ a x=.pointer (some ⟨i,0,none⟩)) (hp:aS (FV i r since seen last) C R) (hq:∃R',aS (mp r ms ck) C R')
  (hold:∀e∈ms,e.b<since) (hlast:seen= []\/ms= []\/∃e∈ms,e.b<last)
  (hw:bD ops ⟨some d',.next x false,ty,pos,after,g⟩ a=true):aM P ops Q (ET.cons (c,gd,⟨some d',.next x false,ty,pos,after,g⟩) es) hist a C:=
 vF rfl hw fun H hH=>by
  obtain⟨R',hq⟩:=hq
  exact Agf hx (pC rfl (hp.sats hH)) (pC rfl (hq.sats hH)) hold (fun e he hn=>⟨_,u6 rfl (hp.sats hH),h1 e he hn⟩) (fun hs=>⟨C,hH,h0 hs⟩) hlast
theorem TQ {b:Nat} {e:k7} {R':List HP} (h:cU gd (.tuple #[.int .i64 e.k,e.v]) fun v=>aM P ops Q es (C::hist) (kH a d' v) C)
  (hx:bJ a x=.pointer (some ⟨i,0,none⟩):=by exact rfl) (hp:aS (FV i r since (seen++ [b]) ck) C R:=by((repeat (first|exact aS.here|apply aS.there)) <;> exact aS.here)) (hq:aS (mp r ms ck) C R':=by((repeat (first|exact aS.here|apply aS.there)) <;> exact aS.here))
  (he:ms.find? (fun e=>e.b == b)=some e:=by first|assumption|exact rfl) (hw:bD ops ⟨some d',.entry x,ty,pos,after,g⟩ a=true:=by exact rfl):aM P ops Q (ET.cons (c,gd,⟨some d',.entry x,ty,pos,after,g⟩) es) hist a C:=
 vF rfl hw fun H hH=>Zy hx (pC rfl (hp.sats hH)) (pC rfl (hq.sats hH)) he ⟨C,hH,h⟩
end Go.Sl
namespace Go.Sl
variable {P:Program} {Q:Exit->Fr->List HP->Prop} {a:Fr} {C:List HP} {id:Nat} {ol:List Oper} {es:ET}
def YG:Nat->Option Nat
 |0=>some 0
 |m+1=>some (m+1)
theorem Lv {n m:Nat} (h:YG n=some m):n=m:=by
 cases n <;> (unfold YG at h;cases h;rfl)
def If (acc:List Nat) (len:Nat):List Edge->Nat->Option Nat
 | [],s=>YG s
 |e::l,s=>match Region.binds .any e with
  |true=>match YG (s ||| 2 ^ e.on ||| (if e.on<len then acc.getD (len - 1 - e.on) 0 else 0)) with
   |some n=>If acc len l n
   |none=>none
  |false=>If acc len l s
def Wu:List Oper->List Nat->Nat->Option (List Nat)
 | [],acc,_=>some acc
 |o::l,acc,len=>match If acc len o.after.toList 0 with
  |some n=>match YG (len+1) with
   |some m=>Wu l (n::acc) m
   |none=>none
  |none=>none
theorem Abe (acc:List Nat) (i:Nat):(if i<acc.length then acc.getD (acc.length - 1 - i) 0 else 0)=acc.reverse.toArray.getD i 0:=by
 rw[Array.getD_eq_getD_getElem?,List.getElem?_toArray]
 by_cases h:i<acc.length
 ·rw[if_pos h,List.getElem?_reverse h,List.getD_eq_getElem?_getD]
 ·rw[if_neg h,List.getElem?_eq_none (by simpa using h)]
  rfl
theorem Ez {acc:List Nat}:∀ {l:List Edge} {s n:Nat},If acc acc.length l s=some n->l.foldl (fun s e=>if Region.binds .any e then s ||| 2 ^ e.on ||| acc.reverse.toArray.getD e.on 0 else s) s=n
 | [],s,n,h=>Lv h
 |e::l,s,n,h=>by
  unfold If at h
  rw[List.foldl_cons]
  split at h
  ·rename_i hb
   split at h
   ·rename_i k hk
    have:=Lv hk
    rw[Abe] at this
    rw[if_pos hb,this]
    exact Ez h
   ·cases h
  ·rename_i hb
   rw[if_neg (by rw[hb];simp)]
   exact Ez h
theorem TM:∀ {l:List Oper} {acc r:List Nat},Wu l acc acc.length=some r->l.foldl (fun acc o=>acc.push (o.after.foldl (fun s e=>if Region.binds .any e then s ||| 2 ^ e.on ||| acc.getD e.on 0 else s) 0)) acc.reverse.toArray=r.reverse.toArray
 | [],acc,r,h=>by cases h;rfl
 |o::l,acc,r,h=>by
  unfold Wu at h
  split at h
  ·rename_i n hn
   split at h
   ·rename_i m hm
    have e1:=Ez hn
    have e2:=Lv hm
    subst e2
    rw[List.foldl_cons,<- Array.foldl_toList,e1]
    have:=TM (acc:=n::acc) h
    rw[<- this]
    congr 1
    simp
   ·cases h
  ·cases h
theorem Vu {ops:Array Oper} {r:List Nat} (h:Wu ops.toList [] 0=some r):Region.before ops=r.reverse.toArray:=by
 unfold Region.before
 rw[<- Array.foldl_toList]
 exact TM (acc:= []) h
theorem Aff {l:List (Nat×Nat)} {bl br:List Nat} (hb:Wu ol [] 0=some br) (hr:br.reverse=bl) (hl:Cc (JR P ol.toArray bl.toArray)=some l) (hc:vD P ol.toArray bl.toArray l=true) (he:Jt ol.toArray l=some es)
  (h:aM P ol.toArray (Q .normal) es [] a C):eY P (.region id ol.toArray true) Q a C:=by
 have e:Region.before ol.toArray=bl.toArray:=by rw[<- hr];exact Vu hb
 exact GW (by rw[e];exact hl) (by rw[e];exact hc) he h
end Go.Sl
namespace Go.Sl
theorem bE {C C':List HP} (he:aG C C':=by((iterate 30 (try(first|exact aG.refl _|exact aG.nil|(apply aG.pick;focus ((repeat (first|exact aS.here|apply aS.there)) <;> exact aS.here))|(apply aG.pickP;focus ((repeat (first|exact pers_ro _ _ _|exact qT _ _ _|exact pers_pure _|refine pers_sep ?_ ?_|refine pers_ex fun _=>?_)) <;> exact pers_pure _);focus ((repeat (first|exact aS.here|apply aS.there)) <;> exact aS.here))|(apply aG.pure;focus (first|assumption|exact rfl|omega))|apply aG.nilrow'|apply aG.ex|apply aG.sep|apply aG.drop))) <;> exact aG.nil)):aG C C':=he
theorem kU {α:Type} {C:List HP} {A:Option Addr} {E:tP α} {xs:List α} (hv:dE C A E xs:=by((repeat (first|exact eA|exact jF|exact rO|assumption|apply bF)) <;> exact eA)):dE C A E xs:=hv
end Go.Sl
end
