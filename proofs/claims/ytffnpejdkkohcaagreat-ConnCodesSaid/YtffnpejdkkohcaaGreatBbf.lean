/- A part of the proof: lemmas; each with the conditions that it states. -/
import Derived.Test.YtffnpejdkkohcaaGreatBbe
set_option linter.unusedVariables false
set_option linter.unusedSimpArgs false
set_option maxRecDepth 100000
set_option maxHeartbeats 40000000
namespace Go.Proofs.YtffnpejdkkohcaaGreat
open Go Go.Proofs Go.Sl
attribute [local irreducible] aM eY cU bQ aL aW aA dS dT aZ dR pt ro fN star sep bH
attribute [local irreducible] mp FV
variable {R C:List HP} {K:KP} {x mc i b p r pn pc:Nat} {a:Ca} {s:Cn} {M pa:Option Addr} {B B' id code st k on w c la n:Int} {own e xx:Bool} {m m':Sm} {f:Fm} {y:Ys} {l acc:List Sm} {cf:Cf} {h3:dI} {z:Yp} {d:ByteArray} {ps:List Pr}
def fO:List (Nat×Nat):= [(0,0),(1,0),(2,0),(3,0),(4,0),(5,0),(6,0),(7,0),(8,1)]
def fA:List (Nat×Nat):= [(0,0),(1,0),(2,0),(3,0),(4,0),(5,0),(6,0),(7,0),(8,0),(9,0),(10,1)]
theorem MJ (hI:bR B s) (hB:B+300<=249000000) (hr:bV ⟨5,st,e,d,k,on,w,xx,c,la,n,pa,pn,pc,ps⟩) (hv:dE R pa oG ps) (hn:ps.length=pn) (hK:∀M mc,K (.tuple #[]) (cY x a (bM ⟨5,st,e,d,k,on,w,xx,c,la,n,pa,pn,pc,ps⟩ s) M mc R)):CT 55 #[PO x,.agg #[I6 5,I6 st,.bool e,.string d,I6 k,I6 on,I6 w,.bool xx,I6 c,I6 la,I6 n,.slice pa pn pc]] (cY x a s M mc R) K:=by
 have hI1:=f8 hI
 obtain⟨r1,r2,r3,r4,r5,r6,r7,r8,r9,r10,r11,r12,r13,r14,r15,r16,r17,r18,r19,r20,r21⟩:=hr
 dsimp only at r1 r2 r3 r4 r13 r15 r21
 have hps:pn<=1000000:=by omega
 unfold bM eM at hK
 dsimp only at hK
 rw[if_pos rfl] at hK
 dsimp only[cY,p8]
 refine aJ Tryz.func55 ?_
 repeat' (first|refine zB ?_|refine dw fO ?_|refine dw fA ?_|refine w5 ?_ ?_|((refine bh fun h=>?_) <;> try exact w6 h)|(refine aF fun hA=>?_;subst hA)|intro _|(show aA _ 112 _ _ _;refine CA (h:=dH (b:=s.bt) (now:=s.now) ?_))|(show aA _ 113 _ _ _;refine CA (h:=Vy (x:=x) (a:=a) (s:= { s with bt:=bN s.bt s.now }) (R:=R) (ps:=ps) hI1 hv hn hps (fun _ _=>?_))))
 all_goals(refine aC ?_;exact aB (hK _ _))
theorem Mh (hI:bR B s) (hB:B+300<=249000000) (hr:bV ⟨6,st,e,d,k,on,w,xx,c,la,n,pa,pn,pc,ps⟩) (hv:dE R pa oG ps) (hn:ps.length=pn) (hK:∀M mc,K (.tuple #[]) (cY x a (bM ⟨6,st,e,d,k,on,w,xx,c,la,n,pa,pn,pc,ps⟩ s) M mc R)):CT 55 #[PO x,.agg #[I6 6,I6 st,.bool e,.string d,I6 k,I6 on,I6 w,.bool xx,I6 c,I6 la,I6 n,.slice pa pn pc]] (cY x a s M mc R) K:=by
 have hI1:=f8 hI
 obtain⟨r1,r2,r3,r4,r5,r6,r7,r8,r9,r10,r11,r12,r13,r14,r15,r16,r17,r18,r19,r20,r21⟩:=hr
 dsimp only at r1 r2 r3 r4 r13 r15 r21
 have hps:pn<=1000000:=by omega
 unfold bM eM at hK
 dsimp only at hK
 rw[if_neg (show ¬(6:Int)=5 by decide),if_pos rfl] at hK
 dsimp only[cY,p8]
 refine aJ Tryz.func55 ?_
 repeat' (first|refine zB ?_|refine dw fO ?_|refine dw fA ?_|refine w5 ?_ ?_|((refine bh fun h=>?_) <;> try exact w6 h)|(refine aF fun hA=>?_;subst hA)|intro _|(show aA _ 112 _ _ _;refine CA (h:=dH (b:=s.bt) (now:=s.now) ?_))|(show aA _ 114 _ _ _;refine CA (h:=QC (x:=x) (a:=a) (s:= { s with bt:=bN s.bt s.now }) hI1 (fun _ _=>?_))))
 all_goals(refine aC ?_;exact aB (hK _ _))
theorem ME (hI:bR B s) (hB:B+300<=249000000) (hr:bV ⟨7,st,e,d,k,on,w,xx,c,la,n,pa,pn,pc,ps⟩) (hv:dE R pa oG ps) (hn:ps.length=pn) (hK:∀M mc,K (.tuple #[]) (cY x a (bM ⟨7,st,e,d,k,on,w,xx,c,la,n,pa,pn,pc,ps⟩ s) M mc R)):CT 55 #[PO x,.agg #[I6 7,I6 st,.bool e,.string d,I6 k,I6 on,I6 w,.bool xx,I6 c,I6 la,I6 n,.slice pa pn pc]] (cY x a s M mc R) K:=by
 have hI1:=f8 hI
 obtain⟨r1,r2,r3,r4,r5,r6,r7,r8,r9,r10,r11,r12,r13,r14,r15,r16,r17,r18,r19,r20,r21⟩:=hr
 dsimp only at r1 r2 r3 r4 r13 r15 r21
 have hps:pn<=1000000:=by omega
 unfold bM eM at hK
 dsimp only at hK
 rw[if_neg (show ¬(7:Int)=5 by decide),if_neg (show ¬(7:Int)=6 by decide),if_pos rfl] at hK
 dsimp only[cY,p8]
 refine aJ Tryz.func55 ?_
 repeat' (first|refine zB ?_|refine dw fO ?_|refine dw fA ?_|refine w5 ?_ ?_|((refine bh fun h=>?_) <;> try exact w6 h)|(refine aF fun hA=>?_;subst hA)|intro _|(show aA _ 112 _ _ _;refine CA (h:=dH (b:=s.bt) (now:=s.now) ?_))|(show aA _ 115 _ _ _;refine CA (h:=BD (x:=x) (a:=a) (s:= { s with bt:=bN s.bt s.now }) (f:=qQ 8 0 d false) hI1 rfl rfl rfl (fun _ _=>?_))))
 all_goals(refine aC ?_;exact aB (hK _ _))
theorem LH (hI:bR B s) (hB:B+300<=249000000) (hr:bV ⟨8,st,e,d,k,on,w,xx,c,la,n,pa,pn,pc,ps⟩) (hv:dE R pa oG ps) (hn:ps.length=pn) (hK:∀M mc,K (.tuple #[]) (cY x a (bM ⟨8,st,e,d,k,on,w,xx,c,la,n,pa,pn,pc,ps⟩ s) M mc R)):CT 55 #[PO x,.agg #[I6 8,I6 st,.bool e,.string d,I6 k,I6 on,I6 w,.bool xx,I6 c,I6 la,I6 n,.slice pa pn pc]] (cY x a s M mc R) K:=by
 have hI1:=f8 hI
 obtain⟨r1,r2,r3,r4,r5,r6,r7,r8,r9,r10,r11,r12,r13,r14,r15,r16,r17,r18,r19,r20,r21⟩:=hr
 dsimp only at r1 r2 r3 r4 r13 r15 r21
 have hps:pn<=1000000:=by omega
 unfold bM eM at hK
 dsimp only at hK
 rw[if_neg (show ¬(8:Int)=5 by decide),if_neg (show ¬(8:Int)=6 by decide),if_neg (show ¬(8:Int)=7 by decide),if_pos rfl] at hK
 dsimp only[cY,p8]
 refine aJ Tryz.func55 ?_
 repeat' (first|refine zB ?_|refine dw fO ?_|refine dw fA ?_|refine w5 ?_ ?_|((refine bh fun h=>?_) <;> try exact w6 h)|(refine aF fun hA=>?_;subst hA)|intro _|(show aA _ 112 _ _ _;refine CA (h:=dH (b:=s.bt) (now:=s.now) ?_))|(show aA _ 116 _ _ _;refine CA (h:=Xe (b:=bN s.bt s.now) (Aha hI1) (fun _=>?_))))
 all_goals(refine aC ?_;exact aB (hK _ _))
theorem LC (hI:bR B s) (hB:B+300<=249000000) (hr:bV ⟨9,st,e,d,k,on,w,xx,c,la,n,pa,pn,pc,ps⟩) (hv:dE R pa oG ps) (hn:ps.length=pn) (hK:∀M mc,K (.tuple #[]) (cY x a (bM ⟨9,st,e,d,k,on,w,xx,c,la,n,pa,pn,pc,ps⟩ s) M mc R)):CT 55 #[PO x,.agg #[I6 9,I6 st,.bool e,.string d,I6 k,I6 on,I6 w,.bool xx,I6 c,I6 la,I6 n,.slice pa pn pc]] (cY x a s M mc R) K:=by
 have hI1:=f8 hI
 obtain⟨r1,r2,r3,r4,r5,r6,r7,r8,r9,r10,r11,r12,r13,r14,r15,r16,r17,r18,r19,r20,r21⟩:=hr
 dsimp only at r1 r2 r3 r4 r13 r15 r21
 have hps:pn<=1000000:=by omega
 unfold bM eM at hK
 dsimp only at hK
 rw[if_neg (show ¬(9:Int)=5 by decide),if_neg (show ¬(9:Int)=6 by decide),if_neg (show ¬(9:Int)=7 by decide),if_neg (show ¬(9:Int)=8 by decide),if_pos rfl] at hK
 dsimp only[cY,p8]
 refine aJ Tryz.func55 ?_
 repeat' (first|refine zB ?_|refine dw fO ?_|refine dw fA ?_|refine w5 ?_ ?_|((refine bh fun h=>?_) <;> try exact w6 h)|(refine aF fun hA=>?_;subst hA)|intro _|(show aA _ 112 _ _ _;refine CA (h:=dH (b:=s.bt) (now:=s.now) ?_))|(show aA _ 117 _ _ _;refine CA (h:=V9 (x:=x) (a:=a) (s:= { s with bt:=bN s.bt s.now }) (ps:=ps) hI1 (fun _ _=>?_))))
 all_goals(refine aC ?_;exact aB (hK _ _))
theorem Ll (hI:bR B s) (hB:B+300<=249000000) (hr:bV ⟨2,st,e,d,k,on,w,xx,c,la,n,pa,pn,pc,ps⟩) (hv:dE R pa oG ps) (hn:ps.length=pn) (hK:∀M mc,K (.tuple #[]) (cY x a (bM ⟨2,st,e,d,k,on,w,xx,c,la,n,pa,pn,pc,ps⟩ s) M mc R)):CT 55 #[PO x,.agg #[I6 2,I6 st,.bool e,.string d,I6 k,I6 on,I6 w,.bool xx,I6 c,I6 la,I6 n,.slice pa pn pc]] (cY x a s M mc R) K:=by
 have hI1:=f8 hI
 obtain⟨r1,r2,r3,r4,r5,r6,r7,r8,r9,r10,r11,r12,r13,r14,r15,r16,r17,r18,r19,r20,r21⟩:=hr
 dsimp only at r1 r2 r3 r4 r13 r15 r21
 have hps:pn<=1000000:=by omega
 unfold bM eM at hK
 dsimp only at hK
 rw[if_neg (show ¬(2:Int)=5 by decide),if_neg (show ¬(2:Int)=6 by decide),if_neg (show ¬(2:Int)=7 by decide),if_neg (show ¬(2:Int)=8 by decide),if_neg (show ¬(2:Int)=9 by decide),if_pos rfl] at hK
 dsimp only[cY,p8]
 refine aJ Tryz.func55 ?_
 repeat' (first|refine zB ?_|refine dw fO ?_|refine dw fA ?_|refine w5 ?_ ?_|((refine bh fun h=>?_) <;> try exact w6 h)|(refine aF fun hA=>?_;subst hA)|intro _|(show aA _ 112 _ _ _;refine CA (h:=dH (b:=s.bt) (now:=s.now) ?_))|(show aA _ 118 _ _ _;refine CA (h:=OH (x:=x) (a:=a) (s:= { s with bt:=bN s.bt s.now }) (ps:=ps) hI1 (by omega) (r15 rfl) (by omega) (fun _ _=>?_))))
 all_goals(refine aC ?_;exact aB (hK _ _))
def bO:List (Nat×Nat):= [(0,0),(1,0),(2,0),(3,0),(4,0),(5,0),(6,0),(7,0),(8,1)]
def bL:List (Nat×Nat):= [(0,0),(1,0),(2,0),(3,0),(4,0),(5,0),(6,0),(7,0),(8,0),(9,0),(10,1)]
theorem Mg (hI:bR B s) (hB:B+300<=249000000) (hr:bV ⟨0,st,e,d,k,on,w,xx,c,la,n,pa,pn,pc,ps⟩) (hv:dE R pa oG ps) (hn:ps.length=pn) (hK:∀M mc,K (.tuple #[]) (cY x a (bM ⟨0,st,e,d,k,on,w,xx,c,la,n,pa,pn,pc,ps⟩ s) M mc R)):CT 55 #[PO x,.agg #[I6 0,I6 st,.bool e,.string d,I6 k,I6 on,I6 w,.bool xx,I6 c,I6 la,I6 n,.slice pa pn pc]] (cY x a s M mc R) K:=by
 have hI1:=f8 hI
 obtain⟨r1,r2,r3,r4,r5,r6,r7,r8,r9,r10,r11,r12,r13,r14,r15,r16,r17,r18,r19,r20,r21⟩:=hr
 dsimp only at r1 r2 r3 r4 r13 r15 r21
 have hps:pn<=1000000:=by omega
 unfold bM eM at hK
 dsimp only at hK
 rw[if_neg (show ¬(0:Int)=5 by decide),if_neg (show ¬(0:Int)=6 by decide),if_neg (show ¬(0:Int)=7 by decide),if_neg (show ¬(0:Int)=8 by decide),if_neg (show ¬(0:Int)=9 by decide),if_neg (show ¬(0:Int)=2 by decide)] at hK
 dsimp only[cY,p8]
 by_cases h0:st=0
 ·exfalso;omega
 ·rw[if_neg h0] at hK
  cases hp:rI { s with bt:=bN s.bt s.now } st
  ·rw[if_pos hp] at hK
   refine aJ Tryz.func55 ?_
   repeat' (first|refine zB ?_|refine dw bO ?_|refine dw bL ?_|refine w5 ?_ ?_|((refine bh fun h=>?_) <;> try exact w6 h)|(refine aF fun hA=>?_;subst hA)|intro _|(show aA _ 112 _ _ _;refine CA (h:=dH (b:=s.bt) (now:=s.now) ?_))|(show aA _ 120 _ _ _;refine CA (h:=jE (x:=x) (a:=a) (s:= { s with bt:=bN s.bt s.now }) (M:=M) (mc:=mc) ?_);rw[hp])|(show aA _ 57 _ _ _;refine CA (h:=dK (x:=x) (a:=a) (s:= { s with bt:=bN s.bt s.now }) hI1 (by decide) (by decide) (fun _ _=>?_))))
   all_goals(refine aC ?_;exact aB (hK _ _))
  ·rw[if_neg (by rw[hp];decide)] at hK
   rw[if_pos (by decide)] at hK
   refine aJ Tryz.func55 ?_
   repeat' (first|refine zB ?_|refine dw bO ?_|refine dw bL ?_|refine w5 ?_ ?_|((refine bh fun h=>?_) <;> try exact w6 h)|(refine aF fun hA=>?_;subst hA)|intro _|(show aA _ 112 _ _ _;refine CA (h:=dH (b:=s.bt) (now:=s.now) ?_))|(show aA _ 120 _ _ _;refine CA (h:=jE (x:=x) (a:=a) (s:= { s with bt:=bN s.bt s.now }) (M:=M) (mc:=mc) ?_);rw[hp])|(show aA _ 121 _ _ _;refine CA (h:=Sv (x:=x) (a:=a) (s:= { s with bt:=bN s.bt s.now }) (ps:=ps) hI1 (by omega) (by omega) (r13 (by decide)) (fun _ _=>?_))))
   all_goals(refine aC ?_;exact aB (hK _ _))
theorem LY (hI:bR B s) (hB:B+300<=249000000) (hr:bV ⟨1,st,e,d,k,on,w,xx,c,la,n,pa,pn,pc,ps⟩) (hv:dE R pa oG ps) (hn:ps.length=pn) (hK:∀M mc,K (.tuple #[]) (cY x a (bM ⟨1,st,e,d,k,on,w,xx,c,la,n,pa,pn,pc,ps⟩ s) M mc R)):CT 55 #[PO x,.agg #[I6 1,I6 st,.bool e,.string d,I6 k,I6 on,I6 w,.bool xx,I6 c,I6 la,I6 n,.slice pa pn pc]] (cY x a s M mc R) K:=by
 have hI1:=f8 hI
 obtain⟨r1,r2,r3,r4,r5,r6,r7,r8,r9,r10,r11,r12,r13,r14,r15,r16,r17,r18,r19,r20,r21⟩:=hr
 dsimp only at r1 r2 r3 r4 r13 r15 r21
 have hps:pn<=1000000:=by omega
 unfold bM eM at hK
 dsimp only at hK
 rw[if_neg (show ¬(1:Int)=5 by decide),if_neg (show ¬(1:Int)=6 by decide),if_neg (show ¬(1:Int)=7 by decide),if_neg (show ¬(1:Int)=8 by decide),if_neg (show ¬(1:Int)=9 by decide),if_neg (show ¬(1:Int)=2 by decide)] at hK
 dsimp only[cY,p8]
 by_cases h0:st=0
 ·exfalso;omega
 ·rw[if_neg h0] at hK
  cases hp:rI { s with bt:=bN s.bt s.now } st
  ·rw[if_pos hp] at hK
   refine aJ Tryz.func55 ?_
   repeat' (first|refine zB ?_|refine dw bO ?_|refine dw bL ?_|refine w5 ?_ ?_|((refine bh fun h=>?_) <;> try exact w6 h)|(refine aF fun hA=>?_;subst hA)|intro _|(show aA _ 112 _ _ _;refine CA (h:=dH (b:=s.bt) (now:=s.now) ?_))|(show aA _ 120 _ _ _;refine CA (h:=jE (x:=x) (a:=a) (s:= { s with bt:=bN s.bt s.now }) (M:=M) (mc:=mc) ?_);rw[hp])|(show aA _ 57 _ _ _;refine CA (h:=dK (x:=x) (a:=a) (s:= { s with bt:=bN s.bt s.now }) hI1 (by decide) (by decide) (fun _ _=>?_))))
   all_goals(refine aC ?_;exact aB (hK _ _))
  ·rw[if_neg (by rw[hp];decide)] at hK
   rw[if_pos (by decide)] at hK
   refine aJ Tryz.func55 ?_
   repeat' (first|refine zB ?_|refine dw bO ?_|refine dw bL ?_|refine w5 ?_ ?_|((refine bh fun h=>?_) <;> try exact w6 h)|(refine aF fun hA=>?_;subst hA)|intro _|(show aA _ 112 _ _ _;refine CA (h:=dH (b:=s.bt) (now:=s.now) ?_))|(show aA _ 120 _ _ _;refine CA (h:=jE (x:=x) (a:=a) (s:= { s with bt:=bN s.bt s.now }) (M:=M) (mc:=mc) ?_);rw[hp])|(show aA _ 121 _ _ _;refine CA (h:=Rz (x:=x) (a:=a) (s:= { s with bt:=bN s.bt s.now }) (ps:=ps) hI1 (by omega) (by omega) (r13 (by decide)) (fun _ _=>?_))))
   all_goals(refine aC ?_;exact aB (hK _ _))
theorem K5 (hI:bR B s) (hB:B+300<=249000000) (hr:bV ⟨3,st,e,d,k,on,w,xx,c,la,n,pa,pn,pc,ps⟩) (hv:dE R pa oG ps) (hn:ps.length=pn) (hK:∀M mc,K (.tuple #[]) (cY x a (bM ⟨3,st,e,d,k,on,w,xx,c,la,n,pa,pn,pc,ps⟩ s) M mc R)):CT 55 #[PO x,.agg #[I6 3,I6 st,.bool e,.string d,I6 k,I6 on,I6 w,.bool xx,I6 c,I6 la,I6 n,.slice pa pn pc]] (cY x a s M mc R) K:=by
 have hI1:=f8 hI
 obtain⟨r1,r2,r3,r4,r5,r6,r7,r8,r9,r10,r11,r12,r13,r14,r15,r16,r17,r18,r19,r20,r21⟩:=hr
 dsimp only at r1 r2 r3 r4 r13 r15 r21
 have hps:pn<=1000000:=by omega
 unfold bM eM at hK
 dsimp only at hK
 rw[if_neg (show ¬(3:Int)=5 by decide),if_neg (show ¬(3:Int)=6 by decide),if_neg (show ¬(3:Int)=7 by decide),if_neg (show ¬(3:Int)=8 by decide),if_neg (show ¬(3:Int)=9 by decide),if_neg (show ¬(3:Int)=2 by decide)] at hK
 dsimp only[cY,p8]
 by_cases h0:st=0
 ·exfalso;omega
 ·rw[if_neg h0] at hK
  cases hp:rI { s with bt:=bN s.bt s.now } st
  ·rw[if_pos hp] at hK
   refine aJ Tryz.func55 ?_
   repeat' (first|refine zB ?_|refine dw bO ?_|refine dw bL ?_|refine w5 ?_ ?_|((refine bh fun h=>?_) <;> try exact w6 h)|(refine aF fun hA=>?_;subst hA)|intro _|(show aA _ 112 _ _ _;refine CA (h:=dH (b:=s.bt) (now:=s.now) ?_))|(show aA _ 120 _ _ _;refine CA (h:=jE (x:=x) (a:=a) (s:= { s with bt:=bN s.bt s.now }) (M:=M) (mc:=mc) ?_);rw[hp])|(show aA _ 57 _ _ _;refine CA (h:=dK (x:=x) (a:=a) (s:= { s with bt:=bN s.bt s.now }) hI1 (by decide) (by decide) (fun _ _=>?_))))
   all_goals(refine aC ?_;exact aB (hK _ _))
  ·rw[if_neg (by rw[hp];decide)] at hK
   rw[if_neg (by decide)] at hK
   refine aJ Tryz.func55 ?_
   repeat' (first|refine zB ?_|refine dw bO ?_|refine dw bL ?_|refine w5 ?_ ?_|((refine bh fun h=>?_) <;> try exact w6 h)|(refine aF fun hA=>?_;subst hA)|intro _|(show aA _ 112 _ _ _;refine CA (h:=dH (b:=s.bt) (now:=s.now) ?_))|(show aA _ 120 _ _ _;refine CA (h:=jE (x:=x) (a:=a) (s:= { s with bt:=bN s.bt s.now }) (M:=M) (mc:=mc) ?_);rw[hp])|(show aA _ 122 _ _ _;refine CA (h:=Nn (x:=x) (a:=a) (s:= { s with bt:=bN s.bt s.now }) (ps:=ps) hI1 (by omega) (fun _ _=>?_))))
   all_goals(refine aC ?_;exact aB (hK _ _))
theorem M8 (hI:bR B s) (hB:B+300<=249000000) (hr:bV ⟨4,st,e,d,k,on,w,xx,c,la,n,pa,pn,pc,ps⟩) (hv:dE R pa oG ps) (hn:ps.length=pn) (hK:∀M mc,K (.tuple #[]) (cY x a (bM ⟨4,st,e,d,k,on,w,xx,c,la,n,pa,pn,pc,ps⟩ s) M mc R)):CT 55 #[PO x,.agg #[I6 4,I6 st,.bool e,.string d,I6 k,I6 on,I6 w,.bool xx,I6 c,I6 la,I6 n,.slice pa pn pc]] (cY x a s M mc R) K:=by
 have hI1:=f8 hI
 obtain⟨r1,r2,r3,r4,r5,r6,r7,r8,r9,r10,r11,r12,r13,r14,r15,r16,r17,r18,r19,r20,r21⟩:=hr
 dsimp only at r1 r2 r3 r4 r13 r15 r21
 have hps:pn<=1000000:=by omega
 unfold bM eM at hK
 dsimp only at hK
 rw[if_neg (show ¬(4:Int)=5 by decide),if_neg (show ¬(4:Int)=6 by decide),if_neg (show ¬(4:Int)=7 by decide),if_neg (show ¬(4:Int)=8 by decide),if_neg (show ¬(4:Int)=9 by decide),if_neg (show ¬(4:Int)=2 by decide)] at hK
 dsimp only[cY,p8]
 by_cases h0:st=0
 ·exfalso;omega
 ·rw[if_neg h0] at hK
  cases hp:rI { s with bt:=bN s.bt s.now } st
  ·rw[if_pos hp] at hK
   refine aJ Tryz.func55 ?_
   repeat' (first|refine zB ?_|refine dw bO ?_|refine dw bL ?_|refine w5 ?_ ?_|((refine bh fun h=>?_) <;> try exact w6 h)|(refine aF fun hA=>?_;subst hA)|intro _|(show aA _ 112 _ _ _;refine CA (h:=dH (b:=s.bt) (now:=s.now) ?_))|(show aA _ 120 _ _ _;refine CA (h:=jE (x:=x) (a:=a) (s:= { s with bt:=bN s.bt s.now }) (M:=M) (mc:=mc) ?_);rw[hp])|(show aA _ 57 _ _ _;refine CA (h:=dK (x:=x) (a:=a) (s:= { s with bt:=bN s.bt s.now }) hI1 (by decide) (by decide) (fun _ _=>?_))))
   all_goals(refine aC ?_;exact aB (hK _ _))
  ·rw[if_neg (by rw[hp];decide)] at hK
   rw[if_neg (by decide)] at hK
   refine aJ Tryz.func55 ?_
   repeat' (first|refine zB ?_|refine dw bO ?_|refine dw bL ?_|refine w5 ?_ ?_|((refine bh fun h=>?_) <;> try exact w6 h)|(refine aF fun hA=>?_;subst hA)|intro _|(show aA _ 112 _ _ _;refine CA (h:=dH (b:=s.bt) (now:=s.now) ?_))|(show aA _ 120 _ _ _;refine CA (h:=jE (x:=x) (a:=a) (s:= { s with bt:=bN s.bt s.now }) (M:=M) (mc:=mc) ?_);rw[hp])|(show aA _ 122 _ _ _;refine CA (h:=Og (x:=x) (a:=a) (s:= { s with bt:=bN s.bt s.now }) (ps:=ps) hI1 (by omega) (fun _ _=>?_))))
   all_goals(refine aC ?_;exact aB (hK _ _))
theorem Jr (hI:bR B s) (hB:B+300<=249000000) (hr:bV ⟨10,st,e,d,k,on,w,xx,c,la,n,pa,pn,pc,ps⟩) (hv:dE R pa oG ps) (hn:ps.length=pn) (hK:∀M mc,K (.tuple #[]) (cY x a (bM ⟨10,st,e,d,k,on,w,xx,c,la,n,pa,pn,pc,ps⟩ s) M mc R)):CT 55 #[PO x,.agg #[I6 10,I6 st,.bool e,.string d,I6 k,I6 on,I6 w,.bool xx,I6 c,I6 la,I6 n,.slice pa pn pc]] (cY x a s M mc R) K:=by
 have hI1:=f8 hI
 obtain⟨r1,r2,r3,r4,r5,r6,r7,r8,r9,r10,r11,r12,r13,r14,r15,r16,r17,r18,r19,r20,r21⟩:=hr
 dsimp only at r1 r2 r3 r4 r13 r15 r21
 have hps:pn<=1000000:=by omega
 unfold bM eM at hK
 dsimp only at hK
 rw[if_neg (show ¬(10:Int)=5 by decide),if_neg (show ¬(10:Int)=6 by decide),if_neg (show ¬(10:Int)=7 by decide),if_neg (show ¬(10:Int)=8 by decide),if_neg (show ¬(10:Int)=9 by decide),if_neg (show ¬(10:Int)=2 by decide)] at hK
 dsimp only[cY,p8]
 by_cases h0:st=0
 ·subst h0
  rw[if_pos rfl] at hK
  refine aJ Tryz.func55 ?_
  repeat' (first|refine zB ?_|refine dw bO ?_|refine dw bL ?_|refine w5 ?_ ?_|((refine bh fun h=>?_) <;> try exact w6 h)|(refine aF fun hA=>?_;subst hA)|intro _|(show aA _ 112 _ _ _;refine CA (h:=dH (b:=s.bt) (now:=s.now) ?_))|(show aA _ 119 _ _ _;refine CA (h:=Ie (x:=x) (a:=a) (s:= { s with bt:=bN s.bt s.now }) (ps:=ps) hI1 (fun _ _=>?_))))
  all_goals(refine aC ?_;exact aB (hK _ _))
 ·rw[if_neg h0] at hK
  cases hp:rI { s with bt:=bN s.bt s.now } st
  ·rw[if_pos hp] at hK
   refine aJ Tryz.func55 ?_
   repeat' (first|refine zB ?_|refine dw bO ?_|refine dw bL ?_|refine w5 ?_ ?_|((refine bh fun h=>?_) <;> try exact w6 h)|(refine aF fun hA=>?_;subst hA)|intro _|(show aA _ 112 _ _ _;refine CA (h:=dH (b:=s.bt) (now:=s.now) ?_))|(show aA _ 120 _ _ _;refine CA (h:=jE (x:=x) (a:=a) (s:= { s with bt:=bN s.bt s.now }) (M:=M) (mc:=mc) ?_);rw[hp])|(show aA _ 57 _ _ _;refine CA (h:=dK (x:=x) (a:=a) (s:= { s with bt:=bN s.bt s.now }) hI1 (by decide) (by decide) (fun _ _=>?_))))
   all_goals(refine aC ?_;exact aB (hK _ _))
  ·rw[if_neg (by rw[hp];decide)] at hK
   rw[if_neg (by decide)] at hK
   refine aJ Tryz.func55 ?_
   repeat' (first|refine zB ?_|refine dw bO ?_|refine dw bL ?_|refine w5 ?_ ?_|((refine bh fun h=>?_) <;> try exact w6 h)|(refine aF fun hA=>?_;subst hA)|intro _|(show aA _ 112 _ _ _;refine CA (h:=dH (b:=s.bt) (now:=s.now) ?_))|(show aA _ 120 _ _ _;refine CA (h:=jE (x:=x) (a:=a) (s:= { s with bt:=bN s.bt s.now }) (M:=M) (mc:=mc) ?_);rw[hp])|(show aA _ 122 _ _ _;refine CA (h:=LD (x:=x) (a:=a) (s:= { s with bt:=bN s.bt s.now }) (ps:=ps) hI1 (by omega) (fun _ _=>?_))))
   all_goals(refine aC ?_;exact aB (hK _ _))
theorem Jl (hI:bR B s) (hB:B+300<=249000000) (hr:bV ⟨11,st,e,d,k,on,w,xx,c,la,n,pa,pn,pc,ps⟩) (hv:dE R pa oG ps) (hn:ps.length=pn) (hK:∀M mc,K (.tuple #[]) (cY x a (bM ⟨11,st,e,d,k,on,w,xx,c,la,n,pa,pn,pc,ps⟩ s) M mc R)):CT 55 #[PO x,.agg #[I6 11,I6 st,.bool e,.string d,I6 k,I6 on,I6 w,.bool xx,I6 c,I6 la,I6 n,.slice pa pn pc]] (cY x a s M mc R) K:=by
 have hI1:=f8 hI
 obtain⟨r1,r2,r3,r4,r5,r6,r7,r8,r9,r10,r11,r12,r13,r14,r15,r16,r17,r18,r19,r20,r21⟩:=hr
 dsimp only at r1 r2 r3 r4 r13 r15 r21
 have hps:pn<=1000000:=by omega
 unfold bM eM at hK
 dsimp only at hK
 rw[if_neg (show ¬(11:Int)=5 by decide),if_neg (show ¬(11:Int)=6 by decide),if_neg (show ¬(11:Int)=7 by decide),if_neg (show ¬(11:Int)=8 by decide),if_neg (show ¬(11:Int)=9 by decide),if_neg (show ¬(11:Int)=2 by decide)] at hK
 dsimp only[cY,p8]
 by_cases h0:st=0
 ·subst h0
  rw[if_pos rfl] at hK
  refine aJ Tryz.func55 ?_
  repeat' (first|refine zB ?_|refine dw bO ?_|refine dw bL ?_|refine w5 ?_ ?_|((refine bh fun h=>?_) <;> try exact w6 h)|(refine aF fun hA=>?_;subst hA)|intro _|(show aA _ 112 _ _ _;refine CA (h:=dH (b:=s.bt) (now:=s.now) ?_))|(show aA _ 119 _ _ _;refine CA (h:=Ie (x:=x) (a:=a) (s:= { s with bt:=bN s.bt s.now }) (ps:=ps) hI1 (fun _ _=>?_))))
  all_goals(refine aC ?_;exact aB (hK _ _))
 ·rw[if_neg h0] at hK
  cases hp:rI { s with bt:=bN s.bt s.now } st
  ·rw[if_pos hp] at hK
   refine aJ Tryz.func55 ?_
   repeat' (first|refine zB ?_|refine dw bO ?_|refine dw bL ?_|refine w5 ?_ ?_|((refine bh fun h=>?_) <;> try exact w6 h)|(refine aF fun hA=>?_;subst hA)|intro _|(show aA _ 112 _ _ _;refine CA (h:=dH (b:=s.bt) (now:=s.now) ?_))|(show aA _ 120 _ _ _;refine CA (h:=jE (x:=x) (a:=a) (s:= { s with bt:=bN s.bt s.now }) (M:=M) (mc:=mc) ?_);rw[hp])|(show aA _ 57 _ _ _;refine CA (h:=dK (x:=x) (a:=a) (s:= { s with bt:=bN s.bt s.now }) hI1 (by decide) (by decide) (fun _ _=>?_))))
   all_goals(refine aC ?_;exact aB (hK _ _))
  ·rw[if_neg (by rw[hp];decide)] at hK
   rw[if_neg (by decide)] at hK
   refine aJ Tryz.func55 ?_
   repeat' (first|refine zB ?_|refine dw bO ?_|refine dw bL ?_|refine w5 ?_ ?_|((refine bh fun h=>?_) <;> try exact w6 h)|(refine aF fun hA=>?_;subst hA)|intro _|(show aA _ 112 _ _ _;refine CA (h:=dH (b:=s.bt) (now:=s.now) ?_))|(show aA _ 120 _ _ _;refine CA (h:=jE (x:=x) (a:=a) (s:= { s with bt:=bN s.bt s.now }) (M:=M) (mc:=mc) ?_);rw[hp])|(show aA _ 122 _ _ _;refine CA (h:=LJ (x:=x) (a:=a) (s:= { s with bt:=bN s.bt s.now }) (ps:=ps) hI1 (by omega) (fun _ _=>?_))))
   all_goals(refine aC ?_;exact aB (hK _ _))
theorem FU (hI:bR B s) (hB:B+300<=249000000) (hr:bV f) (hv:dE R f.pa oG f.ps) (hn:f.ps.length=f.pn) (hK:∀M mc,K (.tuple #[]) (cY x a (bM f s) M mc R)):CT 55 #[PO x,.agg #[I6 f.t,I6 f.st,.bool f.e,.string f.d,I6 f.k,I6 f.on,I6 f.w,.bool f.x,I6 f.c,I6 f.la,I6 f.n,.slice f.pa f.pn f.pc]] (cY x a s M mc R) K:=by
 have ht:=hr.1
 obtain⟨t,st,e,d,k,on,w,xx,c,la,n,pa,pn,pc,ps⟩:=f
 dsimp only at ht hv hn ⊢
 rcases(by omega:t=0\/t=1\/t=2\/t=3\/t=4\/t=5\/t=6\/t=7\/t=8\/t=9\/t=10\/t=11) with rfl|rfl|rfl|rfl|rfl|rfl|rfl|rfl|rfl|rfl|rfl|rfl
 ·exact Mg hI hB hr hv hn hK
 ·exact LY hI hB hr hv hn hK
 ·exact Ll hI hB hr hv hn hK
 ·exact K5 hI hB hr hv hn hK
 ·exact M8 hI hB hr hv hn hK
 ·exact MJ hI hB hr hv hn hK
 ·exact Mh hI hB hr hv hn hK
 ·exact ME hI hB hr hv hn hK
 ·exact LH hI hB hr hv hn hK
 ·exact LC hI hB hr hv hn hK
 ·exact Jr hI hB hr hv hn hK
 ·exact Jl hI hB hr hv hn hK
theorem Px {p:ByteArray} (h:Bn p=none):bV (F5 p):=by
 unfold Bn at h
 split at h
 ·cases h
 ·split at h
  ·split at h
   ·split at h
    ·cases h
    ·split at h
     ·rename_i hg
      unfold gE at hg
      split at hg
      ·split at hg
       ·split at hg
        ·rename_i hk
         unfold gOk gB at hk
         rw[Bool.and_eq_true] at hk
         exact(tK _ _ _ _ _ _ _ _ _ _ _ _).1 hk.1
        ·cases hg
       ·cases hg
      ·rename_i hq;first|exact absurd hg hq|exact absurd (by assumption) hq
     ·cases h
   ·cases h
  ·cases h
theorem YS:∀(k:Nat) (bs:List UInt8),bs.length<=k->∀p∈(pF bs).1,Bn p=none:=by
 intro k
 induction k with
 |zero=>
  intro bs hb p hp
  cases hs:Bn (kO bs) with
  |some e=>rw[u7 hs] at hp;cases hp
  |none=>
   exfalso
   have h0:bs.length=0:=by omega
   unfold Bn at hs
   rw[if_pos (by rw[m7];omega)] at hs
   cases hs
 |succ k ih=>
  intro bs hb p hp
  cases hs:Bn (kO bs) with
  |some e=>rw[u7 hs] at hp;cases hp
  |none=>
   rw[Dk hs] at hp
   rcases List.mem_cons.1 hp with rfl|hp
   ·exact hs
   ·refine ih _ ?_ p hp
    have h9:¬(kO bs).size<9:=fun hq=>by unfold Bn at hs;rw[if_pos hq] at hs;cases hs
    rw[m7] at h9
    have hL:0<=sL (kO bs):=by
     unfold Bn at hs
     split at hs
     ·cases hs
     ·split at hs
      ·split at hs
       ·rename_i hf;exact(MA hf).1
       ·cases hs
      ·cases hs
    rw[List.length_drop]
    omega
theorem SF {fs:List Fm} {bs:List UInt8} (h:fs.map iN=(pF bs).1.map F5):∀z∈fs,bV z/\z.ps.length=z.pn:=fun z hz=>by
 have h1:iN z∈(pF bs).1.map F5:=by rw[<- h];exact List.mem_map_of_mem hz
 obtain⟨p,hp,he⟩:=List.mem_map.1 h1
 have h2:=Px (YS bs.length bs (Nat.le_refl _) p hp)
 rw[he] at h2
 refine⟨h2,?_⟩
 have h3:(F5 p).ps.length=(F5 p).pn:=rfl
 rw[he] at h3
 exact h3
theorem Db {u:List UInt8} (h:bR B s) (hB:B+u.length<=250000000):bR (B+u.length) (iC u (aD s)).2:=
 { h.mono (B':=B+u.length) (by omega) hB with
   inb:=by
    have h1:=h.inb
    have h2:=(Ux (s.inb++u).length (s.inb++u) (Nat.le_refl _)).2
    rw[List.length_append] at h2
    show((if(pF (s.inb++u)).2.2=0 then(pF (s.inb++u)).2.1 else []:List UInt8).length:Int)<=B+u.length
    split
    ·omega
    ·have:=h.bb;simp only[List.length_nil];omega
   mv:=by
    have h1:=h.mv
    have:=h.bb
    show(([]:List Mv).length:Int)+s.l.length<=B+u.length
    simp only[List.length_nil];omega }
theorem Zd {ks:List UInt8} {s:ByteArray} {e0:Int} (h0:e0=0) (hz:ks.length+s.size<4000000) (hK:∀F c fs,fs.map iN=(pF (ks++s.data.toList)).1.map F5->K (.tuple #[.slice F fs.length c,I6 (pF (ks++s.data.toList)).2.2]) (bU F c 45 tC fs::kS xP fs::spP x (if(pF (ks++s.data.toList)).2.2=0 then(pF (ks++s.data.toList)).2.1 else []) (pF (ks++s.data.toList)).2.2::R)):CT 54 #[PO x,.string s] (spP x ks e0::R) K:=by
 subst h0;exact Ae1 hz hK
theorem Wz {u:ByteArray} (hI:bR B s) (he:s.dr.ov=true\/s.ine=0) (hu:s.inb.length+u.size<4000000) (hB:B+u.size+300 * (pF (s.inb++u.data.toList)).1.length<=248000000) (hK:∀M mc,K (I6 (vL s)) (cY x a (kC u.data.toList s) M mc R)):CT 11 #[PO x,.string u] (cY x a s M mc R) K:=by
 have hbb:=hI.bb
 have hsz:u.data.toList.length=u.size:=Array.length_toList
 unfold vL kC at hK
 cases ho:s.dr.ov
 ·rw[ho] at hK
  simp only[Bool.false_eq_true,if_false] at hK
  have hine:s.ine=0:=he.resolve_left (by rw[ho];decide)
  have hI1:=Db (u:=u.data.toList) hI (by omega)
  have hst:(iC u.data.toList (aD s)).2= { aD s with inb:=(if(pF (s.inb++u.data.toList)).2.2=0 then(pF (s.inb++u.data.toList)).2.1 else []),ine:=(pF (s.inb++u.data.toList)).2.2 }:=rfl
  have hfs:(iC u.data.toList (aD s)).1=(pF (s.inb++u.data.toList)).1.map F5:=rfl
  rw[hfs] at hK
  generalize hs1:(iC u.data.toList (aD s)).2=s1 at hK hst hI1
  have ho1:s1.dr.ov=false:=by rw[hst];exact ho
  refine aJ Tryz.func11 ?_
  repeat' (first|refine Qo ?_|refine w5 ?_ ?_|((refine bh fun h=>?_) <;> try exact w6 h)|(refine aF fun hA=>?_;subst hA)|intro _|(show aA _ 53 _ _ _;refine CA (h:=d6 (x:=x) (a:=a) (s:=s) (M:=M) (mc:=mc) (R:=R) ?_);rw[ho,if_neg Bool.false_ne_true])|(show aA _ 54 _ _ _;refine CA (h:=Zd (e0:=(aD s).ine) (ks:=s.inb) (s:=u) hine hu (fun F c fs hfe=>?_))))
  subst hst
  have hfl:=congrArg List.length hfe
  simp only[List.length_map] at hfl
  refine iH (fun n1 a' C'=>∃(j:Nat) (s':Cn) (M':Option Addr) (mc':Nat),j+n1=fs.length/\bR (B+u.data.toList.length+300 * j) s'/\s'.dr.ov=false/\eD ((fs.drop j).map iN) s'=eD ((pF (s.inb++u.data.toList)).1.map F5) { aD s with inb:=(if(pF (s.inb++u.data.toList)).2.2=0 then(pF (s.inb++u.data.toList)).2.1 else []),ine:=(pF (s.inb++u.data.toList)).2.2 }/\cW a' [(0,PO x),(7,I6 (pF (s.inb++u.data.toList)).2.2),(24,.slice F fs.length c),(25,I6 fs.length),(26,I6 j)]/\C'=bU F c 45 tC fs::kS xP fs::cY x a s' M' mc' R) fs.length (cG fs.length ⟨0,{ aD s with inb:=(if(pF (s.inb++u.data.toList)).2.2=0 then(pF (s.inb++u.data.toList)).2.1 else []),ine:=(pF (s.inb++u.data.toList)).2.2 },none,0,by omega,hI1.mono (by omega) (by omega),ho1,by rw[List.drop_zero,hfe],⟨rfl,rfl,rfl,rfl,rfl,trivial⟩,rfl⟩ (by omega)) ?_
  rintro n1 a' C' ⟨j,s',M',mc',hj,hI',ho',hc,ha,rfl⟩
  refine gJ _ ha ?_
  simp only[fF]
  by_cases hlt:j<fs.length
  ·obtain⟨z,hz,hd⟩:=i0 (l:=fs) (j:=j) hlt
   have hzm:=List.mem_of_getElem? hz
   obtain⟨hzr,hzn⟩:=SF hfe z hzm
   have hv:fs[((j:Nat):Int).toNat]?=some z:=by rw[Int.toNat_natCast];exact hz
   rw[hd] at hc
   have hc2:(if(bM z s').dr.ov=true then bM z s' else eD ((fs.drop (j+1)).map iN) (bM z s'))=eD ((pF (s.inb++u.data.toList)).1.map F5) { aD s with inb:=(if(pF (s.inb++u.data.toList)).2.2=0 then(pF (s.inb++u.data.toList)).2.1 else []),ine:=(pF (s.inb++u.data.toList)).2.2 }:=hc
   have hI2:=CL hI' (by omega) hzr
   cases hov:(bM z s').dr.ov
   ·rw[hov,if_neg Bool.false_ne_true] at hc2
    repeat' (first|refine Qo ?_|refine w5 ?_ ?_|((refine bh fun h=>?_) <;> try exact w6 h)|(refine aF fun hA=>?_;subst hA)|intro _|(show aA _ 55 _ _ _;refine CA (h:=FU (x:=x) (a:=a) (s:=s') (M:=M') (mc:=mc') (R:=bU _ c 45 tC fs::kS xP fs::R) (f:=z) hI' (by omega) hzr (bF (wL hzm)) hzn (fun _ _=>?_)))|(show aA _ 56 _ _ _;refine CA (h:=kI (x:=x) (a:=a) (s:=bM z s') ?_);rw[hov]))
    all_goals(show aZ _ _ _ _;exact cG (n1 - 1) ⟨j+1,bM z s',_,_,by omega,hI2.mono (by omega) (by omega),hov,hc2,⟨rfl,rfl,rfl,rfl,rfl,trivial⟩,rfl⟩)
   ·rw[hov,if_pos rfl] at hc2
    rw[<- hc2,if_pos (.inl hov)] at hK
    repeat' (first|refine Qo ?_|refine w5 ?_ ?_|((refine bh fun h=>?_) <;> try exact w6 h)|(refine aF fun hA=>?_;subst hA)|intro _|(show aA _ 55 _ _ _;refine CA (h:=FU (x:=x) (a:=a) (s:=s') (M:=M') (mc:=mc') (R:=bU _ c 45 tC fs::kS xP fs::R) (f:=z) hI' (by omega) hzr (bF (wL hzm)) hzn (fun _ _=>?_)))|(show aA _ 56 _ _ _;refine CA (h:=kI (x:=x) (a:=a) (s:=bM z s') ?_);rw[hov]))
    all_goals(refine aC ?_;exact aB (hK _ _))
  ·have hd:fs.drop j= []:=List.drop_eq_nil_of_le (by omega)
   rw[hd] at hc
   have hc2:s'=eD ((pF (s.inb++u.data.toList)).1.map F5) { aD s with inb:=(if(pF (s.inb++u.data.toList)).2.2=0 then(pF (s.inb++u.data.toList)).2.1 else []),ine:=(pF (s.inb++u.data.toList)).2.2 }:=hc
   rw[<- hc2] at hK
   by_cases hE:(pF (s.inb++u.data.toList)).2.2=0
   ·rw[if_pos (.inr hE)] at hK
    repeat' (first|refine Qo ?_|refine w5 ?_ ?_|((refine bh fun h=>?_) <;> try exact w6 h)|(refine aF fun hA=>?_;subst hA)|intro _)
    all_goals(refine aC ?_;exact aB (hK _ _))
   ·rw[if_neg (fun q=>q.elim (fun w=>by rw[ho'] at w;cases w) hE)] at hK
    repeat' (first|(show Br _ _ _;refine Br.t (by first|(simp <;> done)|simpa using hE) ?_)|refine Qo ?_|refine w5 ?_ ?_|((refine bh fun h=>?_) <;> try exact w6 h)|(refine aF fun hA=>?_;subst hA)|intro _|(show aA _ 57 _ _ _;refine CA (h:=dK (x:=x) (a:=a) (s:=s') hI' (by decide) (by decide) (fun _ _=>?_))))
    all_goals(refine aC ?_;exact aB (hK _ _))
 ·rw[ho,if_pos rfl,if_pos rfl] at hK
  refine aJ Tryz.func11 ?_
  repeat' (first|refine Qo ?_|refine w5 ?_ ?_|((refine bh fun h=>?_) <;> try exact w6 h)|(refine aF fun hA=>?_;subst hA)|intro _|(show aA _ 53 _ _ _;refine CA (h:=d6 (x:=x) (a:=a) (s:=s) (M:=M) (mc:=mc) (R:=R) ?_);rw[ho,if_pos rfl]))
  all_goals(refine aC ?_;exact aB (hK _ _))
theorem JX (h:d7 s id=0):s.dr.ov=false/\∃m,bX id s.l=some m:=by
 unfold d7 at h
 cases ho:s.dr.ov
 ·refine⟨rfl,?_⟩
  rw[ho,if_neg Bool.false_ne_true] at h
  cases hm:bX id s.l with
  |some m=>exact⟨m,rfl⟩
  |none=>
   rw[hm] at h
   dsimp only at h
   split at h <;> cases h
 ·rw[ho,if_pos rfl] at h;cases h
theorem AZ:(zN m d).id=m.id:=by unfold zN;split <;> rfl
theorem Gm:(E7 m).id=m.id:=by unfold E7;split <;> rfl
theorem Sw (hI:bR B s) (hd:d.size<=100000000) (hK:K (.tuple #[I6 (pN id d s).1,I6 (pN id d s).2]) (cY x a (nH id d s) none 0 R)):CT 21 #[PO x,I6 id,.string d] (cY x a s M mc R) K:=by
 have hbb:=hI.bb
 unfold pN nH at hK
 by_cases hf:d7 s id=0
 ·obtain⟨ho,m,hm⟩:=JX hf
  obtain⟨hi,hmid⟩:=aX hm
  have hac:=(hI.st m (List.mem_of_getElem? hi)).ac
  simp only[if_neg (fun q=>q hf:¬d7 s id≠0)] at hK
  rw[hm] at hK
  dsimp only at hK
  rw[fS (id:=id) (AZ.trans hmid)] at hK
  refine aJ Tryz.func21 ?_
  repeat' (first|refine v2 ?_|refine w5 ?_ ?_|((refine bh fun h=>?_) <;> try exact w6 h)|(refine aF fun hA=>?_;subst hA)|intro _|(show aA _ 84 _ _ _;refine CA (h:=Cd (x:=x) (a:=a) (s:=s) (M:=M) (mc:=mc) (R:=R) hI ho hm (fun _=>?_)))|(show aA _ 85 _ _ _;refine CA (h:=Aa8 (m:=m) (by omega) (by omega) ?_)))
  all_goals(refine aC ?_;exact aQ (aG.trans (by exact bE) ((pG (x:=x) (a:=a) (s:=aD s) (M:=none) (mc:=0) (R:=R) (m':=zN m d) hi AZ))) (hK))
 ·simp only[if_pos hf] at hK
  refine aJ Tryz.func21 ?_
  repeat' (first|(show Br _ _ _;refine Br.t (by first|(simp <;> done)|simpa using hf) ?_)|refine v2 ?_|refine w5 ?_ ?_|((refine bh fun h=>?_) <;> try exact w6 h)|(refine aF fun hA=>?_;subst hA)|intro _|(show aA _ 84 _ _ _;refine CA (h:=IH (x:=x) (a:=a) (s:=s) (M:=M) (mc:=mc) (R:=R) hI hf ?_)))
  all_goals(refine aC ?_;exact aB (hK))
theorem Ajd:jH (SI y n)=jH y:=by cases y <;> rfl
theorem bK (h:bR B s):bR B (aD s):=
 { h with
   mv:=by
    have h1:=h.mv
    show(([]:List Mv).length:Int)+s.l.length<=B
    simp only[List.length_nil];omega }
theorem Ahq:jH (Es y n)=jH y:=by cases y <;> rfl
theorem All:jH (Ng y)=jH y:=by
 cases y with
 |b y=>rfl
 |i y=>unfold Ng;dsimp only;split <;> rfl
theorem Sx (h:Ey B m):Ey B { m with y:=Es m.y n }:=by
 obtain⟨h1,h2,h3,h4⟩:=h
 refine⟨h1,h2,?_,?_⟩
 ·cases hy:m.y <;> (rw[hy] at h3;exact h3)
 ·cases hy:m.y with
  |b z=>rw[hy] at h4;simp only[Es,gH,List.length_drop] at h4 ⊢;omega
  |i z=>rw[hy] at h4;exact h4
theorem Aci (h:Ey B m):Ey B { m with y:=Ng m.y }:=by
 obtain⟨h1,h2,h3,h4⟩:=h
 cases hy:m.y with
 |b z=>rw[hy] at h3 h4;exact⟨h1,h2,h3,h4⟩
 |i z=>
  rw[hy] at h3 h4
  cases hl:z.l with
  |nil=>
   have e:Ng (.i z)=.i z:=by simp only[Ng,hl]
   rw[e];exact⟨h1,h2,h3,h4⟩
  |cons q r=>
   have e:Ng (.i z)=.i { z with l:=r,tk:=z.tk+1 }:=by simp only[Ng,hl]
   rw[e]
   refine⟨h1,h2,h3,?_⟩
   simp only[gH,hl,List.length_cons] at h4 ⊢
   omega
theorem Af2 (h:(gH y:Int)<=B):(((BN y n).size:Nat):Int)<=max B 0:=by
 cases y with
 |b z=>
  have:(BN (.b z) n).size=min (L3 z n) z.bs.length:=by
   show((z.bs.take (L3 z n)).toArray).size=_
   simp
  simp only[gH] at h
  omega
 |i z=>show((0:Nat):Int)<=max B 0;omega
theorem WU (hI:bR B s) (hK:∀M mc,K (.tuple #[.string (lF id n s).1,.bool (lF id n s).2.1,I6 (lF id n s).2.2]) (cY x a (pU id n s) M mc R)):CT 22 #[PO x,I6 id,I6 n] (cY x a s M mc R) K:=by
 have hbb:=hI.bb
 have hrv:=hI.rv
 unfold Ha at hrv
 unfold lF pU at hK
 by_cases hf:d7 s id=0
 ·obtain⟨ho,m,hm⟩:=JX hf
  obtain⟨hi,hmid⟩:=aX hm
  have hIm:=hI.st m (List.mem_of_getElem? hi)
  have hsz:=Af2 (n:=n) hIm.ln
  simp only[if_neg (fun q=>q hf:¬d7 s id≠0)] at hK
  rw[hm] at hK
  dsimp only at hK
  by_cases hE:OV m.y=0
  ·simp only[if_neg (fun q=>q hE:¬OV m.y≠0)] at hK
   rw[fS (id:=id) (show({ m with y:=Es m.y n }:Sm).id=id from hmid)] at hK
   have hI2:bR B { ({ aD s with rv:=d8 s.rv ((BN m.y n).size:Nat) }:Cn) with l:=s.l.set (cB id s.l) { m with y:=Es m.y n } }:=mA (s:= { aD s with rv:=d8 s.rv ((BN m.y n).size:Nat) }) (nE (bK hI)) hi rfl rfl (Sx hIm)
   refine aJ Tryz.func22 ?_
   repeat' (first|refine TO ?_|refine w5 ?_ ?_|((refine bh fun h=>?_) <;> try exact w6 h)|(refine aF fun hA=>?_;subst hA)|intro _|(show aA _ 84 _ _ _;refine CA (h:=Cd (x:=x) (a:=a) (s:=s) (M:=M) (mc:=mc) (R:=R) hI ho hm (fun _=>?_)))|(show aA _ 67 _ _ _;first|refine CA (h:=BG (m:=m) (fun _=>?_))|refine CA (h:=aA.ent (xO Ahq) (BG (m:= { m with y:=Es m.y n }) (fun _=>?_))))|(show aA _ 86 _ _ _;refine CA (h:=Qc (y:=m.y) ?_);rw[hE])|(show aA _ 87 _ _ _;refine CA (h:=uO (y:=s.rv) (by omega) (by omega) (fun _=>?_)))|(show aA _ 88 _ _ _;refine CA (h:=YP (y:=Es m.y n) ?_))|(show aA _ 89 _ _ _;refine CA (h:=aA.ent (xO (m:= { m with y:=Es m.y n }) (y:=Es m.y n) rfl) (mC (x:=x) (a:=a) (s:= { aD s with rv:=d8 s.rv ((BN m.y n).size:Nat) }) (i:=cB id s.l) (m:=m) (M:=none) (mc:=0) (R:=R) (m':= { m with y:=Es m.y n }) hi rfl hI2 (mM hm rfl) (fun _ _=>?_)))))
   all_goals(refine aC ?_;exact aB (hK _ _))
  ·simp only[if_pos hE] at hK
   have hy:Es m.y n=m.y/\BN m.y n=⟨#[]⟩:=by cases hq:m.y with
    |b z=>rw[hq] at hE;exact absurd rfl hE
    |i z=>exact⟨rfl,rfl⟩
   refine aJ Tryz.func22 ?_
   repeat' (first|(show Br _ _ _;refine Br.t (by first|(simp <;> done)|simpa using hE) ?_)|refine TO ?_|refine w5 ?_ ?_|((refine bh fun h=>?_) <;> try exact w6 h)|(refine aF fun hA=>?_;subst hA)|intro _|(show aA _ 84 _ _ _;refine CA (h:=Cd (x:=x) (a:=a) (s:=s) (M:=M) (mc:=mc) (R:=R) hI ho hm (fun _=>?_)))|(show aA _ 67 _ _ _;refine CA (h:=BG (m:=m) (fun _=>?_)))|(show aA _ 86 _ _ _;refine CA (h:=Qc (y:=m.y) ?_);rw[hy.1,hy.2]))
   all_goals(refine aC ?_;exact aQ (aG.trans (by exact bE) ((aG.trans (xO (m:=m) (y:=m.y) rfl) (f3 (x:=x) (a:=a) (s:=aD s) (M:=none) (mc:=0) (R:=R) hi)))) (hK _ _))
 ·simp only[if_pos hf] at hK
  refine aJ Tryz.func22 ?_
  repeat' (first|(show Br _ _ _;refine Br.t (by first|(simp <;> done)|simpa using hf) ?_)|refine TO ?_|refine w5 ?_ ?_|((refine bh fun h=>?_) <;> try exact w6 h)|(refine aF fun hA=>?_;subst hA)|intro _|(show aA _ 84 _ _ _;refine CA (h:=IH (x:=x) (a:=a) (s:=s) (M:=M) (mc:=mc) (R:=R) hI hf ?_)))
  all_goals(refine aC ?_;exact aB (hK _ _))
end Go.Proofs.YtffnpejdkkohcaaGreat
