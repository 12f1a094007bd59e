/- K: part 6 of an engine (a symbolic evaluator, proved against the model) and of the walk by it. -/
import Derived.Test.YtjahlbmhknicjaaGreatK5
set_option linter.unusedVariables false
set_option linter.unusedSimpArgs false
set_option maxRecDepth 100000
set_option maxHeartbeats 0
section
namespace Go.Tk
open IntKind (i64 u8 u32 u64 wrap)
noncomputable def Zgw:Zh:=G0.withP 89 bkS
theorem Zgx:Zgw.Ok:=Zh.withP_ok Zu Zjp
def Zl1 (X:Z7) (L:List Z6) (n:Nat) (G Lf:List Z6):Z9:=⟨4,[(0,.flat (X.c (.nslice ⟨1,0,70,0,0⟩ 70 n n))),(1,.rows 70 n (Z4 L)),(2,.rows 70 G.length (Z4 G)),(3,.rows 70 Lf.length (Z4 Lf))]⟩
def Zgy (X:Z7) (L:List Z6) (n i:Nat) (G Lf:List Z6):St:=⟨62,[(14,.int .i64 i),(13,.int .i64 n),(12,.nslice ⟨1,0,70,0,0⟩ 70 n n),(2,.nslice ⟨2,0,70,0,0⟩ 70 G.length G.length),(0,.ptr (some ⟨0,0,0,0,0⟩)),(3,.nslice ⟨3,0,70,0,0⟩ 70 Lf.length Lf.length)],Zl1 X L n G Lf,[]⟩
def bkE (X:Z7) (L:List Z6) (n:Nat) (G Lf:List Z6):St:=⟨62,[(0,.ptr (some ⟨0,0,0,0,0⟩)),(2,.nslice ⟨2,0,70,0,0⟩ 70 G.length G.length),(3,.nslice ⟨3,0,70,0,0⟩ 70 Lf.length Lf.length)],Zl1 X L n G Lf,[]⟩
theorem ZhZ {x:Z6} (h:YE x.own x.stage=5):brH x=⟨x.own,x.id,x.amount,x.hash,x.expiry,5,0,Za⟩:=by unfold brH;rw [if_pos h]
theorem Zju {x:Z6} (hs:1<=x.stage/\x.stage<=9) (h0:YE x.own x.stage≠0) (h:¬YE x.own x.stage=5):brH x=x:=by
 have e:YE x.own x.stage=x.stage:=by
  rw [Z26 hs h0] at h⊢
  split
  ·rename_i q;rw [if_pos q] at h;exact absurd rfl h
  ·rfl
 unfold brH;rw [if_neg h,e]
theorem Zn1 (X X1:Z7) (L:List Z6) (n i:Nat) (x:Z6) (G Lf G1 Lf1:List Z6) (Z1 Z2:Prop) (hn:n<1000) (hL:L.length=n) (hi:i<=n) (hx:i<n->L.getD i Z8=x) (hst:i<n->1<=x.stage/\x.stage<=9) (hb:G.length<1000/\Lf.length<1000) (hG:i<n->G1=G++X4 (decide (YE x.own x.stage=0)) x) (hLf:i<n->Lf1=Lf++X4 (decide (¬YE x.own x.stage=0)) (brH x)) (hX1:i<n->X1=if YE x.own x.stage=0 then { X with i1:=X.i1-1} else X) (hw: -1000<=X.i1/\X.i1<=2147483648) (hZ1:i<n->Z1) (hZ2:i=n->Z2):
  ZB Zgw 20 30 0 2 (Zgy X L n i G Lf) (rdM 2 0 9 (Zgy X1 L n (i+1) G1 Lf1) (bkE X L n G Lf) (bkE X L n G Lf) (bkE X L n G Lf) Z1 Z2 False False):=by
 refine @Eq.mpr _ (let q1:=0+Int.toNat (↑i:Int);let q2:=List.getD L q1 Z8;let q3:=q2.stage;let q4:=q2.own;let q5:=YE q4 q3;let q6:=List.length G;let q7:=decide (q6=q6);let q8:=q6+1;let q9:=decide (wrap i64 ((↑i:Int)+1)=(↑(i+1):Int));let q10:=decide ((↑n:Int)=(↑n:Int));let q11:=decide (n=n);let q12:=decide (n<=n);let q13:=List.length G1;let q14:=decide (q8=q13);let q15:=List.length Lf;let q16:=List.length Lf1;let q17:=decide (q15=q16);let q18:=X.t;let q19:=q18.fund;let q20:=X1.t;let q21:=q19=q20.fund;let q22:=q18.index;let q23:=decide (q22=q20.index);let q24:=q18.cap;let q25:=decide (q24=q20.cap);let q26:=q18.dust;let q27:=decide (q26=q20.dust);let q28:=q18.fee;let q29:=decide (q28=q20.fee);let q30:=q18.delay;let q31:=decide (q30=q20.delay);let q32:=q18.k0;let q33:=q32=q20.k0;let q34:=q18.k1;let q35:=q34=q20.k1;let q36:=X.side;let q37:=decide (q36=X1.side);let q38:=X.res;let q39:=decide (q38=X1.res);let q40:=[X.a0,X.a1];let q41:=q40=[X1.a0,X1.a1];let q42:=[X1.i0,X1.i1];let q43:=[(3,3),(2,6)];let q44:=Z4 L;let q45:=Z4 G;let q46:=AV.bool q4;let q47:=AV.int i64 q2.id;let q48:=AV.int i64 q2.amount;let q49:=AV.arr u8 32 q2.hash;let q50:=AV.int i64 q2.expiry;let q51:=YG [q46,q47,q48,q49,q50,AV.int i64 q3,AV.int i64 q2.fin,AV.arr u8 32 q2.secret] 0 70;let q52:=Z4 Lf1;let q53:=Z4 Lf;let q54:=decide (q15=q15);let q55:=q15+1;let q56:=decide (q55*112<=140737488355328);let q57:=decide (q6=q13);let q58:=decide (q13<=q6);let q59:=decide (q55=q16);let q60:=decide (q16<=q55);let q61:=[X.i0,X.i1];let q62:=q61=q42;let q63:=[(2,2)];let q64:=(3,6)::q63;let q65:=Zc 2 q64 n q44 q44;let q66:=Zc 2 q64 q13 (Z4 G1) q45;let q67:=(3,3)::q63;
 Z0 (decide ((↑i:Int)<(↑n:Int)))
 (Z0 (decide (0<=(↑i:Int)/\(↑i:Int)<(↑n:Int)))
 (Z0 (decide (q1<n))
 (Z0 (decide (1<=q3/\q3<=9))
 (Z0 (q5==0) (Z0 q7 (Z0 (decide (q8*112<=140737488355328)) (Z0 q9 (Z0 q10 (Z0 q11 (Z0 q12 (Z0 q14 (Z0 (decide (q13<=q8)) (Z0 q17 (Z0 (decide (q16<=q15)) (q21/\Z0 q23 (Z0 q25 (Z0 q27 (Z0 q29 (Z0 q31 (q33/\q35/\Z0 q37 (Z0 q39 (q41/\[X.i0,wrap i64 (X.i1-1)]=q42/\Z0 q11 (Z0 q12 (Z0 q11 (Zc 2 q43 n q44 q44/\Z0 q14 (Zc 2 q43 q13 (Z4 G1) (ZZ q6 q45 q51)/\Z0 q17 (Zc 2 q43 q16 q52 q53/\Z1) False) False) False) False) False) False) False) False) False) False) False) False) False) False) False) False) False) False) False) False) False) False)
 (Z0 (q5==5) (Z0 q54 (Z0 q56 (Z0 q9 (Z0 q10 (Z0 q11 (Z0 q12 (Z0 q57 (Z0 q58 (Z0 q59 (Z0 q60 (q21/\Z0 q23 (Z0 q25 (Z0 q27 (Z0 q29 (Z0 q31 (q33/\q35/\Z0 q37 (Z0 q39 (q41/\q62/\Z0 q11 (Z0 q12 (Z0 q11 (q65/\Z0 q57 (q66/\Z0 q59 (Zc 2 q64 q16 q52 (ZZ q15 q53 (YG [q46,q47,q48,q49,q50,AV.int i64 q5,AV.int i64 0,AV.arr u8 32 Za] 0 70))/\Z1) False) False) False) False) False) False) False) False) False) False) False) False) False) False) False) False) False) False) False) False) False) False)
 (Z0 q54 (Z0 q56 (Z0 q9 (Z0 q10 (Z0 q11 (Z0 q12 (Z0 q57 (Z0 q58 (Z0 q59 (Z0 q60 (q21/\Z0 q23 (Z0 q25 (Z0 q27 (Z0 q29 (Z0 q31 (q33/\q35/\Z0 q37 (Z0 q39 (q41/\q62/\Z0 q11 (Z0 q12 (Z0 q11 (q65/\Z0 q57 (q66/\Z0 q59 (Zc 2 q64 q16 q52 (ZZ q15 q53 q51)/\Z1) False) False) False) False) False) False) False) False) False) False) False) False) False) False) False) False) False) False) False) False) False) False)))
 False)
 False)
 False)
 (Z0 q7 (Z0 (decide (q6<=q6)) (Z0 q54 (Z0 (decide (q15<=q15)) (q19=q19/\Z0 (decide (q22=q22)) (Z0 (decide (q24=q24)) (Z0 (decide (q26=q26)) (Z0 (decide (q28=q28)) (Z0 (decide (q30=q30)) (q32=q32/\q34=q34/\Z0 (decide (q36=q36)) (Z0 (decide (q38=q38)) (q40=q40/\q61=q61/\Z0 q11 (Z0 q12 (Z0 q11 (Zc 2 q67 n q44 q44/\Z0 q7 (Zc 2 q67 q6 q45 q45/\Z0 q54 (Zc 2 q67 q15 q53 q53/\Z2) False) False) False) False) False) False) False) False) False) False) False) False) False) False) False) False)) (by kernel_rfl) ?_
 conv=>zeta
 try simp only [Zi]
 try simp only [Zj]
 try simp only [Zf]
 try simp only [Zk]
 try simp only [Zl]
 try simp only [Zg]
 try simp only [Int.toNat_natCast,Nat.zero_add,true_and,and_true,Nat.le_refl]
 refine ⟨fun hc=> ?_,fun hc=> ?_⟩
 ·have hlt:i<n:=by omega
  rw [hx hlt]
  have hG:=hG hlt
  have hLf:=hLf hlt
  have hX1:=hX1 hlt
  have hst:=hst hlt
  have hwr:i64.wrap ((i:Int)+1)=((i+1:Nat):Int):=by rw [w64 (by omega)];omega
  have hwi:i64.wrap (X.i1-1)=X.i1-1:=w64 (by omega)
  rw [hwr,hwi]
  have hR:∀τ k (Q:List Z6),Zc 2 τ k (Z4 Q) (Z4 Q):=fun τ k Q=>Zp fun _ _=>rfl
  have hC:∀τ (Q:List Z6) (y:Z6),Zc 2 τ (Q++[y]).length (Z4 (Q++[y])) (ZZ Q.length (Z4 Q) (YG y.c 0 70)):=fun τ Q y=>Zp fun j hj=>Yk rfl (fun _ _=>rfl) (by simpa using hj)
  refine ⟨by omega,hlt,hst,fun h0=> ?_,fun h0=>⟨fun h5=> ?_,fun h5=> ?_⟩⟩
  ·have h0:YE x.own x.stage=0:=by simpa using h0
   rw [decide_eq_true h0] at hG
   rw [decide_eq_false (fun h=>h h0)] at hLf
   rw [if_pos h0] at hX1
   simp only [X4,List.append_nil] at hG hLf
   subst hG hLf hX1
   repeat' apply And.intro
   all_goals first|omega|rfl|exact hZ1 hlt|exact hC _ _ _|exact hR _ _ _|(simp;done)
  all_goals
   have h0:¬YE x.own x.stage=0:=by simpa using h0
   rw [decide_eq_false h0] at hG
   rw [decide_eq_true h0] at hLf
   rw [if_neg h0] at hX1
   simp only [X4,List.append_nil] at hG hLf
   subst hG hX1
  ·have h5:YE x.own x.stage=5:=by simpa using h5
   rw [ZhZ h5] at hLf
   rw [h5]
   subst hLf
   repeat' apply And.intro
   all_goals first|omega|rfl|exact hZ1 hlt|exact hC _ _ ⟨x.own,x.id,x.amount,x.hash,x.expiry,5,0,Za⟩|exact hR _ _ _|(simp;done)
  ·have h5:¬YE x.own x.stage=5:=by simpa using h5
   rw [Zju hst h0 h5] at hLf
   subst hLf
   repeat' apply And.intro
   all_goals first|omega|rfl|exact hZ1 hlt|exact hC _ _ x|exact hR _ _ _|(simp;done)
 ·repeat' apply And.intro
  all_goals first|omega|rfl|exact hZ2 (by omega)|exact Zp fun _ _=>rfl
theorem U6 (A:List Z6) (x:Z6):ZL (A++[x])=ZL A++X4 (decide (YE x.own x.stage=0)) x:=by
 unfold ZL
 rw [List.filter_append,VO]
theorem Z3z (A:List Z6) (x:Z6):Ym (A++[x])=Ym A++X4 (decide (¬YE x.own x.stage=0)) (brH x):=by
 unfold Ym
 rw [List.filter_append,List.map_append,VO]
 congr 1
 by_cases h:YE x.own x.stage=0<;>simp [h,X4]
def bkX (X:Z7) (i:Nat):Z7:={ X with i1:=X.i1-(ZL (X.L.take i)).length}
def Z8O (X:Z7) (n:Nat):Prop:=X.L.length=n/\n<=16/\(∀h∈X.L,1<=h.stage/\h.stage<=9)/\0<=X.i1/\X.i1<=2147483648
def Zgz (X:Z7) (n i:Nat):St:=Zgy (bkX X i) X.L n i (ZL (X.L.take i)) (Ym (X.L.take i))
def ZgA (X:Z7) (n i:Nat):St:=bkE (bkX X i) X.L n (ZL (X.L.take i)) (Ym (X.L.take i))
theorem Zn2 (X:Z7) (n i:Nat) (hC:Z8O X n) (hi:i<=n):ZB Zgw 20 30 0 2 (Zgz X n i) (rdM 2 0 9 (Zgz X n (i+1)) (ZgA X n i) (ZgA X n i) (ZgA X n i) (i<n/\i<n) (i=n) False False):=by
 obtain ⟨h1,h2,h3,h4⟩:=id hC
 have hlt:i<n->i<X.L.length:=fun h=>by omega
 have l0:(X.L.take i).length<=16:=by rw [List.length_take];omega
 have l1:(ZL (X.L.take i)).length<=(X.L.take i).length:=List.length_filter_le _ _
 have l2:(Ym (X.L.take i)).length<=(X.L.take i).length:=by unfold Ym;rw [List.length_map];exact List.length_filter_le _ _
 have e:∀k,(bkX X k).i1=X.i1-(ZL (X.L.take k)).length:=fun _=>rfl
 refine Zn1 (bkX X i) (bkX X (i+1)) X.L n i (X.L.getD i Z8) _ _ _ _ (i<n/\i<n) (i=n) (by omega) h1 hi (fun _=>rfl) (fun h=>h3 _ (ZD (hlt h))) ⟨by omega,by omega⟩ (fun h=> ?_) (fun h=> ?_) (fun h=> ?_) (by rw [e];omega) (fun h=>⟨h,h⟩) (fun h=>h)
 ·rw [Y9 (hlt h),U6]
 ·rw [Y9 (hlt h),Z3z]
 ·unfold bkX
  rw [Y9 (hlt h),U6]
  by_cases q:YE (X.L.getD i Z8).own (X.L.getD i Z8).stage=0
  ·rw [if_pos q,decide_eq_true q,X4,List.length_append]
   congr 1
   show X.i1-((_+1:Nat):Int)=_
   dsimp only;omega
  ·rw [if_neg q,decide_eq_false q,X4,List.append_nil]
noncomputable def Zi0 (X:Z7) (n:Nat) (C:Prop) (E:Nat->St):Zh:=Zgw.withL 30 0 (goM 2 (Zgy X X.L n 0 [] []) C (Yu 0 n 9 (fun i=>i<n) (fun i=>i=n) (fun _=>False) (fun _=>False) E E E))
theorem Z77 (X:Z7):bkX X 0=X:=by
 unfold bkX
 have:X.i1-((ZL (X.L.take 0)).length:Int)=X.i1:=by simp [ZL]
 rw [this]
theorem Ze0 (X:Z7) (n:Nat):(Zi0 X n (Z8O X n) (ZgA X n)).Ok:=
 Zh.withGoM (N:=20) (S:=Zgz X n) Zgx (by kernel_rfl) fun hC=>⟨by unfold Zgz;rw [Z77];rfl,fun i hi _=>Zn2 X n i hC hi⟩
theorem Zn3 (X X':Z7) (n l g:Nat) (G:List Z6) (C:Prop) (XF:Nat->Z7) (GF LF:Nat->List Z6) (hC:C) (hcap:X.t.cap≠0) (hG:G=GF n) (hX':X'={ XF n with L:=LF n}) (hl:l=X'.L.length) (hg:g=G.length):
  evF (Zi0 X n C fun i=>bkE (XF i) X.L n (GF i) (LF i)) 20 30 [.ptr (some ⟨0,0,0,0,0⟩)] (Z5I X n) (ZX 2 (.ret (.nslice ⟨3,0,70,0,0⟩ 70 g g)) 4 [(0,.flat (X'.c (.nslice ⟨2,0,70,0,0⟩ 70 l l))),(2,.rows 70 l (Z4 X'.L)),(3,.rows 70 g (Z4 G))]):=by
 refine @Eq.mpr _ (let q1:=X.t;let q2:=q1.cap;let q3:=decide (g=0);let q4:=q1.fund;let q5:=X'.t;let q6:=q5.fund;let q7:=q1.index;let q8:=q5.index;let q9:=q5.cap;let q10:=q1.dust;let q11:=q5.dust;let q12:=q1.fee;let q13:=q5.fee;let q14:=q1.delay;let q15:=q5.delay;let q16:=q1.k0;let q17:=q5.k0;let q18:=q1.k1;let q19:=q5.k1;let q20:=X.side;let q21:=X.res;let q22:=[X.a0,X.a1];let q23:=[X'.a0,X'.a1];let q24:=[X.i0,X.i1];let q25:=[X'.i0,X'.i1];let q26:=decide (n=l);let q27:=decide (l<=n);let q28:=Z4 X'.L;let q29:=Z4 X.L;let q30:=decide (n=n);let q31:=decide (n<=n);let q32:=[(3,2)];let q33:=(2,3)::q32;let q34:=(2,1)::q32;
 Z0 (q2==0) (Z0 q3 (Z0 q3 (q4=q6/\Z0 (decide (q7=q8)) (Z0 (decide (q2=q9)) (Z0 (decide (q10=q11)) (Z0 (decide (q12=q13)) (Z0 (decide (q14=q15)) (q16=q17/\q18=q19/\Z0 (decide (q20=X'.side)) (Z0 (decide (q21=X'.res)) (q22=q23/\q24=q25/\Z0 q26 (Z0 q27 (Z0 q26 (Zc 2 [(2,1)] l q28 q29/\Z0 q3 True False) False) False) False) False) False) False) False) False) False) False) False) False)
 (Z0 (decide ((↑n:Int)=(↑n:Int)))
 (Z0 q30
 (Z0 q31
 (q4=q4/\
 Z0 (decide (q7=q7))
 (Z0 (decide (q2=q2))
 (Z0 (decide (q10=q10))
 (Z0 (decide (q12=q12))
 (Z0 (decide (q14=q14))
 (q16=q16/\
 q18=q18/\
 Z0 (decide (q20=q20))
 (Z0 (decide (q21=q21))
 (q22=q22/\
 q24=q24/\
 Z0 q30
 (Z0 q31
 (Z0 q30
 (Zc 2 [] n q29 q29/\
 C/\
 ∀(i:Nat),
 let q69:=decide (List.length (GF i)=g);let q70:=decide (g<=List.length (GF i));let q71:=(XF i).t;let q72:=q71.fund=q6;let q73:=decide (q71.index=q8);let q74:=decide (q71.cap=q9);let q75:=decide (q71.dust=q11);let q76:=decide (q71.fee=q13);let q77:=decide (q71.delay=q15);let q78:=q71.k0=q17;let q79:=q71.k1=q19;let q80:=decide ((XF i).side=X'.side);let q81:=decide ((XF i).res=X'.res);let q82:=[(XF i).a0,(XF i).a1]=q23;let q83:=[(XF i).i0,(XF i).i1]=q25;let q84:=decide (List.length (LF i)=l);
 i<=n->(∀(j:Nat),j<i->(fun (i:Nat)=>i<n) j)->(i=n->Z0 q69 (Z0 q70 (q72/\Z0 q73 (Z0 q74 (Z0 q75 (Z0 q76 (Z0 q77 (q78/\q79/\Z0 q80 (Z0 q81 (q82/\q83/\Z0 q84 (Z0 (decide (l<=List.length (LF i))) (Z0 q84 (Zc 2 q33 l q28 (Z4 (LF i))/\Z0 q69 (Zc 2 q33 g (Z4 G) (Z4 (GF i))/\True) False) False) False) False) False) False) False) False) False) False) False) False) False)/\(False->Z0 q69 (Z0 q70 (q72/\Z0 q73 (Z0 q74 (Z0 q75 (Z0 q76 (Z0 q77 (q78/\q79/\Z0 q80 (Z0 q81 (q82/\q83/\Z0 q26 (Z0 q27 (Z0 q26 (Zc 2 q34 l q28 q29/\Z0 q69 (Zc 2 q34 g (Z4 G) (Z4 (GF i))/\True) False) False) False) False) False) False) False) False) False) False) False) False) False)/\(False->False))
 False)
 False)
 False)
 False)
 False)
 False)
 False)
 False)
 False)
 False)
 False)
 False)
 False)) (by kernel_rfl) ?_
 conv=>zeta
 try simp only [Zi]
 try simp only [Zj]
 try simp only [Zf]
 try simp only [Zk]
 try simp only [Zl]
 try simp only [Zg]
 try simp only [Int.toNat_natCast,Nat.zero_add,true_and,and_true,Nat.le_refl]
 subst hG hX'
 have hR:∀τ k (Q:List Z6),Zc 2 τ k (Z4 Q) (Z4 Q):=fun τ k Q=>Zp fun _ _=>rfl
 refine ⟨fun h=>absurd h (by simpa using hcap),fun _=>⟨hR _ _ _,hC,fun i hi _=>⟨fun he=> ?_,fun h=>h.elim,fun h=>h.elim⟩⟩⟩
 subst he
 repeat' apply And.intro
 all_goals first|rfl|exact hR _ _ _|exact hl.symm|exact hg.symm|exact Nat.le_of_eq hl|exact Nat.le_of_eq hg
theorem Z7.Inv.bk {H:List Int->List Int} {X:Z7} (h:X.Inv H):Z8O X X.L.length:=⟨rfl,h.len,h.stage,h.i1⟩
theorem Z9V (X:Z7):brkX X={ bkX X X.L.length with L:=Ym X.L}:=by
 unfold brkX bkX
 rw [List.take_length]
def Z8P:Y8:=fun args h K=>match args with
 | [.ptr (some ⟨l,0,0,0,0⟩)]=>match h.get l with
  |some (.flat [_,_,_,_,_,_,_,_,_,_,_,_,.nslice ⟨b,0,70,0,0⟩ 70 _ _])=>frA [l,b] h 20 args fun Bs a=>match Bs,a with
   | [.flat cs,.rows 70 n f],[.ptr (some ⟨0,0,0,0,0⟩)]=>
    ∃X,LB cs n f X/\X.Inv Zr/\K (.ret (.nslice ⟨h.next+1,0,70,0,0⟩ 70 (ZL X.L).length (ZL X.L).length)) ⟨h.next+2,(l,.flat ((brkX X).c (.nslice ⟨h.next,0,70,0,0⟩ 70 (brkX X).L.length (brkX X).L.length)))::(h.next,.rows 70 (brkX X).L.length (Z4 (brkX X).L))::(h.next+1,.rows 70 (ZL X.L).length (Z4 (ZL X.L)))::Ye (Ye h.bs l) b⟩
   | _,_=>False
  | _=>False
 | _=>False
theorem Zbm (args:List AV) (h:Z9) (K:KO) (hl:Z8P args h K):Zn PP 30 args h K:=by
 unfold Z8P at hl
 split at hl
 ·split at hl
  ·refine Spec.fsumm hl fun Bs a hlen hK0=> ?_
   split at hK0
   ·rename_i cs n f
    obtain ⟨X,⟨rfl,rfl,rfl⟩,hI,hK⟩:=hK0
    have e:=Z9V X
    have hv:=Zn3 X (brkX X) X.L.length _ _ (ZL X.L) (Z8O X X.L.length) (bkX X) (fun i=>ZL (X.L.take i)) (fun i=>Ym (X.L.take i)) hI.bk (Xg hI.tb) (by rw [List.take_length]) (by dsimp only;rw [List.take_length];exact e) rfl rfl
    exact ⟨_,_,_,_,_,.evM (Ze0 X _) hv,by simp,.ret _ _ rfl,.cons _ _ _ _ _ _ rfl (.flat _ _ rfl) (.cons _ _ _ _ _ _ rfl (.rows _ _ _ (fun _ _=>rfl)) (.cons _ _ _ _ _ _ rfl (.rows _ _ _ (fun _ _=>rfl)) .nil)),hK⟩
   ·exact hK0.elim
  ·exact hl.elim
 ·exact hl.elim
end Go.Tk
end
section
namespace Go.Tk
open IntKind (i64 u8 u32 u64 wrap)
structure X5 where
 frm:Int
 id:Int
 amount:Int
 hash:List Int
 expiry:Int
def X5.c (p:X5):List AV:=[.int .i64 p.frm,.int .i64 p.id,.int .i64 p.amount,.arr .u8 32 p.hash,.int .i64 p.expiry]
def Zjv:X5:=⟨0,0,0,Za,0⟩
def ZM (P:List X5) (i:Nat):List AV:=(P.getD i Zjv).c
theorem U7 (P:List X5) (i:Nat):Yt (ZM P i)=true:=rfl
theorem XO {k:Nat} {τ:Ren} {n:Nat} {P:List X5} {f:Nat->List AV} (h:∀i,i<n->f i=ZM P i):Zc k τ n (ZM P) f:=
 Z4q h (fun i _=>U7 P i) (fun i _ v hv=>by
  simp only [ZM,X5.c,List.mem_cons,List.not_mem_nil,or_false] at hv
  rcases hv with rfl|rfl|rfl|rfl|rfl<;>first|exact .inl rfl|exact .inr ⟨_,_,_,rfl⟩)
theorem Z1t {O:List X5} {x:X5} {i:Nat} (hi:i<O.length+1):ZZ O.length (ZM O) (YG (X5.c x) 0 36) i=ZM (O++[x]) i:=by
 rcases Nat.lt_or_ge i O.length with h|h
 ·rw [Z5o h]
  unfold ZM
  rw [List.getD_eq_getElem?_getD,List.getD_eq_getElem?_getD,List.getElem?_append_left (by omega)]
 ·have e:i=O.length:=by omega
  subst e
  rw [Z0k (Nat.le_refl _),Nat.sub_self]
  unfold ZM
  rw [List.getD_eq_getElem?_getD,List.getElem?_append_right (by omega),Nat.sub_self]
  rfl
def Z0w (side:Int) (h:Z6):X5:=⟨ZS side h.own,h.id,h.amount,h.hash,h.expiry⟩
def Ze1 (b:Bool) (x:X5):List X5:=match b with
 | true=>[x]
 | false=>[]
def YR (side:Int) (o:Bool) (L:List Z6):List X5:=(L.filter fun h=>Xj h.own h.stage o).map (Z0w side)
def srP (side:Int) (o:Bool) (p:Int×Int) (h:Z6):Int×Int:=match Xj h.own h.stage o with
 | true=>if ZS side h.own=0 then (p.1-h.amount,p.2) else (p.1,p.2-h.amount)
 | false=>if 6<h.stage then XZ side p h else p
def V3 (side:Int) (o:Bool) (p:Int×Int) (L:List Z6):Int×Int:=L.foldl (srP side o) p
theorem Z5L {s a b q:Int} (hs:s=0\/s=1) (h1: -1152921504606846976<=a/\a<=1152921504606846976) (h2: -1152921504606846976<=b/\b<=1152921504606846976) (h3:0<=q/\q<=1152921504606846976):
  [a,b].set s.toNat (i64.wrap ([a,b].getD s.toNat 0-q))=[(if s=0 then (a-q,b) else (a,b-q)).1,(if s=0 then (a-q,b) else (a,b-q)).2]:=by
 rcases hs with rfl|rfl
 ·show [i64.wrap (a-q),b]=[a-q,b]
  rw [w64 (by omega)]
 ·show [a,i64.wrap (b-q)]=[a,b-q]
  rw [w64 (by omega)]
noncomputable def ZgB:Zh:=Z5z (G0.withP 71 Zbl)
theorem Z9W:ZgB.Ok:=Zh.withP_ok (Zh.withP_ok (Zh.withP_ok (Zh.withP_ok (Zh.withP_ok Zu Zgm) Z1X) Z0q) Z0r) Z0s
def srZ:List AV:=[.int .i64 0,.int .i64 0,.arr .u8 32 Za,.arr .i64 2 [0,0],.nilslice]
def Zn4 (k ow:Int) (pt:List Int) (a b:Int) (P:List X5):Z9:=⟨4,[(0,.flat srZ),(1,.flat [.int .i64 k,.int .i64 ow,.arr .u8 32 pt,.arr .i64 2 [a,b],.nslice ⟨3,0,36,0,0⟩ 36 P.length P.length]),(2,.flat [.ptr (some ⟨1,0,0,34,0⟩)]),(3,.rows 36 P.length (ZM P))]⟩
def ZgC (X:Z7) (o:Bool) (k ow:Int) (pt:List Int) (n i:Nat) (a b:Int) (P:List X5):St:=⟨99,[(41,.int .i64 i),(40,.int .i64 n),(39,.vrows 70 n (Z4 X.L) n),(0,Wp X),(1,.bool o),(10,.ptr (some ⟨1,0,0,0,0⟩)),(11,.func (.func 128) [] [.ptr (some ⟨2,0,0,0,0⟩)]),(8,.ptr (some ⟨0,0,0,0,0⟩))],Zn4 k ow pt a b P,[]⟩
def Z8Q (k ow:Int) (pt:List Int) (a b:Int) (P:List X5):St:=⟨99,[(10,.ptr (some ⟨1,0,0,0,0⟩)),(8,.ptr (some ⟨0,0,0,0,0⟩))],⟨3,[(0,.flat srZ),(1,.flat [.int .i64 k,.int .i64 ow,.arr .u8 32 pt,.arr .i64 2 [a,b],.nslice ⟨2,0,36,0,0⟩ 36 P.length P.length]),(2,.rows 36 P.length (ZM P))]⟩,[]⟩
theorem Zn5 (X:Z7) (o:Bool) (k ow:Int) (pt:List Int) (n i:Nat) (a b a1 b1:Int) (P P1:List X5) (x:Z6) (Z1 Z2:Prop) (hn:n<1000) (hL:X.L.length=n) (hi:i<=n) (hX:YX X) (hP:P.length<1000) (hx:i<n->X.L.getD i Z8=x) (hP1:i<n->P1=P++Ze1 (Xj x.own x.stage o) (Z0w X.side x)) (ha:i<n->(a1,b1)=srP X.side o (a,b) x) (hw:i<n->(-1152921504606846976<=a/\a<=1152921504606846976)/\(-1152921504606846976<=b/\b<=1152921504606846976)/\0<=x.amount/\x.amount<=1152921504606846976) (hZ1:i<n->Z1) (hZ2:i=n->Z2):
  ZB ZgB 20 23 1 0 (ZgC X o k ow pt n i a b P) (rdM 0 1 9 (ZgC X o k ow pt n (i+1) a1 b1 P1) (Z8Q k ow pt a b P) (Z8Q k ow pt a b P) (Z8Q k ow pt a b P) Z1 Z2 False False):=by
 refine @Eq.mpr _ (let q1:=X.L;let q2:=List.getD q1 (Int.toNat (↑i:Int)) Z8;let q3:=q2.own;let q4:=q2.stage;let q5:=Xj q3 q4 o;let q6:=List.length P;let q7:=decide (q6=q6);let q8:=q6+1;let q9:=decide (q8*64<=140737488355328);let q10:=X.side;let q11:=decide (0<=q10/\q10<2);let q12:=0+Int.toNat q10;let q13:=decide (wrap i64 ((↑i:Int)+1)=(↑(i+1):Int));let q14:=decide ((↑n:Int)=(↑n:Int));let q15:=decide (n=n);let q16:=Z4 q1;let q17:=q16=q16;let q18:=List.length q1;let q19:=Z7.c X (AV.vrows 70 q18 q16 q18);let q20:=q19=q19;let q21:=decide (o=o);let q22:=[(0:Int),0];let q23:=q22=q22;let q24:=decide (k=k);let q25:=decide (ow=ow);let q26:=[a,b];let q27:=q2.amount;let q28:=List.set q26 q12 (wrap i64 (List.getD q26 q12 0-q27));let q29:=[a1,b1];let q30:=List.length P1;let q31:=decide (q8=q30);let q32:=decide (q30<=q8);let q33:=[(1,1)];let q34:=(0,0)::(2,2)::q33;let q35:=(3,6)::q34;let q36:=ZM P1;let q37:=ZM P;let q38:=[AV.int i64 q2.id,AV.int i64 q27,AV.arr u8 32 q2.hash,AV.int i64 q2.expiry];let q39:=decide (q4>6);let q40:=q2.fin==1;let q41:=wrap i64 (1-q10);let q42:=decide (0<=q41/\q41<2);let q43:=0+Int.toNat q41;let q44:=decide (q43<2);let q45:=decide (q6=q30);let q46:=Z0 q45 (Z0 (decide (q30<=q6)) (Z0 q45 (Zc 0 ((3,3)::q34) q30 q36 q37/\Z1) False) False) False;let q47:=Z0 q13 (Z0 q14 (Z0 q15 (q17/\Z0 q15 (q20/\Z0 q21 (Za=Za/\q23/\Z0 q24 (Z0 q25 (pt=pt/\q26=q29/\q46) False) False) False) False) False) False) False;let q48:=List.set q26 q43 (wrap i64 (List.getD q26 q43 0-q27));let q49:=wrap i64 (1-q41);let q50:=decide (0<=q49/\q49<2);let q51:=0+Int.toNat q49;
 Z0 (decide ((↑i:Int)<(↑n:Int)))
 (Z0 (decide (0<=(↑i:Int)/\(↑i:Int)<(↑n:Int)))
 (Z0 q3
 (Z0 q5 (Z0 q7 (Z0 q9 (Z0 q11 (Z0 (decide (q12<2)) (Z0 q11 (Z0 (decide (i64=i64/\q12<2/\q12<2)) (Z0 q13 (Z0 q14 (Z0 q15 (q17/\Z0 q15 (q20/\Z0 q21 (Za=Za/\q23/\Z0 q24 (Z0 q25 (pt=pt/\q28=q29/\Z0 q31 (Z0 q32 (Z0 q31 (Zc 0 q35 q30 q36 (ZZ q6 q37 (YG (AV.int i64 q10::q38) 0 36))/\Z1) False) False) False) False) False) False) False) False) False) False) False) False) False) False) False) False)
 (Z0 q39 (Z0 q40 (Z0 q11 (Z0 (decide (q12<2)) (Z0 q11 (Z0 (decide (i64=i64/\q12<2/\q12<2)) (Z0 q42 (Z0 q44 (Z0 q42 (Z0 (decide (i64=i64/\q43<2/\q43<List.length q28)) (Z0 q13 (Z0 q14 (Z0 q15 (q17/\Z0 q15 (q20/\Z0 q21 (Za=Za/\q23/\Z0 q24 (Z0 q25 (pt=pt/\List.set q28 q43 (wrap i64 (List.getD q28 q43 0+q27))=q29/\q46) False) False) False) False) False) False) False) False) False) False) False) False) False) False) False) q47) q47))
 (Z0 q5 (Z0 q7 (Z0 q9 (Z0 q42 (Z0 (decide (q43<2)) (Z0 q42 (Z0 (decide (i64=i64/\q43<2/\q43<2)) (Z0 q13 (Z0 q14 (Z0 q15 (q17/\Z0 q15 (q20/\Z0 q21 (Za=Za/\q23/\Z0 q24 (Z0 q25 (pt=pt/\q48=q29/\Z0 q31 (Z0 q32 (Z0 q31 (Zc 0 q35 q30 q36 (ZZ q6 q37 (YG (AV.int i64 q41::q38) 0 36))/\Z1) False) False) False) False) False) False) False) False) False) False) False) False) False) False) False) False)
 (Z0 q39 (Z0 q40 (Z0 q42 (Z0 q44 (Z0 q42 (Z0 (decide (i64=i64/\q43<2/\q43<2)) (Z0 q50 (Z0 (decide (q51<2)) (Z0 q50 (Z0 (decide (i64=i64/\q51<2/\q51<List.length q48)) (Z0 q13 (Z0 q14 (Z0 q15 (q17/\Z0 q15 (q20/\Z0 q21 (Za=Za/\q23/\Z0 q24 (Z0 q25 (pt=pt/\List.set q48 q51 (wrap i64 (List.getD q48 q51 0+q27))=q29/\q46) False) False) False) False) False) False) False) False) False) False) False) False) False) False) False) q47) q47)))
 False)
 (Za=Za/\q23/\Z0 q24 (Z0 q25 (pt=pt/\q26=q26/\Z0 q7 (Z0 (decide (q6<=q6)) (Z0 q7 (Zc 0 ((2,3)::(0,0)::q33) q6 q37 q37/\Z2) False) False) False) False) False)) (by kernel_rfl) ?_
 conv=>zeta
 try simp only [Zi]
 try simp only [Zj]
 try simp only [Zf]
 try simp only [Zk]
 try simp only [Zl]
 try simp only [Zg]
 try simp only [Int.toNat_natCast,Nat.zero_add,true_and,and_true,Nat.le_refl]
 refine ⟨fun hc=> ?_,fun hc=> ?_⟩
 ·have hlt:i<n:=by omega
  rw [hx hlt]
  have hP1:=hP1 hlt
  have ha:=ha hlt
  obtain ⟨b1',b2',b3'⟩:=hw hlt
  obtain ⟨s1,s2⟩:=hX
  have hab:[a1,b1]=[(srP X.side o (a,b) x).1,(srP X.side o (a,b) x).2]:=by rw [<-ha]
  have hwr:i64.wrap ((i:Int)+1)=((i+1:Nat):Int):=by rw [w64 (by omega)];omega
  have hwf:i64.wrap (1-X.side)=1-X.side:=w64 (by omega)
  have hwg:i64.wrap (1-(1-X.side))=X.side:=by rw [w64 (by omega)];omega
  rw [hwr]
  try rw [hwf]
  try rw [hwg]
  have hR:∀τ k (Q:List X5),Zc 0 τ k (ZM Q) (ZM Q):=fun τ k Q=>XO fun _ _=>rfl
  have hC:∀τ (Q:List X5) (y:X5),Zc 0 τ (Q++[y]).length (ZM (Q++[y])) (ZZ Q.length (ZM Q) (YG y.c 0 36)):=fun τ Q y=>XO fun j hj=>Z1t (by simpa using hj)
  have e:=Qa (s:=X.side) (by omega) b1' b2' b3'
  have e':=Qa (s:=1-X.side) (by omega) b1' b2' b3'
  rw [show 1-(1-X.side)=X.side by omega] at e'
  have k:=Z5L (s:=X.side) (by omega) b1' b2' b3'
  have k':=Z5L (s:=1-X.side) (by omega) b1' b2' b3'
  refine ⟨by omega,fun ho=>⟨fun hst=> ?_,fun hst=>⟨fun h6=>⟨fun hf=> ?_,fun hf=> ?_⟩,fun h6=> ?_⟩⟩,fun ho=>⟨fun hst=> ?_,fun hst=>⟨fun h6=>⟨fun hf=> ?_,fun hf=> ?_⟩,fun h6=> ?_⟩⟩⟩
  all_goals unfold srP at hab
  all_goals rw [hst] at hab hP1
  all_goals simp only [Ze1,List.append_nil] at hP1
  all_goals try simp only [gt_iff_lt] at h6
  all_goals try rw [if_pos h6] at hab
  all_goals try rw [if_neg h6] at hab
  all_goals try have hf1:x.fin=1:=by simpa using hf
  all_goals try have hf0:¬x.fin=1:=by simpa using hf
  all_goals try rw [UF (h:=x) hf1] at hab
  all_goals try rw [Z0u (h:=x) hf0] at hab
  all_goals try (have hy:Z0w X.side x=⟨X.side,x.id,x.amount,x.hash,x.expiry⟩:=by unfold Z0w;rw [ho];rfl)
  all_goals try (have hy:Z0w X.side x=⟨1-X.side,x.id,x.amount,x.hash,x.expiry⟩:=by unfold Z0w;rw [ho];rfl)
  all_goals try rw [hy] at hP1
  all_goals subst hP1
  all_goals rw [hab]
  all_goals try rw [show ZS X.side x.own=X.side by rw [ho];rfl]
  all_goals try rw [show ZS X.side x.own=1-X.side by rw [ho];rfl]
  all_goals try rw [e]
  all_goals try rw [e']
  all_goals try rw [k]
  all_goals try rw [k']
  all_goals repeat' apply And.intro
  all_goals first|omega|rfl|exact hZ1 hlt|exact hC _ _ _|exact hR _ _ _|(simp;done)|(simp only [List.length_set,List.length_cons,List.length_nil,List.length_append];omega)|(split<;>rfl)|skip
 ·repeat' apply And.intro
  all_goals first|omega|rfl|exact hZ2 (by omega)|exact XO fun _ _=>rfl
theorem Ze2 {side:Int} {o:Bool} {p:Int×Int} {x:Z6} {A B:Int} (hx:0<=x.amount/\x.amount<=1125899906842624) (h1:A<=p.1/\p.1<=B) (h2:A<=p.2/\p.2<=B):(A-1125899906842624<=(srP side o p x).1/\(srP side o p x).1<=B+1125899906842624)/\A-1125899906842624<=(srP side o p x).2/\(srP side o p x).2<=B+1125899906842624:=by
 unfold srP XZ
 split
 ·split<;>dsimp only<;>omega
 ·split
  ·split
   ·split<;>dsimp only<;>omega
   ·omega
  ·omega
theorem Z3A {side:Int} {o:Bool} {a b:Int} {L:List Z6} (hA:∀x∈L,0<=x.amount/\x.amount<=1125899906842624) (ha:0<=a/\a<=1125899906842624) (hb:0<=b/\b<=1125899906842624):∀i,i<=L.length->(0-1125899906842624*(i:Int)<=(V3 side o (a,b) (L.take i)).1/\(V3 side o (a,b) (L.take i)).1<=1125899906842624*((i:Int)+1))/\0-1125899906842624*(i:Int)<=(V3 side o (a,b) (L.take i)).2/\(V3 side o (a,b) (L.take i)).2<=1125899906842624*((i:Int)+1)
 | 0,_=>by
  show (_<=a/\a<=_)/\_<=b/\b<=_
  omega
 | i+1,hi=>by
  obtain ⟨h1,h2⟩:=Z3A (side:=side) (o:=o) hA ha hb i (by omega)
  have e:V3 side o (a,b) (L.take (i+1))=srP side o (V3 side o (a,b) (L.take i)) (L.getD i Z8):=by
   unfold V3
   rw [Y9 (by omega),List.foldl_append];rfl
  rw [e]
  have:=Ze2 (side:=side) (o:=o) (hA _ (ZD (L:=L) (i:=i) (by omega))) h1 h2
  omega
def Ze3 (X:Z7) (n:Nat):Prop:=X.L.length=n/\n<=16/\(X.side=0\/X.side=1)/\(∀h∈X.L,0<=h.amount/\h.amount<=1125899906842624)/\(0<=X.a0/\X.a0<=1125899906842624)/\0<=X.a1/\X.a1<=1125899906842624
theorem Z4J (side:Int) (o:Bool) (A:List Z6) (x:Z6):YR side o (A++[x])=YR side o A++Ze1 (Xj x.own x.stage o) (Z0w side x):=by
 unfold YR
 rw [List.filter_append,List.map_append,VO]
 congr 1
 cases Xj x.own x.stage o<;>rfl
theorem Qb (side:Int) (o:Bool) (A:List Z6):(YR side o A).length<=A.length:=by
 unfold YR;rw [List.length_map];exact List.length_filter_le _ _
def ZgD (X:Z7) (o:Bool) (k ow:Int) (pt:List Int) (n i:Nat):St:=ZgC X o k ow pt n i (V3 X.side o (X.a0,X.a1) (X.L.take i)).1 (V3 X.side o (X.a0,X.a1) (X.L.take i)).2 (YR X.side o (X.L.take i))
def ZgE (X:Z7) (o:Bool) (k ow:Int) (pt:List Int) (i:Nat):St:=Z8Q k ow pt (V3 X.side o (X.a0,X.a1) (X.L.take i)).1 (V3 X.side o (X.a0,X.a1) (X.L.take i)).2 (YR X.side o (X.L.take i))
theorem Zn6 (X:Z7) (o:Bool) (k ow:Int) (pt:List Int) (n i:Nat) (hC:Ze3 X n) (hi:i<=n):ZB ZgB 20 23 1 0 (ZgD X o k ow pt n i) (rdM 0 1 9 (ZgD X o k ow pt n (i+1)) (ZgE X o k ow pt i) (ZgE X o k ow pt i) (ZgE X o k ow pt i) (i<n/\i<n) (i=n) False False):=by
 obtain ⟨h1,h2,h3,h4,h5,h6⟩:=id hC
 have hlt:i<n->i<X.L.length:=fun h=>by omega
 have l0:(X.L.take i).length<=16:=by rw [List.length_take];omega
 have l1:=Qb X.side o (X.L.take i)
 have hb:=Z3A (side:=X.side) (o:=o) h4 h5 h6 i (by omega)
 refine Zn5 X o k ow pt n i _ _ _ _ _ _ (X.L.getD i Z8) (i<n/\i<n) (i=n) (by omega) h1 hi (show 0<=X.side/\X.side<=1 by omega) (by omega) (fun _=>rfl) (fun h=> ?_) (fun h=> ?_) (fun h=>⟨by omega,by omega, ?_⟩) (fun h=>⟨h,h⟩) (fun h=>h)
 ·rw [Y9 (hlt h),Z4J]
 ·unfold V3
  rw [Y9 (hlt h),List.foldl_append];rfl
 ·have:=h4 _ (ZD (hlt h));omega
noncomputable def Z9X (X:Z7) (o:Bool) (k ow:Int) (pt:List Int) (n:Nat) (C:Prop) (E:Nat->St):Zh:=ZgB.withL 23 1 (goM 0 (ZgC X o k ow pt n 0 X.a0 X.a1 []) C (Yu 1 n 9 (fun i=>i<n) (fun i=>i=n) (fun _=>False) (fun _=>False) E E E))
theorem Ze4 (X:Z7) (o:Bool) (k ow:Int) (pt:List Int) (n:Nat):(Z9X X o k ow pt n (Ze3 X n) (ZgE X o k ow pt)).Ok:=
 Zh.withGoM (N:=20) (S:=ZgD X o k ow pt n) Z9W (by kernel_rfl) fun hC=>⟨rfl,fun i hi _=>Zn6 X o k ow pt n i hC hi⟩
theorem Zn7 (X:Z7) (o:Bool) (k ow:Int) (pt:List Int) (n l:Nat) (a b:Int) (P:List X5) (C:Prop) (AF BF:Nat->Int) (PF:Nat->List X5) (hC:C) (hn:X.L.length=n) (hcap:X.t.cap≠0) (hs:0<=X.side/\X.side<=1) (hk:0<=k/\k<=2147483647) (how:ow=ZS X.side o) (ha:a=AF n) (hb:b=BF n) (hP:P=PF n) (hl:l=P.length):
  evF (Z9X X o k ow pt n C fun i=>Z8Q k ow pt (AF i) (BF i) (PF i)) 20 23 [Wp X,.bool o,.int .i64 k,.agg [.arr .u8 32 pt]] ⟨0,[]⟩ (ZX 0 (.ret (.tuple [.agg [.int .i64 k,.int .i64 ow,.arr .u8 32 pt,.arr .i64 2 [a,b],.nslice ⟨0,0,36,0,0⟩ 36 l l],.int .i64 0])) 1 [(0,.rows 36 l (ZM P))]):=by
 refine @Eq.mpr _ (let q1:=[(0:Int),0];let q2:=[a,b];let q3:=decide (l=0);let q4:=Z0 (decide (0=k)) (Z0 (decide (0=ow)) (Za=pt/\q1=q2/\Z0 q3 (Z0 q3 False False) False) False) False;let q5:=[X.a0,X.a1];let q6:=q5=q5;let q7:=List.length X.L;let q8:=decide ((↑q7:Int)=(↑n:Int));let q9:=decide (q7=n);let q10:=Z4 X.L;let q11:=q10=q10;let q12:=Z7.c X (AV.vrows 70 q7 q10 q7);let q13:=q12=q12;let q14:=decide (o=o);let q15:=q1=q1;let q16:=decide (k=k);let q17:=pt=pt/\q6/\C/\∀(i:Nat),i<=n->(∀(j:Nat),j<i->(fun (i:Nat)=>i<n) j)->(i=n->Z0 q16 (Z0 (decide (ow=ow)) (pt=pt/\[AF i,BF i]=q2/\Z0 (decide (List.length (PF i)=l)) (Z0 (decide (l<=List.length (PF i))) (Z0 (decide (List.length (PF i)=l)) (Zc 0 [(0,2)] l (ZM P) (ZM (PF i))/\True) False) False) False) False) False)/\(False->False)/\(False->False);
 Z0 (X.t.cap==0) q4 (Z0 (!decide (0<=k/\k<=2147483647)) q4 (Z0 o (q6/\pt=pt/\Z0 q8 (Z0 q9 (q11/\Z0 q9 (q13/\Z0 q14 (Za=Za/\q15/\Z0 q16 (Z0 (decide (X.side=ow)) q17 False) False) False) False) False) False) (q6/\pt=pt/\Z0 q8 (Z0 q9 (q11/\Z0 q9 (q13/\Z0 q14 (Za=Za/\q15/\Z0 q16 (Z0 (decide (wrap i64 (1-X.side)=ow)) q17 False) False) False) False) False) False)))) (by kernel_rfl) ?_
 conv=>zeta
 try simp only [Zi]
 try simp only [Zj]
 try simp only [Zf]
 try simp only [Zk]
 try simp only [Zl]
 try simp only [Zg]
 try simp only [Int.toNat_natCast,Nat.zero_add,true_and,and_true,Nat.le_refl]
 subst ha hb hP
 have hwf:i64.wrap (1-X.side)=1-X.side:=w64 (by omega)
 rw [hwf]
 have main:∀i:Nat,i<=n->(∀j:Nat,j<i->j<n)->(i=n->[AF i,BF i]=[AF n,BF n]/\(PF i).length=l/\l<=(PF i).length/\(PF i).length=l/\Zc 0 [(0,2)] l (ZM (PF n)) (ZM (PF i)))/\(False->False)/\(False->False):=fun i hi _=>⟨fun he=>by
  subst he
  exact ⟨rfl,hl.symm,Nat.le_of_eq hl,hl.symm,XO fun _ _=>rfl⟩,fun h=>h,fun h=>h⟩
 refine ⟨fun h=>absurd h (by simpa using hcap),fun _=>⟨fun h=>absurd h (by simp [hk.1,hk.2]),fun _=>⟨fun ho=> ?_,fun ho=> ?_⟩⟩⟩
 ·exact ⟨by rw [hn],hn,hn,by rw [how,ho];rfl,hC,main⟩
 ·exact ⟨by rw [hn],hn,hn,by rw [how,ho];rfl,hC,main⟩
theorem Zn8 (X:Z7) (o:Bool) (k ow:Int) (pt:List Int) (n:Nat) (C:Prop) (hcap:X.t.cap≠0) (hk:¬(0<=k/\k<=2147483647)):
  evF (Z9X X o k ow pt n C fun i=>Z8Q k ow pt 0 0 []) 20 23 [Wp X,.bool o,.int .i64 k,.agg [.arr .u8 32 pt]] ⟨0,[]⟩ (Y4 fun v=>v=.tuple [.agg srZ,.int .i64 2]):=by
 refine @Eq.mpr _ (let q1:=[(0:Int),0];let q2:=AV.agg [AV.int i64 0,AV.int i64 0,AV.arr u8 32 Za,AV.arr i64 2 q1,AV.nilslice];let q3:=[AV.int i64 2];let q4:=AV.tuple (AV.agg srZ::q3);let q5:=[X.a0,X.a1];let q6:=q5=q5;let q7:=List.length X.L;let q8:=decide ((↑q7:Int)=(↑n:Int));let q9:=decide (q7=n);let q10:=Z4 X.L;let q11:=q10=q10;let q12:=Z7.c X (AV.vrows 70 q7 q10 q7);let q13:=q12=q12;let q14:=decide (o=o);let q15:=q1=q1;let q16:=decide (k=k);let q17:=pt=pt/\q6/\C/\∀(i:Nat),i<=n->(∀(j:Nat),j<i->(fun (i:Nat)=>i<n) j)->(i=n->False)/\(False->False)/\(False->False);
 Z0 (X.t.cap==0) (AV.tuple [q2,AV.int i64 1]=q4) (Z0 (!decide (0<=k/\k<=2147483647)) (AV.tuple (q2::q3)=q4) (Z0 o (q6/\pt=pt/\Z0 q8 (Z0 q9 (q11/\Z0 q9 (q13/\Z0 q14 (Za=Za/\q15/\Z0 q16 (Z0 (decide (X.side=ow)) q17 False) False) False) False) False) False) (q6/\pt=pt/\Z0 q8 (Z0 q9 (q11/\Z0 q9 (q13/\Z0 q14 (Za=Za/\q15/\Z0 q16 (Z0 (decide (wrap i64 (1-X.side)=ow)) q17 False) False) False) False) False) False)))) (by kernel_rfl) ?_
 conv=>zeta
 try simp only [Zi]
 try simp only [Zj]
 try simp only [Zf]
 try simp only [Zk]
 try simp only [Zl]
 try simp only [Zg]
 try simp only [Int.toNat_natCast,Nat.zero_add,true_and,and_true,Nat.le_refl]
 refine ⟨fun h=>absurd h (by simpa using hcap),fun _=>⟨fun _=>rfl,fun h=>absurd h ?_⟩⟩
 rw [decide_eq_false hk];simp
theorem Z7.Inv.sr {H:List Int->List Int} {X:Z7} (h:X.Inv H):Ze3 X X.L.length:=
 ⟨rfl,h.len,h.side,h.am.am,by have:=h.a0;have:=Y1 h.tb;omega,by have:=h.a0;have:=h.a1;have:=Y1 h.tb;omega⟩
def Z1G (X:Z7) (o:Bool):Int×Int:=V3 X.side o (X.a0,X.a1) X.L
def Z5M (c:Bool):Y8:=fun args h K=>ZP none h true 20 args fun a=>match a with
 | [.pview cs 0,.bool o,.int .i64 k,.agg [.arr .u8 32 pt]]=>∃X,LV cs X/\X.Inv Zr/\(match c with
  | true=>(0<=k/\k<=2147483647)/\K (.ret (.tuple [.agg [.int .i64 k,.int .i64 (ZS X.side o),.arr .u8 32 pt,.arr .i64 2 [(Z1G X o).1,(Z1G X o).2],.nslice ⟨h.next,0,36,0,0⟩ 36 (YR X.side o X.L).length (YR X.side o X.L).length],.int .i64 0])) ⟨h.next+1,(h.next,.rows 36 (YR X.side o X.L).length (ZM (YR X.side o X.L)))::h.bs⟩
  | false=>¬(0<=k/\k<=2147483647)/\K (.ret (.tuple [.agg srZ,.int .i64 2])) ⟨h.next,h.bs⟩)
 | _=>False
theorem Z3B (c:Bool) (args:List AV) (h:Z9) (K:KO) (hl:Z5M c args h K):Zn PP 23 args h K:=by
 refine ZA.fsumm (d:=20) (Zs _ _ _ _ _ hl fun a ha=> ?_)
 split at ha
 ·rename_i cs o k pt
  obtain ⟨X,hX,hI,hK⟩:=ha
  cases c with
  | true=>
   obtain ⟨hk,hK1⟩:=hK
   have hv:=Zn7 X o k (ZS X.side o) pt X.L.length _ (Z1G X o).1 (Z1G X o).2 (YR X.side o X.L) (Ze3 X X.L.length) (fun i=>(V3 X.side o (X.a0,X.a1) (X.L.take i)).1) (fun i=>(V3 X.side o (X.a0,X.a1) (X.L.take i)).2) (fun i=>YR X.side o (X.L.take i)) hI.sr rfl (Xg hI.tb) (by have:=hI.side;omega) hk rfl (by rw [List.take_length];rfl) (by rw [List.take_length];rfl) (by rw [List.take_length]) rfl
   exact ⟨_,_,_,_,(ZA.evM (Ze4 X o k _ pt _) hv).conv fun E r hr=>hr.head (fun _ hc=>W0 hX hc) fun _ hc=>hc,rfl,⟨Nat.one_pos,.rows _ _ _ (fun i _=>U7 _ i),trivial⟩,hK1⟩
  | false=>
   obtain ⟨hk,hK2⟩:=hK
   have hC:(Z9X X o k 0 pt X.L.length False fun _=>Z8Q k 0 pt 0 0 []).Ok:=Zh.withGoM (N:=20) (S:=fun i=>ZgD X o k 0 pt X.L.length i) Z9W (by kernel_rfl) fun h=>h.elim
   exact ⟨_,_,_,_,(ZA.evV hC (Zn8 X o k 0 pt _ False (Xg hI.tb) hk)).conv fun E r hr=>hr.head (fun _ hc=>W0 hX hc) fun _ hc=>hc,rfl,trivial,hK2⟩
 ·exact ha.elim
end Go.Tk
end
section
namespace Go.Tk
open IntKind (i64 u8 u32 u64 wrap)
def Zbn (p:Z6->Bool):List Z6->Nat
 | []=>0
 | x::r=>if p x=true then 0 else Zbn p r+1
theorem Z5N {p:Z6->Bool}:∀{L:List Z6},(∀j,j<L.length->p (L.getD j Z8)=false)->Zbn p L=L.length
 | [],_=>rfl
 | x::r,h=>by
  unfold Zbn
  have h0:p x=false:=h 0 (by simp)
  rw [h0,if_neg (by simp),Z5N fun j hj=>by have:=h (j+1) (by simpa using hj);rwa [List.getD_cons_succ] at this]
  rfl
theorem Z3C (p:Z6->Bool):∀L:List Z6,decide (Zbn p L<L.length)=L.any p
 | []=>rfl
 | x::r=>by
  unfold Zbn
  rw [List.any_cons]
  cases h:p x
  ·rw [if_neg (by simp),Bool.false_or,<-Z3C p r,List.length_cons]
   by_cases q:Zbn p r<r.length
   ·rw [decide_eq_true q,decide_eq_true (by omega)]
   ·rw [decide_eq_false q,decide_eq_false (by omega)]
  ·simp
def wtP (h:Z6):Bool:=decide (Xy h.own h.stage=1)
noncomputable def Zjw:Zh:=G0.withP 111 waS
theorem ZgF:Zjw.Ok:=Zh.withP_ok Zu Zjn
def wtC:AV:=.func (.func 110) [] []
def wtS (L:List Z6) (n i:Nat):St:=⟨19,[(8,.int .i64 i),(7,.int .i64 n),(1,wtC),(0,.vrows 70 n (Z4 L) n)],⟨0,[]⟩,[]⟩
theorem Zn9 (L:List Z6) (n i:Nat) (Z1 Z2 Z3:Prop) (hn:n<1000) (hL:L.length=n) (hi:i<=n) (hst:i<n->1<=(L.getD i Z8).stage/\(L.getD i Z8).stage<=9) (h1:i<n->wtP (L.getD i Z8)=false->Z1) (h2:i=n->Z2) (h3:i<n->wtP (L.getD i Z8)=true->Z3):
  ZB Zjw 20 155 0 0 (wtS L n i) (rdM 0 0 9 (wtS L n (i+1)) fiE (fiR i) (fiR i) Z1 Z2 Z3 False):=by
 refine @Eq.mpr _ (let q1:=List.getD L (Int.toNat (↑i:Int)) Z8;let q2:=q1.stage;let q3:=decide (n=n);
 Z0 (decide ((↑i:Int)<(↑n:Int))) (Z0 (decide (0<=(↑i:Int)/\(↑i:Int)<(↑n:Int))) (Z0 (decide (1<=q2/\q2<=9)) (Z0 (Xy q1.own q2==1) (Z0 (decide ((↑i:Int)=(↑i:Int))) Z3 False) (Z0 (decide (wrap i64 ((↑i:Int)+1)=(↑(i+1):Int))) (Z0 (decide ((↑n:Int)=(↑n:Int))) (Z0 q3 (Z4 L=Z4 L/\Z0 q3 Z1 False) False) False) False)) False) False) Z2) (by kernel_rfl) ?_
 conv=>zeta
 try simp only [Zi]
 try simp only [Zj]
 try simp only [Zf]
 try simp only [Zk]
 try simp only [Zl]
 try simp only [Zg]
 try simp only [Int.toNat_natCast,Nat.zero_add,true_and,and_true,Nat.le_refl]
 refine ⟨fun hc=> ?_,fun hc=>h2 (by omega)⟩
 have hlt:i<n:=by omega
 have hwr:i64.wrap ((i:Int)+1)=((i+1:Nat):Int):=by rw [w64 (by omega)];omega
 refine ⟨by omega,hst hlt,fun hm=>h3 hlt ?_,fun hm=> ?_⟩
 ·unfold wtP;simpa using hm
 have:=h1 hlt (by unfold wtP;simpa using hm)
 repeat' apply And.intro
 all_goals first|omega|exact hwr|exact this|rfl
noncomputable def Zi1 (L:List Z6) (n:Nat) (C:Prop):Zh:=Zjw.withL 155 0 (goM 0 (wtS L n 0) C (Yu 0 n 9 (fun i=>wtP (L.getD i Z8)=false/\i<n) (fun i=>i=n) (fun i=>i<n/\wtP (L.getD i Z8)=true) (fun _=>False) (fun _=>fiE) (fun i=>fiR i) (fun i=>fiR i)))
def Zl2 (L:List Z6) (n:Nat):Prop:=n<1000/\L.length=n/\∀h∈L,1<=h.stage/\h.stage<=9
theorem Ze5 (L:List Z6) (n:Nat):(Zi1 L n (Zl2 L n)).Ok:=
 Zh.withGoM (N:=20) (S:=fun i=>wtS L n i) ZgF (by kernel_rfl) fun hC=>⟨rfl,fun i hi _=>Zn9 L n i _ _ _ hC.1 hC.2.1 hi (fun h=>hC.2.2 _ (ZD (by have:=hC.2.1;omega))) (fun h h'=>⟨⟨h',h⟩,h⟩) (fun h=>h) (fun h h'=>⟨h,h'⟩)⟩
theorem Zna (X:Z7) (n:Nat) (b:Bool) (C:Prop) (hC:C) (hn:X.L.length=n) (hcap:X.t.cap≠0) (hb:b=Wo X.L):
  evF (Zi1 X.L n C) 20 50 [Wp X] ⟨0,[]⟩ (Y4 fun v=>v=.bool b):=by
 refine @Eq.mpr _ (let q1:=X.L;let q2:=List.length q1;let q3:=decide (q2=n);let q4:=Z4 q1;let q5:=AV.bool false=AV.bool b;
 Z0 (!X.t.cap==0) (Z0 (decide ((↑q2:Int)=(↑n:Int))) (Z0 q3 (q4=q4/\Z0 q3 (C/\∀(i:Nat),i<=n->(∀(j:Nat),j<i->(fun (i:Nat)=>wtP (List.getD q1 i Z8)=false/\i<n) j)->(i=n->q5)/\(i<n/\wtP (List.getD q1 i Z8)=true->AV.bool true=AV.bool b)/\(False->False)) False) False) False) q5) (by kernel_rfl) ?_
 conv=>zeta
 try simp only [Zi]
 try simp only [Zj]
 try simp only [Zf]
 try simp only [Zk]
 try simp only [Zl]
 try simp only [Zg]
 try simp only [Int.toNat_natCast,Nat.zero_add,true_and,and_true,Nat.le_refl]
 subst hb
 refine ⟨fun _=>⟨by rw [hn],hn,hn,hC,fun i hi hg=>⟨fun he=> ?_,fun hx=> ?_,fun h=>h.elim⟩⟩,fun h=>absurd h (by simpa using hcap)⟩
 ·have:Wo X.L=false:=by
   rw [show Wo X.L=X.L.any wtP from rfl,<-Z3C,Z5N (p:=wtP) fun j hj=>(hg j (by omega)).1]
   exact decide_eq_false (by omega)
  rw [this]
 ·have:Wo X.L=true:=List.any_eq_true.2 ⟨_,ZD (by omega),hx.2⟩
  rw [this]
def Ze6:ZK:=fun args h K=>ZP none h true 20 args fun a=>match a with
 | [.pview cs 0]=>∃X,LV cs X/\X.Inv Zr/\K (.bool (Wo X.L))
 | _=>False
theorem Zbo (args:List AV) (h:Z9) (K:AV->Prop) (hl:Ze6 args h K):Zn PP 50 args h fun o h'=>∃v,o=.ret v/\h'=h/\K v:=by
 refine ZA.psumm (d:=20) (Zs _ _ _ _ _ hl fun a ha=> ?_)
 split at ha
 ·obtain ⟨X,hX,hI,hK⟩:=ha
  exact ⟨_,(ZA.evV (Ze5 X.L X.L.length) (Zna X _ _ _ ⟨hI.am.n,rfl,hI.stage⟩ rfl (Xg hI.tb) rfl)).conv fun E r hr=>hr.head (fun _ hc=>W0 hX hc) fun _ hc=>hc,fun _=>rfl,hK⟩
 ·exact ha.elim
end Go.Tk
end
section
namespace Go.Tk
open IntKind (i64 u8 u32 u64 wrap)
def Yw (W:Int->List Int):List Int->List Int->List Int
 | xs,[]=>xs
 | xs,n::r=>Yw W (xs++W n) r
theorem Wk:∀(ns xs:List Int),(Yw Zq xs ns).length<=xs.length+9*ns.length
 | [],xs=>by simp [Yw]
 | n::r,xs=>by
  have h1:=Y0 n
  have h2:=Wk r (xs++Zq n)
  simp only [Yw,List.length_append,List.length_cons] at*;omega
def wrH (N:Nat) (xs:List Int):Z9:=⟨2,[(0,.flat [.nslice ⟨1,0,0,0,0⟩ 1 N N,.bool true]),(1,.ints .u8 xs)]⟩
theorem Znb (W:Int->List Int) (T:Int) (xs ys:List Int) (N L:Nat) (a b:Int) (hT:T=4611686018427387904) (hW:W=Zq) (hN:xs.length=N) (hB:N<80000000000000) (h1:0<=a/\a<=T) (h2:0<=b/\b<=T) (hy:ys=Yw W xs [a,b]) (hL:L=ys.length):
  evF (ZaV W) 20 65 [.ptr (some ⟨0,0,0,0,0⟩),.vints .i64 [a,b] 2] (wrH N xs) (ZX 2 (.ret (.int .i64 0)) 3 [(0,.flat [.nslice ⟨2,0,0,0,0⟩ 1 L L,.bool true]),(2,.ints .u8 ys)]):=by
 refine @Eq.mpr _ (let q1:=xs++W a;let q2:=List.length q1;let q3:=q1++W b;let q4:=List.length q3;
 Z0 (decide (a<0)) False (Z0 (decide (a>4611686018427387904)) False (Z0 (decide (b<0)) False (Z0 (decide (b>4611686018427387904)) False (Z0 (decide (List.length xs=N/\N<90000000000000)) (Z0 (decide (q2=q2/\q2<90000000000000)) (Z0 (decide (q4=L)) (Z0 (decide (L<=q4)) (q3=ys/\True) False) False) False) False))))) (by kernel_rfl) ?_
 conv=>zeta
 try simp only [Zi]
 try simp only [Zj]
 try simp only [Zf]
 try simp only [Zk]
 try simp only [Zl]
 try simp only [Zg]
 try simp only [Int.toNat_natCast,Nat.zero_add,true_and,and_true,Nat.le_refl]
 subst hT hW hN hy hL
 have wa:=Y0 a
 have wb:=Y0 b
 simp only [Yw]
 repeat' apply And.intro
 all_goals first|omega|rfl|(simp only [List.length_append]<;>omega)
theorem Znc (W:Int->List Int) (T:Int) (xs ys:List Int) (N L:Nat) (a b c:Int) (hT:T=4611686018427387904) (hW:W=Zq) (hN:xs.length=N) (hB:N<80000000000000) (h1:0<=a/\a<=T) (h2:0<=b/\b<=T) (h3:0<=c/\c<=T) (hy:ys=Yw W xs [a,b,c]) (hL:L=ys.length):
  evF (ZaV W) 20 65 [.ptr (some ⟨0,0,0,0,0⟩),.vints .i64 [a,b,c] 3] (wrH N xs) (ZX 2 (.ret (.int .i64 0)) 3 [(0,.flat [.nslice ⟨2,0,0,0,0⟩ 1 L L,.bool true]),(2,.ints .u8 ys)]):=by
 refine @Eq.mpr _ (let q1:=xs++W a;let q2:=List.length q1;let q3:=q1++W b;let q4:=List.length q3;let q5:=q3++W c;let q6:=List.length q5;
 Z0 (decide (a<0)) False (Z0 (decide (a>4611686018427387904)) False (Z0 (decide (b<0)) False (Z0 (decide (b>4611686018427387904)) False (Z0 (decide (c<0)) False (Z0 (decide (c>4611686018427387904)) False (Z0 (decide (List.length xs=N/\N<90000000000000)) (Z0 (decide (q2=q2/\q2<90000000000000)) (Z0 (decide (q4=q4/\q4<90000000000000)) (Z0 (decide (q6=L)) (Z0 (decide (L<=q6)) (q5=ys/\True) False) False) False) False) False))))))) (by kernel_rfl) ?_
 conv=>zeta
 try simp only [Zi]
 try simp only [Zj]
 try simp only [Zf]
 try simp only [Zk]
 try simp only [Zl]
 try simp only [Zg]
 try simp only [Int.toNat_natCast,Nat.zero_add,true_and,and_true,Nat.le_refl]
 subst hT hW hN hy hL
 have wa:=Y0 a
 have wb:=Y0 b
 have wc:=Y0 c
 simp only [Yw]
 repeat' apply And.intro
 all_goals first|omega|rfl|(simp only [List.length_append]<;>omega)
theorem Znd (W:Int->List Int) (T:Int) (xs ys:List Int) (N L:Nat) (a b c d e:Int) (hT:T=4611686018427387904) (hW:W=Zq) (hN:xs.length=N) (hB:N<80000000000000) (h1:0<=a/\a<=T) (h2:0<=b/\b<=T) (h3:0<=c/\c<=T) (h4:0<=d/\d<=T) (h5:0<=e/\e<=T) (hy:ys=Yw W xs [a,b,c,d,e]) (hL:L=ys.length):
  evF (ZaV W) 20 65 [.ptr (some ⟨0,0,0,0,0⟩),.vints .i64 [a,b,c,d,e] 5] (wrH N xs) (ZX 2 (.ret (.int .i64 0)) 3 [(0,.flat [.nslice ⟨2,0,0,0,0⟩ 1 L L,.bool true]),(2,.ints .u8 ys)]):=by
 refine @Eq.mpr _ (let q1:=xs++W a;let q2:=List.length q1;let q3:=q1++W b;let q4:=List.length q3;let q5:=q3++W c;let q6:=List.length q5;let q7:=q5++W d;let q8:=List.length q7;let q9:=q7++W e;let q10:=List.length q9;
 Z0 (decide (a<0)) False (Z0 (decide (a>4611686018427387904)) False (Z0 (decide (b<0)) False (Z0 (decide (b>4611686018427387904)) False (Z0 (decide (c<0)) False (Z0 (decide (c>4611686018427387904)) False (Z0 (decide (d<0)) False (Z0 (decide (d>4611686018427387904)) False (Z0 (decide (e<0)) False (Z0 (decide (e>4611686018427387904)) False (Z0 (decide (List.length xs=N/\N<90000000000000)) (Z0 (decide (q2=q2/\q2<90000000000000)) (Z0 (decide (q4=q4/\q4<90000000000000)) (Z0 (decide (q6=q6/\q6<90000000000000)) (Z0 (decide (q8=q8/\q8<90000000000000)) (Z0 (decide (q10=L)) (Z0 (decide (L<=q10)) (q9=ys/\True) False) False) False) False) False) False) False))))))))))) (by kernel_rfl) ?_
 conv=>zeta
 try simp only [Zi]
 try simp only [Zj]
 try simp only [Zf]
 try simp only [Zk]
 try simp only [Zl]
 try simp only [Zg]
 try simp only [Int.toNat_natCast,Nat.zero_add,true_and,and_true,Nat.le_refl]
 subst hT hW hN hy hL
 have wa:=Y0 a
 have wb:=Y0 b
 have wc:=Y0 c
 have wd:=Y0 d
 have we:=Y0 e
 simp only [Yw]
 repeat' apply And.intro
 all_goals first|omega|rfl|(simp only [List.length_append]<;>omega)
theorem Zne (W:Int->List Int) (T:Int) (xs ys:List Int) (N L:Nat) (a b c d e f g:Int) (hT:T=4611686018427387904) (hW:W=Zq) (hN:xs.length=N) (hB:N<80000000000000) (h1:0<=a/\a<=T) (h2:0<=b/\b<=T) (h3:0<=c/\c<=T) (h4:0<=d/\d<=T) (h5:0<=e/\e<=T) (h6:0<=f/\f<=T) (h7:0<=g/\g<=T) (hy:ys=Yw W xs [a,b,c,d,e,f,g]) (hL:L=ys.length):
  evF (ZaV W) 20 65 [.ptr (some ⟨0,0,0,0,0⟩),.vints .i64 [a,b,c,d,e,f,g] 7] (wrH N xs) (ZX 2 (.ret (.int .i64 0)) 3 [(0,.flat [.nslice ⟨2,0,0,0,0⟩ 1 L L,.bool true]),(2,.ints .u8 ys)]):=by
 refine @Eq.mpr _ (let q1:=xs++W a;let q2:=List.length q1;let q3:=q1++W b;let q4:=List.length q3;let q5:=q3++W c;let q6:=List.length q5;let q7:=q5++W d;let q8:=List.length q7;let q9:=q7++W e;let q10:=List.length q9;let q11:=q9++W f;let q12:=List.length q11;let q13:=q11++W g;let q14:=List.length q13;
 Z0 (decide (a<0)) False
 (Z0 (decide (a>4611686018427387904)) False (Z0 (decide (b<0)) False (Z0 (decide (b>4611686018427387904)) False (Z0 (decide (c<0)) False (Z0 (decide (c>4611686018427387904)) False (Z0 (decide (d<0)) False (Z0 (decide (d>4611686018427387904)) False (Z0 (decide (e<0)) False (Z0 (decide (e>4611686018427387904)) False (Z0 (decide (f<0)) False (Z0 (decide (f>4611686018427387904)) False (Z0 (decide (g<0)) False (Z0 (decide (g>4611686018427387904)) False (Z0 (decide (List.length xs=N/\N<90000000000000)) (Z0 (decide (q2=q2/\q2<90000000000000)) (Z0 (decide (q4=q4/\q4<90000000000000)) (Z0 (decide (q6=q6/\q6<90000000000000)) (Z0 (decide (q8=q8/\q8<90000000000000)) (Z0 (decide (q10=q10/\q10<90000000000000)) (Z0 (decide (q12=q12/\q12<90000000000000)) (Z0 (decide (q14=L)) (Z0 (decide (L<=q14)) (q13=ys/\True) False) False) False) False) False) False) False) False) False))))))))))))))) (by kernel_rfl) ?_
 conv=>zeta
 try simp only [Zi]
 try simp only [Zj]
 try simp only [Zf]
 try simp only [Zk]
 try simp only [Zl]
 try simp only [Zg]
 try simp only [Int.toNat_natCast,Nat.zero_add,true_and,and_true,Nat.le_refl]
 subst hT hW hN hy hL
 have wa:=Y0 a
 have wb:=Y0 b
 have wc:=Y0 c
 have wd:=Y0 d
 have we:=Y0 e
 have wf:=Y0 f
 have wg:=Y0 g
 simp only [Yw]
 repeat' apply And.intro
 all_goals first|omega|rfl|(simp only [List.length_append]<;>omega)
theorem Znf (hh:List Int) (hq:hh.length=32):
  evF G0 20 64 [.ptr (some ⟨0,0,0,0,0⟩),.vrows 32 1 (fun _=>[.arr .u8 32 hh]) 1] ⟨1,[(0,.flat [.nilslice,.bool true])]⟩ (ZX 1 (.ret (.int .i64 0)) 2 [(0,.flat [.nslice ⟨1,0,0,0,0⟩ 1 32 32,.bool true]),(1,.ints .u8 hh)]):=by
 refine @Eq.mpr _ (let q1:=[]++hh;let q2:=List.length q1;
 Z0 (decide (u8=u8/\List.length hh=32)) (Z0 (decide (q2*1<=140737488355328)) (Z0 (decide (q2=32)) (Z0 (decide (32<=q2)) (q1=hh/\True) False) False) False) False) (by kernel_rfl) ?_
 conv=>zeta
 try simp only [Zi]
 try simp only [Zj]
 try simp only [Zf]
 try simp only [Zk]
 try simp only [Zl]
 try simp only [Zg]
 try simp only [Int.toNat_natCast,Nat.zero_add,true_and,and_true,Nat.le_refl]
 simp only [List.nil_append]
 repeat' apply And.intro
 all_goals first|trivial|omega|rfl|assumption
theorem Zng (xs hh gg ys:List Int) (N L:Nat) (hN:xs.length=N) (hB:N<80000000000000) (hq:hh.length=32) (hg:gg.length=32) (hy:ys=xs++hh++gg) (hL:L=ys.length):
  evF G0 20 64 [.ptr (some ⟨0,0,0,0,0⟩),.vrows 32 2 (fun i=>[.arr .u8 32 ([hh,gg].getD i [])]) 2] (wrH N xs) (ZX 2 (.ret (.int .i64 0)) 3 [(0,.flat [.nslice ⟨2,0,0,0,0⟩ 1 L L,.bool true]),(2,.ints .u8 ys)]):=by
 refine @Eq.mpr _ (let q1:=xs++hh;let q2:=List.length q1;let q3:=q1++gg;let q4:=List.length q3;
 Z0 (decide (u8=u8/\List.length hh=32)) (Z0 (decide (u8=u8/\List.length xs=N)) (Z0 (decide (q2*1<=140737488355328)) (Z0 (decide (u8=u8/\List.length gg=32)) (Z0 (decide (u8=u8/\q2=q2)) (Z0 (decide (q4*1<=140737488355328)) (Z0 (decide (q4=L)) (Z0 (decide (L<=q4)) (q3=ys/\True) False) False) False) False) False) False) False) False) (by kernel_rfl) ?_
 conv=>zeta
 try simp only [Zi]
 try simp only [Zj]
 try simp only [Zf]
 try simp only [Zk]
 try simp only [Zl]
 try simp only [Zg]
 try simp only [Int.toNat_natCast,Nat.zero_add,true_and,and_true,Nat.le_refl]
 subst hN hy hL
 repeat' apply And.intro
 all_goals first|omega|rfl|assumption|(simp only [List.length_append]<;>omega)
theorem Znh (xs ys:List Int) (N L:Nat) (b:Bool) (hN:xs.length=N) (hB:N<80000000000000) (hy:ys=xs++[cond b 1 0]) (hL:L=ys.length):
  evF G0 20 66 [.ptr (some ⟨0,0,0,0,0⟩),.vrows 1 1 (fun _=>[.bool b]) 1] (wrH N xs) (ZX 2 (.ret (.int .i64 0)) 3 [(0,.flat [.nslice ⟨2,0,0,0,0⟩ 1 L L,.bool true]),(2,.ints .u8 ys)]):=by
 refine @Eq.mpr _ (let q1:=decide (u8=u8/\List.length xs=N);let q2:=xs++[(1:Int)];let q3:=List.length q2;let q4:=xs++[(0:Int)];let q5:=List.length q4;
 Z0 b (Z0 q1 (Z0 (decide (q3*1<=140737488355328)) (Z0 (decide (q3=L)) (Z0 (decide (L<=q3)) (q2=ys/\True) False) False) False) False) (Z0 q1 (Z0 (decide (q5*1<=140737488355328)) (Z0 (decide (q5=L)) (Z0 (decide (L<=q5)) (q4=ys/\True) False) False) False) False)) (by kernel_rfl) ?_
 conv=>zeta
 try simp only [Zi]
 try simp only [Zj]
 try simp only [Zf]
 try simp only [Zk]
 try simp only [Zl]
 try simp only [Zg]
 try simp only [Int.toNat_natCast,Nat.zero_add,true_and,and_true,Nat.le_refl]
 subst hN hy hL
 refine ⟨fun h=> ?_,fun h=> ?_⟩
 all_goals subst h
 all_goals repeat' apply And.intro
 all_goals first|omega|rfl|(simp only [List.length_append,List.length_cons,List.length_nil]<;>omega)
def Z3D (h:Z9) (w b:Nat) (ys:List Int):Z9:=⟨h.next+1,(w,.flat [.nslice ⟨h.next,0,0,0,0⟩ 1 ys.length ys.length,.bool true])::(h.next,.ints .u8 ys)::Ye (Ye h.bs w) b⟩
def wnG (W:Int->List Int) (T:Int) (B:Nat):Y8:=fun args h K=>match args with
 | [.ptr (some ⟨w,0,0,0,0⟩),_]=>match h.get w with
  |some (.flat [.nslice ⟨b,0,0,0,0⟩ 1 _ _,.bool true])=>frA [w,b] h 20 args fun Bs a=>match Bs,a with
   | [.flat [.nslice ⟨1,0,0,0,0⟩ 1 N M,.bool true],.ints .u8 xs],[.ptr (some ⟨0,0,0,0,0⟩),.vints .i64 [x,y] 2]=>
    Zx (xs.length=N/\M=N/\N<B/\(0<=x/\x<=T)/\(0<=y/\y<=T)) (K (.ret (.int .i64 0)) (Z3D h w b (Yw W xs [x,y])))
   | [.flat [.nslice ⟨1,0,0,0,0⟩ 1 N M,.bool true],.ints .u8 xs],[.ptr (some ⟨0,0,0,0,0⟩),.vints .i64 [x,y,z] 3]=>
    Zx (xs.length=N/\M=N/\N<B/\(0<=x/\x<=T)/\(0<=y/\y<=T)/\(0<=z/\z<=T)) (K (.ret (.int .i64 0)) (Z3D h w b (Yw W xs [x,y,z])))
   | [.flat [.nslice ⟨1,0,0,0,0⟩ 1 N M,.bool true],.ints .u8 xs],[.ptr (some ⟨0,0,0,0,0⟩),.vints .i64 [x,y,z,u,v] 5]=>
    Zx (xs.length=N/\M=N/\N<B/\(0<=x/\x<=T)/\(0<=y/\y<=T)/\(0<=z/\z<=T)/\(0<=u/\u<=T)/\(0<=v/\v<=T)) (K (.ret (.int .i64 0)) (Z3D h w b (Yw W xs [x,y,z,u,v])))
   | [.flat [.nslice ⟨1,0,0,0,0⟩ 1 N M,.bool true],.ints .u8 xs],[.ptr (some ⟨0,0,0,0,0⟩),.vints .i64 [x,y,z,u,v,p,q] 7]=>
    Zx (xs.length=N/\M=N/\N<B/\(0<=x/\x<=T)/\(0<=y/\y<=T)/\(0<=z/\z<=T)/\(0<=u/\u<=T)/\(0<=v/\v<=T)/\(0<=p/\p<=T)/\(0<=q/\q<=T)) (K (.ret (.int .i64 0)) (Z3D h w b (Yw W xs [x,y,z,u,v,p,q])))
   | _,_=>False
  | _=>False
 | _=>False
theorem Zjx (args:List AV) (h:Z9) (K:KO) (hl:wnG Zq 4611686018427387904 80000000000000 args h K):Zn PP 65 args h K:=by
 unfold wnG at hl
 split at hl
 ·split at hl
  ·refine Spec.fsumm hl fun Bs a hlen hK0=> ?_
   split at hK0
   ·obtain ⟨⟨h1,rfl,h2,k0,k1⟩,hK⟩:=Ze hK0
    exact ⟨_,_,_,_,_,.evM Z0l (Znb _ _ _ _ _ _ _ _ rfl rfl h1 h2 k0 k1 rfl rfl),by simp,.ret _ _ rfl,.cons _ _ _ _ _ _ rfl (.flat _ _ rfl) (.cons _ _ _ _ _ _ rfl (.ints _ _) .nil),hK⟩
   ·obtain ⟨⟨h1,rfl,h2,k0,k1,k2⟩,hK⟩:=Ze hK0
    exact ⟨_,_,_,_,_,.evM Z0l (Znc _ _ _ _ _ _ _ _ _ rfl rfl h1 h2 k0 k1 k2 rfl rfl),by simp,.ret _ _ rfl,.cons _ _ _ _ _ _ rfl (.flat _ _ rfl) (.cons _ _ _ _ _ _ rfl (.ints _ _) .nil),hK⟩
   ·obtain ⟨⟨h1,rfl,h2,k0,k1,k2,k3,k4⟩,hK⟩:=Ze hK0
    exact ⟨_,_,_,_,_,.evM Z0l (Znd _ _ _ _ _ _ _ _ _ _ _ rfl rfl h1 h2 k0 k1 k2 k3 k4 rfl rfl),by simp,.ret _ _ rfl,.cons _ _ _ _ _ _ rfl (.flat _ _ rfl) (.cons _ _ _ _ _ _ rfl (.ints _ _) .nil),hK⟩
   ·obtain ⟨⟨h1,rfl,h2,k0,k1,k2,k3,k4,k5,k6⟩,hK⟩:=Ze hK0
    exact ⟨_,_,_,_,_,.evM Z0l (Zne _ _ _ _ _ _ _ _ _ _ _ _ _ rfl rfl h1 h2 k0 k1 k2 k3 k4 k5 k6 rfl rfl),by simp,.ret _ _ rfl,.cons _ _ _ _ _ _ rfl (.flat _ _ rfl) (.cons _ _ _ _ _ _ rfl (.ints _ _) .nil),hK⟩
   ·exact hK0.elim
  ·exact hl.elim
 ·exact hl.elim
def whG (B:Nat):Y8:=fun args h K=>match args with
 | [.ptr (some ⟨w,0,0,0,0⟩),_]=>match h.get w with
  |some (.flat [.nslice ⟨b,0,0,0,0⟩ 1 _ _,.bool true])=>frA [w,b] h 20 args fun Bs a=>match Bs,a with
   | [.flat [.nslice ⟨1,0,0,0,0⟩ 1 N M,.bool true],.ints .u8 xs],[.ptr (some ⟨0,0,0,0,0⟩),.vrows 32 1 f 1]=>match f 0 with
    | [.arr .u8 32 hh]=>Zx (xs.length=N/\M=N/\N<B/\hh.length=32) (K (.ret (.int .i64 0)) (Z3D h w b (xs++hh)))
    | _=>False
   | [.flat [.nslice ⟨1,0,0,0,0⟩ 1 N M,.bool true],.ints .u8 xs],[.ptr (some ⟨0,0,0,0,0⟩),.vrows 32 2 f 2]=>match f 0,f 1 with
    | [.arr .u8 32 hh],[.arr .u8 32 gg]=>Zx (xs.length=N/\M=N/\N<B/\hh.length=32/\gg.length=32) (K (.ret (.int .i64 0)) (Z3D h w b (xs++hh++gg)))
    | _,_=>False
   | _,_=>False
  | some (.flat [.nilslice,.bool true])=>frA [w] h 20 args fun Bs a=>match Bs,a with
   | [.flat [.nilslice,.bool true]],[.ptr (some ⟨0,0,0,0,0⟩),.vrows 32 1 f 1]=>match f 0 with
    | [.arr .u8 32 hh]=>Zx (hh.length=32) (K (.ret (.int .i64 0)) ⟨h.next+1,(w,.flat [.nslice ⟨h.next,0,0,0,0⟩ 1 32 32,.bool true])::(h.next,.ints .u8 hh)::Ye h.bs w⟩)
    | _=>False
   | _,_=>False
  | _=>False
 | _=>False
theorem Zjy (args:List AV) (h:Z9) (K:KO) (hl:whG 80000000000000 args h K):Zn PP 64 args h K:=by
 unfold whG at hl
 split at hl
 ·split at hl
  ·refine Spec.fsumm hl fun Bs a hlen hK0=> ?_
   split at hK0
   ·split at hK0
    case h_2=>exact hK0.elim
    rename_i hh hf
    obtain ⟨⟨h1,rfl,h2,h3⟩,hK⟩:=Ze hK0
    refine ⟨_,_,_,_,_,(Spec.evM Zu (Zfw _ hh _ _ _ _ h1 (by omega) h3 rfl rfl)).conv fun E r hr=>hr.head (fun _ hc=>hc) fun _ hc=>hc.head (fun _ hc=>hc.rowsC ?_) fun _ hc=>hc,by simp,.ret _ _ rfl,.cons _ _ _ _ _ _ rfl (.flat _ _ rfl) (.cons _ _ _ _ _ _ rfl (.ints _ _) .nil),hK⟩
    intro i hi
    have:i=0:=by omega
    subst this
    exact hf
   ·split at hK0
    case h_2=>exact hK0.elim
    rename_i hh gg hf hg
    obtain ⟨⟨h1,rfl,h2,h3,h4⟩,hK⟩:=Ze hK0
    refine ⟨_,_,_,_,_,(Spec.evM Zu (Zng _ hh gg _ _ _ h1 h2 h3 h4 rfl rfl)).conv fun E r hr=>hr.head (fun _ hc=>hc) fun _ hc=>hc.head (fun _ hc=>hc.rowsC ?_) fun _ hc=>hc,by simp,.ret _ _ rfl,.cons _ _ _ _ _ _ rfl (.flat _ _ rfl) (.cons _ _ _ _ _ _ rfl (.ints _ _) .nil),hK⟩
    intro i hi
    have:i=0\/i=1:=by omega
    rcases this with rfl|rfl
    ·exact hf
    ·exact hg
   ·exact hK0.elim
  ·refine Spec.fsumm hl fun Bs a hlen hK0=> ?_
   split at hK0
   ·split at hK0
    case h_2=>exact hK0.elim
    rename_i hh hf
    obtain ⟨h3,hK⟩:=Ze hK0
    refine ⟨_,_,_,_,_,(Spec.evM Zu (Znf hh h3)).conv fun E r hr=>hr.head (fun _ hc=>hc) fun _ hc=>hc.head (fun _ hc=>hc.rowsC ?_) fun _ hc=>hc,by simp,.ret _ _ rfl,.cons _ _ _ _ _ _ rfl (.flat _ _ rfl) (.cons _ _ _ _ _ _ rfl (.ints _ _) .nil),hK⟩
    intro i hi
    have:i=0:=by omega
    subst this
    exact hf
   ·exact hK0.elim
  ·exact hl.elim
 ·exact hl.elim
def wtG (B:Nat):Y8:=fun args h K=>match args with
 | [.ptr (some ⟨w,0,0,0,0⟩),_]=>match h.get w with
  |some (.flat [.nslice ⟨b,0,0,0,0⟩ 1 _ _,.bool true])=>frA [w,b] h 20 args fun Bs a=>match Bs,a with
   | [.flat [.nslice ⟨1,0,0,0,0⟩ 1 N M,.bool true],.ints .u8 xs],[.ptr (some ⟨0,0,0,0,0⟩),.vrows 1 1 f 1]=>match f 0 with
    | [.bool t]=>Zx (xs.length=N/\M=N/\N<B) (K (.ret (.int .i64 0)) (Z3D h w b (xs++[cond t 1 0])))
    | _=>False
   | _,_=>False
  | _=>False
 | _=>False
theorem Zjz (args:List AV) (h:Z9) (K:KO) (hl:wtG 80000000000000 args h K):Zn PP 66 args h K:=by
 unfold wtG at hl
 split at hl
 ·split at hl
  ·refine Spec.fsumm hl fun Bs a hlen hK0=> ?_
   split at hK0
   ·split at hK0
    case h_2=>exact hK0.elim
    rename_i t hf
    obtain ⟨⟨h1,rfl,h2⟩,hK⟩:=Ze hK0
    refine ⟨_,_,_,_,_,(Spec.evM Zu (Znh _ _ _ _ t h1 h2 rfl rfl)).conv fun E r hr=>hr.head (fun _ hc=>hc) fun _ hc=>hc.head (fun _ hc=>hc.rowsC ?_) fun _ hc=>hc,by simp,.ret _ _ rfl,.cons _ _ _ _ _ _ rfl (.flat _ _ rfl) (.cons _ _ _ _ _ _ rfl (.ints _ _) .nil),hK⟩
    intro i hi
    have:i=0:=by omega
    subst this
    exact hf
   ·exact hK0.elim
  ·exact hl.elim
 ·exact hl.elim
end Go.Tk
end
section
namespace Go.Tk
open IntKind (i64 u8 u32 u64 wrap)
def Z1H (W:Int->List Int) (xs:List Int) (h:Z6):List Int:=if h.fin=1 then Yw W (Yw W (xs++[cond h.own 1 0]) [h.id,h.amount]++h.hash) [h.expiry,h.stage,h.fin]++h.secret else Yw W (Yw W (xs++[cond h.own 1 0]) [h.id,h.amount]++h.hash) [h.expiry,h.stage,h.fin]
def XH (W:Int->List Int) (X:Z7):List Int:=Yw W (Yw W X.t.fund [X.t.index,X.t.cap,X.t.dust,X.t.fee,X.t.delay]++X.t.k0++X.t.k1) [X.side,X.res,X.a0,X.a1,X.i0,X.i1,(X.L.length:Int)]
def Yn (W:Int->List Int) (X:Z7):List Int:=X.L.foldl (Z1H W) (XH W X)
noncomputable def ZgG (W:Int->List Int) (T:Int) (B:Nat):Zh:=(((G0.withF 65 (wnG W T B)).withF 64 (whG B)).withF 66 (wtG B)).withF 113 Z5q
theorem ZgH:(ZgG Zq 4611686018427387904 80000000000000).Ok:=Zh.withF_ok (Zh.withF_ok (Zh.withF_ok (Zh.withF_ok Zu Zjx) Zjy) Zjz) Z33
def rwS (X:Z7) (n i N:Nat) (xs:List Int):St:=⟨127,[(77,.int .i64 i),(76,.int .i64 n),(75,.vrows 70 n (Z4 X.L) n),(3,.ptr (some ⟨0,0,0,0,0⟩))],wrH N xs,[]⟩
def rwE (N:Nat) (xs:List Int):St:=⟨127,[(3,.ptr (some ⟨0,0,0,0,0⟩))],wrH N xs,[]⟩
def Zbp (T:Int) (x:Z6):Prop:=(0<=x.id/\x.id<=T)/\(0<=x.amount/\x.amount<=T)/\(0<=x.expiry/\x.expiry<=T)/\(0<=x.stage/\x.stage<=T)/\0<=x.fin/\x.fin<=T
theorem Zni (X:Z7) (n i N N1 B:Nat) (xs ys:List Int) (x:Z6) (W:Int->List Int) (T:Int) (Z1 Z2:Prop) (hn:n<1000) (hL:X.L.length=n) (hi:i<=n) (hx:i<n->X.L.getD i Z8=x) (hN:xs.length=N) (hB:i<n->N+1000<B) (hW:W=Zq) (hr:i<n->Zbp T x) (hk:i<n->x.Ok) (hy:i<n->ys=Z1H W xs x) (hN1:i<n->N1=ys.length) (hZ1:i<n->Z1) (hZ2:i=n->Z2):
  ZB (ZgG W T B) 20 21 0 0 (rwS X n i N xs) (rdM 0 0 9 (rwS X n (i+1) N1 ys) (rwE N xs) (rwE N xs) (rwE N xs) Z1 Z2 False False):=by
 refine @Eq.mpr _ (let q1:=List.getD X.L (Int.toNat (↑i:Int)) Z8;let q2:=xs++[bif q1.own then 1 else 0];let q3:=List.length q2;let q4:=q1.id;let q5:=q1.amount;let q6:=Yw W q2 [q4,q5];let q7:=List.length q6;let q8:=q1.hash;let q9:=q6++q8;let q10:=List.length q9;let q11:=q1.expiry;let q12:=q1.stage;let q13:=q1.fin;let q14:=Yw W q9 [q11,q12,q13];let q15:=List.length q14;let q16:=q1.secret;let q17:=decide (wrap i64 ((↑i:Int)+1)=(↑(i+1):Int));let q18:=decide ((↑n:Int)=(↑n:Int));let q19:=decide (n=n);let q20:=Z4 X.L;let q21:=q20=q20;let q22:=q14++q16;let q23:=List.length q22;
 Z0 (decide ((↑i:Int)<(↑n:Int))) (Z0 (decide (0<=(↑i:Int)/\(↑i:Int)<(↑n:Int))) (Z0 (decide (List.length xs=N/\N=N/\N<B)) (Z0 (decide (q3=q3/\q3=q3/\q3<B/\(0<=q4/\q4<=T)/\0<=q5/\q5<=T)) (Z0 (decide (q7=q7/\q7=q7/\q7<B/\List.length q8=32)) (Z0 (decide (q10=q10/\q10=q10/\q10<B/\(0<=q11/\q11<=T)/\(0<=q12/\q12<=T)/\0<=q13/\q13<=T)) (Z0 (q13==1) (Z0 (decide (q15=q15/\q15=q15/\q15<B/\List.length q16=32)) (Z0 q17 (Z0 q18 (Z0 q19 (q21/\Z0 q19 (Z0 (decide (q23=N1)) (Z0 (decide (N1<=q23)) (q22=ys/\Z1) False) False) False) False) False) False) False) (Z0 q17 (Z0 q18 (Z0 q19 (q21/\Z0 q19 (Z0 (decide (q15=N1)) (Z0 (decide (N1<=q15)) (q14=ys/\Z1) False) False) False) False) False) False)) False) False) False) False) False) (Z0 (decide (N=N)) (Z0 (decide (N<=N)) (xs=xs/\Z2) False) False)) (by kernel_rfl) ?_
 conv=>zeta
 try simp only [Zi]
 try simp only [Zj]
 try simp only [Zf]
 try simp only [Zk]
 try simp only [Zl]
 try simp only [Zg]
 try simp only [Int.toNat_natCast,Nat.zero_add,true_and,and_true,Nat.le_refl]
 refine ⟨fun hc=> ?_,fun hc=>hZ2 (by omega)⟩
 have hlt:i<n:=by omega
 rw [hx hlt]
 obtain ⟨r1,r2,r3,r4,r5⟩:=hr hlt
 have hk:=hk hlt
 have hB:=hB hlt
 have hy:=hy hlt
 have hN1:=hN1 hlt
 have hwr:i64.wrap ((i:Int)+1)=((i+1:Nat):Int):=by rw [w64 (by omega)];omega
 have k1:=hk.hash
 have k2:=hk.secret
 subst hW
 unfold Z1H at hy
 have l1:=Wk [x.id,x.amount] (xs++[bif x.own then 1 else 0])
 generalize Yw Zq (xs++[bif x.own then 1 else 0]) [x.id,x.amount]=A1 at*
 have l2:=Wk [x.expiry,x.stage,x.fin] (A1++x.hash)
 generalize hA2:Yw Zq (A1++x.hash) [x.expiry,x.stage,x.fin]=A2 at*
 simp only [List.length_append,List.length_cons,List.length_nil] at*
 refine ⟨by omega,⟨hN,by omega⟩,⟨by omega,r1,r2⟩,⟨by omega,k1⟩,⟨by omega,r3,r4,r5⟩,fun hf=> ?_,fun hf=> ?_⟩
 ·have hf:x.fin=1:=by simpa using hf
  have hy:ys=A2++x.secret:=by rw [hy,if_pos hf]
  subst hy
  rw [List.length_append] at hN1
  exact ⟨⟨by omega,k2⟩,hwr,by omega,by omega,rfl,hZ1 hlt⟩
 ·have hf:¬x.fin=1:=by simpa using hf
  have hy:ys=A2:=by rw [hy,if_neg hf]
  subst hy
  exact ⟨hwr,by omega,by omega,rfl,hZ1 hlt⟩
theorem Ze7 (xs:List Int) (h:Z6) (h1:h.hash.length=32) (h2:h.secret.length=32):(Z1H Zq xs h).length<=xs.length+110:=by
 have l1:=Wk [h.id,h.amount] (xs++[bif h.own then 1 else 0])
 have l2:=Wk [h.expiry,h.stage,h.fin] (Yw Zq (xs++[bif h.own then 1 else 0]) [h.id,h.amount]++h.hash)
 unfold Z1H
 simp only [List.length_append,List.length_cons,List.length_nil] at*
 split
 ·rw [List.length_append];omega
 ·omega
theorem UJ {L:List Z6} (hL:∀h∈L,h.Ok):∀xs,(L.foldl (Z1H Zq) xs).length<=xs.length+110*L.length:=by
 induction L with
 | nil=>simp
 | cons h r ih=>
  intro xs
  rw [List.foldl_cons,List.length_cons]
  have h1:=ih (fun z hz=>hL z (by simp [hz])) (Z1H Zq xs h)
  have hk:=hL h (by simp)
  have h2:=Ze7 xs h hk.hash hk.secret
  omega
theorem WE {X:Z7} (hf:X.t.fund.length=32) (h0:X.t.k0.length=32) (h1:X.t.k1.length=32):(XH Zq X).length<=300:=by
 have l1:=Wk [X.t.index,X.t.cap,X.t.dust,X.t.fee,X.t.delay] X.t.fund
 have l2:=Wk [X.side,X.res,X.a0,X.a1,X.i0,X.i1,(X.L.length:Int)] (Yw Zq X.t.fund [X.t.index,X.t.cap,X.t.dust,X.t.fee,X.t.delay]++X.t.k0++X.t.k1)
 unfold XH
 simp only [List.length_append,List.length_cons,List.length_nil] at*
 omega
def Z78 (T:Int) (X:Z7):Prop:=(0<=X.t.index/\X.t.index<=T)/\(0<=X.t.cap/\X.t.cap<=T)/\(0<=X.t.dust/\X.t.dust<=T)/\(0<=X.t.fee/\X.t.fee<=T)/\(0<=X.t.delay/\X.t.delay<=T)/\(0<=X.side/\X.side<=T)/\(0<=X.res/\X.res<=T)/\(0<=X.a0/\X.a0<=T)/\(0<=X.a1/\X.a1<=T)/\(0<=X.i0/\X.i0<=T)/\(0<=X.i1/\X.i1<=T)/\0<=(X.L.length:Int)/\(X.L.length:Int)<=T
def Z8R (T:Int) (B:Nat) (X:Z7) (n:Nat) (hd:List Int):Prop:=X.L.length=n/\n<=16/\hd.length<=300/\10000<=B/\(∀h∈X.L,Zbp T h/\h.Ok)
def Yr (X:Z7) (hd:List Int) (i:Nat):List Int:=(X.L.take i).foldl (Z1H Zq) hd
theorem Znj (T:Int) (B:Nat) (X:Z7) (n i:Nat) (hd:List Int) (hC:Z8R T B X n hd) (hi:i<=n):ZB (ZgG Zq T B) 20 21 0 0 (rwS X n i (Yr X hd i).length (Yr X hd i)) (rdM 0 0 9 (rwS X n (i+1) (Yr X hd (i+1)).length (Yr X hd (i+1))) (rwE (Yr X hd i).length (Yr X hd i)) (rwE (Yr X hd i).length (Yr X hd i)) (rwE (Yr X hd i).length (Yr X hd i)) (i<n/\i<n) (i=n) False False):=by
 obtain ⟨h1,h2,h3,h4,h5⟩:=id hC
 have hlt:i<n->i<X.L.length:=fun h=>by omega
 have hl:=UJ (L:=X.L.take i) (fun z hz=>(h5 z (List.mem_of_mem_take hz)).2) hd
 have l0:(X.L.take i).length<=16:=by rw [List.length_take];omega
 refine Zni X n i _ _ B _ _ (X.L.getD i Z8) Zq T (i<n/\i<n) (i=n) (by omega) h1 hi (fun _=>rfl) rfl (fun _=> ?_) rfl (fun h=>(h5 _ (ZD (hlt h))).1) (fun h=>(h5 _ (ZD (hlt h))).2) (fun h=> ?_) (fun _=>rfl) (fun h=>⟨h,h⟩) (fun h=>h)
 ·unfold Yr;omega
 ·unfold Yr
  rw [Y9 (hlt h),List.foldl_append];rfl
noncomputable def Zi2 (W:Int->List Int) (T:Int) (B:Nat) (X:Z7) (n N:Nat) (hd:List Int) (C:Prop) (E:Nat->St):Zh:=(ZgG W T B).withL 21 0 (goM 0 (rwS X n 0 N hd) C (Yu 0 n 9 (fun i=>i<n) (fun i=>i=n) (fun _=>False) (fun _=>False) E E E))
theorem Ze8 (X:Z7) (n:Nat) (hd:List Int):(Zi2 Zq 4611686018427387904 80000000000000 X n hd.length hd (Z8R 4611686018427387904 80000000000000 X n hd) (fun i=>rwE (Yr X hd i).length (Yr X hd i))).Ok:=
 Zh.withGoM (N:=20) (S:=fun i=>rwS X n i (Yr X hd i).length (Yr X hd i)) ZgH (by kernel_rfl) fun hC=>⟨rfl,fun i hi _=>Znj _ _ X n i hd hC hi⟩
theorem Znk (X:Z7) (n N B l:Nat) (hd ys:List Int) (W:Int->List Int) (T:Int) (C:Prop) (XF:Nat->List Int) (hC:C) (hn:X.L.length=n) (hcap:X.t.cap≠0) (hhd:hd=XH W X) (hN:N=hd.length) (hy:ys=XF n) (hl:l=ys.length) (hl2:ys.length<90000000000000) (hf:X.t.fund.length=32) (h0:X.t.k0.length=32) (h1:X.t.k1.length=32) (hB:10000<=B) (hW:W=Zq) (hT:Z78 T X):
  evF (Zi2 W T B X n N hd C fun i=>rwE (XF i).length (XF i)) 20 21 [Wp X] ⟨0,[]⟩ (ZX 0 (.ret (.nslice ⟨0,0,0,0,0⟩ 1 l l)) 1 [(0,.ints .u8 ys)]):=by
 refine @Eq.mpr _ (let q1:=X.t;let q2:=q1.cap;let q3:=decide (l=0);let q4:=q1.fund;let q5:=q4=q4;let q6:=q1.index;let q7:=decide (q6=q6);let q8:=decide (q2=q2);let q9:=q1.dust;let q10:=decide (q9=q9);let q11:=q1.fee;let q12:=decide (q11=q11);let q13:=q1.delay;let q14:=decide (q13=q13);let q15:=q1.k0;let q16:=q15=q15;let q17:=q1.k1;let q18:=q17=q17;let q19:=Yw W q4 [q6,q2,q9,q11,q13];let q20:=List.length q19;let q21:=q19++q15++q17;let q22:=List.length q21;let q23:=X.side;let q24:=X.res;let q25:=X.a0;let q26:=X.a1;let q27:=X.i0;let q28:=X.i1;let q29:=List.length X.L;let q30:=↑q29;let q31:=decide (q29=n);let q32:=Z4 X.L;let q33:=Yw W q21 [q23,q24,q25,q26,q27,q28,q30];let q34:=List.length q33;
 Z0 (q2==0) (Z0 q3 (Z0 q3 (ys=[]/\True) False) False)
 (q5/\
 Z0 q7
 (Z0 q8
 (Z0 q10
 (Z0 q12
 (Z0 q14
 (q16/\
 q18/\
 q5/\
 Z0 q7
 (Z0 q8
 (Z0 q10
 (Z0 q12
 (Z0 q14
 (q16/\
 q18/\
 q5/\
 Z0 q7
 (Z0 q8
 (Z0 q10
 (Z0 q12
 (Z0 q14
 (q16/\
 q18/\
 Z0 (decide (List.length q4=32))
 (Z0 (decide (List.length q4=32/\(32:Nat)=32/\32<B/\(0<=q6/\q6<=T)/\(0<=q2/\q2<=T)/\(0<=q9/\q9<=T)/\(0<=q11/\q11<=T)/\0<=q13/\q13<=T))
 (Z0 (decide (q20=q20/\q20=q20/\q20<B/\List.length q15=32/\List.length q17=32))
 (Z0 (decide (q22=q22/\q22=q22/\q22<B/\(0<=q23/\q23<=T)/\(0<=q24/\q24<=T)/\(0<=q25/\q25<=T)/\(0<=q26/\q26<=T)/\(0<=q27/\q27<=T)/\(0<=q28/\q28<=T)/\0<=q30/\q30<=T))
 (Z0 (decide (q30=↑n))
 (Z0 q31
 (q32=q32/\
 Z0 q31
 (Z0 (decide (q34=N))
 (Z0 (decide (N<=q34))
 (q33=hd/\
 C/\
 ∀(i:Nat),
 let q69:=List.length (XF i);let q70:=List.take q69 (YC 0 (XF i));
 i<=n->(∀(j:Nat),j<i->(fun (i:Nat)=>i<n) j)->(i=n->Z0 (decide (0+q69<=q69)) (Z0 (decide (List.length q70=q69/\q69<90000000000000)) (Z0 (decide (q69=l)) (Z0 (decide (l<=q69)) (q70=ys/\True) False) False) False) False)/\(False->False)/\(False->False))
 False)
 False)
 False)
 False)
 False)
 False)
 False)
 False)
 False)
 False)
 False)
 False)
 False)
 False)
 False)
 False)
 False)
 False)
 False)
 False)
 False)
 False)
 False)
 False)) (by kernel_rfl) ?_
 conv=>zeta
 try simp only [Zi]
 try simp only [Zj]
 try simp only [Zf]
 try simp only [Zk]
 try simp only [Zl]
 try simp only [Zg]
 try simp only [Int.toNat_natCast,Nat.zero_add,true_and,and_true,Nat.le_refl]
 subst hy hN
 obtain ⟨t1,t2,t3,t4,t5,t6,t7,t8,t9,t10,t11,t12⟩:=hT
 have hlen:=WE hf h0 h1
 have e:List.take (XF n).length (YC 0 (XF n))=XF n:=by rw [Yf,List.drop_zero,List.take_length]
 subst hW
 have l1:=Wk [X.t.index,X.t.cap,X.t.dust,X.t.fee,X.t.delay] X.t.fund
 have hhd':=hhd
 unfold XH at hhd
 rw [<-hhd]
 have hlen:hd.length<=300:=by rw [hhd'];exact hlen
 simp only [List.length_append,List.length_cons,List.length_nil] at l1⊢
 refine ⟨fun h=>absurd h (by simpa using hcap),fun _=>⟨hf,⟨hf,by omega,t1,t2,t3,t4,t5⟩,⟨by omega,h0,h1⟩,⟨by omega,t6,t7,t8,t9,t10,t11,t12⟩,by rw [hn],hn,hn,trivial,Nat.le_refl _,trivial,hC,fun i hi _=>⟨fun he=> ?_,fun h=>h,fun h=>h⟩⟩⟩
 subst he
 rw [e]
 exact ⟨⟨rfl,hl2⟩,hl.symm,Nat.le_of_eq hl,rfl⟩
theorem ZgI {H:List Int->List Int} {h:Z6} (hf:QW H h=true):0<=h.fin/\h.fin<=2:=by
 unfold QW at hf
 by_cases h0:h.fin=0
 ·omega
 ·rw [if_neg h0] at hf
  by_cases h1:h.fin=1
  ·omega
  ·rw [if_neg h1] at hf
   by_cases h2:h.fin=2
   ·omega
   ·rw [if_neg h2] at hf;cases hf
theorem Z7.Inv.hnum {H:List Int->List Int} {X:Z7} (h:X.Inv H):∀z∈X.L,Zbp 4611686018427387904 z/\z.Ok:=fun z hz=>by
 obtain ⟨u1,u2,u3,u4⟩:=YJ (h.und z hz)
 have:=Z21 u1
 have:=ZgI u4
 exact ⟨⟨by omega,by omega,by omega,by omega,by omega⟩,h.ok z hz⟩
theorem Z7.Inv.hdnum {H:List Int->List Int} {X:Z7} (h:X.Inv H):Z78 4611686018427387904 X:=by
 have:=Y1 h.tb
 have:=h.side
 have:=h.res
 have:=h.a0
 have:=h.a1
 have:=h.i0
 have:=h.i1
 have:=h.len
 refine ⟨?_, ?_, ?_, ?_, ?_, ?_, ?_, ?_, ?_, ?_, ?_, ?_⟩<;>omega
theorem Z7.Inv.rw' {H:List Int->List Int} {X:Z7} (h:X.Inv H) (hf:X.t.fund.length=32):Z8R 4611686018427387904 80000000000000 X X.L.length (XH Zq X):=
 ⟨rfl,h.len,WE hf h.tok.k0 h.tok.k1,by decide,h.hnum⟩
theorem Z7.Inv.rawLen {H:List Int->List Int} {X:Z7} (h:X.Inv H) (hf:X.t.fund.length=32):(Yn Zq X).length<=3000:=by
 have h1:=UJ (L:=X.L) (fun z hz=>h.ok z hz) (XH Zq X)
 have h2:=WE hf h.tok.k0 h.tok.k1
 have:=h.len
 unfold Yn;omega
def Zi3 (W:Int->List Int):Y8:=fun args h K=>ZP none h true 20 args fun a=>match a with
 | [.pview cs 0]=>∃X,LV cs X/\X.Inv Zr/\X.t.fund.length=32/\K (.ret (.nslice ⟨h.next,0,0,0,0⟩ 1 (Yn W X).length (Yn W X).length)) ⟨h.next+1,(h.next,.ints .u8 (Yn W X))::h.bs⟩
 | _=>False
theorem Ze9 (args:List AV) (h:Z9) (K:KO) (hl:Zi3 Zq args h K):Zn PP 21 args h K:=by
 refine ZA.fsumm (d:=20) (Zs _ _ _ _ _ hl fun a ha=> ?_)
 split at ha
 ·obtain ⟨X,hX,hI,hf,hK⟩:=ha
  have hv:=Znk X X.L.length _ 80000000000000 _ (XH Zq X) (Yn Zq X) Zq 4611686018427387904 (Z8R 4611686018427387904 80000000000000 X X.L.length (XH Zq X)) (Yr X (XH Zq X)) (hI.rw' hf) rfl (Xg hI.tb) rfl rfl (by unfold Yr;rw [List.take_length];rfl) rfl (by have:=hI.rawLen hf;omega) hf hI.tok.k0 hI.tok.k1 (by decide) rfl hI.hdnum
  exact ⟨_,_,_,_,(ZA.evM (Ze8 X _ _) hv).conv fun E r hr=>hr.head (fun _ hc=>W0 hX hc) fun _ hc=>hc,rfl,⟨Nat.one_pos,.ints _ _,trivial⟩,hK⟩
 ·exact ha.elim
end Go.Tk
end
section
namespace Go.Tk
open IntKind (i64 u8 u32 u64 wrap)
noncomputable def Vh:Code:=rfA PP 48 0
noncomputable def Vi:Code:=rfB PP 48 0
noncomputable def ZjA:Zh:=G0.withF 45 ZdM
theorem Z9Y:ZjA.Ok:=Zh.withF_ok Zu Z1Z
noncomputable def Zea (L:List Z6) (own:Bool) (id:Int) (n i:Nat) (ls:LoopState) (pe:Option Code) (R:Z6) (b:Bool):St:=⟨17,[(0,.yield 7),(5,.nslice ⟨4,0,70,0,0⟩ 70 n n),(6,.int .i64 n),(7,.int .i64 i)],⟨8,[(7,.loop ⟨ls,pe,48,27,[(4,pt 0),(5,pt 1),(6,pt 2),(7,pt 3)],[14],Vh,Vi,6⟩),(6,.defd),(4,.rows 70 n (Z4 L)),(3,.flat [.bool b]),(2,.flat R.c),(1,.flat [.int .i64 id]),(0,.flat [.bool own])]⟩,[]⟩
noncomputable def Zbq (ls:LoopState) (pe:Option Code) (R:Z6) (b:Bool):St:=⟨17,[(0,.yield 7)],⟨8,[(7,.loop ⟨ls,pe,48,27,[(6,pt 2),(7,pt 3)],[14],Vh,Vi,6⟩),(6,.defd),(3,.flat [.bool b]),(2,.flat R.c)]⟩,[]⟩
theorem Zl3 (L:List Z6) (own:Bool) (id:Int) (n i:Nat) (x:Z6) (ls:LoopState) (pe:Option Code) (R:Z6) (b:Bool) (Z1 Z2:Prop) (hn:n<1000) (hL:L.length=n) (hi:i<=n) (hxx:i<n->L.getD i Z8=x) (hx:i=n->(ls=.ready/\pe=none/\R=Z8/\b=false)/\Z2) (hbk:i<n->isP own id x->(ls=.done/\pe=some .ret/\R=x/\b=true)/\Z2) (hgo:i<n->¬isP own id x->Z1):
  ZB ZjA 20 108 0 8 (Zea L own id n i .ready none Z8 false) (rdM 8 0 9 (Zea L own id n (i+1) .ready none Z8 false) (Zbq ls pe R b) (Zbq ls pe R b) (Zbq ls pe R b) Z1 Z2 False False):=by
 refine @Eq.mpr _ (let q1:=0+Int.toNat (↑i:Int);let q2:=List.getD L q1 Z8;let q3:=q2.own;let q4:=q2.id;let q5:=(48:FuncId)=48/\(27:Nat)=27/\[(14:Nat)]=[(14:Nat)]/\Vh=Vh/\Vi=Vi;let q6:=decide (n=n);let q7:=Z8.hash;let q8:=Z8.secret;let q9:=Z0 q6 (Z0 (decide (n<=n)) (Z0 (decide ((↑n:Int)=(↑n:Int))) (Z0 (decide (wrap i64 ((↑i:Int)+1)=(↑(i+1):Int))) ((LoopState.ready=LoopState.ready/\(none:Option Code)=none/\q5)/\Z0 q6 (Zc 8 [] n (Z4 L) (Z4 L)/\q7=q7/\q8=q8/\Z0 (decide (id=id)) (Z0 (decide (own=own)) Z1 False) False) False) False) False) False) False;
 Z0 (decide ((↑i:Int)<(↑n:Int))) (Z0 (decide (0<=(↑i:Int)/\(↑i:Int)<(↑n:Int))) (Z0 (decide (q1<n)) (Z0 (q3==own) (Z0 (q4==id) ((LoopState.done=ls/\some Code.ret=pe/\q5)/\Z0 (decide (true=b)) (Z0 (decide (q3=R.own)) (Z0 (decide (q4=R.id)) (Z0 (decide (q2.amount=R.amount)) (q2.hash=R.hash/\Z0 (decide (q2.expiry=R.expiry)) (Z0 (decide (q2.stage=R.stage)) (Z0 (decide (q2.fin=R.fin)) (q2.secret=R.secret/\Z2) False) False) False) False) False) False) False) q9) q9) False) False) ((LoopState.ready=ls/\none=pe/\q5)/\Z0 (decide (false=b)) (Z0 (decide (Z8.own=R.own)) (Z0 (decide (Z8.id=R.id)) (Z0 (decide (Z8.amount=R.amount)) (q7=R.hash/\Z0 (decide (Z8.expiry=R.expiry)) (Z0 (decide (Z8.stage=R.stage)) (Z0 (decide (Z8.fin=R.fin)) (q8=R.secret/\Z2) False) False) False) False) False) False) False)) (by kernel_rfl) ?_
 conv=>zeta
 try simp only [Zi]
 try simp only [Zj]
 try simp only [Zf]
 try simp only [Zk]
 try simp only [Zl]
 try simp only [Zg]
 try simp only [Int.toNat_natCast,Nat.zero_add,true_and,and_true,Nat.le_refl]
 refine ⟨fun hc=> ?_,fun hc=> ?_⟩
 ·have hlt:i<n:=by omega
  rw [hxx hlt]
  have hwr:i64.wrap ((i:Int)+1)=((i+1:Nat):Int):=by rw [w64 (by omega)];omega
  have hR:∀τ,Zc 8 τ n (Z4 L) (Z4 L):=fun τ=>Zp fun _ _=>rfl
  refine ⟨by omega,hlt,fun h1=>⟨fun h2=> ?_,fun h2=> ?_⟩,fun h1=> ?_⟩
  ·obtain ⟨⟨e1,e2,e3,e4⟩,hz⟩:=hbk hlt ⟨by simpa using h1,by simpa using h2⟩
   subst e1 e2 e3 e4
   exact ⟨⟨rfl,rfl⟩,rfl,rfl,rfl,rfl,rfl,rfl,rfl,rfl,rfl,hz⟩
  ·exact ⟨hwr,hR _,hgo hlt fun h=>by have:=h.2;simp [this] at h2⟩
  ·exact ⟨hwr,hR _,hgo hlt fun h=>by have:=h.1;simp [this] at h1⟩
 ·obtain ⟨⟨e1,e2,e3,e4⟩,hz⟩:=hx (by omega)
  subst e1 e2 e3 e4
  exact ⟨⟨rfl,rfl⟩,rfl,rfl,rfl,rfl,rfl,rfl,rfl,rfl,rfl,hz⟩
noncomputable def Z9Z (L:List Z6) (own:Bool) (id:Int) (n J:Nat) (ls:LoopState) (pe:Option Code) (R:Z6) (b:Bool) (C:Prop):Zh:=ZjA.withL 108 0 (goM 8 (Zea L own id n 0 .ready none Z8 false) C (Yu 0 J 9 (fun i=>i<J) (fun i=>i=J) (fun _=>False) (fun _=>False) (fun _=>Zbq ls pe R b) (fun _=>Zbq ls pe R b) (fun _=>Zbq ls pe R b)))
theorem ZgJ (L:List Z6) (own:Bool) (id:Int) (n:Nat) (hn:n<1000) (hL:L.length=n) (hno:∀i,i<n->¬isP own id (L.getD i Z8)):(Z9Z L own id n n .ready none Z8 false True).Ok:=by
 refine Zh.withGoM (N:=20) (S:=fun i=>Zea L own id n i .ready none Z8 false) Z9Y (by kernel_rfl) fun _=>⟨rfl,fun i hi _=> ?_⟩
 exact Zl3 L own id n i (L.getD i Z8) .ready none Z8 false _ _ hn hL hi (fun _=>rfl) (fun h=>⟨⟨rfl,rfl,rfl,rfl⟩,h⟩) (fun h h'=>absurd h' (hno i h)) (fun h _=>⟨h,h⟩)
theorem ZgK (L:List Z6) (own:Bool) (id:Int) (n J:Nat) (hn:n<1000) (hL:L.length=n) (hJ:J<n) (hyes:isP own id (L.getD J Z8)) (hno:∀i,i<J->¬isP own id (L.getD i Z8)):(Z9Z L own id n J .done (some .ret) (L.getD J Z8) true True).Ok:=by
 refine Zh.withGoM (N:=20) (S:=fun i=>Zea L own id n i .ready none Z8 false) Z9Y (by kernel_rfl) fun _=>⟨rfl,fun i hi _=> ?_⟩
 refine Zl3 L own id n i (L.getD i Z8) .done (some .ret) _ true _ _ hn hL (by omega) (fun _=>rfl) (fun h=>absurd h (by omega)) (fun h h'=> ?_) (fun h h'=> ?_)
 ·have:i=J:=by
   rcases Nat.lt_or_ge i J with q|q
   ·exact absurd h' (hno i q)
   ·omega
  subst this
  exact ⟨⟨rfl,rfl,rfl,rfl⟩,rfl⟩
 ·have:i≠J:=fun e=>by subst e;exact h' hyes
  exact ⟨by omega,by omega⟩
theorem fdA (X:Z7) (own:Bool) (id:Int) (n J:Nat) (C:Prop) (hC:C) (hn:X.L.length=n) (hn2:n<1000) (hcap:X.t.cap≠0):
  evF (Z9Z X.L own id n J .ready none Z8 false C) 20 48 [Wp X,.bool own,.int .i64 id] ⟨0,[]⟩ (Y4 fun v=>v=.tuple [.agg Z8.c,.bool false]):=by
 refine @Eq.mpr _ (let q1:=X.t.cap==0;let q2:=AV.int i64 0;let q3:=AV.arr u8 32 Za;let q4:=[AV.bool false];let q5:=AV.tuple (AV.agg [AV.bool false,q2,q2,q3,q2,q2,q2,q3]::q4)=AV.tuple (AV.agg (Z6.c Z8)::q4);let q6:=List.length X.L;let q7:=Z4 X.L;let q8:=decide (q6=n);
 Z0 (!q1) (Z0 q1 q5 (∃(L:List Z6),q6=q6/\q7=Z4 L/\q6<1000000/\Z0 q8 (Z0 (decide (n<=q6)) (Z0 (decide ((↑q6:Int)=(↑n:Int))) ((LoopState.ready=LoopState.ready/\(none:Option Code)=none/\(48:FuncId)=48/\(27:Nat)=27/\[(14:Nat)]=[(14:Nat)]/\Vh=Vh/\Vi=Vi)/\Z0 q8 (Zc 8 [] n q7 (Z4 L)/\Za=Z8.hash/\Za=Z8.secret/\Z0 (decide (id=id)) (Z0 (decide (own=own)) (C/\∀(i:Nat),i<=J->(∀(j:Nat),j<i->(fun (i:Nat)=>i<J) j)->(i=J->q5)/\(False->q5)/\(False->False)) False) False) False) False) False) False)) q5) (by kernel_rfl) ?_
 conv=>zeta
 try simp only [Zi]
 try simp only [Zj]
 try simp only [Zf]
 try simp only [Zk]
 try simp only [Zl]
 try simp only [Zg]
 try simp only [Int.toNat_natCast,Nat.zero_add,true_and,and_true,Nat.le_refl]
 subst hn
 refine ⟨fun _=>⟨fun h=>absurd h (by simpa using hcap),fun _=>⟨X.L,rfl,by omega,rfl,Nat.le_refl _,rfl,rfl,Zp fun _ _=>rfl,rfl,rfl,hC,fun i _ _=>⟨fun _=>rfl,fun _=>rfl,fun h=>h⟩⟩⟩,fun h=>absurd h (by simpa using hcap)⟩
theorem fdB (X:Z7) (own:Bool) (id:Int) (n J:Nat) (C:Prop) (R:Z6) (hC:C) (hn:X.L.length=n) (hn2:n<1000) (hcap:X.t.cap≠0):
  evF (Z9Z X.L own id n J .done (some .ret) R true C) 20 48 [Wp X,.bool own,.int .i64 id] ⟨0,[]⟩ (Y4 fun v=>v=.tuple [.agg R.c,.bool true]):=by
 refine @Eq.mpr _ (let q1:=X.t.cap==0;let q2:=AV.int i64 0;let q3:=AV.arr u8 32 Za;let q4:=[AV.bool true];let q5:=AV.tuple (AV.agg (Z6.c R)::q4);let q6:=AV.tuple [AV.agg [AV.bool false,q2,q2,q3,q2,q2,q2,q3],AV.bool false]=q5;let q7:=List.length X.L;let q8:=Z4 X.L;let q9:=decide (q7=n);let q10:=AV.tuple (AV.agg [AV.bool R.own,AV.int i64 R.id,AV.int i64 R.amount,AV.arr u8 32 R.hash,AV.int i64 R.expiry,AV.int i64 R.stage,AV.int i64 R.fin,AV.arr u8 32 R.secret]::q4)=q5;
 Z0 (!q1) (Z0 q1 q6 (∃(L:List Z6),q7=q7/\q8=Z4 L/\q7<1000000/\Z0 q9 (Z0 (decide (n<=q7)) (Z0 (decide ((↑q7:Int)=(↑n:Int))) ((LoopState.ready=LoopState.ready/\(none:Option Code)=none/\(48:FuncId)=48/\(27:Nat)=27/\[(14:Nat)]=[(14:Nat)]/\Vh=Vh/\Vi=Vi)/\Z0 q9 (Zc 8 [] n q8 (Z4 L)/\Za=Z8.hash/\Za=Z8.secret/\Z0 (decide (id=id)) (Z0 (decide (own=own)) (C/\∀(i:Nat),i<=J->(∀(j:Nat),j<i->(fun (i:Nat)=>i<J) j)->(i=J->q10)/\(False->q10)/\(False->False)) False) False) False) False) False) False)) q6) (by kernel_rfl) ?_
 conv=>zeta
 try simp only [Zi]
 try simp only [Zj]
 try simp only [Zf]
 try simp only [Zk]
 try simp only [Zl]
 try simp only [Zg]
 try simp only [Int.toNat_natCast,Nat.zero_add,true_and,and_true,Nat.le_refl]
 subst hn
 refine ⟨fun _=>⟨fun h=>absurd h (by simpa using hcap),fun _=>⟨X.L,rfl,by omega,rfl,Nat.le_refl _,rfl,rfl,Zp fun _ _=>rfl,rfl,rfl,hC,fun i _ _=>⟨fun _=>rfl,fun _=>rfl,fun h=>h⟩⟩⟩,fun h=>absurd h (by simpa using hcap)⟩
theorem U9 {own:Bool} {id:Int}:∀{L:List Z6},(∀j,j<ZH own id L->¬isP own id (L.getD j Z8))/\(ZH own id L<L.length->isP own id (L.getD (ZH own id L) Z8))/\ZH own id L<=L.length
 | []=>⟨fun j hj=>by simp [ZH] at hj,fun h=>by simp [ZH] at h,Nat.le_refl _⟩
 | x::r=>by
  obtain ⟨h1,h2,h3⟩:=U9 (own:=own) (id:=id) (L:=r)
  unfold ZH
  split
  ·rename_i h
   exact ⟨fun j hj=>absurd hj (Nat.not_lt_zero _),fun _=>h,Nat.zero_le _⟩
  ·rename_i h
   refine ⟨fun j hj=> ?_,fun hl=> ?_,by rw [List.length_cons];omega⟩
   ·cases j with
    | zero=>exact h
    | succ j=>rw [List.getD_cons_succ];exact h1 j (by omega)
   ·rw [List.getD_cons_succ];exact h2 (by rw [List.length_cons] at hl;omega)
def fdH (L:List Z6) (own:Bool) (id:Int):Z6×Bool:=if ZH own id L<L.length then (L.getD (ZH own id L) Z8,true) else (Z8,false)
theorem Zbr {X:Z7} (hn:X.L.length<1000) (hcap:X.t.cap≠0) (own:Bool) (id:Int):ZA PP 48 [Wp X,.bool own,.int .i64 id] (.tuple [.agg (fdH X.L own id).1.c,.bool (fdH X.L own id).2]) 0 []:=by
 obtain ⟨h1,h2,h3⟩:=U9 (own:=own) (id:=id) (L:=X.L)
 unfold fdH
 by_cases h:ZH own id X.L<X.L.length
 ·rw [if_pos h]
  exact ZA.evV (ZgK X.L own id _ _ hn rfl h (h2 h) h1) (fdB X own id _ _ True _ trivial rfl hn hcap)
 ·rw [if_neg h]
  exact ZA.evV (ZgJ X.L own id _ hn rfl fun i hi=>h1 i (by omega)) (fdA X own id _ _ True trivial rfl hn hcap)
def ZjB:ZK:=fun args h K=>ZP none h true 20 args fun a=>match a with
 | [.pview cs 0,.bool own,.int .i64 id]=>∃X,LV cs X/\X.L.length<1000/\X.t.cap≠0/\K (.tuple [.agg (fdH X.L own id).1.c,.bool (fdH X.L own id).2])
 | _=>False
theorem Zbs (args:List AV) (h:Z9) (K:AV->Prop) (hl:ZjB args h K):Zn PP 48 args h fun o h'=>∃v,o=.ret v/\h'=h/\K v:=by
 refine ZA.psumm (d:=20) (Zs _ _ _ _ _ hl fun a ha=> ?_)
 split at ha
 ·obtain ⟨X,hX,h1,h2,hK⟩:=ha
  exact ⟨_,(Zbr h1 h2 _ _).conv fun E r hr=>hr.head (fun _ hc=>W0 hX hc) fun _ hc=>hc,fun _=>rfl,hK⟩
 ·exact ha.elim
end Go.Tk
end
section
namespace Go.Tk
open IntKind (i64 u8 u32 u64 wrap)
def Ua (side s:Int) (p:Int×Nat) (h:Z6):Int×Nat:=if ZS side h.own=s/\p.1<=1125899906842624 then (p.1+h.amount,p.2+1) else p
def offD (side s:Int) (L:List Z6):Int×Nat:=L.foldl (Ua side s) (0,0)
theorem WF {α β:Type} (g:β->α->β) (d:α) {L:List α} {i:Nat} (hi:i<L.length) (b:β):(L.take (i+1)).foldl g b=g ((L.take i).foldl g b) (L.getD i d):=by
 rw [List.take_succ_eq_append_getElem hi,List.foldl_append,List.getD_eq_getElem?_getD,List.getElem?_eq_getElem hi];rfl
theorem Z16 {side s:Int} {L:List Z6} (hA:∀h∈L,0<=h.amount/\h.amount<=1125899906842624):∀i,i<=L.length->(0<=(offD side s (L.take i)).1/\(offD side s (L.take i)).1<=2251799813685248)/\(offD side s (L.take i)).2<=i
 | 0,_=>by simp [offD]
 | i+1,hi=>by
  obtain ⟨h1,h2⟩:=Z16 (side:=side) (s:=s) hA i (by omega)
  unfold offD at*
  rw [WF (Ua side s) Z8 (by omega)]
  generalize List.foldl (Ua side s) (0,0) (L.take i)=p at*
  have:=hA _ (ZD (L:=L) (i:=i) (by omega))
  unfold Ua
  split
  ·rename_i hc
   constructor<;>dsimp only<;>omega
  ·omega
def ZgL (X:Z7) (s:Int) (n i:Nat) (a:Int) (c:Nat):St:=⟨42,[(8,.int .i64 i),(2,.ptr (some ⟨0,0,0,0,0⟩)),(1,.int .i64 s),(6,.int .i64 a),(7,.int .i64 c)],⟨1,[(0,.flat (X.c (.vrows 70 n (Z4 X.L) n)))]⟩,[]⟩
def Zeb (a:Int) (c:Nat):St:=⟨42,[(6,.int .i64 a),(7,.int .i64 c)],⟨0,[]⟩,[]⟩
theorem Znl (X:Z7) (s:Int) (n i:Nat) (x:Z6) (a a1:Int) (c c1:Nat) (Z1 Z2:Prop) (hn:n<1000) (hL:X.L.length=n) (hi:i<=n) (hX:YX X) (hx:i<n->X.L.getD i Z8=x) (ha:i<n->(0<=a/\a<=2251799813685248)/\0<=x.amount/\x.amount<=1125899906842624) (hc:i<n->c<1000) (h1:i<n->(a1,c1)=Ua X.side s (a,c) x) (hZ1:i<n->Z1) (hZ2:i=n->Z2):
  ZB G0 20 96 0 0 (ZgL X s n i a c) (rdM 0 0 9 (ZgL X s n (i+1) a1 c1) (Zeb a c) (Zeb a c) (Zeb a c) Z1 Z2 False False):=by
 refine @Eq.mpr _ (let q1:=decide (0<=(↑i:Int)/\(↑i:Int)<(↑n:Int));let q2:=List.getD X.L (Int.toNat (↑i:Int)) Z8;let q3:=X.side;let q4:=decide (wrap i64 ((↑i:Int)+1)=(↑(i+1):Int));let q5:=decide (s=s);let q6:=X.t;let q7:=q6.fund;let q8:=q6.index;let q9:=q6.cap;let q10:=q6.dust;let q11:=q6.fee;let q12:=q6.delay;let q13:=q6.k0;let q14:=q6.k1;let q15:=[X.a0,X.a1];let q16:=[X.i0,X.i1];let q17:=decide (n=n);let q18:=Z4 X.L;let q19:=q7=q7/\Z0 (decide (q8=q8)) (Z0 (decide (q9=q9)) (Z0 (decide (q10=q10)) (Z0 (decide (q11=q11)) (Z0 (decide (q12=q12)) (q13=q13/\q14=q14/\Z0 (decide (q3=q3)) (Z0 (decide (X.res=X.res)) (q15=q15/\q16=q16/\Z0 q17 (q18=q18/\Z0 q17 Z1 False) False) False) False) False) False) False) False) False;let q20:=Z0 q4 (Z0 q5 (Z0 (decide (a=a1)) (Z0 (decide ((↑c:Int)=(↑c1:Int))) q19 False) False) False) False;let q21:=Z0 (decide (a<=1125899906842624)) (Z0 q1 (Z0 q4 (Z0 q5 (Z0 (decide (wrap i64 (a+q2.amount)=a1)) (Z0 (decide (wrap i64 ((↑c:Int)+1)=(↑c1:Int))) q19 False) False) False) False) False) q20;
 Z0 (decide ((↑i:Int)<(↑n:Int))) (Z0 q1 (Z0 q2.own (Z0 (q3==s) q21 q20) (Z0 (wrap i64 (1-q3)==s) q21 q20)) False) (Z0 (decide (a=a)) (Z0 (decide ((↑c:Int)=(↑c:Int))) Z2 False) False)) (by kernel_rfl) ?_
 conv=>zeta
 try simp only [Zi]
 try simp only [Zj]
 try simp only [Zf]
 try simp only [Zk]
 try simp only [Zl]
 try simp only [Zg]
 try simp only [Int.toNat_natCast,Nat.zero_add,true_and,and_true,Nat.le_refl]
 refine ⟨fun hc'=> ?_,fun hc'=>hZ2 (by omega)⟩
 have hlt:i<n:=by omega
 rw [hx hlt]
 obtain ⟨s1,s2⟩:=hX
 have ha:=ha hlt
 have hc:=hc hlt
 have h1:=h1 hlt
 have hwr:i64.wrap ((i:Int)+1)=((i+1:Nat):Int):=by rw [w64 (by omega)];omega
 have hwf:i64.wrap (1-X.side)=1-X.side:=w64 (by omega)
 have hwa:i64.wrap (a+x.amount)=a+x.amount:=w64 (by omega)
 have hwc:i64.wrap ((c:Int)+1)=(c:Int)+1:=w64 (by omega)
 rw [hwr,hwf,hwa,hwc]
 unfold Ua at h1
 refine ⟨by omega,fun ho=>⟨fun hq=>⟨fun hm=> ?_,fun hm=> ?_⟩,fun hq=> ?_⟩,fun ho=>⟨fun hq=>⟨fun hm=> ?_,fun hm=> ?_⟩,fun hq=> ?_⟩⟩
 all_goals rw [ho] at h1
 all_goals simp only [ZS] at h1
 all_goals try (have hq:¬X.side=s:=by simpa using hq)
 all_goals try (have hq:X.side=s:=by simpa using hq)
 all_goals try (have hq:¬1-X.side=s:=by simpa using hq)
 all_goals try (have hq:1-X.side=s:=by simpa using hq)
 all_goals first|simp only [hq,hm,true_and,false_and,and_true,and_false,if_true,if_false,not_false_iff] at h1|simp only [hq,true_and,false_and,if_true,if_false] at h1
 all_goals simp only [Prod.mk.injEq] at h1
 all_goals obtain ⟨e1,e2⟩:=h1
 all_goals repeat' apply And.intro
 all_goals first|omega|exact hZ1 hlt|rfl
def Z8S (X:Z7) (n:Nat):Prop:=X.L.length=n/\n<1000/\YX X/\∀h∈X.L,0<=h.amount/\h.amount<=1125899906842624
noncomputable def Zl4 (X:Z7) (s:Int) (n:Nat) (C:Prop) (E:Nat->St):Zh:=G0.withL 96 0 (goM 0 (ZgL X s n 0 0 0) C (Yu 0 n 9 (fun i=>i<n) (fun i=>i=n) (fun _=>False) (fun _=>False) E E E))
theorem ZgM (X:Z7) (s:Int) (n:Nat):(Zl4 X s n (Z8S X n) (fun i=>Zeb (offD X.side s (X.L.take i)).1 (offD X.side s (X.L.take i)).2)).Ok:=by
 refine Zh.withGoM (N:=20) (S:=fun i=>ZgL X s n i (offD X.side s (X.L.take i)).1 (offD X.side s (X.L.take i)).2) Zu (by kernel_rfl) fun hC=>⟨rfl,fun i hi _=> ?_⟩
 obtain ⟨h1,h2,h3,h4⟩:=hC
 have hlt:i<n->i<X.L.length:=fun h=>by omega
 obtain ⟨b1,b2⟩:=Z16 (side:=X.side) (s:=s) h4 i (by omega)
 refine Znl X s n i (X.L.getD i Z8) _ _ _ _ _ _ h2 h1 hi h3 (fun _=>rfl) (fun h=>⟨b1,h4 _ (ZD (hlt h))⟩) (fun h=>by omega) (fun h=> ?_) (fun h=>⟨h,h⟩) (fun h=>h)
 show offD X.side s (X.L.take (i+1))=_
 unfold offD
 rw [WF (Ua X.side s) Z8 (hlt h)]
theorem Znm (X:Z7) (s:Int) (n:Nat) (a:Int) (c:Nat) (C:Prop) (AF:Nat->Int) (CF:Nat->Nat) (hC:C) (hn:X.L.length=n) (ha:a=AF n) (hc:c=CF n):
  evF (Zl4 X s n C fun i=>Zeb (AF i) (CF i)) 20 96 [.agg (X.c (.vrows 70 n (Z4 X.L) n)),.int .i64 s] ⟨0,[]⟩ (Y4 (fun v=>v=.tuple [.int .i64 a,.int .i64 c])):=by
 refine @Eq.mpr _ (let q1:=X.t;let q2:=q1.fund;let q3:=q1.index;let q4:=q1.cap;let q5:=q1.dust;let q6:=q1.fee;let q7:=q1.delay;let q8:=q1.k0;let q9:=q1.k1;let q10:=[X.a0,X.a1];let q11:=[X.i0,X.i1];let q12:=decide (n=n);let q13:=Z4 X.L;
 Z0 (decide (s=s)) (q2=q2/\Z0 (decide (q3=q3)) (Z0 (decide (q4=q4)) (Z0 (decide (q5=q5)) (Z0 (decide (q6=q6)) (Z0 (decide (q7=q7)) (q8=q8/\q9=q9/\Z0 (decide (X.side=X.side)) (Z0 (decide (X.res=X.res)) (q10=q10/\q11=q11/\Z0 q12 (q13=q13/\Z0 q12 (C/\∀(i:Nat),i<=n->(∀(j:Nat),j<i->(fun (i:Nat)=>i<n) j)->(i=n->AV.tuple [AV.int i64 (AF i),AV.int i64 ↑(CF i)]=AV.tuple [AV.int i64 a,AV.int i64 ↑c])/\(False->False)/\(False->False)) False) False) False) False) False) False) False) False) False) False) (by kernel_rfl) ?_
 conv=>zeta
 try simp only [Zi]
 try simp only [Zj]
 try simp only [Zf]
 try simp only [Zk]
 try simp only [Zl]
 try simp only [Zg]
 try simp only [Int.toNat_natCast,Nat.zero_add,true_and,and_true,Nat.le_refl]
 refine ⟨hC,fun i _ _=>⟨fun he=> ?_,fun h=>h,fun h=>h⟩⟩
 rw [he,ha,hc]
def Z0x (X:Z7):AV:=.agg (X.c (.vrows 70 X.L.length (Z4 X.L) X.L.length))
theorem XB {cs:List AV} {X:Z7} (h:LV cs X) {E:Env} {r:Value} (hc:Zm E (.agg cs) r):Zm E (Z0x X) r:=by
 cases hc with
 | agg cs vs hc=>exact .agg _ _ (Z9K h hc)
def Zl5:ZK:=fun args h K=>ZP none h true 20 args fun a=>match a with
 | [.agg cs,.int .i64 s]=>∃X,LV cs X/\Z8S X X.L.length/\K (.tuple [.int .i64 (offD X.side s X.L).1,.int .i64 (offD X.side s X.L).2])
 | _=>False
theorem Z79 (args:List AV) (h:Z9) (K:AV->Prop) (hl:Zl5 args h K):Zn PP 96 args h fun o h'=>∃v,o=.ret v/\h'=h/\K v:=by
 refine ZA.psumm (d:=20) (Zs _ _ _ _ _ hl fun a ha=> ?_)
 split at ha
 ·rename_i cs s
  obtain ⟨X,hX,h1,hK⟩:=ha
  have hv:=Znm X s X.L.length (offD X.side s X.L).1 (offD X.side s X.L).2 (Z8S X X.L.length) (fun i=>(offD X.side s (X.L.take i)).1) (fun i=>(offD X.side s (X.L.take i)).2) h1 rfl (by rw [List.take_length]) (by rw [List.take_length])
  exact ⟨_,(ZA.evV (ZgM X s _) hv).conv fun E r hr=>hr.head (fun _ hc=>XB hX hc) fun _ hc=>hc,fun _=>rfl,hK⟩
 ·exact ha.elim
theorem Qc {side s:Int}:∀(L:List Z6) (p:Int×Nat),(∀h∈L,0<=h.amount)->p.1+ZE side s L<=1125899906842624->L.foldl (Ua side s) p=(p.1+ZE side s L,p.2+Yv side s L)
 | [],p,_,_=>by simp [ZE,Yv,ZR,XP]
 | x::r,p,hA,hp=>by
  have hr:=Xc (side:=side) (s:=s) (G:=r) fun z hz=>hA z (by simp [hz])
  have hx:=hA x (by simp)
  rw [ZO] at hp
  rw [List.foldl_cons,ZO,Yb]
  unfold UG at hp⊢
  unfold UH
  by_cases hf:ZS side x.own=s
  ·rw [if_pos hf] at hp⊢
   rw [if_pos hf]
   have e:Ua side s p x=(p.1+x.amount,p.2+1):=by unfold Ua;rw [if_pos ⟨hf,by omega⟩]
   rw [e,Qc r _ (fun z hz=>hA z (by simp [hz])) (by dsimp only;omega)]
   simp only [Prod.mk.injEq];omega
  ·rw [if_neg hf] at hp⊢
   rw [if_neg hf]
   have e:Ua side s p x=p:=by unfold Ua;rw [if_neg (fun h=>hf h.1)]
   rw [e,Qc r _ (fun z hz=>hA z (by simp [hz])) (by omega)]
   simp only [Prod.mk.injEq];omega
theorem Z7.Inv.offs {H:List Int->List Int} {X:Z7} (h:X.Inv H):ZE X.side 0 X.L<=1125899906842624/\ZE X.side 1 X.L<=1125899906842624:=by
 have o0:=h.ov0
 have tb:=Y1 h.tb
 have hr:=h.res
 have ha0:=h.a0
 have ha1:=h.a1
 rw [Xr,if_pos rfl,show X.am 0=X.a0 from rfl] at o0
 refine ⟨by omega, ?_⟩
 rcases h.ov1 with k|k
 ·rw [QX k];omega
 ·rw [Xr,if_neg (by decide),show X.am 1=X.a1 from rfl] at k
  omega
theorem Z7.Inv.offD {H:List Int->List Int} {X:Z7} (h:X.Inv H) {s:Int} (hs:s=0\/s=1):offD X.side s X.L=(ZE X.side s X.L,(ZR X.side s X.L).length):=by
 have ho:=h.offs
 unfold Go.Tk.offD
 rw [Qc X.L (0,0) (fun z hz=>(h.am.am z hz).1) (by rcases hs with rfl|rfl<;>dsimp only<;>omega)]
 simp only [Int.zero_add,Nat.zero_add];rfl
theorem Z7.Inv.od {H:List Int->List Int} {X:Z7} (h:X.Inv H):Z8S X X.L.length:=⟨rfl,h.am.n,by have:=h.side;exact ⟨by omega,by omega⟩,h.am.am⟩
def Zec:ZK:=fun args h K=>ZP none h true 20 args fun a=>match a with
 | [.agg cs,.int .i64 s]=>∃X,LV cs X/\X.Inv Zr/\(s=0\/s=1)/\K (.tuple [.int .i64 (ZE X.side s X.L),.int .i64 (ZR X.side s X.L).length])
 | _=>False
theorem Z7a (args:List AV) (h:Z9) (K:AV->Prop) (hl:Zec args h K):Zn PP 96 args h fun o h'=>∃v,o=.ret v/\h'=h/\K v:=by
 refine Z79 args h K (Zs _ _ _ _ _ hl fun a ha=> ?_)
 split at ha
 ·obtain ⟨X,hX,hI,hs,hK⟩:=ha
  refine ⟨X,hX,hI.od, ?_⟩
  rw [hI.offD hs];exact hK
 ·exact ha.elim
noncomputable def Zi4:Zh:=G0.withP 96 Zec
theorem Zed:Zi4.Ok:=Zh.withP_ok Zu Z7a
theorem Zl6 (X:Z7) (s r:Int) (hs:s=0\/s=1) (hI:X.Inv Zr) (hr:r=Y5 X s):
  evF Zi4 20 97 [Z0x X,.int .i64 s] ⟨0,[]⟩ (Y4 (fun v=>v=.int .i64 r)):=by
 refine @Eq.mpr _ (let q1:=X.t;let q2:=q1.fee;let q3:=[X.a0,X.a1];let q4:=List.length X.L;let q5:=0+Int.toNat s;
 ∃(X_1:Z7),
 let q11:=wrap i64 (wrap i64 (List.getD q3 q5 0-ZE X_1.side s X_1.L)-X.res);
 LV [AV.arr u8 32 q1.fund,AV.int i64 q1.index,AV.int i64 q1.cap,AV.int i64 q1.dust,AV.int i64 q2,AV.int i64 q1.delay,AV.arr u8 32 q1.k0,AV.arr u8 32 q1.k1,AV.int i64 X.side,AV.int i64 X.res,AV.arr i64 2 q3,AV.arr i64 2 [X.i0,X.i1],AV.vrows 70 q4 (Z4 X.L) q4] X_1/\Z7.Inv Zr X_1/\(s=0\/s=1)/\Z0 (decide (0<=s/\s<2)) (Z0 (decide (q5<2)) (Z0 (s==0) (AV.int i64 (wrap i64 (q11-q2))=AV.int i64 r) (AV.int i64 q11=AV.int i64 r)) False) False) (by kernel_rfl) ?_
 conv=>zeta
 try simp only [Zi]
 try simp only [Zj]
 try simp only [Zf]
 try simp only [Zk]
 try simp only [Zl]
 try simp only [Zg]
 try simp only [Int.toNat_natCast,Nat.zero_add,true_and,and_true,Nat.le_refl]
 have tb:=Y1 hI.tb
 have hres:=hI.res
 have ha0:=hI.a0
 have ha1:=hI.a1
 have ho:=hI.offs
 have n0:=Xc (side:=X.side) (s:=0) fun z hz=>(hI.am.am z hz).1
 have n1:=Xc (side:=X.side) (s:=1) fun z hz=>(hI.am.am z hz).1
 refine ⟨X,.a rfl,hI,hs,by omega,by omega,fun h=> ?_,fun h=> ?_⟩
 ·have h0:s=0:=by simpa using h
  subst h0
  rw [hr,Xr,if_pos rfl]
  show AV.int .i64 (i64.wrap (i64.wrap (i64.wrap (X.a0-_)-_)-_))=AV.int .i64 (X.a0-_-_-_)
  rw [w64 (x:=X.a0-ZE X.side 0 X.L) (by omega),w64 (x:=X.a0-ZE X.side 0 X.L-X.res) (by omega),w64 (by omega)]
 ·have h0:s=1:=by
   have:¬s=0:=by simpa using h
   omega
  subst h0
  rw [hr,Xr,if_neg (by decide)]
  show AV.int .i64 (i64.wrap (i64.wrap (X.a1-_)-_))=AV.int .i64 (X.a1-_-_-0)
  rw [w64 (x:=X.a1-ZE X.side 1 X.L) (by omega),w64 (by omega),Int.sub_zero]
def ZjC:ZK:=fun args h K=>ZP none h true 20 args fun a=>match a with
 | [.agg cs,.int .i64 s]=>∃X,LV cs X/\X.Inv Zr/\(s=0\/s=1)/\K (.int .i64 (Y5 X s))
 | _=>False
theorem Za0 (args:List AV) (h:Z9) (K:AV->Prop) (hl:ZjC args h K):Zn PP 97 args h fun o h'=>∃v,o=.ret v/\h'=h/\K v:=by
 refine ZA.psumm (d:=20) (Zs _ _ _ _ _ hl fun a ha=> ?_)
 split at ha
 ·obtain ⟨X,hX,hI,hs,hK⟩:=ha
  exact ⟨_,(ZA.evV Zed (Zl6 X _ _ hs hI rfl)).conv fun E r hr=>hr.head (fun _ hc=>XB hX hc) fun _ hc=>hc,fun _=>rfl,hK⟩
 ·exact ha.elim
noncomputable def Zee:Zh:=(G0.withP 97 ZjC).withP 79 ZfX
theorem Z7b:Zee.Ok:=Zh.withP_ok (Zh.withP_ok Zu Za0) Z5F
def leftV (X:Z7) (s:Int):Int:=if s=0\/s=1 then max 0 (Y5 X s) else 0
theorem Z3E {X:Z7} {s:Int} (hs:s=0\/s=1):(if Y5 X s>0 then Y5 X s else 0)=leftV X s:=by
 unfold leftV
 rw [if_pos hs]
 split<;>omega
theorem Z17 {X:Z7} {s:Int} (hs:¬(s=0\/s=1)):leftV X s=0:=by unfold leftV;rw [if_neg hs]
theorem Zl7 (X:Z7) (s r:Int) (hI:X.Inv Zr) (hr:r=leftV X s):
  evF Zee 20 49 [Z0x X,.int .i64 s] ⟨0,[]⟩ (Y4 (fun v=>v=.int .i64 r)):=by
 refine @Eq.mpr _ (let q1:=X.t;let q2:=List.length X.L;let q3:=∃(X_1:Z7),LV [AV.arr u8 32 q1.fund,AV.int i64 q1.index,AV.int i64 q1.cap,AV.int i64 q1.dust,AV.int i64 q1.fee,AV.int i64 q1.delay,AV.arr u8 32 q1.k0,AV.arr u8 32 q1.k1,AV.int i64 X.side,AV.int i64 X.res,AV.arr i64 2 [X.a0,X.a1],AV.arr i64 2 [X.i0,X.i1],AV.vrows 70 q2 (Z4 X.L) q2] X_1/\Z7.Inv Zr X_1/\(s=0\/s=1)/\AV.int i64 (if Y5 X_1 s>0 then Y5 X_1 s else 0)=AV.int i64 r;
 Z0 (s !=0) (Z0 (s !=1) (AV.int i64 0=AV.int i64 r) q3) q3) (by kernel_rfl) ?_
 conv=>zeta
 try simp only [Zi]
 try simp only [Zj]
 try simp only [Zf]
 try simp only [Zk]
 try simp only [Zl]
 try simp only [Zg]
 try simp only [Int.toNat_natCast,Nat.zero_add,true_and,and_true,Nat.le_refl]
 subst hr
 refine ⟨fun h0=>⟨fun h1=> ?_,fun h1=> ?_⟩,fun h0=> ?_⟩
 ·rw [Z17]
  intro h
  rcases h with rfl|rfl
  ·simp at h0
  ·simp at h1
 ·have hs:s=0\/s=1:=.inr (by simpa using h1)
  exact ⟨X,.a rfl,hI,hs,by rw [Z3E hs]⟩
 ·have hs:s=0\/s=1:=.inl (by simpa using h0)
  exact ⟨X,.a rfl,hI,hs,by rw [Z3E hs]⟩
theorem Zl8 (X:Z7) (s r:Int) (hI:X.Inv Zr) (hr:r=leftV X s):
  evF Zee 20 25 [Wp X,.int .i64 s] ⟨0,[]⟩ (Y4 (fun v=>v=.int .i64 r)):=by
 refine @Eq.mpr _ (let q1:=AV.int i64 0=AV.int i64 r;let q2:=List.length X.L;
 Z0 (X.t.cap==0) q1 (Z0 (decide (0<=s)) (Z0 (!decide (s<=1)) q1 (∃(X_1:Z7),LV (Z7.c X (AV.vrows 70 q2 (Z4 X.L) q2)) X_1/\(0<=X_1.side/\X_1.side<=1)/\(s=0\/s=1)/\Z11 X_1/\AV.int i64 (if Y5 X_1 s>0 then Y5 X_1 s else 0)=AV.int i64 r)) q1)) (by kernel_rfl) ?_
 conv=>zeta
 try simp only [Zi]
 try simp only [Zj]
 try simp only [Zf]
 try simp only [Zk]
 try simp only [Zl]
 try simp only [Zg]
 try simp only [Int.toNat_natCast,Nat.zero_add,true_and,and_true,Nat.le_refl]
 subst hr
 have hsd:=hI.side
 refine ⟨fun h=>absurd h (by simpa using Xg hI.tb),fun _=>⟨fun h0=>⟨fun h1=> ?_,fun h1=> ?_⟩,fun h0=> ?_⟩⟩
 ·have:¬s<=1:=by simpa using h1
  rw [Z17 (by omega)]
 ·have:s<=1:=by simpa using h1
  have hs:s=0\/s=1:=by omega
  exact ⟨X,.a rfl,by omega,hs,hI.am,by rw [Z3E hs]⟩
 ·rw [Z17 (by omega)]
def ZgN (X:Z7) (own:Bool) (id:Int) (n i:Nat):St:=⟨34,[(7,.int .i64 i),(3,pt 0),(1,.bool own),(2,.int .i64 id)],⟨1,[(0,.flat (X.c (.vrows 70 n (Z4 X.L) n)))]⟩,[]⟩
def Zl9:St:=⟨34,[],⟨0,[]⟩,[]⟩
def ZgO (i:Nat):St:=⟨34,[(6,.int .i64 i)],⟨0,[]⟩,[]⟩
theorem Zla (X:Z7) (own:Bool) (id:Int) (n i:Nat) (Z1 Z2 Z3:Prop) (hn:n<1000) (hL:X.L.length=n) (hi:i<=n) (h1:i<n->¬isP own id (X.L.getD i Z8)->Z1) (h2:i=n->Z2) (h3:i<n->isP own id (X.L.getD i Z8)->Z3):
  ZB G0 20 154 0 0 (ZgN X own id n i) (rdM 0 0 9 (ZgN X own id n (i+1)) Zl9 (ZgO i) (ZgO i) Z1 Z2 Z3 False):=by
 refine @Eq.mpr _ (let q1:=decide (0<=(↑i:Int)/\(↑i:Int)<(↑n:Int));let q2:=List.getD X.L (Int.toNat (↑i:Int)) Z8;let q3:=X.t;let q4:=q3.fund;let q5:=q3.index;let q6:=q3.cap;let q7:=q3.dust;let q8:=q3.fee;let q9:=q3.delay;let q10:=q3.k0;let q11:=q3.k1;let q12:=[X.a0,X.a1];let q13:=[X.i0,X.i1];let q14:=decide (n=n);let q15:=Z4 X.L;let q16:=Z0 (decide (wrap i64 ((↑i:Int)+1)=(↑(i+1):Int))) (Z0 (decide (own=own)) (Z0 (decide (id=id)) (q4=q4/\Z0 (decide (q5=q5)) (Z0 (decide (q6=q6)) (Z0 (decide (q7=q7)) (Z0 (decide (q8=q8)) (Z0 (decide (q9=q9)) (q10=q10/\q11=q11/\Z0 (decide (X.side=X.side)) (Z0 (decide (X.res=X.res)) (q12=q12/\q13=q13/\Z0 q14 (q15=q15/\Z0 q14 Z1 False) False) False) False) False) False) False) False) False) False) False) False;
 Z0 (decide ((↑i:Int)<(↑n:Int))) (Z0 q1 (Z0 (q2.own==own) (Z0 q1 (Z0 (q2.id==id) (Z0 (decide ((↑i:Int)=(↑i:Int))) Z3 False) q16) False) q16) False) Z2) (by kernel_rfl) ?_
 conv=>zeta
 try simp only [Zi]
 try simp only [Zj]
 try simp only [Zf]
 try simp only [Zk]
 try simp only [Zl]
 try simp only [Zg]
 try simp only [Int.toNat_natCast,Nat.zero_add,true_and,and_true,Nat.le_refl]
 refine ⟨fun hc=> ?_,fun hc=>h2 (by omega)⟩
 have hlt:i<n:=by omega
 have hwr:i64.wrap ((i:Int)+1)=((i+1:Nat):Int):=by rw [w64 (by omega)];omega
 refine ⟨by omega,fun ho=>⟨by omega,fun hd=> ?_,fun hd=> ?_⟩,fun ho=> ?_⟩
 ·exact h3 hlt ⟨by simpa using ho,by simpa using hd⟩
 ·exact ⟨hwr,h1 hlt fun h=>by rw [h.2] at hd;simp at hd⟩
 ·exact ⟨hwr,h1 hlt fun h=>by rw [h.1] at ho;simp at ho⟩
theorem Z8T {X:Z7} (hI:X.Inv Zr) (s:Int):ZA PP 49 [Z0x X,.int .i64 s] (.int .i64 (leftV X s)) 0 []:=ZA.evV Z7b (Zl7 X s _ hI rfl)
theorem Zbt {X:Z7} (hI:X.Inv Zr) (s:Int):ZA PP 25 [Wp X,.int .i64 s] (.int .i64 (leftV X s)) 0 []:=ZA.evV Z7b (Zl8 X s _ hI rfl)
def Zef:ZK:=fun args h K=>ZP none h true 20 args fun a=>match a with
 | [.agg cs,.int .i64 s]=>∃X,LV cs X/\X.Inv Zr/\K (.int .i64 (leftV X s))
 | _=>False
theorem Zbu (args:List AV) (h:Z9) (K:AV->Prop) (hl:Zef args h K):Zn PP 49 args h fun o h'=>∃v,o=.ret v/\h'=h/\K v:=by
 refine ZA.psumm (d:=20) (Zs _ _ _ _ _ hl fun a ha=> ?_)
 split at ha
 ·obtain ⟨X,hX,hI,hK⟩:=ha
  exact ⟨_,(Z8T hI _).conv fun E r hr=>hr.head (fun _ hc=>XB hX hc) fun _ hc=>hc,fun _=>rfl,hK⟩
 ·exact ha.elim
def Zeg:ZK:=fun args h K=>ZP none h true 20 args fun a=>match a with
 | [.pview cs 0,.int .i64 s]=>∃X,LV cs X/\X.Inv Zr/\K (.int .i64 (leftV X s))
 | _=>False
theorem Zbv (args:List AV) (h:Z9) (K:AV->Prop) (hl:Zeg args h K):Zn PP 25 args h fun o h'=>∃v,o=.ret v/\h'=h/\K v:=by
 refine ZA.psumm (d:=20) (Zs _ _ _ _ _ hl fun a ha=> ?_)
 split at ha
 ·obtain ⟨X,hX,hI,hK⟩:=ha
  exact ⟨_,(Zbt hI _).conv fun E r hr=>hr.head (fun _ hc=>W0 hX hc) fun _ hc=>hc,fun _=>rfl,hK⟩
 ·exact ha.elim
noncomputable def Zi5 (X:Z7) (own:Bool) (id:Int) (n:Nat) (C:Prop):Zh:=G0.withL 154 0 (goM 0 (ZgN X own id n 0) C (Yu 0 n 9 (fun i=>¬isP own id (X.L.getD i Z8)/\i<n) (fun i=>i=n) (fun i=>i<n/\isP own id (X.L.getD i Z8)) (fun _=>False) (fun _=>Zl9) (fun i=>ZgO i) (fun i=>ZgO i)))
theorem Zeh (X:Z7) (own:Bool) (id:Int) (n:Nat):(Zi5 X own id n (n<1000/\X.L.length=n)).Ok:=
 Zh.withGoM (N:=20) (S:=fun i=>ZgN X own id n i) Zu (by kernel_rfl) fun hC=>⟨rfl,fun i hi _=>Zla X own id n i _ _ _ hC.1 hC.2 hi (fun h h'=>⟨⟨h',h⟩,h⟩) (fun h=>h) (fun h h'=>⟨h,h'⟩)⟩
theorem Zlb (X:Z7) (own:Bool) (id:Int) (n:Nat) (r:Int) (C:Prop) (hC:C) (hL:X.L.length=n) (hr:r=fiV own id X.L):
  evF (Zi5 X own id n C) 20 154 [.agg (X.c (.vrows 70 n (Z4 X.L) n)),.bool own,.int .i64 id] ⟨0,[]⟩ (Y4 (fun v=>v=.int .i64 r)):=by
 refine @Eq.mpr _ (let q1:=X.t;let q2:=q1.fund;let q3:=q1.index;let q4:=q1.cap;let q5:=q1.dust;let q6:=q1.fee;let q7:=q1.delay;let q8:=q1.k0;let q9:=q1.k1;let q10:=[X.a0,X.a1];let q11:=[X.i0,X.i1];let q12:=decide (n=n);let q13:=X.L;let q14:=Z4 q13;
 Z0 (decide (own=own)) (Z0 (decide (id=id)) (q2=q2/\Z0 (decide (q3=q3)) (Z0 (decide (q4=q4)) (Z0 (decide (q5=q5)) (Z0 (decide (q6=q6)) (Z0 (decide (q7=q7)) (q8=q8/\q9=q9/\Z0 (decide (X.side=X.side)) (Z0 (decide (X.res=X.res)) (q10=q10/\q11=q11/\Z0 q12 (q14=q14/\Z0 q12 (C/\∀(i:Nat),i<=n->(∀(j:Nat),j<i->(fun (i:Nat)=>¬isP own id (List.getD q13 i Z8)/\i<n) j)->(i=n->AV.int i64 (-1)=AV.int i64 r)/\(i<n/\isP own id (List.getD q13 i Z8)->AV.int i64 ↑i=AV.int i64 r)/\(False->False)) False) False) False) False) False) False) False) False) False) False) False) (by kernel_rfl) ?_
 conv=>zeta
 try simp only [Zi]
 try simp only [Zj]
 try simp only [Zf]
 try simp only [Zk]
 try simp only [Zl]
 try simp only [Zg]
 try simp only [Int.toNat_natCast,Nat.zero_add,true_and,and_true,Nat.le_refl]
 refine ⟨hC,fun i hi hg=>⟨fun he=> ?_,fun hx=> ?_,fun h=>h.elim⟩⟩
 ·rw [hr]
  unfold fiV
  rw [Z3p fun j hj=>(hg j (by omega)).1,if_neg (by omega)]
 ·rw [hr]
  unfold fiV
  rw [Z3q (by omega) (fun j hj=>(hg j hj).1) hx.2,if_pos (by omega)]
def Zlc:ZK:=fun args h K=>ZP none h true 20 args fun a=>match a with
 | [.agg cs,.bool own,.int .i64 id]=>∃X,LV cs X/\X.L.length<1000/\K (.int .i64 (fiV own id X.L))
 | _=>False
theorem ZgP (args:List AV) (h:Z9) (K:AV->Prop) (hl:Zlc args h K):Zn PP 154 args h fun o h'=>∃v,o=.ret v/\h'=h/\K v:=by
 refine ZA.psumm (d:=20) (Zs _ _ _ _ _ hl fun a ha=> ?_)
 split at ha
 ·obtain ⟨X,hX,h1,hK⟩:=ha
  exact ⟨_,(ZA.evV (Zeh X _ _ _) (Zlb X _ _ _ _ _ ⟨h1,rfl⟩ rfl rfl)).conv fun E r hr=>hr.head (fun _ hc=>XB hX hc) fun _ hc=>hc,fun _=>rfl,hK⟩
 ·exact ha.elim
end Go.Tk
end
section
namespace Go.Tk
open IntKind (i64 u8 u32 u64 wrap)
def Y2:Z7:=⟨⟨Za,0,0,0,0,0,Za,Za⟩,0,0,0,0,0,0,[]⟩
def slH (b n:Nat):AV:=.nslice ⟨b,0,70,0,0⟩ 70 n n
def UK (h:Z6) (p:List Z6×Bool) (x:Z6):List Z6×Bool:=if h.own=true/\x.own=false/\p.2=false then (p.1++[h]++[x],true) else (p.1++[x],p.2)
def Z7c (h:Z6) (p:List Z6×Bool):List Z6:=if p.2=true then p.1 else p.1++[h]
theorem Z7d (h:Z6):∀(L O:List Z6),L.foldl (UK h) (O,true)=(O++L,true)
 | [],O=>by simp
 | x::r,O=>by
  rw [List.foldl_cons]
  have:UK h (O,true) x=(O++[x],true):=by simp [UK]
  rw [this,Z7d h r];simp
theorem Z4K (h:Z6):∀(L O:List Z6),Z7c h (L.foldl (UK h) (O,false))=O++Xp h L
 | [],O=>by simp [Z7c,Xp]
 | x::r,O=>by
  rw [List.foldl_cons]
  unfold Xp
  by_cases hc:h.own=true/\x.own=false
  ·rw [if_pos hc]
   have:UK h (O,false) x=(O++[h]++[x],true):=by unfold UK;rw [if_pos ⟨hc.1,hc.2,rfl⟩]
   rw [this,Z7d]
   simp [Z7c]
  ·rw [if_neg hc]
   have:UK h (O,false) x=(O++[x],false):=by unfold UK;rw [if_neg (fun q=>hc ⟨q.1,q.2.1⟩)]
   rw [this,Z4K h r];simp
theorem Z5O (h:Z6):∀(L:List Z6) (p:List Z6×Bool),(L.foldl (UK h) p).1.length<=p.1.length+2*L.length
 | [],p=>by simp
 | x::r,p=>by
  rw [List.foldl_cons,List.length_cons]
  have:=Z5O h r (UK h p x)
  have h2:(UK h p x).1.length<=p.1.length+2:=by unfold UK;split<;>simp
  omega
def plI (own:Bool):Int:=match own with
 | true=>0
 | false=>1
theorem Znn (own:Bool) (r:Int) (hr:r=plI own):
  evF G0 20 99 [.bool own] ⟨0,[]⟩ (Y4 (fun v=>v=.int .i64 r)):=by
 refine @Eq.mpr _ (Z0 own (AV.int i64 0=AV.int i64 r) (AV.int i64 1=AV.int i64 r)) (by kernel_rfl) ?_
 subst hr
 cases own<;>exact rfl
def plS:ZK:=fun args _ K=>match args with
 | [.bool own]=>K (.int .i64 (plI own))
 | _=>False
theorem Zei (args:List AV) (h:Z9) (K:AV->Prop) (hl:plS args h K):Zn PP 99 args h fun o h'=>∃v,o=.ret v/\h'=h/\K v:=by
 unfold plS at hl
 split at hl
 ·exact ZU Zu rfl (Znn _ _ rfl) (fun u hu=>hu▸hl)
 ·exact hl.elim
theorem Zno (X:Z7) (own:Bool) (r:Int) (hX:YX X) (hr:r=ZS X.side own):
  evF G0 20 100 [Z0x X,.bool own] ⟨0,[]⟩ (Y4 (fun v=>v=.int .i64 r)):=by
 refine @Eq.mpr _ (Z0 own (AV.int i64 X.side=AV.int i64 r) (AV.int i64 (wrap i64 (1-X.side))=AV.int i64 r)) (by kernel_rfl) ?_
 subst hr
 obtain ⟨s1,s2⟩:=hX
 rw [w64 (by omega)]
 cases own<;>exact rfl
def sdS:ZK:=fun args h K=>ZP none h true 20 args fun a=>match a with
 | [.agg cs,.bool own]=>∃X,LV cs X/\YX X/\K (.int .i64 (ZS X.side own))
 | _=>False
theorem Z8U (args:List AV) (h:Z9) (K:AV->Prop) (hl:sdS args h K):Zn PP 100 args h fun o h'=>∃v,o=.ret v/\h'=h/\K v:=by
 refine ZA.psumm (d:=20) (Zs _ _ _ _ _ hl fun a ha=> ?_)
 split at ha
 ·obtain ⟨X,hX,hs,hK⟩:=ha
  exact ⟨_,(ZA.evV Zu (Zno X _ _ hs rfl)).conv fun E r hr=>hr.head (fun _ hc=>XB hX hc) fun _ hc=>hc,fun _=>rfl,hK⟩
 ·exact ha.elim
theorem Zld (h:Z6) (z:Int) (b:Bool) (hz:z=0) (hb:b=Yj h):
  evF G0 20 98 [.agg [.int .i64 z,.int .i64 h.id,.int .i64 h.amount,.arr .u8 32 h.hash,.int .i64 h.expiry]] ⟨0,[]⟩ (Y4 (fun v=>v=.bool b)):=by
 refine @Eq.mpr _ (let q1:=h.amount;let q2:=AV.bool false=AV.bool b;let q3:=Z0 (decide (h.id>=0)) (Z0 (decide (h.id<=2147483647)) (Z0 (decide (q1>0)) (Z0 (decide (q1>=0)) (Z0 (decide (q1<=1125899906842624)) (Z0 (decide (h.expiry>=1)) (AV.bool (decide (h.expiry<=2147483647))=AV.bool b) q2) q2) q2) q2) q2) q2;
 Z0 (z==0) q3 (Z0 (z==1) q3 q2)) (by kernel_rfl) ?_
 conv=>zeta
 subst hz hb
 unfold Yj
 simp only [WD]
 congr 1
 by_cases h1:0<=h.id<;>by_cases h2:h.id<=2147483647<;>by_cases h3:1<=h.amount<;>by_cases h4:h.amount<=1125899906842624<;>by_cases h5:1<=h.expiry<;>by_cases h6:h.expiry<=2147483647<;>simp [h1,h2,h3,h4,h5,h6]<;>omega
def ZgQ:ZK:=fun args _ K=>match args with
 | [.agg [.int .i64 z,.int .i64 id,.int .i64 am,.arr .u8 32 ha,.int .i64 ex]]=>Zx (z=0) (K (.bool (Yj ⟨false,id,am,ha,ex,0,0,[]⟩)))
 | _=>False
theorem Za1 (args:List AV) (h:Z9) (K:AV->Prop) (hl:ZgQ args h K):Zn PP 98 args h fun o h'=>∃v,o=.ret v/\h'=h/\K v:=by
 unfold ZgQ at hl
 split at hl
 ·obtain ⟨h1,hK⟩:=Ze hl
  exact ZU Zu rfl (Zld ⟨false,_,_,_,_,0,0,[]⟩ _ _ h1 rfl) (fun u hu=>hu▸hK)
 ·exact hl.elim
noncomputable def ZjD:Zh:=((((G0.withP 97 ZjC).withP 96 Zec).withP 99 plS).withP 100 sdS).withP 98 ZgQ
theorem Za2:ZjD.Ok:=Zh.withP_ok (Zh.withP_ok (Zh.withP_ok (Zh.withP_ok (Zh.withP_ok Zu Za0) Z7a) Zei) Z8U) Za1
def Z1I (X:Z7) (h:Z6) (own:Bool) (n i:Nat) (d:Bool) (O:List Z6):St:=⟨111,[(20,.int .i64 i),(6,pt 1),(1,.bool own),(19,.bool d),(18,slH 4 O.length),(14,pt 3),(12,pt 2)],⟨5,[(0,.rows 70 n (Z4 X.L)),(1,.flat (X.c (slH 0 n))),(2,.flat (Y2.c .nilslice)),(3,.flat h.c),(4,.rows 70 O.length (Z4 O))]⟩,[]⟩
theorem Zle (X:Z7) (h:Z6) (own:Bool) (n i:Nat) (x:Z6) (d d1:Bool) (O O1:List Z6) (Z1 Z2:Prop) (hn:n<1000) (hL:X.L.length=n) (hi:i<=n) (hx:i<n->X.L.getD i Z8=x) (hO:O.length<5000) (ho:h.own=own) (h1:i<n->(O1,d1)=UK h (O,d) x) (hZ1:i<n->Z1) (hZ2:i=n->Z2):
  ZB ZjD 20 34 0 1 (Z1I X h own n i d O) (rdM 1 0 9 (Z1I X h own n (i+1) d1 O1) (Z1I X h own n i d O) (Z1I X h own n i d O) (Z1I X h own n i d O) Z1 Z2 False False):=by
 refine @Eq.mpr _ (let q1:=decide (0<=(↑i:Int)/\(↑i:Int)<(↑n:Int));let q2:=0+Int.toNat (↑i:Int);let q3:=List.getD X.L q2 Z8;let q4:=q3.own;let q5:=List.length O;let q6:=decide (q5=q5);let q7:=q5+1;let q8:=decide (q7*112<=140737488355328);let q9:=q7+1;let q10:=decide (wrap i64 ((↑i:Int)+1)=(↑(i+1):Int));let q11:=decide (own=own);let q12:=List.length O1;let q13:=decide (q9=q12);let q14:=decide (n=n);let q15:=[(1,1)];let q16:=(2,2)::(3,3)::(4,8)::q15;let q17:=Z4 X.L;let q18:=X.t;let q19:=q18.fund;let q20:=q19=q19;let q21:=q18.index;let q22:=decide (q21=q21);let q23:=q18.cap;let q24:=decide (q23=q23);let q25:=q18.dust;let q26:=decide (q25=q25);let q27:=q18.fee;let q28:=decide (q27=q27);let q29:=q18.delay;let q30:=decide (q29=q29);let q31:=q18.k0;let q32:=q31=q31;let q33:=q18.k1;let q34:=q33=q33;let q35:=decide (X.side=X.side);let q36:=decide (X.res=X.res);let q37:=[X.a0,X.a1];let q38:=q37=q37;let q39:=[X.i0,X.i1];let q40:=q39=q39;let q41:=decide (n<=n);let q42:=Y2.t;let q43:=q42.fund;let q44:=q43=q43;let q45:=q42.k0;let q46:=q45=q45;let q47:=q42.k1;let q48:=q47=q47;let q49:=[Y2.a0,Y2.a1];let q50:=q49=q49;let q51:=[Y2.i0,Y2.i1];let q52:=q51=q51;let q53:=h.own;let q54:=decide (q53=q53);let q55:=h.id;let q56:=decide (q55=q55);let q57:=h.amount;let q58:=decide (q57=q57);let q59:=h.hash;let q60:=q59=q59;let q61:=h.expiry;let q62:=decide (q61=q61);let q63:=h.stage;let q64:=decide (q63=q63);let q65:=h.fin;let q66:=decide (q65=q65);let q67:=h.secret;let q68:=q67=q67;let q69:=Z4 O;let q70:=YG [AV.bool q4,AV.int i64 q3.id,AV.int i64 q3.amount,AV.arr u8 32 q3.hash,AV.int i64 q3.expiry,AV.int i64 q3.stage,AV.int i64 q3.fin,AV.arr u8 32 q3.secret] 0 70;let q71:=decide (q7=q12);let q72:=(2,2)::(3,3)::(4,6)::q15;let q73:=Z0 q6 (Z0 q8 (Z0 q10 (Z0 q11 (Z0 (decide (d=d1)) (Z0 q71 (Z0 (decide (q12<=q7)) (Z0 q14 (Zc 1 q72 n q17 q17/\q20/\Z0 q22 (Z0 q24 (Z0 q26 (Z0 q28 (Z0 q30 (q32/\q34/\Z0 q35 (Z0 q36 (q38/\q40/\Z0 q14 (Z0 q41 (q44/\q46/\q48/\q50/\q52/\Z0 q54 (Z0 q56 (Z0 q58 (q60/\Z0 q62 (Z0 q64 (Z0 q66 (q68/\Z0 q71 (Zc 1 q72 q12 (Z4 O1) (ZZ q5 q69 q70)/\Z1) False) False) False) False) False) False) False) False) False) False) False) False) False) False) False) False) False) False) False) False) False) False) False) False;let q74:=(2,2)::(3,3)::(4,4)::q15;
 Z0 (decide ((↑i:Int)<(↑n:Int)))
 (Z0 own
 (Z0 q1
 (Z0 (decide (q2<n))
 (Z0 (!q4)
 (Z0 (!d) (Z0 q6 (Z0 q8 (Z0 q1 (Z0 (decide (q2<n)) (Z0 (decide (q7=q7)) (Z0 (decide (q9*112<=140737488355328)) (Z0 q10 (Z0 q11 (Z0 (decide (true=d1)) (Z0 q13 (Z0 (decide (q12<=q9)) (Z0 q14 (Zc 1 q16 n q17 q17/\q20/\Z0 q22 (Z0 q24 (Z0 q26 (Z0 q28 (Z0 q30 (q32/\q34/\Z0 q35 (Z0 q36 (q38/\q40/\Z0 q14 (Z0 q41 (q44/\q46/\q48/\q50/\q52/\Z0 q54 (Z0 q56 (Z0 q58 (q60/\Z0 q62 (Z0 q64 (Z0 q66 (q68/\Z0 q13 (Zc 1 q16 q12 (Z4 O1) (ZZ q7 (ZZ q5 q69 (YG [AV.bool q53,AV.int i64 q55,AV.int i64 q57,AV.arr u8 32 q59,AV.int i64 q61,AV.int i64 q63,AV.int i64 q65,AV.arr u8 32 q67] 0 70)) q70)/\Z1) False) False) False) False) False) False) False) False) False) False) False) False) False) False) False) False) False) False) False) False) False) False) False) False) False) False) False) False) (Z0 q1 (Z0 (decide (q2<n)) q73 False) False))
 (Z0 q1 (Z0 (decide (q2<n)) q73 False) False))
 False)
 False)
 (Z0 q1 (Z0 (decide (q2<n)) q73 False) False))
 (Z0 (decide ((↑i:Int)=(↑i:Int))) (Z0 q11 (Z0 (decide (d=d)) (Z0 q6 (Z0 (decide (q5<=q5)) (Z0 q14 (Zc 1 q74 n q17 q17/\q20/\Z0 q22 (Z0 q24 (Z0 q26 (Z0 q28 (Z0 q30 (q32/\q34/\Z0 q35 (Z0 q36 (q38/\q40/\Z0 q14 (Z0 q41 (q44/\q46/\q48/\q50/\q52/\Z0 q54 (Z0 q56 (Z0 q58 (q60/\Z0 q62 (Z0 q64 (Z0 q66 (q68/\Z0 q6 (Zc 1 q74 q5 q69 q69/\Z2) False) False) False) False) False) False) False) False) False) False) False) False) False) False) False) False) False) False) False) False) False) False)) (by kernel_rfl) ?_
 conv=>zeta
 try simp only [Zi]
 try simp only [Zj]
 try simp only [Zf]
 try simp only [Zk]
 try simp only [Zl]
 try simp only [Zg]
 try simp only [Int.toNat_natCast,Nat.zero_add,true_and,and_true,Nat.le_refl]
 refine ⟨fun hc=> ?_,fun hc=> ?_⟩
 ·have hlt:i<n:=by omega
  rw [hx hlt]
  have h1:=h1 hlt
  have hwr:i64.wrap ((i:Int)+1)=((i+1:Nat):Int):=by rw [w64 (by omega)];omega
  rw [hwr]
  have hR:∀τ k (Q:List Z6),Zc 1 τ k (Z4 Q) (Z4 Q):=fun τ k Q=>Zp fun _ _=>rfl
  have hC:∀τ (Q:List Z6) (y:Z6),Zc 1 τ (Q++[y]).length (Z4 (Q++[y])) (ZZ Q.length (Z4 Q) (YG y.c 0 70)):=fun τ Q y=>Zp fun j hj=>Yk rfl (fun _ _=>rfl) (by simpa using hj)
  have hD:∀τ (Q:List Z6) (y z:Z6),Zc 1 τ (Q++[y]++[z]).length (Z4 (Q++[y]++[z])) (ZZ (Q.length+1) (ZZ Q.length (Z4 Q) (YG y.c 0 70)) (YG z.c 0 70)):=fun τ Q y z=>Zp fun j hj=>Yk (O:=Q++[y]) (by simp) (fun k hk=>Yk rfl (fun _ _=>rfl) hk) (by simpa using hj)
  have no:¬(h.own=true/\x.own=false/\d=false)->O1=O++[x]/\d1=d:=fun q=>by
   unfold UK at h1
   rw [if_neg q] at h1
   simp only [Prod.mk.injEq] at h1;exact h1
  refine ⟨fun ho1=>⟨by omega,hlt,fun hx1=>⟨fun hd=> ?_,fun hd=> ?_⟩,fun hx1=> ?_⟩,fun ho1=> ?_⟩
  ·have e:h.own=true/\x.own=false/\d=false:=⟨by rw [ho,ho1],by simpa using hx1,by simpa using hd⟩
   unfold UK at h1
   rw [if_pos e] at h1
   simp only [Prod.mk.injEq] at h1
   obtain ⟨e1,e2⟩:=h1
   subst e1 e2
   repeat' apply And.intro
   all_goals first|omega|rfl|exact hZ1 hlt|exact hD _ _ _ _|exact hR _ _ _|(simp;done)
  ·obtain ⟨e1,e2⟩:=no (fun q=>by rw [q.2.2] at hd;cases hd)
   subst e1 e2
   repeat' apply And.intro
   all_goals first|omega|rfl|exact hZ1 hlt|exact hC _ _ _|exact hR _ _ _|(simp;done)
  ·obtain ⟨e1,e2⟩:=no (fun q=>by rw [q.2.1] at hx1;cases hx1)
   subst e1 e2
   repeat' apply And.intro
   all_goals first|omega|rfl|exact hZ1 hlt|exact hC _ _ _|exact hR _ _ _|(simp;done)
  ·obtain ⟨e1,e2⟩:=no (fun q=>by rw [ho,ho1] at q;cases q.1)
   subst e1 e2
   repeat' apply And.intro
   all_goals first|omega|rfl|exact hZ1 hlt|exact hC _ _ _|exact hR _ _ _|(simp;done)
 ·repeat' apply And.intro
  all_goals first|omega|rfl|exact hZ2 (by omega)|exact Zp fun _ _=>rfl
def Z0y (X:Z7) (h:Z6) (i:Nat):List Z6×Bool:=(X.L.take i).foldl (UK h) ([],false)
noncomputable def Za3 (X:Z7) (h:Z6) (own:Bool) (n:Nat) (C:Prop) (E:Nat->St):Zh:=ZjD.withL 34 0 (goM 1 (Z1I X h own n 0 false []) C (Yu 0 n 9 (fun i=>i<n) (fun i=>i=n) (fun _=>False) (fun _=>False) E E E))
theorem Zej (X:Z7) (h:Z6) (own:Bool) (n:Nat):(Za3 X h own n (n<1000/\X.L.length=n/\h.own=own) (fun i=>Z1I X h own n i (Z0y X h i).2 (Z0y X h i).1)).Ok:=by
 refine Zh.withGoM (N:=20) (S:=fun i=>Z1I X h own n i (Z0y X h i).2 (Z0y X h i).1) Za2 (by kernel_rfl) fun hC=>⟨rfl,fun i hi _=> ?_⟩
 obtain ⟨h1,h2,h3⟩:=hC
 have hl:=Z5O h (X.L.take i) ([],false)
 have l0:(X.L.take i).length<=i:=by rw [List.length_take];omega
 have l1:(Z0y X h i).1.length<=2*i:=by unfold Z0y;simp only [List.length_nil] at hl;omega
 refine Zle X h own n i (X.L.getD i Z8) _ _ _ _ _ _ h1 h2 hi (fun _=>rfl) (by omega) h3 (fun q=> ?_) (fun q=>⟨q,q⟩) (fun q=>q)
 show Z0y X h (i+1)=_
 unfold Z0y
 rw [WF (UK h) Z8 (by omega)]
theorem Z7e (X:Z7) (own:Bool) (id am ex:Int) (hash:List Int):Yj ⟨false,id,am,hash,ex,0,0,[]⟩=Yj (Xd X own id am hash ex):=rfl
theorem Zi6 (X:Z7) (own:Bool):[X.i0,X.i1].getD (plI own).toNat 0=X.nx own:=by cases own<;>rfl
theorem Zek (own:Bool):0<=plI own/\plI own<2:=by cases own<;>exact ⟨by decide,by decide⟩
theorem Zlf (X:Z7) (own:Bool) (n:Nat) (id am ex e:Int) (hash:List Int) (C:Prop) (hL:X.L.length=n) (hI:X.Inv Zr) (he:e=XA X own id am hash ex) (hne:e≠0):
  evF (Za3 X Z8 own n C fun i=>Z1I X Z8 own n i false []) 20 34 [.agg (X.c (slH 0 n)),.bool own,.int .i64 id,.int .i64 am,.agg [.arr .u8 32 hash],.int .i64 ex] ⟨1,[(0,.rows 70 n (Z4 X.L))]⟩ (ZX 1 (.ret (.tuple [.agg (X.c (slH 0 n)),.int .i64 e])) 1 [(0,.rows 70 n (Z4 X.L))]):=by
 refine @Eq.mpr _ (let q1:=X.t;let q2:=q1.fund;let q3:=q2=q2;let q4:=q1.index;let q5:=decide (q4=q4);let q6:=q1.cap;let q7:=decide (q6=q6);let q8:=q1.dust;let q9:=decide (q8=q8);let q10:=q1.fee;let q11:=decide (q10=q10);let q12:=q1.delay;let q13:=decide (q12=q12);let q14:=q1.k0;let q15:=q14=q14;let q16:=q1.k1;let q17:=q16=q16;let q18:=X.side;let q19:=decide (q18=q18);let q20:=X.res;let q21:=decide (q20=q20);let q22:=[X.a0,X.a1];let q23:=q22=q22;let q24:=[X.i0,X.i1];let q25:=q24=q24;let q26:=decide (n=n);let q27:=decide (n<=n);let q28:=Z4 X.L;let q29:=Z0 q26 (Zc 1 [] n q28 q28/\True) False;let q30:=0+Int.toNat (plI own);let q31:=decide (0+n<=n);let q32:=Y2.t;let q33:=[(0:Int),0];
 Z0 (!Yj (Z6.mk false id am hash ex 0 0 [])) (q3/\Z0 q5 (Z0 q7 (Z0 q9 (Z0 q11 (Z0 q13 (q15/\q17/\Z0 q19 (Z0 q21 (q23/\q25/\Z0 q26 (Z0 q27 (Z0 (decide (2=e)) q29 False) False) False) False) False) False) False) False) False) False)
 (Z0 (decide (0<=plI own/\plI own<2))
 (Z0 (decide (q30<2))
 (Z0 (id !=List.getD q24 q30 0) (q3/\Z0 q5 (Z0 q7 (Z0 q9 (Z0 q11 (Z0 q13 (q15/\q17/\Z0 q19 (Z0 q21 (q23/\q25/\Z0 q26 (Z0 q27 (Z0 (decide (200=e)) q29 False) False) False) False) False) False) False) False) False) False)
 (Z0 q31
 ((∀(i:Nat),i<n->true=true)/\
 ∃(X:Z7),
 let q67:=[AV.arr u8 32 q2,AV.int i64 q4,AV.int i64 q6,AV.int i64 q8,AV.int i64 q10,AV.int i64 q12,AV.arr u8 32 q14,AV.arr u8 32 q16,AV.int i64 q18,AV.int i64 q20,AV.arr i64 2 q22,AV.arr i64 2 q24,AV.vrows 70 n (ZT 0 q28) n];let q68:=X.side;let q69:=ZS q68 own;let q70:=q69=0\/q69=1;
 LV q67 X/\
 (0<=q68/\q68<=1)/\
 Z0 q31
 ((∀(i:Nat),i<n->true=true)/\
 ∃(X:Z7),
 LV q67 X/\
 Z7.Inv Zr X/\
 q70/\
 Z0 (decide ((↑(List.length (ZR X.side q69 X.L)):Int)>=8)) (q3/\Z0 q5 (Z0 q7 (Z0 q9 (Z0 q11 (Z0 q13 (q15/\q17/\Z0 q19 (Z0 q21 (q23/\q25/\Z0 q26 (Z0 q27 (Z0 (decide (201=e)) q29 False) False) False) False) False) False) False) False) False) False)
 (Z0 q31 ((∀(i:Nat),i<n->true=true)/\∃(X:Z7),LV q67 X/\Z7.Inv Zr X/\q70/\Z0 (decide (Y5 X q69<am)) (q3/\Z0 q5 (Z0 q7 (Z0 q9 (Z0 q11 (Z0 q13 (q15/\q17/\Z0 q19 (Z0 q21 (q23/\q25/\Z0 q26 (Z0 q27 (Z0 (decide (202=e)) q29 False) False) False) False) False) False) False) False) False) False) (Z0 (decide (own=own)) (Z0 q26 (Zc 1 [(2,3),(3,4),(1,1)] n q28 q28/\q3/\Z0 q5 (Z0 q7 (Z0 q9 (Z0 q11 (Z0 q13 (q15/\q17/\Z0 q19 (Z0 q21 (q23/\q25/\Z0 q26 (Z0 q27 (Za=q32.fund/\Za=q32.k0/\Za=q32.k1/\q33=[Y2.a0,Y2.a1]/\q33=[Y2.i0,Y2.i1]/\Z0 (decide (own=Z8.own)) (Z0 (decide (id=Z8.id)) (Z0 (decide (am=Z8.amount)) (hash=Z8.hash/\Z0 (decide (ex=Z8.expiry)) False False) False) False) False) False) False) False) False) False) False) False) False) False) False) False)) False))
 False)
 False))
 False)
 False)) (by kernel_rfl) ?_
 conv=>zeta
 try simp only [Zi]
 try simp only [Zj]
 try simp only [Zf]
 try simp only [Zk]
 try simp only [Zl]
 try simp only [Zg]
 try simp only [Int.toNat_natCast,Nat.zero_add,true_and,and_true,Nat.le_refl]
 have hs:=hI.side
 have hs01:0<=X.side/\X.side<=1:=by omega
 have hR:Zc 1 [] n (Z4 X.L) (Z4 X.L):=Zp fun _ _=>rfl
 rw [Z7e X own id am ex hash,Zi6]
 subst hL
 unfold XA at he
 refine ⟨fun k=>⟨?_,hR⟩,fun k1=>⟨Zek own,by have:=Zek own;omega,fun k=>⟨?_,hR⟩,fun k2=>⟨fun _ _=>trivial,X,.a rfl,hs01,fun _ _=>trivial,X,.a rfl,hI,Z4F hs own,fun k=>⟨?_,hR⟩,fun k3=>⟨fun _ _=>trivial,X,.a rfl,hI,Z4F hs own,fun k=>⟨?_,hR⟩,fun k4=> ?_⟩⟩⟩⟩
 ·rw [he,if_pos (by simpa using k)]
 ·rw [he,if_neg (by simpa using k1),if_pos (by simpa using k)]
 ·rw [he,if_neg (by simpa using k1),if_neg (by simpa using k2),if_pos (by omega)]
 ·rw [he,if_neg (by simpa using k1),if_neg (by simpa using k2),if_neg (by omega),if_pos k]
 ·exact absurd (by rw [he,if_neg (by simpa using k1),if_neg (by simpa using k2),if_neg (by omega),if_neg k4]) hne
theorem ZgR {X:Z7} (own:Bool) (h:(0<=X.i0/\X.i0<=2147483648)/\0<=X.i1/\X.i1<=2147483648):[X.i0,X.i1].set (plI own).toNat (i64.wrap (X.nx own+1))=[(XG X own 1).i0,(XG X own 1).i1]:=by
 cases own
 ·show [X.i0,i64.wrap (X.i1+1)]=[X.i0,X.i1+1]
  rw [w64 (by omega)]
 ·show [i64.wrap (X.i0+1),X.i1]=[X.i0+1,X.i1]
  rw [w64 (by omega)]
theorem Zel (X:Z7) (own:Bool) (d:Int):(XG X own d).t=X.t/\(XG X own d).side=X.side/\(XG X own d).res=X.res/\(XG X own d).a0=X.a0/\(XG X own d).a1=X.a1:=by cases own<;>exact ⟨rfl,rfl,rfl,rfl,rfl⟩
theorem Zlg (X X':Z7) (h:Z6) (own:Bool) (n l:Nat) (id am ex:Int) (hash:List Int) (C:Prop) (DF:Nat->Bool) (OF:Nat->List Z6) (hC:C) (hL:X.L.length=n) (hI:X.Inv Zr) (he:XA X own id am hash ex=0) (hh:h=Xd X own id am hash ex) (hX':X'={ XG X own 1 with L:=Z7c h (OF n,DF n)}) (hl:l=X'.L.length) (hb:(OF n).length<1000):
  evF (Za3 X h own n C fun i=>Z1I X h own n i (DF i) (OF i)) 20 34 [.agg (X.c (slH 0 n)),.bool own,.int .i64 id,.int .i64 am,.agg [.arr .u8 32 hash],.int .i64 ex] ⟨1,[(0,.rows 70 n (Z4 X.L))]⟩ (ZX 1 (.ret (.tuple [.agg (X'.c (slH 1 l)),.int .i64 0])) 2 [(0,.rows 70 n (Z4 X.L)),(1,.rows 70 l (Z4 X'.L))]):=by
 refine @Eq.mpr _ (let q1:=decide (0<=plI own/\plI own<2);let q2:=0+Int.toNat (plI own);let q3:=[X.i0,X.i1];let q4:=List.getD q3 q2 0;let q5:=decide (0+n<=n);let q6:=X.t;let q7:=q6.fund;let q8:=q6.index;let q9:=q6.cap;let q10:=q6.dust;let q11:=q6.fee;let q12:=q6.delay;let q13:=q6.k0;let q14:=q6.k1;let q15:=X.side;let q16:=X.res;let q17:=[X.a0,X.a1];let q18:=Z4 X.L;let q19:=decide (n=n);let q20:=Y2.t;let q21:=[(0:Int),0];let q22:=decide (q2<2);let q23:=decide (i64=i64/\q2<2/\q2<2);let q24:=X'.t;let q25:=q7=q24.fund;let q26:=decide (q8=q24.index);let q27:=decide (q9=q24.cap);let q28:=decide (q10=q24.dust);let q29:=decide (q11=q24.fee);let q30:=decide (q12=q24.delay);let q31:=q13=q24.k0;let q32:=q14=q24.k1;let q33:=decide (q15=X'.side);let q34:=decide (q16=X'.res);let q35:=q17=[X'.a0,X'.a1];let q36:=List.set q3 q2 (wrap i64 (q4+1))=[X'.i0,X'.i1];let q37:=[(1,6)];let q38:=Z4 X'.L;let q39:=[(1,4)];
 Z0 (!Yj (Z6.mk false id am hash ex 0 0 [])) False
 (Z0 q1
 (Z0 (decide (q2<2))
 (Z0 (id !=q4) False
 (Z0 q5
 ((∀(i:Nat),i<n->true=true)/\
 ∃(X_1:Z7),
 let q79:=[AV.arr u8 32 q7,AV.int i64 q8,AV.int i64 q9,AV.int i64 q10,AV.int i64 q11,AV.int i64 q12,AV.arr u8 32 q13,AV.arr u8 32 q14,AV.int i64 q15,AV.int i64 q16,AV.arr i64 2 q17,AV.arr i64 2 q3,AV.vrows 70 n (ZT 0 q18) n];let q80:=X_1.side;let q81:=ZS q80 own;let q82:=q81=0\/q81=1;
 LV q79 X_1/\
 (0<=q80/\q80<=1)/\
 Z0 q5
 ((∀(i:Nat),i<n->true=true)/\
 ∃(X_2:Z7),
 LV q79 X_2/\
 Z7.Inv Zr X_2/\
 q82/\
 Z0 (decide ((↑(List.length (ZR X_2.side q81 X_2.L)):Int)>=8)) False
 (Z0 q5
 ((∀(i:Nat),i<n->true=true)/\
 ∃(X_3:Z7),
 LV q79 X_3/\
 Z7.Inv Zr X_3/\
 q82/\
 Z0 (decide (Y5 X_3 q81<am)) False
 (Z0 (decide (own=own))
 (Z0 q19
 (Zc 1 [(2,3),(3,4),(1,1)] n q18 q18/\
 q7=q7/\
 Z0 (decide (q8=q8))
 (Z0 (decide (q9=q9))
 (Z0 (decide (q10=q10))
 (Z0 (decide (q11=q11))
 (Z0 (decide (q12=q12))
 (q13=q13/\
 q14=q14/\
 Z0 (decide (q15=q15))
 (Z0 (decide (q16=q16))
 (q17=q17/\
 q3=q3/\
 Z0 q19
 (Z0 (decide (n<=n))
 (Za=q20.fund/\
 Za=q20.k0/\
 Za=q20.k1/\
 q21=[Y2.a0,Y2.a1]/\
 q21=[Y2.i0,Y2.i1]/\
 Z0 (decide (own=h.own))
 (Z0 (decide (id=h.id))
 (Z0 (decide (am=h.amount))
 (hash=h.hash/\
 Z0 (decide (ex=h.expiry))
 (Z0 (decide (1=h.stage))
 (Z0 (decide (0=h.fin))
 (Za=h.secret/\
 C/\
 ∀(i:Nat),
 let q87:=List.length (OF i);let q88:=q87+1;let q89:=decide (q88=l);let q90:=decide (q87=l);
 i<=n->
 (∀(j:Nat),j<i->(fun (i:Nat)=>i<n) j)->
 (i=n->
 Z0 (!DF i) (Z0 (decide (q87=q87)) (Z0 (decide (q88*112<=140737488355328)) (Z0 q1 (Z0 q22 (Z0 q1 (Z0 q23 (q25/\Z0 q26 (Z0 q27 (Z0 q28 (Z0 q29 (Z0 q30 (q31/\q32/\Z0 q33 (Z0 q34 (q35/\q36/\Z0 q89 (Z0 (decide (l<=q88)) (Z0 q19 (Zc 1 q37 n q18 q18/\Z0 q89 (Zc 1 q37 l q38 (ZZ q87 (Z4 (OF i)) (YG [AV.bool h.own,AV.int i64 h.id,AV.int i64 h.amount,AV.arr u8 32 h.hash,AV.int i64 h.expiry,AV.int i64 h.stage,AV.int i64 h.fin,AV.arr u8 32 h.secret] 0 70))/\True) False) False) False) False) False) False) False) False) False) False) False) False) False) False) False) False) False)
 (Z0 q1 (Z0 q22 (Z0 q1 (Z0 q23 (q25/\Z0 q26 (Z0 q27 (Z0 q28 (Z0 q29 (Z0 q30 (q31/\q32/\Z0 q33 (Z0 q34 (q35/\q36/\Z0 q90 (Z0 (decide (l<=q87)) (Z0 q19 (Zc 1 q39 n q18 q18/\Z0 q90 (Zc 1 q39 l q38 (Z4 (OF i))/\True) False) False) False) False) False) False) False) False) False) False) False) False) False) False) False))/\
 (False->False)/\(False->False))
 False)
 False)
 False)
 False)
 False)
 False)
 False)
 False)
 False)
 False)
 False)
 False)
 False)
 False)
 False)
 False)
 False))
 False))
 False)
 False))
 False)
 False)) (by kernel_rfl) ?_
 conv=>zeta
 try simp only [Zi]
 try simp only [Zj]
 try simp only [Zf]
 try simp only [Zk]
 try simp only [Zl]
 try simp only [Zg]
 try simp only [Int.toNat_natCast,Nat.zero_add,true_and,and_true,Nat.le_refl]
 have hs:=hI.side
 have hs01:0<=X.side/\X.side<=1:=by omega
 have hR:∀τ k (Q:List Z6),Zc 1 τ k (Z4 Q) (Z4 Q):=fun τ k Q=>Zp fun _ _=>rfl
 have hC2:∀τ (Q:List Z6) (y:Z6),Zc 1 τ (Q++[y]).length (Z4 (Q++[y])) (ZZ Q.length (Z4 Q) (YG y.c 0 70)):=fun τ Q y=>Zp fun j hj=>Yk rfl (fun _ _=>rfl) (by simpa using hj)
 rw [Z7e X own id am ex hash,Zi6,ZgR own ⟨hI.i0,hI.i1⟩]
 obtain ⟨k1,k2,k3,k4⟩:=Z14 he
 have hp:=Zek own
 have hp2:(plI own).toNat<2:=by omega
 obtain ⟨c1,c2,c3,c4,c5⟩:=Zel X own 1
 subst hL
 refine ⟨by simp [k1],hp,hp2,by simp [k2],fun _ _=>trivial,X,.a rfl,hs01,fun _ _=>trivial,X,.a rfl,hI,Z4F hs own,by omega,fun _ _=>trivial,X,.a rfl,hI,Z4F hs own,by omega,hR _ _ _,rfl,rfl,rfl,rfl,rfl, ?_⟩
 have hf:∀d:Bool,X'.L=Z7c h (OF X.L.length,DF X.L.length):=fun _=>by rw [hX']
 have e:X'.t=X.t/\X'.side=X.side/\X'.res=X.res/\X'.a0=X.a0/\X'.a1=X.a1/\X'.i0=(XG X own 1).i0/\X'.i1=(XG X own 1).i1:=by rw [hX'];exact ⟨c1,c2,c3,c4,c5,rfl,rfl⟩
 obtain ⟨e1,e2,e3,e4,e5,e6,e7⟩:=e
 rw [e1,e2,e3,e4,e5,e6,e7]
 have hf:=hf true
 refine ⟨by rw [hh];rfl,by rw [hh];rfl,by rw [hh];rfl,by rw [hh];rfl,by rw [hh];rfl,by rw [hh];rfl,by rw [hh];rfl,by rw [hh];rfl,hC,fun i hi _=>⟨fun hi=> ?_,fun h=>h.elim,fun h=>h.elim⟩⟩
 subst hi
 refine ⟨fun hd=> ?_,fun hd=> ?_⟩
 ·have hd:DF X.L.length=false:=by simpa using hd
  have hq:X'.L=OF X.L.length++[h]:=by rw [hf];unfold Z7c;rw [hd];rfl
  rw [hq] at hl⊢
  subst hl
  repeat' apply And.intro
  all_goals first|omega|rfl|exact hR _ _ _|exact hC2 _ _ _|(simp;done)|skip
 ·have hd:DF X.L.length=true:=by simpa using hd
  have hq:X'.L=OF X.L.length:=by rw [hf];unfold Z7c;rw [hd];rfl
  rw [hq] at hl⊢
  subst hl
  repeat' apply And.intro
  all_goals first|omega|rfl|exact hR _ _ _|(simp;done)|skip
structure LD (cs:List AV) (n:Nat) (f:Nat->List AV) (X:Z7):Prop where
 h1:cs=X.c (slH 0 n)
 h2:f=Z4 X.L
 h3:n=X.L.length
def Zem (H:List Int->List Int) (c:Bool):Y8:=fun args h K=>match args with
 | [.agg [_,_,_,_,_,_,_,_,_,_,_,_,.nslice ⟨b,0,70,0,0⟩ 70 _ _],_,_,_,_,_]=>frA [b] h 20 args fun Bs a=>match Bs,a with
  | [.rows 70 n f],[.agg cs,.bool own,.int .i64 id,.int .i64 am,.agg [.arr .u8 32 hash],.int .i64 ex]=>
   ∃X,LD cs n f X/\X.Inv H/\(match c with
    | true=>XA X own id am hash ex=0/\K (.ret (.tuple [.agg ((addX X own id am hash ex).c (slH h.next (X.L.length+1))),.int .i64 0])) ⟨h.next+1,(b,.rows 70 X.L.length (Z4 X.L))::(h.next,.rows 70 (X.L.length+1) (Z4 (addX X own id am hash ex).L))::Ye h.bs b⟩
    | false=>XA X own id am hash ex≠0/\K (.ret (.tuple [.agg (X.c (slH b X.L.length)),.int .i64 (XA X own id am hash ex)])) ⟨h.next,(b,.rows 70 X.L.length (Z4 X.L))::Ye h.bs b⟩)
  | _,_=>False
 | _=>False
theorem Zen (c:Bool) (args:List AV) (h:Z9) (K:KO) (hl:Zem Zr c args h K):Zn PP 34 args h K:=by
 unfold Zem at hl
 split at hl
 ·refine Spec.fsumm hl fun Bs a hlen hK0=> ?_
  split at hK0
  ·rename_i cs n f own id am hash ex
   obtain ⟨X,⟨rfl,rfl,rfl⟩,hI,hK⟩:=hK0
   cases c with
   | true=>
    obtain ⟨he,hK1⟩:=hK
    have hq:=Z5O (Xd X own id am hash ex) X.L ([],false)
    have hlen:=hI.len
    have e:addX X own id am hash ex={ XG X own 1 with L:=Z7c (Xd X own id am hash ex) ((Z0y X (Xd X own id am hash ex) X.L.length).1,(Z0y X (Xd X own id am hash ex) X.L.length).2)}:=by
     have h0:=Z4K (Xd X own id am hash ex) X.L []
     unfold addX Z0y
     rw [if_pos he,List.take_length]
     rw [List.nil_append] at h0
     rw [<-h0]
    have hl2:X.L.length+1=(addX X own id am hash ex).L.length:=by
     unfold addX
     rw [if_pos he]
     exact (Z3n _ _).symm
    have hv:=Zlg X (addX X own id am hash ex) (Xd X own id am hash ex) own X.L.length (X.L.length+1) id am ex hash _ (fun i=>(Z0y X (Xd X own id am hash ex) i).2) (fun i=>(Z0y X (Xd X own id am hash ex) i).1) (show X.L.length<1000/\X.L.length=X.L.length/\(Xd X own id am hash ex).own=own from ⟨hI.am.n,rfl,rfl⟩) rfl hI he rfl e hl2 (by unfold Z0y;rw [List.take_length];simp only [List.length_nil] at hq;omega)
    exact ⟨_,_,_,_,_,.evM (Zej X _ own _) hv,by simp,.ret _ _ rfl,.cons _ _ _ _ _ _ rfl (.rows _ _ _ (fun _ _=>rfl)) (.cons _ _ _ _ _ _ rfl (.rows _ _ _ (fun _ _=>rfl)) .nil),hK1⟩
   | false=>
    obtain ⟨he,hK2⟩:=hK
    have hC:(Za3 X Z8 own X.L.length False fun i=>Z1I X Z8 own X.L.length i false []).Ok:=Zh.withGoM (N:=20) (S:=fun i=>Z1I X Z8 own X.L.length i false []) Za2 (by kernel_rfl) fun h=>h.elim
    exact ⟨_,_,_,_,_,.evM hC (Zlf X own _ id am ex _ hash False rfl hI rfl he),by simp,.ret _ _ rfl,.cons _ _ _ _ _ _ rfl (.rows _ _ _ (fun _ _=>rfl)) .nil,hK2⟩
  ·exact hK0.elim
 ·exact hl.elim
end Go.Tk
end
section
namespace Go.Tk
open IntKind (i64 u8 u32 u64 wrap)
def Z01 (F:List Int->Int×Int) (xs:List Int):Option (Z7×Int×Nat):=
 (rdH xs 0).bind fun a=>(r5 F xs a.2).bind fun b=>(rdH xs b.2).bind fun c=>(rdH xs c.2).bind fun d=>(rdN F xs d.2 1).bind fun e=>(r5 F xs e.2).bind fun f=>(rdN F xs f.2 16).bind fun g=>
 some (⟨⟨a.1,b.1.a,b.1.b,b.1.c,b.1.d,b.1.e,c.1,d.1⟩,e.1,f.1.a,f.1.b,f.1.c,f.1.d,f.1.e,[]⟩,g.1,g.2)
def Xs (F:List Int->Int×Int) (xs:List Int):Option Z7:=
 (Z01 F xs).bind fun h=>(rdL F xs h.2.2 h.2.1.toNat).bind fun l=>if l.2=xs.length then some { h.1 with L:=l.1} else none
theorem Z3F {xs:List Int} (h:∀x∈xs,0<=x/\x<=255):Bytes xs:=⟨fun i=>by
 rw [List.getD_eq_getElem?_getD]
 rcases Nat.lt_or_ge i xs.length with q|q
 ·rw [List.getElem?_eq_getElem q];exact h _ (List.getElem_mem q)
 ·rw [List.getElem?_eq_none q];exact ⟨by decide,by decide⟩⟩
theorem Bytes.take {xs:List Int} (h:Bytes xs) (n:Nat):Bytes (xs.take n):=Z3F fun x hx=>by
 obtain ⟨i,hi,rfl⟩:=List.getElem_of_mem (List.mem_of_mem_take hx)
 have:=h.h i
 rwa [List.getD_eq_getElem?_getD,List.getElem?_eq_getElem hi] at this
theorem Z1u {xs hh:List Int} {o p:Nat} (hb:Bytes xs) (h:rdH xs o=some (hh,p)):hh.length=32/\Bytes hh:=by
 unfold rdH at h
 split at h
 ·cases h
  exact ⟨by rw [List.length_take,List.length_drop];omega,(hb.drop o).take 32⟩
 ·cases h
theorem ZjE {xs:List Int} {o p:Nat} {x:Z6} (hb:Bytes xs) (h:X6 (Zo Zq) xs o=some (x,p)):x.Ok:=by
 unfold X6 at h
 simp only [Option.bind_eq_some_iff] at h
 obtain ⟨a,h1,b,h2,c,h3,d,h4,e,h5,f,h6,g,h7,s,h8,h9⟩:=h
 have k4:=Z1u hb h4
 have k8:s.1.length=32/\Bytes s.1:=by
  unfold Z3i at h8
  split at h8
  ·exact Z1u hb h8
  ·cases h8;exact ⟨rfl,Xw⟩
 cases h9
 exact ⟨k4.1,k4.2,k8.1,k8.2⟩
theorem Za4 {xs:List Int} {o:Nat} (hb:Bytes xs):∀{n:Nat} {L:List Z6} {p:Nat},rdL (Zo Zq) xs o n=some (L,p)->∀x∈L,x.Ok
 | 0,L,p,h,x,hx=>by cases h;cases hx
 | n+1,L,p,h,x,hx=>by
  unfold rdL at h
  simp only [Option.bind_eq_some_iff] at h
  obtain ⟨a,h1,b,h2,h3⟩:=h
  cases h3
  rcases List.mem_append.1 hx with hx|hx
  ·exact Za4 hb h1 x hx
  ·rw [List.mem_singleton] at hx;subst hx;exact ZjE hb h2
def Zeo (ok:Bool) (X:Z7) (n:Nat):KO:=fun o h=>match o with
 | .ret (.tuple [.ptr none,.int .i64 _])=>Z0 ok False (ZX 0 (.ret (.tuple [.ptr none,.int .i64 204])) 0 [] o h)
 | .ret (.tuple [.ptr (some _),.int .i64 _])=>Z0 ok (ZX 0 (.ret (.tuple [.ptr (some ⟨0,0,0,0,0⟩),.int .i64 0])) 2 [(0,.flat (X.c (slH 1 n))),(1,.rows 70 n (Z4 X.L))] o h) False
 | _=>False
theorem Zlh (F:List Int->Int×Int) (H:List Int->List Int) (xs:List Int) (N:Nat) (X:Z7) (n:Nat) (ok:Bool) (hN:xs.length=N) (hB:N<90000000000000) (hb:Bytes xs) (hn:X.L.length=n) (hF:F=Zo Zq) (hok:ok=true->Xs F xs=some X/\YA H X=true) (hno:ok=false->∀Y,Xs F xs=some Y->YA H Y=false):
  evF (ZkI F H) 20 17 [.vints .u8 xs N] ⟨0,[]⟩ (Zeo ok X n):=by
 refine @Eq.mpr _ (let q1:=List.length xs;let q2:=[(0:Int),0];let q3:=Z0 ok False True;let q4:=X.t;
 Z0 (decide (q1=N/\N<90000000000000))
 (Z0 (decide (N=q1-0/\0<=q1/\N=q1-0))
 ((∀(hh:List Int) (o':Nat),
 rdH xs 0=some (hh,o')->
 0<=o'/\o'<=q1/\List.length hh=32->
 ∃(X_1:Z7),
 let q9:=X_1.t;
 ∃(xs_1:List Int),
 let q11:=List.length xs_1;
 ∃(o:Nat),
 xs=xs_1/\
 Z0 (decide (o'=o))
 (Z0 (decide (q1-o'=q11-o))
 (Z0 (decide (q11-o<=q1-o'))
 (hh=q9.fund/\
 Z0 (decide (0=q9.index))
 (Z0 (decide (0=q9.cap))
 (Z0 (decide (0=q9.dust))
 (Z0 (decide (0=q9.fee))
 (Z0 (decide (0=q9.delay))
 (Za=q9.k0/\
 Za=q9.k1/\
 Z0 (decide (0=X_1.side))
 (Z0 (decide (0=X_1.res))
 (q2=[X_1.a0,X_1.a1]/\
 q2=[X_1.i0,X_1.i1]/\
 o<=q11/\
 (∀(n_1:N5),
 let q13:=ZdD X_1 n_1;let q14:=q13.t;
 ∀(q:Nat),
 r5 F xs_1 o=some (n_1,q)->
 q<=q11->
 Z0 (decide (q11-q=q11-q/\q<=q11/\q11-q=q11-q))
 ((∀(hh:List Int) (o':Nat),
 rdH xs_1 q=some (hh,o')->
 q<=o'/\o'<=q11/\List.length hh=32->
 Z0 (decide (q11-o'=q11-o'/\o'<=q11/\q11-o'=q11-o'))
 ((∀(hh_1:List Int) (o'_1:Nat),
 let q17:=rdN F xs_1 o'_1 1;
 rdH xs_1 o'=some (hh_1,o'_1)->
 o'<=o'_1/\o'_1<=q11/\List.length hh_1=32->
 Z0 (decide (q11-o'_1=q11-o'_1/\o'_1<=q11/\q11-o'_1=q11-o'_1/\(0:Int)<=1))
 ((∀(v:Int) (o':Nat),
 q17=some (v,o')->
 o'_1<=o'/\o'<=q11/\v<=1->
 ∃(X_2:Z7),
 let q19:=X_2.t;
 ∃(xs:List Int),
 let q21:=List.length xs;
 ∃(o:Nat),
 xs_1=xs/\
 Z0 (decide (o'=o))
 (Z0 (decide (q11-o'=q21-o))
 (Z0 (decide (q21-o<=q11-o'))
 (q14.fund=q19.fund/\
 Z0 (decide (q14.index=q19.index))
 (Z0 (decide (q14.cap=q19.cap))
 (Z0 (decide (q14.dust=q19.dust))
 (Z0 (decide (q14.fee=q19.fee))
 (Z0 (decide (q14.delay=q19.delay))
 (hh=q19.k0/\
 hh_1=q19.k1/\
 Z0 (decide (v=X_2.side))
 (Z0 (decide (q13.res=X_2.res))
 ([q13.a0,q13.a1]=[X_2.a0,X_2.a1]/\
 [q13.i0,q13.i1]=[X_2.i0,X_2.i1]/\
 o<=q21/\
 (∀(n_2:N5),
 let q23:=ZdE X_2 n_2;let q24:=q23.t;
 ∀(q:Nat),
 let q27:=rdN F xs q 16;
 r5 F xs o=some (n_2,q)->
 q<=q21->
 Z0 (decide (q21-q=q21-q/\q<=q21/\q21-q=q21-q/\(0:Int)<=16))
 ((∀(v:Int) (o':Nat),
 q27=some (v,o')->
 q<=o'/\o'<=q21/\v<=16->
 ∃(X_3:Z7),
 let q29:=X_3.t;let q30:=q29.fund;let q31:=q29.index;let q32:=q29.cap;let q33:=q29.dust;let q34:=q29.fee;let q35:=q29.delay;let q36:=q29.k0;let q37:=q29.k1;let q38:=X_3.side;let q39:=X_3.res;let q40:=[X_3.a0,X_3.a1];let q41:=[X_3.i0,X_3.i1];
 ∃(xs_2:List Int),
 let q55:=List.length xs_2;
 ∃(cnt:Int),
 ∃(o:Nat),
 Z0 (decide (v=cnt))
 (xs=xs_2/\
 Z0 (decide (o'=o))
 (Z0 (decide (q21-o'=q55-o))
 (Z0 (decide (q55-o<=q21-o'))
 (q24.fund=q30/\
 Z0 (decide (q24.index=q31))
 (Z0 (decide (q24.cap=q32))
 (Z0 (decide (q24.dust=q33))
 (Z0 (decide (q24.fee=q34))
 (Z0 (decide (q24.delay=q35))
 (q24.k0=q36/\
 q24.k1=q37/\
 Z0 (decide (q23.side=q38))
 (Z0 (decide (q23.res=q39))
 ([q23.a0,q23.a1]=q40/\
 [q23.i0,q23.i1]=q41/\
 o<=q55/\
 cnt<=16/\
 (∀(n_3:Nat),
 let q57:=decide (n_3=n);
 ∀(L:List Z6) (p:Nat),
 let q59:=q55-p;
 n_3=Int.toNat cnt->
 rdL F xs_2 o n_3=some (L,p)->
 (List.length L=n_3/\p<=q55/\n_3<=16/\∀(x:Z6),x∈L->List.length x.hash=32/\List.length x.secret=32)->
 Z0 (decide (q59=q59))
 (Z0 (decide (q59=0))
 (Z0 (decide (0+n_3<=n_3))
 ((∀(i:Nat),i<n_3->true=true)/\
 ∃(X_4:Z7),LV [AV.arr u8 32 q30,AV.int i64 q31,AV.int i64 q32,AV.int i64 q33,AV.int i64 q34,AV.int i64 q35,AV.arr u8 32 q36,AV.arr u8 32 q37,AV.int i64 q38,AV.int i64 q39,AV.arr i64 2 q40,AV.arr i64 2 q41,AV.vrows 70 n_3 (ZT 0 (Z4 L)) n_3] X_4/\X3.Ok X_4.t/\(∀(h:Z6),List.Mem h X_4.L->Z6.Ok h)/\List.length X_4.L<1000/\Z0 (!YA H X_4) q3 (Z0 ok (q30=q4.fund/\Z0 (decide (q31=q4.index)) (Z0 (decide (q32=q4.cap)) (Z0 (decide (q33=q4.dust)) (Z0 (decide (q34=q4.fee)) (Z0 (decide (q35=q4.delay)) (q36=q4.k0/\q37=q4.k1/\Z0 (decide (q38=X.side)) (Z0 (decide (q39=X.res)) (q40=[X.a0,X.a1]/\q41=[X.i0,X.i1]/\Z0 q57 (Z0 (decide (n<=n_3)) (Z0 q57 (Zc 0 [(1,6),(0,5)] n (Z4 X.L) (Z4 L)/\True) False) False) False) False) False) False) False) False) False) False) False))
 False)
 q3)
 False)/\
 (rdL F xs_2 o (Int.toNat cnt)=none->q3))
 False)
 False)
 False)
 False)
 False)
 False)
 False)
 False)
 False)
 False)
 False)/\
 (q27=none->q3))
 False)/\
 (r5 F xs o=none->q3))
 False)
 False)
 False)
 False)
 False)
 False)
 False)
 False)
 False)
 False)/\
 (q17=none->q3))
 False)/\
 (rdH xs_1 o'=none->q3))
 False)/\
 (rdH xs_1 q=none->q3))
 False)/\
 (r5 F xs_1 o=none->q3))
 False)
 False)
 False)
 False)
 False)
 False)
 False)
 False)
 False)
 False)/\
 (rdH xs 0=none->q3))
 False)
 False) (by kernel_rfl) ?_
 conv=>zeta
 try simp only [Zi]
 try simp only [Zj]
 try simp only [Zf]
 try simp only [Zk]
 try simp only [Zl]
 try simp only [Zg]
 try simp only [Int.toNat_natCast,Nat.zero_add,true_and,and_true,Nat.le_refl]
 have bad:Xs F xs=none->ok=false:=fun h=>Bool.eq_false_iff.2 fun e=>by rw [(hok e).1] at h;cases h
 subst hN
 refine ⟨⟨rfl,hB⟩,⟨by omega,by omega,by omega⟩,fun hh o1 h1 b1=> ?_,fun h1=>bad (by simp [Xs,Z01,h1])⟩
 refine ⟨⟨⟨hh,0,0,0,0,0,Za,Za⟩,0,0,0,0,0,0,[]⟩,xs,o1,rfl,rfl,rfl,Nat.le_refl _,rfl,rfl,rfl,rfl,rfl,rfl,rfl,rfl,rfl,rfl,rfl,rfl,b1.2.1,fun n5 q h2 b2=> ?_,fun h2=>bad (by simp [Xs,Z01,h1,h2])⟩
 refine ⟨b2,fun k0 o2 h3 b3=> ?_,fun h3=>bad (by simp [Xs,Z01,h1,h2,h3])⟩
 refine ⟨b3.2.1,fun k1 o3 h4 b4=> ?_,fun h4=>bad (by simp [Xs,Z01,h1,h2,h3,h4])⟩
 refine ⟨⟨b4.2.1,by omega⟩,fun sd o4 h5 b5=> ?_,fun h5=>bad (by simp [Xs,Z01,h1,h2,h3,h4,h5])⟩
 refine ⟨⟨⟨hh,n5.a,n5.b,n5.c,n5.d,n5.e,k0,k1⟩,sd,0,0,0,0,0,[]⟩,xs,o4,rfl,rfl,rfl,Nat.le_refl _,rfl,rfl,rfl,rfl,rfl,rfl,rfl,rfl,rfl,rfl,rfl,rfl,b5.2.1,fun m5 q2 h6 b6=> ?_,fun h6=>bad (by simp [Xs,Z01,h1,h2,h3,h4,h5,h6])⟩
 refine ⟨⟨b6,by omega⟩,fun cnt o5 h7 b7=> ?_,fun h7=>bad (by simp [Xs,Z01,h1,h2,h3,h4,h5,h6,h7])⟩
 refine ⟨⟨⟨hh,n5.a,n5.b,n5.c,n5.d,n5.e,k0,k1⟩,sd,m5.a,m5.b,m5.c,m5.d,m5.e,[]⟩,xs,cnt,o5,rfl,rfl,rfl,rfl,Nat.le_refl _,rfl,rfl,rfl,rfl,rfl,rfl,rfl,rfl,rfl,rfl,rfl,rfl,b7.2.1,b7.2.2,fun n3 L p en h8 b8=> ?_,fun h8=>bad (by simp [Xs,Z01,h1,h2,h3,h4,h5,h6,h7,h8])⟩
 subst en
 refine ⟨fun hp=> ?_,fun hp=>bad ?_⟩
 rotate_left
 ·have:¬p=xs.length:=by omega
  simp [Xs,Z01,h1,h2,h3,h4,h5,h6,h7,h8,this]
 have hp:p=xs.length:=by omega
 have hr:Xs F xs=some ⟨⟨hh,n5.a,n5.b,n5.c,n5.d,n5.e,k0,k1⟩,sd,m5.a,m5.b,m5.c,m5.d,m5.e,L⟩:=by simp [Xs,Z01,h1,h2,h3,h4,h5,h6,h7,h8,hp]
 subst hF
 have q0:=Z1u hb h3
 have q1:=Z1u hb h4
 refine ⟨fun _ _=>trivial,⟨⟨hh,n5.a,n5.b,n5.c,n5.d,n5.e,k0,k1⟩,sd,m5.a,m5.b,m5.c,m5.d,m5.e,L⟩,.a (by rw [<-b8.1];rfl),⟨q0.1,q1.1,q0.2,q1.2⟩,Za4 hb h8,(show L.length<1000 by omega),fun hR=> ?_,fun hR=> ?_⟩
 ·refine Bool.eq_false_iff.2 fun e=> ?_
  obtain ⟨e1,e2⟩:=hok e
  rw [hr] at e1
  cases e1
  rw [e2] at hR
  cases hR
 ·have e:ok=true:=by
   cases h:ok with
   | true=>rfl
   | false=>
    rw [hno h _ hr] at hR
    cases hR
  obtain ⟨e1,e2⟩:=hok e
  rw [hr] at e1
  cases e1
  subst hn
  repeat' first
   | exact e
   | exact b8.1.symm
   | exact Nat.le_of_eq b8.1
   | apply And.intro
   | rfl
   | exact Zp fun _ _=>rfl
   | omega
theorem ZjF {X:Z7} {n:Nat} {o:Out} {h:Z9} (hk:Zeo true X n o h):ZX 0 (.ret (.tuple [.ptr (some ⟨0,0,0,0,0⟩),.int .i64 0])) 2 [(0,.flat (X.c (slH 1 n))),(1,.rows 70 n (Z4 X.L))] o h:=by
 unfold Zeo at hk
 split at hk
 ·exact hk.elim
 ·exact hk
 ·exact hk.elim
theorem ZjG {X:Z7} {n:Nat} {o:Out} {h:Z9} (hk:Zeo false X n o h):ZX 0 (.ret (.tuple [.ptr none,.int .i64 204])) 0 [] o h:=by
 unfold Zeo at hk
 split at hk
 ·exact hk
 ·exact hk.elim
 ·exact hk.elim
structure Z7f (F:List Int->Int×Int) (H:List Int->List Int) (xs:List Int) (R:Option Z7):Prop where
 h:match R with
  | some X=>Xs F xs=some X/\YA H X=true
  | none=>∀X,Xs F xs=some X->YA H X=false
def Zep (F:List Int->Int×Int) (H:List Int->List Int) (R:Option Z7):Y8:=fun args h K=>frA [] h 20 args fun Bs a=>match Bs,a with
 | [],[.vints .u8 xs N]=>(xs.length=N/\N<90000000000000/\Bytes xs)/\Z7f F H xs R/\(match R with
  | some X=>K (.ret (.tuple [.ptr (some ⟨h.next,0,0,0,0⟩),.int .i64 0])) ⟨h.next+2,(h.next,.flat (X.c (slH (h.next+1) X.L.length)))::(h.next+1,.rows 70 X.L.length (Z4 X.L))::h.bs⟩
  | none=>K (.ret (.tuple [.ptr none,.int .i64 204])) h)
 | _,_=>False
theorem Zeq {R:Option Z7} (args:List AV) (h:Z9) (K:KO) (hl:Zep (Zo Zq) Zr R args h K):Zn PP 17 args h K:=by
 unfold Zep at hl
 refine Spec.fsumm hl fun Bs a hlen hK0=> ?_
 split at hK0
 ·obtain ⟨⟨h1,h2,h3⟩,⟨hR⟩,hK⟩:=hK0
  rename_i xs N
  cases R with
  | some X=>exact ⟨_,_,_,_,_,Spec.evK Z9Q (Zlh _ Zr xs N X X.L.length true h1 h2 h3 rfl rfl (fun _=>hR) (fun h=>by cases h)) (fun o' h' hk=>ZjF hk),Nat.zero_le _,.ret _ _ rfl,.cons _ _ _ _ _ _ rfl (.flat _ _ rfl) (.cons _ _ _ _ _ _ rfl (.rows _ _ _ (fun _ _=>rfl)) .nil),hK⟩
  | none=>exact ⟨_,_,_,_,_,Spec.evK Z9Q (Zlh _ Zr xs N ⟨⟨[],0,0,0,0,0,[],[]⟩,0,0,0,0,0,0,[]⟩ 0 false h1 h2 h3 rfl rfl (fun h=>by cases h) (fun _=>hR)) (fun o' h' hk=>ZjG hk),Nat.zero_le _,.ret _ _ rfl,.nil,hK⟩
 ·exact hK0.elim
end Go.Tk
end
section
namespace Go.Tk
open IntKind (i64 u8 u32 u64 wrap)
structure RS where
 o:Nat
 bad:Bool
def YS (F:List Int->Int×Int) (xs:List Int) (s:RS) (most:Int):Int×RS:=match s.bad with
 | true=>(0,s)
 | false=>match rdN F xs s.o most with
  | some (v,p)=>(v,⟨p,false⟩)
  | none=>(0,⟨s.o,true⟩)
def W6 (xs:List Int) (s:RS):List Int×RS:=match s.bad with
 | true=>(Za,s)
 | false=>match rdH xs s.o with
  | some (v,p)=>(v,⟨p,false⟩)
  | none=>(Za,⟨s.o,true⟩)
def Za5 (F:List Int->Int×Int):ZK:=fun args _ K=>match args with
 | [.agg [.vints .u8 ys n,.bool b],.int .i64 most]=>∃xs s,ys=List.drop (RS.o s) xs/\(n=xs.length-s.o/\b=s.bad/\s.o<=xs.length/\Bytes xs/\0<=most)/\
   ∀v t,YS F xs s most=(v,t)->t.o<=xs.length->K (.tuple [.agg [.vints .u8 (xs.drop t.o) (xs.length-t.o),.bool t.bad],.int .i64 v])
 | _=>False
def Z5P:ZK:=fun args _ K=>match args with
 | [.agg [.vints .u8 ys n,.bool b]]=>∃xs s,ys=List.drop (RS.o s) xs/\(n=xs.length-s.o/\b=s.bad/\s.o<=xs.length)/\
   ∀v t,W6 xs s=(v,t)->t.o<=xs.length->K (.tuple [.agg [.vints .u8 (xs.drop t.o) (xs.length-t.o),.bool t.bad],.agg [.arr .u8 32 v]])
 | _=>False
theorem Zbw {most v:Int} {K:Int->Prop} (h:K v):small most v K:=by
 unfold small
 split
 ·rename_i hd
  generalize most.toNat=m
  induction m with
  | zero=>exact fun e=>e▸h
  | succ m ih=>exact ⟨ih,fun e=>e▸h⟩
 ·exact h
theorem Z7g (args:List AV) (h:Z9) (K:AV->Prop) (hl:Za5 (Zo Zq) args h K):Zn PP 121 args h fun o h'=>∃v,o=.ret v/\h'=h/\K v:=by
 unfold Za5 at hl
 split at hl
 ·obtain ⟨xs,⟨o,c⟩,rfl,⟨rfl,e,h1,h2,h3⟩,hK⟩:=hl
  unfold YS at hK
  cases c with
  | true=>subst e;exact Z35 _ h K (hK _ _ rfl h1)
  | false=>
   subst e
   refine Z35 _ h K ⟨xs,o,rfl,⟨rfl,h1,h2,h3⟩,fun v p he hb=>Zbw (hK v ⟨p,false⟩ (by simp only [he]) hb.2.1),fun he=>hK 0 ⟨o,true⟩ (by simp only [he]) h1⟩
 ·exact hl.elim
theorem Z4L (args:List AV) (h:Z9) (K:AV->Prop) (hl:Z5P args h K):Zn PP 120 args h fun o h'=>∃v,o=.ret v/\h'=h/\K v:=by
 unfold Z5P at hl
 split at hl
 ·obtain ⟨xs,⟨o,c⟩,rfl,⟨rfl,e,h1⟩,hK⟩:=hl
  unfold W6 at hK
  cases c with
  | true=>subst e;exact Z0V _ h K (hK _ _ rfl h1)
  | false=>
   subst e
   refine Z0V _ h K ⟨xs,o,rfl,⟨rfl,h1⟩,fun v p he hb=>hK v ⟨p,false⟩ (by simp only [he]) hb.2.1,fun he=>hK Za ⟨o,true⟩ (by simp only [he]) h1⟩
 ·exact hl.elim
noncomputable def Z7h (F:List Int->Int×Int):Zh:=((G0.withP 121 (Za5 F)).withP 120 Z5P).withP 122 (Zg0 F)
theorem ZgS:(Z7h (Zo Zq)).Ok:=Zh.withP_ok (Zh.withP_ok (Zh.withP_ok Zu Z7g) Z4L) Z9M
end Go.Tk
end
section
namespace Go.Tk
open IntKind (i64 u8 u32 u64 wrap)
def tkT (l:Yd):Yd:=l++[(5,.ptr (some ⟨5,0,0,0,0⟩)),(4,.ptr (some ⟨4,0,0,0,0⟩)),(3,.ptr (some ⟨3,0,0,0,0⟩)),(2,.ptr (some ⟨2,0,0,0,0⟩))]
def tkH (X:Z7) (r:AV) (b:Bool) (l:AV) (bs:List (Nat×Blk)):List (Nat×Blk):=[(0,.flat (Y2.c .nilslice)),(2,.flat [.nilslice,.bool false]),(3,.flat (Y2.c .nilslice)),(4,.flat [r,.bool b]),(5,.flat (X.c l))]++bs
def tkS (X:Z7) (cnt:Int) (i:Nat) (L:List Z6) (ys:List Int) (m:Nat) (b:Bool):St:=⟨143,tkT [(8,.int .i64 i),(7,.int .i64 cnt)],⟨7,tkH X (.vints .u8 ys m) b (.nslice ⟨6,0,70,0,0⟩ 70 i i) [(6,.rows 70 i (Z4 L))]⟩,[]⟩
def tkE (X:Z7) (i:Nat) (L:List Z6) (ys:List Int) (m:Nat):St:=⟨143,tkT [],⟨7,tkH X (.vints .u8 ys m) false (.nslice ⟨6,0,70,0,0⟩ 70 i i) [(6,.rows 70 i (Z4 L))]⟩,[]⟩
def tkB (X:Z7) (cnt:Int) (i:Nat):St:=⟨143,tkT [(8,.int .i64 i),(7,.int .i64 cnt)],⟨6,tkH X .top true .top []⟩,[]⟩
def ZgT (X:Z7):St:=⟨143,tkT [],⟨6,tkH X .top true .top []⟩,[]⟩
def tkN:St:=⟨143,[],⟨0,[]⟩,[]⟩
theorem Znp (F:List Int->Int×Int) (X:Z7) (xs:List Int) (cnt:Int) (i o p:Nat) (L:List Z6) (x:Z6) (Z1 Z2:Prop) (ho:o<=xs.length) (hb:Bytes xs) (hi:i<=16/\cnt<=16) (hL:L.length=i) (h2:¬(i:Int)<cnt->Z2) (hx:(i:Int)<cnt->X6 F xs o=some (x,p)) (h1:(i:Int)<cnt->Z1):
  ZB (Z7h F) 20 59 0 1 (tkS X cnt i L (xs.drop o) (xs.length-o) false) (rdP 1 0 9 pvL (tkS X cnt (i+1) (L++[x]) (xs.drop p) (xs.length-p) false) (tkE X i L (xs.drop o) (xs.length-o)) tkN tkN tkN Z1 Z2 False False False):=by
 refine @Eq.mpr _ (let q1:=List.drop o xs;let q2:=List.length xs-o;let q3:=decide (i=i);let q4:=i+1;let q5:=decide (q4*112<=140737488355328);let q6:=decide (wrap i64 (↑i+1)=↑q4);let q7:=decide (cnt=cnt);let q8:=Y2.t;let q9:=q8.fund;let q10:=q9=q9;let q11:=q8.k0;let q12:=q11=q11;let q13:=q8.k1;let q14:=q13=q13;let q15:=[Y2.a0,Y2.a1];let q16:=q15=q15;let q17:=[Y2.i0,Y2.i1];let q18:=q17=q17;let q19:=List.length xs-p;let q20:=X.t;let q21:=q20.fund;let q22:=q21=q21;let q23:=q20.index;let q24:=decide (q23=q23);let q25:=q20.cap;let q26:=decide (q25=q25);let q27:=q20.dust;let q28:=decide (q27=q27);let q29:=q20.fee;let q30:=decide (q29=q29);let q31:=q20.delay;let q32:=decide (q31=q31);let q33:=q20.k0;let q34:=q33=q33;let q35:=q20.k1;let q36:=q35=q35;let q37:=decide (X.side=X.side);let q38:=decide (X.res=X.res);let q39:=[X.a0,X.a1];let q40:=q39=q39;let q41:=[X.i0,X.i1];let q42:=q41=q41;let q43:=decide (q4=q4);let q44:=[(2,2),(3,3),(4,4),(5,5)];let q45:=Z4 L;
 Z0 (decide (↑i<cnt))
 (∃(xs_1:List Int),
 let q91:=List.length xs_1;
 ∃(o:Nat),
 q1=List.drop o xs_1/\
 (q2=q91-o/\o<=q91/\Bytes xs_1)/\
 (∀(x_1:Z6) (p_1:Nat),
 let q93:=List.drop p_1 xs_1;let q94:=q93=q93;let q95:=q91-p_1;let q96:=decide (q95=q95);
 X6 F xs_1 o=some (x_1,p_1)->Z0 q3 (Z0 q3 (q94/\Z0 q96 (Z0 q3 (Z0 q5 (q94/\Z0 q96 (Z0 q6 (Z0 q7 (q10/\q12/\q14/\q16/\q18/\q10/\q12/\q14/\q16/\q18/\q93=List.drop p xs/\Z0 (decide (q95=q19)) (q22/\Z0 q24 (Z0 q26 (Z0 q28 (Z0 q30 (Z0 q32 (q34/\q36/\Z0 q37 (Z0 q38 (q40/\q42/\Z0 q43 (Z0 (decide (q4<=q4)) (Z0 q43 (Zc 1 ((6,10)::q44) q4 (Z4 (L++[x])) (ZZ i q45 (YG [AV.bool x_1.own,AV.int i64 x_1.id,AV.int i64 x_1.amount,AV.arr u8 32 x_1.hash,AV.int i64 x_1.expiry,AV.int i64 x_1.stage,AV.int i64 x_1.fin,AV.arr u8 32 x_1.secret] 0 70))/\Z1) False) False) False) False) False) False) False) False) False) False) False) False) False) False) False) False) False) False) False)/\
 (X6 F xs_1 o=none->
 ∀(ys:List Int) (n:Nat),
 let q93:=decide (n=n);
 ∀(x:Z6),Z0 q3 (Z0 q3 (ys=ys/\Z0 q93 (Z0 q3 (Z0 q5 (ys=ys/\Z0 q93 (Z0 q6 (Z0 q7 (q10/\q12/\q14/\q16/\q18/\q10/\q12/\q14/\q16/\q18/\ys=List.drop p xs/\Z0 (decide (n=q19)) False False) False) False) False) False) False) False) False) False))
 (q10/\q12/\q14/\q16/\q18/\q10/\q12/\q14/\q16/\q18/\q1=q1/\Z0 (decide (q2=q2)) (q22/\Z0 q24 (Z0 q26 (Z0 q28 (Z0 q30 (Z0 q32 (q34/\q36/\Z0 q37 (Z0 q38 (q40/\q42/\Z0 q3 (Z0 (decide (i<=i)) (Z0 q3 (Zc 1 ((6,6)::q44) i q45 q45/\Z2) False) False) False) False) False) False) False) False) False) False) False)) (by kernel_rfl) ?_
 conv=>zeta
 try simp only [Zi]
 try simp only [Zj]
 try simp only [Zf]
 try simp only [Zk]
 try simp only [Zl]
 try simp only [Zg]
 try simp only [Int.toNat_natCast,Nat.zero_add,true_and,and_true,Nat.le_refl]
 have hself:∀τ,Zc 1 τ i (Z4 L) (Z4 L):=fun _=>Zp fun _ _=>rfl
 refine ⟨fun hlt=>⟨xs,o,rfl,⟨rfl,ho,hb⟩,fun x' p' hp=> ?_,fun hn=>(by rw [hx hlt] at hn;cases hn)⟩,fun hge=>by simp [hself,h2 hge]⟩
 rw [hx hlt] at hp
 simp only [Option.some.injEq,Prod.mk.injEq] at hp
 obtain ⟨rfl,rfl⟩:=hp
 have hw:i64.wrap ((i:Int)+1)=((i+1:Nat):Int):=w64 (by omega)
 have h1:=h1 hlt
 rw [hw]
 and_intros<;>first|trivial|rfl|omega|exact h1|skip
 exact Zp fun q hq=>Yk hL (fun _ _=>rfl) hq
theorem Znq (F:List Int->Int×Int) (X:Z7) (xs:List Int) (cnt:Int) (i o:Nat) (L:List Z6) (Z1 Z2:Prop) (ho:o<=xs.length) (hb:Bytes xs) (hi:i<=16/\cnt<=16) (hL:L.length=i) (h2:¬(i:Int)<cnt->Z2) (hx:(i:Int)<cnt->X6 F xs o=none) (h1:(i:Int)<cnt->Z1):
  ZB (Z7h F) 20 59 0 1 (tkS X cnt i L (xs.drop o) (xs.length-o) false) (rdP 1 0 9 pvL (tkB X cnt (i+1)) (tkE X i L (xs.drop o) (xs.length-o)) tkN tkN tkN Z1 Z2 False False False):=by
 refine @Eq.mpr _ (let q1:=List.drop o xs;let q2:=List.length xs-o;let q3:=decide (i=i);let q4:=decide ((i+1)*112<=140737488355328);let q5:=decide (wrap i64 (↑i+1)=↑(i+1));let q6:=decide (cnt=cnt);let q7:=Y2.t;let q8:=q7.fund;let q9:=q8=q8;let q10:=q7.k0;let q11:=q10=q10;let q12:=q7.k1;let q13:=q12=q12;let q14:=[Y2.a0,Y2.a1];let q15:=q14=q14;let q16:=[Y2.i0,Y2.i1];let q17:=q16=q16;let q18:=X.t;let q19:=q18.fund;let q20:=q19=q19;let q21:=q18.index;let q22:=decide (q21=q21);let q23:=q18.cap;let q24:=decide (q23=q23);let q25:=q18.dust;let q26:=decide (q25=q25);let q27:=q18.fee;let q28:=decide (q27=q27);let q29:=q18.delay;let q30:=decide (q29=q29);let q31:=q18.k0;let q32:=q31=q31;let q33:=q18.k1;let q34:=q33=q33;let q35:=decide (X.side=X.side);let q36:=decide (X.res=X.res);let q37:=[X.a0,X.a1];let q38:=q37=q37;let q39:=[X.i0,X.i1];let q40:=q39=q39;
 Z0 (decide (↑i<cnt))
 (∃(xs:List Int),
 let q81:=List.length xs;
 ∃(o:Nat),
 q1=List.drop o xs/\
 (q2=q81-o/\o<=q81/\Bytes xs)/\
 (∀(x:Z6) (p:Nat),
 let q83:=List.drop p xs=List.drop p xs;let q84:=decide (q81-p=q81-p);
 X6 F xs o=some (x,p)->Z0 q3 (Z0 q3 (q83/\Z0 q84 (Z0 q3 (Z0 q4 (q83/\Z0 q84 (Z0 q5 (Z0 q6 (q9/\q11/\q13/\q15/\q17/\q9/\q11/\q13/\q15/\q17/\False) False) False) False) False) False) False) False) False)/\
 (X6 F xs o=none->
 ∀(ys:List Int) (n:Nat),
 let q83:=decide (n=n);
 ∀(x:Z6),Z0 q3 (Z0 q3 (ys=ys/\Z0 q83 (Z0 q3 (Z0 q4 (ys=ys/\Z0 q83 (Z0 q5 (Z0 q6 (q9/\q11/\q13/\q15/\q17/\q9/\q11/\q13/\q15/\q17/\q20/\Z0 q22 (Z0 q24 (Z0 q26 (Z0 q28 (Z0 q30 (q32/\q34/\Z0 q35 (Z0 q36 (q38/\q40/\Z1) False) False) False) False) False) False) False) False) False) False) False) False) False) False) False))
 (q9/\q11/\q13/\q15/\q17/\q9/\q11/\q13/\q15/\q17/\q1=q1/\Z0 (decide (q2=q2)) (q20/\Z0 q22 (Z0 q24 (Z0 q26 (Z0 q28 (Z0 q30 (q32/\q34/\Z0 q35 (Z0 q36 (q38/\q40/\Z0 q3 (Z0 (decide (i<=i)) (Z0 q3 (Zc 1 [(6,6),(2,2),(3,3),(4,4),(5,5)] i (Z4 L) (Z4 L)/\Z2) False) False) False) False) False) False) False) False) False) False) False)) (by kernel_rfl) ?_
 conv=>zeta
 try simp only [Zi]
 try simp only [Zj]
 try simp only [Zf]
 try simp only [Zk]
 try simp only [Zl]
 try simp only [Zg]
 try simp only [Int.toNat_natCast,Nat.zero_add,true_and,and_true,Nat.le_refl]
 have hself:∀τ,Zc 1 τ i (Z4 L) (Z4 L):=fun _=>Zp fun _ _=>rfl
 refine ⟨fun hlt=>⟨xs,o,rfl,⟨rfl,ho,hb⟩,fun x' p' hp=>(by rw [hx hlt] at hp;cases hp),fun hn ys n x=> ?_⟩,fun hge=>by simp [hself,h2 hge]⟩
 have hw:i64.wrap ((i:Int)+1)=((i+1:Nat):Int):=w64 (by omega)
 have h1:=h1 hlt
 rw [hw]
 and_intros<;>first|trivial|rfl|omega|exact h1
theorem Znr (F:List Int->Int×Int) (X:Z7) (cnt:Int) (i:Nat) (Z1 Z2:Prop) (h2:Z2):
  ZB (Z7h F) 20 59 0 1 (tkB X cnt i) (rdP 1 0 9 pvL (tkB X cnt (i+1)) (ZgT X) tkN tkN tkN Z1 Z2 False False False):=by
 refine @Eq.mpr _ (let q1:=Y2.t;let q2:=q1.fund;let q3:=q2=q2;let q4:=q1.k0;let q5:=q4=q4;let q6:=q1.k1;let q7:=q6=q6;let q8:=[Y2.a0,Y2.a1];let q9:=q8=q8;let q10:=[Y2.i0,Y2.i1];let q11:=q10=q10;let q12:=X.t;let q13:=q12.fund;let q14:=q12.index;let q15:=q12.cap;let q16:=q12.dust;let q17:=q12.fee;let q18:=q12.delay;let q19:=q12.k0;let q20:=q12.k1;let q21:=[X.a0,X.a1];let q22:=[X.i0,X.i1];let q23:=q3/\q5/\q7/\q9/\q11/\q3/\q5/\q7/\q9/\q11/\q13=q13/\Z0 (decide (q14=q14)) (Z0 (decide (q15=q15)) (Z0 (decide (q16=q16)) (Z0 (decide (q17=q17)) (Z0 (decide (q18=q18)) (q19=q19/\q20=q20/\Z0 (decide (X.side=X.side)) (Z0 (decide (X.res=X.res)) (q21=q21/\q22=q22/\Z2) False) False) False) False) False) False) False;
 Z0 (decide (↑i<cnt)) q23 q23) (by kernel_rfl) ?_
 conv=>zeta
 try simp only [Zi]
 try simp only [Zj]
 try simp only [Zf]
 try simp only [Zk]
 try simp only [Zl]
 try simp only [Zg]
 try simp only [Int.toNat_natCast,Nat.zero_add,true_and,and_true,Nat.le_refl]
 repeat' first|exact h2|intro _|apply And.intro|rfl|trivial
theorem Zli (F:List Int->Int×Int) (X:Z7) (cnt:Int) (ys:List Int) (m:Nat) (Z1 Z2:Prop) (h2:Z2):
  ZB (Z7h F) 20 59 0 1 (tkS X cnt 0 [] ys m true) (rdP 1 0 9 pvL (tkB X cnt 1) (ZgT X) tkN tkN tkN Z1 Z2 False False False):=by
 refine @Eq.mpr _ (let q1:=Y2.t;let q2:=q1.fund;let q3:=q2=q2;let q4:=q1.k0;let q5:=q4=q4;let q6:=q1.k1;let q7:=q6=q6;let q8:=[Y2.a0,Y2.a1];let q9:=q8=q8;let q10:=[Y2.i0,Y2.i1];let q11:=q10=q10;let q12:=X.t;let q13:=q12.fund;let q14:=q12.index;let q15:=q12.cap;let q16:=q12.dust;let q17:=q12.fee;let q18:=q12.delay;let q19:=q12.k0;let q20:=q12.k1;let q21:=[X.a0,X.a1];let q22:=[X.i0,X.i1];let q23:=q3/\q5/\q7/\q9/\q11/\q3/\q5/\q7/\q9/\q11/\q13=q13/\Z0 (decide (q14=q14)) (Z0 (decide (q15=q15)) (Z0 (decide (q16=q16)) (Z0 (decide (q17=q17)) (Z0 (decide (q18=q18)) (q19=q19/\q20=q20/\Z0 (decide (X.side=X.side)) (Z0 (decide (X.res=X.res)) (q21=q21/\q22=q22/\Z2) False) False) False) False) False) False) False;
 Z0 (decide (0<cnt)) q23 q23) (by kernel_rfl) ?_
 conv=>zeta
 try simp only [Zi]
 try simp only [Zj]
 try simp only [Zf]
 try simp only [Zk]
 try simp only [Zl]
 try simp only [Zg]
 try simp only [Int.toNat_natCast,Nat.zero_add,true_and,and_true,Nat.le_refl]
 repeat' first|exact h2|intro _|apply And.intro|rfl|trivial
end Go.Tk
end
section
namespace Go.Tk
open IntKind (i64 u8 u32 u64 wrap)
def lo7 (F:List Int->Int×Int) (S:Z7->Int->Nat->List Z6->List Int->Nat->Bool->St) (E:Z7->Nat->List Z6->List Int->Nat->St) (B:Z7->St):Nat->St->KE->Prop:=fun k s Z=>match Nat.beq k 1 with
 | true=>∃(X:Z7) (xs:List Int) (cnt:Int) (t:RS),W4 1 (S X cnt 0 [] (xs.drop t.o) (xs.length-t.o) t.bad) s (t.o<=xs.length/\Bytes xs/\cnt<=16/\
   (∀(n:Nat) L p,n=cnt.toNat->t.bad=false->rdL F xs t.o n=some (L,p)->(L.length=n/\p<=xs.length/\n<=16/\∀x∈L,x.Ok)->Z (.exit 0) (E X n L (xs.drop p) (xs.length-p)))/\(t.bad=true\/rdL F xs t.o cnt.toNat=none->Z (.exit 0) (B X)))
 | false=>False
open Classical in
theorem ZjH {G:Zh} (hG:G.Ok) {S:Z7->Int->Nat->List Z6->List Int->Nat->Bool->St} {E:Z7->Nat->List Z6->List Int->Nat->St} {Bs:Z7->Int->Nat->St} {B:Z7->St} {N:St} (h1:Wg G.P 59 0=true)
  (hg:∀{X:Z7} {xs:List Int} {cnt:Int} {i o p:Nat} {L:List Z6} {x:Z6} {Z1 Z2:Prop},o<=xs.length->Bytes xs->i<=16/\cnt<=16->L.length=i->(¬(i:Int)<cnt->Z2)->((i:Int)<cnt->X6 (Zo Zq) xs o=some (x,p))->((i:Int)<cnt->Z1)->ZB G 20 59 0 1 (S X cnt i L (xs.drop o) (xs.length-o) false) (rdP 1 0 9 pvL (S X cnt (i+1) (L++[x]) (xs.drop p) (xs.length-p) false) (E X i L (xs.drop o) (xs.length-o)) N N N Z1 Z2 False False False))
  (hb:∀{X:Z7} {xs:List Int} {cnt:Int} {i o:Nat} {L:List Z6} {Z1 Z2:Prop},o<=xs.length->Bytes xs->i<=16/\cnt<=16->L.length=i->(¬(i:Int)<cnt->Z2)->((i:Int)<cnt->X6 (Zo Zq) xs o=none)->((i:Int)<cnt->Z1)->ZB G 20 59 0 1 (S X cnt i L (xs.drop o) (xs.length-o) false) (rdP 1 0 9 pvL (Bs X cnt (i+1)) (E X i L (xs.drop o) (xs.length-o)) N N N Z1 Z2 False False False))
  (hx:∀{X:Z7} {cnt:Int} {i:Nat} {Z1 Z2:Prop},Z2->ZB G 20 59 0 1 (Bs X cnt i) (rdP 1 0 9 pvL (Bs X cnt (i+1)) (B X) N N N Z1 Z2 False False False))
  (hx0:∀{X:Z7} {cnt:Int} {ys:List Int} {m:Nat} {Z1 Z2:Prop},Z2->ZB G 20 59 0 1 (S X cnt 0 [] ys m true) (rdP 1 0 9 pvL (Bs X cnt 1) (B X) N N N Z1 Z2 False False False)):
  (G.withL 59 0 (lo7 (Zo Zq) S E B)).Ok:=by
 refine Zh.withGoX (N:=20) (l:=9) (pv:=pvL) hG rfl h1 fun k s Z hs=> ?_
 unfold lo7 at hs
 split at hs
 ·rename_i hk
  have:=Nat.eq_of_beq_eq_true hk
  subst this
  obtain ⟨X,xs,cnt,⟨o,c⟩,hs⟩:=hs
  obtain ⟨⟨ho,hby,hc,k1,k2⟩,hw⟩:=YI hs
  cases c with
  | true=>
   refine ⟨0,fun i=>match i with|0=>S X cnt 0 [] (xs.drop o) (xs.length-o) true|_=>Bs X cnt i,fun _=>B X,fun _=>N,fun _=>N,fun _=>N,fun _=>False,fun _=>True,fun _=>False,fun _=>False,fun _=>False,hw,fun i hi hgo=> ?_, ?_⟩
   ·match i,hi with
    | 0,_=>exact hx0 trivial
   intro i hi hgo
   exact ⟨fun _=>k2 (.inl rfl),fun h=>h.elim,fun h=>h.elim,fun h=>h.elim⟩
  | false=>
   let Gi:Nat->Prop:=fun i=>∀j,j<i->goH (Zo Zq) xs o j
   have e0:Gi 0:=fun j hj=>absurd hj (Nat.not_lt_zero _)
   refine ⟨cnt.toNat,fun i=>if Gi i then S X cnt i (stL (Zo Zq) xs o i).1 (xs.drop (stL (Zo Zq) xs o i).2) (xs.length-(stL (Zo Zq) xs o i).2) false else Bs X cnt i,fun i=>if Gi i then E X i (stL (Zo Zq) xs o i).1 (xs.drop (stL (Zo Zq) xs o i).2) (xs.length-(stL (Zo Zq) xs o i).2) else B X,fun _=>N,fun _=>N,fun _=>N,fun i=>(i:Int)<cnt/\Gi i,fun i=>¬((i:Int)<cnt/\Gi i),fun _=>False,fun _=>False,fun _=>False,by dsimp only;rw [if_pos e0];exact hw,fun i hi hgo=> ?_, ?_⟩
   ·dsimp only
    by_cases hG:Gi i
    ·rw [if_pos hG,if_pos hG]
     obtain ⟨i1,i2,i3⟩:=Z3l ho i hG
     by_cases hh:goH (Zo Zq) xs o i
     ·have hG1:Gi (i+1):=fun j hj=>by
       by_cases e:j=i
       ·rw [e];exact hh
       ·exact hG j (by omega)
      rw [if_pos hG1]
      cases hr:X6 (Zo Zq) xs (stL (Zo Zq) xs o i).2 with
      | none=>unfold goH at hh;rw [hr] at hh;cases hh
      | some xp=>
       rw [Z6U (x:=xp.1) (p:=xp.2) hr]
       exact hg i2 hby ⟨by omega,hc⟩ i1 (fun h h2=>h h2.1) (fun _=>hr) (fun hlt=>⟨⟨hlt,hG⟩,by omega⟩)
     ·have hG1:¬Gi (i+1):=fun h=>hh (h i (Nat.lt_succ_self _))
      rw [if_neg hG1]
      have hr:X6 (Zo Zq) xs (stL (Zo Zq) xs o i).2=none:=by
       cases hr:X6 (Zo Zq) xs (stL (Zo Zq) xs o i).2 with
       | none=>rfl
       | some xp=>exact absurd (show goH (Zo Zq) xs o i by unfold goH;simp only [hr,Option.isSome_some]) hh
      exact hb i2 hby ⟨by omega,hc⟩ i1 (fun h h2=>h h2.1) (fun _=>hr) (fun hlt=>⟨⟨hlt,hG⟩,by omega⟩)
    ·have hG1:¬Gi (i+1):=fun h=>hG fun j hj=>h j (by omega)
     rw [if_neg hG,if_neg hG,if_neg hG1]
     exact hx fun h=>hG h.2
   ·intro i hi hgo
    refine ⟨fun h=> ?_,fun h=>h.elim,fun h=>h.elim,fun h=>h.elim⟩
    dsimp only
    by_cases hG:Gi i
    ·rw [if_pos hG]
     have e:i=cnt.toNat:=by
      have:¬(i:Int)<cnt:=fun h2=>h ⟨h2,hG⟩
      omega
     obtain ⟨i1,i2,i3⟩:=Z3l ho i hG
     exact k1 i _ _ e rfl (Z3k hG) ⟨i1,i2,by omega,Za4 hby (Z3k hG)⟩
    ·rw [if_neg hG]
     cases i with
     | zero=>exact absurd e0 hG
     | succ j=>
      have hj:=hgo j (Nat.lt_succ_self _)
      have hr:X6 (Zo Zq) xs (stL (Zo Zq) xs o j).2=none:=by
       cases hr:X6 (Zo Zq) xs (stL (Zo Zq) xs o j).2 with
       | none=>rfl
       | some xp=>
        refine absurd (fun q hq=> ?_) hG
        by_cases e:q=j
        ·rw [e];unfold goH;simp only [hr,Option.isSome_some]
        ·exact hj.2 q (by omega)
      exact k2 (.inr (ZdG hj.2 hr (by omega)))
 ·exact hs.elim
noncomputable def Zns (F:List Int->Int×Int):Zh:=(Z7h F).withL 59 0 (lo7 F tkS tkE ZgT)
theorem ZgU:(Zns (Zo Zq)).Ok:=ZjH (Bs:=tkB) (N:=tkN) ZgS (by kernel_rfl) (fun h1 h2 h3 h4 h5 h6 h7=>Znp _ _ _ _ _ _ _ _ _ _ _ h1 h2 h3 h4 h5 h6 h7) (fun h1 h2 h3 h4 h5 h6 h7=>Znq _ _ _ _ _ _ _ _ _ h1 h2 h3 h4 h5 h6 h7) (fun h=>Znr _ _ _ _ _ _ h) (fun h=>Zli _ _ _ _ _ _ _ h)
end Go.Tk
end
section
namespace Go.Tk
open IntKind (i64 u8 u32 u64 wrap)
noncomputable def ZjI (H1:List Int->List Int) (B:Nat):Zh:=(G0.withP 154 Zlc).withP 102 (Z9A H1 B)
theorem Za6:(ZjI W2 1000).Ok:=Zh.withP_ok (Zh.withP_ok Zu ZgP) (Z3a fun xs h=>Z0Z xs (by omega))
theorem Zlj (X:Z7) (n:Nat) (own:Bool) (id k e:Int) (sec:List Int) (H1:List Int->List Int) (B:Nat) (hn:X.L.length=n) (hlen:X.L.length<1000) (hOk:∀h∈X.L,h.Ok) (hsec:sec.length=32) (hl:(H1 sec).length=32) (hB:32<=B) (he:e=Xb H1 X own id k sec) (hne:e≠0):
  evF (ZjI H1 B) 20 103 [.agg (X.c (slH 0 n)),.bool own,.int .i64 id,.int .i64 k,.agg [.arr .u8 32 sec]] ⟨1,[(0,.rows 70 n (Z4 X.L))]⟩ (ZX 1 (.ret (.tuple [.agg (X.c (slH 0 n)),.int .i64 e])) 1 [(0,.rows 70 n (Z4 X.L))]):=by
 refine @Eq.mpr _ (let q1:=0+n;let q2:=decide (q1<=n);let q3:=X.t;let q4:=q3.fund;let q5:=q3.index;let q6:=q3.cap;let q7:=q3.dust;let q8:=q3.fee;let q9:=q3.delay;let q10:=q3.k0;let q11:=q3.k1;let q12:=X.side;let q13:=X.res;let q14:=[X.a0,X.a1];let q15:=[X.i0,X.i1];let q16:=Z4 X.L;let q17:=q4=q4;let q18:=decide (q5=q5);let q19:=decide (q6=q6);let q20:=decide (q7=q7);let q21:=decide (q8=q8);let q22:=decide (q9=q9);let q23:=q10=q10;let q24:=q11=q11;let q25:=decide (q12=q12);let q26:=decide (q13=q13);let q27:=q14=q14;let q28:=q15=q15;let q29:=decide (n=n);let q30:=decide (n<=n);let q31:=Z0 q29 (Zc 1 [] n q16 q16/\True) False;let q32:=List.length sec;let q33:=decide (q1*112<=140737488355328);let q34:=q17/\Z0 q18 (Z0 q19 (Z0 q20 (Z0 q21 (Z0 q22 (q23/\q24/\Z0 q25 (Z0 q26 (q27/\q28/\False) False) False) False) False) False) False) False;
 Z0 q2
 ((∀(i:Nat),i<n->true=true)/\
 ∃(X_1:Z7),
 let q69:=fiV own id X_1.L;let q70:=decide (0<=q69/\q69< ↑n);let q71:=0+Int.toNat q69;let q72:=List.getD X.L q71 Z8;let q73:=q72.hash;let q74:=decide (0<=q69/\q69< ↑q1);
 LV [AV.arr u8 32 q4,AV.int i64 q5,AV.int i64 q6,AV.int i64 q7,AV.int i64 q8,AV.int i64 q9,AV.arr u8 32 q10,AV.arr u8 32 q11,AV.int i64 q12,AV.int i64 q13,AV.arr i64 2 q14,AV.arr i64 2 q15,AV.vrows 70 n (ZT 0 q16) n] X_1/\
 List.length X_1.L<1000/\
 Z0 (decide (q69<0)) (q17/\Z0 q18 (Z0 q19 (Z0 q20 (Z0 q21 (Z0 q22 (q23/\q24/\Z0 q25 (Z0 q26 (q27/\q28/\Z0 q29 (Z0 q30 (Z0 (decide (5=e)) q31 False) False) False) False) False) False) False) False) False) False)
 (Z0 q70
 (Z0 (decide (q71<n))
 (Z0 (q72.stage !=5) (q17/\Z0 q18 (Z0 q19 (Z0 q20 (Z0 q21 (Z0 q22 (q23/\q24/\Z0 q25 (Z0 q26 (q27/\q28/\Z0 q29 (Z0 q30 (Z0 (decide (190=e)) q31 False) False) False) False) False) False) False) False) False) False)
 (Z0 (k==1) (Z0 q70 (Z0 (decide (q71<n)) (Z0 (decide (q32=32)) (Z0 (decide (32=q32)) (Z0 (decide (q32<=B)) (Z0 (decide (List.length (H1 sec)=32/\List.length q73=32)) (Z0 (!H1 sec==q73) (q17/\Z0 q18 (Z0 q19 (Z0 q20 (Z0 q21 (Z0 q22 (q23/\q24/\Z0 q25 (Z0 q26 (q27/\q28/\Z0 q29 (Z0 q30 (Z0 (decide (203=e)) q31 False) False) False) False) False) False) False) False) False) False) (Z0 q2 (Z0 q33 (Z0 q74 (Z0 (decide (q71<q1)) (Z0 q74 (Z0 (decide (q71<q1)) (Z0 q74 (Z0 (decide (q71<q1)) q34 False) False) False) False) False) False) False) False)) False) False) False) False) False) False) (Z0 q2 (Z0 q33 (Z0 q74 (Z0 (decide (q71<q1)) (Z0 q74 (Z0 (decide (q71<q1)) (Z0 q74 (Z0 (decide (q71<q1)) q34 False) False) False) False) False) False) False) False)))
 False)
 False))
 False) (by kernel_rfl) ?_
 conv=>zeta
 try simp only [Zi]
 try simp only [Zj]
 try simp only [Zf]
 try simp only [Zk]
 try simp only [Zl]
 try simp only [Zg]
 try simp only [Int.toNat_natCast,Nat.zero_add,true_and,and_true,Nat.le_refl]
 subst hn
 have hR:Zc 1 [] X.L.length (Z4 X.L) (Z4 X.L):=Zp fun _ _=>rfl
 unfold Xb at he
 refine ⟨fun _ _=>trivial,X,.a rfl,hlen, ?_⟩
 by_cases hI:ZH own id X.L<X.L.length
 ·have hv:fiV own id X.L=((ZH own id X.L:Nat):Int):=by unfold fiV;rw [if_pos hI]
  rw [hv]
  simp only [Int.toNat_natCast]
  rw [if_neg (by omega)] at he
  have h2:=(hOk _ (ZD hI)).hash
  have hi:(0:Int)<=((ZH own id X.L:Nat):Int)/\((ZH own id X.L:Nat):Int)<(X.L.length:Int):=by omega
  generalize hz:X.L.getD (ZH own id X.L) Z8=z at*
  refine ⟨fun h=>by omega,fun _=>⟨hi,hI,fun h5=>⟨?_,hR⟩,fun h5=>⟨fun hk=>⟨hi,hI,hsec,hsec.symm,by omega,⟨hl,h2⟩,fun hh=>⟨?_,hR⟩,fun hh=> ?_⟩,fun hk=> ?_⟩⟩⟩
  ·rw [he,if_pos (by simpa using h5)]
  ·rw [he,if_neg (by simpa using h5),if_pos ⟨by simpa using hk,by simpa using hh⟩]
  ·exact absurd (by rw [he,if_neg (by simpa using h5),if_neg (fun q=>q.2 (by simpa using hh))]) hne
  ·exact absurd (by rw [he,if_neg (by simpa using h5),if_neg (fun q=>by simp [q.1] at hk)]) hne
 ·have hv:fiV own id X.L= -1:=by unfold fiV;rw [if_neg hI]
  rw [hv]
  rw [if_pos (by omega)] at he
  exact ⟨fun _=>⟨he.symm,hR⟩,fun h=>by omega⟩
theorem Zlk (X X':Z7) (n:Nat) (own:Bool) (id k:Int) (sec:List Int) (H1:List Int->List Int) (B:Nat) (hn:X.L.length=n) (hlen:X.L.length<1000) (hOk:∀h∈X.L,h.Ok) (hsec:sec.length=32) (hl:(H1 sec).length=32) (hB:32<=B) (he:Xb H1 X own id k sec=0) (hX':X'=endX H1 X own id k sec):
  evF (ZjI H1 B) 20 103 [.agg (X.c (slH 0 n)),.bool own,.int .i64 id,.int .i64 k,.agg [.arr .u8 32 sec]] ⟨1,[(0,.rows 70 n (Z4 X.L))]⟩ (ZX 1 (.ret (.tuple [.agg (X'.c (slH 1 n)),.int .i64 0])) 2 [(0,.rows 70 n (Z4 X.L)),(1,.rows 70 n (Z4 X'.L))]):=by
 refine @Eq.mpr _ (Z0 (decide ((0:Nat)+n<=n))
 ((∀(i:Nat),i<n->true=true)/\
 ∃(X_1:Z7),
 LV [AV.arr u8 (32:Nat) X.t.fund,AV.int i64 X.t.index,AV.int i64 X.t.cap,AV.int i64 X.t.dust,AV.int i64 X.t.fee,AV.int i64 X.t.delay,AV.arr u8 (32:Nat) X.t.k0,AV.arr u8 (32:Nat) X.t.k1,AV.int i64 X.side,AV.int i64 X.res,AV.arr i64 (2:Nat) [X.a0,X.a1],AV.arr i64 (2:Nat) [X.i0,X.i1],AV.vrows (70:Nat) n (ZT (0:Nat) (Z4 X.L)) n] X_1/\
 List.length X_1.L<(1000:Nat)/\
 Z0 (decide (fiV own id X_1.L<(0:Int))) False
 (Z0 (decide ((0:Int)<=fiV own id X_1.L/\fiV own id X_1.L<(↑n:Int)))
 (Z0 (decide ((0:Nat)+Int.toNat (fiV own id X_1.L)<n))
 (Z0 ((List.getD X.L ((0:Nat)+Int.toNat (fiV own id X_1.L)) Z8).stage !=(5:Int)) False
 (Z0 (k==(1:Int))
 (Z0 (decide ((0:Int)<=fiV own id X_1.L/\fiV own id X_1.L<(↑n:Int)))
 (Z0 (decide ((0:Nat)+Int.toNat (fiV own id X_1.L)<n))
 (Z0 (decide (List.length sec=(32:Nat)))
 (Z0 (decide ((32:Nat)=List.length sec))
 (Z0 (decide (List.length sec<=B))
 (Z0 (decide (List.length (H1 sec)=(32:Nat)/\List.length (List.getD X.L ((0:Nat)+Int.toNat (fiV own id X_1.L)) Z8).hash=(32:Nat)))
 (Z0 (!H1 sec==(List.getD X.L ((0:Nat)+Int.toNat (fiV own id X_1.L)) Z8).hash) False
 (Z0 (decide ((0:Nat)+n<=n))
 (Z0 (decide (((0:Nat)+n)*(112:Nat)<=(140737488355328:Nat)))
 (Z0 (decide ((0:Int)<=fiV own id X_1.L/\fiV own id X_1.L<(↑((0:Nat)+n):Int)))
 (Z0 (decide ((0:Nat)+Int.toNat (fiV own id X_1.L)<(0:Nat)+n))
 (Z0 (decide ((0:Int)<=fiV own id X_1.L/\fiV own id X_1.L<(↑((0:Nat)+n):Int)))
 (Z0 (decide ((0:Nat)+Int.toNat (fiV own id X_1.L)<(0:Nat)+n))
 (Z0 (decide ((0:Int)<=fiV own id X_1.L/\fiV own id X_1.L<(↑((0:Nat)+n):Int)))
 (Z0 (decide ((0:Nat)+Int.toNat (fiV own id X_1.L)<(0:Nat)+n))
 (X.t.fund=X'.t.fund/\
 Z0 (decide (X.t.index=X'.t.index))
 (Z0 (decide (X.t.cap=X'.t.cap))
 (Z0 (decide (X.t.dust=X'.t.dust))
 (Z0 (decide (X.t.fee=X'.t.fee))
 (Z0 (decide (X.t.delay=X'.t.delay))
 (X.t.k0=X'.t.k0/\
 X.t.k1=X'.t.k1/\
 Z0 (decide (X.side=X'.side))
 (Z0 (decide (X.res=X'.res))
 ([X.a0,X.a1]=[X'.a0,X'.a1]/\
 [X.i0,X.i1]=[X'.i0,X'.i1]/\
 Z0 (decide ((0:Nat)+n=n))
 (Z0 (decide (n<=(0:Nat)+n))
 (Z0 (decide (n=n))
 (Zc (1:Nat) [((1:Nat),(4:Nat))] n (Z4 X.L) (Z4 X.L)/\
 Z0 (decide ((0:Nat)+n=n))
 (Zc (1:Nat) [((1:Nat),(4:Nat))] n (Z4 X'.L)
 (Z0A
 (Z0A (Z0A (ZZ (0:Nat) (fun (x:Nat)=>[]) (ZT (0:Nat) (Z4 X.L))) ((0:Nat)+Int.toNat (fiV own id X_1.L)) [AV.bool (List.getD X.L ((0:Nat)+Int.toNat (fiV own id X_1.L)-(0:Nat)) Z8).own,AV.int i64 (List.getD X.L ((0:Nat)+Int.toNat (fiV own id X_1.L)-(0:Nat)) Z8).id,AV.int i64 (List.getD X.L ((0:Nat)+Int.toNat (fiV own id X_1.L)-(0:Nat)) Z8).amount,AV.arr u8 (32:Nat) (List.getD X.L ((0:Nat)+Int.toNat (fiV own id X_1.L)-(0:Nat)) Z8).hash,AV.int i64 (List.getD X.L ((0:Nat)+Int.toNat (fiV own id X_1.L)-(0:Nat)) Z8).expiry,AV.int i64 (6:Int),AV.int i64 (List.getD X.L ((0:Nat)+Int.toNat (fiV own id X_1.L)-(0:Nat)) Z8).fin,AV.arr u8 (32:Nat) (List.getD X.L ((0:Nat)+Int.toNat (fiV own id X_1.L)-(0:Nat)) Z8).secret]) ((0:Nat)+Int.toNat (fiV own id X_1.L))
 [AV.bool
 (match Nat.beq ((0:Nat)+Int.toNat (fiV own id X_1.L)) ((0:Nat)+Int.toNat (fiV own id X_1.L)) with
 | true=>(List.getD X.L ((0:Nat)+Int.toNat (fiV own id X_1.L)-(0:Nat)) Z8).own
 | false=>(List.getD X.L ((0:Nat)+Int.toNat (fiV own id X_1.L)-(0:Nat)) Z8).own),
 AV.int i64
 (match Nat.beq ((0:Nat)+Int.toNat (fiV own id X_1.L)) ((0:Nat)+Int.toNat (fiV own id X_1.L)) with
 | true=>(List.getD X.L ((0:Nat)+Int.toNat (fiV own id X_1.L)-(0:Nat)) Z8).id
 | false=>(List.getD X.L ((0:Nat)+Int.toNat (fiV own id X_1.L)-(0:Nat)) Z8).id),
 AV.int i64
 (match Nat.beq ((0:Nat)+Int.toNat (fiV own id X_1.L)) ((0:Nat)+Int.toNat (fiV own id X_1.L)) with
 | true=>(List.getD X.L ((0:Nat)+Int.toNat (fiV own id X_1.L)-(0:Nat)) Z8).amount
 | false=>(List.getD X.L ((0:Nat)+Int.toNat (fiV own id X_1.L)-(0:Nat)) Z8).amount),
 AV.arr u8 (32:Nat)
 (match Nat.beq ((0:Nat)+Int.toNat (fiV own id X_1.L)) ((0:Nat)+Int.toNat (fiV own id X_1.L)) with
 | true=>(List.getD X.L ((0:Nat)+Int.toNat (fiV own id X_1.L)-(0:Nat)) Z8).hash
 | false=>(List.getD X.L ((0:Nat)+Int.toNat (fiV own id X_1.L)-(0:Nat)) Z8).hash),
 AV.int i64
 (match Nat.beq ((0:Nat)+Int.toNat (fiV own id X_1.L)) ((0:Nat)+Int.toNat (fiV own id X_1.L)) with
 | true=>(List.getD X.L ((0:Nat)+Int.toNat (fiV own id X_1.L)-(0:Nat)) Z8).expiry
 | false=>(List.getD X.L ((0:Nat)+Int.toNat (fiV own id X_1.L)-(0:Nat)) Z8).expiry),
 AV.int i64
 (match Nat.beq ((0:Nat)+Int.toNat (fiV own id X_1.L)) ((0:Nat)+Int.toNat (fiV own id X_1.L)) with
 | true=>(6:Int)
 | false=>(List.getD X.L ((0:Nat)+Int.toNat (fiV own id X_1.L)-(0:Nat)) Z8).stage),
 AV.int i64 k,
 AV.arr u8 (32:Nat)
 (match Nat.beq ((0:Nat)+Int.toNat (fiV own id X_1.L)) ((0:Nat)+Int.toNat (fiV own id X_1.L)) with
 | true=>(List.getD X.L ((0:Nat)+Int.toNat (fiV own id X_1.L)-(0:Nat)) Z8).secret
 | false=>(List.getD X.L ((0:Nat)+Int.toNat (fiV own id X_1.L)-(0:Nat)) Z8).secret)])
 ((0:Nat)+Int.toNat (fiV own id X_1.L))
 [AV.bool
 (match Nat.beq ((0:Nat)+Int.toNat (fiV own id X_1.L)) ((0:Nat)+Int.toNat (fiV own id X_1.L)) with
 | true=>
 (match Nat.beq ((0:Nat)+Int.toNat (fiV own id X_1.L)) ((0:Nat)+Int.toNat (fiV own id X_1.L)) with
 | true=>(List.getD X.L ((0:Nat)+Int.toNat (fiV own id X_1.L)-(0:Nat)) Z8).own
 | false=>(List.getD X.L ((0:Nat)+Int.toNat (fiV own id X_1.L)-(0:Nat)) Z8).own)
 | false=>
 match Nat.beq ((0:Nat)+Int.toNat (fiV own id X_1.L)) ((0:Nat)+Int.toNat (fiV own id X_1.L)) with
 | true=>(List.getD X.L ((0:Nat)+Int.toNat (fiV own id X_1.L)-(0:Nat)) Z8).own
 | false=>(List.getD X.L ((0:Nat)+Int.toNat (fiV own id X_1.L)-(0:Nat)) Z8).own),
 AV.int i64
 (match Nat.beq ((0:Nat)+Int.toNat (fiV own id X_1.L)) ((0:Nat)+Int.toNat (fiV own id X_1.L)) with
 | true=>
 (match Nat.beq ((0:Nat)+Int.toNat (fiV own id X_1.L)) ((0:Nat)+Int.toNat (fiV own id X_1.L)) with
 | true=>(List.getD X.L ((0:Nat)+Int.toNat (fiV own id X_1.L)-(0:Nat)) Z8).id
 | false=>(List.getD X.L ((0:Nat)+Int.toNat (fiV own id X_1.L)-(0:Nat)) Z8).id)
 | false=>
 match Nat.beq ((0:Nat)+Int.toNat (fiV own id X_1.L)) ((0:Nat)+Int.toNat (fiV own id X_1.L)) with
 | true=>(List.getD X.L ((0:Nat)+Int.toNat (fiV own id X_1.L)-(0:Nat)) Z8).id
 | false=>(List.getD X.L ((0:Nat)+Int.toNat (fiV own id X_1.L)-(0:Nat)) Z8).id),
 AV.int i64
 (match Nat.beq ((0:Nat)+Int.toNat (fiV own id X_1.L)) ((0:Nat)+Int.toNat (fiV own id X_1.L)) with
 | true=>
 (match Nat.beq ((0:Nat)+Int.toNat (fiV own id X_1.L)) ((0:Nat)+Int.toNat (fiV own id X_1.L)) with
 | true=>(List.getD X.L ((0:Nat)+Int.toNat (fiV own id X_1.L)-(0:Nat)) Z8).amount
 | false=>(List.getD X.L ((0:Nat)+Int.toNat (fiV own id X_1.L)-(0:Nat)) Z8).amount)
 | false=>
 match Nat.beq ((0:Nat)+Int.toNat (fiV own id X_1.L)) ((0:Nat)+Int.toNat (fiV own id X_1.L)) with
 | true=>(List.getD X.L ((0:Nat)+Int.toNat (fiV own id X_1.L)-(0:Nat)) Z8).amount
 | false=>(List.getD X.L ((0:Nat)+Int.toNat (fiV own id X_1.L)-(0:Nat)) Z8).amount),
 AV.arr u8 (32:Nat)
 (match Nat.beq ((0:Nat)+Int.toNat (fiV own id X_1.L)) ((0:Nat)+Int.toNat (fiV own id X_1.L)) with
 | true=>
 (match Nat.beq ((0:Nat)+Int.toNat (fiV own id X_1.L)) ((0:Nat)+Int.toNat (fiV own id X_1.L)) with
 | true=>(List.getD X.L ((0:Nat)+Int.toNat (fiV own id X_1.L)-(0:Nat)) Z8).hash
 | false=>(List.getD X.L ((0:Nat)+Int.toNat (fiV own id X_1.L)-(0:Nat)) Z8).hash)
 | false=>
 match Nat.beq ((0:Nat)+Int.toNat (fiV own id X_1.L)) ((0:Nat)+Int.toNat (fiV own id X_1.L)) with
 | true=>(List.getD X.L ((0:Nat)+Int.toNat (fiV own id X_1.L)-(0:Nat)) Z8).hash
 | false=>(List.getD X.L ((0:Nat)+Int.toNat (fiV own id X_1.L)-(0:Nat)) Z8).hash),
 AV.int i64
 (match Nat.beq ((0:Nat)+Int.toNat (fiV own id X_1.L)) ((0:Nat)+Int.toNat (fiV own id X_1.L)) with
 | true=>
 (match Nat.beq ((0:Nat)+Int.toNat (fiV own id X_1.L)) ((0:Nat)+Int.toNat (fiV own id X_1.L)) with
 | true=>(List.getD X.L ((0:Nat)+Int.toNat (fiV own id X_1.L)-(0:Nat)) Z8).expiry
 | false=>(List.getD X.L ((0:Nat)+Int.toNat (fiV own id X_1.L)-(0:Nat)) Z8).expiry)
 | false=>
 match Nat.beq ((0:Nat)+Int.toNat (fiV own id X_1.L)) ((0:Nat)+Int.toNat (fiV own id X_1.L)) with
 | true=>(List.getD X.L ((0:Nat)+Int.toNat (fiV own id X_1.L)-(0:Nat)) Z8).expiry
 | false=>(List.getD X.L ((0:Nat)+Int.toNat (fiV own id X_1.L)-(0:Nat)) Z8).expiry),
 AV.int i64
 (match Nat.beq ((0:Nat)+Int.toNat (fiV own id X_1.L)) ((0:Nat)+Int.toNat (fiV own id X_1.L)) with
 | true=>
 (match Nat.beq ((0:Nat)+Int.toNat (fiV own id X_1.L)) ((0:Nat)+Int.toNat (fiV own id X_1.L)) with
 | true=>(6:Int)
 | false=>(List.getD X.L ((0:Nat)+Int.toNat (fiV own id X_1.L)-(0:Nat)) Z8).stage)
 | false=>
 match Nat.beq ((0:Nat)+Int.toNat (fiV own id X_1.L)) ((0:Nat)+Int.toNat (fiV own id X_1.L)) with
 | true=>(6:Int)
 | false=>(List.getD X.L ((0:Nat)+Int.toNat (fiV own id X_1.L)-(0:Nat)) Z8).stage),
 AV.int i64
 (match Nat.beq ((0:Nat)+Int.toNat (fiV own id X_1.L)) ((0:Nat)+Int.toNat (fiV own id X_1.L)) with
 | true=>k
 | false=>
 match Nat.beq ((0:Nat)+Int.toNat (fiV own id X_1.L)) ((0:Nat)+Int.toNat (fiV own id X_1.L)) with
 | true=>(List.getD X.L ((0:Nat)+Int.toNat (fiV own id X_1.L)-(0:Nat)) Z8).fin
 | false=>(List.getD X.L ((0:Nat)+Int.toNat (fiV own id X_1.L)-(0:Nat)) Z8).fin),
 AV.arr u8 (32:Nat) sec])/\
 True)
 False)
 False)
 False)
 False)
 False)
 False)
 False)
 False)
 False)
 False)
 False)
 False)
 False)
 False)
 False)
 False)
 False)
 False)
 False))
 False)
 False)
 False)
 False)
 False)
 False)
 (Z0 (decide ((0:Nat)+n<=n))
 (Z0 (decide (((0:Nat)+n)*(112:Nat)<=(140737488355328:Nat)))
 (Z0 (decide ((0:Int)<=fiV own id X_1.L/\fiV own id X_1.L<(↑((0:Nat)+n):Int)))
 (Z0 (decide ((0:Nat)+Int.toNat (fiV own id X_1.L)<(0:Nat)+n))
 (Z0 (decide ((0:Int)<=fiV own id X_1.L/\fiV own id X_1.L<(↑((0:Nat)+n):Int)))
 (Z0 (decide ((0:Nat)+Int.toNat (fiV own id X_1.L)<(0:Nat)+n))
 (Z0 (decide ((0:Int)<=fiV own id X_1.L/\fiV own id X_1.L<(↑((0:Nat)+n):Int)))
 (Z0 (decide ((0:Nat)+Int.toNat (fiV own id X_1.L)<(0:Nat)+n))
 (X.t.fund=X'.t.fund/\
 Z0 (decide (X.t.index=X'.t.index))
 (Z0 (decide (X.t.cap=X'.t.cap))
 (Z0 (decide (X.t.dust=X'.t.dust))
 (Z0 (decide (X.t.fee=X'.t.fee))
 (Z0 (decide (X.t.delay=X'.t.delay))
 (X.t.k0=X'.t.k0/\
 X.t.k1=X'.t.k1/\
 Z0 (decide (X.side=X'.side))
 (Z0 (decide (X.res=X'.res))
 ([X.a0,X.a1]=[X'.a0,X'.a1]/\
 [X.i0,X.i1]=[X'.i0,X'.i1]/\
 Z0 (decide ((0:Nat)+n=n))
 (Z0 (decide (n<=(0:Nat)+n))
 (Z0 (decide (n=n))
 (Zc (1:Nat) [((1:Nat),(4:Nat))] n (Z4 X.L) (Z4 X.L)/\
 Z0 (decide ((0:Nat)+n=n))
 (Zc (1:Nat) [((1:Nat),(4:Nat))] n (Z4 X'.L)
 (Z0A
 (Z0A (Z0A (ZZ (0:Nat) (fun (x:Nat)=>[]) (ZT (0:Nat) (Z4 X.L))) ((0:Nat)+Int.toNat (fiV own id X_1.L)) [AV.bool (List.getD X.L ((0:Nat)+Int.toNat (fiV own id X_1.L)-(0:Nat)) Z8).own,AV.int i64 (List.getD X.L ((0:Nat)+Int.toNat (fiV own id X_1.L)-(0:Nat)) Z8).id,AV.int i64 (List.getD X.L ((0:Nat)+Int.toNat (fiV own id X_1.L)-(0:Nat)) Z8).amount,AV.arr u8 (32:Nat) (List.getD X.L ((0:Nat)+Int.toNat (fiV own id X_1.L)-(0:Nat)) Z8).hash,AV.int i64 (List.getD X.L ((0:Nat)+Int.toNat (fiV own id X_1.L)-(0:Nat)) Z8).expiry,AV.int i64 (6:Int),AV.int i64 (List.getD X.L ((0:Nat)+Int.toNat (fiV own id X_1.L)-(0:Nat)) Z8).fin,AV.arr u8 (32:Nat) (List.getD X.L ((0:Nat)+Int.toNat (fiV own id X_1.L)-(0:Nat)) Z8).secret]) ((0:Nat)+Int.toNat (fiV own id X_1.L))
 [AV.bool
 (match Nat.beq ((0:Nat)+Int.toNat (fiV own id X_1.L)) ((0:Nat)+Int.toNat (fiV own id X_1.L)) with
 | true=>(List.getD X.L ((0:Nat)+Int.toNat (fiV own id X_1.L)-(0:Nat)) Z8).own
 | false=>(List.getD X.L ((0:Nat)+Int.toNat (fiV own id X_1.L)-(0:Nat)) Z8).own),
 AV.int i64
 (match Nat.beq ((0:Nat)+Int.toNat (fiV own id X_1.L)) ((0:Nat)+Int.toNat (fiV own id X_1.L)) with
 | true=>(List.getD X.L ((0:Nat)+Int.toNat (fiV own id X_1.L)-(0:Nat)) Z8).id
 | false=>(List.getD X.L ((0:Nat)+Int.toNat (fiV own id X_1.L)-(0:Nat)) Z8).id),
 AV.int i64
 (match Nat.beq ((0:Nat)+Int.toNat (fiV own id X_1.L)) ((0:Nat)+Int.toNat (fiV own id X_1.L)) with
 | true=>(List.getD X.L ((0:Nat)+Int.toNat (fiV own id X_1.L)-(0:Nat)) Z8).amount
 | false=>(List.getD X.L ((0:Nat)+Int.toNat (fiV own id X_1.L)-(0:Nat)) Z8).amount),
 AV.arr u8 (32:Nat)
 (match Nat.beq ((0:Nat)+Int.toNat (fiV own id X_1.L)) ((0:Nat)+Int.toNat (fiV own id X_1.L)) with
 | true=>(List.getD X.L ((0:Nat)+Int.toNat (fiV own id X_1.L)-(0:Nat)) Z8).hash
 | false=>(List.getD X.L ((0:Nat)+Int.toNat (fiV own id X_1.L)-(0:Nat)) Z8).hash),
 AV.int i64
 (match Nat.beq ((0:Nat)+Int.toNat (fiV own id X_1.L)) ((0:Nat)+Int.toNat (fiV own id X_1.L)) with
 | true=>(List.getD X.L ((0:Nat)+Int.toNat (fiV own id X_1.L)-(0:Nat)) Z8).expiry
 | false=>(List.getD X.L ((0:Nat)+Int.toNat (fiV own id X_1.L)-(0:Nat)) Z8).expiry),
 AV.int i64
 (match Nat.beq ((0:Nat)+Int.toNat (fiV own id X_1.L)) ((0:Nat)+Int.toNat (fiV own id X_1.L)) with
 | true=>(6:Int)
 | false=>(List.getD X.L ((0:Nat)+Int.toNat (fiV own id X_1.L)-(0:Nat)) Z8).stage),
 AV.int i64 k,
 AV.arr u8 (32:Nat)
 (match Nat.beq ((0:Nat)+Int.toNat (fiV own id X_1.L)) ((0:Nat)+Int.toNat (fiV own id X_1.L)) with
 | true=>(List.getD X.L ((0:Nat)+Int.toNat (fiV own id X_1.L)-(0:Nat)) Z8).secret
 | false=>(List.getD X.L ((0:Nat)+Int.toNat (fiV own id X_1.L)-(0:Nat)) Z8).secret)])
 ((0:Nat)+Int.toNat (fiV own id X_1.L))
 [AV.bool
 (match Nat.beq ((0:Nat)+Int.toNat (fiV own id X_1.L)) ((0:Nat)+Int.toNat (fiV own id X_1.L)) with
 | true=>
 (match Nat.beq ((0:Nat)+Int.toNat (fiV own id X_1.L)) ((0:Nat)+Int.toNat (fiV own id X_1.L)) with
 | true=>(List.getD X.L ((0:Nat)+Int.toNat (fiV own id X_1.L)-(0:Nat)) Z8).own
 | false=>(List.getD X.L ((0:Nat)+Int.toNat (fiV own id X_1.L)-(0:Nat)) Z8).own)
 | false=>
 match Nat.beq ((0:Nat)+Int.toNat (fiV own id X_1.L)) ((0:Nat)+Int.toNat (fiV own id X_1.L)) with
 | true=>(List.getD X.L ((0:Nat)+Int.toNat (fiV own id X_1.L)-(0:Nat)) Z8).own
 | false=>(List.getD X.L ((0:Nat)+Int.toNat (fiV own id X_1.L)-(0:Nat)) Z8).own),
 AV.int i64
 (match Nat.beq ((0:Nat)+Int.toNat (fiV own id X_1.L)) ((0:Nat)+Int.toNat (fiV own id X_1.L)) with
 | true=>
 (match Nat.beq ((0:Nat)+Int.toNat (fiV own id X_1.L)) ((0:Nat)+Int.toNat (fiV own id X_1.L)) with
 | true=>(List.getD X.L ((0:Nat)+Int.toNat (fiV own id X_1.L)-(0:Nat)) Z8).id
 | false=>(List.getD X.L ((0:Nat)+Int.toNat (fiV own id X_1.L)-(0:Nat)) Z8).id)
 | false=>
 match Nat.beq ((0:Nat)+Int.toNat (fiV own id X_1.L)) ((0:Nat)+Int.toNat (fiV own id X_1.L)) with
 | true=>(List.getD X.L ((0:Nat)+Int.toNat (fiV own id X_1.L)-(0:Nat)) Z8).id
 | false=>(List.getD X.L ((0:Nat)+Int.toNat (fiV own id X_1.L)-(0:Nat)) Z8).id),
 AV.int i64
 (match Nat.beq ((0:Nat)+Int.toNat (fiV own id X_1.L)) ((0:Nat)+Int.toNat (fiV own id X_1.L)) with
 | true=>
 (match Nat.beq ((0:Nat)+Int.toNat (fiV own id X_1.L)) ((0:Nat)+Int.toNat (fiV own id X_1.L)) with
 | true=>(List.getD X.L ((0:Nat)+Int.toNat (fiV own id X_1.L)-(0:Nat)) Z8).amount
 | false=>(List.getD X.L ((0:Nat)+Int.toNat (fiV own id X_1.L)-(0:Nat)) Z8).amount)
 | false=>
 match Nat.beq ((0:Nat)+Int.toNat (fiV own id X_1.L)) ((0:Nat)+Int.toNat (fiV own id X_1.L)) with
 | true=>(List.getD X.L ((0:Nat)+Int.toNat (fiV own id X_1.L)-(0:Nat)) Z8).amount
 | false=>(List.getD X.L ((0:Nat)+Int.toNat (fiV own id X_1.L)-(0:Nat)) Z8).amount),
 AV.arr u8 (32:Nat)
 (match Nat.beq ((0:Nat)+Int.toNat (fiV own id X_1.L)) ((0:Nat)+Int.toNat (fiV own id X_1.L)) with
 | true=>
 (match Nat.beq ((0:Nat)+Int.toNat (fiV own id X_1.L)) ((0:Nat)+Int.toNat (fiV own id X_1.L)) with
 | true=>(List.getD X.L ((0:Nat)+Int.toNat (fiV own id X_1.L)-(0:Nat)) Z8).hash
 | false=>(List.getD X.L ((0:Nat)+Int.toNat (fiV own id X_1.L)-(0:Nat)) Z8).hash)
 | false=>
 match Nat.beq ((0:Nat)+Int.toNat (fiV own id X_1.L)) ((0:Nat)+Int.toNat (fiV own id X_1.L)) with
 | true=>(List.getD X.L ((0:Nat)+Int.toNat (fiV own id X_1.L)-(0:Nat)) Z8).hash
 | false=>(List.getD X.L ((0:Nat)+Int.toNat (fiV own id X_1.L)-(0:Nat)) Z8).hash),
 AV.int i64
 (match Nat.beq ((0:Nat)+Int.toNat (fiV own id X_1.L)) ((0:Nat)+Int.toNat (fiV own id X_1.L)) with
 | true=>
 (match Nat.beq ((0:Nat)+Int.toNat (fiV own id X_1.L)) ((0:Nat)+Int.toNat (fiV own id X_1.L)) with
 | true=>(List.getD X.L ((0:Nat)+Int.toNat (fiV own id X_1.L)-(0:Nat)) Z8).expiry
 | false=>(List.getD X.L ((0:Nat)+Int.toNat (fiV own id X_1.L)-(0:Nat)) Z8).expiry)
 | false=>
 match Nat.beq ((0:Nat)+Int.toNat (fiV own id X_1.L)) ((0:Nat)+Int.toNat (fiV own id X_1.L)) with
 | true=>(List.getD X.L ((0:Nat)+Int.toNat (fiV own id X_1.L)-(0:Nat)) Z8).expiry
 | false=>(List.getD X.L ((0:Nat)+Int.toNat (fiV own id X_1.L)-(0:Nat)) Z8).expiry),
 AV.int i64
 (match Nat.beq ((0:Nat)+Int.toNat (fiV own id X_1.L)) ((0:Nat)+Int.toNat (fiV own id X_1.L)) with
 | true=>
 (match Nat.beq ((0:Nat)+Int.toNat (fiV own id X_1.L)) ((0:Nat)+Int.toNat (fiV own id X_1.L)) with
 | true=>(6:Int)
 | false=>(List.getD X.L ((0:Nat)+Int.toNat (fiV own id X_1.L)-(0:Nat)) Z8).stage)
 | false=>
 match Nat.beq ((0:Nat)+Int.toNat (fiV own id X_1.L)) ((0:Nat)+Int.toNat (fiV own id X_1.L)) with
 | true=>(6:Int)
 | false=>(List.getD X.L ((0:Nat)+Int.toNat (fiV own id X_1.L)-(0:Nat)) Z8).stage),
 AV.int i64
 (match Nat.beq ((0:Nat)+Int.toNat (fiV own id X_1.L)) ((0:Nat)+Int.toNat (fiV own id X_1.L)) with
 | true=>k
 | false=>
 match Nat.beq ((0:Nat)+Int.toNat (fiV own id X_1.L)) ((0:Nat)+Int.toNat (fiV own id X_1.L)) with
 | true=>(List.getD X.L ((0:Nat)+Int.toNat (fiV own id X_1.L)-(0:Nat)) Z8).fin
 | false=>(List.getD X.L ((0:Nat)+Int.toNat (fiV own id X_1.L)-(0:Nat)) Z8).fin),
 AV.arr u8 (32:Nat) sec])/\
 True)
 False)
 False)
 False)
 False)
 False)
 False)
 False)
 False)
 False)
 False)
 False)
 False)
 False)
 False)
 False)
 False)
 False)
 False)
 False)))
 False)
 False))
 False) (by kernel_rfl) ?_
 try simp only [Zi]
 try simp only [Zj]
 try simp only [Zf]
 try simp only [Zk]
 try simp only [Zl]
 try simp only [Zg]
 try simp only [Int.toNat_natCast,Nat.zero_add,true_and,and_true,Nat.le_refl]
 subst hn
 obtain ⟨hI,h5,hno⟩:=Z4G he
 have hX2:X'={ X with L:=X.L.set (ZH own id X.L) (Uf (X.L.getD (ZH own id X.L) Z8) k sec)}:=by rw [hX'];unfold endX;rw [if_pos he]
 have hv:fiV own id X.L=((ZH own id X.L:Nat):Int):=by unfold fiV;rw [if_pos hI]
 have h2:=(hOk _ (ZD hI)).hash
 have hR:∀τ,Zc 1 τ X.L.length (Z4 X.L) (Z4 X.L):=fun τ=>Zp fun _ _=>rfl
 refine ⟨fun _ _=>trivial,X,.a rfl,hlen, ?_⟩
 rw [hv]
 simp only [Int.toNat_natCast,Nat.sub_zero]
 have hset:∀i,(X.L.set (ZH own id X.L) (Uf (X.L.getD (ZH own id X.L) Z8) k sec)).getD i Z8=if i=ZH own id X.L then Uf (X.L.getD (ZH own id X.L) Z8) k sec else X.L.getD i Z8:=fun i=>ZhY hI i
 generalize hz:X.L.getD (ZH own id X.L) Z8=z at*
 generalize hLn:X.L.set (ZH own id X.L) (Uf z k sec)=L2 at*
 subst hX2
 have hi:(0:Int)<=((ZH own id X.L:Nat):Int)/\((ZH own id X.L:Nat):Int)<(X.L.length:Int):=by omega
 generalize ZH own id X.L=I at*
 refine ⟨by omega,hi,hI,by simp [h5],fun hk=>⟨hi,hI,hsec,hsec.symm,by omega,⟨hl,h2⟩,by rw [hno (by simpa using hk)];simp, ?_⟩,fun hk=> ?_⟩
 all_goals
  repeat' apply And.intro
  all_goals first|omega|exact hR _|rfl|skip
  refine Zp fun i hi=> ?_
  rw [UP]
  unfold Z4
  rw [hset]
  by_cases h:i=I
  ·rw [if_pos h,h]
   simp only [Nat.beq_refl]
   rfl
  ·rw [if_neg h,ZC h,UP,ZC h,UP,ZC h]
   rw [Z0k (Nat.zero_le _)]
   rfl
theorem Z3G {xs:List Int} (h:Bytes xs):∀x∈xs,U8 x:=fun x hx=>by
 obtain ⟨i,hi,rfl⟩:=List.getElem_of_mem hx
 have:=h.h i
 rw [List.getD_eq_getElem?_getD,List.getElem?_eq_getElem hi] at this
 have h1:0<=xs[i]/\xs[i]<=255:=this
 unfold U8;omega
theorem Zer {X:Z7} {own:Bool} {id k:Int} {sec:List Int} (hs:sec.length=32) (hb:Bytes sec):Xb W2 X own id k sec=Xb Zr X own id k sec/\endX W2 X own id k sec=endX Zr X own id k sec:=by
 have e:W2 sec=Zr sec:=Z5y (Z3G hb) (by omega)
 have e1:Xb W2 X own id k sec=Xb Zr X own id k sec:=by unfold Xb;rw [e]
 exact ⟨e1,by unfold endX;rw [e1]⟩
def Zes (c:Bool):Y8:=fun args h K=>match args with
 | [.agg [_,_,_,_,_,_,_,_,_,_,_,_,.nslice ⟨b,0,70,0,0⟩ 70 _ _],_,_,_,_]=>frA [b] h 20 args fun Bs a=>match Bs,a with
  | [.rows 70 n f],[.agg cs,.bool own,.int .i64 id,.int .i64 k,.agg [.arr .u8 32 sec]]=>
   ∃X,LD cs n f X/\X.Inv Zr/\(sec.length=32/\Bytes sec)/\(match c with
    | true=>Xb Zr X own id k sec=0/\K (.ret (.tuple [.agg ((endX Zr X own id k sec).c (slH h.next X.L.length)),.int .i64 0])) ⟨h.next+1,(b,.rows 70 X.L.length (Z4 X.L))::(h.next,.rows 70 X.L.length (Z4 (endX Zr X own id k sec).L))::Ye h.bs b⟩
    | false=>Xb Zr X own id k sec≠0/\K (.ret (.tuple [.agg (X.c (slH b X.L.length)),.int .i64 (Xb Zr X own id k sec)])) ⟨h.next,(b,.rows 70 X.L.length (Z4 X.L))::Ye h.bs b⟩)
  | _,_=>False
 | _=>False
theorem Zet (c:Bool) (args:List AV) (h:Z9) (K:KO) (hl:Zes c args h K):Zn PP 103 args h K:=by
 unfold Zes at hl
 split at hl
 ·refine Spec.fsumm hl fun Bs a hlen hK0=> ?_
  split at hK0
  ·rename_i cs n f own id k sec
   obtain ⟨X,⟨rfl,rfl,rfl⟩,hI,⟨hs,hb⟩,hK⟩:=hK0
   obtain ⟨e1,e2⟩:=Zer (X:=X) (own:=own) (id:=id) (k:=k) hs hb
   cases c with
   | true=>
    obtain ⟨he,hK1⟩:=hK
    exact ⟨_,_,_,_,_,.evM Za6 (Zlk X _ _ own id k sec W2 1000 rfl hI.am.n hI.ok hs (Z3g _) (by decide) (by rw [e1];exact he) e2.symm),by simp,.ret _ _ rfl,.cons _ _ _ _ _ _ rfl (.rows _ _ _ (fun _ _=>rfl)) (.cons _ _ _ _ _ _ rfl (.rows _ _ _ (fun _ _=>rfl)) .nil),hK1⟩
   | false=>
    obtain ⟨he,hK2⟩:=hK
    exact ⟨_,_,_,_,_,.evM Za6 (Zlj X _ own id k _ sec W2 1000 rfl hI.am.n hI.ok hs (Z3g _) (by decide) e1.symm he),by simp,.ret _ _ rfl,.cons _ _ _ _ _ _ rfl (.rows _ _ _ (fun _ _=>rfl)) .nil,hK2⟩
  ·exact hK0.elim
 ·exact hl.elim
end Go.Tk
end
section
namespace Go.Tk
open IntKind (i64 u8 u32 u64 wrap)
noncomputable def ZgV:Zh:=(G0.withP 100 sdS).withP 104 neS
theorem Za7:ZgV.Ok:=Zh.withP_ok (Zh.withP_ok Zu Z8U) Zgl
def Zi7 (X:Z7) (L:List Z6) (n:Nat) (G Hd Lf:List Z6):Z9:=⟨6,[(0,.rows 70 n (Z4 L)),(1,.flat (X.c (slH 0 n))),(2,.flat (Y2.c .nilslice)),(3,.rows 70 G.length (Z4 G)),(4,.rows 70 Hd.length (Z4 Hd)),(5,.rows 70 Lf.length (Z4 Lf))]⟩
def ZgW (X:Z7) (L:List Z6) (m:Int) (n i:Nat) (G Hd Lf:List Z6):St:=⟨101,[(11,.int .i64 i),(2,pt 1),(1,.int .i64 m),(10,slH 3 G.length),(9,slH 4 Hd.length),(8,slH 5 Lf.length),(4,pt 2)],Zi7 X L n G Hd Lf,[]⟩
def Z8V (X:Z7) (L:List Z6) (n:Nat) (G Hd Lf:List Z6):St:=⟨101,[(2,pt 1),(10,slH 3 G.length),(9,slH 4 Hd.length),(8,slH 5 Lf.length),(4,pt 2)],Zi7 X L n G Hd Lf,[]⟩
theorem Zll (X X1:Z7) (L:List Z6) (m:Int) (n i:Nat) (x:Z6) (G Hd Lf G1 Hd1 Lf1:List Z6) (Z1 Z2:Prop) (hn:n<1000) (hXL:X.L=L) (hL:L.length=n) (hi:i<=n) (hm:1<=m/\m<=4) (hX:YX X) (hx:i<n->L.getD i Z8=x) (hst:i<n->1<=x.stage/\x.stage<=9) (hb:G.length<1000/\Hd.length<1000/\Lf.length<1000) (hG:i<n->G1=G++X4 (decide (ZY x.own x.stage m=10)) (stH m x)) (hH:i<n->Hd1=Hd++X4 (decide (x.stage=4/\Xy x.own 4=m)) (stH m x)) (hLf:i<n->Lf1=Lf++X4 (decide (¬ZY x.own x.stage m=10)) (stH m x)) (hX1:i<n->X1=if ZY x.own x.stage m=10 then { X with a0:=(XZ X.side (X.a0,X.a1) (stH m x)).1,a1:=(XZ X.side (X.a0,X.a1) (stH m x)).2} else X) (hw:i<n->ZY x.own x.stage m=10->x.fin=1->(-1152921504606846976<=X.a0/\X.a0<=1152921504606846976)/\(-1152921504606846976<=X.a1/\X.a1<=1152921504606846976)/\0<=x.amount/\x.amount<=1152921504606846976) (hZ1:i<n->Z1) (hZ2:i=n->Z2):
  ZB ZgV 20 39 0 1 (ZgW X L m n i G Hd Lf) (rdM 1 0 9 (ZgW X1 L m n (i+1) G1 Hd1 Lf1) (Z8V X L n G Hd Lf) (Z8V X L n G Hd Lf) (Z8V X L n G Hd Lf) Z1 Z2 False False):=by
 refine @Eq.mpr _ (let q1:=0+Int.toNat (↑i:Int);let q2:=List.getD L q1 Z8;let q3:=q2.stage;let q4:=q2.own;let q5:=ZY q4 q3 m;let q6:=List.length G;let q7:=decide (q6=q6);let q8:=q6+1;let q9:=q2.fin;let q10:=X.t;let q11:=q10.fund;let q12:=q10.index;let q13:=q10.cap;let q14:=q10.dust;let q15:=q10.fee;let q16:=q10.delay;let q17:=q10.k0;let q18:=q10.k1;let q19:=X.side;let q20:=X.res;let q21:=[X.a0,X.a1];let q22:=[X.i0,X.i1];let q23:=Z4 L;let q24:=q2.amount;let q25:=decide (wrap i64 ((↑i:Int)+1)=(↑(i+1):Int));let q26:=decide (m=m);let q27:=List.length G1;let q28:=decide (q8=q27);let q29:=decide (q27<=q8);let q30:=List.length Hd;let q31:=List.length Hd1;let q32:=decide (q30=q31);let q33:=decide (q31<=q30);let q34:=List.length Lf;let q35:=List.length Lf1;let q36:=decide (q34=q35);let q37:=decide (q35<=q34);let q38:=decide (n=n);let q39:=(2,2);let q40:=[(1,1)];let q41:=q39::(5,5)::(4,4)::(3,8)::q40;let q42:=Zc 1 q41 n q23 q23;let q43:=X1.t;let q44:=q11=q43.fund;let q45:=decide (q12=q43.index);let q46:=decide (q13=q43.cap);let q47:=decide (q14=q43.dust);let q48:=decide (q15=q43.fee);let q49:=decide (q16=q43.delay);let q50:=q17=q43.k0;let q51:=q18=q43.k1;let q52:=decide (q19=X1.side);let q53:=decide (q20=X1.res);let q54:=[X1.a0,X1.a1];let q55:=q22=[X1.i0,X1.i1];let q56:=decide (n<=n);let q57:=Y2.t;let q58:=q57.fund;let q59:=q58=q58;let q60:=q57.k0;let q61:=q60=q60;let q62:=q57.k1;let q63:=q62=q62;let q64:=[Y2.a0,Y2.a1];let q65:=q64=q64;let q66:=[Y2.i0,Y2.i1];let q67:=q66=q66;let q68:=Z4 G1;let q69:=Z4 G;let q70:=YG [AV.bool q4,AV.int i64 q2.id,AV.int i64 q24,AV.arr u8 32 q2.hash,AV.int i64 q2.expiry,AV.int i64 q5,AV.int i64 q9,AV.arr u8 32 q2.secret] 0 70;let q71:=Z4 Hd1;let q72:=Z4 Hd;let q73:=Z4 Lf1;let q74:=Z4 Lf;let q75:=q55/\Z0 q38 (Z0 q56 (q59/\q61/\q63/\q65/\q67/\Z0 q28 (Zc 1 q41 q27 q68 (ZZ q6 q69 q70)/\Z0 q32 (Zc 1 q41 q31 q71 q72/\Z0 q36 (Zc 1 q41 q35 q73 q74/\Z1) False) False) False) False) False;let q76:=q21=q54;let q77:=decide (q30=q30);let q78:=q30+1;let q79:=decide (q34=q34);let q80:=q34+1;let q81:=decide (q80*112<=140737488355328);let q82:=decide (q6=q27);let q83:=decide (q27<=q6);let q84:=decide (q78=q31);let q85:=decide (q80=q35);let q86:=decide (q35<=q80);let q87:=(3,3)::q40;let q88:=q39::(5,10)::(4,8)::q87;let q89:=ZZ q34 q74 q70;let q90:=(4,4)::q87;let q91:=q39::(5,8)::q90;let q92:=Z0 q79 (Z0 q81 (Z0 q25 (Z0 q26 (Z0 q82 (Z0 q83 (Z0 q32 (Z0 q33 (Z0 q85 (Z0 q86 (Z0 q38 (Zc 1 q91 n q23 q23/\q44/\Z0 q45 (Z0 q46 (Z0 q47 (Z0 q48 (Z0 q49 (q50/\q51/\Z0 q52 (Z0 q53 (q76/\q55/\Z0 q38 (Z0 q56 (q59/\q61/\q63/\q65/\q67/\Z0 q82 (Zc 1 q91 q27 q68 q69/\Z0 q32 (Zc 1 q91 q31 q71 q72/\Z0 q85 (Zc 1 q91 q35 q73 q89/\Z1) False) False) False) False) False) False) False) False) False) False) False) False) False) False) False) False) False) False) False) False) False) False) False;let q93:=q39::(5,5)::q90;
 Z0 (decide ((↑i:Int)<(↑n:Int)))
 (Z0 (decide (0<=(↑i:Int)/\(↑i:Int)<(↑n:Int)))
 (Z0 (decide (q1<n))
 (Z0 (decide ((1<=q3/\q3<=9)/\1<=m/\m<=4))
 (Z0 (q5==10)
 (Z0 q7
 (Z0 (decide (q8*112<=140737488355328))
 (Z0 (q9==1)
 (Z0 (decide (0+n<=n))
 ((∀(i:Nat),i<n->true=true)/\
 ∃(X_1:Z7),
 let q187:=X_1.side;let q188:=ZS q187 q4;let q189:=decide (0<=q188/\q188<2);let q190:=0+Int.toNat q188;let q191:=wrap i64 (1-q188);let q192:=decide (0<=q191/\q191<2);let q193:=0+Int.toNat q191;let q194:=List.set q21 q190 (wrap i64 (List.getD q21 q190 0-q24));
 LV [AV.arr u8 32 q11,AV.int i64 q12,AV.int i64 q13,AV.int i64 q14,AV.int i64 q15,AV.int i64 q16,AV.arr u8 32 q17,AV.arr u8 32 q18,AV.int i64 q19,AV.int i64 q20,AV.arr i64 2 q21,AV.arr i64 2 q22,AV.vrows 70 n (ZT 0 q23) n] X_1/\
 (0<=q187/\q187<=1)/\Z0 q189 (Z0 (decide (q190<2)) (Z0 q189 (Z0 (decide (i64=i64/\q190<2/\q190<2)) (Z0 q192 (Z0 (decide (q193<2)) (Z0 q192 (Z0 (decide (i64=i64/\q193<2/\q193<List.length q194)) (Z0 q25 (Z0 q26 (Z0 q28 (Z0 q29 (Z0 q32 (Z0 q33 (Z0 q36 (Z0 q37 (Z0 q38 (q42/\q44/\Z0 q45 (Z0 q46 (Z0 q47 (Z0 q48 (Z0 q49 (q50/\q51/\Z0 q52 (Z0 q53 (List.set q194 q193 (wrap i64 (List.getD q194 q193 0+q24))=q54/\q75) False) False) False) False) False) False) False) False) False) False) False) False) False) False) False) False) False) False) False) False) False) False) False) False)
 False)
 (Z0 q25 (Z0 q26 (Z0 q28 (Z0 q29 (Z0 q32 (Z0 q33 (Z0 q36 (Z0 q37 (Z0 q38 (q42/\q44/\Z0 q45 (Z0 q46 (Z0 q47 (Z0 q48 (Z0 q49 (q50/\q51/\Z0 q52 (Z0 q53 (q76/\q75) False) False) False) False) False) False) False) False) False) False) False) False) False) False) False) False))
 False)
 False)
 (Z0 (decide (Xy q4 q3=m)) (Z0 (q5==5) (Z0 q77 (Z0 (decide (q78*112<=140737488355328)) (Z0 q79 (Z0 q81 (Z0 q25 (Z0 q26 (Z0 q82 (Z0 q83 (Z0 q84 (Z0 (decide (q31<=q78)) (Z0 q85 (Z0 q86 (Z0 q38 (Zc 1 q88 n q23 q23/\q44/\Z0 q45 (Z0 q46 (Z0 q47 (Z0 q48 (Z0 q49 (q50/\q51/\Z0 q52 (Z0 q53 (q76/\q55/\Z0 q38 (Z0 q56 (q59/\q61/\q63/\q65/\q67/\Z0 q82 (Zc 1 q88 q27 q68 q69/\Z0 q84 (Zc 1 q88 q31 q71 (ZZ q30 q72 q70)/\Z0 q85 (Zc 1 q88 q35 q73 q89/\Z1) False) False) False) False) False) False) False) False) False) False) False) False) False) False) False) False) False) False) False) False) False) False) False) False) False) q92) q92))
 False)
 False)
 False)
 (Z0 q7 (Z0 (decide (q6<=q6)) (Z0 q77 (Z0 (decide (q30<=q30)) (Z0 q79 (Z0 (decide (q34<=q34)) (Z0 q38 (Zc 1 q93 n q23 q23/\q11=q11/\Z0 (decide (q12=q12)) (Z0 (decide (q13=q13)) (Z0 (decide (q14=q14)) (Z0 (decide (q15=q15)) (Z0 (decide (q16=q16)) (q17=q17/\q18=q18/\Z0 (decide (q19=q19)) (Z0 (decide (q20=q20)) (q21=q21/\q22=q22/\Z0 q38 (Z0 q56 (q59/\q61/\q63/\q65/\q67/\Z0 q7 (Zc 1 q93 q6 q69 q69/\Z0 q77 (Zc 1 q93 q30 q72 q72/\Z0 q79 (Zc 1 q93 q34 q74 q74/\Z2) False) False) False) False) False) False) False) False) False) False) False) False) False) False) False) False) False) False) False)) (by kernel_rfl) ?_
 conv=>zeta
 try simp only [Zi]
 try simp only [Zj]
 try simp only [Zf]
 try simp only [Zk]
 try simp only [Zl]
 try simp only [Zg]
 try simp only [Int.toNat_natCast,Nat.zero_add,true_and,and_true,Nat.le_refl]
 refine ⟨fun hc=> ?_,fun hc=> ?_⟩
 ·have hlt:i<n:=by omega
  rw [hx hlt]
  have hG:=hG hlt
  have hH:=hH hlt
  have hLf:=hLf hlt
  have hX1:=hX1 hlt
  have hst:=hst hlt
  have hw:=hw hlt
  have hwr:i64.wrap ((i:Int)+1)=((i+1:Nat):Int):=by rw [w64 (by omega)];omega
  rw [hwr]
  have hR:∀τ k (Q:List Z6),Zc 1 τ k (Z4 Q) (Z4 Q):=fun τ k Q=>Zp fun _ _=>rfl
  have hC:∀τ (Q:List Z6) (y:Z6),Zc 1 τ (Q++[y]).length (Z4 (Q++[y])) (ZZ Q.length (Z4 Q) (YG y.c 0 70)):=fun τ Q y=>Zp fun j hj=>Yk rfl (fun _ _=>rfl) (by simpa using hj)
  refine ⟨by omega,hlt,⟨hst,hm⟩,fun h10=>⟨by omega,fun hf=> ?_,fun hf=> ?_⟩,fun h10=>⟨fun ho=>⟨fun h5=> ?_,fun h5=> ?_⟩,fun ho=> ?_⟩⟩
  ·have h10:ZY x.own x.stage m=10:=by simpa using h10
   have h9:=Z8L hst h10
   rw [decide_eq_true h10] at hG
   rw [decide_eq_false (by omega)] at hH
   rw [decide_eq_false (by simp [h10])] at hLf
   rw [if_pos h10] at hX1
   simp only [X4,List.append_nil] at hG hH hLf
   have hf:x.fin=1:=by simpa using hf
   obtain ⟨b1,b2,b3⟩:=hw h10 hf
   have hs:X.side=0\/X.side=1:=by obtain ⟨s1,s2⟩:=hX;omega
   have hfr:=Z4F hs x.own
   have hwf:i64.wrap (1-ZS X.side x.own)=1-ZS X.side x.own:=w64 (by omega)
   subst hG hH hLf hX1
   refine ⟨fun _ _=>trivial,X, ?_,hX, ?_⟩
   ·refine .a ?_
    rw [hXL,hL];rfl
   rw [hwf,Qa hfr b1 b2 b3]
   have em:=UF (side:=X.side) (a:=X.a0) (b:=X.a1) (h:=stH m x) hf
   have e1:[X.a0,X.a1].set (ZS X.side x.own).toNat (i64.wrap ([X.a0,X.a1].getD (ZS X.side x.own).toNat 0-x.amount))=[X.a0,X.a1].set (ZS X.side x.own).toNat (i64.wrap ([X.a0,X.a1].getD (ZS X.side x.own).toNat 0-x.amount)):=rfl
   have hlen2:([X.a0,X.a1].set (ZS X.side x.own).toNat (i64.wrap ([X.a0,X.a1].getD (ZS X.side x.own).toNat 0-x.amount))).length=2:=by simp
   rw [hlen2]
   repeat' apply And.intro
   all_goals first|omega|rfl|exact hZ1 hlt|exact hC _ _ _|exact hR _ _ _|(simp;done)|exact em.symm
  ·have h10:ZY x.own x.stage m=10:=by simpa using h10
   have h9:=Z8L hst h10
   rw [decide_eq_true h10] at hG
   rw [decide_eq_false (by omega)] at hH
   rw [decide_eq_false (by simp [h10])] at hLf
   rw [if_pos h10,Z0u (h:=stH m x) (show ¬x.fin=1 by simpa using hf)] at hX1
   simp only [X4,List.append_nil] at hG hH hLf
   have hX1:X1=X:=hX1
   subst hG hH hLf hX1
   repeat' apply And.intro
   all_goals first|omega|rfl|exact hZ1 hlt|exact hC _ _ _|exact hR _ _ _|(simp;done)
  all_goals
   have h10:¬ZY x.own x.stage m=10:=by simpa using h10
   rw [decide_eq_false h10] at hG
   rw [decide_eq_true h10] at hLf
   rw [if_neg h10] at hX1
   simp only [X4,List.append_nil] at hG hLf
   subst hG hLf hX1
  ·have ho:Xy x.own x.stage=m:=ho
   have h5:ZY x.own x.stage m=5:=by simpa using h5
   have h4:x.stage=4:=by unfold ZY at h5;rw [if_pos ho] at h5;omega
   rw [decide_eq_true ⟨h4,by rw [<-h4];exact ho⟩] at hH
   simp only [X4] at hH
   subst hH
   repeat' apply And.intro
   all_goals first|omega|rfl|exact hZ1 hlt|exact hC _ _ _|exact hR _ _ _|(simp;done)
  all_goals
   have hH':Hd1=Hd:=by
    rw [hH,decide_eq_false]
    ·simp [X4]
    ·intro hq
     simp [ZY,hq.1,hq.2] at*
   subst hH'
   repeat' apply And.intro
   all_goals first|omega|rfl|exact hZ1 hlt|exact hC _ _ _|exact hR _ _ _|(simp;done)
 ·repeat' apply And.intro
  all_goals first|omega|rfl|exact hZ2 (by omega)|exact Zp fun _ _=>rfl
def Za8 (X:Z7) (m:Int) (n i:Nat):St:=ZgW (stX X m i) X.L m n i (ZV m (X.L.take i)) (Yp m (X.L.take i)) (Yo m (X.L.take i))
def Za9 (X:Z7) (m:Int) (n i:Nat):St:=Z8V (stX X m i) X.L n (ZV m (X.L.take i)) (Yp m (X.L.take i)) (Yo m (X.L.take i))
theorem Zlm (X:Z7) (m:Int) (n i:Nat) (hC:Z76 X m n) (hi:i<=n):ZB ZgV 20 39 0 1 (Za8 X m n i) (rdM 1 0 9 (Za8 X m n (i+1)) (Za9 X m n i) (Za9 X m n i) (Za9 X m n i) (i<n/\i<n) (i=n) False False):=by
 obtain ⟨h1,h2,h3,h4,h5,h6⟩:=id hC
 have hlt:i<n->i<X.L.length:=fun h=>by omega
 have l0:(X.L.take i).length<=16:=by rw [List.length_take];omega
 have l1:=Z3x m (X.L.take i)
 have l2:=Z3y m (X.L.take i)
 have l3:=Z75 m (X.L.take i)
 refine Zll (stX X m i) (stX X m (i+1)) X.L m n i (X.L.getD i Z8) _ _ _ _ _ _ (i<n/\i<n) (i=n) (by omega) rfl h1 hi h3 (show 0<=X.side/\X.side<=1 by omega) (fun _=>rfl) (fun h=>(h5 _ (ZD (hlt h))).1) ⟨by omega,by omega,by omega⟩ (fun h=> ?_) (fun h=> ?_) (fun h=> ?_) (fun h=>Z74 (hlt h)) (fun h _ _=> ?_) (fun h=>⟨h,h⟩) (fun h=>h)
 ·rw [Y9 (hlt h),Z00]
 ·rw [Y9 (hlt h),Z3w]
 ·rw [Y9 (hlt h),Z3v]
 ·obtain ⟨b1,b2⟩:=Z4I (i:=i) hC
  have:=(h5 _ (ZD (hlt h))).2
  exact ⟨b1,b2,this.1,by omega⟩
noncomputable def Zaa (X:Z7) (m:Int) (n:Nat) (C:Prop) (E:Nat->St):Zh:=ZgV.withL 39 0 (goM 1 (ZgW X X.L m n 0 [] [] []) C (Yu 0 n 9 (fun i=>i<n) (fun i=>i=n) (fun _=>False) (fun _=>False) E E E))
theorem Zeu (X:Z7) (m:Int) (n:Nat):(Zaa X m n (Z76 X m n) (Za9 X m n)).Ok:=
 Zh.withGoM (N:=20) (S:=Za8 X m n) Za7 (by kernel_rfl) fun hC=>⟨rfl,fun i hi _=>Zlm X m n i hC hi⟩
theorem Zln (X X':Z7) (m:Int) (n l g d:Nat) (G Hd:List Z6) (C:Prop) (XF:Nat->Z7) (GF HF LF:Nat->List Z6) (hC:C) (hm:1<=m/\m<=4) (hG:G=GF n) (hH:Hd=HF n) (hX':X'={ XF n with L:=LF n}) (hl:l=X'.L.length) (hg:g=G.length) (hd:d=Hd.length):
  evF (Zaa X m n C fun i=>Z8V (XF i) X.L n (GF i) (HF i) (LF i)) 20 39 [.agg (X.c (slH 0 n)),.int .i64 m] ⟨1,[(0,.rows 70 n (Z4 X.L))]⟩ (ZX 1 (.ret (.tuple [.agg (X'.c (slH 1 l)),slH 3 d,slH 2 g,.int .i64 0])) 4 [(0,.rows 70 n (Z4 X.L)),(1,.rows 70 l (Z4 X'.L)),(2,.rows 70 g (Z4 G)),(3,.rows 70 d (Z4 Hd))]):=by
 refine @Eq.mpr _ (let q1:=decide (n=n);let q2:=Z4 X.L;let q3:=X.t;let q4:=q3.fund;let q5:=q3.index;let q6:=q3.cap;let q7:=q3.dust;let q8:=q3.fee;let q9:=q3.delay;let q10:=q3.k0;let q11:=q3.k1;let q12:=[X.a0,X.a1];let q13:=[X.i0,X.i1];let q14:=Y2.t;let q15:=[(0:Int),0];let q16:=X'.t;let q17:=[(2,3),(3,4),(1,5)];
 Z0 (decide (m<1)) False
 (Z0 (decide (m>4)) False
 (Z0 (decide (m=m))
 (Z0 q1
 (Zc 1 [(2,2),(1,1)] n q2 q2/\
 q4=q4/\
 Z0 (decide (q5=q5))
 (Z0 (decide (q6=q6))
 (Z0 (decide (q7=q7))
 (Z0 (decide (q8=q8))
 (Z0 (decide (q9=q9))
 (q10=q10/\
 q11=q11/\
 Z0 (decide (X.side=X.side))
 (Z0 (decide (X.res=X.res))
 (q12=q12/\
 q13=q13/\
 Z0 q1
 (Z0 (decide (n<=n))
 (Za=q14.fund/\
 Za=q14.k0/\
 Za=q14.k1/\
 q15=[Y2.a0,Y2.a1]/\
 q15=[Y2.i0,Y2.i1]/\
 C/\
 ∀(i:Nat),
 let q35:=(XF i).t;let q36:=decide (List.length (LF i)=l);let q37:=decide (List.length (HF i)=d);let q38:=decide (List.length (GF i)=g);
 i<=n->(∀(j:Nat),j<i->(fun (i:Nat)=>i<n) j)->(i=n->q35.fund=q16.fund/\Z0 (decide (q35.index=q16.index)) (Z0 (decide (q35.cap=q16.cap)) (Z0 (decide (q35.dust=q16.dust)) (Z0 (decide (q35.fee=q16.fee)) (Z0 (decide (q35.delay=q16.delay)) (q35.k0=q16.k0/\q35.k1=q16.k1/\Z0 (decide ((XF i).side=X'.side)) (Z0 (decide ((XF i).res=X'.res)) ([(XF i).a0,(XF i).a1]=[X'.a0,X'.a1]/\[(XF i).i0,(XF i).i1]=[X'.i0,X'.i1]/\Z0 q36 (Z0 (decide (l<=List.length (LF i))) (Z0 q37 (Z0 (decide (d<=List.length (HF i))) (Z0 q38 (Z0 (decide (g<=List.length (GF i))) (Z0 q1 (Zc 1 q17 n q2 q2/\Z0 q36 (Zc 1 q17 l (Z4 X'.L) (Z4 (LF i))/\Z0 q38 (Zc 1 q17 g (Z4 G) (Z4 (GF i))/\Z0 q37 (Zc 1 q17 d (Z4 Hd) (Z4 (HF i))/\True) False) False) False) False) False) False) False) False) False) False) False) False) False) False) False) False) False)/\(False->False)/\(False->False))
 False)
 False)
 False)
 False)
 False)
 False)
 False)
 False)
 False)
 False)
 False))) (by kernel_rfl) ?_
 conv=>zeta
 try simp only [Zi]
 try simp only [Zj]
 try simp only [Zf]
 try simp only [Zk]
 try simp only [Zl]
 try simp only [Zg]
 try simp only [Int.toNat_natCast,Nat.zero_add,true_and,and_true,Nat.le_refl]
 subst hG hH hX'
 have hR:∀τ k (Q:List Z6),Zc 1 τ k (Z4 Q) (Z4 Q):=fun τ k Q=>Zp fun _ _=>rfl
 refine ⟨by omega,by omega,hR _ _ _,rfl,rfl,rfl,rfl,rfl,hC,fun i hi _=>⟨fun he=> ?_,fun h=>h,fun h=>h⟩⟩
 subst he
 repeat' apply And.intro
 all_goals first|rfl|exact hR _ _ _|exact hl.symm|exact hg.symm|exact hd.symm|exact Nat.le_of_eq hl|exact Nat.le_of_eq hg|exact Nat.le_of_eq hd
theorem Zlo (X:Z7) (m:Int) (n:Nat) (C:Prop) (hm:¬(1<=m/\m<=4)):
  evF (Zaa X m n C fun _=>Z8V X [] n [] [] []) 20 39 [.agg (X.c (slH 0 n)),.int .i64 m] ⟨1,[(0,.rows 70 n (Z4 X.L))]⟩ (ZX 1 (.ret (.tuple [.agg (X.c (slH 0 n)),.nilslice,.nilslice,.int .i64 2])) 1 [(0,.rows 70 n (Z4 X.L))]):=by
 refine @Eq.mpr _ (let q1:=X.t;let q2:=q1.fund;let q3:=q2=q2;let q4:=q1.index;let q5:=decide (q4=q4);let q6:=q1.cap;let q7:=decide (q6=q6);let q8:=q1.dust;let q9:=decide (q8=q8);let q10:=q1.fee;let q11:=decide (q10=q10);let q12:=q1.delay;let q13:=decide (q12=q12);let q14:=q1.k0;let q15:=q14=q14;let q16:=q1.k1;let q17:=q16=q16;let q18:=decide (X.side=X.side);let q19:=decide (X.res=X.res);let q20:=[X.a0,X.a1];let q21:=q20=q20;let q22:=[X.i0,X.i1];let q23:=q22=q22;let q24:=decide (n=n);let q25:=decide (n<=n);let q26:=Z4 X.L;let q27:=q3/\Z0 q5 (Z0 q7 (Z0 q9 (Z0 q11 (Z0 q13 (q15/\q17/\Z0 q18 (Z0 q19 (q21/\q23/\Z0 q24 (Z0 q25 (Z0 q24 (Zc 1 [] n q26 q26/\True) False) False) False) False) False) False) False) False) False) False;let q28:=Y2.t;let q29:=[(0:Int),0];
 Z0 (decide (m<1)) q27 (Z0 (decide (m>4)) q27 (Z0 (decide (m=m)) (Z0 q24 (Zc 1 [(2,2),(1,1)] n q26 q26/\q3/\Z0 q5 (Z0 q7 (Z0 q9 (Z0 q11 (Z0 q13 (q15/\q17/\Z0 q18 (Z0 q19 (q21/\q23/\Z0 q24 (Z0 q25 (Za=q28.fund/\Za=q28.k0/\Za=q28.k1/\q29=[Y2.a0,Y2.a1]/\q29=[Y2.i0,Y2.i1]/\C/\∀(i:Nat),i<=n->(∀(j:Nat),j<i->(fun (i:Nat)=>i<n) j)->(i=n->q3/\Z0 q5 (Z0 q7 (Z0 q9 (Z0 q11 (Z0 q13 (q15/\q17/\Z0 q18 (Z0 q19 (q21/\q23/\False) False) False) False) False) False) False) False)/\(False->False)/\(False->False)) False) False) False) False) False) False) False) False) False) False) False))) (by kernel_rfl) ?_
 conv=>zeta
 try simp only [Zi]
 try simp only [Zj]
 try simp only [Zf]
 try simp only [Zk]
 try simp only [Zl]
 try simp only [Zg]
 try simp only [Int.toNat_natCast,Nat.zero_add,true_and,and_true,Nat.le_refl]
 have hR:∀τ k (Q:List Z6),Zc 1 τ k (Z4 Q) (Z4 Q):=fun τ k Q=>Zp fun _ _=>rfl
 exact ⟨fun _=>hR _ _ _,fun h1=>⟨fun _=>hR _ _ _,fun h2=>absurd ⟨by omega,by omega⟩ hm⟩⟩
def Z8W (c:Bool):Y8:=fun args h K=>match args with
 | [.agg [_,_,_,_,_,_,_,_,_,_,_,_,.nslice ⟨b,0,70,0,0⟩ 70 _ _],_]=>frA [b] h 20 args fun Bs a=>match Bs,a with
  | [.rows 70 n f],[.agg cs,.int .i64 m]=>
   ∃X,LD cs n f X/\X.Inv Zr/\(match c with
    | true=>(1<=m/\m<=4)/\K (.ret (.tuple [.agg ((stpX X m).c (slH h.next (stpX X m).L.length)),slH (h.next+2) (Yp m X.L).length,slH (h.next+1) (ZV m X.L).length,.int .i64 0])) ⟨h.next+3,(b,.rows 70 X.L.length (Z4 X.L))::(h.next,.rows 70 (stpX X m).L.length (Z4 (stpX X m).L))::(h.next+1,.rows 70 (ZV m X.L).length (Z4 (ZV m X.L)))::(h.next+2,.rows 70 (Yp m X.L).length (Z4 (Yp m X.L)))::Ye h.bs b⟩
    | false=>¬(1<=m/\m<=4)/\K (.ret (.tuple [.agg (X.c (slH b X.L.length)),.nilslice,.nilslice,.int .i64 2])) ⟨h.next,(b,.rows 70 X.L.length (Z4 X.L))::Ye h.bs b⟩)
  | _,_=>False
 | _=>False
theorem Zbx (c:Bool) (args:List AV) (h:Z9) (K:KO) (hl:Z8W c args h K):Zn PP 39 args h K:=by
 unfold Z8W at hl
 split at hl
 ·refine Spec.fsumm hl fun Bs a hlen hK0=> ?_
  split at hK0
  ·rename_i cs n f m
   obtain ⟨X,⟨rfl,rfl,rfl⟩,hI,hK⟩:=hK0
   cases c with
   | true=>
    obtain ⟨hm,hK1⟩:=hK
    have e:=Z9U (X:=X) hm
    have hv:=Zln X (stpX X m) m X.L.length _ _ _ (ZV m X.L) (Yp m X.L) (Z76 X m X.L.length) (stX X m) (fun i=>ZV m (X.L.take i)) (fun i=>Yp m (X.L.take i)) (fun i=>Yo m (X.L.take i)) (hI.st hm) hm (by rw [List.take_length]) (by rw [List.take_length]) (by dsimp only;rw [List.take_length];exact e) rfl rfl rfl
    exact ⟨_,_,_,_,_,.evM (Zeu X m _) hv,by simp,.ret _ _ rfl,.cons _ _ _ _ _ _ rfl (.rows _ _ _ (fun _ _=>rfl)) (.cons _ _ _ _ _ _ rfl (.rows _ _ _ (fun _ _=>rfl)) (.cons _ _ _ _ _ _ rfl (.rows _ _ _ (fun _ _=>rfl)) (.cons _ _ _ _ _ _ rfl (.rows _ _ _ (fun _ _=>rfl)) .nil))),hK1⟩
   | false=>
    obtain ⟨hm,hK2⟩:=hK
    have hC:(Zaa X m X.L.length False fun _=>Z8V X [] X.L.length [] [] []).Ok:=Zh.withGoM (N:=20) (S:=fun i=>Za8 X m X.L.length i) Za7 (by kernel_rfl) fun h=>h.elim
    exact ⟨_,_,_,_,_,.evM hC (Zlo X m _ False hm),by simp,.ret _ _ rfl,.cons _ _ _ _ _ _ rfl (.rows _ _ _ (fun _ _=>rfl)) .nil,hK2⟩
  ·exact hK0.elim
 ·exact hl.elim
end Go.Tk
end
