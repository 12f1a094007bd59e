/- K: part 7 of an engine (a symbolic evaluator, proved against the model) and of the walk by it. -/
import Derived.Test.YtjahlbmhknicjaaGreatK6
set_option linter.unusedVariables false
set_option linter.unusedSimpArgs false
set_option maxRecDepth 100000
set_option maxHeartbeats 0
section
namespace Go.Tk
open IntKind (i64 u8 u32 u64 wrap)
noncomputable def ZgX:Zh:=G0.withP 105 bkS
theorem ZgY:ZgX.Ok:=Zh.withP_ok Zu Zgn
def Zi8 (X:Z7) (L:List Z6) (n:Nat) (G Lf:List Z6):Z9:=⟨5,[(0,.rows 70 n (Z4 L)),(1,.flat (X.c (slH 0 n))),(2,.flat (Y2.c .nilslice)),(3,.rows 70 G.length (Z4 G)),(4,.rows 70 Lf.length (Z4 Lf))]⟩
def ZgZ (X:Z7) (L:List Z6) (n i:Nat) (G Lf:List Z6):St:=⟨53,[(6,.int .i64 i),(1,pt 1),(5,slH 3 G.length),(4,slH 4 Lf.length),(2,pt 2)],Zi8 X L n G Lf,[]⟩
def Zev (X:Z7) (L:List Z6) (n:Nat) (G Lf:List Z6):St:=⟨53,[(1,pt 1),(5,slH 3 G.length),(4,slH 4 Lf.length),(2,pt 2)],Zi8 X L n G Lf,[]⟩
theorem Zlp (X X1:Z7) (L:List Z6) (n i:Nat) (x:Z6) (G Lf G1 Lf1:List Z6) (Z1 Z2:Prop) (hn:n<1000) (hL:L.length=n) (hi:i<=n) (hx:i<n->L.getD i Z8=x) (hst:i<n->1<=x.stage/\x.stage<=9) (hb:G.length<1000/\Lf.length<1000) (hG:i<n->G1=G++X4 (decide (YE x.own x.stage=0)) x) (hLf:i<n->Lf1=Lf++X4 (decide (¬YE x.own x.stage=0)) (brH x)) (hX1:i<n->X1=if YE x.own x.stage=0 then { X with i1:=X.i1-1} else X) (hw: -1000<=X.i1/\X.i1<=2147483648) (hZ1:i<n->Z1) (hZ2:i=n->Z2):
  ZB ZgX 20 41 0 1 (ZgZ X L n i G Lf) (rdM 1 0 9 (ZgZ X1 L n (i+1) G1 Lf1) (Zev X L n G Lf) (Zev X L n G Lf) (Zev X L n G Lf) Z1 Z2 False False):=by
 refine @Eq.mpr _ (let q1:=0+Int.toNat (↑i:Int);let q2:=List.getD L q1 Z8;let q3:=q2.stage;let q4:=q2.own;let q5:=YE q4 q3;let q6:=List.length G;let q7:=decide (q6=q6);let q8:=q6+1;let q9:=decide (wrap i64 ((↑i:Int)+1)=(↑(i+1):Int));let q10:=List.length G1;let q11:=decide (q8=q10);let q12:=List.length Lf;let q13:=List.length Lf1;let q14:=decide (q12=q13);let q15:=decide (n=n);let q16:=[(1,1)];let q17:=(2,2)::(4,4)::(3,7)::q16;let q18:=Z4 L;let q19:=X.t;let q20:=q19.fund;let q21:=X1.t;let q22:=q20=q21.fund;let q23:=q19.index;let q24:=decide (q23=q21.index);let q25:=q19.cap;let q26:=decide (q25=q21.cap);let q27:=q19.dust;let q28:=decide (q27=q21.dust);let q29:=q19.fee;let q30:=decide (q29=q21.fee);let q31:=q19.delay;let q32:=decide (q31=q21.delay);let q33:=q19.k0;let q34:=q33=q21.k0;let q35:=q19.k1;let q36:=q35=q21.k1;let q37:=X.side;let q38:=decide (q37=X1.side);let q39:=X.res;let q40:=decide (q39=X1.res);let q41:=[X.a0,X.a1];let q42:=q41=[X1.a0,X1.a1];let q43:=[X1.i0,X1.i1];let q44:=decide (n<=n);let q45:=Y2.t;let q46:=q45.fund;let q47:=q46=q46;let q48:=q45.k0;let q49:=q48=q48;let q50:=q45.k1;let q51:=q50=q50;let q52:=[Y2.a0,Y2.a1];let q53:=q52=q52;let q54:=[Y2.i0,Y2.i1];let q55:=q54=q54;let q56:=Z4 G;let q57:=AV.bool q4;let q58:=AV.int i64 q2.id;let q59:=AV.int i64 q2.amount;let q60:=AV.arr u8 32 q2.hash;let q61:=AV.int i64 q2.expiry;let q62:=[AV.int i64 q2.fin,AV.arr u8 32 q2.secret];let q63:=Z4 Lf1;let q64:=Z4 Lf;let q65:=decide (q12=q12);let q66:=q12+1;let q67:=decide (q66*112<=140737488355328);let q68:=decide (q6=q10);let q69:=decide (q10<=q6);let q70:=decide (q66=q13);let q71:=decide (q13<=q66);let q72:=(3,3)::q16;let q73:=(2,2)::(4,7)::q72;let q74:=Zc 1 q73 n q18 q18;let q75:=[X.i0,X.i1];let q76:=q75=q43;let q77:=Zc 1 q73 q10 (Z4 G1) q56;let q78:=AV.int i64 q5;let q79:=(2,2)::(4,4)::q72;
 Z0 (decide ((↑i:Int)<(↑n:Int)))
 (Z0 (decide (0<=(↑i:Int)/\(↑i:Int)<(↑n:Int)))
 (Z0 (decide (q1<n))
 (Z0 (decide (1<=q3/\q3<=9))
 (Z0 (q5==0) (Z0 q7 (Z0 (decide (q8*112<=140737488355328)) (Z0 q9 (Z0 q11 (Z0 (decide (q10<=q8)) (Z0 q14 (Z0 (decide (q13<=q12)) (Z0 q15 (Zc 1 q17 n q18 q18/\q22/\Z0 q24 (Z0 q26 (Z0 q28 (Z0 q30 (Z0 q32 (q34/\q36/\Z0 q38 (Z0 q40 (q42/\[X.i0,wrap i64 (X.i1-1)]=q43/\Z0 q15 (Z0 q44 (q47/\q49/\q51/\q53/\q55/\Z0 q11 (Zc 1 q17 q10 (Z4 G1) (ZZ q6 q56 (YG (q57::q58::q59::q60::q61::AV.int i64 q3::q62) 0 70))/\Z0 q14 (Zc 1 q17 q13 q63 q64/\Z1) False) False) False) False) False) False) False) False) False) False) False) False) False) False) False) False) False) False) False)
 (Z0 (q5==5) (Z0 q65 (Z0 q67 (Z0 q9 (Z0 q68 (Z0 q69 (Z0 q70 (Z0 q71 (Z0 q15 (q74/\q22/\Z0 q24 (Z0 q26 (Z0 q28 (Z0 q30 (Z0 q32 (q34/\q36/\Z0 q38 (Z0 q40 (q42/\q76/\Z0 q15 (Z0 q44 (q47/\q49/\q51/\q53/\q55/\Z0 q68 (q77/\Z0 q70 (Zc 1 q73 q13 q63 (ZZ q12 q64 (YG [q57,q58,q59,q60,q61,q78,AV.int i64 0,AV.arr u8 32 Za] 0 70))/\Z1) False) False) False) False) False) False) False) False) False) False) False) False) False) False) False) False) False) False) False)
 (Z0 q65 (Z0 q67 (Z0 q9 (Z0 q68 (Z0 q69 (Z0 q70 (Z0 q71 (Z0 q15 (q74/\q22/\Z0 q24 (Z0 q26 (Z0 q28 (Z0 q30 (Z0 q32 (q34/\q36/\Z0 q38 (Z0 q40 (q42/\q76/\Z0 q15 (Z0 q44 (q47/\q49/\q51/\q53/\q55/\Z0 q68 (q77/\Z0 q70 (Zc 1 q73 q13 q63 (ZZ q12 q64 (YG (q57::q58::q59::q60::q61::q78::q62) 0 70))/\Z1) False) False) False) False) False) False) False) False) False) False) False) False) False) False) False) False) False) False) False)))
 False)
 False)
 False)
 (Z0 q7 (Z0 (decide (q6<=q6)) (Z0 q65 (Z0 (decide (q12<=q12)) (Z0 q15 (Zc 1 q79 n q18 q18/\q20=q20/\Z0 (decide (q23=q23)) (Z0 (decide (q25=q25)) (Z0 (decide (q27=q27)) (Z0 (decide (q29=q29)) (Z0 (decide (q31=q31)) (q33=q33/\q35=q35/\Z0 (decide (q37=q37)) (Z0 (decide (q39=q39)) (q41=q41/\q75=q75/\Z0 q15 (Z0 q44 (q47/\q49/\q51/\q53/\q55/\Z0 q7 (Zc 1 q79 q6 q56 q56/\Z0 q65 (Zc 1 q79 q12 q64 q64/\Z2) False) False) False) False) False) False) False) False) False) False) False) False) False) False) False) False)) (by kernel_rfl) ?_
 conv=>zeta
 try simp only [Zi]
 try simp only [Zj]
 try simp only [Zf]
 try simp only [Zk]
 try simp only [Zl]
 try simp only [Zg]
 try simp only [Int.toNat_natCast,Nat.zero_add,true_and,and_true,Nat.le_refl]
 refine ⟨fun hc=> ?_,fun hc=> ?_⟩
 ·have hlt:i<n:=by omega
  rw [hx hlt]
  have hG:=hG hlt
  have hLf:=hLf hlt
  have hX1:=hX1 hlt
  have hst:=hst hlt
  have hwr:i64.wrap ((i:Int)+1)=((i+1:Nat):Int):=by rw [w64 (by omega)];omega
  have hwi:i64.wrap (X.i1-1)=X.i1-1:=w64 (by omega)
  rw [hwr,hwi]
  have hR:∀τ k (Q:List Z6),Zc 1 τ k (Z4 Q) (Z4 Q):=fun τ k Q=>Zp fun _ _=>rfl
  have hC:∀τ (Q:List Z6) (y:Z6),Zc 1 τ (Q++[y]).length (Z4 (Q++[y])) (ZZ Q.length (Z4 Q) (YG y.c 0 70)):=fun τ Q y=>Zp fun j hj=>Yk rfl (fun _ _=>rfl) (by simpa using hj)
  refine ⟨by omega,hlt,hst,fun h0=> ?_,fun h0=>⟨fun h5=> ?_,fun h5=> ?_⟩⟩
  ·have h0:YE x.own x.stage=0:=by simpa using h0
   rw [decide_eq_true h0] at hG
   rw [decide_eq_false (fun h=>h h0)] at hLf
   rw [if_pos h0] at hX1
   simp only [X4,List.append_nil] at hG hLf
   subst hG hLf hX1
   repeat' apply And.intro
   all_goals first|omega|rfl|exact hZ1 hlt|exact hC _ _ _|exact hR _ _ _|(simp;done)
  all_goals
   have h0:¬YE x.own x.stage=0:=by simpa using h0
   rw [decide_eq_false h0] at hG
   rw [decide_eq_true h0] at hLf
   rw [if_neg h0] at hX1
   simp only [X4,List.append_nil] at hG hLf
   subst hG hX1
  ·have h5:YE x.own x.stage=5:=by simpa using h5
   rw [ZhZ h5] at hLf
   rw [h5]
   subst hLf
   repeat' apply And.intro
   all_goals first|omega|rfl|exact hZ1 hlt|exact hC _ _ ⟨x.own,x.id,x.amount,x.hash,x.expiry,5,0,Za⟩|exact hR _ _ _|(simp;done)
  ·have h5:¬YE x.own x.stage=5:=by simpa using h5
   have hb5:brH x=⟨x.own,x.id,x.amount,x.hash,x.expiry,YE x.own x.stage,x.fin,x.secret⟩:=by unfold brH;rw [if_neg h5]
   rw [hb5] at hLf
   subst hLf
   repeat' apply And.intro
   all_goals first|omega|rfl|exact hZ1 hlt|exact hC _ _ ⟨x.own,x.id,x.amount,x.hash,x.expiry,YE x.own x.stage,x.fin,x.secret⟩|exact hR _ _ _|(simp;done)
 ·repeat' apply And.intro
  all_goals first|omega|rfl|exact hZ2 (by omega)|exact Zp fun _ _=>rfl
def Zab (X:Z7) (n i:Nat):St:=ZgZ (bkX X i) X.L n i (ZL (X.L.take i)) (Ym (X.L.take i))
def Zac (X:Z7) (n i:Nat):St:=Zev (bkX X i) X.L n (ZL (X.L.take i)) (Ym (X.L.take i))
theorem Zlq (X:Z7) (n i:Nat) (hC:Z8O X n) (hi:i<=n):ZB ZgX 20 41 0 1 (Zab X n i) (rdM 1 0 9 (Zab X n (i+1)) (Zac X n i) (Zac X n i) (Zac X n i) (i<n/\i<n) (i=n) False False):=by
 obtain ⟨h1,h2,h3,h4⟩:=id hC
 have hlt:i<n->i<X.L.length:=fun h=>by omega
 have l0:(X.L.take i).length<=16:=by rw [List.length_take];omega
 have l1:(ZL (X.L.take i)).length<=(X.L.take i).length:=List.length_filter_le _ _
 have l2:(Ym (X.L.take i)).length<=(X.L.take i).length:=by unfold Ym;rw [List.length_map];exact List.length_filter_le _ _
 have e:∀k,(bkX X k).i1=X.i1-(ZL (X.L.take k)).length:=fun _=>rfl
 refine Zlp (bkX X i) (bkX X (i+1)) X.L n i (X.L.getD i Z8) _ _ _ _ (i<n/\i<n) (i=n) (by omega) h1 hi (fun _=>rfl) (fun h=>h3 _ (ZD (hlt h))) ⟨by omega,by omega⟩ (fun h=> ?_) (fun h=> ?_) (fun h=> ?_) (by rw [e];omega) (fun h=>⟨h,h⟩) (fun h=>h)
 ·rw [Y9 (hlt h),U6]
 ·rw [Y9 (hlt h),Z3z]
 ·unfold bkX
  rw [Y9 (hlt h),U6]
  by_cases q:YE (X.L.getD i Z8).own (X.L.getD i Z8).stage=0
  ·rw [if_pos q,decide_eq_true q,X4,List.length_append]
   congr 1
   show X.i1-((_+1:Nat):Int)=_
   dsimp only;omega
  ·rw [if_neg q,decide_eq_false q,X4,List.append_nil]
noncomputable def Zi9 (X:Z7) (n:Nat) (C:Prop) (E:Nat->St):Zh:=ZgX.withL 41 0 (goM 1 (ZgZ X X.L n 0 [] []) C (Yu 0 n 9 (fun i=>i<n) (fun i=>i=n) (fun _=>False) (fun _=>False) E E E))
theorem Zew (X:Z7) (n:Nat):(Zi9 X n (Z8O X n) (Zac X n)).Ok:=
 Zh.withGoM (N:=20) (S:=Zab X n) ZgY (by kernel_rfl) fun hC=>⟨by unfold Zab;rw [Z77];rfl,fun i hi _=>Zlq X n i hC hi⟩
theorem Zlr (X X':Z7) (n l g:Nat) (G:List Z6) (C:Prop) (XF:Nat->Z7) (GF LF:Nat->List Z6) (hC:C) (hG:G=GF n) (hX':X'={ XF n with L:=LF n}) (hl:l=X'.L.length) (hg:g=G.length):
  evF (Zi9 X n C fun i=>Zev (XF i) X.L n (GF i) (LF i)) 20 41 [.agg (X.c (slH 0 n))] ⟨1,[(0,.rows 70 n (Z4 X.L))]⟩ (ZX 1 (.ret (.tuple [.agg (X'.c (slH 1 l)),slH 2 g])) 3 [(0,.rows 70 n (Z4 X.L)),(1,.rows 70 l (Z4 X'.L)),(2,.rows 70 g (Z4 G))]):=by
 refine @Eq.mpr _ (let q1:=decide (n=n);let q2:=Z4 X.L;let q3:=X.t;let q4:=q3.fund;let q5:=q3.index;let q6:=q3.cap;let q7:=q3.dust;let q8:=q3.fee;let q9:=q3.delay;let q10:=q3.k0;let q11:=q3.k1;let q12:=[X.a0,X.a1];let q13:=[X.i0,X.i1];let q14:=Y2.t;let q15:=[(0:Int),0];let q16:=X'.t;let q17:=[(2,3),(1,4)];
 Z0 q1
 (Zc 1 [(2,2),(1,1)] n q2 q2/\
 q4=q4/\
 Z0 (decide (q5=q5))
 (Z0 (decide (q6=q6))
 (Z0 (decide (q7=q7))
 (Z0 (decide (q8=q8))
 (Z0 (decide (q9=q9))
 (q10=q10/\
 q11=q11/\
 Z0 (decide (X.side=X.side))
 (Z0 (decide (X.res=X.res))
 (q12=q12/\
 q13=q13/\
 Z0 q1
 (Z0 (decide (n<=n))
 (Za=q14.fund/\
 Za=q14.k0/\
 Za=q14.k1/\
 q15=[Y2.a0,Y2.a1]/\
 q15=[Y2.i0,Y2.i1]/\
 C/\
 ∀(i:Nat),
 let q35:=(XF i).t;let q36:=decide (List.length (LF i)=l);let q37:=decide (List.length (GF i)=g);
 i<=n->(∀(j:Nat),j<i->(fun (i:Nat)=>i<n) j)->(i=n->q35.fund=q16.fund/\Z0 (decide (q35.index=q16.index)) (Z0 (decide (q35.cap=q16.cap)) (Z0 (decide (q35.dust=q16.dust)) (Z0 (decide (q35.fee=q16.fee)) (Z0 (decide (q35.delay=q16.delay)) (q35.k0=q16.k0/\q35.k1=q16.k1/\Z0 (decide ((XF i).side=X'.side)) (Z0 (decide ((XF i).res=X'.res)) ([(XF i).a0,(XF i).a1]=[X'.a0,X'.a1]/\[(XF i).i0,(XF i).i1]=[X'.i0,X'.i1]/\Z0 q36 (Z0 (decide (l<=List.length (LF i))) (Z0 q37 (Z0 (decide (g<=List.length (GF i))) (Z0 q1 (Zc 1 q17 n q2 q2/\Z0 q36 (Zc 1 q17 l (Z4 X'.L) (Z4 (LF i))/\Z0 q37 (Zc 1 q17 g (Z4 G) (Z4 (GF i))/\True) False) False) False) False) False) False) False) False) False) False) False) False) False) False)/\(False->False)/\(False->False))
 False)
 False)
 False)
 False)
 False)
 False)
 False)
 False)
 False)
 False) (by kernel_rfl) ?_
 conv=>zeta
 try simp only [Zi]
 try simp only [Zj]
 try simp only [Zf]
 try simp only [Zk]
 try simp only [Zl]
 try simp only [Zg]
 try simp only [Int.toNat_natCast,Nat.zero_add,true_and,and_true,Nat.le_refl]
 subst hG hX'
 have hR:∀τ k (Q:List Z6),Zc 1 τ k (Z4 Q) (Z4 Q):=fun τ k Q=>Zp fun _ _=>rfl
 refine ⟨hR _ _ _,rfl,rfl,rfl,rfl,rfl,hC,fun i hi _=>⟨fun he=> ?_,fun h=>h,fun h=>h⟩⟩
 subst he
 repeat' apply And.intro
 all_goals first|rfl|exact hR _ _ _|exact hl.symm|exact hg.symm|exact Nat.le_of_eq hl|exact Nat.le_of_eq hg
def Z5Q:Y8:=fun args h K=>match args with
 | [.agg [_,_,_,_,_,_,_,_,_,_,_,_,.nslice ⟨b,0,70,0,0⟩ 70 _ _]]=>frA [b] h 20 args fun Bs a=>match Bs,a with
  | [.rows 70 n f],[.agg cs]=>
   ∃X,LD cs n f X/\X.Inv Zr/\K (.ret (.tuple [.agg ((brkX X).c (slH h.next (brkX X).L.length)),slH (h.next+1) (ZL X.L).length])) ⟨h.next+2,(b,.rows 70 X.L.length (Z4 X.L))::(h.next,.rows 70 (brkX X).L.length (Z4 (brkX X).L))::(h.next+1,.rows 70 (ZL X.L).length (Z4 (ZL X.L)))::Ye h.bs b⟩
  | _,_=>False
 | _=>False
theorem Z8X (args:List AV) (h:Z9) (K:KO) (hl:Z5Q args h K):Zn PP 41 args h K:=by
 unfold Z5Q at hl
 split at hl
 ·refine Spec.fsumm hl fun Bs a hlen hK0=> ?_
  split at hK0
  ·rename_i cs n f
   obtain ⟨X,⟨rfl,rfl,rfl⟩,hI,hK⟩:=hK0
   have e:=Z9V X
   have hv:=Zlr X (brkX X) X.L.length _ _ (ZL X.L) (Z8O X X.L.length) (bkX X) (fun i=>ZL (X.L.take i)) (fun i=>Ym (X.L.take i)) hI.bk (by rw [List.take_length]) (by dsimp only;rw [List.take_length];exact e) rfl rfl
   exact ⟨_,_,_,_,_,.evM (Zew X _) hv,by simp,.ret _ _ rfl,.cons _ _ _ _ _ _ rfl (.rows _ _ _ (fun _ _=>rfl)) (.cons _ _ _ _ _ _ rfl (.rows _ _ _ (fun _ _=>rfl)) (.cons _ _ _ _ _ _ rfl (.rows _ _ _ (fun _ _=>rfl)) .nil)),hK⟩
  ·exact hK0.elim
 ·exact hl.elim
end Go.Tk
end
section
namespace Go.Tk
open IntKind (i64 u8 u32 u64 wrap)
noncomputable def Zh0:Zh:=(G0.withP 100 sdS).withP 106 Zbl
theorem Zad:Zh0.Ok:=Zh.withP_ok (Zh.withP_ok Zu Z8U) ZdT
def slP (b n:Nat):AV:=.nslice ⟨b,0,36,0,0⟩ 36 n n
def Zls (X:Z7) (k ow:Int) (pt:List Int) (a b:Int) (P:List X5):Z9:=⟨4,[(0,.flat (X.c (.vrows 70 X.L.length (Z4 X.L) X.L.length))),(1,.flat srZ),(2,.flat [.int .i64 k,.int .i64 ow,.arr .u8 32 pt,.arr .i64 2 [a,b],slP 3 P.length]),(3,.rows 36 P.length (ZM P))]⟩
def Zh1 (X:Z7) (o:Bool) (k ow:Int) (pt:List Int) (i:Nat) (a b:Int) (P:List X5):St:=⟨113,[(11,.int .i64 i),(4,.ptr (some ⟨0,0,0,0,0⟩)),(1,.bool o),(10,.ptr (some ⟨2,0,0,0,0⟩)),(8,.ptr (some ⟨1,0,0,0,0⟩))],Zls X k ow pt a b P,[]⟩
def Z8Y (k ow:Int) (pt:List Int) (a b:Int) (P:List X5):St:=⟨113,[(10,.ptr (some ⟨1,0,0,0,0⟩)),(8,.ptr (some ⟨0,0,0,0,0⟩))],⟨3,[(0,.flat srZ),(1,.flat [.int .i64 k,.int .i64 ow,.arr .u8 32 pt,.arr .i64 2 [a,b],slP 2 P.length]),(2,.rows 36 P.length (ZM P))]⟩,[]⟩
theorem Zlt (X:Z7) (o:Bool) (k ow:Int) (pt:List Int) (n i:Nat) (a b a1 b1:Int) (P P1:List X5) (x:Z6) (Z1 Z2:Prop) (hn:n<1000) (hL:X.L.length=n) (hi:i<=n) (hX:YX X) (hP:P.length<1000) (hx:i<n->X.L.getD i Z8=x) (hst:i<n->1<=x.stage/\x.stage<=9) (hP1:i<n->P1=P++Ze1 (Xj x.own x.stage o) (Z0w X.side x)) (ha:i<n->(a1,b1)=srP X.side o (a,b) x) (hw:i<n->(-1152921504606846976<=a/\a<=1152921504606846976)/\(-1152921504606846976<=b/\b<=1152921504606846976)/\0<=x.amount/\x.amount<=1152921504606846976) (hZ1:i<n->Z1) (hZ2:i=n->Z2):
  ZB Zh0 20 42 0 0 (Zh1 X o k ow pt i a b P) (rdM 0 0 9 (Zh1 X o k ow pt (i+1) a1 b1 P1) (Z8Y k ow pt a b P) (Z8Y k ow pt a b P) (Z8Y k ow pt a b P) Z1 Z2 False False):=by
 refine @Eq.mpr _ (let q1:=X.L;let q2:=List.length q1;let q3:=X.t;let q4:=q3.fund;let q5:=q3.index;let q6:=q3.cap;let q7:=q3.dust;let q8:=q3.fee;let q9:=q3.delay;let q10:=q3.k0;let q11:=q3.k1;let q12:=X.side;let q13:=X.res;let q14:=[X.a0,X.a1];let q15:=[X.i0,X.i1];let q16:=Z4 q1;let q17:=List.getD q1 (Int.toNat (↑i:Int)) Z8;let q18:=q17.own;let q19:=q17.stage;let q20:=Xj q18 q19 o;let q21:=List.length P;let q22:=decide (q21=q21);let q23:=q21+1;let q24:=decide (wrap i64 ((↑i:Int)+1)=(↑(i+1):Int));let q25:=decide (o=o);let q26:=q4=q4;let q27:=decide (q5=q5);let q28:=decide (q6=q6);let q29:=decide (q7=q7);let q30:=decide (q8=q8);let q31:=decide (q9=q9);let q32:=q10=q10;let q33:=q11=q11;let q34:=decide (q12=q12);let q35:=decide (q13=q13);let q36:=q14=q14;let q37:=q15=q15;let q38:=decide (q2=q2);let q39:=q16=q16;let q40:=[(0:Int),0];let q41:=q40=q40;let q42:=decide (k=k);let q43:=decide (ow=ow);let q44:=[a,b];let q45:=q17.amount;let q46:=[a1,b1];let q47:=List.length P1;let q48:=decide (q23=q47);let q49:=[(1,1),(2,2),(0,0)];let q50:=ZM P;let q51:=decide (q21=q47);let q52:=Z0 q51 (Z0 (decide (q47<=q21)) (Z0 q51 (Zc 0 ((3,3)::q49) q47 (ZM P1) q50/\Z1) False) False) False;let q53:=Z0 q24 (Z0 q25 (q26/\Z0 q27 (Z0 q28 (Z0 q29 (Z0 q30 (Z0 q31 (q32/\q33/\Z0 q34 (Z0 q35 (q36/\q37/\Z0 q38 (q39/\Z0 q38 (Za=Za/\q41/\Z0 q42 (Z0 q43 (pt=pt/\q44=q46/\q52) False) False) False) False) False) False) False) False) False) False) False) False) False;
 Z0 (decide ((↑i:Int)<(↑q2:Int)))
 (Z0 (decide (0<=(↑i:Int)/\(↑i:Int)<(↑q2:Int)))
 (∃(X:Z7),
 let q107:=X.side;let q108:=ZS q107 q18;let q109:=decide (0<=q108/\q108<2);let q110:=0+Int.toNat q108;let q111:=decide (q110<2);let q112:=decide (i64=i64/\q110<2/\q110<2);let q113:=List.set q44 q110 (wrap i64 (List.getD q44 q110 0-q45));let q114:=Z0 q22 (Z0 (decide (q23*64<=140737488355328)) (Z0 q109 (Z0 q111 (Z0 q109 (Z0 q112 (Z0 q24 (Z0 q25 (q26/\Z0 q27 (Z0 q28 (Z0 q29 (Z0 q30 (Z0 q31 (q32/\q33/\Z0 q34 (Z0 q35 (q36/\q37/\Z0 q38 (q39/\Z0 q38 (Za=Za/\q41/\Z0 q42 (Z0 q43 (pt=pt/\q113=q46/\Z0 q48 (Z0 (decide (q47<=q23)) (Z0 q48 (Zc 0 ((3,6)::q49) q47 (ZM P1) (ZZ q21 q50 (YG [AV.int i64 q108,AV.int i64 q17.id,AV.int i64 q45,AV.arr u8 32 q17.hash,AV.int i64 q17.expiry] 0 36))/\Z1) False) False) False) False) False) False) False) False) False) False) False) False) False) False) False) False) False) False) False) False) False) False;let q115:=wrap i64 (1-q108);let q116:=decide (0<=q115/\q115<2);let q117:=0+Int.toNat q115;let q118:=Z0 (q17.fin==1) (Z0 q109 (Z0 q111 (Z0 q109 (Z0 q112 (Z0 q116 (Z0 (decide (q117<2)) (Z0 q116 (Z0 (decide (i64=i64/\q117<2/\q117<List.length q113)) (Z0 q24 (Z0 q25 (q26/\Z0 q27 (Z0 q28 (Z0 q29 (Z0 q30 (Z0 q31 (q32/\q33/\Z0 q34 (Z0 q35 (q36/\q37/\Z0 q38 (q39/\Z0 q38 (Za=Za/\q41/\Z0 q42 (Z0 q43 (pt=pt/\List.set q113 q117 (wrap i64 (List.getD q113 q117 0+q45))=q46/\q52) False) False) False) False) False) False) False) False) False) False) False) False) False) False) False) False) False) False) False) False) False) q53;
 LV [AV.arr u8 32 q4,AV.int i64 q5,AV.int i64 q6,AV.int i64 q7,AV.int i64 q8,AV.int i64 q9,AV.arr u8 32 q10,AV.arr u8 32 q11,AV.int i64 q12,AV.int i64 q13,AV.arr i64 2 q14,AV.arr i64 2 q15,AV.vrows 70 q2 q16 q2] X/\(0<=q107/\q107<=1)/\Z0 (q18==o) (Z0 q20 q114 (Z0 (decide (q19>6)) q118 q53)) (Z0 q20 q114 (Z0 (decide (q19>8)) q118 q53)))
 False)
 (Za=Za/\q41/\Z0 q42 (Z0 q43 (pt=pt/\q44=q44/\Z0 q22 (Z0 (decide (q21<=q21)) (Z0 q22 (Zc 0 [(2,3),(0,1),(1,2)] q21 q50 q50/\Z2) False) False) False) False) False)) (by kernel_rfl) ?_
 conv=>zeta
 try simp only [Zi]
 try simp only [Zj]
 try simp only [Zf]
 try simp only [Zk]
 try simp only [Zl]
 try simp only [Zg]
 try simp only [Int.toNat_natCast,Nat.zero_add,true_and,and_true,Nat.le_refl]
 subst hL
 refine ⟨fun hc=> ?_,fun hc=>⟨XO fun _ _=>rfl,hZ2 (by omega)⟩⟩
 have hlt:i<X.L.length:=by omega
 rw [hx hlt]
 have hst:=hst hlt
 have hP1:=hP1 hlt
 have ha:=ha hlt
 obtain ⟨b1',b2',b3'⟩:=hw hlt
 have hs:X.side=0\/X.side=1:=by obtain ⟨s1,s2⟩:=hX;omega
 have hfr:=Z4F hs x.own
 have hab:[a1,b1]=[(srP X.side o (a,b) x).1,(srP X.side o (a,b) x).2]:=by rw [<-ha]
 have hwr:i64.wrap ((i:Int)+1)=((i+1:Nat):Int):=by rw [w64 (by omega)];omega
 have hwf:i64.wrap (1-ZS X.side x.own)=1-ZS X.side x.own:=w64 (by omega)
 have hR:∀τ k (Q:List X5),Zc 0 τ k (ZM Q) (ZM Q):=fun τ k Q=>XO fun _ _=>rfl
 have hC:∀τ (Q:List X5) (y:X5),Zc 0 τ (Q++[y]).length (ZM (Q++[y])) (ZZ Q.length (ZM Q) (YG y.c 0 36)):=fun τ Q y=>XO fun j hj=>Z1t (by simpa using hj)
 have e:=Qa hfr b1' b2' b3'
 have k1:=Z5L hfr b1' b2' b3'
 have hl2:([a,b].set (ZS X.side x.own).toNat (i64.wrap ([a,b].getD (ZS X.side x.own).toNat 0-x.amount))).length=2:=by simp
 refine ⟨by omega,X,.a rfl,hX, ?_⟩
 rw [hwr,hwf,e,hl2,k1]
 have hpo:Z0w X.side x=⟨ZS X.side x.own,x.id,x.amount,x.hash,x.expiry⟩:=rfl
 have s0:Xj x.own x.stage o=true->P1=P++[⟨ZS X.side x.own,x.id,x.amount,x.hash,x.expiry⟩]/\[a1,b1]=[(if ZS X.side x.own=0 then (a-x.amount,b) else (a,b-x.amount)).1,(if ZS X.side x.own=0 then (a-x.amount,b) else (a,b-x.amount)).2]:=fun h=>by
  unfold srP at hab
  rw [h] at hab hP1
  exact ⟨by rw [hP1,hpo];rfl,hab⟩
 have s1:Xj x.own x.stage o=false->P1=P/\(6<x.stage->x.fin=1->[a1,b1]=if ZS X.side x.own=0 then [a-x.amount,b+x.amount] else [a+x.amount,b-x.amount])/\(6<x.stage->¬x.fin=1->[a1,b1]=[a,b])/\(¬6<x.stage->[a1,b1]=[a,b]):=fun h=>by
  unfold srP at hab
  rw [h] at hab hP1
  simp only at hab
  refine ⟨by rw [hP1];simp [Ze1],fun h6 hf=> ?_,fun h6 hf=> ?_,fun h6=> ?_⟩
  ·rw [if_pos h6,UF hf] at hab;exact hab
  ·rw [if_pos h6,Z0u hf] at hab;exact hab
  ·rw [if_neg h6] at hab;exact hab
 refine ⟨fun ho=>⟨fun hst1=> ?_,fun hst0=>⟨fun h6=>⟨fun hf=> ?_,fun hf=> ?_⟩,fun h6=> ?_⟩⟩,fun ho=>⟨fun hst1=> ?_,fun hst0=>⟨fun h6=>⟨fun hf=> ?_,fun hf=> ?_⟩,fun h6=> ?_⟩⟩⟩
 ·obtain ⟨q1,q2⟩:=s0 hst1
  rw [q2]
  subst q1
  repeat' apply And.intro
  all_goals first|omega|rfl|exact hZ1 hlt|exact hC _ _ _|exact hR _ _ _|(simp;done)|skip
 ·obtain ⟨q1,q2,q3,q4⟩:=s1 hst0
  rw [q2 (by omega) (by simpa using hf)]
  subst q1
  repeat' apply And.intro
  all_goals first|omega|rfl|exact hZ1 hlt|exact hC _ _ _|exact hR _ _ _|(simp;done)|skip
 ·obtain ⟨q1,q2,q3,q4⟩:=s1 hst0
  rw [q3 (by omega) (by simpa using hf)]
  subst q1
  repeat' apply And.intro
  all_goals first|omega|rfl|exact hZ1 hlt|exact hC _ _ _|exact hR _ _ _|(simp;done)|skip
 ·obtain ⟨q1,q2,q3,q4⟩:=s1 hst0
  rw [q4 (by omega)]
  subst q1
  repeat' apply And.intro
  all_goals first|omega|rfl|exact hZ1 hlt|exact hC _ _ _|exact hR _ _ _|(simp;done)|skip
 ·obtain ⟨q1,q2⟩:=s0 hst1
  rw [q2]
  subst q1
  repeat' apply And.intro
  all_goals first|omega|rfl|exact hZ1 hlt|exact hC _ _ _|exact hR _ _ _|(simp;done)|skip
 ·obtain ⟨q1,q2,q3,q4⟩:=s1 hst0
  have hno:¬x.own=o:=by simpa using ho
  have hsd:¬(2<=x.stage/\x.stage<=8):=by unfold Xj at hst0;rw [if_neg hno] at hst0;exact of_decide_eq_false hst0
  rw [q2 (by omega) (by simpa using hf)]
  subst q1
  repeat' apply And.intro
  all_goals first|omega|rfl|exact hZ1 hlt|exact hC _ _ _|exact hR _ _ _|(simp;done)|skip
 ·obtain ⟨q1,q2,q3,q4⟩:=s1 hst0
  have hno:¬x.own=o:=by simpa using ho
  have hsd:¬(2<=x.stage/\x.stage<=8):=by unfold Xj at hst0;rw [if_neg hno] at hst0;exact of_decide_eq_false hst0
  rw [q3 (by omega) (by simpa using hf)]
  subst q1
  repeat' apply And.intro
  all_goals first|omega|rfl|exact hZ1 hlt|exact hC _ _ _|exact hR _ _ _|(simp;done)|skip
 ·obtain ⟨q1,q2,q3,q4⟩:=s1 hst0
  have hno:¬x.own=o:=by simpa using ho
  have hsd:¬(2<=x.stage/\x.stage<=8):=by unfold Xj at hst0;rw [if_neg hno] at hst0;exact of_decide_eq_false hst0
  rw [q4 (by omega)]
  subst q1
  repeat' apply And.intro
  all_goals first|omega|rfl|exact hZ1 hlt|exact hC _ _ _|exact hR _ _ _|(simp;done)|skip
def Zae (X:Z7) (o:Bool) (k ow:Int) (pt:List Int) (i:Nat):St:=Zh1 X o k ow pt i (V3 X.side o (X.a0,X.a1) (X.L.take i)).1 (V3 X.side o (X.a0,X.a1) (X.L.take i)).2 (YR X.side o (X.L.take i))
def Zaf (X:Z7) (o:Bool) (k ow:Int) (pt:List Int) (i:Nat):St:=Z8Y k ow pt (V3 X.side o (X.a0,X.a1) (X.L.take i)).1 (V3 X.side o (X.a0,X.a1) (X.L.take i)).2 (YR X.side o (X.L.take i))
def Zex (X:Z7) (n:Nat):Prop:=Ze3 X n/\∀h∈X.L,1<=h.stage/\h.stage<=9
theorem Zlu (X:Z7) (o:Bool) (k ow:Int) (pt:List Int) (n i:Nat) (hC:Zex X n) (hi:i<=n):ZB Zh0 20 42 0 0 (Zae X o k ow pt i) (rdM 0 0 9 (Zae X o k ow pt (i+1)) (Zaf X o k ow pt i) (Zaf X o k ow pt i) (Zaf X o k ow pt i) (i<n/\i<n) (i=n) False False):=by
 obtain ⟨⟨h1,h2,h3,h4,h5,h6⟩,h7⟩:=id hC
 have hlt:i<n->i<X.L.length:=fun h=>by omega
 have l0:(X.L.take i).length<=16:=by rw [List.length_take];omega
 have l1:=Qb X.side o (X.L.take i)
 have hb:=Z3A (side:=X.side) (o:=o) h4 h5 h6 i (by omega)
 refine Zlt X o k ow pt n i _ _ _ _ _ _ (X.L.getD i Z8) (i<n/\i<n) (i=n) (by omega) h1 hi (show 0<=X.side/\X.side<=1 by omega) (by omega) (fun _=>rfl) (fun h=>h7 _ (ZD (hlt h))) (fun h=> ?_) (fun h=> ?_) (fun h=>⟨by omega,by omega, ?_⟩) (fun h=>⟨h,h⟩) (fun h=>h)
 ·rw [Y9 (hlt h),Z4J]
 ·unfold V3
  rw [Y9 (hlt h),List.foldl_append];rfl
 ·have:=h4 _ (ZD (hlt h));omega
noncomputable def Zag (X:Z7) (o:Bool) (k ow:Int) (pt:List Int) (n:Nat) (C:Prop) (E:Nat->St):Zh:=Zh0.withL 42 0 (goM 0 (Zh1 X o k ow pt 0 X.a0 X.a1 []) C (Yu 0 n 9 (fun i=>i<n) (fun i=>i=n) (fun _=>False) (fun _=>False) E E E))
theorem Zey (X:Z7) (o:Bool) (k ow:Int) (pt:List Int) (n:Nat):(Zag X o k ow pt n (Zex X n) (Zaf X o k ow pt)).Ok:=
 Zh.withGoM (N:=20) (S:=Zae X o k ow pt) Zad (by kernel_rfl) fun hC=>⟨rfl,fun i hi _=>Zlu X o k ow pt n i hC hi⟩
theorem Zlv (X:Z7) (o:Bool) (k ow:Int) (pt:List Int) (n l:Nat) (a b:Int) (P:List X5) (C:Prop) (AF BF:Nat->Int) (PF:Nat->List X5) (hC:C) (hs:0<=X.side/\X.side<=1) (hk:0<=k/\k<=2147483647) (how:ow=ZS X.side o) (ha:a=AF n) (hb:b=BF n) (hP:P=PF n) (hl:l=P.length):
  evF (Zag X o k ow pt n C fun i=>Z8Y k ow pt (AF i) (BF i) (PF i)) 20 42 [Z0x X,.bool o,.int .i64 k,.agg [.arr .u8 32 pt]] ⟨0,[]⟩ (ZX 0 (.ret (.tuple [.agg [.int .i64 k,.int .i64 ow,.arr .u8 32 pt,.arr .i64 2 [a,b],slP 0 l],.int .i64 0])) 1 [(0,.rows 36 l (ZM P))]):=by
 refine @Eq.mpr _ (let q1:=[(0:Int),0];let q2:=[a,b];let q3:=decide (l=0);let q4:=Z0 (decide (0=k)) (Z0 (decide (0=ow)) (Za=pt/\q1=q2/\Z0 q3 (Z0 q3 False False) False) False) False;let q5:=X.t;let q6:=q5.fund;let q7:=q5.index;let q8:=q5.cap;let q9:=q5.dust;let q10:=q5.fee;let q11:=q5.delay;let q12:=q5.k0;let q13:=q5.k1;let q14:=X.side;let q15:=X.res;let q16:=[X.a0,X.a1];let q17:=[X.i0,X.i1];let q18:=List.length X.L;let q19:=Z4 X.L;let q20:=q16=q16;let q21:=decide (q18=q18);let q22:=decide (k=k);
 Z0 (decide (k<0)) q4
 (Z0 (decide (k>2147483647)) q4
 (∃(X:Z7),
 let q45:=X.side;
 LV [AV.arr u8 32 q6,AV.int i64 q7,AV.int i64 q8,AV.int i64 q9,AV.int i64 q10,AV.int i64 q11,AV.arr u8 32 q12,AV.arr u8 32 q13,AV.int i64 q14,AV.int i64 q15,AV.arr i64 2 q16,AV.arr i64 2 q17,AV.vrows 70 q18 q19 q18] X/\
 (0<=q45/\q45<=1)/\
 Z0 (decide (o=o))
 (q6=q6/\
 Z0 (decide (q7=q7))
 (Z0 (decide (q8=q8))
 (Z0 (decide (q9=q9))
 (Z0 (decide (q10=q10))
 (Z0 (decide (q11=q11))
 (q12=q12/\
 q13=q13/\
 Z0 (decide (q14=q14))
 (Z0 (decide (q15=q15))
 (q20/\
 q17=q17/\
 Z0 q21
 (q19=q19/\
 Z0 q21
 (Za=Za/\
 q1=q1/\
 Z0 q22
 (Z0 (decide (ZS q45 o=ow))
 (pt=pt/\
 q20/\
 C/\
 ∀(i:Nat),
 let q47:=decide (List.length (PF i)=l);
 i<=n->(∀(j:Nat),j<i->(fun (i:Nat)=>i<n) j)->(i=n->Z0 q22 (Z0 (decide (ow=ow)) (pt=pt/\[AF i,BF i]=q2/\Z0 q47 (Z0 (decide (l<=List.length (PF i))) (Z0 q47 (Zc 0 [(0,2)] l (ZM P) (ZM (PF i))/\True) False) False) False) False) False)/\(False->False)/\(False->False))
 False)
 False)
 False)
 False)
 False)
 False)
 False)
 False)
 False)
 False)
 False)
 False))) (by kernel_rfl) ?_
 conv=>zeta
 try simp only [Zi]
 try simp only [Zj]
 try simp only [Zf]
 try simp only [Zk]
 try simp only [Zl]
 try simp only [Zg]
 try simp only [Int.toNat_natCast,Nat.zero_add,true_and,and_true,Nat.le_refl]
 subst ha hb hP
 refine ⟨fun h=>absurd h (by omega),fun _=>⟨fun h=>absurd h (by omega),fun _=>⟨X,.a rfl,hs,how.symm,hC,fun i hi _=>⟨fun he=> ?_,fun h=>h,fun h=>h⟩⟩⟩⟩
 subst he
 exact ⟨rfl,hl.symm,Nat.le_of_eq hl,hl.symm,XO fun _ _=>rfl⟩
theorem Zlw (X:Z7) (o:Bool) (k ow:Int) (pt:List Int) (n:Nat) (C:Prop) (hk:¬(0<=k/\k<=2147483647)):
  evF (Zag X o k ow pt n C fun i=>Z8Y k ow pt 0 0 []) 20 42 [Z0x X,.bool o,.int .i64 k,.agg [.arr .u8 32 pt]] ⟨0,[]⟩ (Y4 fun v=>v=.tuple [.agg srZ,.int .i64 2]):=by
 refine @Eq.mpr _ (let q1:=[(0:Int),0];let q2:=[AV.int i64 2];let q3:=AV.tuple (AV.agg [AV.int i64 0,AV.int i64 0,AV.arr u8 32 Za,AV.arr i64 2 q1,AV.nilslice]::q2)=AV.tuple (AV.agg srZ::q2);let q4:=X.t;let q5:=q4.fund;let q6:=q4.index;let q7:=q4.cap;let q8:=q4.dust;let q9:=q4.fee;let q10:=q4.delay;let q11:=q4.k0;let q12:=q4.k1;let q13:=X.side;let q14:=X.res;let q15:=[X.a0,X.a1];let q16:=[X.i0,X.i1];let q17:=List.length X.L;let q18:=Z4 X.L;let q19:=q15=q15;let q20:=decide (q17=q17);
 Z0 (decide (k<0)) q3
 (Z0 (decide (k>2147483647)) q3
 (∃(X:Z7),
 let q41:=X.side;
 LV [AV.arr u8 32 q5,AV.int i64 q6,AV.int i64 q7,AV.int i64 q8,AV.int i64 q9,AV.int i64 q10,AV.arr u8 32 q11,AV.arr u8 32 q12,AV.int i64 q13,AV.int i64 q14,AV.arr i64 2 q15,AV.arr i64 2 q16,AV.vrows 70 q17 q18 q17] X/\(0<=q41/\q41<=1)/\Z0 (decide (o=o)) (q5=q5/\Z0 (decide (q6=q6)) (Z0 (decide (q7=q7)) (Z0 (decide (q8=q8)) (Z0 (decide (q9=q9)) (Z0 (decide (q10=q10)) (q11=q11/\q12=q12/\Z0 (decide (q13=q13)) (Z0 (decide (q14=q14)) (q19/\q16=q16/\Z0 q20 (q18=q18/\Z0 q20 (Za=Za/\q1=q1/\Z0 (decide (k=k)) (Z0 (decide (ZS q41 o=ow)) (pt=pt/\q19/\C/\∀(i:Nat),i<=n->(∀(j:Nat),j<i->(fun (i:Nat)=>i<n) j)->(i=n->False)/\(False->False)/\(False->False)) False) False) False) False) False) False) False) False) False) False) False) False))) (by kernel_rfl) ?_
 conv=>zeta
 try simp only [Zi]
 try simp only [Zj]
 try simp only [Zf]
 try simp only [Zk]
 try simp only [Zl]
 try simp only [Zg]
 try simp only [Int.toNat_natCast,Nat.zero_add,true_and,and_true,Nat.le_refl]
 exact ⟨fun _=>rfl,fun h1=>⟨fun _=>rfl,fun h2=>absurd ⟨by omega,by omega⟩ hk⟩⟩
def Z3H (c:Bool):Y8:=fun args h K=>ZP none h true 20 args fun a=>match a with
 | [.agg cs,.bool o,.int .i64 k,.agg [.arr .u8 32 pt]]=>∃X,LV cs X/\X.Inv Zr/\(match c with
  | true=>(0<=k/\k<=2147483647)/\K (.ret (.tuple [.agg [.int .i64 k,.int .i64 (ZS X.side o),.arr .u8 32 pt,.arr .i64 2 [(Z1G X o).1,(Z1G X o).2],slP h.next (YR X.side o X.L).length],.int .i64 0])) ⟨h.next+1,(h.next,.rows 36 (YR X.side o X.L).length (ZM (YR X.side o X.L)))::h.bs⟩
  | false=>¬(0<=k/\k<=2147483647)/\K (.ret (.tuple [.agg srZ,.int .i64 2])) ⟨h.next,h.bs⟩)
 | _=>False
theorem Z1v (c:Bool) (args:List AV) (h:Z9) (K:KO) (hl:Z3H c args h K):Zn PP 42 args h K:=by
 refine ZA.fsumm (d:=20) (Zs _ _ _ _ _ hl fun a ha=> ?_)
 split at ha
 ·rename_i cs o k pt
  obtain ⟨X,hX,hI,hK⟩:=ha
  cases c with
  | true=>
   obtain ⟨hk,hK1⟩:=hK
   have hv:=Zlv X o k (ZS X.side o) pt X.L.length _ (Z1G X o).1 (Z1G X o).2 (YR X.side o X.L) (Zex X X.L.length) (fun i=>(V3 X.side o (X.a0,X.a1) (X.L.take i)).1) (fun i=>(V3 X.side o (X.a0,X.a1) (X.L.take i)).2) (fun i=>YR X.side o (X.L.take i)) ⟨hI.sr,hI.stage⟩ (by have:=hI.side;omega) hk rfl (by rw [List.take_length];rfl) (by rw [List.take_length];rfl) (by rw [List.take_length]) rfl
   exact ⟨_,_,_,_,(ZA.evM (Zey X o k _ pt _) hv).conv fun E r hr=>hr.head (fun _ hc=>XB hX hc) fun _ hc=>hc,rfl,⟨Nat.one_pos,.rows _ _ _ (fun i _=>U7 _ i),trivial⟩,hK1⟩
  | false=>
   obtain ⟨hk,hK2⟩:=hK
   have hC:(Zag X o k 0 pt X.L.length False fun _=>Z8Y k 0 pt 0 0 []).Ok:=Zh.withGoM (N:=20) (S:=fun i=>Zae X o k 0 pt i) Zad (by kernel_rfl) fun h=>h.elim
   exact ⟨_,_,_,_,(ZA.evV hC (Zlw X o k 0 pt _ False hk)).conv fun E r hr=>hr.head (fun _ hc=>XB hX hc) fun _ hc=>hc,rfl,trivial,hK2⟩
 ·exact ha.elim
end Go.Tk
end
section
namespace Go.Tk
open IntKind (i64 u8 u32 u64 wrap)
noncomputable def ZjJ:Zh:=G0.withP 112 waS
theorem Zh2:ZjJ.Ok:=Zh.withP_ok Zu Zgk
def Zh3 (X:Z7) (i:Nat):St:=⟨25,[(3,.int .i64 i),(1,.ptr (some ⟨0,0,0,0,0⟩))],⟨1,[(0,.flat (X.c (.vrows 70 X.L.length (Z4 X.L) X.L.length)))]⟩,[]⟩
def Zlx:St:=⟨25,[],⟨0,[]⟩,[]⟩
def Zh4:St:=⟨25,[(2,.bool true)],⟨0,[]⟩,[]⟩
theorem Zly (X:Z7) (n i:Nat) (Z1 Z2 Z3:Prop) (hn:n<1000) (hL:X.L.length=n) (hi:i<=n) (hst:i<n->1<=(X.L.getD i Z8).stage/\(X.L.getD i Z8).stage<=9) (h1:i<n->wtP (X.L.getD i Z8)=false->Z1) (h2:i=n->Z2) (h3:i<n->wtP (X.L.getD i Z8)=true->Z3):
  ZB ZjJ 20 51 0 0 (Zh3 X i) (rdM 0 0 9 (Zh3 X (i+1)) Zlx Zh4 Zh4 Z1 Z2 Z3 False):=by
 refine @Eq.mpr _ (let q1:=X.L;let q2:=List.length q1;let q3:=decide (0<=(↑i:Int)/\(↑i:Int)<(↑q2:Int));let q4:=List.getD q1 (Int.toNat (↑i:Int)) Z8;let q5:=q4.stage;let q6:=X.t;let q7:=q6.fund;let q8:=q6.index;let q9:=q6.cap;let q10:=q6.dust;let q11:=q6.fee;let q12:=q6.delay;let q13:=q6.k0;let q14:=q6.k1;let q15:=[X.a0,X.a1];let q16:=[X.i0,X.i1];let q17:=decide (q2=q2);let q18:=Z4 q1;
 Z0 (decide ((↑i:Int)<(↑q2:Int))) (Z0 q3 (Z0 q3 (Z0 (decide (1<=q5/\q5<=9)) (Z0 (Xy q4.own q5==1) Z3 (Z0 (decide (wrap i64 ((↑i:Int)+1)=(↑(i+1):Int))) (q7=q7/\Z0 (decide (q8=q8)) (Z0 (decide (q9=q9)) (Z0 (decide (q10=q10)) (Z0 (decide (q11=q11)) (Z0 (decide (q12=q12)) (q13=q13/\q14=q14/\Z0 (decide (X.side=X.side)) (Z0 (decide (X.res=X.res)) (q15=q15/\q16=q16/\Z0 q17 (q18=q18/\Z0 q17 Z1 False) False) False) False) False) False) False) False) False) False)) False) False) False) Z2) (by kernel_rfl) ?_
 conv=>zeta
 try simp only [Zi]
 try simp only [Zj]
 try simp only [Zf]
 try simp only [Zk]
 try simp only [Zl]
 try simp only [Zg]
 try simp only [Int.toNat_natCast,Nat.zero_add,true_and,and_true,Nat.le_refl]
 subst hL
 refine ⟨fun hc=> ?_,fun hc=>h2 (by omega)⟩
 have hlt:i<X.L.length:=by omega
 have hwr:i64.wrap ((i:Int)+1)=((i+1:Nat):Int):=by rw [w64 (by omega)];omega
 refine ⟨by omega,by omega,hst hlt,fun hm=>h3 hlt ?_,fun hm=>⟨hwr,h1 hlt ?_⟩⟩
 ·unfold wtP;simpa using hm
 ·unfold wtP;simpa using hm
def Zh5 (A B:List Z6) (i:Nat):St:=⟨26,[(5,.int .i64 i),(0,.vrows 70 A.length (Z4 A) A.length),(1,.vrows 70 B.length (Z4 B) B.length)],⟨0,[]⟩,[]⟩
def Zby:St:=⟨26,[],⟨0,[]⟩,[]⟩
theorem Zlz (A:List Z6) (n i:Nat) (Z1 Z2:Prop) (hn:n<1000) (hA:A.length=n) (hi:i<=n) (hOk:∀h∈A,h.Ok) (h1:i<n->Z1) (h2:i=n->Z2):
  ZB G0 20 40 0 0 (Zh5 A A i) (rdM 0 0 9 (Zh5 A A (i+1)) Zby Zby Zby Z1 Z2 False False):=by
 refine @Eq.mpr _ (let q1:=List.length A;let q2:=decide (0<=(↑i:Int)/\(↑i:Int)<(↑q1:Int));let q3:=List.getD A (Int.toNat (↑i:Int)) Z8;let q4:=q3.hash;let q5:=q3.secret;let q6:=q3.own;let q7:=q3.id;let q8:=q3.amount;let q9:=q3.expiry;let q10:=q3.stage;let q11:=q3.fin;let q12:=decide (q1=q1);let q13:=Z4 A=Z4 A;
 Z0 (decide ((↑i:Int)<(↑q1:Int))) (Z0 q2 (Z0 q2 (Z0 (decide (List.length q4=32/\List.length q4=32)) (Z0 (decide (List.length q5=32/\List.length q5=32)) (Z0 (!(q6==q6&&(q7==q7&&(q8==q8&&(q4==q4&&(q9==q9&&(q10==q10&&(q11==q11&&q5==q5)))))))) False (Z0 (decide (wrap i64 ((↑i:Int)+1)=(↑(i+1):Int))) (Z0 q12 (q13/\Z0 q12 (Z0 q12 (q13/\Z0 q12 Z1 False) False) False) False) False)) False) False) False) False) Z2) (by kernel_rfl) ?_
 conv=>zeta
 try simp only [Zi]
 try simp only [Zj]
 try simp only [Zf]
 try simp only [Zk]
 try simp only [Zl]
 try simp only [Zg]
 try simp only [Int.toNat_natCast,Nat.zero_add,true_and,and_true,Nat.le_refl]
 subst hA
 refine ⟨fun hc=> ?_,fun hc=>h2 (by omega)⟩
 have hlt:i<A.length:=by omega
 have hwr:i64.wrap ((i:Int)+1)=((i+1:Nat):Int):=by rw [w64 (by omega)];omega
 have hx:=hOk _ (ZD hlt)
 exact ⟨by omega,by omega,⟨hx.hash,hx.hash⟩,⟨hx.secret,hx.secret⟩,by simp,hwr,h1 hlt⟩
def Zh6 (s p:Int) (pt:List Int) (a b:Int) (P:List X5) (i:Nat):St:=⟨59,[(5,.int .i64 i),(2,.ptr (some ⟨0,0,0,0,0⟩)),(3,.ptr (some ⟨1,0,0,0,0⟩))],⟨2,[(0,.flat [.int .i64 s,.int .i64 p,.arr .u8 32 pt,.arr .i64 2 [a,b],.vrows 36 P.length (ZM P) P.length]),(1,.flat [.int .i64 s,.int .i64 p,.arr .u8 32 pt,.arr .i64 2 [a,b],.vrows 36 P.length (ZM P) P.length])]⟩,[]⟩
def Zbz:St:=⟨59,[],⟨0,[]⟩,[]⟩
theorem ZlA (s p:Int) (pt:List Int) (a b:Int) (P:List X5) (n i:Nat) (Z1 Z2:Prop) (hn:n<1000) (hP:P.length=n) (hi:i<=n) (hOk:∀q∈P,q.hash.length=32) (h1:i<n->Z1) (h2:i=n->Z2):
  ZB G0 20 43 0 0 (Zh6 s p pt a b P i) (rdM 0 0 9 (Zh6 s p pt a b P (i+1)) Zbz Zbz Zbz Z1 Z2 False False):=by
 refine @Eq.mpr _ (let q1:=List.length P;let q2:=decide (0<=(↑i:Int)/\(↑i:Int)<(↑q1:Int));let q3:=List.getD P (Int.toNat (↑i:Int)) Zjv;let q4:=q3.hash;let q5:=q3.frm;let q6:=q3.id;let q7:=q3.amount;let q8:=q3.expiry;let q9:=decide (s=s);let q10:=decide (p=p);let q11:=[a,b];let q12:=q11=q11;let q13:=decide (q1=q1);let q14:=ZM P=ZM P;
 Z0 (decide ((↑i:Int)<(↑q1:Int))) (Z0 q2 (Z0 q2 (Z0 (decide (List.length q4=32/\List.length q4=32)) (Z0 (!(q5==q5&&(q6==q6&&(q7==q7&&(q4==q4&&q8==q8))))) False (Z0 (decide (wrap i64 ((↑i:Int)+1)=(↑(i+1):Int))) (Z0 q9 (Z0 q10 (pt=pt/\q12/\Z0 q13 (q14/\Z0 q13 (Z0 q9 (Z0 q10 (pt=pt/\q12/\Z0 q13 (q14/\Z0 q13 Z1 False) False) False) False) False) False) False) False) False)) False) False) False) Z2) (by kernel_rfl) ?_
 conv=>zeta
 try simp only [Zi]
 try simp only [Zj]
 try simp only [Zf]
 try simp only [Zk]
 try simp only [Zl]
 try simp only [Zg]
 try simp only [Int.toNat_natCast,Nat.zero_add,true_and,and_true,Nat.le_refl]
 subst hP
 refine ⟨fun hc=> ?_,fun hc=>h2 (by omega)⟩
 have hlt:i<P.length:=by omega
 have hwr:i64.wrap ((i:Int)+1)=((i+1:Nat):Int):=by rw [w64 (by omega)];omega
 have hx:=hOk (P.getD i Zjv) (by rw [List.getD_eq_getElem?_getD,List.getElem?_eq_getElem hlt];exact List.getElem_mem hlt)
 exact ⟨by omega,by omega,⟨hx,hx⟩,by simp,hwr,h1 hlt⟩
noncomputable def Zia (X:Z7) (n:Nat) (C:Prop):Zh:=ZjJ.withL 51 0 (goM 0 (Zh3 X 0) C (Yu 0 n 9 (fun i=>wtP (X.L.getD i Z8)=false/\i<n) (fun i=>i=n) (fun i=>i<n/\wtP (X.L.getD i Z8)=true) (fun _=>False) (fun _=>Zlx) (fun _=>Zh4) (fun _=>Zh4)))
theorem Zez (X:Z7) (n:Nat):(Zia X n (Zl2 X.L n)).Ok:=
 Zh.withGoM (N:=20) (S:=fun i=>Zh3 X i) Zh2 (by kernel_rfl) fun hC=>⟨rfl,fun i hi _=>Zly X n i _ _ _ hC.1 hC.2.1 hi (fun h=>hC.2.2 _ (ZD (by have:=hC.2.1;omega))) (fun h h'=>⟨⟨h',h⟩,h⟩) (fun h=>h) (fun h h'=>⟨h,h'⟩)⟩
theorem ZlB (X:Z7) (n:Nat) (b:Bool) (C:Prop) (hC:C) (hn:X.L.length=n) (hb:b=Wo X.L):
  evF (Zia X n C) 20 51 [Z0x X] ⟨0,[]⟩ (Y4 fun v=>v=.bool b):=by
 refine @Eq.mpr _ (let q1:=X.t;let q2:=q1.fund;let q3:=q1.index;let q4:=q1.cap;let q5:=q1.dust;let q6:=q1.fee;let q7:=q1.delay;let q8:=q1.k0;let q9:=q1.k1;let q10:=[X.a0,X.a1];let q11:=[X.i0,X.i1];let q12:=X.L;let q13:=List.length q12;let q14:=decide (q13=q13);let q15:=Z4 q12;
 q2=q2/\Z0 (decide (q3=q3)) (Z0 (decide (q4=q4)) (Z0 (decide (q5=q5)) (Z0 (decide (q6=q6)) (Z0 (decide (q7=q7)) (q8=q8/\q9=q9/\Z0 (decide (X.side=X.side)) (Z0 (decide (X.res=X.res)) (q10=q10/\q11=q11/\Z0 q14 (q15=q15/\Z0 q14 (C/\∀(i:Nat),i<=n->(∀(j:Nat),j<i->(fun (i:Nat)=>wtP (List.getD q12 i Z8)=false/\i<n) j)->(i=n->AV.bool false=AV.bool b)/\(i<n/\wtP (List.getD q12 i Z8)=true->AV.bool true=AV.bool b)/\(False->False)) False) False) False) False) False) False) False) False) False) (by kernel_rfl) ?_
 conv=>zeta
 try simp only [Zi]
 try simp only [Zj]
 try simp only [Zf]
 try simp only [Zk]
 try simp only [Zl]
 try simp only [Zg]
 try simp only [Int.toNat_natCast,Nat.zero_add,true_and,and_true,Nat.le_refl]
 subst hb
 refine ⟨hC,fun i hi hg=>⟨fun he=> ?_,fun hx=> ?_,fun h=>h.elim⟩⟩
 ·have:Wo X.L=false:=by
   rw [show Wo X.L=X.L.any wtP from rfl,<-Z3C,Z5N (p:=wtP) fun j hj=>(hg j (by omega)).1]
   exact decide_eq_false (by omega)
  rw [this]
 ·have:Wo X.L=true:=List.any_eq_true.2 ⟨_,ZD (by omega),hx.2⟩
  rw [this]
def Zah:ZK:=fun args h K=>ZP none h true 20 args fun a=>match a with
 | [.agg cs]=>∃X,LV cs X/\X.Inv Zr/\K (.bool (Wo X.L))
 | _=>False
theorem Z8Z (args:List AV) (h:Z9) (K:AV->Prop) (hl:Zah args h K):Zn PP 51 args h fun o h'=>∃v,o=.ret v/\h'=h/\K v:=by
 refine ZA.psumm (d:=20) (Zs _ _ _ _ _ hl fun a ha=> ?_)
 split at ha
 ·obtain ⟨X,hX,hI,hK⟩:=ha
  exact ⟨_,(ZA.evV (Zez X X.L.length) (ZlB X _ _ _ ⟨hI.am.n,rfl,hI.stage⟩ rfl rfl)).conv fun E r hr=>hr.head (fun _ hc=>XB hX hc) fun _ hc=>hc,fun _=>rfl,hK⟩
 ·exact ha.elim
noncomputable def Zib (A:List Z6) (n:Nat) (C:Prop):Zh:=G0.withL 40 0 (goM 0 (Zh5 A A 0) C (Yu 0 n 9 (fun i=>i<n) (fun i=>i=n) (fun _=>False) (fun _=>False) (fun _=>Zby) (fun _=>Zby) (fun _=>Zby)))
theorem ZeA (A:List Z6) (n:Nat):(Zib A n (n<1000/\A.length=n/\∀h∈A,h.Ok)).Ok:=
 Zh.withGoM (N:=20) (S:=fun i=>Zh5 A A i) Zu (by kernel_rfl) fun hC=>⟨rfl,fun i hi _=>Zlz A n i _ _ hC.1 hC.2.1 hi hC.2.2 (fun h=>⟨h,h⟩) (fun h=>h)⟩
theorem ZlC (A:List Z6) (n:Nat) (C:Prop) (hC:C):
  evF (Zib A n C) 20 40 [.vrows 70 A.length (Z4 A) A.length,.vrows 70 A.length (Z4 A) A.length] ⟨0,[]⟩ (Y4 fun v=>v=.bool true):=by
 refine @Eq.mpr _ (let q1:=List.length A;let q2:=(↑q1:Int);let q3:=AV.bool true;let q4:=decide (q1=q1);let q5:=Z4 A=Z4 A;
 Z0 (q2 !=q2) (AV.bool false=q3) (Z0 q4 (q5/\Z0 q4 (Z0 q4 (q5/\Z0 q4 (C/\∀(i:Nat),i<=n->(∀(j:Nat),j<i->(fun (i:Nat)=>i<n) j)->(i=n->q3=q3)/\(False->False)/\(False->False)) False) False) False) False)) (by kernel_rfl) ?_
 conv=>zeta
 try simp only [Zi]
 try simp only [Zj]
 try simp only [Zf]
 try simp only [Zk]
 try simp only [Zl]
 try simp only [Zg]
 try simp only [Int.toNat_natCast,Nat.zero_add,true_and,and_true,Nat.le_refl]
 exact ⟨fun h=>by simp at h,fun _=>⟨hC,fun i _ _=>⟨fun _=>trivial,fun h=>h,fun h=>h⟩⟩⟩
theorem ZlD (u:Unit) :
  evF G0 20 40 [.nilslice,.nilslice] ⟨0,[]⟩ (Y4 fun v=>v=.bool true):=by
 refine @Eq.mpr _ (AV.bool true=AV.bool true) (by kernel_rfl) ?_
 trivial
def Z5R:ZK:=fun args h K=>ZP none h true 20 args fun a=>match a with
 | [.vrows 70 n f n',.vrows 70 m g m']=>∃A,(n=A.length/\n'=n/\m=n/\m'=n)/\(f=Z4 A/\g=Z4 A)/\n<1000/\(∀h∈A,h.Ok)/\K (.bool true)
 | [.nilslice,.nilslice]=>K (.bool true)
 | _=>False
theorem Z3I (args:List AV) (h:Z9) (K:AV->Prop) (hl:Z5R args h K):Zn PP 40 args h fun o h'=>∃v,o=.ret v/\h'=h/\K v:=by
 refine ZA.psumm (d:=20) (Zs _ _ _ _ _ hl fun a ha=> ?_)
 split at ha
 ·obtain ⟨A,⟨rfl,rfl,rfl,rfl⟩,⟨rfl,rfl⟩,h1,h2,hK⟩:=ha
  exact ⟨_,ZA.evV (ZeA A _) (ZlC A _ _ ⟨h1,rfl,h2⟩),fun _=>rfl,hK⟩
 ·exact ⟨_,ZA.evV Zu (ZlD ()),fun _=>rfl,ha⟩
 ·exact ha.elim
noncomputable def Zic (s p:Int) (pt:List Int) (a b:Int) (P:List X5) (n:Nat) (C:Prop):Zh:=G0.withL 43 0 (goM 0 (Zh6 s p pt a b P 0) C (Yu 0 n 9 (fun i=>i<n) (fun i=>i=n) (fun _=>False) (fun _=>False) (fun _=>Zbz) (fun _=>Zbz) (fun _=>Zbz)))
theorem ZeB (s p:Int) (pt:List Int) (a b:Int) (P:List X5) (n:Nat):(Zic s p pt a b P n (n<1000/\P.length=n/\∀q∈P,q.hash.length=32)).Ok:=
 Zh.withGoM (N:=20) (S:=fun i=>Zh6 s p pt a b P i) Zu (by kernel_rfl) fun hC=>⟨rfl,fun i hi _=>ZlA s p pt a b P n i _ _ hC.1 hC.2.1 hi hC.2.2 (fun h=>⟨h,h⟩) (fun h=>h)⟩
def Zid (s p:Int) (pt:List Int) (a b:Int) (P:List X5):AV:=.agg [.int .i64 s,.int .i64 p,.arr .u8 32 pt,.arr .i64 2 [a,b],.vrows 36 P.length (ZM P) P.length]
theorem ZlE (s p:Int) (pt:List Int) (a b:Int) (P:List X5) (n:Nat) (C:Prop) (hC:C) (hp:pt.length=32):
  evF (Zic s p pt a b P n C) 20 43 [Zid s p pt a b P,Zid s p pt a b P] ⟨0,[]⟩ (Y4 fun v=>v=.bool true):=by
 refine @Eq.mpr _ (let q1:=AV.bool true;let q2:=AV.bool false=q1;let q3:=[a,b];let q4:=List.length P;let q5:=(↑q4:Int);let q6:=decide (s=s);let q7:=decide (p=p);let q8:=q3=q3;let q9:=decide (q4=q4);let q10:=ZM P=ZM P;
 Z0 (s !=s) q2 (Z0 (p !=p) q2 (Z0 (decide (List.length pt=32/\List.length pt=32)) (Z0 (!pt==pt) q2 (Z0 (!q3==q3) q2 (Z0 (q5 !=q5) q2 (Z0 q6 (Z0 q7 (pt=pt/\q8/\Z0 q9 (q10/\Z0 q9 (Z0 q6 (Z0 q7 (pt=pt/\q8/\Z0 q9 (q10/\Z0 q9 (C/\∀(i:Nat),i<=n->(∀(j:Nat),j<i->(fun (i:Nat)=>i<n) j)->(i=n->q1=q1)/\(False->False)/\(False->False)) False) False) False) False) False) False) False) False)))) False))) (by kernel_rfl) ?_
 conv=>zeta
 try simp only [Zi]
 try simp only [Zj]
 try simp only [Zf]
 try simp only [Zk]
 try simp only [Zl]
 try simp only [Zg]
 try simp only [Int.toNat_natCast,Nat.zero_add,true_and,and_true,Nat.le_refl]
 exact ⟨fun h=>by simp at h,fun _=>⟨fun h=>by simp at h,fun _=>⟨⟨hp,hp⟩,fun h=>by simp at h,fun _=>⟨fun h=>by simp at h,fun _=>⟨fun h=>by simp at h,fun _=>⟨hC,fun i _ _=>⟨fun _=>trivial,fun h=>h,fun h=>h⟩⟩⟩⟩⟩⟩⟩
theorem ZlF (s p:Int) (pt:List Int) (a b:Int) (hp:pt.length=32):
  evF G0 20 43 [.agg [.int .i64 s,.int .i64 p,.arr .u8 32 pt,.arr .i64 2 [a,b],.nilslice],.agg [.int .i64 s,.int .i64 p,.arr .u8 32 pt,.arr .i64 2 [a,b],.nilslice]] ⟨0,[]⟩ (Y4 fun v=>v=.bool true):=by
 refine @Eq.mpr _ (let q1:=AV.bool true;let q2:=AV.bool false=q1;let q3:=[a,b];
 Z0 (s !=s) q2 (Z0 (p !=p) q2 (Z0 (decide (List.length pt=32/\List.length pt=32)) (Z0 (!pt==pt) q2 (Z0 (!q3==q3) q2 (q1=q1))) False))) (by kernel_rfl) ?_
 conv=>zeta
 try simp only [Zi]
 try simp only [Zj]
 try simp only [Zf]
 try simp only [Zk]
 try simp only [Zl]
 try simp only [Zg]
 try simp only [Int.toNat_natCast,Nat.zero_add,true_and,and_true,Nat.le_refl]
 exact ⟨fun h=>by simp at h,fun _=>⟨fun h=>by simp at h,fun _=>⟨⟨hp,hp⟩,fun h=>by simp at h,fun _=>⟨fun h=>by simp at h,fun _=>trivial⟩⟩⟩⟩
def Z3J:ZK:=fun args h K=>ZP none h true 20 args fun a=>match a with
 | [.agg [.int .i64 s,.int .i64 p,.arr .u8 32 pt,.arr .i64 2 [a,b],.vrows 36 n f n'],.agg [.int .i64 s',.int .i64 p',.arr .u8 32 pt',.arr .i64 2 [a',b'],.vrows 36 m g m']]=>∃P,(n=P.length/\n'=n/\m=n/\m'=n)/\(f=ZM P/\g=ZM P)/\(s'=s/\p'=p/\pt'=pt/\a'=a/\b'=b)/\pt.length=32/\n<1000/\(∀q∈P,q.hash.length=32)/\K (.bool true)
 | [.agg [.int .i64 s,.int .i64 p,.arr .u8 32 pt,.arr .i64 2 [a,b],.nilslice],.agg [.int .i64 s',.int .i64 p',.arr .u8 32 pt',.arr .i64 2 [a',b'],.nilslice]]=>(s'=s/\p'=p/\pt'=pt/\a'=a/\b'=b)/\pt.length=32/\K (.bool true)
 | _=>False
theorem Z1w (args:List AV) (h:Z9) (K:AV->Prop) (hl:Z3J args h K):Zn PP 43 args h fun o h'=>∃v,o=.ret v/\h'=h/\K v:=by
 refine ZA.psumm (d:=20) (Zs _ _ _ _ _ hl fun a ha=> ?_)
 split at ha
 ·obtain ⟨P,⟨rfl,rfl,rfl,rfl⟩,⟨rfl,rfl⟩,⟨rfl,rfl,rfl,rfl,rfl⟩,hp,h1,h2,hK⟩:=ha
  exact ⟨_,ZA.evV (ZeB _ _ _ _ _ P _) (ZlE _ _ _ _ _ P _ _ ⟨h1,rfl,h2⟩ hp),fun _=>rfl,hK⟩
 ·obtain ⟨⟨rfl,rfl,rfl,rfl,rfl⟩,hp,hK⟩:=ha
  exact ⟨_,ZA.evV Zu (ZlF _ _ _ _ _ hp),fun _=>rfl,hK⟩
 ·exact ha.elim
end Go.Tk
end
section
namespace Go.Tk
open IntKind (i64 u8 u32 u64 wrap)
def slB (b n:Nat):AV:=.nslice ⟨b,0,0,0,0⟩ 1 n n
noncomputable def ZlG (W:Int->List Int):Zh:=G0.withF 123 (Z9v W)
theorem Zh7:(ZlG Zq).Ok:=Zh.withF_ok Zu Z6F
theorem ZlH (W:Int->List Int) (xs ys:List Int) (N L:Nat) (n:Int) (hN:xs.length=N) (hB:N<80000000000000) (hW:W=Zq) (hn:0<=n) (hy:ys=xs++W n) (hL:L=ys.length):
  evF (ZlG W) 20 60 [slB 0 N,.int .i64 n] ⟨1,[(0,.ints .u8 xs)]⟩ (ZX 1 (.ret (slB 1 L)) 2 [(1,.ints .u8 ys)]):=by
 refine @Eq.mpr _ (let q1:=List.length (W n);let q2:=xs++List.take q1 (YC 0 (W n));let q3:=List.length q2;
 Z0 (decide (0<=n)) (Z0 (decide (u8=u8/\0+q1<=q1)) (Z0 (decide (u8=u8/\List.length xs=N)) (Z0 (decide (q3*1<=140737488355328)) (Z0 (decide (q3=L)) (Z0 (decide (L<=q3)) (q2=ys/\True) False) False) False) False) False) False) (by kernel_rfl) ?_
 conv=>zeta
 try simp only [Zi]
 try simp only [Zj]
 try simp only [Zf]
 try simp only [Zk]
 try simp only [Zl]
 try simp only [Zg]
 try simp only [Int.toNat_natCast,Nat.zero_add,true_and,and_true,Nat.le_refl]
 subst hW hN hy hL
 have e:List.take (Zq n).length (YC 0 (Zq n))=Zq n:=by rw [Yf,List.drop_zero,List.take_length]
 have:=Y0 n
 rw [e]
 simp only [List.length_append]
 repeat' apply And.intro
 all_goals first|trivial|omega|rfl
theorem ZlI (xs hh ys:List Int) (N L:Nat) (hN:xs.length=N) (hB:N<80000000000000) (hl:hh.length=32) (hy:ys=xs++hh) (hL:L=ys.length):
  evF G0 20 61 [slB 0 N,.agg [.arr .u8 32 hh]] ⟨1,[(0,.ints .u8 xs)]⟩ (ZX 1 (.ret (slB 1 L)) 2 [(1,.ints .u8 ys)]):=by
 refine @Eq.mpr _ (let q1:=xs++hh;let q2:=List.length q1;
 Z0 (decide (u8=u8/\List.length hh=32)) (Z0 (decide (u8=u8/\List.length xs=N)) (Z0 (decide (q2*1<=140737488355328)) (Z0 (decide (q2=L)) (Z0 (decide (L<=q2)) (q1=ys/\True) False) False) False) False) False) (by kernel_rfl) ?_
 conv=>zeta
 try simp only [Zi]
 try simp only [Zj]
 try simp only [Zf]
 try simp only [Zk]
 try simp only [Zl]
 try simp only [Zg]
 try simp only [Int.toNat_natCast,Nat.zero_add,true_and,and_true,Nat.le_refl]
 subst hN hy hL
 simp only [List.length_append]
 repeat' apply And.intro
 all_goals first|trivial|omega|rfl
theorem ZlJ (hh:List Int) (hl:hh.length=32):
  evF G0 20 61 [.nilslice,.agg [.arr .u8 32 hh]] ⟨0,[]⟩ (ZX 0 (.ret (slB 0 32)) 1 [(0,.ints .u8 hh)]):=by
 refine @Eq.mpr _ (let q1:=[]++hh;let q2:=List.length q1;
 Z0 (decide (u8=u8/\List.length hh=32)) (Z0 (decide (q2*1<=140737488355328)) (Z0 (decide (q2=32)) (Z0 (decide (32<=q2)) (q1=hh/\True) False) False) False) False) (by kernel_rfl) ?_
 conv=>zeta
 try simp only [Zi]
 try simp only [Zj]
 try simp only [Zf]
 try simp only [Zk]
 try simp only [Zl]
 try simp only [Zg]
 try simp only [Int.toNat_natCast,Nat.zero_add,true_and,and_true,Nat.le_refl]
 simp only [List.nil_append]
 repeat' apply And.intro
 all_goals first|trivial|omega|rfl
def ZlK (h:Z9) (b:Nat) (ys:List Int):Z9:=⟨h.next+1,(h.next,.ints .u8 ys)::Ye h.bs b⟩
def ZjK (W:Int->List Int) (B:Nat):Y8:=fun args h K=>match args with
 | [.nslice ⟨b,0,0,0,0⟩ 1 _ _,_]=>frA [b] h 20 args fun Bs a=>match Bs,a with
  | [.ints .u8 xs],[.nslice ⟨0,0,0,0,0⟩ 1 N M,.int .i64 n]=>Zx (xs.length=N/\M=N/\N<B/\0<=n) (K (.ret (slB h.next (xs++W n).length)) (ZlK h b (xs++W n)))
  | _,_=>False
 | _=>False
theorem Zh8 (args:List AV) (h:Z9) (K:KO) (hl:ZjK Zq 80000000000000 args h K):Zn PP 60 args h K:=by
 unfold ZjK at hl
 split at hl
 ·refine Spec.fsumm hl fun Bs a hlen hK0=> ?_
  split at hK0
  ·obtain ⟨⟨h1,rfl,h2,h3⟩,hK⟩:=Ze hK0
   exact ⟨_,_,_,_,_,.evM Zh7 (ZlH _ _ _ _ _ _ h1 h2 rfl h3 rfl rfl),by simp,.ret _ _ rfl,.cons _ _ _ _ _ _ rfl (.ints _ _) .nil,hK⟩
  ·exact hK0.elim
 ·exact hl.elim
def ZeC (B:Nat):Y8:=fun args h K=>match args with
 | [.nslice ⟨b,0,0,0,0⟩ 1 _ _,_]=>frA [b] h 20 args fun Bs a=>match Bs,a with
  | [.ints .u8 xs],[.nslice ⟨0,0,0,0,0⟩ 1 N M,.agg [.arr .u8 32 hh]]=>Zx (xs.length=N/\M=N/\N<B/\hh.length=32) (K (.ret (slB h.next (xs++hh).length)) (ZlK h b (xs++hh)))
  | _,_=>False
 | [.nilslice,_]=>frA [] h 20 args fun Bs a=>match Bs,a with
  | [],[.nilslice,.agg [.arr .u8 32 hh]]=>Zx (hh.length=32) (K (.ret (slB h.next 32)) ⟨h.next+1,(h.next,.ints .u8 hh)::h.bs⟩)
  | _,_=>False
 | _=>False
theorem ZeD (args:List AV) (h:Z9) (K:KO) (hl:ZeC 80000000000000 args h K):Zn PP 61 args h K:=by
 unfold ZeC at hl
 split at hl
 ·refine Spec.fsumm hl fun Bs a hlen hK0=> ?_
  split at hK0
  ·obtain ⟨⟨h1,rfl,h2,h3⟩,hK⟩:=Ze hK0
   exact ⟨_,_,_,_,_,.evM Zu (ZlI _ _ _ _ _ h1 h2 h3 rfl rfl),by simp,.ret _ _ rfl,.cons _ _ _ _ _ _ rfl (.ints _ _) .nil,hK⟩
  ·exact hK0.elim
 ·refine Spec.fsumm hl fun Bs a hlen hK0=> ?_
  split at hK0
  ·obtain ⟨h3,hK⟩:=Ze hK0
   exact ⟨_,_,_,_,_,.evM Zu (ZlJ _ h3),Nat.zero_le _,.ret _ _ rfl,.cons _ _ _ _ _ _ rfl (.ints _ _) .nil,hK⟩
  ·exact hK0.elim
 ·exact hl.elim
theorem ZlL (b:Bool) (ys:List Int) (hy:ys=[cond b 1 0]):
  evF G0 20 62 [.bool b] ⟨0,[]⟩ (ZX 0 (.ret (slB 0 1)) 1 [(0,.ints .u8 ys)]):=by
 refine @Eq.mpr _ (Z0 b ([(1:Int)]=ys/\True) ([(0:Int)]=ys/\True)) (by kernel_rfl) ?_
 try simp only [Zi]
 try simp only [Zj]
 try simp only [Zf]
 try simp only [Zk]
 try simp only [Zl]
 try simp only [Zg]
 try simp only [Int.toNat_natCast,Nat.zero_add,true_and,and_true,Nat.le_refl]
 subst hy
 cases b<;>simp
def Z90:Y8:=fun args h K=>match args with
 | [.bool b]=>K (.ret (slB h.next 1)) ⟨h.next+1,(h.next,.ints .u8 [cond b 1 0])::h.bs⟩
 | _=>False
theorem ZbA (args:List AV) (h:Z9) (K:KO) (hl:Z90 args h K):Zn PP 62 args h K:=by
 unfold Z90 at hl
 split at hl
 ·exact (ZA.evM Zu (ZlL _ _ rfl)).calls (fun E w rs he hr=>by
   cases hr with
   | cons v r vs rs h1 h2=>cases h2;exact .cons _ _ _ _ (h1.plain rfl) .nil) rfl ⟨Nat.one_pos,.ints _ _,trivial⟩ hl
 ·exact hl.elim
noncomputable def Z7i (W:Int->List Int) (B:Nat):Zh:=((G0.withF 60 (ZjK W B)).withF 61 (ZeC B)).withF 62 Z90
theorem Z7j:(Z7i Zq 80000000000000).Ok:=Zh.withF_ok (Zh.withF_ok (Zh.withF_ok Zu Zh8) ZeD) ZbA
def Z5S (X:Z7) (i N:Nat) (xs:List Int):St:=⟨113,[(4,.int .i64 i),(1,.ptr (some ⟨0,0,0,0,0⟩)),(3,slB 1 N)],⟨2,[(0,.flat (X.c (.vrows 70 X.L.length (Z4 X.L) X.L.length))),(1,.ints .u8 xs)]⟩,[]⟩
def Z1J (N:Nat) (xs:List Int):St:=⟨113,[(3,slB 0 N)],⟨1,[(0,.ints .u8 xs)]⟩,[]⟩
theorem Zie (X:Z7) (n i N N1 B:Nat) (xs ys:List Int) (x:Z6) (W:Int->List Int) (T:Int) (Z1 Z2:Prop) (hn:n<1000) (hL:X.L.length=n) (hi:i<=n) (hx:i<n->X.L.getD i Z8=x) (hN:xs.length=N) (hB:i<n->N+1000<B) (hB2:B<=80000000000000) (hW:W=Zq) (hr:i<n->Zbp T x) (hk:i<n->x.Ok) (hy:i<n->ys=Z1H W xs x) (hN1:i<n->N1=ys.length) (hZ1:i<n->Z1) (hZ2:i=n->Z2):
  ZB (Z7i W B) 20 20 0 0 (Z5S X i N xs) (rdM 0 0 9 (Z5S X (i+1) N1 ys) (Z1J N xs) (Z1J N xs) (Z1J N xs) Z1 Z2 False False):=by
 refine @Eq.mpr _ (let q1:=X.L;let q2:=List.length q1;let q3:=List.getD q1 (Int.toNat (↑i:Int)) Z8;let q4:=xs++[bif q3.own then 1 else 0];let q5:=List.length q4;let q6:=q3.id;let q7:=q3.fin;let q8:=decide (q7=q7);let q9:=q3.stage;let q10:=decide (q9=q9);let q11:=q3.expiry;let q12:=decide (q11=q11);let q13:=q3.hash;let q14:=q13=q13;let q15:=q3.amount;let q16:=q4++W q6;let q17:=List.length q16;let q18:=q16++W q15;let q19:=List.length q18;let q20:=q18++q13;let q21:=List.length q20;let q22:=q20++W q11;let q23:=List.length q22;let q24:=q22++W q9;let q25:=List.length q24;let q26:=q24++W q7;let q27:=List.length q26;let q28:=q3.secret;let q29:=decide (wrap i64 ((↑i:Int)+1)=(↑(i+1):Int));let q30:=q26++q28;let q31:=List.length q30;let q32:=X.t;let q33:=q32.fund;let q34:=q33=q33;let q35:=q32.index;let q36:=decide (q35=q35);let q37:=q32.cap;let q38:=decide (q37=q37);let q39:=q32.dust;let q40:=decide (q39=q39);let q41:=q32.fee;let q42:=decide (q41=q41);let q43:=q32.delay;let q44:=decide (q43=q43);let q45:=q32.k0;let q46:=q45=q45;let q47:=q32.k1;let q48:=q47=q47;let q49:=decide (X.side=X.side);let q50:=decide (X.res=X.res);let q51:=[X.a0,X.a1];let q52:=q51=q51;let q53:=[X.i0,X.i1];let q54:=q53=q53;let q55:=decide (q2=q2);let q56:=Z4 q1;let q57:=q56=q56;
 Z0 (decide ((↑i:Int)<(↑q2:Int)))
 (Z0 (decide (0<=(↑i:Int)/\(↑i:Int)<(↑q2:Int)))
 (Z0 (decide (u8=u8/\List.length xs=N))
 (Z0 (decide (q5*1<=140737488355328))
 (Z0 (decide (q5=q5/\q5=q5/\q5<B/\0<=q6))
 (Z0 q8
 (Z0 q10
 (Z0 q12
 (q14/\
 Z0 (decide (q15=q15))
 (Z0 (decide (q17=q17/\q17=q17/\q17<B/\0<=q15))
 (Z0 q8
 (Z0 q10
 (Z0 q12
 (q14/\
 Z0 (decide (q19=q19/\q19=q19/\q19<B/\List.length q13=32))
 (Z0 q8 (Z0 q10 (Z0 q12 (Z0 (decide (q21=q21/\q21=q21/\q21<B/\0<=q11)) (Z0 q8 (Z0 q10 (Z0 (decide (q23=q23/\q23=q23/\q23<B/\0<=q9)) (Z0 q8 (Z0 (decide (q25=q25/\q25=q25/\q25<B/\0<=q7)) (Z0 (q7==1) (Z0 (decide (q27=q27/\q27=q27/\q27<B/\List.length q28=32)) (Z0 q29 (Z0 (decide (q31=N1)) (Z0 (decide (N1<=q31)) (q34/\Z0 q36 (Z0 q38 (Z0 q40 (Z0 q42 (Z0 q44 (q46/\q48/\Z0 q49 (Z0 q50 (q52/\q54/\Z0 q55 (q57/\Z0 q55 (q30=ys/\Z1) False) False) False) False) False) False) False) False) False) False) False) False) False) (Z0 q29 (Z0 (decide (q27=N1)) (Z0 (decide (N1<=q27)) (q34/\Z0 q36 (Z0 q38 (Z0 q40 (Z0 q42 (Z0 q44 (q46/\q48/\Z0 q49 (Z0 q50 (q52/\q54/\Z0 q55 (q57/\Z0 q55 (q26=ys/\Z1) False) False) False) False) False) False) False) False) False) False) False) False)) False) False) False) False) False) False) False) False) False) False)
 False)
 False)
 False)
 False)
 False)
 False)
 False)
 False)
 False)
 False)
 False)
 False)
 (Z0 (decide (N=N)) (Z0 (decide (N<=N)) (xs=xs/\Z2) False) False)) (by kernel_rfl) ?_
 conv=>zeta
 try simp only [Zi]
 try simp only [Zj]
 try simp only [Zf]
 try simp only [Zk]
 try simp only [Zl]
 try simp only [Zg]
 try simp only [Int.toNat_natCast,Nat.zero_add,true_and,and_true,Nat.le_refl]
 subst hL
 refine ⟨fun hc=> ?_,fun hc=>hZ2 (by omega)⟩
 have hlt:i<X.L.length:=by omega
 rw [hx hlt]
 obtain ⟨⟨r1,_⟩,⟨r2,_⟩,⟨r3,_⟩,⟨r4,_⟩,r5,_⟩:=hr hlt
 have hk:=hk hlt
 have hB:=hB hlt
 have hy:=hy hlt
 have hN1:=hN1 hlt
 have hwr:i64.wrap ((i:Int)+1)=((i+1:Nat):Int):=by rw [w64 (by omega)];omega
 have k1:=hk.hash
 have k2:=hk.secret
 subst hW
 unfold Z1H at hy
 simp only [Yw] at hy
 have l1:=Y0 x.id
 have l2:=Y0 x.amount
 have l3:=Y0 x.expiry
 have l4:=Y0 x.stage
 have l5:=Y0 x.fin
 refine ⟨by omega,hN, ?_,⟨?_,r1⟩,⟨?_,r2⟩,⟨?_,k1⟩,⟨?_,r3⟩,⟨?_,r4⟩,⟨?_,r5⟩,fun hf=> ?_,fun hf=> ?_⟩
 case _|_|_|_|_|_|_=>simp only [List.length_append,List.length_cons,List.length_nil];omega
 ·have hf:x.fin=1:=by simpa using hf
  rw [if_pos hf] at hy
  rw [<-hy,<-hN1]
  refine ⟨⟨?_,k2⟩,hwr,rfl,Nat.le_refl _,rfl,hZ1 hlt⟩
  simp only [List.length_append,List.length_cons,List.length_nil];omega
 ·have hf:¬x.fin=1:=by simpa using hf
  rw [if_neg hf] at hy
  rw [<-hy,<-hN1]
  exact ⟨hwr,rfl,Nat.le_refl _,rfl,hZ1 hlt⟩
theorem ZlM (T:Int) (B:Nat) (X:Z7) (n i:Nat) (hd:List Int) (hB2:B<=80000000000000) (hC:Z8R T B X n hd) (hi:i<=n):ZB (Z7i Zq B) 20 20 0 0 (Z5S X i (Yr X hd i).length (Yr X hd i)) (rdM 0 0 9 (Z5S X (i+1) (Yr X hd (i+1)).length (Yr X hd (i+1))) (Z1J (Yr X hd i).length (Yr X hd i)) (Z1J (Yr X hd i).length (Yr X hd i)) (Z1J (Yr X hd i).length (Yr X hd i)) (i<n/\i<n) (i=n) False False):=by
 obtain ⟨h1,h2,h3,h4,h5⟩:=id hC
 have hlt:i<n->i<X.L.length:=fun h=>by omega
 have hl:=UJ (L:=X.L.take i) (fun z hz=>(h5 z (List.mem_of_mem_take hz)).2) hd
 have l0:(X.L.take i).length<=16:=by rw [List.length_take];omega
 refine Zie X n i _ _ B _ _ (X.L.getD i Z8) Zq T (i<n/\i<n) (i=n) (by omega) h1 hi (fun _=>rfl) rfl (fun _=> ?_) hB2 rfl (fun h=>(h5 _ (ZD (hlt h))).1) (fun h=>(h5 _ (ZD (hlt h))).2) (fun h=> ?_) (fun _=>rfl) (fun h=>⟨h,h⟩) (fun h=>h)
 ·unfold Yr;omega
 ·unfold Yr
  rw [Y9 (hlt h),List.foldl_append];rfl
noncomputable def ZeE (W:Int->List Int) (B:Nat) (X:Z7) (n N:Nat) (hd:List Int) (C:Prop) (E:Nat->St):Zh:=(Z7i W B).withL 20 0 (goM 0 (Z5S X 0 N hd) C (Yu 0 n 9 (fun i=>i<n) (fun i=>i=n) (fun _=>False) (fun _=>False) E E E))
theorem ZeF (X:Z7) (n:Nat) (hd:List Int):(ZeE Zq 80000000000000 X n hd.length hd (Z8R 4611686018427387904 80000000000000 X n hd) (fun i=>Z1J (Yr X hd i).length (Yr X hd i))).Ok:=
 Zh.withGoM (N:=20) (S:=fun i=>Z5S X i (Yr X hd i).length (Yr X hd i)) Z7j (by kernel_rfl) fun hC=>⟨rfl,fun i hi _=>ZlM _ _ X n i hd (Nat.le_refl _) hC hi⟩
theorem Zif (X:Z7) (n N B l:Nat) (hd ys:List Int) (W:Int->List Int) (T:Int) (C:Prop) (XF:Nat->List Int) (hC:C) (hn:X.L.length=n) (hhd:hd=XH W X) (hN:N=hd.length) (hy:ys=XF n) (hl:l=ys.length) (hf:X.t.fund.length=32) (h0:X.t.k0.length=32) (h1:X.t.k1.length=32) (hB:10000<=B) (hW:W=Zq) (hT:Z78 T X):
  evF (ZeE W B X n N hd C fun i=>Z1J (XF i).length (XF i)) 20 20 [Z0x X] ⟨0,[]⟩ (ZX 0 (.ret (slB 0 l)) 1 [(0,.ints .u8 ys)]):=by
 refine @Eq.mpr _ (let q1:=X.t;let q2:=q1.fund;let q3:=q1.delay;let q4:=decide (q3=q3);let q5:=q1.fee;let q6:=decide (q5=q5);let q7:=q1.dust;let q8:=decide (q7=q7);let q9:=q1.cap;let q10:=decide (q9=q9);let q11:=q1.index;let q12:=decide (q11=q11);let q13:=q2++W q11;let q14:=List.length q13;let q15:=q13++W q9;let q16:=List.length q15;let q17:=q15++W q7;let q18:=List.length q17;let q19:=q17++W q5;let q20:=List.length q19;let q21:=q19++W q3;let q22:=List.length q21;let q23:=q1.k0;let q24:=X.res;let q25:=decide (q24=q24);let q26:=X.side;let q27:=decide (q26=q26);let q28:=q1.k1;let q29:=q28=q28;let q30:=q21++q23;let q31:=List.length q30;let q32:=q30++q28;let q33:=List.length q32;let q34:=q32++W q26;let q35:=List.length q34;let q36:=q34++W q24;let q37:=List.length q36;let q38:=X.a0;let q39:=X.i1;let q40:=decide (q39=q39);let q41:=X.i0;let q42:=decide (q41=q41);let q43:=X.a1;let q44:=q36++W q38;let q45:=List.length q44;let q46:=q44++W q43;let q47:=List.length q46;let q48:=q46++W q41;let q49:=List.length q48;let q50:=q48++W q39;let q51:=List.length q50;let q52:=List.length X.L;let q53:=↑q52;let q54:=q50++W q53;let q55:=List.length q54;let q56:=[q38,q43];let q57:=[q41,q39];let q58:=decide (q52=q52);let q59:=Z4 X.L;
 Z0 (decide (List.length q2=32))
 (Z0 q4
 (Z0 q6
 (Z0 q8
 (Z0 q10
 (Z0 q12
 (Z0 (decide (List.length q2=32/\(32:Nat)=32/\32<B/\0<=q11))
 (Z0 q4
 (Z0 q6
 (Z0 q8
 (Z0 q10
 (Z0 (decide (q14=q14/\q14=q14/\q14<B/\0<=q9))
 (Z0 q4
 (Z0 q6
 (Z0 q8
 (Z0 (decide (q16=q16/\q16=q16/\q16<B/\0<=q7))
 (Z0 q4
 (Z0 q6
 (Z0 (decide (q18=q18/\q18=q18/\q18<B/\0<=q5))
 (Z0 q4
 (Z0 (decide (q20=q20/\q20=q20/\q20<B/\0<=q3))
 (Z0 (decide (q22=q22/\q22=q22/\q22<B/\List.length q23=32))
 (Z0 q25
 (Z0 q27
 (q29/\
 Z0 (decide (q31=q31/\q31=q31/\q31<B/\List.length q28=32))
 (Z0 q25
 (Z0 q27
 (Z0 (decide (q33=q33/\q33=q33/\q33<B/\0<=q26))
 (Z0 q25
 (Z0 (decide (q35=q35/\q35=q35/\q35<B/\0<=q24))
 (Z0 (decide (q37=q37/\q37=q37/\q37<B/\0<=q38)) (Z0 q40 (Z0 q42 (Z0 (decide (q43=q43)) (Z0 (decide (q45=q45/\q45=q45/\q45<B/\0<=q43)) (Z0 q40 (Z0 q42 (Z0 (decide (q47=q47/\q47=q47/\q47<B/\0<=q41)) (Z0 q40 (Z0 (decide (q49=q49/\q49=q49/\q49<B/\0<=q39)) (Z0 (decide (q51=q51/\q51=q51/\q51<B/\0<=q53)) (Z0 (decide (q55=N)) (Z0 (decide (N<=q55)) (q2=q2/\Z0 q12 (Z0 q10 (Z0 q8 (Z0 q6 (Z0 q4 (q23=q23/\q29/\Z0 q27 (Z0 q25 (q56=q56/\q57=q57/\Z0 q58 (q59=q59/\Z0 q58 (q54=hd/\C/\∀(i:Nat),i<=n->(∀(j:Nat),j<i->(fun (i:Nat)=>i<n) j)->(i=n->Z0 (decide (List.length (XF i)=l)) (Z0 (decide (l<=List.length (XF i))) (XF i=ys/\True) False) False)/\(False->False)/\(False->False)) False) False) False) False) False) False) False) False) False) False) False) False) False) False) False) False) False) False) False) False) False) False) False)
 False)
 False)
 False)
 False)
 False)
 False)
 False)
 False)
 False)
 False)
 False)
 False)
 False)
 False)
 False)
 False)
 False)
 False)
 False)
 False)
 False)
 False)
 False)
 False)
 False)
 False)
 False)
 False)
 False) (by kernel_rfl) ?_
 conv=>zeta
 try simp only [Zi]
 try simp only [Zj]
 try simp only [Zf]
 try simp only [Zk]
 try simp only [Zl]
 try simp only [Zg]
 try simp only [Int.toNat_natCast,Nat.zero_add,true_and,and_true,Nat.le_refl]
 subst hy hN hW
 obtain ⟨⟨t1,_⟩,⟨t2,_⟩,⟨t3,_⟩,⟨t4,_⟩,⟨t5,_⟩,⟨t6,_⟩,⟨t7,_⟩,⟨t8,_⟩,⟨t9,_⟩,⟨t10,_⟩,⟨t11,_⟩,t12,_⟩:=hT
 have hlen:=WE hf h0 h1
 rw [<-hhd] at hlen
 simp only [XH,Yw] at hhd
 rw [<-hhd]
 rw [hhd] at hlen
 simp only [List.length_append] at hlen⊢
 refine ⟨hf,⟨hf,by omega,t1⟩,⟨by omega,t2⟩,⟨by omega,t3⟩,⟨by omega,t4⟩,⟨by omega,t5⟩,⟨by omega,h0⟩,⟨by omega,h1⟩,⟨by omega,t6⟩,⟨by omega,t7⟩,⟨by omega,t8⟩,⟨by omega,t9⟩,⟨by omega,t10⟩,⟨by omega,t11⟩,⟨by omega,t12⟩,trivial,Nat.le_refl _,trivial,hC,fun i hi _=>⟨fun he=> ?_,fun h=>h,fun h=>h⟩⟩
 subst he
 exact ⟨hl.symm,Nat.le_of_eq hl,rfl⟩
def Zig (W:Int->List Int):Y8:=fun args h K=>ZP none h true 20 args fun a=>match a with
 | [.agg cs]=>∃X,LV cs X/\X.Inv Zr/\X.t.fund.length=32/\K (.ret (slB h.next (Yn W X).length)) ⟨h.next+1,(h.next,.ints .u8 (Yn W X))::h.bs⟩
 | _=>False
theorem ZeG (args:List AV) (h:Z9) (K:KO) (hl:Zig Zq args h K):Zn PP 20 args h K:=by
 refine ZA.fsumm (d:=20) (Zs _ _ _ _ _ hl fun a ha=> ?_)
 split at ha
 ·obtain ⟨X,hX,hI,hf,hK⟩:=ha
  have hv:=Zif X X.L.length _ 80000000000000 _ (XH Zq X) (Yn Zq X) Zq 4611686018427387904 (Z8R 4611686018427387904 80000000000000 X X.L.length (XH Zq X)) (Yr X (XH Zq X)) (hI.rw' hf) rfl rfl rfl (by unfold Yr;rw [List.take_length];rfl) rfl hf hI.tok.k0 hI.tok.k1 (by decide) rfl hI.hdnum
  exact ⟨_,_,_,_,(ZA.evM (ZeF X _ _) hv).conv fun E r hr=>hr.head (fun _ hc=>XB hX hc) fun _ hc=>hc,rfl,⟨Nat.one_pos,.ints _ _,trivial⟩,hK⟩
 ·exact ha.elim
end Go.Tk
end
section
namespace Go.Tk
open IntKind (i64 u8 u32 u64 wrap)
theorem ZlN (X:Z7) (hc:X.t.cap≠0):
  evF G0 20 44 [Wp X] ⟨0,[]⟩ (Y4 fun v=>v=.bool false):=by
 refine @Eq.mpr _ (AV.bool (X.t.cap==0)=AV.bool false) (by kernel_rfl) ?_
 have:(X.t.cap==0)=false:=by simpa using hc
 rw [this]
def Zih:ZK:=fun args h K=>ZP none h true 20 args fun a=>match a with
 | [.pview cs 0]=>∃X,LV cs X/\X.t.cap≠0/\K (.bool false)
 | _=>False
theorem ZeH (args:List AV) (h:Z9) (K:AV->Prop) (hl:Zih args h K):Zn PP 44 args h fun o h'=>∃v,o=.ret v/\h'=h/\K v:=by
 refine ZA.psumm (d:=20) (Zs _ _ _ _ _ hl fun a ha=> ?_)
 split at ha
 ·obtain ⟨X,hX,hI,hK⟩:=ha
  exact ⟨_,(ZA.evV Zu (ZlN X hI)).conv fun E r hr=>hr.head (fun _ hc=>W0 hX hc) fun _ hc=>hc,fun _=>rfl,hK⟩
 ·exact ha.elim
def ZeI:ZK:=fun args h K=>ZP none h true 20 args fun a=>match a with
 | [.pview cs 0,.bool own,.int .i64 id]=>∃X y,LV cs X/\X.L.length<1000/\X.t.cap≠0/\fdH X.L own id=(y,true)/\K (.tuple [.agg y.c,.bool true])
 | _=>False
theorem ZbB (args:List AV) (h:Z9) (K:AV->Prop) (hl:ZeI args h K):Zn PP 48 args h fun o h'=>∃v,o=.ret v/\h'=h/\K v:=by
 refine Zbs args h K (Zs _ _ _ _ _ hl fun a ha=> ?_)
 split at ha
 ·obtain ⟨X,y,hX,h1,h2,h3,hK⟩:=ha
  exact ⟨X,hX,h1,h2,by rw [h3];exact hK⟩
 ·exact ha.elim
noncomputable def Qd:Code:=rfA PP 15 0
noncomputable def Qe:Code:=rfB PP 15 0
noncomputable def ZjL (W:Int->List Int):Zh:=(((((((((G0.withF 45 ZdM).withP 44 Zih).withP 48 ZeI).withP 40 Z5R).withP 25 Zeg).withP 49 Zef).withP 50 Ze6).withP 51 Zah).withF 21 (Zi3 W)).withF 20 (Zig W)
theorem Zh9:(ZjL Zq).Ok:=Zh.withF_ok (Zh.withF_ok (Zh.withP_ok (Zh.withP_ok (Zh.withP_ok (Zh.withP_ok (Zh.withP_ok (Zh.withP_ok (Zh.withP_ok (Zh.withF_ok Zu Z1Z) ZeH) ZbB) Z3I) Zbv) Zbu) Zbo) Z8Z) Ze9) ZeG
def Zha:St:=⟨17,[],⟨0,[]⟩,[]⟩
def ZlO (X:Z7) (i:Nat):List (Nat×Blk):=[(10,.rows 70 i (Z4 X.L)),(3,.flat [slH 10 i]),(2,.flat [.bool false]),(1,.flat (X.c (.vrows 70 X.L.length (Z4 X.L) X.L.length))),(0,.flat [Wp X])]
noncomputable def Zhb (X:Z7) (i:Nat):St:=⟨17,[(0,.yield 9),(5,slH 6 X.L.length),(6,.int .i64 X.L.length),(7,.int .i64 i)],⟨11,(9,.loop ⟨.ready,none,15,102,[(2,pt 0),(3,pt 1),(4,pt 2),(5,pt 3)],[14],Qd,Qe,8⟩)::(8,.defd)::(6,.rows 70 X.L.length (Z4 X.L))::ZlO X i⟩,[]⟩
noncomputable def ZlP (X:Z7) (i:Nat):St:=⟨17,[(0,.yield 9)],⟨11,(9,.loop ⟨.ready,none,15,102,[(2,pt 0),(3,pt 1),(4,pt 2),(5,pt 3)],[14],Qd,Qe,8⟩)::(8,.defd)::ZlO X i⟩,[]⟩
theorem Znt (X:Z7) (n i:Nat) (x:Z6) (W:Int->List Int) (Z1 Z2:Prop) (hn:n<1000) (hL:X.L.length=n) (hi:i<=n) (hcap:X.t.cap≠0) (hx:i<n->X.L.getD i Z8=x) (hk:i<n->x.Ok) (hfd:i<n->fdH X.L x.own x.id=(x,true)) (h1:i<n->Z1) (h2:i=n->Z2):
  ZB (ZjL W) 20 108 0 10 (Zhb X i) (rdM 10 0 9 (Zhb X (i+1)) (ZlP X i) Zha Zha Z1 Z2 False False):=by
 refine @Eq.mpr _ (let q1:=X.L;let q2:=List.length q1;let q3:=(↑q2:Int);let q4:=0+Int.toNat (↑i:Int);let q5:=decide (i=i);let q6:=i+1;let q7:=Z4 q1;let q8:=Z7.c X (AV.vrows 70 q2 q7 q2);let q9:=List.getD q1 q4 Z8;let q10:=q9.own;let q11:=q9.id;let q12:=q9.hash;let q13:=q9.secret;let q14:=q9.amount;let q15:=q9.expiry;let q16:=q9.stage;let q17:=q9.fin;let q18:=(15:FuncId)=15/\(102:Nat)=102/\[(14:Nat)]=[(14:Nat)]/\Qd=Qd/\Qe=Qe;let q19:=decide (q6=i);let q20:=[(10,14)];let q21:=ZZ i q7 (YG [AV.bool q10,AV.int i64 q11,AV.int i64 q14,AV.arr u8 32 q12,AV.int i64 q15,AV.int i64 q16,AV.int i64 q17,AV.arr u8 32 q13] 0 70);let q22:=X.t;let q23:=q22.fund;let q24:=q23=q23;let q25:=q22.index;let q26:=decide (q25=q25);let q27:=q22.cap;let q28:=decide (q27=q27);let q29:=q22.dust;let q30:=decide (q29=q29);let q31:=q22.fee;let q32:=decide (q31=q31);let q33:=q22.delay;let q34:=decide (q33=q33);let q35:=q22.k0;let q36:=q35=q35;let q37:=q22.k1;let q38:=q37=q37;let q39:=decide (X.side=X.side);let q40:=decide (X.res=X.res);let q41:=[X.a0,X.a1];let q42:=q41=q41;let q43:=[X.i0,X.i1];let q44:=q43=q43;let q45:=decide (q2=q2);let q46:=q7=q7;let q47:=q8=q8;let q48:=q24/\Z0 q26 (Z0 q28 (Z0 q30 (Z0 q32 (Z0 q34 (q36/\q38/\Z0 q39 (Z0 q40 (q42/\q44/\Z0 q45 (q46/\Z0 q45 (q47/\Z2) False) False) False) False) False) False) False) False) False;let q49:=LoopState.ready=LoopState.ready/\(none:Option Code)=none/\q18;let q50:=decide (q6=q6);
 Z0 (decide ((↑i:Int)<q3))
 (Z0 (decide (0<=(↑i:Int)/\(↑i:Int)<q3))
 (Z0 (decide (q4<q2))
 (Z0 q5
 (Z0 (decide (q6*112<=140737488355328))
 (∃(X_1:Z7),
 ∃(y:Z6),
 LV q8 X_1/\
 List.length X_1.L<1000/\
 X_1.t.cap≠0/\
 fdH X_1.L q10 q11=(y,true)/\Z0 (decide (List.length y.hash=32/\List.length q12=32)) (Z0 (decide (List.length y.secret=32/\List.length q13=32)) (Z0 (!(y.own==q10&&(y.id==q11&&(y.amount==q14&&(y.hash==q12&&(y.expiry==q15&&(y.stage==q16&&(y.fin==q17&&y.secret==q13)))))))) ((LoopState.done=LoopState.ready/\some Code.ret=none/\q18)/\Z0 q19 (Zc 10 q20 i q7 q21/\Z0 q19 (Z0 (decide (i<=q6)) q48 False) False) False) (Z0 q45 (Z0 (decide (q2<=q2)) (Z0 (decide (q3=q3)) (Z0 (decide (wrap i64 ((↑i:Int)+1)=(↑q6:Int))) (q49/\Z0 q45 (Zc 10 q20 q2 q7 q7/\Z0 q50 (Zc 10 q20 q6 q7 q21/\Z0 q50 (Z0 (decide (q6<=q6)) (q24/\Z0 q26 (Z0 q28 (Z0 q30 (Z0 q32 (Z0 q34 (q36/\q38/\Z0 q39 (Z0 q40 (q42/\q44/\Z0 q45 (q46/\Z0 q45 (q47/\Z1) False) False) False) False) False) False) False) False) False) False) False) False) False) False) False) False) False)) False) False)
 False)
 False)
 False)
 False)
 (q49/\Z0 q5 (Zc 10 [(10,10)] i q7 q7/\Z0 q5 (Z0 (decide (i<=i)) q48 False) False) False)) (by kernel_rfl) ?_
 conv=>zeta
 try simp only [Zi]
 try simp only [Zj]
 try simp only [Zf]
 try simp only [Zk]
 try simp only [Zl]
 try simp only [Zg]
 try simp only [Int.toNat_natCast,Nat.zero_add,true_and,and_true,Nat.le_refl]
 subst hL
 refine ⟨fun hc=> ?_,fun hc=> ?_⟩
 ·have hlt:i<X.L.length:=by omega
  rw [hx hlt]
  have hk:=hk hlt
  have hwr:i64.wrap ((i:Int)+1)=((i+1:Nat):Int):=by rw [w64 (by omega)];omega
  have hC:∀τ,Zc 10 τ (i+1) (Z4 X.L) (ZZ i (Z4 X.L) (YG x.c 0 70)):=fun τ=>Zp fun j hj=>by
   rcases Nat.lt_or_ge j i with h|h
   ·rw [Z5o h]
   ·have e:j=i:=by omega
    subst e
    rw [Z0k (Nat.le_refl _),Nat.sub_self]
    unfold Z4
    rw [hx hlt];rfl
  refine ⟨by omega,hlt,by omega,X,x,.a rfl,hn,hcap,hfd hlt,⟨hk.hash,hk.hash⟩,⟨hk.secret,hk.secret⟩,fun h=>absurd h (by simp),fun _=> ?_⟩
  repeat' apply And.intro
  all_goals first|omega|rfl|exact hwr|exact h1 hlt|exact hC _|exact Zp fun _ _=>rfl
 ·repeat' apply And.intro
  all_goals first|omega|rfl|exact h2 (by omega)|exact Zp fun _ _=>rfl
theorem ZeJ {own:Bool} {id:Int} {L:List Z6} {i:Nat} (hi:i<L.length) (h:isP own id (L.getD i Z8)):ZH own id L<=i:=by
 obtain ⟨h1,_,_⟩:=U9 (own:=own) (id:=id) (L:=L)
 rcases Nat.lt_or_ge i (ZH own id L) with q|q
 ·exact absurd h (h1 i q)
 ·exact q
theorem Zhc {L:List Z6} (hl:L.Pairwise WW) {i:Nat} (hi:i<L.length):fdH L (L.getD i Z8).own (L.getD i Z8).id=(L.getD i Z8,true):=by
 have h0:isP (L.getD i Z8).own (L.getD i Z8).id (L.getD i Z8):=⟨rfl,rfl⟩
 have hle:=ZeJ hi h0
 obtain ⟨_,h2,_⟩:=U9 (own:=(L.getD i Z8).own) (id:=(L.getD i Z8).id) (L:=L)
 have hlt:ZH (L.getD i Z8).own (L.getD i Z8).id L<L.length:=by omega
 have he:=h2 hlt
 have:ZH (L.getD i Z8).own (L.getD i Z8).id L=i:=by
  rcases Nat.lt_or_ge (ZH (L.getD i Z8).own (L.getD i Z8).id L) i with q|q
  ·have hp:=(List.pairwise_iff_getElem.1 hl) _ i hlt hi q
   generalize ZH (L.getD i Z8).own (L.getD i Z8).id L=j at*
   have e1:L[j].own=L[i].own:=by have:=he.1;simpa [List.getD_eq_getElem?_getD,List.getElem?_eq_getElem hlt,List.getElem?_eq_getElem hi] using this
   have e2:L[j].id=L[i].id:=by have:=he.2;simpa [List.getD_eq_getElem?_getD,List.getElem?_eq_getElem hlt,List.getElem?_eq_getElem hi] using this
   unfold WW Wy at hp
   rw [e1,e2] at hp
   omega
  ·omega
 unfold fdH
 rw [this,if_pos hi]
def Znu (X:Z7) (n:Nat):Prop:=X.Inv Zr/\X.L.length=n
noncomputable def Zii (W:Int->List Int) (X:Z7) (n:Nat) (C:Prop):Zh:=(ZjL W).withL 108 0 (goM 10 (Zhb X 0) C (Yu 0 n 9 (fun i=>i<n) (fun i=>i=n) (fun _=>False) (fun _=>False) (ZlP X) (fun _=>Zha) (fun _=>Zha)))
theorem ZeK (X:Z7) (n:Nat):(Zii Zq X n (Znu X n)).Ok:=
 Zh.withGoM (N:=20) (S:=Zhb X) Zh9 (by kernel_rfl) fun hC=>⟨rfl,fun i hi _=>by
  obtain ⟨hI,hL⟩:=hC
  exact Znt X n i (X.L.getD i Z8) Zq _ _ (by have:=hI.len;omega) hL hi (Xg hI.tb) (fun _=>rfl) (fun h=>hI.ok _ (ZD (by omega))) (fun h=>Zhc hI.less (by omega)) (fun h=>⟨h,h⟩) (fun h=>h)⟩
theorem Znv (X:Z7) (n:Nat) (W:Int->List Int) (C:Prop) (hC:C) (hI:X.Inv Zr) (hn:X.L.length=n) (hf:X.t.fund.length=32):
  evF (Zii W X n C) 20 15 [Wp X,Z0x X] ⟨0,[]⟩ (Y4 fun v=>v=.bool true):=by
 refine @Eq.mpr _ (let q1:=List.length X.L;let q2:=Z4 X.L;let q3:=AV.vrows 70 q1 q2 q1;let q4:=Z7.c X q3;let q5:=q1<1000000;let q6:=decide (q1=q1);let q7:=(↑q1:Int);let q8:=X.t;let q9:=q8.fund;let q10:=q9=q9;let q11:=q8.index;let q12:=decide (q11=q11);let q13:=q8.cap;let q14:=decide (q13=q13);let q15:=q8.dust;let q16:=decide (q15=q15);let q17:=q8.fee;let q18:=decide (q17=q17);let q19:=q8.delay;let q20:=decide (q19=q19);let q21:=q8.k0;let q22:=q21=q21;let q23:=q8.k1;let q24:=q23=q23;let q25:=X.side;let q26:=decide (q25=q25);let q27:=X.res;let q28:=decide (q27=q27);let q29:=[X.a0,X.a1];let q30:=q29=q29;let q31:=X.i0;let q32:=X.i1;let q33:=[q31,q32];let q34:=q33=q33;let q35:=q2=q2;let q36:=AV.bool false=AV.bool true;
 ∃(X_1:Z7),
 LV q4 X_1/\
 X_1.t.cap≠0/\
 ∃(L:List Z6),
 q1=q1/\
 q2=Z4 L/\
 q5/\
 ∃(X_2:Z7),
 LV q4 X_2/\
 X_2.t.cap≠0/\
 ∃(L_1:List Z6),
 q1=q1/\
 q2=Z4 L_1/\
 q5/\
 Z0 q6
 (Z0 (decide (q1<=q1))
 (Z0 (decide (q7=q7))
 ((LoopState.ready=LoopState.ready/\(none:Option Code)=none/\(15:FuncId)=15/\(102:Nat)=102/\[(14:Nat)]=[(14:Nat)]/\Qd=Qd/\Qe=Qe)/\
 Z0 q6
 (Zc 10 [] q1 q2 (Z4 L_1)/\
 q10/\
 Z0 q12
 (Z0 q14
 (Z0 q16
 (Z0 q18
 (Z0 q20
 (q22/\
 q24/\
 Z0 q26
 (Z0 q28
 (q30/\
 q34/\
 Z0 q6
 (q35/\
 Z0 q6
 (q4=q4/\
 C/\
 ∀(i:Nat),
 i<=n->
 (∀(j:Nat),j<i->(fun (i:Nat)=>i<n) j)->
 (i=n->
 Z0 (decide (0+i<=i))
 ((∀(i_1:Nat),i_1<i->true=true)/\
 ∃(A:List Z6),
 (i=List.length A/\i=i/\q1=i/\q1=i)/\
 (ZT 0 q2=Z4 A/\q2=Z4 A)/\
 i<1000/\
 (∀(h:Z6),List.Mem h A->Z6.Ok h)/\
 ∃(X_3:Z7),
 LV q4 X_3/\
 X_3.t.cap≠0/\
 q30/\
 Z0 (q29==q29)
 (∃(X_4:Z7),
 LV q4 X_4/\
 Z7.Inv Zr X_4/\
 ∃(X_5:Z7),
 let q73:=[AV.arr u8 32 q9,AV.int i64 q11,AV.int i64 q13,AV.int i64 q15,AV.int i64 q17,AV.int i64 q19,AV.arr u8 32 q21,AV.arr u8 32 q23,AV.int i64 q25,AV.int i64 q27,AV.arr i64 2 q29,AV.arr i64 2 q33,q3];
 LV q73 X_5/\
 Z7.Inv Zr X_5/\
 Z0 (leftV X_4 0==leftV X_5 0)
 (∃(X_6:Z7),
 LV q4 X_6/\
 Z7.Inv Zr X_6/\
 ∃(X_7:Z7),
 LV q73 X_7/\
 Z7.Inv Zr X_7/\
 Z0 (leftV X_6 1==leftV X_7 1)
 (∃(X_8:Z7),
 LV q4 X_8/\
 Z7.Inv Zr X_8/\
 ∃(X_9:Z7),
 LV q4 X_9/\
 Z7.Inv Zr X_9/\
 ∃(X_10:Z7),
 LV q4 X_10/\
 X_10.t.cap≠0/\
 Z0 (decide (q31=q31))
 (Z0 (q31==q31)
 (∃(X_11:Z7),
 LV q4 X_11/\
 X_11.t.cap≠0/\
 Z0 (decide (q32=q32))
 (Z0 (q32==q32)
 (∃(X_12:Z7),
 LV q4 X_12/\
 Z7.Inv Zr X_12/\
 ∃(X_13:Z7),
 LV q73 X_13/\
 Z7.Inv Zr X_13/\
 Z0 (Wo X_12.L==Wo X_13.L)
 (∃(X_14:Z7),
 let q75:=List.length (Yn W X_14);let q76:=decide (u8=u8/\0+q75<=q75);let q77:=strOf (List.take q75 (YC 0 (Yn W X_14)));
 LV q4 X_14/\
 Z7.Inv Zr X_14/\
 List.length X_14.t.fund=32/\
 q10/\
 Z0 q12
 (Z0 q14
 (Z0 q16
 (Z0 q18
 (Z0 q20
 (q22/\
 q24/\
 Z0 q26
 (Z0 q28
 (q30/\
 q34/\
 Z0 q6
 (q35/\
 Z0 q6
 (Z0 q76
 (∃(X_15:Z7),
 let q81:=List.length (Yn W X_15);
 LV q73 X_15/\Z7.Inv Zr X_15/\List.length X_15.t.fund=32/\Z0 q76 (q77=q77/\Z0 (decide (u8=u8/\0+q81<=q81)) (AV.bool (ByteArray.toList q77==ByteArray.toList (strOf (List.take q81 (YC 0 (Yn W X_15)))))=AV.bool true) False) False)
 False)
 False)
 False)
 False)
 False)
 False)
 False)
 False)
 False)
 False)
 q36)
 q36)
 False)
 q36)
 False)
 q36)
 q36)
 q36)
 False)/\
 (False->False)/\(False->False))
 False)
 False)
 False)
 False)
 False)
 False)
 False)
 False)
 False)
 False)
 False)
 False)
 False) (by kernel_rfl) ?_
 conv=>zeta
 try simp only [Zi]
 try simp only [Zj]
 try simp only [Zf]
 try simp only [Zk]
 try simp only [Zl]
 try simp only [Zg]
 try simp only [Int.toNat_natCast,Nat.zero_add,true_and,and_true,Nat.le_refl]
 subst hn
 have hcap:=Xg hI.tb
 have hlen:=hI.am.n
 refine ⟨X,.a rfl,hcap,X.L,rfl,by omega,X,.a rfl,hcap,X.L,rfl,by omega,Zp fun _ _=>rfl,hC,fun i hi _=>⟨fun he=> ?_,fun h=>h.elim,fun h=>h.elim⟩⟩
 subst he
 refine ⟨fun _ _=>trivial,X.L,⟨rfl,rfl,rfl⟩,⟨rfl,rfl⟩,hlen,hI.ok,X,.a rfl,hcap, ?_⟩
 repeat' first
  | exact hI
  | exact hcap
  | exact hf
  | (intro h;simp at h;done)
  | intro _
  | refine Exists.intro X (And.intro (.a rfl) ?_)
  | apply And.intro
  | rfl
  | omega
  | exact congrArg AV.bool (beq_self_eq_true _)
def ZlQ:ZK:=fun args h K=>ZP none h true 20 args fun a=>match a with
 | [.pview cs 0,.agg ws]=>∃X,LV cs X/\LV ws X/\X.Inv Zr/\X.t.fund.length=32/\K (.bool true)
 | _=>False
theorem Zhd (args:List AV) (h:Z9) (K:AV->Prop) (hl:ZlQ args h K):Zn PP 15 args h fun o h'=>∃v,o=.ret v/\h'=h/\K v:=by
 refine ZA.psumm (d:=20) (Zs _ _ _ _ _ hl fun a ha=> ?_)
 split at ha
 ·obtain ⟨X,hX,hW,hI,hf,hK⟩:=ha
  exact ⟨_,(ZA.evV (ZeK X X.L.length) (Znv X _ Zq _ ⟨hI,rfl⟩ hI rfl hf)).conv fun E r hr=>hr.head (fun _ hc=>W0 hX hc) fun _ hr=>hr.head (fun _ hc=>XB hW hc) fun _ hc=>hc,fun _=>rfl,hK⟩
 ·exact ha.elim
end Go.Tk
end
section
namespace Go.Tk
open IntKind (i64 u8 u32 u64 wrap)
structure YB where
 what:Int
 own:Bool
 off:Int
 amount:Int
 expiry:Int
 secret:List Int
 at':Int
 move:Int
 ours:Bool
 number:Int
def YB.c (a:YB):List AV:=[.int .i64 a.what,.bool a.own,.int .i64 a.off,.int .i64 a.amount,.int .i64 a.expiry,.arr .u8 32 a.secret,.int .i64 a.at',.int .i64 a.move,.bool a.ours,.int .i64 a.number]
structure YB.Ok (a:YB):Prop where
 secret:a.secret.length=32
 sb:Bytes a.secret
def Zij (t:Int) (n:Nat):Nat:=(Int.tmod (Int.tmod t n+n) n).toNat
def Yc (X:Z7) (a:YB):Bool×Int:=if X.L.length=0\/a.at'=99 then (a.own,a.off) else ((X.L.getD (Zij a.at' X.L.length) Z8).own,(X.L.getD (Zij a.at' X.L.length) Z8).id)
theorem ZeL {t:Int} {n:Nat} (hn:0<n):(0<=Int.tmod (Int.tmod t n+n) n/\Int.tmod (Int.tmod t n+n) n<n)/\ -(n:Int)<Int.tmod t n/\Int.tmod t n<n:=by
 have h1:=Int.tmod_lt_of_pos t (show (0:Int)<n by omega)
 have h2: -(n:Int)<Int.tmod t n:=by
  have:=Int.tmod_lt_of_pos (-t) (show (0:Int)<n by omega)
  rw [Int.neg_tmod] at this;omega
 have h3:=Int.tmod_lt_of_pos (Int.tmod t n+n) (show (0:Int)<n by omega)
 have h4:=Int.tmod_nonneg (n:Int) (show (0:Int)<=Int.tmod t n+n by omega)
 exact ⟨⟨h4,h3⟩,h2,h1⟩
theorem Znw (X:Z7) (a:YB) (o:Bool) (d:Int) (hn:X.L.length<1000) (ho:o=(Yc X a).1) (hd:d=(Yc X a).2):
  evF G0 20 36 [Z0x X,.agg a.c] ⟨0,[]⟩ (Y4 fun v=>v=.tuple [.bool o,.int .i64 d,.agg [.arr .u8 32 a.secret]]):=by
 refine @Eq.mpr _ (let q1:=↑(List.length X.L);let q2:=[AV.agg [AV.arr u8 32 a.secret]];let q3:=AV.tuple (AV.bool o::AV.int i64 d::q2);let q4:=AV.tuple (AV.bool a.own::AV.int i64 a.off::q2)=q3;let q5:=decide (q1≠0);let q6:=Int.tmod (wrap i64 (Int.tmod a.at' q1+q1)) q1;let q7:=List.getD X.L (Int.toNat q6) Z8;
 Z0 (q1==0) q4 (Z0 (a.at'==99) q4 (Z0 q5 (Z0 q5 (Z0 (decide (0<=q6/\q6<q1)) (AV.tuple (AV.bool q7.own::AV.int i64 q7.id::q2)=q3) False) False) False))) (by kernel_rfl) ?_
 conv=>zeta
 try simp only [Zi]
 try simp only [Zj]
 try simp only [Zf]
 try simp only [Zk]
 try simp only [Zl]
 try simp only [Zg]
 try simp only [Int.toNat_natCast,Nat.zero_add,true_and,and_true,Nat.le_refl]
 subst ho hd
 unfold Yc
 refine ⟨fun h=> ?_,fun h=>⟨fun h9=> ?_,fun h9=> ?_⟩⟩
 ·have h:X.L.length=0:=by simpa using h
  rw [if_pos (.inl h)]
 ·rw [if_pos (.inr (by simpa using h9))]
 ·have h:¬X.L.length=0:=by simpa using h
  have h9:¬a.at'=99:=by simpa using h9
  obtain ⟨p1,p2⟩:=ZeL (t:=a.at') (n:=X.L.length) (by omega)
  rw [w64 (x:=Int.tmod a.at' X.L.length+X.L.length) (by omega),if_neg (fun q=>q.elim h h9)]
  exact ⟨by omega,by omega,p1,rfl⟩
def Zik:ZK:=fun args h K=>ZP none h true 20 args fun a=>match a with
 | [.agg cs,.agg [.int .i64 w,.bool ow,.int .i64 of,.int .i64 am,.int .i64 ex,.arr .u8 32 se,.int .i64 at',.int .i64 mo,.bool ou,.int .i64 nu]]=>∃X,LV cs X/\X.L.length<1000/\K (.tuple [.bool (Yc X ⟨w,ow,of,am,ex,se,at',mo,ou,nu⟩).1,.int .i64 (Yc X ⟨w,ow,of,am,ex,se,at',mo,ou,nu⟩).2,.agg [.arr .u8 32 se]])
 | _=>False
theorem ZeM (args:List AV) (h:Z9) (K:AV->Prop) (hl:Zik args h K):Zn PP 36 args h fun o h'=>∃v,o=.ret v/\h'=h/\K v:=by
 refine ZA.psumm (d:=20) (Zs _ _ _ _ _ hl fun a ha=> ?_)
 split at ha
 ·rename_i cs w ow of am ex se at' mo ou nu
  obtain ⟨X,hX,h1,hK⟩:=ha
  exact ⟨_,(ZA.evV Zu (Znw X ⟨w,ow,of,am,ex,se,at',mo,ou,nu⟩ _ _ h1 rfl rfl)).conv fun E r hr=>hr.head (fun _ hc=>XB hX hc) fun _ hc=>hc,fun _=>rfl,hK⟩
 ·exact ha.elim
noncomputable def Z3X (H1:List Int->List Int) (B:Nat) (c:Bool):Zh:=(((((((((((((G0.withP 102 (Z9A H1 B)).withF 26 (Zjl Zr c)).withF 88 (Zjs c)).withF 27 (ZdY c)).withF 30 Z8P).withF 23 (Z5M c)).withF 34 (Zem Zr c)).withF 103 (Zes c)).withF 39 (Z8W c)).withF 41 Z5Q).withF 42 (Z3H c)).withP 40 Z5R).withP 43 Z3J).withP 36 Zik
theorem Wz (c:Bool):(Z3X W2 1000 c).Ok:=Zh.withP_ok (Zh.withP_ok (Zh.withP_ok (Zh.withF_ok (Zh.withF_ok (Zh.withF_ok (Zh.withF_ok (Zh.withF_ok (Zh.withF_ok (Zh.withF_ok (Zh.withF_ok (Zh.withF_ok (Zh.withF_ok (Zh.withP_ok Zu (Z3a fun xs h=>Z0Z xs (by omega))) (Zgg c)) (Zgo c)) (ZdZ c)) Zbm) (Z3B c)) (Zen c)) (Zet c)) (Zbx c)) Z8X) (Z1v c)) Z3I) Z1w) ZeM
def Z18 (X:Z7):Z9:=⟨3,[(0,.flat (X.c (slH 1 X.L.length))),(1,.rows 70 X.L.length (Z4 X.L)),(2,.rows 70 X.L.length (Z4 X.L))]⟩
theorem Zhe {X:Z7} (hI:X.Inv Zr) {m:Int} {h:Z6} (hh:h∈Yp m X.L):h.Ok:=by
 unfold Yp at hh
 obtain ⟨z,hz,rfl⟩:=List.mem_map.1 hh
 have:=hI.ok z (List.mem_filter.1 hz).1
 exact ⟨this.hash,this.hb,this.secret,this.sb⟩
theorem Zhf {X:Z7} (hI:X.Inv Zr) {m:Int} {h:Z6} (hh:h∈ZV m X.L):h.Ok:=by
 obtain ⟨z,hz,rfl⟩:=QZ hh
 have:=hI.ok z hz
 exact ⟨this.hash,this.hb,this.secret,this.sb⟩
def Z3K (X:Z7):List (Nat×Blk):=[(0,.flat (X.c (slH 1 X.L.length))),(1,.rows 70 X.L.length (Z4 X.L)),(2,.rows 70 X.L.length (Z4 X.L))]
def ZbC (X Y:Z7):List (Nat×Blk):=[(0,.flat (Y.c (slH 3 Y.L.length))),(3,.rows 70 Y.L.length (Z4 Y.L)),(4,.rows 70 Y.L.length (Z4 Y.L)),(2,.rows 70 X.L.length (Z4 X.L))]
def WY (n:Int):Int:=max (-1099511627776) (min 1099511627776 n)
def idA (X:Z7) (a:YB):Int:=X.nx a.own+WY a.off
theorem ZlR (X Y:Z7) (a:YB) (H1:List Int->List Int) (B:Nat) (hs:List Int) (hI:X.Inv Zr) (ha:a.Ok) (hB:32<=B) (hh:H1 a.secret=hs) (hl:hs.length=32) (hY:Y=addX X a.own (idA X a) a.amount hs a.expiry) (he:XA X a.own (idA X a) a.amount hs a.expiry=0):
  evF (Z3X H1 B true) 20 11 [.ptr (some ⟨0,0,0,0,0⟩),.agg (X.c (slH 2 X.L.length)),.agg (.int .i64 0::a.c.tail)] (Z18 X) (ZX 3 (.ret (.tuple [.agg (Y.c (slH 4 Y.L.length)),.bool true])) 5 (ZbC X Y)):=by
 refine @Eq.mpr _ (let q1:=a.own;let q2:=List.length a.secret;let q3:=decide (q2=32);let q4:=decide (32=q2);let q5:=decide (q2<=B);let q6:=a.expiry;let q7:=decide (q6=q6);let q8:=a.amount;let q9:=decide (q8=q8);let q10:=decide (q1=q1);let q11:=X.t;let q12:=q11.fund;let q13:=q12=q12;let q14:=q11.index;let q15:=decide (q14=q14);let q16:=q11.cap;let q17:=decide (q16=q16);let q18:=q11.dust;let q19:=decide (q18=q18);let q20:=q11.fee;let q21:=decide (q20=q20);let q22:=q11.delay;let q23:=decide (q22=q22);let q24:=q11.k0;let q25:=q24=q24;let q26:=q11.k1;let q27:=q26=q26;let q28:=X.side;let q29:=decide (q28=q28);let q30:=X.res;let q31:=decide (q30=q30);let q32:=[X.a0,X.a1];let q33:=q32=q32;let q34:=[X.i0,X.i1];let q35:=q34=q34;let q36:=List.length X.L;let q37:=decide (q36=q36);let q38:=AV.arr u8 32 q12;let q39:=AV.int i64 q14;let q40:=AV.int i64 q16;let q41:=AV.int i64 q18;let q42:=AV.int i64 q20;let q43:=AV.int i64 q22;let q44:=AV.arr u8 32 q24;let q45:=AV.arr u8 32 q26;let q46:=AV.int i64 q28;let q47:=AV.int i64 q30;let q48:=AV.arr i64 2 q32;let q49:=AV.arr i64 2 q34;let q50:=Z4 X.L;let q51:=if a.off<1099511627776 then a.off else 1099511627776;let q52:=if q51> -1099511627776 then q51 else -1099511627776;let q53:=wrap i64 (X.i0+q52);let q54:=H1 a.secret;let q55:=Y.t;let q56:=q55.fund;let q57:=q55.index;let q58:=q55.cap;let q59:=q55.dust;let q60:=q55.fee;let q61:=q55.delay;let q62:=q55.k0;let q63:=q55.k1;let q64:=Y.side;let q65:=Y.res;let q66:=[Y.a0,Y.a1];let q67:=[Y.i0,Y.i1];let q68:=List.length Y.L;let q69:=[(3,12),(4,8)];let q70:=Z4 Y.L;let q71:=wrap i64 (X.i1+q52);
 Z0 q1
 (Z0 q3
 (Z0 q4
 (Z0 q5
 (Z0 q7
 (Z0 q9
 (Z0 q10
 (q13/\
 Z0 q15
 (Z0 q17
 (Z0 q19
 (Z0 q21
 (Z0 q23
 (q25/\
 q27/\
 Z0 q29
 (Z0 q31
 (q33/\
 q35/\
 Z0 q37
 (Z0 q37
 ((∀(i:Nat),i<q36->true=true)/\
 ∃(X_1:Z7),
 let q143:=addX X_1 q1 q53 q8 q54 q6;let q144:=q143.t;let q145:=q144.fund;let q146:=q145=q145;let q147:=q144.index;let q148:=decide (q147=q147);let q149:=q144.cap;let q150:=decide (q149=q149);let q151:=q144.dust;let q152:=decide (q151=q151);let q153:=q144.fee;let q154:=decide (q153=q153);let q155:=q144.delay;let q156:=decide (q155=q155);let q157:=q144.k0;let q158:=q157=q157;let q159:=q144.k1;let q160:=q159=q159;let q161:=q143.side;let q162:=decide (q161=q161);let q163:=q143.res;let q164:=decide (q163=q163);let q165:=[q143.a0,q143.a1];let q166:=q165=q165;let q167:=[q143.i0,q143.i1];let q168:=q167=q167;let q169:=List.length X_1.L;let q170:=q169+1;let q171:=decide (q170=q170);let q172:=decide (q170=q68);
 LD [q38,q39,q40,q41,q42,q43,q44,q45,q46,q47,q48,q49,AV.nslice (ZG.mk 0 0 70 0 0) 70 q36 q36] q36 q50 X_1/\
 Z7.Inv Zr X_1/\
 XA X_1 q1 q53 q8 q54 q6=0/\
 Z0 q3
 (Z0 q4
 (Z0 q5
 (Z0 q7
 (Z0 q9
 (Z0 q10
 (q146/\
 Z0 q148
 (Z0 q150
 (Z0 q152
 (Z0 q154
 (Z0 q156
 (q158/\
 q160/\
 Z0 q162
 (Z0 q164
 (q166/\
 q168/\
 Z0 q171
 (Z0 q171
 ((∀(i:Nat),i<q36->true=true)/\
 ∃(X_2:Z7),
 let q203:=addX X_2 q1 q53 q8 q54 q6;let q204:=q203.t;let q205:=List.length X_2.L+1;let q206:=decide (q205=q68);
 LB [q38,q39,q40,q41,q42,q43,q44,q45,q46,q47,q48,q49,AV.nslice (ZG.mk 1 0 70 0 0) 70 q36 q36] q36 q50 X_2/\
 Z7.Inv Zr X_2/\
 XA X_2 q1 q53 q8 q54 q6=0/\
 q146/\
 Z0 q148
 (Z0 q150
 (Z0 q152
 (Z0 q154
 (Z0 q156
 (q158/\
 q160/\
 Z0 q162
 (Z0 q164
 (q166/\
 q168/\
 Z0 q171
 (Z0 q171
 (q146/\
 Z0 q148
 (Z0 q150
 (Z0 q152
 (Z0 q154
 (Z0 q156
 (q158/\
 q160/\
 Z0 q162
 (Z0 q164
 (q166/\
 q168/\
 Z0 q171
 (Z0 q171 (q145=q56/\Z0 (decide (q147=q57)) (Z0 (decide (q149=q58)) (Z0 (decide (q151=q59)) (Z0 (decide (q153=q60)) (Z0 (decide (q155=q61)) (q157=q62/\q159=q63/\Z0 (decide (q161=q64)) (Z0 (decide (q163=q65)) (q165=q66/\q167=q67/\Z0 q172 (Z0 (decide (q68<=q170)) (q204.fund=q56/\Z0 (decide (q204.index=q57)) (Z0 (decide (q204.cap=q58)) (Z0 (decide (q204.dust=q59)) (Z0 (decide (q204.fee=q60)) (Z0 (decide (q204.delay=q61)) (q204.k0=q62/\q204.k1=q63/\Z0 (decide (q203.side=q64)) (Z0 (decide (q203.res=q65)) ([q203.a0,q203.a1]=q66/\[q203.i0,q203.i1]=q67/\Z0 q206 (Z0 (decide (q68<=q205)) (Z0 q206 (Zc 3 q69 q68 q70 (Z4 q203.L)/\Z0 q172 (Zc 3 q69 q68 q70 (Z4 q143.L)/\Z0 (decide (q169=q36)) (Zc 3 q69 q36 q50 (Z4 X_1.L)/\True) False) False) False) False) False) False) False) False) False) False) False) False) False) False) False) False) False) False) False) False) False)
 False)
 False)
 False)
 False)
 False)
 False)
 False)
 False)
 False)
 False)
 False)
 False)
 False)
 False)
 False)
 False)
 False)
 False)
 False)
 False)
 False)
 False)
 False)
 False)
 False)
 False)
 False)
 False)
 False)
 False)
 False)
 False)
 False)
 False)
 False)
 False)
 False)
 False)
 False)
 False)
 False)
 False)
 False)
 False)
 False)
 False)
 False)
 False)
 (Z0 q3
 (Z0 q4
 (Z0 q5
 (Z0 q7
 (Z0 q9
 (Z0 q10
 (q13/\
 Z0 q15
 (Z0 q17
 (Z0 q19
 (Z0 q21
 (Z0 q23
 (q25/\
 q27/\
 Z0 q29
 (Z0 q31
 (q33/\
 q35/\
 Z0 q37
 (Z0 q37
 ((∀(i:Nat),i<q36->true=true)/\
 ∃(X_1:Z7),
 let q143:=addX X_1 q1 q71 q8 q54 q6;let q144:=q143.t;let q145:=q144.fund;let q146:=q145=q145;let q147:=q144.index;let q148:=decide (q147=q147);let q149:=q144.cap;let q150:=decide (q149=q149);let q151:=q144.dust;let q152:=decide (q151=q151);let q153:=q144.fee;let q154:=decide (q153=q153);let q155:=q144.delay;let q156:=decide (q155=q155);let q157:=q144.k0;let q158:=q157=q157;let q159:=q144.k1;let q160:=q159=q159;let q161:=q143.side;let q162:=decide (q161=q161);let q163:=q143.res;let q164:=decide (q163=q163);let q165:=[q143.a0,q143.a1];let q166:=q165=q165;let q167:=[q143.i0,q143.i1];let q168:=q167=q167;let q169:=List.length X_1.L;let q170:=q169+1;let q171:=decide (q170=q170);let q172:=decide (q170=q68);
 LD [q38,q39,q40,q41,q42,q43,q44,q45,q46,q47,q48,q49,AV.nslice (ZG.mk 0 0 70 0 0) 70 q36 q36] q36 q50 X_1/\
 Z7.Inv Zr X_1/\
 XA X_1 q1 q71 q8 q54 q6=0/\
 Z0 q3
 (Z0 q4
 (Z0 q5
 (Z0 q7
 (Z0 q9
 (Z0 q10
 (q146/\
 Z0 q148
 (Z0 q150
 (Z0 q152
 (Z0 q154
 (Z0 q156
 (q158/\
 q160/\
 Z0 q162
 (Z0 q164
 (q166/\
 q168/\
 Z0 q171
 (Z0 q171
 ((∀(i:Nat),i<q36->true=true)/\
 ∃(X_2:Z7),
 let q203:=addX X_2 q1 q71 q8 q54 q6;let q204:=q203.t;let q205:=List.length X_2.L+1;let q206:=decide (q205=q68);
 LB [q38,q39,q40,q41,q42,q43,q44,q45,q46,q47,q48,q49,AV.nslice (ZG.mk 1 0 70 0 0) 70 q36 q36] q36 q50 X_2/\
 Z7.Inv Zr X_2/\
 XA X_2 q1 q71 q8 q54 q6=0/\
 q146/\
 Z0 q148
 (Z0 q150
 (Z0 q152
 (Z0 q154
 (Z0 q156
 (q158/\
 q160/\
 Z0 q162
 (Z0 q164
 (q166/\
 q168/\
 Z0 q171
 (Z0 q171
 (q146/\
 Z0 q148
 (Z0 q150
 (Z0 q152
 (Z0 q154
 (Z0 q156
 (q158/\
 q160/\
 Z0 q162
 (Z0 q164
 (q166/\
 q168/\
 Z0 q171
 (Z0 q171 (q145=q56/\Z0 (decide (q147=q57)) (Z0 (decide (q149=q58)) (Z0 (decide (q151=q59)) (Z0 (decide (q153=q60)) (Z0 (decide (q155=q61)) (q157=q62/\q159=q63/\Z0 (decide (q161=q64)) (Z0 (decide (q163=q65)) (q165=q66/\q167=q67/\Z0 q172 (Z0 (decide (q68<=q170)) (q204.fund=q56/\Z0 (decide (q204.index=q57)) (Z0 (decide (q204.cap=q58)) (Z0 (decide (q204.dust=q59)) (Z0 (decide (q204.fee=q60)) (Z0 (decide (q204.delay=q61)) (q204.k0=q62/\q204.k1=q63/\Z0 (decide (q203.side=q64)) (Z0 (decide (q203.res=q65)) ([q203.a0,q203.a1]=q66/\[q203.i0,q203.i1]=q67/\Z0 q206 (Z0 (decide (q68<=q205)) (Z0 q206 (Zc 3 q69 q68 q70 (Z4 q203.L)/\Z0 q172 (Zc 3 q69 q68 q70 (Z4 q143.L)/\Z0 (decide (q169=q36)) (Zc 3 q69 q36 q50 (Z4 X_1.L)/\True) False) False) False) False) False) False) False) False) False) False) False) False) False) False) False) False) False) False) False) False) False)
 False)
 False)
 False)
 False)
 False)
 False)
 False)
 False)
 False)
 False)
 False)
 False)
 False)
 False)
 False)
 False)
 False)
 False)
 False)
 False)
 False)
 False)
 False)
 False)
 False)
 False)
 False)
 False)
 False)
 False)
 False)
 False)
 False)
 False)
 False)
 False)
 False)
 False)
 False)
 False)
 False)
 False)
 False)
 False)
 False)
 False)
 False)
 False)) (by kernel_rfl) ?_
 conv=>zeta
 try simp only [Zi]
 try simp only [Zj]
 try simp only [Zf]
 try simp only [Zk]
 try simp only [Zl]
 try simp only [Zg]
 try simp only [Int.toNat_natCast,Nat.zero_add,true_and,and_true,Nat.le_refl]
 have hsb:a.secret.length<=B:=by rw [ha.secret];exact hB
 have hc:(if (if a.off<1099511627776 then a.off else 1099511627776)> -1099511627776 then (if a.off<1099511627776 then a.off else 1099511627776) else -1099511627776)=WY a.off:=by
  unfold WY
  split<;>split<;>omega
 have hcb: -1099511627776<=WY a.off/\WY a.off<=1099511627776:=by unfold WY;omega
 have h0:=hI.i0
 have h1:=hI.i1
 rw [hc,hh]
 refine ⟨fun ho=> ?_,fun ho=> ?_⟩
 ·have hw:i64.wrap (X.i0+WY a.off)=idA X a:=by
   rw [w64 (by omega)];unfold idA;rw [ho];rfl
  rw [hw]
  subst hY
  have hl2:(addX X a.own (idA X a) a.amount hs a.expiry).L.length=X.L.length+1:=by
   unfold addX;rw [if_pos he];exact Z3n _ _
  rw [hl2]
  repeat' first
   | exact hI
   | exact he
   | exact ha.secret
   | exact hsb
   | exact beq_self_eq_true _
   | exact ha.secret.symm
   | (intro _ _;trivial)
   | refine Exists.intro X (And.intro ⟨rfl,rfl,rfl⟩ ?_)
   | apply And.intro
   | rfl
   | omega
   | exact Zp fun _ _=>rfl
 ·have hw:i64.wrap (X.i1+WY a.off)=idA X a:=by
   rw [w64 (by omega)];unfold idA;rw [ho];rfl
  rw [hw]
  subst hY
  have hl2:(addX X a.own (idA X a) a.amount hs a.expiry).L.length=X.L.length+1:=by
   unfold addX;rw [if_pos he];exact Z3n _ _
  rw [hl2]
  repeat' first
   | exact hI
   | exact he
   | exact ha.secret
   | exact hsb
   | exact beq_self_eq_true _
   | exact ha.secret.symm
   | (intro _ _;trivial)
   | refine Exists.intro X (And.intro ⟨rfl,rfl,rfl⟩ ?_)
   | apply And.intro
   | rfl
   | omega
   | exact Zp fun _ _=>rfl
theorem ZlS (X:Z7) (a:YB) (H1:List Int->List Int) (B:Nat) (hs:List Int) (hI:X.Inv Zr) (ha:a.Ok) (hB:32<=B) (hh:H1 a.secret=hs) (hl:hs.length=32) (he:XA X a.own (idA X a) a.amount hs a.expiry≠0):
  evF (Z3X H1 B false) 20 11 [.ptr (some ⟨0,0,0,0,0⟩),.agg (X.c (slH 2 X.L.length)),.agg (.int .i64 0::a.c.tail)] (Z18 X) (ZX 3 (.ret (.tuple [.agg (X.c (slH 2 X.L.length)),.bool true])) 3 (Z3K X)):=by
 refine @Eq.mpr _ (let q1:=a.own;let q2:=List.length a.secret;let q3:=decide (q2=32);let q4:=decide (32=q2);let q5:=decide (q2<=B);let q6:=a.expiry;let q7:=decide (q6=q6);let q8:=a.amount;let q9:=decide (q8=q8);let q10:=decide (q1=q1);let q11:=X.t;let q12:=q11.fund;let q13:=q12=q12;let q14:=q11.index;let q15:=decide (q14=q14);let q16:=q11.cap;let q17:=decide (q16=q16);let q18:=q11.dust;let q19:=decide (q18=q18);let q20:=q11.fee;let q21:=decide (q20=q20);let q22:=q11.delay;let q23:=decide (q22=q22);let q24:=q11.k0;let q25:=q24=q24;let q26:=q11.k1;let q27:=q26=q26;let q28:=X.side;let q29:=decide (q28=q28);let q30:=X.res;let q31:=decide (q30=q30);let q32:=[X.a0,X.a1];let q33:=q32=q32;let q34:=[X.i0,X.i1];let q35:=q34=q34;let q36:=List.length X.L;let q37:=decide (q36=q36);let q38:=AV.arr u8 32 q12;let q39:=AV.int i64 q14;let q40:=AV.int i64 q16;let q41:=AV.int i64 q18;let q42:=AV.int i64 q20;let q43:=AV.int i64 q22;let q44:=AV.arr u8 32 q24;let q45:=AV.arr u8 32 q26;let q46:=AV.int i64 q28;let q47:=AV.int i64 q30;let q48:=AV.arr i64 2 q32;let q49:=AV.arr i64 2 q34;let q50:=Z4 X.L;let q51:=if a.off<1099511627776 then a.off else 1099511627776;let q52:=if q51> -1099511627776 then q51 else -1099511627776;let q53:=wrap i64 (X.i0+q52);let q54:=H1 a.secret;let q55:=wrap i64 (X.i1+q52);
 Z0 q1
 (Z0 q3
 (Z0 q4
 (Z0 q5
 (Z0 q7
 (Z0 q9
 (Z0 q10
 (q13/\
 Z0 q15
 (Z0 q17
 (Z0 q19
 (Z0 q21
 (Z0 q23
 (q25/\
 q27/\
 Z0 q29
 (Z0 q31
 (q33/\
 q35/\
 Z0 q37
 (Z0 q37
 ((∀(i:Nat),i<q36->true=true)/\
 ∃(X_1:Z7),
 let q111:=XA X_1 q1 q53 q8 q54 q6;let q112:=X_1.t;let q113:=q112.fund;let q114:=q113=q113;let q115:=q112.index;let q116:=decide (q115=q115);let q117:=q112.cap;let q118:=decide (q117=q117);let q119:=q112.dust;let q120:=decide (q119=q119);let q121:=q112.fee;let q122:=decide (q121=q121);let q123:=q112.delay;let q124:=decide (q123=q123);let q125:=q112.k0;let q126:=q125=q125;let q127:=q112.k1;let q128:=q127=q127;let q129:=X_1.side;let q130:=decide (q129=q129);let q131:=X_1.res;let q132:=decide (q131=q131);let q133:=[X_1.a0,X_1.a1];let q134:=q133=q133;let q135:=[X_1.i0,X_1.i1];let q136:=q135=q135;let q137:=List.length X_1.L;let q138:=decide (q137=q137);let q139:=decide (q137=q36);
 LD [q38,q39,q40,q41,q42,q43,q44,q45,q46,q47,q48,q49,AV.nslice (ZG.mk 0 0 70 0 0) 70 q36 q36] q36 q50 X_1/\
 Z7.Inv Zr X_1/\
 q111≠0/\
 Z0 q3
 (Z0 q4
 (Z0 q5
 (Z0 q7
 (Z0 q9
 (Z0 q10
 (q114/\
 Z0 q116
 (Z0 q118
 (Z0 q120
 (Z0 q122
 (Z0 q124
 (q126/\
 q128/\
 Z0 q130
 (Z0 q132
 (q134/\
 q136/\
 Z0 q138
 (Z0 q138
 ((∀(i:Nat),i<q36->true=true)/\
 ∃(X_2:Z7),
 let q169:=XA X_2 q1 q53 q8 q54 q6;let q170:=X_2.t;let q171:=List.length X_2.L;let q172:=decide (q171=q36);
 LB [q38,q39,q40,q41,q42,q43,q44,q45,q46,q47,q48,q49,AV.nslice (ZG.mk 1 0 70 0 0) 70 q36 q36] q36 q50 X_2/\
 Z7.Inv Zr X_2/\
 q169≠0/\
 q114/\
 Z0 q116
 (Z0 q118
 (Z0 q120
 (Z0 q122
 (Z0 q124
 (q126/\
 q128/\
 Z0 q130
 (Z0 q132
 (q134/\
 q136/\
 Z0 q138
 (Z0 q138
 (q114/\
 Z0 q116
 (Z0 q118
 (Z0 q120
 (Z0 q122
 (Z0 q124
 (q126/\
 q128/\
 Z0 q130
 (Z0 q132
 (q134/\
 q136/\Z0 q138 (Z0 q138 (q113=q12/\Z0 (decide (q115=q14)) (Z0 (decide (q117=q16)) (Z0 (decide (q119=q18)) (Z0 (decide (q121=q20)) (Z0 (decide (q123=q22)) (q125=q24/\q127=q26/\Z0 (decide (q129=q28)) (Z0 (decide (q131=q30)) (q133=q32/\q135=q34/\Z0 q139 (Z0 (decide (q36<=q137)) (Z0 (decide ((q169==q111)=true)) (q170.fund=q12/\Z0 (decide (q170.index=q14)) (Z0 (decide (q170.cap=q16)) (Z0 (decide (q170.dust=q18)) (Z0 (decide (q170.fee=q20)) (Z0 (decide (q170.delay=q22)) (q170.k0=q24/\q170.k1=q26/\Z0 (decide (X_2.side=q28)) (Z0 (decide (X_2.res=q30)) ([X_2.a0,X_2.a1]=q32/\[X_2.i0,X_2.i1]=q34/\Z0 q172 (Z0 (decide (q36<=q171)) (Z0 q172 (Zc 3 [] q36 q50 (Z4 X_2.L)/\Z0 q139 (Zc 3 [] q36 q50 (Z4 X_1.L)/\True) False) False) False) False) False) False) False) False) False) False) False) False) False) False) False) False) False) False) False) False) False) False) False)
 False)
 False)
 False)
 False)
 False)
 False)
 False)
 False)
 False)
 False)
 False)
 False)
 False)
 False)
 False)
 False)
 False)
 False)
 False)
 False)
 False)
 False)
 False)
 False)
 False)
 False)
 False)
 False)
 False)
 False)
 False)
 False)
 False)
 False)
 False)
 False)
 False)
 False)
 False)
 False)
 False)
 False)
 False)
 False)
 False)
 False)
 (Z0 q3
 (Z0 q4
 (Z0 q5
 (Z0 q7
 (Z0 q9
 (Z0 q10
 (q13/\
 Z0 q15
 (Z0 q17
 (Z0 q19
 (Z0 q21
 (Z0 q23
 (q25/\
 q27/\
 Z0 q29
 (Z0 q31
 (q33/\
 q35/\
 Z0 q37
 (Z0 q37
 ((∀(i:Nat),i<q36->true=true)/\
 ∃(X_1:Z7),
 let q111:=XA X_1 q1 q55 q8 q54 q6;let q112:=X_1.t;let q113:=q112.fund;let q114:=q113=q113;let q115:=q112.index;let q116:=decide (q115=q115);let q117:=q112.cap;let q118:=decide (q117=q117);let q119:=q112.dust;let q120:=decide (q119=q119);let q121:=q112.fee;let q122:=decide (q121=q121);let q123:=q112.delay;let q124:=decide (q123=q123);let q125:=q112.k0;let q126:=q125=q125;let q127:=q112.k1;let q128:=q127=q127;let q129:=X_1.side;let q130:=decide (q129=q129);let q131:=X_1.res;let q132:=decide (q131=q131);let q133:=[X_1.a0,X_1.a1];let q134:=q133=q133;let q135:=[X_1.i0,X_1.i1];let q136:=q135=q135;let q137:=List.length X_1.L;let q138:=decide (q137=q137);let q139:=decide (q137=q36);
 LD [q38,q39,q40,q41,q42,q43,q44,q45,q46,q47,q48,q49,AV.nslice (ZG.mk 0 0 70 0 0) 70 q36 q36] q36 q50 X_1/\
 Z7.Inv Zr X_1/\
 q111≠0/\
 Z0 q3
 (Z0 q4
 (Z0 q5
 (Z0 q7
 (Z0 q9
 (Z0 q10
 (q114/\
 Z0 q116
 (Z0 q118
 (Z0 q120
 (Z0 q122
 (Z0 q124
 (q126/\
 q128/\
 Z0 q130
 (Z0 q132
 (q134/\
 q136/\
 Z0 q138
 (Z0 q138
 ((∀(i:Nat),i<q36->true=true)/\
 ∃(X_2:Z7),
 let q169:=XA X_2 q1 q55 q8 q54 q6;let q170:=X_2.t;let q171:=List.length X_2.L;let q172:=decide (q171=q36);
 LB [q38,q39,q40,q41,q42,q43,q44,q45,q46,q47,q48,q49,AV.nslice (ZG.mk 1 0 70 0 0) 70 q36 q36] q36 q50 X_2/\
 Z7.Inv Zr X_2/\
 q169≠0/\
 q114/\
 Z0 q116
 (Z0 q118
 (Z0 q120
 (Z0 q122
 (Z0 q124
 (q126/\
 q128/\
 Z0 q130
 (Z0 q132
 (q134/\
 q136/\
 Z0 q138
 (Z0 q138
 (q114/\
 Z0 q116
 (Z0 q118
 (Z0 q120
 (Z0 q122
 (Z0 q124
 (q126/\
 q128/\
 Z0 q130
 (Z0 q132
 (q134/\
 q136/\Z0 q138 (Z0 q138 (q113=q12/\Z0 (decide (q115=q14)) (Z0 (decide (q117=q16)) (Z0 (decide (q119=q18)) (Z0 (decide (q121=q20)) (Z0 (decide (q123=q22)) (q125=q24/\q127=q26/\Z0 (decide (q129=q28)) (Z0 (decide (q131=q30)) (q133=q32/\q135=q34/\Z0 q139 (Z0 (decide (q36<=q137)) (Z0 (decide ((q169==q111)=true)) (q170.fund=q12/\Z0 (decide (q170.index=q14)) (Z0 (decide (q170.cap=q16)) (Z0 (decide (q170.dust=q18)) (Z0 (decide (q170.fee=q20)) (Z0 (decide (q170.delay=q22)) (q170.k0=q24/\q170.k1=q26/\Z0 (decide (X_2.side=q28)) (Z0 (decide (X_2.res=q30)) ([X_2.a0,X_2.a1]=q32/\[X_2.i0,X_2.i1]=q34/\Z0 q172 (Z0 (decide (q36<=q171)) (Z0 q172 (Zc 3 [] q36 q50 (Z4 X_2.L)/\Z0 q139 (Zc 3 [] q36 q50 (Z4 X_1.L)/\True) False) False) False) False) False) False) False) False) False) False) False) False) False) False) False) False) False) False) False) False) False) False) False)
 False)
 False)
 False)
 False)
 False)
 False)
 False)
 False)
 False)
 False)
 False)
 False)
 False)
 False)
 False)
 False)
 False)
 False)
 False)
 False)
 False)
 False)
 False)
 False)
 False)
 False)
 False)
 False)
 False)
 False)
 False)
 False)
 False)
 False)
 False)
 False)
 False)
 False)
 False)
 False)
 False)
 False)
 False)
 False)
 False)
 False)) (by kernel_rfl) ?_
 conv=>zeta
 try simp only [Zi]
 try simp only [Zj]
 try simp only [Zf]
 try simp only [Zk]
 try simp only [Zl]
 try simp only [Zg]
 try simp only [Int.toNat_natCast,Nat.zero_add,true_and,and_true,Nat.le_refl]
 have hsb:a.secret.length<=B:=by rw [ha.secret];exact hB
 have hc:(if (if a.off<1099511627776 then a.off else 1099511627776)> -1099511627776 then (if a.off<1099511627776 then a.off else 1099511627776) else -1099511627776)=WY a.off:=by
  unfold WY
  split<;>split<;>omega
 have hcb: -1099511627776<=WY a.off/\WY a.off<=1099511627776:=by unfold WY;omega
 have h0:=hI.i0
 have h1:=hI.i1
 rw [hc,hh]
 refine ⟨fun ho=> ?_,fun ho=> ?_⟩
 ·have hw:i64.wrap (X.i0+WY a.off)=idA X a:=by
   rw [w64 (by omega)];unfold idA;rw [ho];rfl
  rw [hw]
  repeat' first
   | exact hI
   | exact he
   | exact ha.secret
   | exact hsb
   | exact beq_self_eq_true _
   | exact ha.secret.symm
   | (intro _ _;trivial)
   | refine Exists.intro X (And.intro ⟨rfl,rfl,rfl⟩ ?_)
   | apply And.intro
   | rfl
   | omega
   | exact Zp fun _ _=>rfl
 ·have hw:i64.wrap (X.i1+WY a.off)=idA X a:=by
   rw [w64 (by omega)];unfold idA;rw [ho];rfl
  rw [hw]
  repeat' first
   | exact hI
   | exact he
   | exact ha.secret
   | exact hsb
   | exact beq_self_eq_true _
   | exact ha.secret.symm
   | (intro _ _;trivial)
   | refine Exists.intro X (And.intro ⟨rfl,rfl,rfl⟩ ?_)
   | apply And.intro
   | rfl
   | omega
   | exact Zp fun _ _=>rfl
theorem ZlT (X Y:Z7) (a:YB) (H1:List Int->List Int) (B:Nat) (hI:X.Inv Zr) (ha:a.Ok) (hB:32<=B) (he:Xb Zr X (Yc X a).1 (Yc X a).2 1 a.secret=0) (hY:Y=endX Zr X (Yc X a).1 (Yc X a).2 1 a.secret):
  evF (Z3X H1 B true) 20 11 [.ptr (some ⟨0,0,0,0,0⟩),.agg (X.c (slH 2 X.L.length)),.agg (.int .i64 1::a.c.tail)] (Z18 X) (ZX 3 (.ret (.tuple [.agg (Y.c (slH 4 Y.L.length)),.bool true])) 5 (ZbC X Y)):=by
 refine @Eq.mpr _ (let q1:=List.length X.L;let q2:=X.t;let q3:=AV.arr u8 32 q2.fund;let q4:=AV.int i64 q2.index;let q5:=AV.int i64 q2.cap;let q6:=AV.int i64 q2.dust;let q7:=AV.int i64 q2.fee;let q8:=AV.int i64 q2.delay;let q9:=AV.arr u8 32 q2.k0;let q10:=AV.arr u8 32 q2.k1;let q11:=AV.int i64 X.side;let q12:=AV.int i64 X.res;let q13:=AV.arr i64 2 [X.a0,X.a1];let q14:=AV.arr i64 2 [X.i0,X.i1];let q15:=Z4 X.L;let q16:=a.secret;let q17:=List.length q16=32;let q18:=YB.mk 1 a.own a.off a.amount a.expiry q16 a.at' a.move a.ours a.number;let q19:=Y.t;let q20:=q19.fund;let q21:=q19.index;let q22:=q19.cap;let q23:=q19.dust;let q24:=q19.fee;let q25:=q19.delay;let q26:=q19.k0;let q27:=q19.k1;let q28:=[Y.a0,Y.a1];let q29:=[Y.i0,Y.i1];let q30:=List.length Y.L;let q31:=[(3,13),(4,10)];let q32:=Z4 Y.L;
 Z0 (decide (0+q1<=q1))
 ((∀(i:Nat),i<q1->true=true)/\
 ∃(X:Z7),
 let q65:=(Yc X q18).fst;let q66:=(Yc X q18).snd;
 LV [q3,q4,q5,q6,q7,q8,q9,q10,q11,q12,q13,q14,AV.vrows 70 q1 (ZT 0 q15) q1] X/\
 List.length X.L<1000/\
 (∀(i:Nat),i<q1->true=true)/\
 ∃(X:Z7),
 let q69:=endX Zr X q65 q66 1 q16;let q70:=q69.t;let q71:=q70.fund;let q72:=q71=q71;let q73:=q70.index;let q74:=decide (q73=q73);let q75:=q70.cap;let q76:=decide (q75=q75);let q77:=q70.dust;let q78:=decide (q77=q77);let q79:=q70.fee;let q80:=decide (q79=q79);let q81:=q70.delay;let q82:=decide (q81=q81);let q83:=q70.k0;let q84:=q83=q83;let q85:=q70.k1;let q86:=q85=q85;let q87:=q69.side;let q88:=decide (q87=q87);let q89:=q69.res;let q90:=decide (q89=q89);let q91:=[q69.a0,q69.a1];let q92:=q91=q91;let q93:=[q69.i0,q69.i1];let q94:=q93=q93;let q95:=List.length X.L;let q96:=decide (q95=q95);let q97:=decide (q95=q30);
 LD [q3,q4,q5,q6,q7,q8,q9,q10,q11,q12,q13,q14,AV.nslice (ZG.mk 0 0 70 0 0) 70 q1 q1] q1 q15 X/\
 Z7.Inv Zr X/\
 (q17/\Bytes q16)/\
 Xb Zr X q65 q66 1 q16=0/\
 (∀(i:Nat),i<q1->true=true)/\
 ∃(X_1:Z7),
 let q127:=endX Zr X_1 q65 q66 1 q16;let q128:=q127.t;let q129:=List.length X_1.L;let q130:=decide (q129=q30);
 LB [q3,q4,q5,q6,q7,q8,q9,q10,q11,q12,q13,q14,AV.nslice (ZG.mk 1 0 70 0 0) 70 q1 q1] q1 q15 X_1/\
 Z7.Inv Zr X_1/\
 q17/\
 Xb Zr X_1 q65 q66 1 q16=0/\
 q72/\
 Z0 q74
 (Z0 q76
 (Z0 q78
 (Z0 q80
 (Z0 q82
 (q84/\
 q86/\
 Z0 q88
 (Z0 q90
 (q92/\
 q94/\
 Z0 q96
 (Z0 q96
 (q72/\
 Z0 q74
 (Z0 q76
 (Z0 q78
 (Z0 q80
 (Z0 q82
 (q84/\
 q86/\
 Z0 q88
 (Z0 q90
 (q92/\
 q94/\
 Z0 q96
 (Z0 q96 (q71=q20/\Z0 (decide (q73=q21)) (Z0 (decide (q75=q22)) (Z0 (decide (q77=q23)) (Z0 (decide (q79=q24)) (Z0 (decide (q81=q25)) (q83=q26/\q85=q27/\Z0 (decide (q87=Y.side)) (Z0 (decide (q89=Y.res)) (q91=q28/\q93=q29/\Z0 q97 (Z0 (decide (q30<=q95)) (q128.fund=q20/\Z0 (decide (q128.index=q21)) (Z0 (decide (q128.cap=q22)) (Z0 (decide (q128.dust=q23)) (Z0 (decide (q128.fee=q24)) (Z0 (decide (q128.delay=q25)) (q128.k0=q26/\q128.k1=q27/\Z0 (decide (q127.side=Y.side)) (Z0 (decide (q127.res=Y.res)) ([q127.a0,q127.a1]=q28/\[q127.i0,q127.i1]=q29/\Z0 q130 (Z0 (decide (q30<=q129)) (Z0 q130 (Zc 3 q31 q30 q32 (Z4 q127.L)/\Z0 q97 (Zc 3 q31 q30 q32 (Z4 q69.L)/\Z0 (decide (q95=q1)) (Zc 3 q31 q1 q15 (Z4 X.L)/\True) False) False) False) False) False) False) False) False) False) False) False) False) False) False) False) False) False) False) False) False) False) False)
 False)
 False)
 False)
 False)
 False)
 False)
 False)
 False)
 False)
 False)
 False)
 False)
 False)
 False)
 False)
 False)
 False)
 False) (by kernel_rfl) ?_
 conv=>zeta
 try simp only [Zi]
 try simp only [Zj]
 try simp only [Zf]
 try simp only [Zk]
 try simp only [Zl]
 try simp only [Zg]
 try simp only [Int.toNat_natCast,Nat.zero_add,true_and,and_true,Nat.le_refl]
 have hlen:=hI.am.n
 have hsb:a.secret.length<=B:=by rw [ha.secret];exact hB
 subst hY
 have hlx:(endX Zr X (Yc X a).1 (Yc X a).2 1 a.secret).L.length=X.L.length:=by unfold endX;split<;>simp
 rw [hlx]
 repeat' first
  | exact hI
  | exact he
  | exact ha.secret
  | exact ha.sb
  | exact Xw
  | exact hsb
  | exact hlen
  | exact beq_self_eq_true _
  | (intro _ _;trivial)
  | refine Exists.intro X (And.intro ⟨rfl,rfl,rfl⟩ ?_)
  | refine Exists.intro X (And.intro (.a rfl) ?_)
  | apply And.intro
  | rfl
  | omega
  | exact Zp fun _ _=>rfl
theorem ZlU (X:Z7) (a:YB) (H1:List Int->List Int) (B:Nat) (hI:X.Inv Zr) (ha:a.Ok) (hB:32<=B) (he:Xb Zr X (Yc X a).1 (Yc X a).2 1 a.secret≠0):
  evF (Z3X H1 B false) 20 11 [.ptr (some ⟨0,0,0,0,0⟩),.agg (X.c (slH 2 X.L.length)),.agg (.int .i64 1::a.c.tail)] (Z18 X) (ZX 3 (.ret (.tuple [.agg (X.c (slH 2 X.L.length)),.bool true])) 3 (Z3K X)):=by
 refine @Eq.mpr _ (let q1:=List.length X.L;let q2:=X.t;let q3:=q2.fund;let q4:=AV.arr u8 32 q3;let q5:=q2.index;let q6:=AV.int i64 q5;let q7:=q2.cap;let q8:=AV.int i64 q7;let q9:=q2.dust;let q10:=AV.int i64 q9;let q11:=q2.fee;let q12:=AV.int i64 q11;let q13:=q2.delay;let q14:=AV.int i64 q13;let q15:=q2.k0;let q16:=AV.arr u8 32 q15;let q17:=q2.k1;let q18:=AV.arr u8 32 q17;let q19:=X.side;let q20:=AV.int i64 q19;let q21:=X.res;let q22:=AV.int i64 q21;let q23:=[X.a0,X.a1];let q24:=AV.arr i64 2 q23;let q25:=[X.i0,X.i1];let q26:=AV.arr i64 2 q25;let q27:=Z4 X.L;let q28:=a.secret;let q29:=List.length q28=32;let q30:=YB.mk 1 a.own a.off a.amount a.expiry q28 a.at' a.move a.ours a.number;
 Z0 (decide (0+q1<=q1))
 ((∀(i:Nat),i<q1->true=true)/\
 ∃(X:Z7),
 let q61:=(Yc X q30).fst;let q62:=(Yc X q30).snd;
 LV [q4,q6,q8,q10,q12,q14,q16,q18,q20,q22,q24,q26,AV.vrows 70 q1 (ZT 0 q27) q1] X/\
 List.length X.L<1000/\
 (∀(i:Nat),i<q1->true=true)/\
 ∃(X:Z7),
 let q65:=Xb Zr X q61 q62 1 q28;let q66:=X.t;let q67:=q66.fund;let q68:=q67=q67;let q69:=q66.index;let q70:=decide (q69=q69);let q71:=q66.cap;let q72:=decide (q71=q71);let q73:=q66.dust;let q74:=decide (q73=q73);let q75:=q66.fee;let q76:=decide (q75=q75);let q77:=q66.delay;let q78:=decide (q77=q77);let q79:=q66.k0;let q80:=q79=q79;let q81:=q66.k1;let q82:=q81=q81;let q83:=X.side;let q84:=decide (q83=q83);let q85:=X.res;let q86:=decide (q85=q85);let q87:=[X.a0,X.a1];let q88:=q87=q87;let q89:=[X.i0,X.i1];let q90:=q89=q89;let q91:=List.length X.L;let q92:=decide (q91=q91);let q93:=decide (q91=q1);
 LD [q4,q6,q8,q10,q12,q14,q16,q18,q20,q22,q24,q26,AV.nslice (ZG.mk 0 0 70 0 0) 70 q1 q1] q1 q27 X/\
 Z7.Inv Zr X/\
 (q29/\Bytes q28)/\
 q65≠0/\
 (∀(i:Nat),i<q1->true=true)/\
 ∃(X_1:Z7),
 let q123:=Xb Zr X_1 q61 q62 1 q28;let q124:=X_1.t;let q125:=List.length X_1.L;let q126:=decide (q125=q1);
 LB [q4,q6,q8,q10,q12,q14,q16,q18,q20,q22,q24,q26,AV.nslice (ZG.mk 1 0 70 0 0) 70 q1 q1] q1 q27 X_1/\
 Z7.Inv Zr X_1/\
 q29/\
 q123≠0/\
 q68/\
 Z0 q70
 (Z0 q72
 (Z0 q74
 (Z0 q76
 (Z0 q78
 (q80/\
 q82/\
 Z0 q84
 (Z0 q86
 (q88/\
 q90/\
 Z0 q92
 (Z0 q92
 (q68/\
 Z0 q70
 (Z0 q72
 (Z0 q74
 (Z0 q76
 (Z0 q78
 (q80/\
 q82/\
 Z0 q84 (Z0 q86 (q88/\q90/\Z0 q92 (Z0 q92 (q67=q3/\Z0 (decide (q69=q5)) (Z0 (decide (q71=q7)) (Z0 (decide (q73=q9)) (Z0 (decide (q75=q11)) (Z0 (decide (q77=q13)) (q79=q15/\q81=q17/\Z0 (decide (q83=q19)) (Z0 (decide (q85=q21)) (q87=q23/\q89=q25/\Z0 q93 (Z0 (decide (q1<=q91)) (Z0 (decide ((q123==q65)=true)) (q124.fund=q3/\Z0 (decide (q124.index=q5)) (Z0 (decide (q124.cap=q7)) (Z0 (decide (q124.dust=q9)) (Z0 (decide (q124.fee=q11)) (Z0 (decide (q124.delay=q13)) (q124.k0=q15/\q124.k1=q17/\Z0 (decide (X_1.side=q19)) (Z0 (decide (X_1.res=q21)) ([X_1.a0,X_1.a1]=q23/\[X_1.i0,X_1.i1]=q25/\Z0 q126 (Z0 (decide (q1<=q125)) (Z0 q126 (Zc 3 [] q1 q27 (Z4 X_1.L)/\Z0 q93 (Zc 3 [] q1 q27 (Z4 X.L)/\True) False) False) False) False) False) False) False) False) False) False) False) False) False) False) False) False) False) False) False) False) False) False) False) False)
 False)
 False)
 False)
 False)
 False)
 False)
 False)
 False)
 False)
 False)
 False)
 False)
 False)
 False)
 False)
 False) (by kernel_rfl) ?_
 conv=>zeta
 try simp only [Zi]
 try simp only [Zj]
 try simp only [Zf]
 try simp only [Zk]
 try simp only [Zl]
 try simp only [Zg]
 try simp only [Int.toNat_natCast,Nat.zero_add,true_and,and_true,Nat.le_refl]
 have hlen:=hI.am.n
 have hsb:a.secret.length<=B:=by rw [ha.secret];exact hB
 repeat' first
  | exact hI
  | exact he
  | exact ha.secret
  | exact ha.sb
  | exact Xw
  | exact hsb
  | exact hlen
  | exact beq_self_eq_true _
  | (intro _ _;trivial)
  | refine Exists.intro X (And.intro ⟨rfl,rfl,rfl⟩ ?_)
  | refine Exists.intro X (And.intro (.a rfl) ?_)
  | apply And.intro
  | rfl
  | omega
  | exact Zp fun _ _=>rfl
theorem ZlV (X Y:Z7) (a:YB) (H1:List Int->List Int) (B:Nat) (hI:X.Inv Zr) (ha:a.Ok) (hB:32<=B) (he:Xb Zr X (Yc X a).1 (Yc X a).2 2 Za=0) (hY:Y=endX Zr X (Yc X a).1 (Yc X a).2 2 Za):
  evF (Z3X H1 B true) 20 11 [.ptr (some ⟨0,0,0,0,0⟩),.agg (X.c (slH 2 X.L.length)),.agg (.int .i64 2::a.c.tail)] (Z18 X) (ZX 3 (.ret (.tuple [.agg (Y.c (slH 4 Y.L.length)),.bool true])) 5 (ZbC X Y)):=by
 refine @Eq.mpr _ (let q1:=List.length X.L;let q2:=X.t;let q3:=AV.arr u8 32 q2.fund;let q4:=AV.int i64 q2.index;let q5:=AV.int i64 q2.cap;let q6:=AV.int i64 q2.dust;let q7:=AV.int i64 q2.fee;let q8:=AV.int i64 q2.delay;let q9:=AV.arr u8 32 q2.k0;let q10:=AV.arr u8 32 q2.k1;let q11:=AV.int i64 X.side;let q12:=AV.int i64 X.res;let q13:=AV.arr i64 2 [X.a0,X.a1];let q14:=AV.arr i64 2 [X.i0,X.i1];let q15:=Z4 X.L;let q16:=YB.mk 2 a.own a.off a.amount a.expiry a.secret a.at' a.move a.ours a.number;let q17:=Y.t;let q18:=q17.fund;let q19:=q17.index;let q20:=q17.cap;let q21:=q17.dust;let q22:=q17.fee;let q23:=q17.delay;let q24:=q17.k0;let q25:=q17.k1;let q26:=[Y.a0,Y.a1];let q27:=[Y.i0,Y.i1];let q28:=List.length Y.L;let q29:=[(3,11),(4,9)];let q30:=Z4 Y.L;
 Z0 (decide (0+q1<=q1))
 ((∀(i:Nat),i<q1->true=true)/\
 ∃(X:Z7),
 let q61:=(Yc X q16).fst;let q62:=(Yc X q16).snd;
 LV [q3,q4,q5,q6,q7,q8,q9,q10,q11,q12,q13,q14,AV.vrows 70 q1 (ZT 0 q15) q1] X/\
 List.length X.L<1000/\
 (∀(i:Nat),i<q1->true=true)/\
 ∃(X:Z7),
 let q65:=endX Zr X q61 q62 2 Za;let q66:=q65.t;let q67:=q66.fund;let q68:=q67=q67;let q69:=q66.index;let q70:=decide (q69=q69);let q71:=q66.cap;let q72:=decide (q71=q71);let q73:=q66.dust;let q74:=decide (q73=q73);let q75:=q66.fee;let q76:=decide (q75=q75);let q77:=q66.delay;let q78:=decide (q77=q77);let q79:=q66.k0;let q80:=q79=q79;let q81:=q66.k1;let q82:=q81=q81;let q83:=q65.side;let q84:=decide (q83=q83);let q85:=q65.res;let q86:=decide (q85=q85);let q87:=[q65.a0,q65.a1];let q88:=q87=q87;let q89:=[q65.i0,q65.i1];let q90:=q89=q89;let q91:=List.length X.L;let q92:=decide (q91=q91);let q93:=decide (q91=q28);
 LD [q3,q4,q5,q6,q7,q8,q9,q10,q11,q12,q13,q14,AV.nslice (ZG.mk 0 0 70 0 0) 70 q1 q1] q1 q15 X/\
 Z7.Inv Zr X/\
 ((32:Nat)=32/\Bytes Za)/\
 Xb Zr X q61 q62 2 Za=0/\
 (∀(i:Nat),i<q1->true=true)/\
 ∃(X_1:Z7),
 let q123:=endX Zr X_1 q61 q62 2 Za;let q124:=q123.t;let q125:=List.length X_1.L;let q126:=decide (q125=q28);
 LB [q3,q4,q5,q6,q7,q8,q9,q10,q11,q12,q13,q14,AV.nslice (ZG.mk 1 0 70 0 0) 70 q1 q1] q1 q15 X_1/\
 Z7.Inv Zr X_1/\
 (32:Nat)=32/\
 Xb Zr X_1 q61 q62 2 Za=0/\
 q68/\
 Z0 q70
 (Z0 q72
 (Z0 q74
 (Z0 q76
 (Z0 q78
 (q80/\
 q82/\
 Z0 q84
 (Z0 q86
 (q88/\
 q90/\
 Z0 q92
 (Z0 q92
 (q68/\
 Z0 q70
 (Z0 q72
 (Z0 q74
 (Z0 q76
 (Z0 q78
 (q80/\
 q82/\
 Z0 q84
 (Z0 q86
 (q88/\
 q90/\
 Z0 q92
 (Z0 q92 (q67=q18/\Z0 (decide (q69=q19)) (Z0 (decide (q71=q20)) (Z0 (decide (q73=q21)) (Z0 (decide (q75=q22)) (Z0 (decide (q77=q23)) (q79=q24/\q81=q25/\Z0 (decide (q83=Y.side)) (Z0 (decide (q85=Y.res)) (q87=q26/\q89=q27/\Z0 q93 (Z0 (decide (q28<=q91)) (q124.fund=q18/\Z0 (decide (q124.index=q19)) (Z0 (decide (q124.cap=q20)) (Z0 (decide (q124.dust=q21)) (Z0 (decide (q124.fee=q22)) (Z0 (decide (q124.delay=q23)) (q124.k0=q24/\q124.k1=q25/\Z0 (decide (q123.side=Y.side)) (Z0 (decide (q123.res=Y.res)) ([q123.a0,q123.a1]=q26/\[q123.i0,q123.i1]=q27/\Z0 q126 (Z0 (decide (q28<=q125)) (Z0 q126 (Zc 3 q29 q28 q30 (Z4 q123.L)/\Z0 q93 (Zc 3 q29 q28 q30 (Z4 q65.L)/\Z0 (decide (q91=q1)) (Zc 3 q29 q1 q15 (Z4 X.L)/\True) False) False) False) False) False) False) False) False) False) False) False) False) False) False) False) False) False) False) False) False) False) False)
 False)
 False)
 False)
 False)
 False)
 False)
 False)
 False)
 False)
 False)
 False)
 False)
 False)
 False)
 False)
 False)
 False)
 False) (by kernel_rfl) ?_
 conv=>zeta
 try simp only [Zi]
 try simp only [Zj]
 try simp only [Zf]
 try simp only [Zk]
 try simp only [Zl]
 try simp only [Zg]
 try simp only [Int.toNat_natCast,Nat.zero_add,true_and,and_true,Nat.le_refl]
 have hlen:=hI.am.n
 have hsb:a.secret.length<=B:=by rw [ha.secret];exact hB
 subst hY
 have hlx:(endX Zr X (Yc X a).1 (Yc X a).2 2 Za).L.length=X.L.length:=by unfold endX;split<;>simp
 rw [hlx]
 repeat' first
  | exact hI
  | exact he
  | exact ha.secret
  | exact ha.sb
  | exact Xw
  | exact hsb
  | exact hlen
  | exact beq_self_eq_true _
  | (intro _ _;trivial)
  | refine Exists.intro X (And.intro ⟨rfl,rfl,rfl⟩ ?_)
  | refine Exists.intro X (And.intro (.a rfl) ?_)
  | apply And.intro
  | rfl
  | omega
  | exact Zp fun _ _=>rfl
theorem ZlW (X:Z7) (a:YB) (H1:List Int->List Int) (B:Nat) (hI:X.Inv Zr) (ha:a.Ok) (hB:32<=B) (he:Xb Zr X (Yc X a).1 (Yc X a).2 2 Za≠0):
  evF (Z3X H1 B false) 20 11 [.ptr (some ⟨0,0,0,0,0⟩),.agg (X.c (slH 2 X.L.length)),.agg (.int .i64 2::a.c.tail)] (Z18 X) (ZX 3 (.ret (.tuple [.agg (X.c (slH 2 X.L.length)),.bool true])) 3 (Z3K X)):=by
 refine @Eq.mpr _ (let q1:=List.length X.L;let q2:=X.t;let q3:=q2.fund;let q4:=AV.arr u8 32 q3;let q5:=q2.index;let q6:=AV.int i64 q5;let q7:=q2.cap;let q8:=AV.int i64 q7;let q9:=q2.dust;let q10:=AV.int i64 q9;let q11:=q2.fee;let q12:=AV.int i64 q11;let q13:=q2.delay;let q14:=AV.int i64 q13;let q15:=q2.k0;let q16:=AV.arr u8 32 q15;let q17:=q2.k1;let q18:=AV.arr u8 32 q17;let q19:=X.side;let q20:=AV.int i64 q19;let q21:=X.res;let q22:=AV.int i64 q21;let q23:=[X.a0,X.a1];let q24:=AV.arr i64 2 q23;let q25:=[X.i0,X.i1];let q26:=AV.arr i64 2 q25;let q27:=Z4 X.L;let q28:=YB.mk 2 a.own a.off a.amount a.expiry a.secret a.at' a.move a.ours a.number;
 Z0 (decide (0+q1<=q1))
 ((∀(i:Nat),i<q1->true=true)/\
 ∃(X:Z7),
 let q57:=(Yc X q28).fst;let q58:=(Yc X q28).snd;
 LV [q4,q6,q8,q10,q12,q14,q16,q18,q20,q22,q24,q26,AV.vrows 70 q1 (ZT 0 q27) q1] X/\
 List.length X.L<1000/\
 (∀(i:Nat),i<q1->true=true)/\
 ∃(X:Z7),
 let q61:=Xb Zr X q57 q58 2 Za;let q62:=X.t;let q63:=q62.fund;let q64:=q63=q63;let q65:=q62.index;let q66:=decide (q65=q65);let q67:=q62.cap;let q68:=decide (q67=q67);let q69:=q62.dust;let q70:=decide (q69=q69);let q71:=q62.fee;let q72:=decide (q71=q71);let q73:=q62.delay;let q74:=decide (q73=q73);let q75:=q62.k0;let q76:=q75=q75;let q77:=q62.k1;let q78:=q77=q77;let q79:=X.side;let q80:=decide (q79=q79);let q81:=X.res;let q82:=decide (q81=q81);let q83:=[X.a0,X.a1];let q84:=q83=q83;let q85:=[X.i0,X.i1];let q86:=q85=q85;let q87:=List.length X.L;let q88:=decide (q87=q87);let q89:=decide (q87=q1);
 LD [q4,q6,q8,q10,q12,q14,q16,q18,q20,q22,q24,q26,AV.nslice (ZG.mk 0 0 70 0 0) 70 q1 q1] q1 q27 X/\
 Z7.Inv Zr X/\
 ((32:Nat)=32/\Bytes Za)/\
 q61≠0/\
 (∀(i:Nat),i<q1->true=true)/\
 ∃(X_1:Z7),
 let q119:=Xb Zr X_1 q57 q58 2 Za;let q120:=X_1.t;let q121:=List.length X_1.L;let q122:=decide (q121=q1);
 LB [q4,q6,q8,q10,q12,q14,q16,q18,q20,q22,q24,q26,AV.nslice (ZG.mk 1 0 70 0 0) 70 q1 q1] q1 q27 X_1/\
 Z7.Inv Zr X_1/\
 (32:Nat)=32/\
 q119≠0/\
 q64/\
 Z0 q66
 (Z0 q68
 (Z0 q70
 (Z0 q72
 (Z0 q74
 (q76/\
 q78/\
 Z0 q80
 (Z0 q82
 (q84/\
 q86/\
 Z0 q88
 (Z0 q88
 (q64/\
 Z0 q66
 (Z0 q68
 (Z0 q70
 (Z0 q72
 (Z0 q74
 (q76/\
 q78/\
 Z0 q80 (Z0 q82 (q84/\q86/\Z0 q88 (Z0 q88 (q63=q3/\Z0 (decide (q65=q5)) (Z0 (decide (q67=q7)) (Z0 (decide (q69=q9)) (Z0 (decide (q71=q11)) (Z0 (decide (q73=q13)) (q75=q15/\q77=q17/\Z0 (decide (q79=q19)) (Z0 (decide (q81=q21)) (q83=q23/\q85=q25/\Z0 q89 (Z0 (decide (q1<=q87)) (Z0 (decide ((q119==q61)=true)) (q120.fund=q3/\Z0 (decide (q120.index=q5)) (Z0 (decide (q120.cap=q7)) (Z0 (decide (q120.dust=q9)) (Z0 (decide (q120.fee=q11)) (Z0 (decide (q120.delay=q13)) (q120.k0=q15/\q120.k1=q17/\Z0 (decide (X_1.side=q19)) (Z0 (decide (X_1.res=q21)) ([X_1.a0,X_1.a1]=q23/\[X_1.i0,X_1.i1]=q25/\Z0 q122 (Z0 (decide (q1<=q121)) (Z0 q122 (Zc 3 [] q1 q27 (Z4 X_1.L)/\Z0 q89 (Zc 3 [] q1 q27 (Z4 X.L)/\True) False) False) False) False) False) False) False) False) False) False) False) False) False) False) False) False) False) False) False) False) False) False) False) False)
 False)
 False)
 False)
 False)
 False)
 False)
 False)
 False)
 False)
 False)
 False)
 False)
 False)
 False)
 False)
 False) (by kernel_rfl) ?_
 conv=>zeta
 try simp only [Zi]
 try simp only [Zj]
 try simp only [Zf]
 try simp only [Zk]
 try simp only [Zl]
 try simp only [Zg]
 try simp only [Int.toNat_natCast,Nat.zero_add,true_and,and_true,Nat.le_refl]
 have hlen:=hI.am.n
 have hsb:a.secret.length<=B:=by rw [ha.secret];exact hB
 repeat' first
  | exact hI
  | exact he
  | exact ha.secret
  | exact ha.sb
  | exact Xw
  | exact hsb
  | exact hlen
  | exact beq_self_eq_true _
  | (intro _ _;trivial)
  | refine Exists.intro X (And.intro ⟨rfl,rfl,rfl⟩ ?_)
  | refine Exists.intro X (And.intro (.a rfl) ?_)
  | apply And.intro
  | rfl
  | omega
  | exact Zp fun _ _=>rfl
theorem ZlX (X Y:Z7) (a:YB) (H1:List Int->List Int) (B:Nat) (hI:X.Inv Zr) (ha:a.Ok) (hB:32<=B) (he:1<=a.move/\a.move<=4) (hY:Y=stpX X a.move):
  evF (Z3X H1 B true) 20 11 [.ptr (some ⟨0,0,0,0,0⟩),.agg (X.c (slH 2 X.L.length)),.agg (.int .i64 3::a.c.tail)] (Z18 X) (ZX 3 (.ret (.tuple [.agg (Y.c (slH 4 Y.L.length)),.bool true])) 5 (ZbC X Y)):=by
 refine @Eq.mpr _ (let q1:=List.length X.L;let q2:=X.t;let q3:=AV.arr u8 32 q2.fund;let q4:=AV.int i64 q2.index;let q5:=AV.int i64 q2.cap;let q6:=AV.int i64 q2.dust;let q7:=AV.int i64 q2.fee;let q8:=AV.int i64 q2.delay;let q9:=AV.arr u8 32 q2.k0;let q10:=AV.arr u8 32 q2.k1;let q11:=AV.int i64 X.side;let q12:=AV.int i64 X.res;let q13:=AV.arr i64 2 [X.a0,X.a1];let q14:=AV.arr i64 2 [X.i0,X.i1];let q15:=Z4 X.L;let q16:=a.move;let q17:=1<=q16/\q16<=4;let q18:=Y.t;let q19:=q18.fund;let q20:=q18.index;let q21:=q18.cap;let q22:=q18.dust;let q23:=q18.fee;let q24:=q18.delay;let q25:=q18.k0;let q26:=q18.k1;let q27:=[Y.a0,Y.a1];let q28:=[Y.i0,Y.i1];let q29:=List.length Y.L;let q30:=[(3,10),(4,6)];let q31:=Z4 Y.L;
 (∀(i:Nat),i<q1->true=true)/\
 ∃(X_1:Z7),
 let q63:=X_1.L;let q64:=Yp q16 q63;let q65:=List.length q64;let q66:=ZV q16 q63;let q67:=List.length q66;let q68:=stpX X_1 q16;let q69:=q68.t;let q70:=q69.fund;let q71:=q69.index;let q72:=q69.cap;let q73:=q69.dust;let q74:=q69.fee;let q75:=q69.delay;let q76:=q69.k0;let q77:=q69.k1;let q78:=q68.side;let q79:=q68.res;let q80:=[q68.a0,q68.a1];let q81:=[q68.i0,q68.i1];let q82:=q68.L;let q83:=List.length q82;let q84:=decide (q83=q83);let q85:=decide (q83=q29);
 LD [q3,q4,q5,q6,q7,q8,q9,q10,q11,q12,q13,q14,AV.nslice (ZG.mk 0 0 70 0 0) 70 q1 q1] q1 q15 X_1/\
 Z7.Inv Zr X_1/\
 q17/\
 (∀(i:Nat),i<q1->true=true)/\
 ∃(X_2:Z7),
 let q109:=Yp q16 X_2.L;let q110:=List.length q109;let q111:=q65=q110;let q112:=ZV q16 X_2.L;let q113:=List.length q112;let q114:=q67=q113;let q115:=stpX X_2 q16;let q116:=q115.t;let q117:=q115.L;let q118:=List.length q117;let q119:=decide (q118=q29);
 LB [q3,q4,q5,q6,q7,q8,q9,q10,q11,q12,q13,q14,AV.nslice (ZG.mk 1 0 70 0 0) 70 q1 q1] q1 q15 X_2/\
 Z7.Inv Zr X_2/\
 q17/\
 Z0 (decide (0+q110<=q110))
 ((∀(i:Nat),i<q110->true=true)/\
 Z0 (decide (0+q65<=q65))
 ((∀(i:Nat),i<q65->true=true)/\
 ∃(A:List Z6),
 (q110=List.length A/\q110=q110/\q111/\q111)/\
 (ZT 0 (Z4 q109)=Z4 A/\ZT 0 (Z4 q64)=Z4 A)/\
 q110<1000/\
 (∀(h:Z6),List.Mem h A->Z6.Ok h)/\
 Z0 (decide (0+q113<=q113))
 ((∀(i:Nat),i<q113->true=true)/\
 Z0 (decide (0+q67<=q67))
 ((∀(i:Nat),i<q67->true=true)/\
 ∃(A:List Z6),
 (q113=List.length A/\q113=q113/\q114/\q114)/\
 (ZT 0 (Z4 q112)=Z4 A/\ZT 0 (Z4 q66)=Z4 A)/\
 q113<1000/\
 (∀(h:Z6),List.Mem h A->Z6.Ok h)/\
 q70=q70/\
 Z0 (decide (q71=q71))
 (Z0 (decide (q72=q72))
 (Z0 (decide (q73=q73))
 (Z0 (decide (q74=q74))
 (Z0 (decide (q75=q75))
 (q76=q76/\
 q77=q77/\
 Z0 (decide (q78=q78))
 (Z0 (decide (q79=q79))
 (q80=q80/\
 q81=q81/\
 Z0 q84
 (Z0 q84 (q70=q19/\Z0 (decide (q71=q20)) (Z0 (decide (q72=q21)) (Z0 (decide (q73=q22)) (Z0 (decide (q74=q23)) (Z0 (decide (q75=q24)) (q76=q25/\q77=q26/\Z0 (decide (q78=Y.side)) (Z0 (decide (q79=Y.res)) (q80=q27/\q81=q28/\Z0 q85 (Z0 (decide (q29<=q83)) (q116.fund=q19/\Z0 (decide (q116.index=q20)) (Z0 (decide (q116.cap=q21)) (Z0 (decide (q116.dust=q22)) (Z0 (decide (q116.fee=q23)) (Z0 (decide (q116.delay=q24)) (q116.k0=q25/\q116.k1=q26/\Z0 (decide (q115.side=Y.side)) (Z0 (decide (q115.res=Y.res)) ([q115.a0,q115.a1]=q27/\[q115.i0,q115.i1]=q28/\Z0 q119 (Z0 (decide (q29<=q118)) (Z0 q119 (Zc 3 q30 q29 q31 (Z4 q117)/\Z0 q85 (Zc 3 q30 q29 q31 (Z4 q82)/\Z0 (decide (List.length q63=q1)) (Zc 3 q30 q1 q15 (Z4 q63)/\True) False) False) False) False) False) False) False) False) False) False) False) False) False) False) False) False) False) False) False) False) False)
 False)
 False)
 False)
 False)
 False)
 False)
 False)
 False)
 False)
 False)
 False)
 False)
 False) (by kernel_rfl) ?_
 conv=>zeta
 try simp only [Zi]
 try simp only [Zj]
 try simp only [Zf]
 try simp only [Zk]
 try simp only [Zl]
 try simp only [Zg]
 try simp only [Int.toNat_natCast,Nat.zero_add,true_and,and_true,Nat.le_refl]
 have hlen:=hI.am.n
 have hsb:a.secret.length<=B:=by rw [ha.secret];exact hB
 subst hY
 have okH:∀h∈Yp a.move X.L,h.Ok:=fun h hh=>Zhe hI hh
 have okG:∀h∈ZV a.move X.L,h.Ok:=fun h hh=>Zhf hI hh
 have l1:(Yp a.move X.L).length<1000:=by have:=Z3y a.move X.L;omega
 have l2:(ZV a.move X.L).length<1000:=by have:=Z3x a.move X.L;omega
 repeat' first
  | exact hI
  | exact he
  | exact ha.secret
  | exact ha.sb
  | exact Xw
  | exact hsb
  | exact hlen
  | exact beq_self_eq_true _
  | (intro _ _;trivial)
  | refine Exists.intro X (And.intro ⟨rfl,rfl,rfl⟩ ?_)
  | refine Exists.intro X (And.intro (.a rfl) ?_)
  | exact okH
  | exact okG
  | exact l1
  | exact l2
  | refine Exists.intro (Yp a.move X.L) (And.intro ⟨rfl,rfl,rfl⟩ ?_)
  | refine Exists.intro (ZV a.move X.L) (And.intro ⟨rfl,rfl,rfl⟩ ?_)
  | apply And.intro
  | rfl
  | omega
  | exact Zp fun _ _=>rfl
theorem ZlY (X:Z7) (a:YB) (H1:List Int->List Int) (B:Nat) (hI:X.Inv Zr) (ha:a.Ok) (hB:32<=B) (he:¬(1<=a.move/\a.move<=4)):
  evF (Z3X H1 B false) 20 11 [.ptr (some ⟨0,0,0,0,0⟩),.agg (X.c (slH 2 X.L.length)),.agg (.int .i64 3::a.c.tail)] (Z18 X) (ZX 3 (.ret (.tuple [.agg (X.c (slH 2 X.L.length)),.bool true])) 3 (Z3K X)):=by
 refine @Eq.mpr _ (let q1:=List.length X.L;let q2:=X.t;let q3:=q2.fund;let q4:=AV.arr u8 32 q3;let q5:=q2.index;let q6:=AV.int i64 q5;let q7:=q2.cap;let q8:=AV.int i64 q7;let q9:=q2.dust;let q10:=AV.int i64 q9;let q11:=q2.fee;let q12:=AV.int i64 q11;let q13:=q2.delay;let q14:=AV.int i64 q13;let q15:=q2.k0;let q16:=AV.arr u8 32 q15;let q17:=q2.k1;let q18:=AV.arr u8 32 q17;let q19:=X.side;let q20:=AV.int i64 q19;let q21:=X.res;let q22:=AV.int i64 q21;let q23:=[X.a0,X.a1];let q24:=AV.arr i64 2 q23;let q25:=[X.i0,X.i1];let q26:=AV.arr i64 2 q25;let q27:=Z4 X.L;let q28:=¬(1<=a.move/\a.move<=4);
 (∀(i:Nat),i<q1->true=true)/\
 ∃(X:Z7),
 let q57:=X.t;let q58:=q57.fund;let q59:=q57.index;let q60:=q57.cap;let q61:=q57.dust;let q62:=q57.fee;let q63:=q57.delay;let q64:=q57.k0;let q65:=q57.k1;let q66:=X.side;let q67:=X.res;let q68:=[X.a0,X.a1];let q69:=[X.i0,X.i1];let q70:=List.length X.L;let q71:=decide (q70=q70);let q72:=decide (q70=q1);
 LD [q4,q6,q8,q10,q12,q14,q16,q18,q20,q22,q24,q26,AV.nslice (ZG.mk 0 0 70 0 0) 70 q1 q1] q1 q27 X/\
 Z7.Inv Zr X/\
 q28/\
 (∀(i:Nat),i<q1->true=true)/\
 ∃(X_1:Z7),
 let q89:=X_1.t;let q90:=List.length X_1.L;let q91:=decide (q90=q1);
 LB [q4,q6,q8,q10,q12,q14,q16,q18,q20,q22,q24,q26,AV.nslice (ZG.mk 1 0 70 0 0) 70 q1 q1] q1 q27 X_1/\
 Z7.Inv Zr X_1/\
 q28/\
 q58=q58/\
 Z0 (decide (q59=q59))
 (Z0 (decide (q60=q60))
 (Z0 (decide (q61=q61))
 (Z0 (decide (q62=q62))
 (Z0 (decide (q63=q63))
 (q64=q64/\
 q65=q65/\
 Z0 (decide (q66=q66)) (Z0 (decide (q67=q67)) (q68=q68/\q69=q69/\Z0 q71 (Z0 q71 (q58=q3/\Z0 (decide (q59=q5)) (Z0 (decide (q60=q7)) (Z0 (decide (q61=q9)) (Z0 (decide (q62=q11)) (Z0 (decide (q63=q13)) (q64=q15/\q65=q17/\Z0 (decide (q66=q19)) (Z0 (decide (q67=q21)) (q68=q23/\q69=q25/\Z0 q72 (Z0 (decide (q1<=q70)) (q89.fund=q3/\Z0 (decide (q89.index=q5)) (Z0 (decide (q89.cap=q7)) (Z0 (decide (q89.dust=q9)) (Z0 (decide (q89.fee=q11)) (Z0 (decide (q89.delay=q13)) (q89.k0=q15/\q89.k1=q17/\Z0 (decide (X_1.side=q19)) (Z0 (decide (X_1.res=q21)) ([X_1.a0,X_1.a1]=q23/\[X_1.i0,X_1.i1]=q25/\Z0 q91 (Z0 (decide (q1<=q90)) (Z0 q91 (Zc 3 [] q1 q27 (Z4 X_1.L)/\Z0 q72 (Zc 3 [] q1 q27 (Z4 X.L)/\True) False) False) False) False) False) False) False) False) False) False) False) False) False) False) False) False) False) False) False) False) False) False) False) False)
 False)
 False)
 False)
 False)
 False) (by kernel_rfl) ?_
 conv=>zeta
 try simp only [Zi]
 try simp only [Zj]
 try simp only [Zf]
 try simp only [Zk]
 try simp only [Zl]
 try simp only [Zg]
 try simp only [Int.toNat_natCast,Nat.zero_add,true_and,and_true,Nat.le_refl]
 have hlen:=hI.am.n
 have hsb:a.secret.length<=B:=by rw [ha.secret];exact hB
 repeat' first
  | exact hI
  | exact he
  | exact ha.secret
  | exact ha.sb
  | exact Xw
  | exact hsb
  | exact hlen
  | exact beq_self_eq_true _
  | (intro _ _;trivial)
  | refine Exists.intro X (And.intro ⟨rfl,rfl,rfl⟩ ?_)
  | refine Exists.intro X (And.intro (.a rfl) ?_)
  | apply And.intro
  | rfl
  | omega
  | exact Zp fun _ _=>rfl
theorem ZlZ (X Y:Z7) (a:YB) (H1:List Int->List Int) (B:Nat) (hI:X.Inv Zr) (ha:a.Ok) (hB:32<=B) (he:True) (hY:Y=brkX X):
  evF (Z3X H1 B true) 20 11 [.ptr (some ⟨0,0,0,0,0⟩),.agg (X.c (slH 2 X.L.length)),.agg (.int .i64 4::a.c.tail)] (Z18 X) (ZX 3 (.ret (.tuple [.agg (Y.c (slH 4 Y.L.length)),.bool true])) 5 (ZbC X Y)):=by
 refine @Eq.mpr _ (let q1:=List.length X.L;let q2:=X.t;let q3:=AV.arr u8 32 q2.fund;let q4:=AV.int i64 q2.index;let q5:=AV.int i64 q2.cap;let q6:=AV.int i64 q2.dust;let q7:=AV.int i64 q2.fee;let q8:=AV.int i64 q2.delay;let q9:=AV.arr u8 32 q2.k0;let q10:=AV.arr u8 32 q2.k1;let q11:=AV.int i64 X.side;let q12:=AV.int i64 X.res;let q13:=AV.arr i64 2 [X.a0,X.a1];let q14:=AV.arr i64 2 [X.i0,X.i1];let q15:=Z4 X.L;let q16:=Y.t;let q17:=q16.fund;let q18:=q16.index;let q19:=q16.cap;let q20:=q16.dust;let q21:=q16.fee;let q22:=q16.delay;let q23:=q16.k0;let q24:=q16.k1;let q25:=[Y.a0,Y.a1];let q26:=[Y.i0,Y.i1];let q27:=List.length Y.L;let q28:=[(3,9),(4,6)];let q29:=Z4 Y.L;
 (∀(i:Nat),i<q1->true=true)/\
 ∃(X_1:Z7),
 let q59:=brkX X_1;let q60:=q59.t;let q61:=q60.fund;let q62:=q60.index;let q63:=q60.cap;let q64:=q60.dust;let q65:=q60.fee;let q66:=q60.delay;let q67:=q60.k0;let q68:=q60.k1;let q69:=q59.side;let q70:=q59.res;let q71:=[q59.a0,q59.a1];let q72:=[q59.i0,q59.i1];let q73:=q59.L;let q74:=List.length q73;let q75:=decide (q74=q74);let q76:=X_1.L;let q77:=ZL q76;let q78:=List.length q77;let q79:=decide (q74=q27);
 LD [q3,q4,q5,q6,q7,q8,q9,q10,q11,q12,q13,q14,AV.nslice (ZG.mk 0 0 70 0 0) 70 q1 q1] q1 q15 X_1/\
 Z7.Inv Zr X_1/\
 (∀(i:Nat),i<q1->true=true)/\
 ∃(X_2:Z7),
 let q101:=ZL X_2.L;let q102:=List.length q101;let q103:=q78=q102;let q104:=brkX X_2;let q105:=q104.t;let q106:=q104.L;let q107:=List.length q106;let q108:=decide (q107=q27);
 LB [q3,q4,q5,q6,q7,q8,q9,q10,q11,q12,q13,q14,AV.nslice (ZG.mk 1 0 70 0 0) 70 q1 q1] q1 q15 X_2/\
 Z7.Inv Zr X_2/\
 q61=q61/\
 Z0 (decide (q62=q62))
 (Z0 (decide (q63=q63))
 (Z0 (decide (q64=q64))
 (Z0 (decide (q65=q65))
 (Z0 (decide (q66=q66))
 (q67=q67/\
 q68=q68/\
 Z0 (decide (q69=q69))
 (Z0 (decide (q70=q70))
 (q71=q71/\
 q72=q72/\
 Z0 q75
 (Z0 q75
 (Z0 (decide (0+q102<=q102))
 ((∀(i:Nat),i<q102->true=true)/\
 Z0 (decide (0+q78<=q78))
 ((∀(i:Nat),i<q78->true=true)/\
 ∃(A:List Z6),
 (q102=List.length A/\q102=q102/\q103/\q103)/\
 (ZT 0 (Z4 q101)=Z4 A/\ZT 0 (Z4 q77)=Z4 A)/\
 q102<1000/\
 (∀(h:Z6),List.Mem h A->Z6.Ok h)/\
 q61=q17/\Z0 (decide (q62=q18)) (Z0 (decide (q63=q19)) (Z0 (decide (q64=q20)) (Z0 (decide (q65=q21)) (Z0 (decide (q66=q22)) (q67=q23/\q68=q24/\Z0 (decide (q69=Y.side)) (Z0 (decide (q70=Y.res)) (q71=q25/\q72=q26/\Z0 q79 (Z0 (decide (q27<=q74)) (q105.fund=q17/\Z0 (decide (q105.index=q18)) (Z0 (decide (q105.cap=q19)) (Z0 (decide (q105.dust=q20)) (Z0 (decide (q105.fee=q21)) (Z0 (decide (q105.delay=q22)) (q105.k0=q23/\q105.k1=q24/\Z0 (decide (q104.side=Y.side)) (Z0 (decide (q104.res=Y.res)) ([q104.a0,q104.a1]=q25/\[q104.i0,q104.i1]=q26/\Z0 q108 (Z0 (decide (q27<=q107)) (Z0 q108 (Zc 3 q28 q27 q29 (Z4 q106)/\Z0 q79 (Zc 3 q28 q27 q29 (Z4 q73)/\Z0 (decide (List.length q76=q1)) (Zc 3 q28 q1 q15 (Z4 q76)/\True) False) False) False) False) False) False) False) False) False) False) False) False) False) False) False) False) False) False) False) False) False)
 False)
 False)
 False)
 False)
 False)
 False)
 False)
 False)
 False)
 False)
 False) (by kernel_rfl) ?_
 conv=>zeta
 try simp only [Zi]
 try simp only [Zj]
 try simp only [Zf]
 try simp only [Zk]
 try simp only [Zl]
 try simp only [Zg]
 try simp only [Int.toNat_natCast,Nat.zero_add,true_and,and_true,Nat.le_refl]
 have hlen:=hI.am.n
 have hsb:a.secret.length<=B:=by rw [ha.secret];exact hB
 subst hY
 have okG:∀h∈ZL X.L,h.Ok:=fun h hh=>hI.ok h (U5 hh).1
 have l2:(ZL X.L).length<1000:=by
  have:(ZL X.L).length<=X.L.length:=List.length_filter_le _ _
  omega
 repeat' first
  | exact hI
  | exact he
  | exact ha.secret
  | exact ha.sb
  | exact Xw
  | exact hsb
  | exact hlen
  | exact beq_self_eq_true _
  | (intro _ _;trivial)
  | refine Exists.intro X (And.intro ⟨rfl,rfl,rfl⟩ ?_)
  | refine Exists.intro X (And.intro (.a rfl) ?_)
  | exact okG
  | exact l2
  | refine Exists.intro (ZL X.L) (And.intro ⟨rfl,rfl,rfl⟩ ?_)
  | apply And.intro
  | rfl
  | omega
  | exact Zp fun _ _=>rfl
end Go.Tk
end
section
namespace Go.Tk
open IntKind (i64 u8 u32 u64 wrap)
theorem ZeN {X:Z7} (hI:X.Inv Zr) {o:Bool} {q:X5} (hq:q∈YR X.side o X.L):q.hash.length=32:=by
 unfold YR at hq
 obtain ⟨z,hz,rfl⟩:=List.mem_map.1 hq
 exact (hI.ok z (List.mem_filter.1 hz).1).hash
def nF:Y8:=fun _ _ _=>False
theorem Zai {f:FuncId} (args:List AV) (h:Z9) (K:KO) (hl:nF args h K):Zn PP f args h K:=hl.elim
noncomputable def ZeO (c:Bool):Zh:=(((((((G0.withF 35 nF).withF 36 nF).withF 39 nF).withF 41 nF).withF 23 (Z5M c)).withF 42 (Z3H c)).withP 43 Z3J)
theorem Z7k (c:Bool):(ZeO c).Ok:=Zh.withP_ok (Zh.withF_ok (Zh.withF_ok (Zh.withF_ok (Zh.withF_ok (Zh.withF_ok (Zh.withF_ok Zu Zai) Zai) Zai) Zai) (Z3B c)) (Z1v c)) Z1w
theorem Zm0 (X:Z7) (a:YB) (hI:X.Inv Zr) (ha:a.Ok) (hw:¬(0<=a.what/\a.what<=4)) (hk:0<=a.number/\a.number<=2147483647):
  evF (ZeO true) 20 11 [.ptr (some ⟨0,0,0,0,0⟩),.agg (X.c (slH 2 X.L.length)),.agg a.c] (Z18 X) (ZX 3 (.ret (.tuple [.agg (X.c (slH 2 X.L.length)),.bool true])) 3 (Z3K X)):=by
 refine @Eq.mpr _ (let q1:=a.what;let q2:=List.length X.L;let q3:=X.t;let q4:=q3.fund;let q5:=q3.index;let q6:=q3.cap;let q7:=q3.dust;let q8:=q3.fee;let q9:=q3.delay;let q10:=q3.k0;let q11:=q3.k1;let q12:=X.side;let q13:=X.res;let q14:=[X.a0,X.a1];let q15:=[X.i0,X.i1];let q16:=Z4 X.L;let q17:=a.number;let q18:=0<=q17/\q17<=2147483647;let q19:=a.ours;let q20:=a.secret;let q21:=q4=q4;let q22:=decide (q5=q5);let q23:=decide (q6=q6);let q24:=decide (q7=q7);let q25:=decide (q8=q8);let q26:=decide (q9=q9);let q27:=q10=q10;let q28:=q11=q11;let q29:=decide (q12=q12);let q30:=decide (q13=q13);let q31:=q14=q14;let q32:=q15=q15;let q33:=decide (q2=q2);let q34:=decide (q2<=q2);let q35:=Zc 3 [] q2 q16 q16;
 Z0 (q1==0) (Z0 a.own False False)
 (Z0 (q1==1) False
 (Z0 (q1==2) False
 (Z0 (q1==3) False
 (Z0 (q1==4) False
 (Z0 (decide (0+q2<=q2))
 ((∀(i:Nat),i<q2->true=true)/\
 ∃(X_1:Z7),
 let q71:=[AV.arr u8 32 q4,AV.int i64 q5,AV.int i64 q6,AV.int i64 q7,AV.int i64 q8,AV.int i64 q9,AV.arr u8 32 q10,AV.arr u8 32 q11,AV.int i64 q12,AV.int i64 q13,AV.arr i64 2 q14,AV.arr i64 2 q15,AV.vrows 70 q2 (ZT 0 q16) q2];let q72:=YR X_1.side q19 X_1.L;let q73:=List.length q72;
 LV q71 X_1/\
 Z7.Inv Zr X_1/\
 q18/\
 Z0 (decide (0+q2<=q2))
 ((∀(i:Nat),i<q2->true=true)/\
 ∃(X_2:Z7),
 let q77:=YR X_2.side q19 X_2.L;let q78:=List.length q77;let q79:=q73=q78;
 LV q71 X_2/\
 Z7.Inv Zr X_2/\
 q18/\
 Z0 (decide (0+q78<=q78))
 ((∀(i:Nat),i<q78->true=true)/\
 Z0 (decide (0+q73<=q73))
 ((∀(i:Nat),i<q73->true=true)/\
 ∃(P:List X5),(q78=List.length P/\q78=q78/\q79/\q79)/\(ZT 0 (ZM q77)=ZM P/\ZT 0 (ZM q72)=ZM P)/\(q17=q17/\ZS X_1.side q19=ZS X_2.side q19/\q20=q20/\(Z1G X_1 q19).fst=(Z1G X_2 q19).fst/\(Z1G X_1 q19).snd=(Z1G X_2 q19).snd)/\List.length q20=32/\q78<1000/\(∀(q:X5),List.Mem q P->List.length q.hash=32)/\q21/\Z0 q22 (Z0 q23 (Z0 q24 (Z0 q25 (Z0 q26 (q27/\q28/\Z0 q29 (Z0 q30 (q31/\q32/\Z0 q33 (Z0 q33 (q21/\Z0 q22 (Z0 q23 (Z0 q24 (Z0 q25 (Z0 q26 (q27/\q28/\Z0 q29 (Z0 q30 (q31/\q32/\Z0 q33 (Z0 q34 (q21/\Z0 q22 (Z0 q23 (Z0 q24 (Z0 q25 (Z0 q26 (q27/\q28/\Z0 q29 (Z0 q30 (q31/\q32/\Z0 q33 (Z0 q34 (Z0 q33 (q35/\Z0 q33 (q35/\True) False) False) False) False) False) False) False) False) False) False) False) False) False) False) False) False) False) False) False) False) False) False) False) False) False) False) False) False) False)
 False)
 False)
 False)
 False)))))) (by kernel_rfl) ?_
 conv=>zeta
 try simp only [Zi]
 try simp only [Zj]
 try simp only [Zf]
 try simp only [Zk]
 try simp only [Zl]
 try simp only [Zg]
 try simp only [Int.toNat_natCast,Nat.zero_add,true_and,and_true,Nat.le_refl]
 have e:∀k:Int,0<=k->k<=4->(a.what==k)=false:=fun k h1 h2=>by
  rw [beq_eq_false_iff_ne];omega
 have l1:(YR X.side a.ours X.L).length<1000:=by
  have:=Qb X.side a.ours X.L
  have:=hI.len
  omega
 have okP:∀q∈YR X.side a.ours X.L,q.hash.length=32:=fun q hq=>ZeN hI hq
 refine ⟨fun h=>absurd h (by rw [e 0 (by decide) (by decide)];simp),fun _=>⟨e 1 (by decide) (by decide),e 2 (by decide) (by decide),e 3 (by decide) (by decide),e 4 (by decide) (by decide),fun _ _=>trivial,X,.a rfl,hI,hk,fun _ _=>trivial,X,.a rfl,hI,hk, ?_⟩⟩
 exact ⟨fun _ _=>trivial,fun _ _=>trivial,YR X.side a.ours X.L,⟨rfl,rfl,rfl⟩,⟨rfl,rfl⟩,⟨rfl,rfl,rfl⟩,ha.secret,l1,okP,Zp fun _ _=>rfl,Zp fun _ _=>rfl⟩
theorem Zm1 (X:Z7) (a:YB) (hI:X.Inv Zr) (ha:a.Ok) (hw:¬(0<=a.what/\a.what<=4)) (hk:¬(0<=a.number/\a.number<=2147483647)):
  evF (ZeO false) 20 11 [.ptr (some ⟨0,0,0,0,0⟩),.agg (X.c (slH 2 X.L.length)),.agg a.c] (Z18 X) (ZX 3 (.ret (.tuple [.agg (X.c (slH 2 X.L.length)),.bool true])) 3 (Z3K X)):=by
 refine @Eq.mpr _ (let q1:=a.what;let q2:=List.length X.L;let q3:=X.t;let q4:=q3.fund;let q5:=q3.index;let q6:=q3.cap;let q7:=q3.dust;let q8:=q3.fee;let q9:=q3.delay;let q10:=q3.k0;let q11:=q3.k1;let q12:=X.side;let q13:=X.res;let q14:=[X.a0,X.a1];let q15:=[X.i0,X.i1];let q16:=Z4 X.L;let q17:=¬(0<=a.number/\a.number<=2147483647);let q18:=q4=q4;let q19:=decide (q5=q5);let q20:=decide (q6=q6);let q21:=decide (q7=q7);let q22:=decide (q8=q8);let q23:=decide (q9=q9);let q24:=q10=q10;let q25:=q11=q11;let q26:=decide (q12=q12);let q27:=decide (q13=q13);let q28:=q14=q14;let q29:=q15=q15;let q30:=decide (q2=q2);let q31:=decide (q2<=q2);let q32:=Zc 3 [] q2 q16 q16;
 Z0 (q1==0) (Z0 a.own False False)
 (Z0 (q1==1) False
 (Z0 (q1==2) False
 (Z0 (q1==3) False
 (Z0 (q1==4) False
 (Z0 (decide (0+q2<=q2))
 ((∀(i:Nat),i<q2->true=true)/\
 ∃(X:Z7),
 let q65:=[AV.arr u8 32 q4,AV.int i64 q5,AV.int i64 q6,AV.int i64 q7,AV.int i64 q8,AV.int i64 q9,AV.arr u8 32 q10,AV.arr u8 32 q11,AV.int i64 q12,AV.int i64 q13,AV.arr i64 2 q14,AV.arr i64 2 q15,AV.vrows 70 q2 (ZT 0 q16) q2];
 LV q65 X/\Z7.Inv Zr X/\q17/\Z0 (decide (0+q2<=q2)) ((∀(i:Nat),i<q2->true=true)/\∃(X:Z7),LV q65 X/\Z7.Inv Zr X/\q17/\((0:Int)=0/\(0:Int)=0/\Za=Za/\(0:Int)=0/\(0:Int)=0)/\(32:Nat)=32/\q18/\Z0 q19 (Z0 q20 (Z0 q21 (Z0 q22 (Z0 q23 (q24/\q25/\Z0 q26 (Z0 q27 (q28/\q29/\Z0 q30 (Z0 q30 (q18/\Z0 q19 (Z0 q20 (Z0 q21 (Z0 q22 (Z0 q23 (q24/\q25/\Z0 q26 (Z0 q27 (q28/\q29/\Z0 q30 (Z0 q31 (q18/\Z0 q19 (Z0 q20 (Z0 q21 (Z0 q22 (Z0 q23 (q24/\q25/\Z0 q26 (Z0 q27 (q28/\q29/\Z0 q30 (Z0 q31 (Z0 q30 (q32/\Z0 q30 (q32/\True) False) False) False) False) False) False) False) False) False) False) False) False) False) False) False) False) False) False) False) False) False) False) False) False) False) False) False) False) False) False)
 False)))))) (by kernel_rfl) ?_
 conv=>zeta
 try simp only [Zi]
 try simp only [Zj]
 try simp only [Zf]
 try simp only [Zk]
 try simp only [Zl]
 try simp only [Zg]
 try simp only [Int.toNat_natCast,Nat.zero_add,true_and,and_true,Nat.le_refl]
 have e:∀k:Int,0<=k->k<=4->(a.what==k)=false:=fun k h1 h2=>by
  rw [beq_eq_false_iff_ne];omega
 have l1:(YR X.side a.ours X.L).length<1000:=by
  have:=Qb X.side a.ours X.L
  have:=hI.len
  omega
 have okP:∀q∈YR X.side a.ours X.L,q.hash.length=32:=fun q hq=>ZeN hI hq
 refine ⟨fun h=>absurd h (by rw [e 0 (by decide) (by decide)];simp),fun _=>⟨e 1 (by decide) (by decide),e 2 (by decide) (by decide),e 3 (by decide) (by decide),e 4 (by decide) (by decide),fun _ _=>trivial,X,.a rfl,hI,hk,fun _ _=>trivial,X,.a rfl,hI,hk, ?_⟩⟩
 exact ⟨Zp fun _ _=>rfl,Zp fun _ _=>rfl⟩
def actX (X:Z7) (a:YB):Z7:=if a.what=0 then addX X a.own (idA X a) a.amount (Zr a.secret) a.expiry else if a.what=1 then endX Zr X (Yc X a).1 (Yc X a).2 1 a.secret else if a.what=2 then endX Zr X (Yc X a).1 (Yc X a).2 2 Za else if a.what=3 then stpX X a.move else if a.what=4 then brkX X else X
def Qw (X:Z7) (a:YB):Prop:=if a.what=0 then XA X a.own (idA X a) a.amount (Zr a.secret) a.expiry≠0 else if a.what=1 then Xb Zr X (Yc X a).1 (Yc X a).2 1 a.secret≠0 else if a.what=2 then Xb Zr X (Yc X a).1 (Yc X a).2 2 Za≠0 else if a.what=3 then ¬(1<=a.move/\a.move<=4) else if a.what=4 then False else True
theorem ZeP {X:Z7} {a:YB} (h:Qw X a):actX X a=X:=by
 unfold Qw at h
 unfold actX
 split
 ·rename_i q;rw [if_pos q] at h;unfold addX;rw [if_neg h]
 ·rename_i q;rw [if_neg q] at h
  split
  ·rename_i q;rw [if_pos q] at h;unfold endX;rw [if_neg h]
  ·rename_i q;rw [if_neg q] at h
   split
   ·rename_i q;rw [if_pos q] at h;unfold endX;rw [if_neg h]
   ·rename_i q;rw [if_neg q] at h
    split
    ·rename_i q;rw [if_pos q] at h;unfold stpX;rw [if_neg h]
    ·rename_i q;rw [if_neg q] at h
     split
     ·rename_i q;rw [if_pos q] at h;exact h.elim
     ·rfl
theorem ZbD {xs:List Int} (h:∀x∈xs,0<=x/\x<=255):Bytes xs:=⟨fun i=>by
 rw [List.getD_eq_getElem?_getD]
 rcases Nat.lt_or_ge i xs.length with q|q
 ·rw [List.getElem?_eq_getElem q];exact h _ (List.getElem_mem q)
 ·rw [List.getElem?_eq_none q];exact ⟨by decide,by decide⟩⟩
theorem ZbE (n:Int):∀x∈Vd n,0<=x/\x<=255:=fun x hx=>by
 unfold Vd at hx
 simp only [List.mem_cons,List.not_mem_nil,or_false] at hx
 rcases hx with rfl|rfl|rfl|rfl<;>exact ZiU _
theorem Z91 (bs:List Int):Bytes (Zr bs):=ZbD fun x hx=>by
 unfold Zr ZF.fin Z6B at hx
 simp only [List.mem_append] at hx
 rcases hx with ((((((hx|hx)|hx)|hx)|hx)|hx)|hx)|hx<;>exact ZbE _ x hx
theorem Z7.Inv.actX {X:Z7} (h:X.Inv Zr) {a:YB} (ha:a.Ok):(actX X a).Inv Zr:=by
 unfold Go.Tk.actX
 split
 ·exact h.addX (VG _) (Z91 _)
 ·split
  ·exact h.endX ha.secret ha.sb (.inl rfl)
  ·split
   ·exact h.endX rfl Xw (.inr ⟨rfl,rfl⟩)
   ·split
    ·exact h.stpX _
    ·split
     ·exact h.brkX
     ·exact h
theorem Zm2 (X:Z7) (a:YB):(actX X a).t=X.t:=by
 unfold actX
 split
 ·unfold addX
  split
  ·cases a.own<;>rfl
  ·rfl
 ·split
  ·unfold endX;split<;>rfl
  ·split
   ·unfold endX;split<;>rfl
   ·split
    ·unfold stpX;split<;>rfl
    ·split
     ·rfl
     ·rfl
theorem Zhg {a:YB} (ha:a.Ok):W2 a.secret=Zr a.secret:=Z5y (Z3G ha.sb) (by have:=ha.secret;omega)
theorem Spec.act {X:Z7} {a:YB} (hI:X.Inv Zr) (ha:a.Ok):(Qw X a->Spec PP 11 [.ptr (some ⟨0,0,0,0,0⟩),.agg (X.c (slH 2 X.L.length)),.agg a.c] (Z18 X) (.ret (.tuple [.agg (X.c (slH 2 X.L.length)),.bool true])) 3 (Z3K X))/\(¬Qw X a->Spec PP 11 [.ptr (some ⟨0,0,0,0,0⟩),.agg (X.c (slH 2 X.L.length)),.agg a.c] (Z18 X) (.ret (.tuple [.agg ((actX X a).c (slH 4 (actX X a).L.length)),.bool true])) 5 (ZbC X (actX X a))):=by
 have hs:=Zhg ha
 obtain ⟨w,ow,of,am,ex,se,at',mo,ou,nu⟩:=a
 by_cases h0:w=0
 ·subst h0
  refine ⟨fun hk=> ?_,fun hk=> ?_⟩
  ·exact .evM (Wz false) (ZlS X ⟨0,ow,of,am,ex,se,at',mo,ou,nu⟩ W2 1000 _ hI ha (by decide) hs (VG _) hk)
  ·exact .evM (Wz true) (ZlR X _ ⟨0,ow,of,am,ex,se,at',mo,ou,nu⟩ W2 1000 _ hI ha (by decide) hs (VG _) rfl (by
    have:¬(XA X ow (idA X ⟨0,ow,of,am,ex,se,at',mo,ou,nu⟩) am (Zr se) ex≠0):=hk
    simpa using this))
 by_cases h1:w=1
 ·subst h1
  refine ⟨fun hk=> ?_,fun hk=> ?_⟩
  ·exact .evM (Wz false) (ZlU X ⟨1,ow,of,am,ex,se,at',mo,ou,nu⟩ W2 1000 hI ha (by decide) hk)
  ·exact .evM (Wz true) (ZlT X _ ⟨1,ow,of,am,ex,se,at',mo,ou,nu⟩ W2 1000 hI ha (by decide) (by
    have:¬(Xb Zr X (Yc X ⟨1,ow,of,am,ex,se,at',mo,ou,nu⟩).1 (Yc X ⟨1,ow,of,am,ex,se,at',mo,ou,nu⟩).2 1 se≠0):=hk
    simpa using this) rfl)
 by_cases h2:w=2
 ·subst h2
  refine ⟨fun hk=> ?_,fun hk=> ?_⟩
  ·exact .evM (Wz false) (ZlW X ⟨2,ow,of,am,ex,se,at',mo,ou,nu⟩ W2 1000 hI ha (by decide) hk)
  ·exact .evM (Wz true) (ZlV X _ ⟨2,ow,of,am,ex,se,at',mo,ou,nu⟩ W2 1000 hI ha (by decide) (by
    have:¬(Xb Zr X (Yc X ⟨2,ow,of,am,ex,se,at',mo,ou,nu⟩).1 (Yc X ⟨2,ow,of,am,ex,se,at',mo,ou,nu⟩).2 2 Za≠0):=hk
    simpa using this) rfl)
 by_cases h3:w=3
 ·subst h3
  refine ⟨fun hk=> ?_,fun hk=> ?_⟩
  ·exact .evM (Wz false) (ZlY X ⟨3,ow,of,am,ex,se,at',mo,ou,nu⟩ W2 1000 hI ha (by decide) hk)
  ·exact .evM (Wz true) (ZlX X _ ⟨3,ow,of,am,ex,se,at',mo,ou,nu⟩ W2 1000 hI ha (by decide) (Classical.not_not.1 hk) rfl)
 by_cases h4:w=4
 ·subst h4
  refine ⟨fun hk=>hk.elim,fun hk=> ?_⟩
  exact .evM (Wz true) (ZlZ X _ ⟨4,ow,of,am,ex,se,at',mo,ou,nu⟩ W2 1000 hI ha (by decide) trivial rfl)
 refine ⟨fun _=> ?_,fun hk=>absurd ?_ hk⟩
 ·by_cases hn:0<=nu/\nu<=2147483647
  ·exact .evM (Z7k true) (Zm0 X ⟨w,ow,of,am,ex,se,at',mo,ou,nu⟩ hI ha (show ¬(0<=w/\w<=4) by omega) hn)
  ·exact .evM (Z7k false) (Zm1 X ⟨w,ow,of,am,ex,se,at',mo,ou,nu⟩ hI ha (show ¬(0<=w/\w<=4) by omega) hn)
 ·unfold Qw
  rw [if_neg h0,if_neg h1,if_neg h2,if_neg h3,if_neg h4]
  trivial
structure LA (cs:List AV) (n:Nat) (f:Nat->List AV) (ws:List AV) (m:Nat) (g:Nat->List AV) (X:Z7):Prop where
 h1:cs=X.c (slH 1 X.L.length)
 h2:n=X.L.length
 h3:f=Z4 X.L
 h4:ws=X.c (slH 2 X.L.length)
 h5:m=X.L.length
 h6:g=Z4 X.L
def ZjM:Y8:=fun args h K=>match args with
 | [.ptr (some ⟨l,0,0,0,0⟩),.agg [_,_,_,_,_,_,_,_,_,_,_,_,.nslice ⟨d,0,70,0,0⟩ 70 _ _],_]=>match h.get l with
  |some (.flat [_,_,_,_,_,_,_,_,_,_,_,_,.nslice ⟨b,0,70,0,0⟩ 70 _ _])=>frA [l,b,d] h 20 args fun Bs v=>match Bs,v with
   | [.flat cs,.rows 70 n f,.rows 70 m g],[.ptr (some ⟨0,0,0,0,0⟩),.agg ws,.agg [.int .i64 w,.bool ow,.int .i64 of,.int .i64 am,.int .i64 ex,.arr .u8 32 se,.int .i64 at',.int .i64 mo,.bool ou,.int .i64 nu]]=>
    ∃X a,a=⟨w,ow,of,am,ex,se,at',mo,ou,nu⟩/\LA cs n f ws m g X/\X.Inv Zr/\YB.Ok a/\(Qw X a->K (.ret (.tuple [.agg (X.c (slH d X.L.length)),.bool true])) ⟨h.next,(l,.flat (X.c (slH b X.L.length)))::(b,.rows 70 X.L.length (Z4 X.L))::(d,.rows 70 X.L.length (Z4 X.L))::Ye (Ye (Ye h.bs l) b) d⟩)/\
     (¬Qw X a->K (.ret (.tuple [.agg ((actX X a).c (slH (h.next+1) (actX X a).L.length)),.bool true])) ⟨h.next+2,(l,.flat ((actX X a).c (slH h.next (actX X a).L.length)))::(h.next,.rows 70 (actX X a).L.length (Z4 (actX X a).L))::(h.next+1,.rows 70 (actX X a).L.length (Z4 (actX X a).L))::(d,.rows 70 X.L.length (Z4 X.L))::Ye (Ye (Ye h.bs l) b) d⟩)
   | _,_=>False
  | _=>False
 | _=>False
theorem Zhh (args:List AV) (h:Z9) (K:KO) (hl:ZjM args h K):Zn PP 11 args h K:=by
 unfold ZjM at hl
 split at hl
 ·split at hl
  ·refine Spec.fsumm hl fun Bs a hlen hK0=> ?_
   split at hK0
   ·obtain ⟨X,a,he,⟨rfl,rfl,rfl,rfl,rfl,rfl⟩,hI,ha,hK1,hK2⟩:=hK0
    obtain ⟨s1,s2⟩:=Spec.act hI ha
    by_cases hk:Qw X a
    ·have hK:=hK1 hk
     have hs:=s1 hk
     subst he
     exact ⟨_,_,_,_,_,hs,by simp,.ret _ _ rfl,.cons _ _ _ _ _ _ rfl (.flat _ _ rfl) (.cons _ _ _ _ _ _ rfl (.rows _ _ _ (fun _ _=>rfl)) (.cons _ _ _ _ _ _ rfl (.rows _ _ _ (fun _ _=>rfl)) .nil)),hK⟩
    ·have hK:=hK2 hk
     have hs:=s2 hk
     subst he
     exact ⟨_,_,_,_,_,hs,by simp,.ret _ _ rfl,.cons _ _ _ _ _ _ rfl (.flat _ _ rfl) (.cons _ _ _ _ _ _ rfl (.rows _ _ _ (fun _ _=>rfl)) (.cons _ _ _ _ _ _ rfl (.rows _ _ _ (fun _ _=>rfl)) (.cons _ _ _ _ _ _ rfl (.rows _ _ _ (fun _ _=>rfl)) .nil))),hK⟩
   ·exact hK0.elim
  ·exact hl.elim
 ·exact hl.elim
end Go.Tk
end
section
namespace Go.Tk
open IntKind (i64 u8 u32 u64 wrap)
def ZnH (H:List Int->List Int):ZK:=fun args h K=>ZP none h true 20 args fun v=>match v with
 | [.agg [.arr .u8 32 fu,.int .i64 ix,.int .i64 ca,.int .i64 du,.int .i64 fe,.int .i64 de,.arr .u8 32 k0,.arr .u8 32 k1],.int .i64 sd,.int .i64 rs,.agg [.arr .i64 2 [a,b]]]=>
  X3.Ok ⟨fu,ix,ca,du,fe,de,k0,k1⟩/\Z0 (YA H (ZkJ ⟨fu,ix,ca,du,fe,de,k0,k1⟩ sd rs a b)) (K (.tuple [.agg ((ZkJ ⟨fu,ix,ca,du,fe,de,k0,k1⟩ sd rs a b).c .nilslice),.int .i64 0])) (K (.tuple [.agg (Y2.c .nilslice),.int .i64 2]))
 | _=>False
def ZjN:ZK:=fun args _ K=>match args with
 | []=>K (.bool true)
 | _=>False
def Z7l:YB:=⟨0,false,0,0,0,Za,0,0,false,0⟩
def UL (A:List YB) (i:Nat):List AV:=(A.getD i Z7l).c
end Go.Tk
end
section
namespace Go.Tk
open IntKind (i64 u8 u32 u64 wrap)
noncomputable def Zm3 (H1:List Int->List Int) (B:Nat):Zh:=((G0.withP 102 (Z9A H1 B)).withP 98 ZgQ).withP 99 plS
theorem Zhi:(Zm3 W2 1000).Ok:=Zh.withP_ok (Zh.withP_ok (Zh.withP_ok Zu (Z3a fun xs h=>Z0Z xs (by omega))) Za1) Zei
theorem Zm4 (X:Z7) (p:Z6) (b:Bool) (H1:List Int->List Int) (B:Nat) (hok:p.Ok) (hB:32<=B) (hl:(H1 p.secret).length=32) (hb:b=Yz H1 X p):
  evF (Zm3 H1 B) 20 95 [Z0x X,.agg p.c] ⟨0,[]⟩ (Y4 (fun v=>v=.bool b)):=by
 refine @Eq.mpr _ (let q1:=p.hash;let q2:=AV.bool b;let q3:=AV.bool false=q2;let q4:=plI p.own;let q5:=0+Int.toNat q4;let q6:=p.stage;let q7:=p.fin;let q8:=p.secret;let q9:=List.length q8;let q10:=Z0 (decide (q9=32/\(32:Nat)=32)) (AV.bool (q8==Za)=q2) False;let q11:=decide (q6>=6);let q12:=H1 q8;
 Z0 (!Yj (Z6.mk false p.id p.amount q1 p.expiry 0 0 [])) q3 (Z0 (decide (0<=q4/\q4<2)) (Z0 (decide (q5<2)) (Z0 (decide (p.id>=List.getD [X.i0,X.i1] q5 0)) q3 (Z0 (decide (q6<1)) q3 (Z0 (decide (q6>9)) q3 (Z0 (q7==0) (Z0 (decide (q6<6)) q10 q3) (Z0 (q7==1) (Z0 q11 (Z0 (decide (q9=32)) (Z0 (decide (32=q9)) (Z0 (decide (q9<=B)) (Z0 (decide (List.length q12=32/\List.length q1=32)) (AV.bool (q12==q1)=q2) False) False) False) False) q3) (Z0 (q7==2) (Z0 q11 q10 q3) q3)))))) False) False)) (by kernel_rfl) ?_
 conv=>zeta
 subst hb
 have e0:Yj ⟨false,p.id,p.amount,p.hash,p.expiry,0,0,[]⟩=Yj p:=rfl
 have e1:(0<=plI p.own/\plI p.own<2)/\0+(plI p.own).toNat<2/\[X.i0,X.i1].getD (0+(plI p.own).toNat) 0=X.nx p.own:=by
  cases p.own<;>exact ⟨⟨by decide,by decide⟩,by decide,rfl⟩
 have e2:decide (1<=p.stage/\p.stage<=9)=(!decide (p.stage<1)&& !decide (p.stage>9)):=by
  by_cases h1:p.stage<1<;>by_cases h2:p.stage>9<;>simp [h1,h2]<;>omega
 have e3:decide (p.id<X.nx p.own)= !decide (p.id>=X.nx p.own):=by by_cases h:p.id<X.nx p.own<;>simp [h]<;>omega
 rw [e0]
 simp only [e1.1,e1.2.1,e1.2.2,hok.secret,hok.hash,hl,decide_true,and_self,Z8E,true_and,decide_eq_true hB,WD]
 congr 1
 unfold Yz QW
 simp only [Z6R,show (6<=p.stage)=(p.stage>=6) from rfl,Zdr p.stage 6,e2,e3]
 generalize (H1 p.secret==p.hash)=ch
 generalize (p.secret==Za)=cz
 generalize Yj p=c1
 generalize decide (p.stage<6)=c6
 generalize decide (p.stage<1)=d1
 generalize decide (p.stage>9)=d2
 generalize decide (p.id>=X.nx p.own)=d0
 generalize (p.fin==0)=f0
 generalize (p.fin==1)=f1
 generalize (p.fin==2)=f2
 cases f0<;>cases f1<;>cases f2<;>cases c6<;>cases d0<;>cases d1<;>cases d2<;>cases c1<;>simp
def Zm5 (H:List Int->List Int):ZK:=fun args h K=>ZP none h true 20 args fun a=>match a with
 | [.agg cs,.agg [.bool ow,.int .i64 id,.int .i64 am,.arr .u8 32 ha,.int .i64 ex,.int .i64 st,.int .i64 en,.arr .u8 32 se]]=>∃X,LV cs X/\Z6.Ok ⟨ow,id,am,ha,ex,st,en,se⟩/\K (.bool (Yz H X ⟨ow,id,am,ha,ex,st,en,se⟩))
 | _=>False
noncomputable def Zaj (H:List Int->List Int):Zh:=G0.withP 95 (Zm5 H)
def Zhj (X:Z7) (n i:Nat):St:=⟨177,[(3,.int .i64 i),(1,.ptr (some ⟨0,0,0,0,0⟩))],⟨1,[(0,.flat (X.c (.vrows 70 n (Z4 X.L) n)))]⟩,[]⟩
def Zm6 (X:Z7) (n:Nat):St:=⟨177,[(1,.ptr (some ⟨0,0,0,0,0⟩))],⟨1,[(0,.flat (X.c (.vrows 70 n (Z4 X.L) n)))]⟩,[]⟩
def Zhk:St:=⟨177,[(2,.bool false)],⟨0,[]⟩,[]⟩
theorem Zm7 (X:Z7) (H:List Int->List Int) (n i:Nat) (Z1 Z2 Z3:Prop) (hn:n<1000) (hL:X.L.length=n) (hi:i<=n) (hok:∀h∈X.L,h.Ok) (h1:i<n->Yy H X i=true->Z1) (h2:i=n->Z2) (h3:i<n->Yy H X i=false->Z3):
  ZB (Zaj H) 20 33 0 0 (Zhj X n i) (rdM 0 0 9 (Zhj X n (i+1)) (Zm6 X n) Zhk Zhk Z1 Z2 Z3 False):=by
 refine @Eq.mpr _ (let q1:=X.t;let q2:=q1.fund;let q3:=q1.index;let q4:=q1.cap;let q5:=q1.dust;let q6:=q1.fee;let q7:=q1.delay;let q8:=q1.k0;let q9:=q1.k1;let q10:=X.side;let q11:=X.res;let q12:=[X.a0,X.a1];let q13:=[X.i0,X.i1];let q14:=X.L;let q15:=Z4 q14;let q16:=List.getD q14 (Int.toNat (↑i:Int)) Z8;let q17:=q16.own;let q18:=q16.id;let q19:=q16.stage;let q20:=Z6.mk q17 q18 q16.amount q16.hash q16.expiry q19 q16.fin q16.secret;let q21:=q2=q2;let q22:=decide (q3=q3);let q23:=decide (q4=q4);let q24:=decide (q5=q5);let q25:=decide (q6=q6);let q26:=decide (q7=q7);let q27:=q8=q8;let q28:=q9=q9;let q29:=decide (q10=q10);let q30:=decide (q11=q11);let q31:=q12=q12;let q32:=q13=q13;let q33:=decide (n=n);let q34:=q15=q15;let q35:=Z0 (decide (wrap i64 ((↑i:Int)+1)=(↑(i+1):Int))) (q21/\Z0 q22 (Z0 q23 (Z0 q24 (Z0 q25 (Z0 q26 (q27/\q28/\Z0 q29 (Z0 q30 (q31/\q32/\Z0 q33 (q34/\Z0 q33 Z1 False) False) False) False) False) False) False) False) False) False;let q36:=wrap i64 ((↑i:Int)-1);let q37:=List.getD q14 (Int.toNat q36) Z8;let q38:=q37.own;let q39:=q37.stage;let q40:=Z0 (q17==q38) (Z0 (decide (q18<=q37.id)) Z3 (Z0 (decide ((if q39<5 then q39 else 5)<if q19<5 then q19 else 5)) Z3 q35)) q35;
 Z0 (decide ((↑i:Int)<(↑n:Int))) (Z0 (decide (0<=(↑i:Int)/\(↑i:Int)<(↑n:Int))) (∃(X:Z7),LV [AV.arr u8 32 q2,AV.int i64 q3,AV.int i64 q4,AV.int i64 q5,AV.int i64 q6,AV.int i64 q7,AV.arr u8 32 q8,AV.arr u8 32 q9,AV.int i64 q10,AV.int i64 q11,AV.arr i64 2 q12,AV.arr i64 2 q13,AV.vrows 70 n q15 n] X/\Z6.Ok q20/\Z0 (!Yz H X q20) Z3 (Z0 ((↑i:Int)==0) q35 (Z0 (decide (0<=q36/\q36<(↑n:Int))) (Z0 q17 (Z0 (!q38) Z3 q40) q40) False))) False) (q21/\Z0 q22 (Z0 q23 (Z0 q24 (Z0 q25 (Z0 q26 (q27/\q28/\Z0 q29 (Z0 q30 (q31/\q32/\Z0 q33 (q34/\Z0 q33 Z2 False) False) False) False) False) False) False) False) False)) (by kernel_rfl) ?_
 conv=>zeta
 try simp only [Zi]
 try simp only [Zj]
 try simp only [Zf]
 try simp only [Zk]
 try simp only [Zl]
 try simp only [Zg]
 try simp only [Int.toNat_natCast,Nat.zero_add,true_and,and_true,Nat.le_refl]
 subst hL
 refine ⟨fun hc=> ?_,fun hc=> ?_⟩
 rotate_left
 ·have:=h2 (by omega)
  repeat' first|exact this|apply And.intro|rfl
 have hlt:i<X.L.length:=by omega
 have hwr:i64.wrap ((i:Int)+1)=((i+1:Nat):Int):=by rw [w64 (by omega)];omega
 have hw1:i64.wrap ((i:Int)-1)=(i:Int)-1:=w64 (by omega)
 have hto:((i:Int)-1).toNat=i-1:=by omega
 have nu:Yz H X (X.L.getD i Z8)=false->Yy H X i=false:=fun h=>by unfold Yy;rw [h];rfl
 have n0:Yz H X (X.L.getD i Z8)=true->i=0->Yy H X i=true:=fun h h0=>by unfold Yy;rw [h,h0];rfl
 have nf:Yz H X (X.L.getD i Z8)=true->i≠0->Yy H X i=decide (Xi (X.L.getD (i-1) Z8) (X.L.getD i Z8)):=fun h h0=>by
  unfold Yy
  have hb0:Nat.beq i 0=false:=by
   cases i with
   | zero=>exact absurd rfl h0
   | succ j=>rfl
  rw [h,hb0];rfl
 rw [hw1,hto]
 have hoi:=hok _ (ZD hlt)
 generalize X.L.getD i Z8=x at*
 generalize X.L.getD (i-1) Z8=y at*
 refine ⟨by omega,X,.a rfl,hoi,fun hu=>h3 hlt (nu (by simpa using hu)),fun hu=> ?_⟩
 have hu:Yz H X x=true:=by simpa using hu
 refine ⟨fun h0=> ?_,fun h0=> ?_⟩
 ·have:=h1 hlt (n0 hu (by simpa using h0))
  repeat' first|exact hwr|exact this|apply And.intro|rfl
 have h0:i≠0:=by simpa using h0
 have nf:=nf hu h0
 refine ⟨by omega, ?_⟩
 have k1:Xi y x->Z1:=fun h=>h1 hlt (by rw [nf];exact decide_eq_true h)
 have k3:¬Xi y x->Z3:=fun h=>h3 hlt (by rw [nf];exact decide_eq_false h)
 clear h1 h3 nf nu n0 h2
 unfold Xi at k1 k3
 cases hxo:x.own<;>cases hyo:y.own<;>simp [hxo,hyo,hwr] at k1 k3⊢
 all_goals first
  | exact k1
  | exact k3
  | refine ⟨fun h=>k3 fun h'=>absurd h' (by omega),fun h=>⟨fun h4=>k3 fun _=> ?_,fun h4=>k1 h ?_⟩⟩<;>revert h4<;>split<;>split<;>intro h4<;>omega
end Go.Tk
end
section
namespace Go.Tk
open IntKind (i64 u8 u32 u64 wrap)
theorem Zhl (args:List AV) (h:Z9) (K:AV->Prop) (hl:Zm5 Zr args h K):Zn PP 95 args h fun o h'=>∃v,o=.ret v/\h'=h/\K v:=by
 refine ZA.psumm (d:=20) (Zs _ _ _ _ _ hl fun a ha=> ?_)
 split at ha
 ·rename_i cs ow id am ha' ex st en se
  obtain ⟨X,hX,hok,hK⟩:=ha
  have hs:Yz W2 X ⟨ow,id,am,ha',ex,st,en,se⟩=Yz Zr X ⟨ow,id,am,ha',ex,st,en,se⟩:=by
   unfold Yz QW
   rw [show W2 (Z6.mk ow id am ha' ex st en se).secret=Zr (Z6.mk ow id am ha' ex st en se).secret from Z5y (Z3G hok.sb) (by have:=hok.secret;omega)]
  exact ⟨_,(ZA.evV Zhi (Zm4 X ⟨ow,id,am,ha',ex,st,en,se⟩ _ W2 1000 hok (by decide) (Z3g _) hs.symm)).conv fun E r hr=>hr.head (fun _ hc=>XB hX hc) fun _ hc=>hc,fun _=>rfl,hK⟩
 ·exact ha.elim
theorem ZeQ:(Zaj Zr).Ok:=Zh.withP_ok Zu Zhl
theorem Z7m {side s:Int}:∀(L:List Z6) (p:Int×Nat),(∀h∈L,0<=h.amount)->p.2<=(L.foldl (Ua side s) p).2/\(1125899906842624<p.1+ZE side s L->1125899906842624<(L.foldl (Ua side s) p).1/\(p.1<=1125899906842624->p.2<(L.foldl (Ua side s) p).2))
 | [],p,_=>by
  have:ZE side s []=0:=rfl
  rw [this,List.foldl_nil]
  exact ⟨Nat.le_refl _,fun h=>⟨by omega,fun h2=>by omega⟩⟩
 | x::r,p,hA=>by
  have hr:=Xc (side:=side) (s:=s) (G:=r) fun z hz=>hA z (by simp [hz])
  have hx:=hA x (by simp)
  have ih:=fun q=>Z7m (side:=side) (s:=s) r q fun z hz=>hA z (by simp [hz])
  rw [List.foldl_cons,ZO]
  unfold UG
  by_cases hf:ZS side x.own=s/\p.1<=1125899906842624
  ·rw [if_pos hf.1]
   have e:Ua side s p x=(p.1+x.amount,p.2+1):=by unfold Ua;rw [if_pos hf]
   rw [e]
   obtain ⟨i1,i2⟩:=ih (p.1+x.amount,p.2+1)
   dsimp only at i1 i2
   exact ⟨by omega,fun h=>⟨(i2 (by omega)).1,fun _=>by omega⟩⟩
  ·have e:Ua side s p x=p:=by unfold Ua;rw [if_neg hf]
   rw [e]
   obtain ⟨i1,i2⟩:=ih p
   refine ⟨i1,fun h=> ?_⟩
   by_cases hp:p.1<=1125899906842624
   ·rw [if_neg fun h'=>hf ⟨h',hp⟩] at h
    exact ⟨(i2 (by omega)).1,fun h2=>(i2 (by omega)).2 h2⟩
   ·exact ⟨(i2 (by omega)).1,fun h2=>absurd h2 hp⟩
structure OdB (X:Z7):Prop where
 h:Z8S X X.L.length
def ZeR (OF:Z7->Int->Int×Nat):ZK:=fun args h K=>ZP none h true 20 args fun a=>match a with
 | [.agg cs,.int .i64 s]=>∃X,LV cs X/\OdB X/\K (.tuple [.int .i64 (OF X s).1,.int .i64 (OF X s).2])
 | _=>False
def ofF (X:Z7) (s:Int):Int×Nat:=offD X.side s X.L
theorem Z7n (args:List AV) (h:Z9) (K:AV->Prop) (hl:ZeR ofF args h K):Zn PP 96 args h fun o h'=>∃v,o=.ret v/\h'=h/\K v:=Z79 args h K (Zs _ _ _ _ _ hl fun a ha=>by
 split at ha
 ·obtain ⟨X,hX,⟨h1⟩,hK⟩:=ha
  exact ⟨X,hX,h1,hK⟩
 ·exact ha.elim)
def ovD (OF:Z7->Int->Int×Nat) (X:Z7) (s:Int):Int:=match decide (s=0) with
 | true=>i64.wrap (i64.wrap (i64.wrap (X.a0-(OF X s).1)-X.res)-X.t.fee)
 | false=>i64.wrap (i64.wrap (X.a1-(OF X s).1)-X.res)
noncomputable def Zil (OF:Z7->Int->Int×Nat):Zh:=G0.withP 96 (ZeR OF)
theorem ZeS:(Zil ofF).Ok:=Zh.withP_ok Zu Z7n
theorem Zm8 (OF:Z7->Int->Int×Nat) (X:Z7) (s r:Int) (hs:s=0\/s=1) (hO:OdB X) (hr:r=ovD OF X s):
  evF (Zil OF) 20 97 [Z0x X,.int .i64 s] ⟨0,[]⟩ (Y4 (fun v=>v=.int .i64 r)):=by
 refine @Eq.mpr _ (let q1:=X.t;let q2:=q1.fee;let q3:=[X.a0,X.a1];let q4:=List.length X.L;let q5:=0+Int.toNat s;
 ∃(X_1:Z7),
 let q11:=wrap i64 (wrap i64 (List.getD q3 q5 0-(OF X_1 s).fst)-X.res);
 LV [AV.arr u8 32 q1.fund,AV.int i64 q1.index,AV.int i64 q1.cap,AV.int i64 q1.dust,AV.int i64 q2,AV.int i64 q1.delay,AV.arr u8 32 q1.k0,AV.arr u8 32 q1.k1,AV.int i64 X.side,AV.int i64 X.res,AV.arr i64 2 q3,AV.arr i64 2 [X.i0,X.i1],AV.vrows 70 q4 (Z4 X.L) q4] X_1/\OdB X_1/\Z0 (decide (0<=s/\s<2)) (Z0 (decide (q5<2)) (Z0 (s==0) (AV.int i64 (wrap i64 (q11-q2))=AV.int i64 r) (AV.int i64 q11=AV.int i64 r)) False) False) (by kernel_rfl) ?_
 conv=>zeta
 try simp only [Zi]
 try simp only [Zj]
 try simp only [Zf]
 try simp only [Zk]
 try simp only [Zl]
 try simp only [Zg]
 try simp only [Int.toNat_natCast,Nat.zero_add,true_and,and_true,Nat.le_refl]
 subst hr
 unfold ovD
 refine ⟨X,.a rfl,hO,by omega,by omega,fun h=> ?_,fun h=> ?_⟩
 ·have h0:s=0:=by simpa using h
  subst h0
  rfl
 ·have h0:s=1:=by
   have:¬s=0:=by simpa using h
   omega
  subst h0
  rfl
def Zm9 (OV:Z7->Int->Int):ZK:=fun args h K=>ZP none h true 20 args fun a=>match a with
 | [.agg cs,.int .i64 s]=>∃X,LV cs X/\OdB X/\(s=0\/s=1)/\K (.int .i64 (OV X s))
 | _=>False
theorem Zhm (args:List AV) (h:Z9) (K:AV->Prop) (hl:Zm9 (ovD ofF) args h K):Zn PP 97 args h fun o h'=>∃v,o=.ret v/\h'=h/\K v:=by
 refine ZA.psumm (d:=20) (Zs _ _ _ _ _ hl fun a ha=> ?_)
 split at ha
 ·obtain ⟨X,hX,hI,hs,hK⟩:=ha
  exact ⟨_,(ZA.evV ZeS (Zm8 ofF X _ _ hs hI rfl)).conv fun E r hr=>hr.head (fun _ hc=>XB hX hc) fun _ hc=>hc,fun _=>rfl,hK⟩
 ·exact ha.elim
def Znx (H:List Int->List Int) (X:Z7) (n:Nat):Prop:=n<1000/\X.L.length=n/\∀h∈X.L,h.Ok
noncomputable def Zma (OF:Z7->Int->Int×Nat) (OV:Z7->Int->Int) (H:List Int->List Int) (X:Z7) (n:Nat) (C:Prop):Zh:=(((G0.withP 93 Z8C).withP 96 (ZeR OF)).withP 97 (Zm9 OV)).withL 33 0 (goM 0 (Zhj X n 0) C (Yu 0 n 9 (fun i=>Yy H X i=true/\i<n) (fun i=>i=n) (fun i=>i<n/\Yy H X i=false) (fun _=>False) (fun _=>Zm6 X n) (fun _=>Zhk) (fun _=>Zhk)))
theorem Zhn (X:Z7) (n:Nat):(Zma ofF (ovD ofF) Zr X n (Znx Zr X n)).Ok:=
 Zh.withL_join (H:=Zaj Zr) (Zh.withP_ok (Zh.withP_ok (Zh.withP_ok Zu Zbc) Z7n) Zhm) (by unfold Zaj;rw [Vg,Vg,Vg,Vg]) (Zh.withGoM (N:=20) (S:=fun i=>Zhj X n i) ZeQ (by kernel_rfl) fun hC=>⟨rfl,fun i hi _=>Zm7 X Zr n i _ _ _ hC.1 hC.2.1 hi hC.2.2 (fun h h'=>⟨⟨h',h⟩,h⟩) (fun h=>h) (fun h h'=>⟨h,h'⟩)⟩)
structure Zny (D:Int×Nat) (S:Int) (l:Nat):Prop where
 le:S<=1125899906842624->D.1=S/\D.2=l
 gt:1125899906842624<S->1125899906842624<D.1/\0<D.2
 b:0<=D.1/\D.1<=2251799813685248
theorem Zmb {X:Z7} (hO:Z8S X X.L.length) (s:Int):Zny (ofF X s) (ZE X.side s X.L) (ZR X.side s X.L).length:=by
 have hA:∀h∈X.L,0<=h.amount:=fun h hh=>(hO.2.2.2 h hh).1
 have hb:=(Z16 (side:=X.side) (s:=s) hO.2.2.2 X.L.length (Nat.le_refl _)).1
 rw [List.take_length] at hb
 refine ⟨fun h=> ?_,fun h=> ?_,hb⟩
 ·have:=Qc (side:=X.side) (s:=s) X.L (0,0) hA (by simpa using h)
  unfold ofF offD
  rw [this]
  exact ⟨Int.zero_add _,Nat.zero_add _⟩
 ·have:=(Z7m (side:=X.side) (s:=s) X.L (0,0) hA).2 (by simpa using h)
  exact ⟨this.1,this.2 (by decide)⟩
theorem Zmc (OF:Z7->Int->Int×Nat) (OV:Z7->Int->Int) (X:Z7) (n:Nat) (H:List Int->List Int) (b:Bool) (C:Prop) (hC:n<=16->C) (hL:X.L.length=n) (ht:X.t.Ok) (hb:b=YA H X) (hOF:OF=ofF) (hOV:OV=ovD OF):
  evF (Zma OF OV H X n C) 20 33 [.agg (X.c (.vrows 70 n (Z4 X.L) n))] ⟨0,[]⟩ (Y4 (fun v=>v=.bool b)):=by
 refine @Eq.mpr _ (X3.Ok (X3.mk X.t.fund X.t.index X.t.cap X.t.dust X.t.fee X.t.delay X.t.k0 X.t.k1)/\
 Z0 (!W5 (X3.mk X.t.fund X.t.index X.t.cap X.t.dust X.t.fee X.t.delay X.t.k0 X.t.k1)) (AV.bool false=AV.bool b)
 (Z0 (X.side !=0)
 (Z0 (X.side !=1) (AV.bool false=AV.bool b)
 (Z0 (decide (X.res<0)) (AV.bool false=AV.bool b)
 (Z0 (decide (X.res>wrap i64 (Int.tdiv X.t.cap 10))) (AV.bool false=AV.bool b)
 (Z0 (decide (X.a0>=0))
 (Z0 (!decide (X.a0<=1125899906842624)) (AV.bool false=AV.bool b)
 (Z0 (decide (X.a1>=0))
 (Z0 (!decide (X.a1<=1125899906842624)) (AV.bool false=AV.bool b)
 (Z0 (wrap i64 (X.a0+X.a1) !=X.t.cap) (AV.bool false=AV.bool b)
 (Z0 (decide (X.i0<0)) (AV.bool false=AV.bool b)
 (Z0 (decide (X.i0>2147483648)) (AV.bool false=AV.bool b)
 (Z0 (decide (X.i1<0)) (AV.bool false=AV.bool b)
 (Z0 (decide (X.i1>2147483648)) (AV.bool false=AV.bool b)
 (Z0 (decide ((↑n:Int)>16)) (AV.bool false=AV.bool b)
 (X.t.fund=X.t.fund/\
 Z0 (decide (X.t.index=X.t.index))
 (Z0 (decide (X.t.cap=X.t.cap))
 (Z0 (decide (X.t.dust=X.t.dust))
 (Z0 (decide (X.t.fee=X.t.fee))
 (Z0 (decide (X.t.delay=X.t.delay))
 (X.t.k0=X.t.k0/\
 X.t.k1=X.t.k1/\
 Z0 (decide (X.side=X.side))
 (Z0 (decide (X.res=X.res))
 ([X.a0,X.a1]=[X.a0,X.a1]/\
 [X.i0,X.i1]=[X.i0,X.i1]/\
 Z0 (decide (n=n))
 (Z4 X.L=Z4 X.L/\
 Z0 (decide (n=n))
 (C/\
 ∀(i:Nat),
 i<=n->
 (∀(j:Nat),j<i->(fun (i:Nat)=>Yy H X i=true/\i<n) j)->
 (i=n->
 ∃(X_1:Z7),
 LV [AV.arr u8 32 X.t.fund,AV.int i64 X.t.index,AV.int i64 X.t.cap,AV.int i64 X.t.dust,AV.int i64 X.t.fee,AV.int i64 X.t.delay,AV.arr u8 32 X.t.k0,AV.arr u8 32 X.t.k1,AV.int i64 X.side,AV.int i64 X.res,AV.arr i64 2 [X.a0,X.a1],AV.arr i64 2 [X.i0,X.i1],AV.vrows 70 n (Z4 X.L) n] X_1/\
 OdB X_1/\
 ∃(X_2:Z7),
 LV [AV.arr u8 32 X.t.fund,AV.int i64 X.t.index,AV.int i64 X.t.cap,AV.int i64 X.t.dust,AV.int i64 X.t.fee,AV.int i64 X.t.delay,AV.arr u8 32 X.t.k0,AV.arr u8 32 X.t.k1,AV.int i64 X.side,AV.int i64 X.res,AV.arr i64 2 [X.a0,X.a1],AV.arr i64 2 [X.i0,X.i1],AV.vrows 70 n (Z4 X.L) n] X_2/\
 OdB X_2/\
 Z0 (decide ((↑(OF X_1 1).snd:Int)<=8))
 (Z0 (decide ((↑(OF X_2 0).snd:Int)<=8))
 (∃(X_3:Z7),
 LV [AV.arr u8 32 X.t.fund,AV.int i64 X.t.index,AV.int i64 X.t.cap,AV.int i64 X.t.dust,AV.int i64 X.t.fee,AV.int i64 X.t.delay,AV.arr u8 32 X.t.k0,AV.arr u8 32 X.t.k1,AV.int i64 X.side,AV.int i64 X.res,AV.arr i64 2 [X.a0,X.a1],AV.arr i64 2 [X.i0,X.i1],AV.vrows 70 n (Z4 X.L) n] X_3/\
 OdB X_3/\((0:Int)=0\/(0:Int)=1)/\Z0 (decide (OV X_3 0>=0)) (Z0 ((↑(OF X_1 1).snd:Int)==0) (AV.bool true=AV.bool b) (∃(X_4:Z7),LV [AV.arr u8 32 X.t.fund,AV.int i64 X.t.index,AV.int i64 X.t.cap,AV.int i64 X.t.dust,AV.int i64 X.t.fee,AV.int i64 X.t.delay,AV.arr u8 32 X.t.k0,AV.arr u8 32 X.t.k1,AV.int i64 X.side,AV.int i64 X.res,AV.arr i64 2 [X.a0,X.a1],AV.arr i64 2 [X.i0,X.i1],AV.vrows 70 n (Z4 X.L) n] X_4/\OdB X_4/\((1:Int)=0\/(1:Int)=1)/\AV.bool (decide (OV X_4 1>=0))=AV.bool b)) (AV.bool false=AV.bool b))
 (AV.bool false=AV.bool b))
 (AV.bool false=AV.bool b))/\
 (i<n/\Yy H X i=false->AV.bool false=AV.bool b)/\(False->False))
 False)
 False)
 False)
 False)
 False)
 False)
 False)
 False)
 False))))))))
 (AV.bool false=AV.bool b)))
 (AV.bool false=AV.bool b)))))
 (Z0 (decide (X.res<0)) (AV.bool false=AV.bool b)
 (Z0 (decide (X.res>wrap i64 (Int.tdiv X.t.cap 10))) (AV.bool false=AV.bool b)
 (Z0 (decide (X.a0>=0))
 (Z0 (!decide (X.a0<=1125899906842624)) (AV.bool false=AV.bool b)
 (Z0 (decide (X.a1>=0))
 (Z0 (!decide (X.a1<=1125899906842624)) (AV.bool false=AV.bool b)
 (Z0 (wrap i64 (X.a0+X.a1) !=X.t.cap) (AV.bool false=AV.bool b)
 (Z0 (decide (X.i0<0)) (AV.bool false=AV.bool b)
 (Z0 (decide (X.i0>2147483648)) (AV.bool false=AV.bool b)
 (Z0 (decide (X.i1<0)) (AV.bool false=AV.bool b)
 (Z0 (decide (X.i1>2147483648)) (AV.bool false=AV.bool b)
 (Z0 (decide ((↑n:Int)>16)) (AV.bool false=AV.bool b)
 (X.t.fund=X.t.fund/\
 Z0 (decide (X.t.index=X.t.index))
 (Z0 (decide (X.t.cap=X.t.cap))
 (Z0 (decide (X.t.dust=X.t.dust))
 (Z0 (decide (X.t.fee=X.t.fee))
 (Z0 (decide (X.t.delay=X.t.delay))
 (X.t.k0=X.t.k0/\
 X.t.k1=X.t.k1/\
 Z0 (decide (X.side=X.side))
 (Z0 (decide (X.res=X.res))
 ([X.a0,X.a1]=[X.a0,X.a1]/\
 [X.i0,X.i1]=[X.i0,X.i1]/\
 Z0 (decide (n=n))
 (Z4 X.L=Z4 X.L/\
 Z0 (decide (n=n))
 (C/\
 ∀(i:Nat),
 i<=n->
 (∀(j:Nat),j<i->(fun (i:Nat)=>Yy H X i=true/\i<n) j)->
 (i=n->
 ∃(X_1:Z7),
 LV [AV.arr u8 32 X.t.fund,AV.int i64 X.t.index,AV.int i64 X.t.cap,AV.int i64 X.t.dust,AV.int i64 X.t.fee,AV.int i64 X.t.delay,AV.arr u8 32 X.t.k0,AV.arr u8 32 X.t.k1,AV.int i64 X.side,AV.int i64 X.res,AV.arr i64 2 [X.a0,X.a1],AV.arr i64 2 [X.i0,X.i1],AV.vrows 70 n (Z4 X.L) n] X_1/\
 OdB X_1/\
 ∃(X_2:Z7),
 LV [AV.arr u8 32 X.t.fund,AV.int i64 X.t.index,AV.int i64 X.t.cap,AV.int i64 X.t.dust,AV.int i64 X.t.fee,AV.int i64 X.t.delay,AV.arr u8 32 X.t.k0,AV.arr u8 32 X.t.k1,AV.int i64 X.side,AV.int i64 X.res,AV.arr i64 2 [X.a0,X.a1],AV.arr i64 2 [X.i0,X.i1],AV.vrows 70 n (Z4 X.L) n] X_2/\
 OdB X_2/\
 Z0 (decide ((↑(OF X_1 1).snd:Int)<=8))
 (Z0 (decide ((↑(OF X_2 0).snd:Int)<=8))
 (∃(X_3:Z7),
 LV [AV.arr u8 32 X.t.fund,AV.int i64 X.t.index,AV.int i64 X.t.cap,AV.int i64 X.t.dust,AV.int i64 X.t.fee,AV.int i64 X.t.delay,AV.arr u8 32 X.t.k0,AV.arr u8 32 X.t.k1,AV.int i64 X.side,AV.int i64 X.res,AV.arr i64 2 [X.a0,X.a1],AV.arr i64 2 [X.i0,X.i1],AV.vrows 70 n (Z4 X.L) n] X_3/\
 OdB X_3/\((0:Int)=0\/(0:Int)=1)/\Z0 (decide (OV X_3 0>=0)) (Z0 ((↑(OF X_1 1).snd:Int)==0) (AV.bool true=AV.bool b) (∃(X_4:Z7),LV [AV.arr u8 32 X.t.fund,AV.int i64 X.t.index,AV.int i64 X.t.cap,AV.int i64 X.t.dust,AV.int i64 X.t.fee,AV.int i64 X.t.delay,AV.arr u8 32 X.t.k0,AV.arr u8 32 X.t.k1,AV.int i64 X.side,AV.int i64 X.res,AV.arr i64 2 [X.a0,X.a1],AV.arr i64 2 [X.i0,X.i1],AV.vrows 70 n (Z4 X.L) n] X_4/\OdB X_4/\((1:Int)=0\/(1:Int)=1)/\AV.bool (decide (OV X_4 1>=0))=AV.bool b)) (AV.bool false=AV.bool b))
 (AV.bool false=AV.bool b))
 (AV.bool false=AV.bool b))/\
 (i<n/\Yy H X i=false->AV.bool false=AV.bool b)/\(False->False))
 False)
 False)
 False)
 False)
 False)
 False)
 False)
 False)
 False))))))))
 (AV.bool false=AV.bool b)))
 (AV.bool false=AV.bool b)))))) (by kernel_rfl) ?_
 try simp only [Zi]
 try simp only [Zj]
 try simp only [Zf]
 try simp only [Zk]
 try simp only [Zl]
 try simp only [Zg]
 try simp only [Int.toNat_natCast,Nat.zero_add,true_and,and_true,Nat.le_refl]
 have e0:X3.mk X.t.fund X.t.index X.t.cap X.t.dust X.t.fee X.t.delay X.t.k0 X.t.k1=X.t:=rfl
 have no:¬(YA H X=true)->AV.bool false=AV.bool b:=fun h=>by rw [hb,Bool.eq_false_iff.2 h]
 have yes:YA H X=true->AV.bool true=AV.bool b:=fun h=>by rw [hb,h]
 have hr:=U3 (H:=H) (X:=X)
 have hh:=Q7 (X:=X)
 have key:YA H X=true->_:=fun h=>(hh.1 (hr.1 h).1)
 rw [e0]
 subst hL
 refine ⟨ht,fun k=>no fun h=> ?_,fun k1=> ?_⟩
 ·rw [(key h).1] at k;simp at k
 have k1:W5 X.t=true:=by simpa using k1
 have tb:=Y1 k1
 have td:i64.wrap (Int.tdiv X.t.cap 10)=X.t.cap/10:=by rw [Int.tdiv_eq_ediv_of_nonneg (by omega),w64 (by omega)]
 rw [td]
 refine (fun (main:(0<=X.side/\X.side<=1)->_)=>And.intro (fun h0=>And.intro (fun h1=>no fun h=> ?_) (fun h1=>main ?_)) (fun h0=>main ?_)) ?_
 ·have:=(key h).2.1
  have h0:¬X.side=0:=by simpa using h0
  have h1:¬X.side=1:=by simpa using h1
  omega
 ·have h1:X.side=1:=by simpa using h1
  omega
 ·have h0:X.side=0:=by simpa using h0
  omega
 intro hs
 refine ⟨fun k=>no fun h=> ?_,fun k2=>⟨fun k=>no fun h=> ?_,fun k3=>⟨fun k4=>⟨fun k=>no fun h=> ?_,fun k5=>⟨fun k6=>⟨fun k=>no fun h=> ?_,fun k7=> ?_⟩,fun k=>no fun h=> ?_⟩⟩,fun k=>no fun h=> ?_⟩⟩⟩
 ·have:=(key h).2.2.1;omega
 ·have:=(key h).2.2.1;omega
 ·have:=(key h).2.2.2.1
  have:¬X.a0<=1125899906842624:=by simpa using k
  omega
 ·have:=(key h).2.2.2
  have:¬X.a1<=1125899906842624:=by simpa using k
  omega
 rotate_left
 ·have:=(key h).2.2.2;omega
 ·have:=(key h).2.2.2;omega
 have k5:X.a0<=1125899906842624:=by simpa using k5
 have k7:X.a1<=1125899906842624:=by simpa using k7
 have hw:i64.wrap (X.a0+X.a1)=X.a0+X.a1:=w64 (by omega)
 rw [hw]
 refine ⟨fun k=>no fun h=> ?_,fun k8=>⟨fun k=>no fun h=> ?_,fun k9=>⟨fun k=>no fun h=> ?_,fun k10=>⟨fun k=>no fun h=> ?_,fun k11=>⟨fun k=>no fun h=> ?_,fun k12=>⟨fun k=>no fun h=> ?_,fun k13=> ?_⟩⟩⟩⟩⟩⟩
 ·have:=(key h).2.2.2
  have:¬X.a0+X.a1=X.t.cap:=by simpa using k
  omega
 ·have:=(key h).2.2.2.2.2;omega
 ·have:=(key h).2.2.2.2.2;omega
 ·have:=(key h).2.2.2.2.2;omega
 ·have:=(key h).2.2.2.2.2;omega
 ·have q:=(key h).2.2.2.2.2.2.2
  have:=Z5J (side:=X.side) (by omega) X.L
  omega
 have k8:X.a0+X.a1=X.t.cap:=by simpa using k8
 have hC:=hC (by omega)
 repeat' first
  | exact hC
  | (intro i hi hg;refine ⟨fun he=> ?_,fun hx=>no fun h=> ?_,fun h=>h⟩)
  | apply And.intro
  | rfl
 rotate_left
 ·have:=(hr.1 h).2.1 i hx.1
  rw [hx.2] at this;cases this
 subst he
 have hO:Z8S X X.L.length:=⟨rfl,by omega,⟨hs.1,hs.2⟩,fun h hh=>by
  obtain ⟨i,hi,rfl⟩:=List.getElem_of_mem hh
  have:=(hg i hi).1
  unfold Yy at this
  simp only [Bool.and_eq_true] at this
  rw [List.getD_eq_getElem?_getD,List.getElem?_eq_getElem hi] at this
  have:=(Z21 (YJ this.1).1).2.1
  exact ⟨Int.le_trans (by decide) this.1,this.2⟩⟩
 have hB:OdB X:=⟨hO⟩
 have d0:=Zmb hO 0
 have d1:=Zmb hO 1
 have o0:OV X 0=X.a0-(ofF X 0).1-X.res-X.t.fee:=by
  have:=d0.b
  rw [hOV,hOF]
  show i64.wrap (i64.wrap (i64.wrap (X.a0-(ofF X 0).1)-X.res)-X.t.fee)=_
  rw [w64 (x:=X.a0-(ofF X 0).1) (by omega),w64 (x:=X.a0-(ofF X 0).1-X.res) (by omega),w64 (by omega)]
 have o1:OV X 1=X.a1-(ofF X 1).1-X.res:=by
  have:=d1.b
  rw [hOV,hOF]
  show i64.wrap (i64.wrap (X.a1-(ofF X 1).1)-X.res)=_
  rw [w64 (x:=X.a1-(ofF X 1).1) (by omega),w64 (by omega)]
 rw [<-hOF] at d0 d1 o0 o1
 have v0:Y5 X 0=X.a0-ZE X.side 0 X.L-X.res-X.t.fee:=rfl
 have v1:Y5 X 1=X.a1-ZE X.side 1 X.L-X.res:=by
  rw [Xr,if_neg (by decide),Int.sub_zero];rfl
 have z1:(ZR X.side 1 X.L).length=0->ZE X.side 1 X.L=0:=fun h=>QX (List.eq_nil_of_length_eq_zero h)
 have hR:YA H X=true↔((ZR X.side 0 X.L).length<=8/\(ZR X.side 1 X.L).length<=8/\0<=Y5 X 0/\((ZR X.side 1 X.L).length=0\/0<=Y5 X 1)):=by
  rw [hr,hh]
  exact ⟨fun h=>⟨h.1.2.2.2.2.2.2.2.1,h.1.2.2.2.2.2.2.2.2,h.2.2.1,h.2.2.2⟩,fun h=>⟨⟨k1,hs,by omega,by omega,by omega,by omega,by omega,h.1,h.2.1⟩,fun i hi=>(hg i hi).1,h.2.2.1,h.2.2.2⟩⟩
 obtain ⟨p1,p2,p3⟩:=d0
 obtain ⟨q1,q2,q3⟩:=d1
 refine ⟨X,.a rfl,hB,X,.a rfl,hB,fun m1=>⟨fun m0=>⟨X,.a rfl,hB,.inl trivial,fun w0=>⟨fun w1=>yes (hR.2 ?_),fun w1=>⟨X,.a rfl,hB,.inr trivial, ?_⟩⟩,fun w0=>no fun h=> ?_⟩,fun m0=>no fun h=> ?_⟩,fun m1=>no fun h=> ?_⟩
 all_goals generalize OF X 0=D0 at*
 all_goals generalize OF X 1=D1 at*
 all_goals generalize ZE X.side 0 X.L=S0 at*
 all_goals generalize ZE X.side 1 X.L=S1 at*
 all_goals generalize (ZR X.side 0 X.L).length=l0 at*
 all_goals generalize (ZR X.side 1 X.L).length=l1 at*
 ·have w1:D1.2=0:=by simpa using w1
  omega
 ·have w1:¬D1.2=0:=by simpa using w1
  by_cases w2:OV X 1>=0
  ·rw [decide_eq_true w2]
   exact yes (hR.2 (by omega))
  ·rw [decide_eq_false w2]
   refine no fun h=> ?_
   have:=hR.1 h
   omega
 ·have:=hR.1 h
  omega
 ·have:=hR.1 h
  omega
 ·have:=hR.1 h
  omega
def Zim (H:List Int->List Int):ZK:=fun args h K=>ZP none h true 20 args fun a=>match a with
 | [.agg cs]=>∃X,LV cs X/\X.t.Ok/\(∀h∈X.L,h.Ok)/\K (.bool (YA H X))
 | _=>False
theorem ZeT (args:List AV) (h:Z9) (K:AV->Prop) (hl:Zim Zr args h K):Zn PP 33 args h fun o h'=>∃v,o=.ret v/\h'=h/\K v:=by
 refine ZA.psumm (d:=20) (Zs _ _ _ _ _ hl fun a ha=> ?_)
 split at ha
 ·obtain ⟨X,hX,ht,hok,hK⟩:=ha
  exact ⟨_,(ZA.evV (Zhn X X.L.length) (Zmc ofF (ovD ofF) X X.L.length Zr _ _ (fun h=>⟨by omega,rfl,hok⟩) rfl ht rfl rfl rfl)).conv fun E r hr=>hr.head (fun _ hc=>XB hX hc) fun _ hc=>hc,fun _=>rfl,hK⟩
 ·exact ha.elim
end Go.Tk
end
section
namespace Go.Tk
open IntKind (i64 u8 u32 u64 wrap)
def hdG (F:List Int->Int×Int) (xs:List Int):Z7×Int×RS:=
 let a:=W6 xs ⟨0,false⟩
 let b:=YS F xs a.2 23
 let c:=YS F xs b.2 1125899906842624
 let d:=YS F xs c.2 500
 let e:=YS F xs d.2 400
 let f:=YS F xs e.2 1000
 let g:=W6 xs f.2
 let h:=W6 xs g.2
 let i:=YS F xs h.2 1
 let j:=YS F xs i.2 1125899906842624
 let k:=YS F xs j.2 1125899906842624
 let l:=YS F xs k.2 1125899906842624
 let m:=YS F xs l.2 2147483648
 let n:=YS F xs m.2 2147483648
 let q:=YS F xs n.2 16
 (⟨⟨a.1,b.1,c.1,d.1,e.1,f.1,g.1,h.1⟩,i.1,j.1,k.1,l.1,m.1,n.1,[]⟩,q.1,q.2)
def WZ (F:List Int->Int×Int) (xs:List Int):Option Z7:=match (hdG F xs).2.2.bad with
 | true=>none
 | false=>(rdL F xs (hdG F xs).2.2.o (hdG F xs).2.1.toNat).bind fun l=>if l.2=xs.length then some { (hdG F xs).1 with L:=l.1} else none
theorem Zak {xs:List Int} (hb:Bytes xs) (s:RS):(W6 xs s).1.length=32/\Bytes (W6 xs s).1:=by
 unfold W6
 split
 ·exact ⟨rfl,Xw⟩
 ·split
  ·rename_i hr;exact Z1u hb hr
  ·exact ⟨rfl,Xw⟩
theorem Zho {F:List Int->Int×Int} {xs:List Int} {s t:RS} {m v:Int} (hm:0<=m) (h:YS F xs s m=(v,t)):v<=m:=by
 unfold YS at h
 split at h
 ·cases h;exact hm
 ·split at h
  ·rename_i hr
   cases h
   unfold rdN at hr
   split at hr
   ·rename_i hc;cases hr;exact hc.2
   ·cases hr
  ·cases h;exact hm
noncomputable def Zmd (F:List Int->Int×Int) (H:List Int->List Int):Zh:=((((G0.withP 121 (Za5 F)).withP 120 Z5P).withP 122 (Zg0 F)).withP 33 (Zim H)).withL 59 0 (lo7 F tkS tkE ZgT)
def Z7o (ok:Bool) (X:Z7) (n:Nat):KO:=fun o h=>match o with
 | .ret (.tuple [.agg _,.int .i64 e])=>match decide (e=0) with
  | true=>Z0 ok (ZX 0 (.ret (.tuple [.agg (X.c (slH 0 n)),.int .i64 0])) 1 [(0,.rows 70 n (Z4 X.L))] o h) False
  | false=>Z0 ok False (ZX 0 (.ret (.tuple [.agg (Y2.c .nilslice),.int .i64 204])) 0 [] o h)
 | _=>False
theorem Zin (F:List Int->Int×Int) (H:List Int->List Int) (xs:List Int) (N:Nat) (X:Z7) (n:Nat) (ok:Bool) (hN:xs.length=N) (hb:Bytes xs) (hn:X.L.length=n) (hok:ok=true->WZ F xs=some X/\YA H X=true) (hno:ok=false->∀Y,WZ F xs=some Y->YA H Y=false):
  evF (Zmd F H) 20 18 [.vints .u8 xs N] ⟨0,[]⟩ (Z7o ok X n):=by
 refine @Eq.mpr _ (let q1:=Y2.t;let q2:=Za=q1.fund;let q3:=Za=q1.k0;let q4:=Za=q1.k1;let q5:=[(0:Int),0];let q6:=q5=[Y2.a0,Y2.a1];let q7:=q5=[Y2.i0,Y2.i1];let q8:=Z0 ok False (q2/\q3/\q4/\q6/\q7/\True);let q9:=X.t;
 ∃(xs_1:List Int),
 let q19:=List.length xs_1;
 ∃(s:RS),
 let q21:=s.o;
 xs=List.drop q21 xs_1/\
 (N=q19-q21/\false=s.bad/\q21<=q19)/\
 ∀(v:List Int) (t:RS),
 let q23:=t.o;
 W6 xs_1 s=(v,t)->
 q23<=q19->
 ∃(xs:List Int),
 let q25:=List.length xs;
 ∃(s:RS),
 let q27:=s.o;
 List.drop q23 xs_1=List.drop q27 xs/\
 (q19-q23=q25-q27/\t.bad=s.bad/\q27<=q25/\Bytes xs/\(0:Int)<=23)/\
 ∀(v_1:Int) (t:RS),
 let q29:=t.o;
 YS F xs s 23=(v_1,t)->
 q29<=q25->
 ∃(xs_2:List Int),
 let q31:=List.length xs_2;
 ∃(s:RS),
 let q33:=s.o;
 List.drop q29 xs=List.drop q33 xs_2/\
 (q25-q29=q31-q33/\t.bad=s.bad/\q33<=q31/\Bytes xs_2/\(0:Int)<=1125899906842624)/\
 ∀(v_2:Int) (t:RS),
 let q35:=t.o;
 YS F xs_2 s 1125899906842624=(v_2,t)->
 q35<=q31->
 ∃(xs:List Int),
 let q37:=List.length xs;
 ∃(s:RS),
 let q39:=s.o;
 List.drop q35 xs_2=List.drop q39 xs/\
 (q31-q35=q37-q39/\t.bad=s.bad/\q39<=q37/\Bytes xs/\(0:Int)<=500)/\
 ∀(v_3:Int) (t:RS),
 let q41:=t.o;
 YS F xs s 500=(v_3,t)->
 q41<=q37->
 ∃(xs_3:List Int),
 let q43:=List.length xs_3;
 ∃(s:RS),
 let q45:=s.o;
 List.drop q41 xs=List.drop q45 xs_3/\
 (q37-q41=q43-q45/\t.bad=s.bad/\q45<=q43/\Bytes xs_3/\(0:Int)<=400)/\
 ∀(v_4:Int) (t:RS),
 let q47:=t.o;
 YS F xs_3 s 400=(v_4,t)->
 q47<=q43->
 ∃(xs:List Int),
 let q49:=List.length xs;
 ∃(s:RS),
 let q51:=s.o;
 List.drop q47 xs_3=List.drop q51 xs/\
 (q43-q47=q49-q51/\t.bad=s.bad/\q51<=q49/\Bytes xs/\(0:Int)<=1000)/\
 ∀(v_5:Int) (t:RS),
 let q53:=t.o;
 YS F xs s 1000=(v_5,t)->
 q53<=q49->
 ∃(xs_4:List Int),
 let q55:=List.length xs_4;
 ∃(s:RS),
 let q57:=s.o;
 List.drop q53 xs=List.drop q57 xs_4/\
 (q49-q53=q55-q57/\t.bad=s.bad/\q57<=q55)/\
 ∀(v_6:List Int) (t:RS),
 let q59:=t.o;
 W6 xs_4 s=(v_6,t)->
 q59<=q55->
 ∃(xs:List Int),
 let q61:=List.length xs;
 ∃(s:RS),
 let q63:=s.o;
 List.drop q59 xs_4=List.drop q63 xs/\
 (q55-q59=q61-q63/\t.bad=s.bad/\q63<=q61)/\
 ∀(v_7:List Int) (t:RS),
 let q65:=t.o;
 W6 xs s=(v_7,t)->
 q65<=q61->
 ∃(xs_5:List Int),
 let q67:=List.length xs_5;
 ∃(s:RS),
 let q69:=s.o;
 List.drop q65 xs=List.drop q69 xs_5/\
 (q61-q65=q67-q69/\t.bad=s.bad/\q69<=q67/\Bytes xs_5/\(0:Int)<=1)/\
 ∀(v_8:Int) (t:RS),
 let q71:=t.o;
 YS F xs_5 s 1=(v_8,t)->
 q71<=q67->
 ∃(xs:List Int),
 let q73:=List.length xs;
 ∃(s:RS),
 let q75:=s.o;
 List.drop q71 xs_5=List.drop q75 xs/\
 (q67-q71=q73-q75/\t.bad=s.bad/\q75<=q73/\Bytes xs/\(0:Int)<=1125899906842624)/\
 ∀(v_9:Int) (t:RS),
 let q77:=t.o;
 YS F xs s 1125899906842624=(v_9,t)->
 q77<=q73->
 ∃(xs_6:List Int),
 let q79:=List.length xs_6;
 ∃(s:RS),
 let q81:=s.o;
 List.drop q77 xs=List.drop q81 xs_6/\
 (q73-q77=q79-q81/\t.bad=s.bad/\q81<=q79/\Bytes xs_6/\(0:Int)<=1125899906842624)/\
 ∀(v_10:Int) (t:RS),
 let q83:=t.o;
 YS F xs_6 s 1125899906842624=(v_10,t)->
 q83<=q79->
 ∃(xs:List Int),
 let q85:=List.length xs;
 ∃(s:RS),
 let q87:=s.o;
 List.drop q83 xs_6=List.drop q87 xs/\
 (q79-q83=q85-q87/\t.bad=s.bad/\q87<=q85/\Bytes xs/\(0:Int)<=1125899906842624)/\
 ∀(v_11:Int) (t:RS),
 let q89:=t.o;
 YS F xs s 1125899906842624=(v_11,t)->
 q89<=q85->
 ∃(xs_7:List Int),
 let q91:=List.length xs_7;
 ∃(s:RS),
 let q93:=s.o;
 List.drop q89 xs=List.drop q93 xs_7/\
 (q85-q89=q91-q93/\t.bad=s.bad/\q93<=q91/\Bytes xs_7/\(0:Int)<=2147483648)/\
 ∀(v_12:Int) (t:RS),
 let q95:=t.o;
 YS F xs_7 s 2147483648=(v_12,t)->
 q95<=q91->
 ∃(xs:List Int),
 let q97:=List.length xs;
 ∃(s:RS),
 let q99:=s.o;
 List.drop q95 xs_7=List.drop q99 xs/\
 (q91-q95=q97-q99/\t.bad=s.bad/\q99<=q97/\Bytes xs/\(0:Int)<=2147483648)/\
 ∀(v_13:Int) (t:RS),
 let q101:=t.o;
 YS F xs s 2147483648=(v_13,t)->
 q101<=q97->
 ∃(xs_8:List Int),
 let q103:=List.length xs_8;
 ∃(s:RS),
 let q105:=s.o;
 List.drop q101 xs=List.drop q105 xs_8/\
 (q97-q101=q103-q105/\t.bad=s.bad/\q105<=q103/\Bytes xs_8/\(0:Int)<=16)/\
 ∀(v_14:Int) (t:RS),
 let q107:=t.o;
 YS F xs_8 s 16=(v_14,t)->
 q107<=q103->
 ∃(X_1:Z7),
 let q109:=X_1.t;let q110:=q109.fund;let q111:=q109.index;let q112:=q109.cap;let q113:=q109.dust;let q114:=q109.fee;let q115:=q109.delay;let q116:=q109.k0;let q117:=q109.k1;let q118:=X_1.side;let q119:=X_1.res;let q120:=[X_1.a0,X_1.a1];let q121:=[X_1.i0,X_1.i1];let q122:=q110=q110;let q123:=decide (q111=q111);let q124:=decide (q112=q112);let q125:=decide (q113=q113);let q126:=decide (q114=q114);let q127:=decide (q115=q115);let q128:=q116=q116;let q129:=q117=q117;let q130:=decide (q118=q118);let q131:=decide (q119=q119);let q132:=q120=q120;let q133:=q121=q121;
 ∃(xs:List Int),
 let q159:=List.length xs;
 ∃(cnt:Int),
 ∃(t_1:RS),
 let q161:=t_1.o;let q162:=t_1.bad;
 Z0 (decide (v_14=cnt))
 (q2/\
 q3/\
 q4/\
 q6/\
 q7/\
 q2/\
 q3/\
 q4/\
 q6/\
 q7/\
 List.drop q107 xs_8=List.drop q161 xs/\
 Z0 (decide (q103-q107=q159-q161))
 (Z0 (decide (t.bad=q162))
 (v=q110/\
 Z0 (decide (v_1=q111))
 (Z0 (decide (v_2=q112))
 (Z0 (decide (v_3=q113))
 (Z0 (decide (v_4=q114))
 (Z0 (decide (v_5=q115))
 (v_6=q116/\
 v_7=q117/\
 Z0 (decide (v_8=q118))
 (Z0 (decide (v_9=q119))
 ([v_10,v_11]=q120/\
 [v_12,v_13]=q121/\
 q161<=q159/\
 Bytes xs/\
 cnt<=16/\
 (∀(n_1:Nat),
 let q165:=decide (n_1=n_1);let q166:=decide (n_1=n);
 ∀(L:List Z6) (p:Nat),
 n_1=Int.toNat cnt->
 q162=false->
 rdL F xs q161 n_1=some (L,p)->
 (List.length L=n_1/\p<=q159/\n_1<=16/\∀(x:Z6),x∈L->Z6.Ok x)->
 q122/\
 Z0 q123
 (Z0 q124
 (Z0 q125
 (Z0 q126
 (Z0 q127
 (q128/\
 q129/\
 Z0 q130
 (Z0 q131
 (q132/\
 q133/\
 Z0 q165
 (Z0 q165
 (Z0 (decide ((↑(q159-p):Int)>0)) q8
 (Z0 (decide (0+n_1<=n_1))
 ((∀(i:Nat),i<n_1->true=true)/\
 ∃(X_2:Z7),LV [AV.arr u8 32 q110,AV.int i64 q111,AV.int i64 q112,AV.int i64 q113,AV.int i64 q114,AV.int i64 q115,AV.arr u8 32 q116,AV.arr u8 32 q117,AV.int i64 q118,AV.int i64 q119,AV.arr i64 2 q120,AV.arr i64 2 q121,AV.vrows 70 n_1 (ZT 0 (Z4 L)) n_1] X_2/\X3.Ok X_2.t/\(∀(h:Z6),List.Mem h X_2.L->Z6.Ok h)/\Z0 (!YA H X_2) q8 (Z0 ok (q110=q9.fund/\Z0 (decide (q111=q9.index)) (Z0 (decide (q112=q9.cap)) (Z0 (decide (q113=q9.dust)) (Z0 (decide (q114=q9.fee)) (Z0 (decide (q115=q9.delay)) (q116=q9.k0/\q117=q9.k1/\Z0 (decide (q118=X.side)) (Z0 (decide (q119=X.res)) (q120=[X.a0,X.a1]/\q121=[X.i0,X.i1]/\Z0 q166 (Z0 (decide (n<=n_1)) (Z0 q166 (Zc 0 [(0,6)] n (Z4 X.L) (Z4 L)/\True) False) False) False) False) False) False) False) False) False) False) False))
 False))
 False)
 False)
 False)
 False)
 False)
 False)
 False)
 False)
 False)/\
 (q162=true\/rdL F xs q161 (Int.toNat cnt)=none->q122/\Z0 q123 (Z0 q124 (Z0 q125 (Z0 q126 (Z0 q127 (q128/\q129/\Z0 q130 (Z0 q131 (q132/\q133/\q8) False) False) False) False) False) False) False))
 False)
 False)
 False)
 False)
 False)
 False)
 False)
 False)
 False)
 False) (by kernel_rfl) ?_
 conv=>zeta
 try simp only [Zi]
 try simp only [Zj]
 try simp only [Zf]
 try simp only [Zk]
 try simp only [Zl]
 try simp only [Zg]
 try simp only [Int.toNat_natCast,Nat.zero_add,true_and,and_true,Nat.le_refl]
 subst hN
 refine ⟨xs,⟨0,false⟩,rfl,⟨rfl,rfl,Nat.zero_le _⟩,fun v0 t0 e0 b0=> ?_⟩
 refine ⟨xs,t0,rfl,⟨rfl,rfl,b0,hb,by decide⟩,fun v1 t1 e1 b1=> ?_⟩
 refine ⟨xs,t1,rfl,⟨rfl,rfl,b1,hb,by decide⟩,fun v2 t2 e2 b2=> ?_⟩
 refine ⟨xs,t2,rfl,⟨rfl,rfl,b2,hb,by decide⟩,fun v3 t3 e3 b3=> ?_⟩
 refine ⟨xs,t3,rfl,⟨rfl,rfl,b3,hb,by decide⟩,fun v4 t4 e4 b4=> ?_⟩
 refine ⟨xs,t4,rfl,⟨rfl,rfl,b4,hb,by decide⟩,fun v5 t5 e5 b5=> ?_⟩
 refine ⟨xs,t5,rfl,⟨rfl,rfl,b5⟩,fun v6 t6 e6 b6=> ?_⟩
 refine ⟨xs,t6,rfl,⟨rfl,rfl,b6⟩,fun v7 t7 e7 b7=> ?_⟩
 refine ⟨xs,t7,rfl,⟨rfl,rfl,b7,hb,by decide⟩,fun v8 t8 e8 b8=> ?_⟩
 refine ⟨xs,t8,rfl,⟨rfl,rfl,b8,hb,by decide⟩,fun v9 t9 e9 b9=> ?_⟩
 refine ⟨xs,t9,rfl,⟨rfl,rfl,b9,hb,by decide⟩,fun v10 t10 e10 b10=> ?_⟩
 refine ⟨xs,t10,rfl,⟨rfl,rfl,b10,hb,by decide⟩,fun v11 t11 e11 b11=> ?_⟩
 refine ⟨xs,t11,rfl,⟨rfl,rfl,b11,hb,by decide⟩,fun v12 t12 e12 b12=> ?_⟩
 refine ⟨xs,t12,rfl,⟨rfl,rfl,b12,hb,by decide⟩,fun v13 t13 e13 b13=> ?_⟩
 refine ⟨xs,t13,rfl,⟨rfl,rfl,b13,hb,by decide⟩,fun v14 t14 e14 b14=> ?_⟩
 have hd:hdG F xs=(⟨⟨v0,v1,v2,v3,v4,v5,v6,v7⟩,v8,v9,v10,v11,v12,v13,[]⟩,v14,t14):=by
  unfold hdG
  simp only [e0,e1,e2,e3,e4,e5,e6,e7,e8,e9,e10,e11,e12,e13,e14]
 have hc:v14<=16:=Zho (by decide) e14
 have q6:=Zak hb t5
 have q7:=Zak hb t6
 rw [e6] at q6
 rw [e7] at q7
 have bad:WZ F xs=none->ok=false:=fun h=>Bool.eq_false_iff.2 fun e=>by rw [(hok e).1] at h;cases h
 refine ⟨⟨⟨v0,v1,v2,v3,v4,v5,v6,v7⟩,v8,v9,v10,v11,v12,v13,[]⟩,xs,v14,t14, ?_⟩
 repeat' first
  | exact b14
  | exact hb
  | exact hc
  | rfl
  | trivial
  | (refine fun n1 L p en hbf hrd hL=> ?_)
  | (refine fun hgt=> ?_)
  | apply And.intro
 ·refine bad ?_
  subst en
  have:¬p=xs.length:=by omega
  unfold WZ
  rw [hd]
  simp [hbf,hrd,this]
 ·subst en
  have hp:p=xs.length:=by omega
  have hr:WZ F xs=some ⟨⟨v0,v1,v2,v3,v4,v5,v6,v7⟩,v8,v9,v10,v11,v12,v13,L⟩:=by
   unfold WZ
   rw [hd]
   simp [hbf,hrd,hp]
  refine ⟨⟨⟨v0,v1,v2,v3,v4,v5,v6,v7⟩,v8,v9,v10,v11,v12,v13,L⟩,.a (by rw [<-hL.1];rfl),⟨q6.1,q7.1,q6.2,q7.2⟩,hL.2.2.2,fun hR=> ?_,fun hR=> ?_⟩
  ·have e:ok=false:=Bool.eq_false_iff.2 fun e=>by
    obtain ⟨e1,e2⟩:=hok e
    rw [hr] at e1
    cases e1
    rw [e2] at hR
    cases hR
   repeat' first|exact e|rfl|apply And.intro
  ·have e:ok=true:=by
    cases h:ok with
    | true=>rfl
    | false=>
     rw [hno h _ hr] at hR
     cases hR
   obtain ⟨e1,e2⟩:=hok e
   rw [hr] at e1
   cases e1
   subst hn
   repeat' first
    | exact e
    | exact hL.1.symm
    | exact Nat.le_of_eq hL.1
    | apply And.intro
    | rfl
    | exact Zp fun _ _=>rfl
 ·refine bad ?_
  unfold WZ
  rw [hd]
  rcases hgt with h|h
  ·simp [h]
  ·cases hq:t14.bad<;>simp [hq,h]
end Go.Tk
end
section
namespace Go.Tk
open IntKind (i64 u8 u32 u64 wrap)
theorem YN {F:List Int->Int×Int} {xs:List Int} {s t:RS} {m v:Int} (h:YS F xs s m=(v,t)) (hb:t.bad=false):s.bad=false/\rdN F xs s.o m=some (v,t.o):=by
 unfold YS at h
 split at h
 ·rename_i hs;cases h;rw [hs] at hb;cases hb
 ·rename_i hs
  split at h
  ·rename_i hr;cases h;exact ⟨hs,hr⟩
  ·cases h;cases hb
theorem Z02 {xs:List Int} {s t:RS} {v:List Int} (h:W6 xs s=(v,t)) (hb:t.bad=false):s.bad=false/\rdH xs s.o=some (v,t.o):=by
 unfold W6 at h
 split at h
 ·rename_i hs;cases h;rw [hs] at hb;cases hb
 ·rename_i hs
  split at h
  ·rename_i hr;cases h;exact ⟨hs,hr⟩
  ·cases h;cases hb
theorem XI {F:List Int->Int×Int} {xs:List Int} {o p:Nat} {m v:Int} (h:rdN F xs o m=some (v,p)):YS F xs ⟨o,false⟩ m=(v,⟨p,false⟩):=by
 unfold YS;simp only [h]
theorem Z3L {xs v:List Int} {o p:Nat} (h:rdH xs o=some (v,p)):W6 xs ⟨o,false⟩=(v,⟨p,false⟩):=by
 unfold W6;simp only [h]
theorem V0 {F:List Int->Int×Int} {xs:List Int} {o p:Nat} {m m' v:Int} (h:rdN F xs o m=some (v,p)) (hm:v<=m'):rdN F xs o m'=some (v,p):=by
 unfold rdN at h⊢
 split at h
 ·rename_i hc
  simp only [Option.some.injEq,Prod.mk.injEq] at h
  rw [if_pos ⟨hc.1,by rw [h.1];exact hm⟩,h.1,h.2]
 ·cases h
theorem UM {F:List Int->Int×Int} {xs:List Int} {o p:Nat} {m v:Int} (h:rdN F xs o m=some (v,p)):v<=m:=by
 unfold rdN at h
 split at h
 ·rename_i hc
  simp only [Option.some.injEq,Prod.mk.injEq] at h
  rw [<-h.1];exact hc.2
 ·cases h
theorem Zio {F:List Int->Int×Int} {xs:List Int} {o p q r s t:Nat} {a b c d e ma mb mc md me:Int} (h1:rdN F xs o ma=some (a,p)) (h2:rdN F xs p mb=some (b,q)) (h3:rdN F xs q mc=some (c,r)) (h4:rdN F xs r md=some (d,s)) (h5:rdN F xs s me=some (e,t)) (ha:ma<=1125899906842624) (hb:mb<=1125899906842624) (hc:mc<=1125899906842624) (hd:md<=1125899906842624) (he:me<=1125899906842624):r5 F xs o=some (⟨a,b,c,d,e⟩,t):=by
 have k1:=V0 (m':=1125899906842624) h1 (Int.le_trans (UM h1) ha)
 have k2:=V0 (m':=1125899906842624) h2 (Int.le_trans (UM h2) hb)
 have k3:=V0 (m':=1125899906842624) h3 (Int.le_trans (UM h3) hc)
 have k4:=V0 (m':=1125899906842624) h4 (Int.le_trans (UM h4) hd)
 have k5:=V0 (m':=1125899906842624) h5 (Int.le_trans (UM h5) he)
 simp [r5,k1,k2,k3,k4,k5]
theorem ZeU {F:List Int->Int×Int} {xs:List Int} {o t:Nat} {n:N5} (h:r5 F xs o=some (n,t)):∃p q r s,rdN F xs o 1125899906842624=some (n.a,p)/\rdN F xs p 1125899906842624=some (n.b,q)/\rdN F xs q 1125899906842624=some (n.c,r)/\rdN F xs r 1125899906842624=some (n.d,s)/\rdN F xs s 1125899906842624=some (n.e,t):=by
 unfold r5 at h
 simp only [Option.bind_eq_some_iff] at h
 obtain ⟨a,h1,b,h2,c,h3,d,h4,e,h5,h6⟩:=h
 cases h6
 exact ⟨_,_,_,_,h1,h2,h3,h4,h5⟩
theorem ZeV {F:List Int->Int×Int} {xs:List Int} {X:Z7} (h:WZ F xs=some X):Xs F xs=some X:=by
 rcases e0:W6 xs ⟨0,false⟩ with ⟨v0,t0⟩
 rcases e1:YS F xs t0 23 with ⟨v1,t1⟩
 rcases e2:YS F xs t1 1125899906842624 with ⟨v2,t2⟩
 rcases e3:YS F xs t2 500 with ⟨v3,t3⟩
 rcases e4:YS F xs t3 400 with ⟨v4,t4⟩
 rcases e5:YS F xs t4 1000 with ⟨v5,t5⟩
 rcases e6:W6 xs t5 with ⟨v6,t6⟩
 rcases e7:W6 xs t6 with ⟨v7,t7⟩
 rcases e8:YS F xs t7 1 with ⟨v8,t8⟩
 rcases e9:YS F xs t8 1125899906842624 with ⟨v9,t9⟩
 rcases e10:YS F xs t9 1125899906842624 with ⟨v10,t10⟩
 rcases e11:YS F xs t10 1125899906842624 with ⟨v11,t11⟩
 rcases e12:YS F xs t11 2147483648 with ⟨v12,t12⟩
 rcases e13:YS F xs t12 2147483648 with ⟨v13,t13⟩
 rcases e14:YS F xs t13 16 with ⟨v14,t14⟩
 have hd:hdG F xs=(⟨⟨v0,v1,v2,v3,v4,v5,v6,v7⟩,v8,v9,v10,v11,v12,v13,[]⟩,v14,t14):=by
  unfold hdG
  simp only [e0,e1,e2,e3,e4,e5,e6,e7,e8,e9,e10,e11,e12,e13,e14]
 unfold WZ at h
 rw [hd] at h
 split at h
 ·cases h
 rename_i hb
 obtain ⟨c14,r14⟩:=YN e14 hb
 obtain ⟨c13,r13⟩:=YN e13 c14
 obtain ⟨c12,r12⟩:=YN e12 c13
 obtain ⟨c11,r11⟩:=YN e11 c12
 obtain ⟨c10,r10⟩:=YN e10 c11
 obtain ⟨c9,r9⟩:=YN e9 c10
 obtain ⟨c8,r8⟩:=YN e8 c9
 obtain ⟨c7,r7⟩:=Z02 e7 c8
 obtain ⟨c6,r6⟩:=Z02 e6 c7
 obtain ⟨c5,r5'⟩:=YN e5 c6
 obtain ⟨c4,r4⟩:=YN e4 c5
 obtain ⟨c3,r3⟩:=YN e3 c4
 obtain ⟨c2,r2⟩:=YN e2 c3
 obtain ⟨c1,r1⟩:=YN e1 c2
 obtain ⟨c0,r0⟩:=Z02 e0 c1
 have k1:=Zio r1 r2 r3 r4 r5' (by decide) (by decide) (by decide) (by decide) (by decide)
 have k2:=Zio r9 r10 r11 r12 r13 (by decide) (by decide) (by decide) (by decide) (by decide)
 have hh:Z01 F xs=some (⟨⟨v0,v1,v2,v3,v4,v5,v6,v7⟩,v8,v9,v10,v11,v12,v13,[]⟩,v14,t14.o):=by
  unfold Z01
  simp [r0,k1,r6,r7,r8,k2,r14]
 unfold Xs
 rw [hh]
 exact h
theorem ZjO {F:List Int->Int×Int} {H:List Int->List Int} {xs:List Int} {X:Z7} (h:Xs F xs=some X) (hR:YA H X=true):WZ F xs=some X:=by
 unfold Xs Z01 at h
 simp only [Option.bind_eq_some_iff] at h
 obtain ⟨hdr,⟨⟨v0,o0⟩,r0,⟨n5,o5⟩,k1,⟨v6,o6⟩,r6,⟨v7,o7⟩,r7,⟨v8,o8⟩,r8,⟨m5,o13⟩,k2,⟨v14,o14⟩,r14,he⟩,⟨L,p⟩,hL,hX⟩:=h
 obtain ⟨o1,o2,o3,o4,q1,q2,q3,q4,q5⟩:=ZeU k1
 obtain ⟨o9,o10,o11,o12,q9,q10,q11,q12,q13⟩:=ZeU k2
 cases he
 dsimp only at hL hX r0 r6 r7 r8 r14 q1 q9
 split at hX
 case isFalse=>cases hX
 rename_i hp
 cases hX
 have hk:=Q7.1 (U3.1 hR).1
 have tb:=Y1 hk.1
 dsimp only at tb hk
 have f0:=Z3L r0
 have f1:=XI (V0 (m':=23) q1 tb.1.2)
 have f2:=XI q2
 have f3:=XI (V0 (m':=500) q3 tb.2.2.1.2)
 have f4:=XI (V0 (m':=400) q4 tb.2.2.2.1.2)
 have f5:=XI (V0 (m':=1000) q5 tb.2.2.2.2.2)
 have f6:=Z3L r6
 have f7:=Z3L r7
 have f8:=XI r8
 have f9:=XI q9
 have f10:=XI q10
 have f11:=XI q11
 have f12:=XI (V0 (m':=2147483648) q12 hk.2.2.2.2.2.1.2)
 have f13:=XI (V0 (m':=2147483648) q13 hk.2.2.2.2.2.2.1.2)
 have f14:=XI r14
 have hd:hdG F xs=(⟨⟨v0,n5.a,n5.b,n5.c,n5.d,n5.e,v6,v7⟩,v8,m5.a,m5.b,m5.c,m5.d,m5.e,[]⟩,v14,⟨o14,false⟩):=by
  unfold hdG
  simp only [f0,f1,f2,f3,f4,f5,f6,f7,f8,f9,f10,f11,f12,f13,f14]
 unfold WZ
 rw [hd]
 simp [hL,hp]
def Z92 (F:List Int->Int×Int) (H:List Int->List Int) (R:Option Z7):Y8:=fun args h K=>frA [] h 20 args fun Bs a=>match Bs,a with
 | [],[.vints .u8 xs N]=>(xs.length=N/\Bytes xs)/\Z7f F H xs R/\(match R with
  | some X=>K (.ret (.tuple [.agg (X.c (slH h.next X.L.length)),.int .i64 0])) ⟨h.next+1,(h.next,.rows 70 X.L.length (Z4 X.L))::h.bs⟩
  | none=>K (.ret (.tuple [.agg (Y2.c .nilslice),.int .i64 204])) h)
 | _,_=>False
theorem Zhp {X:Z7} {n:Nat} {o:Out} {h:Z9} (hk:Z7o true X n o h):ZX 0 (.ret (.tuple [.agg (X.c (slH 0 n)),.int .i64 0])) 1 [(0,.rows 70 n (Z4 X.L))] o h:=by
 unfold Z7o at hk
 split at hk
 ·split at hk
  ·exact hk
  ·exact hk.elim
 ·exact hk.elim
theorem Zhq {X:Z7} {n:Nat} {o:Out} {h:Z9} (hk:Z7o false X n o h):ZX 0 (.ret (.tuple [.agg (Y2.c .nilslice),.int .i64 204])) 0 [] o h:=by
 unfold Z7o at hk
 split at hk
 ·split at hk
  ·exact hk.elim
  ·exact hk
 ·exact hk.elim
theorem Zal:(Zmd (Zo Zq) Zr).Ok:=Zh.withL_join (H:=Z7h (Zo Zq)) (Zh.withP_ok (Zh.withP_ok (Zh.withP_ok (Zh.withP_ok Zu Z7g) Z4L) Z9M) ZeT) (by unfold Z7h;simp only [Vg]) ZgU
theorem ZbF {R:Option Z7} (args:List AV) (h:Z9) (K:KO) (hl:Z92 (Zo Zq) Zr R args h K):Zn PP 18 args h K:=by
 unfold Z92 at hl
 refine Spec.fsumm hl fun Bs a hlen hK0=> ?_
 split at hK0
 ·obtain ⟨⟨h1,h3⟩,⟨hR⟩,hK⟩:=hK0
  rename_i xs N
  cases R with
  | some X=>exact ⟨_,_,_,_,_,Spec.evK Zal (Zin _ Zr xs N X X.L.length true h1 h3 rfl (fun _=>⟨ZjO hR.1 hR.2,hR.2⟩) (fun h=>by cases h)) (fun o' h' hk=>Zhp hk),Nat.zero_le _,.ret _ _ rfl,.cons _ _ _ _ _ _ rfl (.rows _ _ _ (fun _ _=>rfl)) .nil,hK⟩
  | none=>exact ⟨_,_,_,_,_,Spec.evK Zal (Zin _ Zr xs N ⟨⟨[],0,0,0,0,0,[],[]⟩,0,0,0,0,0,0,[]⟩ 0 false h1 h3 rfl (fun h=>by cases h) (fun _ Y hY=>hR Y (ZeV hY))) (fun o' h' hk=>Zhq hk),Nat.zero_le _,.ret _ _ rfl,.nil,hK⟩
 ·exact hK0.elim
end Go.Tk
end
section
namespace Go.Tk
open IntKind (i64 u8 u32 u64 wrap)
def lpX (X:Z7) (A:List YB) (i:Nat):Z7:=(A.take i).foldl actX X
theorem Z7p {X:Z7} {A:List YB} {i:Nat} (hi:i<A.length):lpX X A (i+1)=actX (lpX X A i) (A.getD i Z7l):=WF actX Z7l hi X
theorem Zam {X:Z7} (hI:X.Inv Zr) {A:List YB} (hA:∀a∈A,a.Ok):∀i,i<=A.length->(lpX X A i).Inv Zr/\(lpX X A i).t=X.t
 | 0,_=>⟨hI,rfl⟩
 | i+1,hi=>by
  obtain ⟨h1,h2⟩:=Zam hI hA i (by omega)
  have ha:(A.getD i Z7l).Ok:=hA _ (by rw [List.getD_eq_getElem?_getD,List.getElem?_eq_getElem hi];exact List.getElem_mem hi)
  rw [Z7p hi]
  exact ⟨h1.actX ha,(Zm2 _ _).trans h2⟩
def Znz (X:Z7) (A:List YB) (n:Nat):Prop:=n<=60/\A.length=n/\X.Inv Zr/\X.t.fund.length=32/\∀a∈A,a.Ok
end Go.Tk
end
section
namespace Go.Tk
open IntKind (i64 u8 u32 u64 wrap)
theorem ZbG {x:Z6}:Z8G ltH [x]:=by simp [Z8G]
def Z93:Y8:=fun args h K=>match args with
 | [.nslice ⟨b,0,70,0,0⟩ 70 _ _,_]=>frA [b] h 20 args fun Bs a=>match Bs,a with
  | [.rows 70 1 f],[.nslice ⟨0,0,70,0,0⟩ 70 1 _,.func (.func 85) [] []]=>match f 0 with
   | [.bool ow,.int .i64 id,.int .i64 am,.arr .u8 32 ha,.int .i64 ex,.int .i64 st,.int .i64 fi,.arr .u8 32 se]=>K (.ret (.tuple [])) ⟨h.next,(b,.rows 70 1 (Z4 [⟨ow,id,am,ha,ex,st,fi,se⟩]))::Ye h.bs b⟩
   | _=>False
  | _,_=>False
 | _=>False
theorem ZbH (args:List AV) (h:Z9) (K:KO) (hl:Z93 args h K):Zn PP 84 args h K:=by
 unfold Z93 at hl
 split at hl
 ·refine Spec.fsumm hl fun Bs a hlen hK0=> ?_
  split at hK0
  ·split at hK0
   ·rename_i f _ _ ow id am ha ex st fi se hf
    have hs:XK [⟨ow,id,am,ha,ex,st,fi,se⟩] [⟨ow,id,am,ha,ex,st,fi,se⟩] 1:=⟨rfl,by decide,by decide,.refl _,ZbG,fun a ha b hb _ _=>by
     simp only [List.mem_cons,List.not_mem_nil,or_false] at ha hb
     rw [ha,hb]⟩
    exact ⟨_,_,_,_,_,ZdK (fun i hi=>by
     have:i=0:=by omega
     subst this;rw [hf];rfl) hs,Nat.le_refl _,.ret _ _ rfl,.cons _ _ _ _ _ _ rfl (.rows _ _ _ (fun i _=>Xq _ i)) .nil,hK0⟩
   ·exact hK0.elim
  ·exact hK0.elim
 ·exact hl.elim
noncomputable def Zme:Zh:=G0.withF 84 Z93
theorem Zhr:Zme.Ok:=Zh.withF_ok Zu ZbH
theorem Zmf (u:Unit) :
  evF Zme 40 7 [] ⟨0,[]⟩ (Y4 fun v=>v=.bool true):=by
 refine @Eq.mpr _ (let q1:=[(0:Int),0,0,0,0,0,0,0,0,0,0,0,0,0,0,0,0,0,0,0,0,0,0,0,0,0,0,0,0,0,0];let q2:=(2:Int)::q1;let q3:=q2=q2;let q4:=(1:Int)::q1;let q5:=q4=q4;let q6:=AV.bool true;let q7:=AV.arr u8 32 Za;let q8:=[(600:Int),400];let q9:=q8=q8;let q10:=(∀(i:Nat),i<1->Yt (ZZ 0 (fun (x:Nat)=>[]) (YG [q6,AV.int i64 0,AV.int i64 545,q7,AV.int i64 9,AV.int i64 1,AV.int i64 0,q7] 0 70) i)=true)/\q9/\Za=Za/\q9/\Za=Za/\q6=q6;
 q3/\q5/\q3/\q5/\q3/\q5/\q3/\q5/\q3/\q5/\(Za=Za/\Za=Za/\q10)/\q10) (by kernel_rfl) ?_
 conv=>zeta
 trivial
end Go.Tk
end
section
namespace Go.Tk
open IntKind (i64 u8 u32 u64 wrap)
def termTy:List Ty:=[.arr .u8 32,.int .i64,.int .i64,.int .i64,.int .i64,.int .i64,.arr .u8 32,.arr .u8 32]
def actTy:List Ty:=[.int .i64,.bool,.int .i64,.int .i64,.int .i64,.arr .u8 32,.int .i64,.int .i64,.bool,.int .i64]
theorem ZeW {l:List AV} (h:Fits actTy l):∃x:YB,l=x.c/\x.Ok:=by
 unfold actTy at h
 cases h with|cons _ a1 _ u h1 h=>
 cases h with|cons _ a2 _ u h2 h=>
 cases h with|cons _ a3 _ u h3 h=>
 cases h with|cons _ a4 _ u h4 h=>
 cases h with|cons _ a5 _ u h5 h=>
 cases h with|cons _ a6 _ u h6 h=>
 cases h with|cons _ a7 _ u h7 h=>
 cases h with|cons _ a8 _ u h8 h=>
 cases h with|cons _ a9 _ u h9 h=>
 cases h with|cons _ a10 _ u h10 h=>
 cases h;cases h1;cases h2;cases h3;cases h4;cases h5;cases h6;cases h7;cases h8;cases h9;cases h10
 rename_i x1 w1 x2 x3 w3 x4 w4 x5 w5 x6 l6 w6 x7 w7 x8 w8 x9 x10 w10
 exact ⟨⟨x1,x2,x3,x4,x5,x6,x7,x8,x9,x10⟩,rfl,⟨l6,VL l6 w6⟩⟩
theorem Zhs {n:Nat} {p:Nat->YB->Prop} (h:∀i,i<n->∃a,p i a):∃f:Nat->YB,∀i,i<n->p i (f i):=
 ⟨fun i=>if hi:i<n then Classical.choose (h i hi) else Z7l,fun i hi=>by
  simp only [hi,dite_true]
  exact Classical.choose_spec (h i hi)⟩
theorem ZbI {a:AV} (h:Z1l false [.rows 41 actTy] a):∃(n:Nat) (A:List YB),A.length=n/\(∀m∈A,m.Ok)/\∀(E:Env) (r:Value),Zm E a r->Zm E (.vrows 41 n (UL A) n) r:=by
 cases h with|one _ _ h=>
 cases h with|rows esz ts n f hm h=>
 obtain ⟨g,hg⟩:=Zhs fun i hi=>ZeW (h i hi)
 refine ⟨n,(List.range n).map g,by simp,fun m hm=> ?_,fun E r hr=>hr.rowsC fun i hi=> ?_⟩
 ·obtain ⟨i,hi,rfl⟩:=List.mem_map.1 hm
  exact (hg i (List.mem_range.1 hi)).2
 ·unfold UL
  rw [(hg i hi).1,List.getD_eq_getElem?_getD,List.getElem?_map,List.getElem?_range hi]
  rfl
theorem fits_int {a:AV} (h:Z1l false [.int .i64] a):∃n:Int,a=.int .i64 n:=by
 cases h with|one _ _ h=>
 cases h
 exact ⟨_,rfl⟩
theorem Zht (args:List AV) (h:Z9) (K:AV->Prop) (hl:ZjN args h K):Zn PP 7 args h fun o h'=>∃v,o=.ret v/\h'=h/\K v:=by
 unfold ZjN at hl
 split at hl
 ·exact ZU Zhr rfl (Zmf ()) (fun u hu=>hu▸hl)
 ·exact hl.elim
end Go.Tk
end
section
namespace Go.Tk
open IntKind (i64 u8 u32 u64 wrap)
structure Z5T (X:Z7):Prop where
 n:X.L.length<=20
 hd:Z78 4611686018427387904 X
 l:∀h∈X.L,Zbp 4611686018427387904 h/\h.Ok
 f:X.t.fund.length=32
 k0:X.t.k0.length=32
 k1:X.t.k1.length=32
def RwG (T:Int) (B:Nat) (X:Z7) (n:Nat) (hd:List Int):Prop:=X.L.length=n/\n<=20/\hd.length<=300/\10000<=B/\(∀h∈X.L,Zbp T h/\h.Ok)
theorem Zmg (T:Int) (B:Nat) (X:Z7) (n i:Nat) (hd:List Int) (hB2:B<=80000000000000) (hC:RwG T B X n hd) (hi:i<=n):ZB (Z7i Zq B) 20 20 0 0 (Z5S X i (Yr X hd i).length (Yr X hd i)) (rdM 0 0 9 (Z5S X (i+1) (Yr X hd (i+1)).length (Yr X hd (i+1))) (Z1J (Yr X hd i).length (Yr X hd i)) (Z1J (Yr X hd i).length (Yr X hd i)) (Z1J (Yr X hd i).length (Yr X hd i)) (i<n/\i<n) (i=n) False False):=by
 obtain ⟨h1,h2,h3,h4,h5⟩:=id hC
 have hlt:i<n->i<X.L.length:=fun h=>by omega
 have hl:=UJ (L:=X.L.take i) (fun z hz=>(h5 z (List.mem_of_mem_take hz)).2) hd
 have l0:(X.L.take i).length<=20:=by rw [List.length_take];omega
 refine Zie X n i _ _ B _ _ (X.L.getD i Z8) Zq T (i<n/\i<n) (i=n) (by omega) h1 hi (fun _=>rfl) rfl (fun _=> ?_) hB2 rfl (fun h=>(h5 _ (ZD (hlt h))).1) (fun h=>(h5 _ (ZD (hlt h))).2) (fun h=> ?_) (fun _=>rfl) (fun h=>⟨h,h⟩) (fun h=>h)
 ·unfold Yr;omega
 ·unfold Yr
  rw [Y9 (hlt h),List.foldl_append];rfl
theorem Zhu (X:Z7) (n:Nat) (hd:List Int):(ZeE Zq 80000000000000 X n hd.length hd (RwG 4611686018427387904 80000000000000 X n hd) (fun i=>Z1J (Yr X hd i).length (Yr X hd i))).Ok:=
 Zh.withGoM (N:=20) (S:=fun i=>Z5S X i (Yr X hd i).length (Yr X hd i)) Z7j (by kernel_rfl) fun hC=>⟨rfl,fun i hi _=>Zmg _ _ X n i hd (Nat.le_refl _) hC hi⟩
def Zip (W:Int->List Int):Y8:=fun args h K=>ZP none h true 20 args fun a=>match a with
 | [.agg cs]=>∃X,LV cs X/\Z5T X/\K (.ret (slB h.next (Yn W X).length)) ⟨h.next+1,(h.next,.ints .u8 (Yn W X))::h.bs⟩
 | _=>False
theorem ZeX (args:List AV) (h:Z9) (K:KO) (hl:Zip Zq args h K):Zn PP 20 args h K:=by
 refine ZA.fsumm (d:=20) (Zs _ _ _ _ _ hl fun a ha=> ?_)
 split at ha
 ·obtain ⟨X,hX,hy,hK⟩:=ha
  have hv:=Zif X X.L.length _ 80000000000000 _ (XH Zq X) (Yn Zq X) Zq 4611686018427387904 (RwG 4611686018427387904 80000000000000 X X.L.length (XH Zq X)) (Yr X (XH Zq X)) ⟨rfl,hy.n,WE hy.f hy.k0 hy.k1,by decide,hy.l⟩ rfl rfl rfl (by unfold Yr;rw [List.take_length];rfl) rfl hy.f hy.k0 hy.k1 (by decide) rfl hy.hd
  exact ⟨_,_,_,_,(ZA.evM (Zhu X _ _) hv).conv fun E r hr=>hr.head (fun _ hc=>XB hX hc) fun _ hc=>hc,rfl,⟨Nat.one_pos,.ints _ _,trivial⟩,hK⟩
 ·exact ha.elim
def lyP (h:Z6):List Int:=[h.id,h.amount,h.expiry,h.stage,h.fin]
def lyH (X:Z7):List Int:=[X.t.index,X.t.cap,X.t.dust,X.t.fee,X.t.delay,X.side,X.res,X.a0,X.a1,X.i0,X.i1]
def lyL (X:Z7) (i:Nat):List Int:=(X.L.take i).foldl (fun l h=>l++lyP h) (lyH X)
def inT (T n:Int):Bool:=decide (0<=n)&&decide (n<=T)
def lyS (X:Z7) (i m:Nat) (ls:List Int):St:=⟨82,[(4,.int .i64 i),(3,.nslice ⟨1,0,0,0,0⟩ 1 m m),(1,.ptr (some ⟨0,0,0,0,0⟩))],⟨2,[(0,.flat (X.c (.vrows 70 X.L.length (Z4 X.L) X.L.length))),(1,.ints .i64 ls)]⟩,[]⟩
def lyE (m:Nat) (ls:List Int):St:=⟨82,[(3,.nslice ⟨0,0,0,0,0⟩ 1 m m)],⟨1,[(0,.ints .i64 ls)]⟩,[]⟩
def Zhv (i m:Nat) (ls:List Int):St:=⟨82,[(6,.int .i64 i),(3,.nslice ⟨0,0,0,0,0⟩ 1 m m)],⟨1,[(0,.ints .i64 ls)]⟩,[]⟩
def lyN:St:=⟨82,[],⟨0,[]⟩,[]⟩
def lyR:St:=⟨82,[(2,.bool false)],⟨0,[]⟩,[]⟩
theorem ZnA (X:Z7) (n i m m1:Nat) (x:Z6) (ls ls1:List Int) (Z1 Z2:Prop) (hn:n<1000) (hL:X.L.length=n) (hi:i<=n) (hx:i<n->X.L.getD i Z8=x) (hm:ls.length=m) (hmb:m<100000) (hl:i<n->ls1=ls++lyP x) (hm1:i<n->m1=ls1.length) (h1:i<n->Z1) (h2:i=n->Z2):
  ZB G0 20 19 0 0 (lyS X i m ls) (rdM 0 0 9 (lyS X (i+1) m1 ls1) (lyE m ls) lyN lyN Z1 Z2 False False):=by
 refine @Eq.mpr _ (let q1:=X.L;let q2:=List.length q1;let q3:=List.getD q1 (Int.toNat (↑i:Int)) Z8;let q4:=ls++[q3.id,q3.amount,q3.expiry,q3.stage,q3.fin];let q5:=List.length q4;let q6:=X.t;let q7:=q6.fund;let q8:=q6.index;let q9:=q6.cap;let q10:=q6.dust;let q11:=q6.fee;let q12:=q6.delay;let q13:=q6.k0;let q14:=q6.k1;let q15:=[X.a0,X.a1];let q16:=[X.i0,X.i1];let q17:=decide (q2=q2);let q18:=Z4 q1;
 Z0 (decide ((↑i:Int)<(↑q2:Int))) (Z0 (decide (0<=(↑i:Int)/\(↑i:Int)<(↑q2:Int))) (Z0 (decide (i64=i64/\List.length ls=m)) (Z0 (decide (q5*8<=140737488355328)) (Z0 (decide (wrap i64 ((↑i:Int)+1)=(↑(i+1):Int))) (Z0 (decide (q5=m1)) (Z0 (decide (m1<=q5)) (q7=q7/\Z0 (decide (q8=q8)) (Z0 (decide (q9=q9)) (Z0 (decide (q10=q10)) (Z0 (decide (q11=q11)) (Z0 (decide (q12=q12)) (q13=q13/\q14=q14/\Z0 (decide (X.side=X.side)) (Z0 (decide (X.res=X.res)) (q15=q15/\q16=q16/\Z0 q17 (q18=q18/\Z0 q17 (q4=ls1/\Z1) False) False) False) False) False) False) False) False) False) False) False) False) False) False) False) (Z0 (decide (m=m)) (Z0 (decide (m<=m)) (ls=ls/\Z2) False) False)) (by kernel_rfl) ?_
 conv=>zeta
 try simp only [Zi]
 try simp only [Zj]
 try simp only [Zf]
 try simp only [Zk]
 try simp only [Zl]
 try simp only [Zg]
 try simp only [Int.toNat_natCast,Nat.zero_add,true_and,and_true,Nat.le_refl]
 subst hL
 refine ⟨fun hc=> ?_,fun hc=>h2 (by omega)⟩
 have hlt:i<X.L.length:=by omega
 rw [hx hlt]
 have hwr:i64.wrap ((i:Int)+1)=((i+1:Nat):Int):=by rw [w64 (by omega)];omega
 have e:ls1=ls++[x.id,x.amount,x.expiry,x.stage,x.fin]:=hl hlt
 have hm1:=hm1 hlt
 rw [<-e]
 have el:ls1.length=m+5:=by rw [e];simp [hm]
 exact ⟨by omega,hm,by omega,hwr,hm1.symm,Nat.le_of_eq hm1,rfl,h1 hlt⟩
theorem ZnB (ls:List Int) (m i:Nat) (Z1 Z2 Z3:Prop) (hm:ls.length=m) (hmb:m<100000) (hi:i<=m) (h1:i<m->inT 4611686018427387904 (ls.getD i 0)=true->Z1) (h2:i=m->Z2) (h3:i<m->inT 4611686018427387904 (ls.getD i 0)=false->Z3):
  ZB G0 20 19 2 0 (Zhv i m ls) (rdM 0 2 9 (Zhv (i+1) m ls) lyN lyR lyR Z1 Z2 Z3 False):=by
 refine @Eq.mpr _ (let q1:=decide (0<=(↑i:Int)/\(↑i:Int)<(↑m:Int));let q2:=0+Int.toNat (↑i:Int);let q3:=List.getD ls q2 0;
 Z0 (decide ((↑i:Int)<(↑m:Int))) (Z0 q1 (Z0 (decide (q2<List.length ls)) (Z0 (decide (q3<0)) Z3 (Z0 q1 (Z0 (decide (q2<List.length ls)) (Z0 (decide (q3>4611686018427387904)) Z3 (Z0 (decide (wrap i64 ((↑i:Int)+1)=(↑(i+1):Int))) (Z0 (decide (m=m)) (Z0 (decide (m<=m)) (ls=ls/\Z1) False) False) False)) False) False)) False) False) Z2) (by kernel_rfl) ?_
 conv=>zeta
 try simp only [Zi]
 try simp only [Zj]
 try simp only [Zf]
 try simp only [Zk]
 try simp only [Zl]
 try simp only [Zg]
 try simp only [Int.toNat_natCast,Nat.zero_add,true_and,and_true,Nat.le_refl]
 refine ⟨fun hc=> ?_,fun hc=>h2 (by omega)⟩
 have hlt:i<m:=by omega
 have hwr:i64.wrap ((i:Int)+1)=((i+1:Nat):Int):=by rw [w64 (by omega)];omega
 have h1:=h1 hlt
 have h3:=h3 hlt
 unfold inT at h1 h3
 generalize ls.getD i 0=z at*
 refine ⟨by omega,by omega,fun h=>h3 ?_,fun k1=>⟨by omega,by omega,fun h=>h3 ?_,fun k2=>⟨hwr,h1 ?_⟩⟩⟩
 ·rw [decide_eq_false (by omega)];rfl
 ·rw [decide_eq_false (p:=z<=4611686018427387904) (by omega)];simp
 ·rw [decide_eq_true (by omega),decide_eq_true (by omega)];rfl
theorem Z5U (X:Z7):∀i,i<=X.L.length->(lyL X i).length=11+5*i
 | 0,_=>rfl
 | i+1,hi=>by
  have ih:=Z5U X i (by omega)
  unfold lyL at*
  rw [WF (fun l h=>l++lyP h) Z8 (by omega),List.length_append,ih]
  show 11+5*i+5=_
  omega
noncomputable def Ziq (X:Z7) (n m:Nat) (ls:List Int) (C:Prop) (E:Nat->St):Zh:=(G0.withL 19 0 (goM 0 (lyS X 0 11 (lyH X)) C (Yu 0 n 9 (fun i=>i<n) (fun i=>i=n) (fun _=>False) (fun _=>False) E (fun _=>lyN) (fun _=>lyN)))).withL 19 2 (goM 0 (Zhv 0 m ls) C (Yu 2 m 9 (fun i=>inT 4611686018427387904 (ls.getD i 0)=true/\i<m) (fun i=>i=m) (fun i=>i<m/\inT 4611686018427387904 (ls.getD i 0)=false) (fun _=>False) (fun _=>lyN) (fun _=>lyR) (fun _=>lyR)))
theorem ZeY (X:Z7) (n m:Nat) (ls:List Int):(Ziq X n m ls (X.L.length=n/\n<1000/\ls.length=m/\m<100000) (fun i=>lyE (lyL X i).length (lyL X i))).Ok:=by
 refine Zh.withL_join (H:=G0) (Zh.withGoM (N:=20) (S:=fun i=>lyS X i (lyL X i).length (lyL X i)) Zu (by kernel_rfl) fun hC=>⟨rfl,fun i hi _=> ?_⟩) rfl (Zh.withGoM (N:=20) (S:=fun i=>Zhv i m ls) Zu (by kernel_rfl) fun hC=>⟨rfl,fun i hi _=> ?_⟩)
 ·have hl:=Z5U X i (by omega)
  refine ZnA X n i _ _ (X.L.getD i Z8) (lyL X i) (lyL X (i+1)) _ _ hC.2.1 hC.1 hi (fun _=>rfl) rfl (by omega) (fun h=> ?_) (fun _=>rfl) (fun h=>⟨h,h⟩) (fun h=>h)
  unfold lyL
  rw [WF (fun l h=>l++lyP h) Z8 (by omega)]
 ·exact ZnB ls m i _ _ _ hC.2.2.1 hC.2.2.2 hi (fun h h'=>⟨⟨h',h⟩,h⟩) (fun h=>h) (fun h h'=>⟨h,h'⟩)
theorem ZnC (X:Z7) (n m:Nat) (ls:List Int) (b:Bool) (C:Prop) (EF:Nat->List Int) (hC:C) (hL:X.L.length=n) (hm:ls.length=m) (hE:EF n=ls) (hb:b=ls.all (inT 4611686018427387904)):
  evF (Ziq X n m ls C fun i=>lyE (EF i).length (EF i)) 20 19 [Z0x X] ⟨0,[]⟩ (Y4 fun v=>v=.bool b):=by
 refine @Eq.mpr _ (let q1:=X.t;let q2:=q1.fund;let q3:=q1.index;let q4:=q1.cap;let q5:=q1.dust;let q6:=q1.fee;let q7:=q1.delay;let q8:=q1.k0;let q9:=q1.k1;let q10:=X.side;let q11:=X.res;let q12:=[X.a0,X.a1];let q13:=[X.i0,X.i1];let q14:=List.length X.L;let q15:=decide (q14=q14);let q16:=Z4 X.L;
 q2=q2/\Z0 (decide (q3=q3)) (Z0 (decide (q4=q4)) (Z0 (decide (q5=q5)) (Z0 (decide (q6=q6)) (Z0 (decide (q7=q7)) (q8=q8/\q9=q9/\Z0 (decide (q10=q10)) (Z0 (decide (q11=q11)) (q12=q12/\q13=q13/\Z0 q15 (q16=q16/\Z0 q15 (q3::q4::q5::q6::q7::q10::q11::X.a0::X.a1::q13=lyH X/\C/\∀(i:Nat),i<=n->(∀(j:Nat),j<i->(fun (i:Nat)=>i<n) j)->(i=n->Z0 (decide (List.length (EF i)=m)) (Z0 (decide (m<=List.length (EF i))) (EF i=ls/\C/\∀(i:Nat),i<=m->(∀(j:Nat),j<i->(fun (i:Nat)=>inT 4611686018427387904 (List.getD ls i 0)=true/\i<m) j)->(i=m->AV.bool true=AV.bool b)/\(i<m/\inT 4611686018427387904 (List.getD ls i 0)=false->AV.bool false=AV.bool b)/\(False->False)) False) False)/\(False->False)/\(False->False)) False) False) False) False) False) False) False) False) False) (by kernel_rfl) ?_
 conv=>zeta
 try simp only [Zi]
 try simp only [Zj]
 try simp only [Zf]
 try simp only [Zk]
 try simp only [Zl]
 try simp only [Zg]
 try simp only [Int.toNat_natCast,Nat.zero_add,true_and,and_true,Nat.le_refl]
 refine ⟨rfl,hC,fun i hi _=>⟨fun he=> ?_,fun h=>h,fun h=>h⟩⟩
 subst he
 rw [hE]
 refine ⟨hm,Nat.le_of_eq hm.symm,rfl,hC,fun j hj hg=>⟨fun he=> ?_,fun hx=> ?_,fun h=>h⟩⟩
 ·have:ls.all (inT 4611686018427387904)=true:=List.all_eq_true.2 fun z hz=>by
   obtain ⟨q,hq,rfl⟩:=List.getElem_of_mem hz
   have:=(hg q (by omega)).1
   rwa [List.getD_eq_getElem?_getD,List.getElem?_eq_getElem hq] at this
  rw [hb,this]
 ·have:ls.all (inT 4611686018427387904)=false:=Bool.eq_false_iff.2 fun ht=>by
   have h2:=hx.2
   rw [List.getD_eq_getElem?_getD,List.getElem?_eq_getElem (by omega)] at h2
   have h3:=List.all_eq_true.1 ht _ (List.getElem_mem (show j<ls.length by omega))
   have h4:inT 4611686018427387904 (ls[j]'(by omega))=false:=h2
   rw [h3] at h4
   cases h4
  rw [hb,this]
structure Z3Y (X:Z7) (c:Bool):Prop where
 h:(lyL X X.L.length).all (inT 4611686018427387904)=c
def Zir (c:Bool):ZK:=fun args h K=>ZP none h true 20 args fun a=>match a with
 | [.agg cs]=>∃X,LV cs X/\X.L.length<1000/\Z3Y X c/\K (.bool c)
 | _=>False
theorem ZeZ {c:Bool} (args:List AV) (h:Z9) (K:AV->Prop) (hl:Zir c args h K):Zn PP 19 args h fun o h'=>∃v,o=.ret v/\h'=h/\K v:=by
 refine ZA.psumm (d:=20) (Zs _ _ _ _ _ hl fun a ha=> ?_)
 split at ha
 ·obtain ⟨X,hX,hn,⟨hc⟩,hK⟩:=ha
  have hl:=Z5U X X.L.length (Nat.le_refl _)
  have hv:=ZnC X X.L.length (lyL X X.L.length).length (lyL X X.L.length) c (X.L.length=X.L.length/\X.L.length<1000/\(lyL X X.L.length).length=(lyL X X.L.length).length/\(lyL X X.L.length).length<100000) (fun i=>lyL X i) ⟨rfl,hn,rfl,by omega⟩ rfl rfl rfl hc.symm
  exact ⟨_,(ZA.evV (ZeY X _ _ _) hv).conv fun E r hr=>hr.head (fun _ hc=>XB hX hc) fun _ hc=>hc,fun _=>rfl,hK⟩
 ·exact ha.elim
theorem Z7q {p:Int->Bool}:∀(L:List Z6) (a:List Int),(L.foldl (fun l h=>l++lyP h) a).all p=(a.all p&&L.all fun h=>(lyP h).all p)
 | [],a=>by simp
 | x::r,a=>by rw [List.foldl_cons,Z7q r,List.all_append,List.all_cons,Bool.and_assoc]
theorem Zan {T n:Int}:inT T n=true↔0<=n/\n<=T:=by unfold inT;simp
theorem Z3Y.ok {X:Z7} (h:Z3Y X true) (hn:X.L.length<=20) (hl:∀h∈X.L,h.Ok) (hf:X.t.fund.length=32) (h0:X.t.k0.length=32) (h1:X.t.k1.length=32):Z5T X:=by
 have ha:=h.h
 unfold lyL at ha
 rw [List.take_length,Z7q,Bool.and_eq_true] at ha
 obtain ⟨a1,a2⟩:=ha
 unfold lyH at a1
 simp only [List.all_cons,List.all_nil,Bool.and_eq_true,Zan,Bool.and_true] at a1
 refine ⟨hn, ?_,fun z hz=>⟨?_,hl z hz⟩,hf,h0,h1⟩
 ·unfold Z78
  refine ⟨a1.1,a1.2.1,a1.2.2.1,a1.2.2.2.1,a1.2.2.2.2.1,a1.2.2.2.2.2.1,a1.2.2.2.2.2.2.1,a1.2.2.2.2.2.2.2.1,a1.2.2.2.2.2.2.2.2.1,a1.2.2.2.2.2.2.2.2.2.1,a1.2.2.2.2.2.2.2.2.2.2, ?_⟩
  omega
 ·have:=List.all_eq_true.1 a2 z hz
  unfold lyP at this
  simp only [List.all_cons,List.all_nil,Bool.and_eq_true,Zan,Bool.and_true] at this
  exact this
end Go.Tk
end
