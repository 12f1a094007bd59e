/- K: part 7 of an engine (a symbolic evaluator, proved against the model) and of the walk by it. -/
import Derived.Test.YtpfaahkmphnliaaGreatK6
import Derived.Test.YtpfaahkmphnliaaGreatRows
import Derived.ChangeOld
set_option linter.unusedVariables false
set_option linter.unusedSimpArgs false
set_option maxRecDepth 100000
set_option maxHeartbeats 0
section
namespace Go.Tk
open IntKind (i64 u8 u32 u64 wrap)
noncomputable def Zhb:Zg:=G0.withP 108 bkS
theorem Zhc:Zhb.Ok:=Zg.withP_ok Zv Zgu
def Zi5 (X:Z8) (L:List Z7) (n:Nat) (G Lf:List Z7):Za:=⟨5,[(0,.rows 70 n (Z6 L)),(1,.flat (X.c (slH 0 n))),(2,.flat (Yv.c .nilslice)),(3,.rows 70 G.length (Z6 G)),(4,.rows 70 Lf.length (Z6 Lf))]⟩
def Zhd (X:Z8) (L:List Z7) (n i:Nat) (G Lf:List Z7):St:=⟨53,[(6,.int .i64 i),(1,pt 1),(5,slH 3 G.length),(4,slH 4 Lf.length),(2,pt 2)],Zi5 X L n G Lf,[]⟩
def ZeJ (X:Z8) (L:List Z7) (n:Nat) (G Lf:List Z7):St:=⟨53,[(1,pt 1),(5,slH 3 G.length),(4,slH 4 Lf.length),(2,pt 2)],Zi5 X L n G Lf,[]⟩
theorem Zli (X X1:Z8) (L:List Z7) (n i:Nat) (x:Z7) (G Lf G1 Lf1:List Z7) (Z1 Z2:Prop) (hn:n<1000) (hL:L.length=n) (hi:i<=n) (hx:i<n->L.getD i Zc=x) (hst:i<n->1<=x.stage/\x.stage<=9) (hb:G.length<1000/\Lf.length<1000) (hG:i<n->G1=G++X9 (decide (YE x.own x.stage=0)) x) (hLf:i<n->Lf1=Lf++X9 (decide (¬YE x.own x.stage=0)) (brH x)) (hX1:i<n->X1=if YE x.own x.stage=0 then { X with i1:=X.i1-1} else X) (hw: -1000<=X.i1/\X.i1<=2147483648) (hZ1:i<n->Z1) (hZ2:i=n->Z2):
  ZG Zhb 20 55 0 1 (Zhd X L n i G Lf) (rdM 1 0 9 (Zhd X1 L n (i+1) G1 Lf1) (ZeJ X L n G Lf) (ZeJ X L n G Lf) (ZeJ X L n G Lf) Z1 Z2 False False):=by
 refine @Eq.mpr _ (let q1:=0+Int.toNat (↑i:Int);let q2:=List.getD L q1 Zc;let q3:=q2.stage;let q4:=q2.own;let q5:=YE q4 q3;let q6:=List.length G;let q7:=decide (q6=q6);let q8:=q6+1;let q9:=decide (wrap i64 ((↑i:Int)+1)=(↑(i+1):Int));let q10:=List.length G1;let q11:=decide (q8=q10);let q12:=List.length Lf;let q13:=List.length Lf1;let q14:=decide (q12=q13);let q15:=decide (n=n);let q16:=[(1,1)];let q17:=(2,2)::(4,4)::(3,7)::q16;let q18:=Z6 L;let q19:=X.t;let q20:=q19.fund;let q21:=X1.t;let q22:=q20=q21.fund;let q23:=q19.index;let q24:=decide (q23=q21.index);let q25:=q19.cap;let q26:=decide (q25=q21.cap);let q27:=q19.dust;let q28:=decide (q27=q21.dust);let q29:=q19.fee;let q30:=decide (q29=q21.fee);let q31:=q19.delay;let q32:=decide (q31=q21.delay);let q33:=q19.k0;let q34:=q33=q21.k0;let q35:=q19.k1;let q36:=q35=q21.k1;let q37:=X.side;let q38:=decide (q37=X1.side);let q39:=X.res;let q40:=decide (q39=X1.res);let q41:=[X.a0,X.a1];let q42:=q41=[X1.a0,X1.a1];let q43:=[X1.i0,X1.i1];let q44:=decide (n<=n);let q45:=Yv.t;let q46:=q45.fund;let q47:=q46=q46;let q48:=q45.k0;let q49:=q48=q48;let q50:=q45.k1;let q51:=q50=q50;let q52:=[Yv.a0,Yv.a1];let q53:=q52=q52;let q54:=[Yv.i0,Yv.i1];let q55:=q54=q54;let q56:=Z6 G;let q57:=AV.bool q4;let q58:=AV.int i64 q2.id;let q59:=AV.int i64 q2.amount;let q60:=AV.arr u8 32 q2.hash;let q61:=AV.int i64 q2.expiry;let q62:=[AV.int i64 q2.fin,AV.arr u8 32 q2.secret];let q63:=Z6 Lf1;let q64:=Z6 Lf;let q65:=decide (q12=q12);let q66:=q12+1;let q67:=decide (q66*112<=140737488355328);let q68:=decide (q6=q10);let q69:=decide (q10<=q6);let q70:=decide (q66=q13);let q71:=decide (q13<=q66);let q72:=(3,3)::q16;let q73:=(2,2)::(4,7)::q72;let q74:=Zb 1 q73 n q18 q18;let q75:=[X.i0,X.i1];let q76:=q75=q43;let q77:=Zb 1 q73 q10 (Z6 G1) q56;let q78:=AV.int i64 q5;let q79:=(2,2)::(4,4)::q72;
 Z0 (decide ((↑i:Int)<(↑n:Int)))
 (Z0 (decide (0<=(↑i:Int)/\(↑i:Int)<(↑n:Int)))
 (Z0 (decide (q1<n))
 (Z0 (decide (1<=q3/\q3<=9))
 (Z0 (q5==0) (Z0 q7 (Z0 (decide (q8*112<=140737488355328)) (Z0 q9 (Z0 q11 (Z0 (decide (q10<=q8)) (Z0 q14 (Z0 (decide (q13<=q12)) (Z0 q15 (Zb 1 q17 n q18 q18/\q22/\Z0 q24 (Z0 q26 (Z0 q28 (Z0 q30 (Z0 q32 (q34/\q36/\Z0 q38 (Z0 q40 (q42/\[X.i0,wrap i64 (X.i1-1)]=q43/\Z0 q15 (Z0 q44 (q47/\q49/\q51/\q53/\q55/\Z0 q11 (Zb 1 q17 q10 (Z6 G1) (Y2 q6 q56 (YQ (q57::q58::q59::q60::q61::AV.int i64 q3::q62) 0 70))/\Z0 q14 (Zb 1 q17 q13 q63 q64/\Z1) False) False) False) False) False) False) False) False) False) False) False) False) False) False) False) False) False) False) False)
 (Z0 (q5==5) (Z0 q65 (Z0 q67 (Z0 q9 (Z0 q68 (Z0 q69 (Z0 q70 (Z0 q71 (Z0 q15 (q74/\q22/\Z0 q24 (Z0 q26 (Z0 q28 (Z0 q30 (Z0 q32 (q34/\q36/\Z0 q38 (Z0 q40 (q42/\q76/\Z0 q15 (Z0 q44 (q47/\q49/\q51/\q53/\q55/\Z0 q68 (q77/\Z0 q70 (Zb 1 q73 q13 q63 (Y2 q12 q64 (YQ [q57,q58,q59,q60,q61,q78,AV.int i64 0,AV.arr u8 32 Zf] 0 70))/\Z1) False) False) False) False) False) False) False) False) False) False) False) False) False) False) False) False) False) False) False)
 (Z0 q65 (Z0 q67 (Z0 q9 (Z0 q68 (Z0 q69 (Z0 q70 (Z0 q71 (Z0 q15 (q74/\q22/\Z0 q24 (Z0 q26 (Z0 q28 (Z0 q30 (Z0 q32 (q34/\q36/\Z0 q38 (Z0 q40 (q42/\q76/\Z0 q15 (Z0 q44 (q47/\q49/\q51/\q53/\q55/\Z0 q68 (q77/\Z0 q70 (Zb 1 q73 q13 q63 (Y2 q12 q64 (YQ (q57::q58::q59::q60::q61::q78::q62) 0 70))/\Z1) False) False) False) False) False) False) False) False) False) False) False) False) False) False) False) False) False) False) False)))
 False)
 False)
 False)
 (Z0 q7 (Z0 (decide (q6<=q6)) (Z0 q65 (Z0 (decide (q12<=q12)) (Z0 q15 (Zb 1 q79 n q18 q18/\q20=q20/\Z0 (decide (q23=q23)) (Z0 (decide (q25=q25)) (Z0 (decide (q27=q27)) (Z0 (decide (q29=q29)) (Z0 (decide (q31=q31)) (q33=q33/\q35=q35/\Z0 (decide (q37=q37)) (Z0 (decide (q39=q39)) (q41=q41/\q75=q75/\Z0 q15 (Z0 q44 (q47/\q49/\q51/\q53/\q55/\Z0 q7 (Zb 1 q79 q6 q56 q56/\Z0 q65 (Zb 1 q79 q12 q64 q64/\Z2) False) False) False) False) False) False) False) False) False) False) False) False) False) False) False) False)) (by kernel_rfl) ?_
 conv=>zeta
 try simp only [Zj]
 try simp only [Zl]
 try simp only [Zi]
 try simp only [Zm]
 try simp only [Zn]
 try simp only [Zh]
 try simp only [Int.toNat_natCast,Nat.zero_add,true_and,and_true,Nat.le_refl]
 refine ⟨fun hc=> ?_,fun hc=> ?_⟩
 ·have hlt:i<n:=by omega
  rw [hx hlt]
  have hG:=hG hlt
  have hLf:=hLf hlt
  have hX1:=hX1 hlt
  have hst:=hst hlt
  have hwr:i64.wrap ((i:Int)+1)=((i+1:Nat):Int):=by rw [w64 (by omega)];omega
  have hwi:i64.wrap (X.i1-1)=X.i1-1:=w64 (by omega)
  rw [hwr,hwi]
  have hR:∀τ k (Q:List Z7),Zb 1 τ k (Z6 Q) (Z6 Q):=fun τ k Q=>Zo fun _ _=>rfl
  have hC:∀τ (Q:List Z7) (y:Z7),Zb 1 τ (Q++[y]).length (Z6 (Q++[y])) (Y2 Q.length (Z6 Q) (YQ y.c 0 70)):=fun τ Q y=>Zo fun j hj=>Yt rfl (fun _ _=>rfl) (by simpa using hj)
  refine ⟨by omega,hlt,hst,fun h0=> ?_,fun h0=>⟨fun h5=> ?_,fun h5=> ?_⟩⟩
  ·have h0:YE x.own x.stage=0:=by simpa using h0
   rw [decide_eq_true h0] at hG
   rw [decide_eq_false (fun h=>h h0)] at hLf
   rw [if_pos h0] at hX1
   simp only [X9,List.append_nil] at hG hLf
   subst hG hLf hX1
   repeat' apply And.intro
   all_goals first|omega|rfl|exact hZ1 hlt|exact hC _ _ _|exact hR _ _ _|(simp;done)
  all_goals
   have h0:¬YE x.own x.stage=0:=by simpa using h0
   rw [decide_eq_false h0] at hG
   rw [decide_eq_true h0] at hLf
   rw [if_neg h0] at hX1
   simp only [X9,List.append_nil] at hG hLf
   subst hG hX1
  ·have h5:YE x.own x.stage=5:=by simpa using h5
   rw [ZhW h5] at hLf
   rw [h5]
   subst hLf
   repeat' apply And.intro
   all_goals first|omega|rfl|exact hZ1 hlt|exact hC _ _ ⟨x.own,x.id,x.amount,x.hash,x.expiry,5,0,Zf⟩|exact hR _ _ _|(simp;done)
  ·have h5:¬YE x.own x.stage=5:=by simpa using h5
   have hb5:brH x=⟨x.own,x.id,x.amount,x.hash,x.expiry,YE x.own x.stage,x.fin,x.secret⟩:=by unfold brH;rw [if_neg h5]
   rw [hb5] at hLf
   subst hLf
   repeat' apply And.intro
   all_goals first|omega|rfl|exact hZ1 hlt|exact hC _ _ ⟨x.own,x.id,x.amount,x.hash,x.expiry,YE x.own x.stage,x.fin,x.secret⟩|exact hR _ _ _|(simp;done)
 ·repeat' apply And.intro
  all_goals first|omega|rfl|exact hZ2 (by omega)|exact Zo fun _ _=>rfl
def Zai (X:Z8) (n i:Nat):St:=Zhd (bkX X i) X.L n i (ZL (X.L.take i)) (Ym (X.L.take i))
def Zaj (X:Z8) (n i:Nat):St:=ZeJ (bkX X i) X.L n (ZL (X.L.take i)) (Ym (X.L.take i))
theorem Zlj (X:Z8) (n i:Nat) (hC:Z8N X n) (hi:i<=n):ZG Zhb 20 55 0 1 (Zai X n i) (rdM 1 0 9 (Zai X n (i+1)) (Zaj X n i) (Zaj X n i) (Zaj X n i) (i<n/\i<n) (i=n) False False):=by
 obtain ⟨h1,h2,h3,h4⟩:=id hC
 have hlt:i<n->i<X.L.length:=fun h=>by omega
 have l0:(X.L.take i).length<=16:=by rw [List.length_take];omega
 have l1:(ZL (X.L.take i)).length<=(X.L.take i).length:=List.length_filter_le _ _
 have l2:(Ym (X.L.take i)).length<=(X.L.take i).length:=by unfold Ym;rw [List.length_map];exact List.length_filter_le _ _
 have e:∀k,(bkX X k).i1=X.i1-(ZL (X.L.take k)).length:=fun _=>rfl
 refine Zli (bkX X i) (bkX X (i+1)) X.L n i (X.L.getD i Zc) _ _ _ _ (i<n/\i<n) (i=n) (by omega) h1 hi (fun _=>rfl) (fun h=>h3 _ (ZM (hlt h))) ⟨by omega,by omega⟩ (fun h=> ?_) (fun h=> ?_) (fun h=> ?_) (by rw [e];omega) (fun h=>⟨h,h⟩) (fun h=>h)
 ·rw [Yj (hlt h),U4]
 ·rw [Yj (hlt h),Z3E]
 ·unfold bkX
  rw [Yj (hlt h),U4]
  by_cases q:YE (X.L.getD i Zc).own (X.L.getD i Zc).stage=0
  ·rw [if_pos q,decide_eq_true q,X9,List.length_append]
   congr 1
   show X.i1-((_+1:Nat):Int)=_
   dsimp only;omega
  ·rw [if_neg q,decide_eq_false q,X9,List.append_nil]
noncomputable def Zi6 (X:Z8) (n:Nat) (C:Prop) (E:Nat->St):Zg:=Zhb.withL 55 0 (goM 1 (Zhd X X.L n 0 [] []) C (YJ 0 n 9 (fun i=>i<n) (fun i=>i=n) (fun _=>False) (fun _=>False) E E E))
theorem ZeK (X:Z8) (n:Nat):(Zi6 X n (Z8N X n) (Zaj X n)).Ok:=
 Zg.withGoM (N:=20) (S:=Zai X n) Zhc (by kernel_rfl) fun hC=>⟨by unfold Zai;rw [Z7a];rfl,fun i hi _=>Zlj X n i hC hi⟩
theorem Zlk (X X':Z8) (n l g:Nat) (G:List Z7) (C:Prop) (XF:Nat->Z8) (GF LF:Nat->List Z7) (hC:C) (hG:G=GF n) (hX':X'={ XF n with L:=LF n}) (hl:l=X'.L.length) (hg:g=G.length):
  evF (Zi6 X n C fun i=>ZeJ (XF i) X.L n (GF i) (LF i)) 20 55 [.agg (X.c (slH 0 n))] ⟨1,[(0,.rows 70 n (Z6 X.L))]⟩ (Y5 1 (.ret (.tuple [.agg (X'.c (slH 1 l)),slH 2 g])) 3 [(0,.rows 70 n (Z6 X.L)),(1,.rows 70 l (Z6 X'.L)),(2,.rows 70 g (Z6 G))]):=by
 refine @Eq.mpr _ (let q1:=decide (n=n);let q2:=Z6 X.L;let q3:=X.t;let q4:=q3.fund;let q5:=q3.index;let q6:=q3.cap;let q7:=q3.dust;let q8:=q3.fee;let q9:=q3.delay;let q10:=q3.k0;let q11:=q3.k1;let q12:=[X.a0,X.a1];let q13:=[X.i0,X.i1];let q14:=Yv.t;let q15:=[(0:Int),0];let q16:=X'.t;let q17:=[(2,3),(1,4)];
 Z0 q1
 (Zb 1 [(2,2),(1,1)] n q2 q2/\
 q4=q4/\
 Z0 (decide (q5=q5))
 (Z0 (decide (q6=q6))
 (Z0 (decide (q7=q7))
 (Z0 (decide (q8=q8))
 (Z0 (decide (q9=q9))
 (q10=q10/\
 q11=q11/\
 Z0 (decide (X.side=X.side))
 (Z0 (decide (X.res=X.res))
 (q12=q12/\
 q13=q13/\
 Z0 q1
 (Z0 (decide (n<=n))
 (Zf=q14.fund/\
 Zf=q14.k0/\
 Zf=q14.k1/\
 q15=[Yv.a0,Yv.a1]/\
 q15=[Yv.i0,Yv.i1]/\
 C/\
 ∀(i:Nat),
 let q35:=(XF i).t;let q36:=decide (List.length (LF i)=l);let q37:=decide (List.length (GF i)=g);
 i<=n->(∀(j:Nat),j<i->(fun (i:Nat)=>i<n) j)->(i=n->q35.fund=q16.fund/\Z0 (decide (q35.index=q16.index)) (Z0 (decide (q35.cap=q16.cap)) (Z0 (decide (q35.dust=q16.dust)) (Z0 (decide (q35.fee=q16.fee)) (Z0 (decide (q35.delay=q16.delay)) (q35.k0=q16.k0/\q35.k1=q16.k1/\Z0 (decide ((XF i).side=X'.side)) (Z0 (decide ((XF i).res=X'.res)) ([(XF i).a0,(XF i).a1]=[X'.a0,X'.a1]/\[(XF i).i0,(XF i).i1]=[X'.i0,X'.i1]/\Z0 q36 (Z0 (decide (l<=List.length (LF i))) (Z0 q37 (Z0 (decide (g<=List.length (GF i))) (Z0 q1 (Zb 1 q17 n q2 q2/\Z0 q36 (Zb 1 q17 l (Z6 X'.L) (Z6 (LF i))/\Z0 q37 (Zb 1 q17 g (Z6 G) (Z6 (GF i))/\True) False) False) False) False) False) False) False) False) False) False) False) False) False) False)/\(False->False)/\(False->False))
 False)
 False)
 False)
 False)
 False)
 False)
 False)
 False)
 False)
 False) (by kernel_rfl) ?_
 conv=>zeta
 try simp only [Zj]
 try simp only [Zl]
 try simp only [Zi]
 try simp only [Zm]
 try simp only [Zn]
 try simp only [Zh]
 try simp only [Int.toNat_natCast,Nat.zero_add,true_and,and_true,Nat.le_refl]
 subst hG hX'
 have hR:∀τ k (Q:List Z7),Zb 1 τ k (Z6 Q) (Z6 Q):=fun τ k Q=>Zo fun _ _=>rfl
 refine ⟨hR _ _ _,rfl,rfl,rfl,rfl,rfl,hC,fun i hi _=>⟨fun he=> ?_,fun h=>h,fun h=>h⟩⟩
 subst he
 repeat' apply And.intro
 all_goals first|rfl|exact hR _ _ _|exact hl.symm|exact hg.symm|exact Nat.le_of_eq hl|exact Nat.le_of_eq hg
def Z5T:Yf:=fun args h K=>match args with
 | [.agg [_,_,_,_,_,_,_,_,_,_,_,_,.nslice ⟨b,0,70,0,0⟩ 70 _ _]]=>frA [b] h 20 args fun Bs a=>match Bs,a with
  | [.rows 70 n f],[.agg cs]=>
   ∃X,LD cs n f X/\X.Inv Zs/\K (.ret (.tuple [.agg ((brkX X).c (slH h.next (brkX X).L.length)),slH (h.next+1) (ZL X.L).length])) ⟨h.next+2,(b,.rows 70 X.L.length (Z6 X.L))::(h.next,.rows 70 (brkX X).L.length (Z6 (brkX X).L))::(h.next+1,.rows 70 (ZL X.L).length (Z6 (ZL X.L)))::Yc h.bs b⟩
  | _,_=>False
 | _=>False
theorem Z8X (args:List AV) (h:Za) (K:KO) (hl:Z5T args h K):Zp PP 55 args h K:=by
 unfold Z5T at hl
 split at hl
 ·refine Spec.fsumm hl fun Bs a hlen hK0=> ?_
  split at hK0
  ·rename_i cs n f
   obtain ⟨X,⟨rfl,rfl,rfl⟩,hI,hK⟩:=hK0
   have e:=Z9X X
   have hv:=Zlk X (brkX X) X.L.length _ _ (ZL X.L) (Z8N X X.L.length) (bkX X) (fun i=>ZL (X.L.take i)) (fun i=>Ym (X.L.take i)) hI.bk (by rw [List.take_length]) (by dsimp only;rw [List.take_length];exact e) rfl rfl
   exact ⟨_,_,_,_,_,.evM (ZeK X _) hv,by simp,.ret _ _ rfl,.cons _ _ _ _ _ _ rfl (.rows _ _ _ (fun _ _=>rfl)) (.cons _ _ _ _ _ _ rfl (.rows _ _ _ (fun _ _=>rfl)) (.cons _ _ _ _ _ _ rfl (.rows _ _ _ (fun _ _=>rfl)) .nil)),hK⟩
  ·exact hK0.elim
 ·exact hl.elim
end Go.Tk
end
section
namespace Go.Tk
open IntKind (i64 u8 u32 u64 wrap)
noncomputable def Zhe:Zg:=(G0.withP 104 sdS).withP 109 Zbu
theorem Zak:Zhe.Ok:=Zg.withP_ok (Zg.withP_ok Zv Z8Q) ZdS
def slP (b n:Nat):AV:=.nslice ⟨b,0,36,0,0⟩ 36 n n
def Zll (X:Z8) (k ow:Int) (pt:List Int) (a b:Int) (P:List YF):Za:=⟨4,[(0,.flat (X.c (.vrows 70 X.L.length (Z6 X.L) X.L.length))),(1,.flat srZ),(2,.flat [.int .i64 k,.int .i64 ow,.arr .u8 32 pt,.arr .i64 2 [a,b],slP 3 P.length]),(3,.rows 36 P.length (ZH P))]⟩
def Zhf (X:Z8) (o:Bool) (k ow:Int) (pt:List Int) (i:Nat) (a b:Int) (P:List YF):St:=⟨113,[(11,.int .i64 i),(4,.ptr (some ⟨0,0,0,0,0⟩)),(1,.bool o),(10,.ptr (some ⟨2,0,0,0,0⟩)),(8,.ptr (some ⟨1,0,0,0,0⟩))],Zll X k ow pt a b P,[]⟩
def Z8Y (k ow:Int) (pt:List Int) (a b:Int) (P:List YF):St:=⟨113,[(10,.ptr (some ⟨1,0,0,0,0⟩)),(8,.ptr (some ⟨0,0,0,0,0⟩))],⟨3,[(0,.flat srZ),(1,.flat [.int .i64 k,.int .i64 ow,.arr .u8 32 pt,.arr .i64 2 [a,b],slP 2 P.length]),(2,.rows 36 P.length (ZH P))]⟩,[]⟩
theorem Zlm (X:Z8) (o:Bool) (k ow:Int) (pt:List Int) (n i:Nat) (a b a1 b1:Int) (P P1:List YF) (x:Z7) (Z1 Z2:Prop) (hn:n<1000) (hL:X.L.length=n) (hi:i<=n) (hX:X3 X) (hP:P.length<1000) (hx:i<n->X.L.getD i Zc=x) (hst:i<n->1<=x.stage/\x.stage<=9) (hP1:i<n->P1=P++Ze0 (YG x.own x.stage o) (Qt X.side x)) (ha:i<n->(a1,b1)=srP X.side o (a,b) x) (hw:i<n->(-1152921504606846976<=a/\a<=1152921504606846976)/\(-1152921504606846976<=b/\b<=1152921504606846976)/\0<=x.amount/\x.amount<=1152921504606846976) (hZ1:i<n->Z1) (hZ2:i=n->Z2):
  ZG Zhe 20 56 0 0 (Zhf X o k ow pt i a b P) (rdM 0 0 9 (Zhf X o k ow pt (i+1) a1 b1 P1) (Z8Y k ow pt a b P) (Z8Y k ow pt a b P) (Z8Y k ow pt a b P) Z1 Z2 False False):=by
 refine @Eq.mpr _ (let q1:=X.L;let q2:=List.length q1;let q3:=X.t;let q4:=q3.fund;let q5:=q3.index;let q6:=q3.cap;let q7:=q3.dust;let q8:=q3.fee;let q9:=q3.delay;let q10:=q3.k0;let q11:=q3.k1;let q12:=X.side;let q13:=X.res;let q14:=[X.a0,X.a1];let q15:=[X.i0,X.i1];let q16:=Z6 q1;let q17:=List.getD q1 (Int.toNat (↑i:Int)) Zc;let q18:=q17.own;let q19:=q17.stage;let q20:=YG q18 q19 o;let q21:=List.length P;let q22:=decide (q21=q21);let q23:=q21+1;let q24:=decide (wrap i64 ((↑i:Int)+1)=(↑(i+1):Int));let q25:=decide (o=o);let q26:=q4=q4;let q27:=decide (q5=q5);let q28:=decide (q6=q6);let q29:=decide (q7=q7);let q30:=decide (q8=q8);let q31:=decide (q9=q9);let q32:=q10=q10;let q33:=q11=q11;let q34:=decide (q12=q12);let q35:=decide (q13=q13);let q36:=q14=q14;let q37:=q15=q15;let q38:=decide (q2=q2);let q39:=q16=q16;let q40:=[(0:Int),0];let q41:=q40=q40;let q42:=decide (k=k);let q43:=decide (ow=ow);let q44:=[a,b];let q45:=q17.amount;let q46:=[a1,b1];let q47:=List.length P1;let q48:=decide (q23=q47);let q49:=[(1,1),(2,2),(0,0)];let q50:=ZH P;let q51:=decide (q21=q47);let q52:=Z0 q51 (Z0 (decide (q47<=q21)) (Z0 q51 (Zb 0 ((3,3)::q49) q47 (ZH P1) q50/\Z1) False) False) False;let q53:=Z0 q24 (Z0 q25 (q26/\Z0 q27 (Z0 q28 (Z0 q29 (Z0 q30 (Z0 q31 (q32/\q33/\Z0 q34 (Z0 q35 (q36/\q37/\Z0 q38 (q39/\Z0 q38 (Zf=Zf/\q41/\Z0 q42 (Z0 q43 (pt=pt/\q44=q46/\q52) False) False) False) False) False) False) False) False) False) False) False) False) False;
 Z0 (decide ((↑i:Int)<(↑q2:Int)))
 (Z0 (decide (0<=(↑i:Int)/\(↑i:Int)<(↑q2:Int)))
 (∃(X:Z8),
 let q107:=X.side;let q108:=ZD q107 q18;let q109:=decide (0<=q108/\q108<2);let q110:=0+Int.toNat q108;let q111:=decide (q110<2);let q112:=decide (i64=i64/\q110<2/\q110<2);let q113:=List.set q44 q110 (wrap i64 (List.getD q44 q110 0-q45));let q114:=Z0 q22 (Z0 (decide (q23*64<=140737488355328)) (Z0 q109 (Z0 q111 (Z0 q109 (Z0 q112 (Z0 q24 (Z0 q25 (q26/\Z0 q27 (Z0 q28 (Z0 q29 (Z0 q30 (Z0 q31 (q32/\q33/\Z0 q34 (Z0 q35 (q36/\q37/\Z0 q38 (q39/\Z0 q38 (Zf=Zf/\q41/\Z0 q42 (Z0 q43 (pt=pt/\q113=q46/\Z0 q48 (Z0 (decide (q47<=q23)) (Z0 q48 (Zb 0 ((3,6)::q49) q47 (ZH P1) (Y2 q21 q50 (YQ [AV.int i64 q108,AV.int i64 q17.id,AV.int i64 q45,AV.arr u8 32 q17.hash,AV.int i64 q17.expiry] 0 36))/\Z1) False) False) False) False) False) False) False) False) False) False) False) False) False) False) False) False) False) False) False) False) False) False;let q115:=wrap i64 (1-q108);let q116:=decide (0<=q115/\q115<2);let q117:=0+Int.toNat q115;let q118:=Z0 (q17.fin==1) (Z0 q109 (Z0 q111 (Z0 q109 (Z0 q112 (Z0 q116 (Z0 (decide (q117<2)) (Z0 q116 (Z0 (decide (i64=i64/\q117<2/\q117<List.length q113)) (Z0 q24 (Z0 q25 (q26/\Z0 q27 (Z0 q28 (Z0 q29 (Z0 q30 (Z0 q31 (q32/\q33/\Z0 q34 (Z0 q35 (q36/\q37/\Z0 q38 (q39/\Z0 q38 (Zf=Zf/\q41/\Z0 q42 (Z0 q43 (pt=pt/\List.set q113 q117 (wrap i64 (List.getD q113 q117 0+q45))=q46/\q52) False) False) False) False) False) False) False) False) False) False) False) False) False) False) False) False) False) False) False) False) False) q53;
 LV [AV.arr u8 32 q4,AV.int i64 q5,AV.int i64 q6,AV.int i64 q7,AV.int i64 q8,AV.int i64 q9,AV.arr u8 32 q10,AV.arr u8 32 q11,AV.int i64 q12,AV.int i64 q13,AV.arr i64 2 q14,AV.arr i64 2 q15,AV.vrows 70 q2 q16 q2] X/\(0<=q107/\q107<=1)/\Z0 (q18==o) (Z0 q20 q114 (Z0 (decide (q19>6)) q118 q53)) (Z0 q20 q114 (Z0 (decide (q19>8)) q118 q53)))
 False)
 (Zf=Zf/\q41/\Z0 q42 (Z0 q43 (pt=pt/\q44=q44/\Z0 q22 (Z0 (decide (q21<=q21)) (Z0 q22 (Zb 0 [(2,3),(0,1),(1,2)] q21 q50 q50/\Z2) False) False) False) False) False)) (by kernel_rfl) ?_
 conv=>zeta
 try simp only [Zj]
 try simp only [Zl]
 try simp only [Zi]
 try simp only [Zm]
 try simp only [Zn]
 try simp only [Zh]
 try simp only [Int.toNat_natCast,Nat.zero_add,true_and,and_true,Nat.le_refl]
 subst hL
 refine ⟨fun hc=> ?_,fun hc=>⟨XS fun _ _=>rfl,hZ2 (by omega)⟩⟩
 have hlt:i<X.L.length:=by omega
 rw [hx hlt]
 have hst:=hst hlt
 have hP1:=hP1 hlt
 have ha:=ha hlt
 obtain ⟨b1',b2',b3'⟩:=hw hlt
 have hs:X.side=0\/X.side=1:=by obtain ⟨s1,s2⟩:=hX;omega
 have hfr:=Z4O hs x.own
 have hab:[a1,b1]=[(srP X.side o (a,b) x).1,(srP X.side o (a,b) x).2]:=by rw [<-ha]
 have hwr:i64.wrap ((i:Int)+1)=((i+1:Nat):Int):=by rw [w64 (by omega)];omega
 have hwf:i64.wrap (1-ZD X.side x.own)=1-ZD X.side x.own:=w64 (by omega)
 have hR:∀τ k (Q:List YF),Zb 0 τ k (ZH Q) (ZH Q):=fun τ k Q=>XS fun _ _=>rfl
 have hC:∀τ (Q:List YF) (y:YF),Zb 0 τ (Q++[y]).length (ZH (Q++[y])) (Y2 Q.length (ZH Q) (YQ y.c 0 36)):=fun τ Q y=>XS fun j hj=>Z1A (by simpa using hj)
 have e:=Q8 hfr b1' b2' b3'
 have k1:=Z5R hfr b1' b2' b3'
 have hl2:([a,b].set (ZD X.side x.own).toNat (i64.wrap ([a,b].getD (ZD X.side x.own).toNat 0-x.amount))).length=2:=by simp
 refine ⟨by omega,X,.a rfl,hX, ?_⟩
 rw [hwr,hwf,e,hl2,k1]
 have hpo:Qt X.side x=⟨ZD X.side x.own,x.id,x.amount,x.hash,x.expiry⟩:=rfl
 have s0:YG x.own x.stage o=true->P1=P++[⟨ZD X.side x.own,x.id,x.amount,x.hash,x.expiry⟩]/\[a1,b1]=[(if ZD X.side x.own=0 then (a-x.amount,b) else (a,b-x.amount)).1,(if ZD X.side x.own=0 then (a-x.amount,b) else (a,b-x.amount)).2]:=fun h=>by
  unfold srP at hab
  rw [h] at hab hP1
  exact ⟨by rw [hP1,hpo];rfl,hab⟩
 have s1:YG x.own x.stage o=false->P1=P/\(6<x.stage->x.fin=1->[a1,b1]=if ZD X.side x.own=0 then [a-x.amount,b+x.amount] else [a+x.amount,b-x.amount])/\(6<x.stage->¬x.fin=1->[a1,b1]=[a,b])/\(¬6<x.stage->[a1,b1]=[a,b]):=fun h=>by
  unfold srP at hab
  rw [h] at hab hP1
  simp only at hab
  refine ⟨by rw [hP1];simp [Ze0],fun h6 hf=> ?_,fun h6 hf=> ?_,fun h6=> ?_⟩
  ·rw [if_pos h6,UG hf] at hab;exact hab
  ·rw [if_pos h6,Z0w hf] at hab;exact hab
  ·rw [if_neg h6] at hab;exact hab
 refine ⟨fun ho=>⟨fun hst1=> ?_,fun hst0=>⟨fun h6=>⟨fun hf=> ?_,fun hf=> ?_⟩,fun h6=> ?_⟩⟩,fun ho=>⟨fun hst1=> ?_,fun hst0=>⟨fun h6=>⟨fun hf=> ?_,fun hf=> ?_⟩,fun h6=> ?_⟩⟩⟩
 ·obtain ⟨q1,q2⟩:=s0 hst1
  rw [q2]
  subst q1
  repeat' apply And.intro
  all_goals first|omega|rfl|exact hZ1 hlt|exact hC _ _ _|exact hR _ _ _|(simp;done)|skip
 ·obtain ⟨q1,q2,q3,q4⟩:=s1 hst0
  rw [q2 (by omega) (by simpa using hf)]
  subst q1
  repeat' apply And.intro
  all_goals first|omega|rfl|exact hZ1 hlt|exact hC _ _ _|exact hR _ _ _|(simp;done)|skip
 ·obtain ⟨q1,q2,q3,q4⟩:=s1 hst0
  rw [q3 (by omega) (by simpa using hf)]
  subst q1
  repeat' apply And.intro
  all_goals first|omega|rfl|exact hZ1 hlt|exact hC _ _ _|exact hR _ _ _|(simp;done)|skip
 ·obtain ⟨q1,q2,q3,q4⟩:=s1 hst0
  rw [q4 (by omega)]
  subst q1
  repeat' apply And.intro
  all_goals first|omega|rfl|exact hZ1 hlt|exact hC _ _ _|exact hR _ _ _|(simp;done)|skip
 ·obtain ⟨q1,q2⟩:=s0 hst1
  rw [q2]
  subst q1
  repeat' apply And.intro
  all_goals first|omega|rfl|exact hZ1 hlt|exact hC _ _ _|exact hR _ _ _|(simp;done)|skip
 ·obtain ⟨q1,q2,q3,q4⟩:=s1 hst0
  have hno:¬x.own=o:=by simpa using ho
  have hsd:¬(2<=x.stage/\x.stage<=8):=by unfold YG at hst0;rw [if_neg hno] at hst0;exact of_decide_eq_false hst0
  rw [q2 (by omega) (by simpa using hf)]
  subst q1
  repeat' apply And.intro
  all_goals first|omega|rfl|exact hZ1 hlt|exact hC _ _ _|exact hR _ _ _|(simp;done)|skip
 ·obtain ⟨q1,q2,q3,q4⟩:=s1 hst0
  have hno:¬x.own=o:=by simpa using ho
  have hsd:¬(2<=x.stage/\x.stage<=8):=by unfold YG at hst0;rw [if_neg hno] at hst0;exact of_decide_eq_false hst0
  rw [q3 (by omega) (by simpa using hf)]
  subst q1
  repeat' apply And.intro
  all_goals first|omega|rfl|exact hZ1 hlt|exact hC _ _ _|exact hR _ _ _|(simp;done)|skip
 ·obtain ⟨q1,q2,q3,q4⟩:=s1 hst0
  have hno:¬x.own=o:=by simpa using ho
  have hsd:¬(2<=x.stage/\x.stage<=8):=by unfold YG at hst0;rw [if_neg hno] at hst0;exact of_decide_eq_false hst0
  rw [q4 (by omega)]
  subst q1
  repeat' apply And.intro
  all_goals first|omega|rfl|exact hZ1 hlt|exact hC _ _ _|exact hR _ _ _|(simp;done)|skip
def Zal (X:Z8) (o:Bool) (k ow:Int) (pt:List Int) (i:Nat):St:=Zhf X o k ow pt i (Xg X.side o (X.a0,X.a1) (X.L.take i)).1 (Xg X.side o (X.a0,X.a1) (X.L.take i)).2 (ZI X.side o (X.L.take i))
def Zam (X:Z8) (o:Bool) (k ow:Int) (pt:List Int) (i:Nat):St:=Z8Y k ow pt (Xg X.side o (X.a0,X.a1) (X.L.take i)).1 (Xg X.side o (X.a0,X.a1) (X.L.take i)).2 (ZI X.side o (X.L.take i))
def ZeL (X:Z8) (n:Nat):Prop:=Ze2 X n/\∀h∈X.L,1<=h.stage/\h.stage<=9
theorem Zln (X:Z8) (o:Bool) (k ow:Int) (pt:List Int) (n i:Nat) (hC:ZeL X n) (hi:i<=n):ZG Zhe 20 56 0 0 (Zal X o k ow pt i) (rdM 0 0 9 (Zal X o k ow pt (i+1)) (Zam X o k ow pt i) (Zam X o k ow pt i) (Zam X o k ow pt i) (i<n/\i<n) (i=n) False False):=by
 obtain ⟨⟨h1,h2,h3,h4,h5,h6⟩,h7⟩:=id hC
 have hlt:i<n->i<X.L.length:=fun h=>by omega
 have l0:(X.L.take i).length<=16:=by rw [List.length_take];omega
 have l1:=WH X.side o (X.L.take i)
 have hb:=Z3F (side:=X.side) (o:=o) h4 h5 h6 i (by omega)
 refine Zlm X o k ow pt n i _ _ _ _ _ _ (X.L.getD i Zc) (i<n/\i<n) (i=n) (by omega) h1 hi (show 0<=X.side/\X.side<=1 by omega) (by omega) (fun _=>rfl) (fun h=>h7 _ (ZM (hlt h))) (fun h=> ?_) (fun h=> ?_) (fun h=>⟨by omega,by omega, ?_⟩) (fun h=>⟨h,h⟩) (fun h=>h)
 ·rw [Yj (hlt h),Z4S]
 ·unfold Xg
  rw [Yj (hlt h),List.foldl_append];rfl
 ·have:=h4 _ (ZM (hlt h));omega
noncomputable def Zan (X:Z8) (o:Bool) (k ow:Int) (pt:List Int) (n:Nat) (C:Prop) (E:Nat->St):Zg:=Zhe.withL 56 0 (goM 0 (Zhf X o k ow pt 0 X.a0 X.a1 []) C (YJ 0 n 9 (fun i=>i<n) (fun i=>i=n) (fun _=>False) (fun _=>False) E E E))
theorem ZeM (X:Z8) (o:Bool) (k ow:Int) (pt:List Int) (n:Nat):(Zan X o k ow pt n (ZeL X n) (Zam X o k ow pt)).Ok:=
 Zg.withGoM (N:=20) (S:=Zal X o k ow pt) Zak (by kernel_rfl) fun hC=>⟨rfl,fun i hi _=>Zln X o k ow pt n i hC hi⟩
theorem Zlo (X:Z8) (o:Bool) (k ow:Int) (pt:List Int) (n l:Nat) (a b:Int) (P:List YF) (C:Prop) (AF BF:Nat->Int) (PF:Nat->List YF) (hC:C) (hs:0<=X.side/\X.side<=1) (hk:0<=k/\k<=2147483647) (how:ow=ZD X.side o) (ha:a=AF n) (hb:b=BF n) (hP:P=PF n) (hl:l=P.length):
  evF (Zan X o k ow pt n C fun i=>Z8Y k ow pt (AF i) (BF i) (PF i)) 20 56 [Zbw X,.bool o,.int .i64 k,.agg [.arr .u8 32 pt]] ⟨0,[]⟩ (Y5 0 (.ret (.tuple [.agg [.int .i64 k,.int .i64 ow,.arr .u8 32 pt,.arr .i64 2 [a,b],slP 0 l],.int .i64 0])) 1 [(0,.rows 36 l (ZH P))]):=by
 refine @Eq.mpr _ (let q1:=[(0:Int),0];let q2:=[a,b];let q3:=decide (l=0);let q4:=Z0 (decide (0=k)) (Z0 (decide (0=ow)) (Zf=pt/\q1=q2/\Z0 q3 (Z0 q3 False False) False) False) False;let q5:=X.t;let q6:=q5.fund;let q7:=q5.index;let q8:=q5.cap;let q9:=q5.dust;let q10:=q5.fee;let q11:=q5.delay;let q12:=q5.k0;let q13:=q5.k1;let q14:=X.side;let q15:=X.res;let q16:=[X.a0,X.a1];let q17:=[X.i0,X.i1];let q18:=List.length X.L;let q19:=Z6 X.L;let q20:=q16=q16;let q21:=decide (q18=q18);let q22:=decide (k=k);
 Z0 (decide (k<0)) q4
 (Z0 (decide (k>2147483647)) q4
 (∃(X:Z8),
 let q45:=X.side;
 LV [AV.arr u8 32 q6,AV.int i64 q7,AV.int i64 q8,AV.int i64 q9,AV.int i64 q10,AV.int i64 q11,AV.arr u8 32 q12,AV.arr u8 32 q13,AV.int i64 q14,AV.int i64 q15,AV.arr i64 2 q16,AV.arr i64 2 q17,AV.vrows 70 q18 q19 q18] X/\
 (0<=q45/\q45<=1)/\
 Z0 (decide (o=o))
 (q6=q6/\
 Z0 (decide (q7=q7))
 (Z0 (decide (q8=q8))
 (Z0 (decide (q9=q9))
 (Z0 (decide (q10=q10))
 (Z0 (decide (q11=q11))
 (q12=q12/\
 q13=q13/\
 Z0 (decide (q14=q14))
 (Z0 (decide (q15=q15))
 (q20/\
 q17=q17/\
 Z0 q21
 (q19=q19/\
 Z0 q21
 (Zf=Zf/\
 q1=q1/\
 Z0 q22
 (Z0 (decide (ZD q45 o=ow))
 (pt=pt/\
 q20/\
 C/\
 ∀(i:Nat),
 let q47:=decide (List.length (PF i)=l);
 i<=n->(∀(j:Nat),j<i->(fun (i:Nat)=>i<n) j)->(i=n->Z0 q22 (Z0 (decide (ow=ow)) (pt=pt/\[AF i,BF i]=q2/\Z0 q47 (Z0 (decide (l<=List.length (PF i))) (Z0 q47 (Zb 0 [(0,2)] l (ZH P) (ZH (PF i))/\True) False) False) False) False) False)/\(False->False)/\(False->False))
 False)
 False)
 False)
 False)
 False)
 False)
 False)
 False)
 False)
 False)
 False)
 False))) (by kernel_rfl) ?_
 conv=>zeta
 try simp only [Zj]
 try simp only [Zl]
 try simp only [Zi]
 try simp only [Zm]
 try simp only [Zn]
 try simp only [Zh]
 try simp only [Int.toNat_natCast,Nat.zero_add,true_and,and_true,Nat.le_refl]
 subst ha hb hP
 refine ⟨fun h=>absurd h (by omega),fun _=>⟨fun h=>absurd h (by omega),fun _=>⟨X,.a rfl,hs,how.symm,hC,fun i hi _=>⟨fun he=> ?_,fun h=>h,fun h=>h⟩⟩⟩⟩
 subst he
 exact ⟨rfl,hl.symm,Nat.le_of_eq hl,hl.symm,XS fun _ _=>rfl⟩
theorem Zlp (X:Z8) (o:Bool) (k ow:Int) (pt:List Int) (n:Nat) (C:Prop) (hk:¬(0<=k/\k<=2147483647)):
  evF (Zan X o k ow pt n C fun i=>Z8Y k ow pt 0 0 []) 20 56 [Zbw X,.bool o,.int .i64 k,.agg [.arr .u8 32 pt]] ⟨0,[]⟩ (Yo fun v=>v=.tuple [.agg srZ,.int .i64 2]):=by
 refine @Eq.mpr _ (let q1:=[(0:Int),0];let q2:=[AV.int i64 2];let q3:=AV.tuple (AV.agg [AV.int i64 0,AV.int i64 0,AV.arr u8 32 Zf,AV.arr i64 2 q1,AV.nilslice]::q2)=AV.tuple (AV.agg srZ::q2);let q4:=X.t;let q5:=q4.fund;let q6:=q4.index;let q7:=q4.cap;let q8:=q4.dust;let q9:=q4.fee;let q10:=q4.delay;let q11:=q4.k0;let q12:=q4.k1;let q13:=X.side;let q14:=X.res;let q15:=[X.a0,X.a1];let q16:=[X.i0,X.i1];let q17:=List.length X.L;let q18:=Z6 X.L;let q19:=q15=q15;let q20:=decide (q17=q17);
 Z0 (decide (k<0)) q3
 (Z0 (decide (k>2147483647)) q3
 (∃(X:Z8),
 let q41:=X.side;
 LV [AV.arr u8 32 q5,AV.int i64 q6,AV.int i64 q7,AV.int i64 q8,AV.int i64 q9,AV.int i64 q10,AV.arr u8 32 q11,AV.arr u8 32 q12,AV.int i64 q13,AV.int i64 q14,AV.arr i64 2 q15,AV.arr i64 2 q16,AV.vrows 70 q17 q18 q17] X/\(0<=q41/\q41<=1)/\Z0 (decide (o=o)) (q5=q5/\Z0 (decide (q6=q6)) (Z0 (decide (q7=q7)) (Z0 (decide (q8=q8)) (Z0 (decide (q9=q9)) (Z0 (decide (q10=q10)) (q11=q11/\q12=q12/\Z0 (decide (q13=q13)) (Z0 (decide (q14=q14)) (q19/\q16=q16/\Z0 q20 (q18=q18/\Z0 q20 (Zf=Zf/\q1=q1/\Z0 (decide (k=k)) (Z0 (decide (ZD q41 o=ow)) (pt=pt/\q19/\C/\∀(i:Nat),i<=n->(∀(j:Nat),j<i->(fun (i:Nat)=>i<n) j)->(i=n->False)/\(False->False)/\(False->False)) False) False) False) False) False) False) False) False) False) False) False) False))) (by kernel_rfl) ?_
 conv=>zeta
 try simp only [Zj]
 try simp only [Zl]
 try simp only [Zi]
 try simp only [Zm]
 try simp only [Zn]
 try simp only [Zh]
 try simp only [Int.toNat_natCast,Nat.zero_add,true_and,and_true,Nat.le_refl]
 exact ⟨fun _=>rfl,fun h1=>⟨fun _=>rfl,fun h2=>absurd ⟨by omega,by omega⟩ hk⟩⟩
def Z3K (c:Bool):Yf:=fun args h K=>ZU none h true 20 args fun a=>match a with
 | [.agg cs,.bool o,.int .i64 k,.agg [.arr .u8 32 pt]]=>∃X,LV cs X/\X.Inv Zs/\(match c with
  | true=>(0<=k/\k<=2147483647)/\K (.ret (.tuple [.agg [.int .i64 k,.int .i64 (ZD X.side o),.arr .u8 32 pt,.arr .i64 2 [(Xh X o).1,(Xh X o).2],slP h.next (ZI X.side o X.L).length],.int .i64 0])) ⟨h.next+1,(h.next,.rows 36 (ZI X.side o X.L).length (ZH (ZI X.side o X.L)))::h.bs⟩
  | false=>¬(0<=k/\k<=2147483647)/\K (.ret (.tuple [.agg srZ,.int .i64 2])) ⟨h.next,h.bs⟩)
 | _=>False
theorem Z1C (c:Bool) (args:List AV) (h:Za) (K:KO) (hl:Z3K c args h K):Zp PP 56 args h K:=by
 refine ZC.fsumm (d:=20) (Zu _ _ _ _ _ hl fun a ha=> ?_)
 split at ha
 ·rename_i cs o k pt
  obtain ⟨X,hX,hI,hK⟩:=ha
  cases c with
  | true=>
   obtain ⟨hk,hK1⟩:=hK
   have hv:=Zlo X o k (ZD X.side o) pt X.L.length _ (Xh X o).1 (Xh X o).2 (ZI X.side o X.L) (ZeL X X.L.length) (fun i=>(Xg X.side o (X.a0,X.a1) (X.L.take i)).1) (fun i=>(Xg X.side o (X.a0,X.a1) (X.L.take i)).2) (fun i=>ZI X.side o (X.L.take i)) ⟨hI.sr,hI.stage⟩ (by have:=hI.side;omega) hk rfl (by rw [List.take_length];rfl) (by rw [List.take_length];rfl) (by rw [List.take_length]) rfl
   exact ⟨_,_,_,_,(ZC.evM (ZeM X o k _ pt _) hv).conv fun E r hr=>hr.head (fun _ hc=>Z03 hX hc) fun _ hc=>hc,rfl,⟨Nat.one_pos,.rows _ _ _ (fun i _=>U5 _ i),trivial⟩,hK1⟩
  | false=>
   obtain ⟨hk,hK2⟩:=hK
   have hC:(Zan X o k 0 pt X.L.length False fun _=>Z8Y k 0 pt 0 0 []).Ok:=Zg.withGoM (N:=20) (S:=fun i=>Zal X o k 0 pt i) Zak (by kernel_rfl) fun h=>h.elim
   exact ⟨_,_,_,_,(ZC.evV hC (Zlp X o k 0 pt _ False hk)).conv fun E r hr=>hr.head (fun _ hc=>Z03 hX hc) fun _ hc=>hc,rfl,trivial,hK2⟩
 ·exact ha.elim
end Go.Tk
end
section
namespace Go.Tk
open IntKind (i64 u8 u32 u64 wrap)
def Z7o (A B:List Z7) (i:Nat):St:=⟨26,[(5,.int .i64 i),(0,.vrows 70 A.length (Z6 A) A.length),(1,.vrows 70 B.length (Z6 B) B.length)],⟨0,[]⟩,[]⟩
def Z41:St:=⟨26,[],⟨0,[]⟩,[]⟩
theorem Zlq (A:List Z7) (n i:Nat) (Z1 Z2:Prop) (hn:n<1000) (hA:A.length=n) (hi:i<=n) (hOk:∀h∈A,h.Ok) (h1:i<n->Z1) (h2:i=n->Z2):
  ZG G0 20 54 0 0 (Z7o A A i) (rdM 0 0 9 (Z7o A A (i+1)) Z41 Z41 Z41 Z1 Z2 False False):=by
 refine @Eq.mpr _ (let q1:=List.length A;let q2:=decide (0<=(↑i:Int)/\(↑i:Int)<(↑q1:Int));let q3:=List.getD A (Int.toNat (↑i:Int)) Zc;let q4:=q3.hash;let q5:=q3.secret;let q6:=q3.own;let q7:=q3.id;let q8:=q3.amount;let q9:=q3.expiry;let q10:=q3.stage;let q11:=q3.fin;let q12:=decide (q1=q1);let q13:=Z6 A=Z6 A;
 Z0 (decide ((↑i:Int)<(↑q1:Int))) (Z0 q2 (Z0 q2 (Z0 (decide (List.length q4=32/\List.length q4=32)) (Z0 (decide (List.length q5=32/\List.length q5=32)) (Z0 (!(q6==q6&&(q7==q7&&(q8==q8&&(q4==q4&&(q9==q9&&(q10==q10&&(q11==q11&&q5==q5)))))))) False (Z0 (decide (wrap i64 ((↑i:Int)+1)=(↑(i+1):Int))) (Z0 q12 (q13/\Z0 q12 (Z0 q12 (q13/\Z0 q12 Z1 False) False) False) False) False)) False) False) False) False) Z2) (by kernel_rfl) ?_
 conv=>zeta
 try simp only [Zj]
 try simp only [Zl]
 try simp only [Zi]
 try simp only [Zm]
 try simp only [Zn]
 try simp only [Zh]
 try simp only [Int.toNat_natCast,Nat.zero_add,true_and,and_true,Nat.le_refl]
 subst hA
 refine ⟨fun hc=> ?_,fun hc=>h2 (by omega)⟩
 have hlt:i<A.length:=by omega
 have hwr:i64.wrap ((i:Int)+1)=((i+1:Nat):Int):=by rw [w64 (by omega)];omega
 have hx:=hOk _ (ZM hlt)
 exact ⟨by omega,by omega,⟨hx.hash,hx.hash⟩,⟨hx.secret,hx.secret⟩,by simp,hwr,h1 hlt⟩
def Zhg (s p:Int) (pt:List Int) (a b:Int) (P:List YF) (i:Nat):St:=⟨59,[(5,.int .i64 i),(2,.ptr (some ⟨0,0,0,0,0⟩)),(3,.ptr (some ⟨1,0,0,0,0⟩))],⟨2,[(0,.flat [.int .i64 s,.int .i64 p,.arr .u8 32 pt,.arr .i64 2 [a,b],.vrows 36 P.length (ZH P) P.length]),(1,.flat [.int .i64 s,.int .i64 p,.arr .u8 32 pt,.arr .i64 2 [a,b],.vrows 36 P.length (ZH P) P.length])]⟩,[]⟩
def ZbD:St:=⟨59,[],⟨0,[]⟩,[]⟩
theorem Zlr (s p:Int) (pt:List Int) (a b:Int) (P:List YF) (n i:Nat) (Z1 Z2:Prop) (hn:n<1000) (hP:P.length=n) (hi:i<=n) (hOk:∀q∈P,q.hash.length=32) (h1:i<n->Z1) (h2:i=n->Z2):
  ZG G0 20 57 0 0 (Zhg s p pt a b P i) (rdM 0 0 9 (Zhg s p pt a b P (i+1)) ZbD ZbD ZbD Z1 Z2 False False):=by
 refine @Eq.mpr _ (let q1:=List.length P;let q2:=decide (0<=(↑i:Int)/\(↑i:Int)<(↑q1:Int));let q3:=List.getD P (Int.toNat (↑i:Int)) Z7b;let q4:=q3.hash;let q5:=q3.frm;let q6:=q3.id;let q7:=q3.amount;let q8:=q3.expiry;let q9:=decide (s=s);let q10:=decide (p=p);let q11:=[a,b];let q12:=q11=q11;let q13:=decide (q1=q1);let q14:=ZH P=ZH P;
 Z0 (decide ((↑i:Int)<(↑q1:Int))) (Z0 q2 (Z0 q2 (Z0 (decide (List.length q4=32/\List.length q4=32)) (Z0 (!(q5==q5&&(q6==q6&&(q7==q7&&(q4==q4&&q8==q8))))) False (Z0 (decide (wrap i64 ((↑i:Int)+1)=(↑(i+1):Int))) (Z0 q9 (Z0 q10 (pt=pt/\q12/\Z0 q13 (q14/\Z0 q13 (Z0 q9 (Z0 q10 (pt=pt/\q12/\Z0 q13 (q14/\Z0 q13 Z1 False) False) False) False) False) False) False) False) False)) False) False) False) Z2) (by kernel_rfl) ?_
 conv=>zeta
 try simp only [Zj]
 try simp only [Zl]
 try simp only [Zi]
 try simp only [Zm]
 try simp only [Zn]
 try simp only [Zh]
 try simp only [Int.toNat_natCast,Nat.zero_add,true_and,and_true,Nat.le_refl]
 subst hP
 refine ⟨fun hc=> ?_,fun hc=>h2 (by omega)⟩
 have hlt:i<P.length:=by omega
 have hwr:i64.wrap ((i:Int)+1)=((i+1:Nat):Int):=by rw [w64 (by omega)];omega
 have hx:=hOk (P.getD i Z7b) (by rw [List.getD_eq_getElem?_getD,List.getElem?_eq_getElem hlt];exact List.getElem_mem hlt)
 exact ⟨by omega,by omega,⟨hx,hx⟩,by simp,hwr,h1 hlt⟩
def ZlX:ZR:=fun args h K=>ZU none h true 20 args fun a=>match a with
 | [.agg cs]=>∃X,LV cs X/\X.Inv Zs/\K (.bool (ZiZ X.L))
 | _=>False
noncomputable def Zi7 (A:List Z7) (n:Nat) (C:Prop):Zg:=G0.withL 54 0 (goM 0 (Z7o A A 0) C (YJ 0 n 9 (fun i=>i<n) (fun i=>i=n) (fun _=>False) (fun _=>False) (fun _=>Z41) (fun _=>Z41) (fun _=>Z41)))
theorem ZeN (A:List Z7) (n:Nat):(Zi7 A n (n<1000/\A.length=n/\∀h∈A,h.Ok)).Ok:=
 Zg.withGoM (N:=20) (S:=fun i=>Z7o A A i) Zv (by kernel_rfl) fun hC=>⟨rfl,fun i hi _=>Zlq A n i _ _ hC.1 hC.2.1 hi hC.2.2 (fun h=>⟨h,h⟩) (fun h=>h)⟩
theorem Zls (A:List Z7) (n:Nat) (C:Prop) (hC:C):
  evF (Zi7 A n C) 20 54 [.vrows 70 A.length (Z6 A) A.length,.vrows 70 A.length (Z6 A) A.length] ⟨0,[]⟩ (Yo fun v=>v=.bool true):=by
 refine @Eq.mpr _ (let q1:=List.length A;let q2:=(↑q1:Int);let q3:=AV.bool true;let q4:=decide (q1=q1);let q5:=Z6 A=Z6 A;
 Z0 (q2 !=q2) (AV.bool false=q3) (Z0 q4 (q5/\Z0 q4 (Z0 q4 (q5/\Z0 q4 (C/\∀(i:Nat),i<=n->(∀(j:Nat),j<i->(fun (i:Nat)=>i<n) j)->(i=n->q3=q3)/\(False->False)/\(False->False)) False) False) False) False)) (by kernel_rfl) ?_
 conv=>zeta
 try simp only [Zj]
 try simp only [Zl]
 try simp only [Zi]
 try simp only [Zm]
 try simp only [Zn]
 try simp only [Zh]
 try simp only [Int.toNat_natCast,Nat.zero_add,true_and,and_true,Nat.le_refl]
 exact ⟨fun h=>by simp at h,fun _=>⟨hC,fun i _ _=>⟨fun _=>trivial,fun h=>h,fun h=>h⟩⟩⟩
theorem Zlt (u:Unit) :
  evF G0 20 54 [.nilslice,.nilslice] ⟨0,[]⟩ (Yo fun v=>v=.bool true):=by
 refine @Eq.mpr _ (AV.bool true=AV.bool true) (by kernel_rfl) ?_
 trivial
def Zao:ZR:=fun args h K=>ZU none h true 20 args fun a=>match a with
 | [.vrows 70 n f n',.vrows 70 m g m']=>∃A,(n=A.length/\n'=n/\m=n/\m'=n)/\(f=Z6 A/\g=Z6 A)/\n<1000/\(∀h∈A,h.Ok)/\K (.bool true)
 | [.nilslice,.nilslice]=>K (.bool true)
 | _=>False
theorem Z8Z (args:List AV) (h:Za) (K:AV->Prop) (hl:Zao args h K):Zp PP 54 args h fun o h'=>∃v,o=.ret v/\h'=h/\K v:=by
 refine ZC.psumm (d:=20) (Zu _ _ _ _ _ hl fun a ha=> ?_)
 split at ha
 ·obtain ⟨A,⟨rfl,rfl,rfl,rfl⟩,⟨rfl,rfl⟩,h1,h2,hK⟩:=ha
  exact ⟨_,ZC.evV (ZeN A _) (Zls A _ _ ⟨h1,rfl,h2⟩),fun _=>rfl,hK⟩
 ·exact ⟨_,ZC.evV Zv (Zlt ()),fun _=>rfl,ha⟩
 ·exact ha.elim
noncomputable def Zi8 (s p:Int) (pt:List Int) (a b:Int) (P:List YF) (n:Nat) (C:Prop):Zg:=G0.withL 57 0 (goM 0 (Zhg s p pt a b P 0) C (YJ 0 n 9 (fun i=>i<n) (fun i=>i=n) (fun _=>False) (fun _=>False) (fun _=>ZbD) (fun _=>ZbD) (fun _=>ZbD)))
theorem ZeO (s p:Int) (pt:List Int) (a b:Int) (P:List YF) (n:Nat):(Zi8 s p pt a b P n (n<1000/\P.length=n/\∀q∈P,q.hash.length=32)).Ok:=
 Zg.withGoM (N:=20) (S:=fun i=>Zhg s p pt a b P i) Zv (by kernel_rfl) fun hC=>⟨rfl,fun i hi _=>Zlr s p pt a b P n i _ _ hC.1 hC.2.1 hi hC.2.2 (fun h=>⟨h,h⟩) (fun h=>h)⟩
def Zi9 (s p:Int) (pt:List Int) (a b:Int) (P:List YF):AV:=.agg [.int .i64 s,.int .i64 p,.arr .u8 32 pt,.arr .i64 2 [a,b],.vrows 36 P.length (ZH P) P.length]
theorem Zlu (s p:Int) (pt:List Int) (a b:Int) (P:List YF) (n:Nat) (C:Prop) (hC:C) (hp:pt.length=32):
  evF (Zi8 s p pt a b P n C) 20 57 [Zi9 s p pt a b P,Zi9 s p pt a b P] ⟨0,[]⟩ (Yo fun v=>v=.bool true):=by
 refine @Eq.mpr _ (let q1:=AV.bool true;let q2:=AV.bool false=q1;let q3:=[a,b];let q4:=List.length P;let q5:=(↑q4:Int);let q6:=decide (s=s);let q7:=decide (p=p);let q8:=q3=q3;let q9:=decide (q4=q4);let q10:=ZH P=ZH P;
 Z0 (s !=s) q2 (Z0 (p !=p) q2 (Z0 (decide (List.length pt=32/\List.length pt=32)) (Z0 (!pt==pt) q2 (Z0 (!q3==q3) q2 (Z0 (q5 !=q5) q2 (Z0 q6 (Z0 q7 (pt=pt/\q8/\Z0 q9 (q10/\Z0 q9 (Z0 q6 (Z0 q7 (pt=pt/\q8/\Z0 q9 (q10/\Z0 q9 (C/\∀(i:Nat),i<=n->(∀(j:Nat),j<i->(fun (i:Nat)=>i<n) j)->(i=n->q1=q1)/\(False->False)/\(False->False)) False) False) False) False) False) False) False) False)))) False))) (by kernel_rfl) ?_
 conv=>zeta
 try simp only [Zj]
 try simp only [Zl]
 try simp only [Zi]
 try simp only [Zm]
 try simp only [Zn]
 try simp only [Zh]
 try simp only [Int.toNat_natCast,Nat.zero_add,true_and,and_true,Nat.le_refl]
 exact ⟨fun h=>by simp at h,fun _=>⟨fun h=>by simp at h,fun _=>⟨⟨hp,hp⟩,fun h=>by simp at h,fun _=>⟨fun h=>by simp at h,fun _=>⟨fun h=>by simp at h,fun _=>⟨hC,fun i _ _=>⟨fun _=>trivial,fun h=>h,fun h=>h⟩⟩⟩⟩⟩⟩⟩
theorem Zlv (s p:Int) (pt:List Int) (a b:Int) (hp:pt.length=32):
  evF G0 20 57 [.agg [.int .i64 s,.int .i64 p,.arr .u8 32 pt,.arr .i64 2 [a,b],.nilslice],.agg [.int .i64 s,.int .i64 p,.arr .u8 32 pt,.arr .i64 2 [a,b],.nilslice]] ⟨0,[]⟩ (Yo fun v=>v=.bool true):=by
 refine @Eq.mpr _ (let q1:=AV.bool true;let q2:=AV.bool false=q1;let q3:=[a,b];
 Z0 (s !=s) q2 (Z0 (p !=p) q2 (Z0 (decide (List.length pt=32/\List.length pt=32)) (Z0 (!pt==pt) q2 (Z0 (!q3==q3) q2 (q1=q1))) False))) (by kernel_rfl) ?_
 conv=>zeta
 try simp only [Zj]
 try simp only [Zl]
 try simp only [Zi]
 try simp only [Zm]
 try simp only [Zn]
 try simp only [Zh]
 try simp only [Int.toNat_natCast,Nat.zero_add,true_and,and_true,Nat.le_refl]
 exact ⟨fun h=>by simp at h,fun _=>⟨fun h=>by simp at h,fun _=>⟨⟨hp,hp⟩,fun h=>by simp at h,fun _=>⟨fun h=>by simp at h,fun _=>trivial⟩⟩⟩⟩
def Z3L:ZR:=fun args h K=>ZU none h true 20 args fun a=>match a with
 | [.agg [.int .i64 s,.int .i64 p,.arr .u8 32 pt,.arr .i64 2 [a,b],.vrows 36 n f n'],.agg [.int .i64 s',.int .i64 p',.arr .u8 32 pt',.arr .i64 2 [a',b'],.vrows 36 m g m']]=>∃P,(n=P.length/\n'=n/\m=n/\m'=n)/\(f=ZH P/\g=ZH P)/\(s'=s/\p'=p/\pt'=pt/\a'=a/\b'=b)/\pt.length=32/\n<1000/\(∀q∈P,q.hash.length=32)/\K (.bool true)
 | [.agg [.int .i64 s,.int .i64 p,.arr .u8 32 pt,.arr .i64 2 [a,b],.nilslice],.agg [.int .i64 s',.int .i64 p',.arr .u8 32 pt',.arr .i64 2 [a',b'],.nilslice]]=>(s'=s/\p'=p/\pt'=pt/\a'=a/\b'=b)/\pt.length=32/\K (.bool true)
 | _=>False
theorem Z1D (args:List AV) (h:Za) (K:AV->Prop) (hl:Z3L args h K):Zp PP 57 args h fun o h'=>∃v,o=.ret v/\h'=h/\K v:=by
 refine ZC.psumm (d:=20) (Zu _ _ _ _ _ hl fun a ha=> ?_)
 split at ha
 ·obtain ⟨P,⟨rfl,rfl,rfl,rfl⟩,⟨rfl,rfl⟩,⟨rfl,rfl,rfl,rfl,rfl⟩,hp,h1,h2,hK⟩:=ha
  exact ⟨_,ZC.evV (ZeO _ _ _ _ _ P _) (Zlu _ _ _ _ _ P _ _ ⟨h1,rfl,h2⟩ hp),fun _=>rfl,hK⟩
 ·obtain ⟨⟨rfl,rfl,rfl,rfl,rfl⟩,hp,hK⟩:=ha
  exact ⟨_,ZC.evV Zv (Zlv _ _ _ _ _ hp),fun _=>rfl,hK⟩
 ·exact ha.elim
end Go.Tk
end
section
namespace Go.Tk
open IntKind (i64 u8 u32 u64 wrap)
end Go.Tk
end
section
namespace Go.Tk
open IntKind (i64 u8 u32 u64 wrap)
theorem Zlw (X:Z8) (hc:X.t.cap≠0):
  evF G0 20 28 [U0 X] ⟨0,[]⟩ (Yo fun v=>v=.bool false):=by
 refine @Eq.mpr _ (AV.bool (X.t.cap==0)=AV.bool false) (by kernel_rfl) ?_
 have:(X.t.cap==0)=false:=by simpa using hc
 rw [this]
def Zia:ZR:=fun args h K=>ZU none h true 20 args fun a=>match a with
 | [.pview cs 0]=>∃X,LV cs X/\X.t.cap≠0/\K (.bool false)
 | _=>False
theorem ZeP (args:List AV) (h:Za) (K:AV->Prop) (hl:Zia args h K):Zp PP 28 args h fun o h'=>∃v,o=.ret v/\h'=h/\K v:=by
 refine ZC.psumm (d:=20) (Zu _ _ _ _ _ hl fun a ha=> ?_)
 split at ha
 ·obtain ⟨X,hX,hI,hK⟩:=ha
  exact ⟨_,(ZC.evV Zv (Zlw X hI)).conv fun E r hr=>hr.head (fun _ hc=>Wq hX hc) fun _ hc=>hc,fun _=>rfl,hK⟩
 ·exact ha.elim
end Go.Tk
end
section
namespace Go.Tk
open IntKind (i64 u8 u32 u64 wrap)
structure Yq where
 what:Int
 own:Bool
 off:Int
 amount:Int
 expiry:Int
 secret:List Int
 at':Int
 move:Int
 ours:Bool
 number:Int
def Yq.c (a:Yq):List AV:=[.int .i64 a.what,.bool a.own,.int .i64 a.off,.int .i64 a.amount,.int .i64 a.expiry,.arr .u8 32 a.secret,.int .i64 a.at',.int .i64 a.move,.bool a.ours,.int .i64 a.number]
structure Yq.Ok (a:Yq):Prop where
 secret:a.secret.length=32
 sb:Bytes a.secret
def Zib (t:Int) (n:Nat):Nat:=(Int.tmod (Int.tmod t n+n) n).toNat
def Ya (X:Z8) (a:Yq):Bool×Int:=if X.L.length=0\/a.at'=99 then (a.own,a.off) else ((X.L.getD (Zib a.at' X.L.length) Zc).own,(X.L.getD (Zib a.at' X.L.length) Zc).id)
theorem ZeQ {t:Int} {n:Nat} (hn:0<n):(0<=Int.tmod (Int.tmod t n+n) n/\Int.tmod (Int.tmod t n+n) n<n)/\ -(n:Int)<Int.tmod t n/\Int.tmod t n<n:=by
 have h1:=Int.tmod_lt_of_pos t (show (0:Int)<n by omega)
 have h2: -(n:Int)<Int.tmod t n:=by
  have:=Int.tmod_lt_of_pos (-t) (show (0:Int)<n by omega)
  rw [Int.neg_tmod] at this;omega
 have h3:=Int.tmod_lt_of_pos (Int.tmod t n+n) (show (0:Int)<n by omega)
 have h4:=Int.tmod_nonneg (n:Int) (show (0:Int)<=Int.tmod t n+n by omega)
 exact ⟨⟨h4,h3⟩,h2,h1⟩
theorem Zn6 (X:Z8) (a:Yq) (o:Bool) (d:Int) (hn:X.L.length<1000) (ho:o=(Ya X a).1) (hd:d=(Ya X a).2):
  evF G0 20 50 [Zbw X,.agg a.c] ⟨0,[]⟩ (Yo fun v=>v=.tuple [.bool o,.int .i64 d,.agg [.arr .u8 32 a.secret]]):=by
 refine @Eq.mpr _ (let q1:=↑(List.length X.L);let q2:=[AV.agg [AV.arr u8 32 a.secret]];let q3:=AV.tuple (AV.bool o::AV.int i64 d::q2);let q4:=AV.tuple (AV.bool a.own::AV.int i64 a.off::q2)=q3;let q5:=decide (q1≠0);let q6:=Int.tmod (wrap i64 (Int.tmod a.at' q1+q1)) q1;let q7:=List.getD X.L (Int.toNat q6) Zc;
 Z0 (q1==0) q4 (Z0 (a.at'==99) q4 (Z0 q5 (Z0 q5 (Z0 (decide (0<=q6/\q6<q1)) (AV.tuple (AV.bool q7.own::AV.int i64 q7.id::q2)=q3) False) False) False))) (by kernel_rfl) ?_
 conv=>zeta
 try simp only [Zj]
 try simp only [Zl]
 try simp only [Zi]
 try simp only [Zm]
 try simp only [Zn]
 try simp only [Zh]
 try simp only [Int.toNat_natCast,Nat.zero_add,true_and,and_true,Nat.le_refl]
 subst ho hd
 unfold Ya
 refine ⟨fun h=> ?_,fun h=>⟨fun h9=> ?_,fun h9=> ?_⟩⟩
 ·have h:X.L.length=0:=by simpa using h
  rw [if_pos (.inl h)]
 ·rw [if_pos (.inr (by simpa using h9))]
 ·have h:¬X.L.length=0:=by simpa using h
  have h9:¬a.at'=99:=by simpa using h9
  obtain ⟨p1,p2⟩:=ZeQ (t:=a.at') (n:=X.L.length) (by omega)
  rw [w64 (x:=Int.tmod a.at' X.L.length+X.L.length) (by omega),if_neg (fun q=>q.elim h h9)]
  exact ⟨by omega,by omega,p1,rfl⟩
def Zic:ZR:=fun args h K=>ZU none h true 20 args fun a=>match a with
 | [.agg cs,.agg [.int .i64 w,.bool ow,.int .i64 of,.int .i64 am,.int .i64 ex,.arr .u8 32 se,.int .i64 at',.int .i64 mo,.bool ou,.int .i64 nu]]=>∃X,LV cs X/\X.L.length<1000/\K (.tuple [.bool (Ya X ⟨w,ow,of,am,ex,se,at',mo,ou,nu⟩).1,.int .i64 (Ya X ⟨w,ow,of,am,ex,se,at',mo,ou,nu⟩).2,.agg [.arr .u8 32 se]])
 | _=>False
theorem ZeR (args:List AV) (h:Za) (K:AV->Prop) (hl:Zic args h K):Zp PP 50 args h fun o h'=>∃v,o=.ret v/\h'=h/\K v:=by
 refine ZC.psumm (d:=20) (Zu _ _ _ _ _ hl fun a ha=> ?_)
 split at ha
 ·rename_i cs w ow of am ex se at' mo ou nu
  obtain ⟨X,hX,h1,hK⟩:=ha
  exact ⟨_,(ZC.evV Zv (Zn6 X ⟨w,ow,of,am,ex,se,at',mo,ou,nu⟩ _ _ h1 rfl rfl)).conv fun E r hr=>hr.head (fun _ hc=>Z03 hX hc) fun _ hc=>hc,fun _=>rfl,hK⟩
 ·exact ha.elim
noncomputable def Z42 (H1:List Int->List Int) (B:Nat) (c:Bool):Zg:=(((((((((((((G0.withP 79 (Zdb H1 B)).withF 20 (Zjc Zs c)).withF 74 (Zji c)).withF 21 (ZdX c)).withF 24 Z8O).withF 12 (Z2d c)).withF 49 (Zef Zs c)).withF 106 (ZeG c)).withF 53 (Z8W c)).withF 55 Z5T).withF 56 (Z3K c)).withP 54 Zao).withP 57 Z3L).withP 50 Zic
theorem WC (c:Bool):(Z42 WB 1000 c).Ok:=Zg.withP_ok (Zg.withP_ok (Zg.withP_ok (Zg.withF_ok (Zg.withF_ok (Zg.withF_ok (Zg.withF_ok (Zg.withF_ok (Zg.withF_ok (Zg.withF_ok (Zg.withF_ok (Zg.withF_ok (Zg.withF_ok (Zg.withP_ok Zv (Z6K fun xs h=>Z4K xs (by omega))) (Zgo c)) (Zgv c)) (ZdY c)) Zbv) (Z02 c)) (Zeg c)) (ZeH c)) (ZbC c)) Z8X) (Z1C c)) Z8Z) Z1D) ZeR
def Z1e (X:Z8):Za:=⟨3,[(0,.flat (X.c (slH 1 X.L.length))),(1,.rows 70 X.L.length (Z6 X.L)),(2,.rows 70 X.L.length (Z6 X.L))]⟩
theorem Zhh {X:Z8} (hI:X.Inv Zs) {m:Int} {h:Z7} (hh:h∈Ys m X.L):h.Ok:=by
 unfold Ys at hh
 obtain ⟨z,hz,rfl⟩:=List.mem_map.1 hh
 have:=hI.ok z (List.mem_filter.1 hz).1
 exact ⟨this.hash,this.hb,this.secret,this.sb⟩
theorem Zhi {X:Z8} (hI:X.Inv Zs) {m:Int} {h:Z7} (hh:h∈ZX m X.L):h.Ok:=by
 obtain ⟨z,hz,rfl⟩:=Z00 hh
 have:=hI.ok z hz
 exact ⟨this.hash,this.hb,this.secret,this.sb⟩
def Z3M (X:Z8):List (Nat×Blk):=[(0,.flat (X.c (slH 1 X.L.length))),(1,.rows 70 X.L.length (Z6 X.L)),(2,.rows 70 X.L.length (Z6 X.L))]
def ZbE (X Y:Z8):List (Nat×Blk):=[(0,.flat (Y.c (slH 3 Y.L.length))),(3,.rows 70 Y.L.length (Z6 Y.L)),(4,.rows 70 Y.L.length (Z6 Y.L)),(2,.rows 70 X.L.length (Z6 X.L))]
def WZ (n:Int):Int:=max (-1099511627776) (min 1099511627776 n)
def idA (X:Z8) (a:Yq):Int:=X.nx a.own+WZ a.off
theorem Zlx (X Y:Z8) (a:Yq) (H1:List Int->List Int) (B:Nat) (hs:List Int) (hI:X.Inv Zs) (ha:a.Ok) (hB:32<=B) (hh:H1 a.secret=hs) (hl:hs.length=32) (hY:Y=addX X a.own (idA X a) a.amount hs a.expiry) (he:XH X a.own (idA X a) a.amount hs a.expiry=0):
  evF (Z42 H1 B true) 20 17 [.ptr (some ⟨0,0,0,0,0⟩),.agg (X.c (slH 2 X.L.length)),.agg (.int .i64 0::a.c.tail)] (Z1e X) (Y5 3 (.ret (.tuple [.agg (Y.c (slH 4 Y.L.length)),.bool true])) 5 (ZbE X Y)):=by
 refine @Eq.mpr _ (let q1:=a.own;let q2:=List.length a.secret;let q3:=decide (q2=32);let q4:=decide (32=q2);let q5:=decide (q2<=B);let q6:=a.expiry;let q7:=decide (q6=q6);let q8:=a.amount;let q9:=decide (q8=q8);let q10:=decide (q1=q1);let q11:=X.t;let q12:=q11.fund;let q13:=q12=q12;let q14:=q11.index;let q15:=decide (q14=q14);let q16:=q11.cap;let q17:=decide (q16=q16);let q18:=q11.dust;let q19:=decide (q18=q18);let q20:=q11.fee;let q21:=decide (q20=q20);let q22:=q11.delay;let q23:=decide (q22=q22);let q24:=q11.k0;let q25:=q24=q24;let q26:=q11.k1;let q27:=q26=q26;let q28:=X.side;let q29:=decide (q28=q28);let q30:=X.res;let q31:=decide (q30=q30);let q32:=[X.a0,X.a1];let q33:=q32=q32;let q34:=[X.i0,X.i1];let q35:=q34=q34;let q36:=List.length X.L;let q37:=decide (q36=q36);let q38:=AV.arr u8 32 q12;let q39:=AV.int i64 q14;let q40:=AV.int i64 q16;let q41:=AV.int i64 q18;let q42:=AV.int i64 q20;let q43:=AV.int i64 q22;let q44:=AV.arr u8 32 q24;let q45:=AV.arr u8 32 q26;let q46:=AV.int i64 q28;let q47:=AV.int i64 q30;let q48:=AV.arr i64 2 q32;let q49:=AV.arr i64 2 q34;let q50:=Z6 X.L;let q51:=if a.off<1099511627776 then a.off else 1099511627776;let q52:=if q51> -1099511627776 then q51 else -1099511627776;let q53:=wrap i64 (X.i0+q52);let q54:=H1 a.secret;let q55:=Y.t;let q56:=q55.fund;let q57:=q55.index;let q58:=q55.cap;let q59:=q55.dust;let q60:=q55.fee;let q61:=q55.delay;let q62:=q55.k0;let q63:=q55.k1;let q64:=Y.side;let q65:=Y.res;let q66:=[Y.a0,Y.a1];let q67:=[Y.i0,Y.i1];let q68:=List.length Y.L;let q69:=[(3,12),(4,8)];let q70:=Z6 Y.L;let q71:=wrap i64 (X.i1+q52);
 Z0 q1
 (Z0 q3
 (Z0 q4
 (Z0 q5
 (Z0 q7
 (Z0 q9
 (Z0 q10
 (q13/\
 Z0 q15
 (Z0 q17
 (Z0 q19
 (Z0 q21
 (Z0 q23
 (q25/\
 q27/\
 Z0 q29
 (Z0 q31
 (q33/\
 q35/\
 Z0 q37
 (Z0 q37
 ((∀(i:Nat),i<q36->true=true)/\
 ∃(X_1:Z8),
 let q143:=addX X_1 q1 q53 q8 q54 q6;let q144:=q143.t;let q145:=q144.fund;let q146:=q145=q145;let q147:=q144.index;let q148:=decide (q147=q147);let q149:=q144.cap;let q150:=decide (q149=q149);let q151:=q144.dust;let q152:=decide (q151=q151);let q153:=q144.fee;let q154:=decide (q153=q153);let q155:=q144.delay;let q156:=decide (q155=q155);let q157:=q144.k0;let q158:=q157=q157;let q159:=q144.k1;let q160:=q159=q159;let q161:=q143.side;let q162:=decide (q161=q161);let q163:=q143.res;let q164:=decide (q163=q163);let q165:=[q143.a0,q143.a1];let q166:=q165=q165;let q167:=[q143.i0,q143.i1];let q168:=q167=q167;let q169:=List.length X_1.L;let q170:=q169+1;let q171:=decide (q170=q170);let q172:=decide (q170=q68);
 LD [q38,q39,q40,q41,q42,q43,q44,q45,q46,q47,q48,q49,AV.nslice (ZF.mk 0 0 70 0 0) 70 q36 q36] q36 q50 X_1/\
 Z8.Inv Zs X_1/\
 XH X_1 q1 q53 q8 q54 q6=0/\
 Z0 q3
 (Z0 q4
 (Z0 q5
 (Z0 q7
 (Z0 q9
 (Z0 q10
 (q146/\
 Z0 q148
 (Z0 q150
 (Z0 q152
 (Z0 q154
 (Z0 q156
 (q158/\
 q160/\
 Z0 q162
 (Z0 q164
 (q166/\
 q168/\
 Z0 q171
 (Z0 q171
 ((∀(i:Nat),i<q36->true=true)/\
 ∃(X_2:Z8),
 let q203:=addX X_2 q1 q53 q8 q54 q6;let q204:=q203.t;let q205:=List.length X_2.L+1;let q206:=decide (q205=q68);
 LB [q38,q39,q40,q41,q42,q43,q44,q45,q46,q47,q48,q49,AV.nslice (ZF.mk 1 0 70 0 0) 70 q36 q36] q36 q50 X_2/\
 Z8.Inv Zs X_2/\
 XH X_2 q1 q53 q8 q54 q6=0/\
 q146/\
 Z0 q148
 (Z0 q150
 (Z0 q152
 (Z0 q154
 (Z0 q156
 (q158/\
 q160/\
 Z0 q162
 (Z0 q164
 (q166/\
 q168/\
 Z0 q171
 (Z0 q171
 (q146/\
 Z0 q148
 (Z0 q150
 (Z0 q152
 (Z0 q154
 (Z0 q156
 (q158/\
 q160/\
 Z0 q162
 (Z0 q164
 (q166/\
 q168/\
 Z0 q171
 (Z0 q171 (q145=q56/\Z0 (decide (q147=q57)) (Z0 (decide (q149=q58)) (Z0 (decide (q151=q59)) (Z0 (decide (q153=q60)) (Z0 (decide (q155=q61)) (q157=q62/\q159=q63/\Z0 (decide (q161=q64)) (Z0 (decide (q163=q65)) (q165=q66/\q167=q67/\Z0 q172 (Z0 (decide (q68<=q170)) (q204.fund=q56/\Z0 (decide (q204.index=q57)) (Z0 (decide (q204.cap=q58)) (Z0 (decide (q204.dust=q59)) (Z0 (decide (q204.fee=q60)) (Z0 (decide (q204.delay=q61)) (q204.k0=q62/\q204.k1=q63/\Z0 (decide (q203.side=q64)) (Z0 (decide (q203.res=q65)) ([q203.a0,q203.a1]=q66/\[q203.i0,q203.i1]=q67/\Z0 q206 (Z0 (decide (q68<=q205)) (Z0 q206 (Zb 3 q69 q68 q70 (Z6 q203.L)/\Z0 q172 (Zb 3 q69 q68 q70 (Z6 q143.L)/\Z0 (decide (q169=q36)) (Zb 3 q69 q36 q50 (Z6 X_1.L)/\True) False) False) False) False) False) False) False) False) False) False) False) False) False) False) False) False) False) False) False) False) False)
 False)
 False)
 False)
 False)
 False)
 False)
 False)
 False)
 False)
 False)
 False)
 False)
 False)
 False)
 False)
 False)
 False)
 False)
 False)
 False)
 False)
 False)
 False)
 False)
 False)
 False)
 False)
 False)
 False)
 False)
 False)
 False)
 False)
 False)
 False)
 False)
 False)
 False)
 False)
 False)
 False)
 False)
 False)
 False)
 False)
 False)
 False)
 False)
 (Z0 q3
 (Z0 q4
 (Z0 q5
 (Z0 q7
 (Z0 q9
 (Z0 q10
 (q13/\
 Z0 q15
 (Z0 q17
 (Z0 q19
 (Z0 q21
 (Z0 q23
 (q25/\
 q27/\
 Z0 q29
 (Z0 q31
 (q33/\
 q35/\
 Z0 q37
 (Z0 q37
 ((∀(i:Nat),i<q36->true=true)/\
 ∃(X_1:Z8),
 let q143:=addX X_1 q1 q71 q8 q54 q6;let q144:=q143.t;let q145:=q144.fund;let q146:=q145=q145;let q147:=q144.index;let q148:=decide (q147=q147);let q149:=q144.cap;let q150:=decide (q149=q149);let q151:=q144.dust;let q152:=decide (q151=q151);let q153:=q144.fee;let q154:=decide (q153=q153);let q155:=q144.delay;let q156:=decide (q155=q155);let q157:=q144.k0;let q158:=q157=q157;let q159:=q144.k1;let q160:=q159=q159;let q161:=q143.side;let q162:=decide (q161=q161);let q163:=q143.res;let q164:=decide (q163=q163);let q165:=[q143.a0,q143.a1];let q166:=q165=q165;let q167:=[q143.i0,q143.i1];let q168:=q167=q167;let q169:=List.length X_1.L;let q170:=q169+1;let q171:=decide (q170=q170);let q172:=decide (q170=q68);
 LD [q38,q39,q40,q41,q42,q43,q44,q45,q46,q47,q48,q49,AV.nslice (ZF.mk 0 0 70 0 0) 70 q36 q36] q36 q50 X_1/\
 Z8.Inv Zs X_1/\
 XH X_1 q1 q71 q8 q54 q6=0/\
 Z0 q3
 (Z0 q4
 (Z0 q5
 (Z0 q7
 (Z0 q9
 (Z0 q10
 (q146/\
 Z0 q148
 (Z0 q150
 (Z0 q152
 (Z0 q154
 (Z0 q156
 (q158/\
 q160/\
 Z0 q162
 (Z0 q164
 (q166/\
 q168/\
 Z0 q171
 (Z0 q171
 ((∀(i:Nat),i<q36->true=true)/\
 ∃(X_2:Z8),
 let q203:=addX X_2 q1 q71 q8 q54 q6;let q204:=q203.t;let q205:=List.length X_2.L+1;let q206:=decide (q205=q68);
 LB [q38,q39,q40,q41,q42,q43,q44,q45,q46,q47,q48,q49,AV.nslice (ZF.mk 1 0 70 0 0) 70 q36 q36] q36 q50 X_2/\
 Z8.Inv Zs X_2/\
 XH X_2 q1 q71 q8 q54 q6=0/\
 q146/\
 Z0 q148
 (Z0 q150
 (Z0 q152
 (Z0 q154
 (Z0 q156
 (q158/\
 q160/\
 Z0 q162
 (Z0 q164
 (q166/\
 q168/\
 Z0 q171
 (Z0 q171
 (q146/\
 Z0 q148
 (Z0 q150
 (Z0 q152
 (Z0 q154
 (Z0 q156
 (q158/\
 q160/\
 Z0 q162
 (Z0 q164
 (q166/\
 q168/\
 Z0 q171
 (Z0 q171 (q145=q56/\Z0 (decide (q147=q57)) (Z0 (decide (q149=q58)) (Z0 (decide (q151=q59)) (Z0 (decide (q153=q60)) (Z0 (decide (q155=q61)) (q157=q62/\q159=q63/\Z0 (decide (q161=q64)) (Z0 (decide (q163=q65)) (q165=q66/\q167=q67/\Z0 q172 (Z0 (decide (q68<=q170)) (q204.fund=q56/\Z0 (decide (q204.index=q57)) (Z0 (decide (q204.cap=q58)) (Z0 (decide (q204.dust=q59)) (Z0 (decide (q204.fee=q60)) (Z0 (decide (q204.delay=q61)) (q204.k0=q62/\q204.k1=q63/\Z0 (decide (q203.side=q64)) (Z0 (decide (q203.res=q65)) ([q203.a0,q203.a1]=q66/\[q203.i0,q203.i1]=q67/\Z0 q206 (Z0 (decide (q68<=q205)) (Z0 q206 (Zb 3 q69 q68 q70 (Z6 q203.L)/\Z0 q172 (Zb 3 q69 q68 q70 (Z6 q143.L)/\Z0 (decide (q169=q36)) (Zb 3 q69 q36 q50 (Z6 X_1.L)/\True) False) False) False) False) False) False) False) False) False) False) False) False) False) False) False) False) False) False) False) False) False)
 False)
 False)
 False)
 False)
 False)
 False)
 False)
 False)
 False)
 False)
 False)
 False)
 False)
 False)
 False)
 False)
 False)
 False)
 False)
 False)
 False)
 False)
 False)
 False)
 False)
 False)
 False)
 False)
 False)
 False)
 False)
 False)
 False)
 False)
 False)
 False)
 False)
 False)
 False)
 False)
 False)
 False)
 False)
 False)
 False)
 False)
 False)
 False)) (by kernel_rfl) ?_
 conv=>zeta
 try simp only [Zj]
 try simp only [Zl]
 try simp only [Zi]
 try simp only [Zm]
 try simp only [Zn]
 try simp only [Zh]
 try simp only [Int.toNat_natCast,Nat.zero_add,true_and,and_true,Nat.le_refl]
 have hsb:a.secret.length<=B:=by rw [ha.secret];exact hB
 have hc:(if (if a.off<1099511627776 then a.off else 1099511627776)> -1099511627776 then (if a.off<1099511627776 then a.off else 1099511627776) else -1099511627776)=WZ a.off:=by
  unfold WZ
  split<;>split<;>omega
 have hcb: -1099511627776<=WZ a.off/\WZ a.off<=1099511627776:=by unfold WZ;omega
 have h0:=hI.i0
 have h1:=hI.i1
 rw [hc,hh]
 refine ⟨fun ho=> ?_,fun ho=> ?_⟩
 ·have hw:i64.wrap (X.i0+WZ a.off)=idA X a:=by
   rw [w64 (by omega)];unfold idA;rw [ho];rfl
  rw [hw]
  subst hY
  have hl2:(addX X a.own (idA X a) a.amount hs a.expiry).L.length=X.L.length+1:=by
   unfold addX;rw [if_pos he];exact Z3s _ _
  rw [hl2]
  repeat' first
   | exact hI
   | exact he
   | exact ha.secret
   | exact hsb
   | exact beq_self_eq_true _
   | exact ha.secret.symm
   | (intro _ _;trivial)
   | refine Exists.intro X (And.intro ⟨rfl,rfl,rfl⟩ ?_)
   | apply And.intro
   | rfl
   | omega
   | exact Zo fun _ _=>rfl
 ·have hw:i64.wrap (X.i1+WZ a.off)=idA X a:=by
   rw [w64 (by omega)];unfold idA;rw [ho];rfl
  rw [hw]
  subst hY
  have hl2:(addX X a.own (idA X a) a.amount hs a.expiry).L.length=X.L.length+1:=by
   unfold addX;rw [if_pos he];exact Z3s _ _
  rw [hl2]
  repeat' first
   | exact hI
   | exact he
   | exact ha.secret
   | exact hsb
   | exact beq_self_eq_true _
   | exact ha.secret.symm
   | (intro _ _;trivial)
   | refine Exists.intro X (And.intro ⟨rfl,rfl,rfl⟩ ?_)
   | apply And.intro
   | rfl
   | omega
   | exact Zo fun _ _=>rfl
theorem Zly (X:Z8) (a:Yq) (H1:List Int->List Int) (B:Nat) (hs:List Int) (hI:X.Inv Zs) (ha:a.Ok) (hB:32<=B) (hh:H1 a.secret=hs) (hl:hs.length=32) (he:XH X a.own (idA X a) a.amount hs a.expiry≠0):
  evF (Z42 H1 B false) 20 17 [.ptr (some ⟨0,0,0,0,0⟩),.agg (X.c (slH 2 X.L.length)),.agg (.int .i64 0::a.c.tail)] (Z1e X) (Y5 3 (.ret (.tuple [.agg (X.c (slH 2 X.L.length)),.bool true])) 3 (Z3M X)):=by
 refine @Eq.mpr _ (let q1:=a.own;let q2:=List.length a.secret;let q3:=decide (q2=32);let q4:=decide (32=q2);let q5:=decide (q2<=B);let q6:=a.expiry;let q7:=decide (q6=q6);let q8:=a.amount;let q9:=decide (q8=q8);let q10:=decide (q1=q1);let q11:=X.t;let q12:=q11.fund;let q13:=q12=q12;let q14:=q11.index;let q15:=decide (q14=q14);let q16:=q11.cap;let q17:=decide (q16=q16);let q18:=q11.dust;let q19:=decide (q18=q18);let q20:=q11.fee;let q21:=decide (q20=q20);let q22:=q11.delay;let q23:=decide (q22=q22);let q24:=q11.k0;let q25:=q24=q24;let q26:=q11.k1;let q27:=q26=q26;let q28:=X.side;let q29:=decide (q28=q28);let q30:=X.res;let q31:=decide (q30=q30);let q32:=[X.a0,X.a1];let q33:=q32=q32;let q34:=[X.i0,X.i1];let q35:=q34=q34;let q36:=List.length X.L;let q37:=decide (q36=q36);let q38:=AV.arr u8 32 q12;let q39:=AV.int i64 q14;let q40:=AV.int i64 q16;let q41:=AV.int i64 q18;let q42:=AV.int i64 q20;let q43:=AV.int i64 q22;let q44:=AV.arr u8 32 q24;let q45:=AV.arr u8 32 q26;let q46:=AV.int i64 q28;let q47:=AV.int i64 q30;let q48:=AV.arr i64 2 q32;let q49:=AV.arr i64 2 q34;let q50:=Z6 X.L;let q51:=if a.off<1099511627776 then a.off else 1099511627776;let q52:=if q51> -1099511627776 then q51 else -1099511627776;let q53:=wrap i64 (X.i0+q52);let q54:=H1 a.secret;let q55:=wrap i64 (X.i1+q52);
 Z0 q1
 (Z0 q3
 (Z0 q4
 (Z0 q5
 (Z0 q7
 (Z0 q9
 (Z0 q10
 (q13/\
 Z0 q15
 (Z0 q17
 (Z0 q19
 (Z0 q21
 (Z0 q23
 (q25/\
 q27/\
 Z0 q29
 (Z0 q31
 (q33/\
 q35/\
 Z0 q37
 (Z0 q37
 ((∀(i:Nat),i<q36->true=true)/\
 ∃(X_1:Z8),
 let q111:=XH X_1 q1 q53 q8 q54 q6;let q112:=X_1.t;let q113:=q112.fund;let q114:=q113=q113;let q115:=q112.index;let q116:=decide (q115=q115);let q117:=q112.cap;let q118:=decide (q117=q117);let q119:=q112.dust;let q120:=decide (q119=q119);let q121:=q112.fee;let q122:=decide (q121=q121);let q123:=q112.delay;let q124:=decide (q123=q123);let q125:=q112.k0;let q126:=q125=q125;let q127:=q112.k1;let q128:=q127=q127;let q129:=X_1.side;let q130:=decide (q129=q129);let q131:=X_1.res;let q132:=decide (q131=q131);let q133:=[X_1.a0,X_1.a1];let q134:=q133=q133;let q135:=[X_1.i0,X_1.i1];let q136:=q135=q135;let q137:=List.length X_1.L;let q138:=decide (q137=q137);let q139:=decide (q137=q36);
 LD [q38,q39,q40,q41,q42,q43,q44,q45,q46,q47,q48,q49,AV.nslice (ZF.mk 0 0 70 0 0) 70 q36 q36] q36 q50 X_1/\
 Z8.Inv Zs X_1/\
 q111≠0/\
 Z0 q3
 (Z0 q4
 (Z0 q5
 (Z0 q7
 (Z0 q9
 (Z0 q10
 (q114/\
 Z0 q116
 (Z0 q118
 (Z0 q120
 (Z0 q122
 (Z0 q124
 (q126/\
 q128/\
 Z0 q130
 (Z0 q132
 (q134/\
 q136/\
 Z0 q138
 (Z0 q138
 ((∀(i:Nat),i<q36->true=true)/\
 ∃(X_2:Z8),
 let q169:=XH X_2 q1 q53 q8 q54 q6;let q170:=X_2.t;let q171:=List.length X_2.L;let q172:=decide (q171=q36);
 LB [q38,q39,q40,q41,q42,q43,q44,q45,q46,q47,q48,q49,AV.nslice (ZF.mk 1 0 70 0 0) 70 q36 q36] q36 q50 X_2/\
 Z8.Inv Zs X_2/\
 q169≠0/\
 q114/\
 Z0 q116
 (Z0 q118
 (Z0 q120
 (Z0 q122
 (Z0 q124
 (q126/\
 q128/\
 Z0 q130
 (Z0 q132
 (q134/\
 q136/\
 Z0 q138
 (Z0 q138
 (q114/\
 Z0 q116
 (Z0 q118
 (Z0 q120
 (Z0 q122
 (Z0 q124
 (q126/\
 q128/\
 Z0 q130
 (Z0 q132
 (q134/\
 q136/\Z0 q138 (Z0 q138 (q113=q12/\Z0 (decide (q115=q14)) (Z0 (decide (q117=q16)) (Z0 (decide (q119=q18)) (Z0 (decide (q121=q20)) (Z0 (decide (q123=q22)) (q125=q24/\q127=q26/\Z0 (decide (q129=q28)) (Z0 (decide (q131=q30)) (q133=q32/\q135=q34/\Z0 q139 (Z0 (decide (q36<=q137)) (Z0 (decide ((q169==q111)=true)) (q170.fund=q12/\Z0 (decide (q170.index=q14)) (Z0 (decide (q170.cap=q16)) (Z0 (decide (q170.dust=q18)) (Z0 (decide (q170.fee=q20)) (Z0 (decide (q170.delay=q22)) (q170.k0=q24/\q170.k1=q26/\Z0 (decide (X_2.side=q28)) (Z0 (decide (X_2.res=q30)) ([X_2.a0,X_2.a1]=q32/\[X_2.i0,X_2.i1]=q34/\Z0 q172 (Z0 (decide (q36<=q171)) (Z0 q172 (Zb 3 [] q36 q50 (Z6 X_2.L)/\Z0 q139 (Zb 3 [] q36 q50 (Z6 X_1.L)/\True) False) False) False) False) False) False) False) False) False) False) False) False) False) False) False) False) False) False) False) False) False) False) False)
 False)
 False)
 False)
 False)
 False)
 False)
 False)
 False)
 False)
 False)
 False)
 False)
 False)
 False)
 False)
 False)
 False)
 False)
 False)
 False)
 False)
 False)
 False)
 False)
 False)
 False)
 False)
 False)
 False)
 False)
 False)
 False)
 False)
 False)
 False)
 False)
 False)
 False)
 False)
 False)
 False)
 False)
 False)
 False)
 False)
 False)
 (Z0 q3
 (Z0 q4
 (Z0 q5
 (Z0 q7
 (Z0 q9
 (Z0 q10
 (q13/\
 Z0 q15
 (Z0 q17
 (Z0 q19
 (Z0 q21
 (Z0 q23
 (q25/\
 q27/\
 Z0 q29
 (Z0 q31
 (q33/\
 q35/\
 Z0 q37
 (Z0 q37
 ((∀(i:Nat),i<q36->true=true)/\
 ∃(X_1:Z8),
 let q111:=XH X_1 q1 q55 q8 q54 q6;let q112:=X_1.t;let q113:=q112.fund;let q114:=q113=q113;let q115:=q112.index;let q116:=decide (q115=q115);let q117:=q112.cap;let q118:=decide (q117=q117);let q119:=q112.dust;let q120:=decide (q119=q119);let q121:=q112.fee;let q122:=decide (q121=q121);let q123:=q112.delay;let q124:=decide (q123=q123);let q125:=q112.k0;let q126:=q125=q125;let q127:=q112.k1;let q128:=q127=q127;let q129:=X_1.side;let q130:=decide (q129=q129);let q131:=X_1.res;let q132:=decide (q131=q131);let q133:=[X_1.a0,X_1.a1];let q134:=q133=q133;let q135:=[X_1.i0,X_1.i1];let q136:=q135=q135;let q137:=List.length X_1.L;let q138:=decide (q137=q137);let q139:=decide (q137=q36);
 LD [q38,q39,q40,q41,q42,q43,q44,q45,q46,q47,q48,q49,AV.nslice (ZF.mk 0 0 70 0 0) 70 q36 q36] q36 q50 X_1/\
 Z8.Inv Zs X_1/\
 q111≠0/\
 Z0 q3
 (Z0 q4
 (Z0 q5
 (Z0 q7
 (Z0 q9
 (Z0 q10
 (q114/\
 Z0 q116
 (Z0 q118
 (Z0 q120
 (Z0 q122
 (Z0 q124
 (q126/\
 q128/\
 Z0 q130
 (Z0 q132
 (q134/\
 q136/\
 Z0 q138
 (Z0 q138
 ((∀(i:Nat),i<q36->true=true)/\
 ∃(X_2:Z8),
 let q169:=XH X_2 q1 q55 q8 q54 q6;let q170:=X_2.t;let q171:=List.length X_2.L;let q172:=decide (q171=q36);
 LB [q38,q39,q40,q41,q42,q43,q44,q45,q46,q47,q48,q49,AV.nslice (ZF.mk 1 0 70 0 0) 70 q36 q36] q36 q50 X_2/\
 Z8.Inv Zs X_2/\
 q169≠0/\
 q114/\
 Z0 q116
 (Z0 q118
 (Z0 q120
 (Z0 q122
 (Z0 q124
 (q126/\
 q128/\
 Z0 q130
 (Z0 q132
 (q134/\
 q136/\
 Z0 q138
 (Z0 q138
 (q114/\
 Z0 q116
 (Z0 q118
 (Z0 q120
 (Z0 q122
 (Z0 q124
 (q126/\
 q128/\
 Z0 q130
 (Z0 q132
 (q134/\
 q136/\Z0 q138 (Z0 q138 (q113=q12/\Z0 (decide (q115=q14)) (Z0 (decide (q117=q16)) (Z0 (decide (q119=q18)) (Z0 (decide (q121=q20)) (Z0 (decide (q123=q22)) (q125=q24/\q127=q26/\Z0 (decide (q129=q28)) (Z0 (decide (q131=q30)) (q133=q32/\q135=q34/\Z0 q139 (Z0 (decide (q36<=q137)) (Z0 (decide ((q169==q111)=true)) (q170.fund=q12/\Z0 (decide (q170.index=q14)) (Z0 (decide (q170.cap=q16)) (Z0 (decide (q170.dust=q18)) (Z0 (decide (q170.fee=q20)) (Z0 (decide (q170.delay=q22)) (q170.k0=q24/\q170.k1=q26/\Z0 (decide (X_2.side=q28)) (Z0 (decide (X_2.res=q30)) ([X_2.a0,X_2.a1]=q32/\[X_2.i0,X_2.i1]=q34/\Z0 q172 (Z0 (decide (q36<=q171)) (Z0 q172 (Zb 3 [] q36 q50 (Z6 X_2.L)/\Z0 q139 (Zb 3 [] q36 q50 (Z6 X_1.L)/\True) False) False) False) False) False) False) False) False) False) False) False) False) False) False) False) False) False) False) False) False) False) False) False)
 False)
 False)
 False)
 False)
 False)
 False)
 False)
 False)
 False)
 False)
 False)
 False)
 False)
 False)
 False)
 False)
 False)
 False)
 False)
 False)
 False)
 False)
 False)
 False)
 False)
 False)
 False)
 False)
 False)
 False)
 False)
 False)
 False)
 False)
 False)
 False)
 False)
 False)
 False)
 False)
 False)
 False)
 False)
 False)
 False)
 False)) (by kernel_rfl) ?_
 conv=>zeta
 try simp only [Zj]
 try simp only [Zl]
 try simp only [Zi]
 try simp only [Zm]
 try simp only [Zn]
 try simp only [Zh]
 try simp only [Int.toNat_natCast,Nat.zero_add,true_and,and_true,Nat.le_refl]
 have hsb:a.secret.length<=B:=by rw [ha.secret];exact hB
 have hc:(if (if a.off<1099511627776 then a.off else 1099511627776)> -1099511627776 then (if a.off<1099511627776 then a.off else 1099511627776) else -1099511627776)=WZ a.off:=by
  unfold WZ
  split<;>split<;>omega
 have hcb: -1099511627776<=WZ a.off/\WZ a.off<=1099511627776:=by unfold WZ;omega
 have h0:=hI.i0
 have h1:=hI.i1
 rw [hc,hh]
 refine ⟨fun ho=> ?_,fun ho=> ?_⟩
 ·have hw:i64.wrap (X.i0+WZ a.off)=idA X a:=by
   rw [w64 (by omega)];unfold idA;rw [ho];rfl
  rw [hw]
  repeat' first
   | exact hI
   | exact he
   | exact ha.secret
   | exact hsb
   | exact beq_self_eq_true _
   | exact ha.secret.symm
   | (intro _ _;trivial)
   | refine Exists.intro X (And.intro ⟨rfl,rfl,rfl⟩ ?_)
   | apply And.intro
   | rfl
   | omega
   | exact Zo fun _ _=>rfl
 ·have hw:i64.wrap (X.i1+WZ a.off)=idA X a:=by
   rw [w64 (by omega)];unfold idA;rw [ho];rfl
  rw [hw]
  repeat' first
   | exact hI
   | exact he
   | exact ha.secret
   | exact hsb
   | exact beq_self_eq_true _
   | exact ha.secret.symm
   | (intro _ _;trivial)
   | refine Exists.intro X (And.intro ⟨rfl,rfl,rfl⟩ ?_)
   | apply And.intro
   | rfl
   | omega
   | exact Zo fun _ _=>rfl
theorem Zlz (X Y:Z8) (a:Yq) (H1:List Int->List Int) (B:Nat) (hI:X.Inv Zs) (ha:a.Ok) (hB:32<=B) (he:Xd Zs X (Ya X a).1 (Ya X a).2 1 a.secret=0) (hY:Y=endX Zs X (Ya X a).1 (Ya X a).2 1 a.secret):
  evF (Z42 H1 B true) 20 17 [.ptr (some ⟨0,0,0,0,0⟩),.agg (X.c (slH 2 X.L.length)),.agg (.int .i64 1::a.c.tail)] (Z1e X) (Y5 3 (.ret (.tuple [.agg (Y.c (slH 4 Y.L.length)),.bool true])) 5 (ZbE X Y)):=by
 refine @Eq.mpr _ (let q1:=List.length X.L;let q2:=X.t;let q3:=AV.arr u8 32 q2.fund;let q4:=AV.int i64 q2.index;let q5:=AV.int i64 q2.cap;let q6:=AV.int i64 q2.dust;let q7:=AV.int i64 q2.fee;let q8:=AV.int i64 q2.delay;let q9:=AV.arr u8 32 q2.k0;let q10:=AV.arr u8 32 q2.k1;let q11:=AV.int i64 X.side;let q12:=AV.int i64 X.res;let q13:=AV.arr i64 2 [X.a0,X.a1];let q14:=AV.arr i64 2 [X.i0,X.i1];let q15:=Z6 X.L;let q16:=a.secret;let q17:=List.length q16=32;let q18:=Yq.mk 1 a.own a.off a.amount a.expiry q16 a.at' a.move a.ours a.number;let q19:=Y.t;let q20:=q19.fund;let q21:=q19.index;let q22:=q19.cap;let q23:=q19.dust;let q24:=q19.fee;let q25:=q19.delay;let q26:=q19.k0;let q27:=q19.k1;let q28:=[Y.a0,Y.a1];let q29:=[Y.i0,Y.i1];let q30:=List.length Y.L;let q31:=[(3,13),(4,10)];let q32:=Z6 Y.L;
 Z0 (decide (0+q1<=q1))
 ((∀(i:Nat),i<q1->true=true)/\
 ∃(X:Z8),
 let q65:=(Ya X q18).fst;let q66:=(Ya X q18).snd;
 LV [q3,q4,q5,q6,q7,q8,q9,q10,q11,q12,q13,q14,AV.vrows 70 q1 (ZT 0 q15) q1] X/\
 List.length X.L<1000/\
 (∀(i:Nat),i<q1->true=true)/\
 ∃(X:Z8),
 let q69:=endX Zs X q65 q66 1 q16;let q70:=q69.t;let q71:=q70.fund;let q72:=q71=q71;let q73:=q70.index;let q74:=decide (q73=q73);let q75:=q70.cap;let q76:=decide (q75=q75);let q77:=q70.dust;let q78:=decide (q77=q77);let q79:=q70.fee;let q80:=decide (q79=q79);let q81:=q70.delay;let q82:=decide (q81=q81);let q83:=q70.k0;let q84:=q83=q83;let q85:=q70.k1;let q86:=q85=q85;let q87:=q69.side;let q88:=decide (q87=q87);let q89:=q69.res;let q90:=decide (q89=q89);let q91:=[q69.a0,q69.a1];let q92:=q91=q91;let q93:=[q69.i0,q69.i1];let q94:=q93=q93;let q95:=List.length X.L;let q96:=decide (q95=q95);let q97:=decide (q95=q30);
 LD [q3,q4,q5,q6,q7,q8,q9,q10,q11,q12,q13,q14,AV.nslice (ZF.mk 0 0 70 0 0) 70 q1 q1] q1 q15 X/\
 Z8.Inv Zs X/\
 (q17/\Bytes q16)/\
 Xd Zs X q65 q66 1 q16=0/\
 (∀(i:Nat),i<q1->true=true)/\
 ∃(X_1:Z8),
 let q127:=endX Zs X_1 q65 q66 1 q16;let q128:=q127.t;let q129:=List.length X_1.L;let q130:=decide (q129=q30);
 LB [q3,q4,q5,q6,q7,q8,q9,q10,q11,q12,q13,q14,AV.nslice (ZF.mk 1 0 70 0 0) 70 q1 q1] q1 q15 X_1/\
 Z8.Inv Zs X_1/\
 q17/\
 Xd Zs X_1 q65 q66 1 q16=0/\
 q72/\
 Z0 q74
 (Z0 q76
 (Z0 q78
 (Z0 q80
 (Z0 q82
 (q84/\
 q86/\
 Z0 q88
 (Z0 q90
 (q92/\
 q94/\
 Z0 q96
 (Z0 q96
 (q72/\
 Z0 q74
 (Z0 q76
 (Z0 q78
 (Z0 q80
 (Z0 q82
 (q84/\
 q86/\
 Z0 q88
 (Z0 q90
 (q92/\
 q94/\
 Z0 q96
 (Z0 q96 (q71=q20/\Z0 (decide (q73=q21)) (Z0 (decide (q75=q22)) (Z0 (decide (q77=q23)) (Z0 (decide (q79=q24)) (Z0 (decide (q81=q25)) (q83=q26/\q85=q27/\Z0 (decide (q87=Y.side)) (Z0 (decide (q89=Y.res)) (q91=q28/\q93=q29/\Z0 q97 (Z0 (decide (q30<=q95)) (q128.fund=q20/\Z0 (decide (q128.index=q21)) (Z0 (decide (q128.cap=q22)) (Z0 (decide (q128.dust=q23)) (Z0 (decide (q128.fee=q24)) (Z0 (decide (q128.delay=q25)) (q128.k0=q26/\q128.k1=q27/\Z0 (decide (q127.side=Y.side)) (Z0 (decide (q127.res=Y.res)) ([q127.a0,q127.a1]=q28/\[q127.i0,q127.i1]=q29/\Z0 q130 (Z0 (decide (q30<=q129)) (Z0 q130 (Zb 3 q31 q30 q32 (Z6 q127.L)/\Z0 q97 (Zb 3 q31 q30 q32 (Z6 q69.L)/\Z0 (decide (q95=q1)) (Zb 3 q31 q1 q15 (Z6 X.L)/\True) False) False) False) False) False) False) False) False) False) False) False) False) False) False) False) False) False) False) False) False) False) False)
 False)
 False)
 False)
 False)
 False)
 False)
 False)
 False)
 False)
 False)
 False)
 False)
 False)
 False)
 False)
 False)
 False)
 False) (by kernel_rfl) ?_
 conv=>zeta
 try simp only [Zj]
 try simp only [Zl]
 try simp only [Zi]
 try simp only [Zm]
 try simp only [Zn]
 try simp only [Zh]
 try simp only [Int.toNat_natCast,Nat.zero_add,true_and,and_true,Nat.le_refl]
 have hlen:=hI.am.n
 have hsb:a.secret.length<=B:=by rw [ha.secret];exact hB
 subst hY
 have hlx:(endX Zs X (Ya X a).1 (Ya X a).2 1 a.secret).L.length=X.L.length:=by unfold endX;split<;>simp
 rw [hlx]
 repeat' first
  | exact hI
  | exact he
  | exact ha.secret
  | exact ha.sb
  | exact W4
  | exact hsb
  | exact hlen
  | exact beq_self_eq_true _
  | (intro _ _;trivial)
  | refine Exists.intro X (And.intro ⟨rfl,rfl,rfl⟩ ?_)
  | refine Exists.intro X (And.intro (.a rfl) ?_)
  | apply And.intro
  | rfl
  | omega
  | exact Zo fun _ _=>rfl
theorem ZlA (X:Z8) (a:Yq) (H1:List Int->List Int) (B:Nat) (hI:X.Inv Zs) (ha:a.Ok) (hB:32<=B) (he:Xd Zs X (Ya X a).1 (Ya X a).2 1 a.secret≠0):
  evF (Z42 H1 B false) 20 17 [.ptr (some ⟨0,0,0,0,0⟩),.agg (X.c (slH 2 X.L.length)),.agg (.int .i64 1::a.c.tail)] (Z1e X) (Y5 3 (.ret (.tuple [.agg (X.c (slH 2 X.L.length)),.bool true])) 3 (Z3M X)):=by
 refine @Eq.mpr _ (let q1:=List.length X.L;let q2:=X.t;let q3:=q2.fund;let q4:=AV.arr u8 32 q3;let q5:=q2.index;let q6:=AV.int i64 q5;let q7:=q2.cap;let q8:=AV.int i64 q7;let q9:=q2.dust;let q10:=AV.int i64 q9;let q11:=q2.fee;let q12:=AV.int i64 q11;let q13:=q2.delay;let q14:=AV.int i64 q13;let q15:=q2.k0;let q16:=AV.arr u8 32 q15;let q17:=q2.k1;let q18:=AV.arr u8 32 q17;let q19:=X.side;let q20:=AV.int i64 q19;let q21:=X.res;let q22:=AV.int i64 q21;let q23:=[X.a0,X.a1];let q24:=AV.arr i64 2 q23;let q25:=[X.i0,X.i1];let q26:=AV.arr i64 2 q25;let q27:=Z6 X.L;let q28:=a.secret;let q29:=List.length q28=32;let q30:=Yq.mk 1 a.own a.off a.amount a.expiry q28 a.at' a.move a.ours a.number;
 Z0 (decide (0+q1<=q1))
 ((∀(i:Nat),i<q1->true=true)/\
 ∃(X:Z8),
 let q61:=(Ya X q30).fst;let q62:=(Ya X q30).snd;
 LV [q4,q6,q8,q10,q12,q14,q16,q18,q20,q22,q24,q26,AV.vrows 70 q1 (ZT 0 q27) q1] X/\
 List.length X.L<1000/\
 (∀(i:Nat),i<q1->true=true)/\
 ∃(X:Z8),
 let q65:=Xd Zs X q61 q62 1 q28;let q66:=X.t;let q67:=q66.fund;let q68:=q67=q67;let q69:=q66.index;let q70:=decide (q69=q69);let q71:=q66.cap;let q72:=decide (q71=q71);let q73:=q66.dust;let q74:=decide (q73=q73);let q75:=q66.fee;let q76:=decide (q75=q75);let q77:=q66.delay;let q78:=decide (q77=q77);let q79:=q66.k0;let q80:=q79=q79;let q81:=q66.k1;let q82:=q81=q81;let q83:=X.side;let q84:=decide (q83=q83);let q85:=X.res;let q86:=decide (q85=q85);let q87:=[X.a0,X.a1];let q88:=q87=q87;let q89:=[X.i0,X.i1];let q90:=q89=q89;let q91:=List.length X.L;let q92:=decide (q91=q91);let q93:=decide (q91=q1);
 LD [q4,q6,q8,q10,q12,q14,q16,q18,q20,q22,q24,q26,AV.nslice (ZF.mk 0 0 70 0 0) 70 q1 q1] q1 q27 X/\
 Z8.Inv Zs X/\
 (q29/\Bytes q28)/\
 q65≠0/\
 (∀(i:Nat),i<q1->true=true)/\
 ∃(X_1:Z8),
 let q123:=Xd Zs X_1 q61 q62 1 q28;let q124:=X_1.t;let q125:=List.length X_1.L;let q126:=decide (q125=q1);
 LB [q4,q6,q8,q10,q12,q14,q16,q18,q20,q22,q24,q26,AV.nslice (ZF.mk 1 0 70 0 0) 70 q1 q1] q1 q27 X_1/\
 Z8.Inv Zs X_1/\
 q29/\
 q123≠0/\
 q68/\
 Z0 q70
 (Z0 q72
 (Z0 q74
 (Z0 q76
 (Z0 q78
 (q80/\
 q82/\
 Z0 q84
 (Z0 q86
 (q88/\
 q90/\
 Z0 q92
 (Z0 q92
 (q68/\
 Z0 q70
 (Z0 q72
 (Z0 q74
 (Z0 q76
 (Z0 q78
 (q80/\
 q82/\
 Z0 q84 (Z0 q86 (q88/\q90/\Z0 q92 (Z0 q92 (q67=q3/\Z0 (decide (q69=q5)) (Z0 (decide (q71=q7)) (Z0 (decide (q73=q9)) (Z0 (decide (q75=q11)) (Z0 (decide (q77=q13)) (q79=q15/\q81=q17/\Z0 (decide (q83=q19)) (Z0 (decide (q85=q21)) (q87=q23/\q89=q25/\Z0 q93 (Z0 (decide (q1<=q91)) (Z0 (decide ((q123==q65)=true)) (q124.fund=q3/\Z0 (decide (q124.index=q5)) (Z0 (decide (q124.cap=q7)) (Z0 (decide (q124.dust=q9)) (Z0 (decide (q124.fee=q11)) (Z0 (decide (q124.delay=q13)) (q124.k0=q15/\q124.k1=q17/\Z0 (decide (X_1.side=q19)) (Z0 (decide (X_1.res=q21)) ([X_1.a0,X_1.a1]=q23/\[X_1.i0,X_1.i1]=q25/\Z0 q126 (Z0 (decide (q1<=q125)) (Z0 q126 (Zb 3 [] q1 q27 (Z6 X_1.L)/\Z0 q93 (Zb 3 [] q1 q27 (Z6 X.L)/\True) False) False) False) False) False) False) False) False) False) False) False) False) False) False) False) False) False) False) False) False) False) False) False) False)
 False)
 False)
 False)
 False)
 False)
 False)
 False)
 False)
 False)
 False)
 False)
 False)
 False)
 False)
 False)
 False) (by kernel_rfl) ?_
 conv=>zeta
 try simp only [Zj]
 try simp only [Zl]
 try simp only [Zi]
 try simp only [Zm]
 try simp only [Zn]
 try simp only [Zh]
 try simp only [Int.toNat_natCast,Nat.zero_add,true_and,and_true,Nat.le_refl]
 have hlen:=hI.am.n
 have hsb:a.secret.length<=B:=by rw [ha.secret];exact hB
 repeat' first
  | exact hI
  | exact he
  | exact ha.secret
  | exact ha.sb
  | exact W4
  | exact hsb
  | exact hlen
  | exact beq_self_eq_true _
  | (intro _ _;trivial)
  | refine Exists.intro X (And.intro ⟨rfl,rfl,rfl⟩ ?_)
  | refine Exists.intro X (And.intro (.a rfl) ?_)
  | apply And.intro
  | rfl
  | omega
  | exact Zo fun _ _=>rfl
theorem ZlB (X Y:Z8) (a:Yq) (H1:List Int->List Int) (B:Nat) (hI:X.Inv Zs) (ha:a.Ok) (hB:32<=B) (he:Xd Zs X (Ya X a).1 (Ya X a).2 2 Zf=0) (hY:Y=endX Zs X (Ya X a).1 (Ya X a).2 2 Zf):
  evF (Z42 H1 B true) 20 17 [.ptr (some ⟨0,0,0,0,0⟩),.agg (X.c (slH 2 X.L.length)),.agg (.int .i64 2::a.c.tail)] (Z1e X) (Y5 3 (.ret (.tuple [.agg (Y.c (slH 4 Y.L.length)),.bool true])) 5 (ZbE X Y)):=by
 refine @Eq.mpr _ (let q1:=List.length X.L;let q2:=X.t;let q3:=AV.arr u8 32 q2.fund;let q4:=AV.int i64 q2.index;let q5:=AV.int i64 q2.cap;let q6:=AV.int i64 q2.dust;let q7:=AV.int i64 q2.fee;let q8:=AV.int i64 q2.delay;let q9:=AV.arr u8 32 q2.k0;let q10:=AV.arr u8 32 q2.k1;let q11:=AV.int i64 X.side;let q12:=AV.int i64 X.res;let q13:=AV.arr i64 2 [X.a0,X.a1];let q14:=AV.arr i64 2 [X.i0,X.i1];let q15:=Z6 X.L;let q16:=Yq.mk 2 a.own a.off a.amount a.expiry a.secret a.at' a.move a.ours a.number;let q17:=Y.t;let q18:=q17.fund;let q19:=q17.index;let q20:=q17.cap;let q21:=q17.dust;let q22:=q17.fee;let q23:=q17.delay;let q24:=q17.k0;let q25:=q17.k1;let q26:=[Y.a0,Y.a1];let q27:=[Y.i0,Y.i1];let q28:=List.length Y.L;let q29:=[(3,11),(4,9)];let q30:=Z6 Y.L;
 Z0 (decide (0+q1<=q1))
 ((∀(i:Nat),i<q1->true=true)/\
 ∃(X:Z8),
 let q61:=(Ya X q16).fst;let q62:=(Ya X q16).snd;
 LV [q3,q4,q5,q6,q7,q8,q9,q10,q11,q12,q13,q14,AV.vrows 70 q1 (ZT 0 q15) q1] X/\
 List.length X.L<1000/\
 (∀(i:Nat),i<q1->true=true)/\
 ∃(X:Z8),
 let q65:=endX Zs X q61 q62 2 Zf;let q66:=q65.t;let q67:=q66.fund;let q68:=q67=q67;let q69:=q66.index;let q70:=decide (q69=q69);let q71:=q66.cap;let q72:=decide (q71=q71);let q73:=q66.dust;let q74:=decide (q73=q73);let q75:=q66.fee;let q76:=decide (q75=q75);let q77:=q66.delay;let q78:=decide (q77=q77);let q79:=q66.k0;let q80:=q79=q79;let q81:=q66.k1;let q82:=q81=q81;let q83:=q65.side;let q84:=decide (q83=q83);let q85:=q65.res;let q86:=decide (q85=q85);let q87:=[q65.a0,q65.a1];let q88:=q87=q87;let q89:=[q65.i0,q65.i1];let q90:=q89=q89;let q91:=List.length X.L;let q92:=decide (q91=q91);let q93:=decide (q91=q28);
 LD [q3,q4,q5,q6,q7,q8,q9,q10,q11,q12,q13,q14,AV.nslice (ZF.mk 0 0 70 0 0) 70 q1 q1] q1 q15 X/\
 Z8.Inv Zs X/\
 ((32:Nat)=32/\Bytes Zf)/\
 Xd Zs X q61 q62 2 Zf=0/\
 (∀(i:Nat),i<q1->true=true)/\
 ∃(X_1:Z8),
 let q123:=endX Zs X_1 q61 q62 2 Zf;let q124:=q123.t;let q125:=List.length X_1.L;let q126:=decide (q125=q28);
 LB [q3,q4,q5,q6,q7,q8,q9,q10,q11,q12,q13,q14,AV.nslice (ZF.mk 1 0 70 0 0) 70 q1 q1] q1 q15 X_1/\
 Z8.Inv Zs X_1/\
 (32:Nat)=32/\
 Xd Zs X_1 q61 q62 2 Zf=0/\
 q68/\
 Z0 q70
 (Z0 q72
 (Z0 q74
 (Z0 q76
 (Z0 q78
 (q80/\
 q82/\
 Z0 q84
 (Z0 q86
 (q88/\
 q90/\
 Z0 q92
 (Z0 q92
 (q68/\
 Z0 q70
 (Z0 q72
 (Z0 q74
 (Z0 q76
 (Z0 q78
 (q80/\
 q82/\
 Z0 q84
 (Z0 q86
 (q88/\
 q90/\
 Z0 q92
 (Z0 q92 (q67=q18/\Z0 (decide (q69=q19)) (Z0 (decide (q71=q20)) (Z0 (decide (q73=q21)) (Z0 (decide (q75=q22)) (Z0 (decide (q77=q23)) (q79=q24/\q81=q25/\Z0 (decide (q83=Y.side)) (Z0 (decide (q85=Y.res)) (q87=q26/\q89=q27/\Z0 q93 (Z0 (decide (q28<=q91)) (q124.fund=q18/\Z0 (decide (q124.index=q19)) (Z0 (decide (q124.cap=q20)) (Z0 (decide (q124.dust=q21)) (Z0 (decide (q124.fee=q22)) (Z0 (decide (q124.delay=q23)) (q124.k0=q24/\q124.k1=q25/\Z0 (decide (q123.side=Y.side)) (Z0 (decide (q123.res=Y.res)) ([q123.a0,q123.a1]=q26/\[q123.i0,q123.i1]=q27/\Z0 q126 (Z0 (decide (q28<=q125)) (Z0 q126 (Zb 3 q29 q28 q30 (Z6 q123.L)/\Z0 q93 (Zb 3 q29 q28 q30 (Z6 q65.L)/\Z0 (decide (q91=q1)) (Zb 3 q29 q1 q15 (Z6 X.L)/\True) False) False) False) False) False) False) False) False) False) False) False) False) False) False) False) False) False) False) False) False) False) False)
 False)
 False)
 False)
 False)
 False)
 False)
 False)
 False)
 False)
 False)
 False)
 False)
 False)
 False)
 False)
 False)
 False)
 False) (by kernel_rfl) ?_
 conv=>zeta
 try simp only [Zj]
 try simp only [Zl]
 try simp only [Zi]
 try simp only [Zm]
 try simp only [Zn]
 try simp only [Zh]
 try simp only [Int.toNat_natCast,Nat.zero_add,true_and,and_true,Nat.le_refl]
 have hlen:=hI.am.n
 have hsb:a.secret.length<=B:=by rw [ha.secret];exact hB
 subst hY
 have hlx:(endX Zs X (Ya X a).1 (Ya X a).2 2 Zf).L.length=X.L.length:=by unfold endX;split<;>simp
 rw [hlx]
 repeat' first
  | exact hI
  | exact he
  | exact ha.secret
  | exact ha.sb
  | exact W4
  | exact hsb
  | exact hlen
  | exact beq_self_eq_true _
  | (intro _ _;trivial)
  | refine Exists.intro X (And.intro ⟨rfl,rfl,rfl⟩ ?_)
  | refine Exists.intro X (And.intro (.a rfl) ?_)
  | apply And.intro
  | rfl
  | omega
  | exact Zo fun _ _=>rfl
theorem ZlC (X:Z8) (a:Yq) (H1:List Int->List Int) (B:Nat) (hI:X.Inv Zs) (ha:a.Ok) (hB:32<=B) (he:Xd Zs X (Ya X a).1 (Ya X a).2 2 Zf≠0):
  evF (Z42 H1 B false) 20 17 [.ptr (some ⟨0,0,0,0,0⟩),.agg (X.c (slH 2 X.L.length)),.agg (.int .i64 2::a.c.tail)] (Z1e X) (Y5 3 (.ret (.tuple [.agg (X.c (slH 2 X.L.length)),.bool true])) 3 (Z3M X)):=by
 refine @Eq.mpr _ (let q1:=List.length X.L;let q2:=X.t;let q3:=q2.fund;let q4:=AV.arr u8 32 q3;let q5:=q2.index;let q6:=AV.int i64 q5;let q7:=q2.cap;let q8:=AV.int i64 q7;let q9:=q2.dust;let q10:=AV.int i64 q9;let q11:=q2.fee;let q12:=AV.int i64 q11;let q13:=q2.delay;let q14:=AV.int i64 q13;let q15:=q2.k0;let q16:=AV.arr u8 32 q15;let q17:=q2.k1;let q18:=AV.arr u8 32 q17;let q19:=X.side;let q20:=AV.int i64 q19;let q21:=X.res;let q22:=AV.int i64 q21;let q23:=[X.a0,X.a1];let q24:=AV.arr i64 2 q23;let q25:=[X.i0,X.i1];let q26:=AV.arr i64 2 q25;let q27:=Z6 X.L;let q28:=Yq.mk 2 a.own a.off a.amount a.expiry a.secret a.at' a.move a.ours a.number;
 Z0 (decide (0+q1<=q1))
 ((∀(i:Nat),i<q1->true=true)/\
 ∃(X:Z8),
 let q57:=(Ya X q28).fst;let q58:=(Ya X q28).snd;
 LV [q4,q6,q8,q10,q12,q14,q16,q18,q20,q22,q24,q26,AV.vrows 70 q1 (ZT 0 q27) q1] X/\
 List.length X.L<1000/\
 (∀(i:Nat),i<q1->true=true)/\
 ∃(X:Z8),
 let q61:=Xd Zs X q57 q58 2 Zf;let q62:=X.t;let q63:=q62.fund;let q64:=q63=q63;let q65:=q62.index;let q66:=decide (q65=q65);let q67:=q62.cap;let q68:=decide (q67=q67);let q69:=q62.dust;let q70:=decide (q69=q69);let q71:=q62.fee;let q72:=decide (q71=q71);let q73:=q62.delay;let q74:=decide (q73=q73);let q75:=q62.k0;let q76:=q75=q75;let q77:=q62.k1;let q78:=q77=q77;let q79:=X.side;let q80:=decide (q79=q79);let q81:=X.res;let q82:=decide (q81=q81);let q83:=[X.a0,X.a1];let q84:=q83=q83;let q85:=[X.i0,X.i1];let q86:=q85=q85;let q87:=List.length X.L;let q88:=decide (q87=q87);let q89:=decide (q87=q1);
 LD [q4,q6,q8,q10,q12,q14,q16,q18,q20,q22,q24,q26,AV.nslice (ZF.mk 0 0 70 0 0) 70 q1 q1] q1 q27 X/\
 Z8.Inv Zs X/\
 ((32:Nat)=32/\Bytes Zf)/\
 q61≠0/\
 (∀(i:Nat),i<q1->true=true)/\
 ∃(X_1:Z8),
 let q119:=Xd Zs X_1 q57 q58 2 Zf;let q120:=X_1.t;let q121:=List.length X_1.L;let q122:=decide (q121=q1);
 LB [q4,q6,q8,q10,q12,q14,q16,q18,q20,q22,q24,q26,AV.nslice (ZF.mk 1 0 70 0 0) 70 q1 q1] q1 q27 X_1/\
 Z8.Inv Zs X_1/\
 (32:Nat)=32/\
 q119≠0/\
 q64/\
 Z0 q66
 (Z0 q68
 (Z0 q70
 (Z0 q72
 (Z0 q74
 (q76/\
 q78/\
 Z0 q80
 (Z0 q82
 (q84/\
 q86/\
 Z0 q88
 (Z0 q88
 (q64/\
 Z0 q66
 (Z0 q68
 (Z0 q70
 (Z0 q72
 (Z0 q74
 (q76/\
 q78/\
 Z0 q80 (Z0 q82 (q84/\q86/\Z0 q88 (Z0 q88 (q63=q3/\Z0 (decide (q65=q5)) (Z0 (decide (q67=q7)) (Z0 (decide (q69=q9)) (Z0 (decide (q71=q11)) (Z0 (decide (q73=q13)) (q75=q15/\q77=q17/\Z0 (decide (q79=q19)) (Z0 (decide (q81=q21)) (q83=q23/\q85=q25/\Z0 q89 (Z0 (decide (q1<=q87)) (Z0 (decide ((q119==q61)=true)) (q120.fund=q3/\Z0 (decide (q120.index=q5)) (Z0 (decide (q120.cap=q7)) (Z0 (decide (q120.dust=q9)) (Z0 (decide (q120.fee=q11)) (Z0 (decide (q120.delay=q13)) (q120.k0=q15/\q120.k1=q17/\Z0 (decide (X_1.side=q19)) (Z0 (decide (X_1.res=q21)) ([X_1.a0,X_1.a1]=q23/\[X_1.i0,X_1.i1]=q25/\Z0 q122 (Z0 (decide (q1<=q121)) (Z0 q122 (Zb 3 [] q1 q27 (Z6 X_1.L)/\Z0 q89 (Zb 3 [] q1 q27 (Z6 X.L)/\True) False) False) False) False) False) False) False) False) False) False) False) False) False) False) False) False) False) False) False) False) False) False) False) False)
 False)
 False)
 False)
 False)
 False)
 False)
 False)
 False)
 False)
 False)
 False)
 False)
 False)
 False)
 False)
 False) (by kernel_rfl) ?_
 conv=>zeta
 try simp only [Zj]
 try simp only [Zl]
 try simp only [Zi]
 try simp only [Zm]
 try simp only [Zn]
 try simp only [Zh]
 try simp only [Int.toNat_natCast,Nat.zero_add,true_and,and_true,Nat.le_refl]
 have hlen:=hI.am.n
 have hsb:a.secret.length<=B:=by rw [ha.secret];exact hB
 repeat' first
  | exact hI
  | exact he
  | exact ha.secret
  | exact ha.sb
  | exact W4
  | exact hsb
  | exact hlen
  | exact beq_self_eq_true _
  | (intro _ _;trivial)
  | refine Exists.intro X (And.intro ⟨rfl,rfl,rfl⟩ ?_)
  | refine Exists.intro X (And.intro (.a rfl) ?_)
  | apply And.intro
  | rfl
  | omega
  | exact Zo fun _ _=>rfl
theorem ZlD (X Y:Z8) (a:Yq) (H1:List Int->List Int) (B:Nat) (hI:X.Inv Zs) (ha:a.Ok) (hB:32<=B) (he:1<=a.move/\a.move<=4) (hY:Y=stpX X a.move):
  evF (Z42 H1 B true) 20 17 [.ptr (some ⟨0,0,0,0,0⟩),.agg (X.c (slH 2 X.L.length)),.agg (.int .i64 3::a.c.tail)] (Z1e X) (Y5 3 (.ret (.tuple [.agg (Y.c (slH 4 Y.L.length)),.bool true])) 5 (ZbE X Y)):=by
 refine @Eq.mpr _ (let q1:=List.length X.L;let q2:=X.t;let q3:=AV.arr u8 32 q2.fund;let q4:=AV.int i64 q2.index;let q5:=AV.int i64 q2.cap;let q6:=AV.int i64 q2.dust;let q7:=AV.int i64 q2.fee;let q8:=AV.int i64 q2.delay;let q9:=AV.arr u8 32 q2.k0;let q10:=AV.arr u8 32 q2.k1;let q11:=AV.int i64 X.side;let q12:=AV.int i64 X.res;let q13:=AV.arr i64 2 [X.a0,X.a1];let q14:=AV.arr i64 2 [X.i0,X.i1];let q15:=Z6 X.L;let q16:=a.move;let q17:=1<=q16/\q16<=4;let q18:=Y.t;let q19:=q18.fund;let q20:=q18.index;let q21:=q18.cap;let q22:=q18.dust;let q23:=q18.fee;let q24:=q18.delay;let q25:=q18.k0;let q26:=q18.k1;let q27:=[Y.a0,Y.a1];let q28:=[Y.i0,Y.i1];let q29:=List.length Y.L;let q30:=[(3,10),(4,6)];let q31:=Z6 Y.L;
 (∀(i:Nat),i<q1->true=true)/\
 ∃(X_1:Z8),
 let q63:=X_1.L;let q64:=Ys q16 q63;let q65:=List.length q64;let q66:=ZX q16 q63;let q67:=List.length q66;let q68:=stpX X_1 q16;let q69:=q68.t;let q70:=q69.fund;let q71:=q69.index;let q72:=q69.cap;let q73:=q69.dust;let q74:=q69.fee;let q75:=q69.delay;let q76:=q69.k0;let q77:=q69.k1;let q78:=q68.side;let q79:=q68.res;let q80:=[q68.a0,q68.a1];let q81:=[q68.i0,q68.i1];let q82:=q68.L;let q83:=List.length q82;let q84:=decide (q83=q83);let q85:=decide (q83=q29);
 LD [q3,q4,q5,q6,q7,q8,q9,q10,q11,q12,q13,q14,AV.nslice (ZF.mk 0 0 70 0 0) 70 q1 q1] q1 q15 X_1/\
 Z8.Inv Zs X_1/\
 q17/\
 (∀(i:Nat),i<q1->true=true)/\
 ∃(X_2:Z8),
 let q109:=Ys q16 X_2.L;let q110:=List.length q109;let q111:=q65=q110;let q112:=ZX q16 X_2.L;let q113:=List.length q112;let q114:=q67=q113;let q115:=stpX X_2 q16;let q116:=q115.t;let q117:=q115.L;let q118:=List.length q117;let q119:=decide (q118=q29);
 LB [q3,q4,q5,q6,q7,q8,q9,q10,q11,q12,q13,q14,AV.nslice (ZF.mk 1 0 70 0 0) 70 q1 q1] q1 q15 X_2/\
 Z8.Inv Zs X_2/\
 q17/\
 Z0 (decide (0+q110<=q110))
 ((∀(i:Nat),i<q110->true=true)/\
 Z0 (decide (0+q65<=q65))
 ((∀(i:Nat),i<q65->true=true)/\
 ∃(A:List Z7),
 (q110=List.length A/\q110=q110/\q111/\q111)/\
 (ZT 0 (Z6 q109)=Z6 A/\ZT 0 (Z6 q64)=Z6 A)/\
 q110<1000/\
 (∀(h:Z7),List.Mem h A->Z7.Ok h)/\
 Z0 (decide (0+q113<=q113))
 ((∀(i:Nat),i<q113->true=true)/\
 Z0 (decide (0+q67<=q67))
 ((∀(i:Nat),i<q67->true=true)/\
 ∃(A:List Z7),
 (q113=List.length A/\q113=q113/\q114/\q114)/\
 (ZT 0 (Z6 q112)=Z6 A/\ZT 0 (Z6 q66)=Z6 A)/\
 q113<1000/\
 (∀(h:Z7),List.Mem h A->Z7.Ok h)/\
 q70=q70/\
 Z0 (decide (q71=q71))
 (Z0 (decide (q72=q72))
 (Z0 (decide (q73=q73))
 (Z0 (decide (q74=q74))
 (Z0 (decide (q75=q75))
 (q76=q76/\
 q77=q77/\
 Z0 (decide (q78=q78))
 (Z0 (decide (q79=q79))
 (q80=q80/\
 q81=q81/\
 Z0 q84
 (Z0 q84 (q70=q19/\Z0 (decide (q71=q20)) (Z0 (decide (q72=q21)) (Z0 (decide (q73=q22)) (Z0 (decide (q74=q23)) (Z0 (decide (q75=q24)) (q76=q25/\q77=q26/\Z0 (decide (q78=Y.side)) (Z0 (decide (q79=Y.res)) (q80=q27/\q81=q28/\Z0 q85 (Z0 (decide (q29<=q83)) (q116.fund=q19/\Z0 (decide (q116.index=q20)) (Z0 (decide (q116.cap=q21)) (Z0 (decide (q116.dust=q22)) (Z0 (decide (q116.fee=q23)) (Z0 (decide (q116.delay=q24)) (q116.k0=q25/\q116.k1=q26/\Z0 (decide (q115.side=Y.side)) (Z0 (decide (q115.res=Y.res)) ([q115.a0,q115.a1]=q27/\[q115.i0,q115.i1]=q28/\Z0 q119 (Z0 (decide (q29<=q118)) (Z0 q119 (Zb 3 q30 q29 q31 (Z6 q117)/\Z0 q85 (Zb 3 q30 q29 q31 (Z6 q82)/\Z0 (decide (List.length q63=q1)) (Zb 3 q30 q1 q15 (Z6 q63)/\True) False) False) False) False) False) False) False) False) False) False) False) False) False) False) False) False) False) False) False) False) False)
 False)
 False)
 False)
 False)
 False)
 False)
 False)
 False)
 False)
 False)
 False)
 False)
 False) (by kernel_rfl) ?_
 conv=>zeta
 try simp only [Zj]
 try simp only [Zl]
 try simp only [Zi]
 try simp only [Zm]
 try simp only [Zn]
 try simp only [Zh]
 try simp only [Int.toNat_natCast,Nat.zero_add,true_and,and_true,Nat.le_refl]
 have hlen:=hI.am.n
 have hsb:a.secret.length<=B:=by rw [ha.secret];exact hB
 subst hY
 have okH:∀h∈Ys a.move X.L,h.Ok:=fun h hh=>Zhh hI hh
 have okG:∀h∈ZX a.move X.L,h.Ok:=fun h hh=>Zhi hI hh
 have l1:(Ys a.move X.L).length<1000:=by have:=Z3D a.move X.L;omega
 have l2:(ZX a.move X.L).length<1000:=by have:=Z3C a.move X.L;omega
 repeat' first
  | exact hI
  | exact he
  | exact ha.secret
  | exact ha.sb
  | exact W4
  | exact hsb
  | exact hlen
  | exact beq_self_eq_true _
  | (intro _ _;trivial)
  | refine Exists.intro X (And.intro ⟨rfl,rfl,rfl⟩ ?_)
  | refine Exists.intro X (And.intro (.a rfl) ?_)
  | exact okH
  | exact okG
  | exact l1
  | exact l2
  | refine Exists.intro (Ys a.move X.L) (And.intro ⟨rfl,rfl,rfl⟩ ?_)
  | refine Exists.intro (ZX a.move X.L) (And.intro ⟨rfl,rfl,rfl⟩ ?_)
  | apply And.intro
  | rfl
  | omega
  | exact Zo fun _ _=>rfl
theorem ZlE (X:Z8) (a:Yq) (H1:List Int->List Int) (B:Nat) (hI:X.Inv Zs) (ha:a.Ok) (hB:32<=B) (he:¬(1<=a.move/\a.move<=4)):
  evF (Z42 H1 B false) 20 17 [.ptr (some ⟨0,0,0,0,0⟩),.agg (X.c (slH 2 X.L.length)),.agg (.int .i64 3::a.c.tail)] (Z1e X) (Y5 3 (.ret (.tuple [.agg (X.c (slH 2 X.L.length)),.bool true])) 3 (Z3M X)):=by
 refine @Eq.mpr _ (let q1:=List.length X.L;let q2:=X.t;let q3:=q2.fund;let q4:=AV.arr u8 32 q3;let q5:=q2.index;let q6:=AV.int i64 q5;let q7:=q2.cap;let q8:=AV.int i64 q7;let q9:=q2.dust;let q10:=AV.int i64 q9;let q11:=q2.fee;let q12:=AV.int i64 q11;let q13:=q2.delay;let q14:=AV.int i64 q13;let q15:=q2.k0;let q16:=AV.arr u8 32 q15;let q17:=q2.k1;let q18:=AV.arr u8 32 q17;let q19:=X.side;let q20:=AV.int i64 q19;let q21:=X.res;let q22:=AV.int i64 q21;let q23:=[X.a0,X.a1];let q24:=AV.arr i64 2 q23;let q25:=[X.i0,X.i1];let q26:=AV.arr i64 2 q25;let q27:=Z6 X.L;let q28:=¬(1<=a.move/\a.move<=4);
 (∀(i:Nat),i<q1->true=true)/\
 ∃(X:Z8),
 let q57:=X.t;let q58:=q57.fund;let q59:=q57.index;let q60:=q57.cap;let q61:=q57.dust;let q62:=q57.fee;let q63:=q57.delay;let q64:=q57.k0;let q65:=q57.k1;let q66:=X.side;let q67:=X.res;let q68:=[X.a0,X.a1];let q69:=[X.i0,X.i1];let q70:=List.length X.L;let q71:=decide (q70=q70);let q72:=decide (q70=q1);
 LD [q4,q6,q8,q10,q12,q14,q16,q18,q20,q22,q24,q26,AV.nslice (ZF.mk 0 0 70 0 0) 70 q1 q1] q1 q27 X/\
 Z8.Inv Zs X/\
 q28/\
 (∀(i:Nat),i<q1->true=true)/\
 ∃(X_1:Z8),
 let q89:=X_1.t;let q90:=List.length X_1.L;let q91:=decide (q90=q1);
 LB [q4,q6,q8,q10,q12,q14,q16,q18,q20,q22,q24,q26,AV.nslice (ZF.mk 1 0 70 0 0) 70 q1 q1] q1 q27 X_1/\
 Z8.Inv Zs X_1/\
 q28/\
 q58=q58/\
 Z0 (decide (q59=q59))
 (Z0 (decide (q60=q60))
 (Z0 (decide (q61=q61))
 (Z0 (decide (q62=q62))
 (Z0 (decide (q63=q63))
 (q64=q64/\
 q65=q65/\
 Z0 (decide (q66=q66)) (Z0 (decide (q67=q67)) (q68=q68/\q69=q69/\Z0 q71 (Z0 q71 (q58=q3/\Z0 (decide (q59=q5)) (Z0 (decide (q60=q7)) (Z0 (decide (q61=q9)) (Z0 (decide (q62=q11)) (Z0 (decide (q63=q13)) (q64=q15/\q65=q17/\Z0 (decide (q66=q19)) (Z0 (decide (q67=q21)) (q68=q23/\q69=q25/\Z0 q72 (Z0 (decide (q1<=q70)) (q89.fund=q3/\Z0 (decide (q89.index=q5)) (Z0 (decide (q89.cap=q7)) (Z0 (decide (q89.dust=q9)) (Z0 (decide (q89.fee=q11)) (Z0 (decide (q89.delay=q13)) (q89.k0=q15/\q89.k1=q17/\Z0 (decide (X_1.side=q19)) (Z0 (decide (X_1.res=q21)) ([X_1.a0,X_1.a1]=q23/\[X_1.i0,X_1.i1]=q25/\Z0 q91 (Z0 (decide (q1<=q90)) (Z0 q91 (Zb 3 [] q1 q27 (Z6 X_1.L)/\Z0 q72 (Zb 3 [] q1 q27 (Z6 X.L)/\True) False) False) False) False) False) False) False) False) False) False) False) False) False) False) False) False) False) False) False) False) False) False) False) False)
 False)
 False)
 False)
 False)
 False) (by kernel_rfl) ?_
 conv=>zeta
 try simp only [Zj]
 try simp only [Zl]
 try simp only [Zi]
 try simp only [Zm]
 try simp only [Zn]
 try simp only [Zh]
 try simp only [Int.toNat_natCast,Nat.zero_add,true_and,and_true,Nat.le_refl]
 have hlen:=hI.am.n
 have hsb:a.secret.length<=B:=by rw [ha.secret];exact hB
 repeat' first
  | exact hI
  | exact he
  | exact ha.secret
  | exact ha.sb
  | exact W4
  | exact hsb
  | exact hlen
  | exact beq_self_eq_true _
  | (intro _ _;trivial)
  | refine Exists.intro X (And.intro ⟨rfl,rfl,rfl⟩ ?_)
  | refine Exists.intro X (And.intro (.a rfl) ?_)
  | apply And.intro
  | rfl
  | omega
  | exact Zo fun _ _=>rfl
theorem ZlF (X Y:Z8) (a:Yq) (H1:List Int->List Int) (B:Nat) (hI:X.Inv Zs) (ha:a.Ok) (hB:32<=B) (he:True) (hY:Y=brkX X):
  evF (Z42 H1 B true) 20 17 [.ptr (some ⟨0,0,0,0,0⟩),.agg (X.c (slH 2 X.L.length)),.agg (.int .i64 4::a.c.tail)] (Z1e X) (Y5 3 (.ret (.tuple [.agg (Y.c (slH 4 Y.L.length)),.bool true])) 5 (ZbE X Y)):=by
 refine @Eq.mpr _ (let q1:=List.length X.L;let q2:=X.t;let q3:=AV.arr u8 32 q2.fund;let q4:=AV.int i64 q2.index;let q5:=AV.int i64 q2.cap;let q6:=AV.int i64 q2.dust;let q7:=AV.int i64 q2.fee;let q8:=AV.int i64 q2.delay;let q9:=AV.arr u8 32 q2.k0;let q10:=AV.arr u8 32 q2.k1;let q11:=AV.int i64 X.side;let q12:=AV.int i64 X.res;let q13:=AV.arr i64 2 [X.a0,X.a1];let q14:=AV.arr i64 2 [X.i0,X.i1];let q15:=Z6 X.L;let q16:=Y.t;let q17:=q16.fund;let q18:=q16.index;let q19:=q16.cap;let q20:=q16.dust;let q21:=q16.fee;let q22:=q16.delay;let q23:=q16.k0;let q24:=q16.k1;let q25:=[Y.a0,Y.a1];let q26:=[Y.i0,Y.i1];let q27:=List.length Y.L;let q28:=[(3,9),(4,6)];let q29:=Z6 Y.L;
 (∀(i:Nat),i<q1->true=true)/\
 ∃(X_1:Z8),
 let q59:=brkX X_1;let q60:=q59.t;let q61:=q60.fund;let q62:=q60.index;let q63:=q60.cap;let q64:=q60.dust;let q65:=q60.fee;let q66:=q60.delay;let q67:=q60.k0;let q68:=q60.k1;let q69:=q59.side;let q70:=q59.res;let q71:=[q59.a0,q59.a1];let q72:=[q59.i0,q59.i1];let q73:=q59.L;let q74:=List.length q73;let q75:=decide (q74=q74);let q76:=X_1.L;let q77:=ZL q76;let q78:=List.length q77;let q79:=decide (q74=q27);
 LD [q3,q4,q5,q6,q7,q8,q9,q10,q11,q12,q13,q14,AV.nslice (ZF.mk 0 0 70 0 0) 70 q1 q1] q1 q15 X_1/\
 Z8.Inv Zs X_1/\
 (∀(i:Nat),i<q1->true=true)/\
 ∃(X_2:Z8),
 let q101:=ZL X_2.L;let q102:=List.length q101;let q103:=q78=q102;let q104:=brkX X_2;let q105:=q104.t;let q106:=q104.L;let q107:=List.length q106;let q108:=decide (q107=q27);
 LB [q3,q4,q5,q6,q7,q8,q9,q10,q11,q12,q13,q14,AV.nslice (ZF.mk 1 0 70 0 0) 70 q1 q1] q1 q15 X_2/\
 Z8.Inv Zs X_2/\
 q61=q61/\
 Z0 (decide (q62=q62))
 (Z0 (decide (q63=q63))
 (Z0 (decide (q64=q64))
 (Z0 (decide (q65=q65))
 (Z0 (decide (q66=q66))
 (q67=q67/\
 q68=q68/\
 Z0 (decide (q69=q69))
 (Z0 (decide (q70=q70))
 (q71=q71/\
 q72=q72/\
 Z0 q75
 (Z0 q75
 (Z0 (decide (0+q102<=q102))
 ((∀(i:Nat),i<q102->true=true)/\
 Z0 (decide (0+q78<=q78))
 ((∀(i:Nat),i<q78->true=true)/\
 ∃(A:List Z7),
 (q102=List.length A/\q102=q102/\q103/\q103)/\
 (ZT 0 (Z6 q101)=Z6 A/\ZT 0 (Z6 q77)=Z6 A)/\
 q102<1000/\
 (∀(h:Z7),List.Mem h A->Z7.Ok h)/\
 q61=q17/\Z0 (decide (q62=q18)) (Z0 (decide (q63=q19)) (Z0 (decide (q64=q20)) (Z0 (decide (q65=q21)) (Z0 (decide (q66=q22)) (q67=q23/\q68=q24/\Z0 (decide (q69=Y.side)) (Z0 (decide (q70=Y.res)) (q71=q25/\q72=q26/\Z0 q79 (Z0 (decide (q27<=q74)) (q105.fund=q17/\Z0 (decide (q105.index=q18)) (Z0 (decide (q105.cap=q19)) (Z0 (decide (q105.dust=q20)) (Z0 (decide (q105.fee=q21)) (Z0 (decide (q105.delay=q22)) (q105.k0=q23/\q105.k1=q24/\Z0 (decide (q104.side=Y.side)) (Z0 (decide (q104.res=Y.res)) ([q104.a0,q104.a1]=q25/\[q104.i0,q104.i1]=q26/\Z0 q108 (Z0 (decide (q27<=q107)) (Z0 q108 (Zb 3 q28 q27 q29 (Z6 q106)/\Z0 q79 (Zb 3 q28 q27 q29 (Z6 q73)/\Z0 (decide (List.length q76=q1)) (Zb 3 q28 q1 q15 (Z6 q76)/\True) False) False) False) False) False) False) False) False) False) False) False) False) False) False) False) False) False) False) False) False) False)
 False)
 False)
 False)
 False)
 False)
 False)
 False)
 False)
 False)
 False)
 False) (by kernel_rfl) ?_
 conv=>zeta
 try simp only [Zj]
 try simp only [Zl]
 try simp only [Zi]
 try simp only [Zm]
 try simp only [Zn]
 try simp only [Zh]
 try simp only [Int.toNat_natCast,Nat.zero_add,true_and,and_true,Nat.le_refl]
 have hlen:=hI.am.n
 have hsb:a.secret.length<=B:=by rw [ha.secret];exact hB
 subst hY
 have okG:∀h∈ZL X.L,h.Ok:=fun h hh=>hI.ok h (U3 hh).1
 have l2:(ZL X.L).length<1000:=by
  have:(ZL X.L).length<=X.L.length:=List.length_filter_le _ _
  omega
 repeat' first
  | exact hI
  | exact he
  | exact ha.secret
  | exact ha.sb
  | exact W4
  | exact hsb
  | exact hlen
  | exact beq_self_eq_true _
  | (intro _ _;trivial)
  | refine Exists.intro X (And.intro ⟨rfl,rfl,rfl⟩ ?_)
  | refine Exists.intro X (And.intro (.a rfl) ?_)
  | exact okG
  | exact l2
  | refine Exists.intro (ZL X.L) (And.intro ⟨rfl,rfl,rfl⟩ ?_)
  | apply And.intro
  | rfl
  | omega
  | exact Zo fun _ _=>rfl
end Go.Tk
end
section
namespace Go.Tk
open IntKind (i64 u8 u32 u64 wrap)
theorem ZeS {X:Z8} (hI:X.Inv Zs) {o:Bool} {q:YF} (hq:q∈ZI X.side o X.L):q.hash.length=32:=by
 unfold ZI at hq
 obtain ⟨z,hz,rfl⟩:=List.mem_map.1 hq
 exact (hI.ok z (List.mem_filter.1 hz).1).hash
def nF:Yf:=fun _ _ _=>False
theorem Z3N {f:FuncId} (args:List AV) (h:Za) (K:KO) (hl:nF args h K):Zp PP f args h K:=hl.elim
noncomputable def ZeT (c:Bool):Zg:=(((((((G0.withF 27 nF).withF 50 nF).withF 53 nF).withF 55 nF).withF 12 (Z2d c)).withF 56 (Z3K c)).withP 57 Z3L)
theorem Z7p (c:Bool):(ZeT c).Ok:=Zg.withP_ok (Zg.withF_ok (Zg.withF_ok (Zg.withF_ok (Zg.withF_ok (Zg.withF_ok (Zg.withF_ok Zv Z3N) Z3N) Z3N) Z3N) (Z02 c)) (Z1C c)) Z1D
theorem ZlG (X:Z8) (a:Yq) (hI:X.Inv Zs) (ha:a.Ok) (hw:¬(0<=a.what/\a.what<=4)) (hk:0<=a.number/\a.number<=2147483647):
  evF (ZeT true) 20 17 [.ptr (some ⟨0,0,0,0,0⟩),.agg (X.c (slH 2 X.L.length)),.agg a.c] (Z1e X) (Y5 3 (.ret (.tuple [.agg (X.c (slH 2 X.L.length)),.bool true])) 3 (Z3M X)):=by
 refine @Eq.mpr _ (let q1:=a.what;let q2:=List.length X.L;let q3:=X.t;let q4:=q3.fund;let q5:=q3.index;let q6:=q3.cap;let q7:=q3.dust;let q8:=q3.fee;let q9:=q3.delay;let q10:=q3.k0;let q11:=q3.k1;let q12:=X.side;let q13:=X.res;let q14:=[X.a0,X.a1];let q15:=[X.i0,X.i1];let q16:=Z6 X.L;let q17:=a.number;let q18:=0<=q17/\q17<=2147483647;let q19:=a.ours;let q20:=a.secret;let q21:=q4=q4;let q22:=decide (q5=q5);let q23:=decide (q6=q6);let q24:=decide (q7=q7);let q25:=decide (q8=q8);let q26:=decide (q9=q9);let q27:=q10=q10;let q28:=q11=q11;let q29:=decide (q12=q12);let q30:=decide (q13=q13);let q31:=q14=q14;let q32:=q15=q15;let q33:=decide (q2=q2);let q34:=decide (q2<=q2);let q35:=Zb 3 [] q2 q16 q16;
 Z0 (q1==0) (Z0 a.own False False)
 (Z0 (q1==1) False
 (Z0 (q1==2) False
 (Z0 (q1==3) False
 (Z0 (q1==4) False
 (Z0 (decide (0+q2<=q2))
 ((∀(i:Nat),i<q2->true=true)/\
 ∃(X_1:Z8),
 let q71:=[AV.arr u8 32 q4,AV.int i64 q5,AV.int i64 q6,AV.int i64 q7,AV.int i64 q8,AV.int i64 q9,AV.arr u8 32 q10,AV.arr u8 32 q11,AV.int i64 q12,AV.int i64 q13,AV.arr i64 2 q14,AV.arr i64 2 q15,AV.vrows 70 q2 (ZT 0 q16) q2];let q72:=ZI X_1.side q19 X_1.L;let q73:=List.length q72;
 LV q71 X_1/\
 Z8.Inv Zs X_1/\
 q18/\
 Z0 (decide (0+q2<=q2))
 ((∀(i:Nat),i<q2->true=true)/\
 ∃(X_2:Z8),
 let q77:=ZI X_2.side q19 X_2.L;let q78:=List.length q77;let q79:=q73=q78;
 LV q71 X_2/\
 Z8.Inv Zs X_2/\
 q18/\
 Z0 (decide (0+q78<=q78))
 ((∀(i:Nat),i<q78->true=true)/\
 Z0 (decide (0+q73<=q73))
 ((∀(i:Nat),i<q73->true=true)/\
 ∃(P:List YF),(q78=List.length P/\q78=q78/\q79/\q79)/\(ZT 0 (ZH q77)=ZH P/\ZT 0 (ZH q72)=ZH P)/\(q17=q17/\ZD X_1.side q19=ZD X_2.side q19/\q20=q20/\(Xh X_1 q19).fst=(Xh X_2 q19).fst/\(Xh X_1 q19).snd=(Xh X_2 q19).snd)/\List.length q20=32/\q78<1000/\(∀(q:YF),List.Mem q P->List.length q.hash=32)/\q21/\Z0 q22 (Z0 q23 (Z0 q24 (Z0 q25 (Z0 q26 (q27/\q28/\Z0 q29 (Z0 q30 (q31/\q32/\Z0 q33 (Z0 q33 (q21/\Z0 q22 (Z0 q23 (Z0 q24 (Z0 q25 (Z0 q26 (q27/\q28/\Z0 q29 (Z0 q30 (q31/\q32/\Z0 q33 (Z0 q34 (q21/\Z0 q22 (Z0 q23 (Z0 q24 (Z0 q25 (Z0 q26 (q27/\q28/\Z0 q29 (Z0 q30 (q31/\q32/\Z0 q33 (Z0 q34 (Z0 q33 (q35/\Z0 q33 (q35/\True) False) False) False) False) False) False) False) False) False) False) False) False) False) False) False) False) False) False) False) False) False) False) False) False) False) False) False) False) False)
 False)
 False)
 False)
 False)))))) (by kernel_rfl) ?_
 conv=>zeta
 try simp only [Zj]
 try simp only [Zl]
 try simp only [Zi]
 try simp only [Zm]
 try simp only [Zn]
 try simp only [Zh]
 try simp only [Int.toNat_natCast,Nat.zero_add,true_and,and_true,Nat.le_refl]
 have e:∀k:Int,0<=k->k<=4->(a.what==k)=false:=fun k h1 h2=>by
  rw [beq_eq_false_iff_ne];omega
 have l1:(ZI X.side a.ours X.L).length<1000:=by
  have:=WH X.side a.ours X.L
  have:=hI.len
  omega
 have okP:∀q∈ZI X.side a.ours X.L,q.hash.length=32:=fun q hq=>ZeS hI hq
 refine ⟨fun h=>absurd h (by rw [e 0 (by decide) (by decide)];simp),fun _=>⟨e 1 (by decide) (by decide),e 2 (by decide) (by decide),e 3 (by decide) (by decide),e 4 (by decide) (by decide),fun _ _=>trivial,X,.a rfl,hI,hk,fun _ _=>trivial,X,.a rfl,hI,hk, ?_⟩⟩
 exact ⟨fun _ _=>trivial,fun _ _=>trivial,ZI X.side a.ours X.L,⟨rfl,rfl,rfl⟩,⟨rfl,rfl⟩,⟨rfl,rfl,rfl⟩,ha.secret,l1,okP,Zo fun _ _=>rfl,Zo fun _ _=>rfl⟩
theorem ZlH (X:Z8) (a:Yq) (hI:X.Inv Zs) (ha:a.Ok) (hw:¬(0<=a.what/\a.what<=4)) (hk:¬(0<=a.number/\a.number<=2147483647)):
  evF (ZeT false) 20 17 [.ptr (some ⟨0,0,0,0,0⟩),.agg (X.c (slH 2 X.L.length)),.agg a.c] (Z1e X) (Y5 3 (.ret (.tuple [.agg (X.c (slH 2 X.L.length)),.bool true])) 3 (Z3M X)):=by
 refine @Eq.mpr _ (let q1:=a.what;let q2:=List.length X.L;let q3:=X.t;let q4:=q3.fund;let q5:=q3.index;let q6:=q3.cap;let q7:=q3.dust;let q8:=q3.fee;let q9:=q3.delay;let q10:=q3.k0;let q11:=q3.k1;let q12:=X.side;let q13:=X.res;let q14:=[X.a0,X.a1];let q15:=[X.i0,X.i1];let q16:=Z6 X.L;let q17:=¬(0<=a.number/\a.number<=2147483647);let q18:=q4=q4;let q19:=decide (q5=q5);let q20:=decide (q6=q6);let q21:=decide (q7=q7);let q22:=decide (q8=q8);let q23:=decide (q9=q9);let q24:=q10=q10;let q25:=q11=q11;let q26:=decide (q12=q12);let q27:=decide (q13=q13);let q28:=q14=q14;let q29:=q15=q15;let q30:=decide (q2=q2);let q31:=decide (q2<=q2);let q32:=Zb 3 [] q2 q16 q16;
 Z0 (q1==0) (Z0 a.own False False)
 (Z0 (q1==1) False
 (Z0 (q1==2) False
 (Z0 (q1==3) False
 (Z0 (q1==4) False
 (Z0 (decide (0+q2<=q2))
 ((∀(i:Nat),i<q2->true=true)/\
 ∃(X:Z8),
 let q65:=[AV.arr u8 32 q4,AV.int i64 q5,AV.int i64 q6,AV.int i64 q7,AV.int i64 q8,AV.int i64 q9,AV.arr u8 32 q10,AV.arr u8 32 q11,AV.int i64 q12,AV.int i64 q13,AV.arr i64 2 q14,AV.arr i64 2 q15,AV.vrows 70 q2 (ZT 0 q16) q2];
 LV q65 X/\Z8.Inv Zs X/\q17/\Z0 (decide (0+q2<=q2)) ((∀(i:Nat),i<q2->true=true)/\∃(X:Z8),LV q65 X/\Z8.Inv Zs X/\q17/\((0:Int)=0/\(0:Int)=0/\Zf=Zf/\(0:Int)=0/\(0:Int)=0)/\(32:Nat)=32/\q18/\Z0 q19 (Z0 q20 (Z0 q21 (Z0 q22 (Z0 q23 (q24/\q25/\Z0 q26 (Z0 q27 (q28/\q29/\Z0 q30 (Z0 q30 (q18/\Z0 q19 (Z0 q20 (Z0 q21 (Z0 q22 (Z0 q23 (q24/\q25/\Z0 q26 (Z0 q27 (q28/\q29/\Z0 q30 (Z0 q31 (q18/\Z0 q19 (Z0 q20 (Z0 q21 (Z0 q22 (Z0 q23 (q24/\q25/\Z0 q26 (Z0 q27 (q28/\q29/\Z0 q30 (Z0 q31 (Z0 q30 (q32/\Z0 q30 (q32/\True) False) False) False) False) False) False) False) False) False) False) False) False) False) False) False) False) False) False) False) False) False) False) False) False) False) False) False) False) False) False)
 False)))))) (by kernel_rfl) ?_
 conv=>zeta
 try simp only [Zj]
 try simp only [Zl]
 try simp only [Zi]
 try simp only [Zm]
 try simp only [Zn]
 try simp only [Zh]
 try simp only [Int.toNat_natCast,Nat.zero_add,true_and,and_true,Nat.le_refl]
 have e:∀k:Int,0<=k->k<=4->(a.what==k)=false:=fun k h1 h2=>by
  rw [beq_eq_false_iff_ne];omega
 have l1:(ZI X.side a.ours X.L).length<1000:=by
  have:=WH X.side a.ours X.L
  have:=hI.len
  omega
 have okP:∀q∈ZI X.side a.ours X.L,q.hash.length=32:=fun q hq=>ZeS hI hq
 refine ⟨fun h=>absurd h (by rw [e 0 (by decide) (by decide)];simp),fun _=>⟨e 1 (by decide) (by decide),e 2 (by decide) (by decide),e 3 (by decide) (by decide),e 4 (by decide) (by decide),fun _ _=>trivial,X,.a rfl,hI,hk,fun _ _=>trivial,X,.a rfl,hI,hk, ?_⟩⟩
 exact ⟨Zo fun _ _=>rfl,Zo fun _ _=>rfl⟩
def actX (X:Z8) (a:Yq):Z8:=if a.what=0 then addX X a.own (idA X a) a.amount (Zs a.secret) a.expiry else if a.what=1 then endX Zs X (Ya X a).1 (Ya X a).2 1 a.secret else if a.what=2 then endX Zs X (Ya X a).1 (Ya X a).2 2 Zf else if a.what=3 then stpX X a.move else if a.what=4 then brkX X else X
def Qu (X:Z8) (a:Yq):Prop:=if a.what=0 then XH X a.own (idA X a) a.amount (Zs a.secret) a.expiry≠0 else if a.what=1 then Xd Zs X (Ya X a).1 (Ya X a).2 1 a.secret≠0 else if a.what=2 then Xd Zs X (Ya X a).1 (Ya X a).2 2 Zf≠0 else if a.what=3 then ¬(1<=a.move/\a.move<=4) else if a.what=4 then False else True
theorem ZeU {X:Z8} {a:Yq} (h:Qu X a):actX X a=X:=by
 unfold Qu at h
 unfold actX
 split
 ·rename_i q;rw [if_pos q] at h;unfold addX;rw [if_neg h]
 ·rename_i q;rw [if_neg q] at h
  split
  ·rename_i q;rw [if_pos q] at h;unfold endX;rw [if_neg h]
  ·rename_i q;rw [if_neg q] at h
   split
   ·rename_i q;rw [if_pos q] at h;unfold endX;rw [if_neg h]
   ·rename_i q;rw [if_neg q] at h
    split
    ·rename_i q;rw [if_pos q] at h;unfold stpX;rw [if_neg h]
    ·rename_i q;rw [if_neg q] at h
     split
     ·rename_i q;rw [if_pos q] at h;exact h.elim
     ·rfl
theorem Qa {xs:List Int} (h:∀x∈xs,0<=x/\x<=255):Bytes xs:=⟨fun i=>by
 rw [List.getD_eq_getElem?_getD]
 rcases Nat.lt_or_ge i xs.length with q|q
 ·rw [List.getElem?_eq_getElem q];exact h _ (List.getElem_mem q)
 ·rw [List.getElem?_eq_none q];exact ⟨by decide,by decide⟩⟩
theorem ZbF (n:Int):∀x∈Vb n,0<=x/\x<=255:=fun x hx=>by
 unfold Vb at hx
 simp only [List.mem_cons,List.not_mem_nil,or_false] at hx
 rcases hx with rfl|rfl|rfl|rfl<;>exact ZfO _
theorem Z90 (bs:List Int):Bytes (Zs bs):=Qa fun x hx=>by
 unfold Zs ZE.fin Z6y at hx
 simp only [List.mem_append] at hx
 rcases hx with ((((((hx|hx)|hx)|hx)|hx)|hx)|hx)|hx<;>exact ZbF _ x hx
theorem Z8.Inv.actX {X:Z8} (h:X.Inv Zs) {a:Yq} (ha:a.Ok):(actX X a).Inv Zs:=by
 unfold Go.Tk.actX
 split
 ·exact h.addX (VD _) (Z90 _)
 ·split
  ·exact h.endX ha.secret ha.sb (.inl rfl)
  ·split
   ·exact h.endX rfl W4 (.inr ⟨rfl,rfl⟩)
   ·split
    ·exact h.stpX _
    ·split
     ·exact h.brkX
     ·exact h
theorem Zid (X:Z8) (a:Yq):(actX X a).t=X.t:=by
 unfold actX
 split
 ·unfold addX
  split
  ·cases a.own<;>rfl
  ·rfl
 ·split
  ·unfold endX;split<;>rfl
  ·split
   ·unfold endX;split<;>rfl
   ·split
    ·unfold stpX;split<;>rfl
    ·split
     ·rfl
     ·rfl
theorem Zhj {a:Yq} (ha:a.Ok):WB a.secret=Zs a.secret:=Z9G (Z7n ha.sb) (by have:=ha.secret;omega)
theorem Spec.act {X:Z8} {a:Yq} (hI:X.Inv Zs) (ha:a.Ok):(Qu X a->Spec PP 17 [.ptr (some ⟨0,0,0,0,0⟩),.agg (X.c (slH 2 X.L.length)),.agg a.c] (Z1e X) (.ret (.tuple [.agg (X.c (slH 2 X.L.length)),.bool true])) 3 (Z3M X))/\(¬Qu X a->Spec PP 17 [.ptr (some ⟨0,0,0,0,0⟩),.agg (X.c (slH 2 X.L.length)),.agg a.c] (Z1e X) (.ret (.tuple [.agg ((actX X a).c (slH 4 (actX X a).L.length)),.bool true])) 5 (ZbE X (actX X a))):=by
 have hs:=Zhj ha
 obtain ⟨w,ow,of,am,ex,se,at',mo,ou,nu⟩:=a
 by_cases h0:w=0
 ·subst h0
  refine ⟨fun hk=> ?_,fun hk=> ?_⟩
  ·exact .evM (WC false) (Zly X ⟨0,ow,of,am,ex,se,at',mo,ou,nu⟩ WB 1000 _ hI ha (by decide) hs (VD _) hk)
  ·exact .evM (WC true) (Zlx X _ ⟨0,ow,of,am,ex,se,at',mo,ou,nu⟩ WB 1000 _ hI ha (by decide) hs (VD _) rfl (by
    have:¬(XH X ow (idA X ⟨0,ow,of,am,ex,se,at',mo,ou,nu⟩) am (Zs se) ex≠0):=hk
    simpa using this))
 by_cases h1:w=1
 ·subst h1
  refine ⟨fun hk=> ?_,fun hk=> ?_⟩
  ·exact .evM (WC false) (ZlA X ⟨1,ow,of,am,ex,se,at',mo,ou,nu⟩ WB 1000 hI ha (by decide) hk)
  ·exact .evM (WC true) (Zlz X _ ⟨1,ow,of,am,ex,se,at',mo,ou,nu⟩ WB 1000 hI ha (by decide) (by
    have:¬(Xd Zs X (Ya X ⟨1,ow,of,am,ex,se,at',mo,ou,nu⟩).1 (Ya X ⟨1,ow,of,am,ex,se,at',mo,ou,nu⟩).2 1 se≠0):=hk
    simpa using this) rfl)
 by_cases h2:w=2
 ·subst h2
  refine ⟨fun hk=> ?_,fun hk=> ?_⟩
  ·exact .evM (WC false) (ZlC X ⟨2,ow,of,am,ex,se,at',mo,ou,nu⟩ WB 1000 hI ha (by decide) hk)
  ·exact .evM (WC true) (ZlB X _ ⟨2,ow,of,am,ex,se,at',mo,ou,nu⟩ WB 1000 hI ha (by decide) (by
    have:¬(Xd Zs X (Ya X ⟨2,ow,of,am,ex,se,at',mo,ou,nu⟩).1 (Ya X ⟨2,ow,of,am,ex,se,at',mo,ou,nu⟩).2 2 Zf≠0):=hk
    simpa using this) rfl)
 by_cases h3:w=3
 ·subst h3
  refine ⟨fun hk=> ?_,fun hk=> ?_⟩
  ·exact .evM (WC false) (ZlE X ⟨3,ow,of,am,ex,se,at',mo,ou,nu⟩ WB 1000 hI ha (by decide) hk)
  ·exact .evM (WC true) (ZlD X _ ⟨3,ow,of,am,ex,se,at',mo,ou,nu⟩ WB 1000 hI ha (by decide) (Classical.not_not.1 hk) rfl)
 by_cases h4:w=4
 ·subst h4
  refine ⟨fun hk=>hk.elim,fun hk=> ?_⟩
  exact .evM (WC true) (ZlF X _ ⟨4,ow,of,am,ex,se,at',mo,ou,nu⟩ WB 1000 hI ha (by decide) trivial rfl)
 refine ⟨fun _=> ?_,fun hk=>absurd ?_ hk⟩
 ·by_cases hn:0<=nu/\nu<=2147483647
  ·exact .evM (Z7p true) (ZlG X ⟨w,ow,of,am,ex,se,at',mo,ou,nu⟩ hI ha (show ¬(0<=w/\w<=4) by omega) hn)
  ·exact .evM (Z7p false) (ZlH X ⟨w,ow,of,am,ex,se,at',mo,ou,nu⟩ hI ha (show ¬(0<=w/\w<=4) by omega) hn)
 ·unfold Qu
  rw [if_neg h0,if_neg h1,if_neg h2,if_neg h3,if_neg h4]
  trivial
structure LA (cs:List AV) (n:Nat) (f:Nat->List AV) (ws:List AV) (m:Nat) (g:Nat->List AV) (X:Z8):Prop where
 h1:cs=X.c (slH 1 X.L.length)
 h2:n=X.L.length
 h3:f=Z6 X.L
 h4:ws=X.c (slH 2 X.L.length)
 h5:m=X.L.length
 h6:g=Z6 X.L
def Zjz:Yf:=fun args h K=>match args with
 | [.ptr (some ⟨l,0,0,0,0⟩),.agg [_,_,_,_,_,_,_,_,_,_,_,_,.nslice ⟨d,0,70,0,0⟩ 70 _ _],_]=>match h.get l with
  |some (.flat [_,_,_,_,_,_,_,_,_,_,_,_,.nslice ⟨b,0,70,0,0⟩ 70 _ _])=>frA [l,b,d] h 20 args fun Bs v=>match Bs,v with
   | [.flat cs,.rows 70 n f,.rows 70 m g],[.ptr (some ⟨0,0,0,0,0⟩),.agg ws,.agg [.int .i64 w,.bool ow,.int .i64 of,.int .i64 am,.int .i64 ex,.arr .u8 32 se,.int .i64 at',.int .i64 mo,.bool ou,.int .i64 nu]]=>
    ∃X a,a=⟨w,ow,of,am,ex,se,at',mo,ou,nu⟩/\LA cs n f ws m g X/\X.Inv Zs/\Yq.Ok a/\(Qu X a->K (.ret (.tuple [.agg (X.c (slH d X.L.length)),.bool true])) ⟨h.next,(l,.flat (X.c (slH b X.L.length)))::(b,.rows 70 X.L.length (Z6 X.L))::(d,.rows 70 X.L.length (Z6 X.L))::Yc (Yc (Yc h.bs l) b) d⟩)/\
     (¬Qu X a->K (.ret (.tuple [.agg ((actX X a).c (slH (h.next+1) (actX X a).L.length)),.bool true])) ⟨h.next+2,(l,.flat ((actX X a).c (slH h.next (actX X a).L.length)))::(h.next,.rows 70 (actX X a).L.length (Z6 (actX X a).L))::(h.next+1,.rows 70 (actX X a).L.length (Z6 (actX X a).L))::(d,.rows 70 X.L.length (Z6 X.L))::Yc (Yc (Yc h.bs l) b) d⟩)
   | _,_=>False
  | _=>False
 | _=>False
theorem Zhk (args:List AV) (h:Za) (K:KO) (hl:Zjz args h K):Zp PP 17 args h K:=by
 unfold Zjz at hl
 split at hl
 ·split at hl
  ·refine Spec.fsumm hl fun Bs a hlen hK0=> ?_
   split at hK0
   ·obtain ⟨X,a,he,⟨rfl,rfl,rfl,rfl,rfl,rfl⟩,hI,ha,hK1,hK2⟩:=hK0
    obtain ⟨s1,s2⟩:=Spec.act hI ha
    by_cases hk:Qu X a
    ·have hK:=hK1 hk
     have hs:=s1 hk
     subst he
     exact ⟨_,_,_,_,_,hs,by simp,.ret _ _ rfl,.cons _ _ _ _ _ _ rfl (.flat _ _ rfl) (.cons _ _ _ _ _ _ rfl (.rows _ _ _ (fun _ _=>rfl)) (.cons _ _ _ _ _ _ rfl (.rows _ _ _ (fun _ _=>rfl)) .nil)),hK⟩
    ·have hK:=hK2 hk
     have hs:=s2 hk
     subst he
     exact ⟨_,_,_,_,_,hs,by simp,.ret _ _ rfl,.cons _ _ _ _ _ _ rfl (.flat _ _ rfl) (.cons _ _ _ _ _ _ rfl (.rows _ _ _ (fun _ _=>rfl)) (.cons _ _ _ _ _ _ rfl (.rows _ _ _ (fun _ _=>rfl)) (.cons _ _ _ _ _ _ rfl (.rows _ _ _ (fun _ _=>rfl)) .nil))),hK⟩
   ·exact hK0.elim
  ·exact hl.elim
 ·exact hl.elim
end Go.Tk
end
section
namespace Go.Tk
open IntKind (i64 u8 u32 u64 wrap)
noncomputable def ZlI:Zg:=G0.withP 97 Z8B
theorem Zhl:ZlI.Ok:=Zg.withP_ok Zv Zbl
theorem Z4V {H:List Int->List Int} {t:ZV} {side res a b:Int}:Yb H (U1 t side res a b)=true↔Xo t=true/\(0<=side/\side<=1)/\(0<=res/\res<=t.cap/10)/\(0<=a/\a<=t.cap)/\b=t.cap-a/\0<=a-res-t.fee:=by
 rw [QX,Z15]
 have o:∀s,ZP (U1 t side res a b).side s (U1 t side res a b).L=[]:=fun _=>rfl
 have e:Yl (U1 t side res a b) 0=a-res-t.fee:=by
  rw [Xw,QY (o 0),if_pos rfl]
  show a-0-res-t.fee=_
  omega
 rw [o,o,e]
 constructor
 ·rintro ⟨⟨h1,h2,h3,h4,h5,_⟩,_,h6,_⟩
  exact ⟨h1,h2,h3,h4,h5,h6⟩
 ·rintro ⟨h1,h2,h3,h4,h5,h6⟩
  exact ⟨⟨h1,h2,h3,h4,h5,⟨Int.le_refl 0,show (0:Int)<=2147483648 by decide⟩,⟨Int.le_refl 0,show (0:Int)<=2147483648 by decide⟩,Nat.zero_le _,Nat.zero_le _⟩,fun i hi=>absurd hi (Nat.not_lt_zero _),h6,.inl rfl⟩
theorem ZlJ (t:ZV) (side res a b:Int) (X Y:Z8) (e:Int) (H1:List Int->List Int) (ht:t.Ok) (hX:X=U1 t side res a b) (hY:Y=cond (Yb H1 X) X Yv) (he:e=cond (Yb H1 X) 0 2):
  evF ZlI 20 16 [.agg t.c,.int .i64 side,.int .i64 res,.agg [.arr .i64 2 [a,b]]] ⟨0,[]⟩ (Yo fun v=>v=.tuple [.agg (Y.c .nilslice),.int .i64 e]):=by
 refine @Eq.mpr _ (let q1:=t.cap;let q2:=t.fee;let q3:=ZV.mk t.fund t.index q1 t.dust q2 t.delay t.k0 t.k1;let q4:=AV.arr u8 32 Zf;let q5:=AV.int i64 0;let q6:=AV.arr i64 2 [(0:Int),0];let q7:=[q6,AV.nilslice];let q8:=AV.tuple [AV.agg (Z8.c Y AV.nilslice),AV.int i64 e];let q9:=AV.tuple [AV.agg (q4::q5::q5::q5::q5::q5::q4::q4::q5::q5::q6::q7),AV.int i64 2]=q8;let q10:=decide (res<0);let q11:=decide (res>wrap i64 (Int.tdiv q1 10));let q12:=decide (a>=0);let q13:= !decide (a<=1125899906842624);let q14:=decide (b>=0);let q15:= !decide (b<=1125899906842624);let q16:=wrap i64 (a+b) !=q1;let q17:=AV.tuple [AV.agg (AV.arr u8 32 t.fund::AV.int i64 t.index::AV.int i64 q1::AV.int i64 t.dust::AV.int i64 q2::AV.int i64 t.delay::AV.arr u8 32 t.k0::AV.arr u8 32 t.k1::AV.int i64 side::AV.int i64 res::AV.arr i64 2 [a,b]::q7),q5]=q8;
 ZV.Ok q3/\Z0 (!Xo q3) q9 (Z0 (side !=0) (Z0 (side !=1) q9 (Z0 q10 q9 (Z0 q11 q9 (Z0 q12 (Z0 q13 q9 (Z0 q14 (Z0 q15 q9 (Z0 q16 q9 (Z0 (decide (wrap i64 (wrap i64 (wrap i64 (a-0)-res)-q2)>=0)) q17 q9))) q9)) q9)))) (Z0 q10 q9 (Z0 q11 q9 (Z0 q12 (Z0 q13 q9 (Z0 q14 (Z0 q15 q9 (Z0 q16 q9 (Z0 (decide (wrap i64 (wrap i64 (wrap i64 (a-0)-res)-q2)>=0)) q17 q9))) q9)) q9))))) (by kernel_rfl) ?_
 conv=>zeta
 try simp only [Zj]
 try simp only [Zl]
 try simp only [Zi]
 try simp only [Zm]
 try simp only [Zn]
 try simp only [Zh]
 try simp only [Int.toNat_natCast,Nat.zero_add,true_and,and_true,Nat.le_refl]
 have e0:ZV.mk t.fund t.index t.cap t.dust t.fee t.delay t.k0 t.k1=t:=rfl
 rw [e0]
 have hr:=Z4V (H:=H1) (t:=t) (side:=side) (res:=res) (a:=a) (b:=b)
 rw [<-hX] at hr
 have bad:¬(Yb H1 X=true)->AV.tuple [.agg (Yv.c .nilslice),.int .i64 2]=AV.tuple [.agg (Y.c .nilslice),.int .i64 e]:=fun h=>by rw [hY,he,Bool.eq_false_iff.2 h];rfl
 have good:Yb H1 X=true->AV.tuple [.agg (X.c .nilslice),.int .i64 0]=AV.tuple [.agg (Y.c .nilslice),.int .i64 e]:=fun h=>by rw [hY,he,h];rfl
 refine ⟨ht,fun k=>bad fun h=> ?_,fun k1=> ?_⟩
 ·rw [(hr.1 h).1] at k;simp at k
 have k1:Xo t=true:=by simpa using k1
 have tb:=Y0 k1
 have td:i64.wrap (Int.tdiv t.cap 10)=t.cap/10:=by rw [Int.tdiv_eq_ediv_of_nonneg (by omega),w64 (by omega)]
 rw [td]
 have main:(0<=side/\side<=1)->(res<0->AV.tuple [.agg (Yv.c .nilslice),.int .i64 2]=AV.tuple [.agg (Y.c .nilslice),.int .i64 e])/\(¬res<0->(res>t.cap/10->AV.tuple [.agg (Yv.c .nilslice),.int .i64 2]=AV.tuple [.agg (Y.c .nilslice),.int .i64 e])/\(¬res>t.cap/10->(a>=0->((!decide (a<=1125899906842624))=true->AV.tuple [.agg (Yv.c .nilslice),.int .i64 2]=AV.tuple [.agg (Y.c .nilslice),.int .i64 e])/\((!decide (a<=1125899906842624))=false->(b>=0->((!decide (b<=1125899906842624))=true->AV.tuple [.agg (Yv.c .nilslice),.int .i64 2]=AV.tuple [.agg (Y.c .nilslice),.int .i64 e])/\((!decide (b<=1125899906842624))=false->((i64.wrap (a+b) !=t.cap)=true->AV.tuple [.agg (Yv.c .nilslice),.int .i64 2]=AV.tuple [.agg (Y.c .nilslice),.int .i64 e])/\((i64.wrap (a+b) !=t.cap)=false->(i64.wrap (i64.wrap (i64.wrap (a-0)-res)-t.fee)>=0->AV.tuple [.agg (X.c .nilslice),.int .i64 0]=AV.tuple [.agg (Y.c .nilslice),.int .i64 e])/\(¬i64.wrap (i64.wrap (i64.wrap (a-0)-res)-t.fee)>=0->AV.tuple [.agg (Yv.c .nilslice),.int .i64 2]=AV.tuple [.agg (Y.c .nilslice),.int .i64 e]))))/\(¬b>=0->AV.tuple [.agg (Yv.c .nilslice),.int .i64 2]=AV.tuple [.agg (Y.c .nilslice),.int .i64 e])))/\(¬a>=0->AV.tuple [.agg (Yv.c .nilslice),.int .i64 2]=AV.tuple [.agg (Y.c .nilslice),.int .i64 e]))):=fun hs=>by
  refine ⟨fun k=>bad fun h=> ?_,fun k2=>⟨fun k=>bad fun h=> ?_,fun k3=>⟨fun k4=>⟨fun k=>bad fun h=> ?_,fun k5=>⟨fun k6=>⟨fun k=>bad fun h=> ?_,fun k7=>⟨fun k=>bad fun h=> ?_,fun k8=> ?_⟩⟩,fun k=>bad fun h=> ?_⟩⟩,fun k=>bad fun h=> ?_⟩⟩⟩
  ·have:=(hr.1 h).2.2.1;omega
  ·have:=(hr.1 h).2.2.1;omega
  ·have:=(hr.1 h).2.2.2.1
   have:¬a<=1125899906842624:=by simpa using k
   omega
  ·have:=(hr.1 h).2.2.2
   have:¬b<=1125899906842624:=by simpa using k
   omega
  ·have q:=(hr.1 h).2.2.2
   have:¬i64.wrap (a+b)=t.cap:=by simpa using k
   rw [w64 (by omega)] at this
   omega
  ·have k5:a<=1125899906842624:=by simpa using k5
   have k7:b<=1125899906842624:=by simpa using k7
   have k8:i64.wrap (a+b)=t.cap:=by simpa using k8
   rw [w64 (by omega)] at k8
   rw [w64 (x:=a-0) (by omega),w64 (x:=a-0-res) (by omega),w64 (by omega)]
   refine ⟨fun k9=>good (hr.2 ⟨k1,hs,by omega,by omega,by omega,by omega⟩),fun k9=>bad fun h=> ?_⟩
   have q:=(hr.1 h).2.2.2.2.2
   omega
  ·have:=(hr.1 h).2.2.2;omega
  ·have:=(hr.1 h).2.2.2;omega
 rw [hX] at main
 refine ⟨fun h0=>⟨fun h1=>bad fun h=> ?_,fun h1=>main ?_⟩,fun h0=>main ?_⟩
 ·have:=(hr.1 h).2.1
  have h0:¬side=0:=by simpa using h0
  have h1:¬side=1:=by simpa using h1
  omega
 ·have h1:side=1:=by simpa using h1
  omega
 ·have h0:side=0:=by simpa using h0
  omega
def Znc (H:List Int->List Int):ZR:=fun args h K=>ZU none h true 20 args fun v=>match v with
 | [.agg [.arr .u8 32 fu,.int .i64 ix,.int .i64 ca,.int .i64 du,.int .i64 fe,.int .i64 de,.arr .u8 32 k0,.arr .u8 32 k1],.int .i64 sd,.int .i64 rs,.agg [.arr .i64 2 [a,b]]]=>
  ZV.Ok ⟨fu,ix,ca,du,fe,de,k0,k1⟩/\Z0 (Yb H (U1 ⟨fu,ix,ca,du,fe,de,k0,k1⟩ sd rs a b)) (K (.tuple [.agg ((U1 ⟨fu,ix,ca,du,fe,de,k0,k1⟩ sd rs a b).c .nilslice),.int .i64 0])) (K (.tuple [.agg (Yv.c .nilslice),.int .i64 2]))
 | _=>False
def Zhm:ZR:=fun args _ K=>match args with
 | []=>K (.bool true)
 | _=>False
def Z7q:Yq:=⟨0,false,0,0,0,Zf,0,0,false,0⟩
def W9 (A:List Yq) (i:Nat):List AV:=(A.getD i Z7q).c
end Go.Tk
end
section
namespace Go.Tk
open IntKind (i64 u8 u32 u64 wrap)
def lpX (X:Z8) (A:List Yq) (i:Nat):Z8:=(A.take i).foldl actX X
theorem Z3O {X:Z8} {A:List Yq} {i:Nat} (hi:i<A.length):lpX X A (i+1)=actX (lpX X A i) (A.getD i Z7q):=Q9 actX Z7q hi X
theorem Zap {X:Z8} (hI:X.Inv Zs) {A:List Yq} (hA:∀a∈A,a.Ok):∀i,i<=A.length->(lpX X A i).Inv Zs/\(lpX X A i).t=X.t
 | 0,_=>⟨hI,rfl⟩
 | i+1,hi=>by
  obtain ⟨h1,h2⟩:=Zap hI hA i (by omega)
  have ha:(A.getD i Z7q).Ok:=hA _ (by rw [List.getD_eq_getElem?_getD,List.getElem?_eq_getElem hi];exact List.getElem_mem hi)
  rw [Z3O hi]
  exact ⟨h1.actX ha,(Zid _ _).trans h2⟩
def Zn7 (X:Z8) (A:List Yq) (n:Nat):Prop:=n<=60/\A.length=n/\X.Inv Zs/\X.t.fund.length=32/\∀a∈A,a.Ok
end Go.Tk
end
section
namespace Go.Tk
open IntKind (i64 u8 u32 u64 wrap)
theorem ZbG {x:Z7}:Z8G ltH [x]:=by simp [Z8G]
def Z91:Yf:=fun args h K=>match args with
 | [.nslice ⟨b,0,70,0,0⟩ 70 _ _,_]=>frA [b] h 20 args fun Bs a=>match Bs,a with
  | [.rows 70 1 f],[.nslice ⟨0,0,70,0,0⟩ 70 1 _,.func (.func 71) [] []]=>match f 0 with
   | [.bool ow,.int .i64 id,.int .i64 am,.arr .u8 32 ha,.int .i64 ex,.int .i64 st,.int .i64 fi,.arr .u8 32 se]=>K (.ret (.tuple [])) ⟨h.next,(b,.rows 70 1 (Z6 [⟨ow,id,am,ha,ex,st,fi,se⟩]))::Yc h.bs b⟩
   | _=>False
  | _,_=>False
 | _=>False
theorem ZbH (args:List AV) (h:Za) (K:KO) (hl:Z91 args h K):Zp PP 70 args h K:=by
 unfold Z91 at hl
 split at hl
 ·refine Spec.fsumm hl fun Bs a hlen hK0=> ?_
  split at hK0
  ·split at hK0
   ·rename_i f _ _ ow id am ha ex st fi se hf
    have hs:XO [⟨ow,id,am,ha,ex,st,fi,se⟩] [⟨ow,id,am,ha,ex,st,fi,se⟩] 1:=⟨rfl,by decide,by decide,.refl _,ZbG,fun a ha b hb _ _=>by
     simp only [List.mem_cons,List.not_mem_nil,or_false] at ha hb
     rw [ha,hb]⟩
    exact ⟨_,_,_,_,_,ZdJ (fun i hi=>by
     have:i=0:=by omega
     subst this;rw [hf];rfl) hs,Nat.le_refl _,.ret _ _ rfl,.cons _ _ _ _ _ _ rfl (.rows _ _ _ (fun i _=>Xv _ i)) .nil,hK0⟩
   ·exact hK0.elim
  ·exact hK0.elim
 ·exact hl.elim
noncomputable def ZlK:Zg:=G0.withF 70 Z91
theorem Zhn:ZlK.Ok:=Zg.withF_ok Zv ZbH
theorem ZlL (u:Unit) :
  evF ZlK 40 5 [] ⟨0,[]⟩ (Yo fun v=>v=.bool true):=by
 refine @Eq.mpr _ (let q1:=[(0:Int),0,0,0,0,0,0,0,0,0,0,0,0,0,0,0,0,0,0,0,0,0,0,0,0,0,0,0,0,0,0];let q2:=(2:Int)::q1;let q3:=q2=q2;let q4:=(1:Int)::q1;let q5:=q4=q4;let q6:=AV.bool true;let q7:=AV.arr u8 32 Zf;let q8:=[(600:Int),400];let q9:=q8=q8;let q10:=(∀(i:Nat),i<1->Yy (Y2 0 (fun (x:Nat)=>[]) (YQ [q6,AV.int i64 0,AV.int i64 545,q7,AV.int i64 9,AV.int i64 1,AV.int i64 0,q7] 0 70) i)=true)/\q9/\Zf=Zf/\q9/\Zf=Zf/\q6=q6;
 q3/\q5/\q3/\q5/\q3/\q5/\q3/\q5/\q3/\q5/\(Zf=Zf/\Zf=Zf/\q10)/\q10) (by kernel_rfl) ?_
 conv=>zeta
 trivial
end Go.Tk
end
section
namespace Go.Tk
open IntKind (i64 u8 u32 u64 wrap)
def actTy:List Ty:=[.int .i64,.bool,.int .i64,.int .i64,.int .i64,.arr .u8 32,.int .i64,.int .i64,.bool,.int .i64]
theorem ZeV {l:List AV} (h:Fits actTy l):∃x:Yq,l=x.c/\x.Ok:=by
 unfold actTy at h
 cases h with|cons _ a1 _ u h1 h=>
 cases h with|cons _ a2 _ u h2 h=>
 cases h with|cons _ a3 _ u h3 h=>
 cases h with|cons _ a4 _ u h4 h=>
 cases h with|cons _ a5 _ u h5 h=>
 cases h with|cons _ a6 _ u h6 h=>
 cases h with|cons _ a7 _ u h7 h=>
 cases h with|cons _ a8 _ u h8 h=>
 cases h with|cons _ a9 _ u h9 h=>
 cases h with|cons _ a10 _ u h10 h=>
 cases h;cases h1;cases h2;cases h3;cases h4;cases h5;cases h6;cases h7;cases h8;cases h9;cases h10
 rename_i x1 w1 x2 x3 w3 x4 w4 x5 w5 x6 l6 w6 x7 w7 x8 w8 x9 x10 w10
 exact ⟨⟨x1,x2,x3,x4,x5,x6,x7,x8,x9,x10⟩,rfl,⟨l6,Z6H l6 w6⟩⟩
theorem Zho {n:Nat} {p:Nat->Yq->Prop} (h:∀i,i<n->∃a,p i a):∃f:Nat->Yq,∀i,i<n->p i (f i):=
 ⟨fun i=>if hi:i<n then Classical.choose (h i hi) else Z7q,fun i hi=>by
  simp only [hi,dite_true]
  exact Classical.choose_spec (h i hi)⟩
theorem ZbI {a:AV} (h:Z3f false [.rows 41 actTy] a):∃(n:Nat) (A:List Yq),A.length=n/\(∀m∈A,m.Ok)/\∀(E:Env) (r:Value),Zk E a r->Zk E (.vrows 41 n (W9 A) n) r:=by
 cases h with|one _ _ h=>
 cases h with|rows esz ts n f hm h=>
 obtain ⟨g,hg⟩:=Zho fun i hi=>ZeV (h i hi)
 refine ⟨n,(List.range n).map g,by simp,fun m hm=> ?_,fun E r hr=>hr.rowsC fun i hi=> ?_⟩
 ·obtain ⟨i,hi,rfl⟩:=List.mem_map.1 hm
  exact (hg i (List.mem_range.1 hi)).2
 ·unfold W9
  rw [(hg i hi).1,List.getD_eq_getElem?_getD,List.getElem?_map,List.getElem?_range hi]
  rfl
theorem fits_int {a:AV} (h:Z3f false [.int .i64] a):∃n:Int,a=.int .i64 n:=by
 cases h with|one _ _ h=>
 cases h
 exact ⟨_,rfl⟩
theorem Zaq (args:List AV) (h:Za) (K:AV->Prop) (hl:Zhm args h K):Zp PP 5 args h fun o h'=>∃v,o=.ret v/\h'=h/\K v:=by
 unfold Zhm at hl
 split at hl
 ·exact Y7 Zhn rfl (ZlL ()) (fun u hu=>hu▸hl)
 ·exact hl.elim
def ZlM (n:Int):List Int:=n::List.replicate 31 0
def tW:ZV:=⟨Zf,0,1000,10,5,3,ZlM 1,ZlM 2⟩
theorem Z7r:tW.Ok:=⟨rfl,rfl,Qa (by decide),Qa (by decide)⟩
end Go.Tk
end
section
namespace Go.Tk
open IntKind (i64 u8 u32 u64 wrap)
theorem ZeW {a b:Z7}:a=b↔a.own=b.own/\a.id=b.id/\a.amount=b.amount/\a.hash=b.hash/\a.expiry=b.expiry/\a.stage=b.stage/\a.fin=b.fin/\a.secret=b.secret:=by
 cases a;cases b;simp
theorem Z0B {a b:Z7}:(a.own==b.own&&(a.id==b.id&&(a.amount==b.amount&&(a.hash==b.hash&&(a.expiry==b.expiry&&(a.stage==b.stage&&(a.fin==b.fin&&a.secret==b.secret)))))))=true↔a=b:=by
 rw [ZeW];simp only [Bool.and_eq_true,beq_iff_eq]
theorem Z7s {A B:List Z7} (h:A.length=B.length) (hg:∀i,i<A.length->A.getD i Zc=B.getD i Zc):A=B:=List.ext_getElem h fun i h1 h2=>by
 have:=hg i h1
 rwa [List.getD_eq_getElem?_getD,List.getD_eq_getElem?_getD,List.getElem?_eq_getElem h1,List.getElem?_eq_getElem h2] at this
open Classical in
noncomputable def U6 (A B:List Z7):Bool:=decide (A=B)
open Classical in
noncomputable def UM (X Y:Z8):Bool:=decide (X=Y)
theorem Z92 {A B:List Z7} (h:A=B):U6 A B=true:=by unfold U6;simp [h]
theorem Z3P {A B:List Z7} (h:A≠B):U6 A B=false:=by unfold U6;simp [h]
theorem ZeX {X Y:Z8} (h:X=Y):UM X Y=true:=by unfold UM;simp [h]
theorem ZeY {X Y:Z8} (h:X≠Y):UM X Y=false:=by unfold UM;simp [h]
def Z7t:St:=⟨26,[(4,.bool false)],⟨0,[]⟩,[]⟩
def Zhp (A B:List Z7) (i:Nat):St:=⟨26,[(13,.int .i64 i),(12,.int .i64 A.length),(0,.vrows 70 A.length (Z6 A) A.length),(1,.vrows 70 B.length (Z6 B) B.length)],⟨0,[]⟩,[]⟩
theorem ZlN (A B:List Z7) (n i:Nat) (Z1 Z2 Z3:Prop) (hn:n<1000) (hA:A.length=n) (hB:B.length=n) (hi:i<=n) (hOk:∀h∈A,h.Ok) (hOk':∀h∈B,h.Ok) (h1:i<n->A.getD i Zc=B.getD i Zc->Z1) (h2:i=n->Z2) (h3:i<n->A.getD i Zc≠B.getD i Zc->Z3):
  ZG G0 20 54 0 0 (Z7o A B i) (rdM 0 0 9 (Z7o A B (i+1)) Z41 Z7t Z7t Z1 Z2 Z3 False):=by
 refine @Eq.mpr _ (let q1:=List.length A;let q2:=List.length B;let q3:=List.getD A (Int.toNat (↑i:Int)) Zc;let q4:=q3.hash;let q5:=List.getD B (Int.toNat (↑i:Int)) Zc;let q6:=q5.hash;let q7:=q3.secret;let q8:=q5.secret;let q9:=decide (q1=q1);let q10:=decide (q2=q2);
 Z0 (decide ((↑i:Int)<(↑q1:Int))) (Z0 (decide (0<=(↑i:Int)/\(↑i:Int)<(↑q1:Int))) (Z0 (decide (0<=(↑i:Int)/\(↑i:Int)<(↑q2:Int))) (Z0 (decide (List.length q4=32/\List.length q6=32)) (Z0 (decide (List.length q7=32/\List.length q8=32)) (Z0 (!(q3.own==q5.own&&(q3.id==q5.id&&(q3.amount==q5.amount&&(q4==q6&&(q3.expiry==q5.expiry&&(q3.stage==q5.stage&&(q3.fin==q5.fin&&q7==q8)))))))) Z3 (Z0 (decide (wrap i64 ((↑i:Int)+1)=(↑(i+1):Int))) (Z0 q9 (Z6 A=Z6 A/\Z0 q9 (Z0 q10 (Z6 B=Z6 B/\Z0 q10 Z1 False) False) False) False) False)) False) False) False) False) Z2) (by kernel_rfl) ?_
 conv=>zeta
 try simp only [Zj]
 try simp only [Zl]
 try simp only [Zi]
 try simp only [Zm]
 try simp only [Zn]
 try simp only [Zh]
 try simp only [Int.toNat_natCast,Nat.zero_add,true_and,and_true,Nat.le_refl]
 refine ⟨fun hc=> ?_,fun hc=>h2 (by omega)⟩
 have hlt:i<n:=by omega
 have hwr:i64.wrap ((i:Int)+1)=((i+1:Nat):Int):=by rw [w64 (by omega)];omega
 have hx:=hOk _ (ZM (by omega:i<A.length))
 have hy:=hOk' _ (ZM (by omega:i<B.length))
 have hR:∀{Q:List Z7},Z6 Q=Z6 Q:=rfl
 refine ⟨by omega,by omega,⟨hx.hash,hy.hash⟩,⟨hx.secret,hy.secret⟩,fun hm=>h3 hlt fun he=> ?_,fun hm=> ?_⟩
 ·rw [Z0B.2 he] at hm;cases hm
 ·have h1:=h1 hlt (Z0B.1 (by revert hm;cases (_&&_:Bool)<;>simp))
  simp only [hwr,h1,and_self]
theorem ZlO (A B:List Z7) (n i:Nat) (Z1 Z2 Z3:Prop) (hn:n<1000) (hA:A.length=n) (hB:B.length=n) (hi:i<=n) (hOk:∀h∈A,h.Ok) (hOk':∀h∈B,h.Ok) (h1:i<n->A.getD i Zc=B.getD i Zc->Z1) (h2:i=n->Z2) (h3:i<n->A.getD i Zc≠B.getD i Zc->Z3):
  ZG G0 20 64 0 0 (Zhp A B i) (rdM 0 0 9 (Zhp A B (i+1)) Z41 Z7t Z7t Z1 Z2 Z3 False):=by
 refine @Eq.mpr _ (let q1:=List.length A;let q2:=(↑q1:Int);let q3:=List.length B;let q4:=List.getD A (Int.toNat (↑i:Int)) Zc;let q5:=q4.hash;let q6:=List.getD B (Int.toNat (↑i:Int)) Zc;let q7:=q6.hash;let q8:=q4.secret;let q9:=q6.secret;let q10:=decide (q1=q1);let q11:=decide (q3=q3);
 Z0 (decide ((↑i:Int)<q2)) (Z0 (decide (0<=(↑i:Int)/\(↑i:Int)<q2)) (Z0 (decide (0<=(↑i:Int)/\(↑i:Int)<(↑q3:Int))) (Z0 (decide (List.length q5=32/\List.length q7=32)) (Z0 (decide (List.length q8=32/\List.length q9=32)) (Z0 (!(q4.own==q6.own&&(q4.id==q6.id&&(q4.amount==q6.amount&&(q5==q7&&(q4.expiry==q6.expiry&&(q4.stage==q6.stage&&(q4.fin==q6.fin&&q8==q9)))))))) Z3 (Z0 (decide (wrap i64 ((↑i:Int)+1)=(↑(i+1):Int))) (Z0 (decide (q2=q2)) (Z0 q10 (Z6 A=Z6 A/\Z0 q10 (Z0 q11 (Z6 B=Z6 B/\Z0 q11 Z1 False) False) False) False) False) False)) False) False) False) False) Z2) (by kernel_rfl) ?_
 conv=>zeta
 try simp only [Zj]
 try simp only [Zl]
 try simp only [Zi]
 try simp only [Zm]
 try simp only [Zn]
 try simp only [Zh]
 try simp only [Int.toNat_natCast,Nat.zero_add,true_and,and_true,Nat.le_refl]
 refine ⟨fun hc=> ?_,fun hc=>h2 (by omega)⟩
 have hlt:i<n:=by omega
 have hwr:i64.wrap ((i:Int)+1)=((i+1:Nat):Int):=by rw [w64 (by omega)];omega
 have hx:=hOk _ (ZM (by omega:i<A.length))
 have hy:=hOk' _ (ZM (by omega:i<B.length))
 have hR:∀{Q:List Z7},Z6 Q=Z6 Q:=rfl
 refine ⟨by omega,by omega,⟨hx.hash,hy.hash⟩,⟨hx.secret,hy.secret⟩,fun hm=>h3 hlt fun he=> ?_,fun hm=> ?_⟩
 ·rw [Z0B.2 he] at hm;cases hm
 ·have h1:=h1 hlt (Z0B.1 (by revert hm;cases (_&&_:Bool)<;>simp))
  simp only [hwr,h1,and_self]
noncomputable def ZjA (A B:List Z7) (n:Nat) (C:Prop):Zg:=(G0.withL 54 0 (goM 0 (Z7o A B 0) C (YJ 0 n 9 (fun i=>A.getD i Zc=B.getD i Zc/\i<n) (fun i=>i=n) (fun i=>i<n/\A.getD i Zc≠B.getD i Zc) (fun _=>False) (fun _=>Z41) (fun _=>Z7t) (fun _=>Z7t)))).withL 64 0 (goM 0 (Zhp A B 0) C (YJ 0 n 9 (fun i=>A.getD i Zc=B.getD i Zc/\i<n) (fun i=>i=n) (fun i=>i<n/\A.getD i Zc≠B.getD i Zc) (fun _=>False) (fun _=>Z41) (fun _=>Z7t) (fun _=>Z7t)))
def Zn8 (A B:List Z7) (n:Nat):Prop:=n<1000/\A.length=n/\B.length=n/\(∀h∈A,h.Ok)/\∀h∈B,h.Ok
theorem Zar (A B:List Z7) (n:Nat):(ZjA A B n (Zn8 A B n)).Ok:=by
 refine Zg.withL_join (H:=G0) (Zg.withGoM (N:=20) (S:=fun i=>Z7o A B i) Zv (by kernel_rfl) fun hC=>⟨rfl,fun i hi _=> ?_⟩) rfl (Zg.withGoM (N:=20) (S:=fun i=>Zhp A B i) Zv (by kernel_rfl) fun hC=>⟨rfl,fun i hi _=> ?_⟩)
 ·exact ZlN A B n i _ _ _ hC.1 hC.2.1 hC.2.2.1 hi hC.2.2.2.1 hC.2.2.2.2 (fun h h'=>⟨⟨h',h⟩,h⟩) (fun h=>h) (fun h h'=>⟨h,h'⟩)
 ·exact ZlO A B n i _ _ _ hC.1 hC.2.1 hC.2.2.1 hi hC.2.2.2.1 hC.2.2.2.2 (fun h h'=>⟨⟨h',h⟩,h⟩) (fun h=>h) (fun h h'=>⟨h,h'⟩)
theorem ZlP (A B:List Z7) (n:Nat) (b:Bool) (C:Prop) (hA:A.length=n) (hC:B.length=n->C) (hb:b=U6 A B):
  evF (ZjA A B n C) 20 54 [.vrows 70 A.length (Z6 A) A.length,.vrows 70 B.length (Z6 B) B.length] ⟨0,[]⟩ (Yo fun v=>v=.bool b):=by
 refine @Eq.mpr _ (let q1:=List.length A;let q2:=List.length B;let q3:=AV.bool false=AV.bool b;let q4:=decide (q1=q1);let q5:=decide (q2=q2);
 Z0 ((↑q1:Int) !=(↑q2:Int)) q3 (Z0 q4 (Z6 A=Z6 A/\Z0 q4 (Z0 q5 (Z6 B=Z6 B/\Z0 q5 (C/\∀(i:Nat),i<=n->(∀(j:Nat),j<i->(fun (i:Nat)=>List.getD A i Zc=List.getD B i Zc/\i<n) j)->(i=n->AV.bool true=AV.bool b)/\(i<n/\List.getD A i Zc≠List.getD B i Zc->q3)/\(False->False)) False) False) False) False)) (by kernel_rfl) ?_
 conv=>zeta
 try simp only [Zj]
 try simp only [Zl]
 try simp only [Zi]
 try simp only [Zm]
 try simp only [Zn]
 try simp only [Zh]
 try simp only [Int.toNat_natCast,Nat.zero_add,true_and,and_true,Nat.le_refl]
 subst hb
 have hne:A.length≠B.length->U6 A B=false:=fun h=>Z3P fun e=>h (by rw [e])
 refine ⟨fun h=> ?_,fun h=> ?_⟩
 ·rw [hne fun e=>by simp [e] at h]
 ·have hl:B.length=n:=by
   have:(A.length:Int)=(B.length:Int):=by simpa using h
   omega
  have hC:=hC hl
  have e1:(∀j,j<A.length->A.getD j Zc=B.getD j Zc)->AV.bool true=AV.bool (U6 A B):=fun hg=>by
   rw [show U6 A B=true from Z92 (Z7s (by omega) hg)]
  have e2:∀i,A.getD i Zc≠B.getD i Zc->AV.bool false=AV.bool (U6 A B):=fun i hi=>by
   rw [show U6 A B=false from Z3P fun e=>hi (by rw [e])]
  repeat' first
   | exact hC
   | apply And.intro
   | rfl
   | (intro i hi hg;exact ⟨fun he=>e1 fun j hj=>(hg j (by omega)).1,fun hx=>e2 i hx.2,fun h=>h⟩)
theorem ZlQ (A B:List Z7) (n:Nat) (b:Bool) (C:Prop) (hA:A.length=n) (hC:B.length=n->C) (hb:b=U6 A B):
  evF (ZjA A B n C) 20 64 [.vrows 70 A.length (Z6 A) A.length,.vrows 70 B.length (Z6 B) B.length] ⟨0,[]⟩ (Yo fun v=>v=.bool b):=by
 refine @Eq.mpr _ (let q1:=List.length A;let q2:=(↑q1:Int);let q3:=List.length B;let q4:=AV.bool false=AV.bool b;let q5:=decide (q1=q1);let q6:=decide (q3=q3);
 Z0 (q2 !=(↑q3:Int)) q4 (Z0 (decide (q2=q2)) (Z0 q5 (Z6 A=Z6 A/\Z0 q5 (Z0 q6 (Z6 B=Z6 B/\Z0 q6 (C/\∀(i:Nat),i<=n->(∀(j:Nat),j<i->(fun (i:Nat)=>List.getD A i Zc=List.getD B i Zc/\i<n) j)->(i=n->AV.bool true=AV.bool b)/\(i<n/\List.getD A i Zc≠List.getD B i Zc->q4)/\(False->False)) False) False) False) False) False)) (by kernel_rfl) ?_
 conv=>zeta
 try simp only [Zj]
 try simp only [Zl]
 try simp only [Zi]
 try simp only [Zm]
 try simp only [Zn]
 try simp only [Zh]
 try simp only [Int.toNat_natCast,Nat.zero_add,true_and,and_true,Nat.le_refl]
 subst hb
 have hne:A.length≠B.length->U6 A B=false:=fun h=>Z3P fun e=>h (by rw [e])
 refine ⟨fun h=> ?_,fun h=> ?_⟩
 ·rw [hne fun e=>by simp [e] at h]
 ·have hl:B.length=n:=by
   have:(A.length:Int)=(B.length:Int):=by simpa using h
   omega
  have hC:=hC hl
  have e1:(∀j,j<A.length->A.getD j Zc=B.getD j Zc)->AV.bool true=AV.bool (U6 A B):=fun hg=>by
   rw [show U6 A B=true from Z92 (Z7s (by omega) hg)]
  have e2:∀i,A.getD i Zc≠B.getD i Zc->AV.bool false=AV.bool (U6 A B):=fun i hi=>by
   rw [show U6 A B=false from Z3P fun e=>hi (by rw [e])]
  repeat' first
   | exact hC
   | apply And.intro
   | rfl
   | (intro i hi hg;exact ⟨fun he=>e1 fun j hj=>(hg j (by omega)).1,fun hx=>e2 i hx.2,fun h=>h⟩)
def Z2e:ZR:=fun args h K=>ZU none h true 20 args fun a=>match a with
 | [.vrows 70 n f n',.vrows 70 m g m']=>∃A B,(n=A.length/\n'=n/\m=B.length/\m'=m)/\(f=Z6 A/\g=Z6 B)/\n<1000/\(∀h∈A,h.Ok)/\(∀h∈B,h.Ok)/\K (.bool (U6 A B))
 | _=>False
theorem Z93 (args:List AV) (h:Za) (K:AV->Prop) (hl:Z2e args h K):Zp PP 54 args h fun o h'=>∃v,o=.ret v/\h'=h/\K v:=by
 refine ZC.psumm (d:=20) (Zu _ _ _ _ _ hl fun a ha=> ?_)
 split at ha
 ·obtain ⟨A,B,⟨rfl,rfl,rfl,rfl⟩,⟨rfl,rfl⟩,h1,h2,h3,hK⟩:=ha
  exact ⟨_,ZC.evV (Zar A B _) (ZlP A B _ _ _ rfl (fun e=>⟨h1,rfl,e,h2,h3⟩) rfl),fun _=>rfl,hK⟩
 ·exact ha.elim
theorem Zhq (args:List AV) (h:Za) (K:AV->Prop) (hl:Z2e args h K):Zp PP 64 args h fun o h'=>∃v,o=.ret v/\h'=h/\K v:=by
 refine ZC.psumm (d:=20) (Zu _ _ _ _ _ hl fun a ha=> ?_)
 split at ha
 ·obtain ⟨A,B,⟨rfl,rfl,rfl,rfl⟩,⟨rfl,rfl⟩,h1,h2,h3,hK⟩:=ha
  exact ⟨_,ZC.evV (Zar A B _) (ZlQ A B _ _ _ rfl (fun e=>⟨h1,rfl,e,h2,h3⟩) rfl),fun _=>rfl,hK⟩
 ·exact ha.elim
theorem ZeZ {X Y:Z8} (h1:(X.t.fund==Y.t.fund&&(X.t.index==Y.t.index&&(X.t.cap==Y.t.cap&&(X.t.dust==Y.t.dust&&(X.t.fee==Y.t.fee&&(X.t.delay==Y.t.delay&&(X.t.k0==Y.t.k0&&X.t.k1==Y.t.k1)))))))=true) (h2:(X.side==Y.side)=true) (h3:(X.res==Y.res)=true) (h4:([X.a0,X.a1]==[Y.a0,Y.a1])=true) (h5:([X.i0,X.i1]==[Y.i0,Y.i1])=true):AV.bool (U6 X.L Y.L)=AV.bool (UM X Y):=by
 rcases X with ⟨⟨x1,x2,x3,x4,x5,x6,x7,x8⟩,s,r,p,q,i,j,L⟩
 rcases Y with ⟨⟨y1,y2,y3,y4,y5,y6,y7,y8⟩,s',r',p',q',i',j',L'⟩
 simp only [Bool.and_eq_true,beq_iff_eq,List.cons.injEq,and_true] at h1 h2 h3 h4 h5
 obtain ⟨rfl,rfl,rfl,rfl,rfl,rfl,rfl,rfl⟩:=h1
 obtain ⟨rfl,rfl⟩:=h4
 obtain ⟨rfl,rfl⟩:=h5
 subst h2 h3
 by_cases h:L=L'
 ·subst h;rw [Z92 rfl,ZeX rfl]
 ·rw [Z3P h,ZeY fun e=>h (congrArg Z8.L e)]
theorem Zhr {X Y:Z8} {c:Bool} (h:c=false) (hs:X=Y->c=true):AV.bool false=AV.bool (UM X Y):=by
 rw [ZeY fun e=>by rw [hs e] at h;cases h]
noncomputable def Zie:Zg:=((G0.withP 54 Z2e).withP 64 Z2e).withP 28 Zia
theorem Zf0:Zie.Ok:=Zg.withP_ok (Zg.withP_ok (Zg.withP_ok Zv Z93) Zhq) ZeP
theorem ZlR (X Y:Z8) (b:Bool) (hX:X.Inv Zs) (hY:Y.Inv Zs) (fX:X.t.fund.length=32) (fY:Y.t.fund.length=32) (hb:b=UM X Y):
  evF Zie 20 19 [U0 X,U0 Y] ⟨0,[]⟩ (Yo fun v=>v=.bool b):=by
 refine @Eq.mpr _ (let q1:=List.length X.L;let q2:=Z6 X.L;let q3:=List.length Y.L;let q4:=Z6 Y.L;let q5:=X.t;let q6:=q5.fund;let q7:=Y.t;let q8:=q7.fund;let q9:=q5.k0;let q10:=q7.k0;let q11:=q5.k1;let q12:=q7.k1;let q13:=AV.bool false=AV.bool b;
 ∃(X_1:Z8),LV (Z8.c X (AV.vrows 70 q1 q2 q1)) X_1/\X_1.t.cap≠0/\∃(X_2:Z8),LV (Z8.c Y (AV.vrows 70 q3 q4 q3)) X_2/\X_2.t.cap≠0/\Z0 (decide (List.length q6=32/\List.length q8=32)) (Z0 (decide (List.length q9=32/\List.length q10=32)) (Z0 (decide (List.length q11=32/\List.length q12=32)) (Z0 (q6==q8&&(q5.index==q7.index&&(q5.cap==q7.cap&&(q5.dust==q7.dust&&(q5.fee==q7.fee&&(q5.delay==q7.delay&&(q9==q10&&q11==q12))))))) (Z0 (X.side==Y.side) (Z0 (X.res==Y.res) (Z0 ([X.a0,X.a1]==[Y.a0,Y.a1]) (Z0 ([X.i0,X.i1]==[Y.i0,Y.i1]) (∃(A:List Z7),∃(B:List Z7),(q1=List.length A/\q1=q1/\q3=List.length B/\q3=q3)/\(q2=Z6 A/\q4=Z6 B)/\q1<1000/\(∀(h:Z7),List.Mem h A->Z7.Ok h)/\(∀(h:Z7),List.Mem h B->Z7.Ok h)/\AV.bool (U6 A B)=AV.bool b) q13) q13) q13) q13) q13) False) False) False) (by kernel_rfl) ?_
 conv=>zeta
 try simp only [Zj]
 try simp only [Zl]
 try simp only [Zi]
 try simp only [Zm]
 try simp only [Zn]
 try simp only [Zh]
 try simp only [Int.toNat_natCast,Nat.zero_add,true_and,and_true,Nat.le_refl]
 subst hb
 have lx:=hX.len
 repeat' first
  | exact ⟨by first|exact fX|exact hX.tok.k0|exact hX.tok.k1,by first|exact fY|exact hY.tok.k0|exact hY.tok.k1⟩
  | (intro h;refine Zhr h fun e=> ?_;subst e;simp;done)
  | (refine Exists.intro X.L (Exists.intro Y.L ⟨⟨rfl,rfl⟩,⟨rfl,rfl⟩,by omega,hX.ok,hY.ok, ?_⟩);apply ZeZ<;>assumption)
  | exact XB hX.tb
  | exact XB hY.tb
  | intro _
  | refine Exists.intro X (And.intro (.a rfl) ?_)
  | refine Exists.intro Y (And.intro (.a rfl) ?_)
  | apply And.intro
def Zif (SB:Z8->Z8->Bool):ZR:=fun args h K=>ZU none h true 20 args fun a=>match a with
 | [.pview cs 0,.pview ws 0]=>∃X Y,LV cs X/\LV ws Y/\X.Inv Zs/\Y.Inv Zs/\X.t.fund.length=32/\Y.t.fund.length=32/\K (.bool (SB X Y))
 | _=>False
theorem Zf1 (args:List AV) (h:Za) (K:AV->Prop) (hl:Zif UM args h K):Zp PP 19 args h fun o h'=>∃v,o=.ret v/\h'=h/\K v:=by
 refine ZC.psumm (d:=20) (Zu _ _ _ _ _ hl fun a ha=> ?_)
 split at ha
 ·obtain ⟨X,Y,hX,hY,h1,h2,h3,h4,hK⟩:=ha
  exact ⟨_,(ZC.evV Zf0 (ZlR X Y _ h1 h2 h3 h4 rfl)).conv fun E r hr=>hr.head (fun _ hc=>Wq hX hc) fun _ hr=>hr.head (fun _ hc=>Wq hY hc) fun _ hc=>hc,fun _=>rfl,hK⟩
 ·exact ha.elim
end Go.Tk
end
section
namespace Go.Tk
open IntKind (i64 u8 u32 u64 wrap)
def Zf2 (F:List Int->Int×Int) (H:List Int->List Int):Yf:=fun args h K=>frA [] h 20 args fun Bs a=>match Bs,a with
 | [],[.vints .u8 xs N]=>∃X,(xs.length=N/\N<90000000000000/\Bytes xs)/\Z0A F H xs (some X)/\K (.ret (.tuple [.ptr (some ⟨h.next,0,0,0,0⟩),.int .i64 0])) ⟨h.next+2,(h.next,.flat (X.c (slH (h.next+1) X.L.length)))::(h.next+1,.rows 70 X.L.length (Z6 X.L))::h.bs⟩
 | _,_=>False
theorem Zf3 (args:List AV) (h:Za) (K:KO) (hl:Zf2 (Zq Zr) Zs args h K):Zp PP 14 args h K:=by
 unfold Zf2 at hl
 refine Spec.fsumm hl fun Bs a hlen hK0=> ?_
 split at hK0
 ·obtain ⟨X,⟨h1,h2,h3⟩,⟨hR⟩,hK⟩:=hK0
  rename_i xs N
  exact ⟨_,_,_,_,_,Spec.evK Z5N (Zjt _ Zs xs N X X.L.length true h1 h2 h3 rfl rfl (fun _=>hR) (fun h=>by cases h)) (fun o' h' hk=>Zej hk),Nat.zero_le _,.ret _ _ rfl,.cons _ _ _ _ _ _ rfl (.flat _ _ rfl) (.cons _ _ _ _ _ _ rfl (.rows _ _ _ (fun _ _=>rfl)) .nil),hK⟩
 ·exact hK0.elim
structure Z0C (H:List Int->List Int) (X:Z8) (t:ZV) (sd rs a b:Int):Prop where
 e:X=U1 t sd rs a b
 ok:X.t.Ok
 r:Yb H X=true
def Zig (H:List Int->List Int):Yf:=fun args h K=>frA [] h 20 args fun Bs a=>match Bs,a with
 | [],[.agg [.arr .u8 32 fu,.int .i64 ix,.int .i64 ca,.int .i64 du,.int .i64 fe,.int .i64 de,.arr .u8 32 k0,.arr .u8 32 k1],.int .i64 sd,.int .i64 rs,.agg [.arr .i64 2 [a,b]]]=>
  ∃X,Z0C H X ⟨fu,ix,ca,du,fe,de,k0,k1⟩ sd rs a b/\K (.ret (.tuple [.ptr (some ⟨h.next,0,0,0,0⟩),.int .i64 0])) ⟨h.next+2,(h.next,.flat (X.c (.nslice ⟨h.next+1,0,70,0,0⟩ 70 0 0)))::(h.next+1,.rows 70 0 (Z6 []))::h.bs⟩
 | _,_=>False
theorem Zf4 (args:List AV) (h:Za) (K:KO) (hl:Zig Zs args h K):Zp PP 7 args h K:=by
 refine Spec.fsumm hl fun Bs a hlen hK0=> ?_
 split at hK0
 ·obtain ⟨X,⟨rfl,ht,hb⟩,hK⟩:=hK0
  exact ⟨_,_,_,_,_,.evM Zgk (Zmv _ _ _ _ _ _ _ ht rfl hb),Nat.zero_le _,.ret _ _ rfl,.cons _ _ _ _ _ _ rfl (.flat _ _ rfl) (.cons _ _ _ _ _ _ rfl (.rows _ _ _ (fun _ _=>rfl)) .nil),hK⟩
 ·exact hK0.elim
def Zih (H:List Int->List Int):ZR:=fun args h K=>ZU none h true 20 args fun v=>match v with
 | [.agg [.arr .u8 32 fu,.int .i64 ix,.int .i64 ca,.int .i64 du,.int .i64 fe,.int .i64 de,.arr .u8 32 k0,.arr .u8 32 k1],.int .i64 sd,.int .i64 rs,.agg [.arr .i64 2 [a,b]]]=>
  ∃X,Z0C H X ⟨fu,ix,ca,du,fe,de,k0,k1⟩ sd rs a b/\K (.tuple [.agg (X.c .nilslice),.int .i64 0])
 | _=>False
theorem Zf5 {H:List Int->List Int} (args:List AV) (h:Za) (K:AV->Prop) (hl:Zih H args h K):Zp PP 16 args h fun o h'=>∃v,o=.ret v/\h'=h/\K v:=by
 refine ZC.psumm (d:=20) (Zu _ _ _ _ _ hl fun a ha=> ?_)
 split at ha
 ·rename_i fu ix ca du fe de k0 k1 sd rs a b
  obtain ⟨X,⟨rfl,ht,hb⟩,hK⟩:=ha
  refine ⟨_,ZC.evV Zhl (ZlJ ⟨fu,ix,ca,du,fe,de,k0,k1⟩ sd rs a b _ _ _ H ht rfl rfl rfl),fun _=> ?_, ?_⟩
  ·rw [hb];rfl
  ·rw [hb];exact hK
 ·exact ha.elim
noncomputable def Zf6 (W:Int->List Int) (H:List Int->List Int) (SB:Z8->Z8->Bool):Zg:=(((((((G0.withF 7 (Zig H)).withP 16 (Zih H)).withF 17 Zjz).withP 5 Zhm).withF 12 (Z2d true)).withP 18 Zlb).withF 15 (Zi0 W)).withP 19 (Zif SB)
theorem Z7u:(Zf6 Zr Zs UM).Ok:=Zg.withP_ok (Zg.withF_ok (Zg.withP_ok (Zg.withF_ok (Zg.withP_ok (Zg.withF_ok (Zg.withP_ok (Zg.withF_ok Zv Zf4) Zf5) Zhk) Zaq) (Z02 true)) Zh8) Ze6) Zf1
noncomputable def Zf7 (W:Int->List Int) (F:List Int->Int×Int) (H:List Int->List Int) (SB:Z8->Z8->Bool):Zg:=(Zf6 W H SB).withF 14 (Zf2 F H)
theorem Zhs:(Zf7 Zr (Zq Zr) Zs UM).Ok:=Zg.withF_ok Z7u Zf3
noncomputable def Zas (W:Int->List Int) (F:List Int->Int×Int) (H:List Int->List Int) (SB:Z8->Z8->Bool) (R:Option Z8):Zg:=(Zf6 W H SB).withF 14 (Zek F H R)
theorem Zf8 (R:Option Z8):(Zas Zr (Zq Zr) Zs UM R).Ok:=Zg.withF_ok Z7u Zel
theorem Z7v (X:Z8) (a:Yq):(actX X a).side=X.side:=by
 unfold actX addX endX stpX brkX XI
 repeat' split
 all_goals rfl
theorem Z7w {X:Z8} {A:List Yq}:∀i,i<=A.length->(lpX X A i).side=X.side
 | 0,_=>rfl
 | i+1,hi=>by rw [Z3O hi,Z7v,Z7w i (by omega)]
def kpH (t:ZV) (X:Z8):Za:=⟨5,[(0,.flat t.c),(1,.flat (X.c (slH 2 X.L.length))),(2,.rows 70 X.L.length (Z6 X.L)),(3,.flat (X.c (slH 4 X.L.length))),(4,.rows 70 X.L.length (Z6 X.L))]⟩
def kpS (t:ZV) (X:Z8) (A:List Yq) (sd:Int) (n i:Nat):St:=⟨170,[(14,.int .i64 i),(1,.vrows 41 n (W9 A) n),(10,pt 1),(12,pt 3),(9,pt 0),(0,.int .i64 sd)],kpH t X,[]⟩
def kpN:St:=⟨170,[],⟨0,[]⟩,[]⟩
theorem Zn9 (t:ZV) (X Y:Z8) (A:List Yq) (sd:Int) (n i:Nat) (a:Yq) (W:Int->List Int) (F:List Int->Int×Int) (H:List Int->List Int) (SB:Z8->Z8->Bool) (Z1 Z2:Prop) (hn:n<=60) (hL:A.length=n) (hi:i<=n) (hI:X.Inv Zs) (hXt:X.t=t) (hXs:X.side=sd) (hsd:sd=0\/sd=1) (htc:t.cap=1000) (htf:t.fund.length=32) (hR:∀V:Z8,V.Inv Zs->V.t=t->Z0A F H (YM W V) (some V)/\Bytes (YM W V)/\(YM W V).length<90000000000000) (hSB:∀V,SB V V=true) (hx:i<n->A.getD i Z7q=a) (ha:i<n->a.Ok) (hY:i<n->Y=actX X a) (hZ1:i<n->Z1) (hZ2:i=n->Z2):
  ZG (Zf7 W F H SB) 20 4 0 0 (kpS t X A sd n i) (rdM 0 0 9 (kpS t Y A sd n (i+1)) kpN kpN kpN Z1 Z2 False False):=by
 refine @Eq.mpr _ (let q1:=List.length X.L;let q2:=List.getD A (Int.toNat (↑i:Int)) Z7q;let q3:=X.t;let q4:=AV.arr u8 32 q3.fund;let q5:=AV.int i64 q3.index;let q6:=AV.int i64 q3.cap;let q7:=AV.int i64 q3.dust;let q8:=AV.int i64 q3.fee;let q9:=AV.int i64 q3.delay;let q10:=AV.arr u8 32 q3.k0;let q11:=AV.arr u8 32 q3.k1;let q12:=AV.int i64 X.side;let q13:=AV.int i64 X.res;let q14:=AV.arr i64 2 [X.a0,X.a1];let q15:=AV.arr i64 2 [X.i0,X.i1];let q16:=Z6 X.L;let q17:=(0:Int)<=1/\(1:Int)<=2147483647;let q18:=(0:Int)<=2/\(2:Int)<=2147483647;let q19:=t.fund;let q20:=t.index;let q21:=t.cap;let q22:=t.dust;let q23:=t.fee;let q24:=t.delay;let q25:=t.k0;let q26:=t.k1;let q27:=[(0:Int),0,0,0,0,0,0,0,0,0,0,0,0,0,0,0,0,0,0,0,0,0,0,0,0,0,0,0,0,0,0];let q28:=decide (wrap i64 ((↑i:Int)+1)=(↑(i+1):Int));let q29:=decide (n=n);let q30:=W9 A=W9 A;let q31:=decide (sd=sd);let q32:=q19=q19;let q33:=decide (q20=q20);let q34:=decide (q21=q21);let q35:=decide (q22=q22);let q36:=decide (q23=q23);let q37:=decide (q24=q24);let q38:=q25=q25;let q39:=q26=q26;let q40:=Y.t;let q41:=q40.fund;let q42:=q40.index;let q43:=q40.cap;let q44:=q40.dust;let q45:=q40.fee;let q46:=q40.delay;let q47:=q40.k0;let q48:=q40.k1;let q49:=[Y.a0,Y.a1];let q50:=[Y.i0,Y.i1];let q51:=List.length Y.L;let q52:=[(0,0),(3,3),(1,1)];let q53:=Z6 Y.L;
 Z0 (decide ((↑i:Int)<(↑n:Int)))
 (Z0 (decide (0<=(↑i:Int)/\(↑i:Int)<(↑n:Int)))
 ((∀(i:Nat),i<q1->true=true)/\
 (∀(i:Nat),i<q1->true=true)/\
 ∃(X_1:Z8),
 let q107:=X_1.t;let q108:=q107.cap;let q109:=List.length X_1.L;let q110:=decide (0+q109<=q109);let q111:=q107.fund;let q112:=q107.index;let q113:=q107.dust;let q114:=q107.fee;let q115:=q107.delay;let q116:=q107.k0;let q117:=q107.k1;let q118:=X_1.a0;let q119:=X_1.a1;let q120:=[q118,q119];let q121:=[X_1.i0,X_1.i1];let q122:=Z6 X_1.L;let q123:=[AV.arr u8 32 q111,AV.int i64 q112,AV.int i64 q108,AV.int i64 q113,AV.int i64 q114,AV.int i64 q115,AV.arr u8 32 q116,AV.arr u8 32 q117,AV.int i64 X_1.side,AV.int i64 X_1.res,AV.arr i64 2 q120,AV.arr i64 2 q121,AV.vrows 70 q109 (ZT 0 q122) q109];let q124:=q111=q41;let q125:=decide (q112=q42);let q126:=decide (q108=q43);let q127:=decide (q113=q44);let q128:=decide (q114=q45);let q129:=decide (q115=q46);let q130:=q116=q47;let q131:=q117=q48;let q132:=decide (X_1.side=Y.side);let q133:=decide (X_1.res=Y.res);let q134:=q120=q49;let q135:=q121=q50;let q136:=decide (q109=q51);let q137:=decide (q51<=q109);let q138:=Zb 0 ((4,4)::(2,2)::q52) q51 q53 q122;
 ∃(a:Yq),
 let q171:=actX X_1 a;let q172:=q171.t;let q173:=q172.cap;let q174:=q171.L;let q175:=List.length q174;let q176:=decide (0+q175<=q175);let q177:=q172.fund;let q178:=q172.index;let q179:=q172.dust;let q180:=q172.fee;let q181:=q172.delay;let q182:=q172.k0;let q183:=q172.k1;let q184:=q171.side;let q185:=q171.res;let q186:=q171.a0;let q187:=q171.a1;let q188:=[q186,q187];let q189:=[q171.i0,q171.i1];let q190:=Z6 q174;let q191:=[AV.arr u8 32 q177,AV.int i64 q178,AV.int i64 q173,AV.int i64 q179,AV.int i64 q180,AV.int i64 q181,AV.arr u8 32 q182,AV.arr u8 32 q183,AV.int i64 q184,AV.int i64 q185,AV.arr i64 2 q188,AV.arr i64 2 q189,AV.vrows 70 q175 (ZT 0 q190) q175];let q192:=q177=q41;let q193:=decide (q178=q42);let q194:=decide (q173=q43);let q195:=decide (q179=q44);let q196:=decide (q180=q45);let q197:=decide (q181=q46);let q198:=q182=q47;let q199:=q183=q48;let q200:=decide (q184=Y.side);let q201:=decide (q185=Y.res);let q202:=q188=q49;let q203:=q189=q50;let q204:=decide (q175=q51);let q205:=decide (q51<=q175);let q206:=Zb 0 ((4,6)::(2,5)::q52) q51 q53 q190;
 a=Yq.mk q2.what q2.own q2.off q2.amount q2.expiry q2.secret q2.at' q2.move q2.ours q2.number/\
 LA [q4,q5,q6,q7,q8,q9,q10,q11,q12,q13,q14,q15,AV.nslice (ZF.mk 1 0 70 0 0) 70 q1 q1] q1 q16 [q4,q5,q6,q7,q8,q9,q10,q11,q12,q13,q14,q15,AV.nslice (ZF.mk 2 0 70 0 0) 70 q1 q1] q1 q16 X_1/\
 Z8.Inv Zs X_1/\
 Yq.Ok a/\
 (Qu X_1 a->
 Z0 (q108==0) (Z0 q110 ((∀(i:Nat),i<q109->true=true)/\∃(X:Z8),LV q123 X/\Z8.Inv Zs X/\q17/\Z0 q110 ((∀(i:Nat),i<q109->true=true)/\∃(X:Z8),LV q123 X/\Z8.Inv Zs X/\q18/\False) False) False)
 (Z0 q110
 ((∀(i:Nat),i<q109->true=true)/\
 ∃(X_2:Z8),
 let q243:=ZI X_2.side true X_2.L;let q244:=List.length q243;let q245:=ZD X_2.side true;
 LV q123 X_2/\
 Z8.Inv Zs X_2/\
 q17/\
 Z0 q110
 ((∀(i:Nat),i<q109->true=true)/\
 ∃(X_3:Z8),
 let q249:=ZI X_3.side false X_3.L;let q250:=List.length q249;let q251:=ZD X_3.side false;
 LV q123 X_3/\
 Z8.Inv Zs X_3/\
 q18/\
 Z0 (wrap i64 (q118+q119) !=1000) False
 (Z0 (decide (q118<0)) False
 (Z0 (decide (q119<0)) False
 (Z0 (decide (0+q244<=q244))
 ((∀(i:Nat),i<q244->true=true)/\
 ∃(X_4:Z8),
 let q255:=ZV.mk q19 q20 q21 q22 q23 q24 q25 q26;let q256:=X_4.side;
 ∃(o:Bool),
 let q259:=ZI q256 o X_4.L;
 ∃(k:Int),
 ∃(pt:List Int),
 (Z8.Inv Zs X_4/\0<=k/\k<=2147483647)/\
 X_4.t=q255/\
 ((k=1/\ZD q256 o=q245/\pt=(3:Int)::q27/\[(Xh X_2 true).fst,(Xh X_2 true).snd]=[(Xh X_4 o).fst,(Xh X_4 o).snd])/\
 (q244=q244/\List.length q259=q244)/\
 ∀(i:Nat),
 let q261:=List.getD q243 i Z7b;
 i<q244->[AV.int i64 q261.frm,AV.int i64 q261.id,AV.int i64 q261.amount,AV.arr u8 32 q261.hash,AV.int i64 q261.expiry]=ZH q259 i)/\
 Z0 (decide (0+q250<=q250))
 ((∀(i:Nat),i<q250->true=true)/\
 ∃(X_5:Z8),
 let q261:=X_5.side;
 ∃(o:Bool),
 let q263:=ZI q261 o X_5.L;
 ∃(k:Int),
 ∃(pt:List Int),
 (Z8.Inv Zs X_5/\0<=k/\k<=2147483647)/\
 X_5.t=q255/\
 ((k=2/\ZD q261 o=q251/\pt=(4:Int)::q27/\[(Xh X_3 false).fst,(Xh X_3 false).snd]=[(Xh X_5 o).fst,(Xh X_5 o).snd])/\
 (q250=q250/\List.length q263=q250)/\
 ∀(i:Nat),
 let q265:=List.getD q249 i Z7b;
 i<q250->[AV.int i64 q265.frm,AV.int i64 q265.id,AV.int i64 q265.amount,AV.arr u8 32 q265.hash,AV.int i64 q265.expiry]=ZH q263 i)/\
 Z0 (q245 !=sd) False
 (Z0 (q251 !=wrap i64 (1-sd)) False
 (Z0 q110
 ((∀(i:Nat),i<q109->true=true)/\
 ∃(X_6:Z8),
 let q265:=List.length (YM W X_6);let q266:=List.take q265 (YH 0 (YM W X_6));
 LV q123 X_6/\
 Z8.Inv Zs X_6/\
 List.length X_6.t.fund=32/\
 Z0 (decide (0+q265<=q265))
 (∃(X_7:Z8),
 let q269:=List.length X_7.L;let q270:=X_7.t;
 (List.length q266=q265/\q265<90000000000000/\Bytes q266)/\
 Z0A F H q266 (some X_7)/\
 Z0 q110
 ((∀(i:Nat),i<q109->true=true)/\
 Z0 (decide (0+q269<=q269))
 ((∀(i:Nat),i<q269->true=true)/\
 ∃(X:Z8),
 ∃(Y:Z8),
 LV q123 X/\
 LV [AV.arr u8 32 q270.fund,AV.int i64 q270.index,AV.int i64 q270.cap,AV.int i64 q270.dust,AV.int i64 q270.fee,AV.int i64 q270.delay,AV.arr u8 32 q270.k0,AV.arr u8 32 q270.k1,AV.int i64 X_7.side,AV.int i64 X_7.res,AV.arr i64 2 [X_7.a0,X_7.a1],AV.arr i64 2 [X_7.i0,X_7.i1],AV.vrows 70 q269 (ZT 0 (Z6 X_7.L)) q269] Y/\
 Z8.Inv Zs X/\Z8.Inv Zs Y/\List.length X.t.fund=32/\List.length Y.t.fund=32/\Z0 (!SB X Y) False (Z0 q28 (Z0 q29 (q30/\Z0 q29 (Z0 q31 (q32/\Z0 q33 (Z0 q34 (Z0 q35 (Z0 q36 (Z0 q37 (q38/\q39/\q124/\Z0 q125 (Z0 q126 (Z0 q127 (Z0 q128 (Z0 q129 (q130/\q131/\Z0 q132 (Z0 q133 (q134/\q135/\Z0 q136 (Z0 q137 (Z0 q136 (q138/\q124/\Z0 q125 (Z0 q126 (Z0 q127 (Z0 q128 (Z0 q129 (q130/\q131/\Z0 q132 (Z0 q133 (q134/\q135/\Z0 q136 (Z0 q137 (Z0 q136 (q138/\Z1) False) False) False) False) False) False) False) False) False) False) False) False) False) False) False) False) False) False) False) False) False) False) False) False) False) False) False) False) False))
 False)
 False)
 False)
 False)))
 False)
 False))))
 False)
 False))/\
 (¬Qu X_1 a->
 Z0 (q173==0) (Z0 q176 ((∀(i:Nat),i<q175->true=true)/\∃(X:Z8),LV q191 X/\Z8.Inv Zs X/\q17/\Z0 q176 ((∀(i:Nat),i<q175->true=true)/\∃(X:Z8),LV q191 X/\Z8.Inv Zs X/\q18/\False) False) False)
 (Z0 q176
 ((∀(i:Nat),i<q175->true=true)/\
 ∃(X_2:Z8),
 let q243:=ZI X_2.side true X_2.L;let q244:=List.length q243;let q245:=ZD X_2.side true;
 LV q191 X_2/\
 Z8.Inv Zs X_2/\
 q17/\
 Z0 q176
 ((∀(i:Nat),i<q175->true=true)/\
 ∃(X_3:Z8),
 let q249:=ZI X_3.side false X_3.L;let q250:=List.length q249;let q251:=ZD X_3.side false;
 LV q191 X_3/\
 Z8.Inv Zs X_3/\
 q18/\
 Z0 (wrap i64 (q186+q187) !=1000) False
 (Z0 (decide (q186<0)) False
 (Z0 (decide (q187<0)) False
 (Z0 (decide (0+q244<=q244))
 ((∀(i:Nat),i<q244->true=true)/\
 ∃(X_4:Z8),
 let q255:=ZV.mk q19 q20 q21 q22 q23 q24 q25 q26;let q256:=X_4.side;
 ∃(o:Bool),
 let q259:=ZI q256 o X_4.L;
 ∃(k:Int),
 ∃(pt:List Int),
 (Z8.Inv Zs X_4/\0<=k/\k<=2147483647)/\
 X_4.t=q255/\
 ((k=1/\ZD q256 o=q245/\pt=(3:Int)::q27/\[(Xh X_2 true).fst,(Xh X_2 true).snd]=[(Xh X_4 o).fst,(Xh X_4 o).snd])/\
 (q244=q244/\List.length q259=q244)/\
 ∀(i:Nat),
 let q261:=List.getD q243 i Z7b;
 i<q244->[AV.int i64 q261.frm,AV.int i64 q261.id,AV.int i64 q261.amount,AV.arr u8 32 q261.hash,AV.int i64 q261.expiry]=ZH q259 i)/\
 Z0 (decide (0+q250<=q250))
 ((∀(i:Nat),i<q250->true=true)/\
 ∃(X_5:Z8),
 let q261:=X_5.side;
 ∃(o:Bool),
 let q263:=ZI q261 o X_5.L;
 ∃(k:Int),
 ∃(pt:List Int),
 (Z8.Inv Zs X_5/\0<=k/\k<=2147483647)/\
 X_5.t=q255/\
 ((k=2/\ZD q261 o=q251/\pt=(4:Int)::q27/\[(Xh X_3 false).fst,(Xh X_3 false).snd]=[(Xh X_5 o).fst,(Xh X_5 o).snd])/\
 (q250=q250/\List.length q263=q250)/\
 ∀(i:Nat),
 let q265:=List.getD q249 i Z7b;
 i<q250->[AV.int i64 q265.frm,AV.int i64 q265.id,AV.int i64 q265.amount,AV.arr u8 32 q265.hash,AV.int i64 q265.expiry]=ZH q263 i)/\
 Z0 (q245 !=sd) False
 (Z0 (q251 !=wrap i64 (1-sd)) False
 (Z0 q176
 ((∀(i:Nat),i<q175->true=true)/\
 ∃(X_6:Z8),
 let q265:=List.length (YM W X_6);let q266:=List.take q265 (YH 0 (YM W X_6));
 LV q191 X_6/\
 Z8.Inv Zs X_6/\
 List.length X_6.t.fund=32/\
 Z0 (decide (0+q265<=q265))
 (∃(X_7:Z8),
 let q269:=List.length X_7.L;let q270:=X_7.t;
 (List.length q266=q265/\q265<90000000000000/\Bytes q266)/\
 Z0A F H q266 (some X_7)/\
 Z0 q176
 ((∀(i:Nat),i<q175->true=true)/\
 Z0 (decide (0+q269<=q269))
 ((∀(i:Nat),i<q269->true=true)/\
 ∃(X:Z8),
 ∃(Y:Z8),
 LV q191 X/\
 LV [AV.arr u8 32 q270.fund,AV.int i64 q270.index,AV.int i64 q270.cap,AV.int i64 q270.dust,AV.int i64 q270.fee,AV.int i64 q270.delay,AV.arr u8 32 q270.k0,AV.arr u8 32 q270.k1,AV.int i64 X_7.side,AV.int i64 X_7.res,AV.arr i64 2 [X_7.a0,X_7.a1],AV.arr i64 2 [X_7.i0,X_7.i1],AV.vrows 70 q269 (ZT 0 (Z6 X_7.L)) q269] Y/\
 Z8.Inv Zs X/\Z8.Inv Zs Y/\List.length X.t.fund=32/\List.length Y.t.fund=32/\Z0 (!SB X Y) False (Z0 q28 (Z0 q29 (q30/\Z0 q29 (Z0 q31 (q32/\Z0 q33 (Z0 q34 (Z0 q35 (Z0 q36 (Z0 q37 (q38/\q39/\q192/\Z0 q193 (Z0 q194 (Z0 q195 (Z0 q196 (Z0 q197 (q198/\q199/\Z0 q200 (Z0 q201 (q202/\q203/\Z0 q204 (Z0 q205 (Z0 q204 (q206/\q192/\Z0 q193 (Z0 q194 (Z0 q195 (Z0 q196 (Z0 q197 (q198/\q199/\Z0 q200 (Z0 q201 (q202/\q203/\Z0 q204 (Z0 q205 (Z0 q204 (q206/\Z1) False) False) False) False) False) False) False) False) False) False) False) False) False) False) False) False) False) False) False) False) False) False) False) False) False) False) False) False) False))
 False)
 False)
 False)
 False)))
 False)
 False))))
 False)
 False)))
 False)
 Z2) (by kernel_rfl) ?_
 conv=>zeta
 try simp only [Zj]
 try simp only [Zl]
 try simp only [Zi]
 try simp only [Zm]
 try simp only [Zn]
 try simp only [Zh]
 try simp only [Int.toNat_natCast,Nat.zero_add,true_and,and_true,Nat.le_refl]
 simp only [UA]
 refine ⟨fun hc=> ?_,fun hc=>hZ2 (by omega)⟩
 have hlt:i<n:=by omega
 rw [hx hlt]
 have hwr:i64.wrap ((i:Int)+1)=((i+1:Nat):Int):=by rw [w64 (by omega)];omega
 have hY:=hY hlt
 have hf:∀V:Z8,V.Inv Zs->V.t=t->V.side=sd->V.Inv Zs/\V.t.fund.length=32/\V.t=⟨t.fund,t.index,t.cap,t.dust,t.fee,t.delay,t.k0,t.k1⟩/\V.side=sd/\V.t.cap≠0/\¬V.a0<0/\¬V.a1<0/\V.a0+V.a1=1000:=fun V h1 h2 h3=>by
  have a0:=h1.a0
  have a1:=h1.a1
  rw [h2] at a0 a1
  exact ⟨h1,by rw [h2];exact htf,h2,h3,XB h1.tb,by omega,by omega,by omega⟩
 refine ⟨by omega,fun _ _=>trivial,fun _ _=>trivial,X,a,rfl,⟨rfl,rfl,rfl,rfl,rfl,rfl⟩,hI,ha hlt,fun hk=> ?_,fun hk=> ?_⟩
 ·rw [ZeU hk] at hY
  subst hY
  obtain ⟨hV,ft,tV,sV,hcap,k1,k2,k3⟩:=hf Y hI hXt hXs
  obtain ⟨hR2,hb2,hL2⟩:=hR Y hV hXt
  have s1:(i64.wrap (Y.a0+Y.a1) !=1000)=false:=by rw [w64 (by omega),k3];rfl
  have s2:(ZD Y.side true !=sd)=false:=by rw [sV];exact bne_self_eq_false _
  have s3:(ZD Y.side false !=i64.wrap (1-sd))=false:=by rw [sV,w64 (by omega)];exact bne_self_eq_false _
  have s4:(!SB Y Y)=false:=by rw [hSB];rfl
  refine ⟨fun h=>absurd h (by simpa using hcap),fun _=> ?_⟩
  repeat' first
   | assumption
   | (intro _ _;trivial)
   | exact hwr
   | exact hZ1 hlt
   | exact Nat.le_refl _
   | apply And.intro
   | rfl
   | omega
   | exact Zo fun _ _=>rfl
  refine ⟨Y,.a rfl, ?_⟩
  repeat' first
   | assumption
   | (intro _ _;trivial)
   | exact hwr
   | exact hZ1 hlt
   | exact Nat.le_refl _
   | apply And.intro
   | rfl
   | omega
   | exact Zo fun _ _=>rfl
  refine ⟨Y,.a rfl, ?_⟩
  repeat' first
   | assumption
   | (intro _ _;trivial)
   | exact hwr
   | exact hZ1 hlt
   | exact Nat.le_refl _
   | apply And.intro
   | rfl
   | omega
   | exact Zo fun _ _=>rfl
  refine ⟨Y,true,1,_,⟨hV,by decide,by decide⟩,tV,⟨⟨rfl,rfl,rfl,rfl⟩,rfl,fun _ _=>rfl⟩, ?_⟩
  repeat' first
   | assumption
   | (intro _ _;trivial)
   | exact hwr
   | exact hZ1 hlt
   | exact Nat.le_refl _
   | apply And.intro
   | rfl
   | omega
   | exact Zo fun _ _=>rfl
  refine ⟨Y,false,2,_,⟨hV,by decide,by decide⟩,tV,⟨⟨rfl,rfl,rfl,rfl⟩,rfl,fun _ _=>rfl⟩, ?_⟩
  repeat' first
   | assumption
   | (intro _ _;trivial)
   | exact hwr
   | exact hZ1 hlt
   | exact Nat.le_refl _
   | apply And.intro
   | rfl
   | omega
   | exact Zo fun _ _=>rfl
  refine ⟨Y,.a rfl, ?_⟩
  repeat' first
   | assumption
   | (intro _ _;trivial)
   | exact hwr
   | exact hZ1 hlt
   | exact Nat.le_refl _
   | apply And.intro
   | rfl
   | omega
   | exact Zo fun _ _=>rfl
  refine ⟨Y,⟨trivial,hL2,hb2⟩,hR2, ?_⟩
  repeat' first
   | assumption
   | (intro _ _;trivial)
   | exact hwr
   | exact hZ1 hlt
   | exact Nat.le_refl _
   | apply And.intro
   | rfl
   | omega
   | exact Zo fun _ _=>rfl
  refine ⟨Y,Y,.a rfl,.a rfl, ?_⟩
  repeat' first
   | assumption
   | (intro _ _;trivial)
   | exact hwr
   | exact hZ1 hlt
   | exact Nat.le_refl _
   | apply And.intro
   | rfl
   | omega
   | exact Zo fun _ _=>rfl
 ·rw [<-hY]
  have hYi:Y.Inv Zs:=by rw [hY];exact hI.actX (ha hlt)
  have hYt:Y.t=t:=by rw [hY,Zid];exact hXt
  have hYs:Y.side=sd:=by rw [hY,Z7v];exact hXs
  clear hY
  obtain ⟨hV,ft,tV,sV,hcap,k1,k2,k3⟩:=hf Y hYi hYt hYs
  obtain ⟨hR2,hb2,hL2⟩:=hR Y hV hYt
  have s1:(i64.wrap (Y.a0+Y.a1) !=1000)=false:=by rw [w64 (by omega),k3];rfl
  have s2:(ZD Y.side true !=sd)=false:=by rw [sV];exact bne_self_eq_false _
  have s3:(ZD Y.side false !=i64.wrap (1-sd))=false:=by rw [sV,w64 (by omega)];exact bne_self_eq_false _
  have s4:(!SB Y Y)=false:=by rw [hSB];rfl
  refine ⟨fun h=>absurd h (by simpa using hcap),fun _=> ?_⟩
  repeat' first
   | assumption
   | (intro _ _;trivial)
   | exact hwr
   | exact hZ1 hlt
   | exact Nat.le_refl _
   | apply And.intro
   | rfl
   | omega
   | exact Zo fun _ _=>rfl
  refine ⟨Y,.a rfl, ?_⟩
  repeat' first
   | assumption
   | (intro _ _;trivial)
   | exact hwr
   | exact hZ1 hlt
   | exact Nat.le_refl _
   | apply And.intro
   | rfl
   | omega
   | exact Zo fun _ _=>rfl
  refine ⟨Y,.a rfl, ?_⟩
  repeat' first
   | assumption
   | (intro _ _;trivial)
   | exact hwr
   | exact hZ1 hlt
   | exact Nat.le_refl _
   | apply And.intro
   | rfl
   | omega
   | exact Zo fun _ _=>rfl
  refine ⟨Y,true,1,_,⟨hV,by decide,by decide⟩,tV,⟨⟨rfl,rfl,rfl,rfl⟩,rfl,fun _ _=>rfl⟩, ?_⟩
  repeat' first
   | assumption
   | (intro _ _;trivial)
   | exact hwr
   | exact hZ1 hlt
   | exact Nat.le_refl _
   | apply And.intro
   | rfl
   | omega
   | exact Zo fun _ _=>rfl
  refine ⟨Y,false,2,_,⟨hV,by decide,by decide⟩,tV,⟨⟨rfl,rfl,rfl,rfl⟩,rfl,fun _ _=>rfl⟩, ?_⟩
  repeat' first
   | assumption
   | (intro _ _;trivial)
   | exact hwr
   | exact hZ1 hlt
   | exact Nat.le_refl _
   | apply And.intro
   | rfl
   | omega
   | exact Zo fun _ _=>rfl
  refine ⟨Y,.a rfl, ?_⟩
  repeat' first
   | assumption
   | (intro _ _;trivial)
   | exact hwr
   | exact hZ1 hlt
   | exact Nat.le_refl _
   | apply And.intro
   | rfl
   | omega
   | exact Zo fun _ _=>rfl
  refine ⟨Y,⟨trivial,hL2,hb2⟩,hR2, ?_⟩
  repeat' first
   | assumption
   | (intro _ _;trivial)
   | exact hwr
   | exact hZ1 hlt
   | exact Nat.le_refl _
   | apply And.intro
   | rfl
   | omega
   | exact Zo fun _ _=>rfl
  refine ⟨Y,Y,.a rfl,.a rfl, ?_⟩
  repeat' first
   | assumption
   | (intro _ _;trivial)
   | exact hwr
   | exact hZ1 hlt
   | exact Nat.le_refl _
   | apply And.intro
   | rfl
   | omega
   | exact Zo fun _ _=>rfl
theorem Zht (n:Int):∀x∈Zr n,0<=x/\x<=255:=fun x hx=>by
 unfold Zr at hx
 repeat' split at hx
 all_goals
  simp only [List.mem_cons,List.not_mem_nil,or_false] at hx
  repeat' rcases hx with rfl|hx
  all_goals first|exact ZfO _|(subst hx;exact ZfO _)|(constructor<;>decide)
def Z3Q (xs:List Int):Prop:=∀x∈xs,0<=x/\x<=255
theorem Z3Q.app {a b:List Int} (ha:Z3Q a) (hb:Z3Q b):Z3Q (a++b):=fun x hx=>(List.mem_append.1 hx).elim (ha x) (hb x)
theorem Z0D {xs:List Int} (h:Bytes xs):Z3Q xs:=fun x hx=>by
 obtain ⟨i,hi,rfl⟩:=List.getElem_of_mem hx
 have:=h.h i
 rwa [List.getD_eq_getElem?_getD,List.getElem?_eq_getElem hi] at this
theorem UN:∀(l:List Int) {xs:List Int},Z3Q xs->Z3Q (YA Zr xs l)
 | [],xs,h=>by unfold YA;exact h
 | n::r,xs,h=>by unfold YA;exact UN r (h.app (Zht n))
theorem Zhu {xs:List Int} {h:Z7} (hx:Z3Q xs) (hk:h.Ok):Z3Q (Z1b Zr xs h):=by
 have h1:Z3Q (xs++[cond h.own 1 0]):=hx.app fun y hy=>by
  rw [List.mem_singleton] at hy
  subst hy
  cases h.own<;>(constructor<;>decide)
 have h2:=UN [h.expiry,h.stage,h.fin] ((UN [h.id,h.amount] h1).app (Z0D hk.hb))
 unfold Z1b
 split
 ·exact h2.app (Z0D hk.sb)
 ·exact h2
theorem Zf9 {X:Z8} (hf:Bytes X.t.fund) (ht:X.t.Ok) (hl:∀h∈X.L,h.Ok):Bytes (YM Zr X):=by
 refine Z3H ?_
 have h0:Z3Q (Ve Zr X):=UN _ (((UN _ (Z0D hf)).app (Z0D ht.b0)).app (Z0D ht.b1))
 unfold YM
 revert h0 hl
 generalize Ve Zr X=xs
 generalize X.L=L
 induction L generalizing xs with
 | nil=>exact fun _ h=>h
 | cons x r ih=>exact fun hl h=>ih _ (fun z hz=>hl z (by simp [hz])) (Zhu h (hl x (by simp)))
theorem ZjB {V:Z8} (hV:V.Inv Zs) (hf:V.t.fund.length=32) (hfb:Bytes V.t.fund):Z0A (Zq Zr) Zs (YM Zr V) (some V)/\Bytes (YM Zr V)/\(YM Zr V).length<90000000000000:=by
 have hb:=Zf9 hfb hV.tok hV.ok
 exact ⟨⟨⟨ZbA hV hf hb,(Z24 hV.tok hV.ok).2 hV⟩⟩,hb,by have:=hV.rawLen hf;omega⟩
structure ZlS (t:ZV) (sd:Int) (X0:Z8) (A:List Yq) (n:Nat):Prop where
 l:Zn7 X0 A n
 et:X0.t=t
 s:X0.side=sd
 sd:sd=0\/sd=1
 c:t.cap=1000
 f:t.fund.length=32
 b:Bytes t.fund
theorem Zna (W:Int->List Int) (F:List Int->Int×Int) (H:List Int->List Int) (SB:Z8->Z8->Bool) (R:Option Z8):(Zas W F H SB R).P=(Zf7 W F H SB).P:=by
 unfold Zas Zf7
 rw [Z9I,Z9I]
noncomputable def Z7x (W:Int->List Int) (F:List Int->Int×Int) (H:List Int->List Int) (SB:Z8->Z8->Bool) (R:Option Z8) (t:ZV) (sd:Int) (X0:Z8) (A:List Yq) (n:Nat) (C:Prop):Zg:=(Zas W F H SB R).withL 4 0 (goM 0 (kpS t X0 A sd n 0) C (YJ 0 n 9 (fun i=>i<n) (fun i=>i=n) (fun _=>False) (fun _=>False) (fun _=>kpN) (fun _=>kpN) (fun _=>kpN)))
theorem Z0E (R:Option Z8) (t:ZV) (sd:Int) (X0:Z8) (A:List Yq) (n:Nat):(Z7x Zr (Zq Zr) Zs UM R t sd X0 A n (ZlS t sd X0 A n)).Ok:=
 Zg.withL_join (H:=Zf7 Zr (Zq Zr) Zs UM) (Zf8 R) (Zna _ _ _ _ _) (Zg.withGoM (N:=20) (S:=fun i=>kpS t (lpX X0 A i) A sd n i) Zhs (by kernel_rfl) fun hC=>⟨rfl,fun i hi _=>by
  obtain ⟨⟨h1,h2,h3,h4,h5⟩,ht,hs,hsd,hc,hf,hb⟩:=hC
  have hk:=fun j hj=>Zap h3 h5 j hj
  exact Zn9 t (lpX X0 A i) (lpX X0 A (i+1)) A sd n i (A.getD i Z7q) _ _ _ _ _ _ h1 h2 hi (hk i (by omega)).1 ((hk i (by omega)).2.trans ht) ((Z7w i (by omega)).trans hs) hsd hc hf (fun V hV hVt=>ZjB hV (by rw [hVt];exact hf) (by rw [hVt];exact hb)) (fun V=>ZeX rfl) (fun _=>rfl) (fun h=>h5 _ (by rw [List.getD_eq_getElem?_getD,List.getElem?_eq_getElem (by omega)];exact List.getElem_mem (by omega))) (fun h=>Z3O (by omega)) (fun h=>⟨h,h⟩) (fun h=>h)⟩)
theorem ZlT (W:Int->List Int) (F:List Int->Int×Int) (H:List Int->List Int) (SB:Z8->Z8->Bool) (t:ZV) (X0:Z8) (A:List Yq) (n m:Nat) (xs:List Int) (C:Prop) (ht0:t=tW) (h0:X0=U1 tW 0 50 600 400) (hok:X0.t.Ok) (hr:Yb H X0=true) (hl:xs.length=m) (hb:Bytes xs) (hR:Z0A F H xs none) (hC:n<=60->C):
  evF (Z7x W F H SB none t 0 X0 A n C) 20 4 [.int .i64 0,.vrows 41 n (W9 A) n,.vints .u8 xs m] ⟨0,[]⟩ (Yo fun v=>v=.bool true):=by
 refine @Eq.mpr _ (let q1:=AV.bool true=AV.bool true;let q2:=[(0:Int),0,0,0,0,0,0,0,0,0,0,0,0,0,0,0,0,0,0,0,0,0,0,0,0,0,0,0,0,0,0];let q3:=(1:Int)::q2;let q4:=(2:Int)::q2;let q5:=decide (n=n);let q6:=X0.t;let q7:=q6.fund;let q8:=q6.index;let q9:=q6.cap;let q10:=q6.dust;let q11:=q6.fee;let q12:=q6.delay;let q13:=q6.k0;let q14:=q6.k1;let q15:=[X0.a0,X0.a1];let q16:=[X0.i0,X0.i1];let q17:=List.length X0.L;let q18:=decide (0=q17);let q19:=decide (q17=0);
 Z0 (decide ((↑n:Int)>60)) q1
 (Z0 (decide ((↑m:Int)>2500)) q1
 ((List.length xs=m/\m<90000000000000/\Bytes xs)/\
 Z0A F H xs none/\
 ∃(X:Z8),
 let q39:=ZV.mk Zf 0 1000 10 5 3 q3 q4;let q40:=X.t;
 Z0C H X q39 0 50 600 400/\
 ∃(X_1:Z8),
 let q43:=X_1.t;
 Z0C H X_1 q39 0 50 600 400/\
 Z0 q5
 (W9 A=W9 A/\
 Z0 q5
 (Zf=t.fund/\
 Z0 (decide (0=t.index))
 (Z0 (decide (1000=t.cap))
 (Z0 (decide (10=t.dust))
 (Z0 (decide (5=t.fee))
 (Z0 (decide (3=t.delay))
 (q3=t.k0/\
 q4=t.k1/\
 q40.fund=q7/\
 Z0 (decide (q40.index=q8))
 (Z0 (decide (q40.cap=q9)) (Z0 (decide (q40.dust=q10)) (Z0 (decide (q40.fee=q11)) (Z0 (decide (q40.delay=q12)) (q40.k0=q13/\q40.k1=q14/\Z0 (decide (X.side=X0.side)) (Z0 (decide (X.res=X0.res)) ([X.a0,X.a1]=q15/\[X.i0,X.i1]=q16/\Z0 q18 (Z0 (decide (q17<=0)) (Z0 q18 (Zb 0 [(2,3),(0,1),(3,4),(1,2)] q17 (Z6 X0.L) (Z6 [])/\q43.fund=q7/\Z0 (decide (q43.index=q8)) (Z0 (decide (q43.cap=q9)) (Z0 (decide (q43.dust=q10)) (Z0 (decide (q43.fee=q11)) (Z0 (decide (q43.delay=q12)) (q43.k0=q13/\q43.k1=q14/\Z0 (decide (X_1.side=X0.side)) (Z0 (decide (X_1.res=X0.res)) ([X_1.a0,X_1.a1]=q15/\[X_1.i0,X_1.i1]=q16/\Z0 q19 (Z0 q19 (Z0 q19 (C/\∀(i:Nat),i<=n->(∀(j:Nat),j<i->(fun (i:Nat)=>i<n) j)->(i=n->q1)/\(False->False)/\(False->False)) False) False) False) False) False) False) False) False) False) False) False) False) False) False) False) False) False) False) False)
 False)
 False)
 False)
 False)
 False)
 False)
 False)
 False))) (by kernel_rfl) ?_
 conv=>zeta
 try simp only [Zj]
 try simp only [Zl]
 try simp only [Zi]
 try simp only [Zm]
 try simp only [Zn]
 try simp only [Zh]
 try simp only [Int.toNat_natCast,Nat.zero_add,true_and,and_true,Nat.le_refl]
 subst ht0
 have hnw:Z0C H X0 tW 0 50 600 400:=⟨h0,hok,hr⟩
 refine ⟨fun _=>trivial,fun hn=>⟨fun _=>trivial,fun hm=>⟨⟨hl,by omega,hb⟩,hR,X0,hnw,X0,hnw, ?_⟩⟩⟩
 subst h0
 repeat' first
  | exact hC (by omega)
  | trivial
  | rfl
  | exact Zo fun _ _=>rfl
  | exact Nat.le_refl 0
  | (intro i hi hg;refine ⟨fun _=> ?_,fun h=>h,fun h=>h⟩)
  | apply And.intro
theorem ZlU (W:Int->List Int) (F:List Int->Int×Int) (H:List Int->List Int) (SB:Z8->Z8->Bool) (t:ZV) (X0 Y:Z8) (A:List Yq) (n m:Nat) (xs:List Int) (C:Prop) (ht0:t=tW) (h0:X0=U1 tW 0 50 600 400) (hok:X0.t.Ok) (hr:Yb H X0=true) (hl:xs.length=m) (hb:Bytes xs) (hR:Z0A F H xs (some Y)) (hI:Y.Inv Zs) (hf:Y.t.fund.length=32) (hW:YM W Y=xs) (hC:n<=60->C):
  evF (Z7x W F H SB (some Y) t 0 X0 A n C) 20 4 [.int .i64 0,.vrows 41 n (W9 A) n,.vints .u8 xs m] ⟨0,[]⟩ (Yo fun v=>v=.bool true):=by
 refine @Eq.mpr _ (let q1:=AV.bool true;let q2:=q1=q1;let q3:=List.length Y.L;let q4:=Y.t;let q5:=strOf (List.take m xs);let q6:=[(0:Int),0,0,0,0,0,0,0,0,0,0,0,0,0,0,0,0,0,0,0,0,0,0,0,0,0,0,0,0,0,0];let q7:=(1:Int)::q6;let q8:=(2:Int)::q6;let q9:=decide (n=n);let q10:=X0.t;let q11:=q10.fund;let q12:=q10.index;let q13:=q10.cap;let q14:=q10.dust;let q15:=q10.fee;let q16:=q10.delay;let q17:=q10.k0;let q18:=q10.k1;let q19:=[X0.a0,X0.a1];let q20:=[X0.i0,X0.i1];let q21:=List.length X0.L;let q22:=decide (0=q21);let q23:=decide (q21=0);
 Z0 (decide ((↑n:Int)>60)) q2
 (Z0 (decide ((↑m:Int)>2500)) q2
 ((List.length xs=m/\m<90000000000000/\Bytes xs)/\
 Z0A F H xs (some Y)/\
 Z0 (decide (0+q3<=q3))
 ((∀(i:Nat),i<q3->true=true)/\
 ∃(X:Z8),
 let q47:=List.length (YM W X);
 LV [AV.arr u8 32 q4.fund,AV.int i64 q4.index,AV.int i64 q4.cap,AV.int i64 q4.dust,AV.int i64 q4.fee,AV.int i64 q4.delay,AV.arr u8 32 q4.k0,AV.arr u8 32 q4.k1,AV.int i64 Y.side,AV.int i64 Y.res,AV.arr i64 2 [Y.a0,Y.a1],AV.arr i64 2 [Y.i0,Y.i1],AV.vrows 70 q3 (ZT 0 (Z6 Y.L)) q3] X/\
 Z8.Inv Zs X/\
 List.length X.t.fund=32/\
 q5=q5/\
 Z0 (decide (u8=u8/\0+q47<=q47))
 (Z0 (!ByteArray.toList (strOf (List.take q47 (YH 0 (YM W X))))==ByteArray.toList q5) (AV.bool false=q1)
 (∃(X:Z8),
 let q49:=ZV.mk Zf 0 1000 10 5 3 q7 q8;let q50:=X.t;
 Z0C H X q49 0 50 600 400/\
 ∃(X_1:Z8),
 let q53:=X_1.t;
 Z0C H X_1 q49 0 50 600 400/\
 Z0 q9
 (W9 A=W9 A/\
 Z0 q9
 (Zf=t.fund/\
 Z0 (decide (0=t.index))
 (Z0 (decide (1000=t.cap))
 (Z0 (decide (10=t.dust))
 (Z0 (decide (5=t.fee))
 (Z0 (decide (3=t.delay))
 (q7=t.k0/\
 q8=t.k1/\
 q50.fund=q11/\
 Z0 (decide (q50.index=q12))
 (Z0 (decide (q50.cap=q13)) (Z0 (decide (q50.dust=q14)) (Z0 (decide (q50.fee=q15)) (Z0 (decide (q50.delay=q16)) (q50.k0=q17/\q50.k1=q18/\Z0 (decide (X.side=X0.side)) (Z0 (decide (X.res=X0.res)) ([X.a0,X.a1]=q19/\[X.i0,X.i1]=q20/\Z0 q22 (Z0 (decide (q21<=0)) (Z0 q22 (Zb 0 [(2,6),(0,4),(3,7),(1,5)] q21 (Z6 X0.L) (Z6 [])/\q53.fund=q11/\Z0 (decide (q53.index=q12)) (Z0 (decide (q53.cap=q13)) (Z0 (decide (q53.dust=q14)) (Z0 (decide (q53.fee=q15)) (Z0 (decide (q53.delay=q16)) (q53.k0=q17/\q53.k1=q18/\Z0 (decide (X_1.side=X0.side)) (Z0 (decide (X_1.res=X0.res)) ([X_1.a0,X_1.a1]=q19/\[X_1.i0,X_1.i1]=q20/\Z0 q23 (Z0 q23 (Z0 q23 (C/\∀(i:Nat),i<=n->(∀(j:Nat),j<i->(fun (i:Nat)=>i<n) j)->(i=n->q2)/\(False->False)/\(False->False)) False) False) False) False) False) False) False) False) False) False) False) False) False) False) False) False) False) False) False)
 False)
 False)
 False)
 False)
 False)
 False)
 False)
 False))
 False)
 False))) (by kernel_rfl) ?_
 conv=>zeta
 try simp only [Zj]
 try simp only [Zl]
 try simp only [Zi]
 try simp only [Zm]
 try simp only [Zn]
 try simp only [Zh]
 try simp only [Int.toNat_natCast,Nat.zero_add,true_and,and_true,Nat.le_refl]
 simp only [UA]
 subst ht0
 have hnw:Z0C H X0 tW 0 50 600 400:=⟨h0,hok,hr⟩
 have hx:List.take m xs=xs:=by rw [<-hl,List.take_length]
 rw [hx]
 refine ⟨fun _=>trivial,fun hn=>⟨fun _=>trivial,fun hm=>⟨⟨hl,by omega,hb⟩,hR, ?_⟩⟩⟩
 refine ⟨fun _ _=>trivial,Y,.a rfl,hI,hf, ?_⟩
 rw [hW]
 repeat' first
  | trivial
  | (refine ⟨fun h=>absurd h (by simp),fun _=> ?_⟩)
  | (refine ⟨X0,hnw,X0,hnw, ?_⟩)
  | apply And.intro
  | rfl
  | omega
 all_goals subst h0
 all_goals repeat' first
  | exact hC (by omega)
  | trivial
  | rfl
  | exact Zo fun _ _=>rfl
  | exact Nat.le_refl 0
  | (intro i hi hg;refine ⟨fun _=> ?_,fun h=>h,fun h=>h⟩)
  | apply And.intro
theorem ZlV (W:Int->List Int) (F:List Int->Int×Int) (H:List Int->List Int) (SB:Z8->Z8->Bool) (t:ZV) (X0:Z8) (A:List Yq) (n m:Nat) (xs:List Int) (C:Prop) (ht0:t=tW) (h0:X0=U1 tW 1 50 600 400) (hok:X0.t.Ok) (hr:Yb H X0=true) (hl:xs.length=m) (hb:Bytes xs) (hR:Z0A F H xs none) (hC:n<=60->C):
  evF (Z7x W F H SB none t 1 X0 A n C) 20 4 [.int .i64 1,.vrows 41 n (W9 A) n,.vints .u8 xs m] ⟨0,[]⟩ (Yo fun v=>v=.bool true):=by
 refine @Eq.mpr _ (let q1:=AV.bool true=AV.bool true;let q2:=[(0:Int),0,0,0,0,0,0,0,0,0,0,0,0,0,0,0,0,0,0,0,0,0,0,0,0,0,0,0,0,0,0];let q3:=(1:Int)::q2;let q4:=(2:Int)::q2;let q5:=decide (n=n);let q6:=X0.t;let q7:=q6.fund;let q8:=q6.index;let q9:=q6.cap;let q10:=q6.dust;let q11:=q6.fee;let q12:=q6.delay;let q13:=q6.k0;let q14:=q6.k1;let q15:=[X0.a0,X0.a1];let q16:=[X0.i0,X0.i1];let q17:=List.length X0.L;let q18:=decide (0=q17);let q19:=decide (q17=0);
 Z0 (decide ((↑n:Int)>60)) q1
 (Z0 (decide ((↑m:Int)>2500)) q1
 ((List.length xs=m/\m<90000000000000/\Bytes xs)/\
 Z0A F H xs none/\
 ∃(X:Z8),
 let q39:=ZV.mk Zf 0 1000 10 5 3 q3 q4;let q40:=X.t;
 Z0C H X q39 1 50 600 400/\
 ∃(X_1:Z8),
 let q43:=X_1.t;
 Z0C H X_1 q39 1 50 600 400/\
 Z0 q5
 (W9 A=W9 A/\
 Z0 q5
 (Zf=t.fund/\
 Z0 (decide (0=t.index))
 (Z0 (decide (1000=t.cap))
 (Z0 (decide (10=t.dust))
 (Z0 (decide (5=t.fee))
 (Z0 (decide (3=t.delay))
 (q3=t.k0/\
 q4=t.k1/\
 q40.fund=q7/\
 Z0 (decide (q40.index=q8))
 (Z0 (decide (q40.cap=q9)) (Z0 (decide (q40.dust=q10)) (Z0 (decide (q40.fee=q11)) (Z0 (decide (q40.delay=q12)) (q40.k0=q13/\q40.k1=q14/\Z0 (decide (X.side=X0.side)) (Z0 (decide (X.res=X0.res)) ([X.a0,X.a1]=q15/\[X.i0,X.i1]=q16/\Z0 q18 (Z0 (decide (q17<=0)) (Z0 q18 (Zb 0 [(2,3),(0,1),(3,4),(1,2)] q17 (Z6 X0.L) (Z6 [])/\q43.fund=q7/\Z0 (decide (q43.index=q8)) (Z0 (decide (q43.cap=q9)) (Z0 (decide (q43.dust=q10)) (Z0 (decide (q43.fee=q11)) (Z0 (decide (q43.delay=q12)) (q43.k0=q13/\q43.k1=q14/\Z0 (decide (X_1.side=X0.side)) (Z0 (decide (X_1.res=X0.res)) ([X_1.a0,X_1.a1]=q15/\[X_1.i0,X_1.i1]=q16/\Z0 q19 (Z0 q19 (Z0 q19 (C/\∀(i:Nat),i<=n->(∀(j:Nat),j<i->(fun (i:Nat)=>i<n) j)->(i=n->q1)/\(False->False)/\(False->False)) False) False) False) False) False) False) False) False) False) False) False) False) False) False) False) False) False) False) False)
 False)
 False)
 False)
 False)
 False)
 False)
 False)
 False))) (by kernel_rfl) ?_
 conv=>zeta
 try simp only [Zj]
 try simp only [Zl]
 try simp only [Zi]
 try simp only [Zm]
 try simp only [Zn]
 try simp only [Zh]
 try simp only [Int.toNat_natCast,Nat.zero_add,true_and,and_true,Nat.le_refl]
 subst ht0
 have hnw:Z0C H X0 tW 1 50 600 400:=⟨h0,hok,hr⟩
 refine ⟨fun _=>trivial,fun hn=>⟨fun _=>trivial,fun hm=>⟨⟨hl,by omega,hb⟩,hR,X0,hnw,X0,hnw, ?_⟩⟩⟩
 subst h0
 repeat' first
  | exact hC (by omega)
  | trivial
  | rfl
  | exact Zo fun _ _=>rfl
  | exact Nat.le_refl 0
  | (intro i hi hg;refine ⟨fun _=> ?_,fun h=>h,fun h=>h⟩)
  | apply And.intro
theorem ZlW (W:Int->List Int) (F:List Int->Int×Int) (H:List Int->List Int) (SB:Z8->Z8->Bool) (t:ZV) (X0 Y:Z8) (A:List Yq) (n m:Nat) (xs:List Int) (C:Prop) (ht0:t=tW) (h0:X0=U1 tW 1 50 600 400) (hok:X0.t.Ok) (hr:Yb H X0=true) (hl:xs.length=m) (hb:Bytes xs) (hR:Z0A F H xs (some Y)) (hI:Y.Inv Zs) (hf:Y.t.fund.length=32) (hW:YM W Y=xs) (hC:n<=60->C):
  evF (Z7x W F H SB (some Y) t 1 X0 A n C) 20 4 [.int .i64 1,.vrows 41 n (W9 A) n,.vints .u8 xs m] ⟨0,[]⟩ (Yo fun v=>v=.bool true):=by
 refine @Eq.mpr _ (let q1:=AV.bool true;let q2:=q1=q1;let q3:=List.length Y.L;let q4:=Y.t;let q5:=strOf (List.take m xs);let q6:=[(0:Int),0,0,0,0,0,0,0,0,0,0,0,0,0,0,0,0,0,0,0,0,0,0,0,0,0,0,0,0,0,0];let q7:=(1:Int)::q6;let q8:=(2:Int)::q6;let q9:=decide (n=n);let q10:=X0.t;let q11:=q10.fund;let q12:=q10.index;let q13:=q10.cap;let q14:=q10.dust;let q15:=q10.fee;let q16:=q10.delay;let q17:=q10.k0;let q18:=q10.k1;let q19:=[X0.a0,X0.a1];let q20:=[X0.i0,X0.i1];let q21:=List.length X0.L;let q22:=decide (0=q21);let q23:=decide (q21=0);
 Z0 (decide ((↑n:Int)>60)) q2
 (Z0 (decide ((↑m:Int)>2500)) q2
 ((List.length xs=m/\m<90000000000000/\Bytes xs)/\
 Z0A F H xs (some Y)/\
 Z0 (decide (0+q3<=q3))
 ((∀(i:Nat),i<q3->true=true)/\
 ∃(X:Z8),
 let q47:=List.length (YM W X);
 LV [AV.arr u8 32 q4.fund,AV.int i64 q4.index,AV.int i64 q4.cap,AV.int i64 q4.dust,AV.int i64 q4.fee,AV.int i64 q4.delay,AV.arr u8 32 q4.k0,AV.arr u8 32 q4.k1,AV.int i64 Y.side,AV.int i64 Y.res,AV.arr i64 2 [Y.a0,Y.a1],AV.arr i64 2 [Y.i0,Y.i1],AV.vrows 70 q3 (ZT 0 (Z6 Y.L)) q3] X/\
 Z8.Inv Zs X/\
 List.length X.t.fund=32/\
 q5=q5/\
 Z0 (decide (u8=u8/\0+q47<=q47))
 (Z0 (!ByteArray.toList (strOf (List.take q47 (YH 0 (YM W X))))==ByteArray.toList q5) (AV.bool false=q1)
 (∃(X:Z8),
 let q49:=ZV.mk Zf 0 1000 10 5 3 q7 q8;let q50:=X.t;
 Z0C H X q49 1 50 600 400/\
 ∃(X_1:Z8),
 let q53:=X_1.t;
 Z0C H X_1 q49 1 50 600 400/\
 Z0 q9
 (W9 A=W9 A/\
 Z0 q9
 (Zf=t.fund/\
 Z0 (decide (0=t.index))
 (Z0 (decide (1000=t.cap))
 (Z0 (decide (10=t.dust))
 (Z0 (decide (5=t.fee))
 (Z0 (decide (3=t.delay))
 (q7=t.k0/\
 q8=t.k1/\
 q50.fund=q11/\
 Z0 (decide (q50.index=q12))
 (Z0 (decide (q50.cap=q13)) (Z0 (decide (q50.dust=q14)) (Z0 (decide (q50.fee=q15)) (Z0 (decide (q50.delay=q16)) (q50.k0=q17/\q50.k1=q18/\Z0 (decide (X.side=X0.side)) (Z0 (decide (X.res=X0.res)) ([X.a0,X.a1]=q19/\[X.i0,X.i1]=q20/\Z0 q22 (Z0 (decide (q21<=0)) (Z0 q22 (Zb 0 [(2,6),(0,4),(3,7),(1,5)] q21 (Z6 X0.L) (Z6 [])/\q53.fund=q11/\Z0 (decide (q53.index=q12)) (Z0 (decide (q53.cap=q13)) (Z0 (decide (q53.dust=q14)) (Z0 (decide (q53.fee=q15)) (Z0 (decide (q53.delay=q16)) (q53.k0=q17/\q53.k1=q18/\Z0 (decide (X_1.side=X0.side)) (Z0 (decide (X_1.res=X0.res)) ([X_1.a0,X_1.a1]=q19/\[X_1.i0,X_1.i1]=q20/\Z0 q23 (Z0 q23 (Z0 q23 (C/\∀(i:Nat),i<=n->(∀(j:Nat),j<i->(fun (i:Nat)=>i<n) j)->(i=n->q2)/\(False->False)/\(False->False)) False) False) False) False) False) False) False) False) False) False) False) False) False) False) False) False) False) False) False)
 False)
 False)
 False)
 False)
 False)
 False)
 False)
 False))
 False)
 False))) (by kernel_rfl) ?_
 conv=>zeta
 try simp only [Zj]
 try simp only [Zl]
 try simp only [Zi]
 try simp only [Zm]
 try simp only [Zn]
 try simp only [Zh]
 try simp only [Int.toNat_natCast,Nat.zero_add,true_and,and_true,Nat.le_refl]
 simp only [UA]
 subst ht0
 have hnw:Z0C H X0 tW 1 50 600 400:=⟨h0,hok,hr⟩
 have hx:List.take m xs=xs:=by rw [<-hl,List.take_length]
 rw [hx]
 refine ⟨fun _=>trivial,fun hn=>⟨fun _=>trivial,fun hm=>⟨⟨hl,by omega,hb⟩,hR, ?_⟩⟩⟩
 refine ⟨fun _ _=>trivial,Y,.a rfl,hI,hf, ?_⟩
 rw [hW]
 repeat' first
  | trivial
  | (refine ⟨fun h=>absurd h (by simp),fun _=> ?_⟩)
  | (refine ⟨X0,hnw,X0,hnw, ?_⟩)
  | apply And.intro
  | rfl
  | omega
 all_goals subst h0
 all_goals repeat' first
  | exact hC (by omega)
  | trivial
  | rfl
  | exact Zo fun _ _=>rfl
  | exact Nat.le_refl 0
  | (intro i hi hg;refine ⟨fun _=> ?_,fun h=>h,fun h=>h⟩)
  | apply And.intro
noncomputable def Zii:Zg:=(((G0.withF 7 nF).withF 14 nF).withP 5 Zhm).withF 15 nF
theorem Zfa:Zii.Ok:=Zg.withF_ok (Zg.withP_ok (Zg.withF_ok (Zg.withF_ok Zv Z3N) Z3N) Zaq) Z3N
theorem Znb (sd:Int) (A:List Yq) (n m:Nat) (xs:List Int) (h0:sd≠0) (h1:sd≠1):
  evF Zii 20 4 [.int .i64 sd,.vrows 41 n (W9 A) n,.vints .u8 xs m] ⟨0,[]⟩ (Yo fun v=>v=.bool true):=by
 refine @Eq.mpr _ (let q1:=AV.bool true=AV.bool true;let q2:=Z0 (decide ((↑n:Int)>60)) q1 (Z0 (decide ((↑m:Int)>2500)) q1 False);
 Z0 (sd !=0) (Z0 (sd !=1) q1 q2) q2) (by kernel_rfl) ?_
 conv=>zeta
 try simp only [Zj]
 try simp only [Zl]
 try simp only [Zi]
 try simp only [Zm]
 try simp only [Zn]
 try simp only [Zh]
 try simp only [Int.toNat_natCast,Nat.zero_add,true_and,and_true,Nat.le_refl]
 have e0:(sd !=0)=true:=by simp [h0]
 have e1:(sd !=1)=true:=by simp [h1]
 refine ⟨fun _=>⟨fun _=>trivial,fun h=> ?_⟩,fun h=> ?_⟩
 ·rw [e1] at h;cases h
 ·rw [e0] at h;cases h
end Go.Tk
end
section
namespace Go.Tk
open IntKind (i64 u8 u32 u64 wrap)
theorem Z94 {a:AV} (h:Z3f false [.ints .u8] a):∃(xs:List Int) (n:Nat),a=.vints .u8 xs n/\xs.length=n/\Bytes xs:=by
 cases h with|one _ _ h=>
 cases h
 rename_i xs n w l m
 exact ⟨xs,n,rfl,w,Z6H w m⟩
theorem Zat {xs:List Int} (hb:Bytes xs) {X:Z8} (h:Xp (Zq Zr) xs=some X):X.t.Ok/\(∀h∈X.L,h.Ok)/\X.t.fund.length=32:=by
 unfold Xp Z0z at h
 simp only [Option.bind_eq_some_iff] at h
 obtain ⟨hdr,⟨⟨v0,o0⟩,r0,⟨n5,o5⟩,k1,⟨v6,o6⟩,r6,⟨v7,o7⟩,r7,⟨v8,o8⟩,r8,⟨m5,o13⟩,k2,⟨v14,o14⟩,r14,he⟩,⟨L,p⟩,hL,hX⟩:=h
 cases he
 split at hX
 case isFalse=>cases hX
 cases hX
 have q0:=Z3I hb r0
 have q6:=Z3I hb r6
 have q7:=Z3I hb r7
 exact ⟨⟨q6.1,q7.1,q6.2,q7.2⟩,Zeh hb hL,q0.1⟩
theorem ledgerkeeps_walk {us:List AV} (h:Z4A [(false,[.int .i64]),(false,[.rows 41 actTy]),(false,[.ints .u8])] us):Zp PP 4 us ⟨0,[]⟩ fun o h'=>∃v,o=.ret v/\h'=⟨0,[]⟩/\v=.bool true:=by
 cases h with|cons _ _ a _ _ h1 h=>
 cases h with|cons _ _ b _ _ h2 h=>
 cases h with|cons _ _ c _ _ h3 h=>
 cases h
 obtain ⟨sd,rfl⟩:=fits_int h1
 obtain ⟨n,A,hn,hA,hrA⟩:=ZbI h2
 obtain ⟨xs,m,rfl,hm,hb⟩:=Z94 h3
 have hbz:Bytes tW.fund:=Qa (by decide)
 have main:∀s:Int,(s=0\/s=1)->Yb Zs (U1 tW s 50 600 400)=true/\(U1 tW s 50 600 400).Inv Zs/\(n<=60->ZlS tW s (U1 tW s 50 600 400) A n):=fun s hs=>by
  have hr:Yb Zs (U1 tW s 50 600 400)=true:=Z4V.2 ⟨by decide,by omega,by decide,by decide,by decide,by decide⟩
  have hI:(U1 tW s 50 600 400).Inv Zs:=(Z24 Z7r (fun h hh=>by cases hh)).1 hr
  exact ⟨hr,hI,fun h60=>⟨⟨h60,hn,hI,rfl,hA⟩,rfl,rfl,hs,rfl,rfl,hbz⟩⟩
 by_cases h0:sd=0
 ·subst h0
  obtain ⟨hr,hI,hC⟩:=main 0 (.inl rfl)
  by_cases hc:∃X,Xp (Zq Zr) xs=some X/\Yb Zs X=true
  ·obtain ⟨X,e1,e2⟩:=hc
   obtain ⟨ht,hok,hf⟩:=Zat hb e1
   exact (Y7 (h:=⟨0,[]⟩) (Z0E (some X) _ _ _ A n) rfl (ZlU Zr (Zq Zr) Zs UM tW _ X A n m xs _ rfl rfl Z7r hr hm hb ⟨⟨e1,e2⟩⟩ ((Z24 ht hok).1 e2) hf (Z3J hb e1) hC) (fun u hu=>hu)).conv fun E r hr0=>hr0.head (fun _ hc=>hc) fun _ hc=>hc.head (fun _ hc=>hrA E _ hc) fun _ hc=>hc
  ·exact (Y7 (h:=⟨0,[]⟩) (Z0E none _ _ _ A n) rfl (ZlT Zr (Zq Zr) Zs UM tW _ A n m xs _ rfl rfl Z7r hr hm hb ⟨fun X hX=>Bool.eq_false_iff.2 fun hR=>hc ⟨X,hX,hR⟩⟩ hC) (fun u hu=>hu)).conv fun E r hr0=>hr0.head (fun _ hc=>hc) fun _ hc=>hc.head (fun _ hc=>hrA E _ hc) fun _ hc=>hc
 by_cases h1:sd=1
 ·subst h1
  obtain ⟨hr,hI,hC⟩:=main 1 (.inr rfl)
  by_cases hc:∃X,Xp (Zq Zr) xs=some X/\Yb Zs X=true
  ·obtain ⟨X,e1,e2⟩:=hc
   obtain ⟨ht,hok,hf⟩:=Zat hb e1
   exact (Y7 (h:=⟨0,[]⟩) (Z0E (some X) _ _ _ A n) rfl (ZlW Zr (Zq Zr) Zs UM tW _ X A n m xs _ rfl rfl Z7r hr hm hb ⟨⟨e1,e2⟩⟩ ((Z24 ht hok).1 e2) hf (Z3J hb e1) hC) (fun u hu=>hu)).conv fun E r hr0=>hr0.head (fun _ hc=>hc) fun _ hc=>hc.head (fun _ hc=>hrA E _ hc) fun _ hc=>hc
  ·exact (Y7 (h:=⟨0,[]⟩) (Z0E none _ _ _ A n) rfl (ZlV Zr (Zq Zr) Zs UM tW _ A n m xs _ rfl rfl Z7r hr hm hb ⟨fun X hX=>Bool.eq_false_iff.2 fun hR=>hc ⟨X,hX,hR⟩⟩ hC) (fun u hu=>hu)).conv fun E r hr0=>hr0.head (fun _ hc=>hc) fun _ hc=>hc.head (fun _ hc=>hrA E _ hc) fun _ hc=>hc
 ·exact (Y7 (h:=⟨0,[]⟩) Zfa rfl (Znb sd A n m xs h0 h1) (fun u hu=>hu)).conv fun E r hr0=>hr0.head (fun _ hc=>hc) fun _ hc=>hc.head (fun _ hc=>hrA E _ hc) fun _ hc=>hc
end Go.Tk
namespace Go.Proofs.YtpfaahkmphnliaaGreat.ledgerKeeps
open Go.ChangeShapes Go.WideShapes Go.ChangeAt Go.RowKit
theorem own:ownKnob Tryz.prog.godebug=none:=by kernel_rfl
theorem laidOut:laidOutB Tryz.prog=true:=by kernel_rfl
theorem lifted (os:Os) (started:os.Started) (H:Type) (enc:TypeId×Value->H):
  ReturnsInHanded {} Tryz.checked os 4 .any (Rows.ledgerKeepsSpec.pre6 enc Tryz.prog Tryz.f4 Rows.ledgerKeepsRow.domain false) (Rows.ledgerKeepsSpec.post enc Tryz.prog Tryz.f4 false true false false):=
 Go.Tk.lifted_gen (C:=Tryz.checked) (m:=8) (τs:=[(false,[.int .i64]),(false,[.rows 41 Go.Tk.actTy]),(false,[.ints .u8])]) own laidOut started (by kernel_rfl) Tryz.func4
  (ChangeSpec.witness6 (enc:=enc) (C:=Tryz.checked) false ⟨#[], #[.int .i64 0,.slice none 0 0,.slice none 0 0],[]⟩ 8 (by kernel_rfl) (by kernel_rfl) (by kernel_rfl) (by kernel_rfl))
  rfl (tb:=4) rfl Tryz.underlying4 (by kernel_rfl) (by kernel_rfl) (fun ds h=>by
   match ds,h with
   | [a,b,c],_=>rfl) fun us h=>Go.Tk.ledgerkeeps_walk h
theorem ZjC:Tryz.pinned.checked.prog.funcNamed Rows.ledgerKeepsRow.func=some 4:=by kernel_rfl
theorem closed:joinedFacts Tryz.pinned.checked.prog 4 Tryz.f4 Rows.ledgerKeepsSpec Rows.ledgerKeepsRow=true:=by
 unfold joinedFacts
 repeat' with_reducible refine Go.Tk.and_mk ?_ ?_
 all_goals as_aux_lemma=>kernel_rfl
theorem over:Rows.ledgerKeepsRow.holds Tryz.pinned (OpenSpec.ofChange Rows.ledgerKeepsSpec):=
 OpenClaim.holds_of_wide 4 Tryz.f4 rfl rfl rfl rfl rfl rfl rfl ⟨rfl,rfl,rfl,rfl,rfl⟩ rfl rfl rfl rfl rfl ZjC Tryz.func4 closed
  (of_decide_eq_true (by kernel_rfl)) (by unfold Func.isWrapper;first|(rw [if_pos (by decide+kernel)];kernel_rfl)|(rw [if_neg (by decide+kernel)];exact ⟨rfl,rfl⟩))
  (fun os started H enc _=>lifted os started H enc)
theorem proved:Rows.LedgerKeepsSaid:=over
end Go.Proofs.YtpfaahkmphnliaaGreat.ledgerKeeps
end
