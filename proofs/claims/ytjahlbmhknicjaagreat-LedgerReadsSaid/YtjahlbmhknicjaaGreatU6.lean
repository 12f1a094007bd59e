/- U: part 6 of an engine (a symbolic evaluator, proved against the model) and of the walk by it. -/
import Derived.Test.YtjahlbmhknicjaaGreatU5
import Derived.Test.YtjahlbmhknicjaaGreatRows
import Derived.ChangeOld
set_option linter.unusedVariables false
set_option linter.unusedSimpArgs false
set_option maxRecDepth 100000
set_option maxHeartbeats 0
section
namespace Go.Tk
open IntKind (i64 u8 u32 u64 wrap)
def slB (b n:Nat):AV:=.nslice ⟨b,0,0,0,0⟩ 1 n n
noncomputable def Zgk (W:Int→List Int):Zd:=G0.withF 123 (Z6M W)
theorem ZcQ:(Zgk Zn).Ok:=Zd.withF_ok Zu Z4l
theorem Zgl (W:Int→List Int) (xs ys:List Int) (N L:Nat) (n:Int) (hN:xs.length=N) (hB:N<80000000000000) (hW:W=Zn) (hn:0≤n) (hy:ys=xs++W n) (hL:L=ys.length):
  evF (Zgk W) 20 60 [slB 0 N,.int .i64 n] ⟨1,[(0,.ints .u8 xs)]⟩ (Ya 1 (.ret (slB 1 L)) 2 [(1,.ints .u8 ys)]):=by
 refine @Eq.mpr _ (let q1:=List.length (W n);
 let q2:=xs++List.take q1 (Y8 0 (W n));
 let q3:=List.length q2;
 Z0 (decide (0≤n)) (Z0 (decide (u8=u8∧0+q1≤q1)) (Z0 (decide (u8=u8∧List.length xs=N)) (Z0 (decide (q3*1≤140737488355328)) (Z0 (decide (q3=L)) (Z0 (decide (L≤q3)) (q2=ys∧True) False) False) False) False) False) False) (by kernel_rfl) ?_
 conv=>zeta
 try simp only [Zi]
 try simp only [Zj]
 try simp only [Zg]
 try simp only [Zk]
 try simp only [Zl]
 try simp only [Zh]
 try simp only [Int.toNat_natCast,Nat.zero_add,true_and,and_true,Nat.le_refl]
 subst hW hN hy hL
 have e:List.take (Zn n).length (Y8 0 (Zn n))=Zn n:=by rw [ZZ,List.drop_zero,List.take_length]
 have:=ZK n
 rw [e]
 simp only [List.length_append]
 repeat' apply And.intro
 all_goals first|trivial|omega|rfl
theorem Zgm (xs hh ys:List Int) (N L:Nat) (hN:xs.length=N) (hB:N<80000000000000) (hl:hh.length=32) (hy:ys=xs++hh) (hL:L=ys.length):
  evF G0 20 61 [slB 0 N,.agg [.arr .u8 32 hh]] ⟨1,[(0,.ints .u8 xs)]⟩ (Ya 1 (.ret (slB 1 L)) 2 [(1,.ints .u8 ys)]):=by
 refine @Eq.mpr _ (let q1:=xs++hh;
 let q2:=List.length q1;
 Z0 (decide (u8=u8∧List.length hh=32)) (Z0 (decide (u8=u8∧List.length xs=N)) (Z0 (decide (q2*1≤140737488355328)) (Z0 (decide (q2=L)) (Z0 (decide (L≤q2)) (q1=ys∧True) False) False) False) False) False) (by kernel_rfl) ?_
 conv=>zeta
 try simp only [Zi]
 try simp only [Zj]
 try simp only [Zg]
 try simp only [Zk]
 try simp only [Zl]
 try simp only [Zh]
 try simp only [Int.toNat_natCast,Nat.zero_add,true_and,and_true,Nat.le_refl]
 subst hN hy hL
 simp only [List.length_append]
 repeat' apply And.intro
 all_goals first|trivial|omega|rfl
theorem Zgn (hh:List Int) (hl:hh.length=32):
  evF G0 20 61 [.nilslice,.agg [.arr .u8 32 hh]] ⟨0,[]⟩ (Ya 0 (.ret (slB 0 32)) 1 [(0,.ints .u8 hh)]):=by
 refine @Eq.mpr _ (let q1:=[]++hh;
 let q2:=List.length q1;
 Z0 (decide (u8=u8∧List.length hh=32)) (Z0 (decide (q2*1≤140737488355328)) (Z0 (decide (q2=32)) (Z0 (decide (32≤q2)) (q1=hh∧True) False) False) False) False) (by kernel_rfl) ?_
 conv=>zeta
 try simp only [Zi]
 try simp only [Zj]
 try simp only [Zg]
 try simp only [Zk]
 try simp only [Zl]
 try simp only [Zh]
 try simp only [Int.toNat_natCast,Nat.zero_add,true_and,and_true,Nat.le_refl]
 simp only [List.nil_append]
 repeat' apply And.intro
 all_goals first|trivial|omega|rfl
def Zgo (h:Z6) (b:Nat) (ys:List Int):Z6:=⟨h.next+1,(h.next,.ints .u8 ys)::YT h.bs b⟩
def ZeU (W:Int→List Int) (B:Nat):Yn:=fun args h K=>match args with
 | [.nslice ⟨b,0,0,0,0⟩ 1 _ _,_]=>frA [b] h 20 args fun Bs a=>match Bs,a with
  | [.ints .u8 xs],[.nslice ⟨0,0,0,0,0⟩ 1 N M,.int .i64 n]=>Zt (xs.length=N∧M=N∧N<B∧0≤n) (K (.ret (slB h.next (xs++W n).length)) (Zgo h b (xs++W n)))
  | _,_=>False
 | _=>False
theorem ZcR (args:List AV) (h:Z6) (K:KO) (hl:ZeU Zn 80000000000000 args h K):Zm PP 60 args h K:=by
 unfold ZeU at hl
 split at hl
 ·refine Spec.fsumm hl fun Bs a hlen hK0=> ?_
  split at hK0
  ·obtain ⟨⟨h1,rfl,h2,h3⟩,hK⟩:=Z8 hK0
   exact ⟨_,_,_,_,_,.evM ZcQ (Zgl _ _ _ _ _ _ h1 h2 rfl h3 rfl rfl),by simp,.ret _ _ rfl,.cons _ _ _ _ _ _ rfl (.ints _ _) .nil,hK⟩
  ·exact hK0.elim
 ·exact hl.elim
def Zb5 (B:Nat):Yn:=fun args h K=>match args with
 | [.nslice ⟨b,0,0,0,0⟩ 1 _ _,_]=>frA [b] h 20 args fun Bs a=>match Bs,a with
  | [.ints .u8 xs],[.nslice ⟨0,0,0,0,0⟩ 1 N M,.agg [.arr .u8 32 hh]]=>Zt (xs.length=N∧M=N∧N<B∧hh.length=32) (K (.ret (slB h.next (xs++hh).length)) (Zgo h b (xs++hh)))
  | _,_=>False
 | [.nilslice,_]=>frA [] h 20 args fun Bs a=>match Bs,a with
  | [],[.nilslice,.agg [.arr .u8 32 hh]]=>Zt (hh.length=32) (K (.ret (slB h.next 32)) ⟨h.next+1,(h.next,.ints .u8 hh)::h.bs⟩)
  | _,_=>False
 | _=>False
theorem Zb6 (args:List AV) (h:Z6) (K:KO) (hl:Zb5 80000000000000 args h K):Zm PP 61 args h K:=by
 unfold Zb5 at hl
 split at hl
 ·refine Spec.fsumm hl fun Bs a hlen hK0=> ?_
  split at hK0
  ·obtain ⟨⟨h1,rfl,h2,h3⟩,hK⟩:=Z8 hK0
   exact ⟨_,_,_,_,_,.evM Zu (Zgm _ _ _ _ _ h1 h2 h3 rfl rfl),by simp,.ret _ _ rfl,.cons _ _ _ _ _ _ rfl (.ints _ _) .nil,hK⟩
  ·exact hK0.elim
 ·refine Spec.fsumm hl fun Bs a hlen hK0=> ?_
  split at hK0
  ·obtain ⟨h3,hK⟩:=Z8 hK0
   exact ⟨_,_,_,_,_,.evM Zu (Zgn _ h3),Nat.zero_le _,.ret _ _ rfl,.cons _ _ _ _ _ _ rfl (.ints _ _) .nil,hK⟩
  ·exact hK0.elim
 ·exact hl.elim
theorem Zgp (b:Bool) (ys:List Int) (hy:ys=[cond b 1 0]):
  evF G0 20 62 [.bool b] ⟨0,[]⟩ (Ya 0 (.ret (slB 0 1)) 1 [(0,.ints .u8 ys)]):=by
 refine @Eq.mpr _ (Z0 b ([(1:Int)]=ys∧True) ([(0:Int)]=ys∧True)) (by kernel_rfl) ?_
 try simp only [Zi]
 try simp only [Zj]
 try simp only [Zg]
 try simp only [Zk]
 try simp only [Zl]
 try simp only [Zh]
 try simp only [Int.toNat_natCast,Nat.zero_add,true_and,and_true,Nat.le_refl]
 subst hy
 cases b<;>simp
def Z6f:Yn:=fun args h K=>match args with
 | [.bool b]=>K (.ret (slB h.next 1)) ⟨h.next+1,(h.next,.ints .u8 [cond b 1 0])::h.bs⟩
 | _=>False
theorem Z8z (args:List AV) (h:Z6) (K:KO) (hl:Z6f args h K):Zm PP 62 args h K:=by
 unfold Z6f at hl
 split at hl
 ·exact (Zy.evM Zu (Zgp _ _ rfl)).calls (fun E w rs he hr=>by
   cases hr with
   | cons v r vs rs h1 h2=>cases h2;exact .cons _ _ _ _ (h1.plain rfl) .nil) rfl ⟨Nat.one_pos,.ints _ _,trivial⟩ hl
 ·exact hl.elim
noncomputable def Z7j (W:Int→List Int) (B:Nat):Zd:=((G0.withF 60 (ZeU W B)).withF 61 (Zb5 B)).withF 62 Z6f
theorem Zb7:(Z7j Zn 80000000000000).Ok:=Zd.withF_ok (Zd.withF_ok (Zd.withF_ok Zu ZcR) Zb6) Z8z
def Z8A (X:Za) (i N:Nat) (xs:List Int):St:=⟨113,[(4,.int .i64 i),(1,.ptr (some ⟨0,0,0,0,0⟩)),(3,slB 1 N)],⟨2,[(0,.flat (X.c (.vrows 70 X.L.length (Zf X.L) X.L.length))),(1,.ints .u8 xs)]⟩,[]⟩
def Z4N (N:Nat) (xs:List Int):St:=⟨113,[(3,slB 0 N)],⟨1,[(0,.ints .u8 xs)]⟩,[]⟩
theorem Zgq (X:Za) (n i N N1 B:Nat) (xs ys:List Int) (x:Z9) (W:Int→List Int) (T:Int) (Z1 Z2:Prop) (hn:n<1000) (hL:X.L.length=n) (hi:i≤n) (hx:i<n→X.L.getD i Zo=x) (hN:xs.length=N) (hB:i<n→N+1000<B) (hB2:B≤80000000000000) (hW:W=Zn) (hr:i<n→ZcB T x) (hk:i<n→x.Ok) (hy:i<n→ys=Z1Y W xs x) (hN1:i<n→N1=ys.length) (hZ1:i<n→Z1) (hZ2:i=n→Z2):
  ZD (Z7j W B) 20 20 0 0 (Z8A X i N xs) (rdM 0 0 9 (Z8A X (i+1) N1 ys) (Z4N N xs) (Z4N N xs) (Z4N N xs) Z1 Z2 False False):=by
 refine @Eq.mpr _ (let q1:=X.L;
 let q2:=List.length q1;
 let q3:=List.getD q1 (Int.toNat (↑i:Int)) Zo;
 let q4:=xs++[bif q3.own then 1 else 0];
 let q5:=List.length q4;
 let q6:=q3.id;
 let q7:=q3.fin;
 let q8:=decide (q7=q7);
 let q9:=q3.stage;
 let q10:=decide (q9=q9);
 let q11:=q3.expiry;
 let q12:=decide (q11=q11);
 let q13:=q3.hash;
 let q14:=q13=q13;
 let q15:=q3.amount;
 let q16:=q4++W q6;
 let q17:=List.length q16;
 let q18:=q16++W q15;
 let q19:=List.length q18;
 let q20:=q18++q13;
 let q21:=List.length q20;
 let q22:=q20++W q11;
 let q23:=List.length q22;
 let q24:=q22++W q9;
 let q25:=List.length q24;
 let q26:=q24++W q7;
 let q27:=List.length q26;
 let q28:=q3.secret;
 let q29:=decide (wrap i64 ((↑i:Int)+1)=(↑(i+1):Int));
 let q30:=q26++q28;
 let q31:=List.length q30;
 let q32:=X.t;
 let q33:=q32.fund;
 let q34:=q33=q33;
 let q35:=q32.index;
 let q36:=decide (q35=q35);
 let q37:=q32.cap;
 let q38:=decide (q37=q37);
 let q39:=q32.dust;
 let q40:=decide (q39=q39);
 let q41:=q32.fee;
 let q42:=decide (q41=q41);
 let q43:=q32.delay;
 let q44:=decide (q43=q43);
 let q45:=q32.k0;
 let q46:=q45=q45;
 let q47:=q32.k1;
 let q48:=q47=q47;
 let q49:=decide (X.side=X.side);
 let q50:=decide (X.res=X.res);
 let q51:=[X.a0,X.a1];
 let q52:=q51=q51;
 let q53:=[X.i0,X.i1];
 let q54:=q53=q53;
 let q55:=decide (q2=q2);
 let q56:=Zf q1;
 let q57:=q56=q56;
 Z0 (decide ((↑i:Int)<(↑q2:Int)))
 (Z0 (decide (0≤(↑i:Int)∧(↑i:Int)<(↑q2:Int)))
 (Z0 (decide (u8=u8∧List.length xs=N))
 (Z0 (decide (q5*1≤140737488355328))
 (Z0 (decide (q5=q5∧q5=q5∧q5<B∧0≤q6))
 (Z0 q8
 (Z0 q10
 (Z0 q12
 (q14∧
 Z0 (decide (q15=q15))
 (Z0 (decide (q17=q17∧q17=q17∧q17<B∧0≤q15))
 (Z0 q8
 (Z0 q10
 (Z0 q12
 (q14∧
 Z0 (decide (q19=q19∧q19=q19∧q19<B∧List.length q13=32))
 (Z0 q8 (Z0 q10 (Z0 q12 (Z0 (decide (q21=q21∧q21=q21∧q21<B∧0≤q11)) (Z0 q8 (Z0 q10 (Z0 (decide (q23=q23∧q23=q23∧q23<B∧0≤q9)) (Z0 q8 (Z0 (decide (q25=q25∧q25=q25∧q25<B∧0≤q7)) (Z0 (q7==1) (Z0 (decide (q27=q27∧q27=q27∧q27<B∧List.length q28=32)) (Z0 q29 (Z0 (decide (q31=N1)) (Z0 (decide (N1≤q31)) (q34∧Z0 q36 (Z0 q38 (Z0 q40 (Z0 q42 (Z0 q44 (q46∧q48∧Z0 q49 (Z0 q50 (q52∧q54∧Z0 q55 (q57∧Z0 q55 (q30=ys∧Z1) False) False) False) False) False) False) False) False) False) False) False) False) False) (Z0 q29 (Z0 (decide (q27=N1)) (Z0 (decide (N1≤q27)) (q34∧Z0 q36 (Z0 q38 (Z0 q40 (Z0 q42 (Z0 q44 (q46∧q48∧Z0 q49 (Z0 q50 (q52∧q54∧Z0 q55 (q57∧Z0 q55 (q26=ys∧Z1) False) False) False) False) False) False) False) False) False) False) False) False)) False) False) False) False) False) False) False) False) False) False)
 False)
 False)
 False)
 False)
 False)
 False)
 False)
 False)
 False)
 False)
 False)
 False)
 (Z0 (decide (N=N)) (Z0 (decide (N≤N)) (xs=xs∧Z2) False) False)) (by kernel_rfl) ?_
 conv=>zeta
 try simp only [Zi]
 try simp only [Zj]
 try simp only [Zg]
 try simp only [Zk]
 try simp only [Zl]
 try simp only [Zh]
 try simp only [Int.toNat_natCast,Nat.zero_add,true_and,and_true,Nat.le_refl]
 subst hL
 refine ⟨fun hc=> ?_,fun hc=>hZ2 (by omega)⟩
 have hlt:i<X.L.length:=by omega
 rw [hx hlt]
 obtain ⟨⟨r1,_⟩,⟨r2,_⟩,⟨r3,_⟩,⟨r4,_⟩,r5,_⟩:=hr hlt
 have hk:=hk hlt
 have hB:=hB hlt
 have hy:=hy hlt
 have hN1:=hN1 hlt
 have hwr:i64.wrap ((i:Int)+1)=((i+1:Nat):Int):=by rw [w64 (by omega)];omega
 have k1:=hk.hash
 have k2:=hk.secret
 subst hW
 unfold Z1Y at hy
 simp only [Yc] at hy
 have l1:=ZK x.id
 have l2:=ZK x.amount
 have l3:=ZK x.expiry
 have l4:=ZK x.stage
 have l5:=ZK x.fin
 refine ⟨by omega,hN, ?_,⟨?_,r1⟩,⟨?_,r2⟩,⟨?_,k1⟩,⟨?_,r3⟩,⟨?_,r4⟩,⟨?_,r5⟩,fun hf=> ?_,fun hf=> ?_⟩
 case _|_|_|_|_|_|_=>simp only [List.length_append,List.length_cons,List.length_nil];omega
 ·have hf:x.fin=1:=by simpa using hf
  rw [if_pos hf] at hy
  rw [←hy,←hN1]
  refine ⟨⟨?_,k2⟩,hwr,rfl,Nat.le_refl _,rfl,hZ1 hlt⟩
  simp only [List.length_append,List.length_cons,List.length_nil];omega
 ·have hf:¬x.fin=1:=by simpa using hf
  rw [if_neg hf] at hy
  rw [←hy,←hN1]
  exact ⟨hwr,rfl,Nat.le_refl _,rfl,hZ1 hlt⟩
theorem Zgr (T:Int) (B:Nat) (X:Za) (n i:Nat) (hd:List Int) (hB2:B≤80000000000000) (hC:Z69 T B X n hd) (hi:i≤n):ZD (Z7j Zn B) 20 20 0 0 (Z8A X i (YI X hd i).length (YI X hd i)) (rdM 0 0 9 (Z8A X (i+1) (YI X hd (i+1)).length (YI X hd (i+1))) (Z4N (YI X hd i).length (YI X hd i)) (Z4N (YI X hd i).length (YI X hd i)) (Z4N (YI X hd i).length (YI X hd i)) (i<n∧i<n) (i=n) False False):=by
 obtain ⟨h1,h2,h3,h4,h5⟩:=id hC
 have hlt:i<n→i<X.L.length:=fun h=>by omega
 have hl:=Z1K (L:=X.L.take i) (fun z hz=>(h5 z (List.mem_of_mem_take hz)).2) hd
 have l0:(X.L.take i).length≤16:=by rw [List.length_take];omega
 refine Zgq X n i _ _ B _ _ (X.L.getD i Zo) Zn T (i<n∧i<n) (i=n) (by omega) h1 hi (fun _=>rfl) rfl (fun _=> ?_) hB2 rfl (fun h=>(h5 _ (Y0 (hlt h))).1) (fun h=>(h5 _ (Y0 (hlt h))).2) (fun h=> ?_) (fun _=>rfl) (fun h=>⟨h,h⟩) (fun h=>h)
 ·unfold YI;omega
 ·unfold YI
  rw [Z4H (hlt h),List.foldl_append];rfl
noncomputable def ZdB (W:Int→List Int) (B:Nat) (X:Za) (n N:Nat) (hd:List Int) (C:Prop) (E:Nat→St):Zd:=(Z7j W B).withL 20 0 (goM 0 (Z8A X 0 N hd) C (YR 0 n 9 (fun i=>i<n) (fun i=>i=n) (fun _=>False) (fun _=>False) E E E))
theorem Zb8 (X:Za) (n:Nat) (hd:List Int):(ZdB Zn 80000000000000 X n hd.length hd (Z69 4611686018427387904 80000000000000 X n hd) (fun i=>Z4N (YI X hd i).length (YI X hd i))).Ok:=
 Zd.withGoM (N:=20) (S:=fun i=>Z8A X i (YI X hd i).length (YI X hd i)) Zb7 (by kernel_rfl) fun hC=>⟨rfl,fun i hi _=>Zgr _ _ X n i hd (Nat.le_refl _) hC hi⟩
theorem Zgs (X:Za) (n N B l:Nat) (hd ys:List Int) (W:Int→List Int) (T:Int) (C:Prop) (XF:Nat→List Int) (hC:C) (hn:X.L.length=n) (hhd:hd=Wa W X) (hN:N=hd.length) (hy:ys=XF n) (hl:l=ys.length) (hf:X.t.fund.length=32) (h0:X.t.k0.length=32) (h1:X.t.k1.length=32) (hB:10000≤B) (hW:W=Zn) (hT:ZaP T X):
  evF (ZdB W B X n N hd C fun i=>Z4N (XF i).length (XF i)) 20 20 [Z3A X] ⟨0,[]⟩ (Ya 0 (.ret (slB 0 l)) 1 [(0,.ints .u8 ys)]):=by
 refine @Eq.mpr _ (let q1:=X.t;
 let q2:=q1.fund;
 let q3:=q1.delay;
 let q4:=decide (q3=q3);
 let q5:=q1.fee;
 let q6:=decide (q5=q5);
 let q7:=q1.dust;
 let q8:=decide (q7=q7);
 let q9:=q1.cap;
 let q10:=decide (q9=q9);
 let q11:=q1.index;
 let q12:=decide (q11=q11);
 let q13:=q2++W q11;
 let q14:=List.length q13;
 let q15:=q13++W q9;
 let q16:=List.length q15;
 let q17:=q15++W q7;
 let q18:=List.length q17;
 let q19:=q17++W q5;
 let q20:=List.length q19;
 let q21:=q19++W q3;
 let q22:=List.length q21;
 let q23:=q1.k0;
 let q24:=X.res;
 let q25:=decide (q24=q24);
 let q26:=X.side;
 let q27:=decide (q26=q26);
 let q28:=q1.k1;
 let q29:=q28=q28;
 let q30:=q21++q23;
 let q31:=List.length q30;
 let q32:=q30++q28;
 let q33:=List.length q32;
 let q34:=q32++W q26;
 let q35:=List.length q34;
 let q36:=q34++W q24;
 let q37:=List.length q36;
 let q38:=X.a0;
 let q39:=X.i1;
 let q40:=decide (q39=q39);
 let q41:=X.i0;
 let q42:=decide (q41=q41);
 let q43:=X.a1;
 let q44:=q36++W q38;
 let q45:=List.length q44;
 let q46:=q44++W q43;
 let q47:=List.length q46;
 let q48:=q46++W q41;
 let q49:=List.length q48;
 let q50:=q48++W q39;
 let q51:=List.length q50;
 let q52:=List.length X.L;
 let q53:=↑q52;
 let q54:=q50++W q53;
 let q55:=List.length q54;
 let q56:=[q38,q43];
 let q57:=[q41,q39];
 let q58:=decide (q52=q52);
 let q59:=Zf X.L;
 Z0 (decide (List.length q2=32))
 (Z0 q4
 (Z0 q6
 (Z0 q8
 (Z0 q10
 (Z0 q12
 (Z0 (decide (List.length q2=32∧(32:Nat)=32∧32<B∧0≤q11))
 (Z0 q4
 (Z0 q6
 (Z0 q8
 (Z0 q10
 (Z0 (decide (q14=q14∧q14=q14∧q14<B∧0≤q9))
 (Z0 q4
 (Z0 q6
 (Z0 q8
 (Z0 (decide (q16=q16∧q16=q16∧q16<B∧0≤q7))
 (Z0 q4
 (Z0 q6
 (Z0 (decide (q18=q18∧q18=q18∧q18<B∧0≤q5))
 (Z0 q4
 (Z0 (decide (q20=q20∧q20=q20∧q20<B∧0≤q3))
 (Z0 (decide (q22=q22∧q22=q22∧q22<B∧List.length q23=32))
 (Z0 q25
 (Z0 q27
 (q29∧
 Z0 (decide (q31=q31∧q31=q31∧q31<B∧List.length q28=32))
 (Z0 q25
 (Z0 q27
 (Z0 (decide (q33=q33∧q33=q33∧q33<B∧0≤q26))
 (Z0 q25
 (Z0 (decide (q35=q35∧q35=q35∧q35<B∧0≤q24))
 (Z0 (decide (q37=q37∧q37=q37∧q37<B∧0≤q38)) (Z0 q40 (Z0 q42 (Z0 (decide (q43=q43)) (Z0 (decide (q45=q45∧q45=q45∧q45<B∧0≤q43)) (Z0 q40 (Z0 q42 (Z0 (decide (q47=q47∧q47=q47∧q47<B∧0≤q41)) (Z0 q40 (Z0 (decide (q49=q49∧q49=q49∧q49<B∧0≤q39)) (Z0 (decide (q51=q51∧q51=q51∧q51<B∧0≤q53)) (Z0 (decide (q55=N)) (Z0 (decide (N≤q55)) (q2=q2∧Z0 q12 (Z0 q10 (Z0 q8 (Z0 q6 (Z0 q4 (q23=q23∧q29∧Z0 q27 (Z0 q25 (q56=q56∧q57=q57∧Z0 q58 (q59=q59∧Z0 q58 (q54=hd∧C∧∀(i:Nat),i≤n→(∀(j:Nat),j<i→(fun (i:Nat)=>i<n) j)→(i=n→Z0 (decide (List.length (XF i)=l)) (Z0 (decide (l≤List.length (XF i))) (XF i=ys∧True) False) False)∧(False→False)∧(False→False)) False) False) False) False) False) False) False) False) False) False) False) False) False) False) False) False) False) False) False) False) False) False) False)
 False)
 False)
 False)
 False)
 False)
 False)
 False)
 False)
 False)
 False)
 False)
 False)
 False)
 False)
 False)
 False)
 False)
 False)
 False)
 False)
 False)
 False)
 False)
 False)
 False)
 False)
 False)
 False)
 False) (by kernel_rfl) ?_
 conv=>zeta
 try simp only [Zi]
 try simp only [Zj]
 try simp only [Zg]
 try simp only [Zk]
 try simp only [Zl]
 try simp only [Zh]
 try simp only [Int.toNat_natCast,Nat.zero_add,true_and,and_true,Nat.le_refl]
 subst hy hN hW
 obtain ⟨⟨t1,_⟩,⟨t2,_⟩,⟨t3,_⟩,⟨t4,_⟩,⟨t5,_⟩,⟨t6,_⟩,⟨t7,_⟩,⟨t8,_⟩,⟨t9,_⟩,⟨t10,_⟩,⟨t11,_⟩,t12,_⟩:=hT
 have hlen:=Ua hf h0 h1
 rw [←hhd] at hlen
 simp only [Wa,Yc] at hhd
 rw [←hhd]
 rw [hhd] at hlen
 simp only [List.length_append] at hlen⊢
 refine ⟨hf,⟨hf,by omega,t1⟩,⟨by omega,t2⟩,⟨by omega,t3⟩,⟨by omega,t4⟩,⟨by omega,t5⟩,⟨by omega,h0⟩,⟨by omega,h1⟩,⟨by omega,t6⟩,⟨by omega,t7⟩,⟨by omega,t8⟩,⟨by omega,t9⟩,⟨by omega,t10⟩,⟨by omega,t11⟩,⟨by omega,t12⟩,trivial,Nat.le_refl _,trivial,hC,fun i hi _=>⟨fun he=> ?_,fun h=>h,fun h=>h⟩⟩
 subst he
 exact ⟨hl.symm,Nat.le_of_eq hl,rfl⟩
def ZdC (W:Int→List Int):Yn:=fun args h K=>ZI none h true 20 args fun a=>match a with
 | [.agg cs]=>∃X,LV cs X∧X.Inv ZJ∧X.t.fund.length=32∧K (.ret (slB h.next (WZ W X).length)) ⟨h.next+1,(h.next,.ints .u8 (WZ W X))::h.bs⟩
 | _=>False
theorem Zb9 (args:List AV) (h:Z6) (K:KO) (hl:ZdC Zn args h K):Zm PP 20 args h K:=by
 refine Zy.fsumm (d:=20) (Zs _ _ _ _ _ hl fun a ha=> ?_)
 split at ha
 ·obtain ⟨X,hX,hI,hf,hK⟩:=ha
  have hv:=Zgs X X.L.length _ 80000000000000 _ (Wa Zn X) (WZ Zn X) Zn 4611686018427387904 (Z69 4611686018427387904 80000000000000 X X.L.length (Wa Zn X)) (YI X (Wa Zn X)) (hI.rw' hf) rfl rfl rfl (by unfold YI;rw [List.take_length];rfl) rfl hf hI.tok.k0 hI.tok.k1 (by decide) rfl hI.hdnum
  exact ⟨_,_,_,_,(Zy.evM (Zb8 X _ _) hv).conv fun E r hr=>hr.head (fun _ hc=>Vi hX hc) fun _ hc=>hc,rfl,⟨Nat.one_pos,.ints _ _,trivial⟩,hK⟩
 ·exact ha.elim
end Go.Tk
end
section
namespace Go.Tk
open IntKind (i64 u8 u32 u64 wrap)
theorem Zgt (X:Za) (hc:X.t.cap≠0):
  evF G0 20 44 [WB X] ⟨0,[]⟩ (Y6 fun v=>v=.bool false):=by
 refine @Eq.mpr _ (AV.bool (X.t.cap==0)=AV.bool false) (by kernel_rfl) ?_
 have:(X.t.cap==0)=false:=by simpa using hc
 rw [this]
def ZdD:ZG:=fun args h K=>ZI none h true 20 args fun a=>match a with
 | [.pview cs 0]=>∃X,LV cs X∧X.t.cap≠0∧K (.bool false)
 | _=>False
theorem Zba (args:List AV) (h:Z6) (K:AV→Prop) (hl:ZdD args h K):Zm PP 44 args h fun o h'=>∃v,o=.ret v∧h'=h∧K v:=by
 refine Zy.psumm (d:=20) (Zs _ _ _ _ _ hl fun a ha=> ?_)
 split at ha
 ·obtain ⟨X,hX,hI,hK⟩:=ha
  exact ⟨_,(Zy.evV Zu (Zgt X hI)).conv fun E r hr=>hr.head (fun _ hc=>W7 hX hc) fun _ hc=>hc,fun _=>rfl,hK⟩
 ·exact ha.elim
def Zbb:ZG:=fun args h K=>ZI none h true 20 args fun a=>match a with
 | [.pview cs 0,.bool own,.int .i64 id]=>∃X y,LV cs X∧X.L.length<1000∧X.t.cap≠0∧fdH X.L own id=(y,true)∧K (.tuple [.agg y.c,.bool true])
 | _=>False
theorem Z8B (args:List AV) (h:Z6) (K:AV→Prop) (hl:Zbb args h K):Zm PP 48 args h fun o h'=>∃v,o=.ret v∧h'=h∧K v:=by
 refine Z8t args h K (Zs _ _ _ _ _ hl fun a ha=> ?_)
 split at ha
 ·obtain ⟨X,y,hX,h1,h2,h3,hK⟩:=ha
  exact ⟨X,hX,h1,h2,by rw [h3];exact hK⟩
 ·exact ha.elim
noncomputable def Uc:Code:=rfA PP 15 0
noncomputable def Ud:Code:=rfB PP 15 0
noncomputable def ZeV (W:Int→List Int):Zd:=(((((((((G0.withF 45 ZeF).withP 44 ZdD).withP 48 Zbb).withP 40 Z7i).withP 25 ZaY).withP 49 ZaX).withP 50 ZaN).withP 51 Z7h).withF 21 (Zdw W)).withF 20 (ZdC W)
theorem ZcS:(ZeV Zn).Ok:=Zd.withF_ok (Zd.withF_ok (Zd.withP_ok (Zd.withP_ok (Zd.withP_ok (Zd.withP_ok (Zd.withP_ok (Zd.withP_ok (Zd.withP_ok (Zd.withF_ok Zu Z7a) Zba) Z8B) Z6e) Z8w) Z8v) Z8q) Z6d) ZaR) Zb9
def ZcT:St:=⟨17,[],⟨0,[]⟩,[]⟩
def Zgu (X:Za) (i:Nat):List (Nat×Blk):=[(10,.rows 70 i (Zf X.L)),(3,.flat [slH 10 i]),(2,.flat [.bool false]),(1,.flat (X.c (.vrows 70 X.L.length (Zf X.L) X.L.length))),(0,.flat [WB X])]
noncomputable def ZcU (X:Za) (i:Nat):St:=⟨17,[(0,.yield 9),(5,slH 6 X.L.length),(6,.int .i64 X.L.length),(7,.int .i64 i)],⟨11,(9,.loop ⟨.ready,none,15,102,[(2,pt 0),(3,pt 1),(4,pt 2),(5,pt 3)],[14],Uc,Ud,8⟩)::(8,.defd)::(6,.rows 70 X.L.length (Zf X.L))::Zgu X i⟩,[]⟩
noncomputable def Zgv (X:Za) (i:Nat):St:=⟨17,[(0,.yield 9)],⟨11,(9,.loop ⟨.ready,none,15,102,[(2,pt 0),(3,pt 1),(4,pt 2),(5,pt 3)],[14],Uc,Ud,8⟩)::(8,.defd)::Zgu X i⟩,[]⟩
theorem ZhF (X:Za) (n i:Nat) (x:Z9) (W:Int→List Int) (Z1 Z2:Prop) (hn:n<1000) (hL:X.L.length=n) (hi:i≤n) (hcap:X.t.cap≠0) (hx:i<n→X.L.getD i Zo=x) (hk:i<n→x.Ok) (hfd:i<n→fdH X.L x.own x.id=(x,true)) (h1:i<n→Z1) (h2:i=n→Z2):
  ZD (ZeV W) 20 108 0 10 (ZcU X i) (rdM 10 0 9 (ZcU X (i+1)) (Zgv X i) ZcT ZcT Z1 Z2 False False):=by
 refine @Eq.mpr _ (let q1:=X.L;
 let q2:=List.length q1;
 let q3:=(↑q2:Int);
 let q4:=0+Int.toNat (↑i:Int);
 let q5:=decide (i=i);
 let q6:=i+1;
 let q7:=Zf q1;
 let q8:=Za.c X (AV.vrows 70 q2 q7 q2);
 let q9:=List.getD q1 q4 Zo;
 let q10:=q9.own;
 let q11:=q9.id;
 let q12:=q9.hash;
 let q13:=q9.secret;
 let q14:=q9.amount;
 let q15:=q9.expiry;
 let q16:=q9.stage;
 let q17:=q9.fin;
 let q18:=(15:FuncId)=15∧(102:Nat)=102∧[(14:Nat)]=[(14:Nat)]∧Uc=Uc∧Ud=Ud;
 let q19:=decide (q6=i);
 let q20:=[(10,14)];
 let q21:=Wd i q7 (Uy [AV.bool q10,AV.int i64 q11,AV.int i64 q14,AV.arr u8 32 q12,AV.int i64 q15,AV.int i64 q16,AV.int i64 q17,AV.arr u8 32 q13] 0 70);
 let q22:=X.t;
 let q23:=q22.fund;
 let q24:=q23=q23;
 let q25:=q22.index;
 let q26:=decide (q25=q25);
 let q27:=q22.cap;
 let q28:=decide (q27=q27);
 let q29:=q22.dust;
 let q30:=decide (q29=q29);
 let q31:=q22.fee;
 let q32:=decide (q31=q31);
 let q33:=q22.delay;
 let q34:=decide (q33=q33);
 let q35:=q22.k0;
 let q36:=q35=q35;
 let q37:=q22.k1;
 let q38:=q37=q37;
 let q39:=decide (X.side=X.side);
 let q40:=decide (X.res=X.res);
 let q41:=[X.a0,X.a1];
 let q42:=q41=q41;
 let q43:=[X.i0,X.i1];
 let q44:=q43=q43;
 let q45:=decide (q2=q2);
 let q46:=q7=q7;
 let q47:=q8=q8;
 let q48:=q24∧Z0 q26 (Z0 q28 (Z0 q30 (Z0 q32 (Z0 q34 (q36∧q38∧Z0 q39 (Z0 q40 (q42∧q44∧Z0 q45 (q46∧Z0 q45 (q47∧Z2) False) False) False) False) False) False) False) False) False;
 let q49:=LoopState.ready=LoopState.ready∧(none:Option Code)=none∧q18;
 let q50:=decide (q6=q6);
 Z0 (decide ((↑i:Int)<q3))
 (Z0 (decide (0≤(↑i:Int)∧(↑i:Int)<q3))
 (Z0 (decide (q4<q2))
 (Z0 q5
 (Z0 (decide (q6*112≤140737488355328))
 (∃(X_1:Za),
 ∃(y:Z9),
 LV q8 X_1∧
 List.length X_1.L<1000∧
 X_1.t.cap≠0∧
 fdH X_1.L q10 q11=(y,true)∧Z0 (decide (List.length y.hash=32∧List.length q12=32)) (Z0 (decide (List.length y.secret=32∧List.length q13=32)) (Z0 (!(y.own==q10&&(y.id==q11&&(y.amount==q14&&(y.hash==q12&&(y.expiry==q15&&(y.stage==q16&&(y.fin==q17&&y.secret==q13)))))))) ((LoopState.done=LoopState.ready∧some Code.ret=none∧q18)∧Z0 q19 (ZO 10 q20 i q7 q21∧Z0 q19 (Z0 (decide (i≤q6)) q48 False) False) False) (Z0 q45 (Z0 (decide (q2≤q2)) (Z0 (decide (q3=q3)) (Z0 (decide (wrap i64 ((↑i:Int)+1)=(↑q6:Int))) (q49∧Z0 q45 (ZO 10 q20 q2 q7 q7∧Z0 q50 (ZO 10 q20 q6 q7 q21∧Z0 q50 (Z0 (decide (q6≤q6)) (q24∧Z0 q26 (Z0 q28 (Z0 q30 (Z0 q32 (Z0 q34 (q36∧q38∧Z0 q39 (Z0 q40 (q42∧q44∧Z0 q45 (q46∧Z0 q45 (q47∧Z1) False) False) False) False) False) False) False) False) False) False) False) False) False) False) False) False) False)) False) False)
 False)
 False)
 False)
 False)
 (q49∧Z0 q5 (ZO 10 [(10,10)] i q7 q7∧Z0 q5 (Z0 (decide (i≤i)) q48 False) False) False)) (by kernel_rfl) ?_
 conv=>zeta
 try simp only [Zi]
 try simp only [Zj]
 try simp only [Zg]
 try simp only [Zk]
 try simp only [Zl]
 try simp only [Zh]
 try simp only [Int.toNat_natCast,Nat.zero_add,true_and,and_true,Nat.le_refl]
 subst hL
 refine ⟨fun hc=> ?_,fun hc=> ?_⟩
 ·have hlt:i<X.L.length:=by omega
  rw [hx hlt]
  have hk:=hk hlt
  have hwr:i64.wrap ((i:Int)+1)=((i+1:Nat):Int):=by rw [w64 (by omega)];omega
  have hC:∀τ,ZO 10 τ (i+1) (Zf X.L) (Wd i (Zf X.L) (Uy x.c 0 70)):=fun τ=>ZM fun j hj=>by
   rcases Nat.lt_or_ge j i with h|h
   ·rw [Z6K h]
   ·have e:j=i:=by omega
    subst e
    rw [Z3h (Nat.le_refl _),Nat.sub_self]
    unfold Zf
    rw [hx hlt];rfl
  refine ⟨by omega,hlt,by omega,X,x,.a rfl,hn,hcap,hfd hlt,⟨hk.hash,hk.hash⟩,⟨hk.secret,hk.secret⟩,fun h=>absurd h (by simp),fun _=> ?_⟩
  repeat' apply And.intro
  all_goals first|omega|rfl|exact hwr|exact h1 hlt|exact hC _|exact ZM fun _ _=>rfl
 ·repeat' apply And.intro
  all_goals first|omega|rfl|exact h2 (by omega)|exact ZM fun _ _=>rfl
theorem Zbc {own:Bool} {id:Int} {L:List Z9} {i:Nat} (hi:i<L.length) (h:isP own id (L.getD i Zo)):Xz own id L≤i:=by
 obtain ⟨h1,_,_⟩:=Vg (own:=own) (id:=id) (L:=L)
 rcases Nat.lt_or_ge i (Xz own id L) with q|q
 ·exact absurd h (h1 i q)
 ·exact q
theorem ZcV {L:List Z9} (hl:L.Pairwise Z4E) {i:Nat} (hi:i<L.length):fdH L (L.getD i Zo).own (L.getD i Zo).id=(L.getD i Zo,true):=by
 have h0:isP (L.getD i Zo).own (L.getD i Zo).id (L.getD i Zo):=⟨rfl,rfl⟩
 have hle:=Zbc hi h0
 obtain ⟨_,h2,_⟩:=Vg (own:=(L.getD i Zo).own) (id:=(L.getD i Zo).id) (L:=L)
 have hlt:Xz (L.getD i Zo).own (L.getD i Zo).id L<L.length:=by omega
 have he:=h2 hlt
 have:Xz (L.getD i Zo).own (L.getD i Zo).id L=i:=by
  rcases Nat.lt_or_ge (Xz (L.getD i Zo).own (L.getD i Zo).id L) i with q|q
  ·have hp:=(List.pairwise_iff_getElem.1 hl) _ i hlt hi q
   generalize Xz (L.getD i Zo).own (L.getD i Zo).id L=j at*
   have e1:L[j].own=L[i].own:=by have:=he.1;simpa [List.getD_eq_getElem?_getD,List.getElem?_eq_getElem hlt,List.getElem?_eq_getElem hi] using this
   have e2:L[j].id=L[i].id:=by have:=he.2;simpa [List.getD_eq_getElem?_getD,List.getElem?_eq_getElem hlt,List.getElem?_eq_getElem hi] using this
   unfold Z4E Vf at hp
   rw [e1,e2] at hp
   omega
  ·omega
 unfold fdH
 rw [this,if_pos hi]
def ZhG (X:Za) (n:Nat):Prop:=X.Inv ZJ∧X.L.length=n
noncomputable def ZdE (W:Int→List Int) (X:Za) (n:Nat) (C:Prop):Zd:=(ZeV W).withL 108 0 (goM 10 (ZcU X 0) C (YR 0 n 9 (fun i=>i<n) (fun i=>i=n) (fun _=>False) (fun _=>False) (Zgv X) (fun _=>ZcT) (fun _=>ZcT)))
theorem Zbd (X:Za) (n:Nat):(ZdE Zn X n (ZhG X n)).Ok:=
 Zd.withGoM (N:=20) (S:=ZcU X) ZcS (by kernel_rfl) fun hC=>⟨rfl,fun i hi _=>by
  obtain ⟨hI,hL⟩:=hC
  exact ZhF X n i (X.L.getD i Zo) Zn _ _ (by have:=hI.len;omega) hL hi (WY hI.tb) (fun _=>rfl) (fun h=>hI.ok _ (Y0 (by omega))) (fun h=>ZcV hI.less (by omega)) (fun h=>⟨h,h⟩) (fun h=>h)⟩
theorem ZhH (X:Za) (n:Nat) (W:Int→List Int) (C:Prop) (hC:C) (hI:X.Inv ZJ) (hn:X.L.length=n) (hf:X.t.fund.length=32):
  evF (ZdE W X n C) 20 15 [WB X,Z3A X] ⟨0,[]⟩ (Y6 fun v=>v=.bool true):=by
 refine @Eq.mpr _ (let q1:=List.length X.L;
 let q2:=Zf X.L;
 let q3:=AV.vrows 70 q1 q2 q1;
 let q4:=Za.c X q3;
 let q5:=q1<1000000;
 let q6:=decide (q1=q1);
 let q7:=(↑q1:Int);
 let q8:=X.t;
 let q9:=q8.fund;
 let q10:=q9=q9;
 let q11:=q8.index;
 let q12:=decide (q11=q11);
 let q13:=q8.cap;
 let q14:=decide (q13=q13);
 let q15:=q8.dust;
 let q16:=decide (q15=q15);
 let q17:=q8.fee;
 let q18:=decide (q17=q17);
 let q19:=q8.delay;
 let q20:=decide (q19=q19);
 let q21:=q8.k0;
 let q22:=q21=q21;
 let q23:=q8.k1;
 let q24:=q23=q23;
 let q25:=X.side;
 let q26:=decide (q25=q25);
 let q27:=X.res;
 let q28:=decide (q27=q27);
 let q29:=[X.a0,X.a1];
 let q30:=q29=q29;
 let q31:=X.i0;
 let q32:=X.i1;
 let q33:=[q31,q32];
 let q34:=q33=q33;
 let q35:=q2=q2;
 let q36:=AV.bool false=AV.bool true;
 ∃(X_1:Za),
 LV q4 X_1∧
 X_1.t.cap≠0∧
 ∃(L:List Z9),
 q1=q1∧
 q2=Zf L∧
 q5∧
 ∃(X_2:Za),
 LV q4 X_2∧
 X_2.t.cap≠0∧
 ∃(L_1:List Z9),
 q1=q1∧
 q2=Zf L_1∧
 q5∧
 Z0 q6
 (Z0 (decide (q1≤q1))
 (Z0 (decide (q7=q7))
 ((LoopState.ready=LoopState.ready∧(none:Option Code)=none∧(15:FuncId)=15∧(102:Nat)=102∧[(14:Nat)]=[(14:Nat)]∧Uc=Uc∧Ud=Ud)∧
 Z0 q6
 (ZO 10 [] q1 q2 (Zf L_1)∧
 q10∧
 Z0 q12
 (Z0 q14
 (Z0 q16
 (Z0 q18
 (Z0 q20
 (q22∧
 q24∧
 Z0 q26
 (Z0 q28
 (q30∧
 q34∧
 Z0 q6
 (q35∧
 Z0 q6
 (q4=q4∧
 C∧
 ∀(i:Nat),
 i≤n→
 (∀(j:Nat),j<i→(fun (i:Nat)=>i<n) j)→
 (i=n→
 Z0 (decide (0+i≤i))
 ((∀(i_1:Nat),i_1<i→true=true)∧
 ∃(A:List Z9),
 (i=List.length A∧i=i∧q1=i∧q1=i)∧
 (XW 0 q2=Zf A∧q2=Zf A)∧
 i<1000∧
 (∀(h:Z9),List.Mem h A→Z9.Ok h)∧
 ∃(X_3:Za),
 LV q4 X_3∧
 X_3.t.cap≠0∧
 q30∧
 Z0 (q29==q29)
 (∃(X_4:Za),
 LV q4 X_4∧
 Za.Inv ZJ X_4∧
 ∃(X_5:Za),
 let q73:=[AV.arr u8 32 q9,AV.int i64 q11,AV.int i64 q13,AV.int i64 q15,AV.int i64 q17,AV.int i64 q19,AV.arr u8 32 q21,AV.arr u8 32 q23,AV.int i64 q25,AV.int i64 q27,AV.arr i64 2 q29,AV.arr i64 2 q33,q3];
 LV q73 X_5∧
 Za.Inv ZJ X_5∧
 Z0 (leftV X_4 0==leftV X_5 0)
 (∃(X_6:Za),
 LV q4 X_6∧
 Za.Inv ZJ X_6∧
 ∃(X_7:Za),
 LV q73 X_7∧
 Za.Inv ZJ X_7∧
 Z0 (leftV X_6 1==leftV X_7 1)
 (∃(X_8:Za),
 LV q4 X_8∧
 Za.Inv ZJ X_8∧
 ∃(X_9:Za),
 LV q4 X_9∧
 Za.Inv ZJ X_9∧
 ∃(X_10:Za),
 LV q4 X_10∧
 X_10.t.cap≠0∧
 Z0 (decide (q31=q31))
 (Z0 (q31==q31)
 (∃(X_11:Za),
 LV q4 X_11∧
 X_11.t.cap≠0∧
 Z0 (decide (q32=q32))
 (Z0 (q32==q32)
 (∃(X_12:Za),
 LV q4 X_12∧
 Za.Inv ZJ X_12∧
 ∃(X_13:Za),
 LV q73 X_13∧
 Za.Inv ZJ X_13∧
 Z0 (XG X_12.L==XG X_13.L)
 (∃(X_14:Za),
 let q75:=List.length (WZ W X_14);
 let q76:=decide (u8=u8∧0+q75≤q75);
 let q77:=strOf (List.take q75 (Y8 0 (WZ W X_14)));
 LV q4 X_14∧
 Za.Inv ZJ X_14∧
 List.length X_14.t.fund=32∧
 q10∧
 Z0 q12
 (Z0 q14
 (Z0 q16
 (Z0 q18
 (Z0 q20
 (q22∧
 q24∧
 Z0 q26
 (Z0 q28
 (q30∧
 q34∧
 Z0 q6
 (q35∧
 Z0 q6
 (Z0 q76
 (∃(X_15:Za),
 let q81:=List.length (WZ W X_15);
 LV q73 X_15∧Za.Inv ZJ X_15∧List.length X_15.t.fund=32∧Z0 q76 (q77=q77∧Z0 (decide (u8=u8∧0+q81≤q81)) (AV.bool (ByteArray.toList q77==ByteArray.toList (strOf (List.take q81 (Y8 0 (WZ W X_15)))))=AV.bool true) False) False)
 False)
 False)
 False)
 False)
 False)
 False)
 False)
 False)
 False)
 False)
 q36)
 q36)
 False)
 q36)
 False)
 q36)
 q36)
 q36)
 False)∧
 (False→False)∧(False→False))
 False)
 False)
 False)
 False)
 False)
 False)
 False)
 False)
 False)
 False)
 False)
 False)
 False) (by kernel_rfl) ?_
 conv=>zeta
 try simp only [Zi]
 try simp only [Zj]
 try simp only [Zg]
 try simp only [Zk]
 try simp only [Zl]
 try simp only [Zh]
 try simp only [Int.toNat_natCast,Nat.zero_add,true_and,and_true,Nat.le_refl]
 subst hn
 have hcap:=WY hI.tb
 have hlen:=hI.am.n
 refine ⟨X,.a rfl,hcap,X.L,rfl,by omega,X,.a rfl,hcap,X.L,rfl,by omega,ZM fun _ _=>rfl,hC,fun i hi _=>⟨fun he=> ?_,fun h=>h.elim,fun h=>h.elim⟩⟩
 subst he
 refine ⟨fun _ _=>trivial,X.L,⟨rfl,rfl,rfl⟩,⟨rfl,rfl⟩,hlen,hI.ok,X,.a rfl,hcap, ?_⟩
 repeat' first
  | exact hI
  | exact hcap
  | exact hf
  | (intro h;simp at h;done)
  | intro _
  | refine Exists.intro X (And.intro (.a rfl) ?_)
  | apply And.intro
  | rfl
  | omega
  | exact congrArg AV.bool (beq_self_eq_true _)
def Zgw:ZG:=fun args h K=>ZI none h true 20 args fun a=>match a with
 | [.pview cs 0,.agg ws]=>∃X,LV cs X∧LV ws X∧X.Inv ZJ∧X.t.fund.length=32∧K (.bool true)
 | _=>False
theorem ZcW (args:List AV) (h:Z6) (K:AV→Prop) (hl:Zgw args h K):Zm PP 15 args h fun o h'=>∃v,o=.ret v∧h'=h∧K v:=by
 refine Zy.psumm (d:=20) (Zs _ _ _ _ _ hl fun a ha=> ?_)
 split at ha
 ·obtain ⟨X,hX,hW,hI,hf,hK⟩:=ha
  exact ⟨_,(Zy.evV (Zbd X X.L.length) (ZhH X _ Zn _ ⟨hI,rfl⟩ hI rfl hf)).conv fun E r hr=>hr.head (fun _ hc=>W7 hX hc) fun _ hr=>hr.head (fun _ hc=>Vi hW hc) fun _ hc=>hc,fun _=>rfl,hK⟩
 ·exact ha.elim
end Go.Tk
end
section
namespace Go.Tk
open IntKind (i64 u8 u32 u64 wrap)
structure ZcX where
 what:Int
 own:Bool
 off:Int
 amount:Int
 expiry:Int
 secret:List Int
 at':Int
 move:Int
 ours:Bool
 number:Int
def ZcX.c (a:ZcX):List AV:=[.int .i64 a.what,.bool a.own,.int .i64 a.off,.int .i64 a.amount,.int .i64 a.expiry,.arr .u8 32 a.secret,.int .i64 a.at',.int .i64 a.move,.bool a.ours,.int .i64 a.number]
structure ZcX.Ok (a:ZcX):Prop where
 secret:a.secret.length=32
 sb:Bytes a.secret
end Go.Tk
end
section
namespace Go.Tk
open IntKind (i64 u8 u32 u64 wrap)
end Go.Tk
end
section
namespace Go.Tk
open IntKind (i64 u8 u32 u64 wrap)
def ZhK (H:List Int→List Int):ZG:=fun args h K=>ZI none h true 20 args fun v=>match v with
 | [.agg [.arr .u8 32 fu,.int .i64 ix,.int .i64 ca,.int .i64 du,.int .i64 fe,.int .i64 de,.arr .u8 32 k0,.arr .u8 32 k1],.int .i64 sd,.int .i64 rs,.agg [.arr .i64 2 [a,b]]]=>
  YM.Ok ⟨fu,ix,ca,du,fe,de,k0,k1⟩∧Z0 (Y7 H (ZfU ⟨fu,ix,ca,du,fe,de,k0,k1⟩ sd rs a b)) (K (.tuple [.agg ((ZfU ⟨fu,ix,ca,du,fe,de,k0,k1⟩ sd rs a b).c .nilslice),.int .i64 0])) (K (.tuple [.agg (X3.c .nilslice),.int .i64 2]))
 | _=>False
def ZeW:ZG:=fun args _ K=>match args with
 | []=>K (.bool true)
 | _=>False
end Go.Tk
end
section
namespace Go.Tk
open IntKind (i64 u8 u32 u64 wrap)
noncomputable def Zgx (H1:List Int→List Int) (B:Nat):Zd:=((G0.withP 102 (Zdm H1 B)).withP 98 ZeO).withP 99 plS
theorem ZcY:(Zgx Z1X 1000).Ok:=Zd.withP_ok (Zd.withP_ok (Zd.withP_ok Zu (Za9 fun xs h=>Z8d xs (by omega))) ZcI) ZeN
theorem Zgy (X:Za) (p:Z9) (b:Bool) (H1:List Int→List Int) (B:Nat) (hok:p.Ok) (hB:32≤B) (hl:(H1 p.secret).length=32) (hb:b=Yf H1 X p):
  evF (Zgx H1 B) 20 95 [Z3A X,.agg p.c] ⟨0,[]⟩ (Y6 (fun v=>v=.bool b)):=by
 refine @Eq.mpr _ (let q1:=p.hash;
 let q2:=AV.bool b;
 let q3:=AV.bool false=q2;
 let q4:=plI p.own;
 let q5:=0+Int.toNat q4;
 let q6:=p.stage;
 let q7:=p.fin;
 let q8:=p.secret;
 let q9:=List.length q8;
 let q10:=Z0 (decide (q9=32∧(32:Nat)=32)) (AV.bool (q8==Zc)=q2) False;
 let q11:=decide (q6≥6);
 let q12:=H1 q8;
 Z0 (!Xy (Z9.mk false p.id p.amount q1 p.expiry 0 0 [])) q3 (Z0 (decide (0≤q4∧q4<2)) (Z0 (decide (q5<2)) (Z0 (decide (p.id≥List.getD [X.i0,X.i1] q5 0)) q3 (Z0 (decide (q6<1)) q3 (Z0 (decide (q6>9)) q3 (Z0 (q7==0) (Z0 (decide (q6<6)) q10 q3) (Z0 (q7==1) (Z0 q11 (Z0 (decide (q9=32)) (Z0 (decide (32=q9)) (Z0 (decide (q9≤B)) (Z0 (decide (List.length q12=32∧List.length q1=32)) (AV.bool (q12==q1)=q2) False) False) False) False) q3) (Z0 (q7==2) (Z0 q11 q10 q3) q3)))))) False) False)) (by kernel_rfl) ?_
 conv=>zeta
 subst hb
 have e0:Xy ⟨false,p.id,p.amount,p.hash,p.expiry,0,0,[]⟩=Xy p:=rfl
 have e1:(0≤plI p.own∧plI p.own<2)∧0+(plI p.own).toNat<2∧[X.i0,X.i1].getD (0+(plI p.own).toNat) 0=X.nx p.own:=by
  cases p.own<;>exact ⟨⟨by decide,by decide⟩,by decide,rfl⟩
 have e2:decide (1≤p.stage∧p.stage≤9)=(!decide (p.stage<1)&& !decide (p.stage>9)):=by
  by_cases h1:p.stage<1<;>by_cases h2:p.stage>9<;>simp [h1,h2]<;>omega
 have e3:decide (p.id<X.nx p.own)= !decide (p.id≥X.nx p.own):=by by_cases h:p.id<X.nx p.own<;>simp [h]<;>omega
 rw [e0]
 simp only [e1.1,e1.2.1,e1.2.2,hok.secret,hok.hash,hl,decide_true,and_self,Z67,true_and,decide_eq_true hB,WX]
 congr 1
 unfold Yf Z62
 simp only [Z4y,show (6≤p.stage)=(p.stage≥6) from rfl,Zaq p.stage 6,e2,e3]
 generalize (H1 p.secret==p.hash)=ch
 generalize (p.secret==Zc)=cz
 generalize Xy p=c1
 generalize decide (p.stage<6)=c6
 generalize decide (p.stage<1)=d1
 generalize decide (p.stage>9)=d2
 generalize decide (p.id≥X.nx p.own)=d0
 generalize (p.fin==0)=f0
 generalize (p.fin==1)=f1
 generalize (p.fin==2)=f2
 cases f0<;>cases f1<;>cases f2<;>cases c6<;>cases d0<;>cases d1<;>cases d2<;>cases c1<;>simp
def Zgz (H:List Int→List Int):ZG:=fun args h K=>ZI none h true 20 args fun a=>match a with
 | [.agg cs,.agg [.bool ow,.int .i64 id,.int .i64 am,.arr .u8 32 ha,.int .i64 ex,.int .i64 st,.int .i64 en,.arr .u8 32 se]]=>∃X,LV cs X∧Z9.Ok ⟨ow,id,am,ha,ex,st,en,se⟩∧K (.bool (Yf H X ⟨ow,id,am,ha,ex,st,en,se⟩))
 | _=>False
noncomputable def Z7k (H:List Int→List Int):Zd:=G0.withP 95 (Zgz H)
def ZcZ (X:Za) (n i:Nat):St:=⟨177,[(3,.int .i64 i),(1,.ptr (some ⟨0,0,0,0,0⟩))],⟨1,[(0,.flat (X.c (.vrows 70 n (Zf X.L) n)))]⟩,[]⟩
def ZgA (X:Za) (n:Nat):St:=⟨177,[(1,.ptr (some ⟨0,0,0,0,0⟩))],⟨1,[(0,.flat (X.c (.vrows 70 n (Zf X.L) n)))]⟩,[]⟩
def Zd0:St:=⟨177,[(2,.bool false)],⟨0,[]⟩,[]⟩
theorem ZgB (X:Za) (H:List Int→List Int) (n i:Nat) (Z1 Z2 Z3:Prop) (hn:n<1000) (hL:X.L.length=n) (hi:i≤n) (hok:∀h∈X.L,h.Ok) (h1:i<n→Y5 H X i=true→Z1) (h2:i=n→Z2) (h3:i<n→Y5 H X i=false→Z3):
  ZD (Z7k H) 20 33 0 0 (ZcZ X n i) (rdM 0 0 9 (ZcZ X n (i+1)) (ZgA X n) Zd0 Zd0 Z1 Z2 Z3 False):=by
 refine @Eq.mpr _ (let q1:=X.t;
 let q2:=q1.fund;
 let q3:=q1.index;
 let q4:=q1.cap;
 let q5:=q1.dust;
 let q6:=q1.fee;
 let q7:=q1.delay;
 let q8:=q1.k0;
 let q9:=q1.k1;
 let q10:=X.side;
 let q11:=X.res;
 let q12:=[X.a0,X.a1];
 let q13:=[X.i0,X.i1];
 let q14:=X.L;
 let q15:=Zf q14;
 let q16:=List.getD q14 (Int.toNat (↑i:Int)) Zo;
 let q17:=q16.own;
 let q18:=q16.id;
 let q19:=q16.stage;
 let q20:=Z9.mk q17 q18 q16.amount q16.hash q16.expiry q19 q16.fin q16.secret;
 let q21:=q2=q2;
 let q22:=decide (q3=q3);
 let q23:=decide (q4=q4);
 let q24:=decide (q5=q5);
 let q25:=decide (q6=q6);
 let q26:=decide (q7=q7);
 let q27:=q8=q8;
 let q28:=q9=q9;
 let q29:=decide (q10=q10);
 let q30:=decide (q11=q11);
 let q31:=q12=q12;
 let q32:=q13=q13;
 let q33:=decide (n=n);
 let q34:=q15=q15;
 let q35:=Z0 (decide (wrap i64 ((↑i:Int)+1)=(↑(i+1):Int))) (q21∧Z0 q22 (Z0 q23 (Z0 q24 (Z0 q25 (Z0 q26 (q27∧q28∧Z0 q29 (Z0 q30 (q31∧q32∧Z0 q33 (q34∧Z0 q33 Z1 False) False) False) False) False) False) False) False) False) False;
 let q36:=wrap i64 ((↑i:Int)-1);
 let q37:=List.getD q14 (Int.toNat q36) Zo;
 let q38:=q37.own;
 let q39:=q37.stage;
 let q40:=Z0 (q17==q38) (Z0 (decide (q18≤q37.id)) Z3 (Z0 (decide ((if q39<5 then q39 else 5)<if q19<5 then q19 else 5)) Z3 q35)) q35;
 Z0 (decide ((↑i:Int)<(↑n:Int))) (Z0 (decide (0≤(↑i:Int)∧(↑i:Int)<(↑n:Int))) (∃(X:Za),LV [AV.arr u8 32 q2,AV.int i64 q3,AV.int i64 q4,AV.int i64 q5,AV.int i64 q6,AV.int i64 q7,AV.arr u8 32 q8,AV.arr u8 32 q9,AV.int i64 q10,AV.int i64 q11,AV.arr i64 2 q12,AV.arr i64 2 q13,AV.vrows 70 n q15 n] X∧Z9.Ok q20∧Z0 (!Yf H X q20) Z3 (Z0 ((↑i:Int)==0) q35 (Z0 (decide (0≤q36∧q36<(↑n:Int))) (Z0 q17 (Z0 (!q38) Z3 q40) q40) False))) False) (q21∧Z0 q22 (Z0 q23 (Z0 q24 (Z0 q25 (Z0 q26 (q27∧q28∧Z0 q29 (Z0 q30 (q31∧q32∧Z0 q33 (q34∧Z0 q33 Z2 False) False) False) False) False) False) False) False) False)) (by kernel_rfl) ?_
 conv=>zeta
 try simp only [Zi]
 try simp only [Zj]
 try simp only [Zg]
 try simp only [Zk]
 try simp only [Zl]
 try simp only [Zh]
 try simp only [Int.toNat_natCast,Nat.zero_add,true_and,and_true,Nat.le_refl]
 subst hL
 refine ⟨fun hc=> ?_,fun hc=> ?_⟩
 rotate_left
 ·have:=h2 (by omega)
  repeat' first|exact this|apply And.intro|rfl
 have hlt:i<X.L.length:=by omega
 have hwr:i64.wrap ((i:Int)+1)=((i+1:Nat):Int):=by rw [w64 (by omega)];omega
 have hw1:i64.wrap ((i:Int)-1)=(i:Int)-1:=w64 (by omega)
 have hto:((i:Int)-1).toNat=i-1:=by omega
 have nu:Yf H X (X.L.getD i Zo)=false→Y5 H X i=false:=fun h=>by unfold Y5;rw [h];rfl
 have n0:Yf H X (X.L.getD i Zo)=true→i=0→Y5 H X i=true:=fun h h0=>by unfold Y5;rw [h,h0];rfl
 have nf:Yf H X (X.L.getD i Zo)=true→i≠0→Y5 H X i=decide (Wg (X.L.getD (i-1) Zo) (X.L.getD i Zo)):=fun h h0=>by
  unfold Y5
  have hb0:Nat.beq i 0=false:=by
   cases i with
   | zero=>exact absurd rfl h0
   | succ j=>rfl
  rw [h,hb0];rfl
 rw [hw1,hto]
 have hoi:=hok _ (Y0 hlt)
 generalize X.L.getD i Zo=x at*
 generalize X.L.getD (i-1) Zo=y at*
 refine ⟨by omega,X,.a rfl,hoi,fun hu=>h3 hlt (nu (by simpa using hu)),fun hu=> ?_⟩
 have hu:Yf H X x=true:=by simpa using hu
 refine ⟨fun h0=> ?_,fun h0=> ?_⟩
 ·have:=h1 hlt (n0 hu (by simpa using h0))
  repeat' first|exact hwr|exact this|apply And.intro|rfl
 have h0:i≠0:=by simpa using h0
 have nf:=nf hu h0
 refine ⟨by omega, ?_⟩
 have k1:Wg y x→Z1:=fun h=>h1 hlt (by rw [nf];exact decide_eq_true h)
 have k3:¬Wg y x→Z3:=fun h=>h3 hlt (by rw [nf];exact decide_eq_false h)
 clear h1 h3 nf nu n0 h2
 unfold Wg at k1 k3
 cases hxo:x.own<;>cases hyo:y.own<;>simp [hxo,hyo,hwr] at k1 k3⊢
 all_goals first
  | exact k1
  | exact k3
  | refine ⟨fun h=>k3 fun h'=>absurd h' (by omega),fun h=>⟨fun h4=>k3 fun _=> ?_,fun h4=>k1 h ?_⟩⟩<;>revert h4<;>split<;>split<;>intro h4<;>omega
end Go.Tk
end
section
namespace Go.Tk
open IntKind (i64 u8 u32 u64 wrap)
theorem Zd1 (args:List AV) (h:Z6) (K:AV→Prop) (hl:Zgz ZJ args h K):Zm PP 95 args h fun o h'=>∃v,o=.ret v∧h'=h∧K v:=by
 refine Zy.psumm (d:=20) (Zs _ _ _ _ _ hl fun a ha=> ?_)
 split at ha
 ·rename_i cs ow id am ha' ex st en se
  obtain ⟨X,hX,hok,hK⟩:=ha
  have hs:Yf Z1X X ⟨ow,id,am,ha',ex,st,en,se⟩=Yf ZJ X ⟨ow,id,am,ha',ex,st,en,se⟩:=by
   unfold Yf Z62
   rw [show Z1X (Z9.mk ow id am ha' ex st en se).secret=ZJ (Z9.mk ow id am ha' ex st en se).secret from Zcc (Zb2 hok.sb) (by have:=hok.secret;omega)]
  exact ⟨_,(Zy.evV ZcY (Zgy X ⟨ow,id,am,ha',ex,st,en,se⟩ _ Z1X 1000 hok (by decide) (Zaf _) hs.symm)).conv fun E r hr=>hr.head (fun _ hc=>Vi hX hc) fun _ hc=>hc,fun _=>rfl,hK⟩
 ·exact ha.elim
theorem Zbe:(Z7k ZJ).Ok:=Zd.withP_ok Zu Zd1
theorem Z4O {side s:Int}:∀(L:List Z9) (p:Int×Nat),(∀h∈L,0≤h.amount)→p.2≤(L.foldl (Vh side s) p).2∧(1125899906842624<p.1+ZT side s L→1125899906842624<(L.foldl (Vh side s) p).1∧(p.1≤1125899906842624→p.2<(L.foldl (Vh side s) p).2))
 | [],p,_=>by
  have:ZT side s []=0:=rfl
  rw [this,List.foldl_nil]
  exact ⟨Nat.le_refl _,fun h=>⟨by omega,fun h2=>by omega⟩⟩
 | x::r,p,hA=>by
  have hr:=W9 (side:=side) (s:=s) (G:=r) fun z hz=>hA z (by simp [hz])
  have hx:=hA x (by simp)
  have ih:=fun q=>Z4O (side:=side) (s:=s) r q fun z hz=>hA z (by simp [hz])
  rw [List.foldl_cons,X7]
  unfold Z4F
  by_cases hf:WA side x.own=s∧p.1≤1125899906842624
  ·rw [if_pos hf.1]
   have e:Vh side s p x=(p.1+x.amount,p.2+1):=by unfold Vh;rw [if_pos hf]
   rw [e]
   obtain ⟨i1,i2⟩:=ih (p.1+x.amount,p.2+1)
   dsimp only at i1 i2
   exact ⟨by omega,fun h=>⟨(i2 (by omega)).1,fun _=>by omega⟩⟩
  ·have e:Vh side s p x=p:=by unfold Vh;rw [if_neg hf]
   rw [e]
   obtain ⟨i1,i2⟩:=ih p
   refine ⟨i1,fun h=> ?_⟩
   by_cases hp:p.1≤1125899906842624
   ·rw [if_neg fun h'=>hf ⟨h',hp⟩] at h
    exact ⟨(i2 (by omega)).1,fun h2=>(i2 (by omega)).2 h2⟩
   ·exact ⟨(i2 (by omega)).1,fun h2=>absurd h2 hp⟩
structure OdB (X:Za):Prop where
 h:Z6a X X.L.length
def Zbf (OF:Za→Int→Int×Nat):ZG:=fun args h K=>ZI none h true 20 args fun a=>match a with
 | [.agg cs,.int .i64 s]=>∃X,LV cs X∧OdB X∧K (.tuple [.int .i64 (OF X s).1,.int .i64 (OF X s).2])
 | _=>False
def ofF (X:Za) (s:Int):Int×Nat:=offD X.side s X.L
theorem Z4P (args:List AV) (h:Z6) (K:AV→Prop) (hl:Zbf ofF args h K):Zm PP 96 args h fun o h'=>∃v,o=.ret v∧h'=h∧K v:=Z4I args h K (Zs _ _ _ _ _ hl fun a ha=>by
 split at ha
 ·obtain ⟨X,hX,⟨h1⟩,hK⟩:=ha
  exact ⟨X,hX,h1,hK⟩
 ·exact ha.elim)
def ovD (OF:Za→Int→Int×Nat) (X:Za) (s:Int):Int:=match decide (s=0) with
 | true=>i64.wrap (i64.wrap (i64.wrap (X.a0-(OF X s).1)-X.res)-X.t.fee)
 | false=>i64.wrap (i64.wrap (X.a1-(OF X s).1)-X.res)
noncomputable def ZdF (OF:Za→Int→Int×Nat):Zd:=G0.withP 96 (Zbf OF)
theorem Zbg:(ZdF ofF).Ok:=Zd.withP_ok Zu Z4P
theorem ZgC (OF:Za→Int→Int×Nat) (X:Za) (s r:Int) (hs:s=0∨s=1) (hO:OdB X) (hr:r=ovD OF X s):
  evF (ZdF OF) 20 97 [Z3A X,.int .i64 s] ⟨0,[]⟩ (Y6 (fun v=>v=.int .i64 r)):=by
 refine @Eq.mpr _ (let q1:=X.t;
 let q2:=q1.fee;
 let q3:=[X.a0,X.a1];
 let q4:=List.length X.L;
 let q5:=0+Int.toNat s;
 ∃(X_1:Za),
 let q11:=wrap i64 (wrap i64 (List.getD q3 q5 0-(OF X_1 s).fst)-X.res);
 LV [AV.arr u8 32 q1.fund,AV.int i64 q1.index,AV.int i64 q1.cap,AV.int i64 q1.dust,AV.int i64 q2,AV.int i64 q1.delay,AV.arr u8 32 q1.k0,AV.arr u8 32 q1.k1,AV.int i64 X.side,AV.int i64 X.res,AV.arr i64 2 q3,AV.arr i64 2 [X.i0,X.i1],AV.vrows 70 q4 (Zf X.L) q4] X_1∧OdB X_1∧Z0 (decide (0≤s∧s<2)) (Z0 (decide (q5<2)) (Z0 (s==0) (AV.int i64 (wrap i64 (q11-q2))=AV.int i64 r) (AV.int i64 q11=AV.int i64 r)) False) False) (by kernel_rfl) ?_
 conv=>zeta
 try simp only [Zi]
 try simp only [Zj]
 try simp only [Zg]
 try simp only [Zk]
 try simp only [Zl]
 try simp only [Zh]
 try simp only [Int.toNat_natCast,Nat.zero_add,true_and,and_true,Nat.le_refl]
 subst hr
 unfold ovD
 refine ⟨X,.a rfl,hO,by omega,by omega,fun h=> ?_,fun h=> ?_⟩
 ·have h0:s=0:=by simpa using h
  subst h0
  rfl
 ·have h0:s=1:=by
   have:¬s=0:=by simpa using h
   omega
  subst h0
  rfl
def ZgD (OV:Za→Int→Int):ZG:=fun args h K=>ZI none h true 20 args fun a=>match a with
 | [.agg cs,.int .i64 s]=>∃X,LV cs X∧OdB X∧(s=0∨s=1)∧K (.int .i64 (OV X s))
 | _=>False
theorem Zd2 (args:List AV) (h:Z6) (K:AV→Prop) (hl:ZgD (ovD ofF) args h K):Zm PP 97 args h fun o h'=>∃v,o=.ret v∧h'=h∧K v:=by
 refine Zy.psumm (d:=20) (Zs _ _ _ _ _ hl fun a ha=> ?_)
 split at ha
 ·obtain ⟨X,hX,hI,hs,hK⟩:=ha
  exact ⟨_,(Zy.evV Zbg (ZgC ofF X _ _ hs hI rfl)).conv fun E r hr=>hr.head (fun _ hc=>Vi hX hc) fun _ hc=>hc,fun _=>rfl,hK⟩
 ·exact ha.elim
def ZhI (H:List Int→List Int) (X:Za) (n:Nat):Prop:=n<1000∧X.L.length=n∧∀h∈X.L,h.Ok
noncomputable def ZgE (OF:Za→Int→Int×Nat) (OV:Za→Int→Int) (H:List Int→List Int) (X:Za) (n:Nat) (C:Prop):Zd:=(((G0.withP 93 Z61).withP 96 (Zbf OF)).withP 97 (ZgD OV)).withL 33 0 (goM 0 (ZcZ X n 0) C (YR 0 n 9 (fun i=>Y5 H X i=true∧i<n) (fun i=>i=n) (fun i=>i<n∧Y5 H X i=false) (fun _=>False) (fun _=>ZgA X n) (fun _=>Zd0) (fun _=>Zd0)))
theorem Zd3 (X:Za) (n:Nat):(ZgE ofF (ovD ofF) ZJ X n (ZhI ZJ X n)).Ok:=
 Zd.withL_join (H:=Z7k ZJ) (Zd.withP_ok (Zd.withP_ok (Zd.withP_ok Zu Z8e) Z4P) Zd2) (by unfold Z7k;rw [Qj,Qj,Qj,Qj]) (Zd.withGoM (N:=20) (S:=fun i=>ZcZ X n i) Zbe (by kernel_rfl) fun hC=>⟨rfl,fun i hi _=>ZgB X ZJ n i _ _ _ hC.1 hC.2.1 hi hC.2.2 (fun h h'=>⟨⟨h',h⟩,h⟩) (fun h=>h) (fun h h'=>⟨h,h'⟩)⟩)
structure ZhJ (D:Int×Nat) (S:Int) (l:Nat):Prop where
 le:S≤1125899906842624→D.1=S∧D.2=l
 gt:1125899906842624<S→1125899906842624<D.1∧0<D.2
 b:0≤D.1∧D.1≤2251799813685248
theorem ZgF {X:Za} (hO:Z6a X X.L.length) (s:Int):ZhJ (ofF X s) (ZT X.side s X.L) (ZR X.side s X.L).length:=by
 have hA:∀h∈X.L,0≤h.amount:=fun h hh=>(hO.2.2.2 h hh).1
 have hb:=(QK (side:=X.side) (s:=s) hO.2.2.2 X.L.length (Nat.le_refl _)).1
 rw [List.take_length] at hb
 refine ⟨fun h=> ?_,fun h=> ?_,hb⟩
 ·have:=Ub (side:=X.side) (s:=s) X.L (0,0) hA (by simpa using h)
  unfold ofF offD
  rw [this]
  exact ⟨Int.zero_add _,Nat.zero_add _⟩
 ·have:=(Z4O (side:=X.side) (s:=s) X.L (0,0) hA).2 (by simpa using h)
  exact ⟨this.1,this.2 (by decide)⟩
theorem ZgG (OF:Za→Int→Int×Nat) (OV:Za→Int→Int) (X:Za) (n:Nat) (H:List Int→List Int) (b:Bool) (C:Prop) (hC:n≤16→C) (hL:X.L.length=n) (ht:X.t.Ok) (hb:b=Y7 H X) (hOF:OF=ofF) (hOV:OV=ovD OF):
  evF (ZgE OF OV H X n C) 20 33 [.agg (X.c (.vrows 70 n (Zf X.L) n))] ⟨0,[]⟩ (Y6 (fun v=>v=.bool b)):=by
 refine @Eq.mpr _ (YM.Ok (YM.mk X.t.fund X.t.index X.t.cap X.t.dust X.t.fee X.t.delay X.t.k0 X.t.k1)∧
 Z0 (!Xk (YM.mk X.t.fund X.t.index X.t.cap X.t.dust X.t.fee X.t.delay X.t.k0 X.t.k1)) (AV.bool false=AV.bool b)
 (Z0 (X.side !=0)
 (Z0 (X.side !=1) (AV.bool false=AV.bool b)
 (Z0 (decide (X.res<0)) (AV.bool false=AV.bool b)
 (Z0 (decide (X.res>wrap i64 (Int.tdiv X.t.cap 10))) (AV.bool false=AV.bool b)
 (Z0 (decide (X.a0≥0))
 (Z0 (!decide (X.a0≤1125899906842624)) (AV.bool false=AV.bool b)
 (Z0 (decide (X.a1≥0))
 (Z0 (!decide (X.a1≤1125899906842624)) (AV.bool false=AV.bool b)
 (Z0 (wrap i64 (X.a0+X.a1) !=X.t.cap) (AV.bool false=AV.bool b)
 (Z0 (decide (X.i0<0)) (AV.bool false=AV.bool b)
 (Z0 (decide (X.i0>2147483648)) (AV.bool false=AV.bool b)
 (Z0 (decide (X.i1<0)) (AV.bool false=AV.bool b)
 (Z0 (decide (X.i1>2147483648)) (AV.bool false=AV.bool b)
 (Z0 (decide ((↑n:Int)>16)) (AV.bool false=AV.bool b)
 (X.t.fund=X.t.fund∧
 Z0 (decide (X.t.index=X.t.index))
 (Z0 (decide (X.t.cap=X.t.cap))
 (Z0 (decide (X.t.dust=X.t.dust))
 (Z0 (decide (X.t.fee=X.t.fee))
 (Z0 (decide (X.t.delay=X.t.delay))
 (X.t.k0=X.t.k0∧
 X.t.k1=X.t.k1∧
 Z0 (decide (X.side=X.side))
 (Z0 (decide (X.res=X.res))
 ([X.a0,X.a1]=[X.a0,X.a1]∧
 [X.i0,X.i1]=[X.i0,X.i1]∧
 Z0 (decide (n=n))
 (Zf X.L=Zf X.L∧
 Z0 (decide (n=n))
 (C∧
 ∀(i:Nat),
 i≤n→
 (∀(j:Nat),j<i→(fun (i:Nat)=>Y5 H X i=true∧i<n) j)→
 (i=n→
 ∃(X_1:Za),
 LV [AV.arr u8 32 X.t.fund,AV.int i64 X.t.index,AV.int i64 X.t.cap,AV.int i64 X.t.dust,AV.int i64 X.t.fee,AV.int i64 X.t.delay,AV.arr u8 32 X.t.k0,AV.arr u8 32 X.t.k1,AV.int i64 X.side,AV.int i64 X.res,AV.arr i64 2 [X.a0,X.a1],AV.arr i64 2 [X.i0,X.i1],AV.vrows 70 n (Zf X.L) n] X_1∧
 OdB X_1∧
 ∃(X_2:Za),
 LV [AV.arr u8 32 X.t.fund,AV.int i64 X.t.index,AV.int i64 X.t.cap,AV.int i64 X.t.dust,AV.int i64 X.t.fee,AV.int i64 X.t.delay,AV.arr u8 32 X.t.k0,AV.arr u8 32 X.t.k1,AV.int i64 X.side,AV.int i64 X.res,AV.arr i64 2 [X.a0,X.a1],AV.arr i64 2 [X.i0,X.i1],AV.vrows 70 n (Zf X.L) n] X_2∧
 OdB X_2∧
 Z0 (decide ((↑(OF X_1 1).snd:Int)≤8))
 (Z0 (decide ((↑(OF X_2 0).snd:Int)≤8))
 (∃(X_3:Za),
 LV [AV.arr u8 32 X.t.fund,AV.int i64 X.t.index,AV.int i64 X.t.cap,AV.int i64 X.t.dust,AV.int i64 X.t.fee,AV.int i64 X.t.delay,AV.arr u8 32 X.t.k0,AV.arr u8 32 X.t.k1,AV.int i64 X.side,AV.int i64 X.res,AV.arr i64 2 [X.a0,X.a1],AV.arr i64 2 [X.i0,X.i1],AV.vrows 70 n (Zf X.L) n] X_3∧
 OdB X_3∧((0:Int)=0∨(0:Int)=1)∧Z0 (decide (OV X_3 0≥0)) (Z0 ((↑(OF X_1 1).snd:Int)==0) (AV.bool true=AV.bool b) (∃(X_4:Za),LV [AV.arr u8 32 X.t.fund,AV.int i64 X.t.index,AV.int i64 X.t.cap,AV.int i64 X.t.dust,AV.int i64 X.t.fee,AV.int i64 X.t.delay,AV.arr u8 32 X.t.k0,AV.arr u8 32 X.t.k1,AV.int i64 X.side,AV.int i64 X.res,AV.arr i64 2 [X.a0,X.a1],AV.arr i64 2 [X.i0,X.i1],AV.vrows 70 n (Zf X.L) n] X_4∧OdB X_4∧((1:Int)=0∨(1:Int)=1)∧AV.bool (decide (OV X_4 1≥0))=AV.bool b)) (AV.bool false=AV.bool b))
 (AV.bool false=AV.bool b))
 (AV.bool false=AV.bool b))∧
 (i<n∧Y5 H X i=false→AV.bool false=AV.bool b)∧(False→False))
 False)
 False)
 False)
 False)
 False)
 False)
 False)
 False)
 False))))))))
 (AV.bool false=AV.bool b)))
 (AV.bool false=AV.bool b)))))
 (Z0 (decide (X.res<0)) (AV.bool false=AV.bool b)
 (Z0 (decide (X.res>wrap i64 (Int.tdiv X.t.cap 10))) (AV.bool false=AV.bool b)
 (Z0 (decide (X.a0≥0))
 (Z0 (!decide (X.a0≤1125899906842624)) (AV.bool false=AV.bool b)
 (Z0 (decide (X.a1≥0))
 (Z0 (!decide (X.a1≤1125899906842624)) (AV.bool false=AV.bool b)
 (Z0 (wrap i64 (X.a0+X.a1) !=X.t.cap) (AV.bool false=AV.bool b)
 (Z0 (decide (X.i0<0)) (AV.bool false=AV.bool b)
 (Z0 (decide (X.i0>2147483648)) (AV.bool false=AV.bool b)
 (Z0 (decide (X.i1<0)) (AV.bool false=AV.bool b)
 (Z0 (decide (X.i1>2147483648)) (AV.bool false=AV.bool b)
 (Z0 (decide ((↑n:Int)>16)) (AV.bool false=AV.bool b)
 (X.t.fund=X.t.fund∧
 Z0 (decide (X.t.index=X.t.index))
 (Z0 (decide (X.t.cap=X.t.cap))
 (Z0 (decide (X.t.dust=X.t.dust))
 (Z0 (decide (X.t.fee=X.t.fee))
 (Z0 (decide (X.t.delay=X.t.delay))
 (X.t.k0=X.t.k0∧
 X.t.k1=X.t.k1∧
 Z0 (decide (X.side=X.side))
 (Z0 (decide (X.res=X.res))
 ([X.a0,X.a1]=[X.a0,X.a1]∧
 [X.i0,X.i1]=[X.i0,X.i1]∧
 Z0 (decide (n=n))
 (Zf X.L=Zf X.L∧
 Z0 (decide (n=n))
 (C∧
 ∀(i:Nat),
 i≤n→
 (∀(j:Nat),j<i→(fun (i:Nat)=>Y5 H X i=true∧i<n) j)→
 (i=n→
 ∃(X_1:Za),
 LV [AV.arr u8 32 X.t.fund,AV.int i64 X.t.index,AV.int i64 X.t.cap,AV.int i64 X.t.dust,AV.int i64 X.t.fee,AV.int i64 X.t.delay,AV.arr u8 32 X.t.k0,AV.arr u8 32 X.t.k1,AV.int i64 X.side,AV.int i64 X.res,AV.arr i64 2 [X.a0,X.a1],AV.arr i64 2 [X.i0,X.i1],AV.vrows 70 n (Zf X.L) n] X_1∧
 OdB X_1∧
 ∃(X_2:Za),
 LV [AV.arr u8 32 X.t.fund,AV.int i64 X.t.index,AV.int i64 X.t.cap,AV.int i64 X.t.dust,AV.int i64 X.t.fee,AV.int i64 X.t.delay,AV.arr u8 32 X.t.k0,AV.arr u8 32 X.t.k1,AV.int i64 X.side,AV.int i64 X.res,AV.arr i64 2 [X.a0,X.a1],AV.arr i64 2 [X.i0,X.i1],AV.vrows 70 n (Zf X.L) n] X_2∧
 OdB X_2∧
 Z0 (decide ((↑(OF X_1 1).snd:Int)≤8))
 (Z0 (decide ((↑(OF X_2 0).snd:Int)≤8))
 (∃(X_3:Za),
 LV [AV.arr u8 32 X.t.fund,AV.int i64 X.t.index,AV.int i64 X.t.cap,AV.int i64 X.t.dust,AV.int i64 X.t.fee,AV.int i64 X.t.delay,AV.arr u8 32 X.t.k0,AV.arr u8 32 X.t.k1,AV.int i64 X.side,AV.int i64 X.res,AV.arr i64 2 [X.a0,X.a1],AV.arr i64 2 [X.i0,X.i1],AV.vrows 70 n (Zf X.L) n] X_3∧
 OdB X_3∧((0:Int)=0∨(0:Int)=1)∧Z0 (decide (OV X_3 0≥0)) (Z0 ((↑(OF X_1 1).snd:Int)==0) (AV.bool true=AV.bool b) (∃(X_4:Za),LV [AV.arr u8 32 X.t.fund,AV.int i64 X.t.index,AV.int i64 X.t.cap,AV.int i64 X.t.dust,AV.int i64 X.t.fee,AV.int i64 X.t.delay,AV.arr u8 32 X.t.k0,AV.arr u8 32 X.t.k1,AV.int i64 X.side,AV.int i64 X.res,AV.arr i64 2 [X.a0,X.a1],AV.arr i64 2 [X.i0,X.i1],AV.vrows 70 n (Zf X.L) n] X_4∧OdB X_4∧((1:Int)=0∨(1:Int)=1)∧AV.bool (decide (OV X_4 1≥0))=AV.bool b)) (AV.bool false=AV.bool b))
 (AV.bool false=AV.bool b))
 (AV.bool false=AV.bool b))∧
 (i<n∧Y5 H X i=false→AV.bool false=AV.bool b)∧(False→False))
 False)
 False)
 False)
 False)
 False)
 False)
 False)
 False)
 False))))))))
 (AV.bool false=AV.bool b)))
 (AV.bool false=AV.bool b)))))) (by kernel_rfl) ?_
 try simp only [Zi]
 try simp only [Zj]
 try simp only [Zg]
 try simp only [Zk]
 try simp only [Zl]
 try simp only [Zh]
 try simp only [Int.toNat_natCast,Nat.zero_add,true_and,and_true,Nat.le_refl]
 have e0:YM.mk X.t.fund X.t.index X.t.cap X.t.dust X.t.fee X.t.delay X.t.k0 X.t.k1=X.t:=rfl
 have no:¬(Y7 H X=true)→AV.bool false=AV.bool b:=fun h=>by rw [hb,Bool.eq_false_iff.2 h]
 have yes:Y7 H X=true→AV.bool true=AV.bool b:=fun h=>by rw [hb,h]
 have hr:=Ve (H:=H) (X:=X)
 have hh:=U9 (X:=X)
 have key:Y7 H X=true→_:=fun h=>(hh.1 (hr.1 h).1)
 rw [e0]
 subst hL
 refine ⟨ht,fun k=>no fun h=> ?_,fun k1=> ?_⟩
 ·rw [(key h).1] at k;simp at k
 have k1:Xk X.t=true:=by simpa using k1
 have tb:=Y2 k1
 have td:i64.wrap (Int.tdiv X.t.cap 10)=X.t.cap/10:=by rw [Int.tdiv_eq_ediv_of_nonneg (by omega),w64 (by omega)]
 rw [td]
 refine (fun (main:(0≤X.side∧X.side≤1)→_)=>And.intro (fun h0=>And.intro (fun h1=>no fun h=> ?_) (fun h1=>main ?_)) (fun h0=>main ?_)) ?_
 ·have:=(key h).2.1
  have h0:¬X.side=0:=by simpa using h0
  have h1:¬X.side=1:=by simpa using h1
  omega
 ·have h1:X.side=1:=by simpa using h1
  omega
 ·have h0:X.side=0:=by simpa using h0
  omega
 intro hs
 refine ⟨fun k=>no fun h=> ?_,fun k2=>⟨fun k=>no fun h=> ?_,fun k3=>⟨fun k4=>⟨fun k=>no fun h=> ?_,fun k5=>⟨fun k6=>⟨fun k=>no fun h=> ?_,fun k7=> ?_⟩,fun k=>no fun h=> ?_⟩⟩,fun k=>no fun h=> ?_⟩⟩⟩
 ·have:=(key h).2.2.1;omega
 ·have:=(key h).2.2.1;omega
 ·have:=(key h).2.2.2.1
  have:¬X.a0≤1125899906842624:=by simpa using k
  omega
 ·have:=(key h).2.2.2
  have:¬X.a1≤1125899906842624:=by simpa using k
  omega
 rotate_left
 ·have:=(key h).2.2.2;omega
 ·have:=(key h).2.2.2;omega
 have k5:X.a0≤1125899906842624:=by simpa using k5
 have k7:X.a1≤1125899906842624:=by simpa using k7
 have hw:i64.wrap (X.a0+X.a1)=X.a0+X.a1:=w64 (by omega)
 rw [hw]
 refine ⟨fun k=>no fun h=> ?_,fun k8=>⟨fun k=>no fun h=> ?_,fun k9=>⟨fun k=>no fun h=> ?_,fun k10=>⟨fun k=>no fun h=> ?_,fun k11=>⟨fun k=>no fun h=> ?_,fun k12=>⟨fun k=>no fun h=> ?_,fun k13=> ?_⟩⟩⟩⟩⟩⟩
 ·have:=(key h).2.2.2
  have:¬X.a0+X.a1=X.t.cap:=by simpa using k
  omega
 ·have:=(key h).2.2.2.2.2;omega
 ·have:=(key h).2.2.2.2.2;omega
 ·have:=(key h).2.2.2.2.2;omega
 ·have:=(key h).2.2.2.2.2;omega
 ·have q:=(key h).2.2.2.2.2.2.2
  have:=Z3x (side:=X.side) (by omega) X.L
  omega
 have k8:X.a0+X.a1=X.t.cap:=by simpa using k8
 have hC:=hC (by omega)
 repeat' first
  | exact hC
  | (intro i hi hg;refine ⟨fun he=> ?_,fun hx=>no fun h=> ?_,fun h=>h⟩)
  | apply And.intro
  | rfl
 rotate_left
 ·have:=(hr.1 h).2.1 i hx.1
  rw [hx.2] at this;cases this
 subst he
 have hO:Z6a X X.L.length:=⟨rfl,by omega,⟨hs.1,hs.2⟩,fun h hh=>by
  obtain ⟨i,hi,rfl⟩:=List.getElem_of_mem hh
  have:=(hg i hi).1
  unfold Y5 at this
  simp only [Bool.and_eq_true] at this
  rw [List.getD_eq_getElem?_getD,List.getElem?_eq_getElem hi] at this
  have:=(Z7b (Qk this.1).1).2.1
  exact ⟨Int.le_trans (by decide) this.1,this.2⟩⟩
 have hB:OdB X:=⟨hO⟩
 have d0:=ZgF hO 0
 have d1:=ZgF hO 1
 have o0:OV X 0=X.a0-(ofF X 0).1-X.res-X.t.fee:=by
  have:=d0.b
  rw [hOV,hOF]
  show i64.wrap (i64.wrap (i64.wrap (X.a0-(ofF X 0).1)-X.res)-X.t.fee)=_
  rw [w64 (x:=X.a0-(ofF X 0).1) (by omega),w64 (x:=X.a0-(ofF X 0).1-X.res) (by omega),w64 (by omega)]
 have o1:OV X 1=X.a1-(ofF X 1).1-X.res:=by
  have:=d1.b
  rw [hOV,hOF]
  show i64.wrap (i64.wrap (X.a1-(ofF X 1).1)-X.res)=_
  rw [w64 (x:=X.a1-(ofF X 1).1) (by omega),w64 (by omega)]
 rw [←hOF] at d0 d1 o0 o1
 have v0:Yx X 0=X.a0-ZT X.side 0 X.L-X.res-X.t.fee:=rfl
 have v1:Yx X 1=X.a1-ZT X.side 1 X.L-X.res:=by
  rw [VO,if_neg (by decide),Int.sub_zero];rfl
 have z1:(ZR X.side 1 X.L).length=0→ZT X.side 1 X.L=0:=fun h=>Z1H (List.eq_nil_of_length_eq_zero h)
 have hR:Y7 H X=true↔((ZR X.side 0 X.L).length≤8∧(ZR X.side 1 X.L).length≤8∧0≤Yx X 0∧((ZR X.side 1 X.L).length=0∨0≤Yx X 1)):=by
  rw [hr,hh]
  exact ⟨fun h=>⟨h.1.2.2.2.2.2.2.2.1,h.1.2.2.2.2.2.2.2.2,h.2.2.1,h.2.2.2⟩,fun h=>⟨⟨k1,hs,by omega,by omega,by omega,by omega,by omega,h.1,h.2.1⟩,fun i hi=>(hg i hi).1,h.2.2.1,h.2.2.2⟩⟩
 obtain ⟨p1,p2,p3⟩:=d0
 obtain ⟨q1,q2,q3⟩:=d1
 refine ⟨X,.a rfl,hB,X,.a rfl,hB,fun m1=>⟨fun m0=>⟨X,.a rfl,hB,.inl trivial,fun w0=>⟨fun w1=>yes (hR.2 ?_),fun w1=>⟨X,.a rfl,hB,.inr trivial, ?_⟩⟩,fun w0=>no fun h=> ?_⟩,fun m0=>no fun h=> ?_⟩,fun m1=>no fun h=> ?_⟩
 all_goals generalize OF X 0=D0 at*
 all_goals generalize OF X 1=D1 at*
 all_goals generalize ZT X.side 0 X.L=S0 at*
 all_goals generalize ZT X.side 1 X.L=S1 at*
 all_goals generalize (ZR X.side 0 X.L).length=l0 at*
 all_goals generalize (ZR X.side 1 X.L).length=l1 at*
 ·have w1:D1.2=0:=by simpa using w1
  omega
 ·have w1:¬D1.2=0:=by simpa using w1
  by_cases w2:OV X 1≥0
  ·rw [decide_eq_true w2]
   exact yes (hR.2 (by omega))
  ·rw [decide_eq_false w2]
   refine no fun h=> ?_
   have:=hR.1 h
   omega
 ·have:=hR.1 h
  omega
 ·have:=hR.1 h
  omega
 ·have:=hR.1 h
  omega
def ZdG (H:List Int→List Int):ZG:=fun args h K=>ZI none h true 20 args fun a=>match a with
 | [.agg cs]=>∃X,LV cs X∧X.t.Ok∧(∀h∈X.L,h.Ok)∧K (.bool (Y7 H X))
 | _=>False
theorem Zbh (args:List AV) (h:Z6) (K:AV→Prop) (hl:ZdG ZJ args h K):Zm PP 33 args h fun o h'=>∃v,o=.ret v∧h'=h∧K v:=by
 refine Zy.psumm (d:=20) (Zs _ _ _ _ _ hl fun a ha=> ?_)
 split at ha
 ·obtain ⟨X,hX,ht,hok,hK⟩:=ha
  exact ⟨_,(Zy.evV (Zd3 X X.L.length) (ZgG ofF (ovD ofF) X X.L.length ZJ _ _ (fun h=>⟨by omega,rfl,hok⟩) rfl ht rfl rfl rfl)).conv fun E r hr=>hr.head (fun _ hc=>Vi hX hc) fun _ hc=>hc,fun _=>rfl,hK⟩
 ·exact ha.elim
end Go.Tk
end
section
namespace Go.Tk
open IntKind (i64 u8 u32 u64 wrap)
def hdG (F:List Int→Int×Int) (xs:List Int):Za×Int×RS:=
 let a:=Xl xs ⟨0,false⟩
 let b:=Yo F xs a.2 23
 let c:=Yo F xs b.2 1125899906842624
 let d:=Yo F xs c.2 500
 let e:=Yo F xs d.2 400
 let f:=Yo F xs e.2 1000
 let g:=Xl xs f.2
 let h:=Xl xs g.2
 let i:=Yo F xs h.2 1
 let j:=Yo F xs i.2 1125899906842624
 let k:=Yo F xs j.2 1125899906842624
 let l:=Yo F xs k.2 1125899906842624
 let m:=Yo F xs l.2 2147483648
 let n:=Yo F xs m.2 2147483648
 let q:=Yo F xs n.2 16
 (⟨⟨a.1,b.1,c.1,d.1,e.1,f.1,g.1,h.1⟩,i.1,j.1,k.1,l.1,m.1,n.1,[]⟩,q.1,q.2)
def Wb (F:List Int→Int×Int) (xs:List Int):Option Za:=match (hdG F xs).2.2.bad with
 | true=>none
 | false=>(rdL F xs (hdG F xs).2.2.o (hdG F xs).2.1.toNat).bind fun l=>if l.2=xs.length then some { (hdG F xs).1 with L:=l.1} else none
theorem Z7l {xs:List Int} (hb:Bytes xs) (s:RS):(Xl xs s).1.length=32∧Bytes (Xl xs s).1:=by
 unfold Xl
 split
 ·exact ⟨rfl,Z3y⟩
 ·split
  ·rename_i hr;exact Z01 hb hr
  ·exact ⟨rfl,Z3y⟩
theorem Zd4 {F:List Int→Int×Int} {xs:List Int} {s t:RS} {m v:Int} (hm:0≤m) (h:Yo F xs s m=(v,t)):v≤m:=by
 unfold Yo at h
 split at h
 ·cases h;exact hm
 ·split at h
  ·rename_i hr
   cases h
   unfold rdN at hr
   split at hr
   ·rename_i hc;cases hr;exact hc.2
   ·cases hr
  ·cases h;exact hm
noncomputable def ZgH (F:List Int→Int×Int) (H:List Int→List Int):Zd:=((((G0.withP 121 (Z7g F)).withP 120 Z3B).withP 122 (Zcg F)).withP 33 (ZdG H)).withL 59 0 (lo7 F tkS tkE ZcK)
def Z4Q (ok:Bool) (X:Za) (n:Nat):KO:=fun o h=>match o with
 | .ret (.tuple [.agg _,.int .i64 e])=>match decide (e=0) with
  | true=>Z0 ok (Ya 0 (.ret (.tuple [.agg (X.c (slH 0 n)),.int .i64 0])) 1 [(0,.rows 70 n (Zf X.L))] o h) False
  | false=>Z0 ok False (Ya 0 (.ret (.tuple [.agg (X3.c .nilslice),.int .i64 204])) 0 [] o h)
 | _=>False
theorem ZdH (F:List Int→Int×Int) (H:List Int→List Int) (xs:List Int) (N:Nat) (X:Za) (n:Nat) (ok:Bool) (hN:xs.length=N) (hb:Bytes xs) (hn:X.L.length=n) (hok:ok=true→Wb F xs=some X∧Y7 H X=true) (hno:ok=false→∀Y,Wb F xs=some Y→Y7 H Y=false):
  evF (ZgH F H) 20 18 [.vints .u8 xs N] ⟨0,[]⟩ (Z4Q ok X n):=by
 refine @Eq.mpr _ (let q1:=X3.t;
 let q2:=Zc=q1.fund;
 let q3:=Zc=q1.k0;
 let q4:=Zc=q1.k1;
 let q5:=[(0:Int),0];
 let q6:=q5=[X3.a0,X3.a1];
 let q7:=q5=[X3.i0,X3.i1];
 let q8:=Z0 ok False (q2∧q3∧q4∧q6∧q7∧True);
 let q9:=X.t;
 ∃(xs_1:List Int),
 let q19:=List.length xs_1;
 ∃(s:RS),
 let q21:=s.o;
 xs=List.drop q21 xs_1∧
 (N=q19-q21∧false=s.bad∧q21≤q19)∧
 ∀(v:List Int) (t:RS),
 let q23:=t.o;
 Xl xs_1 s=(v,t)→
 q23≤q19→
 ∃(xs:List Int),
 let q25:=List.length xs;
 ∃(s:RS),
 let q27:=s.o;
 List.drop q23 xs_1=List.drop q27 xs∧
 (q19-q23=q25-q27∧t.bad=s.bad∧q27≤q25∧Bytes xs∧(0:Int)≤23)∧
 ∀(v_1:Int) (t:RS),
 let q29:=t.o;
 Yo F xs s 23=(v_1,t)→
 q29≤q25→
 ∃(xs_2:List Int),
 let q31:=List.length xs_2;
 ∃(s:RS),
 let q33:=s.o;
 List.drop q29 xs=List.drop q33 xs_2∧
 (q25-q29=q31-q33∧t.bad=s.bad∧q33≤q31∧Bytes xs_2∧(0:Int)≤1125899906842624)∧
 ∀(v_2:Int) (t:RS),
 let q35:=t.o;
 Yo F xs_2 s 1125899906842624=(v_2,t)→
 q35≤q31→
 ∃(xs:List Int),
 let q37:=List.length xs;
 ∃(s:RS),
 let q39:=s.o;
 List.drop q35 xs_2=List.drop q39 xs∧
 (q31-q35=q37-q39∧t.bad=s.bad∧q39≤q37∧Bytes xs∧(0:Int)≤500)∧
 ∀(v_3:Int) (t:RS),
 let q41:=t.o;
 Yo F xs s 500=(v_3,t)→
 q41≤q37→
 ∃(xs_3:List Int),
 let q43:=List.length xs_3;
 ∃(s:RS),
 let q45:=s.o;
 List.drop q41 xs=List.drop q45 xs_3∧
 (q37-q41=q43-q45∧t.bad=s.bad∧q45≤q43∧Bytes xs_3∧(0:Int)≤400)∧
 ∀(v_4:Int) (t:RS),
 let q47:=t.o;
 Yo F xs_3 s 400=(v_4,t)→
 q47≤q43→
 ∃(xs:List Int),
 let q49:=List.length xs;
 ∃(s:RS),
 let q51:=s.o;
 List.drop q47 xs_3=List.drop q51 xs∧
 (q43-q47=q49-q51∧t.bad=s.bad∧q51≤q49∧Bytes xs∧(0:Int)≤1000)∧
 ∀(v_5:Int) (t:RS),
 let q53:=t.o;
 Yo F xs s 1000=(v_5,t)→
 q53≤q49→
 ∃(xs_4:List Int),
 let q55:=List.length xs_4;
 ∃(s:RS),
 let q57:=s.o;
 List.drop q53 xs=List.drop q57 xs_4∧
 (q49-q53=q55-q57∧t.bad=s.bad∧q57≤q55)∧
 ∀(v_6:List Int) (t:RS),
 let q59:=t.o;
 Xl xs_4 s=(v_6,t)→
 q59≤q55→
 ∃(xs:List Int),
 let q61:=List.length xs;
 ∃(s:RS),
 let q63:=s.o;
 List.drop q59 xs_4=List.drop q63 xs∧
 (q55-q59=q61-q63∧t.bad=s.bad∧q63≤q61)∧
 ∀(v_7:List Int) (t:RS),
 let q65:=t.o;
 Xl xs s=(v_7,t)→
 q65≤q61→
 ∃(xs_5:List Int),
 let q67:=List.length xs_5;
 ∃(s:RS),
 let q69:=s.o;
 List.drop q65 xs=List.drop q69 xs_5∧
 (q61-q65=q67-q69∧t.bad=s.bad∧q69≤q67∧Bytes xs_5∧(0:Int)≤1)∧
 ∀(v_8:Int) (t:RS),
 let q71:=t.o;
 Yo F xs_5 s 1=(v_8,t)→
 q71≤q67→
 ∃(xs:List Int),
 let q73:=List.length xs;
 ∃(s:RS),
 let q75:=s.o;
 List.drop q71 xs_5=List.drop q75 xs∧
 (q67-q71=q73-q75∧t.bad=s.bad∧q75≤q73∧Bytes xs∧(0:Int)≤1125899906842624)∧
 ∀(v_9:Int) (t:RS),
 let q77:=t.o;
 Yo F xs s 1125899906842624=(v_9,t)→
 q77≤q73→
 ∃(xs_6:List Int),
 let q79:=List.length xs_6;
 ∃(s:RS),
 let q81:=s.o;
 List.drop q77 xs=List.drop q81 xs_6∧
 (q73-q77=q79-q81∧t.bad=s.bad∧q81≤q79∧Bytes xs_6∧(0:Int)≤1125899906842624)∧
 ∀(v_10:Int) (t:RS),
 let q83:=t.o;
 Yo F xs_6 s 1125899906842624=(v_10,t)→
 q83≤q79→
 ∃(xs:List Int),
 let q85:=List.length xs;
 ∃(s:RS),
 let q87:=s.o;
 List.drop q83 xs_6=List.drop q87 xs∧
 (q79-q83=q85-q87∧t.bad=s.bad∧q87≤q85∧Bytes xs∧(0:Int)≤1125899906842624)∧
 ∀(v_11:Int) (t:RS),
 let q89:=t.o;
 Yo F xs s 1125899906842624=(v_11,t)→
 q89≤q85→
 ∃(xs_7:List Int),
 let q91:=List.length xs_7;
 ∃(s:RS),
 let q93:=s.o;
 List.drop q89 xs=List.drop q93 xs_7∧
 (q85-q89=q91-q93∧t.bad=s.bad∧q93≤q91∧Bytes xs_7∧(0:Int)≤2147483648)∧
 ∀(v_12:Int) (t:RS),
 let q95:=t.o;
 Yo F xs_7 s 2147483648=(v_12,t)→
 q95≤q91→
 ∃(xs:List Int),
 let q97:=List.length xs;
 ∃(s:RS),
 let q99:=s.o;
 List.drop q95 xs_7=List.drop q99 xs∧
 (q91-q95=q97-q99∧t.bad=s.bad∧q99≤q97∧Bytes xs∧(0:Int)≤2147483648)∧
 ∀(v_13:Int) (t:RS),
 let q101:=t.o;
 Yo F xs s 2147483648=(v_13,t)→
 q101≤q97→
 ∃(xs_8:List Int),
 let q103:=List.length xs_8;
 ∃(s:RS),
 let q105:=s.o;
 List.drop q101 xs=List.drop q105 xs_8∧
 (q97-q101=q103-q105∧t.bad=s.bad∧q105≤q103∧Bytes xs_8∧(0:Int)≤16)∧
 ∀(v_14:Int) (t:RS),
 let q107:=t.o;
 Yo F xs_8 s 16=(v_14,t)→
 q107≤q103→
 ∃(X_1:Za),
 let q109:=X_1.t;
 let q110:=q109.fund;
 let q111:=q109.index;
 let q112:=q109.cap;
 let q113:=q109.dust;
 let q114:=q109.fee;
 let q115:=q109.delay;
 let q116:=q109.k0;
 let q117:=q109.k1;
 let q118:=X_1.side;
 let q119:=X_1.res;
 let q120:=[X_1.a0,X_1.a1];
 let q121:=[X_1.i0,X_1.i1];
 let q122:=q110=q110;
 let q123:=decide (q111=q111);
 let q124:=decide (q112=q112);
 let q125:=decide (q113=q113);
 let q126:=decide (q114=q114);
 let q127:=decide (q115=q115);
 let q128:=q116=q116;
 let q129:=q117=q117;
 let q130:=decide (q118=q118);
 let q131:=decide (q119=q119);
 let q132:=q120=q120;
 let q133:=q121=q121;
 ∃(xs:List Int),
 let q159:=List.length xs;
 ∃(cnt:Int),
 ∃(t_1:RS),
 let q161:=t_1.o;
 let q162:=t_1.bad;
 Z0 (decide (v_14=cnt))
 (q2∧
 q3∧
 q4∧
 q6∧
 q7∧
 q2∧
 q3∧
 q4∧
 q6∧
 q7∧
 List.drop q107 xs_8=List.drop q161 xs∧
 Z0 (decide (q103-q107=q159-q161))
 (Z0 (decide (t.bad=q162))
 (v=q110∧
 Z0 (decide (v_1=q111))
 (Z0 (decide (v_2=q112))
 (Z0 (decide (v_3=q113))
 (Z0 (decide (v_4=q114))
 (Z0 (decide (v_5=q115))
 (v_6=q116∧
 v_7=q117∧
 Z0 (decide (v_8=q118))
 (Z0 (decide (v_9=q119))
 ([v_10,v_11]=q120∧
 [v_12,v_13]=q121∧
 q161≤q159∧
 Bytes xs∧
 cnt≤16∧
 (∀(n_1:Nat),
 let q165:=decide (n_1=n_1);
 let q166:=decide (n_1=n);
 ∀(L:List Z9) (p:Nat),
 n_1=Int.toNat cnt→
 q162=false→
 rdL F xs q161 n_1=some (L,p)→
 (List.length L=n_1∧p≤q159∧n_1≤16∧∀(x:Z9),x∈L→Z9.Ok x)→
 q122∧
 Z0 q123
 (Z0 q124
 (Z0 q125
 (Z0 q126
 (Z0 q127
 (q128∧
 q129∧
 Z0 q130
 (Z0 q131
 (q132∧
 q133∧
 Z0 q165
 (Z0 q165
 (Z0 (decide ((↑(q159-p):Int)>0)) q8
 (Z0 (decide (0+n_1≤n_1))
 ((∀(i:Nat),i<n_1→true=true)∧
 ∃(X_2:Za),LV [AV.arr u8 32 q110,AV.int i64 q111,AV.int i64 q112,AV.int i64 q113,AV.int i64 q114,AV.int i64 q115,AV.arr u8 32 q116,AV.arr u8 32 q117,AV.int i64 q118,AV.int i64 q119,AV.arr i64 2 q120,AV.arr i64 2 q121,AV.vrows 70 n_1 (XW 0 (Zf L)) n_1] X_2∧YM.Ok X_2.t∧(∀(h:Z9),List.Mem h X_2.L→Z9.Ok h)∧Z0 (!Y7 H X_2) q8 (Z0 ok (q110=q9.fund∧Z0 (decide (q111=q9.index)) (Z0 (decide (q112=q9.cap)) (Z0 (decide (q113=q9.dust)) (Z0 (decide (q114=q9.fee)) (Z0 (decide (q115=q9.delay)) (q116=q9.k0∧q117=q9.k1∧Z0 (decide (q118=X.side)) (Z0 (decide (q119=X.res)) (q120=[X.a0,X.a1]∧q121=[X.i0,X.i1]∧Z0 q166 (Z0 (decide (n≤n_1)) (Z0 q166 (ZO 0 [(0,6)] n (Zf X.L) (Zf L)∧True) False) False) False) False) False) False) False) False) False) False) False))
 False))
 False)
 False)
 False)
 False)
 False)
 False)
 False)
 False)
 False)∧
 (q162=true∨rdL F xs q161 (Int.toNat cnt)=none→q122∧Z0 q123 (Z0 q124 (Z0 q125 (Z0 q126 (Z0 q127 (q128∧q129∧Z0 q130 (Z0 q131 (q132∧q133∧q8) False) False) False) False) False) False) False))
 False)
 False)
 False)
 False)
 False)
 False)
 False)
 False)
 False)
 False) (by kernel_rfl) ?_
 conv=>zeta
 try simp only [Zi]
 try simp only [Zj]
 try simp only [Zg]
 try simp only [Zk]
 try simp only [Zl]
 try simp only [Zh]
 try simp only [Int.toNat_natCast,Nat.zero_add,true_and,and_true,Nat.le_refl]
 subst hN
 refine ⟨xs,⟨0,false⟩,rfl,⟨rfl,rfl,Nat.zero_le _⟩,fun v0 t0 e0 b0=> ?_⟩
 refine ⟨xs,t0,rfl,⟨rfl,rfl,b0,hb,by decide⟩,fun v1 t1 e1 b1=> ?_⟩
 refine ⟨xs,t1,rfl,⟨rfl,rfl,b1,hb,by decide⟩,fun v2 t2 e2 b2=> ?_⟩
 refine ⟨xs,t2,rfl,⟨rfl,rfl,b2,hb,by decide⟩,fun v3 t3 e3 b3=> ?_⟩
 refine ⟨xs,t3,rfl,⟨rfl,rfl,b3,hb,by decide⟩,fun v4 t4 e4 b4=> ?_⟩
 refine ⟨xs,t4,rfl,⟨rfl,rfl,b4,hb,by decide⟩,fun v5 t5 e5 b5=> ?_⟩
 refine ⟨xs,t5,rfl,⟨rfl,rfl,b5⟩,fun v6 t6 e6 b6=> ?_⟩
 refine ⟨xs,t6,rfl,⟨rfl,rfl,b6⟩,fun v7 t7 e7 b7=> ?_⟩
 refine ⟨xs,t7,rfl,⟨rfl,rfl,b7,hb,by decide⟩,fun v8 t8 e8 b8=> ?_⟩
 refine ⟨xs,t8,rfl,⟨rfl,rfl,b8,hb,by decide⟩,fun v9 t9 e9 b9=> ?_⟩
 refine ⟨xs,t9,rfl,⟨rfl,rfl,b9,hb,by decide⟩,fun v10 t10 e10 b10=> ?_⟩
 refine ⟨xs,t10,rfl,⟨rfl,rfl,b10,hb,by decide⟩,fun v11 t11 e11 b11=> ?_⟩
 refine ⟨xs,t11,rfl,⟨rfl,rfl,b11,hb,by decide⟩,fun v12 t12 e12 b12=> ?_⟩
 refine ⟨xs,t12,rfl,⟨rfl,rfl,b12,hb,by decide⟩,fun v13 t13 e13 b13=> ?_⟩
 refine ⟨xs,t13,rfl,⟨rfl,rfl,b13,hb,by decide⟩,fun v14 t14 e14 b14=> ?_⟩
 have hd:hdG F xs=(⟨⟨v0,v1,v2,v3,v4,v5,v6,v7⟩,v8,v9,v10,v11,v12,v13,[]⟩,v14,t14):=by
  unfold hdG
  simp only [e0,e1,e2,e3,e4,e5,e6,e7,e8,e9,e10,e11,e12,e13,e14]
 have hc:v14≤16:=Zd4 (by decide) e14
 have q6:=Z7l hb t5
 have q7:=Z7l hb t6
 rw [e6] at q6
 rw [e7] at q7
 have bad:Wb F xs=none→ok=false:=fun h=>Bool.eq_false_iff.2 fun e=>by rw [(hok e).1] at h;cases h
 refine ⟨⟨⟨v0,v1,v2,v3,v4,v5,v6,v7⟩,v8,v9,v10,v11,v12,v13,[]⟩,xs,v14,t14, ?_⟩
 repeat' first
  | exact b14
  | exact hb
  | exact hc
  | rfl
  | trivial
  | (refine fun n1 L p en hbf hrd hL=> ?_)
  | (refine fun hgt=> ?_)
  | apply And.intro
 ·refine bad ?_
  subst en
  have:¬p=xs.length:=by omega
  unfold Wb
  rw [hd]
  simp [hbf,hrd,this]
 ·subst en
  have hp:p=xs.length:=by omega
  have hr:Wb F xs=some ⟨⟨v0,v1,v2,v3,v4,v5,v6,v7⟩,v8,v9,v10,v11,v12,v13,L⟩:=by
   unfold Wb
   rw [hd]
   simp [hbf,hrd,hp]
  refine ⟨⟨⟨v0,v1,v2,v3,v4,v5,v6,v7⟩,v8,v9,v10,v11,v12,v13,L⟩,.a (by rw [←hL.1];rfl),⟨q6.1,q7.1,q6.2,q7.2⟩,hL.2.2.2,fun hR=> ?_,fun hR=> ?_⟩
  ·have e:ok=false:=Bool.eq_false_iff.2 fun e=>by
    obtain ⟨e1,e2⟩:=hok e
    rw [hr] at e1
    cases e1
    rw [e2] at hR
    cases hR
   repeat' first|exact e|rfl|apply And.intro
  ·have e:ok=true:=by
    cases h:ok with
    | true=>rfl
    | false=>
     rw [hno h _ hr] at hR
     cases hR
   obtain ⟨e1,e2⟩:=hok e
   rw [hr] at e1
   cases e1
   subst hn
   repeat' first
    | exact e
    | exact hL.1.symm
    | exact Nat.le_of_eq hL.1
    | apply And.intro
    | rfl
    | exact ZM fun _ _=>rfl
 ·refine bad ?_
  unfold Wb
  rw [hd]
  rcases hgt with h|h
  ·simp [h]
  ·cases hq:t14.bad<;>simp [hq,h]
end Go.Tk
end
section
namespace Go.Tk
open IntKind (i64 u8 u32 u64 wrap)
theorem Yj {F:List Int→Int×Int} {xs:List Int} {s t:RS} {m v:Int} (h:Yo F xs s m=(v,t)) (hb:t.bad=false):s.bad=false∧rdN F xs s.o m=some (v,t.o):=by
 unfold Yo at h
 split at h
 ·rename_i hs;cases h;rw [hs] at hb;cases hb
 ·rename_i hs
  split at h
  ·rename_i hr;cases h;exact ⟨hs,hr⟩
  ·cases h;cases hb
theorem UX {xs:List Int} {s t:RS} {v:List Int} (h:Xl xs s=(v,t)) (hb:t.bad=false):s.bad=false∧rdH xs s.o=some (v,t.o):=by
 unfold Xl at h
 split at h
 ·rename_i hs;cases h;rw [hs] at hb;cases hb
 ·rename_i hs
  split at h
  ·rename_i hr;cases h;exact ⟨hs,hr⟩
  ·cases h;cases hb
theorem X0 {F:List Int→Int×Int} {xs:List Int} {o p:Nat} {m v:Int} (h:rdN F xs o m=some (v,p)):Yo F xs ⟨o,false⟩ m=(v,⟨p,false⟩):=by
 unfold Yo;simp only [h]
theorem Z1M {xs v:List Int} {o p:Nat} (h:rdH xs o=some (v,p)):Xl xs ⟨o,false⟩=(v,⟨p,false⟩):=by
 unfold Xl;simp only [h]
theorem Wc {F:List Int→Int×Int} {xs:List Int} {o p:Nat} {m m' v:Int} (h:rdN F xs o m=some (v,p)) (hm:v≤m'):rdN F xs o m'=some (v,p):=by
 unfold rdN at h⊢
 split at h
 ·rename_i hc
  simp only [Option.some.injEq,Prod.mk.injEq] at h
  rw [if_pos ⟨hc.1,by rw [h.1];exact hm⟩,h.1,h.2]
 ·cases h
theorem VP {F:List Int→Int×Int} {xs:List Int} {o p:Nat} {m v:Int} (h:rdN F xs o m=some (v,p)):v≤m:=by
 unfold rdN at h
 split at h
 ·rename_i hc
  simp only [Option.some.injEq,Prod.mk.injEq] at h
  rw [←h.1];exact hc.2
 ·cases h
theorem ZdI {F:List Int→Int×Int} {xs:List Int} {o p q r s t:Nat} {a b c d e ma mb mc md me:Int} (h1:rdN F xs o ma=some (a,p)) (h2:rdN F xs p mb=some (b,q)) (h3:rdN F xs q mc=some (c,r)) (h4:rdN F xs r md=some (d,s)) (h5:rdN F xs s me=some (e,t)) (ha:ma≤1125899906842624) (hb:mb≤1125899906842624) (hc:mc≤1125899906842624) (hd:md≤1125899906842624) (he:me≤1125899906842624):r5 F xs o=some (⟨a,b,c,d,e⟩,t):=by
 have k1:=Wc (m':=1125899906842624) h1 (Int.le_trans (VP h1) ha)
 have k2:=Wc (m':=1125899906842624) h2 (Int.le_trans (VP h2) hb)
 have k3:=Wc (m':=1125899906842624) h3 (Int.le_trans (VP h3) hc)
 have k4:=Wc (m':=1125899906842624) h4 (Int.le_trans (VP h4) hd)
 have k5:=Wc (m':=1125899906842624) h5 (Int.le_trans (VP h5) he)
 simp [r5,k1,k2,k3,k4,k5]
theorem Zbi {F:List Int→Int×Int} {xs:List Int} {o t:Nat} {n:N5} (h:r5 F xs o=some (n,t)):∃p q r s,rdN F xs o 1125899906842624=some (n.a,p)∧rdN F xs p 1125899906842624=some (n.b,q)∧rdN F xs q 1125899906842624=some (n.c,r)∧rdN F xs r 1125899906842624=some (n.d,s)∧rdN F xs s 1125899906842624=some (n.e,t):=by
 unfold r5 at h
 simp only [Option.bind_eq_some_iff] at h
 obtain ⟨a,h1,b,h2,c,h3,d,h4,e,h5,h6⟩:=h
 cases h6
 exact ⟨_,_,_,_,h1,h2,h3,h4,h5⟩
theorem Zbj {F:List Int→Int×Int} {xs:List Int} {X:Za} (h:Wb F xs=some X):YN F xs=some X:=by
 rcases e0:Xl xs ⟨0,false⟩ with ⟨v0,t0⟩
 rcases e1:Yo F xs t0 23 with ⟨v1,t1⟩
 rcases e2:Yo F xs t1 1125899906842624 with ⟨v2,t2⟩
 rcases e3:Yo F xs t2 500 with ⟨v3,t3⟩
 rcases e4:Yo F xs t3 400 with ⟨v4,t4⟩
 rcases e5:Yo F xs t4 1000 with ⟨v5,t5⟩
 rcases e6:Xl xs t5 with ⟨v6,t6⟩
 rcases e7:Xl xs t6 with ⟨v7,t7⟩
 rcases e8:Yo F xs t7 1 with ⟨v8,t8⟩
 rcases e9:Yo F xs t8 1125899906842624 with ⟨v9,t9⟩
 rcases e10:Yo F xs t9 1125899906842624 with ⟨v10,t10⟩
 rcases e11:Yo F xs t10 1125899906842624 with ⟨v11,t11⟩
 rcases e12:Yo F xs t11 2147483648 with ⟨v12,t12⟩
 rcases e13:Yo F xs t12 2147483648 with ⟨v13,t13⟩
 rcases e14:Yo F xs t13 16 with ⟨v14,t14⟩
 have hd:hdG F xs=(⟨⟨v0,v1,v2,v3,v4,v5,v6,v7⟩,v8,v9,v10,v11,v12,v13,[]⟩,v14,t14):=by
  unfold hdG
  simp only [e0,e1,e2,e3,e4,e5,e6,e7,e8,e9,e10,e11,e12,e13,e14]
 unfold Wb at h
 rw [hd] at h
 split at h
 ·cases h
 rename_i hb
 obtain ⟨c14,r14⟩:=Yj e14 hb
 obtain ⟨c13,r13⟩:=Yj e13 c14
 obtain ⟨c12,r12⟩:=Yj e12 c13
 obtain ⟨c11,r11⟩:=Yj e11 c12
 obtain ⟨c10,r10⟩:=Yj e10 c11
 obtain ⟨c9,r9⟩:=Yj e9 c10
 obtain ⟨c8,r8⟩:=Yj e8 c9
 obtain ⟨c7,r7⟩:=UX e7 c8
 obtain ⟨c6,r6⟩:=UX e6 c7
 obtain ⟨c5,r5'⟩:=Yj e5 c6
 obtain ⟨c4,r4⟩:=Yj e4 c5
 obtain ⟨c3,r3⟩:=Yj e3 c4
 obtain ⟨c2,r2⟩:=Yj e2 c3
 obtain ⟨c1,r1⟩:=Yj e1 c2
 obtain ⟨c0,r0⟩:=UX e0 c1
 have k1:=ZdI r1 r2 r3 r4 r5' (by decide) (by decide) (by decide) (by decide) (by decide)
 have k2:=ZdI r9 r10 r11 r12 r13 (by decide) (by decide) (by decide) (by decide) (by decide)
 have hh:UW F xs=some (⟨⟨v0,v1,v2,v3,v4,v5,v6,v7⟩,v8,v9,v10,v11,v12,v13,[]⟩,v14,t14.o):=by
  unfold UW
  simp [r0,k1,r6,r7,r8,k2,r14]
 unfold YN
 rw [hh]
 exact h
theorem ZeX {F:List Int→Int×Int} {H:List Int→List Int} {xs:List Int} {X:Za} (h:YN F xs=some X) (hR:Y7 H X=true):Wb F xs=some X:=by
 unfold YN UW at h
 simp only [Option.bind_eq_some_iff] at h
 obtain ⟨hdr,⟨⟨v0,o0⟩,r0,⟨n5,o5⟩,k1,⟨v6,o6⟩,r6,⟨v7,o7⟩,r7,⟨v8,o8⟩,r8,⟨m5,o13⟩,k2,⟨v14,o14⟩,r14,he⟩,⟨L,p⟩,hL,hX⟩:=h
 obtain ⟨o1,o2,o3,o4,q1,q2,q3,q4,q5⟩:=Zbi k1
 obtain ⟨o9,o10,o11,o12,q9,q10,q11,q12,q13⟩:=Zbi k2
 cases he
 dsimp only at hL hX r0 r6 r7 r8 r14 q1 q9
 split at hX
 case isFalse=>cases hX
 rename_i hp
 cases hX
 have hk:=U9.1 (Ve.1 hR).1
 have tb:=Y2 hk.1
 dsimp only at tb hk
 have f0:=Z1M r0
 have f1:=X0 (Wc (m':=23) q1 tb.1.2)
 have f2:=X0 q2
 have f3:=X0 (Wc (m':=500) q3 tb.2.2.1.2)
 have f4:=X0 (Wc (m':=400) q4 tb.2.2.2.1.2)
 have f5:=X0 (Wc (m':=1000) q5 tb.2.2.2.2.2)
 have f6:=Z1M r6
 have f7:=Z1M r7
 have f8:=X0 r8
 have f9:=X0 q9
 have f10:=X0 q10
 have f11:=X0 q11
 have f12:=X0 (Wc (m':=2147483648) q12 hk.2.2.2.2.2.1.2)
 have f13:=X0 (Wc (m':=2147483648) q13 hk.2.2.2.2.2.2.1.2)
 have f14:=X0 r14
 have hd:hdG F xs=(⟨⟨v0,n5.a,n5.b,n5.c,n5.d,n5.e,v6,v7⟩,v8,m5.a,m5.b,m5.c,m5.d,m5.e,[]⟩,v14,⟨o14,false⟩):=by
  unfold hdG
  simp only [f0,f1,f2,f3,f4,f5,f6,f7,f8,f9,f10,f11,f12,f13,f14]
 unfold Wb
 rw [hd]
 simp [hL,hp]
def Z6g (F:List Int→Int×Int) (H:List Int→List Int) (R:Option Za):Yn:=fun args h K=>frA [] h 20 args fun Bs a=>match Bs,a with
 | [],[.vints .u8 xs N]=>(xs.length=N∧Bytes xs)∧Z4K F H xs R∧(match R with
  | some X=>K (.ret (.tuple [.agg (X.c (slH h.next X.L.length)),.int .i64 0])) ⟨h.next+1,(h.next,.rows 70 X.L.length (Zf X.L))::h.bs⟩
  | none=>K (.ret (.tuple [.agg (X3.c .nilslice),.int .i64 204])) h)
 | _,_=>False
theorem Zd5 {X:Za} {n:Nat} {o:Out} {h:Z6} (hk:Z4Q true X n o h):Ya 0 (.ret (.tuple [.agg (X.c (slH 0 n)),.int .i64 0])) 1 [(0,.rows 70 n (Zf X.L))] o h:=by
 unfold Z4Q at hk
 split at hk
 ·split at hk
  ·exact hk
  ·exact hk.elim
 ·exact hk.elim
theorem Zd6 {X:Za} {n:Nat} {o:Out} {h:Z6} (hk:Z4Q false X n o h):Ya 0 (.ret (.tuple [.agg (X3.c .nilslice),.int .i64 204])) 0 [] o h:=by
 unfold Z4Q at hk
 split at hk
 ·split at hk
  ·exact hk.elim
  ·exact hk
 ·exact hk.elim
theorem Z7m:(ZgH (Ze Zn) ZJ).Ok:=Zd.withL_join (H:=Z4M (Ze Zn)) (Zd.withP_ok (Zd.withP_ok (Zd.withP_ok (Zd.withP_ok Zu Z4L) Z2E) Z72) Zbh) (by unfold Z4M;simp only [Qj]) ZcL
theorem Z8C {R:Option Za} (args:List AV) (h:Z6) (K:KO) (hl:Z6g (Ze Zn) ZJ R args h K):Zm PP 18 args h K:=by
 unfold Z6g at hl
 refine Spec.fsumm hl fun Bs a hlen hK0=> ?_
 split at hK0
 ·obtain ⟨⟨h1,h3⟩,⟨hR⟩,hK⟩:=hK0
  rename_i xs N
  cases R with
  | some X=>exact ⟨_,_,_,_,_,Spec.evK Z7m (ZdH _ ZJ xs N X X.L.length true h1 h3 rfl (fun _=>⟨ZeX hR.1 hR.2,hR.2⟩) (fun h=>by cases h)) (fun o' h' hk=>Zd5 hk),Nat.zero_le _,.ret _ _ rfl,.cons _ _ _ _ _ _ rfl (.rows _ _ _ (fun _ _=>rfl)) .nil,hK⟩
  | none=>exact ⟨_,_,_,_,_,Spec.evK Z7m (ZdH _ ZJ xs N ⟨⟨[],0,0,0,0,0,[],[]⟩,0,0,0,0,0,0,[]⟩ 0 false h1 h3 rfl (fun h=>by cases h) (fun _ Y hY=>hR Y (Zbj hY))) (fun o' h' hk=>Zd6 hk),Nat.zero_le _,.ret _ _ rfl,.nil,hK⟩
 ·exact hK0.elim
end Go.Tk
end
section
namespace Go.Tk
open IntKind (i64 u8 u32 u64 wrap)
end Go.Tk
end
section
namespace Go.Tk
open IntKind (i64 u8 u32 u64 wrap)
theorem Z8D {x:Z9}:Z8m ltH [x]:=by simp [Z8m]
def Z6h:Yn:=fun args h K=>match args with
 | [.nslice ⟨b,0,70,0,0⟩ 70 _ _,_]=>frA [b] h 20 args fun Bs a=>match Bs,a with
  | [.rows 70 1 f],[.nslice ⟨0,0,70,0,0⟩ 70 1 _,.func (.func 85) [] []]=>match f 0 with
   | [.bool ow,.int .i64 id,.int .i64 am,.arr .u8 32 ha,.int .i64 ex,.int .i64 st,.int .i64 fi,.arr .u8 32 se]=>K (.ret (.tuple [])) ⟨h.next,(b,.rows 70 1 (Zf [⟨ow,id,am,ha,ex,st,fi,se⟩]))::YT h.bs b⟩
   | _=>False
  | _,_=>False
 | _=>False
theorem Z8E (args:List AV) (h:Z6) (K:KO) (hl:Z6h args h K):Zm PP 84 args h K:=by
 unfold Z6h at hl
 split at hl
 ·refine Spec.fsumm hl fun Bs a hlen hK0=> ?_
  split at hK0
  ·split at hK0
   ·rename_i f _ _ ow id am ha ex st fi se hf
    have hs:ZaI [⟨ow,id,am,ha,ex,st,fi,se⟩] [⟨ow,id,am,ha,ex,st,fi,se⟩] 1:=⟨rfl,by decide,by decide,.refl _,Z8D,fun a ha b hb _ _=>by
     simp only [List.mem_cons,List.not_mem_nil,or_false] at ha hb
     rw [ha,hb]⟩
    exact ⟨_,_,_,_,_,ZeE (fun i hi=>by
     have:i=0:=by omega
     subst this;rw [hf];rfl) hs,Nat.le_refl _,.ret _ _ rfl,.cons _ _ _ _ _ _ rfl (.rows _ _ _ (fun i _=>XA _ i)) .nil,hK0⟩
   ·exact hK0.elim
  ·exact hK0.elim
 ·exact hl.elim
noncomputable def ZgI:Zd:=G0.withF 84 Z6h
theorem Zd7:ZgI.Ok:=Zd.withF_ok Zu Z8E
theorem ZgJ (u:Unit) :
  evF ZgI 40 7 [] ⟨0,[]⟩ (Y6 fun v=>v=.bool true):=by
 refine @Eq.mpr _ (let q1:=[(0:Int),0,0,0,0,0,0,0,0,0,0,0,0,0,0,0,0,0,0,0,0,0,0,0,0,0,0,0,0,0,0];
 let q2:=(2:Int)::q1;
 let q3:=q2=q2;
 let q4:=(1:Int)::q1;
 let q5:=q4=q4;
 let q6:=AV.bool true;
 let q7:=AV.arr u8 32 Zc;
 let q8:=[(600:Int),400];
 let q9:=q8=q8;
 let q10:=(∀(i:Nat),i<1→YU (Wd 0 (fun (x:Nat)=>[]) (Uy [q6,AV.int i64 0,AV.int i64 545,q7,AV.int i64 9,AV.int i64 1,AV.int i64 0,q7] 0 70) i)=true)∧q9∧Zc=Zc∧q9∧Zc=Zc∧q6=q6;
 q3∧q5∧q3∧q5∧q3∧q5∧q3∧q5∧q3∧q5∧(Zc=Zc∧Zc=Zc∧q10)∧q10) (by kernel_rfl) ?_
 conv=>zeta
 trivial
end Go.Tk
end
section
namespace Go.Tk
open IntKind (i64 u8 u32 u64 wrap)
theorem Zd8 (args:List AV) (h:Z6) (K:AV→Prop) (hl:ZeW args h K):Zm PP 7 args h fun o h'=>∃v,o=.ret v∧h'=h∧K v:=by
 unfold ZeW at hl
 split at hl
 ·exact ZQ Zd7 rfl (ZgJ ()) (fun u hu=>hu▸hl)
 ·exact hl.elim
end Go.Tk
end
section
namespace Go.Tk
open IntKind (i64 u8 u32 u64 wrap)
noncomputable def ZeY (F:List Int→Int×Int) (H:List Int→List Int) (R:Option Za):Zd:=(((G0.withF 17 (Zb0 F H R)).withF 18 (Z6g F H R)).withP 15 Zgw).withP 7 ZeW
theorem Z7n (R:Option Za):(ZeY (Ze Zn) ZJ R).Ok:=Zd.withP_ok (Zd.withP_ok (Zd.withF_ok (Zd.withF_ok Zu Zb1) Z8C) ZcW) Zd8
theorem ZgK (F:List Int→Int×Int) (H:List Int→List Int) (xs:List Int) (N:Nat) (X:Za) (hN:xs.length=N) (hb:Bytes xs) (hR:Z4K F H xs (some X)) (hI:X.Inv ZJ) (hf:X.t.fund.length=32):
  evF (ZeY F H (some X)) 20 4 [.vints .u8 xs N] ⟨0,[]⟩ (Y6 fun v=>v=.bool true):=by
 refine @Eq.mpr _ (let q1:=AV.bool true;
 let q2:=q1=q1;
 let q3:=[]++List.take N xs;
 let q4:=List.length q3;
 let q5:=q3++[(77:Int)];
 let q6:=List.length q5;
 let q7:=X2 (Int.toNat (↑N:Int)) none;
 let q8:=List.take q7 (Y8 0 q5);
 let q9:=AV.bool false=q1;
 let q10:=X2 q6 none;
 let q11:=wrap i64 ((↑N:Int)+1);
 let q12:=0+Int.toNat (↑N:Int);
 let q13:=List.length X.L;
 let q14:=X.t;
 Z0 (decide ((↑N:Int)>2500)) q2
 (Z0 (decide (q4*1≤140737488355328))
 (Z0 (decide (u8=u8∧q4=q4))
 (Z0 (decide (q6*1≤140737488355328))
 (Z0 (decide (q6≤q6))
 (Z0 (decide (0≤(↑N:Int)∧(↑N:Int)≤(↑q6:Int)))
 (Z0 (decide (0+q7≤q6))
 ((List.length q8=q7∧q7<90000000000000∧Bytes q8)∧
 Z4K F H q8 (some X)∧
 (List.length xs=N∧Bytes xs)∧
 Z4K F H xs (some X)∧
 Z0 (decide (u8=u8∧0+q7≤q6))
 (Z0 (!ByteArray.toList (strOf q8)==ByteArray.toList (strOf (List.take N xs))) q9
 (Z0 (decide (q7≤q10))
 (Z0 (decide (0≤q11∧q11≤(↑q10:Int)))
 (Z0 (decide (0≤(↑N:Int)∧(↑N:Int)<(↑(X2 (Int.toNat q11) none):Int)))
 (Z0 (decide (q12<q6))
 (Z0 (List.getD q5 q12 0 !=77) q9
 (Z0 (decide (0+q13≤q13))
 ((∀(i:Nat),i<q13→true=true)∧
 Z0 (decide (0+q13≤q13))
 ((∀(i:Nat),i<q13→true=true)∧
 ∃(X_1:Za),
 let q29:=LV [AV.arr u8 32 q14.fund,AV.int i64 q14.index,AV.int i64 q14.cap,AV.int i64 q14.dust,AV.int i64 q14.fee,AV.int i64 q14.delay,AV.arr u8 32 q14.k0,AV.arr u8 32 q14.k1,AV.int i64 X.side,AV.int i64 X.res,AV.arr i64 2 [X.a0,X.a1],AV.arr i64 2 [X.i0,X.i1],AV.vrows 70 q13 (XW 0 (Zf X.L)) q13] X_1;
 q29∧q29∧Za.Inv ZJ X_1∧List.length X_1.t.fund=32∧q2)
 False)
 False))
 False)
 False)
 False)
 False))
 False)
 False)
 False)
 False)
 False)
 False)
 False)) (by kernel_rfl) ?_
 conv=>zeta
 try simp only [Zi]
 try simp only [Zj]
 try simp only [Zg]
 try simp only [Zk]
 try simp only [Zl]
 try simp only [Zh]
 try simp only [Int.toNat_natCast,Nat.zero_add,true_and,and_true,Nat.le_refl]
 subst hN
 refine ⟨fun _=>trivial,fun hn=> ?_⟩
 have e7:∀n,X2 n none=n:=fun n=>rfl
 have e8:List.take xs.length (Y8 0 (xs++[77]))=xs:=by rw [ZZ,List.drop_zero,List.take_left]
 have el:(xs++[(77:Int)]).length=xs.length+1:=by simp
 have e77:(xs++[(77:Int)]).getD xs.length 0=77:=by simp
 have ew:i64.wrap ((xs.length:Int)+1)=((xs.length+1:Nat):Int):=by rw [w64 (by omega)];omega
 have et:((xs.length:Int)).toNat=xs.length:=Int.toNat_natCast _
 have et1:(((xs.length+1:Nat):Int)).toNat=xs.length+1:=Int.toNat_natCast _
 have e9:xs.take xs.length=xs:=List.take_length
 simp only [e9,List.nil_append,et,e7,el,e8,ew,et1,e77,Nat.zero_add]
 repeat' first
  | omega
  | exact hb
  | exact hR
  | rfl
  | trivial
  | (intro h;exfalso;simp at h;done)
  | intro _
  | apply And.intro
  | exact ⟨X,.a rfl,.a rfl,hI,hf⟩
theorem ZgL (F:List Int→Int×Int) (H:List Int→List Int) (xs:List Int) (N:Nat) (hN:xs.length=N) (hb:Bytes xs) (hR:Z4K F H xs none):
  evF (ZeY F H none) 20 4 [.vints .u8 xs N] ⟨0,[]⟩ (Y6 fun v=>v=.bool true):=by
 refine @Eq.mpr _ (let q1:=AV.bool true;
 let q2:=q1=q1;
 let q3:=[]++List.take N xs;
 let q4:=List.length q3;
 let q5:=q3++[(77:Int)];
 let q6:=List.length q5;
 let q7:=X2 (Int.toNat (↑N:Int)) none;
 let q8:=List.take q7 (Y8 0 q5);
 let q9:=AV.bool false=q1;
 let q10:=X2 q6 none;
 let q11:=wrap i64 ((↑N:Int)+1);
 let q12:=0+Int.toNat (↑N:Int);
 Z0 (decide ((↑N:Int)>2500)) q2 (Z0 (decide (q4*1≤140737488355328)) (Z0 (decide (u8=u8∧q4=q4)) (Z0 (decide (q6*1≤140737488355328)) (Z0 (decide (q6≤q6)) (Z0 (decide (0≤(↑N:Int)∧(↑N:Int)≤(↑q6:Int))) (Z0 (decide (0+q7≤q6)) ((List.length q8=q7∧q7<90000000000000∧Bytes q8)∧Z4K F H q8 none∧(List.length xs=N∧Bytes xs)∧Z4K F H xs none∧Z0 (decide (u8=u8∧0+q7≤q6)) (Z0 (!ByteArray.toList (strOf q8)==ByteArray.toList (strOf (List.take N xs))) q9 (Z0 (decide (q7≤q10)) (Z0 (decide (0≤q11∧q11≤(↑q10:Int))) (Z0 (decide (0≤(↑N:Int)∧(↑N:Int)<(↑(X2 (Int.toNat q11) none):Int))) (Z0 (decide (q12<q6)) (Z0 (List.getD q5 q12 0 !=77) q9 q2) False) False) False) False)) False) False) False) False) False) False) False)) (by kernel_rfl) ?_
 conv=>zeta
 try simp only [Zi]
 try simp only [Zj]
 try simp only [Zg]
 try simp only [Zk]
 try simp only [Zl]
 try simp only [Zh]
 try simp only [Int.toNat_natCast,Nat.zero_add,true_and,and_true,Nat.le_refl]
 subst hN
 refine ⟨fun _=>trivial,fun hn=> ?_⟩
 have e7:∀n,X2 n none=n:=fun n=>rfl
 have e8:List.take xs.length (Y8 0 (xs++[77]))=xs:=by rw [ZZ,List.drop_zero,List.take_left]
 have el:(xs++[(77:Int)]).length=xs.length+1:=by simp
 have e77:(xs++[(77:Int)]).getD xs.length 0=77:=by simp
 have ew:i64.wrap ((xs.length:Int)+1)=((xs.length+1:Nat):Int):=by rw [w64 (by omega)];omega
 have et:((xs.length:Int)).toNat=xs.length:=Int.toNat_natCast _
 have et1:(((xs.length+1:Nat):Int)).toNat=xs.length+1:=Int.toNat_natCast _
 have e9:xs.take xs.length=xs:=List.take_length
 simp only [e9,List.nil_append,et,e7,el,e8,ew,et1,e77,Nat.zero_add]
 repeat' first
  | omega
  | exact hb
  | exact hR
  | rfl
  | trivial
  | (intro h;exfalso;simp at h;done)
  | intro _
  | apply And.intro
end Go.Tk
end
section
namespace Go.Tk
open IntKind (i64 u8 u32 u64 wrap)
theorem Z6i {a:AV} (h:Z4j false [.ints .u8] a):∃(xs:List Int) (n:Nat),a=.vints .u8 xs n∧xs.length=n∧Bytes xs:=by
 cases h with|one _ _ h=>
 cases h
 rename_i xs n w l m
 exact ⟨xs,n,rfl,w,Za1 w m⟩
theorem Zd9 {xs:List Int} (hb:Bytes xs) {X:Za} (h:YN (Ze Zn) xs=some X):X.t.Ok∧(∀h∈X.L,h.Ok)∧X.t.fund.length=32:=by
 unfold YN UW at h
 simp only [Option.bind_eq_some_iff] at h
 obtain ⟨hdr,⟨⟨v0,o0⟩,r0,⟨n5,o5⟩,k1,⟨v6,o6⟩,r6,⟨v7,o7⟩,r7,⟨v8,o8⟩,r8,⟨m5,o13⟩,k2,⟨v14,o14⟩,r14,he⟩,⟨L,p⟩,hL,hX⟩:=h
 cases he
 split at hX
 case isFalse=>cases hX
 cases hX
 have q0:=Z01 hb r0
 have q6:=Z01 hb r6
 have q7:=Z01 hb r7
 exact ⟨⟨q6.1,q7.1,q6.2,q7.2⟩,Z7f hb hL,q0.1⟩
theorem ledgerreads_walk {us:List AV} (h:Z2q [(false,[.ints .u8])] us):Zm PP 4 us ⟨0,[]⟩ fun o h'=>∃v,o=.ret v∧h'=⟨0,[]⟩∧v=.bool true:=by
 cases h with|cons _ _ a _ _ h1 h=>
 cases h
 obtain ⟨xs,n,rfl,hn,hb⟩:=Z6i h1
 by_cases hc:∃X,YN (Ze Zn) xs=some X∧Y7 ZJ X=true
 ·obtain ⟨X,e1,e2⟩:=hc
  obtain ⟨ht,hok,hf⟩:=Zd9 hb e1
  exact ZQ (h:=⟨0,[]⟩) (Z7n (some X)) rfl (ZgK _ ZJ xs n X hn hb ⟨⟨e1,e2⟩⟩ ((Zcd ht hok).1 e2) hf) (fun u hu=>hu)
 ·exact ZQ (h:=⟨0,[]⟩) (Z7n none) rfl (ZgL _ ZJ xs n hn hb ⟨fun X hX=>Bool.eq_false_iff.2 fun hR=>hc ⟨X,hX,hR⟩⟩) (fun u hu=>hu)
end Go.Tk
namespace Go.Proofs.YtjahlbmhknicjaaGreat.ledgerReads
open Go.ChangeShapes Go.WideShapes Go.ChangeAt Go.RowKit
theorem own:ownKnob Tryz.prog.godebug=none:=by kernel_rfl
theorem laidOut:laidOutB Tryz.prog=true:=by kernel_rfl
theorem lifted (os:Os) (started:os.Started) (H:Type) (enc:TypeId×Value→H):
  ReturnsInHanded {} Tryz.checked os 4 .any (Rows.ledgerReadsSpec.pre6 enc Tryz.prog Tryz.f4 Rows.ledgerReadsRow.domain false) (Rows.ledgerReadsSpec.post enc Tryz.prog Tryz.f4 false true false false):=
 Go.Tk.lifted_gen (C:=Tryz.checked) (m:=8) (τs:=[(false,[.ints .u8])]) own laidOut started (by kernel_rfl) Tryz.func4
  (ChangeSpec.witness6 (enc:=enc) (C:=Tryz.checked) false ⟨#[], #[.slice none 0 0],[]⟩ 8 (by kernel_rfl) (by kernel_rfl) (by kernel_rfl) (by kernel_rfl))
  rfl (tb:=4) rfl Tryz.underlying4 (by kernel_rfl) (by kernel_rfl) (fun ds h=>by
   match ds,h with
   | [a],_=>rfl) fun us h=>Go.Tk.ledgerreads_walk h
theorem ZeZ:Tryz.pinned.checked.prog.funcNamed Rows.ledgerReadsRow.func=some 4:=by kernel_rfl
theorem closed:joinedFacts Tryz.pinned.checked.prog 4 Tryz.f4 Rows.ledgerReadsSpec Rows.ledgerReadsRow=true:=by
 unfold joinedFacts
 repeat' with_reducible refine Go.Tk.and_mk ?_ ?_
 all_goals as_aux_lemma=>kernel_rfl
theorem over:Rows.ledgerReadsRow.holds Tryz.pinned (OpenSpec.ofChange Rows.ledgerReadsSpec):=
 OpenClaim.holds_of_wide 4 Tryz.f4 rfl rfl rfl rfl rfl rfl rfl ⟨rfl,rfl,rfl,rfl,rfl⟩ rfl rfl rfl rfl rfl ZeZ Tryz.func4 closed
  (of_decide_eq_true (by kernel_rfl)) (by unfold Func.isWrapper;first|(rw [if_pos (by decide+kernel)];kernel_rfl)|(rw [if_neg (by decide+kernel)];exact ⟨rfl,rfl⟩))
  (fun os started H enc _=>lifted os started H enc)
theorem proved:Rows.LedgerReadsSaid:=over
end Go.Proofs.YtjahlbmhknicjaaGreat.ledgerReads
end
