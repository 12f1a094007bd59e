/- M: part 5 of an engine (a symbolic evaluator, proved against the model) and of the walk by it. -/
import Derived.Test.YtpfaahkmphnliaaGreatM4
set_option linter.unusedVariables false
set_option linter.unusedSimpArgs false
set_option maxRecDepth 100000
set_option maxHeartbeats 0
section
namespace Go.Tk
open IntKind (i64 u8 u32 u64 wrap)
noncomputable def Zby:Zf:=((((G0.withP 66 Z4N).withP 30 Zdk).withF 68 Z2K).withF 69 ZfK).withF 70 Z7u
theorem Z1s:Zby.Ok:=Zf.withF_ok (Zf.withF_ok (Zf.withF_ok (Zf.withP_ok (Zf.withP_ok ZB Z3P) Z4Q) UF) Z8p) Z9F
def Z5W (X:Za) (n:Nat):Z6:=⟨2,[(0,.flat (X.c (.nslice ⟨1,0,70,0,0⟩ 70 n n))),(1,.rows 70 n (Z5 X.L))]⟩
theorem ZeK (L:List Z7) (h:Z7) (n:Nat) (hn:L.length=n):(∀i,i<n+1→plainC (Yc n (Z5 L) (Xk h.c 0 70) i)=true)∧∀i,i<n+1→Yc n (Z5 L) (Xk h.c 0 70) i=Z5 (L++[h]) i:=by
 have h2:∀i,i<n+1→Yc n (Z5 L) (Xk h.c 0 70) i=Z5 (L++[h]) i:=fun i hi=>WD hn (fun _ _=>rfl) hi
 exact ⟨fun i hi=>by rw [h2 i hi];exact X7 _ _,h2⟩
structure Z5X (X:Za):Prop where
 cap:X.t.cap≠0
 side:X.side=0∨X.side=1
 am:Z0C X
 nx:(0≤X.i0∧X.i0≤2147483648)∧0≤X.i1∧X.i1≤2147483648
theorem Z7v (X:Za) (n:Nat) (id am ex e:Int) (hash:List Int) (hn:X.L.length=n) (hX:Z5X X) (he:e=addE X true id am hash ex) (hne:e≠0):
  evF Zby 20 20 [.ptr (some ⟨0,0,0,0,0⟩),.bool true,.int .i64 id,.int .i64 am,.agg [.arr .u8 32 hash],.int .i64 ex] (Z5W X n) (YS 2 (.ret (.int .i64 e)) 2 [(0,.flat (X.c (.nslice ⟨1,0,70,0,0⟩ 70 n n))),(1,.rows 70 n (Z5 X.L))]):=by
 refine @Eq.mpr _ (let q1:=X.t;
 let q2:=q1.cap;
 let q3:=q1.fund;
 let q4:=q3=q3;
 let q5:=q1.index;
 let q6:=decide (q5=q5);
 let q7:=decide (q2=q2);
 let q8:=q1.dust;
 let q9:=decide (q8=q8);
 let q10:=q1.fee;
 let q11:=decide (q10=q10);
 let q12:=q1.delay;
 let q13:=decide (q12=q12);
 let q14:=q1.k0;
 let q15:=q14=q14;
 let q16:=q1.k1;
 let q17:=q16=q16;
 let q18:=X.side;
 let q19:=decide (q18=q18);
 let q20:=X.res;
 let q21:=decide (q20=q20);
 let q22:=[X.a0,X.a1];
 let q23:=q22=q22;
 let q24:=X.i0;
 let q25:=[X.i1];
 let q26:=q24::q25;
 let q27:=decide (n=n);
 let q28:=Z5 X.L;
 let q29:=q4∧Z0 q6 (Z0 q7 (Z0 q9 (Z0 q11 (Z0 q13 (q15∧q17∧Z0 q19 (Z0 q21 (q23∧q26=q26∧Z0 q27 (Z0 (decide (n≤n)) (Z0 q27 (Zd 2 [] n q28 q28∧True) False) False) False) False) False) False) False) False) False) False;
 let q30:=decide (0+n≤n);
 let q31:=ZX 0 q28;
 let q32:=n+1;
 let q33:=Xk [AV.bool true,AV.int i64 id,AV.int i64 am,AV.arr u8 32 hash,AV.int i64 ex,AV.int i64 1,AV.int i64 0,AV.arr u8 32 Z9] 0 70;
 Z0 (q2==0) (Z0 (decide (1=e)) q29 False)
 (Z0 q30
 ((∀(i:Nat),i<n→true=true)∧
 ∃(X:Za),
 let q67:=[AV.arr u8 32 q3,AV.int i64 q5,AV.int i64 q2,AV.int i64 q8,AV.int i64 q10,AV.int i64 q12,AV.arr u8 32 q14,AV.arr u8 32 q16,AV.int i64 q18,AV.int i64 q20,AV.arr i64 2 q22,AV.arr i64 2 q26,AV.vrows 70 n q31 n];
 let q68:=X.side;
 LV q67 X∧
 (0≤q68∧q68≤1)∧
 List.length X.L<1000∧
 Z0 (decide (q24=q24))
 (Z0 q30
 ((∀(i:Nat),i<n→true=true)∧
 ∃(X_1:Za),
 LV q67 X_1∧
 (0≤X_1.side∧X_1.side≤1)∧
 (q18=0∨q18=1)∧
 Z0C X_1∧
 Z0 (!Yu (Z7.mk true id am hash ex 1 0 Z9)) (Z0 (decide (2=e)) q29 False)
 (Z0 (id !=q24) (Z0 (decide (200=e)) q29 False)
 (Z0 (decide ((↑(List.length (ZK q68 q18 X.L)):Int)≥8)) (Z0 (decide (201=e)) q29 False)
 (Z0 (decide (Y4 X_1 q18<am)) (Z0 (decide (202=e)) q29 False)
 (Z0 q30 ((∀(i:Nat),i<n→true=true)∧∃(L:List Z7),n=n∧q31=Z5 L∧n<1000000∧Z0 (decide (id=id)) (Z0 (decide (am=am)) (hash=hash∧Z0 (decide (ex=ex)) (Z9=Z9∧Z0 q27 (Z0 (decide (q32*112≤140737488355328)) ((∀(i:Nat),i<q32→plainC (Yc n (Z5 L) q33 i)=true)∧∃(L_1:List Z7),∃(L':List Z7),q32=q32∧(∀(i:Nat),i<q32→Yc n (Z5 L) q33 i=Z5 L_1 i)∧Xs L_1 L' q32∧Z0 (decide (0=e)) (q4∧Z0 q6 (Z0 q7 (Z0 q9 (Z0 q11 (Z0 q13 (q15∧q17∧Z0 q19 (Z0 q21 (q23∧wrap i64 (q24+1)::q25=q26∧False) False) False) False) False) False) False) False) False) False) False) False) False) False) False∧
 Z0 q27 (Z0 q27 (Z0 q30 ((∀(i:Nat),i<n→true=true)∧∃(L:List Z7),n=n∧q31=Z5 L∧n<1000000∧Z0 q27 (Z0 (decide (q32*112≤140737488355328)) ((∀(i:Nat),i<q32→plainC (Yc n (Z5 L) q33 i)=true)∧∃(L_1:List Z7),∃(L':List Z7),q32=q32∧(∀(i:Nat),i<q32→Yc n (Z5 L) q33 i=Z5 L_1 i)∧Xs L_1 L' q32∧Z0 (decide (0=e)) (q4∧Z0 q6 (Z0 q7 (Z0 q9 (Z0 q11 (Z0 q13 (q15∧q17∧Z0 q19 (Z0 q21 (q23∧wrap i64 (q24+1)::q25=q26∧False) False) False) False) False) False) False) False) False) False) False) False) False) False)))))
 False)
 False)
 False)) (by kernel_rfl) ?_
 conv=>zeta
 subst hn
 have hlen:=hX.am.n
 have hs01:0≤X.side∧X.side≤1:=by have:=hX.side;omega
 have hwf:i64.wrap (1-X.side)=1-X.side:=w64 (by omega)
 try rw [hwf]
 have hsf:X.side=0∨X.side=1:=by have:=hX.side;omega
 have hp:Yu ⟨true,id,am,hash,ex,1,0,Z9⟩=Yu (Xq X true id am hash ex):=rfl
 rw [hp]
 try simp only [Zi]
 try simp only [Zj]
 try simp only [Zk]
 try simp only [Zl]
 try simp only [Zm]
 try simp only [Zh]
 try simp only [Int.toNat_natCast,Nat.zero_add,true_and,and_true,Nat.le_refl]
 unfold addE at he
 have hf:ZN X.side true=X.side:=rfl
 have hnx:X.nx true=X.i0:=rfl
 rw [hf,hnx] at he
 have hR:Zd 2 [] X.L.length (Z5 X.L) (Z5 X.L):=Zg fun _ _=>rfl
 refine ⟨fun hc=>absurd hc (by simp [hX.cap]),fun _=>⟨fun _ _=>trivial,X,.a rfl,hs01,hlen,fun _ _=>trivial,X,.a rfl,hs01,hsf,hX.am,fun k=>⟨?_,hR⟩,fun k1=>⟨fun k=>⟨?_,hR⟩,fun k2=>⟨fun k=>⟨?_,hR⟩,fun k3=>⟨fun k=>⟨?_,hR⟩,fun k4=> ?_⟩⟩⟩⟩⟩
 ·rw [he,if_pos (by simpa using k)]
 ·rw [he,if_neg (by simpa using k1),if_pos (by simpa using k)]
 ·rw [he,if_neg (by simpa using k1),if_neg (by simpa using k2),if_pos (by omega)]
 ·rw [he,if_neg (by simpa using k1),if_neg (by simpa using k2),if_neg (by omega),if_pos k]
 ·exact absurd (by rw [he,if_neg (by simpa using k1),if_neg (by simpa using k2),if_neg (by omega),if_neg k4]) hne
theorem Z7w (X X':Za) (n:Nat) (id am ex:Int) (hash:List Int) (hn:X.L.length=n) (hX:Z5X X) (he:addE X true id am hash ex=0) (hX':X'=addX X true id am hash ex) (hs:Xs (X.L++[Xq X true id am hash ex]) X'.L (n+1)):
  evF Zby 20 20 [.ptr (some ⟨0,0,0,0,0⟩),.bool true,.int .i64 id,.int .i64 am,.agg [.arr .u8 32 hash],.int .i64 ex] (Z5W X n) (YS 2 (.ret (.int .i64 0)) 3 [(0,.flat (X'.c (.nslice ⟨2,0,70,0,0⟩ 70 (n+1) (n+1)))),(2,.rows 70 (n+1) (Z5 X'.L))]):=by
 refine @Eq.mpr _ (let q1:=X.t;
 let q2:=q1.cap;
 let q3:=decide (0+n≤n);
 let q4:=q1.fund;
 let q5:=q1.index;
 let q6:=q1.dust;
 let q7:=q1.fee;
 let q8:=q1.delay;
 let q9:=q1.k0;
 let q10:=q1.k1;
 let q11:=X.side;
 let q12:=[X.a0,X.a1];
 let q13:=X.i0;
 let q14:=[X.i1];
 let q15:=ZX 0 (Z5 X.L);
 let q16:=decide (n=n);
 let q17:=n+1;
 let q18:=Xk [AV.bool true,AV.int i64 id,AV.int i64 am,AV.arr u8 32 hash,AV.int i64 ex,AV.int i64 1,AV.int i64 0,AV.arr u8 32 Z9] 0 70;
 let q19:=X'.t;
 let q20:=decide (q17=q17);
 Z0 (q2==0) False
 (Z0 q3
 ((∀(i:Nat),i<n→true=true)∧
 ∃(X_1:Za),
 let q41:=[AV.arr u8 32 q4,AV.int i64 q5,AV.int i64 q2,AV.int i64 q6,AV.int i64 q7,AV.int i64 q8,AV.arr u8 32 q9,AV.arr u8 32 q10,AV.int i64 q11,AV.int i64 X.res,AV.arr i64 2 q12,AV.arr i64 2 (q13::q14),AV.vrows 70 n q15 n];
 let q42:=X_1.side;
 LV q41 X_1∧
 (0≤q42∧q42≤1)∧
 List.length X_1.L<1000∧
 Z0 (decide (q13=q13))
 (Z0 q3
 ((∀(i:Nat),i<n→true=true)∧
 ∃(X_2:Za),
 LV q41 X_2∧
 (0≤X_2.side∧X_2.side≤1)∧
 (q11=0∨q11=1)∧
 Z0C X_2∧
 Z0 (!Yu (Z7.mk true id am hash ex 1 0 Z9)) False
 (Z0 (id !=q13) False
 (Z0 (decide ((↑(List.length (ZK q42 q11 X_1.L)):Int)≥8)) False
 (Z0 (decide (Y4 X_2 q11<am)) False
 (Z0 q3
 ((∀(i:Nat),i<n→true=true)∧
 ∃(L:List Z7),n=n∧q15=Z5 L∧n<1000000∧Z0 (decide (id=id)) (Z0 (decide (am=am)) (hash=hash∧Z0 (decide (ex=ex)) (Z9=Z9∧Z0 q16 (Z0 (decide (q17*112≤140737488355328)) ((∀(i:Nat),i<q17→plainC (Yc n (Z5 L) q18 i)=true)∧∃(L_1:List Z7),∃(L':List Z7),q17=q17∧(∀(i:Nat),i<q17→Yc n (Z5 L) q18 i=Z5 L_1 i)∧Xs L_1 L' q17∧q4=q19.fund∧Z0 (decide (q5=q19.index)) (Z0 (decide (q2=q19.cap)) (Z0 (decide (q6=q19.dust)) (Z0 (decide (q7=q19.fee)) (Z0 (decide (q8=q19.delay)) (q9=q19.k0∧q10=q19.k1∧Z0 (decide (q11=X'.side)) (Z0 (decide (X.res=X'.res)) (q12=[X'.a0,X'.a1]∧wrap i64 (q13+1)::q14=[X'.i0,X'.i1]∧Z0 q20 (Z0 (decide (q17≤q17)) (Z0 q20 (Zd 2 [(2,14)] q17 (Z5 X'.L) (Z5 L')∧True) False) False) False) False) False) False) False) False) False) False) False) False) False) False) False)
 False∧
 Z0 q16 (Z0 q16 (Z0 q3 ((∀(i:Nat),i<n→true=true)∧∃(L:List Z7),n=n∧q15=Z5 L∧n<1000000∧Z0 q16 (Z0 (decide (q17*112≤140737488355328)) ((∀(i:Nat),i<q17→plainC (Yc n (Z5 L) q18 i)=true)∧∃(L_1:List Z7),∃(L':List Z7),q17=q17∧(∀(i:Nat),i<q17→Yc n (Z5 L) q18 i=Z5 L_1 i)∧Xs L_1 L' q17∧q4=q19.fund∧Z0 (decide (q5=q19.index)) (Z0 (decide (q2=q19.cap)) (Z0 (decide (q6=q19.dust)) (Z0 (decide (q7=q19.fee)) (Z0 (decide (q8=q19.delay)) (q9=q19.k0∧q10=q19.k1∧Z0 (decide (q11=X'.side)) (Z0 (decide (X.res=X'.res)) (q12=[X'.a0,X'.a1]∧wrap i64 (q13+1)::q14=[X'.i0,X'.i1]∧Z0 q20 (Z0 (decide (q17≤q17)) (Z0 q20 (Zd 2 [(2,14)] q17 (Z5 X'.L) (Z5 L')∧True) False) False) False) False) False) False) False) False) False) False) False) False) False) False) False)))))
 False)
 False)
 False)) (by kernel_rfl) ?_
 conv=>zeta
 subst hn
 have hlen:=hX.am.n
 have hs01:0≤X.side∧X.side≤1:=by have:=hX.side;omega
 have hwf:i64.wrap (1-X.side)=1-X.side:=w64 (by omega)
 try rw [hwf]
 have hsf:X.side=0∨X.side=1:=by have:=hX.side;omega
 have hp:Yu ⟨true,id,am,hash,ex,1,0,Z9⟩=Yu (Xq X true id am hash ex):=rfl
 rw [hp]
 have ht:=ZeK X.L (Xq X true id am hash ex) _ rfl
 have hX2:X'={ WC X true 1 with L:=Xc (Xq X true id am hash ex) X.L}:=by rw [hX'];unfold addX;rw [if_pos he]
 generalize Xc (Xq X true id am hash ex) X.L=L2 at hX2
 subst hX2
 have hwi:i64.wrap (X.i0+1)=X.i0+1:=w64 (by have:=hX.nx;omega)
 try simp only [Zi]
 try simp only [Zj]
 try simp only [Zk]
 try simp only [Zl]
 try simp only [Zm]
 try simp only [Zh]
 try simp only [Int.toNat_natCast,Nat.zero_add,true_and,and_true,Nat.le_refl]
 unfold addE at he
 have hf:ZN X.side true=X.side:=rfl
 have hnx:X.nx true=X.i0:=rfl
 rw [hf,hnx] at he
 have hno:Yu (Xq X true id am hash ex)=true∧id=X.i0∧¬8≤(ZK X.side (X.side) X.L).length∧¬Y4 X (X.side)<am:=by
  split at he
  ·cases he
  ·rename_i q1
   split at he
   ·cases he
   ·rename_i q2
    split at he
    ·cases he
    ·rename_i q3
     split at he
     ·cases he
     ·rename_i q4
      exact ⟨by simpa using q1,by simpa using q2,q3,q4⟩
 obtain ⟨k1,k2,k3,k4⟩:=hno
 have hR:∀τ,Zd 2 τ (X.L.length+1) (Z5 L2) (Z5 L2):=fun τ=>Zg fun _ _=>rfl
 have hcap:=hX.cap
 have k3':¬((ZK X.side (X.side) X.L).length:Int)≥8:=by omega
 refine ⟨by simp [hcap],fun _ _=>trivial,X,.a rfl,hs01,hlen,fun _ _=>trivial,X,.a rfl,hs01,hsf,hX.am,by simp [k1],by simp [k2],k3',k4, ?_, ?_⟩
 all_goals exact ⟨fun _ _=>trivial,X.L,rfl,by omega,by omega,ht.1,X.L++[Xq X true id am hash ex],L2,ht.2,hs,rfl,rfl,rfl,rfl,rfl,rfl,rfl,rfl,rfl,rfl,rfl,by rw [hwi];rfl,hR _⟩
theorem Z5Y (X:Za) (n:Nat) (id am ex e:Int) (hash:List Int) (hn:X.L.length=n) (hX:Z5X X) (he:e=addE X false id am hash ex) (hne:e≠0):
  evF Zby 20 20 [.ptr (some ⟨0,0,0,0,0⟩),.bool false,.int .i64 id,.int .i64 am,.agg [.arr .u8 32 hash],.int .i64 ex] (Z5W X n) (YS 2 (.ret (.int .i64 e)) 2 [(0,.flat (X.c (.nslice ⟨1,0,70,0,0⟩ 70 n n))),(1,.rows 70 n (Z5 X.L))]):=by
 refine @Eq.mpr _ (let q1:=X.t;
 let q2:=q1.cap;
 let q3:=q1.fund;
 let q4:=q3=q3;
 let q5:=q1.index;
 let q6:=decide (q5=q5);
 let q7:=decide (q2=q2);
 let q8:=q1.dust;
 let q9:=decide (q8=q8);
 let q10:=q1.fee;
 let q11:=decide (q10=q10);
 let q12:=q1.delay;
 let q13:=decide (q12=q12);
 let q14:=q1.k0;
 let q15:=q14=q14;
 let q16:=q1.k1;
 let q17:=q16=q16;
 let q18:=X.side;
 let q19:=decide (q18=q18);
 let q20:=X.res;
 let q21:=decide (q20=q20);
 let q22:=[X.a0,X.a1];
 let q23:=q22=q22;
 let q24:=X.i1;
 let q25:=[X.i0,q24];
 let q26:=decide (n=n);
 let q27:=Z5 X.L;
 let q28:=q4∧Z0 q6 (Z0 q7 (Z0 q9 (Z0 q11 (Z0 q13 (q15∧q17∧Z0 q19 (Z0 q21 (q23∧q25=q25∧Z0 q26 (Z0 (decide (n≤n)) (Z0 q26 (Zd 2 [] n q27 q27∧True) False) False) False) False) False) False) False) False) False) False;
 let q29:=decide (0+n≤n);
 let q30:=ZX 0 q27;
 let q31:=wrap i64 (1-q18);
 let q32:=n+1;
 let q33:=Xk [AV.bool false,AV.int i64 id,AV.int i64 am,AV.arr u8 32 hash,AV.int i64 ex,AV.int i64 1,AV.int i64 0,AV.arr u8 32 Z9] 0 70;
 Z0 (q2==0) (Z0 (decide (1=e)) q28 False)
 (Z0 q29
 ((∀(i:Nat),i<n→true=true)∧
 ∃(X_1:Za),
 let q67:=[AV.arr u8 32 q3,AV.int i64 q5,AV.int i64 q2,AV.int i64 q8,AV.int i64 q10,AV.int i64 q12,AV.arr u8 32 q14,AV.arr u8 32 q16,AV.int i64 q18,AV.int i64 q20,AV.arr i64 2 q22,AV.arr i64 2 q25,AV.vrows 70 n q30 n];
 let q68:=X_1.side;
 LV q67 X_1∧
 (0≤q68∧q68≤1)∧
 List.length X_1.L<1000∧
 Z0 (decide (q24=q24))
 (Z0 q29
 ((∀(i:Nat),i<n→true=true)∧
 ∃(X_2:Za),
 LV q67 X_2∧
 (0≤X_2.side∧X_2.side≤1)∧
 (q31=0∨q31=1)∧
 Z0C X_2∧
 Z0 (!Yu (Z7.mk false id am hash ex 1 0 Z9)) (Z0 (decide (2=e)) q28 False)
 (Z0 (id !=q24) (Z0 (decide (200=e)) q28 False)
 (Z0 (decide ((↑(List.length (ZK q68 q31 X_1.L)):Int)≥8)) (Z0 (decide (201=e)) q28 False)
 (Z0 (decide (Y4 X_2 q31<am)) (Z0 (decide (202=e)) q28 False)
 (Z0 q29 ((∀(i:Nat),i<n→true=true)∧∃(L:List Z7),n=n∧q30=Z5 L∧n<1000000∧Z0 (decide (id=id)) (Z0 (decide (am=am)) (hash=hash∧Z0 (decide (ex=ex)) (Z9=Z9∧Z0 q26 (Z0 (decide (q32*112≤140737488355328)) ((∀(i:Nat),i<q32→plainC (Yc n (Z5 L) q33 i)=true)∧∃(L_1:List Z7),∃(L':List Z7),q32=q32∧(∀(i:Nat),i<q32→Yc n (Z5 L) q33 i=Z5 L_1 i)∧Xs L_1 L' q32∧Z0 (decide (0=e)) (q4∧Z0 q6 (Z0 q7 (Z0 q9 (Z0 q11 (Z0 q13 (q15∧q17∧Z0 q19 (Z0 q21 (q23∧[X.i0,wrap i64 (q24+1)]=q25∧False) False) False) False) False) False) False) False) False) False) False) False) False) False) False∧
 Z0 q26 (Z0 q26 (Z0 q29 ((∀(i:Nat),i<n→true=true)∧∃(L:List Z7),n=n∧q30=Z5 L∧n<1000000∧Z0 q26 (Z0 (decide (q32*112≤140737488355328)) ((∀(i:Nat),i<q32→plainC (Yc n (Z5 L) q33 i)=true)∧∃(L_1:List Z7),∃(L':List Z7),q32=q32∧(∀(i:Nat),i<q32→Yc n (Z5 L) q33 i=Z5 L_1 i)∧Xs L_1 L' q32∧Z0 (decide (0=e)) (q4∧Z0 q6 (Z0 q7 (Z0 q9 (Z0 q11 (Z0 q13 (q15∧q17∧Z0 q19 (Z0 q21 (q23∧[X.i0,wrap i64 (q24+1)]=q25∧False) False) False) False) False) False) False) False) False) False) False) False) False) False)))))
 False)
 False)
 False)) (by kernel_rfl) ?_
 conv=>zeta
 subst hn
 have hlen:=hX.am.n
 have hs01:0≤X.side∧X.side≤1:=by have:=hX.side;omega
 have hwf:i64.wrap (1-X.side)=1-X.side:=w64 (by omega)
 try rw [hwf]
 have hsf:1-X.side=0∨1-X.side=1:=by have:=hX.side;omega
 have hp:Yu ⟨false,id,am,hash,ex,1,0,Z9⟩=Yu (Xq X false id am hash ex):=rfl
 rw [hp]
 try simp only [Zi]
 try simp only [Zj]
 try simp only [Zk]
 try simp only [Zl]
 try simp only [Zm]
 try simp only [Zh]
 try simp only [Int.toNat_natCast,Nat.zero_add,true_and,and_true,Nat.le_refl]
 unfold addE at he
 have hf:ZN X.side false=1-X.side:=rfl
 have hnx:X.nx false=X.i1:=rfl
 rw [hf,hnx] at he
 have hR:Zd 2 [] X.L.length (Z5 X.L) (Z5 X.L):=Zg fun _ _=>rfl
 refine ⟨fun hc=>absurd hc (by simp [hX.cap]),fun _=>⟨fun _ _=>trivial,X,.a rfl,hs01,hlen,fun _ _=>trivial,X,.a rfl,hs01,hsf,hX.am,fun k=>⟨?_,hR⟩,fun k1=>⟨fun k=>⟨?_,hR⟩,fun k2=>⟨fun k=>⟨?_,hR⟩,fun k3=>⟨fun k=>⟨?_,hR⟩,fun k4=> ?_⟩⟩⟩⟩⟩
 ·rw [he,if_pos (by simpa using k)]
 ·rw [he,if_neg (by simpa using k1),if_pos (by simpa using k)]
 ·rw [he,if_neg (by simpa using k1),if_neg (by simpa using k2),if_pos (by omega)]
 ·rw [he,if_neg (by simpa using k1),if_neg (by simpa using k2),if_neg (by omega),if_pos k]
 ·exact absurd (by rw [he,if_neg (by simpa using k1),if_neg (by simpa using k2),if_neg (by omega),if_neg k4]) hne
theorem Z5Z (X X':Za) (n:Nat) (id am ex:Int) (hash:List Int) (hn:X.L.length=n) (hX:Z5X X) (he:addE X false id am hash ex=0) (hX':X'=addX X false id am hash ex) (hs:Xs (X.L++[Xq X false id am hash ex]) X'.L (n+1)):
  evF Zby 20 20 [.ptr (some ⟨0,0,0,0,0⟩),.bool false,.int .i64 id,.int .i64 am,.agg [.arr .u8 32 hash],.int .i64 ex] (Z5W X n) (YS 2 (.ret (.int .i64 0)) 3 [(0,.flat (X'.c (.nslice ⟨2,0,70,0,0⟩ 70 (n+1) (n+1)))),(2,.rows 70 (n+1) (Z5 X'.L))]):=by
 refine @Eq.mpr _ (let q1:=X.t;
 let q2:=q1.cap;
 let q3:=decide (0+n≤n);
 let q4:=q1.fund;
 let q5:=q1.index;
 let q6:=q1.dust;
 let q7:=q1.fee;
 let q8:=q1.delay;
 let q9:=q1.k0;
 let q10:=q1.k1;
 let q11:=X.side;
 let q12:=[X.a0,X.a1];
 let q13:=X.i1;
 let q14:=ZX 0 (Z5 X.L);
 let q15:=wrap i64 (1-q11);
 let q16:=decide (n=n);
 let q17:=n+1;
 let q18:=Xk [AV.bool false,AV.int i64 id,AV.int i64 am,AV.arr u8 32 hash,AV.int i64 ex,AV.int i64 1,AV.int i64 0,AV.arr u8 32 Z9] 0 70;
 let q19:=X'.t;
 let q20:=decide (q17=q17);
 Z0 (q2==0) False
 (Z0 q3
 ((∀(i:Nat),i<n→true=true)∧
 ∃(X_1:Za),
 let q41:=[AV.arr u8 32 q4,AV.int i64 q5,AV.int i64 q2,AV.int i64 q6,AV.int i64 q7,AV.int i64 q8,AV.arr u8 32 q9,AV.arr u8 32 q10,AV.int i64 q11,AV.int i64 X.res,AV.arr i64 2 q12,AV.arr i64 2 [X.i0,q13],AV.vrows 70 n q14 n];
 let q42:=X_1.side;
 LV q41 X_1∧
 (0≤q42∧q42≤1)∧
 List.length X_1.L<1000∧
 Z0 (decide (q13=q13))
 (Z0 q3
 ((∀(i:Nat),i<n→true=true)∧
 ∃(X_2:Za),
 LV q41 X_2∧
 (0≤X_2.side∧X_2.side≤1)∧
 (q15=0∨q15=1)∧
 Z0C X_2∧
 Z0 (!Yu (Z7.mk false id am hash ex 1 0 Z9)) False
 (Z0 (id !=q13) False
 (Z0 (decide ((↑(List.length (ZK q42 q15 X_1.L)):Int)≥8)) False
 (Z0 (decide (Y4 X_2 q15<am)) False
 (Z0 q3
 ((∀(i:Nat),i<n→true=true)∧
 ∃(L:List Z7),n=n∧q14=Z5 L∧n<1000000∧Z0 (decide (id=id)) (Z0 (decide (am=am)) (hash=hash∧Z0 (decide (ex=ex)) (Z9=Z9∧Z0 q16 (Z0 (decide (q17*112≤140737488355328)) ((∀(i:Nat),i<q17→plainC (Yc n (Z5 L) q18 i)=true)∧∃(L_1:List Z7),∃(L':List Z7),q17=q17∧(∀(i:Nat),i<q17→Yc n (Z5 L) q18 i=Z5 L_1 i)∧Xs L_1 L' q17∧q4=q19.fund∧Z0 (decide (q5=q19.index)) (Z0 (decide (q2=q19.cap)) (Z0 (decide (q6=q19.dust)) (Z0 (decide (q7=q19.fee)) (Z0 (decide (q8=q19.delay)) (q9=q19.k0∧q10=q19.k1∧Z0 (decide (q11=X'.side)) (Z0 (decide (X.res=X'.res)) (q12=[X'.a0,X'.a1]∧[X.i0,wrap i64 (q13+1)]=[X'.i0,X'.i1]∧Z0 q20 (Z0 (decide (q17≤q17)) (Z0 q20 (Zd 2 [(2,14)] q17 (Z5 X'.L) (Z5 L')∧True) False) False) False) False) False) False) False) False) False) False) False) False) False) False) False)
 False∧
 Z0 q16 (Z0 q16 (Z0 q3 ((∀(i:Nat),i<n→true=true)∧∃(L:List Z7),n=n∧q14=Z5 L∧n<1000000∧Z0 q16 (Z0 (decide (q17*112≤140737488355328)) ((∀(i:Nat),i<q17→plainC (Yc n (Z5 L) q18 i)=true)∧∃(L_1:List Z7),∃(L':List Z7),q17=q17∧(∀(i:Nat),i<q17→Yc n (Z5 L) q18 i=Z5 L_1 i)∧Xs L_1 L' q17∧q4=q19.fund∧Z0 (decide (q5=q19.index)) (Z0 (decide (q2=q19.cap)) (Z0 (decide (q6=q19.dust)) (Z0 (decide (q7=q19.fee)) (Z0 (decide (q8=q19.delay)) (q9=q19.k0∧q10=q19.k1∧Z0 (decide (q11=X'.side)) (Z0 (decide (X.res=X'.res)) (q12=[X'.a0,X'.a1]∧[X.i0,wrap i64 (q13+1)]=[X'.i0,X'.i1]∧Z0 q20 (Z0 (decide (q17≤q17)) (Z0 q20 (Zd 2 [(2,14)] q17 (Z5 X'.L) (Z5 L')∧True) False) False) False) False) False) False) False) False) False) False) False) False) False) False) False)))))
 False)
 False)
 False)) (by kernel_rfl) ?_
 conv=>zeta
 subst hn
 have hlen:=hX.am.n
 have hs01:0≤X.side∧X.side≤1:=by have:=hX.side;omega
 have hwf:i64.wrap (1-X.side)=1-X.side:=w64 (by omega)
 try rw [hwf]
 have hsf:1-X.side=0∨1-X.side=1:=by have:=hX.side;omega
 have hp:Yu ⟨false,id,am,hash,ex,1,0,Z9⟩=Yu (Xq X false id am hash ex):=rfl
 rw [hp]
 have ht:=ZeK X.L (Xq X false id am hash ex) _ rfl
 have hX2:X'={ WC X false 1 with L:=Xc (Xq X false id am hash ex) X.L}:=by rw [hX'];unfold addX;rw [if_pos he]
 generalize Xc (Xq X false id am hash ex) X.L=L2 at hX2
 subst hX2
 have hwi:i64.wrap (X.i1+1)=X.i1+1:=w64 (by have:=hX.nx;omega)
 try simp only [Zi]
 try simp only [Zj]
 try simp only [Zk]
 try simp only [Zl]
 try simp only [Zm]
 try simp only [Zh]
 try simp only [Int.toNat_natCast,Nat.zero_add,true_and,and_true,Nat.le_refl]
 unfold addE at he
 have hf:ZN X.side false=1-X.side:=rfl
 have hnx:X.nx false=X.i1:=rfl
 rw [hf,hnx] at he
 have hno:Yu (Xq X false id am hash ex)=true∧id=X.i1∧¬8≤(ZK X.side (1-X.side) X.L).length∧¬Y4 X (1-X.side)<am:=by
  split at he
  ·cases he
  ·rename_i q1
   split at he
   ·cases he
   ·rename_i q2
    split at he
    ·cases he
    ·rename_i q3
     split at he
     ·cases he
     ·rename_i q4
      exact ⟨by simpa using q1,by simpa using q2,q3,q4⟩
 obtain ⟨k1,k2,k3,k4⟩:=hno
 have hR:∀τ,Zd 2 τ (X.L.length+1) (Z5 L2) (Z5 L2):=fun τ=>Zg fun _ _=>rfl
 have hcap:=hX.cap
 have k3':¬((ZK X.side (1-X.side) X.L).length:Int)≥8:=by omega
 refine ⟨by simp [hcap],fun _ _=>trivial,X,.a rfl,hs01,hlen,fun _ _=>trivial,X,.a rfl,hs01,hsf,hX.am,by simp [k1],by simp [k2],k3',k4, ?_, ?_⟩
 all_goals exact ⟨fun _ _=>trivial,X.L,rfl,by omega,by omega,ht.1,X.L++[Xq X false id am hash ex],L2,ht.2,hs,rfl,rfl,rfl,rfl,rfl,rfl,rfl,rfl,rfl,rfl,rfl,by rw [hwi];rfl,hR _⟩
end Go.Tk
end
section
namespace Go.Tk
open IntKind (i64 u8 u32 u64 wrap)
def We (a b:Z7):Prop:=W2 a<W2 b∨(W2 a=W2 b∧a.id<b.id)
theorem Zbz {a b:Z7} (h:Xm a b):We a b:=by
 unfold Xm at h
 unfold We W2
 rcases h with ⟨h1,h2⟩|⟨h1,h2,_⟩
 ·rw [h1,h2];exact .inl (by decide)
 ·rw [h1];exact .inr ⟨rfl,h2⟩
theorem Wn (h:Z7):∀(L:List Z7),(Xc h L).Perm (L++[h])
 | []=>.refl _
 | x::r=>by
  unfold Xc
  split
  ·exact (List.perm_append_comm (l₁:=[h]) (l₂:=x::r))
  ·exact (Wn h r).cons x
theorem Z01 {h z:Z7} {L:List Z7}:z∈Xc h L↔z∈L∨z=h:=by
 rw [(Wn h L).mem_iff];simp
theorem Z60 (h:Z7) (L:List Z7):(Xc h L).length=L.length+1:=by
 rw [(Wn h L).length_eq];simp
theorem Z3S {h:Z7}:∀{L:List Z7},L.Pairwise We→(∀x∈L,x.own=h.own→x.id<h.id)→(Xc h L).Pairwise We
 | [],_,_=>by simp [Xc]
 | x::r,hp,hx=>by
  obtain ⟨h1,h2⟩:=List.pairwise_cons.1 hp
  unfold Xc
  split
  ·rename_i hc
   refine List.pairwise_cons.2 ⟨fun y hy=> ?_,hp⟩
   have kx:W2 x=1:=by unfold W2;rw [hc.2]
   have kh:W2 h=0:=by unfold W2;rw [hc.1]
   rcases List.mem_cons.1 hy with rfl|hy
   ·exact .inl (by omega)
   ·have:=h1 y hy
    unfold We at*
    omega
  ·rename_i hc
   refine List.pairwise_cons.2 ⟨fun y hy=> ?_,Z3S h2 fun z hz=>hx z (by simp [hz])⟩
   rcases Z01.1 hy with hy|rfl
   ·exact h1 y hy
   ·have:=hx x (by simp)
    unfold We W2
    cases hxo:x.own<;>cases hyo:y.own<;>simp_all
theorem Qs:∀{L:List Z7},L.Pairwise We→∀a∈L,∀b∈L,a=b∨We a b∨We b a
 | [],_,a,ha,_,_=>by cases ha
 | x::r,hp,a,ha,b,hb=>by
  obtain ⟨h1,h2⟩:=List.pairwise_cons.1 hp
  rcases List.mem_cons.1 ha with e1|e1<;>rcases List.mem_cons.1 hb with e2|e2
  ·exact .inl (e1.trans e2.symm)
  ·rw [e1];exact .inr (.inl (h1 b e2))
  ·rw [e2];exact .inr (.inr (h1 a e1))
  ·exact Qs h2 a e1 b e2
theorem ZbA {L:List Z7} (h:L.Pairwise We):Qr ltH L:=
 h.imp fun {a b} hab=>by
  rw [Z0F]
  unfold We at hab
  omega
theorem Z8q {side:Int} (hs:side=0∨side=1):∀(L:List Z7),(ZK side 0 L).length+(ZK side 1 L).length=L.length
 | []=>rfl
 | x::r=>by
  have ih:=Z8q hs r
  unfold ZK at*
  simp only [List.filter_cons,List.length_cons]
  have:(ZN side x.own=0∧¬ZN side x.own=1)∨(¬ZN side x.own=0∧ZN side x.own=1):=by
   unfold ZN
   rcases hs with rfl|rfl<;>cases x.own<;>simp
  rcases this with ⟨h1,h2⟩|⟨h1,h2⟩
  ·rw [decide_eq_true h1,decide_eq_false h2];simp;omega
  ·rw [decide_eq_false h1,decide_eq_true h2];simp;omega
theorem Za.Inv.len {H:List Int→List Int} {X:Za} (h:X.Inv H):X.L.length≤16:=by
 have:=Z8q h.side X.L
 have:=h.n0
 have:=h.n1
 omega
theorem Za.Inv.am {H:List Int→List Int} {X:Za} (h:X.Inv H):Z0C X:=Z8o (by have:=h.len;omega) h.tb h.res h.a0 h.a1 h.und
theorem Za.Inv.add {H:List Int→List Int} {X:Za} (h:X.Inv H):Z5X X:=
 ⟨by have:=ZZ h.tb;omega,h.side,h.am,h.i0,h.i1⟩
theorem Za.Inv.less {H:List Int→List Int} {X:Za} (h:X.Inv H):X.L.Pairwise We:=h.fol.imp fun hab=>Zbz hab
theorem W3 {H:List Int→List Int} {X:Za} {h:Z7} (hu:Xp H X h=true):Yu h=true∧h.id<X.nx h.own∧(1≤h.stage∧h.stage≤9)∧Z3b H h=true:=by
 unfold Xp at hu
 simp only [Bool.and_eq_true,decide_eq_true_eq] at hu
 exact ⟨hu.1.1.1,hu.1.1.2,hu.1.2,hu.2⟩
theorem Z3T {X:Za} {own:Bool} {id am ex:Int} {hash:List Int} (he:addE X own id am hash ex=0):Yu (Xq X own id am hash ex)=true∧id=X.nx own∧(ZK X.side (ZN X.side own) X.L).length<8∧am≤Y4 X (ZN X.side own):=by
 unfold addE at he
 split at he
 ·cases he
 ·rename_i q1
  split at he
  ·cases he
  ·rename_i q2
   split at he
   ·cases he
   ·rename_i q3
    split at he
    ·cases he
    ·rename_i q4
     exact ⟨by simpa using q1,by simpa using q2,by omega,by omega⟩
theorem Za.Inv.sort {H:List Int→List Int} {X:Za} (h:X.Inv H) {own:Bool} {id am ex:Int} {hash:List Int} (he:addE X own id am hash ex=0):Xs (X.L++[Xq X own id am hash ex]) (Xc (Xq X own id am hash ex) X.L) (X.L.length+1):=by
 obtain ⟨_,hid,_,_⟩:=Z3T he
 have hl:(Xc (Xq X own id am hash ex) X.L).Pairwise We:=Z3S h.less fun x hx ho=>by
  have:=(W3 (h.und x hx)).2.1
  rw [ho] at this
  show x.id<id
  rw [hid];exact this
 refine ⟨by simp,Nat.succ_pos _,by have:=h.len;omega,Wn _ _,ZbA hl,fun a ha b hb h1 h2=> ?_⟩
 rw [Z0F] at h1 h2
 rcases Qs hl a ha b hb with e|e|e
 ·exact e
 ·exact absurd e h1
 ·exact absurd e h2
end Go.Tk
end
section
namespace Go.Tk
open IntKind (i64 u8 u32 u64 wrap)
structure LB (cs:List AV) (n:Nat) (f:Nat→List AV) (X:Za):Prop where
 h1:cs=X.c (.nslice ⟨1,0,70,0,0⟩ 70 n n)
 h2:f=Z5 X.L
 h3:n=X.L.length
def ZfL (H:List Int→List Int) (c:Bool):YQ:=fun args h K=>match args with
 | [.ptr (some ⟨l,0,0,0,0⟩),_,_,_,_,_]=>match h.get l with
  |some (.flat [_,_,_,_,_,_,_,_,_,_,_,_,.nslice ⟨b,0,70,0,0⟩ 70 _ _])=>frA [l,b] h 20 args fun Bs a=>match Bs,a with
   | [.flat cs,.rows 70 n f],[.ptr (some ⟨0,0,0,0,0⟩),.bool own,.int .i64 id,.int .i64 am,.agg [.arr .u8 32 hash],.int .i64 ex]=>
    ∃X,LB cs n f X∧X.Inv H∧(match c with
     | true=>addE X own id am hash ex=0∧K (.ret (.int .i64 0)) ⟨h.next+1,(l,.flat ((addX X own id am hash ex).c (.nslice ⟨h.next,0,70,0,0⟩ 70 (X.L.length+1) (X.L.length+1))))::(h.next,.rows 70 (X.L.length+1) (Z5 (addX X own id am hash ex).L))::Xe (Xe h.bs l) b⟩
     | false=>addE X own id am hash ex≠0∧K (.ret (.int .i64 (addE X own id am hash ex))) ⟨h.next,(l,.flat (X.c (.nslice ⟨b,0,70,0,0⟩ 70 X.L.length X.L.length)))::(b,.rows 70 X.L.length (Z5 X.L))::Xe (Xe h.bs l) b⟩)
   | _,_=>False
  | _=>False
 | _=>False
theorem Zdy {H:List Int→List Int} (c:Bool) (args:List AV) (h:Z6) (K:KO) (hl:ZfL H c args h K):Zn PP 20 args h K:=by
 unfold ZfL at hl
 split at hl
 ·split at hl
  ·refine Spec.fsumm hl fun Bs a hlen hK0=> ?_
   split at hK0
   ·rename_i cs n f own id am hash ex
    obtain ⟨X,⟨rfl,rfl,rfl⟩,hI,hK⟩:=hK0
    cases c with
    | true=>
     obtain ⟨he,hK1⟩:=hK
     have hs:Xs (X.L++[Xq X own id am hash ex]) (addX X own id am hash ex).L (X.L.length+1):=by
      have:=hI.sort he
      unfold addX
      rw [if_pos he]
      exact this
     cases own with
     | true=>exact ⟨_,_,_,_,_,.evM Z1s (Z7w X _ _ id am ex hash rfl hI.add he rfl hs),by simp,.ret _ _ rfl,.cons _ _ _ _ _ _ rfl (.flat _ _ rfl) (.cons _ _ _ _ _ _ rfl (.rows _ _ _ (fun _ _=>rfl)) .nil),hK1⟩
     | false=>exact ⟨_,_,_,_,_,.evM Z1s (Z5Z X _ _ id am ex hash rfl hI.add he rfl hs),by simp,.ret _ _ rfl,.cons _ _ _ _ _ _ rfl (.flat _ _ rfl) (.cons _ _ _ _ _ _ rfl (.rows _ _ _ (fun _ _=>rfl)) .nil),hK1⟩
    | false=>
     obtain ⟨he,hK2⟩:=hK
     cases own with
     | true=>exact ⟨_,_,_,_,_,.evM Z1s (Z7v X _ id am ex _ hash rfl hI.add rfl he),by simp,.ret _ _ rfl,.cons _ _ _ _ _ _ rfl (.flat _ _ rfl) (.cons _ _ _ _ _ _ rfl (.rows _ _ _ (fun _ _=>rfl)) .nil),hK2⟩
     | false=>exact ⟨_,_,_,_,_,.evM Z1s (Z5Y X _ id am ex _ hash rfl hI.add rfl he),by simp,.ret _ _ rfl,.cons _ _ _ _ _ _ rfl (.flat _ _ rfl) (.cons _ _ _ _ _ _ rfl (.rows _ _ _ (fun _ _=>rfl)) .nil),hK2⟩
   ·exact hK0.elim
  ·exact hl.elim
 ·exact hl.elim
end Go.Tk
end
section
namespace Go.Tk
open IntKind (i64 u8 u32 u64 wrap)
def isP (own:Bool) (id:Int) (p:Z7):Prop:=p.own=own∧p.id=id
theorem Z61 {own:Bool} {id:Int}:∀{L:List Z7},(∀j,j<L.length→¬isP own id (L.getD j Zr))→ZJ own id L=L.length
 | [],_=>rfl
 | x::r,h=>by
  unfold ZJ
  have h0:¬(x.own=own∧x.id=id):=h 0 (by simp)
  rw [if_neg h0,Z61 fun j hj=>by have:=h (j+1) (by simpa using hj);rwa [List.getD_cons_succ] at this]
  rfl
theorem Z62 {own:Bool} {id:Int}:∀{L:List Z7} {i:Nat},i<L.length→(∀j,j<i→¬isP own id (L.getD j Zr))→isP own id (L.getD i Zr)→ZJ own id L=i
 | [],i,hi,_,_=>by simp at hi
 | x::r,0,_,_,h=>by
  unfold ZJ
  exact if_pos h
 | x::r,i+1,hi,hn,h=>by
  unfold ZJ
  have h0:¬(x.own=own∧x.id=id):=hn 0 (Nat.succ_pos _)
  rw [if_neg h0,Z62 (i:=i) (by simpa using hi) (fun j hj=>by have:=hn (j+1) (by omega);rwa [List.getD_cons_succ] at this) (by rwa [List.getD_cons_succ] at h)]
def fiV (own:Bool) (id:Int) (L:List Z7):Int:=if ZJ own id L<L.length then (ZJ own id L:Int) else -1
theorem ZgM (p:Z7) (own:Bool) (id:Int) (b:Bool) (hb:b=decide (p.own=own∧p.id=id)):
  evF G0 20 162 [.agg p.c,.pview [.bool own] 0,.pview [.int .i64 id] 0] ⟨0,[]⟩ (YM (fun v=>v=.bool b)):=by
 refine @Eq.mpr _ (Z0 (p.own==own) (AV.bool (p.id==id)=AV.bool b) (AV.bool false=AV.bool b)) (by kernel_rfl) ?_
 subst hb
 simp only [UE]
 congr 1
 by_cases h1:p.own=own<;>by_cases h2:p.id=id<;>simp [h1,h2]
def ZgN:ZU:=fun args h K=>ZV none h true 20 args fun a=>match a with
 | [.agg [.bool ow,.int .i64 i,.int .i64 am,.arr .u8 32 ha,.int .i64 ex,.int .i64 st,.int .i64 en,.arr .u8 32 se],.pview [.bool own] 0,.pview [.int .i64 id] 0]=>K (.bool (decide (ow=own∧i=id)))
 | _=>False
theorem Zdz (args:List AV) (h:Z6) (K:AV→Prop) (hl:ZgN args h K):Zn PP 162 args h fun o h'=>∃v,o=.ret v∧h'=h∧K v:=by
 refine ZI.psumm (d:=20) (Zu _ _ _ _ _ hl fun a ha=> ?_)
 split at ha
 ·rename_i ow i am ha' ex st en se own id
  exact ⟨_,ZI.evV ZB (ZgM ⟨ow,i,am,ha',ex,st,en,se⟩ own id _ rfl),fun _=>rfl,ha⟩
 ·exact ha.elim
noncomputable def ZfM:Zf:=G0.withP 162 ZgN
theorem ZdA:ZfM.Ok:=Zf.withP_ok ZB Zdz
def fdC (own:Bool) (id:Int):AV:=.func (.func 162) [] [.pview [.bool own] 0,.pview [.int .i64 id] 0]
def fiS (L:List Z7) (own:Bool) (id:Int) (n i:Nat):St:=⟨19,[(8,.int .i64 i),(7,.int .i64 n),(1,fdC own id),(0,.vrows 70 n (Z5 L) n)],⟨0,[]⟩,[]⟩
def fiE:St:=⟨19,[],⟨0,[]⟩,[]⟩
def fiR (i:Nat):St:=⟨19,[(4,.int .i64 i)],⟨0,[]⟩,[]⟩
theorem ZhY (L:List Z7) (own:Bool) (id:Int) (n i:Nat) (Z1 Z2 Z3:Prop) (hn:n<1000) (hL:L.length=n) (hi:i≤n) (h1:i<n→¬isP own id (L.getD i Zr)→Z1) (h2:i=n→Z2) (h3:i<n→isP own id (L.getD i Zr)→Z3):
  ZY ZfM 20 161 0 0 (fiS L own id n i) (rdM 0 0 9 (fiS L own id n (i+1)) fiE (fiR i) (fiR i) Z1 Z2 Z3 False):=by
 refine @Eq.mpr _ (let q1:=List.getD L (Int.toNat (↑i:Int)) Zr;
 let q2:=[AV.bool own];
 let q3:=[AV.int i64 id];
 let q4:=decide (n=n);
 Z0 (decide ((↑i:Int)<(↑n:Int))) (Z0 (decide (0≤(↑i:Int)∧(↑i:Int)<(↑n:Int))) (Z0 (decide (q1.own=own∧q1.id=id)) (Z0 (decide ((↑i:Int)=(↑i:Int))) Z3 False) (Z0 (decide (wrap i64 ((↑i:Int)+1)=(↑(i+1):Int))) (Z0 (decide ((↑n:Int)=(↑n:Int))) (q2=q2∧q3=q3∧Z0 q4 (Z5 L=Z5 L∧Z0 q4 Z1 False) False) False) False)) False) Z2) (by kernel_rfl) ?_
 conv=>zeta
 try simp only [Zi]
 try simp only [Zj]
 try simp only [Zk]
 try simp only [Zl]
 try simp only [Zm]
 try simp only [Zh]
 try simp only [Int.toNat_natCast,Nat.zero_add,true_and,and_true,Nat.le_refl]
 refine ⟨fun hc=> ?_,fun hc=>h2 (by omega)⟩
 have hlt:i<n:=by omega
 have hwr:i64.wrap ((i:Int)+1)=((i+1:Nat):Int):=by rw [w64 (by omega)];omega
 refine ⟨by omega,fun hm=>h3 hlt hm,fun hm=> ?_⟩
 have:=h1 hlt hm
 repeat' apply And.intro
 all_goals first|omega|exact hwr|exact this|rfl
noncomputable def ZeL (L:List Z7) (own:Bool) (id:Int) (n:Nat):Zf:=ZfM.withL 161 0 (goM 0 (fiS L own id n 0) (n<1000∧L.length=n) (YR 0 n 9 (fun i=>¬isP own id (L.getD i Zr)∧i<n) (fun i=>i=n) (fun i=>i<n∧isP own id (L.getD i Zr)) (fun _=>False) (fun _=>fiE) (fun i=>fiR i) (fun i=>fiR i)))
theorem ZbB (L:List Z7) (own:Bool) (id:Int) (n:Nat):(ZeL L own id n).Ok:=
 Zf.withGoM (N:=20) (S:=fun i=>fiS L own id n i) ZdA (by kernel_rfl) fun hC=>⟨rfl,fun i hi _=>ZhY L own id n i _ _ _ hC.1 hC.2 hi (fun h h'=>⟨⟨h',h⟩,h⟩) (fun h=>h) (fun h h'=>⟨h,h'⟩)⟩
theorem ZhZ (L:List Z7) (own:Bool) (id:Int) (n:Nat) (r:Int) (hL:L.length=n) (hn:n<1000) (hr:r=fiV own id L):
  evF (ZeL L own id n) 20 161 [.vrows 70 n (Z5 L) n,fdC own id] ⟨0,[]⟩ (YM (fun v=>v=.int .i64 r)):=by
 refine @Eq.mpr _ (let q1:=[AV.bool own];
 let q2:=[AV.int i64 id];
 let q3:=decide (n=n);
 Z0 (decide ((↑n:Int)=(↑n:Int))) (q1=q1∧q2=q2∧Z0 q3 (Z5 L=Z5 L∧Z0 q3 ((n<1000∧List.length L=n)∧∀(i:Nat),i≤n→(∀(j:Nat),j<i→(fun (i:Nat)=>¬isP own id (List.getD L i Zr)∧i<n) j)→(i=n→AV.int i64 (-1)=AV.int i64 r)∧(i<n∧isP own id (List.getD L i Zr)→AV.int i64 (↑i:Int)=AV.int i64 r)∧(False→False)) False) False) False) (by kernel_rfl) ?_
 conv=>zeta
 try simp only [Zi]
 try simp only [Zj]
 try simp only [Zk]
 try simp only [Zl]
 try simp only [Zm]
 try simp only [Zh]
 try simp only [Int.toNat_natCast,Nat.zero_add,true_and,and_true,Nat.le_refl]
 subst hL
 repeat' apply And.intro
 all_goals first|rfl|exact hn|skip
 intro i hi hg
 refine ⟨fun he=> ?_,fun he=> ?_,fun h=>h.elim⟩
 ·rw [hr]
  unfold fiV
  rw [Z61 fun j hj=>(hg j (by omega)).1,if_neg (by omega)]
 ·rw [hr]
  unfold fiV
  rw [Z62 he.1 (fun j hj=>(hg j hj).1) he.2,if_pos he.1]
def ZgO:ZU:=fun args h K=>ZV none h true 20 args fun a=>match a with
 | [.vrows 70 n f n',.func (.func 162) [] [.pview [.bool own] 0,.pview [.int .i64 id] 0]]=>∃L,n'=n∧f=Z5 L∧L.length=n∧n<1000∧K (.int .i64 (fiV own id L))
 | _=>False
theorem ZdB (args:List AV) (h:Z6) (K:AV→Prop) (hl:ZgO args h K):Zn PP 161 args h fun o h'=>∃v,o=.ret v∧h'=h∧K v:=by
 refine ZI.psumm (d:=20) (Zu _ _ _ _ _ hl fun a ha=> ?_)
 split at ha
 ·obtain ⟨L,rfl,rfl,h1,h2,hK⟩:=ha
  exact ⟨_,ZI.evV (ZbB L _ _ _) (ZhZ L _ _ _ _ h1 h2 rfl),fun _=>rfl,hK⟩
 ·exact ha.elim
noncomputable def ZeM:Zf:=G0.withP 161 ZgO
theorem ZbC:ZeM.Ok:=Zf.withP_ok ZB ZdB
theorem Zi0 (X:Za) (own:Bool) (id r:Int) (hn:X.L.length<1000) (hr:r=fiV own id X.L):
  evF ZeM 20 125 [VB X,.bool own,.int .i64 id] ⟨0,[]⟩ (YM (fun v=>v=.int .i64 r)):=by
 refine @Eq.mpr _ (let q1:=List.length X.L;
 ∃(L:List Z7),q1=q1∧Z5 X.L=Z5 L∧List.length L=q1∧q1<1000∧AV.int i64 (fiV own id L)=AV.int i64 r) (by kernel_rfl) ?_
 conv=>zeta
 subst hr
 exact ⟨X.L,rfl,rfl,rfl,hn,rfl⟩
def ZeN:ZU:=fun args h K=>ZV none h true 20 args fun a=>match a with
 | [.pview cs 0,.bool own,.int .i64 id]=>∃X,LV cs X∧X.L.length<1000∧K (.int .i64 (fiV own id X.L))
 | _=>False
theorem ZbD (args:List AV) (h:Z6) (K:AV→Prop) (hl:ZeN args h K):Zn PP 125 args h fun o h'=>∃v,o=.ret v∧h'=h∧K v:=by
 refine ZI.psumm (d:=20) (Zu _ _ _ _ _ hl fun a ha=> ?_)
 split at ha
 ·obtain ⟨X,hX,h1,hK⟩:=ha
  exact ⟨_,(ZI.evV ZbC (Zi0 X _ _ _ h1 rfl)).conv fun E r hr=>hr.head (fun _ hc=>WE hX hc) fun _ hc=>hc,fun _=>rfl,hK⟩
 ·exact ha.elim
end Go.Tk
end
section
namespace Go.Tk
open IntKind (i64 u8 u32 u64 wrap)
theorem ZgP {s:Int} (h:1≤s∧s≤9):s=1∨s=2∨s=3∨s=4∨s=5∨s=6∨s=7∨s=8∨s=9:=by omega
theorem ZgQ {s:Int} (h:1≤s∧s≤4):s=1∨s=2∨s=3∨s=4:=by omega
theorem Zi1 (o:Bool) (s m r:Int) (on:Bool) (hs:1≤s∧s≤9) (hm:1≤m∧m≤4) (hr:r=Y1 o s m) (hon:on=decide (Wd o s=m)):
  evF G0 20 73 [.bool o,.int .i64 s,.int .i64 m] ⟨0,[]⟩ (YM (fun v=>v=.tuple [.int .i64 r,.bool on,.int .i64 0])):=by
 refine @Eq.mpr _ (let q1:=decide (1≤s);
 let q2:=decide (1≤m);
 let q3:=decide (s≤10);
 let q4:=false==q3;
 let q5:=[AV.int i64 0];
 let q6:=AV.tuple (AV.int i64 r::AV.bool on::q5);
 let q7:=AV.tuple [AV.int i64 0,AV.bool false,AV.int i64 2]=q6;
 let q8:=AV.tuple (AV.int i64 s::AV.bool false::q5)=q6;
 let q9:=AV.tuple (AV.int i64 (wrap i64 (s+1))::AV.bool true::q5)=q6;
 let q10:=Z0 (0 !=m) q8 q9;
 let q11:=decide (s=s);
 let q12:=decide (0≤s∧s<10);
 Z0 q1 (Z0 q2 (Z0 q4 q7 (Z0 (false==decide (m≤4)) q7 (Z0 q1 (Z0 (!q3) q10 (Z0 (s==10) q10 (Z0 (o==true) (Z0 q11 (Z0 q12 (Z0 (List.getD [(0:Int),1,2,3,4,0,3,4,1,2] (Int.toNat s) 0 !=m) q8 q9) False) False) (Z0 q11 (Z0 q12 (Z0 (List.getD [(0:Int),3,4,1,2,0,1,2,3,4] (Int.toNat s) 0 !=m) q8 q9) False) False)))) q10))) (Z0 q4 q7 q7)) (Z0 q2 q7 q7)) (by kernel_rfl) ?_
 conv=>zeta
 subst hr hon
 cases o<;>rcases ZgP hs with h|h|h|h|h|h|h|h|h<;>subst h<;>rcases ZgQ hm with h|h|h|h<;>subst h<;>exact rfl
theorem Zi2 (o u:Bool) (s:Int) (b:Bool) (hb:b=Yv o s u):
  evF G0 20 34 [.bool o,.int .i64 s,.bool u] ⟨0,[]⟩ (YM (fun v=>v=.bool b)):=by
 refine @Eq.mpr _ (let q1:=AV.bool b;
 let q2:=AV.bool false=q1;
 Z0 (o==u) (Z0 (decide (4≤s)) (AV.bool (decide (s≤6))=q1) q2) (Z0 (decide (2≤s)) (AV.bool (decide (s≤8))=q1) q2)) (by kernel_rfl) ?_
 conv=>zeta
 subst hb
 unfold Yv
 rw [Bool.decide_and,Bool.decide_and]
 cases o<;>cases u<;>simp [Z0]<;>(split<;>simp_all)<;>(try omega)
theorem Zi3 (s r e:Int) (hs:1≤s∧s≤9) (hr:r=if s=5 then 6 else 0) (he:e=if s=5 then 0 else 190):
  evF G0 20 126 [.int .i64 s] ⟨0,[]⟩ (YM (fun v=>v=.tuple [.int .i64 r,.int .i64 e])):=by
 refine @Eq.mpr _ (let q1:=AV.int i64 0;
 let q2:=AV.tuple [AV.int i64 r,AV.int i64 e];
 let q3:=AV.tuple [q1,AV.int i64 2]=q2;
 Z0 (decide (1≤s)) (Z0 (!decide (s≤10)) q3 (Z0 (s !=5) (AV.tuple [q1,AV.int i64 190]=q2) (AV.tuple [AV.int i64 6,q1]=q2))) q3) (by kernel_rfl) ?_
 conv=>zeta
 subst hr he
 rcases ZgP hs with h|h|h|h|h|h|h|h|h<;>subst h<;>exact rfl
def waS:ZU:=fun args _ K=>match args with
 | [.bool o,.int .i64 s]=>Zx (1≤s∧s≤9) (K (.int .i64 (Wd o s)))
 | _=>False
def neS:ZU:=fun args _ K=>match args with
 | [.bool o,.int .i64 s,.int .i64 m]=>Zx ((1≤s∧s≤9)∧1≤m∧m≤4) (K (.tuple [.int .i64 (Y1 o s m),.bool (decide (Wd o s=m)),.int .i64 0]))
 | _=>False
theorem ZfN (args:List AV) (h:Z6) (K:AV→Prop) (hl:neS args h K):Zn PP 73 args h fun o h'=>∃v,o=.ret v∧h'=h∧K v:=by
 unfold neS at hl
 split at hl
 ·obtain ⟨⟨h1,h2⟩,hK⟩:=Zb hl
  exact Yq ZB rfl (Zi1 _ _ _ _ _ h1 h2 rfl rfl) (fun u hu=>hu▸hK)
 ·exact hl.elim
def ZfO:ZU:=fun args _ K=>match args with
 | [.bool o,.int .i64 s,.bool u]=>K (.bool (Yv o s u))
 | _=>False
theorem ZdC (args:List AV) (h:Z6) (K:AV→Prop) (hl:ZfO args h K):Zn PP 34 args h fun o h'=>∃v,o=.ret v∧h'=h∧K v:=by
 unfold ZfO at hl
 split at hl
 ·exact Yq ZB rfl (Zi2 _ _ _ _ rfl) (fun u hu=>hu▸hl)
 ·exact hl.elim
def seS:ZU:=fun args _ K=>match args with
 | [.int .i64 s]=>Zx (1≤s∧s≤9) (K (.tuple [.int .i64 (if s=5 then 6 else 0),.int .i64 (if s=5 then 0 else 190)]))
 | _=>False
theorem ZfP (args:List AV) (h:Z6) (K:AV→Prop) (hl:seS args h K):Zn PP 126 args h fun o h'=>∃v,o=.ret v∧h'=h∧K v:=by
 unfold seS at hl
 split at hl
 ·obtain ⟨h1,hK⟩:=Zb hl
  exact Yq ZB rfl (Zi3 _ _ _ h1 rfl rfl) (fun u hu=>hu▸hK)
 ·exact hl.elim
end Go.Tk
end
section
namespace Go.Tk
open IntKind (i64 u8 u32 u64 wrap)
noncomputable def ZfQ (H1:List Int→List Int) (H2:List Int→List Int→List Int) (B:Nat):Zf:=(((G8 H1 H2 B).withP 125 ZeN).withP 126 seS).withF 69 ZfK
theorem Z8r:(ZfQ Zt Z3a 1000).Ok:=Zf.withF_ok (Zf.withP_ok (Zf.withP_ok (Zey 1000 (by decide)) ZbD) ZfP) Z8p
theorem ZgR {L:List Z7} {I:Nat} {q:Z7} (hI:I<L.length) (i:Nat):(L.set I q).getD i Zr=if i=I then q else L.getD i Zr:=by
 rw [List.getD_eq_getElem?_getD,List.getElem?_set]
 by_cases h:i=I
 ·subst h;rw [if_pos rfl,if_pos hI,if_pos rfl];rfl
 ·rw [if_neg (fun q=>h q.symm),if_neg h,List.getD_eq_getElem?_getD]
theorem ZgS (X:Za) (n:Nat) (own:Bool) (id k e:Int) (sec:List Int) (H1:List Int→List Int) (H2:List Int→List Int→List Int) (B:Nat) (hn:X.L.length=n) (hlen:X.L.length<1000) (hcap:X.t.cap≠0) (hst:∀h∈X.L,1≤h.stage∧h.stage≤9) (hOk:∀h∈X.L,h.Ok) (hsec:sec.length=32) (hl:(H1 sec).length=32) (hB:32≤B) (he:e=endE H1 X own id k sec) (hne:e≠0):
  evF (ZfQ H1 H2 B) 20 74 [.ptr (some ⟨0,0,0,0,0⟩),.bool own,.int .i64 id,.int .i64 k,.agg [.arr .u8 32 sec]] (Z5W X n) (YS 2 (.ret (.int .i64 e)) 2 [(0,.flat (X.c (.nslice ⟨1,0,70,0,0⟩ 70 n n))),(1,.rows 70 n (Z5 X.L))]):=by
 refine @Eq.mpr _ (let q1:=X.t;
 let q2:=q1.cap;
 let q3:=q1.fund;
 let q4:=q3=q3;
 let q5:=q1.index;
 let q6:=decide (q5=q5);
 let q7:=decide (q2=q2);
 let q8:=q1.dust;
 let q9:=decide (q8=q8);
 let q10:=q1.fee;
 let q11:=decide (q10=q10);
 let q12:=q1.delay;
 let q13:=decide (q12=q12);
 let q14:=q1.k0;
 let q15:=q14=q14;
 let q16:=q1.k1;
 let q17:=q16=q16;
 let q18:=X.side;
 let q19:=decide (q18=q18);
 let q20:=X.res;
 let q21:=decide (q20=q20);
 let q22:=[X.a0,X.a1];
 let q23:=q22=q22;
 let q24:=[X.i0,X.i1];
 let q25:=q24=q24;
 let q26:=decide (n=n);
 let q27:=Z5 X.L;
 let q28:=q4∧Z0 q6 (Z0 q7 (Z0 q9 (Z0 q11 (Z0 q13 (q15∧q17∧Z0 q19 (Z0 q21 (q23∧q25∧Z0 q26 (Z0 (decide (n≤n)) (Z0 q26 (Zd 2 [] n q27 q27∧True) False) False) False) False) False) False) False) False) False) False;
 let q29:=decide (0+n≤n);
 let q30:=ZX 0 q27;
 let q31:=List.length sec;
 let q32:=Z0 (decide (0=e)) (q4∧Z0 q6 (Z0 q7 (Z0 q9 (Z0 q11 (Z0 q13 (q15∧q17∧Z0 q19 (Z0 q21 (q23∧q25∧False) False) False) False) False) False) False) False) False;
 Z0 (q2==0) (Z0 (decide (1=e)) q28 False)
 (Z0 q29
 ((∀(i:Nat),i<n→true=true)∧
 ∃(X_1:Za),
 let q65:=fiV own id X_1.L;
 let q66:=decide (0≤q65∧q65< ↑n);
 let q67:=0+Int.toNat q65;
 let q68:=List.getD X.L q67 Zr;
 let q69:=q68.stage;
 let q70:=if q69=5 then 0 else 190;
 let q71:=q68.hash;
 let q72:=q70 !=0;
 let q73:=Z0 (decide (q70=e)) q28 False;
 LV [AV.arr u8 32 q3,AV.int i64 q5,AV.int i64 q2,AV.int i64 q8,AV.int i64 q10,AV.int i64 q12,AV.arr u8 32 q14,AV.arr u8 32 q16,AV.int i64 q18,AV.int i64 q20,AV.arr i64 2 q22,AV.arr i64 2 q24,AV.vrows 70 n q30 n] X_1∧
 List.length X_1.L<1000∧
 Z0 (decide (q65<0)) (Z0 (decide (5=e)) q28 False)
 (Z0 q66 (Z0 (decide (q67<n)) (Z0 (decide (1≤q69∧q69≤9)) (Z0 (q70==0) (Z0 (k==1) (q71=q71∧Z0 (decide (q31=32)) (Z0 (decide (32=q31)) (Z0 (decide (q31≤B)) (Z0 (decide (List.length (H1 sec)=32∧List.length q71=32)) (Z0 (!H1 sec==q71) (Z0 (decide (203=e)) q28 False) (Z0 q72 q73 (sec=sec∧sec=sec∧Z0 q29 ((∀(i:Nat),i<n→true=true)∧∃(L:List Z7),n=n∧q30=Z5 L∧n<1000000∧Z0 q66 (Z0 (decide (q67<n)) q32 False) False) False))) False) False) False) False) (Z0 q72 q73 (sec=sec∧sec=sec∧Z0 q29 ((∀(i:Nat),i<n→true=true)∧∃(L:List Z7),n=n∧q30=Z5 L∧n<1000000∧Z0 q66 (Z0 (decide (q67<n)) q32 False) False) False))) (Z0 q72 q73 (sec=sec∧sec=sec∧Z0 q29 ((∀(i:Nat),i<n→true=true)∧∃(L:List Z7),n=n∧q30=Z5 L∧n<1000000∧Z0 q66 (Z0 (decide (q67<n)) q32 False) False) False))) False) False) False))
 False)) (by kernel_rfl) ?_
 conv=>zeta
 subst hn
 have hR:Zd 2 [] X.L.length (Z5 X.L) (Z5 X.L):=Zg fun _ _=>rfl
 try simp only [Zi]
 try simp only [Zj]
 try simp only [Zk]
 try simp only [Zl]
 try simp only [Zm]
 try simp only [Zh]
 try simp only [Int.toNat_natCast,Nat.zero_add,true_and,and_true,Nat.le_refl]
 unfold endE at he
 refine ⟨fun hc=>absurd hc (by simp [hcap]),fun _=>⟨fun _ _=>trivial,X,.a rfl,hlen, ?_⟩⟩
 by_cases hI:ZJ own id X.L<X.L.length
 ·have hv:fiV own id X.L=((ZJ own id X.L:Nat):Int):=by unfold fiV;rw [if_pos hI]
  rw [hv]
  simp only [Int.toNat_natCast]
  rw [if_neg (by omega)] at he
  have hx:=Yd hI
  have h1:=hst _ hx
  have h2:=(hOk _ hx).hash
  refine ⟨fun h=>by omega,fun _=>⟨by omega,hI,h1, ?_⟩⟩
  by_cases h5:(X.L.getD (ZJ own id X.L) Zr).stage=5
  ·rw [if_neg (fun hq=>hq h5)] at he
   simp only [if_pos h5]
   have hz:(fun (_:Unit)=>(k=1∧H1 sec≠(X.L.getD (ZJ own id X.L) Zr).hash)) ()→e=203:=fun h=>by rw [he,if_pos h]
   have hno:¬(k=1∧H1 sec≠(X.L.getD (ZJ own id X.L) Zr).hash)→False:=fun h=>hne (by rw [he,if_neg h])
   refine ⟨fun _=>⟨fun hk=>⟨hsec,hsec.symm,by omega,⟨hl,h2⟩,fun hh=>⟨?_,hR⟩,fun hh=>(hno fun hq=>hq.2 (by simpa using hh)).elim⟩,fun hk=>(hno fun hq=>by simp [hq.1] at hk).elim⟩,fun h=>by simp at h⟩
   exact (hz ⟨by simpa using hk,by simpa using hh⟩).symm
  ·rw [if_pos h5] at he
   simp only [if_neg h5]
   exact ⟨fun h=>by simp at h,fun _=>⟨fun _=>⟨he.symm,hR⟩,fun h=>by simp at h⟩⟩
 ·have hv:fiV own id X.L= -1:=by unfold fiV;rw [if_neg hI]
  rw [hv]
  rw [if_pos (by omega)] at he
  exact ⟨fun _=>⟨he.symm,hR⟩,fun h=>by omega⟩
theorem ZgT (X X':Za) (n:Nat) (own:Bool) (id k:Int) (sec:List Int) (H1:List Int→List Int) (H2:List Int→List Int→List Int) (B:Nat) (hn:X.L.length=n) (hlen:X.L.length<1000) (hcap:X.t.cap≠0) (hst:∀h∈X.L,1≤h.stage∧h.stage≤9) (hOk:∀h∈X.L,h.Ok) (hsec:sec.length=32) (hl:(H1 sec).length=32) (hB:32≤B) (he:endE H1 X own id k sec=0) (hX':X'=endX H1 X own id k sec):
  evF (ZfQ H1 H2 B) 20 74 [.ptr (some ⟨0,0,0,0,0⟩),.bool own,.int .i64 id,.int .i64 k,.agg [.arr .u8 32 sec]] (Z5W X n) (YS 2 (.ret (.int .i64 0)) 3 [(0,.flat (X'.c (.nslice ⟨2,0,70,0,0⟩ 70 n n))),(2,.rows 70 n (Z5 X'.L))]):=by
 refine @Eq.mpr _ (let q1:=X.t;
 let q2:=q1.cap;
 let q3:=decide ((0:Nat)+n≤n);
 let q4:=q1.fund;
 let q5:=q1.index;
 let q6:=q1.dust;
 let q7:=q1.fee;
 let q8:=q1.delay;
 let q9:=q1.k0;
 let q10:=q1.k1;
 let q11:=[X.a0,X.a1];
 let q12:=[X.i0,X.i1];
 let q13:=X.L;
 let q14:=Z5 q13;
 let q15:=ZX (0:Nat) q14;
 let q16:=List.length sec;
 let q17:=X'.t;
 let q18:=q4=q17.fund;
 let q19:=decide (q5=q17.index);
 let q20:=decide (q2=q17.cap);
 let q21:=decide (q6=q17.dust);
 let q22:=decide (q7=q17.fee);
 let q23:=decide (q8=q17.delay);
 let q24:=q9=q17.k0;
 let q25:=q10=q17.k1;
 let q26:=decide (X.side=X'.side);
 let q27:=decide (X.res=X'.res);
 let q28:=q11=[X'.a0,X'.a1];
 let q29:=q12=[X'.i0,X'.i1];
 let q30:=decide (n=n);
 let q31:=decide (n≤n);
 let q32:=Z5 X'.L;
 Z0 (q2==(0:Int)) False
 (Z0 q3
 ((∀(i:Nat),i<n→true=true)∧
 ∃(X_1:Za),
 let q65:=fiV own id X_1.L;
 let q66:=decide ((0:Int)≤q65∧q65<(↑n:Int));
 let q67:=(0:Nat)+Int.toNat q65;
 let q68:=List.getD q13 q67 Zr;
 let q69:=q68.stage;
 let q70:=q69=(5:Int);
 let q71:=if q70 then (0:Int) else (190:Int);
 let q72:=q68.hash;
 let q73:=q71 !=(0:Int);
 let q74:=Z0 (decide (q71=(0:Int))) (q18∧Z0 q19 (Z0 q20 (Z0 q21 (Z0 q22 (Z0 q23 (q24∧q25∧Z0 q26 (Z0 q27 (q28∧q29∧Z0 q30 (Z0 q31 (Z0 q30 (Zd (2:Nat) [((2:Nat),(1:Nat))] n q32 q14∧True) False) False) False) False) False) False) False) False) False) False) False;
 LV [AV.arr u8 (32:Nat) q4,AV.int i64 q5,AV.int i64 q2,AV.int i64 q6,AV.int i64 q7,AV.int i64 q8,AV.arr u8 (32:Nat) q9,AV.arr u8 (32:Nat) q10,AV.int i64 X.side,AV.int i64 X.res,AV.arr i64 (2:Nat) q11,AV.arr i64 (2:Nat) q12,AV.vrows (70:Nat) n q15 n] X_1∧
 List.length X_1.L<(1000:Nat)∧
 Z0 (decide (q65<(0:Int))) False
 (Z0 q66
 (Z0 (decide (q67<n))
 (Z0 (decide ((1:Int)≤q69∧q69≤(9:Int)))
 (Z0 (q71==(0:Int))
 (Z0 (k==(1:Int))
 (q72=q72∧Z0 (decide (q16=(32:Nat))) (Z0 (decide ((32:Nat)=q16)) (Z0 (decide (q16≤B)) (Z0 (decide (List.length (H1 sec)=(32:Nat)∧List.length q72=(32:Nat))) (Z0 (!H1 sec==q72) False (Z0 q73 q74 (sec=sec∧sec=sec∧Z0 q3 ((∀(i:Nat),i<n→true=true)∧∃(L:List Z7),n=n∧q15=Z5 L∧n<(1000000:Nat)∧Z0 q66 (Z0 (decide (q67<n)) (q18∧Z0 q19 (Z0 q20 (Z0 q21 (Z0 q22 (Z0 q23 (q24∧q25∧Z0 q26 (Z0 q27 (q28∧q29∧Z0 q30 (Z0 q31 (Z0 q30 (Zd (2:Nat) [((2:Nat),(5:Nat))] n q32 (Z6p (Z5 L) q67 [AV.bool q68.own,AV.int i64 q68.id,AV.int i64 q68.amount,AV.arr u8 (32:Nat) q72,AV.int i64 q68.expiry,AV.int i64 (if q70 then (6:Int) else (0:Int)),AV.int i64 k,AV.arr u8 (32:Nat) sec])∧True) False) False) False) False) False) False) False) False) False) False) False) False) False))) False) False) False) False)
 (Z0 q73 q74 (sec=sec∧sec=sec∧Z0 q3 ((∀(i:Nat),i<n→true=true)∧∃(L:List Z7),n=n∧q15=Z5 L∧n<(1000000:Nat)∧Z0 q66 (Z0 (decide (q67<n)) (q18∧Z0 q19 (Z0 q20 (Z0 q21 (Z0 q22 (Z0 q23 (q24∧q25∧Z0 q26 (Z0 q27 (q28∧q29∧Z0 q30 (Z0 q31 (Z0 q30 (Zd (2:Nat) [((2:Nat),(4:Nat))] n q32 (Z6p (Z5 L) q67 [AV.bool q68.own,AV.int i64 q68.id,AV.int i64 q68.amount,AV.arr u8 (32:Nat) q72,AV.int i64 q68.expiry,AV.int i64 (if q70 then (6:Int) else (0:Int)),AV.int i64 k,AV.arr u8 (32:Nat) sec])∧True) False) False) False) False) False) False) False) False) False) False) False) False) False)))
 (Z0 q73 q74 (sec=sec∧sec=sec∧Z0 q3 ((∀(i:Nat),i<n→true=true)∧∃(L:List Z7),n=n∧q15=Z5 L∧n<(1000000:Nat)∧Z0 q66 (Z0 (decide (q67<n)) (q18∧Z0 q19 (Z0 q20 (Z0 q21 (Z0 q22 (Z0 q23 (q24∧q25∧Z0 q26 (Z0 q27 (q28∧q29∧Z0 q30 (Z0 q31 (Z0 q30 (Zd (2:Nat) [((2:Nat),(4:Nat))] n q32 (Z6p (Z5 L) q67 [AV.bool q68.own,AV.int i64 q68.id,AV.int i64 q68.amount,AV.arr u8 (32:Nat) q72,AV.int i64 q68.expiry,AV.int i64 (if q70 then (6:Int) else (0:Int)),AV.int i64 k,AV.arr u8 (32:Nat) sec])∧True) False) False) False) False) False) False) False) False) False) False) False) False) False)))
 False)
 False)
 False))
 False)) (by kernel_rfl) ?_
 conv=>zeta
 subst hn
 have hX2:X'={ X with L:=X.L.set (ZJ own id X.L) (QX (X.L.getD (ZJ own id X.L) Zr) k sec)}:=by rw [hX'];unfold endX;rw [if_pos he]
 have hI:ZJ own id X.L<X.L.length:=by
  rcases Nat.lt_or_ge (ZJ own id X.L) X.L.length with h|h
  ·exact h
  ·unfold endE at he;rw [if_pos h] at he;cases he
 have h5:(X.L.getD (ZJ own id X.L) Zr).stage=5:=by
  unfold endE at he
  rw [if_neg (by omega)] at he
  by_cases h:(X.L.getD (ZJ own id X.L) Zr).stage=5
  ·exact h
  ·rw [if_pos h] at he;cases he
 have hno:¬(k=1∧H1 sec≠(X.L.getD (ZJ own id X.L) Zr).hash):=fun hq=>by
  unfold endE at he
  rw [if_neg (by omega),if_neg (fun hq2=>hq2 h5),if_pos hq] at he
  cases he
 have hU:∀τ,Zd 2 τ X.L.length (Z5 (X.L.set (ZJ own id X.L) (QX (X.L.getD (ZJ own id X.L) Zr) k sec))) (Z6p (Z5 X.L) (ZJ own id X.L) (QX (X.L.getD (ZJ own id X.L) Zr) k sec).c):=fun τ=>Zg fun i hi=>by
  rw [Z41]
  unfold Z5
  rw [ZgR hI]
  by_cases h:i=ZJ own id X.L
  ·rw [if_pos h,h,Nat.beq_refl]
  ·rw [if_neg h,ZC h]
 generalize hLn:X.L.set (ZJ own id X.L) (QX (X.L.getD (ZJ own id X.L) Zr) k sec)=L2 at*
 subst hX2
 try simp only [Zi]
 try simp only [Zj]
 try simp only [Zk]
 try simp only [Zl]
 try simp only [Zm]
 try simp only [Zh]
 try simp only [Int.toNat_natCast,Nat.zero_add,true_and,and_true,Nat.le_refl]
 have hx:=Yd hI
 have h1:=hst _ hx
 have h2:=(hOk _ hx).hash
 have hv:fiV own id X.L=((ZJ own id X.L:Nat):Int):=by unfold fiV;rw [if_pos hI]
 refine ⟨by simp [hcap],fun _ _=>trivial,X,.a rfl,hlen, ?_⟩
 rw [hv]
 simp only [Int.toNat_natCast,if_pos h5]
 refine ⟨by omega,by omega,hI,h1,fun _=>⟨fun hk=>⟨hsec,hsec.symm,by omega,⟨hl,h2⟩, ?_, ?_⟩,fun hk=> ?_⟩,fun h=>by simp at h⟩
 ·have hk:k=1:=by simpa using hk
  have:H1 sec=(X.L.getD (ZJ own id X.L) Zr).hash:=Classical.byContradiction fun hq=>hno ⟨hk,hq⟩
  rw [this];simp
 all_goals
  refine ⟨fun h=>by simp at h,fun _=>⟨fun _ _=>trivial,X.L,rfl,by omega, ?_⟩⟩
  repeat' apply And.intro
  all_goals first|rfl|exact hU _|omega
theorem Za.Inv.stage {H:List Int→List Int} {X:Za} (h:X.Inv H):∀z∈X.L,1≤z.stage∧z.stage≤9:=fun z hz=>(W3 (h.und z hz)).2.2.1
def ZfR (c:Bool):YQ:=fun args h K=>match args with
 | [.ptr (some ⟨l,0,0,0,0⟩),_,_,_,_]=>match h.get l with
  |some (.flat [_,_,_,_,_,_,_,_,_,_,_,_,.nslice ⟨b,0,70,0,0⟩ 70 _ _])=>frA [l,b] h 20 args fun Bs a=>match Bs,a with
   | [.flat cs,.rows 70 n f],[.ptr (some ⟨0,0,0,0,0⟩),.bool own,.int .i64 id,.int .i64 k,.agg [.arr .u8 32 sec]]=>
    ∃X,LB cs n f X∧X.Inv Zt∧sec.length=32∧(match c with
     | true=>endE Zt X own id k sec=0∧K (.ret (.int .i64 0)) ⟨h.next+1,(l,.flat ((endX Zt X own id k sec).c (.nslice ⟨h.next,0,70,0,0⟩ 70 X.L.length X.L.length)))::(h.next,.rows 70 X.L.length (Z5 (endX Zt X own id k sec).L))::Xe (Xe h.bs l) b⟩
     | false=>endE Zt X own id k sec≠0∧K (.ret (.int .i64 (endE Zt X own id k sec))) ⟨h.next,(l,.flat (X.c (.nslice ⟨b,0,70,0,0⟩ 70 X.L.length X.L.length)))::(b,.rows 70 X.L.length (Z5 X.L))::Xe (Xe h.bs l) b⟩)
   | _,_=>False
  | _=>False
 | _=>False
theorem ZdD (c:Bool) (args:List AV) (h:Z6) (K:KO) (hl:ZfR c args h K):Zn PP 74 args h K:=by
 unfold ZfR at hl
 split at hl
 ·split at hl
  ·refine Spec.fsumm hl fun Bs a hlen hK0=> ?_
   split at hK0
   ·rename_i cs n f own id k sec
    obtain ⟨X,⟨rfl,rfl,rfl⟩,hI,hsec,hK⟩:=hK0
    have hlen:X.L.length<1000:=hI.am.n
    cases c with
    | true=>
     obtain ⟨he,hK1⟩:=hK
     exact ⟨_,_,_,_,_,.evM Z8r (ZgT X _ _ own id k sec Zt Z3a 1000 rfl hlen hI.add.cap hI.stage hI.ok hsec (Wz _) (by decide) he rfl),by simp,.ret _ _ rfl,.cons _ _ _ _ _ _ rfl (.flat _ _ rfl) (.cons _ _ _ _ _ _ rfl (.rows _ _ _ (fun _ _=>rfl)) .nil),hK1⟩
    | false=>
     obtain ⟨he,hK2⟩:=hK
     exact ⟨_,_,_,_,_,.evM Z8r (ZgS X _ own id k _ sec Zt Z3a 1000 rfl hlen hI.add.cap hI.stage hI.ok hsec (Wz _) (by decide) rfl he),by simp,.ret _ _ rfl,.cons _ _ _ _ _ _ rfl (.flat _ _ rfl) (.cons _ _ _ _ _ _ rfl (.rows _ _ _ (fun _ _=>rfl)) .nil),hK2⟩
   ·exact hK0.elim
  ·exact hl.elim
 ·exact hl.elim
end Go.Tk
end
section
namespace Go.Tk
open IntKind (i64 u8 u32 u64 wrap)
noncomputable def ZdE:Zf:=G0.withP 73 neS
def Zi4:AV:=.func (.func 81) [] [.ptr (some ⟨2,0,0,0,0⟩)]
def Zi5 (X:Za) (L:List Z7) (n:Nat) (G Hd Lf:List Z7):Z6:=⟨6,[(0,.flat (X.c (.nslice ⟨1,0,70,0,0⟩ 70 n n))),(1,.rows 70 n (Z5 L)),(2,.flat [.ptr (some ⟨0,0,0,103,0⟩)]),(3,.rows 70 G.length (Z5 G)),(4,.rows 70 Hd.length (Z5 Hd)),(5,.rows 70 Lf.length (Z5 Lf))]⟩
def stS (X:Za) (L:List Z7) (m:Int) (n i:Nat) (G Hd Lf:List Z7):St:=⟨87,[(30,.int .i64 i),(29,.int .i64 n),(28,.nslice ⟨1,0,70,0,0⟩ 70 n n),(1,.int .i64 m),(7,Zi4),(0,.ptr (some ⟨0,0,0,0,0⟩)),(5,.nslice ⟨3,0,70,0,0⟩ 70 G.length G.length),(4,.nslice ⟨4,0,70,0,0⟩ 70 Hd.length Hd.length),(8,.nslice ⟨5,0,70,0,0⟩ 70 Lf.length Lf.length)],Zi5 X L n G Hd Lf,[]⟩
def stE (X:Za) (L:List Z7) (m:Int) (n:Nat) (G Hd Lf:List Z7):St:=⟨87,[(0,.ptr (some ⟨0,0,0,0,0⟩)),(5,.nslice ⟨2,0,70,0,0⟩ 70 G.length G.length),(4,.nslice ⟨3,0,70,0,0⟩ 70 Hd.length Hd.length),(8,.nslice ⟨4,0,70,0,0⟩ 70 Lf.length Lf.length)],⟨5,[(0,.flat (X.c (.nslice ⟨1,0,70,0,0⟩ 70 n n))),(1,.rows 70 n (Z5 L)),(2,.rows 70 G.length (Z5 G)),(3,.rows 70 Hd.length (Z5 Hd)),(4,.rows 70 Lf.length (Z5 Lf))]⟩,[]⟩
theorem Z1t {s a b q:Int} (hs:s=0∨s=1) (h1: -1152921504606846976≤a∧a≤1152921504606846976) (h2: -1152921504606846976≤b∧b≤1152921504606846976) (h3:0≤q∧q≤1152921504606846976):
  ([a,b].set s.toNat (i64.wrap ([a,b].getD s.toNat 0-q))).set (1-s).toNat (i64.wrap (([a,b].set s.toNat (i64.wrap ([a,b].getD s.toNat 0-q))).getD (1-s).toNat 0+q))=if s=0 then [a-q,b+q] else [a+q,b-q]:=by
 rcases hs with rfl|rfl
 ·show [i64.wrap (a-q),i64.wrap (b+q)]=[a-q,b+q]
  rw [w64 (by omega),w64 (by omega)]
 ·show [i64.wrap (a+q),i64.wrap (b-q)]=[a+q,b-q]
  rw [w64 (by omega),w64 (by omega)]
theorem Z4R {side:Int} {p:Int×Int} {h:Z7} (hf:¬h.fin=1):Xr side p h=p:=by unfold Xr;rw [if_neg hf]
theorem Z2P {side a b:Int} {h:Z7} (hf:h.fin=1):[(Xr side (a,b) h).1,(Xr side (a,b) h).2]=if ZN side h.own=0 then [a-h.amount,b+h.amount] else [a+h.amount,b-h.amount]:=by
 unfold Xr
 rw [if_pos hf]
 split<;>rfl
theorem ZfS {o:Bool} {s m:Int} (hs:1≤s∧s≤9) (h:Y1 o s m=10):s=9:=by unfold Y1 at h;split at h<;>omega
theorem ZgU (X X1:Za) (L:List Z7) (m:Int) (n i:Nat) (x:Z7) (G Hd Lf G1 Hd1 Lf1:List Z7) (Z1 Z2:Prop) (hn:n<1000) (hL:L.length=n) (hi:i≤n) (hm:1≤m∧m≤4) (hX:X8 X) (hx:i<n→L.getD i Zr=x) (hst:i<n→1≤x.stage∧x.stage≤9) (hb:G.length<1000∧Hd.length<1000∧Lf.length<1000) (hG:i<n→G1=G++VK (decide (Y1 x.own x.stage m=10)) (stH m x)) (hH:i<n→Hd1=Hd++VK (decide (x.stage=4∧Wd x.own 4=m)) (stH m x)) (hLf:i<n→Lf1=Lf++VK (decide (¬Y1 x.own x.stage m=10)) (stH m x)) (hX1:i<n→X1=if Y1 x.own x.stage m=10 then { X with a0:=(Xr X.side (X.a0,X.a1) (stH m x)).1,a1:=(Xr X.side (X.a0,X.a1) (stH m x)).2} else X) (hw:i<n→Y1 x.own x.stage m=10→x.fin=1→(-1152921504606846976≤X.a0∧X.a0≤1152921504606846976)∧(-1152921504606846976≤X.a1∧X.a1≤1152921504606846976)∧0≤x.amount∧x.amount≤1152921504606846976) (hZ1:i<n→Z1) (hZ2:i=n→Z2):
  ZY ZdE 20 21 1 2 (stS X L m n i G Hd Lf) (rdM 2 1 9 (stS X1 L m n (i+1) G1 Hd1 Lf1) (stE X L m n G Hd Lf) (stE X L m n G Hd Lf) (stE X L m n G Hd Lf) Z1 Z2 False False):=by
 refine @Eq.mpr _ (let q1:=0+Int.toNat (↑i:Int);
 let q2:=List.getD L q1 Zr;
 let q3:=q2.stage;
 let q4:=q2.own;
 let q5:=Y1 q4 q3 m;
 let q6:=decide (q4=q4);
 let q7:=q2.id;
 let q8:=decide (q7=q7);
 let q9:=q2.amount;
 let q10:=decide (q9=q9);
 let q11:=q2.hash;
 let q12:=q11=q11;
 let q13:=q2.expiry;
 let q14:=decide (q13=q13);
 let q15:=decide (q5=q5);
 let q16:=q2.fin;
 let q17:=decide (q16=q16);
 let q18:=q2.secret;
 let q19:=q18=q18;
 let q20:=q16==1;
 let q21:=X.side;
 let q22:=decide (0≤q21∧q21<2);
 let q23:=0+Int.toNat q21;
 let q24:=wrap i64 (1-q21);
 let q25:=decide (0≤q24∧q24<2);
 let q26:=0+Int.toNat q24;
 let q27:=decide (q26<2);
 let q28:=[X.a0,X.a1];
 let q29:=List.set q28 q23 (wrap i64 (List.getD q28 q23 0-q9));
 let q30:=List.length G;
 let q31:=decide (q30=q30);
 let q32:=q30+1;
 let q33:=decide (q32*112≤140737488355328);
 let q34:=decide (wrap i64 ((↑i:Int)+1)=(↑(i+1):Int));
 let q35:=decide ((↑n:Int)=(↑n:Int));
 let q36:=decide (n=n);
 let q37:=decide (n≤n);
 let q38:=decide (m=m);
 let q39:=List.length G1;
 let q40:=decide (q32=q39);
 let q41:=decide (q39≤q32);
 let q42:=List.length Hd;
 let q43:=List.length Hd1;
 let q44:=decide (q42=q43);
 let q45:=decide (q43≤q42);
 let q46:=List.length Lf;
 let q47:=List.length Lf1;
 let q48:=decide (q46=q47);
 let q49:=decide (q47≤q46);
 let q50:=X.t;
 let q51:=q50.fund;
 let q52:=X1.t;
 let q53:=q51=q52.fund;
 let q54:=q50.index;
 let q55:=decide (q54=q52.index);
 let q56:=q50.cap;
 let q57:=decide (q56=q52.cap);
 let q58:=q50.dust;
 let q59:=decide (q58=q52.dust);
 let q60:=q50.fee;
 let q61:=decide (q60=q52.fee);
 let q62:=q50.delay;
 let q63:=decide (q62=q52.delay);
 let q64:=q50.k0;
 let q65:=q64=q52.k0;
 let q66:=q50.k1;
 let q67:=q66=q52.k1;
 let q68:=decide (q21=X1.side);
 let q69:=X.res;
 let q70:=decide (q69=X1.res);
 let q71:=[X1.a0,X1.a1];
 let q72:=[X.i0,X.i1];
 let q73:=q72=[X1.i0,X1.i1];
 let q74:=[(2,2)];
 let q75:=(5,5)::(4,4)::(3,9)::q74;
 let q76:=Z5 L;
 let q77:=Z5 G1;
 let q78:=Z5 G;
 let q79:=Xk [AV.bool q4,AV.int i64 q7,AV.int i64 q9,AV.arr u8 32 q11,AV.int i64 q13,AV.int i64 q5,AV.int i64 q16,AV.arr u8 32 q18] 0 70;
 let q80:=Z5 Hd1;
 let q81:=Z5 Hd;
 let q82:=Z5 Lf1;
 let q83:=Z5 Lf;
 let q84:=q73∧Z0 q36 (Z0 q37 (Z0 q36 (Zd 2 q75 n q76 q76∧Z0 q40 (Zd 2 q75 q39 q77 (Yc q30 q78 q79)∧Z0 q44 (Zd 2 q75 q43 q80 q81∧Z0 q48 (Zd 2 q75 q47 q82 q83∧Z1) False) False) False) False) False) False;
 let q85:=q28=q71;
 let q86:=Z0 q31 (Z0 q33 (Z0 q34 (Z0 q35 (Z0 q36 (Z0 q37 (Z0 q38 (Z0 q40 (Z0 q41 (Z0 q44 (Z0 q45 (Z0 q48 (Z0 q49 (q53∧Z0 q55 (Z0 q57 (Z0 q59 (Z0 q61 (Z0 q63 (q65∧q67∧Z0 q68 (Z0 q70 (q85∧q84) False) False) False) False) False) False) False) False) False) False) False) False) False) False) False) False) False) False) False) False;
 let q87:=wrap i64 (1-q24);
 let q88:=decide (0≤q87∧q87<2);
 let q89:=0+Int.toNat q87;
 let q90:=List.set q28 q26 (wrap i64 (List.getD q28 q26 0-q9));
 let q91:=decide (q42=q42);
 let q92:=q42+1;
 let q93:=decide (q46=q46);
 let q94:=q46+1;
 let q95:=decide (q94*112≤140737488355328);
 let q96:=decide (q30=q39);
 let q97:=decide (q39≤q30);
 let q98:=decide (q92=q43);
 let q99:=decide (q94=q47);
 let q100:=decide (q47≤q94);
 let q101:=(3,3)::q74;
 let q102:=(5,10)::(4,8)::q101;
 let q103:=Yc q46 q83 q79;
 let q104:=(5,8)::(4,4)::q101;
 let q105:=Z0 q93 (Z0 q95 (Z0 q34 (Z0 q35 (Z0 q36 (Z0 q37 (Z0 q38 (Z0 q96 (Z0 q97 (Z0 q44 (Z0 q45 (Z0 q99 (Z0 q100 (q53∧Z0 q55 (Z0 q57 (Z0 q59 (Z0 q61 (Z0 q63 (q65∧q67∧Z0 q68 (Z0 q70 (q85∧q73∧Z0 q36 (Z0 q37 (Z0 q36 (Zd 2 q104 n q76 q76∧Z0 q96 (Zd 2 q104 q39 q77 q78∧Z0 q44 (Zd 2 q104 q43 q80 q81∧Z0 q99 (Zd 2 q104 q47 q82 q103∧Z1) False) False) False) False) False) False) False) False) False) False) False) False) False) False) False) False) False) False) False) False) False) False) False) False) False) False;
 let q106:=[(4,5),(3,4),(2,3)];
 Z0 (decide ((↑i:Int)<(↑n:Int)))
 (Z0 (decide (0≤(↑i:Int)∧(↑i:Int)<(↑n:Int)))
 (Z0 (decide (q1<n))
 (Z0 (decide ((1≤q3∧q3≤9)∧1≤m∧m≤4))
 (Z0 (q5==10)
 (Z0 q4 (Z0 q6 (Z0 q8 (Z0 q10 (q12∧Z0 q14 (Z0 q15 (Z0 q17 (q19∧Z0 q20 (Z0 q22 (Z0 (decide (q23<2)) (Z0 q22 (Z0 (decide (i64=i64∧q23<2∧q23<2)) (Z0 q25 (Z0 q27 (Z0 q25 (Z0 (decide (i64=i64∧q26<2∧q26<List.length q29)) (Z0 q31 (Z0 q33 (Z0 q34 (Z0 q35 (Z0 q36 (Z0 q37 (Z0 q38 (Z0 q40 (Z0 q41 (Z0 q44 (Z0 q45 (Z0 q48 (Z0 q49 (q53∧Z0 q55 (Z0 q57 (Z0 q59 (Z0 q61 (Z0 q63 (q65∧q67∧Z0 q68 (Z0 q70 (List.set q29 q26 (wrap i64 (List.getD q29 q26 0+q9))=q71∧q84) False) False) False) False) False) False) False) False) False) False) False) False) False) False) False) False) False) False) False) False) False) False) False) False) False) False) False) False) q86) False) False) False) False) False) False)
 (Z0 q6 (Z0 q8 (Z0 q10 (q12∧Z0 q14 (Z0 q15 (Z0 q17 (q19∧Z0 q20 (Z0 q25 (Z0 q27 (Z0 q25 (Z0 (decide (i64=i64∧q26<2∧q26<2)) (Z0 q88 (Z0 (decide (q89<2)) (Z0 q88 (Z0 (decide (i64=i64∧q89<2∧q89<List.length q90)) (Z0 q31 (Z0 q33 (Z0 q34 (Z0 q35 (Z0 q36 (Z0 q37 (Z0 q38 (Z0 q40 (Z0 q41 (Z0 q44 (Z0 q45 (Z0 q48 (Z0 q49 (q53∧Z0 q55 (Z0 q57 (Z0 q59 (Z0 q61 (Z0 q63 (q65∧q67∧Z0 q68 (Z0 q70 (List.set q90 q89 (wrap i64 (List.getD q90 q89 0+q9))=q71∧q84) False) False) False) False) False) False) False) False) False) False) False) False) False) False) False) False) False) False) False) False) False) False) False) False) False) False) False) False) q86) False) False) False) False) False) False))
 (Z0 (decide (Wd q4 q3=m)) (Z0 (q5==5) (Z0 q91 (Z0 (decide (q92*112≤140737488355328)) (Z0 q93 (Z0 q95 (Z0 q34 (Z0 q35 (Z0 q36 (Z0 q37 (Z0 q38 (Z0 q96 (Z0 q97 (Z0 q98 (Z0 (decide (q43≤q92)) (Z0 q99 (Z0 q100 (q53∧Z0 q55 (Z0 q57 (Z0 q59 (Z0 q61 (Z0 q63 (q65∧q67∧Z0 q68 (Z0 q70 (q85∧q73∧Z0 q36 (Z0 q37 (Z0 q36 (Zd 2 q102 n q76 q76∧Z0 q96 (Zd 2 q102 q39 q77 q78∧Z0 q98 (Zd 2 q102 q43 q80 (Yc q42 q81 q79)∧Z0 q99 (Zd 2 q102 q47 q82 q103∧Z1) False) False) False) False) False) False) False) False) False) False) False) False) False) False) False) False) False) False) False) False) False) False) False) False) False) False) False) False) q105) q105))
 False)
 False)
 False)
 (Z0 q31 (Z0 (decide (q30≤q30)) (Z0 q91 (Z0 (decide (q42≤q42)) (Z0 q93 (Z0 (decide (q46≤q46)) (q51=q51∧Z0 (decide (q54=q54)) (Z0 (decide (q56=q56)) (Z0 (decide (q58=q58)) (Z0 (decide (q60=q60)) (Z0 (decide (q62=q62)) (q64=q64∧q66=q66∧Z0 (decide (q21=q21)) (Z0 (decide (q69=q69)) (q28=q28∧q72=q72∧Z0 q36 (Z0 q37 (Z0 q36 (Zd 2 q106 n q76 q76∧Z0 q31 (Zd 2 q106 q30 q78 q78∧Z0 q91 (Zd 2 q106 q42 q81 q81∧Z0 q93 (Zd 2 q106 q46 q83 q83∧Z2) False) False) False) False) False) False) False) False) False) False) False) False) False) False) False) False) False) False) False)) (by kernel_rfl) ?_
 conv=>zeta
 try simp only [Zi]
 try simp only [Zj]
 try simp only [Zk]
 try simp only [Zl]
 try simp only [Zm]
 try simp only [Zh]
 try simp only [Int.toNat_natCast,Nat.zero_add,true_and,and_true,Nat.le_refl]
 refine ⟨fun hc=> ?_,fun hc=> ?_⟩
 ·have hlt:i<n:=by omega
  rw [hx hlt]
  have hG:=hG hlt
  have hH:=hH hlt
  have hLf:=hLf hlt
  have hX1:=hX1 hlt
  have hst:=hst hlt
  have hw:=hw hlt
  have hwr:i64.wrap ((i:Int)+1)=((i+1:Nat):Int):=by rw [w64 (by omega)];omega
  rw [hwr]
  refine ⟨by omega,hlt,⟨hst,hm⟩,fun h10=> ?_,fun h10=> ?_⟩
  ·have h10:Y1 x.own x.stage m=10:=by simpa using h10
   have h9:=ZfS hst h10
   rw [decide_eq_true h10] at hG
   rw [decide_eq_false (by omega)] at hH
   rw [decide_eq_false (by simp [h10])] at hLf
   rw [if_pos h10] at hX1
   simp only [VK,List.append_nil] at hG hH hLf
   subst hG hH hLf hX1
   obtain ⟨s1,s2⟩:=hX
   have hwf:i64.wrap (1-X.side)=1-X.side:=w64 (by omega)
   have hwg:i64.wrap (1-(1-X.side))=X.side:=by rw [w64 (by omega)];omega
   rw [hwf]
   try rw [hwg]
   have hRG:∀τ,Zd 2 τ (G++[stH m x]).length (Z5 (G++[stH m x])) (Yc G.length (Z5 G) (Xk (stH m x).c 0 70)):=fun τ=>Zg fun j hj=>WD rfl (fun _ _=>rfl) (by simpa using hj)
   have hR:∀τ k (Q:List Z7),Zd 2 τ k (Z5 Q) (Z5 Q):=fun τ k Q=>Zg fun _ _=>rfl
   refine ⟨fun ho=>⟨fun hf=> ?_,fun hf=> ?_⟩,fun ho=>⟨fun hf=> ?_,fun hf=> ?_⟩⟩
   all_goals repeat' apply And.intro
   all_goals first|omega|rfl|exact hZ1 hlt|exact hRG _|exact hR _ _ _|(simp;done)|(simp only [List.length_set,List.length_cons,List.length_nil,List.length_append];omega)|skip
   ·have hf:x.fin=1:=by simpa using hf
    obtain ⟨b1,b2,b3⟩:=hw h10 hf
    show _=[(Xr X.side (X.a0,X.a1) (stH m x)).1,(Xr X.side (X.a0,X.a1) (stH m x)).2]
    rw [Z2P (h:=stH m x) hf,Z1t (by omega) b1 b2 b3]
    show _=if ZN X.side x.own=0 then _ else _
    rw [ho];rfl
   ·have hf:¬x.fin=1:=by simpa using hf
    show _=[(Xr X.side (X.a0,X.a1) (stH m x)).1,(Xr X.side (X.a0,X.a1) (stH m x)).2]
    rw [Z4R (h:=stH m x) hf]
   ·have hf:x.fin=1:=by simpa using hf
    obtain ⟨b1,b2,b3⟩:=hw h10 hf
    show _=[(Xr X.side (X.a0,X.a1) (stH m x)).1,(Xr X.side (X.a0,X.a1) (stH m x)).2]
    have e:=Z1t (s:=1-X.side) (by omega) b1 b2 b3
    rw [show 1-(1-X.side)=X.side by omega] at e
    rw [Z2P (h:=stH m x) hf,e]
    show _=if ZN X.side x.own=0 then _ else _
    rw [ho];rfl
   ·have hf:¬x.fin=1:=by simpa using hf
    show _=[(Xr X.side (X.a0,X.a1) (stH m x)).1,(Xr X.side (X.a0,X.a1) (stH m x)).2]
    rw [Z4R (h:=stH m x) hf]
  ·have h10:¬Y1 x.own x.stage m=10:=by simpa using h10
   rw [decide_eq_false h10] at hG
   rw [decide_eq_true h10] at hLf
   rw [if_neg h10] at hX1
   simp only [VK,List.append_nil] at hG hLf
   subst hG hLf hX1
   have hRL:∀τ,Zd 2 τ (Lf++[stH m x]).length (Z5 (Lf++[stH m x])) (Yc Lf.length (Z5 Lf) (Xk (stH m x).c 0 70)):=fun τ=>Zg fun j hj=>WD rfl (fun _ _=>rfl) (by simpa using hj)
   have hR:∀τ k (Q:List Z7),Zd 2 τ k (Z5 Q) (Z5 Q):=fun τ k Q=>Zg fun _ _=>rfl
   refine ⟨fun ho=>⟨fun h5=> ?_,fun h5=> ?_⟩,fun ho=> ?_⟩
   ·have ho:Wd x.own x.stage=m:=ho
    have h5:Y1 x.own x.stage m=5:=by simpa using h5
    have h4:x.stage=4:=by unfold Y1 at h5;rw [if_pos ho] at h5;omega
    rw [decide_eq_true ⟨h4,by rw [←h4];exact ho⟩] at hH
    simp only [VK] at hH
    subst hH
    have hRH:∀τ,Zd 2 τ (Hd++[stH m x]).length (Z5 (Hd++[stH m x])) (Yc Hd.length (Z5 Hd) (Xk (stH m x).c 0 70)):=fun τ=>Zg fun j hj=>WD rfl (fun _ _=>rfl) (by simpa using hj)
    repeat' apply And.intro
    all_goals first|omega|rfl|exact hZ1 hlt|exact hRL _|exact hRH _|exact hR _ _ _|(simp;done)
   all_goals
    have hH':Hd1=Hd:=by
     rw [hH,decide_eq_false]
     ·simp [VK]
     ·intro hq
      simp [Y1,hq.1,hq.2] at*
    subst hH'
    repeat' apply And.intro
    all_goals first|omega|rfl|exact hZ1 hlt|exact hRL _|exact hR _ _ _|(simp;done)
 ·repeat' apply And.intro
  all_goals first|omega|rfl|exact hZ2 (by omega)|exact Zg fun _ _=>rfl
end Go.Tk
end
section
namespace Go.Tk
open IntKind (i64 u8 u32 u64 wrap)
def ZD (side s:Int) (L:List Z7):Int:=(YU (ZK side s L)).sum
def Yh (side s:Int) (L:List Z7):Nat:=(ZK side s L).length
def Z02 (side s:Int) (h:Z7):Int:=if ZN side h.own=s then h.amount else 0
def Z03 (side s:Int) (h:Z7):Nat:=if ZN side h.own=s then 1 else 0
theorem ZA (side s:Int) (x:Z7) (r:List Z7):ZD side s (x::r)=Z02 side s x+ZD side s r:=by
 unfold ZD Z02 ZK YU
 rw [List.filter_cons]
 by_cases h:ZN side x.own=s<;>simp [h]
theorem ZM (side s:Int) (x:Z7) (r:List Z7):Yh side s (x::r)=Z03 side s x+Yh side s r:=by
 unfold Yh Z03 ZK
 rw [List.filter_cons]
 by_cases h:ZN side x.own=s<;>simp [h]<;>omega
theorem YV (X:Za) (s:Int):Y4 X s=X.am s-ZD X.side s X.L-X.res-(if s=0 then X.t.fee else 0):=rfl
theorem Z04 {side s:Int} {L:List Z7}:ZK side s L=[]↔Yh side s L=0:=by
 unfold Yh;exact List.length_eq_zero_iff.symm
theorem Z2Q (side s:Int) (h:Z7):∀L,ZD side s (Xc h L)=ZD side s L+Z02 side s h
 | []=>by unfold Xc;rw [ZA];omega
 | x::r=>by
  unfold Xc
  split
  ·rw [ZA];omega
  ·rw [ZA,ZA,Z2Q side s h r];omega
theorem Z2R (side s:Int) (h:Z7):∀L,Yh side s (Xc h L)=Yh side s L+Z03 side s h
 | []=>by unfold Xc;rw [ZM];omega
 | x::r=>by
  unfold Xc
  split
  ·rw [ZM];omega
  ·rw [ZM,ZM,Z2R side s h r];omega
theorem Z63 {h:Z7}:∀{L:List Z7},L.Pairwise Xm→(∀x∈L,x.own=h.own→x.id<h.id∧min h.stage 5≤min x.stage 5)→(Xc h L).Pairwise Xm
 | [],_,_=>by simp [Xc]
 | x::r,hp,hx=>by
  obtain ⟨h1,h2⟩:=List.pairwise_cons.1 hp
  unfold Xc
  split
  ·rename_i hc
   refine List.pairwise_cons.2 ⟨fun y hy=> ?_,hp⟩
   rcases List.mem_cons.1 hy with rfl|hy
   ·exact .inl ⟨hc.1,hc.2⟩
   ·have:=h1 y hy
    unfold Xm at this
    rcases this with ⟨q,_⟩|⟨q,_⟩
    ·rw [hc.2] at q;cases q
    ·exact .inl ⟨hc.1,by rw [←q];exact hc.2⟩
  ·rename_i hc
   refine List.pairwise_cons.2 ⟨fun y hy=> ?_,Z63 h2 fun z hz=>hx z (by simp [hz])⟩
   rcases Z01.1 hy with hy|rfl
   ·exact h1 y hy
   ·have:=hx x (by simp)
    unfold Xm
    cases hxo:x.own<;>cases hyo:y.own<;>simp_all
theorem ZdF (X:Za) (own o:Bool) (d:Int):(WC X own d).nx o=X.nx o+(if own=o then d else 0):=by
 cases own<;>cases o<;>simp [WC,Za.nx]
theorem ZfT (X:Za) (own:Bool) (d s:Int):(WC X own d).am s=X.am s:=by cases own<;>rfl
theorem ZdG {h:Z7} (hp:Yu h=true):(0≤h.id∧h.id≤2147483647)∧(1≤h.amount∧h.amount≤1125899906842624)∧1≤h.expiry∧h.expiry≤2147483647:=by
 unfold Yu at hp
 simp only [Bool.and_eq_true,decide_eq_true_eq] at hp
 exact ⟨hp.1.1,hp.1.2,hp.2⟩
theorem Ug {H:List Int→List Int} {X:Za} {h:Z7} (h1:Yu h=true) (h2:h.id<X.nx h.own) (h3:1≤h.stage∧h.stage≤9) (h4:Z3b H h=true):Xp H X h=true:=by
 unfold Xp
 rw [h1,h4,decide_eq_true h2,decide_eq_true h3];rfl
theorem Z4S:Bytes Z9:=⟨fun i=>by
 have:Z9.getD i 0=0:=by
  show (List.replicate 32 (0:Int)).getD i 0=0
  rw [List.getD_eq_getElem?_getD,List.getElem?_replicate];split<;>rfl
 rw [this];omega⟩
theorem Za.Inv.addX {H:List Int→List Int} {X:Za} (h:X.Inv H) {own:Bool} {id am ex:Int} {hash:List Int} (hh:hash.length=32) (hb:Bytes hash):(addX X own id am hash ex).Inv H:=by
 unfold Go.Tk.addX
 split
 case isFalse=>exact h
 rename_i he
 obtain ⟨hp,hid,hn,ha⟩:=Z3T he
 have hpi:=ZdG hp
 have hpi1:(0≤id∧id≤2147483647)∧(1≤am∧am≤1125899906842624):=⟨hpi.1,hpi.2.1⟩
 have hamif:∀s,Z02 X.side s (Xq X own id am hash ex)=if ZN X.side own=s then am else 0:=fun s=>rfl
 have honeif:∀s,Z03 X.side s (Xq X own id am hash ex)=if ZN X.side own=s then 1 else 0:=fun s=>rfl
 generalize hq:Xq X own id am hash ex=q at*
 have hqo:q.own=own:=by rw [←hq];rfl
 have hqi:q.id=id:=by rw [←hq];rfl
 have hqs:q.stage=1:=by rw [←hq];rfl
 have hqf:Z3b H q=true:=by rw [←hq];simp [Z3b,Xq]
 have hqk:q.Ok:=by rw [←hq];exact ⟨hh,hb,rfl,Z4S⟩
 have e1:∀(d:Int),(WC X own d).side=X.side:=fun d=>by cases own<;>rfl
 have hov:∀s,Y4 { WC X own 1 with L:=Xc q X.L} s=Y4 X s-(if ZN X.side own=s then am else 0):=fun s=>by
  have:Y4 { WC X own 1 with L:=Xc q X.L} s=(WC X own 1).am s-ZD (WC X own 1).side s (Xc q X.L)-(WC X own 1).res-(if s=0 then (WC X own 1).t.fee else 0):=rfl
  rw [this,e1,ZfT,Z2Q,hamif,YV]
  have e2:(WC X own 1).res=X.res:=by cases own<;>rfl
  have e3:(WC X own 1).t=X.t:=by cases own<;>rfl
  rw [e2,e3];omega
 have hlen:∀s,(ZK (WC X own 1).side s (Xc q X.L)).length=(ZK X.side s X.L).length+if ZN X.side own=s then 1 else 0:=fun s=>by
  have:=Z2R X.side s q X.L
  rw [honeif] at this
  rw [e1];exact this
 have hnx:∀o,({ WC X own 1 with L:=Xc q X.L}:Za).nx o=X.nx o+(if own=o then 1 else 0):=fun o=>ZdF X own o 1
 have hf:=ZN X.side own
 refine ⟨?_, ?_, ?_, ?_, ?_, ?_, ?_, ?_, ?_, ?_, ?_, ?_, ?_, ?_, ?_⟩
 ·cases own<;>exact h.tok
 ·cases own<;>exact h.tb
 ·show (WC X own 1).side=0∨_;rw [e1];exact h.side
 ·cases own<;>exact h.res
 ·cases own<;>exact h.a0
 ·cases own<;>exact h.a1
 ·have:=h.i0
  cases own
  ·exact this
  ·have:id=X.i0:=hid
   show 0≤X.i0+1∧X.i0+1≤_;omega
 ·have:=h.i1
  cases own
  ·have:id=X.i1:=hid
   show 0≤X.i1+1∧X.i1+1≤_;omega
  ·exact this
 ·have:=h.n0
  show (ZK (WC X own 1).side 0 (Xc q X.L)).length≤8
  rw [hlen];split
  ·rename_i e;rw [e] at hn;omega
  ·omega
 ·have:=h.n1
  show (ZK (WC X own 1).side 1 (Xc q X.L)).length≤8
  rw [hlen];split
  ·rename_i e;rw [e] at hn;omega
  ·omega
 ·intro x hx
  rcases Z01.1 hx with hx|rfl
  ·obtain ⟨u1,u2,u3,u4⟩:=W3 (h.und x hx)
   refine Ug u1 ?_ u3 u4
   rw [hnx];split<;>omega
  ·refine Ug hp ?_ (by rw [hqs];omega) hqf
   rw [hnx,hqo,if_pos rfl,hqi,hid];omega
 ·refine Z63 h.fol fun x hx ho=> ?_
  obtain ⟨u1,u2,u3,u4⟩:=W3 (h.und x hx)
  rw [ho,hqo] at u2
  rw [hqi,hqs,hid];omega
 ·have:=h.ov0
  rw [hov];split
  ·rename_i e;rw [e] at ha;omega
  ·omega
 ·rcases h.ov1 with h1|h1
  ·by_cases e:ZN X.side own=1
   ·right
    rw [hov,if_pos e];rw [e] at ha;omega
   ·left
    show ZK (WC X own 1).side 1 (Xc q X.L)=[]
    refine List.eq_nil_of_length_eq_zero ?_
    rw [hlen,h1,if_neg e];rfl
  ·right
   rw [hov];split
   ·rename_i e;rw [e] at ha;omega
   ·omega
 ·intro x hx
  rcases Z01.1 hx with hx|rfl
  ·exact h.ok x hx
  ·exact hqk
def VC (h:Z7):Bool×Int×Int×Int:=(h.own,h.id,h.amount,min h.stage 5)
theorem ZbE {a b c d:Z7} (h1:VC a=VC c) (h2:VC b=VC d) (h:Xm a b):Xm c d:=by
 unfold VC at h1 h2
 simp only [Prod.mk.injEq] at h1 h2
 unfold Xm at*
 rw [←h1.1,←h2.1,←h1.2.1,←h2.2.1,←h1.2.2.2,←h2.2.2.2];exact h
theorem Z64 {side s:Int}:∀{L M:List Z7},L.map VC=M.map VC→ZD side s L=ZD side s M∧Yh side s L=Yh side s M
 | [],[],_=>⟨rfl,rfl⟩
 | [],y::q,h=>by simp at h
 | x::r,[],h=>by simp at h
 | x::r,y::q,h=>by
  simp only [List.map_cons,List.cons.injEq] at h
  obtain ⟨i1,i2⟩:=Z64 (side:=side) (s:=s) h.2
  have hk:=h.1
  unfold VC at hk
  simp only [Prod.mk.injEq] at hk
  rw [ZA,ZA,ZM,ZM,i1,i2]
  unfold Z02 Z03
  rw [hk.1,hk.2.2.1];exact ⟨rfl,rfl⟩
theorem Z8s:∀{L M:List Z7},L.map VC=M.map VC→L.Pairwise Xm→M.Pairwise Xm
 | [],[],_,_=>.nil
 | [],y::q,h,_=>by simp at h
 | x::r,[],h,_=>by simp at h
 | x::r,y::q,h,hp=>by
  simp only [List.map_cons,List.cons.injEq] at h
  obtain ⟨h1,h2⟩:=List.pairwise_cons.1 hp
  refine List.pairwise_cons.2 ⟨fun z hz=> ?_,Z8s h.2 h2⟩
  have:VC z∈r.map VC:=by rw [h.2];exact List.mem_map_of_mem hz
  obtain ⟨w,hw,e⟩:=List.mem_map.1 this
  exact ZbE h.1 e (h1 w hw)
theorem ZdH {L:List Z7} {I:Nat} {q:Z7} (hI:I<L.length) (hk:VC q=VC (L.getD I Zr)):(L.set I q).map VC=L.map VC:=by
 rw [List.map_set,hk,List.getD_eq_getElem?_getD,List.getElem?_eq_getElem hI]
 apply List.ext_getElem?
 intro i
 rw [List.getElem?_set]
 split
 ·rename_i e;subst e
  rw [if_pos (by simpa using hI)];simp [hI]
 ·rfl
theorem Z3U {H:List Int→List Int} {X:Za} {own:Bool} {id k:Int} {sec:List Int} (he:endE H X own id k sec=0):ZJ own id X.L<X.L.length∧(X.L.getD (ZJ own id X.L) Zr).stage=5∧(k=1→H sec=(X.L.getD (ZJ own id X.L) Zr).hash):=by
 unfold endE at he
 split at he
 ·cases he
 ·split at he
  ·cases he
  ·split at he
   ·cases he
   ·rename_i q1 q2 q3
    refine ⟨by omega,by simpa using q2,fun hk=> ?_⟩
    exact Classical.byContradiction fun hq=>q3 ⟨hk,hq⟩
theorem Za.Inv.endX {H:List Int→List Int} {X:Za} (h:X.Inv H) {own:Bool} {id k:Int} {sec:List Int} (hs:sec.length=32) (hb:Bytes sec) (hk:k=1∨(k=2∧sec=Z9)):(endX H X own id k sec).Inv H:=by
 unfold Go.Tk.endX
 split
 case isFalse=>exact h
 rename_i he
 obtain ⟨hI,h5,hsec⟩:=Z3U he
 generalize ZJ own id X.L=I at*
 have hx:=Yd hI
 obtain ⟨u1,u2,u3,u4⟩:=W3 (h.und _ hx)
 generalize hz:X.L.getD I Zr=z at*
 have hkey:VC (QX z k sec)=VC (X.L.getD I Zr):=by
  rw [hz]
  unfold VC QX
  rw [h5];rfl
 have hm:=ZdH hI hkey
 have hsum:=fun s=>Z64 (side:=X.side) (s:=s) hm
 have hov:∀s,Y4 { X with L:=X.L.set I (QX z k sec)} s=Y4 X s:=fun s=>by
  have:Y4 { X with L:=X.L.set I (QX z k sec)} s=X.am s-ZD X.side s (X.L.set I (QX z k sec))-X.res-(if s=0 then X.t.fee else 0):=rfl
  rw [this,(hsum s).1,YV]
 have hmem:∀x∈X.L.set I (QX z k sec),x∈X.L∨x=QX z k sec:=fun x hx=>List.mem_or_eq_of_mem_set hx
 refine ⟨h.tok,h.tb,h.side,h.res,h.a0,h.a1,h.i0,h.i1, ?_, ?_, ?_,Z8s hm.symm h.fol, ?_, ?_, ?_⟩
 ·have:=(hsum 0).2
  unfold Yh at this
  rw [this];exact h.n0
 ·have:=(hsum 1).2
  unfold Yh at this
  rw [this];exact h.n1
 ·intro x hx
  rcases hmem x hx with hx|rfl
  ·obtain ⟨u1,u2,u3,u4⟩:=W3 (h.und x hx)
   exact Ug u1 u2 u3 u4
  ·refine Ug u1 u2 (show 1≤(6:Int)∧(6:Int)≤9 by omega) ?_
   unfold Z3b QX
   rcases hk with rfl|⟨rfl,rfl⟩
   ·simp [hsec rfl]
   ·simp
 ·rw [hov];exact h.ov0
 ·rcases h.ov1 with h1|h1
  ·left
   rw [Z04] at h1⊢
   show Yh X.side 1 (X.L.set I (QX z k sec))=0
   rw [(hsum 1).2,h1]
  ·right;rw [hov];exact h1
 ·intro x hx
  rcases hmem x hx with hx|rfl
  ·exact h.ok x hx
  ·have:=h.ok z (by rw [←hz];exact Yd hI)
   exact ⟨this.hash,this.hb,hs,hb⟩
end Go.Tk
end
section
namespace Go.Tk
open IntKind (i64 u8 u32 u64 wrap)
theorem Z0X (m:Int) (x:Z7) (r:List Z7):Yg m (x::r)=if Y1 x.own x.stage m=10 then Yg m r else stH m x::Yg m r:=by
 unfold Yg
 rw [List.map_cons,List.filter_cons]
 by_cases h:Y1 x.own x.stage m=10<;>simp [h,stH]
theorem Z0Y (m:Int) (x:Z7) (r:List Z7):Yb m (x::r)=if Y1 x.own x.stage m=10 then stH m x::Yb m r else Yb m r:=by
 unfold Yb
 rw [List.map_cons,List.filter_cons]
 by_cases h:Y1 x.own x.stage m=10<;>simp [h,stH]
theorem Z4T (m side s:Int):∀L,ZD side s L=ZD side s (Yg m L)+ZD side s (Yb m L)
 | []=>rfl
 | x::r=>by
  have ih:=Z4T m side s r
  have e:Z02 side s (stH m x)=Z02 side s x:=rfl
  rw [Z0X,Z0Y,ZA]
  split
  ·rw [ZA,e];omega
  ·rw [ZA,e];omega
theorem Z1u (m side s:Int):∀L,Yh side s L=Yh side s (Yg m L)+Yh side s (Yb m L)
 | []=>rfl
 | x::r=>by
  have ih:=Z1u m side s r
  have e:Z03 side s (stH m x)=Z03 side s x:=rfl
  rw [Z0X,Z0Y,ZM]
  split
  ·rw [ZM,e];omega
  ·rw [ZM,e];omega
def Xw (G:List Z7):List Z7:=G.filter fun h=>decide (h.fin=1)
theorem WF {side:Int} (hs:side=0∨side=1):∀(G:List Z7) (a b:Int),G.foldl (Xr side) (a,b)=(a-ZD side 0 (Xw G)+ZD side 1 (Xw G),b+ZD side 0 (Xw G)-ZD side 1 (Xw G))
 | [],a,b=>by simp [Xw,ZD,ZK,YU]
 | x::r,a,b=>by
  rw [List.foldl_cons]
  by_cases hf:x.fin=1
  ·have e:Xw (x::r)=x::Xw r:=by unfold Xw;rw [List.filter_cons,decide_eq_true hf];rfl
   rw [e,ZA,ZA]
   have hfr:(ZN side x.own=0∧¬ZN side x.own=1)∨(¬ZN side x.own=0∧ZN side x.own=1):=by
    unfold ZN
    rcases hs with rfl|rfl<;>cases x.own<;>simp
   unfold Z02
   rcases hfr with ⟨h1,h2⟩|⟨h1,h2⟩
   ·have hm:Xr side (a,b) x=(a-x.amount,b+x.amount):=by unfold Xr;rw [if_pos hf,if_pos h1]
    rw [hm,WF hs r,if_pos h1,if_neg h2]
    simp only [Prod.mk.injEq];constructor<;>omega
   ·have hm:Xr side (a,b) x=(a+x.amount,b-x.amount):=by unfold Xr;rw [if_pos hf,if_neg h1]
    rw [hm,WF hs r,if_neg h1,if_pos h2]
    simp only [Prod.mk.injEq];constructor<;>omega
  ·have e:Xw (x::r)=Xw r:=by unfold Xw;rw [List.filter_cons,decide_eq_false hf];rfl
   rw [e,Xr,if_neg hf,WF hs r]
theorem Z05 {side s:Int}:∀{G:List Z7},(∀h∈G,0≤h.amount)→0≤ZD side s (Xw G)∧ZD side s (Xw G)≤ZD side s G
 | [],_=>by simp [Xw,ZD,ZK,YU]
 | x::r,h=>by
  obtain ⟨i1,i2⟩:=Z05 (side:=side) (s:=s) (G:=r) fun z hz=>h z (by simp [hz])
  have hx:=h x (by simp)
  have ha:0≤Z02 side s x:=by unfold Z02;split<;>omega
  rw [ZA]
  unfold Xw at*
  rw [List.filter_cons]
  split
  ·rw [ZA];omega
  ·omega
theorem XT {side s:Int}:∀{G:List Z7},(∀h∈G,0≤h.amount)→0≤ZD side s G
 | [],_=>by simp [ZD,ZK,YU]
 | x::r,h=>by
  have i1:=XT (side:=side) (s:=s) (G:=r) fun z hz=>h z (by simp [hz])
  have hx:=h x (by simp)
  have ha:0≤Z02 side s x:=by unfold Z02;split<;>omega
  rw [ZA];omega
theorem Qt {side s:Int} {L:List Z7} (h:ZK side s L=[]):ZD side s L=0:=by unfold ZD;rw [h];rfl
theorem Z1v (o:Bool) (s m:Int):s≤Y1 o s m∧Y1 o s m≤s+1:=by unfold Y1;split<;>omega
theorem ZbF {a b:Z7} {m:Int} (h:Xm a b):Xm (stH m a) (stH m b):=by
 unfold Xm at*
 rcases h with h|⟨h1,h2,h3⟩
 ·exact .inl h
 ·refine .inr ⟨h1,h2, ?_⟩
  show min (Y1 b.own b.stage m) 5≤min (Y1 a.own a.stage m) 5
  have k1:=Z1v a.own a.stage m
  have k2:=Z1v b.own b.stage m
  by_cases e:a.stage=b.stage
  ·rw [h1,e];omega
  ·omega
theorem Z7x {m:Int} {L:List Z7} (h:L.Pairwise Xm):(Yg m L).Pairwise Xm:=by
 unfold Yg
 refine List.Pairwise.filter _ ?_
 exact List.pairwise_map.2 (h.imp fun hab=>ZbF hab)
theorem Qu {m:Int} {L:List Z7} {x:Z7} (h:x∈Yg m L):∃z∈L,x=stH m z∧Y1 z.own z.stage m≠10:=by
 unfold Yg at h
 obtain ⟨h1,h2⟩:=List.mem_filter.1 h
 obtain ⟨z,hz,rfl⟩:=List.mem_map.1 h1
 exact ⟨z,hz,rfl,of_decide_eq_true h2⟩
theorem Z2S {m:Int} {L:List Z7} {x:Z7} (h:x∈Yb m L):∃z∈L,x=stH m z:=by
 unfold Yb at h
 obtain ⟨h1,h2⟩:=List.mem_filter.1 h
 obtain ⟨z,hz,rfl⟩:=List.mem_map.1 h1
 exact ⟨z,hz,rfl⟩
theorem ZgV (o:Bool):Wd o 5=0:=by unfold Wd;simp
theorem ZbG {H:List Int→List Int} {z:Z7} {m:Int} (hm:1≤m∧m≤4) (h:Z3b H z=true):Z3b H (stH m z)=true:=by
 have k:=Z1v z.own z.stage m
 unfold Z3b at*
 show (if z.fin=0 then decide (Y1 z.own z.stage m<6)&&(z.secret==Z9) else if z.fin=1 then decide (6≤Y1 z.own z.stage m)&&(H z.secret==z.hash) else if z.fin=2 then decide (6≤Y1 z.own z.stage m)&&(z.secret==Z9) else false)=true
 by_cases h0:z.fin=0
 ·rw [if_pos h0] at h⊢
  simp only [Bool.and_eq_true,decide_eq_true_eq] at h⊢
  refine ⟨?_,h.2⟩
  by_cases h5:z.stage=5
  ·have:Y1 z.own z.stage m=5:=by unfold Y1;rw [h5,ZgV,if_neg (by omega)]
   omega
  ·omega
 ·rw [if_neg h0] at h⊢
  by_cases h1:z.fin=1
  ·rw [if_pos h1] at h⊢
   simp only [Bool.and_eq_true,decide_eq_true_eq] at h⊢
   exact ⟨by omega,h.2⟩
  ·rw [if_neg h1] at h⊢
   by_cases h2:z.fin=2
   ·rw [if_pos h2] at h⊢
    simp only [Bool.and_eq_true,decide_eq_true_eq] at h⊢
    exact ⟨by omega,h.2⟩
   ·rw [if_neg h2] at h;cases h
theorem Za.Inv.stpX {H:List Int→List Int} {X:Za} (h:X.Inv H) (m:Int):(stpX X m).Inv H:=by
 unfold Go.Tk.stpX
 split
 case isFalse=>exact h
 rename_i hm
 have hA:∀z∈X.L,0≤z.amount:=fun z hz=>(h.am.am z hz).1
 have hG:∀z∈Yb m X.L,0≤z.amount:=fun z hz=>by
  obtain ⟨y,hy,rfl⟩:=Z2S hz
  exact hA y hy
 have hLf:∀z∈Yg m X.L,0≤z.amount:=fun z hz=>by
  obtain ⟨y,hy,rfl,_⟩:=Qu hz
  exact hA y hy
 unfold Ud
 rw [WF h.side]
 have s0:=Z4T m X.side 0 X.L
 have s1:=Z4T m X.side 1 X.L
 have p0:=Z05 (side:=X.side) (s:=0) hG
 have p1:=Z05 (side:=X.side) (s:=1) hG
 have q0:=XT (side:=X.side) (s:=0) hLf
 have q1:=XT (side:=X.side) (s:=1) hLf
 have o0:=h.ov0
 rw [YV] at o0
 have ham0:X.am 0=X.a0:=rfl
 have ham1:X.am 1=X.a1:=rfl
 rw [ham0,if_pos rfl] at o0
 have tb:=ZZ h.tb
 have hr:=h.res
 have ha0:=h.a0
 have ha1:=h.a1
 have o1:ZD X.side 1 X.L=0∨0≤X.a1-ZD X.side 1 X.L-X.res:=by
  rcases h.ov1 with k|k
  ·exact .inl (Qt k)
  ·right
   rw [YV,ham1,if_neg (by decide)] at k
   omega
 have hov:∀(a b s:Int),Y4 { X with L:=Yg m X.L,a0:=a,a1:=b} s=(if s=0 then a else b)-ZD X.side s (Yg m X.L)-X.res-(if s=0 then X.t.fee else 0):=fun a b s=>rfl
 refine ⟨h.tok,h.tb,h.side,h.res, ?_, ?_,h.i0,h.i1, ?_, ?_, ?_,Z7x h.fol, ?_, ?_, ?_⟩
 ·show 0≤_∧_≤X.t.cap
  constructor<;>dsimp only<;>omega
 ·dsimp only;omega
 ·have:=Z1u m X.side 0 X.L
  have k:=h.n0
  unfold Yh at this
  dsimp only;omega
 ·have:=Z1u m X.side 1 X.L
  have k:=h.n1
  unfold Yh at this
  dsimp only;omega
 ·intro x hx
  obtain ⟨z,hz,rfl,hn⟩:=Qu hx
  obtain ⟨u1,u2,u3,u4⟩:=W3 (h.und z hz)
  have k:=Z1v z.own z.stage m
  exact Ug u1 u2 (show 1≤Y1 z.own z.stage m∧Y1 z.own z.stage m≤9 by omega) (ZbG hm u4)
 ·rw [hov,if_pos rfl,if_pos rfl];omega
 ·rcases h.ov1 with k|k
  ·left
   rw [Z04] at k⊢
   have:=Z1u m X.side 1 X.L
   show Yh X.side 1 (Yg m X.L)=0
   omega
  ·right
   rw [YV,ham1,if_neg (by decide)] at k
   rw [hov,if_neg (by decide),if_neg (by decide)];omega
 ·intro x hx
  obtain ⟨z,hz,rfl,_⟩:=Qu hx
  have:=h.ok z hz
  exact ⟨this.hash,this.hb,this.secret,this.sb⟩
end Go.Tk
end
section
namespace Go.Tk
open IntKind (i64 u8 u32 u64 wrap)
theorem WG {L:List Z7} {i:Nat} (hi:i<L.length):L.take (i+1)=L.take i++[L.getD i Zr]:=by
 rw [List.take_succ_eq_append_getElem hi,List.getD_eq_getElem?_getD,List.getElem?_eq_getElem hi];rfl
theorem Z06 (p:Z7→Bool) (x:Z7):[x].filter p=VK (p x) x:=by
 rw [List.filter_cons]
 cases p x<;>rfl
theorem Z2T (m:Int) (A:List Z7) (x:Z7):Yb m (A++[x])=Yb m A++VK (decide (Y1 x.own x.stage m=10)) (stH m x):=by
 unfold Yb
 rw [List.map_append,List.filter_append,List.map_cons,List.map_nil,Z06];rfl
theorem Z7y (m:Int) (A:List Z7) (x:Z7):Yg m (A++[x])=Yg m A++VK (decide (¬Y1 x.own x.stage m=10)) (stH m x):=by
 unfold Yg
 rw [List.map_append,List.filter_append,List.map_cons,List.map_nil,Z06];rfl
theorem Z7z (m:Int) (A:List Z7) (x:Z7):XQ m (A++[x])=XQ m A++VK (decide (x.stage=4∧Wd x.own 4=m)) (stH m x):=by
 unfold XQ
 rw [List.filter_append,List.map_append,Z06]
 cases decide (x.stage=4∧Wd x.own 4=m)<;>rfl
theorem ZbH (m side:Int) (p:Int×Int) (A:List Z7) (x:Z7):Ud m side p (A++[x])=if Y1 x.own x.stage m=10 then Xr side (Ud m side p A) (stH m x) else Ud m side p A:=by
 unfold Ud
 rw [Z2T,List.foldl_append]
 by_cases h:Y1 x.own x.stage m=10
 ·rw [decide_eq_true h,if_pos h];rfl
 ·rw [decide_eq_false h,if_neg h];rfl
theorem Z3V {side s:Int} {G:List Z7} {n:Nat} (hn:G.length≤n) (h:∀x∈G,0≤x.amount∧x.amount≤1125899906842624):0≤ZD side s G∧ZD side s G≤1125899906842624*n:=by
 unfold ZD
 have:=Z0D (xs:=YU (ZK side s G)) fun x hx=>by
  obtain ⟨z,hz,rfl⟩:=List.mem_map.1 hx
  exact h z (List.mem_filter.1 hz).1
 have h2:(YU (ZK side s G)).length≤n:=by
  unfold YU;rw [List.length_map]
  exact Nat.le_trans (Z4P side s G) hn
 omega
theorem Z7A {m side:Int} {a b:Int} {A:List Z7} (hs:side=0∨side=1) (hn:A.length≤16) (hA:∀x∈A,0≤x.amount∧x.amount≤1125899906842624) (ha:0≤a∧a≤1125899906842624) (hb:0≤b∧b≤1125899906842624):
  (-1152921504606846976≤(Ud m side (a,b) A).1∧(Ud m side (a,b) A).1≤1152921504606846976)∧ -1152921504606846976≤(Ud m side (a,b) A).2∧(Ud m side (a,b) A).2≤1152921504606846976:=by
 unfold Ud
 rw [WF hs]
 have hl:(Yb m A).length≤16:=by
  unfold Yb
  refine Nat.le_trans (List.length_filter_le _ _) ?_
  rw [List.length_map];exact hn
 have hG:∀z∈Yb m A,0≤z.amount∧z.amount≤1125899906842624:=fun z hz=>by
  obtain ⟨y,hy,rfl⟩:=Z2S hz
  exact hA y hy
 have p0:=Z05 (side:=side) (s:=0) fun z hz=>(hG z hz).1
 have p1:=Z05 (side:=side) (s:=1) fun z hz=>(hG z hz).1
 have q0:=Z3V (side:=side) (s:=0) hl hG
 have q1:=Z3V (side:=side) (s:=1) hl hG
 dsimp only
 omega
def stX (X:Za) (m:Int) (i:Nat):Za:={ X with a0:=(Ud m X.side (X.a0,X.a1) (X.L.take i)).1,a1:=(Ud m X.side (X.a0,X.a1) (X.L.take i)).2}
theorem ZbI {X:Za} {m:Int} {i:Nat} (hi:i<X.L.length):stX X m (i+1)=if Y1 (X.L.getD i Zr).own (X.L.getD i Zr).stage m=10 then { stX X m i with a0:=(Xr X.side ((stX X m i).a0,(stX X m i).a1) (stH m (X.L.getD i Zr))).1,a1:=(Xr X.side ((stX X m i).a0,(stX X m i).a1) (stH m (X.L.getD i Zr))).2} else stX X m i:=by
 unfold stX
 rw [WG hi,ZbH]
 by_cases h:Y1 (X.L.getD i Zr).own (X.L.getD i Zr).stage m=10
 ·rw [if_pos h,if_pos h]
 ·rw [if_neg h,if_neg h]
theorem ZbJ (m:Int) (A:List Z7):(Yb m A).length≤A.length:=by
 unfold Yb;refine Nat.le_trans (List.length_filter_le _ _) ?_;rw [List.length_map];exact Nat.le_refl _
theorem ZbK (m:Int) (A:List Z7):(Yg m A).length≤A.length:=by
 unfold Yg;refine Nat.le_trans (List.length_filter_le _ _) ?_;rw [List.length_map];exact Nat.le_refl _
theorem ZbL (m:Int) (A:List Z7):(XQ m A).length≤A.length:=by
 unfold XQ;rw [List.length_map];exact List.length_filter_le _ _
def ZbM (X:Za) (m:Int) (n:Nat):Prop:=X.L.length=n∧n≤16∧(1≤m∧m≤4)∧(X.side=0∨X.side=1)∧(∀h∈X.L,(1≤h.stage∧h.stage≤9)∧0≤h.amount∧h.amount≤1125899906842624)∧(0≤X.a0∧X.a0≤1125899906842624)∧0≤X.a1∧X.a1≤1125899906842624
theorem Z9G {X:Za} {m:Int} {n i:Nat} (h:ZbM X m n):(-1152921504606846976≤(stX X m i).a0∧(stX X m i).a0≤1152921504606846976)∧ -1152921504606846976≤(stX X m i).a1∧(stX X m i).a1≤1152921504606846976:=
 Z7A h.2.2.2.1 (by rw [List.length_take];have:=h.1;have:=h.2.1;omega) (fun x hx=>(h.2.2.2.2.1 x (List.mem_of_mem_take hx)).2) h.2.2.2.2.2.1 h.2.2.2.2.2.2
def ZdI (X:Za) (m:Int) (n i:Nat):St:=stS (stX X m i) X.L m n i (Yb m (X.L.take i)) (XQ m (X.L.take i)) (Yg m (X.L.take i))
def ZdJ (X:Za) (m:Int) (n i:Nat):St:=stE (stX X m i) X.L m n (Yb m (X.L.take i)) (XQ m (X.L.take i)) (Yg m (X.L.take i))
noncomputable def ZdK (X:Za) (m:Int) (n:Nat) (C:Prop) (E:Nat→St):Zf:=ZdE.withL 21 1 (goM 2 (stS X X.L m n 0 [] [] []) C (YR 1 n 9 (fun i=>i<n) (fun i=>i=n) (fun _=>False) (fun _=>False) E E E))
theorem Z8t:ZdE.Ok:=Zf.withP_ok ZB ZfN
theorem ZgW (X:Za) (m:Int) (n i:Nat) (hC:ZbM X m n) (hi:i≤n):ZY ZdE 20 21 1 2 (ZdI X m n i) (rdM 2 1 9 (ZdI X m n (i+1)) (ZdJ X m n i) (ZdJ X m n i) (ZdJ X m n i) (i<n∧i<n) (i=n) False False):=by
 obtain ⟨h1,h2,h3,h4,h5,h6⟩:=id hC
 have hlt:i<n→i<X.L.length:=fun h=>by omega
 have l0:(X.L.take i).length≤16:=by rw [List.length_take];omega
 have l1:=ZbJ m (X.L.take i)
 have l2:=ZbL m (X.L.take i)
 have l3:=ZbK m (X.L.take i)
 refine ZgU (stX X m i) (stX X m (i+1)) X.L m n i (X.L.getD i Zr) _ _ _ _ _ _ (i<n∧i<n) (i=n) (by omega) h1 hi h3 (show 0≤X.side∧X.side≤1 by omega) (fun _=>rfl) (fun h=>(h5 _ (Yd (hlt h))).1) ⟨by omega,by omega,by omega⟩ (fun h=> ?_) (fun h=> ?_) (fun h=> ?_) (fun h=>ZbI (hlt h)) (fun h _ _=> ?_) (fun h=>⟨h,h⟩) (fun h=>h)
 ·rw [WG (hlt h),Z2T]
 ·rw [WG (hlt h),Z7z]
 ·rw [WG (hlt h),Z7y]
 ·obtain ⟨b1,b2⟩:=Z9G (i:=i) hC
  have:=(h5 _ (Yd (hlt h))).2
  exact ⟨b1,b2,this.1,by omega⟩
theorem ZdL (X:Za) (m:Int) (n:Nat):(ZdK X m n (ZbM X m n) (ZdJ X m n)).Ok:=
 Zf.withGoM (N:=20) (S:=ZdI X m n) Z8t (by kernel_rfl) fun hC=>⟨rfl,fun i hi _=>ZgW X m n i hC hi⟩
theorem Zi6 (X X':Za) (m:Int) (n l g d:Nat) (G Hd:List Z7) (C:Prop) (XF:Nat→Za) (GF HF LF:Nat→List Z7) (hC:C) (hn:n≤16) (hm:1≤m∧m≤4) (hcap:X.t.cap≠0) (hG:G=GF n) (hH:Hd=HF n) (hX':X'={ XF n with L:=LF n}) (hl:l=X'.L.length) (hg:g=G.length) (hd:d=Hd.length):
  evF (ZdK X m n C fun i=>stE (XF i) X.L m n (GF i) (HF i) (LF i)) 20 21 [.ptr (some ⟨0,0,0,0,0⟩),.int .i64 m] (Z5W X n) (YS 2 (.ret (.tuple [.nslice ⟨4,0,70,0,0⟩ 70 d d,.nslice ⟨3,0,70,0,0⟩ 70 g g,.int .i64 0])) 5 [(0,.flat (X'.c (.nslice ⟨2,0,70,0,0⟩ 70 l l))),(2,.rows 70 l (Z5 X'.L)),(3,.rows 70 g (Z5 G)),(4,.rows 70 d (Z5 Hd))]):=by
 refine @Eq.mpr _ (let q1:=X.t;
 let q2:=q1.cap;
 let q3:=decide (d=0);
 let q4:=decide (g=0);
 let q5:=Z0 q3 (Z0 q3 (Z0 q4 (Z0 q4 False False) False) False) False;
 let q6:=decide (n=n);
 let q7:=decide (n≤n);
 let q8:=q1.fund;
 let q9:=q1.index;
 let q10:=q1.dust;
 let q11:=q1.fee;
 let q12:=q1.delay;
 let q13:=q1.k0;
 let q14:=q1.k1;
 let q15:=[X.a0,X.a1];
 let q16:=[X.i0,X.i1];
 let q17:=Z5 X.L;
 let q18:=X'.t;
 let q19:=[(2,4),(3,2),(4,3)];
 Z0 (q2==0) q5
 (Z0 (decide (1≤m))
 (Z0 (!decide (m≤4)) q5
 (Z0 (decide ((↑n:Int)=(↑n:Int)))
 (Z0 q6
 (Z0 q7
 (Z0 (decide (m=m))
 (q8=q8∧
 Z0 (decide (q9=q9))
 (Z0 (decide (q2=q2))
 (Z0 (decide (q10=q10))
 (Z0 (decide (q11=q11))
 (Z0 (decide (q12=q12))
 (q13=q13∧
 q14=q14∧
 Z0 (decide (X.side=X.side))
 (Z0 (decide (X.res=X.res))
 (q15=q15∧
 q16=q16∧
 Z0 q6
 (Z0 q7
 (Z0 q6
 (Zd 2 [(2,2)] n q17 q17∧
 C∧
 ∀(i:Nat),
 let q39:=decide (List.length (HF i)=d);
 let q40:=decide (List.length (GF i)=g);
 let q41:=(XF i).t;
 let q42:=decide (List.length (LF i)=l);
 i≤n→(∀(j:Nat),j<i→(fun (i:Nat)=>i<n) j)→(i=n→Z0 q39 (Z0 (decide (d≤List.length (HF i))) (Z0 q40 (Z0 (decide (g≤List.length (GF i))) (q41.fund=q18.fund∧Z0 (decide (q41.index=q18.index)) (Z0 (decide (q41.cap=q18.cap)) (Z0 (decide (q41.dust=q18.dust)) (Z0 (decide (q41.fee=q18.fee)) (Z0 (decide (q41.delay=q18.delay)) (q41.k0=q18.k0∧q41.k1=q18.k1∧Z0 (decide ((XF i).side=X'.side)) (Z0 (decide ((XF i).res=X'.res)) ([(XF i).a0,(XF i).a1]=[X'.a0,X'.a1]∧[(XF i).i0,(XF i).i1]=[X'.i0,X'.i1]∧Z0 q42 (Z0 (decide (l≤List.length (LF i))) (Z0 q42 (Zd 2 q19 l (Z5 X'.L) (Z5 (LF i))∧Z0 q40 (Zd 2 q19 g (Z5 G) (Z5 (GF i))∧Z0 q39 (Zd 2 q19 d (Z5 Hd) (Z5 (HF i))∧True) False) False) False) False) False) False) False) False) False) False) False) False) False) False) False) False)∧(False→False)∧(False→False))
 False)
 False)
 False)
 False)
 False)
 False)
 False)
 False)
 False)
 False)
 False)
 False)
 False)
 False))
 q5)) (by kernel_rfl) ?_
 conv=>zeta
 try simp only [Zi]
 try simp only [Zj]
 try simp only [Zk]
 try simp only [Zl]
 try simp only [Zm]
 try simp only [Zh]
 try simp only [Int.toNat_natCast,Nat.zero_add,true_and,and_true,Nat.le_refl]
 subst hG hH hX'
 have hR:∀τ k (Q:List Z7),Zd 2 τ k (Z5 Q) (Z5 Q):=fun τ k Q=>Zg fun _ _=>rfl
 have hcap':(X.t.cap==0)=false:=by simpa using hcap
 rw [hcap']
 refine ⟨fun h=>(by cases h),fun _=>⟨fun h1=>⟨fun h2=> ?_,fun _=>⟨hR _ _ _,hC,fun i hi _=>⟨fun he=> ?_,fun h=>h.elim,fun h=>h.elim⟩⟩⟩,fun h=>absurd hm.1 h⟩⟩
 ·have:¬m≤4:=by simpa using h2
  exact absurd hm.2 this
 ·subst he
  repeat' apply And.intro
  all_goals first|rfl|exact hR _ _ _|exact hl.symm|exact hg.symm|exact hd.symm|exact Nat.le_of_eq hl|exact Nat.le_of_eq hg|exact Nat.le_of_eq hd
theorem Zi7 (X:Za) (m:Int) (n:Nat) (C:Prop) (hcap:X.t.cap≠0) (hm:¬(1≤m∧m≤4)):
  evF (ZdK X m n C fun _=>stE X [] m n [] [] []) 20 21 [.ptr (some ⟨0,0,0,0,0⟩),.int .i64 m] (Z5W X n) (YS 2 (.ret (.tuple [.nilslice,.nilslice,.int .i64 2])) 2 [(0,.flat (X.c (.nslice ⟨1,0,70,0,0⟩ 70 n n))),(1,.rows 70 n (Z5 X.L))]):=by
 refine @Eq.mpr _ (let q1:=X.t;
 let q2:=q1.cap;
 let q3:=q1.fund;
 let q4:=q3=q3;
 let q5:=q1.index;
 let q6:=decide (q5=q5);
 let q7:=decide (q2=q2);
 let q8:=q1.dust;
 let q9:=decide (q8=q8);
 let q10:=q1.fee;
 let q11:=decide (q10=q10);
 let q12:=q1.delay;
 let q13:=decide (q12=q12);
 let q14:=q1.k0;
 let q15:=q14=q14;
 let q16:=q1.k1;
 let q17:=q16=q16;
 let q18:=decide (X.side=X.side);
 let q19:=decide (X.res=X.res);
 let q20:=[X.a0,X.a1];
 let q21:=q20=q20;
 let q22:=[X.i0,X.i1];
 let q23:=q22=q22;
 let q24:=decide (n=n);
 let q25:=decide (n≤n);
 let q26:=Z5 X.L;
 let q27:=q4∧Z0 q6 (Z0 q7 (Z0 q9 (Z0 q11 (Z0 q13 (q15∧q17∧Z0 q18 (Z0 q19 (q21∧q23∧Z0 q24 (Z0 q25 (Z0 q24 (Zd 2 [] n q26 q26∧True) False) False) False) False) False) False) False) False) False) False;
 Z0 (q2==0) False (Z0 (decide (1≤m)) (Z0 (!decide (m≤4)) q27 (Z0 (decide ((↑n:Int)=(↑n:Int))) (Z0 q24 (Z0 q25 (Z0 (decide (m=m)) (q4∧Z0 q6 (Z0 q7 (Z0 q9 (Z0 q11 (Z0 q13 (q15∧q17∧Z0 q18 (Z0 q19 (q21∧q23∧Z0 q24 (Z0 q25 (Z0 q24 (Zd 2 [(2,2)] n q26 q26∧C∧∀(i:Nat),i≤n→(∀(j:Nat),j<i→(fun (i:Nat)=>i<n) j)→(i=n→False)∧(False→False)∧(False→False)) False) False) False) False) False) False) False) False) False) False) False) False) False) False)) q27)) (by kernel_rfl) ?_
 conv=>zeta
 try simp only [Zi]
 try simp only [Zj]
 try simp only [Zk]
 try simp only [Zl]
 try simp only [Zm]
 try simp only [Zh]
 try simp only [Int.toNat_natCast,Nat.zero_add,true_and,and_true,Nat.le_refl]
 have hR:∀τ k (Q:List Z7),Zd 2 τ k (Z5 Q) (Z5 Q):=fun τ k Q=>Zg fun _ _=>rfl
 refine ⟨by simpa using hcap,fun h1=>⟨fun _=>hR _ _ _,fun h2=> ?_⟩,fun _=>hR _ _ _⟩
 have:m≤4:=by simpa using h2
 exact absurd ⟨h1,this⟩ hm
theorem Yk {t:Zo} (h:YT t=true):t.cap≠0:=by have:=ZZ h;omega
theorem Za.Inv.st {H:List Int→List Int} {X:Za} (h:X.Inv H) {m:Int} (hm:1≤m∧m≤4):ZbM X m X.L.length:=
 ⟨rfl,h.len,hm,h.side,fun z hz=>⟨(W3 (h.und z hz)).2.2.1,h.am.am z hz⟩,by have:=h.a0;have:=ZZ h.tb;omega,by have:=h.a0;have:=h.a1;have:=ZZ h.tb;omega⟩
theorem ZdM {X:Za} {m:Int} (hm:1≤m∧m≤4):stpX X m={ stX X m X.L.length with L:=Yg m X.L}:=by
 unfold stpX stX
 rw [if_pos hm,List.take_length]
def ZbN (c:Bool):YQ:=fun args h K=>match args with
 | [.ptr (some ⟨l,0,0,0,0⟩),_]=>match h.get l with
  |some (.flat [_,_,_,_,_,_,_,_,_,_,_,_,.nslice ⟨b,0,70,0,0⟩ 70 _ _])=>frA [l,b] h 20 args fun Bs a=>match Bs,a with
   | [.flat cs,.rows 70 n f],[.ptr (some ⟨0,0,0,0,0⟩),.int .i64 m]=>
    ∃X,LB cs n f X∧X.Inv Zt∧(match c with
     | true=>(1≤m∧m≤4)∧K (.ret (.tuple [.nslice ⟨h.next+2,0,70,0,0⟩ 70 (XQ m X.L).length (XQ m X.L).length,.nslice ⟨h.next+1,0,70,0,0⟩ 70 (Yb m X.L).length (Yb m X.L).length,.int .i64 0])) ⟨h.next+3,(l,.flat ((stpX X m).c (.nslice ⟨h.next,0,70,0,0⟩ 70 (stpX X m).L.length (stpX X m).L.length)))::(h.next,.rows 70 (stpX X m).L.length (Z5 (stpX X m).L))::(h.next+1,.rows 70 (Yb m X.L).length (Z5 (Yb m X.L)))::(h.next+2,.rows 70 (XQ m X.L).length (Z5 (XQ m X.L)))::Xe (Xe h.bs l) b⟩
     | false=>¬(1≤m∧m≤4)∧K (.ret (.tuple [.nilslice,.nilslice,.int .i64 2])) ⟨h.next,(l,.flat (X.c (.nslice ⟨b,0,70,0,0⟩ 70 X.L.length X.L.length)))::(b,.rows 70 X.L.length (Z5 X.L))::Xe (Xe h.bs l) b⟩)
   | _,_=>False
  | _=>False
 | _=>False
theorem ZbO (c:Bool) (args:List AV) (h:Z6) (K:KO) (hl:ZbN c args h K):Zn PP 21 args h K:=by
 unfold ZbN at hl
 split at hl
 ·split at hl
  ·refine Spec.fsumm hl fun Bs a hlen hK0=> ?_
   split at hK0
   ·rename_i cs n f m
    obtain ⟨X,⟨rfl,rfl,rfl⟩,hI,hK⟩:=hK0
    cases c with
    | true=>
     obtain ⟨hm,hK1⟩:=hK
     have e:=ZdM (X:=X) hm
     have hv:=Zi6 X (stpX X m) m X.L.length _ _ _ (Yb m X.L) (XQ m X.L) (ZbM X m X.L.length) (stX X m) (fun i=>Yb m (X.L.take i)) (fun i=>XQ m (X.L.take i)) (fun i=>Yg m (X.L.take i)) (hI.st hm) hI.len hm (Yk hI.tb) (by rw [List.take_length]) (by rw [List.take_length]) (by dsimp only;rw [List.take_length];exact e) rfl rfl rfl
     exact ⟨_,_,_,_,_,.evM (ZdL X m _) hv,by simp,.ret _ _ rfl,.cons _ _ _ _ _ _ rfl (.flat _ _ rfl) (.cons _ _ _ _ _ _ rfl (.rows _ _ _ (fun _ _=>rfl)) (.cons _ _ _ _ _ _ rfl (.rows _ _ _ (fun _ _=>rfl)) (.cons _ _ _ _ _ _ rfl (.rows _ _ _ (fun _ _=>rfl)) .nil))),hK1⟩
    | false=>
     obtain ⟨hm,hK2⟩:=hK
     have hC:(ZdK X m X.L.length False fun _=>stE X [] m X.L.length [] [] []).Ok:=Zf.withGoM (N:=20) (S:=fun i=>ZdI X m X.L.length i) Z8t (by kernel_rfl) fun h=>h.elim
     exact ⟨_,_,_,_,_,.evM hC (Zi7 X m _ False (Yk hI.tb) hm),by simp,.ret _ _ rfl,.cons _ _ _ _ _ _ rfl (.flat _ _ rfl) (.cons _ _ _ _ _ _ rfl (.rows _ _ _ (fun _ _=>rfl)) .nil),hK2⟩
   ·exact hK0.elim
  ·exact hl.elim
 ·exact hl.elim
end Go.Tk
end
section
namespace Go.Tk
open IntKind (i64 u8 u32 u64 wrap)
end Go.Tk
end
section
namespace Go.Tk
open IntKind (i64 u8 u32 u64 wrap)
structure Xh where
 frm:Int
 id:Int
 amount:Int
 hash:List Int
 expiry:Int
def Xh.c (p:Xh):List AV:=[.int .i64 p.frm,.int .i64 p.id,.int .i64 p.amount,.arr .u8 32 p.hash,.int .i64 p.expiry]
def ZbP:Xh:=⟨0,0,0,Z9,0⟩
def Yw (P:List Xh) (i:Nat):List AV:=(P.getD i ZbP).c
theorem Z07 (P:List Xh) (i:Nat):plainC (Yw P i)=true:=rfl
theorem UG {k:Nat} {τ:Ren} {n:Nat} {P:List Xh} {f:Nat→List AV} (h:∀i,i<n→f i=Yw P i):Zd k τ n (Yw P) f:=
 UB h (fun i _=>Z07 P i) (fun i _ v hv=>by
  simp only [Yw,Xh.c,List.mem_cons,List.not_mem_nil,or_false] at hv
  rcases hv with rfl|rfl|rfl|rfl|rfl<;>first|exact .inl rfl|exact .inr ⟨_,_,_,rfl⟩)
theorem Z65 {O:List Xh} {x:Xh} {i:Nat} (hi:i<O.length+1):Yc O.length (Yw O) (Xk (Xh.c x) 0 36) i=Yw (O++[x]) i:=by
 rcases Nat.lt_or_ge i O.length with h|h
 ·rw [QT h]
  unfold Yw
  rw [List.getD_eq_getElem?_getD,List.getD_eq_getElem?_getD,List.getElem?_append_left (by omega)]
 ·have e:i=O.length:=by omega
  subst e
  rw [UC (Nat.le_refl _),Nat.sub_self]
  unfold Yw
  rw [List.getD_eq_getElem?_getD,List.getElem?_append_right (by omega),Nat.sub_self]
  rfl
def Vm (side:Int) (h:Z7):Xh:=⟨ZN side h.own,h.id,h.amount,h.hash,h.expiry⟩
def ZfU (b:Bool) (x:Xh):List Xh:=match b with
 | true=>[x]
 | false=>[]
def ZH (side:Int) (o:Bool) (L:List Z7):List Xh:=(L.filter fun h=>Yv h.own h.stage o).map (Vm side)
def srP (side:Int) (o:Bool) (p:Int×Int) (h:Z7):Int×Int:=match Yv h.own h.stage o with
 | true=>if ZN side h.own=0 then (p.1-h.amount,p.2) else (p.1,p.2-h.amount)
 | false=>if 6<h.stage then Xr side p h else p
def YP (side:Int) (o:Bool) (p:Int×Int) (L:List Z7):Int×Int:=L.foldl (srP side o) p
theorem Z8u {s a b q:Int} (hs:s=0∨s=1) (h1: -1152921504606846976≤a∧a≤1152921504606846976) (h2: -1152921504606846976≤b∧b≤1152921504606846976) (h3:0≤q∧q≤1152921504606846976):
  [a,b].set s.toNat (i64.wrap ([a,b].getD s.toNat 0-q))=[(if s=0 then (a-q,b) else (a,b-q)).1,(if s=0 then (a-q,b) else (a,b-q)).2]:=by
 rcases hs with rfl|rfl
 ·show [i64.wrap (a-q),b]=[a-q,b]
  rw [w64 (by omega)]
 ·show [a,i64.wrap (b-q)]=[a,b-q]
  rw [w64 (by omega)]
noncomputable def ZdN:Zf:=Z4M (G0.withP 34 ZfO)
theorem Z8v:ZdN.Ok:=Zf.withP_ok (Zf.withP_ok (Zf.withP_ok (Zf.withP_ok (Zf.withP_ok ZB ZdC) Z1q) QY) QZ) Z00
def srZ:List AV:=[.int .i64 0,.int .i64 0,.arr .u8 32 Z9,.arr .i64 2 [0,0],.nilslice]
def Zi8 (k ow:Int) (pt:List Int) (a b:Int) (P:List Xh):Z6:=⟨4,[(0,.flat srZ),(1,.flat [.int .i64 k,.int .i64 ow,.arr .u8 32 pt,.arr .i64 2 [a,b],.nslice ⟨3,0,36,0,0⟩ 36 P.length P.length]),(2,.flat [.ptr (some ⟨1,0,0,34,0⟩)]),(3,.rows 36 P.length (Yw P))]⟩
def ZdO (X:Za) (o:Bool) (k ow:Int) (pt:List Int) (n i:Nat) (a b:Int) (P:List Xh):St:=⟨99,[(41,.int .i64 i),(40,.int .i64 n),(39,.vrows 70 n (Z5 X.L) n),(0,VB X),(1,.bool o),(10,.ptr (some ⟨1,0,0,0,0⟩)),(11,.func (.func 81) [] [.ptr (some ⟨2,0,0,0,0⟩)]),(8,.ptr (some ⟨0,0,0,0,0⟩))],Zi8 k ow pt a b P,[]⟩
def Z7B (k ow:Int) (pt:List Int) (a b:Int) (P:List Xh):St:=⟨99,[(10,.ptr (some ⟨1,0,0,0,0⟩)),(8,.ptr (some ⟨0,0,0,0,0⟩))],⟨3,[(0,.flat srZ),(1,.flat [.int .i64 k,.int .i64 ow,.arr .u8 32 pt,.arr .i64 2 [a,b],.nslice ⟨2,0,36,0,0⟩ 36 P.length P.length]),(2,.rows 36 P.length (Yw P))]⟩,[]⟩
theorem Zi9 (X:Za) (o:Bool) (k ow:Int) (pt:List Int) (n i:Nat) (a b a1 b1:Int) (P P1:List Xh) (x:Z7) (Z1 Z2:Prop) (hn:n<1000) (hL:X.L.length=n) (hi:i≤n) (hX:X8 X) (hP:P.length<1000) (hx:i<n→X.L.getD i Zr=x) (hP1:i<n→P1=P++ZfU (Yv x.own x.stage o) (Vm X.side x)) (ha:i<n→(a1,b1)=srP X.side o (a,b) x) (hw:i<n→(-1152921504606846976≤a∧a≤1152921504606846976)∧(-1152921504606846976≤b∧b≤1152921504606846976)∧0≤x.amount∧x.amount≤1152921504606846976) (hZ1:i<n→Z1) (hZ2:i=n→Z2):
  ZY ZdN 20 12 1 0 (ZdO X o k ow pt n i a b P) (rdM 0 1 9 (ZdO X o k ow pt n (i+1) a1 b1 P1) (Z7B k ow pt a b P) (Z7B k ow pt a b P) (Z7B k ow pt a b P) Z1 Z2 False False):=by
 refine @Eq.mpr _ (let q1:=X.L;
 let q2:=List.getD q1 (Int.toNat (↑i:Int)) Zr;
 let q3:=q2.own;
 let q4:=q2.stage;
 let q5:=Yv q3 q4 o;
 let q6:=List.length P;
 let q7:=decide (q6=q6);
 let q8:=q6+1;
 let q9:=decide (q8*64≤140737488355328);
 let q10:=X.side;
 let q11:=decide (0≤q10∧q10<2);
 let q12:=0+Int.toNat q10;
 let q13:=decide (wrap i64 ((↑i:Int)+1)=(↑(i+1):Int));
 let q14:=decide ((↑n:Int)=(↑n:Int));
 let q15:=decide (n=n);
 let q16:=Z5 q1;
 let q17:=q16=q16;
 let q18:=List.length q1;
 let q19:=Za.c X (AV.vrows 70 q18 q16 q18);
 let q20:=q19=q19;
 let q21:=decide (o=o);
 let q22:=[(0:Int),0];
 let q23:=q22=q22;
 let q24:=decide (k=k);
 let q25:=decide (ow=ow);
 let q26:=[a,b];
 let q27:=q2.amount;
 let q28:=List.set q26 q12 (wrap i64 (List.getD q26 q12 0-q27));
 let q29:=[a1,b1];
 let q30:=List.length P1;
 let q31:=decide (q8=q30);
 let q32:=decide (q30≤q8);
 let q33:=[(1,1)];
 let q34:=(0,0)::(2,2)::q33;
 let q35:=(3,6)::q34;
 let q36:=Yw P1;
 let q37:=Yw P;
 let q38:=[AV.int i64 q2.id,AV.int i64 q27,AV.arr u8 32 q2.hash,AV.int i64 q2.expiry];
 let q39:=decide (q4>6);
 let q40:=q2.fin==1;
 let q41:=wrap i64 (1-q10);
 let q42:=decide (0≤q41∧q41<2);
 let q43:=0+Int.toNat q41;
 let q44:=decide (q43<2);
 let q45:=decide (q6=q30);
 let q46:=Z0 q45 (Z0 (decide (q30≤q6)) (Z0 q45 (Zd 0 ((3,3)::q34) q30 q36 q37∧Z1) False) False) False;
 let q47:=Z0 q13 (Z0 q14 (Z0 q15 (q17∧Z0 q15 (q20∧Z0 q21 (Z9=Z9∧q23∧Z0 q24 (Z0 q25 (pt=pt∧q26=q29∧q46) False) False) False) False) False) False) False;
 let q48:=List.set q26 q43 (wrap i64 (List.getD q26 q43 0-q27));
 let q49:=wrap i64 (1-q41);
 let q50:=decide (0≤q49∧q49<2);
 let q51:=0+Int.toNat q49;
 Z0 (decide ((↑i:Int)<(↑n:Int)))
 (Z0 (decide (0≤(↑i:Int)∧(↑i:Int)<(↑n:Int)))
 (Z0 q3
 (Z0 q5 (Z0 q7 (Z0 q9 (Z0 q11 (Z0 (decide (q12<2)) (Z0 q11 (Z0 (decide (i64=i64∧q12<2∧q12<2)) (Z0 q13 (Z0 q14 (Z0 q15 (q17∧Z0 q15 (q20∧Z0 q21 (Z9=Z9∧q23∧Z0 q24 (Z0 q25 (pt=pt∧q28=q29∧Z0 q31 (Z0 q32 (Z0 q31 (Zd 0 q35 q30 q36 (Yc q6 q37 (Xk (AV.int i64 q10::q38) 0 36))∧Z1) False) False) False) False) False) False) False) False) False) False) False) False) False) False) False) False)
 (Z0 q39 (Z0 q40 (Z0 q11 (Z0 (decide (q12<2)) (Z0 q11 (Z0 (decide (i64=i64∧q12<2∧q12<2)) (Z0 q42 (Z0 q44 (Z0 q42 (Z0 (decide (i64=i64∧q43<2∧q43<List.length q28)) (Z0 q13 (Z0 q14 (Z0 q15 (q17∧Z0 q15 (q20∧Z0 q21 (Z9=Z9∧q23∧Z0 q24 (Z0 q25 (pt=pt∧List.set q28 q43 (wrap i64 (List.getD q28 q43 0+q27))=q29∧q46) False) False) False) False) False) False) False) False) False) False) False) False) False) False) False) q47) q47))
 (Z0 q5 (Z0 q7 (Z0 q9 (Z0 q42 (Z0 (decide (q43<2)) (Z0 q42 (Z0 (decide (i64=i64∧q43<2∧q43<2)) (Z0 q13 (Z0 q14 (Z0 q15 (q17∧Z0 q15 (q20∧Z0 q21 (Z9=Z9∧q23∧Z0 q24 (Z0 q25 (pt=pt∧q48=q29∧Z0 q31 (Z0 q32 (Z0 q31 (Zd 0 q35 q30 q36 (Yc q6 q37 (Xk (AV.int i64 q41::q38) 0 36))∧Z1) False) False) False) False) False) False) False) False) False) False) False) False) False) False) False) False)
 (Z0 q39 (Z0 q40 (Z0 q42 (Z0 q44 (Z0 q42 (Z0 (decide (i64=i64∧q43<2∧q43<2)) (Z0 q50 (Z0 (decide (q51<2)) (Z0 q50 (Z0 (decide (i64=i64∧q51<2∧q51<List.length q48)) (Z0 q13 (Z0 q14 (Z0 q15 (q17∧Z0 q15 (q20∧Z0 q21 (Z9=Z9∧q23∧Z0 q24 (Z0 q25 (pt=pt∧List.set q48 q51 (wrap i64 (List.getD q48 q51 0+q27))=q29∧q46) False) False) False) False) False) False) False) False) False) False) False) False) False) False) False) q47) q47)))
 False)
 (Z9=Z9∧q23∧Z0 q24 (Z0 q25 (pt=pt∧q26=q26∧Z0 q7 (Z0 (decide (q6≤q6)) (Z0 q7 (Zd 0 ((2,3)::(0,0)::q33) q6 q37 q37∧Z2) False) False) False) False) False)) (by kernel_rfl) ?_
 conv=>zeta
 try simp only [Zi]
 try simp only [Zj]
 try simp only [Zk]
 try simp only [Zl]
 try simp only [Zm]
 try simp only [Zh]
 try simp only [Int.toNat_natCast,Nat.zero_add,true_and,and_true,Nat.le_refl]
 refine ⟨fun hc=> ?_,fun hc=> ?_⟩
 ·have hlt:i<n:=by omega
  rw [hx hlt]
  have hP1:=hP1 hlt
  have ha:=ha hlt
  obtain ⟨b1',b2',b3'⟩:=hw hlt
  obtain ⟨s1,s2⟩:=hX
  have hab:[a1,b1]=[(srP X.side o (a,b) x).1,(srP X.side o (a,b) x).2]:=by rw [←ha]
  have hwr:i64.wrap ((i:Int)+1)=((i+1:Nat):Int):=by rw [w64 (by omega)];omega
  have hwf:i64.wrap (1-X.side)=1-X.side:=w64 (by omega)
  have hwg:i64.wrap (1-(1-X.side))=X.side:=by rw [w64 (by omega)];omega
  rw [hwr]
  try rw [hwf]
  try rw [hwg]
  have hR:∀τ k (Q:List Xh),Zd 0 τ k (Yw Q) (Yw Q):=fun τ k Q=>UG fun _ _=>rfl
  have hC:∀τ (Q:List Xh) (y:Xh),Zd 0 τ (Q++[y]).length (Yw (Q++[y])) (Yc Q.length (Yw Q) (Xk y.c 0 36)):=fun τ Q y=>UG fun j hj=>Z65 (by simpa using hj)
  have e:=Z1t (s:=X.side) (by omega) b1' b2' b3'
  have e':=Z1t (s:=1-X.side) (by omega) b1' b2' b3'
  rw [show 1-(1-X.side)=X.side by omega] at e'
  have k:=Z8u (s:=X.side) (by omega) b1' b2' b3'
  have k':=Z8u (s:=1-X.side) (by omega) b1' b2' b3'
  refine ⟨by omega,fun ho=>⟨fun hst=> ?_,fun hst=>⟨fun h6=>⟨fun hf=> ?_,fun hf=> ?_⟩,fun h6=> ?_⟩⟩,fun ho=>⟨fun hst=> ?_,fun hst=>⟨fun h6=>⟨fun hf=> ?_,fun hf=> ?_⟩,fun h6=> ?_⟩⟩⟩
  all_goals unfold srP at hab
  all_goals rw [hst] at hab hP1
  all_goals simp only [ZfU,List.append_nil] at hP1
  all_goals try simp only [gt_iff_lt] at h6
  all_goals try rw [if_pos h6] at hab
  all_goals try rw [if_neg h6] at hab
  all_goals try have hf1:x.fin=1:=by simpa using hf
  all_goals try have hf0:¬x.fin=1:=by simpa using hf
  all_goals try rw [Z2P (h:=x) hf1] at hab
  all_goals try rw [Z4R (h:=x) hf0] at hab
  all_goals try (have hy:Vm X.side x=⟨X.side,x.id,x.amount,x.hash,x.expiry⟩:=by unfold Vm;rw [ho];rfl)
  all_goals try (have hy:Vm X.side x=⟨1-X.side,x.id,x.amount,x.hash,x.expiry⟩:=by unfold Vm;rw [ho];rfl)
  all_goals try rw [hy] at hP1
  all_goals subst hP1
  all_goals rw [hab]
  all_goals try rw [show ZN X.side x.own=X.side by rw [ho];rfl]
  all_goals try rw [show ZN X.side x.own=1-X.side by rw [ho];rfl]
  all_goals try rw [e]
  all_goals try rw [e']
  all_goals try rw [k]
  all_goals try rw [k']
  all_goals repeat' apply And.intro
  all_goals first|omega|rfl|exact hZ1 hlt|exact hC _ _ _|exact hR _ _ _|(simp;done)|(simp only [List.length_set,List.length_cons,List.length_nil,List.length_append];omega)|(split<;>rfl)|skip
 ·repeat' apply And.intro
  all_goals first|omega|rfl|exact hZ2 (by omega)|exact UG fun _ _=>rfl
theorem ZbQ {side:Int} {o:Bool} {p:Int×Int} {x:Z7} {A B:Int} (hx:0≤x.amount∧x.amount≤1125899906842624) (h1:A≤p.1∧p.1≤B) (h2:A≤p.2∧p.2≤B):(A-1125899906842624≤(srP side o p x).1∧(srP side o p x).1≤B+1125899906842624)∧A-1125899906842624≤(srP side o p x).2∧(srP side o p x).2≤B+1125899906842624:=by
 unfold srP Xr
 split
 ·split<;>dsimp only<;>omega
 ·split
  ·split
   ·split<;>dsimp only<;>omega
   ·omega
  ·omega
theorem Z66 {side:Int} {o:Bool} {a b:Int} {L:List Z7} (hA:∀x∈L,0≤x.amount∧x.amount≤1125899906842624) (ha:0≤a∧a≤1125899906842624) (hb:0≤b∧b≤1125899906842624):∀i,i≤L.length→(0-1125899906842624*(i:Int)≤(YP side o (a,b) (L.take i)).1∧(YP side o (a,b) (L.take i)).1≤1125899906842624*((i:Int)+1))∧0-1125899906842624*(i:Int)≤(YP side o (a,b) (L.take i)).2∧(YP side o (a,b) (L.take i)).2≤1125899906842624*((i:Int)+1)
 | 0,_=>by
  show (_≤a∧a≤_)∧_≤b∧b≤_
  omega
 | i+1,hi=>by
  obtain ⟨h1,h2⟩:=Z66 (side:=side) (o:=o) hA ha hb i (by omega)
  have e:YP side o (a,b) (L.take (i+1))=srP side o (YP side o (a,b) (L.take i)) (L.getD i Zr):=by
   unfold YP
   rw [WG (by omega),List.foldl_append];rfl
  rw [e]
  have:=ZbQ (side:=side) (o:=o) (hA _ (Yd (L:=L) (i:=i) (by omega))) h1 h2
  omega
def ZdP (X:Za) (n:Nat):Prop:=X.L.length=n∧n≤16∧(X.side=0∨X.side=1)∧(∀h∈X.L,0≤h.amount∧h.amount≤1125899906842624)∧(0≤X.a0∧X.a0≤1125899906842624)∧0≤X.a1∧X.a1≤1125899906842624
theorem Z9H (side:Int) (o:Bool) (A:List Z7) (x:Z7):ZH side o (A++[x])=ZH side o A++ZfU (Yv x.own x.stage o) (Vm side x):=by
 unfold ZH
 rw [List.filter_append,List.map_append,Z06]
 congr 1
 cases Yv x.own x.stage o<;>rfl
theorem Z0G (side:Int) (o:Bool) (A:List Z7):(ZH side o A).length≤A.length:=by
 unfold ZH;rw [List.length_map];exact List.length_filter_le _ _
def ZdQ (X:Za) (o:Bool) (k ow:Int) (pt:List Int) (n i:Nat):St:=ZdO X o k ow pt n i (YP X.side o (X.a0,X.a1) (X.L.take i)).1 (YP X.side o (X.a0,X.a1) (X.L.take i)).2 (ZH X.side o (X.L.take i))
def ZdR (X:Za) (o:Bool) (k ow:Int) (pt:List Int) (i:Nat):St:=Z7B k ow pt (YP X.side o (X.a0,X.a1) (X.L.take i)).1 (YP X.side o (X.a0,X.a1) (X.L.take i)).2 (ZH X.side o (X.L.take i))
theorem Zia (X:Za) (o:Bool) (k ow:Int) (pt:List Int) (n i:Nat) (hC:ZdP X n) (hi:i≤n):ZY ZdN 20 12 1 0 (ZdQ X o k ow pt n i) (rdM 0 1 9 (ZdQ X o k ow pt n (i+1)) (ZdR X o k ow pt i) (ZdR X o k ow pt i) (ZdR X o k ow pt i) (i<n∧i<n) (i=n) False False):=by
 obtain ⟨h1,h2,h3,h4,h5,h6⟩:=id hC
 have hlt:i<n→i<X.L.length:=fun h=>by omega
 have l0:(X.L.take i).length≤16:=by rw [List.length_take];omega
 have l1:=Z0G X.side o (X.L.take i)
 have hb:=Z66 (side:=X.side) (o:=o) h4 h5 h6 i (by omega)
 refine Zi9 X o k ow pt n i _ _ _ _ _ _ (X.L.getD i Zr) (i<n∧i<n) (i=n) (by omega) h1 hi (show 0≤X.side∧X.side≤1 by omega) (by omega) (fun _=>rfl) (fun h=> ?_) (fun h=> ?_) (fun h=>⟨by omega,by omega, ?_⟩) (fun h=>⟨h,h⟩) (fun h=>h)
 ·rw [WG (hlt h),Z9H]
 ·unfold YP
  rw [WG (hlt h),List.foldl_append];rfl
 ·have:=h4 _ (Yd (hlt h));omega
noncomputable def Z8w (X:Za) (o:Bool) (k ow:Int) (pt:List Int) (n:Nat) (C:Prop) (E:Nat→St):Zf:=ZdN.withL 12 1 (goM 0 (ZdO X o k ow pt n 0 X.a0 X.a1 []) C (YR 1 n 9 (fun i=>i<n) (fun i=>i=n) (fun _=>False) (fun _=>False) E E E))
theorem ZbR (X:Za) (o:Bool) (k ow:Int) (pt:List Int) (n:Nat):(Z8w X o k ow pt n (ZdP X n) (ZdR X o k ow pt)).Ok:=
 Zf.withGoM (N:=20) (S:=ZdQ X o k ow pt n) Z8v (by kernel_rfl) fun hC=>⟨rfl,fun i hi _=>Zia X o k ow pt n i hC hi⟩
theorem Zib (X:Za) (o:Bool) (k ow:Int) (pt:List Int) (n l:Nat) (a b:Int) (P:List Xh) (C:Prop) (AF BF:Nat→Int) (PF:Nat→List Xh) (hC:C) (hn:X.L.length=n) (hcap:X.t.cap≠0) (hs:0≤X.side∧X.side≤1) (hk:0≤k∧k≤2147483647) (how:ow=ZN X.side o) (ha:a=AF n) (hb:b=BF n) (hP:P=PF n) (hl:l=P.length):
  evF (Z8w X o k ow pt n C fun i=>Z7B k ow pt (AF i) (BF i) (PF i)) 20 12 [VB X,.bool o,.int .i64 k,.agg [.arr .u8 32 pt]] ⟨0,[]⟩ (YS 0 (.ret (.tuple [.agg [.int .i64 k,.int .i64 ow,.arr .u8 32 pt,.arr .i64 2 [a,b],.nslice ⟨0,0,36,0,0⟩ 36 l l],.int .i64 0])) 1 [(0,.rows 36 l (Yw P))]):=by
 refine @Eq.mpr _ (let q1:=[(0:Int),0];
 let q2:=[a,b];
 let q3:=decide (l=0);
 let q4:=Z0 (decide (0=k)) (Z0 (decide (0=ow)) (Z9=pt∧q1=q2∧Z0 q3 (Z0 q3 False False) False) False) False;
 let q5:=[X.a0,X.a1];
 let q6:=q5=q5;
 let q7:=List.length X.L;
 let q8:=decide ((↑q7:Int)=(↑n:Int));
 let q9:=decide (q7=n);
 let q10:=Z5 X.L;
 let q11:=q10=q10;
 let q12:=Za.c X (AV.vrows 70 q7 q10 q7);
 let q13:=q12=q12;
 let q14:=decide (o=o);
 let q15:=q1=q1;
 let q16:=decide (k=k);
 let q17:=pt=pt∧q6∧C∧∀(i:Nat),i≤n→(∀(j:Nat),j<i→(fun (i:Nat)=>i<n) j)→(i=n→Z0 q16 (Z0 (decide (ow=ow)) (pt=pt∧[AF i,BF i]=q2∧Z0 (decide (List.length (PF i)=l)) (Z0 (decide (l≤List.length (PF i))) (Z0 (decide (List.length (PF i)=l)) (Zd 0 [(0,2)] l (Yw P) (Yw (PF i))∧True) False) False) False) False) False)∧(False→False)∧(False→False);
 Z0 (X.t.cap==0) q4 (Z0 (!decide (0≤k∧k≤2147483647)) q4 (Z0 o (q6∧pt=pt∧Z0 q8 (Z0 q9 (q11∧Z0 q9 (q13∧Z0 q14 (Z9=Z9∧q15∧Z0 q16 (Z0 (decide (X.side=ow)) q17 False) False) False) False) False) False) (q6∧pt=pt∧Z0 q8 (Z0 q9 (q11∧Z0 q9 (q13∧Z0 q14 (Z9=Z9∧q15∧Z0 q16 (Z0 (decide (wrap i64 (1-X.side)=ow)) q17 False) False) False) False) False) False)))) (by kernel_rfl) ?_
 conv=>zeta
 try simp only [Zi]
 try simp only [Zj]
 try simp only [Zk]
 try simp only [Zl]
 try simp only [Zm]
 try simp only [Zh]
 try simp only [Int.toNat_natCast,Nat.zero_add,true_and,and_true,Nat.le_refl]
 subst ha hb hP
 have hwf:i64.wrap (1-X.side)=1-X.side:=w64 (by omega)
 rw [hwf]
 have main:∀i:Nat,i≤n→(∀j:Nat,j<i→j<n)→(i=n→[AF i,BF i]=[AF n,BF n]∧(PF i).length=l∧l≤(PF i).length∧(PF i).length=l∧Zd 0 [(0,2)] l (Yw (PF n)) (Yw (PF i)))∧(False→False)∧(False→False):=fun i hi _=>⟨fun he=>by
  subst he
  exact ⟨rfl,hl.symm,Nat.le_of_eq hl,hl.symm,UG fun _ _=>rfl⟩,fun h=>h,fun h=>h⟩
 refine ⟨fun h=>absurd h (by simpa using hcap),fun _=>⟨fun h=>absurd h (by simp [hk.1,hk.2]),fun _=>⟨fun ho=> ?_,fun ho=> ?_⟩⟩⟩
 ·exact ⟨by rw [hn],hn,hn,by rw [how,ho];rfl,hC,main⟩
 ·exact ⟨by rw [hn],hn,hn,by rw [how,ho];rfl,hC,main⟩
theorem Zic (X:Za) (o:Bool) (k ow:Int) (pt:List Int) (n:Nat) (C:Prop) (hcap:X.t.cap≠0) (hk:¬(0≤k∧k≤2147483647)):
  evF (Z8w X o k ow pt n C fun i=>Z7B k ow pt 0 0 []) 20 12 [VB X,.bool o,.int .i64 k,.agg [.arr .u8 32 pt]] ⟨0,[]⟩ (YM fun v=>v=.tuple [.agg srZ,.int .i64 2]):=by
 refine @Eq.mpr _ (let q1:=[(0:Int),0];
 let q2:=AV.agg [AV.int i64 0,AV.int i64 0,AV.arr u8 32 Z9,AV.arr i64 2 q1,AV.nilslice];
 let q3:=[AV.int i64 2];
 let q4:=AV.tuple (AV.agg srZ::q3);
 let q5:=[X.a0,X.a1];
 let q6:=q5=q5;
 let q7:=List.length X.L;
 let q8:=decide ((↑q7:Int)=(↑n:Int));
 let q9:=decide (q7=n);
 let q10:=Z5 X.L;
 let q11:=q10=q10;
 let q12:=Za.c X (AV.vrows 70 q7 q10 q7);
 let q13:=q12=q12;
 let q14:=decide (o=o);
 let q15:=q1=q1;
 let q16:=decide (k=k);
 let q17:=pt=pt∧q6∧C∧∀(i:Nat),i≤n→(∀(j:Nat),j<i→(fun (i:Nat)=>i<n) j)→(i=n→False)∧(False→False)∧(False→False);
 Z0 (X.t.cap==0) (AV.tuple [q2,AV.int i64 1]=q4) (Z0 (!decide (0≤k∧k≤2147483647)) (AV.tuple (q2::q3)=q4) (Z0 o (q6∧pt=pt∧Z0 q8 (Z0 q9 (q11∧Z0 q9 (q13∧Z0 q14 (Z9=Z9∧q15∧Z0 q16 (Z0 (decide (X.side=ow)) q17 False) False) False) False) False) False) (q6∧pt=pt∧Z0 q8 (Z0 q9 (q11∧Z0 q9 (q13∧Z0 q14 (Z9=Z9∧q15∧Z0 q16 (Z0 (decide (wrap i64 (1-X.side)=ow)) q17 False) False) False) False) False) False)))) (by kernel_rfl) ?_
 conv=>zeta
 try simp only [Zi]
 try simp only [Zj]
 try simp only [Zk]
 try simp only [Zl]
 try simp only [Zm]
 try simp only [Zh]
 try simp only [Int.toNat_natCast,Nat.zero_add,true_and,and_true,Nat.le_refl]
 refine ⟨fun h=>absurd h (by simpa using hcap),fun _=>⟨fun _=>rfl,fun h=>absurd h ?_⟩⟩
 rw [decide_eq_false hk];simp
theorem Za.Inv.sr {H:List Int→List Int} {X:Za} (h:X.Inv H):ZdP X X.L.length:=
 ⟨rfl,h.len,h.side,h.am.am,by have:=h.a0;have:=ZZ h.tb;omega,by have:=h.a0;have:=h.a1;have:=ZZ h.tb;omega⟩
def srP0 (X:Za) (o:Bool):Int×Int:=YP X.side o (X.a0,X.a1) X.L
def Z8x (c:Bool):YQ:=fun args h K=>ZV none h true 20 args fun a=>match a with
 | [.pview cs 0,.bool o,.int .i64 k,.agg [.arr .u8 32 pt]]=>∃X,LV cs X∧X.Inv Zt∧(match c with
  | true=>(0≤k∧k≤2147483647)∧K (.ret (.tuple [.agg [.int .i64 k,.int .i64 (ZN X.side o),.arr .u8 32 pt,.arr .i64 2 [(srP0 X o).1,(srP0 X o).2],.nslice ⟨h.next,0,36,0,0⟩ 36 (ZH X.side o X.L).length (ZH X.side o X.L).length],.int .i64 0])) ⟨h.next+1,(h.next,.rows 36 (ZH X.side o X.L).length (Yw (ZH X.side o X.L)))::h.bs⟩
  | false=>¬(0≤k∧k≤2147483647)∧K (.ret (.tuple [.agg srZ,.int .i64 2])) ⟨h.next,h.bs⟩)
 | _=>False
theorem Z7C (c:Bool) (args:List AV) (h:Z6) (K:KO) (hl:Z8x c args h K):Zn PP 12 args h K:=by
 refine ZI.fsumm (d:=20) (Zu _ _ _ _ _ hl fun a ha=> ?_)
 split at ha
 ·rename_i cs o k pt
  obtain ⟨X,hX,hI,hK⟩:=ha
  cases c with
  | true=>
   obtain ⟨hk,hK1⟩:=hK
   have hv:=Zib X o k (ZN X.side o) pt X.L.length _ (srP0 X o).1 (srP0 X o).2 (ZH X.side o X.L) (ZdP X X.L.length) (fun i=>(YP X.side o (X.a0,X.a1) (X.L.take i)).1) (fun i=>(YP X.side o (X.a0,X.a1) (X.L.take i)).2) (fun i=>ZH X.side o (X.L.take i)) hI.sr rfl (Yk hI.tb) (by have:=hI.side;omega) hk rfl (by rw [List.take_length];rfl) (by rw [List.take_length];rfl) (by rw [List.take_length]) rfl
   exact ⟨_,_,_,_,(ZI.evM (ZbR X o k _ pt _) hv).conv fun E r hr=>hr.head (fun _ hc=>WE hX hc) fun _ hc=>hc,rfl,⟨Nat.one_pos,.rows _ _ _ (fun i _=>Z07 _ i),trivial⟩,hK1⟩
  | false=>
   obtain ⟨hk,hK2⟩:=hK
   have hC:(Z8w X o k 0 pt X.L.length False fun _=>Z7B k 0 pt 0 0 []).Ok:=Zf.withGoM (N:=20) (S:=fun i=>ZdQ X o k 0 pt X.L.length i) Z8v (by kernel_rfl) fun h=>h.elim
   exact ⟨_,_,_,_,(ZI.evV hC (Zic X o k 0 pt _ False (Yk hI.tb) hk)).conv fun E r hr=>hr.head (fun _ hc=>WE hX hc) fun _ hc=>hc,rfl,trivial,hK2⟩
 ·exact ha.elim
end Go.Tk
end
section
namespace Go.Tk
open IntKind (i64 u8 u32 u64 wrap)
end Go.Tk
end
section
namespace Go.Tk
open IntKind (i64 u8 u32 u64 wrap)
end Go.Tk
end
section
namespace Go.Tk
open IntKind (i64 u8 u32 u64 wrap)
end Go.Tk
end
section
namespace Go.Tk
open IntKind (i64 u8 u32 u64 wrap)
end Go.Tk
end
section
namespace Go.Tk
open IntKind (i64 u8 u32 u64 wrap)
def Z1c (side s:Int) (p:Int×Nat) (h:Z7):Int×Nat:=if ZN side h.own=s∧p.1≤1125899906842624 then (p.1+h.amount,p.2+1) else p
def offD (side s:Int) (L:List Z7):Int×Nat:=L.foldl (Z1c side s) (0,0)
theorem Z0H {α β:Type} (g:β→α→β) (d:α) {L:List α} {i:Nat} (hi:i<L.length) (b:β):(L.take (i+1)).foldl g b=g ((L.take i).foldl g b) (L.getD i d):=by
 rw [List.take_succ_eq_append_getElem hi,List.foldl_append,List.getD_eq_getElem?_getD,List.getElem?_eq_getElem hi];rfl
theorem Z3W {side s:Int} {L:List Z7} (hA:∀h∈L,0≤h.amount∧h.amount≤1125899906842624):∀i,i≤L.length→(0≤(offD side s (L.take i)).1∧(offD side s (L.take i)).1≤2251799813685248)∧(offD side s (L.take i)).2≤i
 | 0,_=>by simp [offD]
 | i+1,hi=>by
  obtain ⟨h1,h2⟩:=Z3W (side:=side) (s:=s) hA i (by omega)
  unfold offD at*
  rw [Z0H (Z1c side s) Zr (by omega)]
  generalize List.foldl (Z1c side s) (0,0) (L.take i)=p at*
  have:=hA _ (Yd (L:=L) (i:=i) (by omega))
  unfold Z1c
  split
  ·rename_i hc
   constructor<;>dsimp only<;>omega
  ·omega
def ZdS (X:Za) (s:Int) (n i:Nat) (a:Int) (c:Nat):St:=⟨42,[(8,.int .i64 i),(2,.ptr (some ⟨0,0,0,0,0⟩)),(1,.int .i64 s),(6,.int .i64 a),(7,.int .i64 c)],⟨1,[(0,.flat (X.c (.vrows 70 n (Z5 X.L) n)))]⟩,[]⟩
def ZbS (a:Int) (c:Nat):St:=⟨42,[(6,.int .i64 a),(7,.int .i64 c)],⟨0,[]⟩,[]⟩
theorem Zid (X:Za) (s:Int) (n i:Nat) (x:Z7) (a a1:Int) (c c1:Nat) (Z1 Z2:Prop) (hn:n<1000) (hL:X.L.length=n) (hi:i≤n) (hX:X8 X) (hx:i<n→X.L.getD i Zr=x) (ha:i<n→(0≤a∧a≤2251799813685248)∧0≤x.amount∧x.amount≤1125899906842624) (hc:i<n→c<1000) (h1:i<n→(a1,c1)=Z1c X.side s (a,c) x) (hZ1:i<n→Z1) (hZ2:i=n→Z2):
  ZY G0 20 100 0 0 (ZdS X s n i a c) (rdM 0 0 9 (ZdS X s n (i+1) a1 c1) (ZbS a c) (ZbS a c) (ZbS a c) Z1 Z2 False False):=by
 refine @Eq.mpr _ (let q1:=decide (0≤(↑i:Int)∧(↑i:Int)<(↑n:Int));
 let q2:=List.getD X.L (Int.toNat (↑i:Int)) Zr;
 let q3:=X.side;
 let q4:=decide (wrap i64 ((↑i:Int)+1)=(↑(i+1):Int));
 let q5:=decide (s=s);
 let q6:=X.t;
 let q7:=q6.fund;
 let q8:=q6.index;
 let q9:=q6.cap;
 let q10:=q6.dust;
 let q11:=q6.fee;
 let q12:=q6.delay;
 let q13:=q6.k0;
 let q14:=q6.k1;
 let q15:=[X.a0,X.a1];
 let q16:=[X.i0,X.i1];
 let q17:=decide (n=n);
 let q18:=Z5 X.L;
 let q19:=q7=q7∧Z0 (decide (q8=q8)) (Z0 (decide (q9=q9)) (Z0 (decide (q10=q10)) (Z0 (decide (q11=q11)) (Z0 (decide (q12=q12)) (q13=q13∧q14=q14∧Z0 (decide (q3=q3)) (Z0 (decide (X.res=X.res)) (q15=q15∧q16=q16∧Z0 q17 (q18=q18∧Z0 q17 Z1 False) False) False) False) False) False) False) False) False;
 let q20:=Z0 q4 (Z0 q5 (Z0 (decide (a=a1)) (Z0 (decide ((↑c:Int)=(↑c1:Int))) q19 False) False) False) False;
 let q21:=Z0 (decide (a≤1125899906842624)) (Z0 q1 (Z0 q4 (Z0 q5 (Z0 (decide (wrap i64 (a+q2.amount)=a1)) (Z0 (decide (wrap i64 ((↑c:Int)+1)=(↑c1:Int))) q19 False) False) False) False) False) q20;
 Z0 (decide ((↑i:Int)<(↑n:Int))) (Z0 q1 (Z0 q2.own (Z0 (q3==s) q21 q20) (Z0 (wrap i64 (1-q3)==s) q21 q20)) False) (Z0 (decide (a=a)) (Z0 (decide ((↑c:Int)=(↑c:Int))) Z2 False) False)) (by kernel_rfl) ?_
 conv=>zeta
 try simp only [Zi]
 try simp only [Zj]
 try simp only [Zk]
 try simp only [Zl]
 try simp only [Zm]
 try simp only [Zh]
 try simp only [Int.toNat_natCast,Nat.zero_add,true_and,and_true,Nat.le_refl]
 refine ⟨fun hc'=> ?_,fun hc'=>hZ2 (by omega)⟩
 have hlt:i<n:=by omega
 rw [hx hlt]
 obtain ⟨s1,s2⟩:=hX
 have ha:=ha hlt
 have hc:=hc hlt
 have h1:=h1 hlt
 have hwr:i64.wrap ((i:Int)+1)=((i+1:Nat):Int):=by rw [w64 (by omega)];omega
 have hwf:i64.wrap (1-X.side)=1-X.side:=w64 (by omega)
 have hwa:i64.wrap (a+x.amount)=a+x.amount:=w64 (by omega)
 have hwc:i64.wrap ((c:Int)+1)=(c:Int)+1:=w64 (by omega)
 rw [hwr,hwf,hwa,hwc]
 unfold Z1c at h1
 refine ⟨by omega,fun ho=>⟨fun hq=>⟨fun hm=> ?_,fun hm=> ?_⟩,fun hq=> ?_⟩,fun ho=>⟨fun hq=>⟨fun hm=> ?_,fun hm=> ?_⟩,fun hq=> ?_⟩⟩
 all_goals rw [ho] at h1
 all_goals simp only [ZN] at h1
 all_goals try (have hq:¬X.side=s:=by simpa using hq)
 all_goals try (have hq:X.side=s:=by simpa using hq)
 all_goals try (have hq:¬1-X.side=s:=by simpa using hq)
 all_goals try (have hq:1-X.side=s:=by simpa using hq)
 all_goals first|simp only [hq,hm,true_and,false_and,and_true,and_false,if_true,if_false,not_false_iff] at h1|simp only [hq,true_and,false_and,if_true,if_false] at h1
 all_goals simp only [Prod.mk.injEq] at h1
 all_goals obtain ⟨e1,e2⟩:=h1
 all_goals repeat' apply And.intro
 all_goals first|omega|exact hZ1 hlt|rfl
def ZdT (X:Za) (n:Nat):Prop:=X.L.length=n∧n<1000∧X8 X∧∀h∈X.L,0≤h.amount∧h.amount≤1125899906842624
noncomputable def ZgX (X:Za) (s:Int) (n:Nat) (C:Prop) (E:Nat→St):Zf:=G0.withL 100 0 (goM 0 (ZdS X s n 0 0 0) C (YR 0 n 9 (fun i=>i<n) (fun i=>i=n) (fun _=>False) (fun _=>False) E E E))
theorem ZdU (X:Za) (s:Int) (n:Nat):(ZgX X s n (ZdT X n) (fun i=>ZbS (offD X.side s (X.L.take i)).1 (offD X.side s (X.L.take i)).2)).Ok:=by
 refine Zf.withGoM (N:=20) (S:=fun i=>ZdS X s n i (offD X.side s (X.L.take i)).1 (offD X.side s (X.L.take i)).2) ZB (by kernel_rfl) fun hC=>⟨rfl,fun i hi _=> ?_⟩
 obtain ⟨h1,h2,h3,h4⟩:=hC
 have hlt:i<n→i<X.L.length:=fun h=>by omega
 obtain ⟨b1,b2⟩:=Z3W (side:=X.side) (s:=s) h4 i (by omega)
 refine Zid X s n i (X.L.getD i Zr) _ _ _ _ _ _ h2 h1 hi h3 (fun _=>rfl) (fun h=>⟨b1,h4 _ (Yd (hlt h))⟩) (fun h=>by omega) (fun h=> ?_) (fun h=>⟨h,h⟩) (fun h=>h)
 show offD X.side s (X.L.take (i+1))=_
 unfold offD
 rw [Z0H (Z1c X.side s) Zr (hlt h)]
theorem Zie (X:Za) (s:Int) (n:Nat) (a:Int) (c:Nat) (C:Prop) (AF:Nat→Int) (CF:Nat→Nat) (hC:C) (hn:X.L.length=n) (ha:a=AF n) (hc:c=CF n):
  evF (ZgX X s n C fun i=>ZbS (AF i) (CF i)) 20 100 [.agg (X.c (.vrows 70 n (Z5 X.L) n)),.int .i64 s] ⟨0,[]⟩ (YM (fun v=>v=.tuple [.int .i64 a,.int .i64 c])):=by
 refine @Eq.mpr _ (let q1:=X.t;
 let q2:=q1.fund;
 let q3:=q1.index;
 let q4:=q1.cap;
 let q5:=q1.dust;
 let q6:=q1.fee;
 let q7:=q1.delay;
 let q8:=q1.k0;
 let q9:=q1.k1;
 let q10:=[X.a0,X.a1];
 let q11:=[X.i0,X.i1];
 let q12:=decide (n=n);
 let q13:=Z5 X.L;
 Z0 (decide (s=s)) (q2=q2∧Z0 (decide (q3=q3)) (Z0 (decide (q4=q4)) (Z0 (decide (q5=q5)) (Z0 (decide (q6=q6)) (Z0 (decide (q7=q7)) (q8=q8∧q9=q9∧Z0 (decide (X.side=X.side)) (Z0 (decide (X.res=X.res)) (q10=q10∧q11=q11∧Z0 q12 (q13=q13∧Z0 q12 (C∧∀(i:Nat),i≤n→(∀(j:Nat),j<i→(fun (i:Nat)=>i<n) j)→(i=n→AV.tuple [AV.int i64 (AF i),AV.int i64 ↑(CF i)]=AV.tuple [AV.int i64 a,AV.int i64 ↑c])∧(False→False)∧(False→False)) False) False) False) False) False) False) False) False) False) False) (by kernel_rfl) ?_
 conv=>zeta
 try simp only [Zi]
 try simp only [Zj]
 try simp only [Zk]
 try simp only [Zl]
 try simp only [Zm]
 try simp only [Zh]
 try simp only [Int.toNat_natCast,Nat.zero_add,true_and,and_true,Nat.le_refl]
 refine ⟨hC,fun i _ _=>⟨fun he=> ?_,fun h=>h,fun h=>h⟩⟩
 rw [he,ha,hc]
def ZgY (X:Za):AV:=.agg (X.c (.vrows 70 X.L.length (Z5 X.L) X.L.length))
theorem ZbT {cs:List AV} {X:Za} (h:LV cs X) {E:Env} {r:Value} (hc:Zc E (.agg cs) r):Zc E (ZgY X) r:=by
 cases hc with
 | agg cs vs hc=>exact .agg _ _ (Z8l h hc)
def ZgZ:ZU:=fun args h K=>ZV none h true 20 args fun a=>match a with
 | [.agg cs,.int .i64 s]=>∃X,LV cs X∧ZdT X X.L.length∧K (.tuple [.int .i64 (offD X.side s X.L).1,.int .i64 (offD X.side s X.L).2])
 | _=>False
theorem ZbU (args:List AV) (h:Z6) (K:AV→Prop) (hl:ZgZ args h K):Zn PP 100 args h fun o h'=>∃v,o=.ret v∧h'=h∧K v:=by
 refine ZI.psumm (d:=20) (Zu _ _ _ _ _ hl fun a ha=> ?_)
 split at ha
 ·rename_i cs s
  obtain ⟨X,hX,h1,hK⟩:=ha
  have hv:=Zie X s X.L.length (offD X.side s X.L).1 (offD X.side s X.L).2 (ZdT X X.L.length) (fun i=>(offD X.side s (X.L.take i)).1) (fun i=>(offD X.side s (X.L.take i)).2) h1 rfl (by rw [List.take_length]) (by rw [List.take_length])
  exact ⟨_,(ZI.evV (ZdU X s _) hv).conv fun E r hr=>hr.head (fun _ hc=>ZbT hX hc) fun _ hc=>hc,fun _=>rfl,hK⟩
 ·exact ha.elim
theorem Z0I {side s:Int}:∀(L:List Z7) (p:Int×Nat),(∀h∈L,0≤h.amount)→p.1+ZD side s L≤1125899906842624→L.foldl (Z1c side s) p=(p.1+ZD side s L,p.2+Yh side s L)
 | [],p,_,_=>by simp [ZD,Yh,ZK,YU]
 | x::r,p,hA,hp=>by
  have hr:=XT (side:=side) (s:=s) (G:=r) fun z hz=>hA z (by simp [hz])
  have hx:=hA x (by simp)
  rw [ZA] at hp
  rw [List.foldl_cons,ZA,ZM]
  unfold Z02 at hp⊢
  unfold Z03
  by_cases hf:ZN side x.own=s
  ·rw [if_pos hf] at hp⊢
   rw [if_pos hf]
   have e:Z1c side s p x=(p.1+x.amount,p.2+1):=by unfold Z1c;rw [if_pos ⟨hf,by omega⟩]
   rw [e,Z0I r _ (fun z hz=>hA z (by simp [hz])) (by dsimp only;omega)]
   simp only [Prod.mk.injEq];omega
  ·rw [if_neg hf] at hp⊢
   rw [if_neg hf]
   have e:Z1c side s p x=p:=by unfold Z1c;rw [if_neg (fun h=>hf h.1)]
   rw [e,Z0I r _ (fun z hz=>hA z (by simp [hz])) (by omega)]
   simp only [Prod.mk.injEq];omega
theorem Za.Inv.offs {H:List Int→List Int} {X:Za} (h:X.Inv H):ZD X.side 0 X.L≤1125899906842624∧ZD X.side 1 X.L≤1125899906842624:=by
 have o0:=h.ov0
 have tb:=ZZ h.tb
 have hr:=h.res
 have ha0:=h.a0
 have ha1:=h.a1
 rw [YV,if_pos rfl,show X.am 0=X.a0 from rfl] at o0
 refine ⟨by omega, ?_⟩
 rcases h.ov1 with k|k
 ·rw [Qt k];omega
 ·rw [YV,if_neg (by decide),show X.am 1=X.a1 from rfl] at k
  omega
theorem Za.Inv.offD {H:List Int→List Int} {X:Za} (h:X.Inv H) {s:Int} (hs:s=0∨s=1):offD X.side s X.L=(ZD X.side s X.L,(ZK X.side s X.L).length):=by
 have ho:=h.offs
 unfold Go.Tk.offD
 rw [Z0I X.L (0,0) (fun z hz=>(h.am.am z hz).1) (by rcases hs with rfl|rfl<;>dsimp only<;>omega)]
 simp only [Int.zero_add,Nat.zero_add];rfl
theorem Za.Inv.od {H:List Int→List Int} {X:Za} (h:X.Inv H):ZdT X X.L.length:=⟨rfl,h.am.n,by have:=h.side;exact ⟨by omega,by omega⟩,h.am.am⟩
def ZeO:ZU:=fun args h K=>ZV none h true 20 args fun a=>match a with
 | [.agg cs,.int .i64 s]=>∃X,LV cs X∧X.Inv Zt∧(s=0∨s=1)∧K (.tuple [.int .i64 (ZD X.side s X.L),.int .i64 (ZK X.side s X.L).length])
 | _=>False
theorem ZbV (args:List AV) (h:Z6) (K:AV→Prop) (hl:ZeO args h K):Zn PP 100 args h fun o h'=>∃v,o=.ret v∧h'=h∧K v:=by
 refine ZbU args h K (Zu _ _ _ _ _ hl fun a ha=> ?_)
 split at ha
 ·obtain ⟨X,hX,hI,hs,hK⟩:=ha
  refine ⟨X,hX,hI.od, ?_⟩
  rw [hI.offD hs];exact hK
 ·exact ha.elim
noncomputable def ZeP:Zf:=G0.withP 100 ZeO
theorem ZbW:ZeP.Ok:=Zf.withP_ok ZB ZbV
theorem Zh0 (X:Za) (s r:Int) (hs:s=0∨s=1) (hI:X.Inv Zt) (hr:r=Y4 X s):
  evF ZeP 20 101 [ZgY X,.int .i64 s] ⟨0,[]⟩ (YM (fun v=>v=.int .i64 r)):=by
 refine @Eq.mpr _ (let q1:=X.t;
 let q2:=q1.fee;
 let q3:=[X.a0,X.a1];
 let q4:=List.length X.L;
 let q5:=0+Int.toNat s;
 ∃(X_1:Za),
 let q11:=wrap i64 (wrap i64 (List.getD q3 q5 0-ZD X_1.side s X_1.L)-X.res);
 LV [AV.arr u8 32 q1.fund,AV.int i64 q1.index,AV.int i64 q1.cap,AV.int i64 q1.dust,AV.int i64 q2,AV.int i64 q1.delay,AV.arr u8 32 q1.k0,AV.arr u8 32 q1.k1,AV.int i64 X.side,AV.int i64 X.res,AV.arr i64 2 q3,AV.arr i64 2 [X.i0,X.i1],AV.vrows 70 q4 (Z5 X.L) q4] X_1∧Za.Inv Zt X_1∧(s=0∨s=1)∧Z0 (decide (0≤s∧s<2)) (Z0 (decide (q5<2)) (Z0 (s==0) (AV.int i64 (wrap i64 (q11-q2))=AV.int i64 r) (AV.int i64 q11=AV.int i64 r)) False) False) (by kernel_rfl) ?_
 conv=>zeta
 try simp only [Zi]
 try simp only [Zj]
 try simp only [Zk]
 try simp only [Zl]
 try simp only [Zm]
 try simp only [Zh]
 try simp only [Int.toNat_natCast,Nat.zero_add,true_and,and_true,Nat.le_refl]
 have tb:=ZZ hI.tb
 have hres:=hI.res
 have ha0:=hI.a0
 have ha1:=hI.a1
 have ho:=hI.offs
 have n0:=XT (side:=X.side) (s:=0) fun z hz=>(hI.am.am z hz).1
 have n1:=XT (side:=X.side) (s:=1) fun z hz=>(hI.am.am z hz).1
 refine ⟨X,.a rfl,hI,hs,by omega,by omega,fun h=> ?_,fun h=> ?_⟩
 ·have h0:s=0:=by simpa using h
  subst h0
  rw [hr,YV,if_pos rfl]
  show AV.int .i64 (i64.wrap (i64.wrap (i64.wrap (X.a0-_)-_)-_))=AV.int .i64 (X.a0-_-_-_)
  rw [w64 (x:=X.a0-ZD X.side 0 X.L) (by omega),w64 (x:=X.a0-ZD X.side 0 X.L-X.res) (by omega),w64 (by omega)]
 ·have h0:s=1:=by
   have:¬s=0:=by simpa using h
   omega
  subst h0
  rw [hr,YV,if_neg (by decide)]
  show AV.int .i64 (i64.wrap (i64.wrap (X.a1-_)-_))=AV.int .i64 (X.a1-_-_-0)
  rw [w64 (x:=X.a1-ZD X.side 1 X.L) (by omega),w64 (by omega),Int.sub_zero]
def Zh1:ZU:=fun args h K=>ZV none h true 20 args fun a=>match a with
 | [.agg cs,.int .i64 s]=>∃X,LV cs X∧X.Inv Zt∧(s=0∨s=1)∧K (.int .i64 (Y4 X s))
 | _=>False
theorem ZdV (args:List AV) (h:Z6) (K:AV→Prop) (hl:Zh1 args h K):Zn PP 101 args h fun o h'=>∃v,o=.ret v∧h'=h∧K v:=by
 refine ZI.psumm (d:=20) (Zu _ _ _ _ _ hl fun a ha=> ?_)
 split at ha
 ·obtain ⟨X,hX,hI,hs,hK⟩:=ha
  exact ⟨_,(ZI.evV ZbW (Zh0 X _ _ hs hI rfl)).conv fun E r hr=>hr.head (fun _ hc=>ZbT hX hc) fun _ hc=>hc,fun _=>rfl,hK⟩
 ·exact ha.elim
noncomputable def ZeQ:Zf:=(G0.withP 101 Zh1).withP 30 Zdk
theorem ZbX:ZeQ.Ok:=Zf.withP_ok (Zf.withP_ok ZB ZdV) Z4Q
def leftV (X:Za) (s:Int):Int:=if s=0∨s=1 then max 0 (Y4 X s) else 0
theorem ZbY {X:Za} {s:Int} (hs:s=0∨s=1):(if Y4 X s>0 then Y4 X s else 0)=leftV X s:=by
 unfold leftV
 rw [if_pos hs]
 split<;>omega
theorem Z3X {X:Za} {s:Int} (hs:¬(s=0∨s=1)):leftV X s=0:=by unfold leftV;rw [if_neg hs]
theorem Zh2 (X:Za) (s r:Int) (hI:X.Inv Zt) (hr:r=leftV X s):
  evF ZeQ 20 11 [VB X,.int .i64 s] ⟨0,[]⟩ (YM (fun v=>v=.int .i64 r)):=by
 refine @Eq.mpr _ (let q1:=AV.int i64 0=AV.int i64 r;
 let q2:=List.length X.L;
 Z0 (X.t.cap==0) q1 (Z0 (decide (0≤s)) (Z0 (!decide (s≤1)) q1 (∃(X_1:Za),LV (Za.c X (AV.vrows 70 q2 (Z5 X.L) q2)) X_1∧(0≤X_1.side∧X_1.side≤1)∧(s=0∨s=1)∧Z0C X_1∧AV.int i64 (if Y4 X_1 s>0 then Y4 X_1 s else 0)=AV.int i64 r)) q1)) (by kernel_rfl) ?_
 conv=>zeta
 try simp only [Zi]
 try simp only [Zj]
 try simp only [Zk]
 try simp only [Zl]
 try simp only [Zm]
 try simp only [Zh]
 try simp only [Int.toNat_natCast,Nat.zero_add,true_and,and_true,Nat.le_refl]
 subst hr
 have hsd:=hI.side
 refine ⟨fun h=>absurd h (by simpa using Yk hI.tb),fun _=>⟨fun h0=>⟨fun h1=> ?_,fun h1=> ?_⟩,fun h0=> ?_⟩⟩
 ·have:¬s≤1:=by simpa using h1
  rw [Z3X (by omega)]
 ·have:s≤1:=by simpa using h1
  have hs:s=0∨s=1:=by omega
  exact ⟨X,.a rfl,by omega,hs,hI.am,by rw [ZbY hs]⟩
 ·rw [Z3X (by omega)]
theorem Z9I {X:Za} (hI:X.Inv Zt) (s:Int):ZI PP 11 [VB X,.int .i64 s] (.int .i64 (leftV X s)) 0 []:=ZI.evV ZbX (Zh2 X s _ hI rfl)
def ZbZ:ZU:=fun args h K=>ZV none h true 20 args fun a=>match a with
 | [.pview cs 0,.int .i64 s]=>∃X,LV cs X∧X.Inv Zt∧K (.int .i64 (leftV X s))
 | _=>False
theorem Z9J (args:List AV) (h:Z6) (K:AV→Prop) (hl:ZbZ args h K):Zn PP 11 args h fun o h'=>∃v,o=.ret v∧h'=h∧K v:=by
 refine ZI.psumm (d:=20) (Zu _ _ _ _ _ hl fun a ha=> ?_)
 split at ha
 ·obtain ⟨X,hX,hI,hK⟩:=ha
  exact ⟨_,(Z9I hI _).conv fun E r hr=>hr.head (fun _ hc=>WE hX hc) fun _ hc=>hc,fun _=>rfl,hK⟩
 ·exact ha.elim
end Go.Tk
end
section
namespace Go.Tk
open IntKind (i64 u8 u32 u64 wrap)
def Zif:Za:=⟨⟨Z9,0,0,0,0,0,Z9,Z9⟩,0,0,0,0,0,0,[]⟩
def slH (b n:Nat):AV:=.nslice ⟨b,0,70,0,0⟩ 70 n n
end Go.Tk
end
section
namespace Go.Tk
open IntKind (i64 u8 u32 u64 wrap)
theorem Zc0 {xs:List Int} (h:Bytes xs):∀x∈xs,U8 x:=fun x hx=>by
 obtain ⟨i,hi,rfl⟩:=List.getElem_of_mem hx
 have:=h.h i
 rw [List.getD_eq_getElem?_getD,List.getElem?_eq_getElem hi] at this
 have h1:0≤xs[i]∧xs[i]≤255:=this
 unfold U8;omega
end Go.Tk
end
section
namespace Go.Tk
open IntKind (i64 u8 u32 u64 wrap)
end Go.Tk
end
section
namespace Go.Tk
open IntKind (i64 u8 u32 u64 wrap)
end Go.Tk
end
section
namespace Go.Tk
open IntKind (i64 u8 u32 u64 wrap)
end Go.Tk
end
section
namespace Go.Tk
open IntKind (i64 u8 u32 u64 wrap)
end Go.Tk
end
section
namespace Go.Tk
open IntKind (i64 u8 u32 u64 wrap)
end Go.Tk
end
section
namespace Go.Tk
open IntKind (i64 u8 u32 u64 wrap)
end Go.Tk
end
section
namespace Go.Tk
open IntKind (i64 u8 u32 u64 wrap)
structure Yp where
 what:Int
 own:Bool
 off:Int
 amount:Int
 expiry:Int
 secret:List Int
 at':Int
 move:Int
 ours:Bool
 number:Int
def Yp.c (a:Yp):List AV:=[.int .i64 a.what,.bool a.own,.int .i64 a.off,.int .i64 a.amount,.int .i64 a.expiry,.arr .u8 32 a.secret,.int .i64 a.at',.int .i64 a.move,.bool a.ours,.int .i64 a.number]
structure Yp.Ok (a:Yp):Prop where
 secret:a.secret.length=32
 sb:Bytes a.secret
end Go.Tk
end
section
namespace Go.Tk
open IntKind (i64 u8 u32 u64 wrap)
def nF:YQ:=fun _ _ _=>False
theorem Z8y {f:FuncId} (args:List AV) (h:Z6) (K:KO) (hl:nF args h K):Zn PP f args h K:=hl.elim
theorem Z0J {xs:List Int} (h:∀x∈xs,0≤x∧x≤255):Bytes xs:=⟨fun i=>by
 rw [List.getD_eq_getElem?_getD]
 rcases Nat.lt_or_ge i xs.length with q|q
 ·rw [List.getElem?_eq_getElem q];exact h _ (List.getElem_mem q)
 ·rw [List.getElem?_eq_none q];exact ⟨by decide,by decide⟩⟩
theorem Z9K (n:Int):∀x∈WQ n,0≤x∧x≤255:=fun x hx=>by
 unfold WQ at hx
 simp only [List.mem_cons,List.not_mem_nil,or_false] at hx
 rcases hx with rfl|rfl|rfl|rfl<;>exact ZhD _
theorem Z2U (bs:List Int):Bytes (Zt bs):=Z0J fun x hx=>by
 unfold Zt Zz.fin Z5F at hx
 simp only [List.mem_append] at hx
 rcases hx with ((((((hx|hx)|hx)|hx)|hx)|hx)|hx)|hx<;>exact Z9K _ x hx
theorem ZdW {a:Yp} (ha:a.Ok):Z0y a.secret=Zt a.secret:=Zdh (Zc0 ha.sb) (by have:=ha.secret;omega)
end Go.Tk
end
section
namespace Go.Tk
open IntKind (i64 u8 u32 u64 wrap)
def flp (h:Z7):Z7:={ h with own:= !h.own}
def Uh (m:Int):Int:=if m=1 then 3 else if m=2 then 4 else if m=3 then 1 else 2
structure Mir (X Y:Za):Prop where
 t:Y.t=X.t
 side:Y.side=1-X.side
 res:Y.res=X.res
 a0:Y.a0=X.a0
 a1:Y.a1=X.a1
 i0:Y.i0=X.i1
 i1:Y.i1=X.i0
 L:Y.L.Perm (X.L.map flp)
theorem Z08 (side:Int) (o:Bool):ZN (1-side) (!o)=ZN side o:=by
 unfold ZN
 cases o
 ·rfl
 ·show 1-(1-side)=side
  omega
theorem Qv (side s:Int):∀L:List Z7,ZD (1-side) s (L.map flp)=ZD side s L
 | []=>rfl
 | x::r=>by
  rw [List.map_cons,ZA,ZA,Qv side s r]
  unfold Z02 flp
  simp only [Z08]
theorem Z2V (side s:Int):∀L:List Z7,Yh (1-side) s (L.map flp)=Yh side s L
 | []=>rfl
 | x::r=>by
  rw [List.map_cons,ZM,ZM,Z2V side s r]
  unfold Z03 flp
  simp only [Z08]
theorem Z0Z (side s:Int) {L M:List Z7} (h:L.Perm M):ZD side s L=ZD side s M:=by
 induction h with
 | nil=>rfl
 | cons x _ ih=>rw [ZA,ZA,ih]
 | swap x y l=>rw [ZA,ZA,ZA,ZA];omega
 | trans _ _ h1 h2=>rw [h1,h2]
theorem Z67 (side s:Int) {L M:List Z7} (h:L.Perm M):Yh side s L=Yh side s M:=by
 induction h with
 | nil=>rfl
 | cons x _ ih=>rw [ZM,ZM,ih]
 | swap x y l=>rw [ZM,ZM,ZM,ZM];omega
 | trans _ _ h1 h2=>rw [h1,h2]
theorem Mir.sum {X Y:Za} (h:Mir X Y) (s:Int):ZD Y.side s Y.L=ZD X.side s X.L:=by
 rw [h.side,Z0Z _ _ h.L,Qv]
theorem Mir.len {X Y:Za} (h:Mir X Y) (s:Int):Yh Y.side s Y.L=Yh X.side s X.L:=by
 rw [h.side,Z67 _ _ h.L,Z2V]
theorem Mir.am {X Y:Za} (h:Mir X Y) (s:Int):Y.am s=X.am s:=by
 unfold Za.am;rw [h.a0,h.a1]
theorem Mir.over {X Y:Za} (h:Mir X Y) (s:Int):Y4 Y s=Y4 X s:=by
 rw [YV,YV,h.am,h.sum,h.res,h.t]
theorem Mir.frm {X Y:Za} (h:Mir X Y) (o:Bool):ZN Y.side (!o)=ZN X.side o:=by
 rw [h.side,Z08]
theorem Mir.nx {X Y:Za} (h:Mir X Y) (o:Bool):Y.nx (!o)=X.nx o:=by
 cases o
 ·exact h.i0
 ·exact h.i1
theorem Mir.addE {X Y:Za} (h:Mir X Y) (own:Bool) (id am:Int) (hash:List Int) (ex:Int):addE Y (!own) id am hash ex=addE X own id am hash ex:=by
 have h1:Yu (Xq Y (!own) id am hash ex)=Yu (Xq X own id am hash ex):=rfl
 have h2:(ZK Y.side (ZN Y.side (!own)) Y.L).length=(ZK X.side (ZN X.side own) X.L).length:=by
  rw [h.frm];exact h.len _
 unfold Go.Tk.addE
 rw [h1,h.nx,h2,h.over,h.frm]
theorem Mir.addX {X Y:Za} (h:Mir X Y) (own:Bool) (id am:Int) (hash:List Int) (ex:Int):Mir (addX X own id am hash ex) (addX Y (!own) id am hash ex):=by
 unfold Go.Tk.addX
 rw [h.addE]
 split
 case isFalse=>exact h
 have hp:(Xc (Xq Y (!own) id am hash ex) Y.L).Perm ((Xc (Xq X own id am hash ex) X.L).map flp):=by
  refine (Wn _ _).trans (.trans ?_ ((Wn _ _).map flp).symm)
  rw [List.map_append]
  exact h.L.append_right _
 have e0:=h.i0
 have e1:=h.i1
 cases own
 ·refine ⟨h.t,h.side,h.res,h.a0,h.a1, ?_,h.i1,hp⟩
  show Y.i0+1=X.i1+1
  omega
 ·refine ⟨h.t,h.side,h.res,h.a0,h.a1,h.i0, ?_,hp⟩
  show Y.i1+1=X.i0+1
  omega
theorem Z1w {own:Bool} {id:Int}:∀{L:List Z7},ZJ own id L<L.length→(L.getD (ZJ own id L) Zr).own=own∧(L.getD (ZJ own id L) Zr).id=id
 | [],h=>absurd h (by simp)
 | x::r,h=>by
  unfold ZJ at h⊢
  split
  ·rename_i hc;exact hc
  ·rename_i hc
   rw [if_neg hc] at h
   exact Z1w (L:=r) (by simpa using h)
theorem Z4U {own:Bool} {id:Int}:∀{L:List Z7},L.length≤ZJ own id L→∀x∈L,¬(x.own=own∧x.id=id)
 | [],_,x,hx=>by cases hx
 | y::r,h,x,hx=>by
  unfold ZJ at h
  split at h
  ·simp at h
  ·rename_i hc
   rcases List.mem_cons.1 hx with rfl|hx
   ·exact hc
   ·exact Z4U (L:=r) (by simpa using h) x hx
theorem Z9L {L:List Z7} (h:L.Pairwise We) {a b:Z7} (ha:a∈L) (hb:b∈L) (ho:a.own=b.own) (hi:a.id=b.id):a=b:=by
 have hk:W2 a=W2 b:=by unfold W2;rw [ho]
 rcases Qs h a ha b hb with e|e|e
 ·exact e
 ·exfalso
  unfold We at e
  omega
 ·exfalso
  unfold We at e
  omega
theorem Mir.find {H:List Int→List Int} {X Y:Za} (h:Mir X Y) (hX:X.Inv H) (hY:Y.Inv H) (own:Bool) (id:Int):
  (X.L.length≤ZJ own id X.L∧Y.L.length≤ZJ (!own) id Y.L)∨(ZJ own id X.L<X.L.length∧ZJ (!own) id Y.L<Y.L.length∧Y.L.getD (ZJ (!own) id Y.L) Zr=flp (X.L.getD (ZJ own id X.L) Zr)):=by
 have hm (z:Z7):z∈Y.L↔∃w∈X.L,flp w=z:=by rw [h.L.mem_iff,List.mem_map]
 rcases Nat.lt_or_ge (ZJ own id X.L) X.L.length with hx|hx
 ·right
  have q:=Z1w hx
  have qm:=Yd hx
  have ym:flp (X.L.getD (ZJ own id X.L) Zr)∈Y.L:=(hm _).2 ⟨_,qm,rfl⟩
  have hy:ZJ (!own) id Y.L<Y.L.length:=by
   rcases Nat.lt_or_ge (ZJ (!own) id Y.L) Y.L.length with hy|hy
   ·exact hy
   ·refine absurd ⟨?_, ?_⟩ (Z4U hy _ ym)
    ·show (!(X.L.getD (ZJ own id X.L) Zr).own)= !own
     rw [q.1]
    ·exact q.2
  have q':=Z1w hy
  refine ⟨hx,hy,Z9L hY.less (Yd hy) ym ?_ ?_⟩
  ·show _=(!(X.L.getD (ZJ own id X.L) Zr).own)
   rw [q'.1,q.1]
  ·show _=(X.L.getD (ZJ own id X.L) Zr).id
   rw [q'.2,q.2]
 ·left
  refine ⟨hx, ?_⟩
  rcases Nat.lt_or_ge (ZJ (!own) id Y.L) Y.L.length with hy|hy
  ·exfalso
   have q':=Z1w hy
   obtain ⟨w,hw,e⟩:=(hm _).1 (Yd hy)
   refine Z4U hx w hw ⟨?_, ?_⟩
   ·have:=congrArg Z7.own e
    rw [q'.1] at this
    have:(!w.own)= !own:=this
    cases hwo:w.own<;>cases own<;>simp_all
   ·have:=congrArg Z7.id e
    rw [q'.2] at this
    exact this
  ·exact hy
theorem Mir.endE {H:List Int→List Int} {X Y:Za} (h:Mir X Y) (hX:X.Inv H) (hY:Y.Inv H) (own:Bool) (id k:Int) (sec:List Int):endE H Y (!own) id k sec=endE H X own id k sec:=by
 unfold Go.Tk.endE
 rcases h.find hX hY own id with ⟨h1,h2⟩|⟨h1,h2,h3⟩
 ·rw [if_pos h1,if_pos h2]
 ·rw [if_neg (show ¬Y.L.length≤_ by omega),if_neg (show ¬X.L.length≤_ by omega),h3]
  rfl
theorem set_perm {q:Z7}:∀{L:List Z7} {I:Nat},I<L.length→(L.set I q).Perm (q::L.eraseIdx I)
 | [],_,h=>absurd h (by simp)
 | _::_,0,_=>.refl _
 | x::r,I+1,h=>((set_perm (L:=r) (I:=I) (by simpa using h)).cons x).trans (.swap q x _)
theorem Z2W:∀{L:List Z7} {I:Nat},I<L.length→(L.getD I Zr::L.eraseIdx I).Perm L
 | [],_,h=>absurd h (by simp)
 | _::_,0,_=>.refl _
 | x::r,I+1,h=>(List.Perm.swap x (r.getD I Zr) _).trans ((Z2W (L:=r) (I:=I) (by simpa using h)).cons x)
theorem Mir.endX {H:List Int→List Int} {X Y:Za} (h:Mir X Y) (hX:X.Inv H) (hY:Y.Inv H) (own:Bool) (id k:Int) (sec:List Int):Mir (endX H X own id k sec) (endX H Y (!own) id k sec):=by
 unfold Go.Tk.endX
 rw [h.endE hX hY]
 split
 case isFalse=>exact h
 rename_i he
 have q:=Z3U he
 rcases h.find hX hY own id with ⟨h1,h2⟩|⟨h1,h2,h3⟩
 ·omega
 refine ⟨h.t,h.side,h.res,h.a0,h.a1,h.i0,h.i1, ?_⟩
 have hp:(Y.L.eraseIdx (ZJ (!own) id Y.L)).Perm ((X.L.eraseIdx (ZJ own id X.L)).map flp):=by
  refine List.Perm.cons_inv (a:=Y.L.getD (ZJ (!own) id Y.L) Zr) ?_
  refine (Z2W h2).trans (h.L.trans ?_)
  rw [h3,←List.map_cons]
  exact ((Z2W h1).map flp).symm
 refine (set_perm h2).trans (.trans ?_ ((set_perm h1).map flp).symm)
 rw [List.map_cons,h3]
 exact hp.cons _
theorem Z68 {o:Bool} {s m:Int} (hm:1≤m∧m≤4):(Wd (!o) s=Uh m)↔(Wd o s=m):=by
 unfold Wd Uh
 by_cases c:s<1∨9<s∨s=5
 ·rw [if_pos c,if_pos c]
  constructor
  ·intro h;exfalso;split at h<;>first|omega|(split at h<;>first|omega|(split at h<;>omega))
  ·intro h;omega
 ·rw [if_neg c,if_neg c]
  have hs:s=1∨s=2∨s=3∨s=4∨s=6∨s=7∨s=8∨s=9:=by omega
  have hm':m=1∨m=2∨m=3∨m=4:=by omega
  rcases hm' with rfl|rfl|rfl|rfl<;>rcases hs with rfl|rfl|rfl|rfl|rfl|rfl|rfl|rfl<;>cases o<;>decide
theorem Zc1 {o:Bool} {s m:Int} (hm:1≤m∧m≤4):Y1 (!o) s (Uh m)=Y1 o s m:=by
 unfold Y1
 by_cases h:Wd o s=m
 ·rw [if_pos h,if_pos ((Z68 hm).2 h)]
 ·rw [if_neg h,if_neg fun q=>h ((Z68 hm).1 q)]
theorem ZdX {m:Int} (hm:1≤m∧m≤4) (h:Z7):stH (Uh m) (flp h)=flp (stH m h):=by
 unfold stH flp
 simp only [Zc1 hm]
theorem Zc2 {m:Int} (hm:1≤m∧m≤4) (p:Z7→Bool) (hp:∀z,p (flp z)=p z) {L M:List Z7} (h:M.Perm (L.map flp)):((M.map (stH (Uh m))).filter p).Perm (((L.map (stH m)).filter p).map flp):=by
 refine ((h.map _).filter p).trans ?_
 rw [List.map_map]
 have e:(stH (Uh m)∘flp)=flp∘stH m:=funext fun z=>ZdX hm z
 rw [e,←List.map_map,List.filter_map]
 have e2:(p∘flp)=p:=funext fun z=>hp z
 rw [e2]
theorem Z8z {m:Int} (hm:1≤m∧m≤4):1≤Uh m∧Uh m≤4:=by
 unfold Uh;repeat' split
 all_goals omega
theorem Z69 {G K:List Z7} (h:K.Perm (G.map flp)) (side s:Int):ZD (1-side) s (Xw K)=ZD side s (Xw G):=by
 have hp:(Xw K).Perm ((Xw G).map flp):=by
  unfold Xw
  refine (h.filter _).trans ?_
  rw [List.filter_map]
  exact .refl _
 rw [Z0Z _ _ hp,Qv]
theorem Mir.stpX {H:List Int→List Int} {X Y:Za} (h:Mir X Y) (hX:X.Inv H) {m:Int} (hm:1≤m∧m≤4):Mir (stpX X m) (stpX Y (Uh m)):=by
 unfold Go.Tk.stpX
 rw [if_pos hm,if_pos (Z8z hm)]
 have hl:(Yg (Uh m) Y.L).Perm ((Yg m X.L).map flp):=Zc2 hm _ (fun _=>rfl) h.L
 have hg:(Yb (Uh m) Y.L).Perm ((Yb m X.L).map flp):=Zc2 hm _ (fun _=>rfl) h.L
 have hs:=hX.side
 have ha:Ud (Uh m) Y.side (Y.a0,Y.a1) Y.L=Ud m X.side (X.a0,X.a1) X.L:=by
  unfold Ud
  rw [WF hs,WF (side:=Y.side) (by rw [h.side];omega),h.side,Z69 hg,Z69 hg,h.a0,h.a1]
 refine ⟨h.t,h.side,h.res, ?_, ?_,h.i0,h.i1,hl⟩
 ·exact congrArg Prod.fst ha
 ·exact congrArg Prod.snd ha
end Go.Tk
end
section
namespace Go.Tk
open IntKind (i64 u8 u32 u64 wrap)
def srD (side:Int) (o:Bool) (h:Z7):Int×Int:=match Yv h.own h.stage o with
 | true=>if ZN side h.own=0 then (-h.amount,0) else (0, -h.amount)
 | false=>if 6<h.stage then Xr side (0,0) h else (0,0)
theorem Z1x (side:Int) (o:Bool) (p:Int×Int) (h:Z7):srP side o p h=(p.1+(srD side o h).1,p.2+(srD side o h).2):=by
 unfold srP srD
 cases Yv h.own h.stage o with
 | true=>
  dsimp only
  by_cases c:ZN side h.own=0
  ·rw [if_pos c,if_pos c];simp only [Prod.mk.injEq];omega
  ·rw [if_neg c,if_neg c];simp only [Prod.mk.injEq];omega
 | false=>
  dsimp only
  by_cases c:6<h.stage
  ·rw [if_pos c,if_pos c]
   unfold Xr
   by_cases d:h.fin=1
   ·rw [if_pos d,if_pos d]
    by_cases e:ZN side h.own=0
    ·rw [if_pos e,if_pos e];simp only [Prod.mk.injEq];omega
    ·rw [if_neg e,if_neg e];simp only [Prod.mk.injEq];omega
   ·rw [if_neg d,if_neg d];simp
  ·rw [if_neg c,if_neg c];simp
theorem Z9M (side:Int) (o:Bool) {L M:List Z7} (h:L.Perm M):∀p,YP side o p L=YP side o p M:=by
 induction h with
 | nil=>intro p;rfl
 | cons x _ ih=>intro p;exact ih _
 | swap x y l=>
  intro p
  show YP side o (srP side o (srP side o p y) x) l=YP side o (srP side o (srP side o p x) y) l
  have:srP side o (srP side o p y) x=srP side o (srP side o p x) y:=by
   rw [Z1x,Z1x,Z1x,Z1x]
   simp only [Prod.mk.injEq]
   omega
  rw [this]
 | trans _ _ h1 h2=>intro p;rw [h1,h2]
theorem Z3Y (w:Bool) (s:Int) (o:Bool):Yv (!w) s (!o)=Yv w s o:=by
 unfold Yv;cases w<;>cases o<;>rfl
theorem ZdY (side:Int) (o:Bool) (p:Int×Int) (h:Z7):srP (1-side) (!o) p (flp h)=srP side o p h:=by
 unfold srP Xr flp
 simp only [Z3Y,Z08]
theorem Z6a (side:Int) (o:Bool):∀(L:List Z7) (p:Int×Int),YP (1-side) (!o) p (L.map flp)=YP side o p L
 | [],_=>rfl
 | x::r,p=>by
  show YP (1-side) (!o) (srP (1-side) (!o) p (flp x)) (r.map flp)=YP side o (srP side o p x) r
  rw [ZdY,Z6a]
theorem ZdZ (side:Int) (h:Z7):Vm (1-side) (flp h)=Vm side h:=by
 unfold Vm flp
 simp only [Z08]
theorem Z9N (side:Int) (o:Bool) (L:List Z7):ZH (1-side) (!o) (L.map flp)=ZH side o L:=by
 unfold ZH
 rw [List.filter_map,List.map_map]
 have e1:((fun h:Z7=>Yv h.own h.stage (!o))∘flp)=fun h=>Yv h.own h.stage o:=funext fun z=>Z3Y z.own z.stage o
 have e2:(Vm (1-side)∘flp)=Vm side:=funext fun z=>ZdZ side z
 rw [e1,e2]
theorem Z7D (side:Int) (o:Bool) {L M:List Z7} (h:L.Perm M):(ZH side o L).Perm (ZH side o M):=(h.filter _).map _
theorem Mir.pen {X Y:Za} (h:Mir X Y) (o:Bool):(ZH Y.side (!o) Y.L).Perm (ZH X.side o X.L):=by
 have:=Z7D Y.side (!o) h.L
 rw [h.side] at this⊢
 rwa [Z9N] at this
theorem Mir.srP0 {X Y:Za} (h:Mir X Y) (o:Bool):srP0 Y (!o)=srP0 X o:=by
 unfold Go.Tk.srP0
 rw [Z9M _ _ h.L,h.side,h.a0,h.a1,Z6a]
end Go.Tk
end
section
namespace Go.Tk
open IntKind (i64 u8 u32 u64 wrap)
theorem Zig (X:Za) (o:Bool) (r:Int) (hcap:X.t.cap≠0) (hr:r=X.nx o):
  evF G0 20 25 [VB X,.bool o] ⟨0,[]⟩ (YM fun v=>v=.int .i64 r):=by
 refine @Eq.mpr _ (let q1:=AV.int i64 r;
 Z0 (X.t.cap==0) (AV.int i64 0=q1) (Z0 o (AV.int i64 X.i0=q1) (AV.int i64 X.i1=q1))) (by kernel_rfl) ?_
 conv=>zeta
 try simp only [Zi]
 try simp only [Zj]
 try simp only [Zk]
 try simp only [Zl]
 try simp only [Zm]
 try simp only [Zh]
 try simp only [Int.toNat_natCast,Nat.zero_add,true_and,and_true,Nat.le_refl]
 subst hr
 refine ⟨fun h=>absurd h (by simpa using hcap),fun _=>⟨fun ho=> ?_,fun ho=> ?_⟩⟩
 all_goals rw [ho];rfl
def Zh3:ZU:=fun args h K=>ZV none h true 20 args fun a=>match a with
 | [.pview cs 0,.bool o]=>∃X,LV cs X∧X.t.cap≠0∧K (.int .i64 (X.nx o))
 | _=>False
theorem Ze0 (args:List AV) (h:Z6) (K:AV→Prop) (hl:Zh3 args h K):Zn PP 25 args h fun o h'=>∃v,o=.ret v∧h'=h∧K v:=by
 refine ZI.psumm (d:=20) (Zu _ _ _ _ _ hl fun a ha=> ?_)
 split at ha
 ·obtain ⟨X,hX,hc,hK⟩:=ha
  exact ⟨_,(ZI.evV ZB (Zig X _ _ hc rfl)).conv fun E r hr=>hr.head (fun _ hc=>WE hX hc) fun _ hc=>hc,fun _=>rfl,hK⟩
 ·exact ha.elim
noncomputable def Z6b (H1:List Int→List Int) (B:Nat) (c:Bool):Zf:=((((G0.withP 79 (ZeC H1 B)).withF 20 (ZfL Zt c)).withF 74 (ZfR c)).withF 21 (ZbN c)).withP 25 Zh3
theorem VD (c:Bool):(Z6b Z0y 1000 c).Ok:=Zf.withP_ok (Zf.withF_ok (Zf.withF_ok (Zf.withF_ok (Zf.withP_ok ZB (Zb5 fun xs h=>Z9w xs (by omega))) (Zdy c)) (ZdD c)) (ZbO c)) Ze0
noncomputable def Zc3:Zf:=(((G0.withF 20 nF).withF 74 nF).withF 21 nF).withF 27 nF
theorem Z6c:Zc3.Ok:=Zf.withF_ok (Zf.withF_ok (Zf.withF_ok (Zf.withF_ok ZB Z8y) Z8y) Z8y) Z8y
def Z2X (X Y:Za):Z6:=⟨4,[(0,.flat (X.c (slH 1 X.L.length))),(1,.rows 70 X.L.length (Z5 X.L)),(2,.flat (Y.c (slH 3 Y.L.length))),(3,.rows 70 Y.L.length (Z5 Y.L))]⟩
def Z9O (X Y:Za):List (Nat×Blk):=[(0,.flat (X.c (slH 1 X.L.length))),(1,.rows 70 X.L.length (Z5 X.L)),(2,.flat (Y.c (slH 3 Y.L.length))),(3,.rows 70 Y.L.length (Z5 Y.L))]
def Zc4 (X Y:Za):List (Nat×Blk):=[(0,.flat (X.c (slH 4 X.L.length))),(4,.rows 70 X.L.length (Z5 X.L)),(2,.flat (Y.c (slH 5 Y.L.length))),(5,.rows 70 Y.L.length (Z5 Y.L))]
theorem Zih (X Y X' Y':Za) (a:Yp) (H1:List Int→List Int) (B:Nat) (hs:List Int) (hM:Mir X Y) (hX:X.Inv Zt) (hY:Y.Inv Zt) (ha:a.Ok) (hB:32≤B) (hh:H1 a.secret=hs) (hl:hs.length=32) (hX':X'=addX X a.own (X.nx a.own) a.amount hs a.expiry) (hY':Y'=addX Y (!a.own) (X.nx a.own) a.amount hs a.expiry) (he:addE X a.own (X.nx a.own) a.amount hs a.expiry=0):
  evF (Z6b H1 B true) 20 9 [.ptr (some ⟨0,0,0,0,0⟩),.ptr (some ⟨2,0,0,0,0⟩),.agg (.int .i64 0::a.c.tail)] (Z2X X Y) (YS 4 (.ret (.bool true)) 6 (Zc4 X' Y')):=by
 refine @Eq.mpr _ (let q1:=List.length X.L;
 let q2:=X.t;
 let q3:=AV.arr u8 32 q2.fund;
 let q4:=AV.int i64 q2.index;
 let q5:=AV.int i64 q2.cap;
 let q6:=AV.int i64 q2.dust;
 let q7:=AV.int i64 q2.fee;
 let q8:=AV.int i64 q2.delay;
 let q9:=AV.arr u8 32 q2.k0;
 let q10:=AV.arr u8 32 q2.k1;
 let q11:=AV.int i64 X.side;
 let q12:=AV.int i64 X.res;
 let q13:=AV.arr i64 2 [X.a0,X.a1];
 let q14:=AV.arr i64 2 [X.i0,X.i1];
 let q15:=Z5 X.L;
 let q16:=a.secret;
 let q17:=List.length q16;
 let q18:=decide (q17=32);
 let q19:=decide (32=q17);
 let q20:=decide (q17≤B);
 let q21:=a.expiry;
 let q22:=decide (q21=q21);
 let q23:=q16=q16;
 let q24:=a.amount;
 let q25:=decide (q24=q24);
 let q26:=a.own;
 let q27:=decide (q26=q26);
 let q28:=ZO.mk 1 0 70 0 0;
 let q29:=H1 q16;
 let q30:=List.length Y.L;
 let q31:=Y.t;
 let q32:= !q26;
 let q33:=X'.t;
 let q34:=List.length X'.L;
 let q35:=[(5,11),(4,8)];
 let q36:=Y'.t;
 let q37:=List.length Y'.L;
 Z0 (decide (0+q1≤q1))
 ((∀(i:Nat),i<q1→true=true)∧
 ∃(X_1:Za),
 let q75:=Za.nx X_1 q26;
 LV [q3,q4,q5,q6,q7,q8,q9,q10,q11,q12,q13,q14,AV.vrows 70 q1 (ZX 0 q15) q1] X_1∧
 X_1.t.cap≠0∧
 Z0 q18
 (Z0 q19
 (Z0 q20
 (Z0 q22
 (q23∧
 Z0 q25
 (Z0 q27
 (Z0 q22
 (Z0 q25
 (Z0 q27
 ((∀(i:Nat),i<q1→true=true)∧
 ∃(X_2:Za),
 let q77:=List.length X_2.L+1;
 let q78:=addX X_2 q26 q75 q24 q29 q21;
 let q79:=q78.t;
 let q80:=q79.fund;
 let q81:=q79.index;
 let q82:=q79.cap;
 let q83:=q79.dust;
 let q84:=q79.fee;
 let q85:=q79.delay;
 let q86:=q79.k0;
 let q87:=q79.k1;
 let q88:=q78.side;
 let q89:=q78.res;
 let q90:=[q78.a0,q78.a1];
 let q91:=[q78.i0,q78.i1];
 let q92:=Z5 q78.L;
 let q93:=decide (q77=q34);
 LB [q3,q4,q5,q6,q7,q8,q9,q10,q11,q12,q13,q14,AV.nslice q28 70 q1 q1] q1 q15 X_2∧
 Za.Inv Zt X_2∧
 addE X_2 q26 q75 q24 q29 q21=0∧
 Z0 q22
 (q23∧
 Z0 q25
 (Z0 q27
 (Z0 q22
 (q23∧
 Z0 q25
 (Z0 q27
 (Z0 q18
 (Z0 q19
 (Z0 q20
 (Z0 q22
 (Z0 q25
 (Z0 q27
 ((∀(i:Nat),i<q30→true=true)∧
 ∃(X_3:Za),
 let q111:=List.length X_3.L+1;
 let q112:=addX X_3 q32 q75 q24 q29 q21;
 let q113:=q112.t;
 let q114:=q113.fund;
 let q115:=q113.index;
 let q116:=q113.cap;
 let q117:=q113.dust;
 let q118:=q113.fee;
 let q119:=q113.delay;
 let q120:=q113.k0;
 let q121:=q113.k1;
 let q122:=q112.side;
 let q123:=q112.res;
 let q124:=[q112.a0,q112.a1];
 let q125:=[q112.i0,q112.i1];
 let q126:=Z5 q112.L;
 let q127:=decide (q111=q37);
 LB [AV.arr u8 32 q31.fund,AV.int i64 q31.index,AV.int i64 q31.cap,AV.int i64 q31.dust,AV.int i64 q31.fee,AV.int i64 q31.delay,AV.arr u8 32 q31.k0,AV.arr u8 32 q31.k1,AV.int i64 Y.side,AV.int i64 Y.res,AV.arr i64 2 [Y.a0,Y.a1],AV.arr i64 2 [Y.i0,Y.i1],AV.nslice q28 70 q30 q30] q30 (Z5 Y.L) X_3∧
 Za.Inv Zt X_3∧
 addE X_3 q32 q75 q24 q29 q21=0∧
 Z0 (decide (0+q111≤q111))
 ((∀(i:Nat),i<q111→true=true)∧
 ∃(X_4:Za),
 LV [AV.arr u8 32 q114,AV.int i64 q115,AV.int i64 q116,AV.int i64 q117,AV.int i64 q118,AV.int i64 q119,AV.arr u8 32 q120,AV.arr u8 32 q121,AV.int i64 q122,AV.int i64 q123,AV.arr i64 2 q124,AV.arr i64 2 q125,AV.vrows 70 q111 (ZX 0 q126) q111] X_4∧
 X_4.t.cap≠0∧
 Z0 (decide (0+q77≤q77))
 ((∀(i:Nat),i<q77→true=true)∧
 ∃(X:Za),
 LV [AV.arr u8 32 q80,AV.int i64 q81,AV.int i64 q82,AV.int i64 q83,AV.int i64 q84,AV.int i64 q85,AV.arr u8 32 q86,AV.arr u8 32 q87,AV.int i64 q88,AV.int i64 q89,AV.arr i64 2 q90,AV.arr i64 2 q91,AV.vrows 70 q77 (ZX 0 q92) q77] X∧
 X.t.cap≠0∧
 Z0 (decide ((Za.nx X_4 q32==Za.nx X q26)=true))
 (q80=q33.fund∧Z0 (decide (q81=q33.index)) (Z0 (decide (q82=q33.cap)) (Z0 (decide (q83=q33.dust)) (Z0 (decide (q84=q33.fee)) (Z0 (decide (q85=q33.delay)) (q86=q33.k0∧q87=q33.k1∧Z0 (decide (q88=X'.side)) (Z0 (decide (q89=X'.res)) (q90=[X'.a0,X'.a1]∧q91=[X'.i0,X'.i1]∧Z0 q93 (Z0 (decide (q34≤q77)) (Z0 q93 (Zd 4 q35 q34 (Z5 X'.L) q92∧q114=q36.fund∧Z0 (decide (q115=q36.index)) (Z0 (decide (q116=q36.cap)) (Z0 (decide (q117=q36.dust)) (Z0 (decide (q118=q36.fee)) (Z0 (decide (q119=q36.delay)) (q120=q36.k0∧q121=q36.k1∧Z0 (decide (q122=Y'.side)) (Z0 (decide (q123=Y'.res)) (q124=[Y'.a0,Y'.a1]∧q125=[Y'.i0,Y'.i1]∧Z0 q127 (Z0 (decide (q37≤q111)) (Z0 q127 (Zd 4 q35 q37 (Z5 Y'.L) q126∧True) False) False) False) False) False) False) False) False) False) False) False) False) False) False) False) False) False) False) False) False) False)
 False)
 False)
 False)
 False)
 False)
 False)
 False)
 False)
 False)
 False)
 False)
 False)
 False)
 False)
 False)
 False)
 False)
 False)
 False)
 False)
 False)
 False)
 False)
 False) (by kernel_rfl) ?_
 conv=>zeta
 try simp only [Zi]
 try simp only [Zj]
 try simp only [Zk]
 try simp only [Zl]
 try simp only [Zm]
 try simp only [Zh]
 try simp only [Int.toNat_natCast,Nat.zero_add,true_and,and_true,Nat.le_refl]
 have hsb:a.secret.length≤B:=by rw [ha.secret];exact hB
 have hcX:=Yk hX.tb
 have heY:addE Y (!a.own) (X.nx a.own) a.amount hs a.expiry=0:=by rw [hM.addE];exact he
 have hlX:X'.L.length=X.L.length+1:=by rw [hX'];unfold addX;rw [if_pos he];exact Z60 _ _
 have hlY:Y'.L.length=Y.L.length+1:=by rw [hY'];unfold addX;rw [if_pos heY];exact Z60 _ _
 have hcX':X'.t.cap≠0:=by
  rw [hX'];unfold addX;rw [if_pos he]
  show (WC X a.own 1).t.cap≠0
  cases a.own<;>exact Yk hX.tb
 have hcY':Y'.t.cap≠0:=by
  rw [hY'];unfold addX;rw [if_pos heY]
  show (WC Y (!a.own) 1).t.cap≠0
  cases a.own<;>exact Yk hY.tb
 have hnx:(Y'.nx (!a.own)==X'.nx a.own)=true:=by rw [hX',hY'];exact beq_iff_eq.2 ((hM.addX _ _ _ _ _).nx _)
 have hee:True:=trivial
 rw [hlX,hlY,hh]
 subst hX' hY'
 repeat' first
  | assumption
  | exact ha.secret
  | exact ha.secret.symm
  | (intro _ _;trivial)
  | exact beq_self_eq_true _
  | exact hnx
  | exact hee
  | apply And.intro
  | rfl
  | omega
  | exact Zg fun _ _=>rfl
 refine ⟨X,.a rfl, ?_⟩
 repeat' first
  | assumption
  | exact ha.secret
  | exact ha.secret.symm
  | (intro _ _;trivial)
  | exact beq_self_eq_true _
  | exact hnx
  | exact hee
  | apply And.intro
  | rfl
  | omega
  | exact Zg fun _ _=>rfl
 refine ⟨X,⟨rfl,rfl,rfl⟩, ?_⟩
 repeat' first
  | assumption
  | exact ha.secret
  | exact ha.secret.symm
  | (intro _ _;trivial)
  | exact beq_self_eq_true _
  | exact hnx
  | exact hee
  | apply And.intro
  | rfl
  | omega
  | exact Zg fun _ _=>rfl
 refine ⟨Y,⟨rfl,rfl,rfl⟩, ?_⟩
 repeat' first
  | assumption
  | exact ha.secret
  | exact ha.secret.symm
  | (intro _ _;trivial)
  | exact beq_self_eq_true _
  | exact hnx
  | exact hee
  | apply And.intro
  | rfl
  | omega
  | exact Zg fun _ _=>rfl
 refine ⟨addX Y (!a.own) (X.nx a.own) a.amount hs a.expiry,.a (by rw [hlY];rfl), ?_⟩
 repeat' first
  | assumption
  | exact ha.secret
  | exact ha.secret.symm
  | (intro _ _;trivial)
  | exact beq_self_eq_true _
  | exact hnx
  | exact hee
  | apply And.intro
  | rfl
  | omega
  | exact Zg fun _ _=>rfl
 refine ⟨addX X a.own (X.nx a.own) a.amount hs a.expiry,.a (by rw [hlX];rfl), ?_⟩
 repeat' first
  | assumption
  | exact ha.secret
  | exact ha.secret.symm
  | (intro _ _;trivial)
  | exact beq_self_eq_true _
  | exact hnx
  | exact hee
  | apply And.intro
  | rfl
  | omega
  | exact Zg fun _ _=>rfl
theorem Zii (X Y:Za) (a:Yp) (H1:List Int→List Int) (B:Nat) (hs:List Int) (hM:Mir X Y) (hX:X.Inv Zt) (hY:Y.Inv Zt) (ha:a.Ok) (hB:32≤B) (hh:H1 a.secret=hs) (hl:hs.length=32) (he:addE X a.own (X.nx a.own) a.amount hs a.expiry≠0):
  evF (Z6b H1 B false) 20 9 [.ptr (some ⟨0,0,0,0,0⟩),.ptr (some ⟨2,0,0,0,0⟩),.agg (.int .i64 0::a.c.tail)] (Z2X X Y) (YS 4 (.ret (.bool true)) 4 (Z9O X Y)):=by
 refine @Eq.mpr _ (let q1:=List.length X.L;
 let q2:=X.t;
 let q3:=q2.fund;
 let q4:=AV.arr u8 32 q3;
 let q5:=q2.index;
 let q6:=AV.int i64 q5;
 let q7:=q2.cap;
 let q8:=AV.int i64 q7;
 let q9:=q2.dust;
 let q10:=AV.int i64 q9;
 let q11:=q2.fee;
 let q12:=AV.int i64 q11;
 let q13:=q2.delay;
 let q14:=AV.int i64 q13;
 let q15:=q2.k0;
 let q16:=AV.arr u8 32 q15;
 let q17:=q2.k1;
 let q18:=AV.arr u8 32 q17;
 let q19:=AV.int i64 X.side;
 let q20:=AV.int i64 X.res;
 let q21:=[X.a0,X.a1];
 let q22:=AV.arr i64 2 q21;
 let q23:=[X.i0,X.i1];
 let q24:=AV.arr i64 2 q23;
 let q25:=Z5 X.L;
 let q26:=a.secret;
 let q27:=List.length q26;
 let q28:=decide (q27=32);
 let q29:=decide (32=q27);
 let q30:=decide (q27≤B);
 let q31:=a.expiry;
 let q32:=decide (q31=q31);
 let q33:=q26=q26;
 let q34:=a.amount;
 let q35:=decide (q34=q34);
 let q36:=a.own;
 let q37:=decide (q36=q36);
 let q38:=ZO.mk 1 0 70 0 0;
 let q39:=H1 q26;
 let q40:=List.length Y.L;
 let q41:=Y.t;
 let q42:=q41.fund;
 let q43:=q41.index;
 let q44:=q41.cap;
 let q45:=q41.dust;
 let q46:=q41.fee;
 let q47:=q41.delay;
 let q48:=q41.k0;
 let q49:=q41.k1;
 let q50:=[Y.a0,Y.a1];
 let q51:=[Y.i0,Y.i1];
 let q52:=Z5 Y.L;
 let q53:= !q36;
 Z0 (decide (0+q1≤q1))
 ((∀(i:Nat),i<q1→true=true)∧
 ∃(X_1:Za),
 let q107:=Za.nx X_1 q36;
 LV [q4,q6,q8,q10,q12,q14,q16,q18,q19,q20,q22,q24,AV.vrows 70 q1 (ZX 0 q25) q1] X_1∧
 X_1.t.cap≠0∧
 Z0 q28
 (Z0 q29
 (Z0 q30
 (Z0 q32
 (q33∧
 Z0 q35
 (Z0 q37
 (Z0 q32
 (Z0 q35
 (Z0 q37
 ((∀(i:Nat),i<q1→true=true)∧
 ∃(X_2:Za),
 let q109:=addE X_2 q36 q107 q34 q39 q31;
 let q110:=List.length X_2.L;
 let q111:=X_2.t;
 let q112:=q111.fund;
 let q113:=q111.index;
 let q114:=q111.cap;
 let q115:=q111.dust;
 let q116:=q111.fee;
 let q117:=q111.delay;
 let q118:=q111.k0;
 let q119:=q111.k1;
 let q120:=[X_2.a0,X_2.a1];
 let q121:=[X_2.i0,X_2.i1];
 let q122:=Z5 X_2.L;
 let q123:=decide (q110=q1);
 LB [q4,q6,q8,q10,q12,q14,q16,q18,q19,q20,q22,q24,AV.nslice q38 70 q1 q1] q1 q25 X_2∧
 Za.Inv Zt X_2∧
 q109≠0∧
 Z0 q32
 (q33∧
 Z0 q35
 (Z0 q37
 (Z0 q32
 (q33∧
 Z0 q35
 (Z0 q37
 (Z0 q28
 (Z0 q29
 (Z0 q30
 (Z0 q32
 (Z0 q35
 (Z0 q37
 ((∀(i:Nat),i<q40→true=true)∧
 ∃(X_3:Za),
 let q139:=addE X_3 q53 q107 q34 q39 q31;
 let q140:=List.length X_3.L;
 let q141:=X_3.t;
 let q142:=q141.fund;
 let q143:=q141.index;
 let q144:=q141.cap;
 let q145:=q141.dust;
 let q146:=q141.fee;
 let q147:=q141.delay;
 let q148:=q141.k0;
 let q149:=q141.k1;
 let q150:=[X_3.a0,X_3.a1];
 let q151:=[X_3.i0,X_3.i1];
 let q152:=Z5 X_3.L;
 let q153:=decide (q140=q40);
 LB [AV.arr u8 32 q42,AV.int i64 q43,AV.int i64 q44,AV.int i64 q45,AV.int i64 q46,AV.int i64 q47,AV.arr u8 32 q48,AV.arr u8 32 q49,AV.int i64 Y.side,AV.int i64 Y.res,AV.arr i64 2 q50,AV.arr i64 2 q51,AV.nslice q38 70 q40 q40] q40 q52 X_3∧
 Za.Inv Zt X_3∧
 q139≠0∧
 Z0 (q109==q139)
 (Z0 (decide (0+q140≤q140))
 ((∀(i:Nat),i<q140→true=true)∧
 ∃(X_4:Za),
 LV [AV.arr u8 32 q142,AV.int i64 q143,AV.int i64 q144,AV.int i64 q145,AV.int i64 q146,AV.int i64 q147,AV.arr u8 32 q148,AV.arr u8 32 q149,AV.int i64 X_3.side,AV.int i64 X_3.res,AV.arr i64 2 q150,AV.arr i64 2 q151,AV.vrows 70 q140 (ZX 0 q152) q140] X_4∧
 X_4.t.cap≠0∧
 Z0 (decide (0+q110≤q110))
 ((∀(i:Nat),i<q110→true=true)∧
 ∃(X_5:Za),
 LV [AV.arr u8 32 q112,AV.int i64 q113,AV.int i64 q114,AV.int i64 q115,AV.int i64 q116,AV.int i64 q117,AV.arr u8 32 q118,AV.arr u8 32 q119,AV.int i64 X_2.side,AV.int i64 X_2.res,AV.arr i64 2 q120,AV.arr i64 2 q121,AV.vrows 70 q110 (ZX 0 q122) q110] X_5∧
 X_5.t.cap≠0∧Z0 (decide ((Za.nx X_4 q53==Za.nx X_5 q36)=true)) (q112=q3∧Z0 (decide (q113=q5)) (Z0 (decide (q114=q7)) (Z0 (decide (q115=q9)) (Z0 (decide (q116=q11)) (Z0 (decide (q117=q13)) (q118=q15∧q119=q17∧Z0 (decide (X_2.side=X.side)) (Z0 (decide (X_2.res=X.res)) (q120=q21∧q121=q23∧Z0 q123 (Z0 (decide (q1≤q110)) (Z0 q123 (Zd 4 [] q1 q25 q122∧q142=q42∧Z0 (decide (q143=q43)) (Z0 (decide (q144=q44)) (Z0 (decide (q145=q45)) (Z0 (decide (q146=q46)) (Z0 (decide (q147=q47)) (q148=q48∧q149=q49∧Z0 (decide (X_3.side=Y.side)) (Z0 (decide (X_3.res=Y.res)) (q150=q50∧q151=q51∧Z0 q153 (Z0 (decide (q40≤q140)) (Z0 q153 (Zd 4 [] q40 q52 q152∧True) False) False) False) False) False) False) False) False) False) False) False) False) False) False) False) False) False) False) False) False) False)
 False)
 False)
 False)
 False)
 False)
 False)
 False)
 False)
 False)
 False)
 False)
 False)
 False)
 False)
 False)
 False)
 False)
 False)
 False)
 False)
 False)
 False)
 False)
 False)
 False) (by kernel_rfl) ?_
 conv=>zeta
 try simp only [Zi]
 try simp only [Zj]
 try simp only [Zk]
 try simp only [Zl]
 try simp only [Zm]
 try simp only [Zh]
 try simp only [Int.toNat_natCast,Nat.zero_add,true_and,and_true,Nat.le_refl]
 have hsb:a.secret.length≤B:=by rw [ha.secret];exact hB
 have hcX:=Yk hX.tb
 have hcY:=Yk hY.tb
 have heY:addE Y (!a.own) (X.nx a.own) a.amount hs a.expiry≠0:=by rw [hM.addE];exact he
 have hee:(addE X a.own (X.nx a.own) a.amount hs a.expiry==addE Y (!a.own) (X.nx a.own) a.amount hs a.expiry)=true:=by rw [hM.addE];exact beq_self_eq_true _
 have hnx:(Y.nx (!a.own)==X.nx a.own)=true:=beq_iff_eq.2 (hM.nx _)
 rw [hh]
 repeat' first
  | assumption
  | exact ha.secret
  | exact ha.secret.symm
  | (intro _ _;trivial)
  | exact beq_self_eq_true _
  | exact hnx
  | exact hee
  | apply And.intro
  | rfl
  | omega
  | exact Zg fun _ _=>rfl
 refine ⟨X,.a rfl, ?_⟩
 repeat' first
  | assumption
  | exact ha.secret
  | exact ha.secret.symm
  | (intro _ _;trivial)
  | exact beq_self_eq_true _
  | exact hnx
  | exact hee
  | apply And.intro
  | rfl
  | omega
  | exact Zg fun _ _=>rfl
 refine ⟨X,⟨rfl,rfl,rfl⟩, ?_⟩
 repeat' first
  | assumption
  | exact ha.secret
  | exact ha.secret.symm
  | (intro _ _;trivial)
  | exact beq_self_eq_true _
  | exact hnx
  | exact hee
  | apply And.intro
  | rfl
  | omega
  | exact Zg fun _ _=>rfl
 refine ⟨Y,⟨rfl,rfl,rfl⟩, ?_⟩
 repeat' first
  | assumption
  | exact ha.secret
  | exact ha.secret.symm
  | (intro _ _;trivial)
  | exact beq_self_eq_true _
  | exact hnx
  | exact hee
  | apply And.intro
  | rfl
  | omega
  | exact Zg fun _ _=>rfl
 refine ⟨Y,.a rfl, ?_⟩
 repeat' first
  | assumption
  | exact ha.secret
  | exact ha.secret.symm
  | (intro _ _;trivial)
  | exact beq_self_eq_true _
  | exact hnx
  | exact hee
  | apply And.intro
  | rfl
  | omega
  | exact Zg fun _ _=>rfl
 refine ⟨X,.a rfl, ?_⟩
 repeat' first
  | assumption
  | exact ha.secret
  | exact ha.secret.symm
  | (intro _ _;trivial)
  | exact beq_self_eq_true _
  | exact hnx
  | exact hee
  | apply And.intro
  | rfl
  | omega
  | exact Zg fun _ _=>rfl
theorem Zij (X Y X' Y':Za) (a:Yp) (H1:List Int→List Int) (B:Nat) (hM:Mir X Y) (hX:X.Inv Zt) (hY:Y.Inv Zt) (ha:a.Ok) (he:endE Zt X a.own a.off 1 a.secret=0) (hX':X'=endX Zt X a.own a.off 1 a.secret) (hY':Y'=endX Zt Y (!a.own) a.off 1 a.secret):
  evF (Z6b H1 B true) 20 9 [.ptr (some ⟨0,0,0,0,0⟩),.ptr (some ⟨2,0,0,0,0⟩),.agg (.int .i64 1::a.c.tail)] (Z2X X Y) (YS 4 (.ret (.bool true)) 6 (Zc4 X' Y')):=by
 refine @Eq.mpr _ (let q1:=List.length X.L;
 let q2:=X.t;
 let q3:=ZO.mk 1 0 70 0 0;
 let q4:=a.secret;
 let q5:=List.length q4=32;
 let q6:=a.own;
 let q7:=a.off;
 let q8:=q4=q4;
 let q9:=decide (q7=q7);
 let q10:=decide (q6=q6);
 let q11:=List.length Y.L;
 let q12:=Y.t;
 let q13:= !q6;
 let q14:=X'.t;
 let q15:=List.length X'.L;
 let q16:=[(5,9),(4,7)];
 let q17:=Y'.t;
 let q18:=List.length Y'.L;
 (∀(i:Nat),i<q1→true=true)∧
 ∃(X_1:Za),
 let q37:=endX Zt X_1 q6 q7 1 q4;
 let q38:=q37.t;
 let q39:=List.length X_1.L;
 let q40:=decide (q39=q15);
 LB [AV.arr u8 32 q2.fund,AV.int i64 q2.index,AV.int i64 q2.cap,AV.int i64 q2.dust,AV.int i64 q2.fee,AV.int i64 q2.delay,AV.arr u8 32 q2.k0,AV.arr u8 32 q2.k1,AV.int i64 X.side,AV.int i64 X.res,AV.arr i64 2 [X.a0,X.a1],AV.arr i64 2 [X.i0,X.i1],AV.nslice q3 70 q1 q1] q1 (Z5 X.L) X_1∧
 Za.Inv Zt X_1∧
 q5∧
 endE Zt X_1 q6 q7 1 q4=0∧
 q8∧
 Z0 q9
 (Z0 q10
 (q8∧
 Z0 q9
 (Z0 q10
 ((∀(i:Nat),i<q11→true=true)∧
 ∃(X:Za),
 let q45:=endX Zt X q13 q7 1 q4;
 let q46:=q45.t;
 let q47:=List.length X.L;
 let q48:=decide (q47=q18);
 LB [AV.arr u8 32 q12.fund,AV.int i64 q12.index,AV.int i64 q12.cap,AV.int i64 q12.dust,AV.int i64 q12.fee,AV.int i64 q12.delay,AV.arr u8 32 q12.k0,AV.arr u8 32 q12.k1,AV.int i64 Y.side,AV.int i64 Y.res,AV.arr i64 2 [Y.a0,Y.a1],AV.arr i64 2 [Y.i0,Y.i1],AV.nslice q3 70 q11 q11] q11 (Z5 Y.L) X∧
 Za.Inv Zt X∧
 q5∧
 endE Zt X q13 q7 1 q4=0∧
 q38.fund=q14.fund∧
 Z0 (decide (q38.index=q14.index))
 (Z0 (decide (q38.cap=q14.cap))
 (Z0 (decide (q38.dust=q14.dust)) (Z0 (decide (q38.fee=q14.fee)) (Z0 (decide (q38.delay=q14.delay)) (q38.k0=q14.k0∧q38.k1=q14.k1∧Z0 (decide (q37.side=X'.side)) (Z0 (decide (q37.res=X'.res)) ([q37.a0,q37.a1]=[X'.a0,X'.a1]∧[q37.i0,q37.i1]=[X'.i0,X'.i1]∧Z0 q40 (Z0 (decide (q15≤q39)) (Z0 q40 (Zd 4 q16 q15 (Z5 X'.L) (Z5 q37.L)∧q46.fund=q17.fund∧Z0 (decide (q46.index=q17.index)) (Z0 (decide (q46.cap=q17.cap)) (Z0 (decide (q46.dust=q17.dust)) (Z0 (decide (q46.fee=q17.fee)) (Z0 (decide (q46.delay=q17.delay)) (q46.k0=q17.k0∧q46.k1=q17.k1∧Z0 (decide (q45.side=Y'.side)) (Z0 (decide (q45.res=Y'.res)) ([q45.a0,q45.a1]=[Y'.a0,Y'.a1]∧[q45.i0,q45.i1]=[Y'.i0,Y'.i1]∧Z0 q48 (Z0 (decide (q18≤q47)) (Z0 q48 (Zd 4 q16 q18 (Z5 Y'.L) (Z5 q45.L)∧True) False) False) False) False) False) False) False) False) False) False) False) False) False) False) False) False) False) False) False)
 False)
 False)
 False)
 False)
 False) (by kernel_rfl) ?_
 conv=>zeta
 try simp only [Zi]
 try simp only [Zj]
 try simp only [Zk]
 try simp only [Zl]
 try simp only [Zm]
 try simp only [Zh]
 try simp only [Int.toNat_natCast,Nat.zero_add,true_and,and_true,Nat.le_refl]
 have heY:endE Zt Y (!a.own) a.off 1 a.secret=0:=by rw [hM.endE hX hY];exact he
 have hlX:X'.L.length=X.L.length:=by rw [hX'];unfold endX;rw [if_pos he];exact List.length_set
 have hlY:Y'.L.length=Y.L.length:=by rw [hY'];unfold endX;rw [if_pos heY];exact List.length_set
 have hnx:True:=trivial
 have hee:True:=trivial
 rw [hlX,hlY]
 subst hX' hY'
 repeat' first
  | assumption
  | exact ha.secret
  | exact ha.secret.symm
  | (intro _ _;trivial)
  | exact beq_self_eq_true _
  | exact hnx
  | exact hee
  | apply And.intro
  | rfl
  | omega
  | exact Zg fun _ _=>rfl
 refine ⟨X,⟨rfl,rfl,rfl⟩, ?_⟩
 repeat' first
  | assumption
  | exact ha.secret
  | exact ha.secret.symm
  | (intro _ _;trivial)
  | exact beq_self_eq_true _
  | exact hnx
  | exact hee
  | apply And.intro
  | rfl
  | omega
  | exact Zg fun _ _=>rfl
 refine ⟨Y,⟨rfl,rfl,rfl⟩, ?_⟩
 repeat' first
  | assumption
  | exact ha.secret
  | exact ha.secret.symm
  | (intro _ _;trivial)
  | exact beq_self_eq_true _
  | exact hnx
  | exact hee
  | apply And.intro
  | rfl
  | omega
  | exact Zg fun _ _=>rfl
theorem Zik (X Y:Za) (a:Yp) (H1:List Int→List Int) (B:Nat) (hM:Mir X Y) (hX:X.Inv Zt) (hY:Y.Inv Zt) (ha:a.Ok) (he:endE Zt X a.own a.off 1 a.secret≠0):
  evF (Z6b H1 B false) 20 9 [.ptr (some ⟨0,0,0,0,0⟩),.ptr (some ⟨2,0,0,0,0⟩),.agg (.int .i64 1::a.c.tail)] (Z2X X Y) (YS 4 (.ret (.bool true)) 4 (Z9O X Y)):=by
 refine @Eq.mpr _ (let q1:=List.length X.L;
 let q2:=X.t;
 let q3:=q2.fund;
 let q4:=q2.index;
 let q5:=q2.cap;
 let q6:=q2.dust;
 let q7:=q2.fee;
 let q8:=q2.delay;
 let q9:=q2.k0;
 let q10:=q2.k1;
 let q11:=[X.a0,X.a1];
 let q12:=[X.i0,X.i1];
 let q13:=ZO.mk 1 0 70 0 0;
 let q14:=Z5 X.L;
 let q15:=a.secret;
 let q16:=List.length q15=32;
 let q17:=a.own;
 let q18:=a.off;
 let q19:=q15=q15;
 let q20:=decide (q18=q18);
 let q21:=decide (q17=q17);
 let q22:=List.length Y.L;
 let q23:=Y.t;
 let q24:=q23.fund;
 let q25:=q23.index;
 let q26:=q23.cap;
 let q27:=q23.dust;
 let q28:=q23.fee;
 let q29:=q23.delay;
 let q30:=q23.k0;
 let q31:=q23.k1;
 let q32:=[Y.a0,Y.a1];
 let q33:=[Y.i0,Y.i1];
 let q34:=Z5 Y.L;
 (∀(i:Nat),i<q1→true=true)∧
 ∃(X_1:Za),
 let q69:=endE Zt X_1 q17 q18 1 q15;
 let q70:=X_1.t;
 let q71:=List.length X_1.L;
 let q72:=decide (q71=q1);
 LB [AV.arr u8 32 q3,AV.int i64 q4,AV.int i64 q5,AV.int i64 q6,AV.int i64 q7,AV.int i64 q8,AV.arr u8 32 q9,AV.arr u8 32 q10,AV.int i64 X.side,AV.int i64 X.res,AV.arr i64 2 q11,AV.arr i64 2 q12,AV.nslice q13 70 q1 q1] q1 q14 X_1∧
 Za.Inv Zt X_1∧
 q16∧
 q69≠0∧
 q19∧
 Z0 q20
 (Z0 q21
 (q19∧
 Z0 q20
 (Z0 q21
 ((∀(i:Nat),i<q22→true=true)∧
 ∃(X_2:Za),
 let q77:=endE Zt X_2 (!q17) q18 1 q15;
 let q78:=X_2.t;
 let q79:=List.length X_2.L;
 let q80:=decide (q79=q22);
 LB [AV.arr u8 32 q24,AV.int i64 q25,AV.int i64 q26,AV.int i64 q27,AV.int i64 q28,AV.int i64 q29,AV.arr u8 32 q30,AV.arr u8 32 q31,AV.int i64 Y.side,AV.int i64 Y.res,AV.arr i64 2 q32,AV.arr i64 2 q33,AV.nslice q13 70 q22 q22] q22 q34 X_2∧
 Za.Inv Zt X_2∧
 q16∧
 q77≠0∧
 Z0 (decide ((q69==q77)=true)) (q70.fund=q3∧Z0 (decide (q70.index=q4)) (Z0 (decide (q70.cap=q5)) (Z0 (decide (q70.dust=q6)) (Z0 (decide (q70.fee=q7)) (Z0 (decide (q70.delay=q8)) (q70.k0=q9∧q70.k1=q10∧Z0 (decide (X_1.side=X.side)) (Z0 (decide (X_1.res=X.res)) ([X_1.a0,X_1.a1]=q11∧[X_1.i0,X_1.i1]=q12∧Z0 q72 (Z0 (decide (q1≤q71)) (Z0 q72 (Zd 4 [] q1 q14 (Z5 X_1.L)∧q78.fund=q24∧Z0 (decide (q78.index=q25)) (Z0 (decide (q78.cap=q26)) (Z0 (decide (q78.dust=q27)) (Z0 (decide (q78.fee=q28)) (Z0 (decide (q78.delay=q29)) (q78.k0=q30∧q78.k1=q31∧Z0 (decide (X_2.side=Y.side)) (Z0 (decide (X_2.res=Y.res)) ([X_2.a0,X_2.a1]=q32∧[X_2.i0,X_2.i1]=q33∧Z0 q80 (Z0 (decide (q22≤q79)) (Z0 q80 (Zd 4 [] q22 q34 (Z5 X_2.L)∧True) False) False) False) False) False) False) False) False) False) False) False) False) False) False) False) False) False) False) False) False) False)
 False)
 False)
 False)
 False) (by kernel_rfl) ?_
 conv=>zeta
 try simp only [Zi]
 try simp only [Zj]
 try simp only [Zk]
 try simp only [Zl]
 try simp only [Zm]
 try simp only [Zh]
 try simp only [Int.toNat_natCast,Nat.zero_add,true_and,and_true,Nat.le_refl]
 have heY:endE Zt Y (!a.own) a.off 1 a.secret≠0:=by rw [hM.endE hX hY];exact he
 have hee:(endE Zt X a.own a.off 1 a.secret==endE Zt Y (!a.own) a.off 1 a.secret)=true:=by rw [hM.endE hX hY];exact beq_self_eq_true _
 have hnx:True:=trivial
 repeat' first
  | assumption
  | exact ha.secret
  | exact ha.secret.symm
  | (intro _ _;trivial)
  | exact beq_self_eq_true _
  | exact hnx
  | exact hee
  | apply And.intro
  | rfl
  | omega
  | exact Zg fun _ _=>rfl
 refine ⟨X,⟨rfl,rfl,rfl⟩, ?_⟩
 repeat' first
  | assumption
  | exact ha.secret
  | exact ha.secret.symm
  | (intro _ _;trivial)
  | exact beq_self_eq_true _
  | exact hnx
  | exact hee
  | apply And.intro
  | rfl
  | omega
  | exact Zg fun _ _=>rfl
 refine ⟨Y,⟨rfl,rfl,rfl⟩, ?_⟩
 repeat' first
  | assumption
  | exact ha.secret
  | exact ha.secret.symm
  | (intro _ _;trivial)
  | exact beq_self_eq_true _
  | exact hnx
  | exact hee
  | apply And.intro
  | rfl
  | omega
  | exact Zg fun _ _=>rfl
theorem Zil (X Y X' Y':Za) (a:Yp) (H1:List Int→List Int) (B:Nat) (hM:Mir X Y) (hX:X.Inv Zt) (hY:Y.Inv Zt) (ha:a.Ok) (he:endE Zt X a.own a.off 2 Z9=0) (hX':X'=endX Zt X a.own a.off 2 Z9) (hY':Y'=endX Zt Y (!a.own) a.off 2 Z9):
  evF (Z6b H1 B true) 20 9 [.ptr (some ⟨0,0,0,0,0⟩),.ptr (some ⟨2,0,0,0,0⟩),.agg (.int .i64 2::a.c.tail)] (Z2X X Y) (YS 4 (.ret (.bool true)) 6 (Zc4 X' Y')):=by
 refine @Eq.mpr _ (let q1:=List.length X.L;
 let q2:=X.t;
 let q3:=ZO.mk 1 0 70 0 0;
 let q4:=a.own;
 let q5:=a.off;
 let q6:=decide (q5=q5);
 let q7:=decide (q4=q4);
 let q8:=List.length Y.L;
 let q9:=Y.t;
 let q10:= !q4;
 let q11:=X'.t;
 let q12:=List.length X'.L;
 let q13:=[(5,7),(4,6)];
 let q14:=Y'.t;
 let q15:=List.length Y'.L;
 (∀(i:Nat),i<q1→true=true)∧
 ∃(X_1:Za),
 let q31:=endX Zt X_1 q4 q5 2 Z9;
 let q32:=q31.t;
 let q33:=List.length X_1.L;
 let q34:=decide (q33=q12);
 LB [AV.arr u8 32 q2.fund,AV.int i64 q2.index,AV.int i64 q2.cap,AV.int i64 q2.dust,AV.int i64 q2.fee,AV.int i64 q2.delay,AV.arr u8 32 q2.k0,AV.arr u8 32 q2.k1,AV.int i64 X.side,AV.int i64 X.res,AV.arr i64 2 [X.a0,X.a1],AV.arr i64 2 [X.i0,X.i1],AV.nslice q3 70 q1 q1] q1 (Z5 X.L) X_1∧
 Za.Inv Zt X_1∧
 (32:Nat)=32∧
 endE Zt X_1 q4 q5 2 Z9=0∧
 Z0 q6
 (Z0 q7
 (Z0 q6
 (Z0 q7
 ((∀(i:Nat),i<q8→true=true)∧
 ∃(X:Za),
 let q39:=endX Zt X q10 q5 2 Z9;
 let q40:=q39.t;
 let q41:=List.length X.L;
 let q42:=decide (q41=q15);
 LB [AV.arr u8 32 q9.fund,AV.int i64 q9.index,AV.int i64 q9.cap,AV.int i64 q9.dust,AV.int i64 q9.fee,AV.int i64 q9.delay,AV.arr u8 32 q9.k0,AV.arr u8 32 q9.k1,AV.int i64 Y.side,AV.int i64 Y.res,AV.arr i64 2 [Y.a0,Y.a1],AV.arr i64 2 [Y.i0,Y.i1],AV.nslice q3 70 q8 q8] q8 (Z5 Y.L) X∧
 Za.Inv Zt X∧
 (32:Nat)=32∧
 endE Zt X q10 q5 2 Z9=0∧
 q32.fund=q11.fund∧
 Z0 (decide (q32.index=q11.index))
 (Z0 (decide (q32.cap=q11.cap))
 (Z0 (decide (q32.dust=q11.dust)) (Z0 (decide (q32.fee=q11.fee)) (Z0 (decide (q32.delay=q11.delay)) (q32.k0=q11.k0∧q32.k1=q11.k1∧Z0 (decide (q31.side=X'.side)) (Z0 (decide (q31.res=X'.res)) ([q31.a0,q31.a1]=[X'.a0,X'.a1]∧[q31.i0,q31.i1]=[X'.i0,X'.i1]∧Z0 q34 (Z0 (decide (q12≤q33)) (Z0 q34 (Zd 4 q13 q12 (Z5 X'.L) (Z5 q31.L)∧q40.fund=q14.fund∧Z0 (decide (q40.index=q14.index)) (Z0 (decide (q40.cap=q14.cap)) (Z0 (decide (q40.dust=q14.dust)) (Z0 (decide (q40.fee=q14.fee)) (Z0 (decide (q40.delay=q14.delay)) (q40.k0=q14.k0∧q40.k1=q14.k1∧Z0 (decide (q39.side=Y'.side)) (Z0 (decide (q39.res=Y'.res)) ([q39.a0,q39.a1]=[Y'.a0,Y'.a1]∧[q39.i0,q39.i1]=[Y'.i0,Y'.i1]∧Z0 q42 (Z0 (decide (q15≤q41)) (Z0 q42 (Zd 4 q13 q15 (Z5 Y'.L) (Z5 q39.L)∧True) False) False) False) False) False) False) False) False) False) False) False) False) False) False) False) False) False) False) False)
 False)
 False)
 False)
 False)
 False) (by kernel_rfl) ?_
 conv=>zeta
 try simp only [Zi]
 try simp only [Zj]
 try simp only [Zk]
 try simp only [Zl]
 try simp only [Zm]
 try simp only [Zh]
 try simp only [Int.toNat_natCast,Nat.zero_add,true_and,and_true,Nat.le_refl]
 have heY:endE Zt Y (!a.own) a.off 2 Z9=0:=by rw [hM.endE hX hY];exact he
 have hlX:X'.L.length=X.L.length:=by rw [hX'];unfold endX;rw [if_pos he];exact List.length_set
 have hlY:Y'.L.length=Y.L.length:=by rw [hY'];unfold endX;rw [if_pos heY];exact List.length_set
 have hnx:True:=trivial
 have hee:True:=trivial
 rw [hlX,hlY]
 subst hX' hY'
 repeat' first
  | assumption
  | exact ha.secret
  | exact ha.secret.symm
  | (intro _ _;trivial)
  | exact beq_self_eq_true _
  | exact hnx
  | exact hee
  | apply And.intro
  | rfl
  | omega
  | exact Zg fun _ _=>rfl
 refine ⟨X,⟨rfl,rfl,rfl⟩, ?_⟩
 repeat' first
  | assumption
  | exact ha.secret
  | exact ha.secret.symm
  | (intro _ _;trivial)
  | exact beq_self_eq_true _
  | exact hnx
  | exact hee
  | apply And.intro
  | rfl
  | omega
  | exact Zg fun _ _=>rfl
 refine ⟨Y,⟨rfl,rfl,rfl⟩, ?_⟩
 repeat' first
  | assumption
  | exact ha.secret
  | exact ha.secret.symm
  | (intro _ _;trivial)
  | exact beq_self_eq_true _
  | exact hnx
  | exact hee
  | apply And.intro
  | rfl
  | omega
  | exact Zg fun _ _=>rfl
theorem Zim (X Y:Za) (a:Yp) (H1:List Int→List Int) (B:Nat) (hM:Mir X Y) (hX:X.Inv Zt) (hY:Y.Inv Zt) (ha:a.Ok) (he:endE Zt X a.own a.off 2 Z9≠0):
  evF (Z6b H1 B false) 20 9 [.ptr (some ⟨0,0,0,0,0⟩),.ptr (some ⟨2,0,0,0,0⟩),.agg (.int .i64 2::a.c.tail)] (Z2X X Y) (YS 4 (.ret (.bool true)) 4 (Z9O X Y)):=by
 refine @Eq.mpr _ (let q1:=List.length X.L;
 let q2:=X.t;
 let q3:=q2.fund;
 let q4:=q2.index;
 let q5:=q2.cap;
 let q6:=q2.dust;
 let q7:=q2.fee;
 let q8:=q2.delay;
 let q9:=q2.k0;
 let q10:=q2.k1;
 let q11:=[X.a0,X.a1];
 let q12:=[X.i0,X.i1];
 let q13:=ZO.mk 1 0 70 0 0;
 let q14:=Z5 X.L;
 let q15:=a.own;
 let q16:=a.off;
 let q17:=decide (q16=q16);
 let q18:=decide (q15=q15);
 let q19:=List.length Y.L;
 let q20:=Y.t;
 let q21:=q20.fund;
 let q22:=q20.index;
 let q23:=q20.cap;
 let q24:=q20.dust;
 let q25:=q20.fee;
 let q26:=q20.delay;
 let q27:=q20.k0;
 let q28:=q20.k1;
 let q29:=[Y.a0,Y.a1];
 let q30:=[Y.i0,Y.i1];
 let q31:=Z5 Y.L;
 (∀(i:Nat),i<q1→true=true)∧
 ∃(X_1:Za),
 let q63:=endE Zt X_1 q15 q16 2 Z9;
 let q64:=X_1.t;
 let q65:=List.length X_1.L;
 let q66:=decide (q65=q1);
 LB [AV.arr u8 32 q3,AV.int i64 q4,AV.int i64 q5,AV.int i64 q6,AV.int i64 q7,AV.int i64 q8,AV.arr u8 32 q9,AV.arr u8 32 q10,AV.int i64 X.side,AV.int i64 X.res,AV.arr i64 2 q11,AV.arr i64 2 q12,AV.nslice q13 70 q1 q1] q1 q14 X_1∧
 Za.Inv Zt X_1∧
 (32:Nat)=32∧
 q63≠0∧
 Z0 q17
 (Z0 q18
 (Z0 q17
 (Z0 q18
 ((∀(i:Nat),i<q19→true=true)∧
 ∃(X_2:Za),
 let q71:=endE Zt X_2 (!q15) q16 2 Z9;
 let q72:=X_2.t;
 let q73:=List.length X_2.L;
 let q74:=decide (q73=q19);
 LB [AV.arr u8 32 q21,AV.int i64 q22,AV.int i64 q23,AV.int i64 q24,AV.int i64 q25,AV.int i64 q26,AV.arr u8 32 q27,AV.arr u8 32 q28,AV.int i64 Y.side,AV.int i64 Y.res,AV.arr i64 2 q29,AV.arr i64 2 q30,AV.nslice q13 70 q19 q19] q19 q31 X_2∧
 Za.Inv Zt X_2∧
 (32:Nat)=32∧
 q71≠0∧
 Z0 (decide ((q63==q71)=true)) (q64.fund=q3∧Z0 (decide (q64.index=q4)) (Z0 (decide (q64.cap=q5)) (Z0 (decide (q64.dust=q6)) (Z0 (decide (q64.fee=q7)) (Z0 (decide (q64.delay=q8)) (q64.k0=q9∧q64.k1=q10∧Z0 (decide (X_1.side=X.side)) (Z0 (decide (X_1.res=X.res)) ([X_1.a0,X_1.a1]=q11∧[X_1.i0,X_1.i1]=q12∧Z0 q66 (Z0 (decide (q1≤q65)) (Z0 q66 (Zd 4 [] q1 q14 (Z5 X_1.L)∧q72.fund=q21∧Z0 (decide (q72.index=q22)) (Z0 (decide (q72.cap=q23)) (Z0 (decide (q72.dust=q24)) (Z0 (decide (q72.fee=q25)) (Z0 (decide (q72.delay=q26)) (q72.k0=q27∧q72.k1=q28∧Z0 (decide (X_2.side=Y.side)) (Z0 (decide (X_2.res=Y.res)) ([X_2.a0,X_2.a1]=q29∧[X_2.i0,X_2.i1]=q30∧Z0 q74 (Z0 (decide (q19≤q73)) (Z0 q74 (Zd 4 [] q19 q31 (Z5 X_2.L)∧True) False) False) False) False) False) False) False) False) False) False) False) False) False) False) False) False) False) False) False) False) False)
 False)
 False)
 False)
 False) (by kernel_rfl) ?_
 conv=>zeta
 try simp only [Zi]
 try simp only [Zj]
 try simp only [Zk]
 try simp only [Zl]
 try simp only [Zm]
 try simp only [Zh]
 try simp only [Int.toNat_natCast,Nat.zero_add,true_and,and_true,Nat.le_refl]
 have heY:endE Zt Y (!a.own) a.off 2 Z9≠0:=by rw [hM.endE hX hY];exact he
 have hee:(endE Zt X a.own a.off 2 Z9==endE Zt Y (!a.own) a.off 2 Z9)=true:=by rw [hM.endE hX hY];exact beq_self_eq_true _
 have hnx:True:=trivial
 repeat' first
  | assumption
  | exact ha.secret
  | exact ha.secret.symm
  | (intro _ _;trivial)
  | exact beq_self_eq_true _
  | exact hnx
  | exact hee
  | apply And.intro
  | rfl
  | omega
  | exact Zg fun _ _=>rfl
 refine ⟨X,⟨rfl,rfl,rfl⟩, ?_⟩
 repeat' first
  | assumption
  | exact ha.secret
  | exact ha.secret.symm
  | (intro _ _;trivial)
  | exact beq_self_eq_true _
  | exact hnx
  | exact hee
  | apply And.intro
  | rfl
  | omega
  | exact Zg fun _ _=>rfl
 refine ⟨Y,⟨rfl,rfl,rfl⟩, ?_⟩
 repeat' first
  | assumption
  | exact ha.secret
  | exact ha.secret.symm
  | (intro _ _;trivial)
  | exact beq_self_eq_true _
  | exact hnx
  | exact hee
  | apply And.intro
  | rfl
  | omega
  | exact Zg fun _ _=>rfl
theorem Zin (X Y X' Y':Za) (a:Yp) (H1:List Int→List Int) (B:Nat) (hM:Mir X Y) (hX:X.Inv Zt) (hY:Y.Inv Zt) (he:1≤a.move∧a.move≤4) (hX':X'=stpX X a.move) (hY':Y'=stpX Y (Uh a.move)):
  evF (Z6b H1 B true) 20 9 [.ptr (some ⟨0,0,0,0,0⟩),.ptr (some ⟨2,0,0,0,0⟩),.agg (.int .i64 3::a.c.tail)] (Z2X X Y) (YS 4 (.ret (.bool true)) 6 (Zc4 X' Y')):=by
 refine @Eq.mpr _ (let q1:=a.move;
 let q2:=X.t;
 let q3:=q2.fund;
 let q4:=X'.t;
 let q5:=q4.fund;
 let q6:=q2.index;
 let q7:=q4.index;
 let q8:=q2.cap;
 let q9:=q4.cap;
 let q10:=q2.dust;
 let q11:=q4.dust;
 let q12:=q2.fee;
 let q13:=q4.fee;
 let q14:=q2.delay;
 let q15:=q4.delay;
 let q16:=q2.k0;
 let q17:=q4.k0;
 let q18:=q2.k1;
 let q19:=q4.k1;
 let q20:=[X.a0,X.a1];
 let q21:=[X'.a0,X'.a1];
 let q22:=[X.i0,X.i1];
 let q23:=[X'.i0,X'.i1];
 let q24:=List.length X.L;
 let q25:=List.length X'.L;
 let q26:=decide (q24=q25);
 let q27:=[(5,3),(4,1)];
 let q28:=Z5 X'.L;
 let q29:=Z5 X.L;
 let q30:=Y.t;
 let q31:=q30.fund;
 let q32:=Y'.t;
 let q33:=q32.fund;
 let q34:=q30.index;
 let q35:=q32.index;
 let q36:=q30.cap;
 let q37:=q32.cap;
 let q38:=q30.dust;
 let q39:=q32.dust;
 let q40:=q30.fee;
 let q41:=q32.fee;
 let q42:=q30.delay;
 let q43:=q32.delay;
 let q44:=q30.k0;
 let q45:=q32.k0;
 let q46:=q30.k1;
 let q47:=q32.k1;
 let q48:=[Y.a0,Y.a1];
 let q49:=[Y'.a0,Y'.a1];
 let q50:=[Y.i0,Y.i1];
 let q51:=[Y'.i0,Y'.i1];
 let q52:=List.length Y.L;
 let q53:=List.length Y'.L;
 let q54:=decide (q52=q53);
 let q55:=Z5 Y'.L;
 let q56:=Z5 Y.L;
 let q57:=q3=q5∧Z0 (decide (q6=q7)) (Z0 (decide (q8=q9)) (Z0 (decide (q10=q11)) (Z0 (decide (q12=q13)) (Z0 (decide (q14=q15)) (q16=q17∧q18=q19∧Z0 (decide (X.side=X'.side)) (Z0 (decide (X.res=X'.res)) (q20=q21∧q22=q23∧Z0 q26 (Z0 (decide (q25≤q24)) (Z0 q26 (Zd 4 q27 q25 q28 q29∧q31=q33∧Z0 (decide (q34=q35)) (Z0 (decide (q36=q37)) (Z0 (decide (q38=q39)) (Z0 (decide (q40=q41)) (Z0 (decide (q42=q43)) (q44=q45∧q46=q47∧Z0 (decide (Y.side=Y'.side)) (Z0 (decide (Y.res=Y'.res)) (q48=q49∧q50=q51∧Z0 q54 (Z0 (decide (q53≤q52)) (Z0 q54 (Zd 4 q27 q53 q55 q56∧True) False) False) False) False) False) False) False) False) False) False) False) False) False) False) False) False) False) False) False) False;
 let q58:=ZO.mk 1 0 70 0 0;
 let q59:=0+Int.toNat q1;
 let q60:=List.getD [(0:Int),3,4,1,2] q59 0;
 let q61:=[(5,9),(4,6)];
 Z0 (decide (q1<1)) q57
 (Z0 (decide (q1>4)) q57
 ((∀(i:Nat),i<q24→true=true)∧
 ∃(X_1:Za),
 let q123:=stpX X_1 q1;
 let q124:=q123.t;
 let q125:=q123.L;
 let q126:=List.length q125;
 let q127:=decide (q126=q25);
 LB [AV.arr u8 32 q3,AV.int i64 q6,AV.int i64 q8,AV.int i64 q10,AV.int i64 q12,AV.int i64 q14,AV.arr u8 32 q16,AV.arr u8 32 q18,AV.int i64 X.side,AV.int i64 X.res,AV.arr i64 2 q20,AV.arr i64 2 q22,AV.nslice q58 70 q24 q24] q24 q29 X_1∧
 Za.Inv Zt X_1∧
 (1≤q1∧q1≤4)∧
 Z0 (decide (0≤q1∧q1<5))
 (Z0 (decide (q59<5))
 ((∀(i:Nat),i<q52→true=true)∧
 ∃(X_2:Za),
 let q133:=stpX X_2 q60;
 let q134:=q133.t;
 let q135:=q133.L;
 let q136:=List.length q135;
 let q137:=decide (q136=q53);
 LB [AV.arr u8 32 q31,AV.int i64 q34,AV.int i64 q36,AV.int i64 q38,AV.int i64 q40,AV.int i64 q42,AV.arr u8 32 q44,AV.arr u8 32 q46,AV.int i64 Y.side,AV.int i64 Y.res,AV.arr i64 2 q48,AV.arr i64 2 q50,AV.nslice q58 70 q52 q52] q52 q56 X_2∧
 Za.Inv Zt X_2∧
 (1≤q60∧q60≤4)∧
 q124.fund=q5∧Z0 (decide (q124.index=q7)) (Z0 (decide (q124.cap=q9)) (Z0 (decide (q124.dust=q11)) (Z0 (decide (q124.fee=q13)) (Z0 (decide (q124.delay=q15)) (q124.k0=q17∧q124.k1=q19∧Z0 (decide (q123.side=X'.side)) (Z0 (decide (q123.res=X'.res)) ([q123.a0,q123.a1]=q21∧[q123.i0,q123.i1]=q23∧Z0 q127 (Z0 (decide (q25≤q126)) (Z0 q127 (Zd 4 q61 q25 q28 (Z5 q125)∧q134.fund=q33∧Z0 (decide (q134.index=q35)) (Z0 (decide (q134.cap=q37)) (Z0 (decide (q134.dust=q39)) (Z0 (decide (q134.fee=q41)) (Z0 (decide (q134.delay=q43)) (q134.k0=q45∧q134.k1=q47∧Z0 (decide (q133.side=Y'.side)) (Z0 (decide (q133.res=Y'.res)) ([q133.a0,q133.a1]=q49∧[q133.i0,q133.i1]=q51∧Z0 q137 (Z0 (decide (q53≤q136)) (Z0 q137 (Zd 4 q61 q53 q55 (Z5 q135)∧True) False) False) False) False) False) False) False) False) False) False) False) False) False) False) False) False) False) False) False) False)
 False)
 False))) (by kernel_rfl) ?_
 conv=>zeta
 try simp only [Zi]
 try simp only [Zj]
 try simp only [Zk]
 try simp only [Zl]
 try simp only [Zm]
 try simp only [Zh]
 try simp only [Int.toNat_natCast,Nat.zero_add,true_and,and_true,Nat.le_refl]
 have hg:[0,3,4,1,2].getD (a.move).toNat 0=Uh a.move:=by
  have:a.move=1∨a.move=2∨a.move=3∨a.move=4:=by omega
  rcases this with h|h|h|h<;>(rw [h];rfl)
 have hmv:=Z8z he
 have hnx:True:=trivial
 have hee:True:=trivial
 rw [hg]
 subst hX' hY'
 refine ⟨fun h=>absurd h (by omega),fun _=>⟨fun h=>absurd h (by omega),fun _=> ?_⟩⟩
 repeat' first
  | assumption
  | (intro _ _;trivial)
  | exact beq_self_eq_true _
  | exact hnx
  | exact hee
  | apply And.intro
  | rfl
  | omega
  | exact Zg fun _ _=>rfl
 refine ⟨X,⟨rfl,rfl,rfl⟩, ?_⟩
 repeat' first
  | assumption
  | (intro _ _;trivial)
  | exact beq_self_eq_true _
  | exact hnx
  | exact hee
  | apply And.intro
  | rfl
  | omega
  | exact Zg fun _ _=>rfl
 refine ⟨Y,⟨rfl,rfl,rfl⟩, ?_⟩
 repeat' first
  | assumption
  | (intro _ _;trivial)
  | exact beq_self_eq_true _
  | exact hnx
  | exact hee
  | apply And.intro
  | rfl
  | omega
  | exact Zg fun _ _=>rfl
theorem Zio (X Y:Za) (a:Yp) (he:¬(1≤a.move∧a.move≤4)):
  evF Zc3 20 9 [.ptr (some ⟨0,0,0,0,0⟩),.ptr (some ⟨2,0,0,0,0⟩),.agg (.int .i64 3::a.c.tail)] (Z2X X Y) (YS 4 (.ret (.bool true)) 4 (Z9O X Y)):=by
 refine @Eq.mpr _ (let q1:=X.t;
 let q2:=q1.fund;
 let q3:=q1.index;
 let q4:=q1.cap;
 let q5:=q1.dust;
 let q6:=q1.fee;
 let q7:=q1.delay;
 let q8:=q1.k0;
 let q9:=q1.k1;
 let q10:=[X.a0,X.a1];
 let q11:=[X.i0,X.i1];
 let q12:=List.length X.L;
 let q13:=decide (q12=q12);
 let q14:=Z5 X.L;
 let q15:=Y.t;
 let q16:=q15.fund;
 let q17:=q15.index;
 let q18:=q15.cap;
 let q19:=q15.dust;
 let q20:=q15.fee;
 let q21:=q15.delay;
 let q22:=q15.k0;
 let q23:=q15.k1;
 let q24:=[Y.a0,Y.a1];
 let q25:=[Y.i0,Y.i1];
 let q26:=List.length Y.L;
 let q27:=decide (q26=q26);
 let q28:=Z5 Y.L;
 let q29:=q2=q2∧Z0 (decide (q3=q3)) (Z0 (decide (q4=q4)) (Z0 (decide (q5=q5)) (Z0 (decide (q6=q6)) (Z0 (decide (q7=q7)) (q8=q8∧q9=q9∧Z0 (decide (X.side=X.side)) (Z0 (decide (X.res=X.res)) (q10=q10∧q11=q11∧Z0 q13 (Z0 (decide (q12≤q12)) (Z0 q13 (Zd 4 [] q12 q14 q14∧q16=q16∧Z0 (decide (q17=q17)) (Z0 (decide (q18=q18)) (Z0 (decide (q19=q19)) (Z0 (decide (q20=q20)) (Z0 (decide (q21=q21)) (q22=q22∧q23=q23∧Z0 (decide (Y.side=Y.side)) (Z0 (decide (Y.res=Y.res)) (q24=q24∧q25=q25∧Z0 q27 (Z0 (decide (q26≤q26)) (Z0 q27 (Zd 4 [] q26 q28 q28∧True) False) False) False) False) False) False) False) False) False) False) False) False) False) False) False) False) False) False) False) False;
 Z0 (decide (a.move<1)) q29 (Z0 (decide (a.move>4)) q29 False)) (by kernel_rfl) ?_
 conv=>zeta
 try simp only [Zi]
 try simp only [Zj]
 try simp only [Zk]
 try simp only [Zl]
 try simp only [Zm]
 try simp only [Zh]
 try simp only [Int.toNat_natCast,Nat.zero_add,true_and,and_true,Nat.le_refl]
 refine ⟨fun _=> ?_,fun h1=>⟨by omega, ?_⟩⟩
 ·repeat' first
   | apply And.intro
   | rfl
   | omega
   | exact Zg fun _ _=>rfl
 ·repeat' first
   | apply And.intro
   | rfl
   | omega
   | exact Zg fun _ _=>rfl
theorem Zip (X Y:Za) (a:Yp) (he:¬(0≤a.what∧a.what≤3)):
  evF Zc3 20 9 [.ptr (some ⟨0,0,0,0,0⟩),.ptr (some ⟨2,0,0,0,0⟩),.agg a.c] (Z2X X Y) (YS 4 (.ret (.bool true)) 4 (Z9O X Y)):=by
 refine @Eq.mpr _ (let q1:=a.what;
 let q2:=X.t;
 let q3:=q2.cap;
 let q4:=q2.fund;
 let q5:=q2.index;
 let q6:=q2.dust;
 let q7:=q2.fee;
 let q8:=q2.delay;
 let q9:=q2.k0;
 let q10:=q2.k1;
 let q11:=[X.a0,X.a1];
 let q12:=[X.i0,X.i1];
 let q13:=List.length X.L;
 let q14:=decide (q13=q13);
 let q15:=Z5 X.L;
 let q16:=Y.t;
 let q17:=q16.fund;
 let q18:=q16.index;
 let q19:=q16.cap;
 let q20:=q16.dust;
 let q21:=q16.fee;
 let q22:=q16.delay;
 let q23:=q16.k0;
 let q24:=q16.k1;
 let q25:=[Y.a0,Y.a1];
 let q26:=[Y.i0,Y.i1];
 let q27:=List.length Y.L;
 let q28:=decide (q27=q27);
 let q29:=Z5 Y.L;
 let q30:=q4=q4∧Z0 (decide (q5=q5)) (Z0 (decide (q3=q3)) (Z0 (decide (q6=q6)) (Z0 (decide (q7=q7)) (Z0 (decide (q8=q8)) (q9=q9∧q10=q10∧Z0 (decide (X.side=X.side)) (Z0 (decide (X.res=X.res)) (q11=q11∧q12=q12∧Z0 q14 (Z0 (decide (q13≤q13)) (Z0 q14 (Zd 4 [] q13 q15 q15∧q17=q17∧Z0 (decide (q18=q18)) (Z0 (decide (q19=q19)) (Z0 (decide (q20=q20)) (Z0 (decide (q21=q21)) (Z0 (decide (q22=q22)) (q23=q23∧q24=q24∧Z0 (decide (Y.side=Y.side)) (Z0 (decide (Y.res=Y.res)) (q25=q25∧q26=q26∧Z0 q28 (Z0 (decide (q27≤q27)) (Z0 q28 (Zd 4 [] q27 q29 q29∧True) False) False) False) False) False) False) False) False) False) False) False) False) False) False) False) False) False) False) False) False;
 Z0 (q1==0) (Z0 (q3==0) False (Z0 a.own False False)) (Z0 (q1==1) False (Z0 (q1==2) False (Z0 (q1==3) (Z0 (decide (a.move<1)) q30 (Z0 (decide (a.move>4)) q30 False)) q30)))) (by kernel_rfl) ?_
 conv=>zeta
 have e:∀k:Int,0≤k→k≤3→(a.what==k)=false:=fun k h1 h2=>by
  rw [beq_eq_false_iff_ne];omega
 rw [e 0 (by decide) (by decide),e 1 (by decide) (by decide),e 2 (by decide) (by decide),e 3 (by decide) (by decide),Z0B,Z0B,Z0B,Z0B]
 try simp only [Zi]
 try simp only [Zj]
 try simp only [Zk]
 try simp only [Zl]
 try simp only [Zm]
 try simp only [Zh]
 try simp only [Int.toNat_natCast,Nat.zero_add,true_and,and_true,Nat.le_refl]
 repeat' first
  | apply And.intro
  | rfl
  | omega
  | exact Zg fun _ _=>rfl
def Qw (X:Za) (a:Yp):Za:=if a.what=0 then addX X a.own (X.nx a.own) a.amount (Zt a.secret) a.expiry else if a.what=1 then endX Zt X a.own a.off 1 a.secret else if a.what=2 then endX Zt X a.own a.off 2 Z9 else if a.what=3 then stpX X a.move else X
def Z09 (X Y:Za) (a:Yp):Za:=if a.what=0 then addX Y (!a.own) (X.nx a.own) a.amount (Zt a.secret) a.expiry else if a.what=1 then endX Zt Y (!a.own) a.off 1 a.secret else if a.what=2 then endX Zt Y (!a.own) a.off 2 Z9 else if a.what=3 then (if 1≤a.move∧a.move≤4 then stpX Y (Uh a.move) else Y) else Y
def Q1 (X:Za) (a:Yp):Prop:=if a.what=0 then addE X a.own (X.nx a.own) a.amount (Zt a.secret) a.expiry≠0 else if a.what=1 then endE Zt X a.own a.off 1 a.secret≠0 else if a.what=2 then endE Zt X a.own a.off 2 Z9≠0 else if a.what=3 then ¬(1≤a.move∧a.move≤4) else True
structure MI (X Y:Za):Prop where
 m:Mir X Y
 x:X.Inv Zt
 y:Y.Inv Zt
theorem ZfV {X Y:Za} (h:MI X Y) {a:Yp} (ha:a.Ok):MI (Qw X a) (Z09 X Y a):=by
 obtain ⟨hm,hx,hy⟩:=h
 unfold Qw Z09
 split
 ·exact ⟨hm.addX _ _ _ _ _,hx.addX (Wz _) (Z2U _),hy.addX (Wz _) (Z2U _)⟩
 ·split
  ·exact ⟨hm.endX hx hy _ _ _ _,hx.endX ha.secret ha.sb (.inl rfl),hy.endX ha.secret ha.sb (.inl rfl)⟩
  ·split
   ·exact ⟨hm.endX hx hy _ _ _ _,hx.endX rfl Z4S (.inr ⟨rfl,rfl⟩),hy.endX rfl Z4S (.inr ⟨rfl,rfl⟩)⟩
   ·split
    ·split
     ·rename_i hmv
      exact ⟨hm.stpX hx hmv,hx.stpX _,hy.stpX _⟩
     ·rename_i hmv
      unfold stpX
      rw [if_neg hmv]
      exact ⟨hm,hx,hy⟩
    ·exact ⟨hm,hx,hy⟩
theorem Zc5 {X Y:Za} {a:Yp} (hI:MI X Y) (h:Q1 X a):Qw X a=X∧Z09 X Y a=Y:=by
 unfold Q1 at h
 unfold Qw Z09
 split
 ·rename_i q;rw [if_pos q] at h
  refine ⟨by unfold addX;rw [if_neg h], ?_⟩
  rw [←hI.m.addE] at h
  unfold addX;rw [if_neg h]
 ·rename_i q;rw [if_neg q] at h
  split
  ·rename_i q;rw [if_pos q] at h
   refine ⟨by unfold endX;rw [if_neg h], ?_⟩
   rw [←hI.m.endE hI.x hI.y] at h
   unfold endX;rw [if_neg h]
  ·rename_i q;rw [if_neg q] at h
   split
   ·rename_i q;rw [if_pos q] at h
    refine ⟨by unfold endX;rw [if_neg h], ?_⟩
    rw [←hI.m.endE hI.x hI.y] at h
    unfold endX;rw [if_neg h]
   ·rename_i q;rw [if_neg q] at h
    split
    ·rename_i q;rw [if_pos q] at h
     exact ⟨by unfold stpX;rw [if_neg h],by rw [if_neg h]⟩
    ·exact ⟨rfl,rfl⟩
theorem Spec.both {X Y:Za} {a:Yp} (hM:Mir X Y) (hX:X.Inv Zt) (hY:Y.Inv Zt) (ha:a.Ok):(Q1 X a→Spec PP 9 [.ptr (some ⟨0,0,0,0,0⟩),.ptr (some ⟨2,0,0,0,0⟩),.agg a.c] (Z2X X Y) (.ret (.bool true)) 4 (Z9O X Y))∧(¬Q1 X a→Spec PP 9 [.ptr (some ⟨0,0,0,0,0⟩),.ptr (some ⟨2,0,0,0,0⟩),.agg a.c] (Z2X X Y) (.ret (.bool true)) 6 (Zc4 (Qw X a) (Z09 X Y a))):=by
 have hs:=ZdW ha
 obtain ⟨w,ow,of,am,ex,se,at',mo,ou,nu⟩:=a
 by_cases h0:w=0
 ·subst h0
  refine ⟨fun hk=> ?_,fun hk=> ?_⟩
  ·exact .evM (VD false) (Zii X Y ⟨0,ow,of,am,ex,se,at',mo,ou,nu⟩ Z0y 1000 _ hM hX hY ha (by decide) hs (Wz _) hk)
  ·exact .evM (VD true) (Zih X Y _ _ ⟨0,ow,of,am,ex,se,at',mo,ou,nu⟩ Z0y 1000 _ hM hX hY ha (by decide) hs (Wz _) rfl rfl (by
    have:¬(addE X ow (X.nx ow) am (Zt se) ex≠0):=hk
    simpa using this))
 by_cases h1:w=1
 ·subst h1
  refine ⟨fun hk=> ?_,fun hk=> ?_⟩
  ·exact .evM (VD false) (Zik X Y ⟨1,ow,of,am,ex,se,at',mo,ou,nu⟩ Z0y 1000 hM hX hY ha hk)
  ·exact .evM (VD true) (Zij X Y _ _ ⟨1,ow,of,am,ex,se,at',mo,ou,nu⟩ Z0y 1000 hM hX hY ha (by
    have:¬(endE Zt X ow of 1 se≠0):=hk
    simpa using this) rfl rfl)
 by_cases h2:w=2
 ·subst h2
  refine ⟨fun hk=> ?_,fun hk=> ?_⟩
  ·exact .evM (VD false) (Zim X Y ⟨2,ow,of,am,ex,se,at',mo,ou,nu⟩ Z0y 1000 hM hX hY ha hk)
  ·exact .evM (VD true) (Zil X Y _ _ ⟨2,ow,of,am,ex,se,at',mo,ou,nu⟩ Z0y 1000 hM hX hY ha (by
    have:¬(endE Zt X ow of 2 Z9≠0):=hk
    simpa using this) rfl rfl)
 by_cases h3:w=3
 ·subst h3
  refine ⟨fun hk=> ?_,fun hk=> ?_⟩
  ·exact .evM Z6c (Zio X Y ⟨3,ow,of,am,ex,se,at',mo,ou,nu⟩ hk)
  ·have hmv:1≤mo∧mo≤4:=Classical.not_not.1 hk
   have e:Z09 X Y ⟨3,ow,of,am,ex,se,at',mo,ou,nu⟩=stpX Y (Uh mo):=if_pos hmv
   rw [e]
   exact .evM (VD true) (Zin X Y _ _ ⟨3,ow,of,am,ex,se,at',mo,ou,nu⟩ Z0y 1000 hM hX hY hmv rfl rfl)
 refine ⟨fun _=> ?_,fun hk=>absurd ?_ hk⟩
 ·exact .evM Z6c (Zip X Y ⟨w,ow,of,am,ex,se,at',mo,ou,nu⟩ (show ¬(0≤w∧w≤3) by omega))
 ·unfold Q1
  rw [if_neg h0,if_neg h1,if_neg h2,if_neg h3]
  trivial
end Go.Tk
end
section
namespace Go.Tk
open IntKind (i64 u8 u32 u64 wrap)
def Yx:List Int→Nat
 | []=>0
 | a::r=>(Xz a).toNat*256^r.length+Yx r
theorem Z0a:∀(x:List Int),Yx x<256^x.length
 | []=>by simp [Yx]
 | a::r=>by
  have h1:=Z0a r
  have h2:=(Xz a).toNat_lt
  simp only [Yx,List.length_cons,Nat.pow_succ]
  have h3:(Xz a).toNat*256^r.length≤255*256^r.length:=Nat.mul_le_mul_right _ (by omega)
  omega
theorem Z6d:∀(x y:List Int),x.length=y.length→VV x y=if Yx x<Yx y then -1 else if Yx y<Yx x then 1 else 0
 | [],[],_=>by simp [VV,Lib.compareBytes,Yx]
 | [],b::s,h=>by simp at h
 | a::r,[],h=>by simp at h
 | a::r,b::s,h=>by
  have h':r.length=s.length:=by simpa using h
  have ih:=Z6d r s h'
  have e1:Yx (a::r)=(Xz a).toNat*256^r.length+Yx r:=rfl
  have e2:Yx (b::s)=(Xz b).toNat*256^r.length+Yx s:=by rw [h'];rfl
  have e3:VV (a::r) (b::s)=if (Xz a).toNat<(Xz b).toNat then -1 else if (Xz b).toNat<(Xz a).toNat then 1 else VV r s:=by
   unfold VV;simp only [List.map_cons,Lib.compareBytes,UInt8.lt_iff_toNat_lt]
  have h1:=Z0a r
  have h2:=Z0a s
  rw [←h'] at h2
  rw [e3]
  generalize Yx (a::r)=A at*
  generalize Yx (b::s)=B at*
  generalize (Xz a).toNat=u at*
  generalize (Xz b).toNat=v at*
  generalize hM:256^r.length=M at*
  have hs:∀p q:Nat,p<q→p*M+M≤q*M:=fun p q hpq=>by
   have:(p+1)*M≤q*M:=Nat.mul_le_mul_right _ hpq
   rw [Nat.add_mul,Nat.one_mul] at this
   exact this
  by_cases c1:u<v
  ·have:=hs u v c1
   rw [if_pos c1,if_pos (by omega)]
  ·rw [if_neg c1]
   by_cases c2:v<u
   ·have:=hs v u c2
    rw [if_pos c2,if_neg (by omega),if_pos (by omega)]
   ·rw [if_neg c2,ih]
    have:u=v:=by omega
    subst this
    simp only [show (A<B)=(Yx r<Yx s) from propext (by omega),show (B<A)=(Yx s<Yx r) from propext (by omega)]
structure Ze where
 o:Vi
 id:Int
 what:Int
def Ze.c (m:Ze):List AV:=[.int .i64 m.o.kind,.int .i64 m.o.amount,.arr .u8 32 m.o.owner,.arr .u8 32 m.o.other,.arr .u8 32 m.o.point,.arr .u8 32 m.o.hash,.int .i64 m.o.delay,.int .i64 m.o.expiry,.int .i64 m.id,.int .i64 m.what]
structure Ze.Ok (m:Ze):Prop where
 owner:m.o.owner.length=32
 other:m.o.other.length=32
 point:m.o.point.length=32
 hash:m.o.hash.length=32
def Vn:Ze:=⟨⟨0,0,[],[],[],[],0,0⟩,0,0⟩
def ltM (a b:Ze):Bool:=decide (a.o.amount<b.o.amount∨(a.o.amount=b.o.amount∧(a.o.kind<b.o.kind∨(a.o.kind=b.o.kind∧(a.o.expiry<b.o.expiry∨(a.o.expiry=b.o.expiry∧(Yx a.o.hash<Yx b.o.hash∨(Yx a.o.hash=Yx b.o.hash∧a.id<b.id))))))))
theorem Z9P {x y:List Int} (h:x.length=y.length):(Yx x<Yx y∧VV x y= -1)∨(Yx y<Yx x∧VV x y=1)∨(Yx x=Yx y∧VV x y=0):=by
 rw [Z6d x y h];omega
theorem Zc6:WO ltM where
 asym x y h:=by
  unfold ltM at*
  simp only [decide_eq_true_eq,decide_eq_false_iff_not] at*
  generalize Yx x.o.hash=v1 at*
  generalize Yx y.o.hash=v2 at*
  omega
 neg x y z h h2:=by
  unfold ltM at*
  simp only [decide_eq_true_eq,decide_eq_false_iff_not] at*
  generalize Yx x.o.hash=v1 at*
  generalize Yx y.o.hash=v2 at*
  generalize Yx z.o.hash=v3 at*
  omega
def Y9 (l:List Ze):List Ze:=W1 ltM [] l
def Zw (l:List Ze) (i:Nat):List AV:=(l.getD i Vn).c
end Go.Tk
end
section
namespace Go.Tk
open IntKind (i64 u8 u32 u64 wrap)
end Go.Tk
end
section
namespace Go.Tk
open IntKind (i64 u8 u32 u64 wrap)
theorem W4 (L:List Ze) (i:Nat):plainC (Zw L i)=true:=rfl
theorem Y2 {k:Nat} {τ:Ren} {n:Nat} {L:List Ze} {f:Nat→List AV} (h:∀i,i<n→f i=Zw L i):Zd k τ n (Zw L) f:=
 UB h (fun i _=>W4 L i) (fun i _ v hv=>by
  simp only [Zw,Ze.c,List.mem_cons,List.not_mem_nil,or_false] at hv
  rcases hv with rfl|rfl|rfl|rfl|rfl|rfl|rfl|rfl|rfl|rfl<;>first|exact .inl rfl|exact .inr ⟨_,_,_,rfl⟩)
def isL (a p:List Ze) (x:Ze) (r:List Ze) (m:Nat):List Ze:=a++(p.take (p.length-m)++x::(p.drop (p.length-m)++r))
structure IsQ where
 a:List Ze
 p:List Ze
 x:Ze
 r:List Ze
def IsQ.n (q:IsQ):Nat:=q.a.length+q.p.length+1+q.r.length
def IsQ.L (q:IsQ) (m:Nat):List Ze:=isL q.a q.p q.x q.r m
structure IsQ.Ok (q:IsQ) (n:Nat) (A:Nat):Prop where
 hn:q.n=n
 hA:q.a.length=A
 le:n<900000000000
 ok:∀m∈q.L 0,m.Ok
def IsQ.len (q:IsQ):Nat:=q.p.length
structure IsP where
 a:List Ze
 M:List Ze
 c:List Ze
def IsP.L (q:IsP) (t:Nat):List Ze:=q.a++(W1 ltM [] (q.M.take (t+1))++(q.M.drop (t+1)++q.c))
def IsP.N (q:IsP):Nat:=q.M.length-1
def IsP.all (q:IsP):List Ze:=q.a++(q.M++q.c)
structure IsP.Ok (q:IsP) (n A B:Nat):Prop where
 hn:q.a.length+q.M.length+q.c.length=n
 hA:q.a.length=A
 hB:q.a.length+q.M.length=B
 le:n<900000000000
 ok:∀m∈q.all,m.Ok
theorem Z9Q {l acc:List Ze} {z:Ze}:z∈W1 ltM acc l↔z∈acc∨z∈l:=by
 rw [(XR (lt:=ltM)).mem_iff,List.mem_append]
end Go.Tk
end
section
namespace Go.Tk
open IntKind (i64 u8 u32 u64 wrap)
end Go.Tk
end
