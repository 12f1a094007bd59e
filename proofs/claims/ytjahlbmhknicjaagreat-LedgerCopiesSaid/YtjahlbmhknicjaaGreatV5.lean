/- V: part 5 of an engine (a symbolic evaluator, proved against the model) and of the walk by it. -/
import Derived.Test.YtjahlbmhknicjaaGreatV4
set_option linter.unusedVariables false
set_option linter.unusedSimpArgs false
set_option maxRecDepth 100000
set_option maxHeartbeats 0
section
namespace Go.Tk
open IntKind (i64 u8 u32 u64 wrap)
noncomputable def Zcc:Zf:=((((G0.withP 81 Z4Y).withP 79 Zeg).withF 83 Z2G).withF 45 Za7).withF 84 Z7G
theorem Z1p:Zcc.Ok:=Zf.withF_ok (Zf.withF_ok (Zf.withF_ok (Zf.withP_ok (Zf.withP_ok Zr Z41) Z51) Uz) QS) Za6
def Z3j (X:Z6) (n:Nat):Z9:=⟨2,[(0,.flat (X.c (.nslice ⟨1,0,70,0,0⟩ 70 n n))),(1,.rows 70 n (Z4 X.L))]⟩
theorem ZfV (L:List Z5) (h:Z5) (n:Nat) (hn:L.length=n):(∀i,i<n+1→Yn (ZW n (Z4 L) (YC h.c 0 70) i)=true)∧∀i,i<n+1→ZW n (Z4 L) (YC h.c 0 70) i=Z4 (L++[h]) i:=by
 have h2:∀i,i<n+1→ZW n (Z4 L) (YC h.c 0 70) i=Z4 (L++[h]) i:=fun i hi=>Yt hn (fun _ _=>rfl) hi
 exact ⟨fun i hi=>by rw [h2 i hi];exact Xf _ _,h2⟩
structure Z67 (X:Z6):Prop where
 cap:X.t.cap≠0
 side:X.side=0∨X.side=1
 am:Z0q X
 nx:(0≤X.i0∧X.i0≤2147483648)∧0≤X.i1∧X.i1≤2147483648
theorem Z7H (X:Z6) (n:Nat) (id am ex e:Int) (hash:List Int) (hn:X.L.length=n) (hX:Z67 X) (he:e=Xp X true id am hash ex) (hne:e≠0):
  evF Zcc 20 26 [.ptr (some ⟨0,0,0,0,0⟩),.bool true,.int .i64 id,.int .i64 am,.agg [.arr .u8 32 hash],.int .i64 ex] (Z3j X n) (Y7 2 (.ret (.int .i64 e)) 2 [(0,.flat (X.c (.nslice ⟨1,0,70,0,0⟩ 70 n n))),(1,.rows 70 n (Z4 X.L))]):=by
 refine @Eq.mpr _ (let q1:=X.t;
 let q2:=q1.cap;
 let q3:=q1.fund;
 let q4:=q3=q3;
 let q5:=q1.index;
 let q6:=decide (q5=q5);
 let q7:=decide (q2=q2);
 let q8:=q1.dust;
 let q9:=decide (q8=q8);
 let q10:=q1.fee;
 let q11:=decide (q10=q10);
 let q12:=q1.delay;
 let q13:=decide (q12=q12);
 let q14:=q1.k0;
 let q15:=q14=q14;
 let q16:=q1.k1;
 let q17:=q16=q16;
 let q18:=X.side;
 let q19:=decide (q18=q18);
 let q20:=X.res;
 let q21:=decide (q20=q20);
 let q22:=[X.a0,X.a1];
 let q23:=q22=q22;
 let q24:=X.i0;
 let q25:=[X.i1];
 let q26:=q24::q25;
 let q27:=decide (n=n);
 let q28:=Z4 X.L;
 let q29:=q4∧Z0 q6 (Z0 q7 (Z0 q9 (Z0 q11 (Z0 q13 (q15∧q17∧Z0 q19 (Z0 q21 (q23∧q26=q26∧Z0 q27 (Z0 (decide (n≤n)) (Z0 q27 (Za 2 [] n q28 q28∧True) False) False) False) False) False) False) False) False) False) False;
 let q30:=decide (0+n≤n);
 let q31:=ZK 0 q28;
 let q32:=n+1;
 let q33:=YC [AV.bool true,AV.int i64 id,AV.int i64 am,AV.arr u8 32 hash,AV.int i64 ex,AV.int i64 1,AV.int i64 0,AV.arr u8 32 Zd] 0 70;
 Z0 (q2==0) (Z0 (decide (1=e)) q29 False)
 (Z0 q30
 ((∀(i:Nat),i<n→true=true)∧
 ∃(X:Z6),
 let q67:=[AV.arr u8 32 q3,AV.int i64 q5,AV.int i64 q2,AV.int i64 q8,AV.int i64 q10,AV.int i64 q12,AV.arr u8 32 q14,AV.arr u8 32 q16,AV.int i64 q18,AV.int i64 q20,AV.arr i64 2 q22,AV.arr i64 2 q26,AV.vrows 70 n q31 n];
 let q68:=X.side;
 LV q67 X∧
 (0≤q68∧q68≤1)∧
 List.length X.L<1000∧
 Z0 (decide (q24=q24))
 (Z0 q30
 ((∀(i:Nat),i<n→true=true)∧
 ∃(X_1:Z6),
 LV q67 X_1∧
 (0≤X_1.side∧X_1.side≤1)∧
 (q18=0∨q18=1)∧
 Z0q X_1∧
 Z0 (!Yo (Z5.mk true id am hash ex 1 0 Zd)) (Z0 (decide (2=e)) q29 False)
 (Z0 (id !=q24) (Z0 (decide (200=e)) q29 False)
 (Z0 (decide ((↑(List.length (ZQ q68 q18 X.L)):Int)≥8)) (Z0 (decide (201=e)) q29 False)
 (Z0 (decide (Y1 X_1 q18<am)) (Z0 (decide (202=e)) q29 False)
 (Z0 q30 ((∀(i:Nat),i<n→true=true)∧∃(L:List Z5),n=n∧q31=Z4 L∧n<1000000∧Z0 (decide (id=id)) (Z0 (decide (am=am)) (hash=hash∧Z0 (decide (ex=ex)) (Zd=Zd∧Z0 q27 (Z0 (decide (q32*112≤140737488355328)) ((∀(i:Nat),i<q32→Yn (ZW n (Z4 L) q33 i)=true)∧∃(L_1:List Z5),∃(L':List Z5),q32=q32∧(∀(i:Nat),i<q32→ZW n (Z4 L) q33 i=Z4 L_1 i)∧Xw L_1 L' q32∧Z0 (decide (0=e)) (q4∧Z0 q6 (Z0 q7 (Z0 q9 (Z0 q11 (Z0 q13 (q15∧q17∧Z0 q19 (Z0 q21 (q23∧wrap i64 (q24+1)::q25=q26∧False) False) False) False) False) False) False) False) False) False) False) False) False) False) False∧
 Z0 q27 (Z0 q27 (Z0 q30 ((∀(i:Nat),i<n→true=true)∧∃(L:List Z5),n=n∧q31=Z4 L∧n<1000000∧Z0 q27 (Z0 (decide (q32*112≤140737488355328)) ((∀(i:Nat),i<q32→Yn (ZW n (Z4 L) q33 i)=true)∧∃(L_1:List Z5),∃(L':List Z5),q32=q32∧(∀(i:Nat),i<q32→ZW n (Z4 L) q33 i=Z4 L_1 i)∧Xw L_1 L' q32∧Z0 (decide (0=e)) (q4∧Z0 q6 (Z0 q7 (Z0 q9 (Z0 q11 (Z0 q13 (q15∧q17∧Z0 q19 (Z0 q21 (q23∧wrap i64 (q24+1)::q25=q26∧False) False) False) False) False) False) False) False) False) False) False) False) False) False)))))
 False)
 False)
 False)) (by kernel_rfl) ?_
 conv=>zeta
 subst hn
 have hlen:=hX.am.n
 have hs01:0≤X.side∧X.side≤1:=by have:=hX.side;omega
 have hwf:i64.wrap (1-X.side)=1-X.side:=w64 (by omega)
 try rw [hwf]
 have hsf:X.side=0∨X.side=1:=by have:=hX.side;omega
 have hp:Yo ⟨true,id,am,hash,ex,1,0,Zd⟩=Yo (YZ X true id am hash ex):=rfl
 rw [hp]
 try simp only [Zg]
 try simp only [Zi]
 try simp only [Zh]
 try simp only [Zj]
 try simp only [Zk]
 try simp only [Ze]
 try simp only [Int.toNat_natCast,Nat.zero_add,true_and,and_true,Nat.le_refl]
 unfold Xp at he
 have hf:ZP X.side true=X.side:=rfl
 have hnx:X.nx true=X.i0:=rfl
 rw [hf,hnx] at he
 have hR:Za 2 [] X.L.length (Z4 X.L) (Z4 X.L):=Zn fun _ _=>rfl
 refine ⟨fun hc=>absurd hc (by simp [hX.cap]),fun _=>⟨fun _ _=>trivial,X,.a rfl,hs01,hlen,fun _ _=>trivial,X,.a rfl,hs01,hsf,hX.am,fun k=>⟨?_,hR⟩,fun k1=>⟨fun k=>⟨?_,hR⟩,fun k2=>⟨fun k=>⟨?_,hR⟩,fun k3=>⟨fun k=>⟨?_,hR⟩,fun k4=> ?_⟩⟩⟩⟩⟩
 ·rw [he,if_pos (by simpa using k)]
 ·rw [he,if_neg (by simpa using k1),if_pos (by simpa using k)]
 ·rw [he,if_neg (by simpa using k1),if_neg (by simpa using k2),if_pos (by omega)]
 ·rw [he,if_neg (by simpa using k1),if_neg (by simpa using k2),if_neg (by omega),if_pos k]
 ·exact absurd (by rw [he,if_neg (by simpa using k1),if_neg (by simpa using k2),if_neg (by omega),if_neg k4]) hne
theorem Z7I (X X':Z6) (n:Nat) (id am ex:Int) (hash:List Int) (hn:X.L.length=n) (hX:Z67 X) (he:Xp X true id am hash ex=0) (hX':X'=addX X true id am hash ex) (hs:Xw (X.L++[YZ X true id am hash ex]) X'.L (n+1)):
  evF Zcc 20 26 [.ptr (some ⟨0,0,0,0,0⟩),.bool true,.int .i64 id,.int .i64 am,.agg [.arr .u8 32 hash],.int .i64 ex] (Z3j X n) (Y7 2 (.ret (.int .i64 0)) 3 [(0,.flat (X'.c (.nslice ⟨2,0,70,0,0⟩ 70 (n+1) (n+1)))),(2,.rows 70 (n+1) (Z4 X'.L))]):=by
 refine @Eq.mpr _ (let q1:=X.t;
 let q2:=q1.cap;
 let q3:=decide (0+n≤n);
 let q4:=q1.fund;
 let q5:=q1.index;
 let q6:=q1.dust;
 let q7:=q1.fee;
 let q8:=q1.delay;
 let q9:=q1.k0;
 let q10:=q1.k1;
 let q11:=X.side;
 let q12:=[X.a0,X.a1];
 let q13:=X.i0;
 let q14:=[X.i1];
 let q15:=ZK 0 (Z4 X.L);
 let q16:=decide (n=n);
 let q17:=n+1;
 let q18:=YC [AV.bool true,AV.int i64 id,AV.int i64 am,AV.arr u8 32 hash,AV.int i64 ex,AV.int i64 1,AV.int i64 0,AV.arr u8 32 Zd] 0 70;
 let q19:=X'.t;
 let q20:=decide (q17=q17);
 Z0 (q2==0) False
 (Z0 q3
 ((∀(i:Nat),i<n→true=true)∧
 ∃(X_1:Z6),
 let q41:=[AV.arr u8 32 q4,AV.int i64 q5,AV.int i64 q2,AV.int i64 q6,AV.int i64 q7,AV.int i64 q8,AV.arr u8 32 q9,AV.arr u8 32 q10,AV.int i64 q11,AV.int i64 X.res,AV.arr i64 2 q12,AV.arr i64 2 (q13::q14),AV.vrows 70 n q15 n];
 let q42:=X_1.side;
 LV q41 X_1∧
 (0≤q42∧q42≤1)∧
 List.length X_1.L<1000∧
 Z0 (decide (q13=q13))
 (Z0 q3
 ((∀(i:Nat),i<n→true=true)∧
 ∃(X_2:Z6),
 LV q41 X_2∧
 (0≤X_2.side∧X_2.side≤1)∧
 (q11=0∨q11=1)∧
 Z0q X_2∧
 Z0 (!Yo (Z5.mk true id am hash ex 1 0 Zd)) False
 (Z0 (id !=q13) False
 (Z0 (decide ((↑(List.length (ZQ q42 q11 X_1.L)):Int)≥8)) False
 (Z0 (decide (Y1 X_2 q11<am)) False
 (Z0 q3
 ((∀(i:Nat),i<n→true=true)∧
 ∃(L:List Z5),n=n∧q15=Z4 L∧n<1000000∧Z0 (decide (id=id)) (Z0 (decide (am=am)) (hash=hash∧Z0 (decide (ex=ex)) (Zd=Zd∧Z0 q16 (Z0 (decide (q17*112≤140737488355328)) ((∀(i:Nat),i<q17→Yn (ZW n (Z4 L) q18 i)=true)∧∃(L_1:List Z5),∃(L':List Z5),q17=q17∧(∀(i:Nat),i<q17→ZW n (Z4 L) q18 i=Z4 L_1 i)∧Xw L_1 L' q17∧q4=q19.fund∧Z0 (decide (q5=q19.index)) (Z0 (decide (q2=q19.cap)) (Z0 (decide (q6=q19.dust)) (Z0 (decide (q7=q19.fee)) (Z0 (decide (q8=q19.delay)) (q9=q19.k0∧q10=q19.k1∧Z0 (decide (q11=X'.side)) (Z0 (decide (X.res=X'.res)) (q12=[X'.a0,X'.a1]∧wrap i64 (q13+1)::q14=[X'.i0,X'.i1]∧Z0 q20 (Z0 (decide (q17≤q17)) (Z0 q20 (Za 2 [(2,14)] q17 (Z4 X'.L) (Z4 L')∧True) False) False) False) False) False) False) False) False) False) False) False) False) False) False) False)
 False∧
 Z0 q16 (Z0 q16 (Z0 q3 ((∀(i:Nat),i<n→true=true)∧∃(L:List Z5),n=n∧q15=Z4 L∧n<1000000∧Z0 q16 (Z0 (decide (q17*112≤140737488355328)) ((∀(i:Nat),i<q17→Yn (ZW n (Z4 L) q18 i)=true)∧∃(L_1:List Z5),∃(L':List Z5),q17=q17∧(∀(i:Nat),i<q17→ZW n (Z4 L) q18 i=Z4 L_1 i)∧Xw L_1 L' q17∧q4=q19.fund∧Z0 (decide (q5=q19.index)) (Z0 (decide (q2=q19.cap)) (Z0 (decide (q6=q19.dust)) (Z0 (decide (q7=q19.fee)) (Z0 (decide (q8=q19.delay)) (q9=q19.k0∧q10=q19.k1∧Z0 (decide (q11=X'.side)) (Z0 (decide (X.res=X'.res)) (q12=[X'.a0,X'.a1]∧wrap i64 (q13+1)::q14=[X'.i0,X'.i1]∧Z0 q20 (Z0 (decide (q17≤q17)) (Z0 q20 (Za 2 [(2,14)] q17 (Z4 X'.L) (Z4 L')∧True) False) False) False) False) False) False) False) False) False) False) False) False) False) False) False)))))
 False)
 False)
 False)) (by kernel_rfl) ?_
 conv=>zeta
 subst hn
 have hlen:=hX.am.n
 have hs01:0≤X.side∧X.side≤1:=by have:=hX.side;omega
 have hwf:i64.wrap (1-X.side)=1-X.side:=w64 (by omega)
 try rw [hwf]
 have hsf:X.side=0∨X.side=1:=by have:=hX.side;omega
 have hp:Yo ⟨true,id,am,hash,ex,1,0,Zd⟩=Yo (YZ X true id am hash ex):=rfl
 rw [hp]
 have ht:=ZfV X.L (YZ X true id am hash ex) _ rfl
 have hX2:X'={ Xq X true 1 with L:=Xe (YZ X true id am hash ex) X.L}:=by rw [hX'];unfold addX;rw [if_pos he]
 generalize Xe (YZ X true id am hash ex) X.L=L2 at hX2
 subst hX2
 have hwi:i64.wrap (X.i0+1)=X.i0+1:=w64 (by have:=hX.nx;omega)
 try simp only [Zg]
 try simp only [Zi]
 try simp only [Zh]
 try simp only [Zj]
 try simp only [Zk]
 try simp only [Ze]
 try simp only [Int.toNat_natCast,Nat.zero_add,true_and,and_true,Nat.le_refl]
 unfold Xp at he
 have hf:ZP X.side true=X.side:=rfl
 have hnx:X.nx true=X.i0:=rfl
 rw [hf,hnx] at he
 have hno:Yo (YZ X true id am hash ex)=true∧id=X.i0∧¬8≤(ZQ X.side (X.side) X.L).length∧¬Y1 X (X.side)<am:=by
  split at he
  ·cases he
  ·rename_i q1
   split at he
   ·cases he
   ·rename_i q2
    split at he
    ·cases he
    ·rename_i q3
     split at he
     ·cases he
     ·rename_i q4
      exact ⟨by simpa using q1,by simpa using q2,q3,q4⟩
 obtain ⟨k1,k2,k3,k4⟩:=hno
 have hR:∀τ,Za 2 τ (X.L.length+1) (Z4 L2) (Z4 L2):=fun τ=>Zn fun _ _=>rfl
 have hcap:=hX.cap
 have k3':¬((ZQ X.side (X.side) X.L).length:Int)≥8:=by omega
 refine ⟨by simp [hcap],fun _ _=>trivial,X,.a rfl,hs01,hlen,fun _ _=>trivial,X,.a rfl,hs01,hsf,hX.am,by simp [k1],by simp [k2],k3',k4, ?_, ?_⟩
 all_goals exact ⟨fun _ _=>trivial,X.L,rfl,by omega,by omega,ht.1,X.L++[YZ X true id am hash ex],L2,ht.2,hs,rfl,rfl,rfl,rfl,rfl,rfl,rfl,rfl,rfl,rfl,rfl,by rw [hwi];rfl,hR _⟩
theorem Z68 (X:Z6) (n:Nat) (id am ex e:Int) (hash:List Int) (hn:X.L.length=n) (hX:Z67 X) (he:e=Xp X false id am hash ex) (hne:e≠0):
  evF Zcc 20 26 [.ptr (some ⟨0,0,0,0,0⟩),.bool false,.int .i64 id,.int .i64 am,.agg [.arr .u8 32 hash],.int .i64 ex] (Z3j X n) (Y7 2 (.ret (.int .i64 e)) 2 [(0,.flat (X.c (.nslice ⟨1,0,70,0,0⟩ 70 n n))),(1,.rows 70 n (Z4 X.L))]):=by
 refine @Eq.mpr _ (let q1:=X.t;
 let q2:=q1.cap;
 let q3:=q1.fund;
 let q4:=q3=q3;
 let q5:=q1.index;
 let q6:=decide (q5=q5);
 let q7:=decide (q2=q2);
 let q8:=q1.dust;
 let q9:=decide (q8=q8);
 let q10:=q1.fee;
 let q11:=decide (q10=q10);
 let q12:=q1.delay;
 let q13:=decide (q12=q12);
 let q14:=q1.k0;
 let q15:=q14=q14;
 let q16:=q1.k1;
 let q17:=q16=q16;
 let q18:=X.side;
 let q19:=decide (q18=q18);
 let q20:=X.res;
 let q21:=decide (q20=q20);
 let q22:=[X.a0,X.a1];
 let q23:=q22=q22;
 let q24:=X.i1;
 let q25:=[X.i0,q24];
 let q26:=decide (n=n);
 let q27:=Z4 X.L;
 let q28:=q4∧Z0 q6 (Z0 q7 (Z0 q9 (Z0 q11 (Z0 q13 (q15∧q17∧Z0 q19 (Z0 q21 (q23∧q25=q25∧Z0 q26 (Z0 (decide (n≤n)) (Z0 q26 (Za 2 [] n q27 q27∧True) False) False) False) False) False) False) False) False) False) False;
 let q29:=decide (0+n≤n);
 let q30:=ZK 0 q27;
 let q31:=wrap i64 (1-q18);
 let q32:=n+1;
 let q33:=YC [AV.bool false,AV.int i64 id,AV.int i64 am,AV.arr u8 32 hash,AV.int i64 ex,AV.int i64 1,AV.int i64 0,AV.arr u8 32 Zd] 0 70;
 Z0 (q2==0) (Z0 (decide (1=e)) q28 False)
 (Z0 q29
 ((∀(i:Nat),i<n→true=true)∧
 ∃(X_1:Z6),
 let q67:=[AV.arr u8 32 q3,AV.int i64 q5,AV.int i64 q2,AV.int i64 q8,AV.int i64 q10,AV.int i64 q12,AV.arr u8 32 q14,AV.arr u8 32 q16,AV.int i64 q18,AV.int i64 q20,AV.arr i64 2 q22,AV.arr i64 2 q25,AV.vrows 70 n q30 n];
 let q68:=X_1.side;
 LV q67 X_1∧
 (0≤q68∧q68≤1)∧
 List.length X_1.L<1000∧
 Z0 (decide (q24=q24))
 (Z0 q29
 ((∀(i:Nat),i<n→true=true)∧
 ∃(X_2:Z6),
 LV q67 X_2∧
 (0≤X_2.side∧X_2.side≤1)∧
 (q31=0∨q31=1)∧
 Z0q X_2∧
 Z0 (!Yo (Z5.mk false id am hash ex 1 0 Zd)) (Z0 (decide (2=e)) q28 False)
 (Z0 (id !=q24) (Z0 (decide (200=e)) q28 False)
 (Z0 (decide ((↑(List.length (ZQ q68 q31 X_1.L)):Int)≥8)) (Z0 (decide (201=e)) q28 False)
 (Z0 (decide (Y1 X_2 q31<am)) (Z0 (decide (202=e)) q28 False)
 (Z0 q29 ((∀(i:Nat),i<n→true=true)∧∃(L:List Z5),n=n∧q30=Z4 L∧n<1000000∧Z0 (decide (id=id)) (Z0 (decide (am=am)) (hash=hash∧Z0 (decide (ex=ex)) (Zd=Zd∧Z0 q26 (Z0 (decide (q32*112≤140737488355328)) ((∀(i:Nat),i<q32→Yn (ZW n (Z4 L) q33 i)=true)∧∃(L_1:List Z5),∃(L':List Z5),q32=q32∧(∀(i:Nat),i<q32→ZW n (Z4 L) q33 i=Z4 L_1 i)∧Xw L_1 L' q32∧Z0 (decide (0=e)) (q4∧Z0 q6 (Z0 q7 (Z0 q9 (Z0 q11 (Z0 q13 (q15∧q17∧Z0 q19 (Z0 q21 (q23∧[X.i0,wrap i64 (q24+1)]=q25∧False) False) False) False) False) False) False) False) False) False) False) False) False) False) False∧
 Z0 q26 (Z0 q26 (Z0 q29 ((∀(i:Nat),i<n→true=true)∧∃(L:List Z5),n=n∧q30=Z4 L∧n<1000000∧Z0 q26 (Z0 (decide (q32*112≤140737488355328)) ((∀(i:Nat),i<q32→Yn (ZW n (Z4 L) q33 i)=true)∧∃(L_1:List Z5),∃(L':List Z5),q32=q32∧(∀(i:Nat),i<q32→ZW n (Z4 L) q33 i=Z4 L_1 i)∧Xw L_1 L' q32∧Z0 (decide (0=e)) (q4∧Z0 q6 (Z0 q7 (Z0 q9 (Z0 q11 (Z0 q13 (q15∧q17∧Z0 q19 (Z0 q21 (q23∧[X.i0,wrap i64 (q24+1)]=q25∧False) False) False) False) False) False) False) False) False) False) False) False) False) False)))))
 False)
 False)
 False)) (by kernel_rfl) ?_
 conv=>zeta
 subst hn
 have hlen:=hX.am.n
 have hs01:0≤X.side∧X.side≤1:=by have:=hX.side;omega
 have hwf:i64.wrap (1-X.side)=1-X.side:=w64 (by omega)
 try rw [hwf]
 have hsf:1-X.side=0∨1-X.side=1:=by have:=hX.side;omega
 have hp:Yo ⟨false,id,am,hash,ex,1,0,Zd⟩=Yo (YZ X false id am hash ex):=rfl
 rw [hp]
 try simp only [Zg]
 try simp only [Zi]
 try simp only [Zh]
 try simp only [Zj]
 try simp only [Zk]
 try simp only [Ze]
 try simp only [Int.toNat_natCast,Nat.zero_add,true_and,and_true,Nat.le_refl]
 unfold Xp at he
 have hf:ZP X.side false=1-X.side:=rfl
 have hnx:X.nx false=X.i1:=rfl
 rw [hf,hnx] at he
 have hR:Za 2 [] X.L.length (Z4 X.L) (Z4 X.L):=Zn fun _ _=>rfl
 refine ⟨fun hc=>absurd hc (by simp [hX.cap]),fun _=>⟨fun _ _=>trivial,X,.a rfl,hs01,hlen,fun _ _=>trivial,X,.a rfl,hs01,hsf,hX.am,fun k=>⟨?_,hR⟩,fun k1=>⟨fun k=>⟨?_,hR⟩,fun k2=>⟨fun k=>⟨?_,hR⟩,fun k3=>⟨fun k=>⟨?_,hR⟩,fun k4=> ?_⟩⟩⟩⟩⟩
 ·rw [he,if_pos (by simpa using k)]
 ·rw [he,if_neg (by simpa using k1),if_pos (by simpa using k)]
 ·rw [he,if_neg (by simpa using k1),if_neg (by simpa using k2),if_pos (by omega)]
 ·rw [he,if_neg (by simpa using k1),if_neg (by simpa using k2),if_neg (by omega),if_pos k]
 ·exact absurd (by rw [he,if_neg (by simpa using k1),if_neg (by simpa using k2),if_neg (by omega),if_neg k4]) hne
theorem Z69 (X X':Z6) (n:Nat) (id am ex:Int) (hash:List Int) (hn:X.L.length=n) (hX:Z67 X) (he:Xp X false id am hash ex=0) (hX':X'=addX X false id am hash ex) (hs:Xw (X.L++[YZ X false id am hash ex]) X'.L (n+1)):
  evF Zcc 20 26 [.ptr (some ⟨0,0,0,0,0⟩),.bool false,.int .i64 id,.int .i64 am,.agg [.arr .u8 32 hash],.int .i64 ex] (Z3j X n) (Y7 2 (.ret (.int .i64 0)) 3 [(0,.flat (X'.c (.nslice ⟨2,0,70,0,0⟩ 70 (n+1) (n+1)))),(2,.rows 70 (n+1) (Z4 X'.L))]):=by
 refine @Eq.mpr _ (let q1:=X.t;
 let q2:=q1.cap;
 let q3:=decide (0+n≤n);
 let q4:=q1.fund;
 let q5:=q1.index;
 let q6:=q1.dust;
 let q7:=q1.fee;
 let q8:=q1.delay;
 let q9:=q1.k0;
 let q10:=q1.k1;
 let q11:=X.side;
 let q12:=[X.a0,X.a1];
 let q13:=X.i1;
 let q14:=ZK 0 (Z4 X.L);
 let q15:=wrap i64 (1-q11);
 let q16:=decide (n=n);
 let q17:=n+1;
 let q18:=YC [AV.bool false,AV.int i64 id,AV.int i64 am,AV.arr u8 32 hash,AV.int i64 ex,AV.int i64 1,AV.int i64 0,AV.arr u8 32 Zd] 0 70;
 let q19:=X'.t;
 let q20:=decide (q17=q17);
 Z0 (q2==0) False
 (Z0 q3
 ((∀(i:Nat),i<n→true=true)∧
 ∃(X_1:Z6),
 let q41:=[AV.arr u8 32 q4,AV.int i64 q5,AV.int i64 q2,AV.int i64 q6,AV.int i64 q7,AV.int i64 q8,AV.arr u8 32 q9,AV.arr u8 32 q10,AV.int i64 q11,AV.int i64 X.res,AV.arr i64 2 q12,AV.arr i64 2 [X.i0,q13],AV.vrows 70 n q14 n];
 let q42:=X_1.side;
 LV q41 X_1∧
 (0≤q42∧q42≤1)∧
 List.length X_1.L<1000∧
 Z0 (decide (q13=q13))
 (Z0 q3
 ((∀(i:Nat),i<n→true=true)∧
 ∃(X_2:Z6),
 LV q41 X_2∧
 (0≤X_2.side∧X_2.side≤1)∧
 (q15=0∨q15=1)∧
 Z0q X_2∧
 Z0 (!Yo (Z5.mk false id am hash ex 1 0 Zd)) False
 (Z0 (id !=q13) False
 (Z0 (decide ((↑(List.length (ZQ q42 q15 X_1.L)):Int)≥8)) False
 (Z0 (decide (Y1 X_2 q15<am)) False
 (Z0 q3
 ((∀(i:Nat),i<n→true=true)∧
 ∃(L:List Z5),n=n∧q14=Z4 L∧n<1000000∧Z0 (decide (id=id)) (Z0 (decide (am=am)) (hash=hash∧Z0 (decide (ex=ex)) (Zd=Zd∧Z0 q16 (Z0 (decide (q17*112≤140737488355328)) ((∀(i:Nat),i<q17→Yn (ZW n (Z4 L) q18 i)=true)∧∃(L_1:List Z5),∃(L':List Z5),q17=q17∧(∀(i:Nat),i<q17→ZW n (Z4 L) q18 i=Z4 L_1 i)∧Xw L_1 L' q17∧q4=q19.fund∧Z0 (decide (q5=q19.index)) (Z0 (decide (q2=q19.cap)) (Z0 (decide (q6=q19.dust)) (Z0 (decide (q7=q19.fee)) (Z0 (decide (q8=q19.delay)) (q9=q19.k0∧q10=q19.k1∧Z0 (decide (q11=X'.side)) (Z0 (decide (X.res=X'.res)) (q12=[X'.a0,X'.a1]∧[X.i0,wrap i64 (q13+1)]=[X'.i0,X'.i1]∧Z0 q20 (Z0 (decide (q17≤q17)) (Z0 q20 (Za 2 [(2,14)] q17 (Z4 X'.L) (Z4 L')∧True) False) False) False) False) False) False) False) False) False) False) False) False) False) False) False)
 False∧
 Z0 q16 (Z0 q16 (Z0 q3 ((∀(i:Nat),i<n→true=true)∧∃(L:List Z5),n=n∧q14=Z4 L∧n<1000000∧Z0 q16 (Z0 (decide (q17*112≤140737488355328)) ((∀(i:Nat),i<q17→Yn (ZW n (Z4 L) q18 i)=true)∧∃(L_1:List Z5),∃(L':List Z5),q17=q17∧(∀(i:Nat),i<q17→ZW n (Z4 L) q18 i=Z4 L_1 i)∧Xw L_1 L' q17∧q4=q19.fund∧Z0 (decide (q5=q19.index)) (Z0 (decide (q2=q19.cap)) (Z0 (decide (q6=q19.dust)) (Z0 (decide (q7=q19.fee)) (Z0 (decide (q8=q19.delay)) (q9=q19.k0∧q10=q19.k1∧Z0 (decide (q11=X'.side)) (Z0 (decide (X.res=X'.res)) (q12=[X'.a0,X'.a1]∧[X.i0,wrap i64 (q13+1)]=[X'.i0,X'.i1]∧Z0 q20 (Z0 (decide (q17≤q17)) (Z0 q20 (Za 2 [(2,14)] q17 (Z4 X'.L) (Z4 L')∧True) False) False) False) False) False) False) False) False) False) False) False) False) False) False) False)))))
 False)
 False)
 False)) (by kernel_rfl) ?_
 conv=>zeta
 subst hn
 have hlen:=hX.am.n
 have hs01:0≤X.side∧X.side≤1:=by have:=hX.side;omega
 have hwf:i64.wrap (1-X.side)=1-X.side:=w64 (by omega)
 try rw [hwf]
 have hsf:1-X.side=0∨1-X.side=1:=by have:=hX.side;omega
 have hp:Yo ⟨false,id,am,hash,ex,1,0,Zd⟩=Yo (YZ X false id am hash ex):=rfl
 rw [hp]
 have ht:=ZfV X.L (YZ X false id am hash ex) _ rfl
 have hX2:X'={ Xq X false 1 with L:=Xe (YZ X false id am hash ex) X.L}:=by rw [hX'];unfold addX;rw [if_pos he]
 generalize Xe (YZ X false id am hash ex) X.L=L2 at hX2
 subst hX2
 have hwi:i64.wrap (X.i1+1)=X.i1+1:=w64 (by have:=hX.nx;omega)
 try simp only [Zg]
 try simp only [Zi]
 try simp only [Zh]
 try simp only [Zj]
 try simp only [Zk]
 try simp only [Ze]
 try simp only [Int.toNat_natCast,Nat.zero_add,true_and,and_true,Nat.le_refl]
 unfold Xp at he
 have hf:ZP X.side false=1-X.side:=rfl
 have hnx:X.nx false=X.i1:=rfl
 rw [hf,hnx] at he
 have hno:Yo (YZ X false id am hash ex)=true∧id=X.i1∧¬8≤(ZQ X.side (1-X.side) X.L).length∧¬Y1 X (1-X.side)<am:=by
  split at he
  ·cases he
  ·rename_i q1
   split at he
   ·cases he
   ·rename_i q2
    split at he
    ·cases he
    ·rename_i q3
     split at he
     ·cases he
     ·rename_i q4
      exact ⟨by simpa using q1,by simpa using q2,q3,q4⟩
 obtain ⟨k1,k2,k3,k4⟩:=hno
 have hR:∀τ,Za 2 τ (X.L.length+1) (Z4 L2) (Z4 L2):=fun τ=>Zn fun _ _=>rfl
 have hcap:=hX.cap
 have k3':¬((ZQ X.side (1-X.side) X.L).length:Int)≥8:=by omega
 refine ⟨by simp [hcap],fun _ _=>trivial,X,.a rfl,hs01,hlen,fun _ _=>trivial,X,.a rfl,hs01,hsf,hX.am,by simp [k1],by simp [k2],k3',k4, ?_, ?_⟩
 all_goals exact ⟨fun _ _=>trivial,X.L,rfl,by omega,by omega,ht.1,X.L++[YZ X false id am hash ex],L2,ht.2,hs,rfl,rfl,rfl,rfl,rfl,rfl,rfl,rfl,rfl,rfl,rfl,by rw [hwi];rfl,hR _⟩
end Go.Tk
end
section
namespace Go.Tk
open IntKind (i64 u8 u32 u64 wrap)
def WD (a b:Z5):Prop:=Wl a<Wl b∨(Wl a=Wl b∧a.id<b.id)
theorem Zcd {a b:Z5} (h:Xo a b):WD a b:=by
 unfold Xo at h
 unfold WD Wl
 rcases h with ⟨h1,h2⟩|⟨h1,h2,_⟩
 ·rw [h1,h2];exact .inl (by decide)
 ·rw [h1];exact .inr ⟨rfl,h2⟩
theorem UA (h:Z5):∀(L:List Z5),(Xe h L).Perm (L++[h])
 | []=>.refl _
 | x::r=>by
  unfold Xe
  split
  ·exact (List.perm_append_comm (l₁:=[h]) (l₂:=x::r))
  ·exact (UA h r).cons x
theorem QT {h z:Z5} {L:List Z5}:z∈Xe h L↔z∈L∨z=h:=by
 rw [(UA h L).mem_iff];simp
theorem Z2J (h:Z5) (L:List Z5):(Xe h L).length=L.length+1:=by
 rw [(UA h L).length_eq];simp
theorem Z43 {h:Z5}:∀{L:List Z5},L.Pairwise WD→(∀x∈L,x.own=h.own→x.id<h.id)→(Xe h L).Pairwise WD
 | [],_,_=>by simp [Xe]
 | x::r,hp,hx=>by
  obtain ⟨h1,h2⟩:=List.pairwise_cons.1 hp
  unfold Xe
  split
  ·rename_i hc
   refine List.pairwise_cons.2 ⟨fun y hy=> ?_,hp⟩
   have kx:Wl x=1:=by unfold Wl;rw [hc.2]
   have kh:Wl h=0:=by unfold Wl;rw [hc.1]
   rcases List.mem_cons.1 hy with rfl|hy
   ·exact .inl (by omega)
   ·have:=h1 y hy
    unfold WD at*
    omega
  ·rename_i hc
   refine List.pairwise_cons.2 ⟨fun y hy=> ?_,Z43 h2 fun z hz=>hx z (by simp [hz])⟩
   rcases QT.1 hy with hy|rfl
   ·exact h1 y hy
   ·have:=hx x (by simp)
    unfold WD Wl
    cases hxo:x.own<;>cases hyo:y.own<;>simp_all
theorem Z2K:∀{L:List Z5},L.Pairwise WD→∀a∈L,∀b∈L,a=b∨WD a b∨WD b a
 | [],_,a,ha,_,_=>by cases ha
 | x::r,hp,a,ha,b,hb=>by
  obtain ⟨h1,h2⟩:=List.pairwise_cons.1 hp
  rcases List.mem_cons.1 ha with e1|e1<;>rcases List.mem_cons.1 hb with e2|e2
  ·exact .inl (e1.trans e2.symm)
  ·rw [e1];exact .inr (.inl (h1 b e2))
  ·rw [e2];exact .inr (.inr (h1 a e1))
  ·exact Z2K h2 a e1 b e2
theorem Zce {L:List Z5} (h:L.Pairwise WD):Z7F ltH L:=
 h.imp fun {a b} hab=>by
  rw [Z0s]
  unfold WD at hab
  omega
theorem Z8K {side:Int} (hs:side=0∨side=1):∀(L:List Z5),(ZQ side 0 L).length+(ZQ side 1 L).length=L.length
 | []=>rfl
 | x::r=>by
  have ih:=Z8K hs r
  unfold ZQ at*
  simp only [List.filter_cons,List.length_cons]
  have:(ZP side x.own=0∧¬ZP side x.own=1)∨(¬ZP side x.own=0∧ZP side x.own=1):=by
   unfold ZP
   rcases hs with rfl|rfl<;>cases x.own<;>simp
  rcases this with ⟨h1,h2⟩|⟨h1,h2⟩
  ·rw [decide_eq_true h1,decide_eq_false h2];simp;omega
  ·rw [decide_eq_false h1,decide_eq_true h2];simp;omega
theorem Z6.Inv.len {H:List Int→List Int} {X:Z6} (h:X.Inv H):X.L.length≤16:=by
 have:=Z8K h.side X.L
 have:=h.n0
 have:=h.n1
 omega
theorem Z6.Inv.am {H:List Int→List Int} {X:Z6} (h:X.Inv H):Z0q X:=Z8I (by have:=h.len;omega) h.tb h.res h.a0 h.a1 h.und
theorem Z6.Inv.add {H:List Int→List Int} {X:Z6} (h:X.Inv H):Z67 X:=
 ⟨by have:=ZZ h.tb;omega,h.side,h.am,h.i0,h.i1⟩
theorem Z6.Inv.less {H:List Int→List Int} {X:Z6} (h:X.Inv H):X.L.Pairwise WD:=h.fol.imp fun hab=>Zcd hab
theorem YH {H:List Int→List Int} {X:Z6} {h:Z5} (hu:XN H X h=true):Yo h=true∧h.id<X.nx h.own∧(1≤h.stage∧h.stage≤9)∧Z0n H h=true:=by
 unfold XN at hu
 simp only [Bool.and_eq_true,decide_eq_true_eq] at hu
 exact ⟨hu.1.1.1,hu.1.1.2,hu.1.2,hu.2⟩
theorem Z0t {X:Z6} {own:Bool} {id am ex:Int} {hash:List Int} (he:Xp X own id am hash ex=0):Yo (YZ X own id am hash ex)=true∧id=X.nx own∧(ZQ X.side (ZP X.side own) X.L).length<8∧am≤Y1 X (ZP X.side own):=by
 unfold Xp at he
 split at he
 ·cases he
 ·rename_i q1
  split at he
  ·cases he
  ·rename_i q2
   split at he
   ·cases he
   ·rename_i q3
    split at he
    ·cases he
    ·rename_i q4
     exact ⟨by simpa using q1,by simpa using q2,by omega,by omega⟩
theorem Z6.Inv.sort {H:List Int→List Int} {X:Z6} (h:X.Inv H) {own:Bool} {id am ex:Int} {hash:List Int} (he:Xp X own id am hash ex=0):Xw (X.L++[YZ X own id am hash ex]) (Xe (YZ X own id am hash ex) X.L) (X.L.length+1):=by
 obtain ⟨_,hid,_,_⟩:=Z0t he
 have hl:(Xe (YZ X own id am hash ex) X.L).Pairwise WD:=Z43 h.less fun x hx ho=>by
  have:=(YH (h.und x hx)).2.1
  rw [ho] at this
  show x.id<id
  rw [hid];exact this
 refine ⟨by simp,Nat.succ_pos _,by have:=h.len;omega,UA _ _,Zce hl,fun a ha b hb h1 h2=> ?_⟩
 rw [Z0s] at h1 h2
 rcases Z2K hl a ha b hb with e|e|e
 ·exact e
 ·exact absurd e h1
 ·exact absurd e h2
end Go.Tk
end
section
namespace Go.Tk
open IntKind (i64 u8 u32 u64 wrap)
structure LB (cs:List AV) (n:Nat) (f:Nat→List AV) (X:Z6):Prop where
 h1:cs=X.c (.nslice ⟨1,0,70,0,0⟩ 70 n n)
 h2:f=Z4 X.L
 h3:n=X.L.length
def Zhc (H:List Int→List Int) (c:Bool):Ye:=fun args h K=>match args with
 | [.ptr (some ⟨l,0,0,0,0⟩),_,_,_,_,_]=>match h.get l with
  |some (.flat [_,_,_,_,_,_,_,_,_,_,_,_,.nslice ⟨b,0,70,0,0⟩ 70 _ _])=>frA [l,b] h 20 args fun Bs a=>match Bs,a with
   | [.flat cs,.rows 70 n f],[.ptr (some ⟨0,0,0,0,0⟩),.bool own,.int .i64 id,.int .i64 am,.agg [.arr .u8 32 hash],.int .i64 ex]=>
    ∃X,LB cs n f X∧X.Inv H∧(match c with
     | true=>Xp X own id am hash ex=0∧K (.ret (.int .i64 0)) ⟨h.next+1,(l,.flat ((addX X own id am hash ex).c (.nslice ⟨h.next,0,70,0,0⟩ 70 (X.L.length+1) (X.L.length+1))))::(h.next,.rows 70 (X.L.length+1) (Z4 (addX X own id am hash ex).L))::Yw (Yw h.bs l) b⟩
     | false=>Xp X own id am hash ex≠0∧K (.ret (.int .i64 (Xp X own id am hash ex))) ⟨h.next,(l,.flat (X.c (.nslice ⟨b,0,70,0,0⟩ 70 X.L.length X.L.length)))::(b,.rows 70 X.L.length (Z4 X.L))::Yw (Yw h.bs l) b⟩)
   | _,_=>False
  | _=>False
 | _=>False
theorem Zet {H:List Int→List Int} (c:Bool) (args:List AV) (h:Z9) (K:KO) (hl:Zhc H c args h K):Zm PP 26 args h K:=by
 unfold Zhc at hl
 split at hl
 ·split at hl
  ·refine Spec.fsumm hl fun Bs a hlen hK0=> ?_
   split at hK0
   ·rename_i cs n f own id am hash ex
    obtain ⟨X,⟨rfl,rfl,rfl⟩,hI,hK⟩:=hK0
    cases c with
    | true=>
     obtain ⟨he,hK1⟩:=hK
     have hs:Xw (X.L++[YZ X own id am hash ex]) (addX X own id am hash ex).L (X.L.length+1):=by
      have:=hI.sort he
      unfold addX
      rw [if_pos he]
      exact this
     cases own with
     | true=>exact ⟨_,_,_,_,_,.evM Z1p (Z7I X _ _ id am ex hash rfl hI.add he rfl hs),by simp,.ret _ _ rfl,.cons _ _ _ _ _ _ rfl (.flat _ _ rfl) (.cons _ _ _ _ _ _ rfl (.rows _ _ _ (fun _ _=>rfl)) .nil),hK1⟩
     | false=>exact ⟨_,_,_,_,_,.evM Z1p (Z69 X _ _ id am ex hash rfl hI.add he rfl hs),by simp,.ret _ _ rfl,.cons _ _ _ _ _ _ rfl (.flat _ _ rfl) (.cons _ _ _ _ _ _ rfl (.rows _ _ _ (fun _ _=>rfl)) .nil),hK1⟩
    | false=>
     obtain ⟨he,hK2⟩:=hK
     cases own with
     | true=>exact ⟨_,_,_,_,_,.evM Z1p (Z7H X _ id am ex _ hash rfl hI.add rfl he),by simp,.ret _ _ rfl,.cons _ _ _ _ _ _ rfl (.flat _ _ rfl) (.cons _ _ _ _ _ _ rfl (.rows _ _ _ (fun _ _=>rfl)) .nil),hK2⟩
     | false=>exact ⟨_,_,_,_,_,.evM Z1p (Z68 X _ id am ex _ hash rfl hI.add rfl he),by simp,.ret _ _ rfl,.cons _ _ _ _ _ _ rfl (.flat _ _ rfl) (.cons _ _ _ _ _ _ rfl (.rows _ _ _ (fun _ _=>rfl)) .nil),hK2⟩
   ·exact hK0.elim
  ·exact hl.elim
 ·exact hl.elim
end Go.Tk
end
section
namespace Go.Tk
open IntKind (i64 u8 u32 u64 wrap)
def isP (own:Bool) (id:Int) (p:Z5):Prop:=p.own=own∧p.id=id
theorem Z2L {own:Bool} {id:Int}:∀{L:List Z5},(∀j,j<L.length→¬isP own id (L.getD j Z7))→ZB own id L=L.length
 | [],_=>rfl
 | x::r,h=>by
  unfold ZB
  have h0:¬(x.own=own∧x.id=id):=h 0 (by simp)
  rw [if_neg h0,Z2L fun j hj=>by have:=h (j+1) (by simpa using hj);rwa [List.getD_cons_succ] at this]
  rfl
theorem Z2M {own:Bool} {id:Int}:∀{L:List Z5} {i:Nat},i<L.length→(∀j,j<i→¬isP own id (L.getD j Z7))→isP own id (L.getD i Z7)→ZB own id L=i
 | [],i,hi,_,_=>by simp at hi
 | x::r,0,_,_,h=>by
  unfold ZB
  exact if_pos h
 | x::r,i+1,hi,hn,h=>by
  unfold ZB
  have h0:¬(x.own=own∧x.id=id):=hn 0 (Nat.succ_pos _)
  rw [if_neg h0,Z2M (i:=i) (by simpa using hi) (fun j hj=>by have:=hn (j+1) (by omega);rwa [List.getD_cons_succ] at this) (by rwa [List.getD_cons_succ] at h)]
def fiV (own:Bool) (id:Int) (L:List Z5):Int:=if ZB own id L<L.length then (ZB own id L:Int) else -1
theorem Zin (p:Z5) (own:Bool) (id:Int) (b:Bool) (hb:b=decide (p.own=own∧p.id=id)):
  evF G0 20 185 [.agg p.c,.pview [.bool own] 0,.pview [.int .i64 id] 0] ⟨0,[]⟩ (Y8 (fun v=>v=.bool b)):=by
 refine @Eq.mpr _ (Z0 (p.own==own) (AV.bool (p.id==id)=AV.bool b) (AV.bool false=AV.bool b)) (by kernel_rfl) ?_
 subst hb
 simp only [Vm]
 congr 1
 by_cases h1:p.own=own<;>by_cases h2:p.id=id<;>simp [h1,h2]
def Zio:ZN:=fun args h K=>ZO none h true 20 args fun a=>match a with
 | [.agg [.bool ow,.int .i64 i,.int .i64 am,.arr .u8 32 ha,.int .i64 ex,.int .i64 st,.int .i64 en,.arr .u8 32 se],.pview [.bool own] 0,.pview [.int .i64 id] 0]=>K (.bool (decide (ow=own∧i=id)))
 | _=>False
theorem Zeu (args:List AV) (h:Z9) (K:AV→Prop) (hl:Zio args h K):Zm PP 185 args h fun o h'=>∃v,o=.ret v∧h'=h∧K v:=by
 refine Zw.psumm (d:=20) (Zq _ _ _ _ _ hl fun a ha=> ?_)
 split at ha
 ·rename_i ow i am ha' ex st en se own id
  exact ⟨_,Zw.evV Zr (Zin ⟨ow,i,am,ha',ex,st,en,se⟩ own id _ rfl),fun _=>rfl,ha⟩
 ·exact ha.elim
noncomputable def Zhd:Zf:=G0.withP 185 Zio
theorem Zev:Zhd.Ok:=Zf.withP_ok Zr Zeu
def fdC (own:Bool) (id:Int):AV:=.func (.func 185) [] [.pview [.bool own] 0,.pview [.int .i64 id] 0]
def fiS (L:List Z5) (own:Bool) (id:Int) (n i:Nat):St:=⟨19,[(8,.int .i64 i),(7,.int .i64 n),(1,fdC own id),(0,.vrows 70 n (Z4 L) n)],⟨0,[]⟩,[]⟩
def fiE:St:=⟨19,[],⟨0,[]⟩,[]⟩
def fiR (i:Nat):St:=⟨19,[(4,.int .i64 i)],⟨0,[]⟩,[]⟩
theorem Zkh (L:List Z5) (own:Bool) (id:Int) (n i:Nat) (Z1 Z2 Z3:Prop) (hn:n<1000) (hL:L.length=n) (hi:i≤n) (h1:i<n→¬isP own id (L.getD i Z7)→Z1) (h2:i=n→Z2) (h3:i<n→isP own id (L.getD i Z7)→Z3):
  ZI Zhd 20 155 0 0 (fiS L own id n i) (rdM 0 0 9 (fiS L own id n (i+1)) fiE (fiR i) (fiR i) Z1 Z2 Z3 False):=by
 refine @Eq.mpr _ (let q1:=List.getD L (Int.toNat (↑i:Int)) Z7;
 let q2:=[AV.bool own];
 let q3:=[AV.int i64 id];
 let q4:=decide (n=n);
 Z0 (decide ((↑i:Int)<(↑n:Int))) (Z0 (decide (0≤(↑i:Int)∧(↑i:Int)<(↑n:Int))) (Z0 (decide (q1.own=own∧q1.id=id)) (Z0 (decide ((↑i:Int)=(↑i:Int))) Z3 False) (Z0 (decide (wrap i64 ((↑i:Int)+1)=(↑(i+1):Int))) (Z0 (decide ((↑n:Int)=(↑n:Int))) (q2=q2∧q3=q3∧Z0 q4 (Z4 L=Z4 L∧Z0 q4 Z1 False) False) False) False)) False) Z2) (by kernel_rfl) ?_
 conv=>zeta
 try simp only [Zg]
 try simp only [Zi]
 try simp only [Zh]
 try simp only [Zj]
 try simp only [Zk]
 try simp only [Ze]
 try simp only [Int.toNat_natCast,Nat.zero_add,true_and,and_true,Nat.le_refl]
 refine ⟨fun hc=> ?_,fun hc=>h2 (by omega)⟩
 have hlt:i<n:=by omega
 have hwr:i64.wrap ((i:Int)+1)=((i+1:Nat):Int):=by rw [w64 (by omega)];omega
 refine ⟨by omega,fun hm=>h3 hlt hm,fun hm=> ?_⟩
 have:=h1 hlt hm
 repeat' apply And.intro
 all_goals first|omega|exact hwr|exact this|rfl
noncomputable def ZfW (L:List Z5) (own:Bool) (id:Int) (n:Nat):Zf:=Zhd.withL 155 0 (goM 0 (fiS L own id n 0) (n<1000∧L.length=n) (Ys 0 n 9 (fun i=>¬isP own id (L.getD i Z7)∧i<n) (fun i=>i=n) (fun i=>i<n∧isP own id (L.getD i Z7)) (fun _=>False) (fun _=>fiE) (fun i=>fiR i) (fun i=>fiR i)))
theorem Zcf (L:List Z5) (own:Bool) (id:Int) (n:Nat):(ZfW L own id n).Ok:=
 Zf.withGoM (N:=20) (S:=fun i=>fiS L own id n i) Zev (by kernel_rfl) fun hC=>⟨rfl,fun i hi _=>Zkh L own id n i _ _ _ hC.1 hC.2 hi (fun h h'=>⟨⟨h',h⟩,h⟩) (fun h=>h) (fun h h'=>⟨h,h'⟩)⟩
theorem Zki (L:List Z5) (own:Bool) (id:Int) (n:Nat) (r:Int) (hL:L.length=n) (hn:n<1000) (hr:r=fiV own id L):
  evF (ZfW L own id n) 20 155 [.vrows 70 n (Z4 L) n,fdC own id] ⟨0,[]⟩ (Y8 (fun v=>v=.int .i64 r)):=by
 refine @Eq.mpr _ (let q1:=[AV.bool own];
 let q2:=[AV.int i64 id];
 let q3:=decide (n=n);
 Z0 (decide ((↑n:Int)=(↑n:Int))) (q1=q1∧q2=q2∧Z0 q3 (Z4 L=Z4 L∧Z0 q3 ((n<1000∧List.length L=n)∧∀(i:Nat),i≤n→(∀(j:Nat),j<i→(fun (i:Nat)=>¬isP own id (List.getD L i Z7)∧i<n) j)→(i=n→AV.int i64 (-1)=AV.int i64 r)∧(i<n∧isP own id (List.getD L i Z7)→AV.int i64 (↑i:Int)=AV.int i64 r)∧(False→False)) False) False) False) (by kernel_rfl) ?_
 conv=>zeta
 try simp only [Zg]
 try simp only [Zi]
 try simp only [Zh]
 try simp only [Zj]
 try simp only [Zk]
 try simp only [Ze]
 try simp only [Int.toNat_natCast,Nat.zero_add,true_and,and_true,Nat.le_refl]
 subst hL
 repeat' apply And.intro
 all_goals first|rfl|exact hn|skip
 intro i hi hg
 refine ⟨fun he=> ?_,fun he=> ?_,fun h=>h.elim⟩
 ·rw [hr]
  unfold fiV
  rw [Z2L fun j hj=>(hg j (by omega)).1,if_neg (by omega)]
 ·rw [hr]
  unfold fiV
  rw [Z2M he.1 (fun j hj=>(hg j hj).1) he.2,if_pos he.1]
def Zip:ZN:=fun args h K=>ZO none h true 20 args fun a=>match a with
 | [.vrows 70 n f n',.func (.func 185) [] [.pview [.bool own] 0,.pview [.int .i64 id] 0]]=>∃L,n'=n∧f=Z4 L∧L.length=n∧n<1000∧K (.int .i64 (fiV own id L))
 | _=>False
theorem Zew (args:List AV) (h:Z9) (K:AV→Prop) (hl:Zip args h K):Zm PP 155 args h fun o h'=>∃v,o=.ret v∧h'=h∧K v:=by
 refine Zw.psumm (d:=20) (Zq _ _ _ _ _ hl fun a ha=> ?_)
 split at ha
 ·obtain ⟨L,rfl,rfl,h1,h2,hK⟩:=ha
  exact ⟨_,Zw.evV (Zcf L _ _ _) (Zki L _ _ _ _ h1 h2 rfl),fun _=>rfl,hK⟩
 ·exact ha.elim
noncomputable def ZfX:Zf:=G0.withP 155 Zip
theorem Zcg:ZfX.Ok:=Zf.withP_ok Zr Zew
theorem Zkj (X:Z6) (own:Bool) (id r:Int) (hn:X.L.length<1000) (hr:r=fiV own id X.L):
  evF ZfX 20 146 [XW X,.bool own,.int .i64 id] ⟨0,[]⟩ (Y8 (fun v=>v=.int .i64 r)):=by
 refine @Eq.mpr _ (let q1:=List.length X.L;
 ∃(L:List Z5),q1=q1∧Z4 X.L=Z4 L∧List.length L=q1∧q1<1000∧AV.int i64 (fiV own id L)=AV.int i64 r) (by kernel_rfl) ?_
 conv=>zeta
 subst hr
 exact ⟨X.L,rfl,rfl,rfl,hn,rfl⟩
def ZfY:ZN:=fun args h K=>ZO none h true 20 args fun a=>match a with
 | [.pview cs 0,.bool own,.int .i64 id]=>∃X,LV cs X∧X.L.length<1000∧K (.int .i64 (fiV own id X.L))
 | _=>False
theorem Zch (args:List AV) (h:Z9) (K:AV→Prop) (hl:ZfY args h K):Zm PP 146 args h fun o h'=>∃v,o=.ret v∧h'=h∧K v:=by
 refine Zw.psumm (d:=20) (Zq _ _ _ _ _ hl fun a ha=> ?_)
 split at ha
 ·obtain ⟨X,hX,h1,hK⟩:=ha
  exact ⟨_,(Zw.evV Zcg (Zkj X _ _ _ h1 rfl)).conv fun E r hr=>hr.head (fun _ hc=>Xr hX hc) fun _ hc=>hc,fun _=>rfl,hK⟩
 ·exact ha.elim
end Go.Tk
end
section
namespace Go.Tk
open IntKind (i64 u8 u32 u64 wrap)
theorem Z7J {s:Int} (h:1≤s∧s≤9):s=1∨s=2∨s=3∨s=4∨s=5∨s=6∨s=7∨s=8∨s=9:=by omega
theorem ZfZ {s:Int} (h:1≤s∧s≤4):s=1∨s=2∨s=3∨s=4:=by omega
theorem Zkk (o:Bool) (s r:Int) (hs:1≤s∧s≤9) (hr:r=Xm o s):
  evF G0 20 111 [.bool o,.int .i64 s] ⟨0,[]⟩ (Y8 (fun v=>v=.int .i64 r)):=by
 refine @Eq.mpr _ (let q1:=AV.int i64 r;
 let q2:=AV.int i64 0=q1;
 let q3:=decide (s=s);
 let q4:=decide (0≤s∧s<10);
 Z0 (decide (1≤s)) (Z0 (!decide (s≤10)) q2 (Z0 (s==10) q2 (Z0 (o==true) (Z0 q3 (Z0 q4 (AV.int i64 (List.getD [(0:Int),1,2,3,4,0,3,4,1,2] (Int.toNat s) 0)=q1) False) False) (Z0 q3 (Z0 q4 (AV.int i64 (List.getD [(0:Int),3,4,1,2,0,1,2,3,4] (Int.toNat s) 0)=q1) False) False)))) q2) (by kernel_rfl) ?_
 conv=>zeta
 subst hr
 cases o<;>rcases Z7J hs with h|h|h|h|h|h|h|h|h<;>subst h<;>exact rfl
theorem Ziq (o:Bool) (s r:Int) (hs:1≤s∧s≤9) (hr:r=Xm o s):
  evF G0 20 112 [.bool o,.int .i64 s] ⟨0,[]⟩ (Y8 (fun v=>v=.int .i64 r)):=by
 refine @Eq.mpr _ (let q1:=AV.int i64 r;
 let q2:=AV.int i64 0=q1;
 let q3:=decide (0≤s∧s<10);
 let q4:=0+Int.toNat s;
 Z0 (decide (s<1)) q2 (Z0 (decide (s>10)) q2 (Z0 (s==5) q2 (Z0 (s==10) q2 (Z0 o (Z0 q3 (Z0 (decide (q4<10)) (AV.int i64 (List.getD [(0:Int),1,2,3,4,0,3,4,1,2] q4 0)=q1) False) False) (Z0 q3 (Z0 (decide (q4<10)) (AV.int i64 (List.getD [(0:Int),3,4,1,2,0,1,2,3,4] q4 0)=q1) False) False)))))) (by kernel_rfl) ?_
 conv=>zeta
 subst hr
 cases o<;>rcases Z7J hs with h|h|h|h|h|h|h|h|h<;>subst h<;>exact rfl
theorem Zkl (o:Bool) (s m r:Int) (on:Bool) (hs:1≤s∧s≤9) (hm:1≤m∧m≤4) (hr:r=ZT o s m) (hon:on=decide (Xm o s=m)):
  evF G0 20 87 [.bool o,.int .i64 s,.int .i64 m] ⟨0,[]⟩ (Y8 (fun v=>v=.tuple [.int .i64 r,.bool on,.int .i64 0])):=by
 refine @Eq.mpr _ (let q1:=decide (1≤s);
 let q2:=decide (1≤m);
 let q3:=decide (s≤10);
 let q4:=false==q3;
 let q5:=[AV.int i64 0];
 let q6:=AV.tuple (AV.int i64 r::AV.bool on::q5);
 let q7:=AV.tuple [AV.int i64 0,AV.bool false,AV.int i64 2]=q6;
 let q8:=AV.tuple (AV.int i64 s::AV.bool false::q5)=q6;
 let q9:=AV.tuple (AV.int i64 (wrap i64 (s+1))::AV.bool true::q5)=q6;
 let q10:=Z0 (0 !=m) q8 q9;
 let q11:=decide (s=s);
 let q12:=decide (0≤s∧s<10);
 Z0 q1 (Z0 q2 (Z0 q4 q7 (Z0 (false==decide (m≤4)) q7 (Z0 q1 (Z0 (!q3) q10 (Z0 (s==10) q10 (Z0 (o==true) (Z0 q11 (Z0 q12 (Z0 (List.getD [(0:Int),1,2,3,4,0,3,4,1,2] (Int.toNat s) 0 !=m) q8 q9) False) False) (Z0 q11 (Z0 q12 (Z0 (List.getD [(0:Int),3,4,1,2,0,1,2,3,4] (Int.toNat s) 0 !=m) q8 q9) False) False)))) q10))) (Z0 q4 q7 q7)) (Z0 q2 q7 q7)) (by kernel_rfl) ?_
 conv=>zeta
 subst hr hon
 cases o<;>rcases Z7J hs with h|h|h|h|h|h|h|h|h<;>subst h<;>rcases ZfZ hm with h|h|h|h<;>subst h<;>exact rfl
theorem Zir (o:Bool) (s m r:Int) (on:Bool) (hs:1≤s∧s≤9) (hm:1≤m∧m≤4) (hr:r=ZT o s m) (hon:on=decide (Xm o s=m)):
  evF G0 20 104 [.bool o,.int .i64 s,.int .i64 m] ⟨0,[]⟩ (Y8 (fun v=>v=.tuple [.int .i64 r,.bool on,.int .i64 0])):=by
 refine @Eq.mpr _ (let q1:=decide (s<1);
 let q2:=[AV.int i64 0];
 let q3:=AV.tuple (AV.int i64 r::AV.bool on::q2);
 let q4:=AV.tuple [AV.int i64 0,AV.bool false,AV.int i64 2]=q3;
 let q5:=decide (s>10);
 let q6:=AV.tuple (AV.int i64 (wrap i64 (s+1))::AV.bool true::q2)=q3;
 let q7:=AV.tuple (AV.int i64 s::AV.bool false::q2)=q3;
 let q8:=Z0 (0==m) q6 q7;
 let q9:=decide (0≤s∧s<10);
 let q10:=0+Int.toNat s;
 Z0 q1 q4 (Z0 q5 q4 (Z0 (decide (m<1)) q4 (Z0 (decide (m>4)) q4 (Z0 q1 q8 (Z0 q5 q8 (Z0 (s==5) q8 (Z0 (s==10) q8 (Z0 o (Z0 q9 (Z0 (decide (q10<10)) (Z0 (List.getD [(0:Int),1,2,3,4,0,3,4,1,2] q10 0==m) q6 q7) False) False) (Z0 q9 (Z0 (decide (q10<10)) (Z0 (List.getD [(0:Int),3,4,1,2,0,1,2,3,4] q10 0==m) q6 q7) False) False)))))))))) (by kernel_rfl) ?_
 conv=>zeta
 subst hr hon
 cases o<;>rcases Z7J hs with h|h|h|h|h|h|h|h|h<;>subst h<;>rcases ZfZ hm with h|h|h|h<;>subst h<;>exact rfl
theorem Zkm (o u:Bool) (s:Int) (b:Bool) (hb:b=X5 o s u):
  evF G0 20 71 [.bool o,.int .i64 s,.bool u] ⟨0,[]⟩ (Y8 (fun v=>v=.bool b)):=by
 refine @Eq.mpr _ (let q1:=AV.bool b;
 let q2:=AV.bool false=q1;
 Z0 (o==u) (Z0 (decide (4≤s)) (AV.bool (decide (s≤6))=q1) q2) (Z0 (decide (2≤s)) (AV.bool (decide (s≤8))=q1) q2)) (by kernel_rfl) ?_
 conv=>zeta
 subst hb
 unfold X5
 rw [Bool.decide_and,Bool.decide_and]
 cases o<;>cases u<;>simp [Z0]<;>(split<;>simp_all)<;>(try omega)
theorem Zis (o u:Bool) (s:Int) (b:Bool) (hb:b=X5 o s u):
  evF G0 20 106 [.bool o,.int .i64 s,.bool u] ⟨0,[]⟩ (Y8 (fun v=>v=.bool b)):=by
 refine @Eq.mpr _ (let q1:=AV.bool b;
 let q2:=AV.bool false=q1;
 Z0 (o==u) (Z0 (decide (s≥4)) (AV.bool (decide (s≤6))=q1) q2) (Z0 (decide (s≥2)) (AV.bool (decide (s≤8))=q1) q2)) (by kernel_rfl) ?_
 conv=>zeta
 subst hb
 unfold X5
 rw [Bool.decide_and,Bool.decide_and]
 cases o<;>cases u<;>simp [Z0]<;>(split<;>simp_all)<;>(try omega)
theorem Zkn (o:Bool) (s r:Int) (hs:1≤s∧s≤9) (hr:r=Yu o s):
  evF G0 20 89 [.bool o,.int .i64 s] ⟨0,[]⟩ (Y8 (fun v=>v=.int .i64 r)):=by
 refine @Eq.mpr _ (let q1:=AV.int i64 r;
 let q2:=AV.int i64 0=q1;
 let q3:=AV.int i64 s=q1;
 let q4:=Z0 (false==o) q3 (Z0 (false==(s==6)) q3 (AV.int i64 5=q1));
 Z0 (decide (1≤s)) (Z0 (!decide (s≤10)) q2 (Z0 (false== !o) q4 (Z0 (false==(s==1)) q4 q2))) q2) (by kernel_rfl) ?_
 conv=>zeta
 subst hr
 cases o<;>rcases Z7J hs with h|h|h|h|h|h|h|h|h<;>subst h<;>exact rfl
theorem Zit (o:Bool) (s r:Int) (hs:1≤s∧s≤9) (hr:r=Yu o s):
  evF G0 20 105 [.bool o,.int .i64 s] ⟨0,[]⟩ (Y8 (fun v=>v=.int .i64 r)):=by
 refine @Eq.mpr _ (let q1:=AV.int i64 r;
 let q2:=AV.int i64 0=q1;
 let q3:=AV.int i64 s=q1;
 let q4:=Z0 o (Z0 (s==6) (AV.int i64 5=q1) q3) q3;
 Z0 (decide (s<1)) q2 (Z0 (decide (s>10)) q2 (Z0 (!o) (Z0 (s==1) q2 q4) q4))) (by kernel_rfl) ?_
 conv=>zeta
 subst hr
 cases o<;>rcases Z7J hs with h|h|h|h|h|h|h|h|h<;>subst h<;>exact rfl
theorem Zko (s r e:Int) (hs:1≤s∧s≤9) (hr:r=if s=5 then 6 else 0) (he:e=if s=5 then 0 else 190):
  evF G0 20 147 [.int .i64 s] ⟨0,[]⟩ (Y8 (fun v=>v=.tuple [.int .i64 r,.int .i64 e])):=by
 refine @Eq.mpr _ (let q1:=AV.int i64 0;
 let q2:=AV.tuple [AV.int i64 r,AV.int i64 e];
 let q3:=AV.tuple [q1,AV.int i64 2]=q2;
 Z0 (decide (1≤s)) (Z0 (!decide (s≤10)) q3 (Z0 (s !=5) (AV.tuple [q1,AV.int i64 190]=q2) (AV.tuple [AV.int i64 6,q1]=q2))) q3) (by kernel_rfl) ?_
 conv=>zeta
 subst hr he
 rcases Z7J hs with h|h|h|h|h|h|h|h|h<;>subst h<;>exact rfl
def waS:ZN:=fun args _ K=>match args with
 | [.bool o,.int .i64 s]=>Zu (1≤s∧s≤9) (K (.int .i64 (Xm o s)))
 | _=>False
theorem Zhe (args:List AV) (h:Z9) (K:AV→Prop) (hl:waS args h K):Zm PP 111 args h fun o h'=>∃v,o=.ret v∧h'=h∧K v:=by
 unfold waS at hl
 split at hl
 ·obtain ⟨h1,hK⟩:=Zc hl
  exact Yc Zr rfl (Zkk _ _ _ h1 rfl) (fun u hu=>hu▸hK)
 ·exact hl.elim
theorem Zex (args:List AV) (h:Z9) (K:AV→Prop) (hl:waS args h K):Zm PP 112 args h fun o h'=>∃v,o=.ret v∧h'=h∧K v:=by
 unfold waS at hl
 split at hl
 ·obtain ⟨h1,hK⟩:=Zc hl
  exact Yc Zr rfl (Ziq _ _ _ h1 rfl) (fun u hu=>hu▸hK)
 ·exact hl.elim
def neS:ZN:=fun args _ K=>match args with
 | [.bool o,.int .i64 s,.int .i64 m]=>Zu ((1≤s∧s≤9)∧1≤m∧m≤4) (K (.tuple [.int .i64 (ZT o s m),.bool (decide (Xm o s=m)),.int .i64 0]))
 | _=>False
theorem Zhf (args:List AV) (h:Z9) (K:AV→Prop) (hl:neS args h K):Zm PP 87 args h fun o h'=>∃v,o=.ret v∧h'=h∧K v:=by
 unfold neS at hl
 split at hl
 ·obtain ⟨⟨h1,h2⟩,hK⟩:=Zc hl
  exact Yc Zr rfl (Zkl _ _ _ _ _ h1 h2 rfl rfl) (fun u hu=>hu▸hK)
 ·exact hl.elim
theorem Zey (args:List AV) (h:Z9) (K:AV→Prop) (hl:neS args h K):Zm PP 104 args h fun o h'=>∃v,o=.ret v∧h'=h∧K v:=by
 unfold neS at hl
 split at hl
 ·obtain ⟨⟨h1,h2⟩,hK⟩:=Zc hl
  exact Yc Zr rfl (Zir _ _ _ _ _ h1 h2 rfl rfl) (fun u hu=>hu▸hK)
 ·exact hl.elim
def Za8:ZN:=fun args _ K=>match args with
 | [.bool o,.int .i64 s,.bool u]=>K (.bool (X5 o s u))
 | _=>False
theorem Zez (args:List AV) (h:Z9) (K:AV→Prop) (hl:Za8 args h K):Zm PP 71 args h fun o h'=>∃v,o=.ret v∧h'=h∧K v:=by
 unfold Za8 at hl
 split at hl
 ·exact Yc Zr rfl (Zkm _ _ _ _ rfl) (fun u hu=>hu▸hl)
 ·exact hl.elim
theorem Zci (args:List AV) (h:Z9) (K:AV→Prop) (hl:Za8 args h K):Zm PP 106 args h fun o h'=>∃v,o=.ret v∧h'=h∧K v:=by
 unfold Za8 at hl
 split at hl
 ·exact Yc Zr rfl (Zis _ _ _ _ rfl) (fun u hu=>hu▸hl)
 ·exact hl.elim
def bkS:ZN:=fun args _ K=>match args with
 | [.bool o,.int .i64 s]=>Zu (1≤s∧s≤9) (K (.int .i64 (Yu o s)))
 | _=>False
theorem Zhg (args:List AV) (h:Z9) (K:AV→Prop) (hl:bkS args h K):Zm PP 89 args h fun o h'=>∃v,o=.ret v∧h'=h∧K v:=by
 unfold bkS at hl
 split at hl
 ·obtain ⟨h1,hK⟩:=Zc hl
  exact Yc Zr rfl (Zkn _ _ _ h1 rfl) (fun u hu=>hu▸hK)
 ·exact hl.elim
theorem ZeA (args:List AV) (h:Z9) (K:AV→Prop) (hl:bkS args h K):Zm PP 105 args h fun o h'=>∃v,o=.ret v∧h'=h∧K v:=by
 unfold bkS at hl
 split at hl
 ·obtain ⟨h1,hK⟩:=Zc hl
  exact Yc Zr rfl (Zit _ _ _ h1 rfl) (fun u hu=>hu▸hK)
 ·exact hl.elim
def seS:ZN:=fun args _ K=>match args with
 | [.int .i64 s]=>Zu (1≤s∧s≤9) (K (.tuple [.int .i64 (if s=5 then 6 else 0),.int .i64 (if s=5 then 0 else 190)]))
 | _=>False
theorem Zhh (args:List AV) (h:Z9) (K:AV→Prop) (hl:seS args h K):Zm PP 147 args h fun o h'=>∃v,o=.ret v∧h'=h∧K v:=by
 unfold seS at hl
 split at hl
 ·obtain ⟨h1,hK⟩:=Zc hl
  exact Yc Zr rfl (Zko _ _ _ h1 rfl rfl) (fun u hu=>hu▸hK)
 ·exact hl.elim
end Go.Tk
end
section
namespace Go.Tk
open IntKind (i64 u8 u32 u64 wrap)
noncomputable def Zhi (H1:List Int→List Int) (H2:List Int→List Int→List Int) (B:Nat):Zf:=(((G8 H1 H2 B).withP 146 ZfY).withP 147 seS).withF 45 Za7
theorem Z8L:(Zhi Zo Z3i 1000).Ok:=Zf.withF_ok (Zf.withP_ok (Zf.withP_ok (ZfJ 1000 (by decide)) Zch) Zhh) QS
theorem Zg0 {L:List Z5} {I:Nat} {q:Z5} (hI:I<L.length) (i:Nat):(L.set I q).getD i Z7=if i=I then q else L.getD i Z7:=by
 rw [List.getD_eq_getElem?_getD,List.getElem?_set]
 by_cases h:i=I
 ·subst h;rw [if_pos rfl,if_pos hI,if_pos rfl];rfl
 ·rw [if_neg (fun q=>h q.symm),if_neg h,List.getD_eq_getElem?_getD]
theorem Ziu (X:Z6) (n:Nat) (own:Bool) (id k e:Int) (sec:List Int) (H1:List Int→List Int) (H2:List Int→List Int→List Int) (B:Nat) (hn:X.L.length=n) (hlen:X.L.length<1000) (hcap:X.t.cap≠0) (hst:∀h∈X.L,1≤h.stage∧h.stage≤9) (hOk:∀h∈X.L,h.Ok) (hsec:sec.length=32) (hl:(H1 sec).length=32) (hB:32≤B) (he:e=YY H1 X own id k sec) (hne:e≠0):
  evF (Zhi H1 H2 B) 20 88 [.ptr (some ⟨0,0,0,0,0⟩),.bool own,.int .i64 id,.int .i64 k,.agg [.arr .u8 32 sec]] (Z3j X n) (Y7 2 (.ret (.int .i64 e)) 2 [(0,.flat (X.c (.nslice ⟨1,0,70,0,0⟩ 70 n n))),(1,.rows 70 n (Z4 X.L))]):=by
 refine @Eq.mpr _ (let q1:=X.t;
 let q2:=q1.cap;
 let q3:=q1.fund;
 let q4:=q3=q3;
 let q5:=q1.index;
 let q6:=decide (q5=q5);
 let q7:=decide (q2=q2);
 let q8:=q1.dust;
 let q9:=decide (q8=q8);
 let q10:=q1.fee;
 let q11:=decide (q10=q10);
 let q12:=q1.delay;
 let q13:=decide (q12=q12);
 let q14:=q1.k0;
 let q15:=q14=q14;
 let q16:=q1.k1;
 let q17:=q16=q16;
 let q18:=X.side;
 let q19:=decide (q18=q18);
 let q20:=X.res;
 let q21:=decide (q20=q20);
 let q22:=[X.a0,X.a1];
 let q23:=q22=q22;
 let q24:=[X.i0,X.i1];
 let q25:=q24=q24;
 let q26:=decide (n=n);
 let q27:=Z4 X.L;
 let q28:=q4∧Z0 q6 (Z0 q7 (Z0 q9 (Z0 q11 (Z0 q13 (q15∧q17∧Z0 q19 (Z0 q21 (q23∧q25∧Z0 q26 (Z0 (decide (n≤n)) (Z0 q26 (Za 2 [] n q27 q27∧True) False) False) False) False) False) False) False) False) False) False;
 let q29:=decide (0+n≤n);
 let q30:=ZK 0 q27;
 let q31:=List.length sec;
 let q32:=Z0 (decide (0=e)) (q4∧Z0 q6 (Z0 q7 (Z0 q9 (Z0 q11 (Z0 q13 (q15∧q17∧Z0 q19 (Z0 q21 (q23∧q25∧False) False) False) False) False) False) False) False) False;
 Z0 (q2==0) (Z0 (decide (1=e)) q28 False)
 (Z0 q29
 ((∀(i:Nat),i<n→true=true)∧
 ∃(X_1:Z6),
 let q65:=fiV own id X_1.L;
 let q66:=decide (0≤q65∧q65< ↑n);
 let q67:=0+Int.toNat q65;
 let q68:=List.getD X.L q67 Z7;
 let q69:=q68.stage;
 let q70:=if q69=5 then 0 else 190;
 let q71:=q68.hash;
 let q72:=q70 !=0;
 let q73:=Z0 (decide (q70=e)) q28 False;
 LV [AV.arr u8 32 q3,AV.int i64 q5,AV.int i64 q2,AV.int i64 q8,AV.int i64 q10,AV.int i64 q12,AV.arr u8 32 q14,AV.arr u8 32 q16,AV.int i64 q18,AV.int i64 q20,AV.arr i64 2 q22,AV.arr i64 2 q24,AV.vrows 70 n q30 n] X_1∧
 List.length X_1.L<1000∧
 Z0 (decide (q65<0)) (Z0 (decide (5=e)) q28 False)
 (Z0 q66 (Z0 (decide (q67<n)) (Z0 (decide (1≤q69∧q69≤9)) (Z0 (q70==0) (Z0 (k==1) (q71=q71∧Z0 (decide (q31=32)) (Z0 (decide (32=q31)) (Z0 (decide (q31≤B)) (Z0 (decide (List.length (H1 sec)=32∧List.length q71=32)) (Z0 (!H1 sec==q71) (Z0 (decide (203=e)) q28 False) (Z0 q72 q73 (sec=sec∧sec=sec∧Z0 q29 ((∀(i:Nat),i<n→true=true)∧∃(L:List Z5),n=n∧q30=Z4 L∧n<1000000∧Z0 q66 (Z0 (decide (q67<n)) q32 False) False) False))) False) False) False) False) (Z0 q72 q73 (sec=sec∧sec=sec∧Z0 q29 ((∀(i:Nat),i<n→true=true)∧∃(L:List Z5),n=n∧q30=Z4 L∧n<1000000∧Z0 q66 (Z0 (decide (q67<n)) q32 False) False) False))) (Z0 q72 q73 (sec=sec∧sec=sec∧Z0 q29 ((∀(i:Nat),i<n→true=true)∧∃(L:List Z5),n=n∧q30=Z4 L∧n<1000000∧Z0 q66 (Z0 (decide (q67<n)) q32 False) False) False))) False) False) False))
 False)) (by kernel_rfl) ?_
 conv=>zeta
 subst hn
 have hR:Za 2 [] X.L.length (Z4 X.L) (Z4 X.L):=Zn fun _ _=>rfl
 try simp only [Zg]
 try simp only [Zi]
 try simp only [Zh]
 try simp only [Zj]
 try simp only [Zk]
 try simp only [Ze]
 try simp only [Int.toNat_natCast,Nat.zero_add,true_and,and_true,Nat.le_refl]
 unfold YY at he
 refine ⟨fun hc=>absurd hc (by simp [hcap]),fun _=>⟨fun _ _=>trivial,X,.a rfl,hlen, ?_⟩⟩
 by_cases hI:ZB own id X.L<X.L.length
 ·have hv:fiV own id X.L=((ZB own id X.L:Nat):Int):=by unfold fiV;rw [if_pos hI]
  rw [hv]
  simp only [Int.toNat_natCast]
  rw [if_neg (by omega)] at he
  have hx:=Zz hI
  have h1:=hst _ hx
  have h2:=(hOk _ hx).hash
  refine ⟨fun h=>by omega,fun _=>⟨by omega,hI,h1, ?_⟩⟩
  by_cases h5:(X.L.getD (ZB own id X.L) Z7).stage=5
  ·rw [if_neg (fun hq=>hq h5)] at he
   simp only [if_pos h5]
   have hz:(fun (_:Unit)=>(k=1∧H1 sec≠(X.L.getD (ZB own id X.L) Z7).hash)) ()→e=203:=fun h=>by rw [he,if_pos h]
   have hno:¬(k=1∧H1 sec≠(X.L.getD (ZB own id X.L) Z7).hash)→False:=fun h=>hne (by rw [he,if_neg h])
   refine ⟨fun _=>⟨fun hk=>⟨hsec,hsec.symm,by omega,⟨hl,h2⟩,fun hh=>⟨?_,hR⟩,fun hh=>(hno fun hq=>hq.2 (by simpa using hh)).elim⟩,fun hk=>(hno fun hq=>by simp [hq.1] at hk).elim⟩,fun h=>by simp at h⟩
   exact (hz ⟨by simpa using hk,by simpa using hh⟩).symm
  ·rw [if_pos h5] at he
   simp only [if_neg h5]
   exact ⟨fun h=>by simp at h,fun _=>⟨fun _=>⟨he.symm,hR⟩,fun h=>by simp at h⟩⟩
 ·have hv:fiV own id X.L= -1:=by unfold fiV;rw [if_neg hI]
  rw [hv]
  rw [if_pos (by omega)] at he
  exact ⟨fun _=>⟨he.symm,hR⟩,fun h=>by omega⟩
theorem Ziv (X X':Z6) (n:Nat) (own:Bool) (id k:Int) (sec:List Int) (H1:List Int→List Int) (H2:List Int→List Int→List Int) (B:Nat) (hn:X.L.length=n) (hlen:X.L.length<1000) (hcap:X.t.cap≠0) (hst:∀h∈X.L,1≤h.stage∧h.stage≤9) (hOk:∀h∈X.L,h.Ok) (hsec:sec.length=32) (hl:(H1 sec).length=32) (hB:32≤B) (he:YY H1 X own id k sec=0) (hX':X'=endX H1 X own id k sec):
  evF (Zhi H1 H2 B) 20 88 [.ptr (some ⟨0,0,0,0,0⟩),.bool own,.int .i64 id,.int .i64 k,.agg [.arr .u8 32 sec]] (Z3j X n) (Y7 2 (.ret (.int .i64 0)) 3 [(0,.flat (X'.c (.nslice ⟨2,0,70,0,0⟩ 70 n n))),(2,.rows 70 n (Z4 X'.L))]):=by
 refine @Eq.mpr _ (let q1:=X.t;
 let q2:=q1.cap;
 let q3:=decide ((0:Nat)+n≤n);
 let q4:=q1.fund;
 let q5:=q1.index;
 let q6:=q1.dust;
 let q7:=q1.fee;
 let q8:=q1.delay;
 let q9:=q1.k0;
 let q10:=q1.k1;
 let q11:=[X.a0,X.a1];
 let q12:=[X.i0,X.i1];
 let q13:=X.L;
 let q14:=Z4 q13;
 let q15:=ZK (0:Nat) q14;
 let q16:=List.length sec;
 let q17:=X'.t;
 let q18:=q4=q17.fund;
 let q19:=decide (q5=q17.index);
 let q20:=decide (q2=q17.cap);
 let q21:=decide (q6=q17.dust);
 let q22:=decide (q7=q17.fee);
 let q23:=decide (q8=q17.delay);
 let q24:=q9=q17.k0;
 let q25:=q10=q17.k1;
 let q26:=decide (X.side=X'.side);
 let q27:=decide (X.res=X'.res);
 let q28:=q11=[X'.a0,X'.a1];
 let q29:=q12=[X'.i0,X'.i1];
 let q30:=decide (n=n);
 let q31:=decide (n≤n);
 let q32:=Z4 X'.L;
 Z0 (q2==(0:Int)) False
 (Z0 q3
 ((∀(i:Nat),i<n→true=true)∧
 ∃(X_1:Z6),
 let q65:=fiV own id X_1.L;
 let q66:=decide ((0:Int)≤q65∧q65<(↑n:Int));
 let q67:=(0:Nat)+Int.toNat q65;
 let q68:=List.getD q13 q67 Z7;
 let q69:=q68.stage;
 let q70:=q69=(5:Int);
 let q71:=if q70 then (0:Int) else (190:Int);
 let q72:=q68.hash;
 let q73:=q71 !=(0:Int);
 let q74:=Z0 (decide (q71=(0:Int))) (q18∧Z0 q19 (Z0 q20 (Z0 q21 (Z0 q22 (Z0 q23 (q24∧q25∧Z0 q26 (Z0 q27 (q28∧q29∧Z0 q30 (Z0 q31 (Z0 q30 (Za (2:Nat) [((2:Nat),(1:Nat))] n q32 q14∧True) False) False) False) False) False) False) False) False) False) False) False;
 LV [AV.arr u8 (32:Nat) q4,AV.int i64 q5,AV.int i64 q2,AV.int i64 q6,AV.int i64 q7,AV.int i64 q8,AV.arr u8 (32:Nat) q9,AV.arr u8 (32:Nat) q10,AV.int i64 X.side,AV.int i64 X.res,AV.arr i64 (2:Nat) q11,AV.arr i64 (2:Nat) q12,AV.vrows (70:Nat) n q15 n] X_1∧
 List.length X_1.L<(1000:Nat)∧
 Z0 (decide (q65<(0:Int))) False
 (Z0 q66
 (Z0 (decide (q67<n))
 (Z0 (decide ((1:Int)≤q69∧q69≤(9:Int)))
 (Z0 (q71==(0:Int))
 (Z0 (k==(1:Int))
 (q72=q72∧Z0 (decide (q16=(32:Nat))) (Z0 (decide ((32:Nat)=q16)) (Z0 (decide (q16≤B)) (Z0 (decide (List.length (H1 sec)=(32:Nat)∧List.length q72=(32:Nat))) (Z0 (!H1 sec==q72) False (Z0 q73 q74 (sec=sec∧sec=sec∧Z0 q3 ((∀(i:Nat),i<n→true=true)∧∃(L:List Z5),n=n∧q15=Z4 L∧n<(1000000:Nat)∧Z0 q66 (Z0 (decide (q67<n)) (q18∧Z0 q19 (Z0 q20 (Z0 q21 (Z0 q22 (Z0 q23 (q24∧q25∧Z0 q26 (Z0 q27 (q28∧q29∧Z0 q30 (Z0 q31 (Z0 q30 (Za (2:Nat) [((2:Nat),(5:Nat))] n q32 (QZ (Z4 L) q67 [AV.bool q68.own,AV.int i64 q68.id,AV.int i64 q68.amount,AV.arr u8 (32:Nat) q72,AV.int i64 q68.expiry,AV.int i64 (if q70 then (6:Int) else (0:Int)),AV.int i64 k,AV.arr u8 (32:Nat) sec])∧True) False) False) False) False) False) False) False) False) False) False) False) False) False))) False) False) False) False)
 (Z0 q73 q74 (sec=sec∧sec=sec∧Z0 q3 ((∀(i:Nat),i<n→true=true)∧∃(L:List Z5),n=n∧q15=Z4 L∧n<(1000000:Nat)∧Z0 q66 (Z0 (decide (q67<n)) (q18∧Z0 q19 (Z0 q20 (Z0 q21 (Z0 q22 (Z0 q23 (q24∧q25∧Z0 q26 (Z0 q27 (q28∧q29∧Z0 q30 (Z0 q31 (Z0 q30 (Za (2:Nat) [((2:Nat),(4:Nat))] n q32 (QZ (Z4 L) q67 [AV.bool q68.own,AV.int i64 q68.id,AV.int i64 q68.amount,AV.arr u8 (32:Nat) q72,AV.int i64 q68.expiry,AV.int i64 (if q70 then (6:Int) else (0:Int)),AV.int i64 k,AV.arr u8 (32:Nat) sec])∧True) False) False) False) False) False) False) False) False) False) False) False) False) False)))
 (Z0 q73 q74 (sec=sec∧sec=sec∧Z0 q3 ((∀(i:Nat),i<n→true=true)∧∃(L:List Z5),n=n∧q15=Z4 L∧n<(1000000:Nat)∧Z0 q66 (Z0 (decide (q67<n)) (q18∧Z0 q19 (Z0 q20 (Z0 q21 (Z0 q22 (Z0 q23 (q24∧q25∧Z0 q26 (Z0 q27 (q28∧q29∧Z0 q30 (Z0 q31 (Z0 q30 (Za (2:Nat) [((2:Nat),(4:Nat))] n q32 (QZ (Z4 L) q67 [AV.bool q68.own,AV.int i64 q68.id,AV.int i64 q68.amount,AV.arr u8 (32:Nat) q72,AV.int i64 q68.expiry,AV.int i64 (if q70 then (6:Int) else (0:Int)),AV.int i64 k,AV.arr u8 (32:Nat) sec])∧True) False) False) False) False) False) False) False) False) False) False) False) False) False)))
 False)
 False)
 False))
 False)) (by kernel_rfl) ?_
 conv=>zeta
 subst hn
 have hX2:X'={ X with L:=X.L.set (ZB own id X.L) (VK (X.L.getD (ZB own id X.L) Z7) k sec)}:=by rw [hX'];unfold endX;rw [if_pos he]
 have hI:ZB own id X.L<X.L.length:=by
  rcases Nat.lt_or_ge (ZB own id X.L) X.L.length with h|h
  ·exact h
  ·unfold YY at he;rw [if_pos h] at he;cases he
 have h5:(X.L.getD (ZB own id X.L) Z7).stage=5:=by
  unfold YY at he
  rw [if_neg (by omega)] at he
  by_cases h:(X.L.getD (ZB own id X.L) Z7).stage=5
  ·exact h
  ·rw [if_pos h] at he;cases he
 have hno:¬(k=1∧H1 sec≠(X.L.getD (ZB own id X.L) Z7).hash):=fun hq=>by
  unfold YY at he
  rw [if_neg (by omega),if_neg (fun hq2=>hq2 h5),if_pos hq] at he
  cases he
 have hU:∀τ,Za 2 τ X.L.length (Z4 (X.L.set (ZB own id X.L) (VK (X.L.getD (ZB own id X.L) Z7) k sec))) (QZ (Z4 X.L) (ZB own id X.L) (VK (X.L.getD (ZB own id X.L) Z7) k sec).c):=fun τ=>Zn fun i hi=>by
  rw [Ui]
  unfold Z4
  rw [Zg0 hI]
  by_cases h:i=ZB own id X.L
  ·rw [if_pos h,h,Nat.beq_refl]
  ·rw [if_neg h,Zx h]
 generalize hLn:X.L.set (ZB own id X.L) (VK (X.L.getD (ZB own id X.L) Z7) k sec)=L2 at*
 subst hX2
 try simp only [Zg]
 try simp only [Zi]
 try simp only [Zh]
 try simp only [Zj]
 try simp only [Zk]
 try simp only [Ze]
 try simp only [Int.toNat_natCast,Nat.zero_add,true_and,and_true,Nat.le_refl]
 have hx:=Zz hI
 have h1:=hst _ hx
 have h2:=(hOk _ hx).hash
 have hv:fiV own id X.L=((ZB own id X.L:Nat):Int):=by unfold fiV;rw [if_pos hI]
 refine ⟨by simp [hcap],fun _ _=>trivial,X,.a rfl,hlen, ?_⟩
 rw [hv]
 simp only [Int.toNat_natCast,if_pos h5]
 refine ⟨by omega,by omega,hI,h1,fun _=>⟨fun hk=>⟨hsec,hsec.symm,by omega,⟨hl,h2⟩, ?_, ?_⟩,fun hk=> ?_⟩,fun h=>by simp at h⟩
 ·have hk:k=1:=by simpa using hk
  have:H1 sec=(X.L.getD (ZB own id X.L) Z7).hash:=Classical.byContradiction fun hq=>hno ⟨hk,hq⟩
  rw [this];simp
 all_goals
  refine ⟨fun h=>by simp at h,fun _=>⟨fun _ _=>trivial,X.L,rfl,by omega, ?_⟩⟩
  repeat' apply And.intro
  all_goals first|rfl|exact hU _|omega
theorem Z6.Inv.stage {H:List Int→List Int} {X:Z6} (h:X.Inv H):∀z∈X.L,1≤z.stage∧z.stage≤9:=fun z hz=>(YH (h.und z hz)).2.2.1
def Zhj (c:Bool):Ye:=fun args h K=>match args with
 | [.ptr (some ⟨l,0,0,0,0⟩),_,_,_,_]=>match h.get l with
  |some (.flat [_,_,_,_,_,_,_,_,_,_,_,_,.nslice ⟨b,0,70,0,0⟩ 70 _ _])=>frA [l,b] h 20 args fun Bs a=>match Bs,a with
   | [.flat cs,.rows 70 n f],[.ptr (some ⟨0,0,0,0,0⟩),.bool own,.int .i64 id,.int .i64 k,.agg [.arr .u8 32 sec]]=>
    ∃X,LB cs n f X∧X.Inv Zo∧sec.length=32∧(match c with
     | true=>YY Zo X own id k sec=0∧K (.ret (.int .i64 0)) ⟨h.next+1,(l,.flat ((endX Zo X own id k sec).c (.nslice ⟨h.next,0,70,0,0⟩ 70 X.L.length X.L.length)))::(h.next,.rows 70 X.L.length (Z4 (endX Zo X own id k sec).L))::Yw (Yw h.bs l) b⟩
     | false=>YY Zo X own id k sec≠0∧K (.ret (.int .i64 (YY Zo X own id k sec))) ⟨h.next,(l,.flat (X.c (.nslice ⟨b,0,70,0,0⟩ 70 X.L.length X.L.length)))::(b,.rows 70 X.L.length (Z4 X.L))::Yw (Yw h.bs l) b⟩)
   | _,_=>False
  | _=>False
 | _=>False
theorem ZeB (c:Bool) (args:List AV) (h:Z9) (K:KO) (hl:Zhj c args h K):Zm PP 88 args h K:=by
 unfold Zhj at hl
 split at hl
 ·split at hl
  ·refine Spec.fsumm hl fun Bs a hlen hK0=> ?_
   split at hK0
   ·rename_i cs n f own id k sec
    obtain ⟨X,⟨rfl,rfl,rfl⟩,hI,hsec,hK⟩:=hK0
    have hlen:X.L.length<1000:=hI.am.n
    cases c with
    | true=>
     obtain ⟨he,hK1⟩:=hK
     exact ⟨_,_,_,_,_,.evM Z8L (Ziv X _ _ own id k sec Zo Z3i 1000 rfl hlen hI.add.cap hI.stage hI.ok hsec (Vh _) (by decide) he rfl),by simp,.ret _ _ rfl,.cons _ _ _ _ _ _ rfl (.flat _ _ rfl) (.cons _ _ _ _ _ _ rfl (.rows _ _ _ (fun _ _=>rfl)) .nil),hK1⟩
    | false=>
     obtain ⟨he,hK2⟩:=hK
     exact ⟨_,_,_,_,_,.evM Z8L (Ziu X _ own id k _ sec Zo Z3i 1000 rfl hlen hI.add.cap hI.stage hI.ok hsec (Vh _) (by decide) rfl he),by simp,.ret _ _ rfl,.cons _ _ _ _ _ _ rfl (.flat _ _ rfl) (.cons _ _ _ _ _ _ rfl (.rows _ _ _ (fun _ _=>rfl)) .nil),hK2⟩
   ·exact hK0.elim
  ·exact hl.elim
 ·exact hl.elim
end Go.Tk
end
section
namespace Go.Tk
open IntKind (i64 u8 u32 u64 wrap)
noncomputable def ZeC:Zf:=G0.withP 87 neS
def Zkp:AV:=.func (.func 128) [] [.ptr (some ⟨2,0,0,0,0⟩)]
def Zkq (X:Z6) (L:List Z5) (n:Nat) (G Hd Lf:List Z5):Z9:=⟨6,[(0,.flat (X.c (.nslice ⟨1,0,70,0,0⟩ 70 n n))),(1,.rows 70 n (Z4 L)),(2,.flat [.ptr (some ⟨0,0,0,103,0⟩)]),(3,.rows 70 G.length (Z4 G)),(4,.rows 70 Hd.length (Z4 Hd)),(5,.rows 70 Lf.length (Z4 Lf))]⟩
def stS (X:Z6) (L:List Z5) (m:Int) (n i:Nat) (G Hd Lf:List Z5):St:=⟨87,[(30,.int .i64 i),(29,.int .i64 n),(28,.nslice ⟨1,0,70,0,0⟩ 70 n n),(1,.int .i64 m),(7,Zkp),(0,.ptr (some ⟨0,0,0,0,0⟩)),(5,.nslice ⟨3,0,70,0,0⟩ 70 G.length G.length),(4,.nslice ⟨4,0,70,0,0⟩ 70 Hd.length Hd.length),(8,.nslice ⟨5,0,70,0,0⟩ 70 Lf.length Lf.length)],Zkq X L n G Hd Lf,[]⟩
def stE (X:Z6) (L:List Z5) (m:Int) (n:Nat) (G Hd Lf:List Z5):St:=⟨87,[(0,.ptr (some ⟨0,0,0,0,0⟩)),(5,.nslice ⟨2,0,70,0,0⟩ 70 G.length G.length),(4,.nslice ⟨3,0,70,0,0⟩ 70 Hd.length Hd.length),(8,.nslice ⟨4,0,70,0,0⟩ 70 Lf.length Lf.length)],⟨5,[(0,.flat (X.c (.nslice ⟨1,0,70,0,0⟩ 70 n n))),(1,.rows 70 n (Z4 L)),(2,.rows 70 G.length (Z4 G)),(3,.rows 70 Hd.length (Z4 Hd)),(4,.rows 70 Lf.length (Z4 Lf))]⟩,[]⟩
theorem UB {s a b q:Int} (hs:s=0∨s=1) (h1: -1152921504606846976≤a∧a≤1152921504606846976) (h2: -1152921504606846976≤b∧b≤1152921504606846976) (h3:0≤q∧q≤1152921504606846976):
  ([a,b].set s.toNat (i64.wrap ([a,b].getD s.toNat 0-q))).set (1-s).toNat (i64.wrap (([a,b].set s.toNat (i64.wrap ([a,b].getD s.toNat 0-q))).getD (1-s).toNat 0+q))=if s=0 then [a-q,b+q] else [a+q,b-q]:=by
 rcases hs with rfl|rfl
 ·show [i64.wrap (a-q),i64.wrap (b+q)]=[a-q,b+q]
  rw [w64 (by omega),w64 (by omega)]
 ·show [i64.wrap (a+q),i64.wrap (b-q)]=[a+q,b-q]
  rw [w64 (by omega),w64 (by omega)]
theorem QU {side:Int} {p:Int×Int} {h:Z5} (hf:¬h.fin=1):XP side p h=p:=by unfold XP;rw [if_neg hf]
theorem Ud {side a b:Int} {h:Z5} (hf:h.fin=1):[(XP side (a,b) h).1,(XP side (a,b) h).2]=if ZP side h.own=0 then [a-h.amount,b+h.amount] else [a+h.amount,b-h.amount]:=by
 unfold XP
 rw [if_pos hf]
 split<;>rfl
theorem Z7K {o:Bool} {s m:Int} (hs:1≤s∧s≤9) (h:ZT o s m=10):s=9:=by unfold ZT at h;split at h<;>omega
theorem Ziw (X X1:Z6) (L:List Z5) (m:Int) (n i:Nat) (x:Z5) (G Hd Lf G1 Hd1 Lf1:List Z5) (Z1 Z2:Prop) (hn:n<1000) (hL:L.length=n) (hi:i≤n) (hm:1≤m∧m≤4) (hX:YN X) (hx:i<n→L.getD i Z7=x) (hst:i<n→1≤x.stage∧x.stage≤9) (hb:G.length<1000∧Hd.length<1000∧Lf.length<1000) (hG:i<n→G1=G++YU (decide (ZT x.own x.stage m=10)) (stH m x)) (hH:i<n→Hd1=Hd++YU (decide (x.stage=4∧Xm x.own 4=m)) (stH m x)) (hLf:i<n→Lf1=Lf++YU (decide (¬ZT x.own x.stage m=10)) (stH m x)) (hX1:i<n→X1=if ZT x.own x.stage m=10 then { X with a0:=(XP X.side (X.a0,X.a1) (stH m x)).1,a1:=(XP X.side (X.a0,X.a1) (stH m x)).2} else X) (hw:i<n→ZT x.own x.stage m=10→x.fin=1→(-1152921504606846976≤X.a0∧X.a0≤1152921504606846976)∧(-1152921504606846976≤X.a1∧X.a1≤1152921504606846976)∧0≤x.amount∧x.amount≤1152921504606846976) (hZ1:i<n→Z1) (hZ2:i=n→Z2):
  ZI ZeC 20 27 1 2 (stS X L m n i G Hd Lf) (rdM 2 1 9 (stS X1 L m n (i+1) G1 Hd1 Lf1) (stE X L m n G Hd Lf) (stE X L m n G Hd Lf) (stE X L m n G Hd Lf) Z1 Z2 False False):=by
 refine @Eq.mpr _ (let q1:=0+Int.toNat (↑i:Int);
 let q2:=List.getD L q1 Z7;
 let q3:=q2.stage;
 let q4:=q2.own;
 let q5:=ZT q4 q3 m;
 let q6:=decide (q4=q4);
 let q7:=q2.id;
 let q8:=decide (q7=q7);
 let q9:=q2.amount;
 let q10:=decide (q9=q9);
 let q11:=q2.hash;
 let q12:=q11=q11;
 let q13:=q2.expiry;
 let q14:=decide (q13=q13);
 let q15:=decide (q5=q5);
 let q16:=q2.fin;
 let q17:=decide (q16=q16);
 let q18:=q2.secret;
 let q19:=q18=q18;
 let q20:=q16==1;
 let q21:=X.side;
 let q22:=decide (0≤q21∧q21<2);
 let q23:=0+Int.toNat q21;
 let q24:=wrap i64 (1-q21);
 let q25:=decide (0≤q24∧q24<2);
 let q26:=0+Int.toNat q24;
 let q27:=decide (q26<2);
 let q28:=[X.a0,X.a1];
 let q29:=List.set q28 q23 (wrap i64 (List.getD q28 q23 0-q9));
 let q30:=List.length G;
 let q31:=decide (q30=q30);
 let q32:=q30+1;
 let q33:=decide (q32*112≤140737488355328);
 let q34:=decide (wrap i64 ((↑i:Int)+1)=(↑(i+1):Int));
 let q35:=decide ((↑n:Int)=(↑n:Int));
 let q36:=decide (n=n);
 let q37:=decide (n≤n);
 let q38:=decide (m=m);
 let q39:=List.length G1;
 let q40:=decide (q32=q39);
 let q41:=decide (q39≤q32);
 let q42:=List.length Hd;
 let q43:=List.length Hd1;
 let q44:=decide (q42=q43);
 let q45:=decide (q43≤q42);
 let q46:=List.length Lf;
 let q47:=List.length Lf1;
 let q48:=decide (q46=q47);
 let q49:=decide (q47≤q46);
 let q50:=X.t;
 let q51:=q50.fund;
 let q52:=X1.t;
 let q53:=q51=q52.fund;
 let q54:=q50.index;
 let q55:=decide (q54=q52.index);
 let q56:=q50.cap;
 let q57:=decide (q56=q52.cap);
 let q58:=q50.dust;
 let q59:=decide (q58=q52.dust);
 let q60:=q50.fee;
 let q61:=decide (q60=q52.fee);
 let q62:=q50.delay;
 let q63:=decide (q62=q52.delay);
 let q64:=q50.k0;
 let q65:=q64=q52.k0;
 let q66:=q50.k1;
 let q67:=q66=q52.k1;
 let q68:=decide (q21=X1.side);
 let q69:=X.res;
 let q70:=decide (q69=X1.res);
 let q71:=[X1.a0,X1.a1];
 let q72:=[X.i0,X.i1];
 let q73:=q72=[X1.i0,X1.i1];
 let q74:=[(2,2)];
 let q75:=(5,5)::(4,4)::(3,9)::q74;
 let q76:=Z4 L;
 let q77:=Z4 G1;
 let q78:=Z4 G;
 let q79:=YC [AV.bool q4,AV.int i64 q7,AV.int i64 q9,AV.arr u8 32 q11,AV.int i64 q13,AV.int i64 q5,AV.int i64 q16,AV.arr u8 32 q18] 0 70;
 let q80:=Z4 Hd1;
 let q81:=Z4 Hd;
 let q82:=Z4 Lf1;
 let q83:=Z4 Lf;
 let q84:=q73∧Z0 q36 (Z0 q37 (Z0 q36 (Za 2 q75 n q76 q76∧Z0 q40 (Za 2 q75 q39 q77 (ZW q30 q78 q79)∧Z0 q44 (Za 2 q75 q43 q80 q81∧Z0 q48 (Za 2 q75 q47 q82 q83∧Z1) False) False) False) False) False) False;
 let q85:=q28=q71;
 let q86:=Z0 q31 (Z0 q33 (Z0 q34 (Z0 q35 (Z0 q36 (Z0 q37 (Z0 q38 (Z0 q40 (Z0 q41 (Z0 q44 (Z0 q45 (Z0 q48 (Z0 q49 (q53∧Z0 q55 (Z0 q57 (Z0 q59 (Z0 q61 (Z0 q63 (q65∧q67∧Z0 q68 (Z0 q70 (q85∧q84) False) False) False) False) False) False) False) False) False) False) False) False) False) False) False) False) False) False) False) False;
 let q87:=wrap i64 (1-q24);
 let q88:=decide (0≤q87∧q87<2);
 let q89:=0+Int.toNat q87;
 let q90:=List.set q28 q26 (wrap i64 (List.getD q28 q26 0-q9));
 let q91:=decide (q42=q42);
 let q92:=q42+1;
 let q93:=decide (q46=q46);
 let q94:=q46+1;
 let q95:=decide (q94*112≤140737488355328);
 let q96:=decide (q30=q39);
 let q97:=decide (q39≤q30);
 let q98:=decide (q92=q43);
 let q99:=decide (q94=q47);
 let q100:=decide (q47≤q94);
 let q101:=(3,3)::q74;
 let q102:=(5,10)::(4,8)::q101;
 let q103:=ZW q46 q83 q79;
 let q104:=(5,8)::(4,4)::q101;
 let q105:=Z0 q93 (Z0 q95 (Z0 q34 (Z0 q35 (Z0 q36 (Z0 q37 (Z0 q38 (Z0 q96 (Z0 q97 (Z0 q44 (Z0 q45 (Z0 q99 (Z0 q100 (q53∧Z0 q55 (Z0 q57 (Z0 q59 (Z0 q61 (Z0 q63 (q65∧q67∧Z0 q68 (Z0 q70 (q85∧q73∧Z0 q36 (Z0 q37 (Z0 q36 (Za 2 q104 n q76 q76∧Z0 q96 (Za 2 q104 q39 q77 q78∧Z0 q44 (Za 2 q104 q43 q80 q81∧Z0 q99 (Za 2 q104 q47 q82 q103∧Z1) False) False) False) False) False) False) False) False) False) False) False) False) False) False) False) False) False) False) False) False) False) False) False) False) False) False;
 let q106:=[(4,5),(3,4),(2,3)];
 Z0 (decide ((↑i:Int)<(↑n:Int)))
 (Z0 (decide (0≤(↑i:Int)∧(↑i:Int)<(↑n:Int)))
 (Z0 (decide (q1<n))
 (Z0 (decide ((1≤q3∧q3≤9)∧1≤m∧m≤4))
 (Z0 (q5==10)
 (Z0 q4 (Z0 q6 (Z0 q8 (Z0 q10 (q12∧Z0 q14 (Z0 q15 (Z0 q17 (q19∧Z0 q20 (Z0 q22 (Z0 (decide (q23<2)) (Z0 q22 (Z0 (decide (i64=i64∧q23<2∧q23<2)) (Z0 q25 (Z0 q27 (Z0 q25 (Z0 (decide (i64=i64∧q26<2∧q26<List.length q29)) (Z0 q31 (Z0 q33 (Z0 q34 (Z0 q35 (Z0 q36 (Z0 q37 (Z0 q38 (Z0 q40 (Z0 q41 (Z0 q44 (Z0 q45 (Z0 q48 (Z0 q49 (q53∧Z0 q55 (Z0 q57 (Z0 q59 (Z0 q61 (Z0 q63 (q65∧q67∧Z0 q68 (Z0 q70 (List.set q29 q26 (wrap i64 (List.getD q29 q26 0+q9))=q71∧q84) False) False) False) False) False) False) False) False) False) False) False) False) False) False) False) False) False) False) False) False) False) False) False) False) False) False) False) False) q86) False) False) False) False) False) False)
 (Z0 q6 (Z0 q8 (Z0 q10 (q12∧Z0 q14 (Z0 q15 (Z0 q17 (q19∧Z0 q20 (Z0 q25 (Z0 q27 (Z0 q25 (Z0 (decide (i64=i64∧q26<2∧q26<2)) (Z0 q88 (Z0 (decide (q89<2)) (Z0 q88 (Z0 (decide (i64=i64∧q89<2∧q89<List.length q90)) (Z0 q31 (Z0 q33 (Z0 q34 (Z0 q35 (Z0 q36 (Z0 q37 (Z0 q38 (Z0 q40 (Z0 q41 (Z0 q44 (Z0 q45 (Z0 q48 (Z0 q49 (q53∧Z0 q55 (Z0 q57 (Z0 q59 (Z0 q61 (Z0 q63 (q65∧q67∧Z0 q68 (Z0 q70 (List.set q90 q89 (wrap i64 (List.getD q90 q89 0+q9))=q71∧q84) False) False) False) False) False) False) False) False) False) False) False) False) False) False) False) False) False) False) False) False) False) False) False) False) False) False) False) False) q86) False) False) False) False) False) False))
 (Z0 (decide (Xm q4 q3=m)) (Z0 (q5==5) (Z0 q91 (Z0 (decide (q92*112≤140737488355328)) (Z0 q93 (Z0 q95 (Z0 q34 (Z0 q35 (Z0 q36 (Z0 q37 (Z0 q38 (Z0 q96 (Z0 q97 (Z0 q98 (Z0 (decide (q43≤q92)) (Z0 q99 (Z0 q100 (q53∧Z0 q55 (Z0 q57 (Z0 q59 (Z0 q61 (Z0 q63 (q65∧q67∧Z0 q68 (Z0 q70 (q85∧q73∧Z0 q36 (Z0 q37 (Z0 q36 (Za 2 q102 n q76 q76∧Z0 q96 (Za 2 q102 q39 q77 q78∧Z0 q98 (Za 2 q102 q43 q80 (ZW q42 q81 q79)∧Z0 q99 (Za 2 q102 q47 q82 q103∧Z1) False) False) False) False) False) False) False) False) False) False) False) False) False) False) False) False) False) False) False) False) False) False) False) False) False) False) False) False) q105) q105))
 False)
 False)
 False)
 (Z0 q31 (Z0 (decide (q30≤q30)) (Z0 q91 (Z0 (decide (q42≤q42)) (Z0 q93 (Z0 (decide (q46≤q46)) (q51=q51∧Z0 (decide (q54=q54)) (Z0 (decide (q56=q56)) (Z0 (decide (q58=q58)) (Z0 (decide (q60=q60)) (Z0 (decide (q62=q62)) (q64=q64∧q66=q66∧Z0 (decide (q21=q21)) (Z0 (decide (q69=q69)) (q28=q28∧q72=q72∧Z0 q36 (Z0 q37 (Z0 q36 (Za 2 q106 n q76 q76∧Z0 q31 (Za 2 q106 q30 q78 q78∧Z0 q91 (Za 2 q106 q42 q81 q81∧Z0 q93 (Za 2 q106 q46 q83 q83∧Z2) False) False) False) False) False) False) False) False) False) False) False) False) False) False) False) False) False) False) False)) (by kernel_rfl) ?_
 conv=>zeta
 try simp only [Zg]
 try simp only [Zi]
 try simp only [Zh]
 try simp only [Zj]
 try simp only [Zk]
 try simp only [Ze]
 try simp only [Int.toNat_natCast,Nat.zero_add,true_and,and_true,Nat.le_refl]
 refine ⟨fun hc=> ?_,fun hc=> ?_⟩
 ·have hlt:i<n:=by omega
  rw [hx hlt]
  have hG:=hG hlt
  have hH:=hH hlt
  have hLf:=hLf hlt
  have hX1:=hX1 hlt
  have hst:=hst hlt
  have hw:=hw hlt
  have hwr:i64.wrap ((i:Int)+1)=((i+1:Nat):Int):=by rw [w64 (by omega)];omega
  rw [hwr]
  refine ⟨by omega,hlt,⟨hst,hm⟩,fun h10=> ?_,fun h10=> ?_⟩
  ·have h10:ZT x.own x.stage m=10:=by simpa using h10
   have h9:=Z7K hst h10
   rw [decide_eq_true h10] at hG
   rw [decide_eq_false (by omega)] at hH
   rw [decide_eq_false (by simp [h10])] at hLf
   rw [if_pos h10] at hX1
   simp only [YU,List.append_nil] at hG hH hLf
   subst hG hH hLf hX1
   obtain ⟨s1,s2⟩:=hX
   have hwf:i64.wrap (1-X.side)=1-X.side:=w64 (by omega)
   have hwg:i64.wrap (1-(1-X.side))=X.side:=by rw [w64 (by omega)];omega
   rw [hwf]
   try rw [hwg]
   have hRG:∀τ,Za 2 τ (G++[stH m x]).length (Z4 (G++[stH m x])) (ZW G.length (Z4 G) (YC (stH m x).c 0 70)):=fun τ=>Zn fun j hj=>Yt rfl (fun _ _=>rfl) (by simpa using hj)
   have hR:∀τ k (Q:List Z5),Za 2 τ k (Z4 Q) (Z4 Q):=fun τ k Q=>Zn fun _ _=>rfl
   refine ⟨fun ho=>⟨fun hf=> ?_,fun hf=> ?_⟩,fun ho=>⟨fun hf=> ?_,fun hf=> ?_⟩⟩
   all_goals repeat' apply And.intro
   all_goals first|omega|rfl|exact hZ1 hlt|exact hRG _|exact hR _ _ _|(simp;done)|(simp only [List.length_set,List.length_cons,List.length_nil,List.length_append];omega)|skip
   ·have hf:x.fin=1:=by simpa using hf
    obtain ⟨b1,b2,b3⟩:=hw h10 hf
    show _=[(XP X.side (X.a0,X.a1) (stH m x)).1,(XP X.side (X.a0,X.a1) (stH m x)).2]
    rw [Ud (h:=stH m x) hf,UB (by omega) b1 b2 b3]
    show _=if ZP X.side x.own=0 then _ else _
    rw [ho];rfl
   ·have hf:¬x.fin=1:=by simpa using hf
    show _=[(XP X.side (X.a0,X.a1) (stH m x)).1,(XP X.side (X.a0,X.a1) (stH m x)).2]
    rw [QU (h:=stH m x) hf]
   ·have hf:x.fin=1:=by simpa using hf
    obtain ⟨b1,b2,b3⟩:=hw h10 hf
    show _=[(XP X.side (X.a0,X.a1) (stH m x)).1,(XP X.side (X.a0,X.a1) (stH m x)).2]
    have e:=UB (s:=1-X.side) (by omega) b1 b2 b3
    rw [show 1-(1-X.side)=X.side by omega] at e
    rw [Ud (h:=stH m x) hf,e]
    show _=if ZP X.side x.own=0 then _ else _
    rw [ho];rfl
   ·have hf:¬x.fin=1:=by simpa using hf
    show _=[(XP X.side (X.a0,X.a1) (stH m x)).1,(XP X.side (X.a0,X.a1) (stH m x)).2]
    rw [QU (h:=stH m x) hf]
  ·have h10:¬ZT x.own x.stage m=10:=by simpa using h10
   rw [decide_eq_false h10] at hG
   rw [decide_eq_true h10] at hLf
   rw [if_neg h10] at hX1
   simp only [YU,List.append_nil] at hG hLf
   subst hG hLf hX1
   have hRL:∀τ,Za 2 τ (Lf++[stH m x]).length (Z4 (Lf++[stH m x])) (ZW Lf.length (Z4 Lf) (YC (stH m x).c 0 70)):=fun τ=>Zn fun j hj=>Yt rfl (fun _ _=>rfl) (by simpa using hj)
   have hR:∀τ k (Q:List Z5),Za 2 τ k (Z4 Q) (Z4 Q):=fun τ k Q=>Zn fun _ _=>rfl
   refine ⟨fun ho=>⟨fun h5=> ?_,fun h5=> ?_⟩,fun ho=> ?_⟩
   ·have ho:Xm x.own x.stage=m:=ho
    have h5:ZT x.own x.stage m=5:=by simpa using h5
    have h4:x.stage=4:=by unfold ZT at h5;rw [if_pos ho] at h5;omega
    rw [decide_eq_true ⟨h4,by rw [←h4];exact ho⟩] at hH
    simp only [YU] at hH
    subst hH
    have hRH:∀τ,Za 2 τ (Hd++[stH m x]).length (Z4 (Hd++[stH m x])) (ZW Hd.length (Z4 Hd) (YC (stH m x).c 0 70)):=fun τ=>Zn fun j hj=>Yt rfl (fun _ _=>rfl) (by simpa using hj)
    repeat' apply And.intro
    all_goals first|omega|rfl|exact hZ1 hlt|exact hRL _|exact hRH _|exact hR _ _ _|(simp;done)
   all_goals
    have hH':Hd1=Hd:=by
     rw [hH,decide_eq_false]
     ·simp [YU]
     ·intro hq
      simp [ZT,hq.1,hq.2] at*
    subst hH'
    repeat' apply And.intro
    all_goals first|omega|rfl|exact hZ1 hlt|exact hRL _|exact hR _ _ _|(simp;done)
 ·repeat' apply And.intro
  all_goals first|omega|rfl|exact hZ2 (by omega)|exact Zn fun _ _=>rfl
end Go.Tk
end
section
namespace Go.Tk
open IntKind (i64 u8 u32 u64 wrap)
def ZF (side s:Int) (L:List Z5):Int:=(XB (ZQ side s L)).sum
def Yq (side s:Int) (L:List Z5):Nat:=(ZQ side s L).length
def UK (side s:Int) (h:Z5):Int:=if ZP side h.own=s then h.amount else 0
def Ue (side s:Int) (h:Z5):Nat:=if ZP side h.own=s then 1 else 0
theorem Z44 {side:Int} (hs:side=0∨side=1) (own:Bool):ZP side own=0∨ZP side own=1:=by
 unfold ZP;rcases hs with rfl|rfl<;>cases own<;>simp
theorem ZL (side s:Int) (x:Z5) (r:List Z5):ZF side s (x::r)=UK side s x+ZF side s r:=by
 unfold ZF UK ZQ XB
 rw [List.filter_cons]
 by_cases h:ZP side x.own=s<;>simp [h]
theorem Y4 (side s:Int) (x:Z5) (r:List Z5):Yq side s (x::r)=Ue side s x+Yq side s r:=by
 unfold Yq Ue ZQ
 rw [List.filter_cons]
 by_cases h:ZP side x.own=s<;>simp [h]<;>omega
theorem Xg (X:Z6) (s:Int):Y1 X s=X.am s-ZF X.side s X.L-X.res-(if s=0 then X.t.fee else 0):=rfl
theorem VB {side s:Int} {L:List Z5}:ZQ side s L=[]↔Yq side s L=0:=by
 unfold Yq;exact List.length_eq_zero_iff.symm
theorem Z2N (side s:Int) (h:Z5):∀L,ZF side s (Xe h L)=ZF side s L+UK side s h
 | []=>by unfold Xe;rw [ZL];omega
 | x::r=>by
  unfold Xe
  split
  ·rw [ZL];omega
  ·rw [ZL,ZL,Z2N side s h r];omega
theorem Z2O (side s:Int) (h:Z5):∀L,Yq side s (Xe h L)=Yq side s L+Ue side s h
 | []=>by unfold Xe;rw [Y4];omega
 | x::r=>by
  unfold Xe
  split
  ·rw [Y4];omega
  ·rw [Y4,Y4,Z2O side s h r];omega
theorem Z6a {h:Z5}:∀{L:List Z5},L.Pairwise Xo→(∀x∈L,x.own=h.own→x.id<h.id∧min h.stage 5≤min x.stage 5)→(Xe h L).Pairwise Xo
 | [],_,_=>by simp [Xe]
 | x::r,hp,hx=>by
  obtain ⟨h1,h2⟩:=List.pairwise_cons.1 hp
  unfold Xe
  split
  ·rename_i hc
   refine List.pairwise_cons.2 ⟨fun y hy=> ?_,hp⟩
   rcases List.mem_cons.1 hy with rfl|hy
   ·exact .inl ⟨hc.1,hc.2⟩
   ·have:=h1 y hy
    unfold Xo at this
    rcases this with ⟨q,_⟩|⟨q,_⟩
    ·rw [hc.2] at q;cases q
    ·exact .inl ⟨hc.1,by rw [←q];exact hc.2⟩
  ·rename_i hc
   refine List.pairwise_cons.2 ⟨fun y hy=> ?_,Z6a h2 fun z hz=>hx z (by simp [hz])⟩
   rcases QT.1 hy with hy|rfl
   ·exact h1 y hy
   ·have:=hx x (by simp)
    unfold Xo
    cases hxo:x.own<;>cases hyo:y.own<;>simp_all
theorem ZeD (X:Z6) (own o:Bool) (d:Int):(Xq X own d).nx o=X.nx o+(if own=o then d else 0):=by
 cases own<;>cases o<;>simp [Xq,Z6.nx]
theorem Zhk (X:Z6) (own:Bool) (d s:Int):(Xq X own d).am s=X.am s:=by cases own<;>rfl
theorem Z52 {h:Z5} (hp:Yo h=true):(0≤h.id∧h.id≤2147483647)∧(1≤h.amount∧h.amount≤1125899906842624)∧1≤h.expiry∧h.expiry≤2147483647:=by
 unfold Yo at hp
 simp only [Bool.and_eq_true,decide_eq_true_eq] at hp
 exact ⟨hp.1.1,hp.1.2,hp.2⟩
theorem Vn {H:List Int→List Int} {X:Z6} {h:Z5} (h1:Yo h=true) (h2:h.id<X.nx h.own) (h3:1≤h.stage∧h.stage≤9) (h4:Z0n H h=true):XN H X h=true:=by
 unfold XN
 rw [h1,h4,decide_eq_true h2,decide_eq_true h3];rfl
theorem XY:Bytes Zd:=⟨fun i=>by
 have:Zd.getD i 0=0:=by
  show (List.replicate 32 (0:Int)).getD i 0=0
  rw [List.getD_eq_getElem?_getD,List.getElem?_replicate];split<;>rfl
 rw [this];omega⟩
theorem Z6.Inv.addX {H:List Int→List Int} {X:Z6} (h:X.Inv H) {own:Bool} {id am ex:Int} {hash:List Int} (hh:hash.length=32) (hb:Bytes hash):(addX X own id am hash ex).Inv H:=by
 unfold Go.Tk.addX
 split
 case isFalse=>exact h
 rename_i he
 obtain ⟨hp,hid,hn,ha⟩:=Z0t he
 have hpi:=Z52 hp
 have hpi1:(0≤id∧id≤2147483647)∧(1≤am∧am≤1125899906842624):=⟨hpi.1,hpi.2.1⟩
 have hamif:∀s,UK X.side s (YZ X own id am hash ex)=if ZP X.side own=s then am else 0:=fun s=>rfl
 have honeif:∀s,Ue X.side s (YZ X own id am hash ex)=if ZP X.side own=s then 1 else 0:=fun s=>rfl
 generalize hq:YZ X own id am hash ex=q at*
 have hqo:q.own=own:=by rw [←hq];rfl
 have hqi:q.id=id:=by rw [←hq];rfl
 have hqs:q.stage=1:=by rw [←hq];rfl
 have hqf:Z0n H q=true:=by rw [←hq];simp [Z0n,YZ]
 have hqk:q.Ok:=by rw [←hq];exact ⟨hh,hb,rfl,XY⟩
 have e1:∀(d:Int),(Xq X own d).side=X.side:=fun d=>by cases own<;>rfl
 have hov:∀s,Y1 { Xq X own 1 with L:=Xe q X.L} s=Y1 X s-(if ZP X.side own=s then am else 0):=fun s=>by
  have:Y1 { Xq X own 1 with L:=Xe q X.L} s=(Xq X own 1).am s-ZF (Xq X own 1).side s (Xe q X.L)-(Xq X own 1).res-(if s=0 then (Xq X own 1).t.fee else 0):=rfl
  rw [this,e1,Zhk,Z2N,hamif,Xg]
  have e2:(Xq X own 1).res=X.res:=by cases own<;>rfl
  have e3:(Xq X own 1).t=X.t:=by cases own<;>rfl
  rw [e2,e3];omega
 have hlen:∀s,(ZQ (Xq X own 1).side s (Xe q X.L)).length=(ZQ X.side s X.L).length+if ZP X.side own=s then 1 else 0:=fun s=>by
  have:=Z2O X.side s q X.L
  rw [honeif] at this
  rw [e1];exact this
 have hnx:∀o,({ Xq X own 1 with L:=Xe q X.L}:Z6).nx o=X.nx o+(if own=o then 1 else 0):=fun o=>ZeD X own o 1
 have hf:=ZP X.side own
 refine ⟨?_, ?_, ?_, ?_, ?_, ?_, ?_, ?_, ?_, ?_, ?_, ?_, ?_, ?_, ?_⟩
 ·cases own<;>exact h.tok
 ·cases own<;>exact h.tb
 ·show (Xq X own 1).side=0∨_;rw [e1];exact h.side
 ·cases own<;>exact h.res
 ·cases own<;>exact h.a0
 ·cases own<;>exact h.a1
 ·have:=h.i0
  cases own
  ·exact this
  ·have:id=X.i0:=hid
   show 0≤X.i0+1∧X.i0+1≤_;omega
 ·have:=h.i1
  cases own
  ·have:id=X.i1:=hid
   show 0≤X.i1+1∧X.i1+1≤_;omega
  ·exact this
 ·have:=h.n0
  show (ZQ (Xq X own 1).side 0 (Xe q X.L)).length≤8
  rw [hlen];split
  ·rename_i e;rw [e] at hn;omega
  ·omega
 ·have:=h.n1
  show (ZQ (Xq X own 1).side 1 (Xe q X.L)).length≤8
  rw [hlen];split
  ·rename_i e;rw [e] at hn;omega
  ·omega
 ·intro x hx
  rcases QT.1 hx with hx|rfl
  ·obtain ⟨u1,u2,u3,u4⟩:=YH (h.und x hx)
   refine Vn u1 ?_ u3 u4
   rw [hnx];split<;>omega
  ·refine Vn hp ?_ (by rw [hqs];omega) hqf
   rw [hnx,hqo,if_pos rfl,hqi,hid];omega
 ·refine Z6a h.fol fun x hx ho=> ?_
  obtain ⟨u1,u2,u3,u4⟩:=YH (h.und x hx)
  rw [ho,hqo] at u2
  rw [hqi,hqs,hid];omega
 ·have:=h.ov0
  rw [hov];split
  ·rename_i e;rw [e] at ha;omega
  ·omega
 ·rcases h.ov1 with h1|h1
  ·by_cases e:ZP X.side own=1
   ·right
    rw [hov,if_pos e];rw [e] at ha;omega
   ·left
    show ZQ (Xq X own 1).side 1 (Xe q X.L)=[]
    refine List.eq_nil_of_length_eq_zero ?_
    rw [hlen,h1,if_neg e];rfl
  ·right
   rw [hov];split
   ·rename_i e;rw [e] at ha;omega
   ·omega
 ·intro x hx
  rcases QT.1 hx with hx|rfl
  ·exact h.ok x hx
  ·exact hqk
def V1 (h:Z5):Bool×Int×Int×Int:=(h.own,h.id,h.amount,min h.stage 5)
theorem Z6b {a b c d:Z5} (h1:V1 a=V1 c) (h2:V1 b=V1 d) (h:Xo a b):Xo c d:=by
 unfold V1 at h1 h2
 simp only [Prod.mk.injEq] at h1 h2
 unfold Xo at*
 rw [←h1.1,←h2.1,←h1.2.1,←h2.2.1,←h1.2.2.2,←h2.2.2.2];exact h
theorem Z6c {side s:Int}:∀{L M:List Z5},L.map V1=M.map V1→ZF side s L=ZF side s M∧Yq side s L=Yq side s M
 | [],[],_=>⟨rfl,rfl⟩
 | [],y::q,h=>by simp at h
 | x::r,[],h=>by simp at h
 | x::r,y::q,h=>by
  simp only [List.map_cons,List.cons.injEq] at h
  obtain ⟨i1,i2⟩:=Z6c (side:=side) (s:=s) h.2
  have hk:=h.1
  unfold V1 at hk
  simp only [Prod.mk.injEq] at hk
  rw [ZL,ZL,Y4,Y4,i1,i2]
  unfold UK Ue
  rw [hk.1,hk.2.2.1];exact ⟨rfl,rfl⟩
theorem Z8M:∀{L M:List Z5},L.map V1=M.map V1→L.Pairwise Xo→M.Pairwise Xo
 | [],[],_,_=>.nil
 | [],y::q,h,_=>by simp at h
 | x::r,[],h,_=>by simp at h
 | x::r,y::q,h,hp=>by
  simp only [List.map_cons,List.cons.injEq] at h
  obtain ⟨h1,h2⟩:=List.pairwise_cons.1 hp
  refine List.pairwise_cons.2 ⟨fun z hz=> ?_,Z8M h.2 h2⟩
  have:V1 z∈r.map V1:=by rw [h.2];exact List.mem_map_of_mem hz
  obtain ⟨w,hw,e⟩:=List.mem_map.1 this
  exact Z6b h.1 e (h1 w hw)
theorem ZeE {L:List Z5} {I:Nat} {q:Z5} (hI:I<L.length) (hk:V1 q=V1 (L.getD I Z7)):(L.set I q).map V1=L.map V1:=by
 rw [List.map_set,hk,List.getD_eq_getElem?_getD,List.getElem?_eq_getElem hI]
 apply List.ext_getElem?
 intro i
 rw [List.getElem?_set]
 split
 ·rename_i e;subst e
  rw [if_pos (by simpa using hI)];simp [hI]
 ·rfl
theorem Z45 {H:List Int→List Int} {X:Z6} {own:Bool} {id k:Int} {sec:List Int} (he:YY H X own id k sec=0):ZB own id X.L<X.L.length∧(X.L.getD (ZB own id X.L) Z7).stage=5∧(k=1→H sec=(X.L.getD (ZB own id X.L) Z7).hash):=by
 unfold YY at he
 split at he
 ·cases he
 ·split at he
  ·cases he
  ·split at he
   ·cases he
   ·rename_i q1 q2 q3
    refine ⟨by omega,by simpa using q2,fun hk=> ?_⟩
    exact Classical.byContradiction fun hq=>q3 ⟨hk,hq⟩
theorem Z6.Inv.endX {H:List Int→List Int} {X:Z6} (h:X.Inv H) {own:Bool} {id k:Int} {sec:List Int} (hs:sec.length=32) (hb:Bytes sec) (hk:k=1∨(k=2∧sec=Zd)):(endX H X own id k sec).Inv H:=by
 unfold Go.Tk.endX
 split
 case isFalse=>exact h
 rename_i he
 obtain ⟨hI,h5,hsec⟩:=Z45 he
 generalize ZB own id X.L=I at*
 have hx:=Zz hI
 obtain ⟨u1,u2,u3,u4⟩:=YH (h.und _ hx)
 generalize hz:X.L.getD I Z7=z at*
 have hkey:V1 (VK z k sec)=V1 (X.L.getD I Z7):=by
  rw [hz]
  unfold V1 VK
  rw [h5];rfl
 have hm:=ZeE hI hkey
 have hsum:=fun s=>Z6c (side:=X.side) (s:=s) hm
 have hov:∀s,Y1 { X with L:=X.L.set I (VK z k sec)} s=Y1 X s:=fun s=>by
  have:Y1 { X with L:=X.L.set I (VK z k sec)} s=X.am s-ZF X.side s (X.L.set I (VK z k sec))-X.res-(if s=0 then X.t.fee else 0):=rfl
  rw [this,(hsum s).1,Xg]
 have hmem:∀x∈X.L.set I (VK z k sec),x∈X.L∨x=VK z k sec:=fun x hx=>List.mem_or_eq_of_mem_set hx
 refine ⟨h.tok,h.tb,h.side,h.res,h.a0,h.a1,h.i0,h.i1, ?_, ?_, ?_,Z8M hm.symm h.fol, ?_, ?_, ?_⟩
 ·have:=(hsum 0).2
  unfold Yq at this
  rw [this];exact h.n0
 ·have:=(hsum 1).2
  unfold Yq at this
  rw [this];exact h.n1
 ·intro x hx
  rcases hmem x hx with hx|rfl
  ·obtain ⟨u1,u2,u3,u4⟩:=YH (h.und x hx)
   exact Vn u1 u2 u3 u4
  ·refine Vn u1 u2 (show 1≤(6:Int)∧(6:Int)≤9 by omega) ?_
   unfold Z0n VK
   rcases hk with rfl|⟨rfl,rfl⟩
   ·simp [hsec rfl]
   ·simp
 ·rw [hov];exact h.ov0
 ·rcases h.ov1 with h1|h1
  ·left
   rw [VB] at h1⊢
   show Yq X.side 1 (X.L.set I (VK z k sec))=0
   rw [(hsum 1).2,h1]
  ·right;rw [hov];exact h1
 ·intro x hx
  rcases hmem x hx with hx|rfl
  ·exact h.ok x hx
  ·have:=h.ok z (by rw [←hz];exact Zz hI)
   exact ⟨this.hash,this.hb,hs,hb⟩
end Go.Tk
end
section
namespace Go.Tk
open IntKind (i64 u8 u32 u64 wrap)
theorem Z0P (m:Int) (x:Z5) (r:List Z5):Yh m (x::r)=if ZT x.own x.stage m=10 then Yh m r else stH m x::Yh m r:=by
 unfold Yh
 rw [List.map_cons,List.filter_cons]
 by_cases h:ZT x.own x.stage m=10<;>simp [h,stH]
theorem Z0Q (m:Int) (x:Z5) (r:List Z5):ZR m (x::r)=if ZT x.own x.stage m=10 then stH m x::ZR m r else ZR m r:=by
 unfold ZR
 rw [List.map_cons,List.filter_cons]
 by_cases h:ZT x.own x.stage m=10<;>simp [h,stH]
theorem Z53 (m side s:Int):∀L,ZF side s L=ZF side s (Yh m L)+ZF side s (ZR m L)
 | []=>rfl
 | x::r=>by
  have ih:=Z53 m side s r
  have e:UK side s (stH m x)=UK side s x:=rfl
  rw [Z0P,Z0Q,ZL]
  split
  ·rw [ZL,e];omega
  ·rw [ZL,e];omega
theorem Z1q (m side s:Int):∀L,Yq side s L=Yq side s (Yh m L)+Yq side s (ZR m L)
 | []=>rfl
 | x::r=>by
  have ih:=Z1q m side s r
  have e:Ue side s (stH m x)=Ue side s x:=rfl
  rw [Z0P,Z0Q,Y4]
  split
  ·rw [Y4,e];omega
  ·rw [Y4,e];omega
def WE (G:List Z5):List Z5:=G.filter fun h=>decide (h.fin=1)
theorem Uf {side:Int} (hs:side=0∨side=1):∀(G:List Z5) (a b:Int),G.foldl (XP side) (a,b)=(a-ZF side 0 (WE G)+ZF side 1 (WE G),b+ZF side 0 (WE G)-ZF side 1 (WE G))
 | [],a,b=>by simp [WE,ZF,ZQ,XB]
 | x::r,a,b=>by
  rw [List.foldl_cons]
  by_cases hf:x.fin=1
  ·have e:WE (x::r)=x::WE r:=by unfold WE;rw [List.filter_cons,decide_eq_true hf];rfl
   rw [e,ZL,ZL]
   have hfr:(ZP side x.own=0∧¬ZP side x.own=1)∨(¬ZP side x.own=0∧ZP side x.own=1):=by
    unfold ZP
    rcases hs with rfl|rfl<;>cases x.own<;>simp
   unfold UK
   rcases hfr with ⟨h1,h2⟩|⟨h1,h2⟩
   ·have hm:XP side (a,b) x=(a-x.amount,b+x.amount):=by unfold XP;rw [if_pos hf,if_pos h1]
    rw [hm,Uf hs r,if_pos h1,if_neg h2]
    simp only [Prod.mk.injEq];constructor<;>omega
   ·have hm:XP side (a,b) x=(a+x.amount,b-x.amount):=by unfold XP;rw [if_pos hf,if_neg h1]
    rw [hm,Uf hs r,if_neg h1,if_pos h2]
    simp only [Prod.mk.injEq];constructor<;>omega
  ·have e:WE (x::r)=WE r:=by unfold WE;rw [List.filter_cons,decide_eq_false hf];rfl
   rw [e,XP,if_neg hf,Uf hs r]
theorem QV {side s:Int}:∀{G:List Z5},(∀h∈G,0≤h.amount)→0≤ZF side s (WE G)∧ZF side s (WE G)≤ZF side s G
 | [],_=>by simp [WE,ZF,ZQ,XB]
 | x::r,h=>by
  obtain ⟨i1,i2⟩:=QV (side:=side) (s:=s) (G:=r) fun z hz=>h z (by simp [hz])
  have hx:=h x (by simp)
  have ha:0≤UK side s x:=by unfold UK;split<;>omega
  rw [ZL]
  unfold WE at*
  rw [List.filter_cons]
  split
  ·rw [ZL];omega
  ·omega
theorem Xh {side s:Int}:∀{G:List Z5},(∀h∈G,0≤h.amount)→0≤ZF side s G
 | [],_=>by simp [ZF,ZQ,XB]
 | x::r,h=>by
  have i1:=Xh (side:=side) (s:=s) (G:=r) fun z hz=>h z (by simp [hz])
  have hx:=h x (by simp)
  have ha:0≤UK side s x:=by unfold UK;split<;>omega
  rw [ZL];omega
theorem Qm {side s:Int} {L:List Z5} (h:ZQ side s L=[]):ZF side s L=0:=by unfold ZF;rw [h];rfl
theorem Z1r (o:Bool) (s m:Int):s≤ZT o s m∧ZT o s m≤s+1:=by unfold ZT;split<;>omega
theorem Zcj {a b:Z5} {m:Int} (h:Xo a b):Xo (stH m a) (stH m b):=by
 unfold Xo at*
 rcases h with h|⟨h1,h2,h3⟩
 ·exact .inl h
 ·refine .inr ⟨h1,h2, ?_⟩
  show min (ZT b.own b.stage m) 5≤min (ZT a.own a.stage m) 5
  have k1:=Z1r a.own a.stage m
  have k2:=Z1r b.own b.stage m
  by_cases e:a.stage=b.stage
  ·rw [h1,e];omega
  ·omega
theorem Z7L {m:Int} {L:List Z5} (h:L.Pairwise Xo):(Yh m L).Pairwise Xo:=by
 unfold Yh
 refine List.Pairwise.filter _ ?_
 exact List.pairwise_map.2 (h.imp fun hab=>Zcj hab)
theorem Qn {m:Int} {L:List Z5} {x:Z5} (h:x∈Yh m L):∃z∈L,x=stH m z∧ZT z.own z.stage m≠10:=by
 unfold Yh at h
 obtain ⟨h1,h2⟩:=List.mem_filter.1 h
 obtain ⟨z,hz,rfl⟩:=List.mem_map.1 h1
 exact ⟨z,hz,rfl,of_decide_eq_true h2⟩
theorem Qo {m:Int} {L:List Z5} {x:Z5} (h:x∈ZR m L):∃z∈L,x=stH m z:=by
 unfold ZR at h
 obtain ⟨h1,h2⟩:=List.mem_filter.1 h
 obtain ⟨z,hz,rfl⟩:=List.mem_map.1 h1
 exact ⟨z,hz,rfl⟩
theorem Zix (o:Bool):Xm o 5=0:=by unfold Xm;simp
theorem Zck {H:List Int→List Int} {z:Z5} {m:Int} (hm:1≤m∧m≤4) (h:Z0n H z=true):Z0n H (stH m z)=true:=by
 have k:=Z1r z.own z.stage m
 unfold Z0n at*
 show (if z.fin=0 then decide (ZT z.own z.stage m<6)&&(z.secret==Zd) else if z.fin=1 then decide (6≤ZT z.own z.stage m)&&(H z.secret==z.hash) else if z.fin=2 then decide (6≤ZT z.own z.stage m)&&(z.secret==Zd) else false)=true
 by_cases h0:z.fin=0
 ·rw [if_pos h0] at h⊢
  simp only [Bool.and_eq_true,decide_eq_true_eq] at h⊢
  refine ⟨?_,h.2⟩
  by_cases h5:z.stage=5
  ·have:ZT z.own z.stage m=5:=by unfold ZT;rw [h5,Zix,if_neg (by omega)]
   omega
  ·omega
 ·rw [if_neg h0] at h⊢
  by_cases h1:z.fin=1
  ·rw [if_pos h1] at h⊢
   simp only [Bool.and_eq_true,decide_eq_true_eq] at h⊢
   exact ⟨by omega,h.2⟩
  ·rw [if_neg h1] at h⊢
   by_cases h2:z.fin=2
   ·rw [if_pos h2] at h⊢
    simp only [Bool.and_eq_true,decide_eq_true_eq] at h⊢
    exact ⟨by omega,h.2⟩
   ·rw [if_neg h2] at h;cases h
theorem Z6.Inv.stpX {H:List Int→List Int} {X:Z6} (h:X.Inv H) (m:Int):(stpX X m).Inv H:=by
 unfold Go.Tk.stpX
 split
 case isFalse=>exact h
 rename_i hm
 have hA:∀z∈X.L,0≤z.amount:=fun z hz=>(h.am.am z hz).1
 have hG:∀z∈ZR m X.L,0≤z.amount:=fun z hz=>by
  obtain ⟨y,hy,rfl⟩:=Qo hz
  exact hA y hy
 have hLf:∀z∈Yh m X.L,0≤z.amount:=fun z hz=>by
  obtain ⟨y,hy,rfl,_⟩:=Qn hz
  exact hA y hy
 unfold QO
 rw [Uf h.side]
 have s0:=Z53 m X.side 0 X.L
 have s1:=Z53 m X.side 1 X.L
 have p0:=QV (side:=X.side) (s:=0) hG
 have p1:=QV (side:=X.side) (s:=1) hG
 have q0:=Xh (side:=X.side) (s:=0) hLf
 have q1:=Xh (side:=X.side) (s:=1) hLf
 have o0:=h.ov0
 rw [Xg] at o0
 have ham0:X.am 0=X.a0:=rfl
 have ham1:X.am 1=X.a1:=rfl
 rw [ham0,if_pos rfl] at o0
 have tb:=ZZ h.tb
 have hr:=h.res
 have ha0:=h.a0
 have ha1:=h.a1
 have o1:ZF X.side 1 X.L=0∨0≤X.a1-ZF X.side 1 X.L-X.res:=by
  rcases h.ov1 with k|k
  ·exact .inl (Qm k)
  ·right
   rw [Xg,ham1,if_neg (by decide)] at k
   omega
 have hov:∀(a b s:Int),Y1 { X with L:=Yh m X.L,a0:=a,a1:=b} s=(if s=0 then a else b)-ZF X.side s (Yh m X.L)-X.res-(if s=0 then X.t.fee else 0):=fun a b s=>rfl
 refine ⟨h.tok,h.tb,h.side,h.res, ?_, ?_,h.i0,h.i1, ?_, ?_, ?_,Z7L h.fol, ?_, ?_, ?_⟩
 ·show 0≤_∧_≤X.t.cap
  constructor<;>dsimp only<;>omega
 ·dsimp only;omega
 ·have:=Z1q m X.side 0 X.L
  have k:=h.n0
  unfold Yq at this
  dsimp only;omega
 ·have:=Z1q m X.side 1 X.L
  have k:=h.n1
  unfold Yq at this
  dsimp only;omega
 ·intro x hx
  obtain ⟨z,hz,rfl,hn⟩:=Qn hx
  obtain ⟨u1,u2,u3,u4⟩:=YH (h.und z hz)
  have k:=Z1r z.own z.stage m
  exact Vn u1 u2 (show 1≤ZT z.own z.stage m∧ZT z.own z.stage m≤9 by omega) (Zck hm u4)
 ·rw [hov,if_pos rfl,if_pos rfl];omega
 ·rcases h.ov1 with k|k
  ·left
   rw [VB] at k⊢
   have:=Z1q m X.side 1 X.L
   show Yq X.side 1 (Yh m X.L)=0
   omega
  ·right
   rw [Xg,ham1,if_neg (by decide)] at k
   rw [hov,if_neg (by decide),if_neg (by decide)];omega
 ·intro x hx
  obtain ⟨z,hz,rfl,_⟩:=Qn hx
  have:=h.ok z hz
  exact ⟨this.hash,this.hb,this.secret,this.sb⟩
theorem Z0R (x:Z5) (r:List Z5):Yg (x::r)=if Yu x.own x.stage=0 then Yg r else brH x::Yg r:=by
 unfold Yg
 rw [List.filter_cons]
 by_cases h:Yu x.own x.stage=0<;>simp [h]
theorem Z0S (x:Z5) (r:List Z5):ZD (x::r)=if Yu x.own x.stage=0 then x::ZD r else ZD r:=by
 unfold ZD
 rw [List.filter_cons]
 by_cases h:Yu x.own x.stage=0<;>simp [h]
theorem XZ (x:Z5):(brH x).own=x.own∧(brH x).id=x.id∧(brH x).amount=x.amount∧(brH x).hash=x.hash∧(brH x).expiry=x.expiry:=by
 unfold brH;split<;>exact ⟨rfl,rfl,rfl,rfl,rfl⟩
theorem Z1s (side s:Int):∀L,ZF side s L=ZF side s (Yg L)+ZF side s (ZD L)
 | []=>rfl
 | x::r=>by
  have ih:=Z1s side s r
  have e:UK side s (brH x)=UK side s x:=by unfold UK;rw [(XZ x).1,(XZ x).2.2.1]
  rw [Z0R,Z0S,ZL]
  split
  ·rw [ZL];omega
  ·rw [ZL,e];omega
theorem Z1t (side s:Int):∀L,Yq side s L=Yq side s (Yg L)+Yq side s (ZD L)
 | []=>rfl
 | x::r=>by
  have ih:=Z1t side s r
  have e:Ue side s (brH x)=Ue side s x:=by unfold Ue;rw [(XZ x).1]
  rw [Z0R,Z0S,Y4]
  split
  ·rw [Y4];omega
  ·rw [Y4,e];omega
theorem Z2P {o:Bool} {s:Int} (hs:1≤s∧s≤9):Yu o s=0↔o=false∧s=1:=by
 unfold Yu
 split
 ·rename_i h
  rcases h with h|h|h
  ·omega
  ·omega
  ·exact ⟨fun _=>h,fun _=>rfl⟩
 ·rename_i h
  have h1:¬(o=false∧s=1):=fun q=>h (.inr (.inr q))
  split<;>exact ⟨fun q=>by omega,fun q=>absurd q h1⟩
theorem Z1u {o:Bool} {s:Int} (hs:1≤s∧s≤9) (h0:Yu o s≠0):Yu o s=if o=true∧s=6 then 5 else s:=by
 have:¬(s<1∨10<s∨(o=false∧s=1)):=fun q=>by
  rcases q with q|q|q
  ·omega
  ·omega
  ·exact h0 ((Z2P hs).2 q)
 unfold Yu
 rw [if_neg this]
theorem Z6d {x:Z5} (hs:1≤x.stage∧x.stage≤9) (h0:Yu x.own x.stage≠0):(brH x).stage=Yu x.own x.stage:=by
 unfold brH;split
 ·rename_i h;exact h.symm
 ·rfl
theorem Zcl {x:Z5} (hs:1≤x.stage∧x.stage≤9) (h0:Yu x.own x.stage≠0):min (brH x).stage 5=min x.stage 5:=by
 rw [Z6d hs h0,Z1u hs h0]
 split
 ·rename_i h;rw [h.2];rfl
 ·rfl
theorem Z2Q {L:List Z5} {x:Z5} (h:x∈Yg L):∃z∈L,x=brH z∧Yu z.own z.stage≠0:=by
 unfold Yg at h
 obtain ⟨z,hz,rfl⟩:=List.mem_map.1 h
 obtain ⟨h1,h2⟩:=List.mem_filter.1 hz
 exact ⟨z,h1,rfl,by simpa using h2⟩
theorem VC {L:List Z5} {x:Z5} (h:x∈ZD L):x∈L∧Yu x.own x.stage=0:=by
 unfold ZD at h
 obtain ⟨h1,h2⟩:=List.mem_filter.1 h
 exact ⟨h1,by simpa using h2⟩
theorem Z0u:∀{G:List Z5} {z N:Int},z<N→(∀g∈G,z<g.id∧g.id<N)→G.Pairwise (fun a b=>a.id<b.id)→z+G.length<N
 | [],z,N,h,_,_=>by simpa using h
 | g::r,z,N,h,hg,hp=>by
  obtain ⟨h1,h2⟩:=List.pairwise_cons.1 hp
  have k:=hg g (by simp)
  have:=Z0u (G:=r) (z:=g.id) (N:=N) k.2 (fun y hy=>⟨h1 y hy,(hg y (by simp [hy])).2⟩) h2
  rw [List.length_cons];omega
theorem Z6.Inv.brIds {H:List Int→List Int} {X:Z6} (h:X.Inv H):(ZD X.L).Pairwise (fun a b=>a.id<b.id)∧∀g∈ZD X.L,g.own=false∧g.stage=1∧0≤g.id∧g.id<X.i1:=by
 have hm:∀g∈ZD X.L,g.own=false∧g.stage=1∧0≤g.id∧g.id<X.i1:=fun g hg=>by
  obtain ⟨h1,h2⟩:=VC hg
  obtain ⟨u1,u2,u3,u4⟩:=YH (h.und g h1)
  have k:=(Z2P u3).1 h2
  have:=Z52 u1
  rw [k.1] at u2
  exact ⟨k.1,k.2,this.1.1,u2⟩
 refine ⟨?_,hm⟩
 have hp:(ZD X.L).Pairwise Xo:=List.Pairwise.filter _ h.fol
 refine List.Pairwise.imp_of_mem (fun {a b} ha hb hab=> ?_) hp
 rcases hab with ⟨k,_⟩|⟨_,k,_⟩
 ·rw [(hm a ha).1] at k;cases k
 ·exact k
theorem Z6.Inv.brLt {H:List Int→List Int} {X:Z6} (h:X.Inv H) {z:Z5} (hz:z∈X.L) (h0:Yu z.own z.stage≠0) (ho:z.own=false):z.id+(ZD X.L).length<X.i1:=by
 obtain ⟨hp,hm⟩:=h.brIds
 obtain ⟨u1,u2,u3,u4⟩:=YH (h.und z hz)
 rw [ho] at u2
 refine Z0u (show z.id<X.i1 from u2) (fun g hg=> ?_) hp
 have k:=hm g hg
 refine ⟨?_,k.2.2.2⟩
 have hzs:z.stage≠1:=fun e=>h0 ((Z2P u3).2 ⟨ho,e⟩)
 have hgm:=(VC hg).1
 obtain ⟨i,hi,rfl⟩:=List.getElem_of_mem hz
 obtain ⟨j,hj,rfl⟩:=List.getElem_of_mem hgm
 have hpw:=List.pairwise_iff_getElem.1 h.fol
 rcases Nat.lt_trichotomy i j with e|e|e
 ·rcases hpw i j hi hj e with ⟨q,_⟩|⟨_,q,_⟩
  ·rw [ho] at q;cases q
  ·exact q
 ·subst e;exact absurd k.2.1 hzs
 ·rcases hpw j i hj hi e with ⟨q,_⟩|⟨_,_,q⟩
  ·rw [k.1] at q;cases q
  ·rw [k.2.1] at q;omega
theorem Z6.Inv.brkX {H:List Int→List Int} {X:Z6} (h:X.Inv H):(brkX X).Inv H:=by
 unfold Go.Tk.brkX
 have hA:∀z∈X.L,0≤z.amount:=fun z hz=>(h.am.am z hz).1
 have hG:∀z∈ZD X.L,0≤z.amount:=fun z hz=>hA z (VC hz).1
 have s0:=Z1s X.side 0 X.L
 have s1:=Z1s X.side 1 X.L
 have p0:=Xh (side:=X.side) (s:=0) hG
 have p1:=Xh (side:=X.side) (s:=1) hG
 have hov:∀s,Y1 { X with L:=Yg X.L,i1:=X.i1-(ZD X.L).length} s=Y1 X s+ZF X.side s (ZD X.L):=fun s=>by
  have:Y1 { X with L:=Yg X.L,i1:=X.i1-(ZD X.L).length} s=X.am s-ZF X.side s (Yg X.L)-X.res-(if s=0 then X.t.fee else 0):=rfl
  rw [this,Xg,Z1s X.side s X.L];omega
 obtain ⟨hp,hm⟩:=h.brIds
 have hcnt: -1+((ZD X.L).length:Int)<X.i1:=Z0u (by have:=h.i1;omega) (fun g hg=>⟨by have:=(hm g hg).2.2.1;omega,(hm g hg).2.2.2⟩) hp
 refine ⟨h.tok,h.tb,h.side,h.res,h.a0,h.a1,h.i0, ?_, ?_, ?_, ?_, ?_, ?_, ?_, ?_⟩
 ·have:=h.i1
  dsimp only;omega
 ·have:=Z1t X.side 0 X.L
  have k:=h.n0
  unfold Yq at this
  dsimp only;omega
 ·have:=Z1t X.side 1 X.L
  have k:=h.n1
  unfold Yq at this
  dsimp only;omega
 ·intro x hx
  obtain ⟨z,hz,rfl,h0⟩:=Z2Q hx
  obtain ⟨u1,u2,u3,u4⟩:=YH (h.und z hz)
  obtain ⟨e1,e2,e3,e4,e5⟩:=XZ z
  refine Vn ?_ ?_ ?_ ?_
  ·unfold Yo at*;rw [e2,e3,e5];exact u1
  ·rw [e1,e2]
   cases ho:z.own
   ·have:=h.brLt hz h0 ho
    show z.id<X.i1-_
    omega
   ·rw [ho] at u2;exact u2
  ·rw [Z6d u3 h0,Z1u u3 h0];split<;>omega
  ·unfold brH
   split
   ·simp [Z0n]
   ·rename_i h5
    have:Yu z.own z.stage=z.stage:=by
     rw [Z1u u3 h0] at h5⊢
     split
     ·rename_i q;rw [if_pos q] at h5;exact absurd rfl h5
     ·rfl
    rw [this];exact u4
 ·unfold Yg
  refine List.pairwise_map.2 ?_
  refine List.Pairwise.imp_of_mem (fun {a b} ha hb hab=> ?_) (List.Pairwise.filter _ h.fol)
  obtain ⟨ha1,ha2⟩:=List.mem_filter.1 ha
  obtain ⟨hb1,hb2⟩:=List.mem_filter.1 hb
  have ka:=Zcl (YH (h.und a ha1)).2.2.1 (by simpa using ha2)
  have kb:=Zcl (YH (h.und b hb1)).2.2.1 (by simpa using hb2)
  refine Z6b ?_ ?_ hab
  ·unfold V1;rw [(XZ a).1,(XZ a).2.1,(XZ a).2.2.1,ka]
  ·unfold V1;rw [(XZ b).1,(XZ b).2.1,(XZ b).2.2.1,kb]
 ·rw [hov];have:=h.ov0;omega
 ·rcases h.ov1 with k|k
  ·left
   rw [VB] at k⊢
   have:=Z1t X.side 1 X.L
   show Yq X.side 1 (Yg X.L)=0
   omega
  ·right;rw [hov];omega
 ·intro x hx
  obtain ⟨z,hz,rfl,_⟩:=Z2Q hx
  have:=h.ok z hz
  unfold brH
  split
  ·exact ⟨this.hash,this.hb,rfl,XY⟩
  ·exact ⟨this.hash,this.hb,this.secret,this.sb⟩
end Go.Tk
end
section
namespace Go.Tk
open IntKind (i64 u8 u32 u64 wrap)
theorem Y5 {L:List Z5} {i:Nat} (hi:i<L.length):L.take (i+1)=L.take i++[L.getD i Z7]:=by
 rw [List.take_succ_eq_append_getElem hi,List.getD_eq_getElem?_getD,List.getElem?_eq_getElem hi];rfl
theorem Vo (p:Z5→Bool) (x:Z5):[x].filter p=YU (p x) x:=by
 rw [List.filter_cons]
 cases p x<;>rfl
theorem Qp (m:Int) (A:List Z5) (x:Z5):ZR m (A++[x])=ZR m A++YU (decide (ZT x.own x.stage m=10)) (stH m x):=by
 unfold ZR
 rw [List.map_append,List.filter_append,List.map_cons,List.map_nil,Vo];rfl
theorem Z2R (m:Int) (A:List Z5) (x:Z5):Yh m (A++[x])=Yh m A++YU (decide (¬ZT x.own x.stage m=10)) (stH m x):=by
 unfold Yh
 rw [List.map_append,List.filter_append,List.map_cons,List.map_nil,Vo];rfl
theorem Z2S (m:Int) (A:List Z5) (x:Z5):Yi m (A++[x])=Yi m A++YU (decide (x.stage=4∧Xm x.own 4=m)) (stH m x):=by
 unfold Yi
 rw [List.filter_append,List.map_append,Vo]
 cases decide (x.stage=4∧Xm x.own 4=m)<;>rfl
theorem Zcm (m side:Int) (p:Int×Int) (A:List Z5) (x:Z5):QO m side p (A++[x])=if ZT x.own x.stage m=10 then XP side (QO m side p A) (stH m x) else QO m side p A:=by
 unfold QO
 rw [Qp,List.foldl_append]
 by_cases h:ZT x.own x.stage m=10
 ·rw [decide_eq_true h,if_pos h];rfl
 ·rw [decide_eq_false h,if_neg h];rfl
theorem Z46 {side s:Int} {G:List Z5} {n:Nat} (hn:G.length≤n) (h:∀x∈G,0≤x.amount∧x.amount≤1125899906842624):0≤ZF side s G∧ZF side s G≤1125899906842624*n:=by
 unfold ZF
 have:=Z0r (xs:=XB (ZQ side s G)) fun x hx=>by
  obtain ⟨z,hz,rfl⟩:=List.mem_map.1 hx
  exact h z (List.mem_filter.1 hz).1
 have h2:(XB (ZQ side s G)).length≤n:=by
  unfold XB;rw [List.length_map]
  exact Nat.le_trans (Z50 side s G) hn
 omega
theorem Z7M {m side:Int} {a b:Int} {A:List Z5} (hs:side=0∨side=1) (hn:A.length≤16) (hA:∀x∈A,0≤x.amount∧x.amount≤1125899906842624) (ha:0≤a∧a≤1125899906842624) (hb:0≤b∧b≤1125899906842624):
  (-1152921504606846976≤(QO m side (a,b) A).1∧(QO m side (a,b) A).1≤1152921504606846976)∧ -1152921504606846976≤(QO m side (a,b) A).2∧(QO m side (a,b) A).2≤1152921504606846976:=by
 unfold QO
 rw [Uf hs]
 have hl:(ZR m A).length≤16:=by
  unfold ZR
  refine Nat.le_trans (List.length_filter_le _ _) ?_
  rw [List.length_map];exact hn
 have hG:∀z∈ZR m A,0≤z.amount∧z.amount≤1125899906842624:=fun z hz=>by
  obtain ⟨y,hy,rfl⟩:=Qo hz
  exact hA y hy
 have p0:=QV (side:=side) (s:=0) fun z hz=>(hG z hz).1
 have p1:=QV (side:=side) (s:=1) fun z hz=>(hG z hz).1
 have q0:=Z46 (side:=side) (s:=0) hl hG
 have q1:=Z46 (side:=side) (s:=1) hl hG
 dsimp only
 omega
def stX (X:Z6) (m:Int) (i:Nat):Z6:={ X with a0:=(QO m X.side (X.a0,X.a1) (X.L.take i)).1,a1:=(QO m X.side (X.a0,X.a1) (X.L.take i)).2}
theorem Z6e {X:Z6} {m:Int} {i:Nat} (hi:i<X.L.length):stX X m (i+1)=if ZT (X.L.getD i Z7).own (X.L.getD i Z7).stage m=10 then { stX X m i with a0:=(XP X.side ((stX X m i).a0,(stX X m i).a1) (stH m (X.L.getD i Z7))).1,a1:=(XP X.side ((stX X m i).a0,(stX X m i).a1) (stH m (X.L.getD i Z7))).2} else stX X m i:=by
 unfold stX
 rw [Y5 hi,Zcm]
 by_cases h:ZT (X.L.getD i Z7).own (X.L.getD i Z7).stage m=10
 ·rw [if_pos h,if_pos h]
 ·rw [if_neg h,if_neg h]
theorem Z2T (m:Int) (A:List Z5):(ZR m A).length≤A.length:=by
 unfold ZR;refine Nat.le_trans (List.length_filter_le _ _) ?_;rw [List.length_map];exact Nat.le_refl _
theorem Z6f (m:Int) (A:List Z5):(Yh m A).length≤A.length:=by
 unfold Yh;refine Nat.le_trans (List.length_filter_le _ _) ?_;rw [List.length_map];exact Nat.le_refl _
theorem Z2U (m:Int) (A:List Z5):(Yi m A).length≤A.length:=by
 unfold Yi;rw [List.length_map];exact List.length_filter_le _ _
def Z6g (X:Z6) (m:Int) (n:Nat):Prop:=X.L.length=n∧n≤16∧(1≤m∧m≤4)∧(X.side=0∨X.side=1)∧(∀h∈X.L,(1≤h.stage∧h.stage≤9)∧0≤h.amount∧h.amount≤1125899906842624)∧(0≤X.a0∧X.a0≤1125899906842624)∧0≤X.a1∧X.a1≤1125899906842624
theorem Z47 {X:Z6} {m:Int} {n i:Nat} (h:Z6g X m n):(-1152921504606846976≤(stX X m i).a0∧(stX X m i).a0≤1152921504606846976)∧ -1152921504606846976≤(stX X m i).a1∧(stX X m i).a1≤1152921504606846976:=
 Z7M h.2.2.2.1 (by rw [List.length_take];have:=h.1;have:=h.2.1;omega) (fun x hx=>(h.2.2.2.2.1 x (List.mem_of_mem_take hx)).2) h.2.2.2.2.2.1 h.2.2.2.2.2.2
def ZeF (X:Z6) (m:Int) (n i:Nat):St:=stS (stX X m i) X.L m n i (ZR m (X.L.take i)) (Yi m (X.L.take i)) (Yh m (X.L.take i))
def ZeG (X:Z6) (m:Int) (n i:Nat):St:=stE (stX X m i) X.L m n (ZR m (X.L.take i)) (Yi m (X.L.take i)) (Yh m (X.L.take i))
noncomputable def ZeH (X:Z6) (m:Int) (n:Nat) (C:Prop) (E:Nat→St):Zf:=ZeC.withL 27 1 (goM 2 (stS X X.L m n 0 [] [] []) C (Ys 1 n 9 (fun i=>i<n) (fun i=>i=n) (fun _=>False) (fun _=>False) E E E))
theorem Z8N:ZeC.Ok:=Zf.withP_ok Zr Zhf
theorem Ziy (X:Z6) (m:Int) (n i:Nat) (hC:Z6g X m n) (hi:i≤n):ZI ZeC 20 27 1 2 (ZeF X m n i) (rdM 2 1 9 (ZeF X m n (i+1)) (ZeG X m n i) (ZeG X m n i) (ZeG X m n i) (i<n∧i<n) (i=n) False False):=by
 obtain ⟨h1,h2,h3,h4,h5,h6⟩:=id hC
 have hlt:i<n→i<X.L.length:=fun h=>by omega
 have l0:(X.L.take i).length≤16:=by rw [List.length_take];omega
 have l1:=Z2T m (X.L.take i)
 have l2:=Z2U m (X.L.take i)
 have l3:=Z6f m (X.L.take i)
 refine Ziw (stX X m i) (stX X m (i+1)) X.L m n i (X.L.getD i Z7) _ _ _ _ _ _ (i<n∧i<n) (i=n) (by omega) h1 hi h3 (show 0≤X.side∧X.side≤1 by omega) (fun _=>rfl) (fun h=>(h5 _ (Zz (hlt h))).1) ⟨by omega,by omega,by omega⟩ (fun h=> ?_) (fun h=> ?_) (fun h=> ?_) (fun h=>Z6e (hlt h)) (fun h _ _=> ?_) (fun h=>⟨h,h⟩) (fun h=>h)
 ·rw [Y5 (hlt h),Qp]
 ·rw [Y5 (hlt h),Z2S]
 ·rw [Y5 (hlt h),Z2R]
 ·obtain ⟨b1,b2⟩:=Z47 (i:=i) hC
  have:=(h5 _ (Zz (hlt h))).2
  exact ⟨b1,b2,this.1,by omega⟩
theorem ZeI (X:Z6) (m:Int) (n:Nat):(ZeH X m n (Z6g X m n) (ZeG X m n)).Ok:=
 Zf.withGoM (N:=20) (S:=ZeF X m n) Z8N (by kernel_rfl) fun hC=>⟨rfl,fun i hi _=>Ziy X m n i hC hi⟩
theorem Zkr (X X':Z6) (m:Int) (n l g d:Nat) (G Hd:List Z5) (C:Prop) (XF:Nat→Z6) (GF HF LF:Nat→List Z5) (hC:C) (hn:n≤16) (hm:1≤m∧m≤4) (hcap:X.t.cap≠0) (hG:G=GF n) (hH:Hd=HF n) (hX':X'={ XF n with L:=LF n}) (hl:l=X'.L.length) (hg:g=G.length) (hd:d=Hd.length):
  evF (ZeH X m n C fun i=>stE (XF i) X.L m n (GF i) (HF i) (LF i)) 20 27 [.ptr (some ⟨0,0,0,0,0⟩),.int .i64 m] (Z3j X n) (Y7 2 (.ret (.tuple [.nslice ⟨4,0,70,0,0⟩ 70 d d,.nslice ⟨3,0,70,0,0⟩ 70 g g,.int .i64 0])) 5 [(0,.flat (X'.c (.nslice ⟨2,0,70,0,0⟩ 70 l l))),(2,.rows 70 l (Z4 X'.L)),(3,.rows 70 g (Z4 G)),(4,.rows 70 d (Z4 Hd))]):=by
 refine @Eq.mpr _ (let q1:=X.t;
 let q2:=q1.cap;
 let q3:=decide (d=0);
 let q4:=decide (g=0);
 let q5:=Z0 q3 (Z0 q3 (Z0 q4 (Z0 q4 False False) False) False) False;
 let q6:=decide (n=n);
 let q7:=decide (n≤n);
 let q8:=q1.fund;
 let q9:=q1.index;
 let q10:=q1.dust;
 let q11:=q1.fee;
 let q12:=q1.delay;
 let q13:=q1.k0;
 let q14:=q1.k1;
 let q15:=[X.a0,X.a1];
 let q16:=[X.i0,X.i1];
 let q17:=Z4 X.L;
 let q18:=X'.t;
 let q19:=[(2,4),(3,2),(4,3)];
 Z0 (q2==0) q5
 (Z0 (decide (1≤m))
 (Z0 (!decide (m≤4)) q5
 (Z0 (decide ((↑n:Int)=(↑n:Int)))
 (Z0 q6
 (Z0 q7
 (Z0 (decide (m=m))
 (q8=q8∧
 Z0 (decide (q9=q9))
 (Z0 (decide (q2=q2))
 (Z0 (decide (q10=q10))
 (Z0 (decide (q11=q11))
 (Z0 (decide (q12=q12))
 (q13=q13∧
 q14=q14∧
 Z0 (decide (X.side=X.side))
 (Z0 (decide (X.res=X.res))
 (q15=q15∧
 q16=q16∧
 Z0 q6
 (Z0 q7
 (Z0 q6
 (Za 2 [(2,2)] n q17 q17∧
 C∧
 ∀(i:Nat),
 let q39:=decide (List.length (HF i)=d);
 let q40:=decide (List.length (GF i)=g);
 let q41:=(XF i).t;
 let q42:=decide (List.length (LF i)=l);
 i≤n→(∀(j:Nat),j<i→(fun (i:Nat)=>i<n) j)→(i=n→Z0 q39 (Z0 (decide (d≤List.length (HF i))) (Z0 q40 (Z0 (decide (g≤List.length (GF i))) (q41.fund=q18.fund∧Z0 (decide (q41.index=q18.index)) (Z0 (decide (q41.cap=q18.cap)) (Z0 (decide (q41.dust=q18.dust)) (Z0 (decide (q41.fee=q18.fee)) (Z0 (decide (q41.delay=q18.delay)) (q41.k0=q18.k0∧q41.k1=q18.k1∧Z0 (decide ((XF i).side=X'.side)) (Z0 (decide ((XF i).res=X'.res)) ([(XF i).a0,(XF i).a1]=[X'.a0,X'.a1]∧[(XF i).i0,(XF i).i1]=[X'.i0,X'.i1]∧Z0 q42 (Z0 (decide (l≤List.length (LF i))) (Z0 q42 (Za 2 q19 l (Z4 X'.L) (Z4 (LF i))∧Z0 q40 (Za 2 q19 g (Z4 G) (Z4 (GF i))∧Z0 q39 (Za 2 q19 d (Z4 Hd) (Z4 (HF i))∧True) False) False) False) False) False) False) False) False) False) False) False) False) False) False) False) False)∧(False→False)∧(False→False))
 False)
 False)
 False)
 False)
 False)
 False)
 False)
 False)
 False)
 False)
 False)
 False)
 False)
 False))
 q5)) (by kernel_rfl) ?_
 conv=>zeta
 try simp only [Zg]
 try simp only [Zi]
 try simp only [Zh]
 try simp only [Zj]
 try simp only [Zk]
 try simp only [Ze]
 try simp only [Int.toNat_natCast,Nat.zero_add,true_and,and_true,Nat.le_refl]
 subst hG hH hX'
 have hR:∀τ k (Q:List Z5),Za 2 τ k (Z4 Q) (Z4 Q):=fun τ k Q=>Zn fun _ _=>rfl
 have hcap':(X.t.cap==0)=false:=by simpa using hcap
 rw [hcap']
 refine ⟨fun h=>(by cases h),fun _=>⟨fun h1=>⟨fun h2=> ?_,fun _=>⟨hR _ _ _,hC,fun i hi _=>⟨fun he=> ?_,fun h=>h.elim,fun h=>h.elim⟩⟩⟩,fun h=>absurd hm.1 h⟩⟩
 ·have:¬m≤4:=by simpa using h2
  exact absurd hm.2 this
 ·subst he
  repeat' apply And.intro
  all_goals first|rfl|exact hR _ _ _|exact hl.symm|exact hg.symm|exact hd.symm|exact Nat.le_of_eq hl|exact Nat.le_of_eq hg|exact Nat.le_of_eq hd
theorem Zks (X:Z6) (m:Int) (n:Nat) (C:Prop) (hcap:X.t.cap≠0) (hm:¬(1≤m∧m≤4)):
  evF (ZeH X m n C fun _=>stE X [] m n [] [] []) 20 27 [.ptr (some ⟨0,0,0,0,0⟩),.int .i64 m] (Z3j X n) (Y7 2 (.ret (.tuple [.nilslice,.nilslice,.int .i64 2])) 2 [(0,.flat (X.c (.nslice ⟨1,0,70,0,0⟩ 70 n n))),(1,.rows 70 n (Z4 X.L))]):=by
 refine @Eq.mpr _ (let q1:=X.t;
 let q2:=q1.cap;
 let q3:=q1.fund;
 let q4:=q3=q3;
 let q5:=q1.index;
 let q6:=decide (q5=q5);
 let q7:=decide (q2=q2);
 let q8:=q1.dust;
 let q9:=decide (q8=q8);
 let q10:=q1.fee;
 let q11:=decide (q10=q10);
 let q12:=q1.delay;
 let q13:=decide (q12=q12);
 let q14:=q1.k0;
 let q15:=q14=q14;
 let q16:=q1.k1;
 let q17:=q16=q16;
 let q18:=decide (X.side=X.side);
 let q19:=decide (X.res=X.res);
 let q20:=[X.a0,X.a1];
 let q21:=q20=q20;
 let q22:=[X.i0,X.i1];
 let q23:=q22=q22;
 let q24:=decide (n=n);
 let q25:=decide (n≤n);
 let q26:=Z4 X.L;
 let q27:=q4∧Z0 q6 (Z0 q7 (Z0 q9 (Z0 q11 (Z0 q13 (q15∧q17∧Z0 q18 (Z0 q19 (q21∧q23∧Z0 q24 (Z0 q25 (Z0 q24 (Za 2 [] n q26 q26∧True) False) False) False) False) False) False) False) False) False) False;
 Z0 (q2==0) False (Z0 (decide (1≤m)) (Z0 (!decide (m≤4)) q27 (Z0 (decide ((↑n:Int)=(↑n:Int))) (Z0 q24 (Z0 q25 (Z0 (decide (m=m)) (q4∧Z0 q6 (Z0 q7 (Z0 q9 (Z0 q11 (Z0 q13 (q15∧q17∧Z0 q18 (Z0 q19 (q21∧q23∧Z0 q24 (Z0 q25 (Z0 q24 (Za 2 [(2,2)] n q26 q26∧C∧∀(i:Nat),i≤n→(∀(j:Nat),j<i→(fun (i:Nat)=>i<n) j)→(i=n→False)∧(False→False)∧(False→False)) False) False) False) False) False) False) False) False) False) False) False) False) False) False)) q27)) (by kernel_rfl) ?_
 conv=>zeta
 try simp only [Zg]
 try simp only [Zi]
 try simp only [Zh]
 try simp only [Zj]
 try simp only [Zk]
 try simp only [Ze]
 try simp only [Int.toNat_natCast,Nat.zero_add,true_and,and_true,Nat.le_refl]
 have hR:∀τ k (Q:List Z5),Za 2 τ k (Z4 Q) (Z4 Q):=fun τ k Q=>Zn fun _ _=>rfl
 refine ⟨by simpa using hcap,fun h1=>⟨fun _=>hR _ _ _,fun h2=> ?_⟩,fun _=>hR _ _ _⟩
 have:m≤4:=by simpa using h2
 exact absurd ⟨h1,this⟩ hm
theorem Yj {t:Yz} (h:XM t=true):t.cap≠0:=by have:=ZZ h;omega
theorem Z6.Inv.st {H:List Int→List Int} {X:Z6} (h:X.Inv H) {m:Int} (hm:1≤m∧m≤4):Z6g X m X.L.length:=
 ⟨rfl,h.len,hm,h.side,fun z hz=>⟨(YH (h.und z hz)).2.2.1,h.am.am z hz⟩,by have:=h.a0;have:=ZZ h.tb;omega,by have:=h.a0;have:=h.a1;have:=ZZ h.tb;omega⟩
theorem Z8O {X:Z6} {m:Int} (hm:1≤m∧m≤4):stpX X m={ stX X m X.L.length with L:=Yh m X.L}:=by
 unfold stpX stX
 rw [if_pos hm,List.take_length]
def Zcn (c:Bool):Ye:=fun args h K=>match args with
 | [.ptr (some ⟨l,0,0,0,0⟩),_]=>match h.get l with
  |some (.flat [_,_,_,_,_,_,_,_,_,_,_,_,.nslice ⟨b,0,70,0,0⟩ 70 _ _])=>frA [l,b] h 20 args fun Bs a=>match Bs,a with
   | [.flat cs,.rows 70 n f],[.ptr (some ⟨0,0,0,0,0⟩),.int .i64 m]=>
    ∃X,LB cs n f X∧X.Inv Zo∧(match c with
     | true=>(1≤m∧m≤4)∧K (.ret (.tuple [.nslice ⟨h.next+2,0,70,0,0⟩ 70 (Yi m X.L).length (Yi m X.L).length,.nslice ⟨h.next+1,0,70,0,0⟩ 70 (ZR m X.L).length (ZR m X.L).length,.int .i64 0])) ⟨h.next+3,(l,.flat ((stpX X m).c (.nslice ⟨h.next,0,70,0,0⟩ 70 (stpX X m).L.length (stpX X m).L.length)))::(h.next,.rows 70 (stpX X m).L.length (Z4 (stpX X m).L))::(h.next+1,.rows 70 (ZR m X.L).length (Z4 (ZR m X.L)))::(h.next+2,.rows 70 (Yi m X.L).length (Z4 (Yi m X.L)))::Yw (Yw h.bs l) b⟩
     | false=>¬(1≤m∧m≤4)∧K (.ret (.tuple [.nilslice,.nilslice,.int .i64 2])) ⟨h.next,(l,.flat (X.c (.nslice ⟨b,0,70,0,0⟩ 70 X.L.length X.L.length)))::(b,.rows 70 X.L.length (Z4 X.L))::Yw (Yw h.bs l) b⟩)
   | _,_=>False
  | _=>False
 | _=>False
theorem Zco (c:Bool) (args:List AV) (h:Z9) (K:KO) (hl:Zcn c args h K):Zm PP 27 args h K:=by
 unfold Zcn at hl
 split at hl
 ·split at hl
  ·refine Spec.fsumm hl fun Bs a hlen hK0=> ?_
   split at hK0
   ·rename_i cs n f m
    obtain ⟨X,⟨rfl,rfl,rfl⟩,hI,hK⟩:=hK0
    cases c with
    | true=>
     obtain ⟨hm,hK1⟩:=hK
     have e:=Z8O (X:=X) hm
     have hv:=Zkr X (stpX X m) m X.L.length _ _ _ (ZR m X.L) (Yi m X.L) (Z6g X m X.L.length) (stX X m) (fun i=>ZR m (X.L.take i)) (fun i=>Yi m (X.L.take i)) (fun i=>Yh m (X.L.take i)) (hI.st hm) hI.len hm (Yj hI.tb) (by rw [List.take_length]) (by rw [List.take_length]) (by dsimp only;rw [List.take_length];exact e) rfl rfl rfl
     exact ⟨_,_,_,_,_,.evM (ZeI X m _) hv,by simp,.ret _ _ rfl,.cons _ _ _ _ _ _ rfl (.flat _ _ rfl) (.cons _ _ _ _ _ _ rfl (.rows _ _ _ (fun _ _=>rfl)) (.cons _ _ _ _ _ _ rfl (.rows _ _ _ (fun _ _=>rfl)) (.cons _ _ _ _ _ _ rfl (.rows _ _ _ (fun _ _=>rfl)) .nil))),hK1⟩
    | false=>
     obtain ⟨hm,hK2⟩:=hK
     have hC:(ZeH X m X.L.length False fun _=>stE X [] m X.L.length [] [] []).Ok:=Zf.withGoM (N:=20) (S:=fun i=>ZeF X m X.L.length i) Z8N (by kernel_rfl) fun h=>h.elim
     exact ⟨_,_,_,_,_,.evM hC (Zks X m _ False (Yj hI.tb) hm),by simp,.ret _ _ rfl,.cons _ _ _ _ _ _ rfl (.flat _ _ rfl) (.cons _ _ _ _ _ _ rfl (.rows _ _ _ (fun _ _=>rfl)) .nil),hK2⟩
   ·exact hK0.elim
  ·exact hl.elim
 ·exact hl.elim
end Go.Tk
end
section
namespace Go.Tk
open IntKind (i64 u8 u32 u64 wrap)
noncomputable def ZeJ:Zf:=G0.withP 89 bkS
theorem ZeK:ZeJ.Ok:=Zf.withP_ok Zr Zhg
def Ziz (X:Z6) (L:List Z5) (n:Nat) (G Lf:List Z5):Z9:=⟨4,[(0,.flat (X.c (.nslice ⟨1,0,70,0,0⟩ 70 n n))),(1,.rows 70 n (Z4 L)),(2,.rows 70 G.length (Z4 G)),(3,.rows 70 Lf.length (Z4 Lf))]⟩
def ZeL (X:Z6) (L:List Z5) (n i:Nat) (G Lf:List Z5):St:=⟨62,[(14,.int .i64 i),(13,.int .i64 n),(12,.nslice ⟨1,0,70,0,0⟩ 70 n n),(2,.nslice ⟨2,0,70,0,0⟩ 70 G.length G.length),(0,.ptr (some ⟨0,0,0,0,0⟩)),(3,.nslice ⟨3,0,70,0,0⟩ 70 Lf.length Lf.length)],Ziz X L n G Lf,[]⟩
def bkE (X:Z6) (L:List Z5) (n:Nat) (G Lf:List Z5):St:=⟨62,[(0,.ptr (some ⟨0,0,0,0,0⟩)),(2,.nslice ⟨2,0,70,0,0⟩ 70 G.length G.length),(3,.nslice ⟨3,0,70,0,0⟩ 70 Lf.length Lf.length)],Ziz X L n G Lf,[]⟩
theorem Zg1 {x:Z5} (h:Yu x.own x.stage=5):brH x=⟨x.own,x.id,x.amount,x.hash,x.expiry,5,0,Zd⟩:=by unfold brH;rw [if_pos h]
theorem Zhl {x:Z5} (hs:1≤x.stage∧x.stage≤9) (h0:Yu x.own x.stage≠0) (h:¬Yu x.own x.stage=5):brH x=x:=by
 have e:Yu x.own x.stage=x.stage:=by
  rw [Z1u hs h0] at h⊢
  split
  ·rename_i q;rw [if_pos q] at h;exact absurd rfl h
  ·rfl
 unfold brH;rw [if_neg h,e]
theorem Zkt (X X1:Z6) (L:List Z5) (n i:Nat) (x:Z5) (G Lf G1 Lf1:List Z5) (Z1 Z2:Prop) (hn:n<1000) (hL:L.length=n) (hi:i≤n) (hx:i<n→L.getD i Z7=x) (hst:i<n→1≤x.stage∧x.stage≤9) (hb:G.length<1000∧Lf.length<1000) (hG:i<n→G1=G++YU (decide (Yu x.own x.stage=0)) x) (hLf:i<n→Lf1=Lf++YU (decide (¬Yu x.own x.stage=0)) (brH x)) (hX1:i<n→X1=if Yu x.own x.stage=0 then { X with i1:=X.i1-1} else X) (hw: -1000≤X.i1∧X.i1≤2147483648) (hZ1:i<n→Z1) (hZ2:i=n→Z2):
  ZI ZeJ 20 30 0 2 (ZeL X L n i G Lf) (rdM 2 0 9 (ZeL X1 L n (i+1) G1 Lf1) (bkE X L n G Lf) (bkE X L n G Lf) (bkE X L n G Lf) Z1 Z2 False False):=by
 refine @Eq.mpr _ (let q1:=0+Int.toNat (↑i:Int);
 let q2:=List.getD L q1 Z7;
 let q3:=q2.stage;
 let q4:=q2.own;
 let q5:=Yu q4 q3;
 let q6:=List.length G;
 let q7:=decide (q6=q6);
 let q8:=q6+1;
 let q9:=decide (wrap i64 ((↑i:Int)+1)=(↑(i+1):Int));
 let q10:=decide ((↑n:Int)=(↑n:Int));
 let q11:=decide (n=n);
 let q12:=decide (n≤n);
 let q13:=List.length G1;
 let q14:=decide (q8=q13);
 let q15:=List.length Lf;
 let q16:=List.length Lf1;
 let q17:=decide (q15=q16);
 let q18:=X.t;
 let q19:=q18.fund;
 let q20:=X1.t;
 let q21:=q19=q20.fund;
 let q22:=q18.index;
 let q23:=decide (q22=q20.index);
 let q24:=q18.cap;
 let q25:=decide (q24=q20.cap);
 let q26:=q18.dust;
 let q27:=decide (q26=q20.dust);
 let q28:=q18.fee;
 let q29:=decide (q28=q20.fee);
 let q30:=q18.delay;
 let q31:=decide (q30=q20.delay);
 let q32:=q18.k0;
 let q33:=q32=q20.k0;
 let q34:=q18.k1;
 let q35:=q34=q20.k1;
 let q36:=X.side;
 let q37:=decide (q36=X1.side);
 let q38:=X.res;
 let q39:=decide (q38=X1.res);
 let q40:=[X.a0,X.a1];
 let q41:=q40=[X1.a0,X1.a1];
 let q42:=[X1.i0,X1.i1];
 let q43:=[(3,3),(2,6)];
 let q44:=Z4 L;
 let q45:=Z4 G;
 let q46:=AV.bool q4;
 let q47:=AV.int i64 q2.id;
 let q48:=AV.int i64 q2.amount;
 let q49:=AV.arr u8 32 q2.hash;
 let q50:=AV.int i64 q2.expiry;
 let q51:=YC [q46,q47,q48,q49,q50,AV.int i64 q3,AV.int i64 q2.fin,AV.arr u8 32 q2.secret] 0 70;
 let q52:=Z4 Lf1;
 let q53:=Z4 Lf;
 let q54:=decide (q15=q15);
 let q55:=q15+1;
 let q56:=decide (q55*112≤140737488355328);
 let q57:=decide (q6=q13);
 let q58:=decide (q13≤q6);
 let q59:=decide (q55=q16);
 let q60:=decide (q16≤q55);
 let q61:=[X.i0,X.i1];
 let q62:=q61=q42;
 let q63:=[(2,2)];
 let q64:=(3,6)::q63;
 let q65:=Za 2 q64 n q44 q44;
 let q66:=Za 2 q64 q13 (Z4 G1) q45;
 let q67:=(3,3)::q63;
 Z0 (decide ((↑i:Int)<(↑n:Int)))
 (Z0 (decide (0≤(↑i:Int)∧(↑i:Int)<(↑n:Int)))
 (Z0 (decide (q1<n))
 (Z0 (decide (1≤q3∧q3≤9))
 (Z0 (q5==0) (Z0 q7 (Z0 (decide (q8*112≤140737488355328)) (Z0 q9 (Z0 q10 (Z0 q11 (Z0 q12 (Z0 q14 (Z0 (decide (q13≤q8)) (Z0 q17 (Z0 (decide (q16≤q15)) (q21∧Z0 q23 (Z0 q25 (Z0 q27 (Z0 q29 (Z0 q31 (q33∧q35∧Z0 q37 (Z0 q39 (q41∧[X.i0,wrap i64 (X.i1-1)]=q42∧Z0 q11 (Z0 q12 (Z0 q11 (Za 2 q43 n q44 q44∧Z0 q14 (Za 2 q43 q13 (Z4 G1) (ZW q6 q45 q51)∧Z0 q17 (Za 2 q43 q16 q52 q53∧Z1) False) False) False) False) False) False) False) False) False) False) False) False) False) False) False) False) False) False) False) False) False) False)
 (Z0 (q5==5) (Z0 q54 (Z0 q56 (Z0 q9 (Z0 q10 (Z0 q11 (Z0 q12 (Z0 q57 (Z0 q58 (Z0 q59 (Z0 q60 (q21∧Z0 q23 (Z0 q25 (Z0 q27 (Z0 q29 (Z0 q31 (q33∧q35∧Z0 q37 (Z0 q39 (q41∧q62∧Z0 q11 (Z0 q12 (Z0 q11 (q65∧Z0 q57 (q66∧Z0 q59 (Za 2 q64 q16 q52 (ZW q15 q53 (YC [q46,q47,q48,q49,q50,AV.int i64 q5,AV.int i64 0,AV.arr u8 32 Zd] 0 70))∧Z1) False) False) False) False) False) False) False) False) False) False) False) False) False) False) False) False) False) False) False) False) False) False)
 (Z0 q54 (Z0 q56 (Z0 q9 (Z0 q10 (Z0 q11 (Z0 q12 (Z0 q57 (Z0 q58 (Z0 q59 (Z0 q60 (q21∧Z0 q23 (Z0 q25 (Z0 q27 (Z0 q29 (Z0 q31 (q33∧q35∧Z0 q37 (Z0 q39 (q41∧q62∧Z0 q11 (Z0 q12 (Z0 q11 (q65∧Z0 q57 (q66∧Z0 q59 (Za 2 q64 q16 q52 (ZW q15 q53 q51)∧Z1) False) False) False) False) False) False) False) False) False) False) False) False) False) False) False) False) False) False) False) False) False) False)))
 False)
 False)
 False)
 (Z0 q7 (Z0 (decide (q6≤q6)) (Z0 q54 (Z0 (decide (q15≤q15)) (q19=q19∧Z0 (decide (q22=q22)) (Z0 (decide (q24=q24)) (Z0 (decide (q26=q26)) (Z0 (decide (q28=q28)) (Z0 (decide (q30=q30)) (q32=q32∧q34=q34∧Z0 (decide (q36=q36)) (Z0 (decide (q38=q38)) (q40=q40∧q61=q61∧Z0 q11 (Z0 q12 (Z0 q11 (Za 2 q67 n q44 q44∧Z0 q7 (Za 2 q67 q6 q45 q45∧Z0 q54 (Za 2 q67 q15 q53 q53∧Z2) False) False) False) False) False) False) False) False) False) False) False) False) False) False) False) False)) (by kernel_rfl) ?_
 conv=>zeta
 try simp only [Zg]
 try simp only [Zi]
 try simp only [Zh]
 try simp only [Zj]
 try simp only [Zk]
 try simp only [Ze]
 try simp only [Int.toNat_natCast,Nat.zero_add,true_and,and_true,Nat.le_refl]
 refine ⟨fun hc=> ?_,fun hc=> ?_⟩
 ·have hlt:i<n:=by omega
  rw [hx hlt]
  have hG:=hG hlt
  have hLf:=hLf hlt
  have hX1:=hX1 hlt
  have hst:=hst hlt
  have hwr:i64.wrap ((i:Int)+1)=((i+1:Nat):Int):=by rw [w64 (by omega)];omega
  have hwi:i64.wrap (X.i1-1)=X.i1-1:=w64 (by omega)
  rw [hwr,hwi]
  have hR:∀τ k (Q:List Z5),Za 2 τ k (Z4 Q) (Z4 Q):=fun τ k Q=>Zn fun _ _=>rfl
  have hC:∀τ (Q:List Z5) (y:Z5),Za 2 τ (Q++[y]).length (Z4 (Q++[y])) (ZW Q.length (Z4 Q) (YC y.c 0 70)):=fun τ Q y=>Zn fun j hj=>Yt rfl (fun _ _=>rfl) (by simpa using hj)
  refine ⟨by omega,hlt,hst,fun h0=> ?_,fun h0=>⟨fun h5=> ?_,fun h5=> ?_⟩⟩
  ·have h0:Yu x.own x.stage=0:=by simpa using h0
   rw [decide_eq_true h0] at hG
   rw [decide_eq_false (fun h=>h h0)] at hLf
   rw [if_pos h0] at hX1
   simp only [YU,List.append_nil] at hG hLf
   subst hG hLf hX1
   repeat' apply And.intro
   all_goals first|omega|rfl|exact hZ1 hlt|exact hC _ _ _|exact hR _ _ _|(simp;done)
  all_goals
   have h0:¬Yu x.own x.stage=0:=by simpa using h0
   rw [decide_eq_false h0] at hG
   rw [decide_eq_true h0] at hLf
   rw [if_neg h0] at hX1
   simp only [YU,List.append_nil] at hG hLf
   subst hG hX1
  ·have h5:Yu x.own x.stage=5:=by simpa using h5
   rw [Zg1 h5] at hLf
   rw [h5]
   subst hLf
   repeat' apply And.intro
   all_goals first|omega|rfl|exact hZ1 hlt|exact hC _ _ ⟨x.own,x.id,x.amount,x.hash,x.expiry,5,0,Zd⟩|exact hR _ _ _|(simp;done)
  ·have h5:¬Yu x.own x.stage=5:=by simpa using h5
   rw [Zhl hst h0 h5] at hLf
   subst hLf
   repeat' apply And.intro
   all_goals first|omega|rfl|exact hZ1 hlt|exact hC _ _ x|exact hR _ _ _|(simp;done)
 ·repeat' apply And.intro
  all_goals first|omega|rfl|exact hZ2 (by omega)|exact Zn fun _ _=>rfl
theorem VD (A:List Z5) (x:Z5):ZD (A++[x])=ZD A++YU (decide (Yu x.own x.stage=0)) x:=by
 unfold ZD
 rw [List.filter_append,Vo]
theorem Z2V (A:List Z5) (x:Z5):Yg (A++[x])=Yg A++YU (decide (¬Yu x.own x.stage=0)) (brH x):=by
 unfold Yg
 rw [List.filter_append,List.map_append,Vo]
 congr 1
 by_cases h:Yu x.own x.stage=0<;>simp [h,YU]
def bkX (X:Z6) (i:Nat):Z6:={ X with i1:=X.i1-(ZD (X.L.take i)).length}
def Z7N (X:Z6) (n:Nat):Prop:=X.L.length=n∧n≤16∧(∀h∈X.L,1≤h.stage∧h.stage≤9)∧0≤X.i1∧X.i1≤2147483648
def ZeM (X:Z6) (n i:Nat):St:=ZeL (bkX X i) X.L n i (ZD (X.L.take i)) (Yg (X.L.take i))
def ZeN (X:Z6) (n i:Nat):St:=bkE (bkX X i) X.L n (ZD (X.L.take i)) (Yg (X.L.take i))
theorem Zku (X:Z6) (n i:Nat) (hC:Z7N X n) (hi:i≤n):ZI ZeJ 20 30 0 2 (ZeM X n i) (rdM 2 0 9 (ZeM X n (i+1)) (ZeN X n i) (ZeN X n i) (ZeN X n i) (i<n∧i<n) (i=n) False False):=by
 obtain ⟨h1,h2,h3,h4⟩:=id hC
 have hlt:i<n→i<X.L.length:=fun h=>by omega
 have l0:(X.L.take i).length≤16:=by rw [List.length_take];omega
 have l1:(ZD (X.L.take i)).length≤(X.L.take i).length:=List.length_filter_le _ _
 have l2:(Yg (X.L.take i)).length≤(X.L.take i).length:=by unfold Yg;rw [List.length_map];exact List.length_filter_le _ _
 have e:∀k,(bkX X k).i1=X.i1-(ZD (X.L.take k)).length:=fun _=>rfl
 refine Zkt (bkX X i) (bkX X (i+1)) X.L n i (X.L.getD i Z7) _ _ _ _ (i<n∧i<n) (i=n) (by omega) h1 hi (fun _=>rfl) (fun h=>h3 _ (Zz (hlt h))) ⟨by omega,by omega⟩ (fun h=> ?_) (fun h=> ?_) (fun h=> ?_) (by rw [e];omega) (fun h=>⟨h,h⟩) (fun h=>h)
 ·rw [Y5 (hlt h),VD]
 ·rw [Y5 (hlt h),Z2V]
 ·unfold bkX
  rw [Y5 (hlt h),VD]
  by_cases q:Yu (X.L.getD i Z7).own (X.L.getD i Z7).stage=0
  ·rw [if_pos q,decide_eq_true q,YU,List.length_append]
   congr 1
   show X.i1-((_+1:Nat):Int)=_
   dsimp only;omega
  ·rw [if_neg q,decide_eq_false q,YU,List.append_nil]
noncomputable def Zg2 (X:Z6) (n:Nat) (C:Prop) (E:Nat→St):Zf:=ZeJ.withL 30 0 (goM 2 (ZeL X X.L n 0 [] []) C (Ys 0 n 9 (fun i=>i<n) (fun i=>i=n) (fun _=>False) (fun _=>False) E E E))
theorem Z6h (X:Z6):bkX X 0=X:=by
 unfold bkX
 have:X.i1-((ZD (X.L.take 0)).length:Int)=X.i1:=by simp [ZD]
 rw [this]
theorem Zcp (X:Z6) (n:Nat):(Zg2 X n (Z7N X n) (ZeN X n)).Ok:=
 Zf.withGoM (N:=20) (S:=ZeM X n) ZeK (by kernel_rfl) fun hC=>⟨by unfold ZeM;rw [Z6h];rfl,fun i hi _=>Zku X n i hC hi⟩
theorem Zkv (X X':Z6) (n l g:Nat) (G:List Z5) (C:Prop) (XF:Nat→Z6) (GF LF:Nat→List Z5) (hC:C) (hcap:X.t.cap≠0) (hG:G=GF n) (hX':X'={ XF n with L:=LF n}) (hl:l=X'.L.length) (hg:g=G.length):
  evF (Zg2 X n C fun i=>bkE (XF i) X.L n (GF i) (LF i)) 20 30 [.ptr (some ⟨0,0,0,0,0⟩)] (Z3j X n) (Y7 2 (.ret (.nslice ⟨3,0,70,0,0⟩ 70 g g)) 4 [(0,.flat (X'.c (.nslice ⟨2,0,70,0,0⟩ 70 l l))),(2,.rows 70 l (Z4 X'.L)),(3,.rows 70 g (Z4 G))]):=by
 refine @Eq.mpr _ (let q1:=X.t;
 let q2:=q1.cap;
 let q3:=decide (g=0);
 let q4:=q1.fund;
 let q5:=X'.t;
 let q6:=q5.fund;
 let q7:=q1.index;
 let q8:=q5.index;
 let q9:=q5.cap;
 let q10:=q1.dust;
 let q11:=q5.dust;
 let q12:=q1.fee;
 let q13:=q5.fee;
 let q14:=q1.delay;
 let q15:=q5.delay;
 let q16:=q1.k0;
 let q17:=q5.k0;
 let q18:=q1.k1;
 let q19:=q5.k1;
 let q20:=X.side;
 let q21:=X.res;
 let q22:=[X.a0,X.a1];
 let q23:=[X'.a0,X'.a1];
 let q24:=[X.i0,X.i1];
 let q25:=[X'.i0,X'.i1];
 let q26:=decide (n=l);
 let q27:=decide (l≤n);
 let q28:=Z4 X'.L;
 let q29:=Z4 X.L;
 let q30:=decide (n=n);
 let q31:=decide (n≤n);
 let q32:=[(3,2)];
 let q33:=(2,3)::q32;
 let q34:=(2,1)::q32;
 Z0 (q2==0) (Z0 q3 (Z0 q3 (q4=q6∧Z0 (decide (q7=q8)) (Z0 (decide (q2=q9)) (Z0 (decide (q10=q11)) (Z0 (decide (q12=q13)) (Z0 (decide (q14=q15)) (q16=q17∧q18=q19∧Z0 (decide (q20=X'.side)) (Z0 (decide (q21=X'.res)) (q22=q23∧q24=q25∧Z0 q26 (Z0 q27 (Z0 q26 (Za 2 [(2,1)] l q28 q29∧Z0 q3 True False) False) False) False) False) False) False) False) False) False) False) False) False)
 (Z0 (decide ((↑n:Int)=(↑n:Int)))
 (Z0 q30
 (Z0 q31
 (q4=q4∧
 Z0 (decide (q7=q7))
 (Z0 (decide (q2=q2))
 (Z0 (decide (q10=q10))
 (Z0 (decide (q12=q12))
 (Z0 (decide (q14=q14))
 (q16=q16∧
 q18=q18∧
 Z0 (decide (q20=q20))
 (Z0 (decide (q21=q21))
 (q22=q22∧
 q24=q24∧
 Z0 q30
 (Z0 q31
 (Z0 q30
 (Za 2 [] n q29 q29∧
 C∧
 ∀(i:Nat),
 let q69:=decide (List.length (GF i)=g);
 let q70:=decide (g≤List.length (GF i));
 let q71:=(XF i).t;
 let q72:=q71.fund=q6;
 let q73:=decide (q71.index=q8);
 let q74:=decide (q71.cap=q9);
 let q75:=decide (q71.dust=q11);
 let q76:=decide (q71.fee=q13);
 let q77:=decide (q71.delay=q15);
 let q78:=q71.k0=q17;
 let q79:=q71.k1=q19;
 let q80:=decide ((XF i).side=X'.side);
 let q81:=decide ((XF i).res=X'.res);
 let q82:=[(XF i).a0,(XF i).a1]=q23;
 let q83:=[(XF i).i0,(XF i).i1]=q25;
 let q84:=decide (List.length (LF i)=l);
 i≤n→(∀(j:Nat),j<i→(fun (i:Nat)=>i<n) j)→(i=n→Z0 q69 (Z0 q70 (q72∧Z0 q73 (Z0 q74 (Z0 q75 (Z0 q76 (Z0 q77 (q78∧q79∧Z0 q80 (Z0 q81 (q82∧q83∧Z0 q84 (Z0 (decide (l≤List.length (LF i))) (Z0 q84 (Za 2 q33 l q28 (Z4 (LF i))∧Z0 q69 (Za 2 q33 g (Z4 G) (Z4 (GF i))∧True) False) False) False) False) False) False) False) False) False) False) False) False) False)∧(False→Z0 q69 (Z0 q70 (q72∧Z0 q73 (Z0 q74 (Z0 q75 (Z0 q76 (Z0 q77 (q78∧q79∧Z0 q80 (Z0 q81 (q82∧q83∧Z0 q26 (Z0 q27 (Z0 q26 (Za 2 q34 l q28 q29∧Z0 q69 (Za 2 q34 g (Z4 G) (Z4 (GF i))∧True) False) False) False) False) False) False) False) False) False) False) False) False) False)∧(False→False))
 False)
 False)
 False)
 False)
 False)
 False)
 False)
 False)
 False)
 False)
 False)
 False)
 False)) (by kernel_rfl) ?_
 conv=>zeta
 try simp only [Zg]
 try simp only [Zi]
 try simp only [Zh]
 try simp only [Zj]
 try simp only [Zk]
 try simp only [Ze]
 try simp only [Int.toNat_natCast,Nat.zero_add,true_and,and_true,Nat.le_refl]
 subst hG hX'
 have hR:∀τ k (Q:List Z5),Za 2 τ k (Z4 Q) (Z4 Q):=fun τ k Q=>Zn fun _ _=>rfl
 refine ⟨fun h=>absurd h (by simpa using hcap),fun _=>⟨hR _ _ _,hC,fun i hi _=>⟨fun he=> ?_,fun h=>h.elim,fun h=>h.elim⟩⟩⟩
 subst he
 repeat' apply And.intro
 all_goals first|rfl|exact hR _ _ _|exact hl.symm|exact hg.symm|exact Nat.le_of_eq hl|exact Nat.le_of_eq hg
theorem Z6.Inv.bk {H:List Int→List Int} {X:Z6} (h:X.Inv H):Z7N X X.L.length:=⟨rfl,h.len,h.stage,h.i1⟩
theorem Z8P (X:Z6):brkX X={ bkX X X.L.length with L:=Yg X.L}:=by
 unfold brkX bkX
 rw [List.take_length]
def Z7O:Ye:=fun args h K=>match args with
 | [.ptr (some ⟨l,0,0,0,0⟩)]=>match h.get l with
  |some (.flat [_,_,_,_,_,_,_,_,_,_,_,_,.nslice ⟨b,0,70,0,0⟩ 70 _ _])=>frA [l,b] h 20 args fun Bs a=>match Bs,a with
   | [.flat cs,.rows 70 n f],[.ptr (some ⟨0,0,0,0,0⟩)]=>
    ∃X,LB cs n f X∧X.Inv Zo∧K (.ret (.nslice ⟨h.next+1,0,70,0,0⟩ 70 (ZD X.L).length (ZD X.L).length)) ⟨h.next+2,(l,.flat ((brkX X).c (.nslice ⟨h.next,0,70,0,0⟩ 70 (brkX X).L.length (brkX X).L.length)))::(h.next,.rows 70 (brkX X).L.length (Z4 (brkX X).L))::(h.next+1,.rows 70 (ZD X.L).length (Z4 (ZD X.L)))::Yw (Yw h.bs l) b⟩
   | _,_=>False
  | _=>False
 | _=>False
theorem Za9 (args:List AV) (h:Z9) (K:KO) (hl:Z7O args h K):Zm PP 30 args h K:=by
 unfold Z7O at hl
 split at hl
 ·split at hl
  ·refine Spec.fsumm hl fun Bs a hlen hK0=> ?_
   split at hK0
   ·rename_i cs n f
    obtain ⟨X,⟨rfl,rfl,rfl⟩,hI,hK⟩:=hK0
    have e:=Z8P X
    have hv:=Zkv X (brkX X) X.L.length _ _ (ZD X.L) (Z7N X X.L.length) (bkX X) (fun i=>ZD (X.L.take i)) (fun i=>Yg (X.L.take i)) hI.bk (Yj hI.tb) (by rw [List.take_length]) (by dsimp only;rw [List.take_length];exact e) rfl rfl
    exact ⟨_,_,_,_,_,.evM (Zcp X _) hv,by simp,.ret _ _ rfl,.cons _ _ _ _ _ _ rfl (.flat _ _ rfl) (.cons _ _ _ _ _ _ rfl (.rows _ _ _ (fun _ _=>rfl)) (.cons _ _ _ _ _ _ rfl (.rows _ _ _ (fun _ _=>rfl)) .nil)),hK⟩
   ·exact hK0.elim
  ·exact hl.elim
 ·exact hl.elim
end Go.Tk
end
section
namespace Go.Tk
open IntKind (i64 u8 u32 u64 wrap)
structure YV where
 frm:Int
 id:Int
 amount:Int
 hash:List Int
 expiry:Int
def YV.c (p:YV):List AV:=[.int .i64 p.frm,.int .i64 p.id,.int .i64 p.amount,.arr .u8 32 p.hash,.int .i64 p.expiry]
def Zhm:YV:=⟨0,0,0,Zd,0⟩
def ZG (P:List YV) (i:Nat):List AV:=(P.getD i Zhm).c
theorem VE (P:List YV) (i:Nat):Yn (ZG P i)=true:=rfl
theorem XA {k:Nat} {τ:Ren} {n:Nat} {P:List YV} {f:Nat→List AV} (h:∀i,i<n→f i=ZG P i):Za k τ n (ZG P) f:=
 Z3O h (fun i _=>VE P i) (fun i _ v hv=>by
  simp only [ZG,YV.c,List.mem_cons,List.not_mem_nil,or_false] at hv
  rcases hv with rfl|rfl|rfl|rfl|rfl<;>first|exact .inl rfl|exact .inr ⟨_,_,_,rfl⟩)
theorem Z0T {O:List YV} {x:YV} {i:Nat} (hi:i<O.length+1):ZW O.length (ZG O) (YC (YV.c x) 0 36) i=ZG (O++[x]) i:=by
 rcases Nat.lt_or_ge i O.length with h|h
 ·rw [Z4P h]
  unfold ZG
  rw [List.getD_eq_getElem?_getD,List.getD_eq_getElem?_getD,List.getElem?_append_left (by omega)]
 ·have e:i=O.length:=by omega
  subst e
  rw [QK (Nat.le_refl _),Nat.sub_self]
  unfold ZG
  rw [List.getD_eq_getElem?_getD,List.getElem?_append_right (by omega),Nat.sub_self]
  rfl
def QW (side:Int) (h:Z5):YV:=⟨ZP side h.own,h.id,h.amount,h.hash,h.expiry⟩
def Zcq (b:Bool) (x:YV):List YV:=match b with
 | true=>[x]
 | false=>[]
def YI (side:Int) (o:Bool) (L:List Z5):List YV:=(L.filter fun h=>X5 h.own h.stage o).map (QW side)
def srP (side:Int) (o:Bool) (p:Int×Int) (h:Z5):Int×Int:=match X5 h.own h.stage o with
 | true=>if ZP side h.own=0 then (p.1-h.amount,p.2) else (p.1,p.2-h.amount)
 | false=>if 6<h.stage then XP side p h else p
def WH (side:Int) (o:Bool) (p:Int×Int) (L:List Z5):Int×Int:=L.foldl (srP side o) p
theorem Z54 {s a b q:Int} (hs:s=0∨s=1) (h1: -1152921504606846976≤a∧a≤1152921504606846976) (h2: -1152921504606846976≤b∧b≤1152921504606846976) (h3:0≤q∧q≤1152921504606846976):
  [a,b].set s.toNat (i64.wrap ([a,b].getD s.toNat 0-q))=[(if s=0 then (a-q,b) else (a,b-q)).1,(if s=0 then (a-q,b) else (a,b-q)).2]:=by
 rcases hs with rfl|rfl
 ·show [i64.wrap (a-q),b]=[a-q,b]
  rw [w64 (by omega)]
 ·show [a,i64.wrap (b-q)]=[a,b-q]
  rw [w64 (by omega)]
noncomputable def ZeO:Zf:=Z4X (G0.withP 71 Za8)
theorem Z8Q:ZeO.Ok:=Zf.withP_ok (Zf.withP_ok (Zf.withP_ok (Zf.withP_ok (Zf.withP_ok Zr Zez) Z1n) QP) QQ) QR
def srZ:List AV:=[.int .i64 0,.int .i64 0,.arr .u8 32 Zd,.arr .i64 2 [0,0],.nilslice]
def Zkw (k ow:Int) (pt:List Int) (a b:Int) (P:List YV):Z9:=⟨4,[(0,.flat srZ),(1,.flat [.int .i64 k,.int .i64 ow,.arr .u8 32 pt,.arr .i64 2 [a,b],.nslice ⟨3,0,36,0,0⟩ 36 P.length P.length]),(2,.flat [.ptr (some ⟨1,0,0,34,0⟩)]),(3,.rows 36 P.length (ZG P))]⟩
def ZeP (X:Z6) (o:Bool) (k ow:Int) (pt:List Int) (n i:Nat) (a b:Int) (P:List YV):St:=⟨99,[(41,.int .i64 i),(40,.int .i64 n),(39,.vrows 70 n (Z4 X.L) n),(0,XW X),(1,.bool o),(10,.ptr (some ⟨1,0,0,0,0⟩)),(11,.func (.func 128) [] [.ptr (some ⟨2,0,0,0,0⟩)]),(8,.ptr (some ⟨0,0,0,0,0⟩))],Zkw k ow pt a b P,[]⟩
def Z7P (k ow:Int) (pt:List Int) (a b:Int) (P:List YV):St:=⟨99,[(10,.ptr (some ⟨1,0,0,0,0⟩)),(8,.ptr (some ⟨0,0,0,0,0⟩))],⟨3,[(0,.flat srZ),(1,.flat [.int .i64 k,.int .i64 ow,.arr .u8 32 pt,.arr .i64 2 [a,b],.nslice ⟨2,0,36,0,0⟩ 36 P.length P.length]),(2,.rows 36 P.length (ZG P))]⟩,[]⟩
theorem Zkx (X:Z6) (o:Bool) (k ow:Int) (pt:List Int) (n i:Nat) (a b a1 b1:Int) (P P1:List YV) (x:Z5) (Z1 Z2:Prop) (hn:n<1000) (hL:X.L.length=n) (hi:i≤n) (hX:YN X) (hP:P.length<1000) (hx:i<n→X.L.getD i Z7=x) (hP1:i<n→P1=P++Zcq (X5 x.own x.stage o) (QW X.side x)) (ha:i<n→(a1,b1)=srP X.side o (a,b) x) (hw:i<n→(-1152921504606846976≤a∧a≤1152921504606846976)∧(-1152921504606846976≤b∧b≤1152921504606846976)∧0≤x.amount∧x.amount≤1152921504606846976) (hZ1:i<n→Z1) (hZ2:i=n→Z2):
  ZI ZeO 20 23 1 0 (ZeP X o k ow pt n i a b P) (rdM 0 1 9 (ZeP X o k ow pt n (i+1) a1 b1 P1) (Z7P k ow pt a b P) (Z7P k ow pt a b P) (Z7P k ow pt a b P) Z1 Z2 False False):=by
 refine @Eq.mpr _ (let q1:=X.L;
 let q2:=List.getD q1 (Int.toNat (↑i:Int)) Z7;
 let q3:=q2.own;
 let q4:=q2.stage;
 let q5:=X5 q3 q4 o;
 let q6:=List.length P;
 let q7:=decide (q6=q6);
 let q8:=q6+1;
 let q9:=decide (q8*64≤140737488355328);
 let q10:=X.side;
 let q11:=decide (0≤q10∧q10<2);
 let q12:=0+Int.toNat q10;
 let q13:=decide (wrap i64 ((↑i:Int)+1)=(↑(i+1):Int));
 let q14:=decide ((↑n:Int)=(↑n:Int));
 let q15:=decide (n=n);
 let q16:=Z4 q1;
 let q17:=q16=q16;
 let q18:=List.length q1;
 let q19:=Z6.c X (AV.vrows 70 q18 q16 q18);
 let q20:=q19=q19;
 let q21:=decide (o=o);
 let q22:=[(0:Int),0];
 let q23:=q22=q22;
 let q24:=decide (k=k);
 let q25:=decide (ow=ow);
 let q26:=[a,b];
 let q27:=q2.amount;
 let q28:=List.set q26 q12 (wrap i64 (List.getD q26 q12 0-q27));
 let q29:=[a1,b1];
 let q30:=List.length P1;
 let q31:=decide (q8=q30);
 let q32:=decide (q30≤q8);
 let q33:=[(1,1)];
 let q34:=(0,0)::(2,2)::q33;
 let q35:=(3,6)::q34;
 let q36:=ZG P1;
 let q37:=ZG P;
 let q38:=[AV.int i64 q2.id,AV.int i64 q27,AV.arr u8 32 q2.hash,AV.int i64 q2.expiry];
 let q39:=decide (q4>6);
 let q40:=q2.fin==1;
 let q41:=wrap i64 (1-q10);
 let q42:=decide (0≤q41∧q41<2);
 let q43:=0+Int.toNat q41;
 let q44:=decide (q43<2);
 let q45:=decide (q6=q30);
 let q46:=Z0 q45 (Z0 (decide (q30≤q6)) (Z0 q45 (Za 0 ((3,3)::q34) q30 q36 q37∧Z1) False) False) False;
 let q47:=Z0 q13 (Z0 q14 (Z0 q15 (q17∧Z0 q15 (q20∧Z0 q21 (Zd=Zd∧q23∧Z0 q24 (Z0 q25 (pt=pt∧q26=q29∧q46) False) False) False) False) False) False) False;
 let q48:=List.set q26 q43 (wrap i64 (List.getD q26 q43 0-q27));
 let q49:=wrap i64 (1-q41);
 let q50:=decide (0≤q49∧q49<2);
 let q51:=0+Int.toNat q49;
 Z0 (decide ((↑i:Int)<(↑n:Int)))
 (Z0 (decide (0≤(↑i:Int)∧(↑i:Int)<(↑n:Int)))
 (Z0 q3
 (Z0 q5 (Z0 q7 (Z0 q9 (Z0 q11 (Z0 (decide (q12<2)) (Z0 q11 (Z0 (decide (i64=i64∧q12<2∧q12<2)) (Z0 q13 (Z0 q14 (Z0 q15 (q17∧Z0 q15 (q20∧Z0 q21 (Zd=Zd∧q23∧Z0 q24 (Z0 q25 (pt=pt∧q28=q29∧Z0 q31 (Z0 q32 (Z0 q31 (Za 0 q35 q30 q36 (ZW q6 q37 (YC (AV.int i64 q10::q38) 0 36))∧Z1) False) False) False) False) False) False) False) False) False) False) False) False) False) False) False) False)
 (Z0 q39 (Z0 q40 (Z0 q11 (Z0 (decide (q12<2)) (Z0 q11 (Z0 (decide (i64=i64∧q12<2∧q12<2)) (Z0 q42 (Z0 q44 (Z0 q42 (Z0 (decide (i64=i64∧q43<2∧q43<List.length q28)) (Z0 q13 (Z0 q14 (Z0 q15 (q17∧Z0 q15 (q20∧Z0 q21 (Zd=Zd∧q23∧Z0 q24 (Z0 q25 (pt=pt∧List.set q28 q43 (wrap i64 (List.getD q28 q43 0+q27))=q29∧q46) False) False) False) False) False) False) False) False) False) False) False) False) False) False) False) q47) q47))
 (Z0 q5 (Z0 q7 (Z0 q9 (Z0 q42 (Z0 (decide (q43<2)) (Z0 q42 (Z0 (decide (i64=i64∧q43<2∧q43<2)) (Z0 q13 (Z0 q14 (Z0 q15 (q17∧Z0 q15 (q20∧Z0 q21 (Zd=Zd∧q23∧Z0 q24 (Z0 q25 (pt=pt∧q48=q29∧Z0 q31 (Z0 q32 (Z0 q31 (Za 0 q35 q30 q36 (ZW q6 q37 (YC (AV.int i64 q41::q38) 0 36))∧Z1) False) False) False) False) False) False) False) False) False) False) False) False) False) False) False) False)
 (Z0 q39 (Z0 q40 (Z0 q42 (Z0 q44 (Z0 q42 (Z0 (decide (i64=i64∧q43<2∧q43<2)) (Z0 q50 (Z0 (decide (q51<2)) (Z0 q50 (Z0 (decide (i64=i64∧q51<2∧q51<List.length q48)) (Z0 q13 (Z0 q14 (Z0 q15 (q17∧Z0 q15 (q20∧Z0 q21 (Zd=Zd∧q23∧Z0 q24 (Z0 q25 (pt=pt∧List.set q48 q51 (wrap i64 (List.getD q48 q51 0+q27))=q29∧q46) False) False) False) False) False) False) False) False) False) False) False) False) False) False) False) q47) q47)))
 False)
 (Zd=Zd∧q23∧Z0 q24 (Z0 q25 (pt=pt∧q26=q26∧Z0 q7 (Z0 (decide (q6≤q6)) (Z0 q7 (Za 0 ((2,3)::(0,0)::q33) q6 q37 q37∧Z2) False) False) False) False) False)) (by kernel_rfl) ?_
 conv=>zeta
 try simp only [Zg]
 try simp only [Zi]
 try simp only [Zh]
 try simp only [Zj]
 try simp only [Zk]
 try simp only [Ze]
 try simp only [Int.toNat_natCast,Nat.zero_add,true_and,and_true,Nat.le_refl]
 refine ⟨fun hc=> ?_,fun hc=> ?_⟩
 ·have hlt:i<n:=by omega
  rw [hx hlt]
  have hP1:=hP1 hlt
  have ha:=ha hlt
  obtain ⟨b1',b2',b3'⟩:=hw hlt
  obtain ⟨s1,s2⟩:=hX
  have hab:[a1,b1]=[(srP X.side o (a,b) x).1,(srP X.side o (a,b) x).2]:=by rw [←ha]
  have hwr:i64.wrap ((i:Int)+1)=((i+1:Nat):Int):=by rw [w64 (by omega)];omega
  have hwf:i64.wrap (1-X.side)=1-X.side:=w64 (by omega)
  have hwg:i64.wrap (1-(1-X.side))=X.side:=by rw [w64 (by omega)];omega
  rw [hwr]
  try rw [hwf]
  try rw [hwg]
  have hR:∀τ k (Q:List YV),Za 0 τ k (ZG Q) (ZG Q):=fun τ k Q=>XA fun _ _=>rfl
  have hC:∀τ (Q:List YV) (y:YV),Za 0 τ (Q++[y]).length (ZG (Q++[y])) (ZW Q.length (ZG Q) (YC y.c 0 36)):=fun τ Q y=>XA fun j hj=>Z0T (by simpa using hj)
  have e:=UB (s:=X.side) (by omega) b1' b2' b3'
  have e':=UB (s:=1-X.side) (by omega) b1' b2' b3'
  rw [show 1-(1-X.side)=X.side by omega] at e'
  have k:=Z54 (s:=X.side) (by omega) b1' b2' b3'
  have k':=Z54 (s:=1-X.side) (by omega) b1' b2' b3'
  refine ⟨by omega,fun ho=>⟨fun hst=> ?_,fun hst=>⟨fun h6=>⟨fun hf=> ?_,fun hf=> ?_⟩,fun h6=> ?_⟩⟩,fun ho=>⟨fun hst=> ?_,fun hst=>⟨fun h6=>⟨fun hf=> ?_,fun hf=> ?_⟩,fun h6=> ?_⟩⟩⟩
  all_goals unfold srP at hab
  all_goals rw [hst] at hab hP1
  all_goals simp only [Zcq,List.append_nil] at hP1
  all_goals try simp only [gt_iff_lt] at h6
  all_goals try rw [if_pos h6] at hab
  all_goals try rw [if_neg h6] at hab
  all_goals try have hf1:x.fin=1:=by simpa using hf
  all_goals try have hf0:¬x.fin=1:=by simpa using hf
  all_goals try rw [Ud (h:=x) hf1] at hab
  all_goals try rw [QU (h:=x) hf0] at hab
  all_goals try (have hy:QW X.side x=⟨X.side,x.id,x.amount,x.hash,x.expiry⟩:=by unfold QW;rw [ho];rfl)
  all_goals try (have hy:QW X.side x=⟨1-X.side,x.id,x.amount,x.hash,x.expiry⟩:=by unfold QW;rw [ho];rfl)
  all_goals try rw [hy] at hP1
  all_goals subst hP1
  all_goals rw [hab]
  all_goals try rw [show ZP X.side x.own=X.side by rw [ho];rfl]
  all_goals try rw [show ZP X.side x.own=1-X.side by rw [ho];rfl]
  all_goals try rw [e]
  all_goals try rw [e']
  all_goals try rw [k]
  all_goals try rw [k']
  all_goals repeat' apply And.intro
  all_goals first|omega|rfl|exact hZ1 hlt|exact hC _ _ _|exact hR _ _ _|(simp;done)|(simp only [List.length_set,List.length_cons,List.length_nil,List.length_append];omega)|(split<;>rfl)|skip
 ·repeat' apply And.intro
  all_goals first|omega|rfl|exact hZ2 (by omega)|exact XA fun _ _=>rfl
theorem Zcr {side:Int} {o:Bool} {p:Int×Int} {x:Z5} {A B:Int} (hx:0≤x.amount∧x.amount≤1125899906842624) (h1:A≤p.1∧p.1≤B) (h2:A≤p.2∧p.2≤B):(A-1125899906842624≤(srP side o p x).1∧(srP side o p x).1≤B+1125899906842624)∧A-1125899906842624≤(srP side o p x).2∧(srP side o p x).2≤B+1125899906842624:=by
 unfold srP XP
 split
 ·split<;>dsimp only<;>omega
 ·split
  ·split
   ·split<;>dsimp only<;>omega
   ·omega
  ·omega
theorem Z2W {side:Int} {o:Bool} {a b:Int} {L:List Z5} (hA:∀x∈L,0≤x.amount∧x.amount≤1125899906842624) (ha:0≤a∧a≤1125899906842624) (hb:0≤b∧b≤1125899906842624):∀i,i≤L.length→(0-1125899906842624*(i:Int)≤(WH side o (a,b) (L.take i)).1∧(WH side o (a,b) (L.take i)).1≤1125899906842624*((i:Int)+1))∧0-1125899906842624*(i:Int)≤(WH side o (a,b) (L.take i)).2∧(WH side o (a,b) (L.take i)).2≤1125899906842624*((i:Int)+1)
 | 0,_=>by
  show (_≤a∧a≤_)∧_≤b∧b≤_
  omega
 | i+1,hi=>by
  obtain ⟨h1,h2⟩:=Z2W (side:=side) (o:=o) hA ha hb i (by omega)
  have e:WH side o (a,b) (L.take (i+1))=srP side o (WH side o (a,b) (L.take i)) (L.getD i Z7):=by
   unfold WH
   rw [Y5 (by omega),List.foldl_append];rfl
  rw [e]
  have:=Zcr (side:=side) (o:=o) (hA _ (Zz (L:=L) (i:=i) (by omega))) h1 h2
  omega
def Zcs (X:Z6) (n:Nat):Prop:=X.L.length=n∧n≤16∧(X.side=0∨X.side=1)∧(∀h∈X.L,0≤h.amount∧h.amount≤1125899906842624)∧(0≤X.a0∧X.a0≤1125899906842624)∧0≤X.a1∧X.a1≤1125899906842624
theorem Z48 (side:Int) (o:Bool) (A:List Z5) (x:Z5):YI side o (A++[x])=YI side o A++Zcq (X5 x.own x.stage o) (QW side x):=by
 unfold YI
 rw [List.filter_append,List.map_append,Vo]
 congr 1
 cases X5 x.own x.stage o<;>rfl
theorem UC (side:Int) (o:Bool) (A:List Z5):(YI side o A).length≤A.length:=by
 unfold YI;rw [List.length_map];exact List.length_filter_le _ _
def ZeQ (X:Z6) (o:Bool) (k ow:Int) (pt:List Int) (n i:Nat):St:=ZeP X o k ow pt n i (WH X.side o (X.a0,X.a1) (X.L.take i)).1 (WH X.side o (X.a0,X.a1) (X.L.take i)).2 (YI X.side o (X.L.take i))
def ZeR (X:Z6) (o:Bool) (k ow:Int) (pt:List Int) (i:Nat):St:=Z7P k ow pt (WH X.side o (X.a0,X.a1) (X.L.take i)).1 (WH X.side o (X.a0,X.a1) (X.L.take i)).2 (YI X.side o (X.L.take i))
theorem Zky (X:Z6) (o:Bool) (k ow:Int) (pt:List Int) (n i:Nat) (hC:Zcs X n) (hi:i≤n):ZI ZeO 20 23 1 0 (ZeQ X o k ow pt n i) (rdM 0 1 9 (ZeQ X o k ow pt n (i+1)) (ZeR X o k ow pt i) (ZeR X o k ow pt i) (ZeR X o k ow pt i) (i<n∧i<n) (i=n) False False):=by
 obtain ⟨h1,h2,h3,h4,h5,h6⟩:=id hC
 have hlt:i<n→i<X.L.length:=fun h=>by omega
 have l0:(X.L.take i).length≤16:=by rw [List.length_take];omega
 have l1:=UC X.side o (X.L.take i)
 have hb:=Z2W (side:=X.side) (o:=o) h4 h5 h6 i (by omega)
 refine Zkx X o k ow pt n i _ _ _ _ _ _ (X.L.getD i Z7) (i<n∧i<n) (i=n) (by omega) h1 hi (show 0≤X.side∧X.side≤1 by omega) (by omega) (fun _=>rfl) (fun h=> ?_) (fun h=> ?_) (fun h=>⟨by omega,by omega, ?_⟩) (fun h=>⟨h,h⟩) (fun h=>h)
 ·rw [Y5 (hlt h),Z48]
 ·unfold WH
  rw [Y5 (hlt h),List.foldl_append];rfl
 ·have:=h4 _ (Zz (hlt h));omega
noncomputable def Z8R (X:Z6) (o:Bool) (k ow:Int) (pt:List Int) (n:Nat) (C:Prop) (E:Nat→St):Zf:=ZeO.withL 23 1 (goM 0 (ZeP X o k ow pt n 0 X.a0 X.a1 []) C (Ys 1 n 9 (fun i=>i<n) (fun i=>i=n) (fun _=>False) (fun _=>False) E E E))
theorem Zct (X:Z6) (o:Bool) (k ow:Int) (pt:List Int) (n:Nat):(Z8R X o k ow pt n (Zcs X n) (ZeR X o k ow pt)).Ok:=
 Zf.withGoM (N:=20) (S:=ZeQ X o k ow pt n) Z8Q (by kernel_rfl) fun hC=>⟨rfl,fun i hi _=>Zky X o k ow pt n i hC hi⟩
theorem Zkz (X:Z6) (o:Bool) (k ow:Int) (pt:List Int) (n l:Nat) (a b:Int) (P:List YV) (C:Prop) (AF BF:Nat→Int) (PF:Nat→List YV) (hC:C) (hn:X.L.length=n) (hcap:X.t.cap≠0) (hs:0≤X.side∧X.side≤1) (hk:0≤k∧k≤2147483647) (how:ow=ZP X.side o) (ha:a=AF n) (hb:b=BF n) (hP:P=PF n) (hl:l=P.length):
  evF (Z8R X o k ow pt n C fun i=>Z7P k ow pt (AF i) (BF i) (PF i)) 20 23 [XW X,.bool o,.int .i64 k,.agg [.arr .u8 32 pt]] ⟨0,[]⟩ (Y7 0 (.ret (.tuple [.agg [.int .i64 k,.int .i64 ow,.arr .u8 32 pt,.arr .i64 2 [a,b],.nslice ⟨0,0,36,0,0⟩ 36 l l],.int .i64 0])) 1 [(0,.rows 36 l (ZG P))]):=by
 refine @Eq.mpr _ (let q1:=[(0:Int),0];
 let q2:=[a,b];
 let q3:=decide (l=0);
 let q4:=Z0 (decide (0=k)) (Z0 (decide (0=ow)) (Zd=pt∧q1=q2∧Z0 q3 (Z0 q3 False False) False) False) False;
 let q5:=[X.a0,X.a1];
 let q6:=q5=q5;
 let q7:=List.length X.L;
 let q8:=decide ((↑q7:Int)=(↑n:Int));
 let q9:=decide (q7=n);
 let q10:=Z4 X.L;
 let q11:=q10=q10;
 let q12:=Z6.c X (AV.vrows 70 q7 q10 q7);
 let q13:=q12=q12;
 let q14:=decide (o=o);
 let q15:=q1=q1;
 let q16:=decide (k=k);
 let q17:=pt=pt∧q6∧C∧∀(i:Nat),i≤n→(∀(j:Nat),j<i→(fun (i:Nat)=>i<n) j)→(i=n→Z0 q16 (Z0 (decide (ow=ow)) (pt=pt∧[AF i,BF i]=q2∧Z0 (decide (List.length (PF i)=l)) (Z0 (decide (l≤List.length (PF i))) (Z0 (decide (List.length (PF i)=l)) (Za 0 [(0,2)] l (ZG P) (ZG (PF i))∧True) False) False) False) False) False)∧(False→False)∧(False→False);
 Z0 (X.t.cap==0) q4 (Z0 (!decide (0≤k∧k≤2147483647)) q4 (Z0 o (q6∧pt=pt∧Z0 q8 (Z0 q9 (q11∧Z0 q9 (q13∧Z0 q14 (Zd=Zd∧q15∧Z0 q16 (Z0 (decide (X.side=ow)) q17 False) False) False) False) False) False) (q6∧pt=pt∧Z0 q8 (Z0 q9 (q11∧Z0 q9 (q13∧Z0 q14 (Zd=Zd∧q15∧Z0 q16 (Z0 (decide (wrap i64 (1-X.side)=ow)) q17 False) False) False) False) False) False)))) (by kernel_rfl) ?_
 conv=>zeta
 try simp only [Zg]
 try simp only [Zi]
 try simp only [Zh]
 try simp only [Zj]
 try simp only [Zk]
 try simp only [Ze]
 try simp only [Int.toNat_natCast,Nat.zero_add,true_and,and_true,Nat.le_refl]
 subst ha hb hP
 have hwf:i64.wrap (1-X.side)=1-X.side:=w64 (by omega)
 rw [hwf]
 have main:∀i:Nat,i≤n→(∀j:Nat,j<i→j<n)→(i=n→[AF i,BF i]=[AF n,BF n]∧(PF i).length=l∧l≤(PF i).length∧(PF i).length=l∧Za 0 [(0,2)] l (ZG (PF n)) (ZG (PF i)))∧(False→False)∧(False→False):=fun i hi _=>⟨fun he=>by
  subst he
  exact ⟨rfl,hl.symm,Nat.le_of_eq hl,hl.symm,XA fun _ _=>rfl⟩,fun h=>h,fun h=>h⟩
 refine ⟨fun h=>absurd h (by simpa using hcap),fun _=>⟨fun h=>absurd h (by simp [hk.1,hk.2]),fun _=>⟨fun ho=> ?_,fun ho=> ?_⟩⟩⟩
 ·exact ⟨by rw [hn],hn,hn,by rw [how,ho];rfl,hC,main⟩
 ·exact ⟨by rw [hn],hn,hn,by rw [how,ho];rfl,hC,main⟩
theorem ZkA (X:Z6) (o:Bool) (k ow:Int) (pt:List Int) (n:Nat) (C:Prop) (hcap:X.t.cap≠0) (hk:¬(0≤k∧k≤2147483647)):
  evF (Z8R X o k ow pt n C fun i=>Z7P k ow pt 0 0 []) 20 23 [XW X,.bool o,.int .i64 k,.agg [.arr .u8 32 pt]] ⟨0,[]⟩ (Y8 fun v=>v=.tuple [.agg srZ,.int .i64 2]):=by
 refine @Eq.mpr _ (let q1:=[(0:Int),0];
 let q2:=AV.agg [AV.int i64 0,AV.int i64 0,AV.arr u8 32 Zd,AV.arr i64 2 q1,AV.nilslice];
 let q3:=[AV.int i64 2];
 let q4:=AV.tuple (AV.agg srZ::q3);
 let q5:=[X.a0,X.a1];
 let q6:=q5=q5;
 let q7:=List.length X.L;
 let q8:=decide ((↑q7:Int)=(↑n:Int));
 let q9:=decide (q7=n);
 let q10:=Z4 X.L;
 let q11:=q10=q10;
 let q12:=Z6.c X (AV.vrows 70 q7 q10 q7);
 let q13:=q12=q12;
 let q14:=decide (o=o);
 let q15:=q1=q1;
 let q16:=decide (k=k);
 let q17:=pt=pt∧q6∧C∧∀(i:Nat),i≤n→(∀(j:Nat),j<i→(fun (i:Nat)=>i<n) j)→(i=n→False)∧(False→False)∧(False→False);
 Z0 (X.t.cap==0) (AV.tuple [q2,AV.int i64 1]=q4) (Z0 (!decide (0≤k∧k≤2147483647)) (AV.tuple (q2::q3)=q4) (Z0 o (q6∧pt=pt∧Z0 q8 (Z0 q9 (q11∧Z0 q9 (q13∧Z0 q14 (Zd=Zd∧q15∧Z0 q16 (Z0 (decide (X.side=ow)) q17 False) False) False) False) False) False) (q6∧pt=pt∧Z0 q8 (Z0 q9 (q11∧Z0 q9 (q13∧Z0 q14 (Zd=Zd∧q15∧Z0 q16 (Z0 (decide (wrap i64 (1-X.side)=ow)) q17 False) False) False) False) False) False)))) (by kernel_rfl) ?_
 conv=>zeta
 try simp only [Zg]
 try simp only [Zi]
 try simp only [Zh]
 try simp only [Zj]
 try simp only [Zk]
 try simp only [Ze]
 try simp only [Int.toNat_natCast,Nat.zero_add,true_and,and_true,Nat.le_refl]
 refine ⟨fun h=>absurd h (by simpa using hcap),fun _=>⟨fun _=>rfl,fun h=>absurd h ?_⟩⟩
 rw [decide_eq_false hk];simp
theorem Z6.Inv.sr {H:List Int→List Int} {X:Z6} (h:X.Inv H):Zcs X X.L.length:=
 ⟨rfl,h.len,h.side,h.am.am,by have:=h.a0;have:=ZZ h.tb;omega,by have:=h.a0;have:=h.a1;have:=ZZ h.tb;omega⟩
def Z16 (X:Z6) (o:Bool):Int×Int:=WH X.side o (X.a0,X.a1) X.L
def Z55 (c:Bool):Ye:=fun args h K=>ZO none h true 20 args fun a=>match a with
 | [.pview cs 0,.bool o,.int .i64 k,.agg [.arr .u8 32 pt]]=>∃X,LV cs X∧X.Inv Zo∧(match c with
  | true=>(0≤k∧k≤2147483647)∧K (.ret (.tuple [.agg [.int .i64 k,.int .i64 (ZP X.side o),.arr .u8 32 pt,.arr .i64 2 [(Z16 X o).1,(Z16 X o).2],.nslice ⟨h.next,0,36,0,0⟩ 36 (YI X.side o X.L).length (YI X.side o X.L).length],.int .i64 0])) ⟨h.next+1,(h.next,.rows 36 (YI X.side o X.L).length (ZG (YI X.side o X.L)))::h.bs⟩
  | false=>¬(0≤k∧k≤2147483647)∧K (.ret (.tuple [.agg srZ,.int .i64 2])) ⟨h.next,h.bs⟩)
 | _=>False
theorem Z2X (c:Bool) (args:List AV) (h:Z9) (K:KO) (hl:Z55 c args h K):Zm PP 23 args h K:=by
 refine Zw.fsumm (d:=20) (Zq _ _ _ _ _ hl fun a ha=> ?_)
 split at ha
 ·rename_i cs o k pt
  obtain ⟨X,hX,hI,hK⟩:=ha
  cases c with
  | true=>
   obtain ⟨hk,hK1⟩:=hK
   have hv:=Zkz X o k (ZP X.side o) pt X.L.length _ (Z16 X o).1 (Z16 X o).2 (YI X.side o X.L) (Zcs X X.L.length) (fun i=>(WH X.side o (X.a0,X.a1) (X.L.take i)).1) (fun i=>(WH X.side o (X.a0,X.a1) (X.L.take i)).2) (fun i=>YI X.side o (X.L.take i)) hI.sr rfl (Yj hI.tb) (by have:=hI.side;omega) hk rfl (by rw [List.take_length];rfl) (by rw [List.take_length];rfl) (by rw [List.take_length]) rfl
   exact ⟨_,_,_,_,(Zw.evM (Zct X o k _ pt _) hv).conv fun E r hr=>hr.head (fun _ hc=>Xr hX hc) fun _ hc=>hc,rfl,⟨Nat.one_pos,.rows _ _ _ (fun i _=>VE _ i),trivial⟩,hK1⟩
  | false=>
   obtain ⟨hk,hK2⟩:=hK
   have hC:(Z8R X o k 0 pt X.L.length False fun _=>Z7P k 0 pt 0 0 []).Ok:=Zf.withGoM (N:=20) (S:=fun i=>ZeQ X o k 0 pt X.L.length i) Z8Q (by kernel_rfl) fun h=>h.elim
   exact ⟨_,_,_,_,(Zw.evV hC (ZkA X o k 0 pt _ False (Yj hI.tb) hk)).conv fun E r hr=>hr.head (fun _ hc=>Xr hX hc) fun _ hc=>hc,rfl,trivial,hK2⟩
 ·exact ha.elim
end Go.Tk
end
section
namespace Go.Tk
open IntKind (i64 u8 u32 u64 wrap)
def Zaa (p:Z5→Bool):List Z5→Nat
 | []=>0
 | x::r=>if p x=true then 0 else Zaa p r+1
theorem Z56 {p:Z5→Bool}:∀{L:List Z5},(∀j,j<L.length→p (L.getD j Z7)=false)→Zaa p L=L.length
 | [],_=>rfl
 | x::r,h=>by
  unfold Zaa
  have h0:p x=false:=h 0 (by simp)
  rw [h0,if_neg (by simp),Z56 fun j hj=>by have:=h (j+1) (by simpa using hj);rwa [List.getD_cons_succ] at this]
  rfl
theorem Z2Y (p:Z5→Bool):∀L:List Z5,decide (Zaa p L<L.length)=L.any p
 | []=>rfl
 | x::r=>by
  unfold Zaa
  rw [List.any_cons]
  cases h:p x
  ·rw [if_neg (by simp),Bool.false_or,←Z2Y p r,List.length_cons]
   by_cases q:Zaa p r<r.length
   ·rw [decide_eq_true q,decide_eq_true (by omega)]
   ·rw [decide_eq_false q,decide_eq_false (by omega)]
  ·simp
def wtP (h:Z5):Bool:=decide (Xm h.own h.stage=1)
noncomputable def Zhn:Zf:=G0.withP 111 waS
theorem ZeS:Zhn.Ok:=Zf.withP_ok Zr Zhe
def wtC:AV:=.func (.func 110) [] []
def wtS (L:List Z5) (n i:Nat):St:=⟨19,[(8,.int .i64 i),(7,.int .i64 n),(1,wtC),(0,.vrows 70 n (Z4 L) n)],⟨0,[]⟩,[]⟩
theorem ZkB (L:List Z5) (n i:Nat) (Z1 Z2 Z3:Prop) (hn:n<1000) (hL:L.length=n) (hi:i≤n) (hst:i<n→1≤(L.getD i Z7).stage∧(L.getD i Z7).stage≤9) (h1:i<n→wtP (L.getD i Z7)=false→Z1) (h2:i=n→Z2) (h3:i<n→wtP (L.getD i Z7)=true→Z3):
  ZI Zhn 20 155 0 0 (wtS L n i) (rdM 0 0 9 (wtS L n (i+1)) fiE (fiR i) (fiR i) Z1 Z2 Z3 False):=by
 refine @Eq.mpr _ (let q1:=List.getD L (Int.toNat (↑i:Int)) Z7;
 let q2:=q1.stage;
 let q3:=decide (n=n);
 Z0 (decide ((↑i:Int)<(↑n:Int))) (Z0 (decide (0≤(↑i:Int)∧(↑i:Int)<(↑n:Int))) (Z0 (decide (1≤q2∧q2≤9)) (Z0 (Xm q1.own q2==1) (Z0 (decide ((↑i:Int)=(↑i:Int))) Z3 False) (Z0 (decide (wrap i64 ((↑i:Int)+1)=(↑(i+1):Int))) (Z0 (decide ((↑n:Int)=(↑n:Int))) (Z0 q3 (Z4 L=Z4 L∧Z0 q3 Z1 False) False) False) False)) False) False) Z2) (by kernel_rfl) ?_
 conv=>zeta
 try simp only [Zg]
 try simp only [Zi]
 try simp only [Zh]
 try simp only [Zj]
 try simp only [Zk]
 try simp only [Ze]
 try simp only [Int.toNat_natCast,Nat.zero_add,true_and,and_true,Nat.le_refl]
 refine ⟨fun hc=> ?_,fun hc=>h2 (by omega)⟩
 have hlt:i<n:=by omega
 have hwr:i64.wrap ((i:Int)+1)=((i+1:Nat):Int):=by rw [w64 (by omega)];omega
 refine ⟨by omega,hst hlt,fun hm=>h3 hlt ?_,fun hm=> ?_⟩
 ·unfold wtP;simpa using hm
 have:=h1 hlt (by unfold wtP;simpa using hm)
 repeat' apply And.intro
 all_goals first|omega|exact hwr|exact this|rfl
noncomputable def Zg3 (L:List Z5) (n:Nat) (C:Prop):Zf:=Zhn.withL 155 0 (goM 0 (wtS L n 0) C (Ys 0 n 9 (fun i=>wtP (L.getD i Z7)=false∧i<n) (fun i=>i=n) (fun i=>i<n∧wtP (L.getD i Z7)=true) (fun _=>False) (fun _=>fiE) (fun i=>fiR i) (fun i=>fiR i)))
def ZiA (L:List Z5) (n:Nat):Prop:=n<1000∧L.length=n∧∀h∈L,1≤h.stage∧h.stage≤9
theorem Zcu (L:List Z5) (n:Nat):(Zg3 L n (ZiA L n)).Ok:=
 Zf.withGoM (N:=20) (S:=fun i=>wtS L n i) ZeS (by kernel_rfl) fun hC=>⟨rfl,fun i hi _=>ZkB L n i _ _ _ hC.1 hC.2.1 hi (fun h=>hC.2.2 _ (Zz (by have:=hC.2.1;omega))) (fun h h'=>⟨⟨h',h⟩,h⟩) (fun h=>h) (fun h h'=>⟨h,h'⟩)⟩
theorem ZkC (X:Z6) (n:Nat) (b:Bool) (C:Prop) (hC:C) (hn:X.L.length=n) (hcap:X.t.cap≠0) (hb:b=Wa X.L):
  evF (Zg3 X.L n C) 20 50 [XW X] ⟨0,[]⟩ (Y8 fun v=>v=.bool b):=by
 refine @Eq.mpr _ (let q1:=X.L;
 let q2:=List.length q1;
 let q3:=decide (q2=n);
 let q4:=Z4 q1;
 let q5:=AV.bool false=AV.bool b;
 Z0 (!X.t.cap==0) (Z0 (decide ((↑q2:Int)=(↑n:Int))) (Z0 q3 (q4=q4∧Z0 q3 (C∧∀(i:Nat),i≤n→(∀(j:Nat),j<i→(fun (i:Nat)=>wtP (List.getD q1 i Z7)=false∧i<n) j)→(i=n→q5)∧(i<n∧wtP (List.getD q1 i Z7)=true→AV.bool true=AV.bool b)∧(False→False)) False) False) False) q5) (by kernel_rfl) ?_
 conv=>zeta
 try simp only [Zg]
 try simp only [Zi]
 try simp only [Zh]
 try simp only [Zj]
 try simp only [Zk]
 try simp only [Ze]
 try simp only [Int.toNat_natCast,Nat.zero_add,true_and,and_true,Nat.le_refl]
 subst hb
 refine ⟨fun _=>⟨by rw [hn],hn,hn,hC,fun i hi hg=>⟨fun he=> ?_,fun hx=> ?_,fun h=>h.elim⟩⟩,fun h=>absurd h (by simpa using hcap)⟩
 ·have:Wa X.L=false:=by
   rw [show Wa X.L=X.L.any wtP from rfl,←Z2Y,Z56 (p:=wtP) fun j hj=>(hg j (by omega)).1]
   exact decide_eq_false (by omega)
  rw [this]
 ·have:Wa X.L=true:=List.any_eq_true.2 ⟨_,Zz (by omega),hx.2⟩
  rw [this]
def Zcv:ZN:=fun args h K=>ZO none h true 20 args fun a=>match a with
 | [.pview cs 0]=>∃X,LV cs X∧X.Inv Zo∧K (.bool (Wa X.L))
 | _=>False
theorem Zab (args:List AV) (h:Z9) (K:AV→Prop) (hl:Zcv args h K):Zm PP 50 args h fun o h'=>∃v,o=.ret v∧h'=h∧K v:=by
 refine Zw.psumm (d:=20) (Zq _ _ _ _ _ hl fun a ha=> ?_)
 split at ha
 ·obtain ⟨X,hX,hI,hK⟩:=ha
  exact ⟨_,(Zw.evV (Zcu X.L X.L.length) (ZkC X _ _ _ ⟨hI.am.n,rfl,hI.stage⟩ rfl (Yj hI.tb) rfl)).conv fun E r hr=>hr.head (fun _ hc=>Xr hX hc) fun _ hc=>hc,fun _=>rfl,hK⟩
 ·exact ha.elim
end Go.Tk
end
section
namespace Go.Tk
open IntKind (i64 u8 u32 u64 wrap)
def Yv (W:Int→List Int):List Int→List Int→List Int
 | xs,[]=>xs
 | xs,n::r=>Yv W (xs++W n) r
theorem W5:∀(ns xs:List Int),(Yv ZX xs ns).length≤xs.length+9*ns.length
 | [],xs=>by simp [Yv]
 | n::r,xs=>by
  have h1:=ZU n
  have h2:=W5 r (xs++ZX n)
  simp only [Yv,List.length_append,List.length_cons] at*;omega
def wrH (N:Nat) (xs:List Int):Z9:=⟨2,[(0,.flat [.nslice ⟨1,0,0,0,0⟩ 1 N N,.bool true]),(1,.ints .u8 xs)]⟩
theorem ZkD (W:Int→List Int) (T:Int) (xs ys:List Int) (N L:Nat) (a b:Int) (hT:T=4611686018427387904) (hW:W=ZX) (hN:xs.length=N) (hB:N<80000000000000) (h1:0≤a∧a≤T) (h2:0≤b∧b≤T) (hy:ys=Yv W xs [a,b]) (hL:L=ys.length):
  evF (Zbt W) 20 65 [.ptr (some ⟨0,0,0,0,0⟩),.vints .i64 [a,b] 2] (wrH N xs) (Y7 2 (.ret (.int .i64 0)) 3 [(0,.flat [.nslice ⟨2,0,0,0,0⟩ 1 L L,.bool true]),(2,.ints .u8 ys)]):=by
 refine @Eq.mpr _ (let q1:=xs++W a;
 let q2:=List.length q1;
 let q3:=q1++W b;
 let q4:=List.length q3;
 Z0 (decide (a<0)) False (Z0 (decide (a>4611686018427387904)) False (Z0 (decide (b<0)) False (Z0 (decide (b>4611686018427387904)) False (Z0 (decide (List.length xs=N∧N<90000000000000)) (Z0 (decide (q2=q2∧q2<90000000000000)) (Z0 (decide (q4=L)) (Z0 (decide (L≤q4)) (q3=ys∧True) False) False) False) False))))) (by kernel_rfl) ?_
 conv=>zeta
 try simp only [Zg]
 try simp only [Zi]
 try simp only [Zh]
 try simp only [Zj]
 try simp only [Zk]
 try simp only [Ze]
 try simp only [Int.toNat_natCast,Nat.zero_add,true_and,and_true,Nat.le_refl]
 subst hT hW hN hy hL
 have wa:=ZU a
 have wb:=ZU b
 simp only [Yv]
 repeat' apply And.intro
 all_goals first|omega|rfl|(simp only [List.length_append]<;>omega)
theorem ZkE (W:Int→List Int) (T:Int) (xs ys:List Int) (N L:Nat) (a b c:Int) (hT:T=4611686018427387904) (hW:W=ZX) (hN:xs.length=N) (hB:N<80000000000000) (h1:0≤a∧a≤T) (h2:0≤b∧b≤T) (h3:0≤c∧c≤T) (hy:ys=Yv W xs [a,b,c]) (hL:L=ys.length):
  evF (Zbt W) 20 65 [.ptr (some ⟨0,0,0,0,0⟩),.vints .i64 [a,b,c] 3] (wrH N xs) (Y7 2 (.ret (.int .i64 0)) 3 [(0,.flat [.nslice ⟨2,0,0,0,0⟩ 1 L L,.bool true]),(2,.ints .u8 ys)]):=by
 refine @Eq.mpr _ (let q1:=xs++W a;
 let q2:=List.length q1;
 let q3:=q1++W b;
 let q4:=List.length q3;
 let q5:=q3++W c;
 let q6:=List.length q5;
 Z0 (decide (a<0)) False (Z0 (decide (a>4611686018427387904)) False (Z0 (decide (b<0)) False (Z0 (decide (b>4611686018427387904)) False (Z0 (decide (c<0)) False (Z0 (decide (c>4611686018427387904)) False (Z0 (decide (List.length xs=N∧N<90000000000000)) (Z0 (decide (q2=q2∧q2<90000000000000)) (Z0 (decide (q4=q4∧q4<90000000000000)) (Z0 (decide (q6=L)) (Z0 (decide (L≤q6)) (q5=ys∧True) False) False) False) False) False))))))) (by kernel_rfl) ?_
 conv=>zeta
 try simp only [Zg]
 try simp only [Zi]
 try simp only [Zh]
 try simp only [Zj]
 try simp only [Zk]
 try simp only [Ze]
 try simp only [Int.toNat_natCast,Nat.zero_add,true_and,and_true,Nat.le_refl]
 subst hT hW hN hy hL
 have wa:=ZU a
 have wb:=ZU b
 have wc:=ZU c
 simp only [Yv]
 repeat' apply And.intro
 all_goals first|omega|rfl|(simp only [List.length_append]<;>omega)
theorem ZkF (W:Int→List Int) (T:Int) (xs ys:List Int) (N L:Nat) (a b c d e:Int) (hT:T=4611686018427387904) (hW:W=ZX) (hN:xs.length=N) (hB:N<80000000000000) (h1:0≤a∧a≤T) (h2:0≤b∧b≤T) (h3:0≤c∧c≤T) (h4:0≤d∧d≤T) (h5:0≤e∧e≤T) (hy:ys=Yv W xs [a,b,c,d,e]) (hL:L=ys.length):
  evF (Zbt W) 20 65 [.ptr (some ⟨0,0,0,0,0⟩),.vints .i64 [a,b,c,d,e] 5] (wrH N xs) (Y7 2 (.ret (.int .i64 0)) 3 [(0,.flat [.nslice ⟨2,0,0,0,0⟩ 1 L L,.bool true]),(2,.ints .u8 ys)]):=by
 refine @Eq.mpr _ (let q1:=xs++W a;
 let q2:=List.length q1;
 let q3:=q1++W b;
 let q4:=List.length q3;
 let q5:=q3++W c;
 let q6:=List.length q5;
 let q7:=q5++W d;
 let q8:=List.length q7;
 let q9:=q7++W e;
 let q10:=List.length q9;
 Z0 (decide (a<0)) False (Z0 (decide (a>4611686018427387904)) False (Z0 (decide (b<0)) False (Z0 (decide (b>4611686018427387904)) False (Z0 (decide (c<0)) False (Z0 (decide (c>4611686018427387904)) False (Z0 (decide (d<0)) False (Z0 (decide (d>4611686018427387904)) False (Z0 (decide (e<0)) False (Z0 (decide (e>4611686018427387904)) False (Z0 (decide (List.length xs=N∧N<90000000000000)) (Z0 (decide (q2=q2∧q2<90000000000000)) (Z0 (decide (q4=q4∧q4<90000000000000)) (Z0 (decide (q6=q6∧q6<90000000000000)) (Z0 (decide (q8=q8∧q8<90000000000000)) (Z0 (decide (q10=L)) (Z0 (decide (L≤q10)) (q9=ys∧True) False) False) False) False) False) False) False))))))))))) (by kernel_rfl) ?_
 conv=>zeta
 try simp only [Zg]
 try simp only [Zi]
 try simp only [Zh]
 try simp only [Zj]
 try simp only [Zk]
 try simp only [Ze]
 try simp only [Int.toNat_natCast,Nat.zero_add,true_and,and_true,Nat.le_refl]
 subst hT hW hN hy hL
 have wa:=ZU a
 have wb:=ZU b
 have wc:=ZU c
 have wd:=ZU d
 have we:=ZU e
 simp only [Yv]
 repeat' apply And.intro
 all_goals first|omega|rfl|(simp only [List.length_append]<;>omega)
theorem ZkG (W:Int→List Int) (T:Int) (xs ys:List Int) (N L:Nat) (a b c d e f g:Int) (hT:T=4611686018427387904) (hW:W=ZX) (hN:xs.length=N) (hB:N<80000000000000) (h1:0≤a∧a≤T) (h2:0≤b∧b≤T) (h3:0≤c∧c≤T) (h4:0≤d∧d≤T) (h5:0≤e∧e≤T) (h6:0≤f∧f≤T) (h7:0≤g∧g≤T) (hy:ys=Yv W xs [a,b,c,d,e,f,g]) (hL:L=ys.length):
  evF (Zbt W) 20 65 [.ptr (some ⟨0,0,0,0,0⟩),.vints .i64 [a,b,c,d,e,f,g] 7] (wrH N xs) (Y7 2 (.ret (.int .i64 0)) 3 [(0,.flat [.nslice ⟨2,0,0,0,0⟩ 1 L L,.bool true]),(2,.ints .u8 ys)]):=by
 refine @Eq.mpr _ (let q1:=xs++W a;
 let q2:=List.length q1;
 let q3:=q1++W b;
 let q4:=List.length q3;
 let q5:=q3++W c;
 let q6:=List.length q5;
 let q7:=q5++W d;
 let q8:=List.length q7;
 let q9:=q7++W e;
 let q10:=List.length q9;
 let q11:=q9++W f;
 let q12:=List.length q11;
 let q13:=q11++W g;
 let q14:=List.length q13;
 Z0 (decide (a<0)) False
 (Z0 (decide (a>4611686018427387904)) False (Z0 (decide (b<0)) False (Z0 (decide (b>4611686018427387904)) False (Z0 (decide (c<0)) False (Z0 (decide (c>4611686018427387904)) False (Z0 (decide (d<0)) False (Z0 (decide (d>4611686018427387904)) False (Z0 (decide (e<0)) False (Z0 (decide (e>4611686018427387904)) False (Z0 (decide (f<0)) False (Z0 (decide (f>4611686018427387904)) False (Z0 (decide (g<0)) False (Z0 (decide (g>4611686018427387904)) False (Z0 (decide (List.length xs=N∧N<90000000000000)) (Z0 (decide (q2=q2∧q2<90000000000000)) (Z0 (decide (q4=q4∧q4<90000000000000)) (Z0 (decide (q6=q6∧q6<90000000000000)) (Z0 (decide (q8=q8∧q8<90000000000000)) (Z0 (decide (q10=q10∧q10<90000000000000)) (Z0 (decide (q12=q12∧q12<90000000000000)) (Z0 (decide (q14=L)) (Z0 (decide (L≤q14)) (q13=ys∧True) False) False) False) False) False) False) False) False) False))))))))))))))) (by kernel_rfl) ?_
 conv=>zeta
 try simp only [Zg]
 try simp only [Zi]
 try simp only [Zh]
 try simp only [Zj]
 try simp only [Zk]
 try simp only [Ze]
 try simp only [Int.toNat_natCast,Nat.zero_add,true_and,and_true,Nat.le_refl]
 subst hT hW hN hy hL
 have wa:=ZU a
 have wb:=ZU b
 have wc:=ZU c
 have wd:=ZU d
 have we:=ZU e
 have wf:=ZU f
 have wg:=ZU g
 simp only [Yv]
 repeat' apply And.intro
 all_goals first|omega|rfl|(simp only [List.length_append]<;>omega)
theorem ZkH (hh:List Int) (hq:hh.length=32):
  evF G0 20 64 [.ptr (some ⟨0,0,0,0,0⟩),.vrows 32 1 (fun _=>[.arr .u8 32 hh]) 1] ⟨1,[(0,.flat [.nilslice,.bool true])]⟩ (Y7 1 (.ret (.int .i64 0)) 2 [(0,.flat [.nslice ⟨1,0,0,0,0⟩ 1 32 32,.bool true]),(1,.ints .u8 hh)]):=by
 refine @Eq.mpr _ (let q1:=[]++hh;
 let q2:=List.length q1;
 Z0 (decide (u8=u8∧List.length hh=32)) (Z0 (decide (q2*1≤140737488355328)) (Z0 (decide (q2=32)) (Z0 (decide (32≤q2)) (q1=hh∧True) False) False) False) False) (by kernel_rfl) ?_
 conv=>zeta
 try simp only [Zg]
 try simp only [Zi]
 try simp only [Zh]
 try simp only [Zj]
 try simp only [Zk]
 try simp only [Ze]
 try simp only [Int.toNat_natCast,Nat.zero_add,true_and,and_true,Nat.le_refl]
 simp only [List.nil_append]
 repeat' apply And.intro
 all_goals first|trivial|omega|rfl|assumption
theorem ZkI (xs hh gg ys:List Int) (N L:Nat) (hN:xs.length=N) (hB:N<80000000000000) (hq:hh.length=32) (hg:gg.length=32) (hy:ys=xs++hh++gg) (hL:L=ys.length):
  evF G0 20 64 [.ptr (some ⟨0,0,0,0,0⟩),.vrows 32 2 (fun i=>[.arr .u8 32 ([hh,gg].getD i [])]) 2] (wrH N xs) (Y7 2 (.ret (.int .i64 0)) 3 [(0,.flat [.nslice ⟨2,0,0,0,0⟩ 1 L L,.bool true]),(2,.ints .u8 ys)]):=by
 refine @Eq.mpr _ (let q1:=xs++hh;
 let q2:=List.length q1;
 let q3:=q1++gg;
 let q4:=List.length q3;
 Z0 (decide (u8=u8∧List.length hh=32)) (Z0 (decide (u8=u8∧List.length xs=N)) (Z0 (decide (q2*1≤140737488355328)) (Z0 (decide (u8=u8∧List.length gg=32)) (Z0 (decide (u8=u8∧q2=q2)) (Z0 (decide (q4*1≤140737488355328)) (Z0 (decide (q4=L)) (Z0 (decide (L≤q4)) (q3=ys∧True) False) False) False) False) False) False) False) False) (by kernel_rfl) ?_
 conv=>zeta
 try simp only [Zg]
 try simp only [Zi]
 try simp only [Zh]
 try simp only [Zj]
 try simp only [Zk]
 try simp only [Ze]
 try simp only [Int.toNat_natCast,Nat.zero_add,true_and,and_true,Nat.le_refl]
 subst hN hy hL
 repeat' apply And.intro
 all_goals first|omega|rfl|assumption|(simp only [List.length_append]<;>omega)
theorem ZkJ (xs ys:List Int) (N L:Nat) (b:Bool) (hN:xs.length=N) (hB:N<80000000000000) (hy:ys=xs++[cond b 1 0]) (hL:L=ys.length):
  evF G0 20 66 [.ptr (some ⟨0,0,0,0,0⟩),.vrows 1 1 (fun _=>[.bool b]) 1] (wrH N xs) (Y7 2 (.ret (.int .i64 0)) 3 [(0,.flat [.nslice ⟨2,0,0,0,0⟩ 1 L L,.bool true]),(2,.ints .u8 ys)]):=by
 refine @Eq.mpr _ (let q1:=decide (u8=u8∧List.length xs=N);
 let q2:=xs++[(1:Int)];
 let q3:=List.length q2;
 let q4:=xs++[(0:Int)];
 let q5:=List.length q4;
 Z0 b (Z0 q1 (Z0 (decide (q3*1≤140737488355328)) (Z0 (decide (q3=L)) (Z0 (decide (L≤q3)) (q2=ys∧True) False) False) False) False) (Z0 q1 (Z0 (decide (q5*1≤140737488355328)) (Z0 (decide (q5=L)) (Z0 (decide (L≤q5)) (q4=ys∧True) False) False) False) False)) (by kernel_rfl) ?_
 conv=>zeta
 try simp only [Zg]
 try simp only [Zi]
 try simp only [Zh]
 try simp only [Zj]
 try simp only [Zk]
 try simp only [Ze]
 try simp only [Int.toNat_natCast,Nat.zero_add,true_and,and_true,Nat.le_refl]
 subst hN hy hL
 refine ⟨fun h=> ?_,fun h=> ?_⟩
 all_goals subst h
 all_goals repeat' apply And.intro
 all_goals first|omega|rfl|(simp only [List.length_append,List.length_cons,List.length_nil]<;>omega)
def Z2Z (h:Z9) (w b:Nat) (ys:List Int):Z9:=⟨h.next+1,(w,.flat [.nslice ⟨h.next,0,0,0,0⟩ 1 ys.length ys.length,.bool true])::(h.next,.ints .u8 ys)::Yw (Yw h.bs w) b⟩
def wnG (W:Int→List Int) (T:Int) (B:Nat):Ye:=fun args h K=>match args with
 | [.ptr (some ⟨w,0,0,0,0⟩),_]=>match h.get w with
  |some (.flat [.nslice ⟨b,0,0,0,0⟩ 1 _ _,.bool true])=>frA [w,b] h 20 args fun Bs a=>match Bs,a with
   | [.flat [.nslice ⟨1,0,0,0,0⟩ 1 N M,.bool true],.ints .u8 xs],[.ptr (some ⟨0,0,0,0,0⟩),.vints .i64 [x,y] 2]=>
    Zu (xs.length=N∧M=N∧N<B∧(0≤x∧x≤T)∧(0≤y∧y≤T)) (K (.ret (.int .i64 0)) (Z2Z h w b (Yv W xs [x,y])))
   | [.flat [.nslice ⟨1,0,0,0,0⟩ 1 N M,.bool true],.ints .u8 xs],[.ptr (some ⟨0,0,0,0,0⟩),.vints .i64 [x,y,z] 3]=>
    Zu (xs.length=N∧M=N∧N<B∧(0≤x∧x≤T)∧(0≤y∧y≤T)∧(0≤z∧z≤T)) (K (.ret (.int .i64 0)) (Z2Z h w b (Yv W xs [x,y,z])))
   | [.flat [.nslice ⟨1,0,0,0,0⟩ 1 N M,.bool true],.ints .u8 xs],[.ptr (some ⟨0,0,0,0,0⟩),.vints .i64 [x,y,z,u,v] 5]=>
    Zu (xs.length=N∧M=N∧N<B∧(0≤x∧x≤T)∧(0≤y∧y≤T)∧(0≤z∧z≤T)∧(0≤u∧u≤T)∧(0≤v∧v≤T)) (K (.ret (.int .i64 0)) (Z2Z h w b (Yv W xs [x,y,z,u,v])))
   | [.flat [.nslice ⟨1,0,0,0,0⟩ 1 N M,.bool true],.ints .u8 xs],[.ptr (some ⟨0,0,0,0,0⟩),.vints .i64 [x,y,z,u,v,p,q] 7]=>
    Zu (xs.length=N∧M=N∧N<B∧(0≤x∧x≤T)∧(0≤y∧y≤T)∧(0≤z∧z≤T)∧(0≤u∧u≤T)∧(0≤v∧v≤T)∧(0≤p∧p≤T)∧(0≤q∧q≤T)) (K (.ret (.int .i64 0)) (Z2Z h w b (Yv W xs [x,y,z,u,v,p,q])))
   | _,_=>False
  | _=>False
 | _=>False
theorem Zho (args:List AV) (h:Z9) (K:KO) (hl:wnG ZX 4611686018427387904 80000000000000 args h K):Zm PP 65 args h K:=by
 unfold wnG at hl
 split at hl
 ·split at hl
  ·refine Spec.fsumm hl fun Bs a hlen hK0=> ?_
   split at hK0
   ·obtain ⟨⟨h1,rfl,h2,k0,k1⟩,hK⟩:=Zc hK0
    exact ⟨_,_,_,_,_,.evM Z1i (ZkD _ _ _ _ _ _ _ _ rfl rfl h1 h2 k0 k1 rfl rfl),by simp,.ret _ _ rfl,.cons _ _ _ _ _ _ rfl (.flat _ _ rfl) (.cons _ _ _ _ _ _ rfl (.ints _ _) .nil),hK⟩
   ·obtain ⟨⟨h1,rfl,h2,k0,k1,k2⟩,hK⟩:=Zc hK0
    exact ⟨_,_,_,_,_,.evM Z1i (ZkE _ _ _ _ _ _ _ _ _ rfl rfl h1 h2 k0 k1 k2 rfl rfl),by simp,.ret _ _ rfl,.cons _ _ _ _ _ _ rfl (.flat _ _ rfl) (.cons _ _ _ _ _ _ rfl (.ints _ _) .nil),hK⟩
   ·obtain ⟨⟨h1,rfl,h2,k0,k1,k2,k3,k4⟩,hK⟩:=Zc hK0
    exact ⟨_,_,_,_,_,.evM Z1i (ZkF _ _ _ _ _ _ _ _ _ _ _ rfl rfl h1 h2 k0 k1 k2 k3 k4 rfl rfl),by simp,.ret _ _ rfl,.cons _ _ _ _ _ _ rfl (.flat _ _ rfl) (.cons _ _ _ _ _ _ rfl (.ints _ _) .nil),hK⟩
   ·obtain ⟨⟨h1,rfl,h2,k0,k1,k2,k3,k4,k5,k6⟩,hK⟩:=Zc hK0
    exact ⟨_,_,_,_,_,.evM Z1i (ZkG _ _ _ _ _ _ _ _ _ _ _ _ _ rfl rfl h1 h2 k0 k1 k2 k3 k4 k5 k6 rfl rfl),by simp,.ret _ _ rfl,.cons _ _ _ _ _ _ rfl (.flat _ _ rfl) (.cons _ _ _ _ _ _ rfl (.ints _ _) .nil),hK⟩
   ·exact hK0.elim
  ·exact hl.elim
 ·exact hl.elim
def whG (B:Nat):Ye:=fun args h K=>match args with
 | [.ptr (some ⟨w,0,0,0,0⟩),_]=>match h.get w with
  |some (.flat [.nslice ⟨b,0,0,0,0⟩ 1 _ _,.bool true])=>frA [w,b] h 20 args fun Bs a=>match Bs,a with
   | [.flat [.nslice ⟨1,0,0,0,0⟩ 1 N M,.bool true],.ints .u8 xs],[.ptr (some ⟨0,0,0,0,0⟩),.vrows 32 1 f 1]=>match f 0 with
    | [.arr .u8 32 hh]=>Zu (xs.length=N∧M=N∧N<B∧hh.length=32) (K (.ret (.int .i64 0)) (Z2Z h w b (xs++hh)))
    | _=>False
   | [.flat [.nslice ⟨1,0,0,0,0⟩ 1 N M,.bool true],.ints .u8 xs],[.ptr (some ⟨0,0,0,0,0⟩),.vrows 32 2 f 2]=>match f 0,f 1 with
    | [.arr .u8 32 hh],[.arr .u8 32 gg]=>Zu (xs.length=N∧M=N∧N<B∧hh.length=32∧gg.length=32) (K (.ret (.int .i64 0)) (Z2Z h w b (xs++hh++gg)))
    | _,_=>False
   | _,_=>False
  | some (.flat [.nilslice,.bool true])=>frA [w] h 20 args fun Bs a=>match Bs,a with
   | [.flat [.nilslice,.bool true]],[.ptr (some ⟨0,0,0,0,0⟩),.vrows 32 1 f 1]=>match f 0 with
    | [.arr .u8 32 hh]=>Zu (hh.length=32) (K (.ret (.int .i64 0)) ⟨h.next+1,(w,.flat [.nslice ⟨h.next,0,0,0,0⟩ 1 32 32,.bool true])::(h.next,.ints .u8 hh)::Yw h.bs w⟩)
    | _=>False
   | _,_=>False
  | _=>False
 | _=>False
theorem Zhp (args:List AV) (h:Z9) (K:KO) (hl:whG 80000000000000 args h K):Zm PP 64 args h K:=by
 unfold whG at hl
 split at hl
 ·split at hl
  ·refine Spec.fsumm hl fun Bs a hlen hK0=> ?_
   split at hK0
   ·split at hK0
    case h_2=>exact hK0.elim
    rename_i hh hf
    obtain ⟨⟨h1,rfl,h2,h3⟩,hK⟩:=Zc hK0
    refine ⟨_,_,_,_,_,(Spec.evM Zr (ZdS _ hh _ _ _ _ h1 (by omega) h3 rfl rfl)).conv fun E r hr=>hr.head (fun _ hc=>hc) fun _ hc=>hc.head (fun _ hc=>hc.rowsC ?_) fun _ hc=>hc,by simp,.ret _ _ rfl,.cons _ _ _ _ _ _ rfl (.flat _ _ rfl) (.cons _ _ _ _ _ _ rfl (.ints _ _) .nil),hK⟩
    intro i hi
    have:i=0:=by omega
    subst this
    exact hf
   ·split at hK0
    case h_2=>exact hK0.elim
    rename_i hh gg hf hg
    obtain ⟨⟨h1,rfl,h2,h3,h4⟩,hK⟩:=Zc hK0
    refine ⟨_,_,_,_,_,(Spec.evM Zr (ZkI _ hh gg _ _ _ h1 h2 h3 h4 rfl rfl)).conv fun E r hr=>hr.head (fun _ hc=>hc) fun _ hc=>hc.head (fun _ hc=>hc.rowsC ?_) fun _ hc=>hc,by simp,.ret _ _ rfl,.cons _ _ _ _ _ _ rfl (.flat _ _ rfl) (.cons _ _ _ _ _ _ rfl (.ints _ _) .nil),hK⟩
    intro i hi
    have:i=0∨i=1:=by omega
    rcases this with rfl|rfl
    ·exact hf
    ·exact hg
   ·exact hK0.elim
  ·refine Spec.fsumm hl fun Bs a hlen hK0=> ?_
   split at hK0
   ·split at hK0
    case h_2=>exact hK0.elim
    rename_i hh hf
    obtain ⟨h3,hK⟩:=Zc hK0
    refine ⟨_,_,_,_,_,(Spec.evM Zr (ZkH hh h3)).conv fun E r hr=>hr.head (fun _ hc=>hc) fun _ hc=>hc.head (fun _ hc=>hc.rowsC ?_) fun _ hc=>hc,by simp,.ret _ _ rfl,.cons _ _ _ _ _ _ rfl (.flat _ _ rfl) (.cons _ _ _ _ _ _ rfl (.ints _ _) .nil),hK⟩
    intro i hi
    have:i=0:=by omega
    subst this
    exact hf
   ·exact hK0.elim
  ·exact hl.elim
 ·exact hl.elim
def wtG (B:Nat):Ye:=fun args h K=>match args with
 | [.ptr (some ⟨w,0,0,0,0⟩),_]=>match h.get w with
  |some (.flat [.nslice ⟨b,0,0,0,0⟩ 1 _ _,.bool true])=>frA [w,b] h 20 args fun Bs a=>match Bs,a with
   | [.flat [.nslice ⟨1,0,0,0,0⟩ 1 N M,.bool true],.ints .u8 xs],[.ptr (some ⟨0,0,0,0,0⟩),.vrows 1 1 f 1]=>match f 0 with
    | [.bool t]=>Zu (xs.length=N∧M=N∧N<B) (K (.ret (.int .i64 0)) (Z2Z h w b (xs++[cond t 1 0])))
    | _=>False
   | _,_=>False
  | _=>False
 | _=>False
theorem Zhq (args:List AV) (h:Z9) (K:KO) (hl:wtG 80000000000000 args h K):Zm PP 66 args h K:=by
 unfold wtG at hl
 split at hl
 ·split at hl
  ·refine Spec.fsumm hl fun Bs a hlen hK0=> ?_
   split at hK0
   ·split at hK0
    case h_2=>exact hK0.elim
    rename_i t hf
    obtain ⟨⟨h1,rfl,h2⟩,hK⟩:=Zc hK0
    refine ⟨_,_,_,_,_,(Spec.evM Zr (ZkJ _ _ _ _ t h1 h2 rfl rfl)).conv fun E r hr=>hr.head (fun _ hc=>hc) fun _ hc=>hc.head (fun _ hc=>hc.rowsC ?_) fun _ hc=>hc,by simp,.ret _ _ rfl,.cons _ _ _ _ _ _ rfl (.flat _ _ rfl) (.cons _ _ _ _ _ _ rfl (.ints _ _) .nil),hK⟩
    intro i hi
    have:i=0:=by omega
    subst this
    exact hf
   ·exact hK0.elim
  ·exact hl.elim
 ·exact hl.elim
end Go.Tk
end
section
namespace Go.Tk
open IntKind (i64 u8 u32 u64 wrap)
def Z3k (W:Int→List Int) (xs:List Int) (h:Z5):List Int:=if h.fin=1 then Yv W (Yv W (xs++[cond h.own 1 0]) [h.id,h.amount]++h.hash) [h.expiry,h.stage,h.fin]++h.secret else Yv W (Yv W (xs++[cond h.own 1 0]) [h.id,h.amount]++h.hash) [h.expiry,h.stage,h.fin]
def WF (W:Int→List Int) (X:Z6):List Int:=Yv W (Yv W X.t.fund [X.t.index,X.t.cap,X.t.dust,X.t.fee,X.t.delay]++X.t.k0++X.t.k1) [X.side,X.res,X.a0,X.a1,X.i0,X.i1,(X.L.length:Int)]
def Vp (W:Int→List Int) (X:Z6):List Int:=X.L.foldl (Z3k W) (WF W X)
noncomputable def ZeT (W:Int→List Int) (T:Int) (B:Nat):Zf:=(((G0.withF 65 (wnG W T B)).withF 64 (whG B)).withF 66 (wtG B)).withF 113 Z8t
theorem ZeU:(ZeT ZX 4611686018427387904 80000000000000).Ok:=Zf.withF_ok (Zf.withF_ok (Zf.withF_ok (Zf.withF_ok Zr Zho) Zhp) Zhq) Z7r
def rwS (X:Z6) (n i N:Nat) (xs:List Int):St:=⟨127,[(77,.int .i64 i),(76,.int .i64 n),(75,.vrows 70 n (Z4 X.L) n),(3,.ptr (some ⟨0,0,0,0,0⟩))],wrH N xs,[]⟩
def rwE (N:Nat) (xs:List Int):St:=⟨127,[(3,.ptr (some ⟨0,0,0,0,0⟩))],wrH N xs,[]⟩
def ZeV (T:Int) (x:Z5):Prop:=(0≤x.id∧x.id≤T)∧(0≤x.amount∧x.amount≤T)∧(0≤x.expiry∧x.expiry≤T)∧(0≤x.stage∧x.stage≤T)∧0≤x.fin∧x.fin≤T
theorem ZkK (X:Z6) (n i N N1 B:Nat) (xs ys:List Int) (x:Z5) (W:Int→List Int) (T:Int) (Z1 Z2:Prop) (hn:n<1000) (hL:X.L.length=n) (hi:i≤n) (hx:i<n→X.L.getD i Z7=x) (hN:xs.length=N) (hB:i<n→N+1000<B) (hW:W=ZX) (hr:i<n→ZeV T x) (hk:i<n→x.Ok) (hy:i<n→ys=Z3k W xs x) (hN1:i<n→N1=ys.length) (hZ1:i<n→Z1) (hZ2:i=n→Z2):
  ZI (ZeT W T B) 20 21 0 0 (rwS X n i N xs) (rdM 0 0 9 (rwS X n (i+1) N1 ys) (rwE N xs) (rwE N xs) (rwE N xs) Z1 Z2 False False):=by
 refine @Eq.mpr _ (let q1:=List.getD X.L (Int.toNat (↑i:Int)) Z7;
 let q2:=xs++[bif q1.own then 1 else 0];
 let q3:=List.length q2;
 let q4:=q1.id;
 let q5:=q1.amount;
 let q6:=Yv W q2 [q4,q5];
 let q7:=List.length q6;
 let q8:=q1.hash;
 let q9:=q6++q8;
 let q10:=List.length q9;
 let q11:=q1.expiry;
 let q12:=q1.stage;
 let q13:=q1.fin;
 let q14:=Yv W q9 [q11,q12,q13];
 let q15:=List.length q14;
 let q16:=q1.secret;
 let q17:=decide (wrap i64 ((↑i:Int)+1)=(↑(i+1):Int));
 let q18:=decide ((↑n:Int)=(↑n:Int));
 let q19:=decide (n=n);
 let q20:=Z4 X.L;
 let q21:=q20=q20;
 let q22:=q14++q16;
 let q23:=List.length q22;
 Z0 (decide ((↑i:Int)<(↑n:Int))) (Z0 (decide (0≤(↑i:Int)∧(↑i:Int)<(↑n:Int))) (Z0 (decide (List.length xs=N∧N=N∧N<B)) (Z0 (decide (q3=q3∧q3=q3∧q3<B∧(0≤q4∧q4≤T)∧0≤q5∧q5≤T)) (Z0 (decide (q7=q7∧q7=q7∧q7<B∧List.length q8=32)) (Z0 (decide (q10=q10∧q10=q10∧q10<B∧(0≤q11∧q11≤T)∧(0≤q12∧q12≤T)∧0≤q13∧q13≤T)) (Z0 (q13==1) (Z0 (decide (q15=q15∧q15=q15∧q15<B∧List.length q16=32)) (Z0 q17 (Z0 q18 (Z0 q19 (q21∧Z0 q19 (Z0 (decide (q23=N1)) (Z0 (decide (N1≤q23)) (q22=ys∧Z1) False) False) False) False) False) False) False) (Z0 q17 (Z0 q18 (Z0 q19 (q21∧Z0 q19 (Z0 (decide (q15=N1)) (Z0 (decide (N1≤q15)) (q14=ys∧Z1) False) False) False) False) False) False)) False) False) False) False) False) (Z0 (decide (N=N)) (Z0 (decide (N≤N)) (xs=xs∧Z2) False) False)) (by kernel_rfl) ?_
 conv=>zeta
 try simp only [Zg]
 try simp only [Zi]
 try simp only [Zh]
 try simp only [Zj]
 try simp only [Zk]
 try simp only [Ze]
 try simp only [Int.toNat_natCast,Nat.zero_add,true_and,and_true,Nat.le_refl]
 refine ⟨fun hc=> ?_,fun hc=>hZ2 (by omega)⟩
 have hlt:i<n:=by omega
 rw [hx hlt]
 obtain ⟨r1,r2,r3,r4,r5⟩:=hr hlt
 have hk:=hk hlt
 have hB:=hB hlt
 have hy:=hy hlt
 have hN1:=hN1 hlt
 have hwr:i64.wrap ((i:Int)+1)=((i+1:Nat):Int):=by rw [w64 (by omega)];omega
 have k1:=hk.hash
 have k2:=hk.secret
 subst hW
 unfold Z3k at hy
 have l1:=W5 [x.id,x.amount] (xs++[bif x.own then 1 else 0])
 generalize Yv ZX (xs++[bif x.own then 1 else 0]) [x.id,x.amount]=A1 at*
 have l2:=W5 [x.expiry,x.stage,x.fin] (A1++x.hash)
 generalize hA2:Yv ZX (A1++x.hash) [x.expiry,x.stage,x.fin]=A2 at*
 simp only [List.length_append,List.length_cons,List.length_nil] at*
 refine ⟨by omega,⟨hN,by omega⟩,⟨by omega,r1,r2⟩,⟨by omega,k1⟩,⟨by omega,r3,r4,r5⟩,fun hf=> ?_,fun hf=> ?_⟩
 ·have hf:x.fin=1:=by simpa using hf
  have hy:ys=A2++x.secret:=by rw [hy,if_pos hf]
  subst hy
  rw [List.length_append] at hN1
  exact ⟨⟨by omega,k2⟩,hwr,by omega,by omega,rfl,hZ1 hlt⟩
 ·have hf:¬x.fin=1:=by simpa using hf
  have hy:ys=A2:=by rw [hy,if_neg hf]
  subst hy
  exact ⟨hwr,by omega,by omega,rfl,hZ1 hlt⟩
theorem Zcw (xs:List Int) (h:Z5) (h1:h.hash.length=32) (h2:h.secret.length=32):(Z3k ZX xs h).length≤xs.length+110:=by
 have l1:=W5 [h.id,h.amount] (xs++[bif h.own then 1 else 0])
 have l2:=W5 [h.expiry,h.stage,h.fin] (Yv ZX (xs++[bif h.own then 1 else 0]) [h.id,h.amount]++h.hash)
 unfold Z3k
 simp only [List.length_append,List.length_cons,List.length_nil] at*
 split
 ·rw [List.length_append];omega
 ·omega
theorem Z30 {L:List Z5} (hL:∀h∈L,h.Ok):∀xs,(L.foldl (Z3k ZX) xs).length≤xs.length+110*L.length:=by
 induction L with
 | nil=>simp
 | cons h r ih=>
  intro xs
  rw [List.foldl_cons,List.length_cons]
  have h1:=ih (fun z hz=>hL z (by simp [hz])) (Z3k ZX xs h)
  have hk:=hL h (by simp)
  have h2:=Zcw xs h hk.hash hk.secret
  omega
theorem UD {X:Z6} (hf:X.t.fund.length=32) (h0:X.t.k0.length=32) (h1:X.t.k1.length=32):(WF ZX X).length≤300:=by
 have l1:=W5 [X.t.index,X.t.cap,X.t.dust,X.t.fee,X.t.delay] X.t.fund
 have l2:=W5 [X.side,X.res,X.a0,X.a1,X.i0,X.i1,(X.L.length:Int)] (Yv ZX X.t.fund [X.t.index,X.t.cap,X.t.dust,X.t.fee,X.t.delay]++X.t.k0++X.t.k1)
 unfold WF
 simp only [List.length_append,List.length_cons,List.length_nil] at*
 omega
def Zcx (T:Int) (X:Z6):Prop:=(0≤X.t.index∧X.t.index≤T)∧(0≤X.t.cap∧X.t.cap≤T)∧(0≤X.t.dust∧X.t.dust≤T)∧(0≤X.t.fee∧X.t.fee≤T)∧(0≤X.t.delay∧X.t.delay≤T)∧(0≤X.side∧X.side≤T)∧(0≤X.res∧X.res≤T)∧(0≤X.a0∧X.a0≤T)∧(0≤X.a1∧X.a1≤T)∧(0≤X.i0∧X.i0≤T)∧(0≤X.i1∧X.i1≤T)∧0≤(X.L.length:Int)∧(X.L.length:Int)≤T
def Z7Q (T:Int) (B:Nat) (X:Z6) (n:Nat) (hd:List Int):Prop:=X.L.length=n∧n≤16∧hd.length≤300∧10000≤B∧(∀h∈X.L,ZeV T h∧h.Ok)
def X9 (X:Z6) (hd:List Int) (i:Nat):List Int:=(X.L.take i).foldl (Z3k ZX) hd
theorem ZkL (T:Int) (B:Nat) (X:Z6) (n i:Nat) (hd:List Int) (hC:Z7Q T B X n hd) (hi:i≤n):ZI (ZeT ZX T B) 20 21 0 0 (rwS X n i (X9 X hd i).length (X9 X hd i)) (rdM 0 0 9 (rwS X n (i+1) (X9 X hd (i+1)).length (X9 X hd (i+1))) (rwE (X9 X hd i).length (X9 X hd i)) (rwE (X9 X hd i).length (X9 X hd i)) (rwE (X9 X hd i).length (X9 X hd i)) (i<n∧i<n) (i=n) False False):=by
 obtain ⟨h1,h2,h3,h4,h5⟩:=id hC
 have hlt:i<n→i<X.L.length:=fun h=>by omega
 have hl:=Z30 (L:=X.L.take i) (fun z hz=>(h5 z (List.mem_of_mem_take hz)).2) hd
 have l0:(X.L.take i).length≤16:=by rw [List.length_take];omega
 refine ZkK X n i _ _ B _ _ (X.L.getD i Z7) ZX T (i<n∧i<n) (i=n) (by omega) h1 hi (fun _=>rfl) rfl (fun _=> ?_) rfl (fun h=>(h5 _ (Zz (hlt h))).1) (fun h=>(h5 _ (Zz (hlt h))).2) (fun h=> ?_) (fun _=>rfl) (fun h=>⟨h,h⟩) (fun h=>h)
 ·unfold X9;omega
 ·unfold X9
  rw [Y5 (hlt h),List.foldl_append];rfl
noncomputable def Zg4 (W:Int→List Int) (T:Int) (B:Nat) (X:Z6) (n N:Nat) (hd:List Int) (C:Prop) (E:Nat→St):Zf:=(ZeT W T B).withL 21 0 (goM 0 (rwS X n 0 N hd) C (Ys 0 n 9 (fun i=>i<n) (fun i=>i=n) (fun _=>False) (fun _=>False) E E E))
theorem Zcy (X:Z6) (n:Nat) (hd:List Int):(Zg4 ZX 4611686018427387904 80000000000000 X n hd.length hd (Z7Q 4611686018427387904 80000000000000 X n hd) (fun i=>rwE (X9 X hd i).length (X9 X hd i))).Ok:=
 Zf.withGoM (N:=20) (S:=fun i=>rwS X n i (X9 X hd i).length (X9 X hd i)) ZeU (by kernel_rfl) fun hC=>⟨rfl,fun i hi _=>ZkL _ _ X n i hd hC hi⟩
theorem ZkM (X:Z6) (n N B l:Nat) (hd ys:List Int) (W:Int→List Int) (T:Int) (C:Prop) (XF:Nat→List Int) (hC:C) (hn:X.L.length=n) (hcap:X.t.cap≠0) (hhd:hd=WF W X) (hN:N=hd.length) (hy:ys=XF n) (hl:l=ys.length) (hl2:ys.length<90000000000000) (hf:X.t.fund.length=32) (h0:X.t.k0.length=32) (h1:X.t.k1.length=32) (hB:10000≤B) (hW:W=ZX) (hT:Zcx T X):
  evF (Zg4 W T B X n N hd C fun i=>rwE (XF i).length (XF i)) 20 21 [XW X] ⟨0,[]⟩ (Y7 0 (.ret (.nslice ⟨0,0,0,0,0⟩ 1 l l)) 1 [(0,.ints .u8 ys)]):=by
 refine @Eq.mpr _ (let q1:=X.t;
 let q2:=q1.cap;
 let q3:=decide (l=0);
 let q4:=q1.fund;
 let q5:=q4=q4;
 let q6:=q1.index;
 let q7:=decide (q6=q6);
 let q8:=decide (q2=q2);
 let q9:=q1.dust;
 let q10:=decide (q9=q9);
 let q11:=q1.fee;
 let q12:=decide (q11=q11);
 let q13:=q1.delay;
 let q14:=decide (q13=q13);
 let q15:=q1.k0;
 let q16:=q15=q15;
 let q17:=q1.k1;
 let q18:=q17=q17;
 let q19:=Yv W q4 [q6,q2,q9,q11,q13];
 let q20:=List.length q19;
 let q21:=q19++q15++q17;
 let q22:=List.length q21;
 let q23:=X.side;
 let q24:=X.res;
 let q25:=X.a0;
 let q26:=X.a1;
 let q27:=X.i0;
 let q28:=X.i1;
 let q29:=List.length X.L;
 let q30:=↑q29;
 let q31:=decide (q29=n);
 let q32:=Z4 X.L;
 let q33:=Yv W q21 [q23,q24,q25,q26,q27,q28,q30];
 let q34:=List.length q33;
 Z0 (q2==0) (Z0 q3 (Z0 q3 (ys=[]∧True) False) False)
 (q5∧
 Z0 q7
 (Z0 q8
 (Z0 q10
 (Z0 q12
 (Z0 q14
 (q16∧
 q18∧
 q5∧
 Z0 q7
 (Z0 q8
 (Z0 q10
 (Z0 q12
 (Z0 q14
 (q16∧
 q18∧
 q5∧
 Z0 q7
 (Z0 q8
 (Z0 q10
 (Z0 q12
 (Z0 q14
 (q16∧
 q18∧
 Z0 (decide (List.length q4=32))
 (Z0 (decide (List.length q4=32∧(32:Nat)=32∧32<B∧(0≤q6∧q6≤T)∧(0≤q2∧q2≤T)∧(0≤q9∧q9≤T)∧(0≤q11∧q11≤T)∧0≤q13∧q13≤T))
 (Z0 (decide (q20=q20∧q20=q20∧q20<B∧List.length q15=32∧List.length q17=32))
 (Z0 (decide (q22=q22∧q22=q22∧q22<B∧(0≤q23∧q23≤T)∧(0≤q24∧q24≤T)∧(0≤q25∧q25≤T)∧(0≤q26∧q26≤T)∧(0≤q27∧q27≤T)∧(0≤q28∧q28≤T)∧0≤q30∧q30≤T))
 (Z0 (decide (q30=↑n))
 (Z0 q31
 (q32=q32∧
 Z0 q31
 (Z0 (decide (q34=N))
 (Z0 (decide (N≤q34))
 (q33=hd∧
 C∧
 ∀(i:Nat),
 let q69:=List.length (XF i);
 let q70:=List.take q69 (Xc 0 (XF i));
 i≤n→(∀(j:Nat),j<i→(fun (i:Nat)=>i<n) j)→(i=n→Z0 (decide (0+q69≤q69)) (Z0 (decide (List.length q70=q69∧q69<90000000000000)) (Z0 (decide (q69=l)) (Z0 (decide (l≤q69)) (q70=ys∧True) False) False) False) False)∧(False→False)∧(False→False))
 False)
 False)
 False)
 False)
 False)
 False)
 False)
 False)
 False)
 False)
 False)
 False)
 False)
 False)
 False)
 False)
 False)
 False)
 False)
 False)
 False)
 False)
 False)
 False)) (by kernel_rfl) ?_
 conv=>zeta
 try simp only [Zg]
 try simp only [Zi]
 try simp only [Zh]
 try simp only [Zj]
 try simp only [Zk]
 try simp only [Ze]
 try simp only [Int.toNat_natCast,Nat.zero_add,true_and,and_true,Nat.le_refl]
 subst hy hN
 obtain ⟨t1,t2,t3,t4,t5,t6,t7,t8,t9,t10,t11,t12⟩:=hT
 have hlen:=UD hf h0 h1
 have e:List.take (XF n).length (Xc 0 (XF n))=XF n:=by rw [YP,List.drop_zero,List.take_length]
 subst hW
 have l1:=W5 [X.t.index,X.t.cap,X.t.dust,X.t.fee,X.t.delay] X.t.fund
 have hhd':=hhd
 unfold WF at hhd
 rw [←hhd]
 have hlen:hd.length≤300:=by rw [hhd'];exact hlen
 simp only [List.length_append,List.length_cons,List.length_nil] at l1⊢
 refine ⟨fun h=>absurd h (by simpa using hcap),fun _=>⟨hf,⟨hf,by omega,t1,t2,t3,t4,t5⟩,⟨by omega,h0,h1⟩,⟨by omega,t6,t7,t8,t9,t10,t11,t12⟩,by rw [hn],hn,hn,trivial,Nat.le_refl _,trivial,hC,fun i hi _=>⟨fun he=> ?_,fun h=>h,fun h=>h⟩⟩⟩
 subst he
 rw [e]
 exact ⟨⟨rfl,hl2⟩,hl.symm,Nat.le_of_eq hl,rfl⟩
theorem ZeW {H:List Int→List Int} {h:Z5} (hf:Z0n H h=true):0≤h.fin∧h.fin≤2:=by
 unfold Z0n at hf
 by_cases h0:h.fin=0
 ·omega
 ·rw [if_neg h0] at hf
  by_cases h1:h.fin=1
  ·omega
  ·rw [if_neg h1] at hf
   by_cases h2:h.fin=2
   ·omega
   ·rw [if_neg h2] at hf;cases hf
theorem Z6.Inv.hnum {H:List Int→List Int} {X:Z6} (h:X.Inv H):∀z∈X.L,ZeV 4611686018427387904 z∧z.Ok:=fun z hz=>by
 obtain ⟨u1,u2,u3,u4⟩:=YH (h.und z hz)
 have:=Z52 u1
 have:=ZeW u4
 exact ⟨⟨by omega,by omega,by omega,by omega,by omega⟩,h.ok z hz⟩
theorem Z6.Inv.hdnum {H:List Int→List Int} {X:Z6} (h:X.Inv H):Zcx 4611686018427387904 X:=by
 have:=ZZ h.tb
 have:=h.side
 have:=h.res
 have:=h.a0
 have:=h.a1
 have:=h.i0
 have:=h.i1
 have:=h.len
 refine ⟨?_, ?_, ?_, ?_, ?_, ?_, ?_, ?_, ?_, ?_, ?_, ?_⟩<;>omega
theorem Z6.Inv.rw' {H:List Int→List Int} {X:Z6} (h:X.Inv H) (hf:X.t.fund.length=32):Z7Q 4611686018427387904 80000000000000 X X.L.length (WF ZX X):=
 ⟨rfl,h.len,UD hf h.tok.k0 h.tok.k1,by decide,h.hnum⟩
theorem Z6.Inv.rawLen {H:List Int→List Int} {X:Z6} (h:X.Inv H) (hf:X.t.fund.length=32):(Vp ZX X).length≤3000:=by
 have h1:=Z30 (L:=X.L) (fun z hz=>h.ok z hz) (WF ZX X)
 have h2:=UD hf h.tok.k0 h.tok.k1
 have:=h.len
 unfold Vp;omega
def Zg5 (W:Int→List Int):Ye:=fun args h K=>ZO none h true 20 args fun a=>match a with
 | [.pview cs 0]=>∃X,LV cs X∧X.Inv Zo∧X.t.fund.length=32∧K (.ret (.nslice ⟨h.next,0,0,0,0⟩ 1 (Vp W X).length (Vp W X).length)) ⟨h.next+1,(h.next,.ints .u8 (Vp W X))::h.bs⟩
 | _=>False
theorem Zcz (args:List AV) (h:Z9) (K:KO) (hl:Zg5 ZX args h K):Zm PP 21 args h K:=by
 refine Zw.fsumm (d:=20) (Zq _ _ _ _ _ hl fun a ha=> ?_)
 split at ha
 ·obtain ⟨X,hX,hI,hf,hK⟩:=ha
  have hv:=ZkM X X.L.length _ 80000000000000 _ (WF ZX X) (Vp ZX X) ZX 4611686018427387904 (Z7Q 4611686018427387904 80000000000000 X X.L.length (WF ZX X)) (X9 X (WF ZX X)) (hI.rw' hf) rfl (Yj hI.tb) rfl rfl (by unfold X9;rw [List.take_length];rfl) rfl (by have:=hI.rawLen hf;omega) hf hI.tok.k0 hI.tok.k1 (by decide) rfl hI.hdnum
  exact ⟨_,_,_,_,(Zw.evM (Zcy X _ _) hv).conv fun E r hr=>hr.head (fun _ hc=>Xr hX hc) fun _ hc=>hc,rfl,⟨Nat.one_pos,.ints _ _,trivial⟩,hK⟩
 ·exact ha.elim
end Go.Tk
end
section
namespace Go.Tk
open IntKind (i64 u8 u32 u64 wrap)
noncomputable def WS:Code:=rfA PP 48 0
noncomputable def WT:Code:=rfB PP 48 0
noncomputable def Zhr:Zf:=G0.withF 45 Za7
theorem Z8S:Zhr.Ok:=Zf.withF_ok Zr QS
noncomputable def ZcA (L:List Z5) (own:Bool) (id:Int) (n i:Nat) (ls:LoopState) (pe:Option Code) (R:Z5) (b:Bool):St:=⟨17,[(0,.yield 7),(5,.nslice ⟨4,0,70,0,0⟩ 70 n n),(6,.int .i64 n),(7,.int .i64 i)],⟨8,[(7,.loop ⟨ls,pe,48,27,[(4,pt 0),(5,pt 1),(6,pt 2),(7,pt 3)],[14],WS,WT,6⟩),(6,.defd),(4,.rows 70 n (Z4 L)),(3,.flat [.bool b]),(2,.flat R.c),(1,.flat [.int .i64 id]),(0,.flat [.bool own])]⟩,[]⟩
noncomputable def Zac (ls:LoopState) (pe:Option Code) (R:Z5) (b:Bool):St:=⟨17,[(0,.yield 7)],⟨8,[(7,.loop ⟨ls,pe,48,27,[(6,pt 2),(7,pt 3)],[14],WS,WT,6⟩),(6,.defd),(3,.flat [.bool b]),(2,.flat R.c)]⟩,[]⟩
theorem ZiB (L:List Z5) (own:Bool) (id:Int) (n i:Nat) (x:Z5) (ls:LoopState) (pe:Option Code) (R:Z5) (b:Bool) (Z1 Z2:Prop) (hn:n<1000) (hL:L.length=n) (hi:i≤n) (hxx:i<n→L.getD i Z7=x) (hx:i=n→(ls=.ready∧pe=none∧R=Z7∧b=false)∧Z2) (hbk:i<n→isP own id x→(ls=.done∧pe=some .ret∧R=x∧b=true)∧Z2) (hgo:i<n→¬isP own id x→Z1):
  ZI Zhr 20 108 0 8 (ZcA L own id n i .ready none Z7 false) (rdM 8 0 9 (ZcA L own id n (i+1) .ready none Z7 false) (Zac ls pe R b) (Zac ls pe R b) (Zac ls pe R b) Z1 Z2 False False):=by
 refine @Eq.mpr _ (let q1:=0+Int.toNat (↑i:Int);
 let q2:=List.getD L q1 Z7;
 let q3:=q2.own;
 let q4:=q2.id;
 let q5:=(48:FuncId)=48∧(27:Nat)=27∧[(14:Nat)]=[(14:Nat)]∧WS=WS∧WT=WT;
 let q6:=decide (n=n);
 let q7:=Z7.hash;
 let q8:=Z7.secret;
 let q9:=Z0 q6 (Z0 (decide (n≤n)) (Z0 (decide ((↑n:Int)=(↑n:Int))) (Z0 (decide (wrap i64 ((↑i:Int)+1)=(↑(i+1):Int))) ((LoopState.ready=LoopState.ready∧(none:Option Code)=none∧q5)∧Z0 q6 (Za 8 [] n (Z4 L) (Z4 L)∧q7=q7∧q8=q8∧Z0 (decide (id=id)) (Z0 (decide (own=own)) Z1 False) False) False) False) False) False) False;
 Z0 (decide ((↑i:Int)<(↑n:Int))) (Z0 (decide (0≤(↑i:Int)∧(↑i:Int)<(↑n:Int))) (Z0 (decide (q1<n)) (Z0 (q3==own) (Z0 (q4==id) ((LoopState.done=ls∧some Code.ret=pe∧q5)∧Z0 (decide (true=b)) (Z0 (decide (q3=R.own)) (Z0 (decide (q4=R.id)) (Z0 (decide (q2.amount=R.amount)) (q2.hash=R.hash∧Z0 (decide (q2.expiry=R.expiry)) (Z0 (decide (q2.stage=R.stage)) (Z0 (decide (q2.fin=R.fin)) (q2.secret=R.secret∧Z2) False) False) False) False) False) False) False) q9) q9) False) False) ((LoopState.ready=ls∧none=pe∧q5)∧Z0 (decide (false=b)) (Z0 (decide (Z7.own=R.own)) (Z0 (decide (Z7.id=R.id)) (Z0 (decide (Z7.amount=R.amount)) (q7=R.hash∧Z0 (decide (Z7.expiry=R.expiry)) (Z0 (decide (Z7.stage=R.stage)) (Z0 (decide (Z7.fin=R.fin)) (q8=R.secret∧Z2) False) False) False) False) False) False) False)) (by kernel_rfl) ?_
 conv=>zeta
 try simp only [Zg]
 try simp only [Zi]
 try simp only [Zh]
 try simp only [Zj]
 try simp only [Zk]
 try simp only [Ze]
 try simp only [Int.toNat_natCast,Nat.zero_add,true_and,and_true,Nat.le_refl]
 refine ⟨fun hc=> ?_,fun hc=> ?_⟩
 ·have hlt:i<n:=by omega
  rw [hxx hlt]
  have hwr:i64.wrap ((i:Int)+1)=((i+1:Nat):Int):=by rw [w64 (by omega)];omega
  have hR:∀τ,Za 8 τ n (Z4 L) (Z4 L):=fun τ=>Zn fun _ _=>rfl
  refine ⟨by omega,hlt,fun h1=>⟨fun h2=> ?_,fun h2=> ?_⟩,fun h1=> ?_⟩
  ·obtain ⟨⟨e1,e2,e3,e4⟩,hz⟩:=hbk hlt ⟨by simpa using h1,by simpa using h2⟩
   subst e1 e2 e3 e4
   exact ⟨⟨rfl,rfl⟩,rfl,rfl,rfl,rfl,rfl,rfl,rfl,rfl,rfl,hz⟩
  ·exact ⟨hwr,hR _,hgo hlt fun h=>by have:=h.2;simp [this] at h2⟩
  ·exact ⟨hwr,hR _,hgo hlt fun h=>by have:=h.1;simp [this] at h1⟩
 ·obtain ⟨⟨e1,e2,e3,e4⟩,hz⟩:=hx (by omega)
  subst e1 e2 e3 e4
  exact ⟨⟨rfl,rfl⟩,rfl,rfl,rfl,rfl,rfl,rfl,rfl,rfl,rfl,hz⟩
noncomputable def Z8T (L:List Z5) (own:Bool) (id:Int) (n J:Nat) (ls:LoopState) (pe:Option Code) (R:Z5) (b:Bool) (C:Prop):Zf:=Zhr.withL 108 0 (goM 8 (ZcA L own id n 0 .ready none Z7 false) C (Ys 0 J 9 (fun i=>i<J) (fun i=>i=J) (fun _=>False) (fun _=>False) (fun _=>Zac ls pe R b) (fun _=>Zac ls pe R b) (fun _=>Zac ls pe R b)))
theorem ZeX (L:List Z5) (own:Bool) (id:Int) (n:Nat) (hn:n<1000) (hL:L.length=n) (hno:∀i,i<n→¬isP own id (L.getD i Z7)):(Z8T L own id n n .ready none Z7 false True).Ok:=by
 refine Zf.withGoM (N:=20) (S:=fun i=>ZcA L own id n i .ready none Z7 false) Z8S (by kernel_rfl) fun _=>⟨rfl,fun i hi _=> ?_⟩
 exact ZiB L own id n i (L.getD i Z7) .ready none Z7 false _ _ hn hL hi (fun _=>rfl) (fun h=>⟨⟨rfl,rfl,rfl,rfl⟩,h⟩) (fun h h'=>absurd h' (hno i h)) (fun h _=>⟨h,h⟩)
theorem ZeY (L:List Z5) (own:Bool) (id:Int) (n J:Nat) (hn:n<1000) (hL:L.length=n) (hJ:J<n) (hyes:isP own id (L.getD J Z7)) (hno:∀i,i<J→¬isP own id (L.getD i Z7)):(Z8T L own id n J .done (some .ret) (L.getD J Z7) true True).Ok:=by
 refine Zf.withGoM (N:=20) (S:=fun i=>ZcA L own id n i .ready none Z7 false) Z8S (by kernel_rfl) fun _=>⟨rfl,fun i hi _=> ?_⟩
 refine ZiB L own id n i (L.getD i Z7) .done (some .ret) _ true _ _ hn hL (by omega) (fun _=>rfl) (fun h=>absurd h (by omega)) (fun h h'=> ?_) (fun h h'=> ?_)
 ·have:i=J:=by
   rcases Nat.lt_or_ge i J with q|q
   ·exact absurd h' (hno i q)
   ·omega
  subst this
  exact ⟨⟨rfl,rfl,rfl,rfl⟩,rfl⟩
 ·have:i≠J:=fun e=>by subst e;exact h' hyes
  exact ⟨by omega,by omega⟩
theorem fdA (X:Z6) (own:Bool) (id:Int) (n J:Nat) (C:Prop) (hC:C) (hn:X.L.length=n) (hn2:n<1000) (hcap:X.t.cap≠0):
  evF (Z8T X.L own id n J .ready none Z7 false C) 20 48 [XW X,.bool own,.int .i64 id] ⟨0,[]⟩ (Y8 fun v=>v=.tuple [.agg Z7.c,.bool false]):=by
 refine @Eq.mpr _ (let q1:=X.t.cap==0;
 let q2:=AV.int i64 0;
 let q3:=AV.arr u8 32 Zd;
 let q4:=[AV.bool false];
 let q5:=AV.tuple (AV.agg [AV.bool false,q2,q2,q3,q2,q2,q2,q3]::q4)=AV.tuple (AV.agg (Z5.c Z7)::q4);
 let q6:=List.length X.L;
 let q7:=Z4 X.L;
 let q8:=decide (q6=n);
 Z0 (!q1) (Z0 q1 q5 (∃(L:List Z5),q6=q6∧q7=Z4 L∧q6<1000000∧Z0 q8 (Z0 (decide (n≤q6)) (Z0 (decide ((↑q6:Int)=(↑n:Int))) ((LoopState.ready=LoopState.ready∧(none:Option Code)=none∧(48:FuncId)=48∧(27:Nat)=27∧[(14:Nat)]=[(14:Nat)]∧WS=WS∧WT=WT)∧Z0 q8 (Za 8 [] n q7 (Z4 L)∧Zd=Z7.hash∧Zd=Z7.secret∧Z0 (decide (id=id)) (Z0 (decide (own=own)) (C∧∀(i:Nat),i≤J→(∀(j:Nat),j<i→(fun (i:Nat)=>i<J) j)→(i=J→q5)∧(False→q5)∧(False→False)) False) False) False) False) False) False)) q5) (by kernel_rfl) ?_
 conv=>zeta
 try simp only [Zg]
 try simp only [Zi]
 try simp only [Zh]
 try simp only [Zj]
 try simp only [Zk]
 try simp only [Ze]
 try simp only [Int.toNat_natCast,Nat.zero_add,true_and,and_true,Nat.le_refl]
 subst hn
 refine ⟨fun _=>⟨fun h=>absurd h (by simpa using hcap),fun _=>⟨X.L,rfl,by omega,rfl,Nat.le_refl _,rfl,rfl,Zn fun _ _=>rfl,rfl,rfl,hC,fun i _ _=>⟨fun _=>rfl,fun _=>rfl,fun h=>h⟩⟩⟩,fun h=>absurd h (by simpa using hcap)⟩
theorem fdB (X:Z6) (own:Bool) (id:Int) (n J:Nat) (C:Prop) (R:Z5) (hC:C) (hn:X.L.length=n) (hn2:n<1000) (hcap:X.t.cap≠0):
  evF (Z8T X.L own id n J .done (some .ret) R true C) 20 48 [XW X,.bool own,.int .i64 id] ⟨0,[]⟩ (Y8 fun v=>v=.tuple [.agg R.c,.bool true]):=by
 refine @Eq.mpr _ (let q1:=X.t.cap==0;
 let q2:=AV.int i64 0;
 let q3:=AV.arr u8 32 Zd;
 let q4:=[AV.bool true];
 let q5:=AV.tuple (AV.agg (Z5.c R)::q4);
 let q6:=AV.tuple [AV.agg [AV.bool false,q2,q2,q3,q2,q2,q2,q3],AV.bool false]=q5;
 let q7:=List.length X.L;
 let q8:=Z4 X.L;
 let q9:=decide (q7=n);
 let q10:=AV.tuple (AV.agg [AV.bool R.own,AV.int i64 R.id,AV.int i64 R.amount,AV.arr u8 32 R.hash,AV.int i64 R.expiry,AV.int i64 R.stage,AV.int i64 R.fin,AV.arr u8 32 R.secret]::q4)=q5;
 Z0 (!q1) (Z0 q1 q6 (∃(L:List Z5),q7=q7∧q8=Z4 L∧q7<1000000∧Z0 q9 (Z0 (decide (n≤q7)) (Z0 (decide ((↑q7:Int)=(↑n:Int))) ((LoopState.ready=LoopState.ready∧(none:Option Code)=none∧(48:FuncId)=48∧(27:Nat)=27∧[(14:Nat)]=[(14:Nat)]∧WS=WS∧WT=WT)∧Z0 q9 (Za 8 [] n q8 (Z4 L)∧Zd=Z7.hash∧Zd=Z7.secret∧Z0 (decide (id=id)) (Z0 (decide (own=own)) (C∧∀(i:Nat),i≤J→(∀(j:Nat),j<i→(fun (i:Nat)=>i<J) j)→(i=J→q10)∧(False→q10)∧(False→False)) False) False) False) False) False) False)) q6) (by kernel_rfl) ?_
 conv=>zeta
 try simp only [Zg]
 try simp only [Zi]
 try simp only [Zh]
 try simp only [Zj]
 try simp only [Zk]
 try simp only [Ze]
 try simp only [Int.toNat_natCast,Nat.zero_add,true_and,and_true,Nat.le_refl]
 subst hn
 refine ⟨fun _=>⟨fun h=>absurd h (by simpa using hcap),fun _=>⟨X.L,rfl,by omega,rfl,Nat.le_refl _,rfl,rfl,Zn fun _ _=>rfl,rfl,rfl,hC,fun i _ _=>⟨fun _=>rfl,fun _=>rfl,fun h=>h⟩⟩⟩,fun h=>absurd h (by simpa using hcap)⟩
theorem VF {own:Bool} {id:Int}:∀{L:List Z5},(∀j,j<ZB own id L→¬isP own id (L.getD j Z7))∧(ZB own id L<L.length→isP own id (L.getD (ZB own id L) Z7))∧ZB own id L≤L.length
 | []=>⟨fun j hj=>by simp [ZB] at hj,fun h=>by simp [ZB] at h,Nat.le_refl _⟩
 | x::r=>by
  obtain ⟨h1,h2,h3⟩:=VF (own:=own) (id:=id) (L:=r)
  unfold ZB
  split
  ·rename_i h
   exact ⟨fun j hj=>absurd hj (Nat.not_lt_zero _),fun _=>h,Nat.zero_le _⟩
  ·rename_i h
   refine ⟨fun j hj=> ?_,fun hl=> ?_,by rw [List.length_cons];omega⟩
   ·cases j with
    | zero=>exact h
    | succ j=>rw [List.getD_cons_succ];exact h1 j (by omega)
   ·rw [List.getD_cons_succ];exact h2 (by rw [List.length_cons] at hl;omega)
def fdH (L:List Z5) (own:Bool) (id:Int):Z5×Bool:=if ZB own id L<L.length then (L.getD (ZB own id L) Z7,true) else (Z7,false)
theorem Zad {X:Z6} (hn:X.L.length<1000) (hcap:X.t.cap≠0) (own:Bool) (id:Int):Zw PP 48 [XW X,.bool own,.int .i64 id] (.tuple [.agg (fdH X.L own id).1.c,.bool (fdH X.L own id).2]) 0 []:=by
 obtain ⟨h1,h2,h3⟩:=VF (own:=own) (id:=id) (L:=X.L)
 unfold fdH
 by_cases h:ZB own id X.L<X.L.length
 ·rw [if_pos h]
  exact Zw.evV (ZeY X.L own id _ _ hn rfl h (h2 h) h1) (fdB X own id _ _ True _ trivial rfl hn hcap)
 ·rw [if_neg h]
  exact Zw.evV (ZeX X.L own id _ hn rfl fun i hi=>h1 i (by omega)) (fdA X own id _ _ True trivial rfl hn hcap)
def Zhs:ZN:=fun args h K=>ZO none h true 20 args fun a=>match a with
 | [.pview cs 0,.bool own,.int .i64 id]=>∃X,LV cs X∧X.L.length<1000∧X.t.cap≠0∧K (.tuple [.agg (fdH X.L own id).1.c,.bool (fdH X.L own id).2])
 | _=>False
theorem Zae (args:List AV) (h:Z9) (K:AV→Prop) (hl:Zhs args h K):Zm PP 48 args h fun o h'=>∃v,o=.ret v∧h'=h∧K v:=by
 refine Zw.psumm (d:=20) (Zq _ _ _ _ _ hl fun a ha=> ?_)
 split at ha
 ·obtain ⟨X,hX,h1,h2,hK⟩:=ha
  exact ⟨_,(Zad h1 h2 _ _).conv fun E r hr=>hr.head (fun _ hc=>Xr hX hc) fun _ hc=>hc,fun _=>rfl,hK⟩
 ·exact ha.elim
end Go.Tk
end
section
namespace Go.Tk
open IntKind (i64 u8 u32 u64 wrap)
def Z17 (side s:Int) (p:Int×Nat) (h:Z5):Int×Nat:=if ZP side h.own=s∧p.1≤1125899906842624 then (p.1+h.amount,p.2+1) else p
def offD (side s:Int) (L:List Z5):Int×Nat:=L.foldl (Z17 side s) (0,0)
theorem UE {α β:Type} (g:β→α→β) (d:α) {L:List α} {i:Nat} (hi:i<L.length) (b:β):(L.take (i+1)).foldl g b=g ((L.take i).foldl g b) (L.getD i d):=by
 rw [List.take_succ_eq_append_getElem hi,List.foldl_append,List.getD_eq_getElem?_getD,List.getElem?_eq_getElem hi];rfl
theorem Z49 {side s:Int} {L:List Z5} (hA:∀h∈L,0≤h.amount∧h.amount≤1125899906842624):∀i,i≤L.length→(0≤(offD side s (L.take i)).1∧(offD side s (L.take i)).1≤2251799813685248)∧(offD side s (L.take i)).2≤i
 | 0,_=>by simp [offD]
 | i+1,hi=>by
  obtain ⟨h1,h2⟩:=Z49 (side:=side) (s:=s) hA i (by omega)
  unfold offD at*
  rw [UE (Z17 side s) Z7 (by omega)]
  generalize List.foldl (Z17 side s) (0,0) (L.take i)=p at*
  have:=hA _ (Zz (L:=L) (i:=i) (by omega))
  unfold Z17
  split
  ·rename_i hc
   constructor<;>dsimp only<;>omega
  ·omega
def ZeZ (X:Z6) (s:Int) (n i:Nat) (a:Int) (c:Nat):St:=⟨42,[(8,.int .i64 i),(2,.ptr (some ⟨0,0,0,0,0⟩)),(1,.int .i64 s),(6,.int .i64 a),(7,.int .i64 c)],⟨1,[(0,.flat (X.c (.vrows 70 n (Z4 X.L) n)))]⟩,[]⟩
def ZcB (a:Int) (c:Nat):St:=⟨42,[(6,.int .i64 a),(7,.int .i64 c)],⟨0,[]⟩,[]⟩
theorem ZkN (X:Z6) (s:Int) (n i:Nat) (x:Z5) (a a1:Int) (c c1:Nat) (Z1 Z2:Prop) (hn:n<1000) (hL:X.L.length=n) (hi:i≤n) (hX:YN X) (hx:i<n→X.L.getD i Z7=x) (ha:i<n→(0≤a∧a≤2251799813685248)∧0≤x.amount∧x.amount≤1125899906842624) (hc:i<n→c<1000) (h1:i<n→(a1,c1)=Z17 X.side s (a,c) x) (hZ1:i<n→Z1) (hZ2:i=n→Z2):
  ZI G0 20 96 0 0 (ZeZ X s n i a c) (rdM 0 0 9 (ZeZ X s n (i+1) a1 c1) (ZcB a c) (ZcB a c) (ZcB a c) Z1 Z2 False False):=by
 refine @Eq.mpr _ (let q1:=decide (0≤(↑i:Int)∧(↑i:Int)<(↑n:Int));
 let q2:=List.getD X.L (Int.toNat (↑i:Int)) Z7;
 let q3:=X.side;
 let q4:=decide (wrap i64 ((↑i:Int)+1)=(↑(i+1):Int));
 let q5:=decide (s=s);
 let q6:=X.t;
 let q7:=q6.fund;
 let q8:=q6.index;
 let q9:=q6.cap;
 let q10:=q6.dust;
 let q11:=q6.fee;
 let q12:=q6.delay;
 let q13:=q6.k0;
 let q14:=q6.k1;
 let q15:=[X.a0,X.a1];
 let q16:=[X.i0,X.i1];
 let q17:=decide (n=n);
 let q18:=Z4 X.L;
 let q19:=q7=q7∧Z0 (decide (q8=q8)) (Z0 (decide (q9=q9)) (Z0 (decide (q10=q10)) (Z0 (decide (q11=q11)) (Z0 (decide (q12=q12)) (q13=q13∧q14=q14∧Z0 (decide (q3=q3)) (Z0 (decide (X.res=X.res)) (q15=q15∧q16=q16∧Z0 q17 (q18=q18∧Z0 q17 Z1 False) False) False) False) False) False) False) False) False;
 let q20:=Z0 q4 (Z0 q5 (Z0 (decide (a=a1)) (Z0 (decide ((↑c:Int)=(↑c1:Int))) q19 False) False) False) False;
 let q21:=Z0 (decide (a≤1125899906842624)) (Z0 q1 (Z0 q4 (Z0 q5 (Z0 (decide (wrap i64 (a+q2.amount)=a1)) (Z0 (decide (wrap i64 ((↑c:Int)+1)=(↑c1:Int))) q19 False) False) False) False) False) q20;
 Z0 (decide ((↑i:Int)<(↑n:Int))) (Z0 q1 (Z0 q2.own (Z0 (q3==s) q21 q20) (Z0 (wrap i64 (1-q3)==s) q21 q20)) False) (Z0 (decide (a=a)) (Z0 (decide ((↑c:Int)=(↑c:Int))) Z2 False) False)) (by kernel_rfl) ?_
 conv=>zeta
 try simp only [Zg]
 try simp only [Zi]
 try simp only [Zh]
 try simp only [Zj]
 try simp only [Zk]
 try simp only [Ze]
 try simp only [Int.toNat_natCast,Nat.zero_add,true_and,and_true,Nat.le_refl]
 refine ⟨fun hc'=> ?_,fun hc'=>hZ2 (by omega)⟩
 have hlt:i<n:=by omega
 rw [hx hlt]
 obtain ⟨s1,s2⟩:=hX
 have ha:=ha hlt
 have hc:=hc hlt
 have h1:=h1 hlt
 have hwr:i64.wrap ((i:Int)+1)=((i+1:Nat):Int):=by rw [w64 (by omega)];omega
 have hwf:i64.wrap (1-X.side)=1-X.side:=w64 (by omega)
 have hwa:i64.wrap (a+x.amount)=a+x.amount:=w64 (by omega)
 have hwc:i64.wrap ((c:Int)+1)=(c:Int)+1:=w64 (by omega)
 rw [hwr,hwf,hwa,hwc]
 unfold Z17 at h1
 refine ⟨by omega,fun ho=>⟨fun hq=>⟨fun hm=> ?_,fun hm=> ?_⟩,fun hq=> ?_⟩,fun ho=>⟨fun hq=>⟨fun hm=> ?_,fun hm=> ?_⟩,fun hq=> ?_⟩⟩
 all_goals rw [ho] at h1
 all_goals simp only [ZP] at h1
 all_goals try (have hq:¬X.side=s:=by simpa using hq)
 all_goals try (have hq:X.side=s:=by simpa using hq)
 all_goals try (have hq:¬1-X.side=s:=by simpa using hq)
 all_goals try (have hq:1-X.side=s:=by simpa using hq)
 all_goals first|simp only [hq,hm,true_and,false_and,and_true,and_false,if_true,if_false,not_false_iff] at h1|simp only [hq,true_and,false_and,if_true,if_false] at h1
 all_goals simp only [Prod.mk.injEq] at h1
 all_goals obtain ⟨e1,e2⟩:=h1
 all_goals repeat' apply And.intro
 all_goals first|omega|exact hZ1 hlt|rfl
def Zf0 (X:Z6) (n:Nat):Prop:=X.L.length=n∧n<1000∧YN X∧∀h∈X.L,0≤h.amount∧h.amount≤1125899906842624
noncomputable def ZiC (X:Z6) (s:Int) (n:Nat) (C:Prop) (E:Nat→St):Zf:=G0.withL 96 0 (goM 0 (ZeZ X s n 0 0 0) C (Ys 0 n 9 (fun i=>i<n) (fun i=>i=n) (fun _=>False) (fun _=>False) E E E))
theorem Zf1 (X:Z6) (s:Int) (n:Nat):(ZiC X s n (Zf0 X n) (fun i=>ZcB (offD X.side s (X.L.take i)).1 (offD X.side s (X.L.take i)).2)).Ok:=by
 refine Zf.withGoM (N:=20) (S:=fun i=>ZeZ X s n i (offD X.side s (X.L.take i)).1 (offD X.side s (X.L.take i)).2) Zr (by kernel_rfl) fun hC=>⟨rfl,fun i hi _=> ?_⟩
 obtain ⟨h1,h2,h3,h4⟩:=hC
 have hlt:i<n→i<X.L.length:=fun h=>by omega
 obtain ⟨b1,b2⟩:=Z49 (side:=X.side) (s:=s) h4 i (by omega)
 refine ZkN X s n i (X.L.getD i Z7) _ _ _ _ _ _ h2 h1 hi h3 (fun _=>rfl) (fun h=>⟨b1,h4 _ (Zz (hlt h))⟩) (fun h=>by omega) (fun h=> ?_) (fun h=>⟨h,h⟩) (fun h=>h)
 show offD X.side s (X.L.take (i+1))=_
 unfold offD
 rw [UE (Z17 X.side s) Z7 (hlt h)]
theorem ZkO (X:Z6) (s:Int) (n:Nat) (a:Int) (c:Nat) (C:Prop) (AF:Nat→Int) (CF:Nat→Nat) (hC:C) (hn:X.L.length=n) (ha:a=AF n) (hc:c=CF n):
  evF (ZiC X s n C fun i=>ZcB (AF i) (CF i)) 20 96 [.agg (X.c (.vrows 70 n (Z4 X.L) n)),.int .i64 s] ⟨0,[]⟩ (Y8 (fun v=>v=.tuple [.int .i64 a,.int .i64 c])):=by
 refine @Eq.mpr _ (let q1:=X.t;
 let q2:=q1.fund;
 let q3:=q1.index;
 let q4:=q1.cap;
 let q5:=q1.dust;
 let q6:=q1.fee;
 let q7:=q1.delay;
 let q8:=q1.k0;
 let q9:=q1.k1;
 let q10:=[X.a0,X.a1];
 let q11:=[X.i0,X.i1];
 let q12:=decide (n=n);
 let q13:=Z4 X.L;
 Z0 (decide (s=s)) (q2=q2∧Z0 (decide (q3=q3)) (Z0 (decide (q4=q4)) (Z0 (decide (q5=q5)) (Z0 (decide (q6=q6)) (Z0 (decide (q7=q7)) (q8=q8∧q9=q9∧Z0 (decide (X.side=X.side)) (Z0 (decide (X.res=X.res)) (q10=q10∧q11=q11∧Z0 q12 (q13=q13∧Z0 q12 (C∧∀(i:Nat),i≤n→(∀(j:Nat),j<i→(fun (i:Nat)=>i<n) j)→(i=n→AV.tuple [AV.int i64 (AF i),AV.int i64 ↑(CF i)]=AV.tuple [AV.int i64 a,AV.int i64 ↑c])∧(False→False)∧(False→False)) False) False) False) False) False) False) False) False) False) False) (by kernel_rfl) ?_
 conv=>zeta
 try simp only [Zg]
 try simp only [Zi]
 try simp only [Zh]
 try simp only [Zj]
 try simp only [Zk]
 try simp only [Ze]
 try simp only [Int.toNat_natCast,Nat.zero_add,true_and,and_true,Nat.le_refl]
 refine ⟨hC,fun i _ _=>⟨fun he=> ?_,fun h=>h,fun h=>h⟩⟩
 rw [he,ha,hc]
def Z0v (X:Z6):AV:=.agg (X.c (.vrows 70 X.L.length (Z4 X.L) X.L.length))
theorem XX {cs:List AV} {X:Z6} (h:LV cs X) {E:Env} {r:Value} (hc:Zl E (.agg cs) r):Zl E (Z0v X) r:=by
 cases hc with
 | agg cs vs hc=>exact .agg _ _ (Z8F h hc)
def ZiD:ZN:=fun args h K=>ZO none h true 20 args fun a=>match a with
 | [.agg cs,.int .i64 s]=>∃X,LV cs X∧Zf0 X X.L.length∧K (.tuple [.int .i64 (offD X.side s X.L).1,.int .i64 (offD X.side s X.L).2])
 | _=>False
theorem ZcC (args:List AV) (h:Z9) (K:AV→Prop) (hl:ZiD args h K):Zm PP 96 args h fun o h'=>∃v,o=.ret v∧h'=h∧K v:=by
 refine Zw.psumm (d:=20) (Zq _ _ _ _ _ hl fun a ha=> ?_)
 split at ha
 ·rename_i cs s
  obtain ⟨X,hX,h1,hK⟩:=ha
  have hv:=ZkO X s X.L.length (offD X.side s X.L).1 (offD X.side s X.L).2 (Zf0 X X.L.length) (fun i=>(offD X.side s (X.L.take i)).1) (fun i=>(offD X.side s (X.L.take i)).2) h1 rfl (by rw [List.take_length]) (by rw [List.take_length])
  exact ⟨_,(Zw.evV (Zf1 X s _) hv).conv fun E r hr=>hr.head (fun _ hc=>XX hX hc) fun _ hc=>hc,fun _=>rfl,hK⟩
 ·exact ha.elim
theorem Z0w {side s:Int}:∀(L:List Z5) (p:Int×Nat),(∀h∈L,0≤h.amount)→p.1+ZF side s L≤1125899906842624→L.foldl (Z17 side s) p=(p.1+ZF side s L,p.2+Yq side s L)
 | [],p,_,_=>by simp [ZF,Yq,ZQ,XB]
 | x::r,p,hA,hp=>by
  have hr:=Xh (side:=side) (s:=s) (G:=r) fun z hz=>hA z (by simp [hz])
  have hx:=hA x (by simp)
  rw [ZL] at hp
  rw [List.foldl_cons,ZL,Y4]
  unfold UK at hp⊢
  unfold Ue
  by_cases hf:ZP side x.own=s
  ·rw [if_pos hf] at hp⊢
   rw [if_pos hf]
   have e:Z17 side s p x=(p.1+x.amount,p.2+1):=by unfold Z17;rw [if_pos ⟨hf,by omega⟩]
   rw [e,Z0w r _ (fun z hz=>hA z (by simp [hz])) (by dsimp only;omega)]
   simp only [Prod.mk.injEq];omega
  ·rw [if_neg hf] at hp⊢
   rw [if_neg hf]
   have e:Z17 side s p x=p:=by unfold Z17;rw [if_neg (fun h=>hf h.1)]
   rw [e,Z0w r _ (fun z hz=>hA z (by simp [hz])) (by omega)]
   simp only [Prod.mk.injEq];omega
theorem Z6.Inv.offs {H:List Int→List Int} {X:Z6} (h:X.Inv H):ZF X.side 0 X.L≤1125899906842624∧ZF X.side 1 X.L≤1125899906842624:=by
 have o0:=h.ov0
 have tb:=ZZ h.tb
 have hr:=h.res
 have ha0:=h.a0
 have ha1:=h.a1
 rw [Xg,if_pos rfl,show X.am 0=X.a0 from rfl] at o0
 refine ⟨by omega, ?_⟩
 rcases h.ov1 with k|k
 ·rw [Qm k];omega
 ·rw [Xg,if_neg (by decide),show X.am 1=X.a1 from rfl] at k
  omega
theorem Z6.Inv.offD {H:List Int→List Int} {X:Z6} (h:X.Inv H) {s:Int} (hs:s=0∨s=1):offD X.side s X.L=(ZF X.side s X.L,(ZQ X.side s X.L).length):=by
 have ho:=h.offs
 unfold Go.Tk.offD
 rw [Z0w X.L (0,0) (fun z hz=>(h.am.am z hz).1) (by rcases hs with rfl|rfl<;>dsimp only<;>omega)]
 simp only [Int.zero_add,Nat.zero_add];rfl
theorem Z6.Inv.od {H:List Int→List Int} {X:Z6} (h:X.Inv H):Zf0 X X.L.length:=⟨rfl,h.am.n,by have:=h.side;exact ⟨by omega,by omega⟩,h.am.am⟩
def ZcD:ZN:=fun args h K=>ZO none h true 20 args fun a=>match a with
 | [.agg cs,.int .i64 s]=>∃X,LV cs X∧X.Inv Zo∧(s=0∨s=1)∧K (.tuple [.int .i64 (ZF X.side s X.L),.int .i64 (ZQ X.side s X.L).length])
 | _=>False
theorem Z6i (args:List AV) (h:Z9) (K:AV→Prop) (hl:ZcD args h K):Zm PP 96 args h fun o h'=>∃v,o=.ret v∧h'=h∧K v:=by
 refine ZcC args h K (Zq _ _ _ _ _ hl fun a ha=> ?_)
 split at ha
 ·obtain ⟨X,hX,hI,hs,hK⟩:=ha
  refine ⟨X,hX,hI.od, ?_⟩
  rw [hI.offD hs];exact hK
 ·exact ha.elim
noncomputable def Zg6:Zf:=G0.withP 96 ZcD
theorem ZcE:Zg6.Ok:=Zf.withP_ok Zr Z6i
theorem ZiE (X:Z6) (s r:Int) (hs:s=0∨s=1) (hI:X.Inv Zo) (hr:r=Y1 X s):
  evF Zg6 20 97 [Z0v X,.int .i64 s] ⟨0,[]⟩ (Y8 (fun v=>v=.int .i64 r)):=by
 refine @Eq.mpr _ (let q1:=X.t;
 let q2:=q1.fee;
 let q3:=[X.a0,X.a1];
 let q4:=List.length X.L;
 let q5:=0+Int.toNat s;
 ∃(X_1:Z6),
 let q11:=wrap i64 (wrap i64 (List.getD q3 q5 0-ZF X_1.side s X_1.L)-X.res);
 LV [AV.arr u8 32 q1.fund,AV.int i64 q1.index,AV.int i64 q1.cap,AV.int i64 q1.dust,AV.int i64 q2,AV.int i64 q1.delay,AV.arr u8 32 q1.k0,AV.arr u8 32 q1.k1,AV.int i64 X.side,AV.int i64 X.res,AV.arr i64 2 q3,AV.arr i64 2 [X.i0,X.i1],AV.vrows 70 q4 (Z4 X.L) q4] X_1∧Z6.Inv Zo X_1∧(s=0∨s=1)∧Z0 (decide (0≤s∧s<2)) (Z0 (decide (q5<2)) (Z0 (s==0) (AV.int i64 (wrap i64 (q11-q2))=AV.int i64 r) (AV.int i64 q11=AV.int i64 r)) False) False) (by kernel_rfl) ?_
 conv=>zeta
 try simp only [Zg]
 try simp only [Zi]
 try simp only [Zh]
 try simp only [Zj]
 try simp only [Zk]
 try simp only [Ze]
 try simp only [Int.toNat_natCast,Nat.zero_add,true_and,and_true,Nat.le_refl]
 have tb:=ZZ hI.tb
 have hres:=hI.res
 have ha0:=hI.a0
 have ha1:=hI.a1
 have ho:=hI.offs
 have n0:=Xh (side:=X.side) (s:=0) fun z hz=>(hI.am.am z hz).1
 have n1:=Xh (side:=X.side) (s:=1) fun z hz=>(hI.am.am z hz).1
 refine ⟨X,.a rfl,hI,hs,by omega,by omega,fun h=> ?_,fun h=> ?_⟩
 ·have h0:s=0:=by simpa using h
  subst h0
  rw [hr,Xg,if_pos rfl]
  show AV.int .i64 (i64.wrap (i64.wrap (i64.wrap (X.a0-_)-_)-_))=AV.int .i64 (X.a0-_-_-_)
  rw [w64 (x:=X.a0-ZF X.side 0 X.L) (by omega),w64 (x:=X.a0-ZF X.side 0 X.L-X.res) (by omega),w64 (by omega)]
 ·have h0:s=1:=by
   have:¬s=0:=by simpa using h
   omega
  subst h0
  rw [hr,Xg,if_neg (by decide)]
  show AV.int .i64 (i64.wrap (i64.wrap (X.a1-_)-_))=AV.int .i64 (X.a1-_-_-0)
  rw [w64 (x:=X.a1-ZF X.side 1 X.L) (by omega),w64 (by omega),Int.sub_zero]
def Zht:ZN:=fun args h K=>ZO none h true 20 args fun a=>match a with
 | [.agg cs,.int .i64 s]=>∃X,LV cs X∧X.Inv Zo∧(s=0∨s=1)∧K (.int .i64 (Y1 X s))
 | _=>False
theorem Z8U (args:List AV) (h:Z9) (K:AV→Prop) (hl:Zht args h K):Zm PP 97 args h fun o h'=>∃v,o=.ret v∧h'=h∧K v:=by
 refine Zw.psumm (d:=20) (Zq _ _ _ _ _ hl fun a ha=> ?_)
 split at ha
 ·obtain ⟨X,hX,hI,hs,hK⟩:=ha
  exact ⟨_,(Zw.evV ZcE (ZiE X _ _ hs hI rfl)).conv fun E r hr=>hr.head (fun _ hc=>XX hX hc) fun _ hc=>hc,fun _=>rfl,hK⟩
 ·exact ha.elim
noncomputable def ZcF:Zf:=(G0.withP 97 Zht).withP 79 Zeg
theorem Z6j:ZcF.Ok:=Zf.withP_ok (Zf.withP_ok Zr Z8U) Z51
def leftV (X:Z6) (s:Int):Int:=if s=0∨s=1 then max 0 (Y1 X s) else 0
theorem Z31 {X:Z6} {s:Int} (hs:s=0∨s=1):(if Y1 X s>0 then Y1 X s else 0)=leftV X s:=by
 unfold leftV
 rw [if_pos hs]
 split<;>omega
theorem Z0x {X:Z6} {s:Int} (hs:¬(s=0∨s=1)):leftV X s=0:=by unfold leftV;rw [if_neg hs]
theorem ZiF (X:Z6) (s r:Int) (hI:X.Inv Zo) (hr:r=leftV X s):
  evF ZcF 20 49 [Z0v X,.int .i64 s] ⟨0,[]⟩ (Y8 (fun v=>v=.int .i64 r)):=by
 refine @Eq.mpr _ (let q1:=X.t;
 let q2:=List.length X.L;
 let q3:=∃(X_1:Z6),LV [AV.arr u8 32 q1.fund,AV.int i64 q1.index,AV.int i64 q1.cap,AV.int i64 q1.dust,AV.int i64 q1.fee,AV.int i64 q1.delay,AV.arr u8 32 q1.k0,AV.arr u8 32 q1.k1,AV.int i64 X.side,AV.int i64 X.res,AV.arr i64 2 [X.a0,X.a1],AV.arr i64 2 [X.i0,X.i1],AV.vrows 70 q2 (Z4 X.L) q2] X_1∧Z6.Inv Zo X_1∧(s=0∨s=1)∧AV.int i64 (if Y1 X_1 s>0 then Y1 X_1 s else 0)=AV.int i64 r;
 Z0 (s !=0) (Z0 (s !=1) (AV.int i64 0=AV.int i64 r) q3) q3) (by kernel_rfl) ?_
 conv=>zeta
 try simp only [Zg]
 try simp only [Zi]
 try simp only [Zh]
 try simp only [Zj]
 try simp only [Zk]
 try simp only [Ze]
 try simp only [Int.toNat_natCast,Nat.zero_add,true_and,and_true,Nat.le_refl]
 subst hr
 refine ⟨fun h0=>⟨fun h1=> ?_,fun h1=> ?_⟩,fun h0=> ?_⟩
 ·rw [Z0x]
  intro h
  rcases h with rfl|rfl
  ·simp at h0
  ·simp at h1
 ·have hs:s=0∨s=1:=.inr (by simpa using h1)
  exact ⟨X,.a rfl,hI,hs,by rw [Z31 hs]⟩
 ·have hs:s=0∨s=1:=.inl (by simpa using h0)
  exact ⟨X,.a rfl,hI,hs,by rw [Z31 hs]⟩
theorem ZiG (X:Z6) (s r:Int) (hI:X.Inv Zo) (hr:r=leftV X s):
  evF ZcF 20 25 [XW X,.int .i64 s] ⟨0,[]⟩ (Y8 (fun v=>v=.int .i64 r)):=by
 refine @Eq.mpr _ (let q1:=AV.int i64 0=AV.int i64 r;
 let q2:=List.length X.L;
 Z0 (X.t.cap==0) q1 (Z0 (decide (0≤s)) (Z0 (!decide (s≤1)) q1 (∃(X_1:Z6),LV (Z6.c X (AV.vrows 70 q2 (Z4 X.L) q2)) X_1∧(0≤X_1.side∧X_1.side≤1)∧(s=0∨s=1)∧Z0q X_1∧AV.int i64 (if Y1 X_1 s>0 then Y1 X_1 s else 0)=AV.int i64 r)) q1)) (by kernel_rfl) ?_
 conv=>zeta
 try simp only [Zg]
 try simp only [Zi]
 try simp only [Zh]
 try simp only [Zj]
 try simp only [Zk]
 try simp only [Ze]
 try simp only [Int.toNat_natCast,Nat.zero_add,true_and,and_true,Nat.le_refl]
 subst hr
 have hsd:=hI.side
 refine ⟨fun h=>absurd h (by simpa using Yj hI.tb),fun _=>⟨fun h0=>⟨fun h1=> ?_,fun h1=> ?_⟩,fun h0=> ?_⟩⟩
 ·have:¬s≤1:=by simpa using h1
  rw [Z0x (by omega)]
 ·have:s≤1:=by simpa using h1
  have hs:s=0∨s=1:=by omega
  exact ⟨X,.a rfl,by omega,hs,hI.am,by rw [Z31 hs]⟩
 ·rw [Z0x (by omega)]
def Zf2 (X:Z6) (own:Bool) (id:Int) (n i:Nat):St:=⟨34,[(7,.int .i64 i),(3,pt 0),(1,.bool own),(2,.int .i64 id)],⟨1,[(0,.flat (X.c (.vrows 70 n (Z4 X.L) n)))]⟩,[]⟩
def ZiH:St:=⟨34,[],⟨0,[]⟩,[]⟩
def Zf3 (i:Nat):St:=⟨34,[(6,.int .i64 i)],⟨0,[]⟩,[]⟩
theorem ZiI (X:Z6) (own:Bool) (id:Int) (n i:Nat) (Z1 Z2 Z3:Prop) (hn:n<1000) (hL:X.L.length=n) (hi:i≤n) (h1:i<n→¬isP own id (X.L.getD i Z7)→Z1) (h2:i=n→Z2) (h3:i<n→isP own id (X.L.getD i Z7)→Z3):
  ZI G0 20 154 0 0 (Zf2 X own id n i) (rdM 0 0 9 (Zf2 X own id n (i+1)) ZiH (Zf3 i) (Zf3 i) Z1 Z2 Z3 False):=by
 refine @Eq.mpr _ (let q1:=decide (0≤(↑i:Int)∧(↑i:Int)<(↑n:Int));
 let q2:=List.getD X.L (Int.toNat (↑i:Int)) Z7;
 let q3:=X.t;
 let q4:=q3.fund;
 let q5:=q3.index;
 let q6:=q3.cap;
 let q7:=q3.dust;
 let q8:=q3.fee;
 let q9:=q3.delay;
 let q10:=q3.k0;
 let q11:=q3.k1;
 let q12:=[X.a0,X.a1];
 let q13:=[X.i0,X.i1];
 let q14:=decide (n=n);
 let q15:=Z4 X.L;
 let q16:=Z0 (decide (wrap i64 ((↑i:Int)+1)=(↑(i+1):Int))) (Z0 (decide (own=own)) (Z0 (decide (id=id)) (q4=q4∧Z0 (decide (q5=q5)) (Z0 (decide (q6=q6)) (Z0 (decide (q7=q7)) (Z0 (decide (q8=q8)) (Z0 (decide (q9=q9)) (q10=q10∧q11=q11∧Z0 (decide (X.side=X.side)) (Z0 (decide (X.res=X.res)) (q12=q12∧q13=q13∧Z0 q14 (q15=q15∧Z0 q14 Z1 False) False) False) False) False) False) False) False) False) False) False) False;
 Z0 (decide ((↑i:Int)<(↑n:Int))) (Z0 q1 (Z0 (q2.own==own) (Z0 q1 (Z0 (q2.id==id) (Z0 (decide ((↑i:Int)=(↑i:Int))) Z3 False) q16) False) q16) False) Z2) (by kernel_rfl) ?_
 conv=>zeta
 try simp only [Zg]
 try simp only [Zi]
 try simp only [Zh]
 try simp only [Zj]
 try simp only [Zk]
 try simp only [Ze]
 try simp only [Int.toNat_natCast,Nat.zero_add,true_and,and_true,Nat.le_refl]
 refine ⟨fun hc=> ?_,fun hc=>h2 (by omega)⟩
 have hlt:i<n:=by omega
 have hwr:i64.wrap ((i:Int)+1)=((i+1:Nat):Int):=by rw [w64 (by omega)];omega
 refine ⟨by omega,fun ho=>⟨by omega,fun hd=> ?_,fun hd=> ?_⟩,fun ho=> ?_⟩
 ·exact h3 hlt ⟨by simpa using ho,by simpa using hd⟩
 ·exact ⟨hwr,h1 hlt fun h=>by rw [h.2] at hd;simp at hd⟩
 ·exact ⟨hwr,h1 hlt fun h=>by rw [h.1] at ho;simp at ho⟩
theorem Z7R {X:Z6} (hI:X.Inv Zo) (s:Int):Zw PP 49 [Z0v X,.int .i64 s] (.int .i64 (leftV X s)) 0 []:=Zw.evV Z6j (ZiF X s _ hI rfl)
theorem Zaf {X:Z6} (hI:X.Inv Zo) (s:Int):Zw PP 25 [XW X,.int .i64 s] (.int .i64 (leftV X s)) 0 []:=Zw.evV Z6j (ZiG X s _ hI rfl)
def ZcG:ZN:=fun args h K=>ZO none h true 20 args fun a=>match a with
 | [.agg cs,.int .i64 s]=>∃X,LV cs X∧X.Inv Zo∧K (.int .i64 (leftV X s))
 | _=>False
theorem Zag (args:List AV) (h:Z9) (K:AV→Prop) (hl:ZcG args h K):Zm PP 49 args h fun o h'=>∃v,o=.ret v∧h'=h∧K v:=by
 refine Zw.psumm (d:=20) (Zq _ _ _ _ _ hl fun a ha=> ?_)
 split at ha
 ·obtain ⟨X,hX,hI,hK⟩:=ha
  exact ⟨_,(Z7R hI _).conv fun E r hr=>hr.head (fun _ hc=>XX hX hc) fun _ hc=>hc,fun _=>rfl,hK⟩
 ·exact ha.elim
def ZcH:ZN:=fun args h K=>ZO none h true 20 args fun a=>match a with
 | [.pview cs 0,.int .i64 s]=>∃X,LV cs X∧X.Inv Zo∧K (.int .i64 (leftV X s))
 | _=>False
theorem Zah (args:List AV) (h:Z9) (K:AV→Prop) (hl:ZcH args h K):Zm PP 25 args h fun o h'=>∃v,o=.ret v∧h'=h∧K v:=by
 refine Zw.psumm (d:=20) (Zq _ _ _ _ _ hl fun a ha=> ?_)
 split at ha
 ·obtain ⟨X,hX,hI,hK⟩:=ha
  exact ⟨_,(Zaf hI _).conv fun E r hr=>hr.head (fun _ hc=>Xr hX hc) fun _ hc=>hc,fun _=>rfl,hK⟩
 ·exact ha.elim
noncomputable def Zg7 (X:Z6) (own:Bool) (id:Int) (n:Nat) (C:Prop):Zf:=G0.withL 154 0 (goM 0 (Zf2 X own id n 0) C (Ys 0 n 9 (fun i=>¬isP own id (X.L.getD i Z7)∧i<n) (fun i=>i=n) (fun i=>i<n∧isP own id (X.L.getD i Z7)) (fun _=>False) (fun _=>ZiH) (fun i=>Zf3 i) (fun i=>Zf3 i)))
theorem ZcI (X:Z6) (own:Bool) (id:Int) (n:Nat):(Zg7 X own id n (n<1000∧X.L.length=n)).Ok:=
 Zf.withGoM (N:=20) (S:=fun i=>Zf2 X own id n i) Zr (by kernel_rfl) fun hC=>⟨rfl,fun i hi _=>ZiI X own id n i _ _ _ hC.1 hC.2 hi (fun h h'=>⟨⟨h',h⟩,h⟩) (fun h=>h) (fun h h'=>⟨h,h'⟩)⟩
theorem ZiJ (X:Z6) (own:Bool) (id:Int) (n:Nat) (r:Int) (C:Prop) (hC:C) (hL:X.L.length=n) (hr:r=fiV own id X.L):
  evF (Zg7 X own id n C) 20 154 [.agg (X.c (.vrows 70 n (Z4 X.L) n)),.bool own,.int .i64 id] ⟨0,[]⟩ (Y8 (fun v=>v=.int .i64 r)):=by
 refine @Eq.mpr _ (let q1:=X.t;
 let q2:=q1.fund;
 let q3:=q1.index;
 let q4:=q1.cap;
 let q5:=q1.dust;
 let q6:=q1.fee;
 let q7:=q1.delay;
 let q8:=q1.k0;
 let q9:=q1.k1;
 let q10:=[X.a0,X.a1];
 let q11:=[X.i0,X.i1];
 let q12:=decide (n=n);
 let q13:=X.L;
 let q14:=Z4 q13;
 Z0 (decide (own=own)) (Z0 (decide (id=id)) (q2=q2∧Z0 (decide (q3=q3)) (Z0 (decide (q4=q4)) (Z0 (decide (q5=q5)) (Z0 (decide (q6=q6)) (Z0 (decide (q7=q7)) (q8=q8∧q9=q9∧Z0 (decide (X.side=X.side)) (Z0 (decide (X.res=X.res)) (q10=q10∧q11=q11∧Z0 q12 (q14=q14∧Z0 q12 (C∧∀(i:Nat),i≤n→(∀(j:Nat),j<i→(fun (i:Nat)=>¬isP own id (List.getD q13 i Z7)∧i<n) j)→(i=n→AV.int i64 (-1)=AV.int i64 r)∧(i<n∧isP own id (List.getD q13 i Z7)→AV.int i64 ↑i=AV.int i64 r)∧(False→False)) False) False) False) False) False) False) False) False) False) False) False) (by kernel_rfl) ?_
 conv=>zeta
 try simp only [Zg]
 try simp only [Zi]
 try simp only [Zh]
 try simp only [Zj]
 try simp only [Zk]
 try simp only [Ze]
 try simp only [Int.toNat_natCast,Nat.zero_add,true_and,and_true,Nat.le_refl]
 refine ⟨hC,fun i hi hg=>⟨fun he=> ?_,fun hx=> ?_,fun h=>h.elim⟩⟩
 ·rw [hr]
  unfold fiV
  rw [Z2L fun j hj=>(hg j (by omega)).1,if_neg (by omega)]
 ·rw [hr]
  unfold fiV
  rw [Z2M (by omega) (fun j hj=>(hg j hj).1) hx.2,if_pos (by omega)]
def ZiK:ZN:=fun args h K=>ZO none h true 20 args fun a=>match a with
 | [.agg cs,.bool own,.int .i64 id]=>∃X,LV cs X∧X.L.length<1000∧K (.int .i64 (fiV own id X.L))
 | _=>False
theorem Zf4 (args:List AV) (h:Z9) (K:AV→Prop) (hl:ZiK args h K):Zm PP 154 args h fun o h'=>∃v,o=.ret v∧h'=h∧K v:=by
 refine Zw.psumm (d:=20) (Zq _ _ _ _ _ hl fun a ha=> ?_)
 split at ha
 ·obtain ⟨X,hX,h1,hK⟩:=ha
  exact ⟨_,(Zw.evV (ZcI X _ _ _) (ZiJ X _ _ _ _ _ ⟨h1,rfl⟩ rfl rfl)).conv fun E r hr=>hr.head (fun _ hc=>XX hX hc) fun _ hc=>hc,fun _=>rfl,hK⟩
 ·exact ha.elim
end Go.Tk
end
