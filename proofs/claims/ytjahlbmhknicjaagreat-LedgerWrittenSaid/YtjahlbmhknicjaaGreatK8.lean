/- K: part 8 of an engine (a symbolic evaluator, proved against the model) and of the walk by it. -/
import Derived.Test.YtjahlbmhknicjaaGreatK7
import Derived.Test.YtjahlbmhknicjaaGreatRows
import Derived.ChangeOld
set_option linter.unusedVariables false
set_option linter.unusedSimpArgs false
set_option maxRecDepth 100000
set_option maxHeartbeats 0
section
namespace Go.Tk
open IntKind (i64 u8 u32 u64 wrap)
noncomputable def Z7r (W:Int->List Int) (F:List Int->Int×Int) (H:List Int->List Int) (c:Bool) (R:Option Z7):Zh:=((((((G0.withP 19 (Zir c)).withF 20 (Zip W)).withF 17 (Zep F H R)).withF 18 (Z92 F H R)).withF 11 ZjM).withP 15 ZlQ).withP 7 ZjN
theorem Z5V (c:Bool) (R:Option Z7):(Z7r Zq (Zo Zq) Zr c R).Ok:=Zh.withP_ok (Zh.withP_ok (Zh.withF_ok (Zh.withF_ok (Zh.withF_ok (Zh.withF_ok (Zh.withP_ok Zu ZeZ) ZeX) Zeq) ZbF) Zhh) Zhd) Zht
def wnS (X:Z7) (A:List YB) (n i:Nat):St:=⟨109,[(24,.int .i64 i),(8,.vrows 41 n (UL A) n),(20,.ptr (some ⟨0,0,0,0,0⟩)),(22,.ptr (some ⟨1,0,0,0,0⟩))],⟨4,[(0,.flat (X.c (slH 2 X.L.length))),(1,.flat (X.c (slH 3 X.L.length))),(2,.rows 70 X.L.length (Z4 X.L)),(3,.rows 70 X.L.length (Z4 X.L))]⟩,[]⟩
def wnE:St:=⟨109,[],⟨0,[]⟩,[]⟩
theorem ZnD (X Y:Z7) (A:List YB) (n i:Nat) (a:YB) (W:Int->List Int) (F:List Int->Int×Int) (H:List Int->List Int) (c:Bool) (R:Option Z7) (Z1 Z2:Prop) (hn:n<=60) (hL:A.length=n) (hi:i<=n) (hI:X.Inv Zr) (hJ:i<n->Y.Inv Zr) (hf:X.t.fund.length=32) (hg:i<n->Y.t.fund.length=32) (hx:i<n->A.getD i Z7l=a) (ha:i<n->a.Ok) (hY:i<n->Y=actX X a) (hZ1:i<n->Z1) (hZ2:i=n->Z2):
  ZB (Z7r W F H c R) 20 5 0 0 (wnS X A n i) (rdM 0 0 9 (wnS Y A n (i+1)) wnE wnE wnE Z1 Z2 False False):=by
 refine @Eq.mpr _ (let q1:=List.length X.L;let q2:=List.getD A (Int.toNat (↑i:Int)) Z7l;let q3:=X.t;let q4:=AV.arr u8 32 q3.fund;let q5:=AV.int i64 q3.index;let q6:=AV.int i64 q3.cap;let q7:=AV.int i64 q3.dust;let q8:=AV.int i64 q3.fee;let q9:=AV.int i64 q3.delay;let q10:=AV.arr u8 32 q3.k0;let q11:=AV.arr u8 32 q3.k1;let q12:=AV.int i64 X.side;let q13:=AV.int i64 X.res;let q14:=AV.arr i64 2 [X.a0,X.a1];let q15:=AV.arr i64 2 [X.i0,X.i1];let q16:=Z4 X.L;let q17:=decide (wrap i64 ((↑i:Int)+1)=(↑(i+1):Int));let q18:=decide (n=n);let q19:=UL A=UL A;let q20:=Y.t;let q21:=q20.fund;let q22:=q20.index;let q23:=q20.cap;let q24:=q20.dust;let q25:=q20.fee;let q26:=q20.delay;let q27:=q20.k0;let q28:=q20.k1;let q29:=[Y.a0,Y.a1];let q30:=[Y.i0,Y.i1];let q31:=List.length Y.L;let q32:=[(1,1),(0,0)];let q33:=Z4 Y.L;
 Z0 (decide ((↑i:Int)<(↑n:Int)))
 (Z0 (decide (0<=(↑i:Int)/\(↑i:Int)<(↑n:Int)))
 ((∀(i:Nat),i<q1->true=true)/\
 (∀(i:Nat),i<q1->true=true)/\
 ∃(X_1:Z7),
 let q67:=List.length X_1.L;let q68:=X_1.t;let q69:=q68.fund;let q70:=q68.index;let q71:=q68.cap;let q72:=q68.dust;let q73:=q68.fee;let q74:=q68.delay;let q75:=q68.k0;let q76:=q68.k1;let q77:=[X_1.a0,X_1.a1];let q78:=[X_1.i0,X_1.i1];let q79:=Z4 X_1.L;let q80:=q69=q21;let q81:=decide (q70=q22);let q82:=decide (q71=q23);let q83:=decide (q72=q24);let q84:=decide (q73=q25);let q85:=decide (q74=q26);let q86:=q75=q27;let q87:=q76=q28;let q88:=decide (X_1.side=Y.side);let q89:=decide (X_1.res=Y.res);let q90:=q77=q29;let q91:=q78=q30;let q92:=decide (q67=q31);let q93:=decide (q31<=q67);let q94:=Zc 0 ((3,3)::(2,2)::q32) q31 q33 q79;
 ∃(a:YB),
 let q123:=actX X_1 a;let q124:=q123.L;let q125:=List.length q124;let q126:=q123.t;let q127:=q126.fund;let q128:=q126.index;let q129:=q126.cap;let q130:=q126.dust;let q131:=q126.fee;let q132:=q126.delay;let q133:=q126.k0;let q134:=q126.k1;let q135:=q123.side;let q136:=q123.res;let q137:=[q123.a0,q123.a1];let q138:=[q123.i0,q123.i1];let q139:=Z4 q124;let q140:=q127=q21;let q141:=decide (q128=q22);let q142:=decide (q129=q23);let q143:=decide (q130=q24);let q144:=decide (q131=q25);let q145:=decide (q132=q26);let q146:=q133=q27;let q147:=q134=q28;let q148:=decide (q135=Y.side);let q149:=decide (q136=Y.res);let q150:=q137=q29;let q151:=q138=q30;let q152:=decide (q125=q31);let q153:=decide (q31<=q125);let q154:=Zc 0 ((3,5)::(2,4)::q32) q31 q33 q139;
 a=YB.mk q2.what q2.own q2.off q2.amount q2.expiry q2.secret q2.at' q2.move q2.ours q2.number/\
 LA [q4,q5,q6,q7,q8,q9,q10,q11,q12,q13,q14,q15,AV.nslice (ZG.mk 1 0 70 0 0) 70 q1 q1] q1 q16 [q4,q5,q6,q7,q8,q9,q10,q11,q12,q13,q14,q15,AV.nslice (ZG.mk 2 0 70 0 0) 70 q1 q1] q1 q16 X_1/\
 Z7.Inv Zr X_1/\
 YB.Ok a/\
 (Qw X_1 a->
 Z0 (decide (0+q67<=q67))
 ((∀(i:Nat),i<q67->true=true)/\
 Z0 (decide (0+q67<=q67))
 ((∀(i:Nat),i<q67->true=true)/\
 ∃(X:Z7),
 let q187:=LV [AV.arr u8 32 q69,AV.int i64 q70,AV.int i64 q71,AV.int i64 q72,AV.int i64 q73,AV.int i64 q74,AV.arr u8 32 q75,AV.arr u8 32 q76,AV.int i64 X_1.side,AV.int i64 X_1.res,AV.arr i64 2 q77,AV.arr i64 2 q78,AV.vrows 70 q67 (ZT 0 q79) q67] X;
 q187/\q187/\Z7.Inv Zr X/\List.length X.t.fund=32/\Z0 q17 (Z0 q18 (q19/\Z0 q18 (q80/\Z0 q81 (Z0 q82 (Z0 q83 (Z0 q84 (Z0 q85 (q86/\q87/\Z0 q88 (Z0 q89 (q90/\q91/\Z0 q92 (Z0 q93 (q80/\Z0 q81 (Z0 q82 (Z0 q83 (Z0 q84 (Z0 q85 (q86/\q87/\Z0 q88 (Z0 q89 (q90/\q91/\Z0 q92 (Z0 q93 (Z0 q92 (q94/\Z0 q92 (q94/\Z1) False) False) False) False) False) False) False) False) False) False) False) False) False) False) False) False) False) False) False) False) False) False) False)
 False)
 False)/\
 (¬Qw X_1 a->
 Z0 (decide (0+q125<=q125))
 ((∀(i:Nat),i<q125->true=true)/\
 Z0 (decide (0+q125<=q125))
 ((∀(i:Nat),i<q125->true=true)/\
 ∃(X:Z7),
 let q187:=LV [AV.arr u8 32 q127,AV.int i64 q128,AV.int i64 q129,AV.int i64 q130,AV.int i64 q131,AV.int i64 q132,AV.arr u8 32 q133,AV.arr u8 32 q134,AV.int i64 q135,AV.int i64 q136,AV.arr i64 2 q137,AV.arr i64 2 q138,AV.vrows 70 q125 (ZT 0 q139) q125] X;
 q187/\q187/\Z7.Inv Zr X/\List.length X.t.fund=32/\Z0 q17 (Z0 q18 (q19/\Z0 q18 (q140/\Z0 q141 (Z0 q142 (Z0 q143 (Z0 q144 (Z0 q145 (q146/\q147/\Z0 q148 (Z0 q149 (q150/\q151/\Z0 q152 (Z0 q153 (q140/\Z0 q141 (Z0 q142 (Z0 q143 (Z0 q144 (Z0 q145 (q146/\q147/\Z0 q148 (Z0 q149 (q150/\q151/\Z0 q152 (Z0 q153 (Z0 q152 (q154/\Z0 q152 (q154/\Z1) False) False) False) False) False) False) False) False) False) False) False) False) False) False) False) False) False) False) False) False) False) False) False)
 False)
 False))
 False)
 Z2) (by kernel_rfl) ?_
 conv=>zeta
 try simp only [Zi]
 try simp only [Zj]
 try simp only [Zf]
 try simp only [Zk]
 try simp only [Zl]
 try simp only [Zg]
 try simp only [Int.toNat_natCast,Nat.zero_add,true_and,and_true,Nat.le_refl]
 refine ⟨fun hc=> ?_,fun hc=>hZ2 (by omega)⟩
 have hlt:i<n:=by omega
 rw [hx hlt]
 have hwr:i64.wrap ((i:Int)+1)=((i+1:Nat):Int):=by rw [w64 (by omega)];omega
 have hY:=hY hlt
 refine ⟨by omega,fun _ _=>trivial,fun _ _=>trivial,X,a,rfl,⟨rfl,rfl,rfl,rfl,rfl,rfl⟩,hI,ha hlt,fun hk=> ?_,fun hk=> ?_⟩
 ·rw [ZeP hk] at hY
  subst hY
  repeat' first
   | exact hI
   | exact hf
   | exact hwr
   | exact hZ1 hlt
   | (intro _ _;trivial)
   | refine Exists.intro Y (And.intro (.a rfl) (And.intro (.a rfl) ?_))
   | apply And.intro
   | rfl
   | omega
   | exact Zp fun _ _=>rfl
 ·rw [<-hY]
  repeat' first
   | exact hJ hlt
   | exact hg hlt
   | exact hwr
   | exact hZ1 hlt
   | (intro _ _;trivial)
   | refine Exists.intro Y (And.intro (.a rfl) (And.intro (.a rfl) ?_))
   | apply And.intro
   | rfl
   | omega
   | exact Zp fun _ _=>rfl
noncomputable def Zf0 (W:Int->List Int) (F:List Int->Int×Int) (H:List Int->List Int) (c:Bool) (Y:Z7) (A:List YB) (n:Nat) (C:Prop):Zh:=(Z7r W F H c (some Y)).withL 5 0 (goM 0 (wnS Y A n 0) C (Yu 0 n 9 (fun i=>i<n) (fun i=>i=n) (fun _=>False) (fun _=>False) (fun _=>wnE) (fun _=>wnE) (fun _=>wnE)))
theorem Zf1 (c:Bool) (Y:Z7) (A:List YB) (n:Nat):(Zf0 Zq (Zo Zq) Zr c Y A n (Znz Y A n)).Ok:=
 Zh.withGoM (N:=20) (S:=fun i=>wnS (lpX Y A i) A n i) (Z5V c _) (by kernel_rfl) fun hC=>⟨rfl,fun i hi _=>by
  obtain ⟨h1,h2,h3,h4,h5⟩:=hC
  have hk:=fun j hj=>Zam h3 h5 j hj
  exact ZnD (lpX Y A i) (lpX Y A (i+1)) A n i (A.getD i Z7l) _ _ Zr _ _ _ _ h1 h2 hi (hk i (by omega)).1 (fun h=>(hk (i+1) (by omega)).1) (by rw [(hk i (by omega)).2];exact h4) (fun h=>by rw [(hk (i+1) (by omega)).2];exact h4) (fun _=>rfl) (fun h=>h5 _ (by rw [List.getD_eq_getElem?_getD,List.getElem?_eq_getElem (by omega)];exact List.getElem_mem (by omega))) (fun h=>Z7p (by omega)) (fun h=>⟨h,h⟩) (fun h=>h)⟩
theorem ZnE (W:Int->List Int) (F:List Int->Int×Int) (H:List Int->List Int) (t:X3) (sd rs a b one two:Int) (P:List Z6) (A:List YB) (n m:Nat) (X:Z7) (hX:X=⟨t,sd,rs,a,b,one,two,P⟩) (hP:P.length=m) (hy:Z3Y X false):
  evF (Z7r W F H false none) 20 5 [.agg t.c,.int .i64 sd,.int .i64 rs,.int .i64 a,.int .i64 b,.int .i64 one,.int .i64 two,.vrows 70 m (Z4 P) m,.vrows 41 n (UL A) n] ⟨0,[]⟩ (Y4 fun v=>v=.bool true):=by
 refine @Eq.mpr _ (let q1:=AV.bool true=AV.bool true;
 Z0 (decide ((↑m:Int)>20)) q1 (Z0 (decide ((↑n:Int)>10)) q1 (∃(X:Z7),LV [AV.arr u8 32 t.fund,AV.int i64 t.index,AV.int i64 t.cap,AV.int i64 t.dust,AV.int i64 t.fee,AV.int i64 t.delay,AV.arr u8 32 t.k0,AV.arr u8 32 t.k1,AV.int i64 sd,AV.int i64 rs,AV.arr i64 2 [a,b],AV.arr i64 2 [one,two],AV.vrows 70 m (Z4 P) m] X/\List.length X.L<1000/\Z3Y X false/\q1))) (by kernel_rfl) ?_
 conv=>zeta
 try simp only [Zi]
 try simp only [Zj]
 try simp only [Zf]
 try simp only [Zk]
 try simp only [Zl]
 try simp only [Zg]
 try simp only [Int.toNat_natCast,Nat.zero_add,true_and,and_true,Nat.le_refl]
 try simp only [Yf,List.drop_zero,List.take_length]
 subst hP
 have hXL:P.length=X.L.length:=by rw [hX]
 refine ⟨fun _=>trivial,fun hm=>⟨fun _=>trivial,fun hn=> ?_⟩⟩
 have hn3:X.L.length<1000:=by omega
 repeat' first
  | exact hn3
  | exact hy
  | trivial
  | exact Nat.le_refl _
  | exact fun h=>h
  | (intro h;cases h;done)
  | (intro _ _;trivial)
  | refine Exists.intro X (And.intro (.a (by rw [hX];rfl)) ?_)
  | intro _
  | apply And.intro
  | rfl
  | omega
  | exact Zp fun _ _=>rfl
theorem ZnF (W:Int->List Int) (F:List Int->Int×Int) (H:List Int->List Int) (t:X3) (sd rs a b one two:Int) (P:List Z6) (A:List YB) (n m:Nat) (X:Z7) (hX:X=⟨t,sd,rs,a,b,one,two,P⟩) (hP:P.length=m) (hy:Z3Y X true) (ho:m<=20->Z5T X) (hB:m<=20->(Yn W X).length<90000000000000/\Bytes (Yn W X)) (hR:Z7f F H (Yn W X) none):
  evF (Z7r W F H true none) 20 5 [.agg t.c,.int .i64 sd,.int .i64 rs,.int .i64 a,.int .i64 b,.int .i64 one,.int .i64 two,.vrows 70 m (Z4 P) m,.vrows 41 n (UL A) n] ⟨0,[]⟩ (Y4 fun v=>v=.bool true):=by
 refine @Eq.mpr _ (let q1:=AV.bool true=AV.bool true;
 Z0 (decide ((↑m:Int)>20)) q1
 (Z0 (decide ((↑n:Int)>10)) q1
 (∃(X:Z7),
 let q3:=[AV.arr u8 32 t.fund,AV.int i64 t.index,AV.int i64 t.cap,AV.int i64 t.dust,AV.int i64 t.fee,AV.int i64 t.delay,AV.arr u8 32 t.k0,AV.arr u8 32 t.k1,AV.int i64 sd,AV.int i64 rs,AV.arr i64 2 [a,b],AV.arr i64 2 [one,two],AV.vrows 70 m (Z4 P) m];
 LV q3 X/\
 List.length X.L<1000/\
 Z3Y X true/\
 ∃(X:Z7),
 let q5:=List.length (Yn W X);let q6:=List.take q5 (YC 0 (Yn W X));
 LV q3 X/\
 Z5T X/\
 Z0 (decide (0+q5<=q5))
 ((List.length q6=q5/\q5<90000000000000/\Bytes q6)/\
 Z7f F H q6 none/\
 ∃(X_1:Z7),
 let q9:=List.length (Yn W X_1);let q10:=List.take q9 (YC 0 (Yn W X_1));
 LV q3 X_1/\Z5T X_1/\Z0 (decide (0+q9<=q9)) ((List.length q10=q9/\Bytes q10)/\Z7f F H q10 none/\q1) False)
 False))) (by kernel_rfl) ?_
 conv=>zeta
 try simp only [Zi]
 try simp only [Zj]
 try simp only [Zf]
 try simp only [Zk]
 try simp only [Zl]
 try simp only [Zg]
 try simp only [Int.toNat_natCast,Nat.zero_add,true_and,and_true,Nat.le_refl]
 try simp only [Yf,List.drop_zero,List.take_length]
 subst hP
 have hXL:P.length=X.L.length:=by rw [hX]
 refine ⟨fun _=>trivial,fun hm=>⟨fun _=>trivial,fun hn=> ?_⟩⟩
 have ho:=ho (by omega)
 have hB:=hB (by omega)
 have hn3:X.L.length<1000:=by omega
 repeat' first
  | exact ho
  | exact hB.1
  | exact hB.2
  | exact hR
  | exact hn3
  | exact hy
  | trivial
  | exact Nat.le_refl _
  | exact fun h=>h
  | (intro h;cases h;done)
  | (intro _ _;trivial)
  | refine Exists.intro X (And.intro (.a (by rw [hX];rfl)) ?_)
  | intro _
  | apply And.intro
  | rfl
  | omega
  | exact Zp fun _ _=>rfl
theorem ZnG (W:Int->List Int) (F:List Int->Int×Int) (H:List Int->List Int) (t:X3) (sd rs a b one two:Int) (P:List Z6) (A:List YB) (n m:Nat) (X:Z7) (Y:Z7) (C:Prop) (hX:X=⟨t,sd,rs,a,b,one,two,P⟩) (hP:P.length=m) (hy:Z3Y X true) (ho:m<=20->Z5T X) (hB:m<=20->(Yn W X).length<90000000000000/\Bytes (Yn W X)) (hR:Z7f F H (Yn W X) (some Y)) (hI:Y.Inv Zr) (hf:Y.t.fund.length=32) (hC:n<=10->C):
  evF (Zf0 W F H true Y A n C) 20 5 [.agg t.c,.int .i64 sd,.int .i64 rs,.int .i64 a,.int .i64 b,.int .i64 one,.int .i64 two,.vrows 70 m (Z4 P) m,.vrows 41 n (UL A) n] ⟨0,[]⟩ (Y4 fun v=>v=.bool true):=by
 refine @Eq.mpr _ (let q1:=AV.bool true=AV.bool true;let q2:=List.length Y.L;let q3:=Y.t;let q4:=q3.fund;let q5:=q3.index;let q6:=q3.cap;let q7:=q3.dust;let q8:=q3.fee;let q9:=q3.delay;let q10:=q3.k0;let q11:=q3.k1;let q12:=Y.side;let q13:=Y.res;let q14:=[Y.a0,Y.a1];let q15:=[Y.i0,Y.i1];let q16:=Z4 Y.L;let q17:=decide (n=n);let q18:=q4=q4;let q19:=decide (q5=q5);let q20:=decide (q6=q6);let q21:=decide (q7=q7);let q22:=decide (q8=q8);let q23:=decide (q9=q9);let q24:=q10=q10;let q25:=q11=q11;let q26:=decide (q12=q12);let q27:=decide (q13=q13);let q28:=q14=q14;let q29:=q15=q15;let q30:=decide (q2=q2);let q31:=decide (q2<=q2);let q32:=Zc 0 [(3,6),(2,4),(1,7),(0,3)] q2 q16 q16;
 Z0 (decide ((↑m:Int)>20)) q1
 (Z0 (decide ((↑n:Int)>10)) q1
 (∃(X:Z7),
 let q65:=[AV.arr u8 32 t.fund,AV.int i64 t.index,AV.int i64 t.cap,AV.int i64 t.dust,AV.int i64 t.fee,AV.int i64 t.delay,AV.arr u8 32 t.k0,AV.arr u8 32 t.k1,AV.int i64 sd,AV.int i64 rs,AV.arr i64 2 [a,b],AV.arr i64 2 [one,two],AV.vrows 70 m (Z4 P) m];
 LV q65 X/\
 List.length X.L<1000/\
 Z3Y X true/\
 ∃(X:Z7),
 let q67:=List.length (Yn W X);let q68:=List.take q67 (YC 0 (Yn W X));
 LV q65 X/\
 Z5T X/\
 Z0 (decide (0+q67<=q67))
 ((List.length q68=q67/\q67<90000000000000/\Bytes q68)/\
 Z7f F H q68 (some Y)/\
 ∃(X_1:Z7),
 let q71:=List.length (Yn W X_1);let q72:=List.take q71 (YC 0 (Yn W X_1));
 LV q65 X_1/\
 Z5T X_1/\
 Z0 (decide (0+q71<=q71))
 ((List.length q72=q71/\Bytes q72)/\
 Z7f F H q72 (some Y)/\
 Z0 (decide (0+q2<=q2))
 ((∀(i:Nat),i<q2->true=true)/\
 Z0 (decide (0+q2<=q2))
 ((∀(i:Nat),i<q2->true=true)/\
 ∃(X:Z7),
 let q75:=LV [AV.arr u8 32 q4,AV.int i64 q5,AV.int i64 q6,AV.int i64 q7,AV.int i64 q8,AV.int i64 q9,AV.arr u8 32 q10,AV.arr u8 32 q11,AV.int i64 q12,AV.int i64 q13,AV.arr i64 2 q14,AV.arr i64 2 q15,AV.vrows 70 q2 (ZT 0 q16) q2] X;
 q75/\q75/\Z7.Inv Zr X/\List.length X.t.fund=32/\Z0 q17 (UL A=UL A/\Z0 q17 (q18/\Z0 q19 (Z0 q20 (Z0 q21 (Z0 q22 (Z0 q23 (q24/\q25/\Z0 q26 (Z0 q27 (q28/\q29/\Z0 q30 (Z0 q31 (q18/\Z0 q19 (Z0 q20 (Z0 q21 (Z0 q22 (Z0 q23 (q24/\q25/\Z0 q26 (Z0 q27 (q28/\q29/\Z0 q30 (Z0 q31 (Z0 q30 (q32/\Z0 q30 (q32/\C/\∀(i:Nat),i<=n->(∀(j:Nat),j<i->(fun (i:Nat)=>i<n) j)->(i=n->q1)/\(False->False)/\(False->False)) False) False) False) False) False) False) False) False) False) False) False) False) False) False) False) False) False) False) False) False) False) False)
 False)
 False)
 False)
 False))) (by kernel_rfl) ?_
 conv=>zeta
 try simp only [Zi]
 try simp only [Zj]
 try simp only [Zf]
 try simp only [Zk]
 try simp only [Zl]
 try simp only [Zg]
 try simp only [Int.toNat_natCast,Nat.zero_add,true_and,and_true,Nat.le_refl]
 try simp only [Yf,List.drop_zero,List.take_length]
 subst hP
 have hXL:P.length=X.L.length:=by rw [hX]
 refine ⟨fun _=>trivial,fun hm=>⟨fun _=>trivial,fun hn=> ?_⟩⟩
 have ho:=ho (by omega)
 have hB:=hB (by omega)
 have hC:=hC (by omega)
 have hn3:X.L.length<1000:=by omega
 repeat' first
  | exact ho
  | exact hB.1
  | exact hB.2
  | exact hR
  | exact hC
  | exact hI
  | exact hf
  | exact ⟨Y,.a rfl,.a rfl,hI,hf,trivial⟩
  | refine Exists.intro Y (And.intro (.a rfl) (And.intro (.a rfl) (And.intro hI (And.intro hf ?_))))
  | exact hn3
  | exact hy
  | trivial
  | exact Nat.le_refl _
  | exact fun h=>h
  | (intro h;cases h;done)
  | (intro _ _;trivial)
  | refine Exists.intro X (And.intro (.a (by rw [hX];rfl)) ?_)
  | intro _
  | apply And.intro
  | rfl
  | omega
  | exact Zp fun _ _=>rfl
end Go.Tk
end
section
namespace Go.Tk
open IntKind (i64 u8 u32 u64 wrap)
def htlcTy:List Ty:=[.bool,.int .i64,.int .i64,.arr .u8 32,.int .i64,.int .i64,.int .i64,.arr .u8 32]
theorem ZbJ {l:List AV} (h:Fits htlcTy l):∃x:Z6,l=x.c/\x.Ok:=by
 unfold htlcTy at h
 cases h with|cons _ a1 _ u h1 h=>
 cases h with|cons _ a2 _ u h2 h=>
 cases h with|cons _ a3 _ u h3 h=>
 cases h with|cons _ a4 _ u h4 h=>
 cases h with|cons _ a5 _ u h5 h=>
 cases h with|cons _ a6 _ u h6 h=>
 cases h with|cons _ a7 _ u h7 h=>
 cases h with|cons _ a8 _ u h8 h=>
 cases h;cases h1;cases h2;cases h3;cases h4;cases h5;cases h6;cases h7;cases h8
 rename_i x1 x2 w2 x3 w3 x4 l4 w4 x5 w5 x6 w6 x7 w7 x8 l8 w8
 exact ⟨⟨x1,x2,x3,x4,x5,x6,x7,x8⟩,rfl,⟨l4,VL l4 w4,l8,VL l8 w8⟩⟩
theorem Zf2 {n:Nat} {p:Nat->Z6->Prop} (h:∀i,i<n->∃a,p i a):∃f:Nat->Z6,∀i,i<n->p i (f i):=
 ⟨fun i=>if hi:i<n then Classical.choose (h i hi) else Z8,fun i hi=>by
  simp only [hi,dite_true]
  exact Classical.choose_spec (h i hi)⟩
theorem Z94 {a:AV} (h:Z1l false [.rows 70 htlcTy] a):∃(n:Nat) (P:List Z6),P.length=n/\(∀m∈P,m.Ok)/\∀(E:Env) (r:Value),Zm E a r->Zm E (.vrows 70 n (Z4 P) n) r:=by
 cases h with|one _ _ h=>
 cases h with|rows esz ts n f hm h=>
 obtain ⟨g,hg⟩:=Zf2 fun i hi=>ZbJ (h i hi)
 refine ⟨n,(List.range n).map g,by simp,fun m hm=> ?_,fun E r hr=>hr.rowsC fun i hi=> ?_⟩
 ·obtain ⟨i,hi,rfl⟩:=List.mem_map.1 hm
  exact (hg i (List.mem_range.1 hi)).2
 ·unfold Z4
  rw [(hg i hi).1,List.getD_eq_getElem?_getD,List.getElem?_map,List.getElem?_range hi]
  rfl
theorem Z7s {a:AV} (h:Z1l true termTy a):∃t:X3,a=.agg t.c/\t.Ok/\t.fund.length=32/\Bytes t.fund:=by
 cases h with|agg _ u h=>
 unfold termTy at h
 cases h with|cons _ a1 _ u h1 h=>
 cases h with|cons _ a2 _ u h2 h=>
 cases h with|cons _ a3 _ u h3 h=>
 cases h with|cons _ a4 _ u h4 h=>
 cases h with|cons _ a5 _ u h5 h=>
 cases h with|cons _ a6 _ u h6 h=>
 cases h with|cons _ a7 _ u h7 h=>
 cases h with|cons _ a8 _ u h8 h=>
 cases h;cases h1;cases h2;cases h3;cases h4;cases h5;cases h6;cases h7;cases h8
 rename_i x1 l1 w1 x2 w2 x3 w3 x4 w4 x5 w5 x6 w6 x7 l7 w7 x8 l8 w8
 exact ⟨⟨x1,x2,x3,x4,x5,x6,x7,x8⟩,rfl,⟨l7,l8,VL l7 w7,VL l8 w8⟩,l1,VL l1 w1⟩
theorem Zhw (n:Int):∀x∈Zq n,0<=x/\x<=255:=fun x hx=>by
 unfold Zq at hx
 repeat' split at hx
 all_goals
  simp only [List.mem_cons,List.not_mem_nil,or_false] at hx
  repeat' rcases hx with rfl|hx
  all_goals first|exact ZiU _|(subst hx;exact ZiU _)|(constructor<;>decide)
def Z3M (xs:List Int):Prop:=∀x∈xs,0<=x/\x<=255
theorem Z3M.app {a b:List Int} (ha:Z3M a) (hb:Z3M b):Z3M (a++b):=fun x hx=>(List.mem_append.1 hx).elim (ha x) (hb x)
theorem Z0z {xs:List Int} (h:Bytes xs):Z3M xs:=fun x hx=>by
 obtain ⟨i,hi,rfl⟩:=List.getElem_of_mem hx
 have:=h.h i
 rwa [List.getD_eq_getElem?_getD,List.getElem?_eq_getElem hi] at this
theorem UN:∀(l:List Int) {xs:List Int},Z3M xs->Z3M (Yw Zq xs l)
 | [],xs,h=>by unfold Yw;exact h
 | n::r,xs,h=>by unfold Yw;exact UN r (h.app (Zhw n))
theorem Zhx {xs:List Int} {h:Z6} (hx:Z3M xs) (hk:h.Ok):Z3M (Z1H Zq xs h):=by
 have h1:Z3M (xs++[cond h.own 1 0]):=hx.app fun y hy=>by
  rw [List.mem_singleton] at hy
  subst hy
  cases h.own<;>(constructor<;>decide)
 have h2:=UN [h.expiry,h.stage,h.fin] ((UN [h.id,h.amount] h1).app (Z0z hk.hb))
 unfold Z1H
 split
 ·exact h2.app (Z0z hk.sb)
 ·exact h2
theorem Zf3 {X:Z7} (hf:Bytes X.t.fund) (ht:X.t.Ok) (hl:∀h∈X.L,h.Ok):Bytes (Yn Zq X):=by
 refine Z3F ?_
 have h0:Z3M (XH Zq X):=UN _ (((UN _ (Z0z hf)).app (Z0z ht.b0)).app (Z0z ht.b1))
 unfold Yn
 revert h0 hl
 generalize XH Zq X=xs
 generalize X.L=L
 induction L generalizing xs with
 | nil=>exact fun _ h=>h
 | cons x r ih=>exact fun hl h=>ih _ (fun z hz=>hl z (by simp [hz])) (Zhx h (hl x (by simp)))
theorem Zhy {xs:List Int} (hb:Bytes xs) {X:Z7} (h:Xs (Zo Zq) xs=some X):X.t.Ok/\(∀h∈X.L,h.Ok)/\X.t.fund.length=32:=by
 unfold Xs Z01 at h
 simp only [Option.bind_eq_some_iff] at h
 obtain ⟨hdr,⟨⟨v0,o0⟩,r0,⟨n5,o5⟩,k1,⟨v6,o6⟩,r6,⟨v7,o7⟩,r7,⟨v8,o8⟩,r8,⟨m5,o13⟩,k2,⟨v14,o14⟩,r14,he⟩,⟨L,p⟩,hL,hX⟩:=h
 cases he
 split at hX
 case isFalse=>cases hX
 cases hX
 have q0:=Z1u hb r0
 have q6:=Z1u hb r6
 have q7:=Z1u hb r7
 exact ⟨⟨q6.1,q7.1,q6.2,q7.2⟩,Za4 hb hL,q0.1⟩
theorem ledgerwritten_walk {us:List AV} (h:Z4r [(true,termTy),(false,[.int .i64]),(false,[.int .i64]),(false,[.int .i64]),(false,[.int .i64]),(false,[.int .i64]),(false,[.int .i64]),(false,[.rows 70 htlcTy]),(false,[.rows 41 actTy])] us):Zn PP 5 us ⟨0,[]⟩ fun o h'=>∃v,o=.ret v/\h'=⟨0,[]⟩/\v=.bool true:=by
 cases h with|cons _ _ a _ _ h1 h=>
 cases h with|cons _ _ b _ _ h2 h=>
 cases h with|cons _ _ c _ _ h3 h=>
 cases h with|cons _ _ d _ _ h4 h=>
 cases h with|cons _ _ e _ _ h5 h=>
 cases h with|cons _ _ f _ _ h6 h=>
 cases h with|cons _ _ g _ _ h7 h=>
 cases h with|cons _ _ p _ _ h8 h=>
 cases h with|cons _ _ l _ _ h9 h=>
 cases h
 obtain ⟨t,rfl,ht,hf,hfb⟩:=Z7s h1
 obtain ⟨sd,rfl⟩:=fits_int h2
 obtain ⟨rs,rfl⟩:=fits_int h3
 obtain ⟨x,rfl⟩:=fits_int h4
 obtain ⟨y,rfl⟩:=fits_int h5
 obtain ⟨one,rfl⟩:=fits_int h6
 obtain ⟨two,rfl⟩:=fits_int h7
 obtain ⟨m,P,hm,hP,hrP⟩:=Z94 h8
 obtain ⟨n,A,hn,hA,hrA⟩:=ZbI h9
 have conv:∀{G:Zh},G.Ok->G.P=PP->evF G 20 5 [.agg t.c,.int .i64 sd,.int .i64 rs,.int .i64 x,.int .i64 y,.int .i64 one,.int .i64 two,.vrows 70 m (Z4 P) m,.vrows 41 n (UL A) n] ⟨0,[]⟩ (Y4 fun v=>v=.bool true)->Zn PP 5 [.agg t.c,.int .i64 sd,.int .i64 rs,.int .i64 x,.int .i64 y,.int .i64 one,.int .i64 two,p,l] ⟨0,[]⟩ fun o h'=>∃v,o=.ret v/\h'=⟨0,[]⟩/\v=.bool true:=fun hG hp hv=>
  hp▸(ZU (h:=⟨0,[]⟩) hG rfl hv (fun u hu=>hu)).conv fun E r hr0=>hr0.head (fun _ hc=>hc) fun _ hc=>hc.head (fun _ hc=>hc) fun _ hc=>hc.head (fun _ hc=>hc) fun _ hc=>hc.head (fun _ hc=>hc) fun _ hc=>hc.head (fun _ hc=>hc) fun _ hc=>hc.head (fun _ hc=>hc) fun _ hc=>hc.head (fun _ hc=>hc) fun _ hc=>hc.head (fun _ hc=>hrP E _ hc) fun _ hc=>hc.head (fun _ hc=>hrA E _ hc) fun _ hc=>hc
 generalize hX:(⟨t,sd,rs,x,y,one,two,P⟩:Z7)=X
 have hXt:X.t=t:=by rw [<-hX]
 have hXL:X.L=P:=by rw [<-hX]
 cases hy:(lyL X X.L.length).all (inT 4611686018427387904) with
 | false=>exact conv (Z5V false none) (by unfold Z7r;simp only [Vg,Z5B];rfl) (ZnE Zq (Zo Zq) Zr t sd rs x y one two P A n m X hX.symm hm ⟨hy⟩)
 | true=>
  have hl:Z3Y X true:=⟨hy⟩
  have ho:m<=20->Z5T X:=fun h=>hl.ok (by rw [hXL,hm];exact h) (by rw [hXL];exact hP) (by rw [hXt];exact hf) (by rw [hXt];exact ht.k0) (by rw [hXt];exact ht.k1)
  have hby:Bytes (Yn Zq X):=Zf3 (by rw [hXt];exact hfb) (by rw [hXt];exact ht) (by rw [hXL];exact hP)
  have hB:m<=20->(Yn Zq X).length<90000000000000/\Bytes (Yn Zq X):=fun h=>by
   have l1:=UJ (L:=X.L) (by rw [hXL];exact hP) (XH Zq X)
   have l2:=WE (X:=X) (by rw [hXt];exact hf) (by rw [hXt];exact ht.k0) (by rw [hXt];exact ht.k1)
   have l3:X.L.length=m:=by rw [hXL];exact hm
   refine ⟨?_,hby⟩
   unfold Yn
   omega
  by_cases hc:∃Y,Xs (Zo Zq) (Yn Zq X)=some Y/\YA Zr Y=true
  ·obtain ⟨Y,e1,e2⟩:=hc
   obtain ⟨k1,k2,k3⟩:=Zhy hby e1
   have hI:=(ZfW k1 k2).1 e2
   exact conv (Zf1 true Y A n) (by unfold Zf0 Z7r;simp only [Z5H,Vg,Z5B];rfl) (ZnG Zq (Zo Zq) Zr t sd rs x y one two P A n m X Y _ hX.symm hm hl ho hB ⟨⟨e1,e2⟩⟩ hI k3 fun h10=>⟨by omega,hn,hI,k3,hA⟩)
  ·exact conv (Z5V true none) (by unfold Z7r;simp only [Vg,Z5B];rfl) (ZnF Zq (Zo Zq) Zr t sd rs x y one two P A n m X hX.symm hm hl ho hB ⟨fun Y hY=>Bool.eq_false_iff.2 fun hR=>hc ⟨Y,hY,hR⟩⟩)
end Go.Tk
namespace Go.Proofs.YtjahlbmhknicjaaGreat.ledgerWritten
open Go.ChangeShapes Go.WideShapes Go.ChangeAt Go.RowKit
theorem own:ownKnob Tryz.prog.godebug=none:=by kernel_rfl
theorem laidOut:laidOutB Tryz.prog=true:=by kernel_rfl
theorem lifted (os:Os) (started:os.Started) (H:Type) (enc:TypeId×Value->H):
  ReturnsInHanded {} Tryz.checked os 5 .any (Rows.ledgerWrittenSpec.pre6 enc Tryz.prog Tryz.f5 Rows.ledgerWrittenRow.domain false) (Rows.ledgerWrittenSpec.post enc Tryz.prog Tryz.f5 false true false false):=
 Go.Tk.lifted_gen (C:=Tryz.checked) (m:=8) (τs:=[(true,Go.Tk.termTy),(false,[.int .i64]),(false,[.int .i64]),(false,[.int .i64]),(false,[.int .i64]),(false,[.int .i64]),(false,[.int .i64]),(false,[.rows 70 Go.Tk.htlcTy]),(false,[.rows 41 Go.Tk.actTy])]) own laidOut started (by kernel_rfl) Tryz.func5
  (ChangeSpec.witness6 (enc:=enc) (C:=Tryz.checked) false ⟨#[], #[.agg (Array.replicate 32 (.int .u8 0)++ #[.int .i64 0,.int .i64 0,.int .i64 0,.int .i64 0,.int .i64 0]++Array.replicate 64 (.int .u8 0)),.int .i64 0,.int .i64 0,.int .i64 0,.int .i64 0,.int .i64 0,.int .i64 0,.slice none 0 0,.slice none 0 0],[]⟩ 8 (by kernel_rfl) (by kernel_rfl) (by kernel_rfl) (by kernel_rfl))
  rfl (tb:=4) rfl Tryz.underlying4 (by kernel_rfl) (by kernel_rfl) (fun ds h=>by
   match ds,h with
   | [a,b,c,d,e,f,g,h,i],_=>rfl) fun us h=>Go.Tk.ledgerwritten_walk h
theorem ZjP:Tryz.pinned.checked.prog.funcNamed Rows.ledgerWrittenRow.func=some 5:=by kernel_rfl
theorem closed:joinedFacts Tryz.pinned.checked.prog 5 Tryz.f5 Rows.ledgerWrittenSpec Rows.ledgerWrittenRow=true:=by
 unfold joinedFacts
 repeat' with_reducible refine Go.Tk.and_mk ?_ ?_
 all_goals as_aux_lemma=>kernel_rfl
theorem over:Rows.ledgerWrittenRow.holds Tryz.pinned (OpenSpec.ofChange Rows.ledgerWrittenSpec):=
 OpenClaim.holds_of_wide 5 Tryz.f5 rfl rfl rfl rfl rfl rfl rfl ⟨rfl,rfl,rfl,rfl,rfl⟩ rfl rfl rfl rfl rfl ZjP Tryz.func5 closed
  (of_decide_eq_true (by kernel_rfl)) (by unfold Func.isWrapper;first|(rw [if_pos (by decide+kernel)];kernel_rfl)|(rw [if_neg (by decide+kernel)];exact ⟨rfl,rfl⟩))
  (fun os started H enc _=>lifted os started H enc)
theorem proved:Rows.LedgerWrittenSaid:=over
end Go.Proofs.YtjahlbmhknicjaaGreat.ledgerWritten
end
