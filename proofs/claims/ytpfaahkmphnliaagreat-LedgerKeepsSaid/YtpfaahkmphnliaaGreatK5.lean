/- K: part 5 of an engine (a symbolic evaluator, proved against the model) and of the walk by it. -/
import Derived.Test.YtpfaahkmphnliaaGreatK4
import Derived.Shelf.SlSortCmp.WholeK
set_option linter.unusedVariables false
set_option linter.unusedSimpArgs false
set_option maxRecDepth 100000
set_option maxHeartbeats 0
section
namespace Go.Tk
open IntKind (i64 u8 u32 u64 wrap)
noncomputable def Zkv (H1:List Int->List Int) (H2:List Int->List Int->List Int) (B:Nat):Zg:=(Z5H (G8 H1 H2 B)).withP 66 Z5I
theorem Zga:(Zkv Zs Z40 1000).Ok:=Zg.withP_ok (Zg.withP_ok (Zg.withP_ok (Zg.withP_ok (Zg.withP_ok (ZhC 1000 (by decide)) Z25) Z0s) Z0t) Z0u) Z4L
theorem Zdq (x k:Int) (A B:Bool):(if x=k then A else B)=cond (x==k) A B:=by
 by_cases h:x=k
 ·simp [h]
 ·rw [if_neg h,show (x==k)=false from by simpa using h];rfl
theorem Zj5 (x k:Int):decide (x>=k)= !decide (x<k):=by by_cases h:x<k<;>simp [h]<;>omega
theorem Zmh (X:Z8) (p:Z7) (b:Bool) (H1:List Int->List Int) (H2:List Int->List Int->List Int) (B:Nat) (hok:p.Ok) (hB:32<=B) (hl:(H1 p.secret).length=32) (hb:b=XE H1 X p):
  evF (Zkv H1 H2 B) 20 77 [U0 X,.agg p.c] ⟨0,[]⟩ (Yo (fun v=>v=.bool b)):=by
 refine @Eq.mpr _ (let q1:=p.secret;let q2:=List.length q1;let q3:=p.fin;let q4:=p.stage;let q5:=p.own;let q6:=p.id;let q7:=p.hash;let q8:=Yp (Z7.mk q5 q6 p.amount q7 p.expiry q4 q3 q1);let q9:=decide (q6=q6);let q10:=decide (q6<X.i0);let q11:=decide (1<=q4/\q4<=9);let q12:=AV.bool b;let q13:=AV.bool false=q12;let q14:=Z0 q11 (AV.bool (q1==Zf)=q12) q13;let q15:=decide (q6<X.i1);let q16:=Z0 q8 (Z0 q5 (Z0 q9 (Z0 q10 q14 q13) False) (Z0 q9 (Z0 q15 q14 q13) False)) q13;let q17:=Z0 q11 q13 q13;let q18:=Z0 q8 (Z0 q5 (Z0 q9 (Z0 q10 q17 q13) False) (Z0 q9 (Z0 q15 q17 q13) False)) q13;let q19:=decide (q4>=6);let q20:=H1 q1;let q21:=Z0 q11 (AV.bool (q20==q7)=q12) q13;
 Z0 (decide (q2=32/\(32:Nat)=32)) (Z0 (q3==0) (Z0 (decide (q4<6)) q16 q18) (Z0 (q3==1) (Z0 q19 (q7=q7/\Z0 (decide (q2=32)) (Z0 (decide (32=q2)) (Z0 (decide (q2<=B)) (Z0 (decide (List.length q20=32/\List.length q7=32)) (Z0 q8 (Z0 q5 (Z0 q9 (Z0 q10 q21 q13) False) (Z0 q9 (Z0 q15 q21 q13) False)) q13) False) False) False) False) q18) (Z0 (q3==2) (Z0 q19 q16 q18) q18))) False) (by kernel_rfl) ?_
 conv=>zeta
 have e0:Z7.mk p.own p.id p.amount p.hash p.expiry p.stage p.fin p.secret=p:=rfl
 rw [e0]
 subst hb
 simp only [hok.secret,hok.hash,hl,decide_true,and_self,Zdj,true_and,decide_eq_true hB,VJ]
 congr 1
 unfold XE Z0q Z8.nx
 simp only [Zdq,show (6<=p.stage)=(p.stage>=6) from rfl,Zj5]
 have es:(H1 p.secret==p.hash)=(H1 p.secret==p.hash):=rfl
 generalize (H1 p.secret==p.hash)=ch
 generalize (p.secret==Zf)=cz
 generalize Yp p=c1
 generalize decide (p.stage<6)=c6
 generalize decide (1<=p.stage/\p.stage<=9)=d2
 generalize (p.fin==0)=f0
 generalize (p.fin==1)=f1
 generalize (p.fin==2)=f2
 cases p.own
 ·simp only
  generalize decide (p.id<X.i0)=d0
  generalize decide (p.id<X.i1)=d1
  cases f0<;>cases f1<;>cases f2<;>cases c6<;>cases d1<;>cases d2<;>simp
 ·simp only
  generalize decide (p.id<X.i0)=d0
  generalize decide (p.id<X.i1)=d1
  cases f0<;>cases f1<;>cases f2<;>cases c6<;>cases d0<;>cases d2<;>simp
theorem Zbm (args:List AV) (h:Za) (K:AV->Prop) (hl:Zdm Zs args h K):Zp PP 77 args h fun o h'=>∃v,o=.ret v/\h'=h/\K v:=by
 refine ZC.psumm (d:=20) (Zu _ _ _ _ _ hl fun a ha=> ?_)
 split at ha
 ·obtain ⟨X,hX,ho,hK⟩:=ha
  exact ⟨_,(ZC.evV Zga (Zmh X ⟨_,_,_,_,_,_,_,_⟩ _ _ _ _ ho (by decide) (VD _) rfl)).conv (fun E r hr=>hr.head (fun _ hc=>Wq hX hc) fun _ hc=>hc),fun _=>rfl,hK⟩
 ·exact ha.elim
end Go.Tk
end
section
namespace Go.Tk
open IntKind (i64 u8 u32 u64 wrap)
theorem Zmi (s:Int):(if 5<s then 5 else s)=min s 5:=by split<;>omega
theorem Zmj (p q:Z7) (b:Bool) (hb:b=decide (XG p q)):
  evF Zj0 20 78 [.agg p.c,.agg q.c] ⟨0,[]⟩ (Yo (fun v=>v=.bool b)):=by
 refine @Eq.mpr _ (let q1:=q.own;let q2:=p.id;let q3:=q2 !=q2;let q4:=q.id;let q5:=q4 !=q4;let q6:=AV.bool b;let q7:=AV.bool false=q6;let q8:=Z0 (!p.own==q1) (AV.bool true=q6) (AV.bool (decide ((if 5<p.stage then 5 else p.stage)>=if 5<q.stage then 5 else q.stage))=q6);let q9:=decide (q2<q4);let q10:=decide (q2>q4);let q11:=Z0 q10 q7 q7;let q12:=Z0 q3 (Z0 q5 q7 q8) (Z0 q5 q7 (Z0 q9 q8 q11));
 Z0 p.own (Z0 q1 q12 (Z0 q3 (Z0 q5 q8 q8) (Z0 q5 q8 (Z0 q9 q8 (Z0 q10 q8 q8))))) (Z0 q1 (Z0 q3 (Z0 q5 q7 q7) (Z0 q5 q7 (Z0 q9 q7 q11))) q12)) (by kernel_rfl) ?_
 conv=>zeta
 subst hb
 simp only [bne_self_eq_false,Zdk,VJ,Zmi]
 congr 1
 refine Bool.eq_iff_iff.2 (Iff.trans (b:=XG p q) ?_ decide_eq_true_iff.symm)
 unfold XG
 cases p.own<;>cases q.own<;>by_cases h1:p.id<q.id<;>by_cases h2:q.id<p.id<;>simp [h1,h2]
theorem Zkw (X:Z8) (p:Z7) (s:Int) (b:Bool) (hX:X3 X) (hb:b=decide (ZD X.side p.own=s)):
  evF G0 20 115 [.agg p.c,.pview [U0 X] 0,.pview [.int .i64 s] 0] ⟨0,[]⟩ (Yo (fun v=>v=.bool b)):=by
 refine @Eq.mpr _ (let q1:=decide (s=s);
 Z0 p.own (Z0 q1 (AV.bool (X.side==s)=AV.bool b) False) (Z0 q1 (AV.bool (wrap i64 (1-X.side)==s)=AV.bool b) False)) (by kernel_rfl) ?_
 conv=>zeta
 obtain ⟨h1,h2⟩:=hX
 rw [decide_eq_true (rfl:s=s),w64 (by omega)]
 subst hb
 unfold ZD
 simp only [Zdj,VJ]
 cases p.own<;>rfl
theorem Zgb (args:List AV) (h:Za) (K:AV->Prop) (hl:Zj1 args h K):Zp PP 78 args h fun o h'=>∃v,o=.ret v/\h'=h/\K v:=by
 unfold Zj1 at hl
 split at hl
 ·exact Y7 Z9H rfl (Zmj ⟨_,_,_,_,_,_,_,_⟩ ⟨_,_,_,_,_,_,_,_⟩ _ rfl) (fun u hu=>hu▸hl)
 ·exact hl.elim
end Go.Tk
end
section
namespace Go.Tk
open IntKind (i64 u8 u32 u64 wrap)
theorem Zgc (args:List AV) (h:Za) (K:AV->Prop) (hl:Zj2 args h K):Zp PP 115 args h fun o h'=>∃v,o=.ret v/\h'=h/\K v:=by
 unfold Zj2 at hl
 split at hl
 ·rename_i ow id am ha ex st en se cs s
  obtain ⟨X,hX,hs,hK⟩:=hl
  have:=Y7 (h:=h) Zv rfl (Zkw X ⟨ow,id,am,ha,ex,st,en,se⟩ s _ hs rfl) (fun u hu=>hu▸hK)
  exact this.conv fun E r hr=>hr.head (fun _ hc=>hc) fun _ hr=>hr.head (fun _ hc=>Z5J hX hc) fun _ hc=>hc
 ·exact hl.elim
noncomputable def Zj6:Zg:=G0.withP 115 Zj2
theorem Zgd:Zj6.Ok:=Zg.withP_ok Zv Zgc
def svC (X:Z8) (s:Int):AV:=.func (.func 115) [] [.pview [U0 X] 0,.pview [.int .i64 s] 0]
def svS (X:Z8) (s:Int) (n i c:Nat) (O:List Z7):St:=⟨22,[(9,.int .i64 i),(8,.int .i64 n),(7,.vrows 70 n (Z6 X.L) n),(1,svC X s),(4,.nslice ⟨0,0,70,0,0⟩ 70 c c)],⟨1,[(0,.rows 70 c (Z6 O))]⟩,[]⟩
def svE (c:Nat) (O:List Z7):St:=⟨22,[(4,.nslice ⟨0,0,70,0,0⟩ 70 c c)],⟨1,[(0,.rows 70 c (Z6 O))]⟩,[]⟩
theorem Zmk (X:Z8) (s:Int) (n i c c1:Nat) (O O1:List Z7) (Z1 Z2:Prop) (hn:n<1000) (hL:X.L.length=n) (hi:i<=n) (hO:O.length=c) (hci:c<=i) (hX:X3 X) (h1:i<n->O1=O++X9 (decide (ZD X.side (X.L.getD i Zc).own=s)) (X.L.getD i Zc)) (hc1:c1=O1.length) (hZ1:i<n->Z1) (hZ2:i=n->Z2):
  ZG Zj6 20 114 0 0 (svS X s n i c O) (rdM 0 0 9 (svS X s n (i+1) c1 O1) (svE c O) (svE c O) (svE c O) Z1 Z2 False False):=by
 refine @Eq.mpr _ (let q1:=X.L;let q2:=List.length q1;let q3:=Z6 q1;let q4:=Z8.c X (AV.vrows 70 q2 q3 q2);let q5:=List.getD q1 (Int.toNat (↑i:Int)) Zc;let q6:=q5.own;let q7:=decide (c=c);let q8:=c+1;let q9:=decide (wrap i64 ((↑i:Int)+1)=(↑(i+1):Int));let q10:=decide ((↑n:Int)=(↑n:Int));let q11:=decide (n=n);let q12:=q3=q3;let q13:=[AV.pview q4 0];let q14:=q13=q13;let q15:=[AV.int i64 s];let q16:=q15=q15;let q17:=decide (q8=c1);let q18:=Z6 O;let q19:=decide (c=c1);let q20:=[(0,0)];
 Z0 (decide ((↑i:Int)<(↑n:Int)))
 (Z0 (decide (0<=(↑i:Int)/\(↑i:Int)<(↑n:Int)))
 (∃(X:Z8),
 let q41:=X.side;
 LV q4 X/\(0<=q41/\q41<=1)/\Z0 (decide (ZD q41 q6=s)) (Z0 q7 (Z0 (decide (q8*112<=140737488355328)) (Z0 q9 (Z0 q10 (Z0 q11 (q12/\Z0 q11 (q14/\q16/\Z0 q17 (Z0 (decide (c1<=q8)) (Z0 q17 (Zb 0 [(0,3)] c1 (Z6 O1) (Y2 c q18 (YQ [AV.bool q6,AV.int i64 q5.id,AV.int i64 q5.amount,AV.arr u8 32 q5.hash,AV.int i64 q5.expiry,AV.int i64 q5.stage,AV.int i64 q5.fin,AV.arr u8 32 q5.secret] 0 70))/\Z1) False) False) False) False) False) False) False) False) False) (Z0 q9 (Z0 q10 (Z0 q11 (q12/\Z0 q11 (q14/\q16/\Z0 q19 (Z0 (decide (c1<=c)) (Z0 q19 (Zb 0 q20 c1 (Z6 O1) q18/\Z1) False) False) False) False) False) False) False))
 False)
 (Z0 q7 (Z0 (decide (c<=c)) (Z0 q7 (Zb 0 q20 c q18 q18/\Z2) False) False) False)) (by kernel_rfl) ?_
 conv=>zeta
 try simp only [Zj]
 try simp only [Zl]
 try simp only [Zi]
 try simp only [Zm]
 try simp only [Zn]
 try simp only [Zh]
 try simp only [Int.toNat_natCast,Nat.zero_add,true_and,and_true,Nat.le_refl]
 refine ⟨fun hc=> ?_,fun hc=>⟨Zo fun _ _=>rfl,hZ2 (by omega)⟩⟩
 have hlt:i<n:=by omega
 have h1:=h1 hlt
 have hwr:i64.wrap ((i:Int)+1)=((i+1:Nat):Int):=by rw [w64 (by omega)];omega
 refine ⟨by omega,X,.a rfl,hX,fun hd=> ?_,fun hd=> ?_⟩
 ·rw [decide_eq_true hd] at h1
  have hl:c1=c+1:=by rw [hc1,h1];simp [X9,hO]
  subst hl
  subst h1
  have hR:Zb 0 [(0,3)] (c+1) (Z6 (O++X9 true (X.L.getD i Zc))) (Y2 c (Z6 O) (YQ (X.L.getD i Zc).c 0 70)):=Zo fun j hj=>Yt hO (fun _ _=>rfl) hj
  repeat' apply And.intro
  all_goals first|omega|exact hwr|exact hR|exact hZ1 hlt|rfl
 ·rw [decide_eq_false hd] at h1
  have hl:c1=c:=by rw [hc1,h1];simp [X9,hO]
  subst hl
  simp only [X9,List.append_nil] at h1
  subst h1
  repeat' apply And.intro
  all_goals first|omega|exact hwr|exact Zo fun _ _=>rfl|exact hZ1 hlt|rfl
def UF (X:Z8) (s:Int) (i:Nat):List Z7:=ZP X.side s (X.L.take i)
theorem Zbn (X:Z8) (s:Int) {i:Nat} (hi:i<X.L.length):UF X s (i+1)=UF X s i++X9 (decide (ZD X.side (X.L.getD i Zc).own=s)) (X.L.getD i Zc):=Z16 hi
theorem Zge (X:Z8) (s:Int) (i:Nat):(UF X s i).length<=i:=by
 refine Nat.le_trans (List.length_filter_le _ _) ?_
 rw [List.length_take];omega
theorem Zdr (X:Z8) (s:Int):UF X s X.L.length=ZP X.side s X.L:=by unfold UF;rw [List.take_length]
noncomputable def ZhI (X:Z8) (s:Int) (n:Nat):Zg:=Zj6.withL 114 0 (goM 0 (svS X s n 0 0 []) (X.L.length=n/\n<1000/\X3 X) (YJ 0 n 9 (fun i=>i<n) (fun i=>i=n) (fun _=>False) (fun _=>False) (fun i=>svE (UF X s i).length (UF X s i)) (fun i=>svE (UF X s i).length (UF X s i)) (fun i=>svE (UF X s i).length (UF X s i))))
theorem Z6W (X:Z8) (s:Int) (n:Nat):(ZhI X s n).Ok:=
 Zg.withGoM (N:=20) (S:=fun i=>svS X s n i (UF X s i).length (UF X s i)) Zgd (by kernel_rfl) fun hC=>⟨by simp [UF,ZP],fun i hi _=>by
  obtain ⟨h1,h2,h3⟩:=hC
  exact Zmk X s n i _ _ _ _ (i<n/\i<n) (i=n) h2 h1 hi rfl (Zge X s i) h3 (fun h=>Zbn X s (by omega)) rfl (fun h=>⟨h,h⟩) (fun h=>h)⟩
theorem Zkx (X:Z8) (s:Int) (n c:Nat) (O:List Z7) (hL:X.L.length=n) (hn:n<1000) (hX:X3 X) (hO:O=ZP X.side s X.L) (hc:c=O.length):
  evF (ZhI X s n) 20 114 [.vrows 70 n (Z6 X.L) n,svC X s] ⟨0,[]⟩ (Y5 0 (.ret (.nslice ⟨0,0,70,0,0⟩ 70 c c)) 1 [(0,.rows 70 c (Z6 O))]):=by
 refine @Eq.mpr _ (let q1:=decide (n=n);let q2:=Z6 X.L;let q3:=List.length X.L;let q4:=[AV.pview (Z8.c X (AV.vrows 70 q3 q2 q3)) 0];let q5:=[AV.int i64 s];
 Z0 (decide ((↑n:Int)=(↑n:Int)))
 (Z0 q1
 (q2=q2/\
 Z0 q1
 (q4=q4/\
 q5=q5/\
 (q3=n/\n<1000/\0<=X.side/\X.side<=1)/\
 ∀(i:Nat),
 let q11:=List.length (UF X s i);let q12:=decide (q11=c);let q13:=Z0 q12 (Z0 (decide (c<=q11)) (Z0 q12 (Zb 0 [(0,0)] c (Z6 O) (Z6 (UF X s i))/\True) False) False) False;
 i<=n->(∀(j:Nat),j<i->(fun (i:Nat)=>i<n) j)->(i=n->q13)/\(False->q13)/\(False->False))
 False)
 False)
 False) (by kernel_rfl) ?_
 conv=>zeta
 try simp only [Zj]
 try simp only [Zl]
 try simp only [Zi]
 try simp only [Zm]
 try simp only [Zn]
 try simp only [Zh]
 try simp only [Int.toNat_natCast,Nat.zero_add,true_and,and_true,Nat.le_refl]
 have ha:UF X s n=O:=by rw [<-hL,Zdr,hO]
 repeat' apply And.intro
 all_goals first|rfl|exact hL|exact hn|exact hX.1|exact hX.2|skip
 intro i hi _
 refine ⟨fun he=> ?_,fun h=>h.elim,fun h=>h.elim⟩
 subst he
 rw [ha]
 subst hc
 repeat' apply And.intro
 all_goals first|omega|rfl|exact Zo fun _ _=>rfl
theorem Zbo (args:List AV) (h:Za) (K:KO) (hl:Zdn args h K):Zp PP 114 args h K:=by
 refine ZC.fsumm (d:=20) (Zu _ _ _ _ _ hl fun a ha=> ?_)
 split at ha
 ·obtain ⟨X,rfl,h1,rfl,hX,hs,h2,hK⟩:=ha
  refine ⟨_,_,_,_,(ZC.evM (Z6W X _ _) (Zkx X _ _ _ _ h1.symm h2 hs rfl rfl)).conv fun E r hr=>hr.head (fun _ hc=>hc) fun _ hr=>hr.head (fun _ hc=> ?_) fun _ hc=>hc,rfl,⟨Nat.one_pos,.rows _ _ _ (fun i _=>Xv _ i),trivial⟩,hK⟩
  cases hc with
  | func fn fi ca fs cs h3 h4=>exact .func _ _ _ _ _ h3 (h4.head (fun _ hc=>Z5J hX hc) fun _ hc=>hc)
 ·obtain ⟨X,hX,hs,h1,hK⟩:=ha
  refine ⟨_,_,_,_,(ZC.evM (Z6W X _ 0) (Zkx X _ 0 _ _ (by rw [h1];rfl) (by omega) hs rfl rfl)).conv fun E r hr=>hr.head (fun _ hc=> ?_) fun _ hr=>hr.head (fun _ hc=> ?_) fun _ hc=>hc,rfl,⟨Nat.one_pos,.rows _ _ _ (fun i _=>Xv _ i),trivial⟩,hK⟩
  ·cases hc;exact .vrowsNil _ _ _ _ rfl rfl
  ·cases hc with
   | func fn fi ca fs cs h3 h4=>exact .func _ _ _ _ _ h3 (h4.head (fun _ hc=>Z5J hX hc) fun _ hc=>hc)
 ·exact ha.elim
noncomputable def Zds:Zg:=G0.withF 114 Zdn
theorem Zdt:Zds.Ok:=Zg.withF_ok Zv Zbo
def Zgf (n i:Nat) (O:List Z7):St:=⟨26,[(14,.int .i64 i),(13,.int .i64 n),(12,.nslice ⟨0,0,70,0,0⟩ 70 n n),(4,.nslice ⟨1,0,0,0,0⟩ 1 i i)],⟨2,[(0,.rows 70 n (Z6 O)),(1,.ints .i64 (Xe (O.take i)))]⟩,[]⟩
def Zbp (i:Nat) (O:List Z7):St:=⟨26,[(4,.nslice ⟨0,0,0,0,0⟩ 1 i i)],⟨1,[(0,.ints .i64 (Xe (O.take i)))]⟩,[]⟩
theorem Zml (n i:Nat) (O:List Z7) (Z1 Z2:Prop) (hn:n<1000) (hL:O.length=n) (hi:i<=n) (hZ1:i<n->Z1) (hZ2:i=n->Z2):
  ZG Zds 20 68 0 0 (Zgf n i O) (rdM 0 0 9 (Zgf n (i+1) O) (Zbp i O) (Zbp i O) (Zbp i O) Z1 Z2 False False):=by
 refine @Eq.mpr _ (let q1:=0+Int.toNat (↑i:Int);let q2:=Xe (List.take i O);let q3:=q2++[(List.getD O q1 Zc).amount];let q4:=List.length q3;let q5:=i+1;let q6:=decide (n=n);
 Z0 (decide ((↑i:Int)<(↑n:Int))) (Z0 (decide (0<=(↑i:Int)/\(↑i:Int)<(↑n:Int))) (Z0 (decide (q1<n)) (Z0 (decide (i64=i64/\List.length q2=i)) (Z0 (decide (q4*8<=140737488355328)) (Z0 (decide (wrap i64 ((↑i:Int)+1)=(↑q5:Int))) (Z0 (decide ((↑n:Int)=(↑n:Int))) (Z0 q6 (Z0 (decide (n<=n)) (Z0 (decide (q4=q5)) (Z0 (decide (q5<=q4)) (Z0 q6 (Zb 0 [(1,4),(0,0)] n (Z6 O) (Z6 O)/\q3=Xe (List.take q5 O)/\Z1) False) False) False) False) False) False) False) False) False) False) False) (Z0 (decide (i=i)) (Z0 (decide (i<=i)) (q2=q2/\Z2) False) False)) (by kernel_rfl) ?_
 conv=>zeta
 try simp only [Zj]
 try simp only [Zl]
 try simp only [Zi]
 try simp only [Zm]
 try simp only [Zn]
 try simp only [Zh]
 try simp only [Int.toNat_natCast,Nat.zero_add,true_and,and_true,Nat.le_refl]
 have hl:(Xe (O.take i)).length=i:=by unfold Xe;rw [List.length_map,List.length_take];omega
 refine ⟨fun hc=> ?_,fun hc=>hZ2 (by omega)⟩
 have hlt:i<n:=by omega
 have hwr:i64.wrap ((i:Int)+1)=((i+1:Nat):Int):=by rw [w64 (by omega)];omega
 have ht:Xe (O.take (i+1))=Xe (O.take i)++[(O.getD i Zc).amount]:=by
  unfold Xe
  rw [List.take_succ_eq_append_getElem (by omega),List.map_append,List.getD_eq_getElem?_getD,List.getElem?_eq_getElem (by omega)]
  rfl
 have hl2:(Xe (O.take i)++[(O.getD i Zc).amount]).length=i+1:=by simp [hl]
 repeat' apply And.intro
 all_goals first|omega|exact hwr|exact Zo fun _ _=>rfl|exact ht.symm|exact hZ1 hlt|rfl
noncomputable def ZhJ (O:List Z7) (n:Nat):Zg:=Zds.withL 68 0 (goM 0 (Zgf n 0 O) (O.length=n/\n<1000) (YJ 0 n 9 (fun i=>i<n) (fun i=>i=n) (fun _=>False) (fun _=>False) (fun i=>Zbp i O) (fun i=>Zbp i O) (fun i=>Zbp i O)))
theorem Zdu (O:List Z7) (n:Nat):(ZhJ O n).Ok:=
 Zg.withGoM (N:=20) (S:=fun i=>Zgf n i O) Zdt (by kernel_rfl) fun hC=>⟨rfl,fun i hi _=>Zml n i O (i<n/\i<n) (i=n) hC.2 hC.1 hi (fun h=>⟨h,h⟩) (fun h=>h)⟩
theorem Z5L (side s:Int) (L:List Z7):(ZP side s L).length<=L.length:=List.length_filter_le _ _
theorem Zmm (X:Z8) (s:Int) (c:Nat) (O:List Z7) (xs:List Int) (hn:X.L.length<1000) (hX:X3 X) (hO:O=ZP X.side s X.L) (hc:c=O.length) (hx:xs=Xe O):
  evF (ZhJ O c) 20 68 [U0 X,.int .i64 s] ⟨0,[]⟩ (Y5 0 (.ret (.nslice ⟨0,0,0,0,0⟩ 1 c c)) 1 [(0,.ints .i64 xs)]):=by
 refine @Eq.mpr _ (let q1:=List.length X.L;let q2:=Z6 X.L;
 ∃(X_1:Z8),
 let q5:=X_1.L;let q6:=X_1.side;let q7:=ZP q6 s q5;let q8:=List.length q7;let q9:=decide (q8=c);
 q1=q1/\
 q1=List.length q5/\
 q2=Z6 q5/\
 LV (Z8.c X (AV.vrows 70 q1 q2 q1)) X_1/\
 (0<=q6/\q6<=1)/\
 q1<1000/\
 Z0 (decide ((↑q8:Int)=(↑c:Int)))
 (Z0 q9
 (Z0 (decide (c<=q8))
 (Z0 q9
 (Zb 0 [(0,2)] c (Z6 O) (Z6 q7)/\
 Xe (List.take 0 O)=[]/\
 (List.length O=c/\c<1000)/\
 ∀(i:Nat),
 let q15:=Z0 (decide (i=c)) (Z0 (decide (c<=i)) (Xe (List.take i O)=xs/\True) False) False;
 i<=c->(∀(j:Nat),j<i->(fun (i:Nat)=>i<c) j)->(i=c->q15)/\(False->q15)/\(False->False))
 False)
 False)
 False)
 False) (by kernel_rfl) ?_
 conv=>zeta
 try simp only [Zj]
 try simp only [Zl]
 try simp only [Zi]
 try simp only [Zm]
 try simp only [Zn]
 try simp only [Zh]
 try simp only [Int.toNat_natCast,Nat.zero_add,true_and,and_true,Nat.le_refl]
 subst hx
 have hle:=Z5L X.side s X.L
 refine ⟨X, ?_⟩
 rw [<-hO]
 repeat' apply And.intro
 all_goals first|rfl|exact .a rfl|exact hX.1|exact hX.2|exact hn|exact hc.symm|(rw [hc];done)|(rw [hc,hO];omega)|exact Zo fun _ _=>rfl|skip
 intro i hi _
 refine ⟨fun he=> ?_,fun h=>h.elim,fun h=>h.elim⟩
 rw [he,hc,List.take_length]
 exact ⟨rfl,Nat.le_refl _,rfl⟩
theorem Q6 (args:List AV) (h:Za) (K:KO) (hl:Z3p args h K):Zp PP 68 args h K:=by
 refine ZC.fsumm (d:=20) (Zu _ _ _ _ _ hl fun a ha=> ?_)
 split at ha
 ·obtain ⟨X,hX,hs,h1,hK⟩:=ha
  exact ⟨_,_,_,_,(ZC.evM (Zdu _ _) (Zmm X _ _ _ _ h1 hs rfl rfl rfl)).conv fun E r hr=>hr.head (fun _ hc=>Wq hX hc) fun _ hc=>hc,rfl,⟨Nat.one_pos,.ints _ _,trivial⟩,hK⟩
 ·exact ha.elim
def Z9K (xs:List Int) (n i:Nat) (a:Int):St:=⟨16,[(7,.int .i64 i),(6,.int .i64 n),(5,.vints .i64 xs n),(2,.int .i64 a)],⟨0,[]⟩,[]⟩
def Z4M (a:Int):St:=⟨16,[(2,.int .i64 a)],⟨0,[]⟩,[]⟩
theorem Zmn (xs:List Int) (n i:Nat) (a a1:Int) (Z1 Z2:Prop) (hn:n<1000) (hL:xs.length=n) (hi:i<=n) (h1:i<n->a1=i64.wrap (a+xs.getD i 0)) (hZ1:i<n->Z1) (hZ2:i=n->Z2):
  ZG G0 20 80 0 0 (Z9K xs n i a) (rdM 0 0 9 (Z9K xs n (i+1) a1) (Z4M a) (Z4M a) (Z4M a) Z1 Z2 False False):=by
 refine @Eq.mpr _ (Z0 (decide ((↑i:Int)<(↑n:Int))) (Z0 (decide (0<=(↑i:Int)/\(↑i:Int)<(↑n:Int))) (Z0 (decide (wrap i64 ((↑i:Int)+1)=(↑(i+1):Int))) (Z0 (decide ((↑n:Int)=(↑n:Int))) (xs=xs/\Z0 (decide (n=n)) (Z0 (decide (wrap i64 (a+List.getD xs (Int.toNat (↑i:Int)) 0)=a1)) Z1 False) False) False) False) False) (Z0 (decide (a=a)) Z2 False)) (by kernel_rfl) ?_
 try simp only [Zj]
 try simp only [Zl]
 try simp only [Zi]
 try simp only [Zm]
 try simp only [Zn]
 try simp only [Zh]
 try simp only [Int.toNat_natCast,Nat.zero_add,true_and,and_true,Nat.le_refl]
 refine ⟨fun hc=> ?_,fun hc=>hZ2 (by omega)⟩
 have hlt:i<n:=by omega
 have hwr:i64.wrap ((i:Int)+1)=((i+1:Nat):Int):=by rw [w64 (by omega)];omega
 have h1:=h1 hlt
 repeat' apply And.intro
 all_goals first|omega|exact hwr|exact h1.symm|exact hZ1 hlt|rfl
def Z3q (xs:List Int):Nat->Int
 | 0=>0
 | i+1=>i64.wrap (Z3q xs i+xs.getD i 0)
theorem Z17 {xs:List Int} (h:∀x∈xs,0<=x/\x<=1125899906842624):0<=xs.sum/\xs.sum<=1125899906842624*xs.length:=by
 induction xs with
 | nil=>simp
 | cons a r ih=>
  have h1:=h a (by simp)
  have h2:=ih fun x hx=>h x (by simp [hx])
  simp only [List.sum_cons,List.length_cons]
  omega
theorem Z9L {xs:List Int} (hn:xs.length<1000) (h:∀x∈xs,0<=x/\x<=1125899906842624):∀i,i<=xs.length->Z3q xs i=(xs.take i).sum
 | 0,_=>by simp [Z3q]
 | i+1,hi=>by
  have ih:=Z9L hn h i (by omega)
  have hb:=Z17 (xs:=xs.take (i+1)) fun x hx=>h x (List.mem_of_mem_take hx)
  have e:(xs.take (i+1)).sum=(xs.take i).sum+xs.getD i 0:=by
   rw [List.take_succ_eq_append_getElem (by omega),List.sum_append,List.getD_eq_getElem?_getD,List.getElem?_eq_getElem (by omega)]
   simp
  have hl:(xs.take (i+1)).length<=1000:=by rw [List.length_take];omega
  unfold Z3q
  rw [ih,<-e,w64 (by omega)]
noncomputable def ZhK (xs:List Int) (n:Nat):Zg:=G0.withL 80 0 (goM 0 (Z9K xs n 0 0) (xs.length=n/\n<1000) (YJ 0 n 9 (fun i=>i<n) (fun i=>i=n) (fun _=>False) (fun _=>False) (fun i=>Z4M (Z3q xs i)) (fun i=>Z4M (Z3q xs i)) (fun i=>Z4M (Z3q xs i))))
theorem Zdv (xs:List Int) (n:Nat):(ZhK xs n).Ok:=
 Zg.withGoM (N:=20) (S:=fun i=>Z9K xs n i (Z3q xs i)) Zv (by kernel_rfl) fun hC=>⟨rfl,fun i hi _=>Zmn xs n i _ _ (i<n/\i<n) (i=n) hC.2 hC.1 hi (fun _=>rfl) (fun h=>⟨h,h⟩) (fun h=>h)⟩
theorem Zmo (xs:List Int) (n:Nat) (r:Int) (hL:xs.length=n) (hn:n<1000) (hr:r=Z3q xs n):
  evF (ZhK xs n) 20 80 [.vints .i64 xs n] ⟨0,[]⟩ (Yo (fun v=>v=.int .i64 r)):=by
 refine @Eq.mpr _ (Z0 (decide ((↑n:Int)=(↑n:Int)))
 (xs=xs/\
 Z0 (decide (n=n))
 ((List.length xs=n/\n<1000)/\
 ∀(i:Nat),
 let q1:=AV.int i64 (Z3q xs i)=AV.int i64 r;
 i<=n->(∀(j:Nat),j<i->(fun (i:Nat)=>i<n) j)->(i=n->q1)/\(False->q1)/\(False->False))
 False)
 False) (by kernel_rfl) ?_
 conv=>zeta
 try simp only [Zj]
 try simp only [Zl]
 try simp only [Zi]
 try simp only [Zm]
 try simp only [Zn]
 try simp only [Zh]
 try simp only [Int.toNat_natCast,Nat.zero_add,true_and,and_true,Nat.le_refl]
 refine ⟨⟨hL,hn⟩,fun i hi _=>⟨fun he=> ?_,fun h=>h.elim,fun h=>h.elim⟩⟩
 rw [he,hr]
theorem Zj7 (args:List AV) (h:Za) (K:AV->Prop) (hl:smS args h K):Zp PP 80 args h fun o h'=>∃v,o=.ret v/\h'=h/\K v:=by
 refine ZC.psumm (d:=20) (Zu _ _ _ _ _ hl fun a ha=> ?_)
 split at ha
 ·rename_i xs n
  obtain ⟨h1,h2,h3,hK⟩:=ha
  have e:Z3q xs n=xs.sum:=by rw [h1,Z9L (by omega) h3 _ (Nat.le_refl _),List.take_length]
  exact ⟨_,ZC.evV (Zdv _ _) (Zmo xs n _ h1.symm h2 rfl),fun _=>rfl,by rw [e];exact hK⟩
 ·exact ha.elim
noncomputable def ZhL:Zg:=(G0.withF 68 Z3p).withP 80 smS
theorem Zdw:ZhL.Ok:=Zg.withP_ok (Zg.withF_ok Zv Q6) Zj7
theorem Zmp (X:Z8) (s:Int) (r:Int) (hs:s=0\/s=1) (hX:X3 X) (hA:Z1N X) (hr:r=Yl X s):
  evF ZhL 20 30 [U0 X,.int .i64 s] ⟨0,[]⟩ (Yo (fun v=>v=.int .i64 r)):=by
 refine @Eq.mpr _ (let q1:=decide (0<=s/\s<2);let q2:=0+Int.toNat s;let q3:=decide (q2<2);let q4:=decide (q2<2);let q5:=List.length X.L;let q6:=List.getD [X.t.fee,(0:Int)] q2 0;let q7:=X.res;let q8:=List.getD [X.a0,X.a1] q2 0;
 Z0 q1
 (Z0 q3
 (Z0 q1
 (Z0 q4
 (∃(X_1:Z8),
 let q17:=X_1.side;let q18:=ZP q17 s X_1.L;let q19:=List.length q18;let q20:=Xe q18;let q21:=List.take q19 (YH 0 q20);
 LV (Z8.c X (AV.vrows 70 q5 (Z6 X.L) q5)) X_1/\(0<=q17/\q17<=1)/\List.length X_1.L<1000/\Z0 q4 (Z0 (decide (q6=q6)) (Z0 (decide (q7=q7)) (Z0 q3 (Z0 (decide (q8=q8)) (Z0 (decide (0+q19<=List.length q20)) (q19=List.length q21/\q19<1000/\(∀(x:Int),List.Mem x q21->0<=x/\x<=1125899906842624)/\AV.int i64 (wrap i64 (wrap i64 (wrap i64 (q8-List.sum q21)-q7)-q6))=AV.int i64 r) False) False) False) False) False) False)
 False)
 False)
 False)
 False) (by kernel_rfl) ?_
 conv=>zeta
 obtain ⟨h1,h2,h3,h4,h5,h6⟩:=hA
 have hle:=Z5L X.side s X.L
 have hb:∀x∈Xe (ZP X.side s X.L),0<=x/\x<=1125899906842624:=fun x hx=>by
  obtain ⟨z,hz,rfl⟩:=List.mem_map.1 hx
  exact h2 z ((List.mem_filter.1 hz).1)
 have hl:(Xe (ZP X.side s X.L)).length=(ZP X.side s X.L).length:=List.length_map _
 have hsum:=Z17 hb
 have e:List.take (ZP X.side s X.L).length (YH 0 (Xe (ZP X.side s X.L)))=Xe (ZP X.side s X.L):=by rw [Yw,List.drop_zero,<-hl,List.take_length]
 try simp only [Zj]
 try simp only [Zl]
 try simp only [Zi]
 try simp only [Zm]
 try simp only [Zn]
 try simp only [Zh]
 try simp only [Int.toNat_natCast,Nat.zero_add,true_and,and_true,Nat.le_refl]
 repeat' first|apply And.intro|refine Exists.intro X ?_
 all_goals try rw [e]
 all_goals first|omega|rfl|exact .a rfl|exact hX.1|exact hX.2|exact hb|skip
 rw [hr]
 unfold Yl Z8.am
 generalize (Xe (ZP X.side s X.L)).sum=q at*
 congr 1
 rcases hs with rfl|rfl
 ·simp only [Int.toNat_zero,List.getD_cons_zero,if_true]
  have e2:i64.wrap (X.a0-q)=X.a0-q:=w64 (by omega)
  have e3:i64.wrap (X.a0-q-X.res)=X.a0-q-X.res:=w64 (by omega)
  rw [e2,e3,w64 (by omega)]
 ·have e1:(1:Int).toNat=1:=rfl
  simp only [e1,List.getD_cons_succ,List.getD_cons_zero,show ¬(1:Int)=0 by decide,if_false]
  have e2:i64.wrap (X.a1-q)=X.a1-q:=w64 (by omega)
  have e3:i64.wrap (X.a1-q-X.res)=X.a1-q-X.res:=w64 (by omega)
  rw [e2,e3,w64 (by omega)]
theorem Z9M (args:List AV) (h:Za) (K:AV->Prop) (hl:Zj3 args h K):Zp PP 30 args h fun o h'=>∃v,o=.ret v/\h'=h/\K v:=by
 refine ZC.psumm (d:=20) (Zu _ _ _ _ _ hl fun a ha=> ?_)
 split at ha
 ·obtain ⟨X,hX,hs,h1,h2,hK⟩:=ha
  exact ⟨_,(ZC.evV Zdw (Zmp X _ _ h1 hs h2 rfl)).conv fun E r hr=>hr.head (fun _ hc=>Wq hX hc) fun _ hc=>hc,fun _=>rfl,hK⟩
 ·exact ha.elim
end Go.Tk
end
section
namespace Go.Tk
open IntKind (i64 u8 u32 u64 wrap)
noncomputable def ZhM:Zg:=G0.withF 68 Z3p
theorem Zdx:ZhM.Ok:=Zg.withF_ok Zv Q6
theorem Zky (X:Z8) (s:Int) (b:Bool) (hX:X3 X) (hn:X.L.length<1000) (hb:b=decide ((ZP X.side s X.L).length<=8)):
  evF ZhM 20 76 [.int .i64 s,.pview [U0 X] 0] ⟨0,[]⟩ (Yo (fun v=>v=.bool b)):=by
 refine @Eq.mpr _ (let q1:=List.length X.L;
 ∃(X_1:Z8),
 let q3:=X_1.side;
 LV (Z8.c X (AV.vrows 70 q1 (Z6 X.L) q1)) X_1/\(0<=q3/\q3<=1)/\List.length X_1.L<1000/\AV.bool (decide ((↑(List.length (ZP q3 s X_1.L)):Int)<=8))=AV.bool b) (by kernel_rfl) ?_
 conv=>zeta
 subst hb
 refine ⟨X,.a rfl,hX,hn, ?_⟩
 congr 1
 rw [Bool.eq_iff_iff,decide_eq_true_iff,decide_eq_true_iff]
 omega
theorem Zdy (args:List AV) (h:Za) (K:AV->Prop) (hl:ZhH args h K):Zp PP 76 args h fun o h'=>∃v,o=.ret v/\h'=h/\K v:=by
 refine ZC.psumm (d:=20) (Zu _ _ _ _ _ hl fun a ha=> ?_)
 split at ha
 ·obtain ⟨X,hX,hs,hn,hK⟩:=ha
  exact ⟨_,(ZC.evV Zdx (Zky X _ _ hs hn rfl)).conv fun E r hr=>hr.head (fun _ hc=>hc) fun _ hr=>hr.head (fun _ hc=>Z5J hX hc) fun _ hc=>hc,fun _=>rfl,hK⟩
 ·exact ha.elim
noncomputable def Zgg (H1:List Int->List Int):Zg:=(G0.withP 77 (Zdm H1)).withP 78 Zj1
theorem Zgh:(Zgg Zs).Ok:=Zg.withP_ok (Zg.withP_ok Zv Zbm) Zgb
noncomputable def Zdz (H1:List Int->List Int) (X:Z8) (n:Nat):Zg:=((((Z5H (Zgg H1)).withP 58 Z6S).withP 76 ZhH).withP 30 Zj3).withF 68 Z3p
theorem ZdA {H1:List Int->List Int} (h0:(Zgg H1).Ok) (X:Z8) (n:Nat):(Zdz H1 X n).Ok:=Zg.withF_ok (Zg.withP_ok (Zg.withP_ok (Zg.withP_ok (Zg.withP_ok (Zg.withP_ok (Zg.withP_ok (Zg.withP_ok h0 Z25) Z0s) Z0t) Z0u) Z6T) Zdy) Z9M) Q6
def rgS (X:Z8) (n i:Nat):St:=⟨140,[(99,.int .i64 i),(98,.int .i64 n),(97,.vrows 70 n (Z6 X.L) n),(1,.ptr (some ⟨0,0,0,0,0⟩))],⟨1,[(0,.flat [U0 X])]⟩,[]⟩
def rgE (X:Z8):St:=⟨140,[(1,.ptr (some ⟨0,0,0,0,0⟩))],⟨1,[(0,.flat [U0 X])]⟩,[]⟩
def rgF:St:=⟨140,[(2,.bool false)],⟨0,[]⟩,[]⟩
theorem Zmq (X:Z8) (n i:Nat) (H1:List Int->List Int) (Z1 Z2 Z3:Prop) (hn:n<1000) (hL:X.L.length=n) (hi:i<=n) (hok:∀h∈X.L,h.Ok) (h1:i<n->W3 H1 X i=true->Z1) (h2:i=n->Z2) (h3:i<n->W3 H1 X i=false->Z3):
  ZG (Zdz H1 X n) 20 26 0 0 (rgS X n i) (rdM 0 0 9 (rgS X n (i+1)) (rgE X) rgF rgF Z1 Z2 Z3 False):=by
 refine @Eq.mpr _ (let q1:=X.L;let q2:=List.length q1;let q3:=Z6 q1;let q4:=Z8.c X (AV.vrows 70 q2 q3 q2);let q5:=List.getD q1 (Int.toNat (↑i:Int)) Zc;let q6:=Z7.mk q5.own q5.id q5.amount q5.hash q5.expiry q5.stage q5.fin q5.secret;let q7:=wrap i64 ((↑i:Int)-1);let q8:=List.getD q1 (Int.toNat q7) Zc;let q9:=decide (n=n);let q10:=q4=q4;let q11:=Z0 (decide (wrap i64 ((↑i:Int)+1)=(↑(i+1):Int))) (Z0 (decide ((↑n:Int)=(↑n:Int))) (Z0 q9 (q3=q3/\Z0 q9 (q10/\Z1) False) False) False) False;
 Z0 (decide ((↑i:Int)<(↑n:Int))) (Z0 (decide (0<=(↑i:Int)/\(↑i:Int)<(↑n:Int))) (∃(X:Z8),LV q4 X/\Z7.Ok q6/\Z0 (!XE H1 X q6) Z3 (Z0 (decide ((↑i:Int)>0)) (Z0 (decide (0<=q7/\q7<(↑q2:Int))) (Z0 (!decide (XG (Z7.mk q8.own q8.id q8.amount q8.hash q8.expiry q8.stage q8.fin q8.secret) q6)) Z3 q11) False) q11)) False) (q10/\Z2)) (by kernel_rfl) ?_
 conv=>zeta
 try simp only [Zj]
 try simp only [Zl]
 try simp only [Zi]
 try simp only [Zm]
 try simp only [Zn]
 try simp only [Zh]
 try simp only [Int.toNat_natCast,Nat.zero_add,true_and,and_true,Nat.le_refl]
 have e0:∀p:Z7,Z7.mk p.own p.id p.amount p.hash p.expiry p.stage p.fin p.secret=p:=fun _=>rfl
 simp only [e0]
 refine ⟨fun hc=> ?_,fun hc=>h2 (by omega)⟩
 have hlt:i<n:=by omega
 have hwr:i64.wrap ((i:Int)+1)=((i+1:Nat):Int):=by rw [w64 (by omega)];omega
 have hw1:0<i->i64.wrap ((i:Int)-1)=((i-1:Nat):Int):=fun h=>by rw [w64 (by omega)];omega
 have hx:(X.L.getD i Zc).Ok:=hok _ (ZM (by omega))
 refine ⟨by omega,X,.a rfl,hx,fun hu=>h3 hlt ?_,fun hu=> ?_⟩
 ·have hu:XE H1 X (X.L.getD i Zc)=false:=by simpa using hu
  unfold W3
  rw [hu];rfl
 have hu:XE H1 X (X.L.getD i Zc)=true:=by simpa using hu
 refine ⟨fun hp=> ?_,fun hp=> ?_⟩
 ·have hp:0<i:=by omega
  rw [hw1 hp,Int.toNat_natCast]
  refine ⟨by omega,fun hf=>h3 hlt ?_,fun hf=> ?_⟩
  ·have hf:decide (XG (X.L.getD (i-1) Zc) (X.L.getD i Zc))=false:=by simpa using hf
   unfold W3
   rw [hu,hf,ZB (by omega:i≠0)];rfl
  ·have hf:decide (XG (X.L.getD (i-1) Zc) (X.L.getD i Zc))=true:=by simpa using hf
   have hb:W3 H1 X i=true:=by
    unfold W3
    rw [hu,hf];simp
   repeat' apply And.intro
   all_goals first|omega|exact hwr|exact h1 hlt hb|rfl
 ·have hb:W3 H1 X i=true:=by
   unfold W3
   rw [hu,show i=0 by omega];rfl
  repeat' apply And.intro
  all_goals first|omega|exact hwr|exact h1 hlt hb|rfl
noncomputable def ZhN (H1:List Int->List Int) (X:Z8) (n:Nat):Zg:=(Zdz H1 X n).withL 26 0 (goM 0 (rgS X n 0) (n<1000/\X.L.length=n/\∀h∈X.L,h.Ok) (YJ 0 n 9 (fun i=>W3 H1 X i=true/\i<n) (fun i=>i=n) (fun i=>i<n/\W3 H1 X i=false) (fun _=>False) (fun _=>rgE X) (fun _=>rgF) (fun _=>rgF)))
theorem ZdB {H1:List Int->List Int} (h0:(Zgg H1).Ok) (X:Z8) (n:Nat):(ZhN H1 X n).Ok:=by
 exact Zg.withGoM (N:=20) (S:=fun i=>rgS X n i) (ZdA h0 X n) (by kernel_rfl) fun hC=>⟨rfl,fun i hi _=>Zmq X n i _ _ _ _ hC.1 hC.2.1 hi hC.2.2 (fun h h'=>⟨⟨h',h⟩,h⟩) (fun h=>h) (fun h h'=>⟨h,h'⟩)⟩
end Go.Tk
end
section
namespace Go.Tk
open IntKind (i64 u8 u32 u64 wrap)
theorem Y0 {t:ZV} (h:Xo t=true):(0<=t.index/\t.index<=23)/\(1000<=t.cap/\t.cap<=1125899906842624)/\(1<=t.dust/\t.dust<=500)/\(0<=t.fee/\t.fee<=400)/\(1<=t.delay/\t.delay<=1000):=by
 unfold Xo at h
 simp only [Bool.and_eq_true,decide_eq_true_eq] at h
 omega
theorem Z9N {H:List Int->List Int} {X:Z8} (hn:X.L.length<1000) (h1:Xo X.t=true) (h3:0<=X.res/\X.res<=X.t.cap/10) (h4:0<=X.a0/\X.a0<=X.t.cap) (h5:X.a1=X.t.cap-X.a0) (hl:∀h∈X.L,XE H X h=true):Z1N X:=by
 have hb:=Y0 h1
 refine ⟨hn,fun h hh=> ?_,by omega,by omega,by omega,by omega⟩
 have:=hl h hh
 unfold XE Yp at this
 simp only [Bool.and_eq_true,decide_eq_true_eq] at this
 omega
theorem Zmr (X:Z8) (n:Nat) (H1:List Int->List Int) (b:Bool) (hL:X.L.length=n) (hn:n<1000) (ht:X.t.Ok) (hok:∀h∈X.L,h.Ok) (hb:b=Yb H1 X):
  evF (ZhN H1 X n) 20 26 [U0 X] ⟨0,[]⟩ (Yo (fun v=>v=.bool b)):=by
 refine @Eq.mpr _ (let q1:=X.t;let q2:=q1.cap;let q3:=ZV.mk q1.fund q1.index q2 q1.dust q1.fee q1.delay q1.k0 q1.k1;let q4:=AV.bool b;let q5:=AV.bool false=q4;let q6:=X.a0;let q7:=X.L;let q8:=List.length q7;let q9:=Z6 q7;let q10:=Z8.c X (AV.vrows (70:Nat) q8 q9 q8);let q11:=decide (q8=n);
 ZV.Ok q3/\
 Z0 ((if Xo q3=true then (0:Int) else (2:Int)) !=(0:Int)) q5
 (Z0 (!decide ((0:Int)<=X.side/\X.side<=(1:Int))) q5
 (Z0 (!decide ((0:Int)<=X.res/\X.res<=wrap i64 (Int.tdiv q2 (10:Int)))) q5
 (Z0 (!decide ((0:Int)<=q6/\q6<=q2)) q5
 (Z0 (X.a1 !=wrap i64 (q2-q6)) q5
 (Z0 (!decide ((0:Int)<=X.i0/\X.i0<=(2147483648:Int))) q5
 (Z0 (!decide ((0:Int)<=X.i1/\X.i1<=(2147483648:Int))) q5
 (∃(X_1:Z8),
 let q23:=X_1.side;
 LV q10 X_1/\
 ((0:Int)<=q23/\q23<=(1:Int))/\
 List.length X_1.L<(1000:Nat)/\
 Z0 (!decide (List.length (ZP q23 (0:Int) X_1.L)<=(8:Nat))) q5
 (∃(X_2:Z8),
 let q25:=X_2.side;
 LV q10 X_2/\
 ((0:Int)<=q25/\q25<=(1:Int))/\
 List.length X_2.L<(1000:Nat)/\
 Z0 (!decide (List.length (ZP q25 (1:Int) X_2.L)<=(8:Nat))) q5
 (Z0 (decide ((↑q8:Int)=(↑n:Int)))
 (Z0 q11
 (q9=q9/\
 Z0 q11
 (q10=q10/\
 (n<(1000:Nat)/\q8=n/\∀(h:Z7),List.Mem h q7->Z7.Ok h)/\
 ∀(i:Nat),
 i<=n->
 (∀(j:Nat),j<i->(fun (i:Nat)=>W3 H1 X i=true/\i<n) j)->
 (i=n->
 ∃(X:Z8),
 LV q10 X/\
 ((0:Int)<=X.side/\X.side<=(1:Int))/\
 ((0:Int)=(0:Int)\/(0:Int)=(1:Int))/\
 Z1N X/\
 Z0 (decide (Yl X (0:Int)>=(0:Int)))
 (∃(X:Z8),
 let q27:=X.side;
 LV q10 X/\((0:Int)<=q27/\q27<=(1:Int))/\List.length X.L<(1000:Nat)/\Z0 ((↑(List.length (ZP q27 (1:Int) X.L)):Int)==(0:Int)) (AV.bool true=q4) (∃(X:Z8),LV q10 X/\((0:Int)<=X.side/\X.side<=(1:Int))/\((1:Int)=(0:Int)\/(1:Int)=(1:Int))/\Z1N X/\AV.bool (decide (Yl X (1:Int)>=(0:Int)))=q4))
 q5)/\
 (i<n/\W3 H1 X i=false->q5)/\(False->False))
 False)
 False)
 False)))))))))) (by kernel_rfl) ?_
 conv=>zeta
 have e0:ZV.mk X.t.fund X.t.index X.t.cap X.t.dust X.t.fee X.t.delay X.t.k0 X.t.k1=X.t:=rfl
 have no:¬(Yb H1 X=true)->AV.bool false=AV.bool b:=fun h=>by rw [hb,Bool.eq_false_iff.2 h]
 have hr:=QX (H:=H1) (X:=X)
 have hh:=Z15 (X:=X)
 have key:Yb H1 X=true->_:=fun h=>(hh.1 (hr.1 h).1)
 have hlen:X.L.length<1000:=by omega
 rw [e0]
 simp only [Zh]
 refine ⟨ht,fun k=>no fun h=> ?_,fun k1=> ?_⟩
 ·rw [(key h).1] at k;simp at k
 have k1:Xo X.t=true:=by
  cases hq:Xo X.t with
  | true=>rfl
  | false=>rw [hq] at k1;simp at k1
 have tb:=Y0 k1
 have td:i64.wrap (Int.tdiv X.t.cap 10)=X.t.cap/10:=by rw [Int.tdiv_eq_ediv_of_nonneg (by omega),w64 (by omega)]
 rw [td]
 refine ⟨fun k=>no fun h=> ?_,fun k2=> ?_⟩
 ·have:=(key h).2.1;simp at k;omega
 have k2:0<=X.side/\X.side<=1:=by simpa using k2
 refine ⟨fun k=>no fun h=> ?_,fun k3=> ?_⟩
 ·have:=(key h).2.2.1;simp at k;omega
 have k3:0<=X.res/\X.res<=X.t.cap/10:=by simpa using k3
 refine ⟨fun k=>no fun h=> ?_,fun k4=> ?_⟩
 ·have:=(key h).2.2.2.1;simp at k;omega
 have k4:0<=X.a0/\X.a0<=X.t.cap:=by simpa using k4
 have tw:i64.wrap (X.t.cap-X.a0)=X.t.cap-X.a0:=w64 (by omega)
 rw [tw]
 refine ⟨fun k=>no fun h=> ?_,fun k5=> ?_⟩
 ·have:=(key h).2.2.2.2.1;simp at k;omega
 have k5:X.a1=X.t.cap-X.a0:=by simpa using k5
 refine ⟨fun k=>no fun h=> ?_,fun k6=> ?_⟩
 ·have:=(key h).2.2.2.2.2.1;simp at k;omega
 have k6:0<=X.i0/\X.i0<=2147483648:=by simpa using k6
 refine ⟨fun k=>no fun h=> ?_,fun k7=> ?_⟩
 ·have:=(key h).2.2.2.2.2.2.1;simp at k;omega
 have k7:0<=X.i1/\X.i1<=2147483648:=by simpa using k7
 refine ⟨X,.a rfl,k2,hlen,fun k=>no fun h=> ?_,fun k8=> ?_⟩
 ·have:=(key h).2.2.2.2.2.2.2.1;simp at k;omega
 have k8:(ZP X.side 0 X.L).length<=8:=by simpa using k8
 refine ⟨X,.a rfl,k2,hlen,fun k=>no fun h=> ?_,fun k9=> ?_⟩
 ·have:=(key h).2.2.2.2.2.2.2.2;simp at k;omega
 have k9:(ZP X.side 1 X.L).length<=8:=by simpa using k9
 have hhd:Z6U X=true:=hh.2 ⟨k1,k2,k3,k4,k5,k6,k7,k8,k9⟩
 simp only [hL,decide_true]
 refine ⟨fun _=>⟨fun _=>⟨trivial,fun _=>⟨trivial,⟨hn,trivial,hok⟩,fun i hi hg=>⟨fun he=> ?_,fun hx=>no fun h=> ?_,fun h=>h.elim⟩⟩,fun h=>by cases h⟩,fun h=>by cases h⟩,fun h=>by cases h⟩
 ·subst he
  have hall:∀j,j<X.L.length->W3 H1 X j=true:=fun j hj=>(hg j (by omega)).1
  have hA:Z1N X:=Z9N (H:=H1) hlen k1 k3 k4 k5 fun h hh=>by
   obtain ⟨j,hj,rfl⟩:=List.getElem_of_mem hh
   have:=hall j hj
   unfold W3 at this
   simp only [Bool.and_eq_true] at this
   rw [List.getD_eq_getElem?_getD,List.getElem?_eq_getElem hj] at this
   exact this.1
  refine ⟨X,.a (by rw [hL]),k2,.inl trivial,hA,fun k10=>⟨X,.a (by rw [hL]),k2,hlen,fun k11=> ?_,fun k11=>⟨X,.a (by rw [hL]),k2,.inr trivial,hA, ?_⟩⟩,fun k=>no fun h=> ?_⟩
  ·have k10:0<=Yl X 0:=by simpa using k10
   have:Yb H1 X=true:=hr.2 ⟨hhd,hall,k10,.inl (by simpa using k11)⟩
   rw [hb,this]
  ·have k10:0<=Yl X 0:=by simpa using k10
   rw [hb]
   congr 1
   rw [Bool.eq_iff_iff,decide_eq_true_iff]
   constructor
   ·intro h;exact hr.2 ⟨hhd,hall,k10,.inr h⟩
   ·intro h
    rcases (hr.1 h).2.2.2 with h|h
    ·rw [h] at k11;simp at k11
    ·exact h
  ·have:=(hr.1 h).2.2.1
   simp at k;omega
 ·have:=(hr.1 h).2.1 i (by omega)
  rw [hx.2] at this;cases this
theorem Z9O (args:List AV) (h:Za) (K:AV->Prop) (hl:Zj4 Zs args h K):Zp PP 26 args h fun o h'=>∃v,o=.ret v/\h'=h/\K v:=by
 refine ZC.psumm (d:=20) (Zu _ _ _ _ _ hl fun a ha=> ?_)
 split at ha
 ·obtain ⟨X,hX,ht,hok,hn,hK⟩:=ha
  exact ⟨_,(ZC.evV (ZdB Zgh X _) (Zmr X _ Zs _ rfl hn ht hok rfl)).conv fun E r hr=>hr.head (fun _ hc=>Wq hX hc) fun _ hc=>hc,fun _=>rfl,hK⟩
 ·exact ha.elim
end Go.Tk
end
section
namespace Go.Tk
open IntKind (i64 u8 u32 u64 wrap)
structure N5 where
 a:Int
 b:Int
 c:Int
 d:Int
 e:Int
def r5 (F:List Int->Int×Int) (xs:List Int) (o:Nat):Option (N5×Nat):=
 (rdN F xs o 1125899906842624).bind fun a=>(rdN F xs a.2 1125899906842624).bind fun b=>(rdN F xs b.2 1125899906842624).bind fun c=>
 (rdN F xs c.2 1125899906842624).bind fun d=>(rdN F xs d.2 1125899906842624).bind fun e=>some (⟨a.1,b.1,c.1,d.1,e.1⟩,e.2)
def ZdC (X:Z8) (n:N5):Z8:={ X with t:=⟨X.t.fund,n.a,n.b,n.c,n.d,n.e,X.t.k0,X.t.k1⟩}
def ZdD (X:Z8) (n:N5):Z8:={ X with res:=n.a,a0:=n.b,a1:=n.c,i0:=n.d,i1:=n.e}
def C5 (F:List Int->Int×Int) (g:Z8->N5->Z8) (X Y:Z8) (xs:List Int) (o p:Nat) (ok no:Prop):Prop:=o<=xs.length/\(∀n q,r5 F xs o=some (n,q)->Y=g X n/\p=q/\ok)/\(r5 F xs o=none->no)
def lr2 (X:Z8) (xs:List Int) (o:Nat):St:=⟨120,lrT [(86,.int .i64 5),(85,.nslice ⟨6,0,0,0,0⟩ 1 5 5),(87,.int .i64 0)],⟨7,lrH X .nilslice xs o [(6,.flat [.ptr (some ⟨5,0,0,102,0⟩),.ptr (some ⟨5,0,0,103,0⟩),.ptr (some ⟨5,0,0,103,1⟩),.ptr (some ⟨5,0,0,105,0⟩),.ptr (some ⟨5,0,0,105,1⟩)])]⟩,lrD⟩
theorem Zms (F:List Int->Int×Int) (H:List Int->List Int) (X Y:Z8) (xs:List Int) (o p:Nat) (ok no:Prop) (hC:C5 F ZdC X Y xs o p ok no):
  Z6G (Z5K F H) 20 14 0 0 (lr0 X xs o) (jnP 0 0 pvL (lr1 Y xs p) lrP ok no):=by
 refine @Eq.mpr _ (let q1:=List.length xs;let q2:=q1-o;let q3:=rdN F xs o 1125899906842624;let q4:=q1-p;let q5:=X.t;let q6:=Y.t;
 Z0 (decide (q2=q2/\o<=q1/\q2=q2/\(0:Int)<=1125899906842624))
 ((∀(v:Int) (o':Nat),
 let q13:=rdN F xs o' 1125899906842624;
 q3=some (v,o')->
 o<=o'/\o'<=q1/\v<=1125899906842624->
 Z0 (decide (q1-o'=q1-o'/\o'<=q1/\q1-o'=q1-o'/\(0:Int)<=1125899906842624))
 ((∀(v_1:Int) (o'_1:Nat),
 let q15:=rdN F xs o'_1 1125899906842624;
 q13=some (v_1,o'_1)->
 o'<=o'_1/\o'_1<=q1/\v_1<=1125899906842624->
 Z0 (decide (q1-o'_1=q1-o'_1/\o'_1<=q1/\q1-o'_1=q1-o'_1/\(0:Int)<=1125899906842624))
 ((∀(v_2:Int) (o':Nat),
 let q17:=rdN F xs o' 1125899906842624;
 q15=some (v_2,o')->
 o'_1<=o'/\o'<=q1/\v_2<=1125899906842624->
 Z0 (decide (q1-o'=q1-o'/\o'<=q1/\q1-o'=q1-o'/\(0:Int)<=1125899906842624))
 ((∀(v_3:Int) (o'_2:Nat),
 let q19:=rdN F xs o'_2 1125899906842624;
 q17=some (v_3,o'_2)->o'<=o'_2/\o'_2<=q1/\v_3<=1125899906842624->Z0 (decide (q1-o'_2=q1-o'_2/\o'_2<=q1/\q1-o'_2=q1-o'_2/\(0:Int)<=1125899906842624)) ((∀(v_4:Int) (o':Nat),q19=some (v_4,o')->o'_2<=o'/\o'<=q1/\v_4<=1125899906842624->xs=xs/\Z0 (decide (o'=p)) (Z0 (decide (q1-o'=q4)) (Z0 (decide (q4<=q1-o')) (q5.fund=q6.fund/\Z0 (decide (v=q6.index)) (Z0 (decide (v_1=q6.cap)) (Z0 (decide (v_2=q6.dust)) (Z0 (decide (v_3=q6.fee)) (Z0 (decide (v_4=q6.delay)) (q5.k0=q6.k0/\q5.k1=q6.k1/\Z0 (decide (X.side=Y.side)) (Z0 (decide (X.res=Y.res)) ([X.a0,X.a1]=[Y.a0,Y.a1]/\[X.i0,X.i1]=[Y.i0,Y.i1]/\ok) False) False) False) False) False) False) False) False) False) False)/\(q19=none->no)) False)/\
 (q17=none->no))
 False)/\
 (q15=none->no))
 False)/\
 (q13=none->no))
 False)/\
 (q3=none->no))
 False) (by kernel_rfl) ?_
 conv=>zeta
 try simp only [Zj]
 try simp only [Zl]
 try simp only [Zi]
 try simp only [Zm]
 try simp only [Zn]
 try simp only [Zh]
 try simp only [Int.toNat_natCast,Nat.zero_add,true_and,and_true,Nat.le_refl]
 obtain ⟨ho,h1,h2⟩:=hC
 cases h:r5 F xs o with
 | none=>
  have h2:=h2 h
  clear h1
  repeat' (first|(refine And.intro ?_ ?_)|intro _)
  all_goals first|omega|exact h2|skip
  all_goals (exfalso;simp [r5, *] at h)
 | some nq=>
  obtain ⟨n,q⟩:=nq
  obtain ⟨rfl,rfl,hok⟩:=h1 n q h
  clear h1 h2
  repeat' (first|(refine And.intro ?_ ?_)|intro _)
  all_goals first|omega|exact hok|trivial|skip
  all_goals (simp [r5, *] at h)
  all_goals (obtain ⟨rfl,rfl⟩:=h)
  all_goals first|rfl|exact Nat.le_refl _
theorem Zmt (F:List Int->Int×Int) (H:List Int->List Int) (X Y:Z8) (xs:List Int) (o p:Nat) (ok no:Prop) (hC:C5 F ZdD X Y xs o p ok no):
  Z6G (Z5K F H) 20 14 2 0 (lr2 X xs o) (jnP 0 2 pvL (lr1 Y xs p) lrP ok no):=by
 refine @Eq.mpr _ (let q1:=List.length xs;let q2:=q1-o;let q3:=rdN F xs o 1125899906842624;let q4:=q1-p;let q5:=X.t;let q6:=Y.t;
 Z0 (decide (q2=q2/\o<=q1/\q2=q2/\(0:Int)<=1125899906842624))
 ((∀(v:Int) (o':Nat),
 let q13:=rdN F xs o' 1125899906842624;
 q3=some (v,o')->
 o<=o'/\o'<=q1/\v<=1125899906842624->
 Z0 (decide (q1-o'=q1-o'/\o'<=q1/\q1-o'=q1-o'/\(0:Int)<=1125899906842624))
 ((∀(v_1:Int) (o'_1:Nat),
 let q15:=rdN F xs o'_1 1125899906842624;
 q13=some (v_1,o'_1)->
 o'<=o'_1/\o'_1<=q1/\v_1<=1125899906842624->
 Z0 (decide (q1-o'_1=q1-o'_1/\o'_1<=q1/\q1-o'_1=q1-o'_1/\(0:Int)<=1125899906842624))
 ((∀(v_2:Int) (o':Nat),
 let q17:=rdN F xs o' 1125899906842624;
 q15=some (v_2,o')->
 o'_1<=o'/\o'<=q1/\v_2<=1125899906842624->
 Z0 (decide (q1-o'=q1-o'/\o'<=q1/\q1-o'=q1-o'/\(0:Int)<=1125899906842624))
 ((∀(v_3:Int) (o'_2:Nat),
 let q19:=rdN F xs o'_2 1125899906842624;
 q17=some (v_3,o'_2)->o'<=o'_2/\o'_2<=q1/\v_3<=1125899906842624->Z0 (decide (q1-o'_2=q1-o'_2/\o'_2<=q1/\q1-o'_2=q1-o'_2/\(0:Int)<=1125899906842624)) ((∀(v_4:Int) (o':Nat),q19=some (v_4,o')->o'_2<=o'/\o'<=q1/\v_4<=1125899906842624->xs=xs/\Z0 (decide (o'=p)) (Z0 (decide (q1-o'=q4)) (Z0 (decide (q4<=q1-o')) (q5.fund=q6.fund/\Z0 (decide (q5.index=q6.index)) (Z0 (decide (q5.cap=q6.cap)) (Z0 (decide (q5.dust=q6.dust)) (Z0 (decide (q5.fee=q6.fee)) (Z0 (decide (q5.delay=q6.delay)) (q5.k0=q6.k0/\q5.k1=q6.k1/\Z0 (decide (X.side=Y.side)) (Z0 (decide (v=Y.res)) ([v_1,v_2]=[Y.a0,Y.a1]/\[v_3,v_4]=[Y.i0,Y.i1]/\ok) False) False) False) False) False) False) False) False) False) False)/\(q19=none->no)) False)/\
 (q17=none->no))
 False)/\
 (q15=none->no))
 False)/\
 (q13=none->no))
 False)/\
 (q3=none->no))
 False) (by kernel_rfl) ?_
 conv=>zeta
 try simp only [Zj]
 try simp only [Zl]
 try simp only [Zi]
 try simp only [Zm]
 try simp only [Zn]
 try simp only [Zh]
 try simp only [Int.toNat_natCast,Nat.zero_add,true_and,and_true,Nat.le_refl]
 obtain ⟨ho,h1,h2⟩:=hC
 cases h:r5 F xs o with
 | none=>
  have h2:=h2 h
  clear h1
  repeat' (first|(refine And.intro ?_ ?_)|intro _)
  all_goals first|omega|exact h2|skip
  all_goals (exfalso;simp [r5, *] at h)
 | some nq=>
  obtain ⟨n,q⟩:=nq
  obtain ⟨rfl,rfl,hok⟩:=h1 n q h
  clear h1 h2
  repeat' (first|(refine And.intro ?_ ?_)|intro _)
  all_goals first|omega|exact hok|trivial|skip
  all_goals (simp [r5, *] at h)
  all_goals (obtain ⟨rfl,rfl⟩:=h)
  all_goals first|rfl|exact Nat.le_refl _
def lo5 (F:List Int->Int×Int) (id:Nat) (g:Z8->N5->Z8) (S:Z8->List Int->Nat->St):Nat->St->KE->Prop:=fun k s Z=>match Nat.beq k 0 with
 | true=>∃(X:Z8) (xs:List Int) (o:Nat),Wk 0 (S X xs o) s (o<=xs.length/\(∀n q,r5 F xs o=some (n,q)->q<=xs.length->Z (.exit id) (lr1 (g X n) xs q))/\(r5 F xs o=none->Z (.panic pvL) lrP))
 | false=>False
theorem Ws {xs:List Int} {o p:Nat} {v most:Int} (ho:o<=xs.length) (h:rdN (Zq Zr) xs o most=some (v,p)):o<=p/\p<=xs.length/\v<=most:=by
 unfold rdN at h
 split at h
 ·rename_i hc
  simp only [Option.some.injEq,Prod.mk.injEq] at h
  have hle:=Z4z Zr (xs.drop o)
  rw [List.length_drop] at hle
  omega
 ·cases h
theorem ZhO {xs:List Int} {o p:Nat} {n:N5} (ho:o<=xs.length) (h:r5 (Zq Zr) xs o=some (n,p)):p<=xs.length:=by
 unfold r5 at h
 simp only [Option.bind_eq_some_iff] at h
 obtain ⟨a,h1,b,h2,c,h3,d,h4,e,h5,h6⟩:=h
 have k1:=Ws ho h1
 have k2:=Ws k1.2.1 h2
 have k3:=Ws k2.2.1 h3
 have k4:=Ws k3.2.1 h4
 have k5:=Ws k4.2.1 h5
 simp only [Option.some.injEq,Prod.mk.injEq] at h6
 omega
theorem ZdE {G:Zg} (hG:G.Ok) {id:Nat} {g:Z8->N5->Z8} {S:Z8->List Int->Nat->St} (h1:Z5A G.P 14 id=true)
  (h:∀X Y xs o p ok no,C5 (Zq Zr) g X Y xs o p ok no->Z6G G 20 14 id 0 (S X xs o) (jnP 0 id pvL (lr1 Y xs p) lrP ok no)):(G.withL 14 id (lo5 (Zq Zr) id g S)).Ok:=
 Zg.withJX hG rfl h1 fun k s Z hs=>by
  unfold lo5 at hs
  split at hs
  ·rename_i hk
   have:=Nat.eq_of_beq_eq_true hk
   subst this
   obtain ⟨X,xs,o,hs⟩:=hs
   obtain ⟨⟨ho,h2,h3⟩,hw⟩:=YV hs
   cases hr:r5 (Zq Zr) xs o with
   | none=>
    have hC:C5 (Zq Zr) g X X xs o o False True:=by
     refine ⟨ho,fun n q he=> ?_,fun _=>trivial⟩
     rw [hr] at he;cases he
    exact ⟨_,_,_,_,_,hw,h _ _ _ _ _ _ _ hC,fun hk=>hk.elim,fun _=>h3 hr⟩
   | some p=>
    have hC:C5 (Zq Zr) g X (g X p.1) xs o p.2 True False:=by
     refine ⟨ho,fun n q he=> ?_,fun he=> ?_⟩
     ·rw [hr] at he;cases he;exact ⟨rfl,rfl,trivial⟩
     ·rw [hr] at he;cases he
    exact ⟨_,_,_,_,_,hw,h _ _ _ _ _ _ _ hC,fun _=>h2 p.1 p.2 hr (ZhO ho hr),fun hk=>hk.elim⟩
  ·exact hs.elim
theorem Z5M:(Z5K (Zq Zr) Zs).Ok:=Zg.withP_ok (Zg.withF_ok (Zg.withF_ok (Zg.withF_ok (Zg.withF_ok (Zg.withF_ok Zv ZcW) Zb6) Zdp) ZcY) Z3e) Z9O
noncomputable def Zgi (F:List Int->Int×Int) (H:List Int->List Int):Zg:=((Z5K F H).withL 14 0 (lo5 F 0 ZdC lr0)).withL 14 2 (lo5 F 2 ZdD lr2)
theorem Zgj:(Zgi (Zq Zr) Zs).Ok:=
 Zg.withL_join (H:=Z5K (Zq Zr) Zs) (ZdE Z5M (by kernel_rfl) fun X Y xs o p ok no hC=>Zms _ _ X Y xs o p ok no hC) rfl (ZdE Z5M (by kernel_rfl) fun X Y xs o p ok no hC=>Zmt _ _ X Y xs o p ok no hC)
def stL (F:List Int->Int×Int) (xs:List Int) (o:Nat):Nat->List Z7×Nat
 | 0=>([],o)
 | i+1=>match Wr F xs (stL F xs o i).2 with
  | some (x,p)=>((stL F xs o i).1++[x],p)
  | none=>stL F xs o i
def goH (F:List Int->Int×Int) (xs:List Int) (o i:Nat):Prop:=(Wr F xs (stL F xs o i).2).isSome=true
def lr4 (X:Z8) (xs:List Int) (cnt:Int) (i:Nat) (L:List Z7) (o:Nat):St:=⟨120,lrT [(97,.int .i64 cnt),(98,.int .i64 i)],⟨7,lrH X (.nslice ⟨6,0,70,0,0⟩ 70 i i) xs o [(6,.rows 70 i (Z6 L))]⟩,lrD⟩
def lr5 (X:Z8) (xs:List Int) (i:Nat) (L:List Z7) (o:Nat):St:=⟨120,lrT [],⟨7,lrH X (.nslice ⟨6,0,70,0,0⟩ 70 i i) xs o [(6,.rows 70 i (Z6 L))]⟩,lrD⟩
theorem Zmu (F:List Int->Int×Int) (H:List Int->List Int) (X:Z8) (xs:List Int) (cnt:Int) (i o o':Nat) (L L':List Z7) (Z1 Z2 Z5:Prop) (ho:o<=xs.length) (hi:i<=16/\cnt<=16) (hL:L.length=i) (h2:¬(i:Int)<cnt->Z2) (h5:(i:Int)<cnt->Wr F xs o=none->Z5) (h1:(i:Int)<cnt->∀x p,Wr F xs o=some (x,p)->(o'=p/\L'=L++[x])/\Z1):
  ZG (Z5K F H) 20 14 4 0 (lr4 X xs cnt i L o) (rdP 0 4 9 pvL (lr4 X xs cnt (i+1) L' o') (lr5 X xs i L o) lrP lrP lrP Z1 Z2 False False Z5):=by
 refine @Eq.mpr _ (let q1:=List.length xs;let q2:=q1-o;let q3:=decide (i=i);let q4:=i+1;let q5:=decide (q4*112<=140737488355328);let q6:=decide (cnt=cnt);let q7:=decide (wrap i64 (↑i+1)=↑q4);let q8:=q1-o';let q9:=X.t;let q10:=q9.fund;let q11:=q10=q10;let q12:=q9.index;let q13:=decide (q12=q12);let q14:=q9.cap;let q15:=decide (q14=q14);let q16:=q9.dust;let q17:=decide (q16=q16);let q18:=q9.fee;let q19:=decide (q18=q18);let q20:=q9.delay;let q21:=decide (q20=q20);let q22:=q9.k0;let q23:=q22=q22;let q24:=q9.k1;let q25:=q24=q24;let q26:=decide (X.side=X.side);let q27:=decide (X.res=X.res);let q28:=[X.a0,X.a1];let q29:=q28=q28;let q30:=[X.i0,X.i1];let q31:=q30=q30;let q32:=decide (q4=q4);let q33:=decide (q4<=q4);let q34:=[(3,3),(5,5),(0,0),(1,1),(4,4)];let q35:=(2,2)::(6,10)::q34;let q36:=Z6 L;
 Z0 (decide (↑i<cnt))
 (Z0 (decide (q2=q2/\o<=q1/\q2=q2))
 ((∀(v:Bool) (o'_1:Nat),
 let q73:=rdN F xs o'_1 2147483647;
 rdT xs o=some (v,o'_1)->
 o<=o'_1/\o'_1<=q1->
 Z0 (decide (q1-o'_1=q1-o'_1/\o'_1<=q1/\q1-o'_1=q1-o'_1/\(0:Int)<=2147483647))
 ((∀(v_1:Int) (o'_2:Nat),
 let q75:=rdN F xs o'_2 1125899906842624;
 q73=some (v_1,o'_2)->
 o'_1<=o'_2/\o'_2<=q1/\v_1<=2147483647->
 Z0 (decide (q1-o'_2=q1-o'_2/\o'_2<=q1/\q1-o'_2=q1-o'_2/\(0:Int)<=1125899906842624))
 ((∀(v_2:Int) (o'_3:Nat),
 q75=some (v_2,o'_3)->
 o'_2<=o'_3/\o'_3<=q1/\v_2<=1125899906842624->
 Z0 (decide (q1-o'_3=q1-o'_3/\o'_3<=q1/\q1-o'_3=q1-o'_3))
 ((∀(hh:List Int),
 let q77:=AV.arr u8 32 hh;
 ∀(o'_4:Nat),
 let q79:=rdN F xs o'_4 2147483647;
 rdH xs o'_3=some (hh,o'_4)->
 o'_3<=o'_4/\o'_4<=q1/\List.length hh=32->
 Z0 (decide (q1-o'_4=q1-o'_4/\o'_4<=q1/\q1-o'_4=q1-o'_4/\(0:Int)<=2147483647))
 ((∀(v_3:Int) (o'_5:Nat),
 let q81:=rdN F xs o'_5 9;
 q79=some (v_3,o'_5)->
 o'_4<=o'_5/\o'_5<=q1/\v_3<=2147483647->
 Z0 (decide (q1-o'_5=q1-o'_5/\o'_5<=q1/\q1-o'_5=q1-o'_5/\(0:Int)<=9))
 ((∀(v_4:Int) (o'_6:Nat),
 let q83:=rdN F xs o'_6 2;
 q81=some (v_4,o'_6)->
 o'_5<=o'_6/\o'_6<=q1/\v_4<=9->
 Z0 (decide (q1-o'_6=q1-o'_6/\o'_6<=q1/\q1-o'_6=q1-o'_6/\(0:Int)<=2))
 ((∀(v_5:Int) (o'_7:Nat),
 let q85:=q1-o'_7;
 q83=some (v_5,o'_7)->
 o'_6<=o'_7/\o'_7<=q1/\v_5<=2->
 Z0 (v_5==1) (Z0 (decide (q85=q85/\o'_7<=q1/\q85=q85)) ((∀(hh:List Int) (o'_8:Nat),rdH xs o'_7=some (hh,o'_8)->o'_7<=o'_8/\o'_8<=q1/\List.length hh=32->Z0 q3 (Z0 q3 (Z0 q3 (Z0 q3 (Z0 q3 (Z0 q5 (Z0 q6 (Z0 q7 (xs=xs/\Z0 (decide (o'_8=o')) (Z0 (decide (q1-o'_8=q8)) (Z0 (decide (q8<=q1-o'_8)) (q11/\Z0 q13 (Z0 q15 (Z0 q17 (Z0 q19 (Z0 q21 (q23/\q25/\Z0 q26 (Z0 q27 (q29/\q31/\Z0 q32 (Z0 q33 (Z0 q32 (Zb 0 q35 q4 (Z6 L') (Y2 i q36 (YQ [AV.bool v,AV.int i64 v_1,AV.int i64 v_2,q77,AV.int i64 v_3,AV.int i64 v_4,AV.int i64 v_5,AV.arr u8 32 hh] 0 70))/\Z1) False) False) False) False) False) False) False) False) False) False) False) False) False) False) False) False) False) False) False) False) False)/\(rdH xs o'_7=none->Z5)) False)
 (Z0 q3 (Z0 q3 (Z0 q3 (Z0 q3 (Z0 q3 (Z0 q5 (Z0 q6 (Z0 q7 (xs=xs/\Z0 (decide (o'_7=o')) (Z0 (decide (q85=q8)) (Z0 (decide (q8<=q85)) (q11/\Z0 q13 (Z0 q15 (Z0 q17 (Z0 q19 (Z0 q21 (q23/\q25/\Z0 q26 (Z0 q27 (q29/\q31/\Z0 q32 (Z0 q33 (Z0 q32 (Zb 0 q35 q4 (Z6 L') (Y2 i q36 (YQ [AV.bool v,AV.int i64 v_1,AV.int i64 v_2,q77,AV.int i64 v_3,AV.int i64 v_4,AV.int i64 v_5,AV.arr u8 32 Zf] 0 70))/\Z1) False) False) False) False) False) False) False) False) False) False) False) False) False) False) False) False) False) False) False) False) False))/\
 (q83=none->Z5))
 False)/\
 (q81=none->Z5))
 False)/\
 (q79=none->Z5))
 False)/\
 (rdH xs o'_3=none->Z5))
 False)/\
 (q75=none->Z5))
 False)/\
 (q73=none->Z5))
 False)/\
 (rdT xs o=none->Z5))
 False)
 (xs=xs/\Z0 (decide (o=o)) (Z0 (decide (q2=q2)) (Z0 (decide (q2<=q2)) (q11/\Z0 q13 (Z0 q15 (Z0 q17 (Z0 q19 (Z0 q21 (q23/\q25/\Z0 q26 (Z0 q27 (q29/\q31/\Z0 q3 (Z0 (decide (i<=i)) (Z0 q3 (Zb 0 ((2,2)::(6,6)::q34) i q36 q36/\Z2) False) False) False) False) False) False) False) False) False) False) False) False) False)) (by kernel_rfl) ?_
 conv=>zeta
 try simp only [Zj]
 try simp only [Zl]
 try simp only [Zi]
 try simp only [Zm]
 try simp only [Zn]
 try simp only [Zh]
 try simp only [Int.toNat_natCast,Nat.zero_add,true_and,and_true,Nat.le_refl]
 have hself:∀τ,Zb 0 τ i (Z6 L) (Z6 L):=fun _=>Zo fun _ _=>rfl
 refine ⟨fun hlt=> ?_,fun hge=> ?_⟩
 rotate_left
 ·have:=h2 hge
  repeat' apply And.intro
  all_goals first|omega|exact this|exact hself _|trivial
 have h5:=h5 hlt
 have h1:=h1 hlt
 have hw:i64.wrap ((i:Int)+1)=((i+1:Nat):Int):=w64 (by omega)
 simp only [hw]
 clear hw hself h2
 cases h:Wr F xs o with
 | none=>
  have h5:=h5 h
  clear h1
  repeat' (first|(refine And.intro ?_ ?_)|intro _)
  all_goals first|omega|exact h5|trivial|skip
  all_goals (exfalso;simp [Wr,Z6V, *] at h)
 | some xp=>
  obtain ⟨x,p⟩:=xp
  obtain ⟨⟨rfl,rfl⟩,hZ⟩:=h1 x p h
  clear h1 h5
  repeat' (first|(refine And.intro ?_ ?_)|intro _)
  all_goals first|omega|exact hZ|trivial|skip
  all_goals (simp [Wr,Z6V, *] at h)
  all_goals (obtain ⟨rfl,rfl⟩:=h)
  all_goals first|rfl|exact Nat.le_refl _|skip
  all_goals (refine Zo fun q hq=> ?_;(try simp only [*]);exact Yt (x:=⟨_,_,_,_,_,_,_,_⟩) hL (fun _ _=>rfl) hq)
end Go.Tk
end
section
namespace Go.Tk
open IntKind (i64 u8 u32 u64 wrap)
def rdL (F:List Int->Int×Int) (xs:List Int) (o:Nat):Nat->Option (List Z7×Nat)
 | 0=>some ([],o)
 | n+1=>(rdL F xs o n).bind fun a=>(Wr F xs a.2).bind fun b=>some (a.1++[b.1],b.2)
theorem Z8D {F:List Int->Int×Int} {xs:List Int} {o:Nat}:∀{n:Nat},(∀j,j<n->goH F xs o j)->rdL F xs o n=some (stL F xs o n)
 | 0,_=>rfl
 | n+1,h=>by
  have hn:=h n (Nat.lt_succ_self _)
  unfold goH at hn
  unfold rdL stL
  rw [Z8D fun j hj=>h j (by omega)]
  cases hr:Wr F xs (stL F xs o n).2 with
  | none=>rw [hr] at hn;cases hn
  | some x=>simp [hr]
theorem Z6X {F:List Int->Int×Int} {xs:List Int} {o n:Nat} (h:rdL F xs o n=none):∀{m:Nat},n<=m->rdL F xs o m=none
 | 0,hm=>by
  have e:n=0:=by omega
  subst e
  exact h
 | m+1,hm=>by
  by_cases e:n=m+1
  ·subst e;exact h
  ·unfold rdL;rw [Z6X h (show n<=m by omega)];rfl
theorem Zj8 {F:List Int->Int×Int} {xs:List Int} {o n m:Nat} (h:∀j,j<n->goH F xs o j) (hn:Wr F xs (stL F xs o n).2=none) (hm:n<m):rdL F xs o m=none:=by
 refine Z6X (n:=n+1) ?_ hm
 unfold rdL
 rw [Z8D h]
 simp [hn]
theorem Z9P {xs:List Int} {o p:Nat} {x:Z7} (ho:o<=xs.length) (h:Wr (Zq Zr) xs o=some (x,p)):o<=p/\p<=xs.length/\x.hash.length=32/\x.secret.length=32:=by
 unfold Wr at h
 simp only [Option.bind_eq_some_iff] at h
 obtain ⟨a,h1,b,h2,c,h3,d,h4,e,h5,f,h6,g,h7,s,h8,h9⟩:=h
 have k1:o<=a.2/\a.2<=xs.length:=by
  unfold rdT at h1
  split at h1
  ·cases h1;exact ⟨by show o<=o+1;omega,by show o+1<=_;omega⟩
  ·cases h1
 have hh:∀{q:Nat} {r:List Int×Nat},rdH xs q=some r->q<=r.2/\r.2<=xs.length/\r.1.length=32:=fun {q r} h=>by
  unfold rdH at h
  split at h
  ·cases h
   refine ⟨by show q<=q+32;omega,by show q+32<=_;omega, ?_⟩
   show ((xs.drop q).take 32).length=32
   rw [List.length_take,List.length_drop];omega
  ·cases h
 have k2:=Ws k1.2 h2
 have k3:=Ws k2.2.1 h3
 have k4:=hh h4
 have k5:=Ws k4.2.1 h5
 have k6:=Ws k5.2.1 h6
 have k7:=Ws k6.2.1 h7
 have k8:g.2<=s.2/\s.2<=xs.length/\s.1.length=32:=by
  unfold Z6V at h8
  split at h8
  ·exact hh h8
  ·cases h8;exact ⟨Nat.le_refl _,k7.2.1,rfl⟩
 cases h9
 exact ⟨by omega,by omega,k4.2.2,k8.2.2⟩
theorem Z8E {xs:List Int} {o:Nat} (ho:o<=xs.length):∀n,(∀j,j<n->goH (Zq Zr) xs o j)->(stL (Zq Zr) xs o n).1.length=n/\(stL (Zq Zr) xs o n).2<=xs.length/\∀x∈(stL (Zq Zr) xs o n).1,x.hash.length=32/\x.secret.length=32
 | 0,_=>⟨rfl,ho,fun x hx=>by cases hx⟩
 | n+1,h=>by
  obtain ⟨i1,i2,i3⟩:=Z8E ho n fun j hj=>h j (by omega)
  have hn:=h n (Nat.lt_succ_self _)
  unfold goH at hn
  unfold stL
  cases hr:Wr (Zq Zr) xs (stL (Zq Zr) xs o n).2 with
  | none=>rw [hr] at hn;cases hn
  | some x=>
   have k:=Z9P i2 hr
   refine ⟨by simp [i1],k.2.1,fun y hy=> ?_⟩
   rcases List.mem_append.1 hy with hy|hy
   ·exact i3 y hy
   ·rw [List.mem_singleton] at hy;subst hy;exact k.2.2
def lo6 (F:List Int->Int×Int) (S4:Z8->List Int->Int->Nat->List Z7->Nat->St) (S5:Z8->List Int->Nat->List Z7->Nat->St):Nat->St->KE->Prop:=fun k s Z=>match Nat.beq k 0 with
 | true=>∃(X:Z8) (xs:List Int) (cnt:Int) (o:Nat),Wk 0 (S4 X xs cnt 0 [] o) s (o<=xs.length/\cnt<=16/\(∀(n:Nat) L p,n=cnt.toNat->rdL F xs o n=some (L,p)->(L.length=n/\p<=xs.length/\n<=16/\∀x∈L,x.hash.length=32/\x.secret.length=32)->Z (.exit 4) (S5 X xs n L p))/\(rdL F xs o cnt.toNat=none->Z (.panic pvL) lrP))
 | false=>False
theorem ZdF {F:List Int->Int×Int} {xs:List Int} {o i:Nat} {x:Z7} {p:Nat} (hr:Wr F xs (stL F xs o i).2=some (x,p)):stL F xs o (i+1)=((stL F xs o i).1++[x],p):=by
 show (match Wr F xs (stL F xs o i).2 with|some (x,p)=>((stL F xs o i).1++[x],p)|none=>stL F xs o i)=_
 rw [hr]
theorem Zkz {X:Z8} {xs:List Int} {cnt:Int} {o i:Nat} (ho:o<=xs.length) (hc:cnt<=16) (hi:i<=cnt.toNat) (hgo:∀j,j<i->goH (Zq Zr) xs o j):ZG (Z5K (Zq Zr) Zs) 20 14 4 0 (lr4 X xs cnt i (stL (Zq Zr) xs o i).1 (stL (Zq Zr) xs o i).2) (rdP 0 4 9 pvL (lr4 X xs cnt (i+1) (stL (Zq Zr) xs o (i+1)).1 (stL (Zq Zr) xs o (i+1)).2) (lr5 X xs i (stL (Zq Zr) xs o i).1 (stL (Zq Zr) xs o i).2) lrP lrP lrP (goH (Zq Zr) xs o i/\i<cnt.toNat) (¬(i:Int)<cnt) False False ((i:Int)<cnt/\Wr (Zq Zr) xs (stL (Zq Zr) xs o i).2=none)):=by
 obtain ⟨i1,i2,i3⟩:=Z8E ho i hgo
 refine Zmu (Zq Zr) Zs X xs cnt i (stL (Zq Zr) xs o i).2 (stL (Zq Zr) xs o (i+1)).2 (stL (Zq Zr) xs o i).1 (stL (Zq Zr) xs o (i+1)).1 _ _ _ i2 ⟨by omega,hc⟩ i1 (fun h=>h) (fun h h'=>⟨h,h'⟩) fun hlt x p hr=> ?_
 rw [ZdF hr]
 have hg:goH (Zq Zr) xs o i:=by unfold goH;simp only [hr,Option.isSome_some]
 exact ⟨⟨rfl,rfl⟩,hg,by omega⟩
theorem Z9Q (G:Zg) (f:FuncId) (id:Nat) (S:Nat->St->KE->Prop):(G.withL f id S).P=G.P:=rfl
theorem Zj9 (F:List Int->Int×Int) (H:List Int->List Int):(Zgi F H).P=(Z5K F H).P:=by unfold Zgi;rw [Z9Q,Z9Q]
theorem Zja {G:Zg} (hG:G.Ok) {S4:Z8->List Int->Int->Nat->List Z7->Nat->St} {S5:Z8->List Int->Nat->List Z7->Nat->St} (h1:XY G.P 14 4=true)
  (h:∀{X:Z8} {xs:List Int} {cnt:Int} {o i:Nat},o<=xs.length->cnt<=16->i<=cnt.toNat->(∀j,j<i->goH (Zq Zr) xs o j)->ZG G 20 14 4 0 (S4 X xs cnt i (stL (Zq Zr) xs o i).1 (stL (Zq Zr) xs o i).2) (rdP 0 4 9 pvL (S4 X xs cnt (i+1) (stL (Zq Zr) xs o (i+1)).1 (stL (Zq Zr) xs o (i+1)).2) (S5 X xs i (stL (Zq Zr) xs o i).1 (stL (Zq Zr) xs o i).2) lrP lrP lrP (goH (Zq Zr) xs o i/\i<cnt.toNat) (¬(i:Int)<cnt) False False ((i:Int)<cnt/\Wr (Zq Zr) xs (stL (Zq Zr) xs o i).2=none))):
  (G.withL 14 4 (lo6 (Zq Zr) S4 S5)).Ok:=by
 refine Zg.withGoX (N:=20) (l:=9) (pv:=pvL) hG rfl h1 fun k s Z hs=> ?_
 unfold lo6 at hs
 split at hs
 ·rename_i hk
  have:=Nat.eq_of_beq_eq_true hk
  subst this
  obtain ⟨X,xs,cnt,o,hs⟩:=hs
  obtain ⟨⟨ho,hc,h1,h2⟩,hw⟩:=YV hs
  refine ⟨cnt.toNat,fun i=>S4 X xs cnt i (stL (Zq Zr) xs o i).1 (stL (Zq Zr) xs o i).2,fun i=>S5 X xs i (stL (Zq Zr) xs o i).1 (stL (Zq Zr) xs o i).2,fun _=>lrP,fun _=>lrP,fun _=>lrP,goH (Zq Zr) xs o,fun i=>¬(i:Int)<cnt,fun _=>False,fun _=>False,fun i=>(i:Int)<cnt/\Wr (Zq Zr) xs (stL (Zq Zr) xs o i).2=none,hw,fun i hi hgo=>h ho hc hi hgo, ?_⟩
  intro i hi hgo
  refine ⟨fun hx=> ?_,fun h=>h.elim,fun h=>h.elim,fun hx=> ?_⟩
  ·have e:i=cnt.toNat:=by omega
   obtain ⟨i1,i2,i3⟩:=Z8E ho i hgo
   exact h1 i _ _ e (Z8D hgo) ⟨i1,i2,by omega,i3⟩
  ·exact h2 (Zj8 hgo hx.2 (by omega))
 ·exact hs.elim
noncomputable def ZkA (F:List Int->Int×Int) (H:List Int->List Int):Zg:=(Zgi F H).withL 14 4 (lo6 F lr4 lr5)
theorem Z5N:(ZkA (Zq Zr) Zs).Ok:=Zg.withL_join (H:=Z5K (Zq Zr) Zs) Zgj (Zj9 _ _) (Zja Z5M (by kernel_rfl) Zkz)
end Go.Tk
end
section
namespace Go.Tk
open IntKind (i64 u8 u32 u64 wrap)
noncomputable def ZkB (H1:List Int->List Int):Zg:=G0.withP 26 (Zj4 H1)
theorem Zgk:(ZkB Zs).Ok:=Zg.withP_ok Zv Z9O
def U1 (t:ZV) (side res a b:Int):Z8:=⟨t,side,res,a,b,0,0,[]⟩
theorem Zmv (t:ZV) (side res a b:Int) (X:Z8) (H1:List Int->List Int) (ht:t.Ok) (hX:X=U1 t side res a b) (hb:Yb H1 X=true):
  evF (ZkB H1) 20 7 [.agg t.c,.int .i64 side,.int .i64 res,.agg [.arr .i64 2 [a,b]]] ⟨0,[]⟩ (Y5 0 (.ret (.tuple [.ptr (some ⟨0,0,0,0,0⟩),.int .i64 0])) 2 [(0,.flat (X.c (.nslice ⟨1,0,70,0,0⟩ 70 0 0))),(1,.rows 70 0 (Z6 []))]):=by
 refine @Eq.mpr _ (let q1:=[a,b];let q2:=[(0:Int),0];let q3:=X.t;
 ∃(X_1:Z8),LV [AV.arr u8 32 t.fund,AV.int i64 t.index,AV.int i64 t.cap,AV.int i64 t.dust,AV.int i64 t.fee,AV.int i64 t.delay,AV.arr u8 32 t.k0,AV.arr u8 32 t.k1,AV.int i64 side,AV.int i64 res,AV.arr i64 2 q1,AV.arr i64 2 q2,AV.nilslice] X_1/\ZV.Ok X_1.t/\(∀(h:Z7),List.Mem h X_1.L->Z7.Ok h)/\List.length X_1.L<1000/\Z0 (!Yb H1 X_1) False (t.fund=q3.fund/\Z0 (decide (t.index=q3.index)) (Z0 (decide (t.cap=q3.cap)) (Z0 (decide (t.dust=q3.dust)) (Z0 (decide (t.fee=q3.fee)) (Z0 (decide (t.delay=q3.delay)) (t.k0=q3.k0/\t.k1=q3.k1/\Z0 (decide (side=X.side)) (Z0 (decide (res=X.res)) (q1=[X.a0,X.a1]/\q2=[X.i0,X.i1]/\True) False) False) False) False) False) False) False)) (by kernel_rfl) ?_
 conv=>zeta
 refine ⟨X,.b (by rw [hX];rfl) (by rw [hX];rfl),by rw [hX];exact ht,(by rw [hX];intro h hh;cases hh),(by rw [hX];exact Nat.succ_pos _), ?_⟩
 rw [hb]
 subst hX
 simp [Z0,U1]
end Go.Tk
end
section
namespace Go.Tk
open IntKind (i64 u8 u32 u64 wrap)
theorem and_mk {a b:Bool} (h1:a=true) (h2:b=true):(a&&b)=true:=by rw [h1,h2];rfl
theorem ZdG {E:Env} {w:World} {sz n:Nat} {g g':Nat->List AV} (hg:∀i,i<n->g' i=g i) (he:Emb E ⟨1,[(0,.rows sz n g')]⟩ w):Emb E ⟨1,[(0,.rows sz n g)]⟩ w:=by
 have hget:∀(f:Nat->List AV) x B,(Za.mk 1 [(0,.rows sz n f)]).get x=some B->x=0/\B=.rows sz n f:=fun f x B hx=>by
  simp only [Za.get,ZO] at hx
  split at hx
  ·rename_i hb
   cases hx
   exact ⟨(Nat.eq_of_beq_eq_true hb).symm,rfl⟩
  ·cases hx
 have h0:∀f:Nat->List AV,(Za.mk 1 [(0,.rows sz n f)]).get 0=some (.rows sz n f):=fun f=>rfl
 refine ⟨he.fresh,fun x B hx=> ?_,fun x B hx=> ?_,fun x y B B' b N N' hx hy h1 h2=> ?_,he.imm,fun a c x B N hi hx hb=> ?_⟩
 ·obtain ⟨rfl,rfl⟩:=hget _ _ _ hx;exact he.lt 0 _ (h0 _)
 ·obtain ⟨rfl,rfl⟩:=hget _ _ _ hx
  have:=he.own 0 _ (h0 g')
  cases this with
  | rows0 _ _ _ hn hb=>exact .rows0 _ _ _ hn hb
  | rows _ _ _ b cells elem fr gv hb hw hf hc hl hv=>exact .rows _ _ _ b cells elem fr gv hb hw hf (fun i hi=>hg i hi▸hc i hi) hl hv
 ·obtain ⟨rfl,rfl⟩:=hget _ _ _ hx
  obtain ⟨rfl,rfl⟩:=hget _ _ _ hy
  rfl
 ·obtain ⟨rfl,rfl⟩:=hget _ _ _ hx
  exact he.sep a c 0 _ N hi (h0 g') hb
theorem Spec.rows {P:Program} {f:FuncId} {args:List AV} {sz n:Nat} {g g':Nat->List AV} {o:Out} {nx:Nat} {bs:List (Nat×Blk)} (hg:∀i,i<n->g' i=g i) (h:Spec P f args ⟨1,[(0,.rows sz n g)]⟩ o nx bs):Spec P f args ⟨1,[(0,.rows sz n g')]⟩ o nx bs:=by
 intro E w rs he hl
 have he':=ZdG hg he
 refine (h E w rs he' hl).mono ?_
 rintro e w' ⟨E',hev,ho⟩
 have own:∀b,WK E ⟨1,[(0,.rows sz n g)]⟩ b↔WK E ⟨1,[(0,.rows sz n g')]⟩ b:=fun b=>by
  unfold WK
  constructor
  ·rintro ⟨x,B,N,hx,hb⟩
   simp only [Za.get,ZO] at hx
   split at hx
   ·rename_i hq;have:=Nat.eq_of_beq_eq_true hq;subst this;exact ⟨0,_,N,rfl,hb⟩
   ·cases hx
  ·rintro ⟨x,B,N,hx,hb⟩
   simp only [Za.get,ZO] at hx
   split at hx
   ·rename_i hq;have:=Nat.eq_of_beq_eq_true hq;subst this;exact ⟨0,_,N,rfl,hb⟩
   ·cases hx
 exact ⟨E',⟨hev.le,hev.emb,hev.size,hev.os,hev.tape,hev.output,fun b hb hn=>hev.keep b hb (fun h=>hn ((own b).1 h)),fun b hb=>(hev.own b hb).imp (own b).1 id,hev.imm⟩,ho⟩
end Go.Tk
end
section
namespace Go.Tk
open IntKind (i64 u8 u32 u64 wrap)
open Go.Proofs Go.Shelf Go.Lib Go.Sort
theorem Z6Y {W w':World} (h1:W.heap.size<=w'.heap.size) (h2:w'.os=W.os) (h3:w'.tape=W.tape) (h4:w'.output=W.output/\W.drawn<=w'.drawn) (h5:∀b,b<W.heap.size->w'.heap[b]? =W.heap[b]?):∃q os',w'=grow (W.drewN q) os':=by
 refine ⟨w'.drawn-W.drawn,w'.heap.extract W.heap.size w'.heap.size, ?_⟩
 obtain ⟨heap,tape,drawn,os,output⟩:=w'
 obtain ⟨heap0,tape0,drawn0,os0,output0⟩:=W
 simp only at h1 h2 h3 h4 h5
 unfold grow World.drewN
 simp only [World.mk.injEq]
 refine ⟨?_,h3,by omega,h2,h4.1⟩
 apply Array.ext_getElem?
 intro i
 rcases Nat.lt_or_ge i heap0.size with h|h
 ·rw [Array.getElem?_append_left h];exact h5 i h
 ·rw [Array.getElem?_append_right h,Array.getElem?_extract]
  rcases Nat.lt_or_ge i heap.size with h'|h'
  ·rw [if_pos (by omega)];congr 1;omega
  ·rw [if_neg (by omega),Array.getElem?_eq_none (by omega)]
section
variable {P:Program} {ρ:Go.Shelf.Ren} {α:Type} [Inhabited α]
theorem Z8F {g k:Nat} {c:α->List AV} {enc:α->List Value} (hc2:∀E x,Zw E (c x) (enc x)) {cf:α->α->Int} (hcmp:∀x y,ZC P g [.agg (c x),.agg (c y)] (.int .i64 (cf x y)) 0 []) (blk off size:Nat) (w:World):
  CmpLays P g #[] enc k cf blk off size w:=by
 intro m os dk hs x y
 have E0:Emb ⟨fun _=>none,fun _ _=>False⟩ ⟨0,[]⟩ (sortWorldK enc k w blk off m dk os):=
  ⟨fun _ _=>rfl,fun x B h=>by simp [Za.get,ZO] at h,fun x B h=>by simp [Za.get,ZO] at h,fun x y B B' b N N' h=>by simp [Za.get,ZO] at h,fun _ _ h=>h.elim,fun _ _ _ _ _ h=>h.elim⟩
 refine (hcmp x y _ _ [.agg (enc x).toArray,.agg (enc y).toArray] E0 (.cons _ _ _ _ (.agg _ _ (hc2 _ _)) (.cons _ _ _ _ (.agg _ _ (hc2 _ _)) .nil))).mono ?_
 rintro e w' ⟨E',r,rfl,hev,hr⟩
 cases hr
 refine ⟨rfl,Z6Y hev.size hev.os hev.tape hev.output fun b hb=>hev.keep b hb ?_⟩
 rintro ⟨x,B,N,hx,_⟩
 simp [Za.get,ZO] at hx
theorem Zbq (L:SlLaysF0.n6 P ρ) {k:Nat} (aE:∀w,(Go.isAgg (ρ.t 24)).run P w=.ok true w) (zE:∀w,(Go.sizeOf (ρ.t 24)).run P w=.ok k w) {c:α->List AV} {enc:α->List Value} (hk:∀x,(enc x).length=k) (hk0:0<k) (h1:∀x,∀v∈enc x,v.oneCell'=true)
  (hc1:∀E x vs,Zw E (c x) vs->vs=enc x) (hc2:∀E x,Zw E (c x) (enc x)) {cf:α->α->Int} (hO:SWO (ltOf cf)) {g:Nat} (eg:∀args w,(callFunc g args).run P w=.ok (.enter g args) w)
  (hcmp:∀x y,ZC P g [.agg (c x),.agg (c y)] (.int .i64 (cf x y)) 0 []) {l L':List α} {n lo:Nat} (hn:l.length=n) (h0:0<n) (hsz:n<4611686018427387904) {f f':Nat->List AV} (hf0:∀i,i<n->f i=c (l.getD i default)) (hf1:∀i,i<n->f' i=c (L'.getD i default))
  (hL:∀l':List α,l'.Perm l->l'.Pairwise (fun a b=>ltOf cf b a=false)->l'=L'):
  Spec P (ρ.f 6) [.nslice ⟨0,0,k,0,0⟩ k n lo,.func (.func g) [] []] ⟨1,[(0,.rows k n f)]⟩ (.ret (.tuple [])) 1 [(0,.rows k n f')]:=by
 intro E w rs he hr
 cases hr with
 | cons v r vs rs hr1 hr2=>
 cases hr2 with
 | cons v2 r2 vs2 rs2 hr2 hr3=>
 cases hr3
 cases hr2 with
 | func fn fi ca fs cs h3 h4=>
 cases h3
 cases h4
 cases hr1 with
 | nslice0 p esz len lo a q1 q2=>omega
 | nslice p esz len lo b N cap hb q1 q2 q3=>
 have hB:=he.own 0 _ rfl
 cases hB with
 | rows0 sz n f q0 hno=>omega
 | rows sz n f b' cells elem fr gg hb' hw hfr hc hl hv=>
 rw [hb'] at hb
 cases hb
 have htot:(ZF.mk 0 0 k 0 0).tot=0:=by simp [ZF.tot]
 rw [htot] at q3⊢
 have hgg:∀i,i<n->gg i=enc (l.getD i default):=fun i hi=>by
  have:=hc i hi
  rw [hf0 i hi] at this
  exact hc1 _ _ _ this
 have hcs:n*k<=cells.size:=by
  rcases Nat.lt_or_ge cells.size (n*k) with h|h
  ·exfalso
   have e:n=(n-1)+1:=by omega
   have hlast:(gg (n-1))[k-1]? =some ((gg (n-1))[k-1]'(by rw [hl _ (by omega)];omega)):=List.getElem?_eq_getElem _
   have:=hv (n-1) (k-1) _ (by omega) hlast
   have e2:(n-1)*k+(k-1)<cells.size:=by
    rcases Nat.lt_or_ge ((n-1)*k+(k-1)) cells.size with h'|h'
    ·exact h'
    ·rw [Array.getElem?_eq_none h'] at this;cases this
   have e3:n*k=(n-1)*k+k:=by rw [e,Nat.add_mul];simp
   omega
  ·exact h
 have hdiv:∀j,j<n*k->j/k<n:=fun j hj=>(Nat.div_lt_iff_lt_mul hk0).2 hj
 have hH:HoldsK enc k w b 0 l.toArray:=by
  intro j hj
  rw [size_flatK] at hj
  have hj:j<n*k:=by simpa [hn] using hj
  have hi:=hdiv j hj
  have hm:j%k<k:=Nat.mod_lt _ hk0
  rw [get_flatK _ _ _ _ (by simpa [hn] using hj)]
  have e:l.toArray[j/k]! =l.getD (j/k) default:=by simp [List.getD_eq_getElem?_getD]
  have hx:(gg (j/k))[j%k]? =some ((enc (l.getD (j/k) default))[j%k]!):=by
   rw [hgg _ hi]
   rw [List.getElem?_eq_getElem (by rw [hk];exact hm)]
   simp [getElem!_pos,hk,hm]
  have hcell:=hv (j/k) (j%k) _ hi hx
  have ej:j/k*k+j%k=j:=by rw [Nat.mul_comm];exact Nat.div_add_mod j k
  rw [ej] at hcell
  refine ⟨?_, ?_⟩
  ·rw [Nat.zero_add,cell_of_heap hw,hcell,e];rfl
  ·unfold World.frozen?
   simp only [Nat.zero_add,hw]
   have:=hfr j (by omega)
   rw [Bool.eq_false_iff]
   simp only [ne_eq,Bool.and_eq_true,decide_eq_true_eq]
   exact this
 have hblk:b<w.heap.size:=(he.own 0 _ rfl).lt hb'
 have hcon:=AnyQ.slices_SortFunc L k aE zE enc hk h1 cf hO g #[] b 0 cap l.toArray w eg (Z8F hc2 hcmp b 0 _ w) hH hblk (by simpa [hn] using hsz)
 have en:l.toArray.size=n:=by simpa using hn
 rw [en] at hcon
 refine hcon.mono ?_
 rintro e w' ⟨rfl,d',m,os,hp,hs,rfl⟩
 obtain ⟨p1,_,p3⟩:=hp
 rw [en] at p1
 have pe:(d'.extract 0 n)=d':=by rw [<-p1];simp
 have pe2:(l.toArray.extract 0 n)=l.toArray:=by rw [<-en];simp
 rw [pe,pe2] at p3
 have hLd:d'.toList=L':=by
  refine hL _ p3 ?_
  rw [List.pairwise_iff_getElem]
  intro i j hi hj hij
  have:=hs i j (Nat.zero_le _) hij (by simpa [p1] using hj)
  have e1:d'[i]! =d'.toList[i]:=by simp only [Array.length_toList] at hi;simp [getElem!_pos,hi]
  have e2:d'[j]! =d'.toList[j]:=by simp only [Array.length_toList] at hj;simp [getElem!_pos,hj]
  rw [e1,e2] at this
  exact this
 have hheap:(sortWorldK enc k w b 0 m d' os).heap=w.heap.modify b (onCells (putCells id 0 (flatK enc k d')))++os:=rfl
 have hold:∀i,i<w.heap.size->i≠b->(sortWorldK enc k w b 0 m d' os).heap[i]? =w.heap[i]?:=fun i hi hib=>by
  rw [hheap,Array.getElem?_append_left (by simpa using hi),Array.getElem?_modify,if_neg (fun h=>hib h.symm)]
 have hnew:(sortWorldK enc k w b 0 m d' os).heap[b]? =some (.cells (putCells id 0 (flatK enc k d') cells) elem fr):=by
  rw [hheap,Array.getElem?_append_left (by simpa using hblk),Array.getElem?_modify,if_pos rfl,hw];rfl
 have hpsz:(putCells id 0 (flatK enc k d') cells).size=cells.size:=by simp [putCells]
 have hle:w.heap.size<=(sortWorldK enc k w b 0 m d' os).heap.size:=by rw [hheap];simp
 have hown:∀{H:Za} {i:Nat},H=⟨1,[(0,Blk.rows k n f)]⟩\/H=⟨1,[(0,Blk.rows k n f')]⟩->(WK E H i↔i=b):=by
  intro H i hq0
  constructor
  ·rintro ⟨x,B,N,hx,hbx⟩
   have hx0:x=0:=by
    rcases hq0 with rfl|rfl
    ·simp only [Za.get,ZO] at hx
     split at hx
     ·rename_i hq;exact (Nat.eq_of_beq_eq_true hq).symm
     ·cases hx
    ·simp only [Za.get,ZO] at hx
     split at hx
     ·rename_i hq;exact (Nat.eq_of_beq_eq_true hq).symm
     ·cases hx
   subst hx0
   rw [hb'] at hbx
   cases hbx;rfl
  ·rintro rfl
   rcases hq0 with rfl|rfl<;>exact ⟨0,_,_,rfl,hb'⟩
 have hbn:∀a cc,E.imm a cc->a.block≠b:=fun a cc hi hq=>he.sep a cc 0 _ _ hi rfl (by rw [hb',hq])
 refine ⟨E,⟨.refl E,⟨he.fresh,fun x B hx=> ?_,fun x B hx=> ?_,fun x y B B' bb N N' hx hy _ _=> ?_,fun a cc hi=> ?_,fun a cc x B N hi hx hbx=> ?_⟩,hle,rfl,rfl,⟨rfl,Nat.le_add_right _ _⟩,fun i hi hno=>hold i hi (fun h=>hno ((hown (.inl rfl)).2 h)),fun i ho=>.inl ((hown (.inl rfl)).2 ((hown (.inr rfl)).1 ho)),fun _ _ h=>h⟩,.ret _ _ (.tuple [] [] .nil)⟩
 ·simp only [Za.get,ZO] at hx
  split at hx
  ·rename_i hq;have:=Nat.eq_of_beq_eq_true hq;show x<1;omega
  ·cases hx
 ·simp only [Za.get,ZO] at hx
  split at hx
  ·rename_i hq
   have:=Nat.eq_of_beq_eq_true hq
   subst this
   cases hx
   refine .rows k n f' b _ elem fr (fun i=>enc (L'.getD i default)) (by rw [hpsz];exact hb') hnew (fun o ho=>hfr o (by rw [hpsz] at ho;exact ho)) (fun i hi=>by rw [hf1 i hi];exact hc2 _ _) (fun i hi=>hk _) (fun i j cc hi hj=> ?_)
   have hjk:j<k:=by
    have:=(List.getElem?_eq_some_iff.1 hj).1
    rw [hk] at this;exact this
   have ht:i*k+j<n*k:=by
    have:(i+1)*k<=n*k:=Nat.mul_le_mul_right _ hi
    rw [Nat.add_mul,Nat.one_mul] at this
    omega
   unfold putCells
   rw [Array.getElem?_mapIdx,Array.getElem?_eq_getElem (by omega)]
   simp only [Option.map_some]
   rw [if_pos ⟨Nat.zero_le _,by rw [size_flatK,p1];omega⟩,Nat.sub_zero,get_flatK _ _ _ _ (by rw [p1];exact ht)]
   have e1:(i*k+j)/k=i:=by rw [Nat.mul_comm,Nat.mul_add_div hk0,Nat.div_eq_of_lt hjk];rfl
   have e2:(i*k+j)%k=j:=by rw [Nat.mul_comm,Nat.mul_add_mod,Nat.mod_eq_of_lt hjk]
   rw [e1,e2]
   have e3:d'[i]! =L'.getD i default:=by
    have hid:i<d'.size:=by omega
    rw [<-hLd,List.getD_eq_getElem?_getD];simp [getElem!_pos,hid]
   rw [e3]
   obtain ⟨hjl,hj2⟩:=List.getElem?_eq_some_iff.1 hj
   rw [<-hj2,getElem!_pos (enc (L'.getD i default)) j hjl];rfl
  ·cases hx
 ·simp only [Za.get,ZO] at hx hy
  split at hx
  ·rename_i hq
   split at hy
   ·rename_i hq'
    rw [<-Nat.eq_of_beq_eq_true hq,<-Nat.eq_of_beq_eq_true hq']
   ·cases hy
  ·cases hx
 ·have h0:=he.imm a cc hi
  have hlt:a.block<w.heap.size:=by
   rcases Nat.lt_or_ge a.block w.heap.size with hl|hg
   ·exact hl
   ·simp [World.cell?,Array.getElem?_eq_none hg] at h0
  simpa [World.cell?,hold _ hlt (hbn a cc hi)] using h0
 ·have:=(hown (H:=⟨1,[(0,.rows k n f')]⟩) (.inr rfl)).1 ⟨x,B,N,hx,hbx⟩
  exact hbn a cc hi this
end
end Go.Tk
end
section
namespace Go.Tk
open IntKind (i64 u8 u32 u64 wrap)
def Zbr:Go.Shelf.Ren:=⟨fun|6=>70|15=>117|14=>116|28=>156|29=>157|20=>148|21=>149|22=>150|23=>151|24=>152|25=>153|26=>154|27=>155|46=>174|47=>175|48=>176|49=>177|50=>178|57=>185|n=>n,fun|22=>69|24=>85|25=>144|3=>3|39=>196|0=>0|53=>209|55=>240|4=>4|46=>232|45=>231|50=>236|5=>5|9=>9|66=>258|70=>262|76=>273|77=>274|n=>n,fun|n=>n⟩
theorem ZkC:Go.Proofs.SlLaysF0.n6 PP Zbr:={
 mixed:=by kernel_rfl,
 f6:=⟨Go.Proofs.Tryz.f70.name,by decide,Go.Proofs.Tryz.func70.trans (congrArg some (by kernel_rfl))⟩,
 f14:=⟨Go.Proofs.Tryz.f116.name,by decide,Go.Proofs.Tryz.func116.trans (congrArg some (by kernel_rfl))⟩,
 f15:=Go.Proofs.Tryz.func117.trans (congrArg some (by kernel_rfl)),
 f20:=⟨Go.Proofs.Tryz.f148.name,by decide,Go.Proofs.Tryz.func148.trans (congrArg some (by kernel_rfl))⟩,
 f21:=⟨Go.Proofs.Tryz.f149.name,by decide,Go.Proofs.Tryz.func149.trans (congrArg some (by kernel_rfl))⟩,
 f22:=⟨Go.Proofs.Tryz.f150.name,by decide,Go.Proofs.Tryz.func150.trans (congrArg some (by kernel_rfl))⟩,
 f23:=⟨Go.Proofs.Tryz.f151.name,by decide,Go.Proofs.Tryz.func151.trans (congrArg some (by kernel_rfl))⟩,
 f24:=⟨Go.Proofs.Tryz.f152.name,by decide,Go.Proofs.Tryz.func152.trans (congrArg some (by kernel_rfl))⟩,
 f25:=⟨Go.Proofs.Tryz.f153.name,by decide,Go.Proofs.Tryz.func153.trans (congrArg some (by kernel_rfl))⟩,
 f26:=⟨Go.Proofs.Tryz.f154.name,by decide,Go.Proofs.Tryz.func154.trans (congrArg some (by kernel_rfl))⟩,
 f27:=⟨Go.Proofs.Tryz.f155.name,by decide,Go.Proofs.Tryz.func155.trans (congrArg some (by kernel_rfl))⟩,
 f28:=Go.Proofs.Tryz.func156.trans (congrArg some (by kernel_rfl)),
 f29:=Go.Proofs.Tryz.func157.trans (congrArg some (by kernel_rfl)),
 f46:=⟨Go.Proofs.Tryz.f174.name,by decide,Go.Proofs.Tryz.func174.trans (congrArg some (by kernel_rfl))⟩,
 f47:=Go.Proofs.Tryz.func175.trans (congrArg some (by kernel_rfl)),
 f48:=Go.Proofs.Tryz.func176.trans (congrArg some (by kernel_rfl)),
 f49:=⟨Go.Proofs.Tryz.f177.name,by decide,Go.Proofs.Tryz.func177.trans (congrArg some (by kernel_rfl))⟩,
 f50:=⟨Go.Proofs.Tryz.f178.name,by decide,Go.Proofs.Tryz.func178.trans (congrArg some (by kernel_rfl))⟩,
 f57:=⟨Go.Proofs.Tryz.f185.name,by decide,Go.Proofs.Tryz.func185.trans (congrArg some (by kernel_rfl))⟩,
 t0:=Go.Proofs.Tryz.underlying0,
 a0:=Go.Proofs.Tryz.isAgg0,
 z0:=Go.Proofs.Tryz.sizeOf0,
 v0:=Go.Proofs.Tryz.zeroValue0,
 t3:=Go.Proofs.Tryz.underlying3,
 a3:=Go.Proofs.Tryz.isAgg3,
 z3:=Go.Proofs.Tryz.sizeOf3,
 v3:=Go.Proofs.Tryz.zeroValue3,
 t4:=Go.Proofs.Tryz.underlying4,
 a4:=Go.Proofs.Tryz.isAgg4,
 z4:=Go.Proofs.Tryz.sizeOf4,
 v4:=Go.Proofs.Tryz.zeroValue4,
 t5:=Go.Proofs.Tryz.underlying5,
 a5:=Go.Proofs.Tryz.isAgg5,
 z5:=Go.Proofs.Tryz.sizeOf5,
 v5:=Go.Proofs.Tryz.zeroValue5,
 t9:=Go.Proofs.Tryz.underlying9,
 a9:=Go.Proofs.Tryz.isAgg9,
 z9:=Go.Proofs.Tryz.sizeOf9,
 v9:=Go.Proofs.Tryz.zeroValue9,
 t22:=Go.Proofs.Tryz.underlying69,
 a22:=Go.Proofs.Tryz.isAgg69,
 z22:=Go.Proofs.Tryz.sizeOf69,
 v22:=Go.Proofs.Tryz.zeroValue69,
 t25:=Go.Proofs.Tryz.underlying144,
 a25:=Go.Proofs.Tryz.isAgg144,
 z25:=Go.Proofs.Tryz.sizeOf144,
 v25:=Go.Proofs.Tryz.zeroValue144,
 t39:=Go.Proofs.Tryz.underlying196,
 a39:=Go.Proofs.Tryz.isAgg196,
 z39:=Go.Proofs.Tryz.sizeOf196,
 v39:=Go.Proofs.Tryz.zeroValue196,
 t45:=Go.Proofs.Tryz.underlying231,
 a45:=Go.Proofs.Tryz.isAgg231,
 z45:=Go.Proofs.Tryz.sizeOf231,
 v45:=Go.Proofs.Tryz.zeroValue231,
 t46:=Go.Proofs.Tryz.underlying232,
 a46:=Go.Proofs.Tryz.isAgg232,
 z46:=Go.Proofs.Tryz.sizeOf232,
 v46:=Go.Proofs.Tryz.zeroValue232,
 t50:=Go.Proofs.Tryz.underlying236,
 a50:=Go.Proofs.Tryz.isAgg236,
 z50:=Go.Proofs.Tryz.sizeOf236,
 v50:=Go.Proofs.Tryz.zeroValue236,
 t53:=Go.Proofs.Tryz.underlying209,
 a53:=Go.Proofs.Tryz.isAgg209,
 z53:=Go.Proofs.Tryz.sizeOf209,
 v53:=Go.Proofs.Tryz.zeroValue209,
 t55:=Go.Proofs.Tryz.underlying240,
 a55:=Go.Proofs.Tryz.isAgg240,
 z55:=Go.Proofs.Tryz.sizeOf240,
 v55:=Go.Proofs.Tryz.zeroValue240,
 t66:=Go.Proofs.Tryz.underlying258,
 a66:=Go.Proofs.Tryz.isAgg258,
 z66:=Go.Proofs.Tryz.sizeOf258,
 v66:=Go.Proofs.Tryz.zeroValue258,
 t70:=Go.Proofs.Tryz.underlying262,
 a70:=Go.Proofs.Tryz.isAgg262,
 z70:=Go.Proofs.Tryz.sizeOf262,
 v70:=Go.Proofs.Tryz.zeroValue262,
 t76:=Go.Proofs.Tryz.underlying273,
 a76:=Go.Proofs.Tryz.isAgg273,
 z76:=Go.Proofs.Tryz.sizeOf273,
 v76:=Go.Proofs.Tryz.zeroValue273,
 t77:=Go.Proofs.Tryz.underlying274,
 a77:=Go.Proofs.Tryz.isAgg274,
 z77:=Go.Proofs.Tryz.sizeOf274,
 v77:=Go.Proofs.Tryz.zeroValue274}
end Go.Tk
end
section
namespace Go.Tk
open IntKind (i64 u8 u32 u64 wrap)
def ZkD {α:Type} (lt:α->α->Bool) (x:α):List α->List α
 | []=>[x]
 | y::r=>match lt x y with
  | true=>x::y::r
  | false=>y::ZkD lt x r
def ZhP {α:Type} (lt:α->α->Bool):List α->List α->List α
 | acc,[]=>acc
 | acc,x::r=>ZhP lt (ZkD lt x acc) r
def Z8G {α:Type} (lt:α->α->Bool) (l:List α):Prop:=l.Pairwise fun a b=>lt b a=false
theorem Z1v {α:Type} {lt:α->α->Bool}:∀{l m:List α},l.Perm m->Z8G lt l->Z8G lt m->(∀a∈l,∀b∈l,lt a b=false->lt b a=false->a=b)->l=m
 | [],m,hp,_,_,_=>by simpa using hp.symm
 | x::r,[],hp,_,_,_=>by simp at hp
 | x::r,y::q,hp,hl,hm,hu=>by
  unfold Z8G at hl hm
  rw [List.pairwise_cons] at hl hm
  have hyx:y=x:=by
   by_cases e:y=x
   ·exact e
   ·have hx:x∈q:=by
     have:=hp.subset (List.mem_cons_self ..)
     rcases List.mem_cons.1 this with h|h
     ·exact absurd h.symm e
     ·exact h
    have hy:y∈r:=by
     have:=hp.symm.subset (List.mem_cons_self ..)
     rcases List.mem_cons.1 this with h|h
     ·exact absurd h e
     ·exact h
    exact hu y (List.mem_cons_of_mem _ hy) x (List.mem_cons_self ..) (hl.1 y hy) (hm.1 x hx)
  subst hyx
  rw [List.perm_cons] at hp
  rw [Z1v hp hl.2 hm.2 fun a ha b hb=>hu a (List.mem_cons_of_mem _ ha) b (List.mem_cons_of_mem _ hb)]
end Go.Tk
end
section
namespace Go.Tk
open IntKind (i64 u8 u32 u64 wrap)
def WX (h:Z7):Int:=match h.own with
 | true=>0
 | false=>1
def Z6Z (a b:Int):Int:=if a<b then -1 else if b<a then 1 else 0
def cfH (a b:Z7):Int:=if Z6Z (WX a) (WX b)≠0 then Z6Z (WX a) (WX b) else Z6Z a.id b.id
theorem Zbs (b:Bool) (x:Prop):Z0 b x x=x:=by cases b<;>rfl
theorem Zmw (p q:Z7) (r:Int) (hr:r=cfH p q):
  evF G0 20 71 [.agg p.c,.agg q.c] ⟨0,[]⟩ (Yo (fun v=>v=.int .i64 r)):=by
 refine @Eq.mpr _ (let q1:=p.id;let q2:=q1 !=q1;let q3:=q.id;let q4:=q3 !=q3;let q5:=AV.int i64 r;let q6:=AV.int i64 0=q5;let q7:=AV.int i64 (-1)=q5;let q8:=AV.int i64 1=q5;let q9:=decide (q1<q3);let q10:=decide (q1>q3);let q11:=Z0 q2 (Z0 q4 q6 q7) (Z0 q4 q8 (Z0 q9 q7 (Z0 q10 q8 q6)));
 Z0 p.own (Z0 q.own q11 (Z0 q2 (Z0 q4 q7 q7) (Z0 q4 q7 (Z0 q9 q7 (Z0 q10 q7 q7))))) (Z0 q.own (Z0 q2 (Z0 q4 q8 q8) (Z0 q4 q8 (Z0 q9 q8 (Z0 q10 q8 q8)))) q11)) (by kernel_rfl) ?_
 conv=>zeta
 subst hr
 simp only [bne_self_eq_false,Zdk,Zbs]
 unfold cfH WX Z6Z
 simp only [Zdl]
 congr 1
 cases p.own<;>cases q.own<;>by_cases h1:p.id<q.id<;>by_cases h2:q.id<p.id<;>simp [h1,h2]
def ltH (a b:Z7):Bool:=Go.Proofs.ltOf cfH a b
theorem Z26 (a b:Z7):ltH a b=true↔WX a<WX b\/(WX a=WX b/\a.id<b.id):=by
 unfold ltH Go.Proofs.ltOf cfH Z6Z
 rw [decide_eq_true_iff]
 split<;>split<;>(try split)<;>(try split)<;>omega
theorem Z18 (a b:Z7):ltH a b=false↔¬(WX a<WX b\/(WX a=WX b/\a.id<b.id)):=by
 rw [<-Z26,Bool.not_eq_true]
theorem Zgl:Go.Sort.SWO (Go.Proofs.ltOf cfH) where
 irrefl x:=by rw [show Go.Proofs.ltOf cfH x x=ltH x x from rfl,Z18];omega
 trans x y z h1 h2:=by
  rw [show Go.Proofs.ltOf cfH x z=ltH x z from rfl,Z26]
  have a:=(Z26 x y).1 h1
  have b:=(Z26 y z).1 h2
  omega
 ntrans x y z h1 h2:=by
  rw [show Go.Proofs.ltOf cfH x z=ltH x z from rfl,Z18]
  have a:=(Z18 x y).1 h1
  have b:=(Z18 y z).1 h2
  omega
def Zgm (h:Z7):List Value:=.bool h.own::.int .i64 h.id::.int .i64 h.amount::(intCells .u8 32 h.hash++(.int .i64 h.expiry::.int .i64 h.stage::.int .i64 h.fin::(intCells .u8 32 h.secret++[])))
theorem Z3r (E:Env) (h:Z7):Zw E h.c (Zgm h):=
 .one _ _ _ _ rfl rfl (.bool _) (.one _ _ _ _ rfl rfl (.int _ _) (.one _ _ _ _ rfl rfl (.int _ _) (.arr _ _ _ _ _ (.one _ _ _ _ rfl rfl (.int _ _) (.one _ _ _ _ rfl rfl (.int _ _) (.one _ _ _ _ rfl rfl (.int _ _) (.arr _ _ _ _ _ .nil)))))))
theorem Zgn (E:Env) (h:Z7) (vs:List Value) (hc:Zw E h.c vs):vs=Zgm h:=by
 unfold Z7.c at hc
 obtain ⟨c1,w0,rfl,_,_,h1,k0⟩:=hc.cons_cell (by intros;simp)
 obtain ⟨c2,w1,rfl,_,_,h2,k1⟩:=k0.cons_cell (by intros;simp)
 obtain ⟨c3,w2,rfl,_,_,h3,k2⟩:=k1.cons_cell (by intros;simp)
 obtain ⟨w3,rfl,k3⟩:=k2.cons_arr
 obtain ⟨c4,w4,rfl,_,_,h4,k4⟩:=k3.cons_cell (by intros;simp)
 obtain ⟨c5,w5,rfl,_,_,h5,k5⟩:=k4.cons_cell (by intros;simp)
 obtain ⟨c6,w6,rfl,_,_,h6,k6⟩:=k5.cons_cell (by intros;simp)
 obtain ⟨w7,rfl,k7⟩:=k6.cons_arr
 cases k7
 cases h1;cases h2;cases h3;cases h4;cases h5;cases h6
 rfl
instance:Inhabited Z7:=⟨Zc⟩
theorem ZkE:∃(E:Env),True:=⟨⟨fun _=>none,fun _ _=>False⟩,trivial⟩
theorem ZdH (h:Z7):(Zgm h).length=70:=by
 obtain ⟨E,_⟩:=ZkE
 have:=(Z3r E h).length
 simpa [Z7.c,csz] using this
theorem ZdI (h:Z7):∀v∈Zgm h,v.oneCell'=true:=by
 obtain ⟨E,_⟩:=ZkE
 exact (Z3r E h).all_one
structure XO (L L':List Z7) (n:Nat):Prop where
 hn:L.length=n
 pos:0<n
 lt:n<1000
 perm:L'.Perm L
 ord:Z8G ltH L'
 uniq:∀a∈L',∀b∈L',ltH a b=false->ltH b a=false->a=b
theorem ZdJ {L L':List Z7} {n lo:Nat} {f:Nat->List AV} (hf:∀i,i<n->f i=Z6 L i) (h:XO L L' n):Spec PP 70 [.nslice ⟨0,0,70,0,0⟩ 70 n lo,.func (.func 71) [] []] ⟨1,[(0,.rows 70 n f)]⟩ (.ret (.tuple [])) 1 [(0,.rows 70 n (Z6 L'))]:=
 Zbq (L:=ZkC) (k:=70) Go.Proofs.Tryz.isAgg85 Go.Proofs.Tryz.sizeOf85 (c:=Z7.c) ZdH (by decide) ZdI Zgn Z3r Zgl (g:=71)
  (fun _ _=>Go.Proofs.enters_of Go.Proofs.Tryz.func71 (by kernel_rfl) rfl _ _) (fun x y=>ZC.evV Zv (Zmw x y _ rfl)) h.hn h.pos (by have:=h.lt;omega) hf (fun _ _=>rfl)
  (fun l' hp ho=>(Z1v (lt:=ltH) (h.perm.trans hp.symm) h.ord ho h.uniq).symm)
def Z8H:Yf:=fun args h K=>match args with
 | [.nslice ⟨b,0,70,0,0⟩ 70 _ _,_]=>frA [b] h 20 args fun Bs a=>match Bs,a with
  | [.rows 70 n f],[.nslice ⟨0,0,70,0,0⟩ 70 n' _,.func (.func 71) [] []]=>∃L L',n'=n/\(∀i,i<n->f i=Z6 L i)/\XO L L' n/\K (.ret (.tuple [])) ⟨h.next,(b,.rows 70 n (Z6 L'))::Yc h.bs b⟩
  | _,_=>False
 | _=>False
theorem Zbt (args:List AV) (h:Za) (K:KO) (hl:Z8H args h K):Zp PP 70 args h K:=by
 unfold Z8H at hl
 split at hl
 ·refine Spec.fsumm hl fun Bs a hlen hK0=> ?_
  split at hK0
  ·obtain ⟨L,L',rfl,hf,hs,hK⟩:=hK0
   exact ⟨_,_,_,_,_,ZdJ hf hs,Nat.le_refl _,.ret _ _ rfl,.cons _ _ _ _ _ _ rfl (.rows _ _ _ (fun i _=>Xv _ i)) .nil,hK⟩
  ·exact hK0.elim
 ·exact hl.elim
end Go.Tk
end
section
namespace Go.Tk
open IntKind (i64 u8 u32 u64 wrap)
theorem ZkF (N:Nat) (L:List Z7) (hN:N+1<1000000):
  evF G0 20 69 [.vrows 70 (N+1) (Z6 L) (N+1)] ⟨0,[]⟩ (Y5 0 (.ret (.nslice ⟨0,0,70,0,0⟩ 70 (N+1) (N+1))) 1 [(0,.rows 70 (N+1) (Z6 L))]):=by
 refine @Eq.mpr _ (let q1:=N+1;let q2:=0+q1;let q3:=decide (q2=q1);
 Z0 (decide (q2*112<=140737488355328)) (Z0 q3 (Z0 (decide (q1<=q2)) (Z0 q3 (Zb 0 [(0,0)] q1 (Z6 L) (Y2 0 (fun (x:Nat)=>[]) (Z6 L))/\True) False) False) False) False) (by kernel_rfl) ?_
 conv=>zeta
 try simp only [Zj]
 try simp only [Zl]
 try simp only [Zi]
 try simp only [Zm]
 try simp only [Zn]
 try simp only [Zh]
 try simp only [Int.toNat_natCast,Nat.zero_add,true_and,and_true,Nat.le_refl]
 repeat' apply And.intro
 all_goals first|omega|exact Zo fun i hi=>by rw [Z1Z (Nat.zero_le _)];rfl
theorem ZkG (L:List Z7) :
  evF G0 20 69 [.nilslice] ⟨0,[]⟩ (Y5 0 (.ret (.nslice ⟨0,0,70,0,0⟩ 70 0 0)) 1 [(0,.rows 70 0 (Z6 L))]):=by
 refine @Eq.mpr _ (True) (by kernel_rfl) ?_
 trivial
theorem ZkH (L:List Z7) :
  evF G0 20 69 [.fslice] ⟨0,[]⟩ (Y5 0 (.ret (.nslice ⟨0,0,70,0,0⟩ 70 0 0)) 1 [(0,.rows 70 0 (Z6 L))]):=by
 refine @Eq.mpr _ (Zb 0 [(0,0)] 0 (Z6 L) (Y2 0 (fun (x:Nat)=>[]) fun (x:Nat)=>[])/\True) (by kernel_rfl) ?_
 try simp only [Zj]
 try simp only [Zl]
 try simp only [Zi]
 try simp only [Zm]
 try simp only [Zn]
 try simp only [Zh]
 try simp only [Int.toNat_natCast,Nat.zero_add,true_and,and_true,Nat.le_refl]
 first|exact Zo fun i hi=>by omega|exact ⟨Zo fun i hi=>by omega,trivial⟩
theorem ZdK (N:Nat) (L:List Z7) (hN:N<1000000):ZC PP 69 [.vrows 70 N (Z6 L) N] (.nslice ⟨0,0,70,0,0⟩ 70 N N) 1 [(0,.rows 70 N (Z6 L))]:=by
 cases N with
 | zero=>exact ZC.vrows0 (.evM Zv (ZkG L)) (.evM Zv (ZkH L))
 | succ n=>exact .evM Zv (ZkF n L hN)
def Zjb:Yf:=fun args h K=>ZU none h true 20 args fun a=>match a with
 | [.vrows 70 n f m]=>∃L,m=n/\f=Z6 L/\n<1000000/\K (.ret (.nslice ⟨h.next,0,70,0,0⟩ 70 n n)) ⟨h.next+1,(h.next,.rows 70 n (Z6 L))::h.bs⟩
 | _=>False
theorem Z9R (args:List AV) (h:Za) (K:KO) (hl:Zjb args h K):Zp PP 69 args h K:=by
 refine ZC.fsumm (d:=20) (Zu _ _ _ _ _ hl fun a ha=> ?_)
 split at ha
 ·obtain ⟨L,rfl,rfl,hN,hK⟩:=ha
  exact ⟨_,_,_,_,ZdK _ L hN,rfl,⟨Nat.one_pos,.rows _ _ _ (fun i _=>Xv _ i),trivial⟩,hK⟩
 ·exact ha.elim
end Go.Tk
end
section
namespace Go.Tk
open IntKind (i64 u8 u32 u64 wrap)
noncomputable def ZdL:Zg:=((((G0.withP 66 Z5I).withP 30 Zj3).withF 68 Z3p).withF 69 Zjb).withF 70 Z8H
theorem Z27:ZdL.Ok:=Zg.withF_ok (Zg.withF_ok (Zg.withF_ok (Zg.withP_ok (Zg.withP_ok Zv Z4L) Z9M) Q6) Z9R) Zbt
def Z5O (X:Z8) (n:Nat):Za:=⟨2,[(0,.flat (X.c (.nslice ⟨1,0,70,0,0⟩ 70 n n))),(1,.rows 70 n (Z6 X.L))]⟩
theorem ZhQ (L:List Z7) (h:Z7) (n:Nat) (hn:L.length=n):(∀i,i<n+1->Yy (Y2 n (Z6 L) (YQ h.c 0 70) i)=true)/\∀i,i<n+1->Y2 n (Z6 L) (YQ h.c 0 70) i=Z6 (L++[h]) i:=by
 have h2:∀i,i<n+1->Y2 n (Z6 L) (YQ h.c 0 70) i=Z6 (L++[h]) i:=fun i hi=>Yt hn (fun _ _=>rfl) hi
 exact ⟨fun i hi=>by rw [h2 i hi];exact Xv _ _,h2⟩
structure Z70 (X:Z8):Prop where
 cap:X.t.cap≠0
 side:X.side=0\/X.side=1
 am:Z1N X
 nx:(0<=X.i0/\X.i0<=2147483648)/\0<=X.i1/\X.i1<=2147483648
theorem Z8I (X:Z8) (n:Nat) (id am ex e:Int) (hash:List Int) (hn:X.L.length=n) (hX:Z70 X) (he:e=XH X true id am hash ex) (hne:e≠0):
  evF ZdL 20 20 [.ptr (some ⟨0,0,0,0,0⟩),.bool true,.int .i64 id,.int .i64 am,.agg [.arr .u8 32 hash],.int .i64 ex] (Z5O X n) (Y5 2 (.ret (.int .i64 e)) 2 [(0,.flat (X.c (.nslice ⟨1,0,70,0,0⟩ 70 n n))),(1,.rows 70 n (Z6 X.L))]):=by
 refine @Eq.mpr _ (let q1:=X.t;let q2:=q1.cap;let q3:=q1.fund;let q4:=q3=q3;let q5:=q1.index;let q6:=decide (q5=q5);let q7:=decide (q2=q2);let q8:=q1.dust;let q9:=decide (q8=q8);let q10:=q1.fee;let q11:=decide (q10=q10);let q12:=q1.delay;let q13:=decide (q12=q12);let q14:=q1.k0;let q15:=q14=q14;let q16:=q1.k1;let q17:=q16=q16;let q18:=X.side;let q19:=decide (q18=q18);let q20:=X.res;let q21:=decide (q20=q20);let q22:=[X.a0,X.a1];let q23:=q22=q22;let q24:=X.i0;let q25:=[X.i1];let q26:=q24::q25;let q27:=decide (n=n);let q28:=Z6 X.L;let q29:=q4/\Z0 q6 (Z0 q7 (Z0 q9 (Z0 q11 (Z0 q13 (q15/\q17/\Z0 q19 (Z0 q21 (q23/\q26=q26/\Z0 q27 (Z0 (decide (n<=n)) (Z0 q27 (Zb 2 [] n q28 q28/\True) False) False) False) False) False) False) False) False) False) False;let q30:=decide (0+n<=n);let q31:=ZT 0 q28;let q32:=n+1;let q33:=YQ [AV.bool true,AV.int i64 id,AV.int i64 am,AV.arr u8 32 hash,AV.int i64 ex,AV.int i64 1,AV.int i64 0,AV.arr u8 32 Zf] 0 70;
 Z0 (q2==0) (Z0 (decide (1=e)) q29 False)
 (Z0 q30
 ((∀(i:Nat),i<n->true=true)/\
 ∃(X:Z8),
 let q67:=[AV.arr u8 32 q3,AV.int i64 q5,AV.int i64 q2,AV.int i64 q8,AV.int i64 q10,AV.int i64 q12,AV.arr u8 32 q14,AV.arr u8 32 q16,AV.int i64 q18,AV.int i64 q20,AV.arr i64 2 q22,AV.arr i64 2 q26,AV.vrows 70 n q31 n];let q68:=X.side;
 LV q67 X/\
 (0<=q68/\q68<=1)/\
 List.length X.L<1000/\
 Z0 (decide (q24=q24))
 (Z0 q30
 ((∀(i:Nat),i<n->true=true)/\
 ∃(X_1:Z8),
 LV q67 X_1/\
 (0<=X_1.side/\X_1.side<=1)/\
 (q18=0\/q18=1)/\
 Z1N X_1/\
 Z0 (!Yp (Z7.mk true id am hash ex 1 0 Zf)) (Z0 (decide (2=e)) q29 False)
 (Z0 (id !=q24) (Z0 (decide (200=e)) q29 False)
 (Z0 (decide ((↑(List.length (ZP q68 q18 X.L)):Int)>=8)) (Z0 (decide (201=e)) q29 False)
 (Z0 (decide (Yl X_1 q18<am)) (Z0 (decide (202=e)) q29 False)
 (Z0 q30 ((∀(i:Nat),i<n->true=true)/\∃(L:List Z7),n=n/\q31=Z6 L/\n<1000000/\Z0 (decide (id=id)) (Z0 (decide (am=am)) (hash=hash/\Z0 (decide (ex=ex)) (Zf=Zf/\Z0 q27 (Z0 (decide (q32*112<=140737488355328)) ((∀(i:Nat),i<q32->Yy (Y2 n (Z6 L) q33 i)=true)/\∃(L_1:List Z7),∃(L':List Z7),q32=q32/\(∀(i:Nat),i<q32->Y2 n (Z6 L) q33 i=Z6 L_1 i)/\XO L_1 L' q32/\Z0 (decide (0=e)) (q4/\Z0 q6 (Z0 q7 (Z0 q9 (Z0 q11 (Z0 q13 (q15/\q17/\Z0 q19 (Z0 q21 (q23/\wrap i64 (q24+1)::q25=q26/\False) False) False) False) False) False) False) False) False) False) False) False) False) False) False/\
 Z0 q27 (Z0 q27 (Z0 q30 ((∀(i:Nat),i<n->true=true)/\∃(L:List Z7),n=n/\q31=Z6 L/\n<1000000/\Z0 q27 (Z0 (decide (q32*112<=140737488355328)) ((∀(i:Nat),i<q32->Yy (Y2 n (Z6 L) q33 i)=true)/\∃(L_1:List Z7),∃(L':List Z7),q32=q32/\(∀(i:Nat),i<q32->Y2 n (Z6 L) q33 i=Z6 L_1 i)/\XO L_1 L' q32/\Z0 (decide (0=e)) (q4/\Z0 q6 (Z0 q7 (Z0 q9 (Z0 q11 (Z0 q13 (q15/\q17/\Z0 q19 (Z0 q21 (q23/\wrap i64 (q24+1)::q25=q26/\False) False) False) False) False) False) False) False) False) False) False) False) False) False)))))
 False)
 False)
 False)) (by kernel_rfl) ?_
 conv=>zeta
 subst hn
 have hlen:=hX.am.n
 have hs01:0<=X.side/\X.side<=1:=by have:=hX.side;omega
 have hwf:i64.wrap (1-X.side)=1-X.side:=w64 (by omega)
 try rw [hwf]
 have hsf:X.side=0\/X.side=1:=by have:=hX.side;omega
 have hp:Yp ⟨true,id,am,hash,ex,1,0,Zf⟩=Yp (Xf X true id am hash ex):=rfl
 rw [hp]
 try simp only [Zj]
 try simp only [Zl]
 try simp only [Zi]
 try simp only [Zm]
 try simp only [Zn]
 try simp only [Zh]
 try simp only [Int.toNat_natCast,Nat.zero_add,true_and,and_true,Nat.le_refl]
 unfold XH at he
 have hf:ZD X.side true=X.side:=rfl
 have hnx:X.nx true=X.i0:=rfl
 rw [hf,hnx] at he
 have hR:Zb 2 [] X.L.length (Z6 X.L) (Z6 X.L):=Zo fun _ _=>rfl
 refine ⟨fun hc=>absurd hc (by simp [hX.cap]),fun _=>⟨fun _ _=>trivial,X,.a rfl,hs01,hlen,fun _ _=>trivial,X,.a rfl,hs01,hsf,hX.am,fun k=>⟨?_,hR⟩,fun k1=>⟨fun k=>⟨?_,hR⟩,fun k2=>⟨fun k=>⟨?_,hR⟩,fun k3=>⟨fun k=>⟨?_,hR⟩,fun k4=> ?_⟩⟩⟩⟩⟩
 ·rw [he,if_pos (by simpa using k)]
 ·rw [he,if_neg (by simpa using k1),if_pos (by simpa using k)]
 ·rw [he,if_neg (by simpa using k1),if_neg (by simpa using k2),if_pos (by omega)]
 ·rw [he,if_neg (by simpa using k1),if_neg (by simpa using k2),if_neg (by omega),if_pos k]
 ·exact absurd (by rw [he,if_neg (by simpa using k1),if_neg (by simpa using k2),if_neg (by omega),if_neg k4]) hne
theorem Z8J (X X':Z8) (n:Nat) (id am ex:Int) (hash:List Int) (hn:X.L.length=n) (hX:Z70 X) (he:XH X true id am hash ex=0) (hX':X'=addX X true id am hash ex) (hs:XO (X.L++[Xf X true id am hash ex]) X'.L (n+1)):
  evF ZdL 20 20 [.ptr (some ⟨0,0,0,0,0⟩),.bool true,.int .i64 id,.int .i64 am,.agg [.arr .u8 32 hash],.int .i64 ex] (Z5O X n) (Y5 2 (.ret (.int .i64 0)) 3 [(0,.flat (X'.c (.nslice ⟨2,0,70,0,0⟩ 70 (n+1) (n+1)))),(2,.rows 70 (n+1) (Z6 X'.L))]):=by
 refine @Eq.mpr _ (let q1:=X.t;let q2:=q1.cap;let q3:=decide (0+n<=n);let q4:=q1.fund;let q5:=q1.index;let q6:=q1.dust;let q7:=q1.fee;let q8:=q1.delay;let q9:=q1.k0;let q10:=q1.k1;let q11:=X.side;let q12:=[X.a0,X.a1];let q13:=X.i0;let q14:=[X.i1];let q15:=ZT 0 (Z6 X.L);let q16:=decide (n=n);let q17:=n+1;let q18:=YQ [AV.bool true,AV.int i64 id,AV.int i64 am,AV.arr u8 32 hash,AV.int i64 ex,AV.int i64 1,AV.int i64 0,AV.arr u8 32 Zf] 0 70;let q19:=X'.t;let q20:=decide (q17=q17);
 Z0 (q2==0) False
 (Z0 q3
 ((∀(i:Nat),i<n->true=true)/\
 ∃(X_1:Z8),
 let q41:=[AV.arr u8 32 q4,AV.int i64 q5,AV.int i64 q2,AV.int i64 q6,AV.int i64 q7,AV.int i64 q8,AV.arr u8 32 q9,AV.arr u8 32 q10,AV.int i64 q11,AV.int i64 X.res,AV.arr i64 2 q12,AV.arr i64 2 (q13::q14),AV.vrows 70 n q15 n];let q42:=X_1.side;
 LV q41 X_1/\
 (0<=q42/\q42<=1)/\
 List.length X_1.L<1000/\
 Z0 (decide (q13=q13))
 (Z0 q3
 ((∀(i:Nat),i<n->true=true)/\
 ∃(X_2:Z8),
 LV q41 X_2/\
 (0<=X_2.side/\X_2.side<=1)/\
 (q11=0\/q11=1)/\
 Z1N X_2/\
 Z0 (!Yp (Z7.mk true id am hash ex 1 0 Zf)) False
 (Z0 (id !=q13) False
 (Z0 (decide ((↑(List.length (ZP q42 q11 X_1.L)):Int)>=8)) False
 (Z0 (decide (Yl X_2 q11<am)) False
 (Z0 q3
 ((∀(i:Nat),i<n->true=true)/\
 ∃(L:List Z7),n=n/\q15=Z6 L/\n<1000000/\Z0 (decide (id=id)) (Z0 (decide (am=am)) (hash=hash/\Z0 (decide (ex=ex)) (Zf=Zf/\Z0 q16 (Z0 (decide (q17*112<=140737488355328)) ((∀(i:Nat),i<q17->Yy (Y2 n (Z6 L) q18 i)=true)/\∃(L_1:List Z7),∃(L':List Z7),q17=q17/\(∀(i:Nat),i<q17->Y2 n (Z6 L) q18 i=Z6 L_1 i)/\XO L_1 L' q17/\q4=q19.fund/\Z0 (decide (q5=q19.index)) (Z0 (decide (q2=q19.cap)) (Z0 (decide (q6=q19.dust)) (Z0 (decide (q7=q19.fee)) (Z0 (decide (q8=q19.delay)) (q9=q19.k0/\q10=q19.k1/\Z0 (decide (q11=X'.side)) (Z0 (decide (X.res=X'.res)) (q12=[X'.a0,X'.a1]/\wrap i64 (q13+1)::q14=[X'.i0,X'.i1]/\Z0 q20 (Z0 (decide (q17<=q17)) (Z0 q20 (Zb 2 [(2,14)] q17 (Z6 X'.L) (Z6 L')/\True) False) False) False) False) False) False) False) False) False) False) False) False) False) False) False)
 False/\
 Z0 q16 (Z0 q16 (Z0 q3 ((∀(i:Nat),i<n->true=true)/\∃(L:List Z7),n=n/\q15=Z6 L/\n<1000000/\Z0 q16 (Z0 (decide (q17*112<=140737488355328)) ((∀(i:Nat),i<q17->Yy (Y2 n (Z6 L) q18 i)=true)/\∃(L_1:List Z7),∃(L':List Z7),q17=q17/\(∀(i:Nat),i<q17->Y2 n (Z6 L) q18 i=Z6 L_1 i)/\XO L_1 L' q17/\q4=q19.fund/\Z0 (decide (q5=q19.index)) (Z0 (decide (q2=q19.cap)) (Z0 (decide (q6=q19.dust)) (Z0 (decide (q7=q19.fee)) (Z0 (decide (q8=q19.delay)) (q9=q19.k0/\q10=q19.k1/\Z0 (decide (q11=X'.side)) (Z0 (decide (X.res=X'.res)) (q12=[X'.a0,X'.a1]/\wrap i64 (q13+1)::q14=[X'.i0,X'.i1]/\Z0 q20 (Z0 (decide (q17<=q17)) (Z0 q20 (Zb 2 [(2,14)] q17 (Z6 X'.L) (Z6 L')/\True) False) False) False) False) False) False) False) False) False) False) False) False) False) False) False)))))
 False)
 False)
 False)) (by kernel_rfl) ?_
 conv=>zeta
 subst hn
 have hlen:=hX.am.n
 have hs01:0<=X.side/\X.side<=1:=by have:=hX.side;omega
 have hwf:i64.wrap (1-X.side)=1-X.side:=w64 (by omega)
 try rw [hwf]
 have hsf:X.side=0\/X.side=1:=by have:=hX.side;omega
 have hp:Yp ⟨true,id,am,hash,ex,1,0,Zf⟩=Yp (Xf X true id am hash ex):=rfl
 rw [hp]
 have ht:=ZhQ X.L (Xf X true id am hash ex) _ rfl
 have hX2:X'={ XI X true 1 with L:=Xu (Xf X true id am hash ex) X.L}:=by rw [hX'];unfold addX;rw [if_pos he]
 generalize Xu (Xf X true id am hash ex) X.L=L2 at hX2
 subst hX2
 have hwi:i64.wrap (X.i0+1)=X.i0+1:=w64 (by have:=hX.nx;omega)
 try simp only [Zj]
 try simp only [Zl]
 try simp only [Zi]
 try simp only [Zm]
 try simp only [Zn]
 try simp only [Zh]
 try simp only [Int.toNat_natCast,Nat.zero_add,true_and,and_true,Nat.le_refl]
 unfold XH at he
 have hf:ZD X.side true=X.side:=rfl
 have hnx:X.nx true=X.i0:=rfl
 rw [hf,hnx] at he
 have hno:Yp (Xf X true id am hash ex)=true/\id=X.i0/\¬8<=(ZP X.side (X.side) X.L).length/\¬Yl X (X.side)<am:=by
  split at he
  ·cases he
  ·rename_i q1
   split at he
   ·cases he
   ·rename_i q2
    split at he
    ·cases he
    ·rename_i q3
     split at he
     ·cases he
     ·rename_i q4
      exact ⟨by simpa using q1,by simpa using q2,q3,q4⟩
 obtain ⟨k1,k2,k3,k4⟩:=hno
 have hR:∀τ,Zb 2 τ (X.L.length+1) (Z6 L2) (Z6 L2):=fun τ=>Zo fun _ _=>rfl
 have hcap:=hX.cap
 have k3':¬((ZP X.side (X.side) X.L).length:Int)>=8:=by omega
 refine ⟨by simp [hcap],fun _ _=>trivial,X,.a rfl,hs01,hlen,fun _ _=>trivial,X,.a rfl,hs01,hsf,hX.am,by simp [k1],by simp [k2],k3',k4, ?_, ?_⟩
 all_goals exact ⟨fun _ _=>trivial,X.L,rfl,by omega,by omega,ht.1,X.L++[Xf X true id am hash ex],L2,ht.2,hs,rfl,rfl,rfl,rfl,rfl,rfl,rfl,rfl,rfl,rfl,rfl,by rw [hwi];rfl,hR _⟩
theorem Z71 (X:Z8) (n:Nat) (id am ex e:Int) (hash:List Int) (hn:X.L.length=n) (hX:Z70 X) (he:e=XH X false id am hash ex) (hne:e≠0):
  evF ZdL 20 20 [.ptr (some ⟨0,0,0,0,0⟩),.bool false,.int .i64 id,.int .i64 am,.agg [.arr .u8 32 hash],.int .i64 ex] (Z5O X n) (Y5 2 (.ret (.int .i64 e)) 2 [(0,.flat (X.c (.nslice ⟨1,0,70,0,0⟩ 70 n n))),(1,.rows 70 n (Z6 X.L))]):=by
 refine @Eq.mpr _ (let q1:=X.t;let q2:=q1.cap;let q3:=q1.fund;let q4:=q3=q3;let q5:=q1.index;let q6:=decide (q5=q5);let q7:=decide (q2=q2);let q8:=q1.dust;let q9:=decide (q8=q8);let q10:=q1.fee;let q11:=decide (q10=q10);let q12:=q1.delay;let q13:=decide (q12=q12);let q14:=q1.k0;let q15:=q14=q14;let q16:=q1.k1;let q17:=q16=q16;let q18:=X.side;let q19:=decide (q18=q18);let q20:=X.res;let q21:=decide (q20=q20);let q22:=[X.a0,X.a1];let q23:=q22=q22;let q24:=X.i1;let q25:=[X.i0,q24];let q26:=decide (n=n);let q27:=Z6 X.L;let q28:=q4/\Z0 q6 (Z0 q7 (Z0 q9 (Z0 q11 (Z0 q13 (q15/\q17/\Z0 q19 (Z0 q21 (q23/\q25=q25/\Z0 q26 (Z0 (decide (n<=n)) (Z0 q26 (Zb 2 [] n q27 q27/\True) False) False) False) False) False) False) False) False) False) False;let q29:=decide (0+n<=n);let q30:=ZT 0 q27;let q31:=wrap i64 (1-q18);let q32:=n+1;let q33:=YQ [AV.bool false,AV.int i64 id,AV.int i64 am,AV.arr u8 32 hash,AV.int i64 ex,AV.int i64 1,AV.int i64 0,AV.arr u8 32 Zf] 0 70;
 Z0 (q2==0) (Z0 (decide (1=e)) q28 False)
 (Z0 q29
 ((∀(i:Nat),i<n->true=true)/\
 ∃(X_1:Z8),
 let q67:=[AV.arr u8 32 q3,AV.int i64 q5,AV.int i64 q2,AV.int i64 q8,AV.int i64 q10,AV.int i64 q12,AV.arr u8 32 q14,AV.arr u8 32 q16,AV.int i64 q18,AV.int i64 q20,AV.arr i64 2 q22,AV.arr i64 2 q25,AV.vrows 70 n q30 n];let q68:=X_1.side;
 LV q67 X_1/\
 (0<=q68/\q68<=1)/\
 List.length X_1.L<1000/\
 Z0 (decide (q24=q24))
 (Z0 q29
 ((∀(i:Nat),i<n->true=true)/\
 ∃(X_2:Z8),
 LV q67 X_2/\
 (0<=X_2.side/\X_2.side<=1)/\
 (q31=0\/q31=1)/\
 Z1N X_2/\
 Z0 (!Yp (Z7.mk false id am hash ex 1 0 Zf)) (Z0 (decide (2=e)) q28 False)
 (Z0 (id !=q24) (Z0 (decide (200=e)) q28 False)
 (Z0 (decide ((↑(List.length (ZP q68 q31 X_1.L)):Int)>=8)) (Z0 (decide (201=e)) q28 False)
 (Z0 (decide (Yl X_2 q31<am)) (Z0 (decide (202=e)) q28 False)
 (Z0 q29 ((∀(i:Nat),i<n->true=true)/\∃(L:List Z7),n=n/\q30=Z6 L/\n<1000000/\Z0 (decide (id=id)) (Z0 (decide (am=am)) (hash=hash/\Z0 (decide (ex=ex)) (Zf=Zf/\Z0 q26 (Z0 (decide (q32*112<=140737488355328)) ((∀(i:Nat),i<q32->Yy (Y2 n (Z6 L) q33 i)=true)/\∃(L_1:List Z7),∃(L':List Z7),q32=q32/\(∀(i:Nat),i<q32->Y2 n (Z6 L) q33 i=Z6 L_1 i)/\XO L_1 L' q32/\Z0 (decide (0=e)) (q4/\Z0 q6 (Z0 q7 (Z0 q9 (Z0 q11 (Z0 q13 (q15/\q17/\Z0 q19 (Z0 q21 (q23/\[X.i0,wrap i64 (q24+1)]=q25/\False) False) False) False) False) False) False) False) False) False) False) False) False) False) False/\
 Z0 q26 (Z0 q26 (Z0 q29 ((∀(i:Nat),i<n->true=true)/\∃(L:List Z7),n=n/\q30=Z6 L/\n<1000000/\Z0 q26 (Z0 (decide (q32*112<=140737488355328)) ((∀(i:Nat),i<q32->Yy (Y2 n (Z6 L) q33 i)=true)/\∃(L_1:List Z7),∃(L':List Z7),q32=q32/\(∀(i:Nat),i<q32->Y2 n (Z6 L) q33 i=Z6 L_1 i)/\XO L_1 L' q32/\Z0 (decide (0=e)) (q4/\Z0 q6 (Z0 q7 (Z0 q9 (Z0 q11 (Z0 q13 (q15/\q17/\Z0 q19 (Z0 q21 (q23/\[X.i0,wrap i64 (q24+1)]=q25/\False) False) False) False) False) False) False) False) False) False) False) False) False) False)))))
 False)
 False)
 False)) (by kernel_rfl) ?_
 conv=>zeta
 subst hn
 have hlen:=hX.am.n
 have hs01:0<=X.side/\X.side<=1:=by have:=hX.side;omega
 have hwf:i64.wrap (1-X.side)=1-X.side:=w64 (by omega)
 try rw [hwf]
 have hsf:1-X.side=0\/1-X.side=1:=by have:=hX.side;omega
 have hp:Yp ⟨false,id,am,hash,ex,1,0,Zf⟩=Yp (Xf X false id am hash ex):=rfl
 rw [hp]
 try simp only [Zj]
 try simp only [Zl]
 try simp only [Zi]
 try simp only [Zm]
 try simp only [Zn]
 try simp only [Zh]
 try simp only [Int.toNat_natCast,Nat.zero_add,true_and,and_true,Nat.le_refl]
 unfold XH at he
 have hf:ZD X.side false=1-X.side:=rfl
 have hnx:X.nx false=X.i1:=rfl
 rw [hf,hnx] at he
 have hR:Zb 2 [] X.L.length (Z6 X.L) (Z6 X.L):=Zo fun _ _=>rfl
 refine ⟨fun hc=>absurd hc (by simp [hX.cap]),fun _=>⟨fun _ _=>trivial,X,.a rfl,hs01,hlen,fun _ _=>trivial,X,.a rfl,hs01,hsf,hX.am,fun k=>⟨?_,hR⟩,fun k1=>⟨fun k=>⟨?_,hR⟩,fun k2=>⟨fun k=>⟨?_,hR⟩,fun k3=>⟨fun k=>⟨?_,hR⟩,fun k4=> ?_⟩⟩⟩⟩⟩
 ·rw [he,if_pos (by simpa using k)]
 ·rw [he,if_neg (by simpa using k1),if_pos (by simpa using k)]
 ·rw [he,if_neg (by simpa using k1),if_neg (by simpa using k2),if_pos (by omega)]
 ·rw [he,if_neg (by simpa using k1),if_neg (by simpa using k2),if_neg (by omega),if_pos k]
 ·exact absurd (by rw [he,if_neg (by simpa using k1),if_neg (by simpa using k2),if_neg (by omega),if_neg k4]) hne
theorem Z72 (X X':Z8) (n:Nat) (id am ex:Int) (hash:List Int) (hn:X.L.length=n) (hX:Z70 X) (he:XH X false id am hash ex=0) (hX':X'=addX X false id am hash ex) (hs:XO (X.L++[Xf X false id am hash ex]) X'.L (n+1)):
  evF ZdL 20 20 [.ptr (some ⟨0,0,0,0,0⟩),.bool false,.int .i64 id,.int .i64 am,.agg [.arr .u8 32 hash],.int .i64 ex] (Z5O X n) (Y5 2 (.ret (.int .i64 0)) 3 [(0,.flat (X'.c (.nslice ⟨2,0,70,0,0⟩ 70 (n+1) (n+1)))),(2,.rows 70 (n+1) (Z6 X'.L))]):=by
 refine @Eq.mpr _ (let q1:=X.t;let q2:=q1.cap;let q3:=decide (0+n<=n);let q4:=q1.fund;let q5:=q1.index;let q6:=q1.dust;let q7:=q1.fee;let q8:=q1.delay;let q9:=q1.k0;let q10:=q1.k1;let q11:=X.side;let q12:=[X.a0,X.a1];let q13:=X.i1;let q14:=ZT 0 (Z6 X.L);let q15:=wrap i64 (1-q11);let q16:=decide (n=n);let q17:=n+1;let q18:=YQ [AV.bool false,AV.int i64 id,AV.int i64 am,AV.arr u8 32 hash,AV.int i64 ex,AV.int i64 1,AV.int i64 0,AV.arr u8 32 Zf] 0 70;let q19:=X'.t;let q20:=decide (q17=q17);
 Z0 (q2==0) False
 (Z0 q3
 ((∀(i:Nat),i<n->true=true)/\
 ∃(X_1:Z8),
 let q41:=[AV.arr u8 32 q4,AV.int i64 q5,AV.int i64 q2,AV.int i64 q6,AV.int i64 q7,AV.int i64 q8,AV.arr u8 32 q9,AV.arr u8 32 q10,AV.int i64 q11,AV.int i64 X.res,AV.arr i64 2 q12,AV.arr i64 2 [X.i0,q13],AV.vrows 70 n q14 n];let q42:=X_1.side;
 LV q41 X_1/\
 (0<=q42/\q42<=1)/\
 List.length X_1.L<1000/\
 Z0 (decide (q13=q13))
 (Z0 q3
 ((∀(i:Nat),i<n->true=true)/\
 ∃(X_2:Z8),
 LV q41 X_2/\
 (0<=X_2.side/\X_2.side<=1)/\
 (q15=0\/q15=1)/\
 Z1N X_2/\
 Z0 (!Yp (Z7.mk false id am hash ex 1 0 Zf)) False
 (Z0 (id !=q13) False
 (Z0 (decide ((↑(List.length (ZP q42 q15 X_1.L)):Int)>=8)) False
 (Z0 (decide (Yl X_2 q15<am)) False
 (Z0 q3
 ((∀(i:Nat),i<n->true=true)/\
 ∃(L:List Z7),n=n/\q14=Z6 L/\n<1000000/\Z0 (decide (id=id)) (Z0 (decide (am=am)) (hash=hash/\Z0 (decide (ex=ex)) (Zf=Zf/\Z0 q16 (Z0 (decide (q17*112<=140737488355328)) ((∀(i:Nat),i<q17->Yy (Y2 n (Z6 L) q18 i)=true)/\∃(L_1:List Z7),∃(L':List Z7),q17=q17/\(∀(i:Nat),i<q17->Y2 n (Z6 L) q18 i=Z6 L_1 i)/\XO L_1 L' q17/\q4=q19.fund/\Z0 (decide (q5=q19.index)) (Z0 (decide (q2=q19.cap)) (Z0 (decide (q6=q19.dust)) (Z0 (decide (q7=q19.fee)) (Z0 (decide (q8=q19.delay)) (q9=q19.k0/\q10=q19.k1/\Z0 (decide (q11=X'.side)) (Z0 (decide (X.res=X'.res)) (q12=[X'.a0,X'.a1]/\[X.i0,wrap i64 (q13+1)]=[X'.i0,X'.i1]/\Z0 q20 (Z0 (decide (q17<=q17)) (Z0 q20 (Zb 2 [(2,14)] q17 (Z6 X'.L) (Z6 L')/\True) False) False) False) False) False) False) False) False) False) False) False) False) False) False) False)
 False/\
 Z0 q16 (Z0 q16 (Z0 q3 ((∀(i:Nat),i<n->true=true)/\∃(L:List Z7),n=n/\q14=Z6 L/\n<1000000/\Z0 q16 (Z0 (decide (q17*112<=140737488355328)) ((∀(i:Nat),i<q17->Yy (Y2 n (Z6 L) q18 i)=true)/\∃(L_1:List Z7),∃(L':List Z7),q17=q17/\(∀(i:Nat),i<q17->Y2 n (Z6 L) q18 i=Z6 L_1 i)/\XO L_1 L' q17/\q4=q19.fund/\Z0 (decide (q5=q19.index)) (Z0 (decide (q2=q19.cap)) (Z0 (decide (q6=q19.dust)) (Z0 (decide (q7=q19.fee)) (Z0 (decide (q8=q19.delay)) (q9=q19.k0/\q10=q19.k1/\Z0 (decide (q11=X'.side)) (Z0 (decide (X.res=X'.res)) (q12=[X'.a0,X'.a1]/\[X.i0,wrap i64 (q13+1)]=[X'.i0,X'.i1]/\Z0 q20 (Z0 (decide (q17<=q17)) (Z0 q20 (Zb 2 [(2,14)] q17 (Z6 X'.L) (Z6 L')/\True) False) False) False) False) False) False) False) False) False) False) False) False) False) False) False)))))
 False)
 False)
 False)) (by kernel_rfl) ?_
 conv=>zeta
 subst hn
 have hlen:=hX.am.n
 have hs01:0<=X.side/\X.side<=1:=by have:=hX.side;omega
 have hwf:i64.wrap (1-X.side)=1-X.side:=w64 (by omega)
 try rw [hwf]
 have hsf:1-X.side=0\/1-X.side=1:=by have:=hX.side;omega
 have hp:Yp ⟨false,id,am,hash,ex,1,0,Zf⟩=Yp (Xf X false id am hash ex):=rfl
 rw [hp]
 have ht:=ZhQ X.L (Xf X false id am hash ex) _ rfl
 have hX2:X'={ XI X false 1 with L:=Xu (Xf X false id am hash ex) X.L}:=by rw [hX'];unfold addX;rw [if_pos he]
 generalize Xu (Xf X false id am hash ex) X.L=L2 at hX2
 subst hX2
 have hwi:i64.wrap (X.i1+1)=X.i1+1:=w64 (by have:=hX.nx;omega)
 try simp only [Zj]
 try simp only [Zl]
 try simp only [Zi]
 try simp only [Zm]
 try simp only [Zn]
 try simp only [Zh]
 try simp only [Int.toNat_natCast,Nat.zero_add,true_and,and_true,Nat.le_refl]
 unfold XH at he
 have hf:ZD X.side false=1-X.side:=rfl
 have hnx:X.nx false=X.i1:=rfl
 rw [hf,hnx] at he
 have hno:Yp (Xf X false id am hash ex)=true/\id=X.i1/\¬8<=(ZP X.side (1-X.side) X.L).length/\¬Yl X (1-X.side)<am:=by
  split at he
  ·cases he
  ·rename_i q1
   split at he
   ·cases he
   ·rename_i q2
    split at he
    ·cases he
    ·rename_i q3
     split at he
     ·cases he
     ·rename_i q4
      exact ⟨by simpa using q1,by simpa using q2,q3,q4⟩
 obtain ⟨k1,k2,k3,k4⟩:=hno
 have hR:∀τ,Zb 2 τ (X.L.length+1) (Z6 L2) (Z6 L2):=fun τ=>Zo fun _ _=>rfl
 have hcap:=hX.cap
 have k3':¬((ZP X.side (1-X.side) X.L).length:Int)>=8:=by omega
 refine ⟨by simp [hcap],fun _ _=>trivial,X,.a rfl,hs01,hlen,fun _ _=>trivial,X,.a rfl,hs01,hsf,hX.am,by simp [k1],by simp [k2],k3',k4, ?_, ?_⟩
 all_goals exact ⟨fun _ _=>trivial,X.L,rfl,by omega,by omega,ht.1,X.L++[Xf X false id am hash ex],L2,ht.2,hs,rfl,rfl,rfl,rfl,rfl,rfl,rfl,rfl,rfl,rfl,rfl,by rw [hwi];rfl,hR _⟩
end Go.Tk
end
section
namespace Go.Tk
open IntKind (i64 u8 u32 u64 wrap)
def VK (a b:Z7):Prop:=WX a<WX b\/(WX a=WX b/\a.id<b.id)
theorem ZdM {a b:Z7} (h:XG a b):VK a b:=by
 unfold XG at h
 unfold VK WX
 rcases h with ⟨h1,h2⟩|⟨h1,h2,_⟩
 ·rw [h1,h2];exact .inl (by decide)
 ·rw [h1];exact .inr ⟨rfl,h2⟩
theorem Q7 (h:Z7):∀(L:List Z7),(Xu h L).Perm (L++[h])
 | []=>.refl _
 | x::r=>by
  unfold Xu
  split
  ·exact (List.perm_append_comm (l₁:=[h]) (l₂:=x::r))
  ·exact (Q7 h r).cons x
theorem Z0v {h z:Z7} {L:List Z7}:z∈Xu h L↔z∈L\/z=h:=by
 rw [(Q7 h L).mem_iff];simp
theorem Z3s (h:Z7) (L:List Z7):(Xu h L).length=L.length+1:=by
 rw [(Q7 h L).length_eq];simp
theorem Z4N {h:Z7}:∀{L:List Z7},L.Pairwise VK->(∀x∈L,x.own=h.own->x.id<h.id)->(Xu h L).Pairwise VK
 | [],_,_=>by simp [Xu]
 | x::r,hp,hx=>by
  obtain ⟨h1,h2⟩:=List.pairwise_cons.1 hp
  unfold Xu
  split
  ·rename_i hc
   refine List.pairwise_cons.2 ⟨fun y hy=> ?_,hp⟩
   have kx:WX x=1:=by unfold WX;rw [hc.2]
   have kh:WX h=0:=by unfold WX;rw [hc.1]
   rcases List.mem_cons.1 hy with rfl|hy
   ·exact .inl (by omega)
   ·have:=h1 y hy
    unfold VK at*
    omega
  ·rename_i hc
   refine List.pairwise_cons.2 ⟨fun y hy=> ?_,Z4N h2 fun z hz=>hx z (by simp [hz])⟩
   rcases Z0v.1 hy with hy|rfl
   ·exact h1 y hy
   ·have:=hx x (by simp)
    unfold VK WX
    cases hxo:x.own<;>cases hyo:y.own<;>simp_all
theorem Z3t:∀{L:List Z7},L.Pairwise VK->∀a∈L,∀b∈L,a=b\/VK a b\/VK b a
 | [],_,a,ha,_,_=>by cases ha
 | x::r,hp,a,ha,b,hb=>by
  obtain ⟨h1,h2⟩:=List.pairwise_cons.1 hp
  rcases List.mem_cons.1 ha with e1|e1<;>rcases List.mem_cons.1 hb with e2|e2
  ·exact .inl (e1.trans e2.symm)
  ·rw [e1];exact .inr (.inl (h1 b e2))
  ·rw [e2];exact .inr (.inr (h1 a e1))
  ·exact Z3t h2 a e1 b e2
theorem ZdN {L:List Z7} (h:L.Pairwise VK):Z8G ltH L:=
 h.imp fun {a b} hab=>by
  rw [Z18]
  unfold VK at hab
  omega
theorem Z9S {side:Int} (hs:side=0\/side=1):∀(L:List Z7),(ZP side 0 L).length+(ZP side 1 L).length=L.length
 | []=>rfl
 | x::r=>by
  have ih:=Z9S hs r
  unfold ZP at*
  simp only [List.filter_cons,List.length_cons]
  have:(ZD side x.own=0/\¬ZD side x.own=1)\/(¬ZD side x.own=0/\ZD side x.own=1):=by
   unfold ZD
   rcases hs with rfl|rfl<;>cases x.own<;>simp
  rcases this with ⟨h1,h2⟩|⟨h1,h2⟩
  ·rw [decide_eq_true h1,decide_eq_false h2];simp;omega
  ·rw [decide_eq_false h1,decide_eq_true h2];simp;omega
theorem Z8.Inv.len {H:List Int->List Int} {X:Z8} (h:X.Inv H):X.L.length<=16:=by
 have:=Z9S h.side X.L
 have:=h.n0
 have:=h.n1
 omega
theorem Z8.Inv.am {H:List Int->List Int} {X:Z8} (h:X.Inv H):Z1N X:=Z9N (by have:=h.len;omega) h.tb h.res h.a0 h.a1 h.und
theorem Z8.Inv.add {H:List Int->List Int} {X:Z8} (h:X.Inv H):Z70 X:=
 ⟨by have:=Y0 h.tb;omega,h.side,h.am,h.i0,h.i1⟩
theorem Z8.Inv.less {H:List Int->List Int} {X:Z8} (h:X.Inv H):X.L.Pairwise VK:=h.fol.imp fun hab=>ZdM hab
theorem YW {H:List Int->List Int} {X:Z8} {h:Z7} (hu:XE H X h=true):Yp h=true/\h.id<X.nx h.own/\(1<=h.stage/\h.stage<=9)/\Z0q H h=true:=by
 unfold XE at hu
 simp only [Bool.and_eq_true,decide_eq_true_eq] at hu
 exact ⟨hu.1.1.1,hu.1.1.2,hu.1.2,hu.2⟩
theorem Z19 {X:Z8} {own:Bool} {id am ex:Int} {hash:List Int} (he:XH X own id am hash ex=0):Yp (Xf X own id am hash ex)=true/\id=X.nx own/\(ZP X.side (ZD X.side own) X.L).length<8/\am<=Yl X (ZD X.side own):=by
 unfold XH at he
 split at he
 ·cases he
 ·rename_i q1
  split at he
  ·cases he
  ·rename_i q2
   split at he
   ·cases he
   ·rename_i q3
    split at he
    ·cases he
    ·rename_i q4
     exact ⟨by simpa using q1,by simpa using q2,by omega,by omega⟩
theorem Z8.Inv.sort {H:List Int->List Int} {X:Z8} (h:X.Inv H) {own:Bool} {id am ex:Int} {hash:List Int} (he:XH X own id am hash ex=0):XO (X.L++[Xf X own id am hash ex]) (Xu (Xf X own id am hash ex) X.L) (X.L.length+1):=by
 obtain ⟨_,hid,_,_⟩:=Z19 he
 have hl:(Xu (Xf X own id am hash ex) X.L).Pairwise VK:=Z4N h.less fun x hx ho=>by
  have:=(YW (h.und x hx)).2.1
  rw [ho] at this
  show x.id<id
  rw [hid];exact this
 refine ⟨by simp,Nat.succ_pos _,by have:=h.len;omega,Q7 _ _,ZdN hl,fun a ha b hb h1 h2=> ?_⟩
 rw [Z18] at h1 h2
 rcases Z3t hl a ha b hb with e|e|e
 ·exact e
 ·exact absurd e h1
 ·exact absurd e h2
end Go.Tk
end
section
namespace Go.Tk
open IntKind (i64 u8 u32 u64 wrap)
structure LB (cs:List AV) (n:Nat) (f:Nat->List AV) (X:Z8):Prop where
 h1:cs=X.c (.nslice ⟨1,0,70,0,0⟩ 70 n n)
 h2:f=Z6 X.L
 h3:n=X.L.length
def Zjc (H:List Int->List Int) (c:Bool):Yf:=fun args h K=>match args with
 | [.ptr (some ⟨l,0,0,0,0⟩),_,_,_,_,_]=>match h.get l with
  |some (.flat [_,_,_,_,_,_,_,_,_,_,_,_,.nslice ⟨b,0,70,0,0⟩ 70 _ _])=>frA [l,b] h 20 args fun Bs a=>match Bs,a with
   | [.flat cs,.rows 70 n f],[.ptr (some ⟨0,0,0,0,0⟩),.bool own,.int .i64 id,.int .i64 am,.agg [.arr .u8 32 hash],.int .i64 ex]=>
    ∃X,LB cs n f X/\X.Inv H/\(match c with
     | true=>XH X own id am hash ex=0/\K (.ret (.int .i64 0)) ⟨h.next+1,(l,.flat ((addX X own id am hash ex).c (.nslice ⟨h.next,0,70,0,0⟩ 70 (X.L.length+1) (X.L.length+1))))::(h.next,.rows 70 (X.L.length+1) (Z6 (addX X own id am hash ex).L))::Yc (Yc h.bs l) b⟩
     | false=>XH X own id am hash ex≠0/\K (.ret (.int .i64 (XH X own id am hash ex))) ⟨h.next,(l,.flat (X.c (.nslice ⟨b,0,70,0,0⟩ 70 X.L.length X.L.length)))::(b,.rows 70 X.L.length (Z6 X.L))::Yc (Yc h.bs l) b⟩)
   | _,_=>False
  | _=>False
 | _=>False
theorem Zgo {H:List Int->List Int} (c:Bool) (args:List AV) (h:Za) (K:KO) (hl:Zjc H c args h K):Zp PP 20 args h K:=by
 unfold Zjc at hl
 split at hl
 ·split at hl
  ·refine Spec.fsumm hl fun Bs a hlen hK0=> ?_
   split at hK0
   ·rename_i cs n f own id am hash ex
    obtain ⟨X,⟨rfl,rfl,rfl⟩,hI,hK⟩:=hK0
    cases c with
    | true=>
     obtain ⟨he,hK1⟩:=hK
     have hs:XO (X.L++[Xf X own id am hash ex]) (addX X own id am hash ex).L (X.L.length+1):=by
      have:=hI.sort he
      unfold addX
      rw [if_pos he]
      exact this
     cases own with
     | true=>exact ⟨_,_,_,_,_,.evM Z27 (Z8J X _ _ id am ex hash rfl hI.add he rfl hs),by simp,.ret _ _ rfl,.cons _ _ _ _ _ _ rfl (.flat _ _ rfl) (.cons _ _ _ _ _ _ rfl (.rows _ _ _ (fun _ _=>rfl)) .nil),hK1⟩
     | false=>exact ⟨_,_,_,_,_,.evM Z27 (Z72 X _ _ id am ex hash rfl hI.add he rfl hs),by simp,.ret _ _ rfl,.cons _ _ _ _ _ _ rfl (.flat _ _ rfl) (.cons _ _ _ _ _ _ rfl (.rows _ _ _ (fun _ _=>rfl)) .nil),hK1⟩
    | false=>
     obtain ⟨he,hK2⟩:=hK
     cases own with
     | true=>exact ⟨_,_,_,_,_,.evM Z27 (Z8I X _ id am ex _ hash rfl hI.add rfl he),by simp,.ret _ _ rfl,.cons _ _ _ _ _ _ rfl (.flat _ _ rfl) (.cons _ _ _ _ _ _ rfl (.rows _ _ _ (fun _ _=>rfl)) .nil),hK2⟩
     | false=>exact ⟨_,_,_,_,_,.evM Z27 (Z71 X _ id am ex _ hash rfl hI.add rfl he),by simp,.ret _ _ rfl,.cons _ _ _ _ _ _ rfl (.flat _ _ rfl) (.cons _ _ _ _ _ _ rfl (.rows _ _ _ (fun _ _=>rfl)) .nil),hK2⟩
   ·exact hK0.elim
  ·exact hl.elim
 ·exact hl.elim
end Go.Tk
end
section
namespace Go.Tk
open IntKind (i64 u8 u32 u64 wrap)
def isP (own:Bool) (id:Int) (p:Z7):Prop:=p.own=own/\p.id=id
theorem Z3u {own:Bool} {id:Int}:∀{L:List Z7},(∀j,j<L.length->¬isP own id (L.getD j Zc))->ZW own id L=L.length
 | [],_=>rfl
 | x::r,h=>by
  unfold ZW
  have h0:¬(x.own=own/\x.id=id):=h 0 (by simp)
  rw [if_neg h0,Z3u fun j hj=>by have:=h (j+1) (by simpa using hj);rwa [List.getD_cons_succ] at this]
  rfl
theorem Z3v {own:Bool} {id:Int}:∀{L:List Z7} {i:Nat},i<L.length->(∀j,j<i->¬isP own id (L.getD j Zc))->isP own id (L.getD i Zc)->ZW own id L=i
 | [],i,hi,_,_=>by simp at hi
 | x::r,0,_,_,h=>by
  unfold ZW
  exact if_pos h
 | x::r,i+1,hi,hn,h=>by
  unfold ZW
  have h0:¬(x.own=own/\x.id=id):=hn 0 (Nat.succ_pos _)
  rw [if_neg h0,Z3v (i:=i) (by simpa using hi) (fun j hj=>by have:=hn (j+1) (by omega);rwa [List.getD_cons_succ] at this) (by rwa [List.getD_cons_succ] at h)]
def fiV (own:Bool) (id:Int) (L:List Z7):Int:=if ZW own id L<L.length then (ZW own id L:Int) else -1
theorem ZkI (p:Z7) (own:Bool) (id:Int) (b:Bool) (hb:b=decide (p.own=own/\p.id=id)):
  evF G0 20 162 [.agg p.c,.pview [.bool own] 0,.pview [.int .i64 id] 0] ⟨0,[]⟩ (Yo (fun v=>v=.bool b)):=by
 refine @Eq.mpr _ (Z0 (p.own==own) (AV.bool (p.id==id)=AV.bool b) (AV.bool false=AV.bool b)) (by kernel_rfl) ?_
 subst hb
 simp only [VJ]
 congr 1
 by_cases h1:p.own=own<;>by_cases h2:p.id=id<;>simp [h1,h2]
def ZkJ:ZR:=fun args h K=>ZU none h true 20 args fun a=>match a with
 | [.agg [.bool ow,.int .i64 i,.int .i64 am,.arr .u8 32 ha,.int .i64 ex,.int .i64 st,.int .i64 en,.arr .u8 32 se],.pview [.bool own] 0,.pview [.int .i64 id] 0]=>K (.bool (decide (ow=own/\i=id)))
 | _=>False
theorem Zgp (args:List AV) (h:Za) (K:AV->Prop) (hl:ZkJ args h K):Zp PP 162 args h fun o h'=>∃v,o=.ret v/\h'=h/\K v:=by
 refine ZC.psumm (d:=20) (Zu _ _ _ _ _ hl fun a ha=> ?_)
 split at ha
 ·rename_i ow i am ha' ex st en se own id
  exact ⟨_,ZC.evV Zv (ZkI ⟨ow,i,am,ha',ex,st,en,se⟩ own id _ rfl),fun _=>rfl,ha⟩
 ·exact ha.elim
noncomputable def Zjd:Zg:=G0.withP 162 ZkJ
theorem Zgq:Zjd.Ok:=Zg.withP_ok Zv Zgp
def fdC (own:Bool) (id:Int):AV:=.func (.func 162) [] [.pview [.bool own] 0,.pview [.int .i64 id] 0]
def fiS (L:List Z7) (own:Bool) (id:Int) (n i:Nat):St:=⟨19,[(8,.int .i64 i),(7,.int .i64 n),(1,fdC own id),(0,.vrows 70 n (Z6 L) n)],⟨0,[]⟩,[]⟩
def fiE:St:=⟨19,[],⟨0,[]⟩,[]⟩
def fiR (i:Nat):St:=⟨19,[(4,.int .i64 i)],⟨0,[]⟩,[]⟩
theorem Zmx (L:List Z7) (own:Bool) (id:Int) (n i:Nat) (Z1 Z2 Z3:Prop) (hn:n<1000) (hL:L.length=n) (hi:i<=n) (h1:i<n->¬isP own id (L.getD i Zc)->Z1) (h2:i=n->Z2) (h3:i<n->isP own id (L.getD i Zc)->Z3):
  ZG Zjd 20 161 0 0 (fiS L own id n i) (rdM 0 0 9 (fiS L own id n (i+1)) fiE (fiR i) (fiR i) Z1 Z2 Z3 False):=by
 refine @Eq.mpr _ (let q1:=List.getD L (Int.toNat (↑i:Int)) Zc;let q2:=[AV.bool own];let q3:=[AV.int i64 id];let q4:=decide (n=n);
 Z0 (decide ((↑i:Int)<(↑n:Int))) (Z0 (decide (0<=(↑i:Int)/\(↑i:Int)<(↑n:Int))) (Z0 (decide (q1.own=own/\q1.id=id)) (Z0 (decide ((↑i:Int)=(↑i:Int))) Z3 False) (Z0 (decide (wrap i64 ((↑i:Int)+1)=(↑(i+1):Int))) (Z0 (decide ((↑n:Int)=(↑n:Int))) (q2=q2/\q3=q3/\Z0 q4 (Z6 L=Z6 L/\Z0 q4 Z1 False) False) False) False)) False) Z2) (by kernel_rfl) ?_
 conv=>zeta
 try simp only [Zj]
 try simp only [Zl]
 try simp only [Zi]
 try simp only [Zm]
 try simp only [Zn]
 try simp only [Zh]
 try simp only [Int.toNat_natCast,Nat.zero_add,true_and,and_true,Nat.le_refl]
 refine ⟨fun hc=> ?_,fun hc=>h2 (by omega)⟩
 have hlt:i<n:=by omega
 have hwr:i64.wrap ((i:Int)+1)=((i+1:Nat):Int):=by rw [w64 (by omega)];omega
 refine ⟨by omega,fun hm=>h3 hlt hm,fun hm=> ?_⟩
 have:=h1 hlt hm
 repeat' apply And.intro
 all_goals first|omega|exact hwr|exact this|rfl
noncomputable def ZhR (L:List Z7) (own:Bool) (id:Int) (n:Nat):Zg:=Zjd.withL 161 0 (goM 0 (fiS L own id n 0) (n<1000/\L.length=n) (YJ 0 n 9 (fun i=>¬isP own id (L.getD i Zc)/\i<n) (fun i=>i=n) (fun i=>i<n/\isP own id (L.getD i Zc)) (fun _=>False) (fun _=>fiE) (fun i=>fiR i) (fun i=>fiR i)))
theorem ZdO (L:List Z7) (own:Bool) (id:Int) (n:Nat):(ZhR L own id n).Ok:=
 Zg.withGoM (N:=20) (S:=fun i=>fiS L own id n i) Zgq (by kernel_rfl) fun hC=>⟨rfl,fun i hi _=>Zmx L own id n i _ _ _ hC.1 hC.2 hi (fun h h'=>⟨⟨h',h⟩,h⟩) (fun h=>h) (fun h h'=>⟨h,h'⟩)⟩
theorem Zmy (L:List Z7) (own:Bool) (id:Int) (n:Nat) (r:Int) (hL:L.length=n) (hn:n<1000) (hr:r=fiV own id L):
  evF (ZhR L own id n) 20 161 [.vrows 70 n (Z6 L) n,fdC own id] ⟨0,[]⟩ (Yo (fun v=>v=.int .i64 r)):=by
 refine @Eq.mpr _ (let q1:=[AV.bool own];let q2:=[AV.int i64 id];let q3:=decide (n=n);
 Z0 (decide ((↑n:Int)=(↑n:Int))) (q1=q1/\q2=q2/\Z0 q3 (Z6 L=Z6 L/\Z0 q3 ((n<1000/\List.length L=n)/\∀(i:Nat),i<=n->(∀(j:Nat),j<i->(fun (i:Nat)=>¬isP own id (List.getD L i Zc)/\i<n) j)->(i=n->AV.int i64 (-1)=AV.int i64 r)/\(i<n/\isP own id (List.getD L i Zc)->AV.int i64 (↑i:Int)=AV.int i64 r)/\(False->False)) False) False) False) (by kernel_rfl) ?_
 conv=>zeta
 try simp only [Zj]
 try simp only [Zl]
 try simp only [Zi]
 try simp only [Zm]
 try simp only [Zn]
 try simp only [Zh]
 try simp only [Int.toNat_natCast,Nat.zero_add,true_and,and_true,Nat.le_refl]
 subst hL
 repeat' apply And.intro
 all_goals first|rfl|exact hn|skip
 intro i hi hg
 refine ⟨fun he=> ?_,fun he=> ?_,fun h=>h.elim⟩
 ·rw [hr]
  unfold fiV
  rw [Z3u fun j hj=>(hg j (by omega)).1,if_neg (by omega)]
 ·rw [hr]
  unfold fiV
  rw [Z3v he.1 (fun j hj=>(hg j hj).1) he.2,if_pos he.1]
def ZkK:ZR:=fun args h K=>ZU none h true 20 args fun a=>match a with
 | [.vrows 70 n f n',.func (.func 162) [] [.pview [.bool own] 0,.pview [.int .i64 id] 0]]=>∃L,n'=n/\f=Z6 L/\L.length=n/\n<1000/\K (.int .i64 (fiV own id L))
 | _=>False
theorem Zgr (args:List AV) (h:Za) (K:AV->Prop) (hl:ZkK args h K):Zp PP 161 args h fun o h'=>∃v,o=.ret v/\h'=h/\K v:=by
 refine ZC.psumm (d:=20) (Zu _ _ _ _ _ hl fun a ha=> ?_)
 split at ha
 ·obtain ⟨L,rfl,rfl,h1,h2,hK⟩:=ha
  exact ⟨_,ZC.evV (ZdO L _ _ _) (Zmy L _ _ _ _ h1 h2 rfl),fun _=>rfl,hK⟩
 ·exact ha.elim
noncomputable def ZhS:Zg:=G0.withP 161 ZkK
theorem ZdP:ZhS.Ok:=Zg.withP_ok Zv Zgr
theorem Zmz (X:Z8) (own:Bool) (id r:Int) (hn:X.L.length<1000) (hr:r=fiV own id X.L):
  evF ZhS 20 125 [U0 X,.bool own,.int .i64 id] ⟨0,[]⟩ (Yo (fun v=>v=.int .i64 r)):=by
 refine @Eq.mpr _ (let q1:=List.length X.L;
 ∃(L:List Z7),q1=q1/\Z6 X.L=Z6 L/\List.length L=q1/\q1<1000/\AV.int i64 (fiV own id L)=AV.int i64 r) (by kernel_rfl) ?_
 conv=>zeta
 subst hr
 exact ⟨X.L,rfl,rfl,rfl,hn,rfl⟩
def ZhT:ZR:=fun args h K=>ZU none h true 20 args fun a=>match a with
 | [.pview cs 0,.bool own,.int .i64 id]=>∃X,LV cs X/\X.L.length<1000/\K (.int .i64 (fiV own id X.L))
 | _=>False
theorem ZdQ (args:List AV) (h:Za) (K:AV->Prop) (hl:ZhT args h K):Zp PP 125 args h fun o h'=>∃v,o=.ret v/\h'=h/\K v:=by
 refine ZC.psumm (d:=20) (Zu _ _ _ _ _ hl fun a ha=> ?_)
 split at ha
 ·obtain ⟨X,hX,h1,hK⟩:=ha
  exact ⟨_,(ZC.evV ZdP (Zmz X _ _ _ h1 rfl)).conv fun E r hr=>hr.head (fun _ hc=>Wq hX hc) fun _ hc=>hc,fun _=>rfl,hK⟩
 ·exact ha.elim
end Go.Tk
end
section
namespace Go.Tk
open IntKind (i64 u8 u32 u64 wrap)
theorem ZdR {s:Int} (h:1<=s/\s<=9):s=1\/s=2\/s=3\/s=4\/s=5\/s=6\/s=7\/s=8\/s=9:=by omega
theorem ZhU {s:Int} (h:1<=s/\s<=4):s=1\/s=2\/s=3\/s=4:=by omega
theorem ZmA (o:Bool) (s m r:Int) (on:Bool) (hs:1<=s/\s<=9) (hm:1<=m/\m<=4) (hr:r=ZZ o s m) (hon:on=decide (Wm o s=m)):
  evF G0 20 73 [.bool o,.int .i64 s,.int .i64 m] ⟨0,[]⟩ (Yo (fun v=>v=.tuple [.int .i64 r,.bool on,.int .i64 0])):=by
 refine @Eq.mpr _ (let q1:=decide (1<=s);let q2:=decide (1<=m);let q3:=decide (s<=10);let q4:=false==q3;let q5:=[AV.int i64 0];let q6:=AV.tuple (AV.int i64 r::AV.bool on::q5);let q7:=AV.tuple [AV.int i64 0,AV.bool false,AV.int i64 2]=q6;let q8:=AV.tuple (AV.int i64 s::AV.bool false::q5)=q6;let q9:=AV.tuple (AV.int i64 (wrap i64 (s+1))::AV.bool true::q5)=q6;let q10:=Z0 (0 !=m) q8 q9;let q11:=decide (s=s);let q12:=decide (0<=s/\s<10);
 Z0 q1 (Z0 q2 (Z0 q4 q7 (Z0 (false==decide (m<=4)) q7 (Z0 q1 (Z0 (!q3) q10 (Z0 (s==10) q10 (Z0 (o==true) (Z0 q11 (Z0 q12 (Z0 (List.getD [(0:Int),1,2,3,4,0,3,4,1,2] (Int.toNat s) 0 !=m) q8 q9) False) False) (Z0 q11 (Z0 q12 (Z0 (List.getD [(0:Int),3,4,1,2,0,1,2,3,4] (Int.toNat s) 0 !=m) q8 q9) False) False)))) q10))) (Z0 q4 q7 q7)) (Z0 q2 q7 q7)) (by kernel_rfl) ?_
 conv=>zeta
 subst hr hon
 cases o<;>rcases ZdR hs with h|h|h|h|h|h|h|h|h<;>subst h<;>rcases ZhU hm with h|h|h|h<;>subst h<;>exact rfl
theorem ZkL (o:Bool) (s m r:Int) (on:Bool) (hs:1<=s/\s<=9) (hm:1<=m/\m<=4) (hr:r=ZZ o s m) (hon:on=decide (Wm o s=m)):
  evF G0 20 107 [.bool o,.int .i64 s,.int .i64 m] ⟨0,[]⟩ (Yo (fun v=>v=.tuple [.int .i64 r,.bool on,.int .i64 0])):=by
 refine @Eq.mpr _ (let q1:=decide (s<1);let q2:=[AV.int i64 0];let q3:=AV.tuple (AV.int i64 r::AV.bool on::q2);let q4:=AV.tuple [AV.int i64 0,AV.bool false,AV.int i64 2]=q3;let q5:=decide (s>10);let q6:=AV.tuple (AV.int i64 (wrap i64 (s+1))::AV.bool true::q2)=q3;let q7:=AV.tuple (AV.int i64 s::AV.bool false::q2)=q3;let q8:=Z0 (0==m) q6 q7;let q9:=decide (0<=s/\s<10);let q10:=0+Int.toNat s;
 Z0 q1 q4 (Z0 q5 q4 (Z0 (decide (m<1)) q4 (Z0 (decide (m>4)) q4 (Z0 q1 q8 (Z0 q5 q8 (Z0 (s==5) q8 (Z0 (s==10) q8 (Z0 o (Z0 q9 (Z0 (decide (q10<10)) (Z0 (List.getD [(0:Int),1,2,3,4,0,3,4,1,2] q10 0==m) q6 q7) False) False) (Z0 q9 (Z0 (decide (q10<10)) (Z0 (List.getD [(0:Int),3,4,1,2,0,1,2,3,4] q10 0==m) q6 q7) False) False)))))))))) (by kernel_rfl) ?_
 conv=>zeta
 subst hr hon
 cases o<;>rcases ZdR hs with h|h|h|h|h|h|h|h|h<;>subst h<;>rcases ZhU hm with h|h|h|h<;>subst h<;>exact rfl
theorem ZmB (o u:Bool) (s:Int) (b:Bool) (hb:b=YG o s u):
  evF G0 20 34 [.bool o,.int .i64 s,.bool u] ⟨0,[]⟩ (Yo (fun v=>v=.bool b)):=by
 refine @Eq.mpr _ (let q1:=AV.bool b;let q2:=AV.bool false=q1;
 Z0 (o==u) (Z0 (decide (4<=s)) (AV.bool (decide (s<=6))=q1) q2) (Z0 (decide (2<=s)) (AV.bool (decide (s<=8))=q1) q2)) (by kernel_rfl) ?_
 conv=>zeta
 subst hb
 unfold YG
 rw [Bool.decide_and,Bool.decide_and]
 cases o<;>cases u<;>simp [Z0]<;>(split<;>simp_all)<;>(try omega)
theorem ZkM (o u:Bool) (s:Int) (b:Bool) (hb:b=YG o s u):
  evF G0 20 109 [.bool o,.int .i64 s,.bool u] ⟨0,[]⟩ (Yo (fun v=>v=.bool b)):=by
 refine @Eq.mpr _ (let q1:=AV.bool b;let q2:=AV.bool false=q1;
 Z0 (o==u) (Z0 (decide (s>=4)) (AV.bool (decide (s<=6))=q1) q2) (Z0 (decide (s>=2)) (AV.bool (decide (s<=8))=q1) q2)) (by kernel_rfl) ?_
 conv=>zeta
 subst hb
 unfold YG
 rw [Bool.decide_and,Bool.decide_and]
 cases o<;>cases u<;>simp [Z0]<;>(split<;>simp_all)<;>(try omega)
theorem ZmC (o:Bool) (s r:Int) (hs:1<=s/\s<=9) (hr:r=YE o s):
  evF G0 20 75 [.bool o,.int .i64 s] ⟨0,[]⟩ (Yo (fun v=>v=.int .i64 r)):=by
 refine @Eq.mpr _ (let q1:=AV.int i64 r;let q2:=AV.int i64 0=q1;let q3:=AV.int i64 s=q1;let q4:=Z0 (false==o) q3 (Z0 (false==(s==6)) q3 (AV.int i64 5=q1));
 Z0 (decide (1<=s)) (Z0 (!decide (s<=10)) q2 (Z0 (false== !o) q4 (Z0 (false==(s==1)) q4 q2))) q2) (by kernel_rfl) ?_
 conv=>zeta
 subst hr
 cases o<;>rcases ZdR hs with h|h|h|h|h|h|h|h|h<;>subst h<;>exact rfl
theorem ZkN (o:Bool) (s r:Int) (hs:1<=s/\s<=9) (hr:r=YE o s):
  evF G0 20 108 [.bool o,.int .i64 s] ⟨0,[]⟩ (Yo (fun v=>v=.int .i64 r)):=by
 refine @Eq.mpr _ (let q1:=AV.int i64 r;let q2:=AV.int i64 0=q1;let q3:=AV.int i64 s=q1;let q4:=Z0 o (Z0 (s==6) (AV.int i64 5=q1) q3) q3;
 Z0 (decide (s<1)) q2 (Z0 (decide (s>10)) q2 (Z0 (!o) (Z0 (s==1) q2 q4) q4))) (by kernel_rfl) ?_
 conv=>zeta
 subst hr
 cases o<;>rcases ZdR hs with h|h|h|h|h|h|h|h|h<;>subst h<;>exact rfl
theorem ZmD (s r e:Int) (hs:1<=s/\s<=9) (hr:r=if s=5 then 6 else 0) (he:e=if s=5 then 0 else 190):
  evF G0 20 126 [.int .i64 s] ⟨0,[]⟩ (Yo (fun v=>v=.tuple [.int .i64 r,.int .i64 e])):=by
 refine @Eq.mpr _ (let q1:=AV.int i64 0;let q2:=AV.tuple [AV.int i64 r,AV.int i64 e];let q3:=AV.tuple [q1,AV.int i64 2]=q2;
 Z0 (decide (1<=s)) (Z0 (!decide (s<=10)) q3 (Z0 (s !=5) (AV.tuple [q1,AV.int i64 190]=q2) (AV.tuple [AV.int i64 6,q1]=q2))) q3) (by kernel_rfl) ?_
 conv=>zeta
 subst hr he
 rcases ZdR hs with h|h|h|h|h|h|h|h|h<;>subst h<;>exact rfl
def waS:ZR:=fun args _ K=>match args with
 | [.bool o,.int .i64 s]=>Zx (1<=s/\s<=9) (K (.int .i64 (Wm o s)))
 | _=>False
def neS:ZR:=fun args _ K=>match args with
 | [.bool o,.int .i64 s,.int .i64 m]=>Zx ((1<=s/\s<=9)/\1<=m/\m<=4) (K (.tuple [.int .i64 (ZZ o s m),.bool (decide (Wm o s=m)),.int .i64 0]))
 | _=>False
theorem Zje (args:List AV) (h:Za) (K:AV->Prop) (hl:neS args h K):Zp PP 73 args h fun o h'=>∃v,o=.ret v/\h'=h/\K v:=by
 unfold neS at hl
 split at hl
 ·obtain ⟨⟨h1,h2⟩,hK⟩:=Ze hl
  exact Y7 Zv rfl (ZmA _ _ _ _ _ h1 h2 rfl rfl) (fun u hu=>hu▸hK)
 ·exact hl.elim
theorem Zgs (args:List AV) (h:Za) (K:AV->Prop) (hl:neS args h K):Zp PP 107 args h fun o h'=>∃v,o=.ret v/\h'=h/\K v:=by
 unfold neS at hl
 split at hl
 ·obtain ⟨⟨h1,h2⟩,hK⟩:=Ze hl
  exact Y7 Zv rfl (ZkL _ _ _ _ _ h1 h2 rfl rfl) (fun u hu=>hu▸hK)
 ·exact hl.elim
def Zbu:ZR:=fun args _ K=>match args with
 | [.bool o,.int .i64 s,.bool u]=>K (.bool (YG o s u))
 | _=>False
theorem Zgt (args:List AV) (h:Za) (K:AV->Prop) (hl:Zbu args h K):Zp PP 34 args h fun o h'=>∃v,o=.ret v/\h'=h/\K v:=by
 unfold Zbu at hl
 split at hl
 ·exact Y7 Zv rfl (ZmB _ _ _ _ rfl) (fun u hu=>hu▸hl)
 ·exact hl.elim
theorem ZdS (args:List AV) (h:Za) (K:AV->Prop) (hl:Zbu args h K):Zp PP 109 args h fun o h'=>∃v,o=.ret v/\h'=h/\K v:=by
 unfold Zbu at hl
 split at hl
 ·exact Y7 Zv rfl (ZkM _ _ _ _ rfl) (fun u hu=>hu▸hl)
 ·exact hl.elim
def bkS:ZR:=fun args _ K=>match args with
 | [.bool o,.int .i64 s]=>Zx (1<=s/\s<=9) (K (.int .i64 (YE o s)))
 | _=>False
theorem Zjf (args:List AV) (h:Za) (K:AV->Prop) (hl:bkS args h K):Zp PP 75 args h fun o h'=>∃v,o=.ret v/\h'=h/\K v:=by
 unfold bkS at hl
 split at hl
 ·obtain ⟨h1,hK⟩:=Ze hl
  exact Y7 Zv rfl (ZmC _ _ _ h1 rfl) (fun u hu=>hu▸hK)
 ·exact hl.elim
theorem Zgu (args:List AV) (h:Za) (K:AV->Prop) (hl:bkS args h K):Zp PP 108 args h fun o h'=>∃v,o=.ret v/\h'=h/\K v:=by
 unfold bkS at hl
 split at hl
 ·obtain ⟨h1,hK⟩:=Ze hl
  exact Y7 Zv rfl (ZkN _ _ _ h1 rfl) (fun u hu=>hu▸hK)
 ·exact hl.elim
def seS:ZR:=fun args _ K=>match args with
 | [.int .i64 s]=>Zx (1<=s/\s<=9) (K (.tuple [.int .i64 (if s=5 then 6 else 0),.int .i64 (if s=5 then 0 else 190)]))
 | _=>False
theorem Zjg (args:List AV) (h:Za) (K:AV->Prop) (hl:seS args h K):Zp PP 126 args h fun o h'=>∃v,o=.ret v/\h'=h/\K v:=by
 unfold seS at hl
 split at hl
 ·obtain ⟨h1,hK⟩:=Ze hl
  exact Y7 Zv rfl (ZmD _ _ _ h1 rfl rfl) (fun u hu=>hu▸hK)
 ·exact hl.elim
end Go.Tk
end
section
namespace Go.Tk
open IntKind (i64 u8 u32 u64 wrap)
noncomputable def Zjh (H1:List Int->List Int) (H2:List Int->List Int->List Int) (B:Nat):Zg:=(((G8 H1 H2 B).withP 125 ZhT).withP 126 seS).withF 69 Zjb
theorem Z9T:(Zjh Zs Z40 1000).Ok:=Zg.withF_ok (Zg.withP_ok (Zg.withP_ok (ZhC 1000 (by decide)) ZdQ) Zjg) Z9R
theorem ZhV {L:List Z7} {I:Nat} {q:Z7} (hI:I<L.length) (i:Nat):(L.set I q).getD i Zc=if i=I then q else L.getD i Zc:=by
 rw [List.getD_eq_getElem?_getD,List.getElem?_set]
 by_cases h:i=I
 ·subst h;rw [if_pos rfl,if_pos hI,if_pos rfl];rfl
 ·rw [if_neg (fun q=>h q.symm),if_neg h,List.getD_eq_getElem?_getD]
theorem ZkO (X:Z8) (n:Nat) (own:Bool) (id k e:Int) (sec:List Int) (H1:List Int->List Int) (H2:List Int->List Int->List Int) (B:Nat) (hn:X.L.length=n) (hlen:X.L.length<1000) (hcap:X.t.cap≠0) (hst:∀h∈X.L,1<=h.stage/\h.stage<=9) (hOk:∀h∈X.L,h.Ok) (hsec:sec.length=32) (hl:(H1 sec).length=32) (hB:32<=B) (he:e=Xd H1 X own id k sec) (hne:e≠0):
  evF (Zjh H1 H2 B) 20 74 [.ptr (some ⟨0,0,0,0,0⟩),.bool own,.int .i64 id,.int .i64 k,.agg [.arr .u8 32 sec]] (Z5O X n) (Y5 2 (.ret (.int .i64 e)) 2 [(0,.flat (X.c (.nslice ⟨1,0,70,0,0⟩ 70 n n))),(1,.rows 70 n (Z6 X.L))]):=by
 refine @Eq.mpr _ (let q1:=X.t;let q2:=q1.cap;let q3:=q1.fund;let q4:=q3=q3;let q5:=q1.index;let q6:=decide (q5=q5);let q7:=decide (q2=q2);let q8:=q1.dust;let q9:=decide (q8=q8);let q10:=q1.fee;let q11:=decide (q10=q10);let q12:=q1.delay;let q13:=decide (q12=q12);let q14:=q1.k0;let q15:=q14=q14;let q16:=q1.k1;let q17:=q16=q16;let q18:=X.side;let q19:=decide (q18=q18);let q20:=X.res;let q21:=decide (q20=q20);let q22:=[X.a0,X.a1];let q23:=q22=q22;let q24:=[X.i0,X.i1];let q25:=q24=q24;let q26:=decide (n=n);let q27:=Z6 X.L;let q28:=q4/\Z0 q6 (Z0 q7 (Z0 q9 (Z0 q11 (Z0 q13 (q15/\q17/\Z0 q19 (Z0 q21 (q23/\q25/\Z0 q26 (Z0 (decide (n<=n)) (Z0 q26 (Zb 2 [] n q27 q27/\True) False) False) False) False) False) False) False) False) False) False;let q29:=decide (0+n<=n);let q30:=ZT 0 q27;let q31:=List.length sec;let q32:=Z0 (decide (0=e)) (q4/\Z0 q6 (Z0 q7 (Z0 q9 (Z0 q11 (Z0 q13 (q15/\q17/\Z0 q19 (Z0 q21 (q23/\q25/\False) False) False) False) False) False) False) False) False;
 Z0 (q2==0) (Z0 (decide (1=e)) q28 False)
 (Z0 q29
 ((∀(i:Nat),i<n->true=true)/\
 ∃(X_1:Z8),
 let q65:=fiV own id X_1.L;let q66:=decide (0<=q65/\q65< ↑n);let q67:=0+Int.toNat q65;let q68:=List.getD X.L q67 Zc;let q69:=q68.stage;let q70:=if q69=5 then 0 else 190;let q71:=q68.hash;let q72:=q70 !=0;let q73:=Z0 (decide (q70=e)) q28 False;
 LV [AV.arr u8 32 q3,AV.int i64 q5,AV.int i64 q2,AV.int i64 q8,AV.int i64 q10,AV.int i64 q12,AV.arr u8 32 q14,AV.arr u8 32 q16,AV.int i64 q18,AV.int i64 q20,AV.arr i64 2 q22,AV.arr i64 2 q24,AV.vrows 70 n q30 n] X_1/\
 List.length X_1.L<1000/\
 Z0 (decide (q65<0)) (Z0 (decide (5=e)) q28 False)
 (Z0 q66 (Z0 (decide (q67<n)) (Z0 (decide (1<=q69/\q69<=9)) (Z0 (q70==0) (Z0 (k==1) (q71=q71/\Z0 (decide (q31=32)) (Z0 (decide (32=q31)) (Z0 (decide (q31<=B)) (Z0 (decide (List.length (H1 sec)=32/\List.length q71=32)) (Z0 (!H1 sec==q71) (Z0 (decide (203=e)) q28 False) (Z0 q72 q73 (sec=sec/\sec=sec/\Z0 q29 ((∀(i:Nat),i<n->true=true)/\∃(L:List Z7),n=n/\q30=Z6 L/\n<1000000/\Z0 q66 (Z0 (decide (q67<n)) q32 False) False) False))) False) False) False) False) (Z0 q72 q73 (sec=sec/\sec=sec/\Z0 q29 ((∀(i:Nat),i<n->true=true)/\∃(L:List Z7),n=n/\q30=Z6 L/\n<1000000/\Z0 q66 (Z0 (decide (q67<n)) q32 False) False) False))) (Z0 q72 q73 (sec=sec/\sec=sec/\Z0 q29 ((∀(i:Nat),i<n->true=true)/\∃(L:List Z7),n=n/\q30=Z6 L/\n<1000000/\Z0 q66 (Z0 (decide (q67<n)) q32 False) False) False))) False) False) False))
 False)) (by kernel_rfl) ?_
 conv=>zeta
 subst hn
 have hR:Zb 2 [] X.L.length (Z6 X.L) (Z6 X.L):=Zo fun _ _=>rfl
 try simp only [Zj]
 try simp only [Zl]
 try simp only [Zi]
 try simp only [Zm]
 try simp only [Zn]
 try simp only [Zh]
 try simp only [Int.toNat_natCast,Nat.zero_add,true_and,and_true,Nat.le_refl]
 unfold Xd at he
 refine ⟨fun hc=>absurd hc (by simp [hcap]),fun _=>⟨fun _ _=>trivial,X,.a rfl,hlen, ?_⟩⟩
 by_cases hI:ZW own id X.L<X.L.length
 ·have hv:fiV own id X.L=((ZW own id X.L:Nat):Int):=by unfold fiV;rw [if_pos hI]
  rw [hv]
  simp only [Int.toNat_natCast]
  rw [if_neg (by omega)] at he
  have hx:=ZM hI
  have h1:=hst _ hx
  have h2:=(hOk _ hx).hash
  refine ⟨fun h=>by omega,fun _=>⟨by omega,hI,h1, ?_⟩⟩
  by_cases h5:(X.L.getD (ZW own id X.L) Zc).stage=5
  ·rw [if_neg (fun hq=>hq h5)] at he
   simp only [if_pos h5]
   have hz:(fun (_:Unit)=>(k=1/\H1 sec≠(X.L.getD (ZW own id X.L) Zc).hash)) ()->e=203:=fun h=>by rw [he,if_pos h]
   have hno:¬(k=1/\H1 sec≠(X.L.getD (ZW own id X.L) Zc).hash)->False:=fun h=>hne (by rw [he,if_neg h])
   refine ⟨fun _=>⟨fun hk=>⟨hsec,hsec.symm,by omega,⟨hl,h2⟩,fun hh=>⟨?_,hR⟩,fun hh=>(hno fun hq=>hq.2 (by simpa using hh)).elim⟩,fun hk=>(hno fun hq=>by simp [hq.1] at hk).elim⟩,fun h=>by simp at h⟩
   exact (hz ⟨by simpa using hk,by simpa using hh⟩).symm
  ·rw [if_pos h5] at he
   simp only [if_neg h5]
   exact ⟨fun h=>by simp at h,fun _=>⟨fun _=>⟨he.symm,hR⟩,fun h=>by simp at h⟩⟩
 ·have hv:fiV own id X.L= -1:=by unfold fiV;rw [if_neg hI]
  rw [hv]
  rw [if_pos (by omega)] at he
  exact ⟨fun _=>⟨he.symm,hR⟩,fun h=>by omega⟩
theorem ZkP (X X':Z8) (n:Nat) (own:Bool) (id k:Int) (sec:List Int) (H1:List Int->List Int) (H2:List Int->List Int->List Int) (B:Nat) (hn:X.L.length=n) (hlen:X.L.length<1000) (hcap:X.t.cap≠0) (hst:∀h∈X.L,1<=h.stage/\h.stage<=9) (hOk:∀h∈X.L,h.Ok) (hsec:sec.length=32) (hl:(H1 sec).length=32) (hB:32<=B) (he:Xd H1 X own id k sec=0) (hX':X'=endX H1 X own id k sec):
  evF (Zjh H1 H2 B) 20 74 [.ptr (some ⟨0,0,0,0,0⟩),.bool own,.int .i64 id,.int .i64 k,.agg [.arr .u8 32 sec]] (Z5O X n) (Y5 2 (.ret (.int .i64 0)) 3 [(0,.flat (X'.c (.nslice ⟨2,0,70,0,0⟩ 70 n n))),(2,.rows 70 n (Z6 X'.L))]):=by
 refine @Eq.mpr _ (let q1:=X.t;let q2:=q1.cap;let q3:=decide ((0:Nat)+n<=n);let q4:=q1.fund;let q5:=q1.index;let q6:=q1.dust;let q7:=q1.fee;let q8:=q1.delay;let q9:=q1.k0;let q10:=q1.k1;let q11:=[X.a0,X.a1];let q12:=[X.i0,X.i1];let q13:=X.L;let q14:=Z6 q13;let q15:=ZT (0:Nat) q14;let q16:=List.length sec;let q17:=X'.t;let q18:=q4=q17.fund;let q19:=decide (q5=q17.index);let q20:=decide (q2=q17.cap);let q21:=decide (q6=q17.dust);let q22:=decide (q7=q17.fee);let q23:=decide (q8=q17.delay);let q24:=q9=q17.k0;let q25:=q10=q17.k1;let q26:=decide (X.side=X'.side);let q27:=decide (X.res=X'.res);let q28:=q11=[X'.a0,X'.a1];let q29:=q12=[X'.i0,X'.i1];let q30:=decide (n=n);let q31:=decide (n<=n);let q32:=Z6 X'.L;
 Z0 (q2==(0:Int)) False
 (Z0 q3
 ((∀(i:Nat),i<n->true=true)/\
 ∃(X_1:Z8),
 let q65:=fiV own id X_1.L;let q66:=decide ((0:Int)<=q65/\q65<(↑n:Int));let q67:=(0:Nat)+Int.toNat q65;let q68:=List.getD q13 q67 Zc;let q69:=q68.stage;let q70:=q69=(5:Int);let q71:=if q70 then (0:Int) else (190:Int);let q72:=q68.hash;let q73:=q71 !=(0:Int);let q74:=Z0 (decide (q71=(0:Int))) (q18/\Z0 q19 (Z0 q20 (Z0 q21 (Z0 q22 (Z0 q23 (q24/\q25/\Z0 q26 (Z0 q27 (q28/\q29/\Z0 q30 (Z0 q31 (Z0 q30 (Zb (2:Nat) [((2:Nat),(1:Nat))] n q32 q14/\True) False) False) False) False) False) False) False) False) False) False) False;
 LV [AV.arr u8 (32:Nat) q4,AV.int i64 q5,AV.int i64 q2,AV.int i64 q6,AV.int i64 q7,AV.int i64 q8,AV.arr u8 (32:Nat) q9,AV.arr u8 (32:Nat) q10,AV.int i64 X.side,AV.int i64 X.res,AV.arr i64 (2:Nat) q11,AV.arr i64 (2:Nat) q12,AV.vrows (70:Nat) n q15 n] X_1/\
 List.length X_1.L<(1000:Nat)/\
 Z0 (decide (q65<(0:Int))) False
 (Z0 q66
 (Z0 (decide (q67<n))
 (Z0 (decide ((1:Int)<=q69/\q69<=(9:Int)))
 (Z0 (q71==(0:Int))
 (Z0 (k==(1:Int))
 (q72=q72/\Z0 (decide (q16=(32:Nat))) (Z0 (decide ((32:Nat)=q16)) (Z0 (decide (q16<=B)) (Z0 (decide (List.length (H1 sec)=(32:Nat)/\List.length q72=(32:Nat))) (Z0 (!H1 sec==q72) False (Z0 q73 q74 (sec=sec/\sec=sec/\Z0 q3 ((∀(i:Nat),i<n->true=true)/\∃(L:List Z7),n=n/\q15=Z6 L/\n<(1000000:Nat)/\Z0 q66 (Z0 (decide (q67<n)) (q18/\Z0 q19 (Z0 q20 (Z0 q21 (Z0 q22 (Z0 q23 (q24/\q25/\Z0 q26 (Z0 q27 (q28/\q29/\Z0 q30 (Z0 q31 (Z0 q30 (Zb (2:Nat) [((2:Nat),(5:Nat))] n q32 (Z0F (Z6 L) q67 [AV.bool q68.own,AV.int i64 q68.id,AV.int i64 q68.amount,AV.arr u8 (32:Nat) q72,AV.int i64 q68.expiry,AV.int i64 (if q70 then (6:Int) else (0:Int)),AV.int i64 k,AV.arr u8 (32:Nat) sec])/\True) False) False) False) False) False) False) False) False) False) False) False) False) False))) False) False) False) False)
 (Z0 q73 q74 (sec=sec/\sec=sec/\Z0 q3 ((∀(i:Nat),i<n->true=true)/\∃(L:List Z7),n=n/\q15=Z6 L/\n<(1000000:Nat)/\Z0 q66 (Z0 (decide (q67<n)) (q18/\Z0 q19 (Z0 q20 (Z0 q21 (Z0 q22 (Z0 q23 (q24/\q25/\Z0 q26 (Z0 q27 (q28/\q29/\Z0 q30 (Z0 q31 (Z0 q30 (Zb (2:Nat) [((2:Nat),(4:Nat))] n q32 (Z0F (Z6 L) q67 [AV.bool q68.own,AV.int i64 q68.id,AV.int i64 q68.amount,AV.arr u8 (32:Nat) q72,AV.int i64 q68.expiry,AV.int i64 (if q70 then (6:Int) else (0:Int)),AV.int i64 k,AV.arr u8 (32:Nat) sec])/\True) False) False) False) False) False) False) False) False) False) False) False) False) False)))
 (Z0 q73 q74 (sec=sec/\sec=sec/\Z0 q3 ((∀(i:Nat),i<n->true=true)/\∃(L:List Z7),n=n/\q15=Z6 L/\n<(1000000:Nat)/\Z0 q66 (Z0 (decide (q67<n)) (q18/\Z0 q19 (Z0 q20 (Z0 q21 (Z0 q22 (Z0 q23 (q24/\q25/\Z0 q26 (Z0 q27 (q28/\q29/\Z0 q30 (Z0 q31 (Z0 q30 (Zb (2:Nat) [((2:Nat),(4:Nat))] n q32 (Z0F (Z6 L) q67 [AV.bool q68.own,AV.int i64 q68.id,AV.int i64 q68.amount,AV.arr u8 (32:Nat) q72,AV.int i64 q68.expiry,AV.int i64 (if q70 then (6:Int) else (0:Int)),AV.int i64 k,AV.arr u8 (32:Nat) sec])/\True) False) False) False) False) False) False) False) False) False) False) False) False) False)))
 False)
 False)
 False))
 False)) (by kernel_rfl) ?_
 conv=>zeta
 subst hn
 have hX2:X'={ X with L:=X.L.set (ZW own id X.L) (Ud (X.L.getD (ZW own id X.L) Zc) k sec)}:=by rw [hX'];unfold endX;rw [if_pos he]
 have hI:ZW own id X.L<X.L.length:=by
  rcases Nat.lt_or_ge (ZW own id X.L) X.L.length with h|h
  ·exact h
  ·unfold Xd at he;rw [if_pos h] at he;cases he
 have h5:(X.L.getD (ZW own id X.L) Zc).stage=5:=by
  unfold Xd at he
  rw [if_neg (by omega)] at he
  by_cases h:(X.L.getD (ZW own id X.L) Zc).stage=5
  ·exact h
  ·rw [if_pos h] at he;cases he
 have hno:¬(k=1/\H1 sec≠(X.L.getD (ZW own id X.L) Zc).hash):=fun hq=>by
  unfold Xd at he
  rw [if_neg (by omega),if_neg (fun hq2=>hq2 h5),if_pos hq] at he
  cases he
 have hU:∀τ,Zb 2 τ X.L.length (Z6 (X.L.set (ZW own id X.L) (Ud (X.L.getD (ZW own id X.L) Zc) k sec))) (Z0F (Z6 X.L) (ZW own id X.L) (Ud (X.L.getD (ZW own id X.L) Zc) k sec).c):=fun τ=>Zo fun i hi=>by
  rw [UP]
  unfold Z6
  rw [ZhV hI]
  by_cases h:i=ZW own id X.L
  ·rw [if_pos h,h,Nat.beq_refl]
  ·rw [if_neg h,ZB h]
 generalize hLn:X.L.set (ZW own id X.L) (Ud (X.L.getD (ZW own id X.L) Zc) k sec)=L2 at*
 subst hX2
 try simp only [Zj]
 try simp only [Zl]
 try simp only [Zi]
 try simp only [Zm]
 try simp only [Zn]
 try simp only [Zh]
 try simp only [Int.toNat_natCast,Nat.zero_add,true_and,and_true,Nat.le_refl]
 have hx:=ZM hI
 have h1:=hst _ hx
 have h2:=(hOk _ hx).hash
 have hv:fiV own id X.L=((ZW own id X.L:Nat):Int):=by unfold fiV;rw [if_pos hI]
 refine ⟨by simp [hcap],fun _ _=>trivial,X,.a rfl,hlen, ?_⟩
 rw [hv]
 simp only [Int.toNat_natCast,if_pos h5]
 refine ⟨by omega,by omega,hI,h1,fun _=>⟨fun hk=>⟨hsec,hsec.symm,by omega,⟨hl,h2⟩, ?_, ?_⟩,fun hk=> ?_⟩,fun h=>by simp at h⟩
 ·have hk:k=1:=by simpa using hk
  have:H1 sec=(X.L.getD (ZW own id X.L) Zc).hash:=Classical.byContradiction fun hq=>hno ⟨hk,hq⟩
  rw [this];simp
 all_goals
  refine ⟨fun h=>by simp at h,fun _=>⟨fun _ _=>trivial,X.L,rfl,by omega, ?_⟩⟩
  repeat' apply And.intro
  all_goals first|rfl|exact hU _|omega
theorem Z8.Inv.stage {H:List Int->List Int} {X:Z8} (h:X.Inv H):∀z∈X.L,1<=z.stage/\z.stage<=9:=fun z hz=>(YW (h.und z hz)).2.2.1
def Zji (c:Bool):Yf:=fun args h K=>match args with
 | [.ptr (some ⟨l,0,0,0,0⟩),_,_,_,_]=>match h.get l with
  |some (.flat [_,_,_,_,_,_,_,_,_,_,_,_,.nslice ⟨b,0,70,0,0⟩ 70 _ _])=>frA [l,b] h 20 args fun Bs a=>match Bs,a with
   | [.flat cs,.rows 70 n f],[.ptr (some ⟨0,0,0,0,0⟩),.bool own,.int .i64 id,.int .i64 k,.agg [.arr .u8 32 sec]]=>
    ∃X,LB cs n f X/\X.Inv Zs/\sec.length=32/\(match c with
     | true=>Xd Zs X own id k sec=0/\K (.ret (.int .i64 0)) ⟨h.next+1,(l,.flat ((endX Zs X own id k sec).c (.nslice ⟨h.next,0,70,0,0⟩ 70 X.L.length X.L.length)))::(h.next,.rows 70 X.L.length (Z6 (endX Zs X own id k sec).L))::Yc (Yc h.bs l) b⟩
     | false=>Xd Zs X own id k sec≠0/\K (.ret (.int .i64 (Xd Zs X own id k sec))) ⟨h.next,(l,.flat (X.c (.nslice ⟨b,0,70,0,0⟩ 70 X.L.length X.L.length)))::(b,.rows 70 X.L.length (Z6 X.L))::Yc (Yc h.bs l) b⟩)
   | _,_=>False
  | _=>False
 | _=>False
theorem Zgv (c:Bool) (args:List AV) (h:Za) (K:KO) (hl:Zji c args h K):Zp PP 74 args h K:=by
 unfold Zji at hl
 split at hl
 ·split at hl
  ·refine Spec.fsumm hl fun Bs a hlen hK0=> ?_
   split at hK0
   ·rename_i cs n f own id k sec
    obtain ⟨X,⟨rfl,rfl,rfl⟩,hI,hsec,hK⟩:=hK0
    have hlen:X.L.length<1000:=hI.am.n
    cases c with
    | true=>
     obtain ⟨he,hK1⟩:=hK
     exact ⟨_,_,_,_,_,.evM Z9T (ZkP X _ _ own id k sec Zs Z40 1000 rfl hlen hI.add.cap hI.stage hI.ok hsec (VD _) (by decide) he rfl),by simp,.ret _ _ rfl,.cons _ _ _ _ _ _ rfl (.flat _ _ rfl) (.cons _ _ _ _ _ _ rfl (.rows _ _ _ (fun _ _=>rfl)) .nil),hK1⟩
    | false=>
     obtain ⟨he,hK2⟩:=hK
     exact ⟨_,_,_,_,_,.evM Z9T (ZkO X _ own id k _ sec Zs Z40 1000 rfl hlen hI.add.cap hI.stage hI.ok hsec (VD _) (by decide) rfl he),by simp,.ret _ _ rfl,.cons _ _ _ _ _ _ rfl (.flat _ _ rfl) (.cons _ _ _ _ _ _ rfl (.rows _ _ _ (fun _ _=>rfl)) .nil),hK2⟩
   ·exact hK0.elim
  ·exact hl.elim
 ·exact hl.elim
end Go.Tk
end
section
namespace Go.Tk
open IntKind (i64 u8 u32 u64 wrap)
noncomputable def Zgw:Zg:=G0.withP 73 neS
def ZmE:AV:=.func (.func 81) [] [.ptr (some ⟨2,0,0,0,0⟩)]
def ZmF (X:Z8) (L:List Z7) (n:Nat) (G Hd Lf:List Z7):Za:=⟨6,[(0,.flat (X.c (.nslice ⟨1,0,70,0,0⟩ 70 n n))),(1,.rows 70 n (Z6 L)),(2,.flat [.ptr (some ⟨0,0,0,103,0⟩)]),(3,.rows 70 G.length (Z6 G)),(4,.rows 70 Hd.length (Z6 Hd)),(5,.rows 70 Lf.length (Z6 Lf))]⟩
def stS (X:Z8) (L:List Z7) (m:Int) (n i:Nat) (G Hd Lf:List Z7):St:=⟨87,[(30,.int .i64 i),(29,.int .i64 n),(28,.nslice ⟨1,0,70,0,0⟩ 70 n n),(1,.int .i64 m),(7,ZmE),(0,.ptr (some ⟨0,0,0,0,0⟩)),(5,.nslice ⟨3,0,70,0,0⟩ 70 G.length G.length),(4,.nslice ⟨4,0,70,0,0⟩ 70 Hd.length Hd.length),(8,.nslice ⟨5,0,70,0,0⟩ 70 Lf.length Lf.length)],ZmF X L n G Hd Lf,[]⟩
def stE (X:Z8) (L:List Z7) (m:Int) (n:Nat) (G Hd Lf:List Z7):St:=⟨87,[(0,.ptr (some ⟨0,0,0,0,0⟩)),(5,.nslice ⟨2,0,70,0,0⟩ 70 G.length G.length),(4,.nslice ⟨3,0,70,0,0⟩ 70 Hd.length Hd.length),(8,.nslice ⟨4,0,70,0,0⟩ 70 Lf.length Lf.length)],⟨5,[(0,.flat (X.c (.nslice ⟨1,0,70,0,0⟩ 70 n n))),(1,.rows 70 n (Z6 L)),(2,.rows 70 G.length (Z6 G)),(3,.rows 70 Hd.length (Z6 Hd)),(4,.rows 70 Lf.length (Z6 Lf))]⟩,[]⟩
theorem Q8 {s a b q:Int} (hs:s=0\/s=1) (h1: -1152921504606846976<=a/\a<=1152921504606846976) (h2: -1152921504606846976<=b/\b<=1152921504606846976) (h3:0<=q/\q<=1152921504606846976):
  ([a,b].set s.toNat (i64.wrap ([a,b].getD s.toNat 0-q))).set (1-s).toNat (i64.wrap (([a,b].set s.toNat (i64.wrap ([a,b].getD s.toNat 0-q))).getD (1-s).toNat 0+q))=if s=0 then [a-q,b+q] else [a+q,b-q]:=by
 rcases hs with rfl|rfl
 ·show [i64.wrap (a-q),i64.wrap (b+q)]=[a-q,b+q]
  rw [w64 (by omega),w64 (by omega)]
 ·show [i64.wrap (a+q),i64.wrap (b-q)]=[a+q,b-q]
  rw [w64 (by omega),w64 (by omega)]
theorem Z0w {side:Int} {p:Int×Int} {h:Z7} (hf:¬h.fin=1):XT side p h=p:=by unfold XT;rw [if_neg hf]
theorem UG {side a b:Int} {h:Z7} (hf:h.fin=1):[(XT side (a,b) h).1,(XT side (a,b) h).2]=if ZD side h.own=0 then [a-h.amount,b+h.amount] else [a+h.amount,b-h.amount]:=by
 unfold XT
 rw [if_pos hf]
 split<;>rfl
theorem Z8K {o:Bool} {s m:Int} (hs:1<=s/\s<=9) (h:ZZ o s m=10):s=9:=by unfold ZZ at h;split at h<;>omega
theorem ZkQ (X X1:Z8) (L:List Z7) (m:Int) (n i:Nat) (x:Z7) (G Hd Lf G1 Hd1 Lf1:List Z7) (Z1 Z2:Prop) (hn:n<1000) (hL:L.length=n) (hi:i<=n) (hm:1<=m/\m<=4) (hX:X3 X) (hx:i<n->L.getD i Zc=x) (hst:i<n->1<=x.stage/\x.stage<=9) (hb:G.length<1000/\Hd.length<1000/\Lf.length<1000) (hG:i<n->G1=G++X9 (decide (ZZ x.own x.stage m=10)) (stH m x)) (hH:i<n->Hd1=Hd++X9 (decide (x.stage=4/\Wm x.own 4=m)) (stH m x)) (hLf:i<n->Lf1=Lf++X9 (decide (¬ZZ x.own x.stage m=10)) (stH m x)) (hX1:i<n->X1=if ZZ x.own x.stage m=10 then { X with a0:=(XT X.side (X.a0,X.a1) (stH m x)).1,a1:=(XT X.side (X.a0,X.a1) (stH m x)).2} else X) (hw:i<n->ZZ x.own x.stage m=10->x.fin=1->(-1152921504606846976<=X.a0/\X.a0<=1152921504606846976)/\(-1152921504606846976<=X.a1/\X.a1<=1152921504606846976)/\0<=x.amount/\x.amount<=1152921504606846976) (hZ1:i<n->Z1) (hZ2:i=n->Z2):
  ZG Zgw 20 21 1 2 (stS X L m n i G Hd Lf) (rdM 2 1 9 (stS X1 L m n (i+1) G1 Hd1 Lf1) (stE X L m n G Hd Lf) (stE X L m n G Hd Lf) (stE X L m n G Hd Lf) Z1 Z2 False False):=by
 refine @Eq.mpr _ (let q1:=0+Int.toNat (↑i:Int);let q2:=List.getD L q1 Zc;let q3:=q2.stage;let q4:=q2.own;let q5:=ZZ q4 q3 m;let q6:=decide (q4=q4);let q7:=q2.id;let q8:=decide (q7=q7);let q9:=q2.amount;let q10:=decide (q9=q9);let q11:=q2.hash;let q12:=q11=q11;let q13:=q2.expiry;let q14:=decide (q13=q13);let q15:=decide (q5=q5);let q16:=q2.fin;let q17:=decide (q16=q16);let q18:=q2.secret;let q19:=q18=q18;let q20:=q16==1;let q21:=X.side;let q22:=decide (0<=q21/\q21<2);let q23:=0+Int.toNat q21;let q24:=wrap i64 (1-q21);let q25:=decide (0<=q24/\q24<2);let q26:=0+Int.toNat q24;let q27:=decide (q26<2);let q28:=[X.a0,X.a1];let q29:=List.set q28 q23 (wrap i64 (List.getD q28 q23 0-q9));let q30:=List.length G;let q31:=decide (q30=q30);let q32:=q30+1;let q33:=decide (q32*112<=140737488355328);let q34:=decide (wrap i64 ((↑i:Int)+1)=(↑(i+1):Int));let q35:=decide ((↑n:Int)=(↑n:Int));let q36:=decide (n=n);let q37:=decide (n<=n);let q38:=decide (m=m);let q39:=List.length G1;let q40:=decide (q32=q39);let q41:=decide (q39<=q32);let q42:=List.length Hd;let q43:=List.length Hd1;let q44:=decide (q42=q43);let q45:=decide (q43<=q42);let q46:=List.length Lf;let q47:=List.length Lf1;let q48:=decide (q46=q47);let q49:=decide (q47<=q46);let q50:=X.t;let q51:=q50.fund;let q52:=X1.t;let q53:=q51=q52.fund;let q54:=q50.index;let q55:=decide (q54=q52.index);let q56:=q50.cap;let q57:=decide (q56=q52.cap);let q58:=q50.dust;let q59:=decide (q58=q52.dust);let q60:=q50.fee;let q61:=decide (q60=q52.fee);let q62:=q50.delay;let q63:=decide (q62=q52.delay);let q64:=q50.k0;let q65:=q64=q52.k0;let q66:=q50.k1;let q67:=q66=q52.k1;let q68:=decide (q21=X1.side);let q69:=X.res;let q70:=decide (q69=X1.res);let q71:=[X1.a0,X1.a1];let q72:=[X.i0,X.i1];let q73:=q72=[X1.i0,X1.i1];let q74:=[(2,2)];let q75:=(5,5)::(4,4)::(3,9)::q74;let q76:=Z6 L;let q77:=Z6 G1;let q78:=Z6 G;let q79:=YQ [AV.bool q4,AV.int i64 q7,AV.int i64 q9,AV.arr u8 32 q11,AV.int i64 q13,AV.int i64 q5,AV.int i64 q16,AV.arr u8 32 q18] 0 70;let q80:=Z6 Hd1;let q81:=Z6 Hd;let q82:=Z6 Lf1;let q83:=Z6 Lf;let q84:=q73/\Z0 q36 (Z0 q37 (Z0 q36 (Zb 2 q75 n q76 q76/\Z0 q40 (Zb 2 q75 q39 q77 (Y2 q30 q78 q79)/\Z0 q44 (Zb 2 q75 q43 q80 q81/\Z0 q48 (Zb 2 q75 q47 q82 q83/\Z1) False) False) False) False) False) False;let q85:=q28=q71;let q86:=Z0 q31 (Z0 q33 (Z0 q34 (Z0 q35 (Z0 q36 (Z0 q37 (Z0 q38 (Z0 q40 (Z0 q41 (Z0 q44 (Z0 q45 (Z0 q48 (Z0 q49 (q53/\Z0 q55 (Z0 q57 (Z0 q59 (Z0 q61 (Z0 q63 (q65/\q67/\Z0 q68 (Z0 q70 (q85/\q84) False) False) False) False) False) False) False) False) False) False) False) False) False) False) False) False) False) False) False) False;let q87:=wrap i64 (1-q24);let q88:=decide (0<=q87/\q87<2);let q89:=0+Int.toNat q87;let q90:=List.set q28 q26 (wrap i64 (List.getD q28 q26 0-q9));let q91:=decide (q42=q42);let q92:=q42+1;let q93:=decide (q46=q46);let q94:=q46+1;let q95:=decide (q94*112<=140737488355328);let q96:=decide (q30=q39);let q97:=decide (q39<=q30);let q98:=decide (q92=q43);let q99:=decide (q94=q47);let q100:=decide (q47<=q94);let q101:=(3,3)::q74;let q102:=(5,10)::(4,8)::q101;let q103:=Y2 q46 q83 q79;let q104:=(5,8)::(4,4)::q101;let q105:=Z0 q93 (Z0 q95 (Z0 q34 (Z0 q35 (Z0 q36 (Z0 q37 (Z0 q38 (Z0 q96 (Z0 q97 (Z0 q44 (Z0 q45 (Z0 q99 (Z0 q100 (q53/\Z0 q55 (Z0 q57 (Z0 q59 (Z0 q61 (Z0 q63 (q65/\q67/\Z0 q68 (Z0 q70 (q85/\q73/\Z0 q36 (Z0 q37 (Z0 q36 (Zb 2 q104 n q76 q76/\Z0 q96 (Zb 2 q104 q39 q77 q78/\Z0 q44 (Zb 2 q104 q43 q80 q81/\Z0 q99 (Zb 2 q104 q47 q82 q103/\Z1) False) False) False) False) False) False) False) False) False) False) False) False) False) False) False) False) False) False) False) False) False) False) False) False) False) False;let q106:=[(4,5),(3,4),(2,3)];
 Z0 (decide ((↑i:Int)<(↑n:Int)))
 (Z0 (decide (0<=(↑i:Int)/\(↑i:Int)<(↑n:Int)))
 (Z0 (decide (q1<n))
 (Z0 (decide ((1<=q3/\q3<=9)/\1<=m/\m<=4))
 (Z0 (q5==10)
 (Z0 q4 (Z0 q6 (Z0 q8 (Z0 q10 (q12/\Z0 q14 (Z0 q15 (Z0 q17 (q19/\Z0 q20 (Z0 q22 (Z0 (decide (q23<2)) (Z0 q22 (Z0 (decide (i64=i64/\q23<2/\q23<2)) (Z0 q25 (Z0 q27 (Z0 q25 (Z0 (decide (i64=i64/\q26<2/\q26<List.length q29)) (Z0 q31 (Z0 q33 (Z0 q34 (Z0 q35 (Z0 q36 (Z0 q37 (Z0 q38 (Z0 q40 (Z0 q41 (Z0 q44 (Z0 q45 (Z0 q48 (Z0 q49 (q53/\Z0 q55 (Z0 q57 (Z0 q59 (Z0 q61 (Z0 q63 (q65/\q67/\Z0 q68 (Z0 q70 (List.set q29 q26 (wrap i64 (List.getD q29 q26 0+q9))=q71/\q84) False) False) False) False) False) False) False) False) False) False) False) False) False) False) False) False) False) False) False) False) False) False) False) False) False) False) False) False) q86) False) False) False) False) False) False)
 (Z0 q6 (Z0 q8 (Z0 q10 (q12/\Z0 q14 (Z0 q15 (Z0 q17 (q19/\Z0 q20 (Z0 q25 (Z0 q27 (Z0 q25 (Z0 (decide (i64=i64/\q26<2/\q26<2)) (Z0 q88 (Z0 (decide (q89<2)) (Z0 q88 (Z0 (decide (i64=i64/\q89<2/\q89<List.length q90)) (Z0 q31 (Z0 q33 (Z0 q34 (Z0 q35 (Z0 q36 (Z0 q37 (Z0 q38 (Z0 q40 (Z0 q41 (Z0 q44 (Z0 q45 (Z0 q48 (Z0 q49 (q53/\Z0 q55 (Z0 q57 (Z0 q59 (Z0 q61 (Z0 q63 (q65/\q67/\Z0 q68 (Z0 q70 (List.set q90 q89 (wrap i64 (List.getD q90 q89 0+q9))=q71/\q84) False) False) False) False) False) False) False) False) False) False) False) False) False) False) False) False) False) False) False) False) False) False) False) False) False) False) False) False) q86) False) False) False) False) False) False))
 (Z0 (decide (Wm q4 q3=m)) (Z0 (q5==5) (Z0 q91 (Z0 (decide (q92*112<=140737488355328)) (Z0 q93 (Z0 q95 (Z0 q34 (Z0 q35 (Z0 q36 (Z0 q37 (Z0 q38 (Z0 q96 (Z0 q97 (Z0 q98 (Z0 (decide (q43<=q92)) (Z0 q99 (Z0 q100 (q53/\Z0 q55 (Z0 q57 (Z0 q59 (Z0 q61 (Z0 q63 (q65/\q67/\Z0 q68 (Z0 q70 (q85/\q73/\Z0 q36 (Z0 q37 (Z0 q36 (Zb 2 q102 n q76 q76/\Z0 q96 (Zb 2 q102 q39 q77 q78/\Z0 q98 (Zb 2 q102 q43 q80 (Y2 q42 q81 q79)/\Z0 q99 (Zb 2 q102 q47 q82 q103/\Z1) False) False) False) False) False) False) False) False) False) False) False) False) False) False) False) False) False) False) False) False) False) False) False) False) False) False) False) False) q105) q105))
 False)
 False)
 False)
 (Z0 q31 (Z0 (decide (q30<=q30)) (Z0 q91 (Z0 (decide (q42<=q42)) (Z0 q93 (Z0 (decide (q46<=q46)) (q51=q51/\Z0 (decide (q54=q54)) (Z0 (decide (q56=q56)) (Z0 (decide (q58=q58)) (Z0 (decide (q60=q60)) (Z0 (decide (q62=q62)) (q64=q64/\q66=q66/\Z0 (decide (q21=q21)) (Z0 (decide (q69=q69)) (q28=q28/\q72=q72/\Z0 q36 (Z0 q37 (Z0 q36 (Zb 2 q106 n q76 q76/\Z0 q31 (Zb 2 q106 q30 q78 q78/\Z0 q91 (Zb 2 q106 q42 q81 q81/\Z0 q93 (Zb 2 q106 q46 q83 q83/\Z2) False) False) False) False) False) False) False) False) False) False) False) False) False) False) False) False) False) False) False)) (by kernel_rfl) ?_
 conv=>zeta
 try simp only [Zj]
 try simp only [Zl]
 try simp only [Zi]
 try simp only [Zm]
 try simp only [Zn]
 try simp only [Zh]
 try simp only [Int.toNat_natCast,Nat.zero_add,true_and,and_true,Nat.le_refl]
 refine ⟨fun hc=> ?_,fun hc=> ?_⟩
 ·have hlt:i<n:=by omega
  rw [hx hlt]
  have hG:=hG hlt
  have hH:=hH hlt
  have hLf:=hLf hlt
  have hX1:=hX1 hlt
  have hst:=hst hlt
  have hw:=hw hlt
  have hwr:i64.wrap ((i:Int)+1)=((i+1:Nat):Int):=by rw [w64 (by omega)];omega
  rw [hwr]
  refine ⟨by omega,hlt,⟨hst,hm⟩,fun h10=> ?_,fun h10=> ?_⟩
  ·have h10:ZZ x.own x.stage m=10:=by simpa using h10
   have h9:=Z8K hst h10
   rw [decide_eq_true h10] at hG
   rw [decide_eq_false (by omega)] at hH
   rw [decide_eq_false (by simp [h10])] at hLf
   rw [if_pos h10] at hX1
   simp only [X9,List.append_nil] at hG hH hLf
   subst hG hH hLf hX1
   obtain ⟨s1,s2⟩:=hX
   have hwf:i64.wrap (1-X.side)=1-X.side:=w64 (by omega)
   have hwg:i64.wrap (1-(1-X.side))=X.side:=by rw [w64 (by omega)];omega
   rw [hwf]
   try rw [hwg]
   have hRG:∀τ,Zb 2 τ (G++[stH m x]).length (Z6 (G++[stH m x])) (Y2 G.length (Z6 G) (YQ (stH m x).c 0 70)):=fun τ=>Zo fun j hj=>Yt rfl (fun _ _=>rfl) (by simpa using hj)
   have hR:∀τ k (Q:List Z7),Zb 2 τ k (Z6 Q) (Z6 Q):=fun τ k Q=>Zo fun _ _=>rfl
   refine ⟨fun ho=>⟨fun hf=> ?_,fun hf=> ?_⟩,fun ho=>⟨fun hf=> ?_,fun hf=> ?_⟩⟩
   all_goals repeat' apply And.intro
   all_goals first|omega|rfl|exact hZ1 hlt|exact hRG _|exact hR _ _ _|(simp;done)|(simp only [List.length_set,List.length_cons,List.length_nil,List.length_append];omega)|skip
   ·have hf:x.fin=1:=by simpa using hf
    obtain ⟨b1,b2,b3⟩:=hw h10 hf
    show _=[(XT X.side (X.a0,X.a1) (stH m x)).1,(XT X.side (X.a0,X.a1) (stH m x)).2]
    rw [UG (h:=stH m x) hf,Q8 (by omega) b1 b2 b3]
    show _=if ZD X.side x.own=0 then _ else _
    rw [ho];rfl
   ·have hf:¬x.fin=1:=by simpa using hf
    show _=[(XT X.side (X.a0,X.a1) (stH m x)).1,(XT X.side (X.a0,X.a1) (stH m x)).2]
    rw [Z0w (h:=stH m x) hf]
   ·have hf:x.fin=1:=by simpa using hf
    obtain ⟨b1,b2,b3⟩:=hw h10 hf
    show _=[(XT X.side (X.a0,X.a1) (stH m x)).1,(XT X.side (X.a0,X.a1) (stH m x)).2]
    have e:=Q8 (s:=1-X.side) (by omega) b1 b2 b3
    rw [show 1-(1-X.side)=X.side by omega] at e
    rw [UG (h:=stH m x) hf,e]
    show _=if ZD X.side x.own=0 then _ else _
    rw [ho];rfl
   ·have hf:¬x.fin=1:=by simpa using hf
    show _=[(XT X.side (X.a0,X.a1) (stH m x)).1,(XT X.side (X.a0,X.a1) (stH m x)).2]
    rw [Z0w (h:=stH m x) hf]
  ·have h10:¬ZZ x.own x.stage m=10:=by simpa using h10
   rw [decide_eq_false h10] at hG
   rw [decide_eq_true h10] at hLf
   rw [if_neg h10] at hX1
   simp only [X9,List.append_nil] at hG hLf
   subst hG hLf hX1
   have hRL:∀τ,Zb 2 τ (Lf++[stH m x]).length (Z6 (Lf++[stH m x])) (Y2 Lf.length (Z6 Lf) (YQ (stH m x).c 0 70)):=fun τ=>Zo fun j hj=>Yt rfl (fun _ _=>rfl) (by simpa using hj)
   have hR:∀τ k (Q:List Z7),Zb 2 τ k (Z6 Q) (Z6 Q):=fun τ k Q=>Zo fun _ _=>rfl
   refine ⟨fun ho=>⟨fun h5=> ?_,fun h5=> ?_⟩,fun ho=> ?_⟩
   ·have ho:Wm x.own x.stage=m:=ho
    have h5:ZZ x.own x.stage m=5:=by simpa using h5
    have h4:x.stage=4:=by unfold ZZ at h5;rw [if_pos ho] at h5;omega
    rw [decide_eq_true ⟨h4,by rw [<-h4];exact ho⟩] at hH
    simp only [X9] at hH
    subst hH
    have hRH:∀τ,Zb 2 τ (Hd++[stH m x]).length (Z6 (Hd++[stH m x])) (Y2 Hd.length (Z6 Hd) (YQ (stH m x).c 0 70)):=fun τ=>Zo fun j hj=>Yt rfl (fun _ _=>rfl) (by simpa using hj)
    repeat' apply And.intro
    all_goals first|omega|rfl|exact hZ1 hlt|exact hRL _|exact hRH _|exact hR _ _ _|(simp;done)
   all_goals
    have hH':Hd1=Hd:=by
     rw [hH,decide_eq_false]
     ·simp [X9]
     ·intro hq
      simp [ZZ,hq.1,hq.2] at*
    subst hH'
    repeat' apply And.intro
    all_goals first|omega|rfl|exact hZ1 hlt|exact hRL _|exact hR _ _ _|(simp;done)
 ·repeat' apply And.intro
  all_goals first|omega|rfl|exact hZ2 (by omega)|exact Zo fun _ _=>rfl
end Go.Tk
end
section
namespace Go.Tk
open IntKind (i64 u8 u32 u64 wrap)
def ZN (side s:Int) (L:List Z7):Int:=(Xe (ZP side s L)).sum
def Yz (side s:Int) (L:List Z7):Nat:=(ZP side s L).length
def Qe (side s:Int) (h:Z7):Int:=if ZD side h.own=s then h.amount else 0
def UH (side s:Int) (h:Z7):Nat:=if ZD side h.own=s then 1 else 0
theorem Z4O {side:Int} (hs:side=0\/side=1) (own:Bool):ZD side own=0\/ZD side own=1:=by
 unfold ZD;rcases hs with rfl|rfl<;>cases own<;>simp
theorem ZQ (side s:Int) (x:Z7) (r:List Z7):ZN side s (x::r)=Qe side s x+ZN side s r:=by
 unfold ZN Qe ZP Xe
 rw [List.filter_cons]
 by_cases h:ZD side x.own=s<;>simp [h]
theorem Y9 (side s:Int) (x:Z7) (r:List Z7):Yz side s (x::r)=UH side s x+Yz side s r:=by
 unfold Yz UH ZP
 rw [List.filter_cons]
 by_cases h:ZD side x.own=s<;>simp [h]<;>omega
theorem Xw (X:Z8) (s:Int):Yl X s=X.am s-ZN X.side s X.L-X.res-(if s=0 then X.t.fee else 0):=rfl
theorem U2 {side s:Int} {L:List Z7}:ZP side s L=[]↔Yz side s L=0:=by
 unfold Yz;exact List.length_eq_zero_iff.symm
theorem Z3w (side s:Int) (h:Z7):∀L,ZN side s (Xu h L)=ZN side s L+Qe side s h
 | []=>by unfold Xu;rw [ZQ];omega
 | x::r=>by
  unfold Xu
  split
  ·rw [ZQ];omega
  ·rw [ZQ,ZQ,Z3w side s h r];omega
theorem Z3x (side s:Int) (h:Z7):∀L,Yz side s (Xu h L)=Yz side s L+UH side s h
 | []=>by unfold Xu;rw [Y9];omega
 | x::r=>by
  unfold Xu
  split
  ·rw [Y9];omega
  ·rw [Y9,Y9,Z3x side s h r];omega
theorem Z73 {h:Z7}:∀{L:List Z7},L.Pairwise XG->(∀x∈L,x.own=h.own->x.id<h.id/\min h.stage 5<=min x.stage 5)->(Xu h L).Pairwise XG
 | [],_,_=>by simp [Xu]
 | x::r,hp,hx=>by
  obtain ⟨h1,h2⟩:=List.pairwise_cons.1 hp
  unfold Xu
  split
  ·rename_i hc
   refine List.pairwise_cons.2 ⟨fun y hy=> ?_,hp⟩
   rcases List.mem_cons.1 hy with rfl|hy
   ·exact .inl ⟨hc.1,hc.2⟩
   ·have:=h1 y hy
    unfold XG at this
    rcases this with ⟨q,_⟩|⟨q,_⟩
    ·rw [hc.2] at q;cases q
    ·exact .inl ⟨hc.1,by rw [<-q];exact hc.2⟩
  ·rename_i hc
   refine List.pairwise_cons.2 ⟨fun y hy=> ?_,Z73 h2 fun z hz=>hx z (by simp [hz])⟩
   rcases Z0v.1 hy with hy|rfl
   ·exact h1 y hy
   ·have:=hx x (by simp)
    unfold XG
    cases hxo:x.own<;>cases hyo:y.own<;>simp_all
theorem Zgx (X:Z8) (own o:Bool) (d:Int):(XI X own d).nx o=X.nx o+(if own=o then d else 0):=by
 cases own<;>cases o<;>simp [XI,Z8.nx]
theorem Zjj (X:Z8) (own:Bool) (d s:Int):(XI X own d).am s=X.am s:=by cases own<;>rfl
theorem Z5P {h:Z7} (hp:Yp h=true):(0<=h.id/\h.id<=2147483647)/\(1<=h.amount/\h.amount<=1125899906842624)/\1<=h.expiry/\h.expiry<=2147483647:=by
 unfold Yp at hp
 simp only [Bool.and_eq_true,decide_eq_true_eq] at hp
 exact ⟨hp.1.1,hp.1.2,hp.2⟩
theorem VL {H:List Int->List Int} {X:Z8} {h:Z7} (h1:Yp h=true) (h2:h.id<X.nx h.own) (h3:1<=h.stage/\h.stage<=9) (h4:Z0q H h=true):XE H X h=true:=by
 unfold XE
 rw [h1,h4,decide_eq_true h2,decide_eq_true h3];rfl
theorem W4:Bytes Zf:=⟨fun i=>by
 have:Zf.getD i 0=0:=by
  show (List.replicate 32 (0:Int)).getD i 0=0
  rw [List.getD_eq_getElem?_getD,List.getElem?_replicate];split<;>rfl
 rw [this];omega⟩
theorem Z8.Inv.addX {H:List Int->List Int} {X:Z8} (h:X.Inv H) {own:Bool} {id am ex:Int} {hash:List Int} (hh:hash.length=32) (hb:Bytes hash):(addX X own id am hash ex).Inv H:=by
 unfold Go.Tk.addX
 split
 case isFalse=>exact h
 rename_i he
 obtain ⟨hp,hid,hn,ha⟩:=Z19 he
 have hpi:=Z5P hp
 have hpi1:(0<=id/\id<=2147483647)/\(1<=am/\am<=1125899906842624):=⟨hpi.1,hpi.2.1⟩
 have hamif:∀s,Qe X.side s (Xf X own id am hash ex)=if ZD X.side own=s then am else 0:=fun s=>rfl
 have honeif:∀s,UH X.side s (Xf X own id am hash ex)=if ZD X.side own=s then 1 else 0:=fun s=>rfl
 generalize hq:Xf X own id am hash ex=q at*
 have hqo:q.own=own:=by rw [<-hq];rfl
 have hqi:q.id=id:=by rw [<-hq];rfl
 have hqs:q.stage=1:=by rw [<-hq];rfl
 have hqf:Z0q H q=true:=by rw [<-hq];simp [Z0q,Xf]
 have hqk:q.Ok:=by rw [<-hq];exact ⟨hh,hb,rfl,W4⟩
 have e1:∀(d:Int),(XI X own d).side=X.side:=fun d=>by cases own<;>rfl
 have hov:∀s,Yl { XI X own 1 with L:=Xu q X.L} s=Yl X s-(if ZD X.side own=s then am else 0):=fun s=>by
  have:Yl { XI X own 1 with L:=Xu q X.L} s=(XI X own 1).am s-ZN (XI X own 1).side s (Xu q X.L)-(XI X own 1).res-(if s=0 then (XI X own 1).t.fee else 0):=rfl
  rw [this,e1,Zjj,Z3w,hamif,Xw]
  have e2:(XI X own 1).res=X.res:=by cases own<;>rfl
  have e3:(XI X own 1).t=X.t:=by cases own<;>rfl
  rw [e2,e3];omega
 have hlen:∀s,(ZP (XI X own 1).side s (Xu q X.L)).length=(ZP X.side s X.L).length+if ZD X.side own=s then 1 else 0:=fun s=>by
  have:=Z3x X.side s q X.L
  rw [honeif] at this
  rw [e1];exact this
 have hnx:∀o,({ XI X own 1 with L:=Xu q X.L}:Z8).nx o=X.nx o+(if own=o then 1 else 0):=fun o=>Zgx X own o 1
 have hf:=ZD X.side own
 refine ⟨?_, ?_, ?_, ?_, ?_, ?_, ?_, ?_, ?_, ?_, ?_, ?_, ?_, ?_, ?_⟩
 ·cases own<;>exact h.tok
 ·cases own<;>exact h.tb
 ·show (XI X own 1).side=0\/_;rw [e1];exact h.side
 ·cases own<;>exact h.res
 ·cases own<;>exact h.a0
 ·cases own<;>exact h.a1
 ·have:=h.i0
  cases own
  ·exact this
  ·have:id=X.i0:=hid
   show 0<=X.i0+1/\X.i0+1<=_;omega
 ·have:=h.i1
  cases own
  ·have:id=X.i1:=hid
   show 0<=X.i1+1/\X.i1+1<=_;omega
  ·exact this
 ·have:=h.n0
  show (ZP (XI X own 1).side 0 (Xu q X.L)).length<=8
  rw [hlen];split
  ·rename_i e;rw [e] at hn;omega
  ·omega
 ·have:=h.n1
  show (ZP (XI X own 1).side 1 (Xu q X.L)).length<=8
  rw [hlen];split
  ·rename_i e;rw [e] at hn;omega
  ·omega
 ·intro x hx
  rcases Z0v.1 hx with hx|rfl
  ·obtain ⟨u1,u2,u3,u4⟩:=YW (h.und x hx)
   refine VL u1 ?_ u3 u4
   rw [hnx];split<;>omega
  ·refine VL hp ?_ (by rw [hqs];omega) hqf
   rw [hnx,hqo,if_pos rfl,hqi,hid];omega
 ·refine Z73 h.fol fun x hx ho=> ?_
  obtain ⟨u1,u2,u3,u4⟩:=YW (h.und x hx)
  rw [ho,hqo] at u2
  rw [hqi,hqs,hid];omega
 ·have:=h.ov0
  rw [hov];split
  ·rename_i e;rw [e] at ha;omega
  ·omega
 ·rcases h.ov1 with h1|h1
  ·by_cases e:ZD X.side own=1
   ·right
    rw [hov,if_pos e];rw [e] at ha;omega
   ·left
    show ZP (XI X own 1).side 1 (Xu q X.L)=[]
    refine List.eq_nil_of_length_eq_zero ?_
    rw [hlen,h1,if_neg e];rfl
  ·right
   rw [hov];split
   ·rename_i e;rw [e] at ha;omega
   ·omega
 ·intro x hx
  rcases Z0v.1 hx with hx|rfl
  ·exact h.ok x hx
  ·exact hqk
def Vm (h:Z7):Bool×Int×Int×Int:=(h.own,h.id,h.amount,min h.stage 5)
theorem Z74 {a b c d:Z7} (h1:Vm a=Vm c) (h2:Vm b=Vm d) (h:XG a b):XG c d:=by
 unfold Vm at h1 h2
 simp only [Prod.mk.injEq] at h1 h2
 unfold XG at*
 rw [<-h1.1,<-h2.1,<-h1.2.1,<-h2.2.1,<-h1.2.2.2,<-h2.2.2.2];exact h
theorem Z75 {side s:Int}:∀{L M:List Z7},L.map Vm=M.map Vm->ZN side s L=ZN side s M/\Yz side s L=Yz side s M
 | [],[],_=>⟨rfl,rfl⟩
 | [],y::q,h=>by simp at h
 | x::r,[],h=>by simp at h
 | x::r,y::q,h=>by
  simp only [List.map_cons,List.cons.injEq] at h
  obtain ⟨i1,i2⟩:=Z75 (side:=side) (s:=s) h.2
  have hk:=h.1
  unfold Vm at hk
  simp only [Prod.mk.injEq] at hk
  rw [ZQ,ZQ,Y9,Y9,i1,i2]
  unfold Qe UH
  rw [hk.1,hk.2.2.1];exact ⟨rfl,rfl⟩
theorem Z9U:∀{L M:List Z7},L.map Vm=M.map Vm->L.Pairwise XG->M.Pairwise XG
 | [],[],_,_=>.nil
 | [],y::q,h,_=>by simp at h
 | x::r,[],h,_=>by simp at h
 | x::r,y::q,h,hp=>by
  simp only [List.map_cons,List.cons.injEq] at h
  obtain ⟨h1,h2⟩:=List.pairwise_cons.1 hp
  refine List.pairwise_cons.2 ⟨fun z hz=> ?_,Z9U h.2 h2⟩
  have:Vm z∈r.map Vm:=by rw [h.2];exact List.mem_map_of_mem hz
  obtain ⟨w,hw,e⟩:=List.mem_map.1 this
  exact Z74 h.1 e (h1 w hw)
theorem Zgy {L:List Z7} {I:Nat} {q:Z7} (hI:I<L.length) (hk:Vm q=Vm (L.getD I Zc)):(L.set I q).map Vm=L.map Vm:=by
 rw [List.map_set,hk,List.getD_eq_getElem?_getD,List.getElem?_eq_getElem hI]
 apply List.ext_getElem?
 intro i
 rw [List.getElem?_set]
 split
 ·rename_i e;subst e
  rw [if_pos (by simpa using hI)];simp [hI]
 ·rfl
theorem Z4P {H:List Int->List Int} {X:Z8} {own:Bool} {id k:Int} {sec:List Int} (he:Xd H X own id k sec=0):ZW own id X.L<X.L.length/\(X.L.getD (ZW own id X.L) Zc).stage=5/\(k=1->H sec=(X.L.getD (ZW own id X.L) Zc).hash):=by
 unfold Xd at he
 split at he
 ·cases he
 ·split at he
  ·cases he
  ·split at he
   ·cases he
   ·rename_i q1 q2 q3
    refine ⟨by omega,by simpa using q2,fun hk=> ?_⟩
    exact Classical.byContradiction fun hq=>q3 ⟨hk,hq⟩
theorem Z8.Inv.endX {H:List Int->List Int} {X:Z8} (h:X.Inv H) {own:Bool} {id k:Int} {sec:List Int} (hs:sec.length=32) (hb:Bytes sec) (hk:k=1\/(k=2/\sec=Zf)):(endX H X own id k sec).Inv H:=by
 unfold Go.Tk.endX
 split
 case isFalse=>exact h
 rename_i he
 obtain ⟨hI,h5,hsec⟩:=Z4P he
 generalize ZW own id X.L=I at*
 have hx:=ZM hI
 obtain ⟨u1,u2,u3,u4⟩:=YW (h.und _ hx)
 generalize hz:X.L.getD I Zc=z at*
 have hkey:Vm (Ud z k sec)=Vm (X.L.getD I Zc):=by
  rw [hz]
  unfold Vm Ud
  rw [h5];rfl
 have hm:=Zgy hI hkey
 have hsum:=fun s=>Z75 (side:=X.side) (s:=s) hm
 have hov:∀s,Yl { X with L:=X.L.set I (Ud z k sec)} s=Yl X s:=fun s=>by
  have:Yl { X with L:=X.L.set I (Ud z k sec)} s=X.am s-ZN X.side s (X.L.set I (Ud z k sec))-X.res-(if s=0 then X.t.fee else 0):=rfl
  rw [this,(hsum s).1,Xw]
 have hmem:∀x∈X.L.set I (Ud z k sec),x∈X.L\/x=Ud z k sec:=fun x hx=>List.mem_or_eq_of_mem_set hx
 refine ⟨h.tok,h.tb,h.side,h.res,h.a0,h.a1,h.i0,h.i1, ?_, ?_, ?_,Z9U hm.symm h.fol, ?_, ?_, ?_⟩
 ·have:=(hsum 0).2
  unfold Yz at this
  rw [this];exact h.n0
 ·have:=(hsum 1).2
  unfold Yz at this
  rw [this];exact h.n1
 ·intro x hx
  rcases hmem x hx with hx|rfl
  ·obtain ⟨u1,u2,u3,u4⟩:=YW (h.und x hx)
   exact VL u1 u2 u3 u4
  ·refine VL u1 u2 (show 1<=(6:Int)/\(6:Int)<=9 by omega) ?_
   unfold Z0q Ud
   rcases hk with rfl|⟨rfl,rfl⟩
   ·simp [hsec rfl]
   ·simp
 ·rw [hov];exact h.ov0
 ·rcases h.ov1 with h1|h1
  ·left
   rw [U2] at h1⊢
   show Yz X.side 1 (X.L.set I (Ud z k sec))=0
   rw [(hsum 1).2,h1]
  ·right;rw [hov];exact h1
 ·intro x hx
  rcases hmem x hx with hx|rfl
  ·exact h.ok x hx
  ·have:=h.ok z (by rw [<-hz];exact ZM hI)
   exact ⟨this.hash,this.hb,hs,hb⟩
end Go.Tk
end
section
namespace Go.Tk
open IntKind (i64 u8 u32 u64 wrap)
theorem Z1w (m:Int) (x:Z7) (r:List Z7):Yr m (x::r)=if ZZ x.own x.stage m=10 then Yr m r else stH m x::Yr m r:=by
 unfold Yr
 rw [List.map_cons,List.filter_cons]
 by_cases h:ZZ x.own x.stage m=10<;>simp [h,stH]
theorem Z1x (m:Int) (x:Z7) (r:List Z7):ZX m (x::r)=if ZZ x.own x.stage m=10 then stH m x::ZX m r else ZX m r:=by
 unfold ZX
 rw [List.map_cons,List.filter_cons]
 by_cases h:ZZ x.own x.stage m=10<;>simp [h,stH]
theorem Z5Q (m side s:Int):∀L,ZN side s L=ZN side s (Yr m L)+ZN side s (ZX m L)
 | []=>rfl
 | x::r=>by
  have ih:=Z5Q m side s r
  have e:Qe side s (stH m x)=Qe side s x:=rfl
  rw [Z1w,Z1x,ZQ]
  split
  ·rw [ZQ,e];omega
  ·rw [ZQ,e];omega
theorem Z28 (m side s:Int):∀L,Yz side s L=Yz side s (Yr m L)+Yz side s (ZX m L)
 | []=>rfl
 | x::r=>by
  have ih:=Z28 m side s r
  have e:UH side s (stH m x)=UH side s x:=rfl
  rw [Z1w,Z1x,Y9]
  split
  ·rw [Y9,e];omega
  ·rw [Y9,e];omega
def WY (G:List Z7):List Z7:=G.filter fun h=>decide (h.fin=1)
theorem UI {side:Int} (hs:side=0\/side=1):∀(G:List Z7) (a b:Int),G.foldl (XT side) (a,b)=(a-ZN side 0 (WY G)+ZN side 1 (WY G),b+ZN side 0 (WY G)-ZN side 1 (WY G))
 | [],a,b=>by simp [WY,ZN,ZP,Xe]
 | x::r,a,b=>by
  rw [List.foldl_cons]
  by_cases hf:x.fin=1
  ·have e:WY (x::r)=x::WY r:=by unfold WY;rw [List.filter_cons,decide_eq_true hf];rfl
   rw [e,ZQ,ZQ]
   have hfr:(ZD side x.own=0/\¬ZD side x.own=1)\/(¬ZD side x.own=0/\ZD side x.own=1):=by
    unfold ZD
    rcases hs with rfl|rfl<;>cases x.own<;>simp
   unfold Qe
   rcases hfr with ⟨h1,h2⟩|⟨h1,h2⟩
   ·have hm:XT side (a,b) x=(a-x.amount,b+x.amount):=by unfold XT;rw [if_pos hf,if_pos h1]
    rw [hm,UI hs r,if_pos h1,if_neg h2]
    simp only [Prod.mk.injEq];constructor<;>omega
   ·have hm:XT side (a,b) x=(a+x.amount,b-x.amount):=by unfold XT;rw [if_pos hf,if_neg h1]
    rw [hm,UI hs r,if_neg h1,if_pos h2]
    simp only [Prod.mk.injEq];constructor<;>omega
  ·have e:WY (x::r)=WY r:=by unfold WY;rw [List.filter_cons,decide_eq_false hf];rfl
   rw [e,XT,if_neg hf,UI hs r]
theorem Z0x {side s:Int}:∀{G:List Z7},(∀h∈G,0<=h.amount)->0<=ZN side s (WY G)/\ZN side s (WY G)<=ZN side s G
 | [],_=>by simp [WY,ZN,ZP,Xe]
 | x::r,h=>by
  obtain ⟨i1,i2⟩:=Z0x (side:=side) (s:=s) (G:=r) fun z hz=>h z (by simp [hz])
  have hx:=h x (by simp)
  have ha:0<=Qe side s x:=by unfold Qe;split<;>omega
  rw [ZQ]
  unfold WY at*
  rw [List.filter_cons]
  split
  ·rw [ZQ];omega
  ·omega
theorem Xx {side s:Int}:∀{G:List Z7},(∀h∈G,0<=h.amount)->0<=ZN side s G
 | [],_=>by simp [ZN,ZP,Xe]
 | x::r,h=>by
  have i1:=Xx (side:=side) (s:=s) (G:=r) fun z hz=>h z (by simp [hz])
  have hx:=h x (by simp)
  have ha:0<=Qe side s x:=by unfold Qe;split<;>omega
  rw [ZQ];omega
theorem QY {side s:Int} {L:List Z7} (h:ZP side s L=[]):ZN side s L=0:=by unfold ZN;rw [h];rfl
theorem Z29 (o:Bool) (s m:Int):s<=ZZ o s m/\ZZ o s m<=s+1:=by unfold ZZ;split<;>omega
theorem ZdT {a b:Z7} {m:Int} (h:XG a b):XG (stH m a) (stH m b):=by
 unfold XG at*
 rcases h with h|⟨h1,h2,h3⟩
 ·exact .inl h
 ·refine .inr ⟨h1,h2, ?_⟩
  show min (ZZ b.own b.stage m) 5<=min (ZZ a.own a.stage m) 5
  have k1:=Z29 a.own a.stage m
  have k2:=Z29 b.own b.stage m
  by_cases e:a.stage=b.stage
  ·rw [h1,e];omega
  ·omega
theorem Z8L {m:Int} {L:List Z7} (h:L.Pairwise XG):(Yr m L).Pairwise XG:=by
 unfold Yr
 refine List.Pairwise.filter _ ?_
 exact List.pairwise_map.2 (h.imp fun hab=>ZdT hab)
theorem QZ {m:Int} {L:List Z7} {x:Z7} (h:x∈Yr m L):∃z∈L,x=stH m z/\ZZ z.own z.stage m≠10:=by
 unfold Yr at h
 obtain ⟨h1,h2⟩:=List.mem_filter.1 h
 obtain ⟨z,hz,rfl⟩:=List.mem_map.1 h1
 exact ⟨z,hz,rfl,of_decide_eq_true h2⟩
theorem Z00 {m:Int} {L:List Z7} {x:Z7} (h:x∈ZX m L):∃z∈L,x=stH m z:=by
 unfold ZX at h
 obtain ⟨h1,h2⟩:=List.mem_filter.1 h
 obtain ⟨z,hz,rfl⟩:=List.mem_map.1 h1
 exact ⟨z,hz,rfl⟩
theorem ZkR (o:Bool):Wm o 5=0:=by unfold Wm;simp
theorem ZdU {H:List Int->List Int} {z:Z7} {m:Int} (hm:1<=m/\m<=4) (h:Z0q H z=true):Z0q H (stH m z)=true:=by
 have k:=Z29 z.own z.stage m
 unfold Z0q at*
 show (if z.fin=0 then decide (ZZ z.own z.stage m<6)&&(z.secret==Zf) else if z.fin=1 then decide (6<=ZZ z.own z.stage m)&&(H z.secret==z.hash) else if z.fin=2 then decide (6<=ZZ z.own z.stage m)&&(z.secret==Zf) else false)=true
 by_cases h0:z.fin=0
 ·rw [if_pos h0] at h⊢
  simp only [Bool.and_eq_true,decide_eq_true_eq] at h⊢
  refine ⟨?_,h.2⟩
  by_cases h5:z.stage=5
  ·have:ZZ z.own z.stage m=5:=by unfold ZZ;rw [h5,ZkR,if_neg (by omega)]
   omega
  ·omega
 ·rw [if_neg h0] at h⊢
  by_cases h1:z.fin=1
  ·rw [if_pos h1] at h⊢
   simp only [Bool.and_eq_true,decide_eq_true_eq] at h⊢
   exact ⟨by omega,h.2⟩
  ·rw [if_neg h1] at h⊢
   by_cases h2:z.fin=2
   ·rw [if_pos h2] at h⊢
    simp only [Bool.and_eq_true,decide_eq_true_eq] at h⊢
    exact ⟨by omega,h.2⟩
   ·rw [if_neg h2] at h;cases h
theorem Z8.Inv.stpX {H:List Int->List Int} {X:Z8} (h:X.Inv H) (m:Int):(stpX X m).Inv H:=by
 unfold Go.Tk.stpX
 split
 case isFalse=>exact h
 rename_i hm
 have hA:∀z∈X.L,0<=z.amount:=fun z hz=>(h.am.am z hz).1
 have hG:∀z∈ZX m X.L,0<=z.amount:=fun z hz=>by
  obtain ⟨y,hy,rfl⟩:=Z00 hz
  exact hA y hy
 have hLf:∀z∈Yr m X.L,0<=z.amount:=fun z hz=>by
  obtain ⟨y,hy,rfl,_⟩:=QZ hz
  exact hA y hy
 unfold Z0r
 rw [UI h.side]
 have s0:=Z5Q m X.side 0 X.L
 have s1:=Z5Q m X.side 1 X.L
 have p0:=Z0x (side:=X.side) (s:=0) hG
 have p1:=Z0x (side:=X.side) (s:=1) hG
 have q0:=Xx (side:=X.side) (s:=0) hLf
 have q1:=Xx (side:=X.side) (s:=1) hLf
 have o0:=h.ov0
 rw [Xw] at o0
 have ham0:X.am 0=X.a0:=rfl
 have ham1:X.am 1=X.a1:=rfl
 rw [ham0,if_pos rfl] at o0
 have tb:=Y0 h.tb
 have hr:=h.res
 have ha0:=h.a0
 have ha1:=h.a1
 have o1:ZN X.side 1 X.L=0\/0<=X.a1-ZN X.side 1 X.L-X.res:=by
  rcases h.ov1 with k|k
  ·exact .inl (QY k)
  ·right
   rw [Xw,ham1,if_neg (by decide)] at k
   omega
 have hov:∀(a b s:Int),Yl { X with L:=Yr m X.L,a0:=a,a1:=b} s=(if s=0 then a else b)-ZN X.side s (Yr m X.L)-X.res-(if s=0 then X.t.fee else 0):=fun a b s=>rfl
 refine ⟨h.tok,h.tb,h.side,h.res, ?_, ?_,h.i0,h.i1, ?_, ?_, ?_,Z8L h.fol, ?_, ?_, ?_⟩
 ·show 0<=_/\_<=X.t.cap
  constructor<;>dsimp only<;>omega
 ·dsimp only;omega
 ·have:=Z28 m X.side 0 X.L
  have k:=h.n0
  unfold Yz at this
  dsimp only;omega
 ·have:=Z28 m X.side 1 X.L
  have k:=h.n1
  unfold Yz at this
  dsimp only;omega
 ·intro x hx
  obtain ⟨z,hz,rfl,hn⟩:=QZ hx
  obtain ⟨u1,u2,u3,u4⟩:=YW (h.und z hz)
  have k:=Z29 z.own z.stage m
  exact VL u1 u2 (show 1<=ZZ z.own z.stage m/\ZZ z.own z.stage m<=9 by omega) (ZdU hm u4)
 ·rw [hov,if_pos rfl,if_pos rfl];omega
 ·rcases h.ov1 with k|k
  ·left
   rw [U2] at k⊢
   have:=Z28 m X.side 1 X.L
   show Yz X.side 1 (Yr m X.L)=0
   omega
  ·right
   rw [Xw,ham1,if_neg (by decide)] at k
   rw [hov,if_neg (by decide),if_neg (by decide)];omega
 ·intro x hx
  obtain ⟨z,hz,rfl,_⟩:=QZ hx
  have:=h.ok z hz
  exact ⟨this.hash,this.hb,this.secret,this.sb⟩
theorem Z1y (x:Z7) (r:List Z7):Ym (x::r)=if YE x.own x.stage=0 then Ym r else brH x::Ym r:=by
 unfold Ym
 rw [List.filter_cons]
 by_cases h:YE x.own x.stage=0<;>simp [h]
theorem Z1z (x:Z7) (r:List Z7):ZL (x::r)=if YE x.own x.stage=0 then x::ZL r else ZL r:=by
 unfold ZL
 rw [List.filter_cons]
 by_cases h:YE x.own x.stage=0<;>simp [h]
theorem We (x:Z7):(brH x).own=x.own/\(brH x).id=x.id/\(brH x).amount=x.amount/\(brH x).hash=x.hash/\(brH x).expiry=x.expiry:=by
 unfold brH;split<;>exact ⟨rfl,rfl,rfl,rfl,rfl⟩
theorem Z2a (side s:Int):∀L,ZN side s L=ZN side s (Ym L)+ZN side s (ZL L)
 | []=>rfl
 | x::r=>by
  have ih:=Z2a side s r
  have e:Qe side s (brH x)=Qe side s x:=by unfold Qe;rw [(We x).1,(We x).2.2.1]
  rw [Z1y,Z1z,ZQ]
  split
  ·rw [ZQ];omega
  ·rw [ZQ,e];omega
theorem Z2b (side s:Int):∀L,Yz side s L=Yz side s (Ym L)+Yz side s (ZL L)
 | []=>rfl
 | x::r=>by
  have ih:=Z2b side s r
  have e:UH side s (brH x)=UH side s x:=by unfold UH;rw [(We x).1]
  rw [Z1y,Z1z,Y9]
  split
  ·rw [Y9];omega
  ·rw [Y9,e];omega
theorem Z3y {o:Bool} {s:Int} (hs:1<=s/\s<=9):YE o s=0↔o=false/\s=1:=by
 unfold YE
 split
 ·rename_i h
  rcases h with h|h|h
  ·omega
  ·omega
  ·exact ⟨fun _=>h,fun _=>rfl⟩
 ·rename_i h
  have h1:¬(o=false/\s=1):=fun q=>h (.inr (.inr q))
  split<;>exact ⟨fun q=>by omega,fun q=>absurd q h1⟩
theorem Z2c {o:Bool} {s:Int} (hs:1<=s/\s<=9) (h0:YE o s≠0):YE o s=if o=true/\s=6 then 5 else s:=by
 have:¬(s<1\/10<s\/(o=false/\s=1)):=fun q=>by
  rcases q with q|q|q
  ·omega
  ·omega
  ·exact h0 ((Z3y hs).2 q)
 unfold YE
 rw [if_neg this]
theorem Z76 {x:Z7} (hs:1<=x.stage/\x.stage<=9) (h0:YE x.own x.stage≠0):(brH x).stage=YE x.own x.stage:=by
 unfold brH;split
 ·rename_i h;exact h.symm
 ·rfl
theorem ZdV {x:Z7} (hs:1<=x.stage/\x.stage<=9) (h0:YE x.own x.stage≠0):min (brH x).stage 5=min x.stage 5:=by
 rw [Z76 hs h0,Z2c hs h0]
 split
 ·rename_i h;rw [h.2];rfl
 ·rfl
theorem Z3z {L:List Z7} {x:Z7} (h:x∈Ym L):∃z∈L,x=brH z/\YE z.own z.stage≠0:=by
 unfold Ym at h
 obtain ⟨z,hz,rfl⟩:=List.mem_map.1 h
 obtain ⟨h1,h2⟩:=List.mem_filter.1 hz
 exact ⟨z,h1,rfl,by simpa using h2⟩
theorem U3 {L:List Z7} {x:Z7} (h:x∈ZL L):x∈L/\YE x.own x.stage=0:=by
 unfold ZL at h
 obtain ⟨h1,h2⟩:=List.mem_filter.1 h
 exact ⟨h1,by simpa using h2⟩
theorem Z1a:∀{G:List Z7} {z N:Int},z<N->(∀g∈G,z<g.id/\g.id<N)->G.Pairwise (fun a b=>a.id<b.id)->z+G.length<N
 | [],z,N,h,_,_=>by simpa using h
 | g::r,z,N,h,hg,hp=>by
  obtain ⟨h1,h2⟩:=List.pairwise_cons.1 hp
  have k:=hg g (by simp)
  have:=Z1a (G:=r) (z:=g.id) (N:=N) k.2 (fun y hy=>⟨h1 y hy,(hg y (by simp [hy])).2⟩) h2
  rw [List.length_cons];omega
theorem Z8.Inv.brIds {H:List Int->List Int} {X:Z8} (h:X.Inv H):(ZL X.L).Pairwise (fun a b=>a.id<b.id)/\∀g∈ZL X.L,g.own=false/\g.stage=1/\0<=g.id/\g.id<X.i1:=by
 have hm:∀g∈ZL X.L,g.own=false/\g.stage=1/\0<=g.id/\g.id<X.i1:=fun g hg=>by
  obtain ⟨h1,h2⟩:=U3 hg
  obtain ⟨u1,u2,u3,u4⟩:=YW (h.und g h1)
  have k:=(Z3y u3).1 h2
  have:=Z5P u1
  rw [k.1] at u2
  exact ⟨k.1,k.2,this.1.1,u2⟩
 refine ⟨?_,hm⟩
 have hp:(ZL X.L).Pairwise XG:=List.Pairwise.filter _ h.fol
 refine List.Pairwise.imp_of_mem (fun {a b} ha hb hab=> ?_) hp
 rcases hab with ⟨k,_⟩|⟨_,k,_⟩
 ·rw [(hm a ha).1] at k;cases k
 ·exact k
theorem Z8.Inv.brLt {H:List Int->List Int} {X:Z8} (h:X.Inv H) {z:Z7} (hz:z∈X.L) (h0:YE z.own z.stage≠0) (ho:z.own=false):z.id+(ZL X.L).length<X.i1:=by
 obtain ⟨hp,hm⟩:=h.brIds
 obtain ⟨u1,u2,u3,u4⟩:=YW (h.und z hz)
 rw [ho] at u2
 refine Z1a (show z.id<X.i1 from u2) (fun g hg=> ?_) hp
 have k:=hm g hg
 refine ⟨?_,k.2.2.2⟩
 have hzs:z.stage≠1:=fun e=>h0 ((Z3y u3).2 ⟨ho,e⟩)
 have hgm:=(U3 hg).1
 obtain ⟨i,hi,rfl⟩:=List.getElem_of_mem hz
 obtain ⟨j,hj,rfl⟩:=List.getElem_of_mem hgm
 have hpw:=List.pairwise_iff_getElem.1 h.fol
 rcases Nat.lt_trichotomy i j with e|e|e
 ·rcases hpw i j hi hj e with ⟨q,_⟩|⟨_,q,_⟩
  ·rw [ho] at q;cases q
  ·exact q
 ·subst e;exact absurd k.2.1 hzs
 ·rcases hpw j i hj hi e with ⟨q,_⟩|⟨_,_,q⟩
  ·rw [k.1] at q;cases q
  ·rw [k.2.1] at q;omega
theorem Z8.Inv.brkX {H:List Int->List Int} {X:Z8} (h:X.Inv H):(brkX X).Inv H:=by
 unfold Go.Tk.brkX
 have hA:∀z∈X.L,0<=z.amount:=fun z hz=>(h.am.am z hz).1
 have hG:∀z∈ZL X.L,0<=z.amount:=fun z hz=>hA z (U3 hz).1
 have s0:=Z2a X.side 0 X.L
 have s1:=Z2a X.side 1 X.L
 have p0:=Xx (side:=X.side) (s:=0) hG
 have p1:=Xx (side:=X.side) (s:=1) hG
 have hov:∀s,Yl { X with L:=Ym X.L,i1:=X.i1-(ZL X.L).length} s=Yl X s+ZN X.side s (ZL X.L):=fun s=>by
  have:Yl { X with L:=Ym X.L,i1:=X.i1-(ZL X.L).length} s=X.am s-ZN X.side s (Ym X.L)-X.res-(if s=0 then X.t.fee else 0):=rfl
  rw [this,Xw,Z2a X.side s X.L];omega
 obtain ⟨hp,hm⟩:=h.brIds
 have hcnt: -1+((ZL X.L).length:Int)<X.i1:=Z1a (by have:=h.i1;omega) (fun g hg=>⟨by have:=(hm g hg).2.2.1;omega,(hm g hg).2.2.2⟩) hp
 refine ⟨h.tok,h.tb,h.side,h.res,h.a0,h.a1,h.i0, ?_, ?_, ?_, ?_, ?_, ?_, ?_, ?_⟩
 ·have:=h.i1
  dsimp only;omega
 ·have:=Z2b X.side 0 X.L
  have k:=h.n0
  unfold Yz at this
  dsimp only;omega
 ·have:=Z2b X.side 1 X.L
  have k:=h.n1
  unfold Yz at this
  dsimp only;omega
 ·intro x hx
  obtain ⟨z,hz,rfl,h0⟩:=Z3z hx
  obtain ⟨u1,u2,u3,u4⟩:=YW (h.und z hz)
  obtain ⟨e1,e2,e3,e4,e5⟩:=We z
  refine VL ?_ ?_ ?_ ?_
  ·unfold Yp at*;rw [e2,e3,e5];exact u1
  ·rw [e1,e2]
   cases ho:z.own
   ·have:=h.brLt hz h0 ho
    show z.id<X.i1-_
    omega
   ·rw [ho] at u2;exact u2
  ·rw [Z76 u3 h0,Z2c u3 h0];split<;>omega
  ·unfold brH
   split
   ·simp [Z0q]
   ·rename_i h5
    have:YE z.own z.stage=z.stage:=by
     rw [Z2c u3 h0] at h5⊢
     split
     ·rename_i q;rw [if_pos q] at h5;exact absurd rfl h5
     ·rfl
    rw [this];exact u4
 ·unfold Ym
  refine List.pairwise_map.2 ?_
  refine List.Pairwise.imp_of_mem (fun {a b} ha hb hab=> ?_) (List.Pairwise.filter _ h.fol)
  obtain ⟨ha1,ha2⟩:=List.mem_filter.1 ha
  obtain ⟨hb1,hb2⟩:=List.mem_filter.1 hb
  have ka:=ZdV (YW (h.und a ha1)).2.2.1 (by simpa using ha2)
  have kb:=ZdV (YW (h.und b hb1)).2.2.1 (by simpa using hb2)
  refine Z74 ?_ ?_ hab
  ·unfold Vm;rw [(We a).1,(We a).2.1,(We a).2.2.1,ka]
  ·unfold Vm;rw [(We b).1,(We b).2.1,(We b).2.2.1,kb]
 ·rw [hov];have:=h.ov0;omega
 ·rcases h.ov1 with k|k
  ·left
   rw [U2] at k⊢
   have:=Z2b X.side 1 X.L
   show Yz X.side 1 (Ym X.L)=0
   omega
  ·right;rw [hov];omega
 ·intro x hx
  obtain ⟨z,hz,rfl,_⟩:=Z3z hx
  have:=h.ok z hz
  unfold brH
  split
  ·exact ⟨this.hash,this.hb,rfl,W4⟩
  ·exact ⟨this.hash,this.hb,this.secret,this.sb⟩
end Go.Tk
end
section
namespace Go.Tk
open IntKind (i64 u8 u32 u64 wrap)
theorem Yj {L:List Z7} {i:Nat} (hi:i<L.length):L.take (i+1)=L.take i++[L.getD i Zc]:=by
 rw [List.take_succ_eq_append_getElem hi,List.getD_eq_getElem?_getD,List.getElem?_eq_getElem hi];rfl
theorem VM (p:Z7->Bool) (x:Z7):[x].filter p=X9 (p x) x:=by
 rw [List.filter_cons]
 cases p x<;>rfl
theorem Z01 (m:Int) (A:List Z7) (x:Z7):ZX m (A++[x])=ZX m A++X9 (decide (ZZ x.own x.stage m=10)) (stH m x):=by
 unfold ZX
 rw [List.map_append,List.filter_append,List.map_cons,List.map_nil,VM];rfl
theorem Z3A (m:Int) (A:List Z7) (x:Z7):Yr m (A++[x])=Yr m A++X9 (decide (¬ZZ x.own x.stage m=10)) (stH m x):=by
 unfold Yr
 rw [List.map_append,List.filter_append,List.map_cons,List.map_nil,VM];rfl
theorem Z3B (m:Int) (A:List Z7) (x:Z7):Ys m (A++[x])=Ys m A++X9 (decide (x.stage=4/\Wm x.own 4=m)) (stH m x):=by
 unfold Ys
 rw [List.filter_append,List.map_append,VM]
 cases decide (x.stage=4/\Wm x.own 4=m)<;>rfl
theorem ZdW (m side:Int) (p:Int×Int) (A:List Z7) (x:Z7):Z0r m side p (A++[x])=if ZZ x.own x.stage m=10 then XT side (Z0r m side p A) (stH m x) else Z0r m side p A:=by
 unfold Z0r
 rw [Z01,List.foldl_append]
 by_cases h:ZZ x.own x.stage m=10
 ·rw [decide_eq_true h,if_pos h];rfl
 ·rw [decide_eq_false h,if_neg h];rfl
theorem Z4Q {side s:Int} {G:List Z7} {n:Nat} (hn:G.length<=n) (h:∀x∈G,0<=x.amount/\x.amount<=1125899906842624):0<=ZN side s G/\ZN side s G<=1125899906842624*n:=by
 unfold ZN
 have:=Z17 (xs:=Xe (ZP side s G)) fun x hx=>by
  obtain ⟨z,hz,rfl⟩:=List.mem_map.1 hx
  exact h z (List.mem_filter.1 hz).1
 have h2:(Xe (ZP side s G)).length<=n:=by
  unfold Xe;rw [List.length_map]
  exact Nat.le_trans (Z5L side s G) hn
 omega
theorem Z8M {m side:Int} {a b:Int} {A:List Z7} (hs:side=0\/side=1) (hn:A.length<=16) (hA:∀x∈A,0<=x.amount/\x.amount<=1125899906842624) (ha:0<=a/\a<=1125899906842624) (hb:0<=b/\b<=1125899906842624):
  (-1152921504606846976<=(Z0r m side (a,b) A).1/\(Z0r m side (a,b) A).1<=1152921504606846976)/\ -1152921504606846976<=(Z0r m side (a,b) A).2/\(Z0r m side (a,b) A).2<=1152921504606846976:=by
 unfold Z0r
 rw [UI hs]
 have hl:(ZX m A).length<=16:=by
  unfold ZX
  refine Nat.le_trans (List.length_filter_le _ _) ?_
  rw [List.length_map];exact hn
 have hG:∀z∈ZX m A,0<=z.amount/\z.amount<=1125899906842624:=fun z hz=>by
  obtain ⟨y,hy,rfl⟩:=Z00 hz
  exact hA y hy
 have p0:=Z0x (side:=side) (s:=0) fun z hz=>(hG z hz).1
 have p1:=Z0x (side:=side) (s:=1) fun z hz=>(hG z hz).1
 have q0:=Z4Q (side:=side) (s:=0) hl hG
 have q1:=Z4Q (side:=side) (s:=1) hl hG
 dsimp only
 omega
def stX (X:Z8) (m:Int) (i:Nat):Z8:={ X with a0:=(Z0r m X.side (X.a0,X.a1) (X.L.take i)).1,a1:=(Z0r m X.side (X.a0,X.a1) (X.L.take i)).2}
theorem Z77 {X:Z8} {m:Int} {i:Nat} (hi:i<X.L.length):stX X m (i+1)=if ZZ (X.L.getD i Zc).own (X.L.getD i Zc).stage m=10 then { stX X m i with a0:=(XT X.side ((stX X m i).a0,(stX X m i).a1) (stH m (X.L.getD i Zc))).1,a1:=(XT X.side ((stX X m i).a0,(stX X m i).a1) (stH m (X.L.getD i Zc))).2} else stX X m i:=by
 unfold stX
 rw [Yj hi,ZdW]
 by_cases h:ZZ (X.L.getD i Zc).own (X.L.getD i Zc).stage m=10
 ·rw [if_pos h,if_pos h]
 ·rw [if_neg h,if_neg h]
theorem Z3C (m:Int) (A:List Z7):(ZX m A).length<=A.length:=by
 unfold ZX;refine Nat.le_trans (List.length_filter_le _ _) ?_;rw [List.length_map];exact Nat.le_refl _
theorem Z78 (m:Int) (A:List Z7):(Yr m A).length<=A.length:=by
 unfold Yr;refine Nat.le_trans (List.length_filter_le _ _) ?_;rw [List.length_map];exact Nat.le_refl _
theorem Z3D (m:Int) (A:List Z7):(Ys m A).length<=A.length:=by
 unfold Ys;rw [List.length_map];exact List.length_filter_le _ _
def Z79 (X:Z8) (m:Int) (n:Nat):Prop:=X.L.length=n/\n<=16/\(1<=m/\m<=4)/\(X.side=0\/X.side=1)/\(∀h∈X.L,(1<=h.stage/\h.stage<=9)/\0<=h.amount/\h.amount<=1125899906842624)/\(0<=X.a0/\X.a0<=1125899906842624)/\0<=X.a1/\X.a1<=1125899906842624
theorem Z4R {X:Z8} {m:Int} {n i:Nat} (h:Z79 X m n):(-1152921504606846976<=(stX X m i).a0/\(stX X m i).a0<=1152921504606846976)/\ -1152921504606846976<=(stX X m i).a1/\(stX X m i).a1<=1152921504606846976:=
 Z8M h.2.2.2.1 (by rw [List.length_take];have:=h.1;have:=h.2.1;omega) (fun x hx=>(h.2.2.2.2.1 x (List.mem_of_mem_take hx)).2) h.2.2.2.2.2.1 h.2.2.2.2.2.2
def Zgz (X:Z8) (m:Int) (n i:Nat):St:=stS (stX X m i) X.L m n i (ZX m (X.L.take i)) (Ys m (X.L.take i)) (Yr m (X.L.take i))
def ZgA (X:Z8) (m:Int) (n i:Nat):St:=stE (stX X m i) X.L m n (ZX m (X.L.take i)) (Ys m (X.L.take i)) (Yr m (X.L.take i))
noncomputable def ZgB (X:Z8) (m:Int) (n:Nat) (C:Prop) (E:Nat->St):Zg:=Zgw.withL 21 1 (goM 2 (stS X X.L m n 0 [] [] []) C (YJ 1 n 9 (fun i=>i<n) (fun i=>i=n) (fun _=>False) (fun _=>False) E E E))
theorem Z9V:Zgw.Ok:=Zg.withP_ok Zv Zje
theorem ZkS (X:Z8) (m:Int) (n i:Nat) (hC:Z79 X m n) (hi:i<=n):ZG Zgw 20 21 1 2 (Zgz X m n i) (rdM 2 1 9 (Zgz X m n (i+1)) (ZgA X m n i) (ZgA X m n i) (ZgA X m n i) (i<n/\i<n) (i=n) False False):=by
 obtain ⟨h1,h2,h3,h4,h5,h6⟩:=id hC
 have hlt:i<n->i<X.L.length:=fun h=>by omega
 have l0:(X.L.take i).length<=16:=by rw [List.length_take];omega
 have l1:=Z3C m (X.L.take i)
 have l2:=Z3D m (X.L.take i)
 have l3:=Z78 m (X.L.take i)
 refine ZkQ (stX X m i) (stX X m (i+1)) X.L m n i (X.L.getD i Zc) _ _ _ _ _ _ (i<n/\i<n) (i=n) (by omega) h1 hi h3 (show 0<=X.side/\X.side<=1 by omega) (fun _=>rfl) (fun h=>(h5 _ (ZM (hlt h))).1) ⟨by omega,by omega,by omega⟩ (fun h=> ?_) (fun h=> ?_) (fun h=> ?_) (fun h=>Z77 (hlt h)) (fun h _ _=> ?_) (fun h=>⟨h,h⟩) (fun h=>h)
 ·rw [Yj (hlt h),Z01]
 ·rw [Yj (hlt h),Z3B]
 ·rw [Yj (hlt h),Z3A]
 ·obtain ⟨b1,b2⟩:=Z4R (i:=i) hC
  have:=(h5 _ (ZM (hlt h))).2
  exact ⟨b1,b2,this.1,by omega⟩
theorem ZgC (X:Z8) (m:Int) (n:Nat):(ZgB X m n (Z79 X m n) (ZgA X m n)).Ok:=
 Zg.withGoM (N:=20) (S:=Zgz X m n) Z9V (by kernel_rfl) fun hC=>⟨rfl,fun i hi _=>ZkS X m n i hC hi⟩
theorem ZmG (X X':Z8) (m:Int) (n l g d:Nat) (G Hd:List Z7) (C:Prop) (XF:Nat->Z8) (GF HF LF:Nat->List Z7) (hC:C) (hn:n<=16) (hm:1<=m/\m<=4) (hcap:X.t.cap≠0) (hG:G=GF n) (hH:Hd=HF n) (hX':X'={ XF n with L:=LF n}) (hl:l=X'.L.length) (hg:g=G.length) (hd:d=Hd.length):
  evF (ZgB X m n C fun i=>stE (XF i) X.L m n (GF i) (HF i) (LF i)) 20 21 [.ptr (some ⟨0,0,0,0,0⟩),.int .i64 m] (Z5O X n) (Y5 2 (.ret (.tuple [.nslice ⟨4,0,70,0,0⟩ 70 d d,.nslice ⟨3,0,70,0,0⟩ 70 g g,.int .i64 0])) 5 [(0,.flat (X'.c (.nslice ⟨2,0,70,0,0⟩ 70 l l))),(2,.rows 70 l (Z6 X'.L)),(3,.rows 70 g (Z6 G)),(4,.rows 70 d (Z6 Hd))]):=by
 refine @Eq.mpr _ (let q1:=X.t;let q2:=q1.cap;let q3:=decide (d=0);let q4:=decide (g=0);let q5:=Z0 q3 (Z0 q3 (Z0 q4 (Z0 q4 False False) False) False) False;let q6:=decide (n=n);let q7:=decide (n<=n);let q8:=q1.fund;let q9:=q1.index;let q10:=q1.dust;let q11:=q1.fee;let q12:=q1.delay;let q13:=q1.k0;let q14:=q1.k1;let q15:=[X.a0,X.a1];let q16:=[X.i0,X.i1];let q17:=Z6 X.L;let q18:=X'.t;let q19:=[(2,4),(3,2),(4,3)];
 Z0 (q2==0) q5
 (Z0 (decide (1<=m))
 (Z0 (!decide (m<=4)) q5
 (Z0 (decide ((↑n:Int)=(↑n:Int)))
 (Z0 q6
 (Z0 q7
 (Z0 (decide (m=m))
 (q8=q8/\
 Z0 (decide (q9=q9))
 (Z0 (decide (q2=q2))
 (Z0 (decide (q10=q10))
 (Z0 (decide (q11=q11))
 (Z0 (decide (q12=q12))
 (q13=q13/\
 q14=q14/\
 Z0 (decide (X.side=X.side))
 (Z0 (decide (X.res=X.res))
 (q15=q15/\
 q16=q16/\
 Z0 q6
 (Z0 q7
 (Z0 q6
 (Zb 2 [(2,2)] n q17 q17/\
 C/\
 ∀(i:Nat),
 let q39:=decide (List.length (HF i)=d);let q40:=decide (List.length (GF i)=g);let q41:=(XF i).t;let q42:=decide (List.length (LF i)=l);
 i<=n->(∀(j:Nat),j<i->(fun (i:Nat)=>i<n) j)->(i=n->Z0 q39 (Z0 (decide (d<=List.length (HF i))) (Z0 q40 (Z0 (decide (g<=List.length (GF i))) (q41.fund=q18.fund/\Z0 (decide (q41.index=q18.index)) (Z0 (decide (q41.cap=q18.cap)) (Z0 (decide (q41.dust=q18.dust)) (Z0 (decide (q41.fee=q18.fee)) (Z0 (decide (q41.delay=q18.delay)) (q41.k0=q18.k0/\q41.k1=q18.k1/\Z0 (decide ((XF i).side=X'.side)) (Z0 (decide ((XF i).res=X'.res)) ([(XF i).a0,(XF i).a1]=[X'.a0,X'.a1]/\[(XF i).i0,(XF i).i1]=[X'.i0,X'.i1]/\Z0 q42 (Z0 (decide (l<=List.length (LF i))) (Z0 q42 (Zb 2 q19 l (Z6 X'.L) (Z6 (LF i))/\Z0 q40 (Zb 2 q19 g (Z6 G) (Z6 (GF i))/\Z0 q39 (Zb 2 q19 d (Z6 Hd) (Z6 (HF i))/\True) False) False) False) False) False) False) False) False) False) False) False) False) False) False) False) False)/\(False->False)/\(False->False))
 False)
 False)
 False)
 False)
 False)
 False)
 False)
 False)
 False)
 False)
 False)
 False)
 False)
 False))
 q5)) (by kernel_rfl) ?_
 conv=>zeta
 try simp only [Zj]
 try simp only [Zl]
 try simp only [Zi]
 try simp only [Zm]
 try simp only [Zn]
 try simp only [Zh]
 try simp only [Int.toNat_natCast,Nat.zero_add,true_and,and_true,Nat.le_refl]
 subst hG hH hX'
 have hR:∀τ k (Q:List Z7),Zb 2 τ k (Z6 Q) (Z6 Q):=fun τ k Q=>Zo fun _ _=>rfl
 have hcap':(X.t.cap==0)=false:=by simpa using hcap
 rw [hcap']
 refine ⟨fun h=>(by cases h),fun _=>⟨fun h1=>⟨fun h2=> ?_,fun _=>⟨hR _ _ _,hC,fun i hi _=>⟨fun he=> ?_,fun h=>h.elim,fun h=>h.elim⟩⟩⟩,fun h=>absurd hm.1 h⟩⟩
 ·have:¬m<=4:=by simpa using h2
  exact absurd hm.2 this
 ·subst he
  repeat' apply And.intro
  all_goals first|rfl|exact hR _ _ _|exact hl.symm|exact hg.symm|exact hd.symm|exact Nat.le_of_eq hl|exact Nat.le_of_eq hg|exact Nat.le_of_eq hd
theorem ZmH (X:Z8) (m:Int) (n:Nat) (C:Prop) (hcap:X.t.cap≠0) (hm:¬(1<=m/\m<=4)):
  evF (ZgB X m n C fun _=>stE X [] m n [] [] []) 20 21 [.ptr (some ⟨0,0,0,0,0⟩),.int .i64 m] (Z5O X n) (Y5 2 (.ret (.tuple [.nilslice,.nilslice,.int .i64 2])) 2 [(0,.flat (X.c (.nslice ⟨1,0,70,0,0⟩ 70 n n))),(1,.rows 70 n (Z6 X.L))]):=by
 refine @Eq.mpr _ (let q1:=X.t;let q2:=q1.cap;let q3:=q1.fund;let q4:=q3=q3;let q5:=q1.index;let q6:=decide (q5=q5);let q7:=decide (q2=q2);let q8:=q1.dust;let q9:=decide (q8=q8);let q10:=q1.fee;let q11:=decide (q10=q10);let q12:=q1.delay;let q13:=decide (q12=q12);let q14:=q1.k0;let q15:=q14=q14;let q16:=q1.k1;let q17:=q16=q16;let q18:=decide (X.side=X.side);let q19:=decide (X.res=X.res);let q20:=[X.a0,X.a1];let q21:=q20=q20;let q22:=[X.i0,X.i1];let q23:=q22=q22;let q24:=decide (n=n);let q25:=decide (n<=n);let q26:=Z6 X.L;let q27:=q4/\Z0 q6 (Z0 q7 (Z0 q9 (Z0 q11 (Z0 q13 (q15/\q17/\Z0 q18 (Z0 q19 (q21/\q23/\Z0 q24 (Z0 q25 (Z0 q24 (Zb 2 [] n q26 q26/\True) False) False) False) False) False) False) False) False) False) False;
 Z0 (q2==0) False (Z0 (decide (1<=m)) (Z0 (!decide (m<=4)) q27 (Z0 (decide ((↑n:Int)=(↑n:Int))) (Z0 q24 (Z0 q25 (Z0 (decide (m=m)) (q4/\Z0 q6 (Z0 q7 (Z0 q9 (Z0 q11 (Z0 q13 (q15/\q17/\Z0 q18 (Z0 q19 (q21/\q23/\Z0 q24 (Z0 q25 (Z0 q24 (Zb 2 [(2,2)] n q26 q26/\C/\∀(i:Nat),i<=n->(∀(j:Nat),j<i->(fun (i:Nat)=>i<n) j)->(i=n->False)/\(False->False)/\(False->False)) False) False) False) False) False) False) False) False) False) False) False) False) False) False)) q27)) (by kernel_rfl) ?_
 conv=>zeta
 try simp only [Zj]
 try simp only [Zl]
 try simp only [Zi]
 try simp only [Zm]
 try simp only [Zn]
 try simp only [Zh]
 try simp only [Int.toNat_natCast,Nat.zero_add,true_and,and_true,Nat.le_refl]
 have hR:∀τ k (Q:List Z7),Zb 2 τ k (Z6 Q) (Z6 Q):=fun τ k Q=>Zo fun _ _=>rfl
 refine ⟨by simpa using hcap,fun h1=>⟨fun _=>hR _ _ _,fun h2=> ?_⟩,fun _=>hR _ _ _⟩
 have:m<=4:=by simpa using h2
 exact absurd ⟨h1,this⟩ hm
theorem XB {t:ZV} (h:Xo t=true):t.cap≠0:=by have:=Y0 h;omega
theorem Z8.Inv.st {H:List Int->List Int} {X:Z8} (h:X.Inv H) {m:Int} (hm:1<=m/\m<=4):Z79 X m X.L.length:=
 ⟨rfl,h.len,hm,h.side,fun z hz=>⟨(YW (h.und z hz)).2.2.1,h.am.am z hz⟩,by have:=h.a0;have:=Y0 h.tb;omega,by have:=h.a0;have:=h.a1;have:=Y0 h.tb;omega⟩
theorem Z9W {X:Z8} {m:Int} (hm:1<=m/\m<=4):stpX X m={ stX X m X.L.length with L:=Yr m X.L}:=by
 unfold stpX stX
 rw [if_pos hm,List.take_length]
def ZdX (c:Bool):Yf:=fun args h K=>match args with
 | [.ptr (some ⟨l,0,0,0,0⟩),_]=>match h.get l with
  |some (.flat [_,_,_,_,_,_,_,_,_,_,_,_,.nslice ⟨b,0,70,0,0⟩ 70 _ _])=>frA [l,b] h 20 args fun Bs a=>match Bs,a with
   | [.flat cs,.rows 70 n f],[.ptr (some ⟨0,0,0,0,0⟩),.int .i64 m]=>
    ∃X,LB cs n f X/\X.Inv Zs/\(match c with
     | true=>(1<=m/\m<=4)/\K (.ret (.tuple [.nslice ⟨h.next+2,0,70,0,0⟩ 70 (Ys m X.L).length (Ys m X.L).length,.nslice ⟨h.next+1,0,70,0,0⟩ 70 (ZX m X.L).length (ZX m X.L).length,.int .i64 0])) ⟨h.next+3,(l,.flat ((stpX X m).c (.nslice ⟨h.next,0,70,0,0⟩ 70 (stpX X m).L.length (stpX X m).L.length)))::(h.next,.rows 70 (stpX X m).L.length (Z6 (stpX X m).L))::(h.next+1,.rows 70 (ZX m X.L).length (Z6 (ZX m X.L)))::(h.next+2,.rows 70 (Ys m X.L).length (Z6 (Ys m X.L)))::Yc (Yc h.bs l) b⟩
     | false=>¬(1<=m/\m<=4)/\K (.ret (.tuple [.nilslice,.nilslice,.int .i64 2])) ⟨h.next,(l,.flat (X.c (.nslice ⟨b,0,70,0,0⟩ 70 X.L.length X.L.length)))::(b,.rows 70 X.L.length (Z6 X.L))::Yc (Yc h.bs l) b⟩)
   | _,_=>False
  | _=>False
 | _=>False
theorem ZdY (c:Bool) (args:List AV) (h:Za) (K:KO) (hl:ZdX c args h K):Zp PP 21 args h K:=by
 unfold ZdX at hl
 split at hl
 ·split at hl
  ·refine Spec.fsumm hl fun Bs a hlen hK0=> ?_
   split at hK0
   ·rename_i cs n f m
    obtain ⟨X,⟨rfl,rfl,rfl⟩,hI,hK⟩:=hK0
    cases c with
    | true=>
     obtain ⟨hm,hK1⟩:=hK
     have e:=Z9W (X:=X) hm
     have hv:=ZmG X (stpX X m) m X.L.length _ _ _ (ZX m X.L) (Ys m X.L) (Z79 X m X.L.length) (stX X m) (fun i=>ZX m (X.L.take i)) (fun i=>Ys m (X.L.take i)) (fun i=>Yr m (X.L.take i)) (hI.st hm) hI.len hm (XB hI.tb) (by rw [List.take_length]) (by rw [List.take_length]) (by dsimp only;rw [List.take_length];exact e) rfl rfl rfl
     exact ⟨_,_,_,_,_,.evM (ZgC X m _) hv,by simp,.ret _ _ rfl,.cons _ _ _ _ _ _ rfl (.flat _ _ rfl) (.cons _ _ _ _ _ _ rfl (.rows _ _ _ (fun _ _=>rfl)) (.cons _ _ _ _ _ _ rfl (.rows _ _ _ (fun _ _=>rfl)) (.cons _ _ _ _ _ _ rfl (.rows _ _ _ (fun _ _=>rfl)) .nil))),hK1⟩
    | false=>
     obtain ⟨hm,hK2⟩:=hK
     have hC:(ZgB X m X.L.length False fun _=>stE X [] m X.L.length [] [] []).Ok:=Zg.withGoM (N:=20) (S:=fun i=>Zgz X m X.L.length i) Z9V (by kernel_rfl) fun h=>h.elim
     exact ⟨_,_,_,_,_,.evM hC (ZmH X m _ False (XB hI.tb) hm),by simp,.ret _ _ rfl,.cons _ _ _ _ _ _ rfl (.flat _ _ rfl) (.cons _ _ _ _ _ _ rfl (.rows _ _ _ (fun _ _=>rfl)) .nil),hK2⟩
   ·exact hK0.elim
  ·exact hl.elim
 ·exact hl.elim
end Go.Tk
end
section
namespace Go.Tk
open IntKind (i64 u8 u32 u64 wrap)
noncomputable def ZgD:Zg:=G0.withP 75 bkS
theorem ZgE:ZgD.Ok:=Zg.withP_ok Zv Zjf
def ZkT (X:Z8) (L:List Z7) (n:Nat) (G Lf:List Z7):Za:=⟨4,[(0,.flat (X.c (.nslice ⟨1,0,70,0,0⟩ 70 n n))),(1,.rows 70 n (Z6 L)),(2,.rows 70 G.length (Z6 G)),(3,.rows 70 Lf.length (Z6 Lf))]⟩
def ZgF (X:Z8) (L:List Z7) (n i:Nat) (G Lf:List Z7):St:=⟨62,[(14,.int .i64 i),(13,.int .i64 n),(12,.nslice ⟨1,0,70,0,0⟩ 70 n n),(2,.nslice ⟨2,0,70,0,0⟩ 70 G.length G.length),(0,.ptr (some ⟨0,0,0,0,0⟩)),(3,.nslice ⟨3,0,70,0,0⟩ 70 Lf.length Lf.length)],ZkT X L n G Lf,[]⟩
def bkE (X:Z8) (L:List Z7) (n:Nat) (G Lf:List Z7):St:=⟨62,[(0,.ptr (some ⟨0,0,0,0,0⟩)),(2,.nslice ⟨2,0,70,0,0⟩ 70 G.length G.length),(3,.nslice ⟨3,0,70,0,0⟩ 70 Lf.length Lf.length)],ZkT X L n G Lf,[]⟩
theorem ZhW {x:Z7} (h:YE x.own x.stage=5):brH x=⟨x.own,x.id,x.amount,x.hash,x.expiry,5,0,Zf⟩:=by unfold brH;rw [if_pos h]
theorem Zjk {x:Z7} (hs:1<=x.stage/\x.stage<=9) (h0:YE x.own x.stage≠0) (h:¬YE x.own x.stage=5):brH x=x:=by
 have e:YE x.own x.stage=x.stage:=by
  rw [Z2c hs h0] at h⊢
  split
  ·rename_i q;rw [if_pos q] at h;exact absurd rfl h
  ·rfl
 unfold brH;rw [if_neg h,e]
theorem ZmI (X X1:Z8) (L:List Z7) (n i:Nat) (x:Z7) (G Lf G1 Lf1:List Z7) (Z1 Z2:Prop) (hn:n<1000) (hL:L.length=n) (hi:i<=n) (hx:i<n->L.getD i Zc=x) (hst:i<n->1<=x.stage/\x.stage<=9) (hb:G.length<1000/\Lf.length<1000) (hG:i<n->G1=G++X9 (decide (YE x.own x.stage=0)) x) (hLf:i<n->Lf1=Lf++X9 (decide (¬YE x.own x.stage=0)) (brH x)) (hX1:i<n->X1=if YE x.own x.stage=0 then { X with i1:=X.i1-1} else X) (hw: -1000<=X.i1/\X.i1<=2147483648) (hZ1:i<n->Z1) (hZ2:i=n->Z2):
  ZG ZgD 20 24 0 2 (ZgF X L n i G Lf) (rdM 2 0 9 (ZgF X1 L n (i+1) G1 Lf1) (bkE X L n G Lf) (bkE X L n G Lf) (bkE X L n G Lf) Z1 Z2 False False):=by
 refine @Eq.mpr _ (let q1:=0+Int.toNat (↑i:Int);let q2:=List.getD L q1 Zc;let q3:=q2.stage;let q4:=q2.own;let q5:=YE q4 q3;let q6:=List.length G;let q7:=decide (q6=q6);let q8:=q6+1;let q9:=decide (wrap i64 ((↑i:Int)+1)=(↑(i+1):Int));let q10:=decide ((↑n:Int)=(↑n:Int));let q11:=decide (n=n);let q12:=decide (n<=n);let q13:=List.length G1;let q14:=decide (q8=q13);let q15:=List.length Lf;let q16:=List.length Lf1;let q17:=decide (q15=q16);let q18:=X.t;let q19:=q18.fund;let q20:=X1.t;let q21:=q19=q20.fund;let q22:=q18.index;let q23:=decide (q22=q20.index);let q24:=q18.cap;let q25:=decide (q24=q20.cap);let q26:=q18.dust;let q27:=decide (q26=q20.dust);let q28:=q18.fee;let q29:=decide (q28=q20.fee);let q30:=q18.delay;let q31:=decide (q30=q20.delay);let q32:=q18.k0;let q33:=q32=q20.k0;let q34:=q18.k1;let q35:=q34=q20.k1;let q36:=X.side;let q37:=decide (q36=X1.side);let q38:=X.res;let q39:=decide (q38=X1.res);let q40:=[X.a0,X.a1];let q41:=q40=[X1.a0,X1.a1];let q42:=[X1.i0,X1.i1];let q43:=[(3,3),(2,6)];let q44:=Z6 L;let q45:=Z6 G;let q46:=AV.bool q4;let q47:=AV.int i64 q2.id;let q48:=AV.int i64 q2.amount;let q49:=AV.arr u8 32 q2.hash;let q50:=AV.int i64 q2.expiry;let q51:=YQ [q46,q47,q48,q49,q50,AV.int i64 q3,AV.int i64 q2.fin,AV.arr u8 32 q2.secret] 0 70;let q52:=Z6 Lf1;let q53:=Z6 Lf;let q54:=decide (q15=q15);let q55:=q15+1;let q56:=decide (q55*112<=140737488355328);let q57:=decide (q6=q13);let q58:=decide (q13<=q6);let q59:=decide (q55=q16);let q60:=decide (q16<=q55);let q61:=[X.i0,X.i1];let q62:=q61=q42;let q63:=[(2,2)];let q64:=(3,6)::q63;let q65:=Zb 2 q64 n q44 q44;let q66:=Zb 2 q64 q13 (Z6 G1) q45;let q67:=(3,3)::q63;
 Z0 (decide ((↑i:Int)<(↑n:Int)))
 (Z0 (decide (0<=(↑i:Int)/\(↑i:Int)<(↑n:Int)))
 (Z0 (decide (q1<n))
 (Z0 (decide (1<=q3/\q3<=9))
 (Z0 (q5==0) (Z0 q7 (Z0 (decide (q8*112<=140737488355328)) (Z0 q9 (Z0 q10 (Z0 q11 (Z0 q12 (Z0 q14 (Z0 (decide (q13<=q8)) (Z0 q17 (Z0 (decide (q16<=q15)) (q21/\Z0 q23 (Z0 q25 (Z0 q27 (Z0 q29 (Z0 q31 (q33/\q35/\Z0 q37 (Z0 q39 (q41/\[X.i0,wrap i64 (X.i1-1)]=q42/\Z0 q11 (Z0 q12 (Z0 q11 (Zb 2 q43 n q44 q44/\Z0 q14 (Zb 2 q43 q13 (Z6 G1) (Y2 q6 q45 q51)/\Z0 q17 (Zb 2 q43 q16 q52 q53/\Z1) False) False) False) False) False) False) False) False) False) False) False) False) False) False) False) False) False) False) False) False) False) False)
 (Z0 (q5==5) (Z0 q54 (Z0 q56 (Z0 q9 (Z0 q10 (Z0 q11 (Z0 q12 (Z0 q57 (Z0 q58 (Z0 q59 (Z0 q60 (q21/\Z0 q23 (Z0 q25 (Z0 q27 (Z0 q29 (Z0 q31 (q33/\q35/\Z0 q37 (Z0 q39 (q41/\q62/\Z0 q11 (Z0 q12 (Z0 q11 (q65/\Z0 q57 (q66/\Z0 q59 (Zb 2 q64 q16 q52 (Y2 q15 q53 (YQ [q46,q47,q48,q49,q50,AV.int i64 q5,AV.int i64 0,AV.arr u8 32 Zf] 0 70))/\Z1) False) False) False) False) False) False) False) False) False) False) False) False) False) False) False) False) False) False) False) False) False) False)
 (Z0 q54 (Z0 q56 (Z0 q9 (Z0 q10 (Z0 q11 (Z0 q12 (Z0 q57 (Z0 q58 (Z0 q59 (Z0 q60 (q21/\Z0 q23 (Z0 q25 (Z0 q27 (Z0 q29 (Z0 q31 (q33/\q35/\Z0 q37 (Z0 q39 (q41/\q62/\Z0 q11 (Z0 q12 (Z0 q11 (q65/\Z0 q57 (q66/\Z0 q59 (Zb 2 q64 q16 q52 (Y2 q15 q53 q51)/\Z1) False) False) False) False) False) False) False) False) False) False) False) False) False) False) False) False) False) False) False) False) False) False)))
 False)
 False)
 False)
 (Z0 q7 (Z0 (decide (q6<=q6)) (Z0 q54 (Z0 (decide (q15<=q15)) (q19=q19/\Z0 (decide (q22=q22)) (Z0 (decide (q24=q24)) (Z0 (decide (q26=q26)) (Z0 (decide (q28=q28)) (Z0 (decide (q30=q30)) (q32=q32/\q34=q34/\Z0 (decide (q36=q36)) (Z0 (decide (q38=q38)) (q40=q40/\q61=q61/\Z0 q11 (Z0 q12 (Z0 q11 (Zb 2 q67 n q44 q44/\Z0 q7 (Zb 2 q67 q6 q45 q45/\Z0 q54 (Zb 2 q67 q15 q53 q53/\Z2) False) False) False) False) False) False) False) False) False) False) False) False) False) False) False) False)) (by kernel_rfl) ?_
 conv=>zeta
 try simp only [Zj]
 try simp only [Zl]
 try simp only [Zi]
 try simp only [Zm]
 try simp only [Zn]
 try simp only [Zh]
 try simp only [Int.toNat_natCast,Nat.zero_add,true_and,and_true,Nat.le_refl]
 refine ⟨fun hc=> ?_,fun hc=> ?_⟩
 ·have hlt:i<n:=by omega
  rw [hx hlt]
  have hG:=hG hlt
  have hLf:=hLf hlt
  have hX1:=hX1 hlt
  have hst:=hst hlt
  have hwr:i64.wrap ((i:Int)+1)=((i+1:Nat):Int):=by rw [w64 (by omega)];omega
  have hwi:i64.wrap (X.i1-1)=X.i1-1:=w64 (by omega)
  rw [hwr,hwi]
  have hR:∀τ k (Q:List Z7),Zb 2 τ k (Z6 Q) (Z6 Q):=fun τ k Q=>Zo fun _ _=>rfl
  have hC:∀τ (Q:List Z7) (y:Z7),Zb 2 τ (Q++[y]).length (Z6 (Q++[y])) (Y2 Q.length (Z6 Q) (YQ y.c 0 70)):=fun τ Q y=>Zo fun j hj=>Yt rfl (fun _ _=>rfl) (by simpa using hj)
  refine ⟨by omega,hlt,hst,fun h0=> ?_,fun h0=>⟨fun h5=> ?_,fun h5=> ?_⟩⟩
  ·have h0:YE x.own x.stage=0:=by simpa using h0
   rw [decide_eq_true h0] at hG
   rw [decide_eq_false (fun h=>h h0)] at hLf
   rw [if_pos h0] at hX1
   simp only [X9,List.append_nil] at hG hLf
   subst hG hLf hX1
   repeat' apply And.intro
   all_goals first|omega|rfl|exact hZ1 hlt|exact hC _ _ _|exact hR _ _ _|(simp;done)
  all_goals
   have h0:¬YE x.own x.stage=0:=by simpa using h0
   rw [decide_eq_false h0] at hG
   rw [decide_eq_true h0] at hLf
   rw [if_neg h0] at hX1
   simp only [X9,List.append_nil] at hG hLf
   subst hG hX1
  ·have h5:YE x.own x.stage=5:=by simpa using h5
   rw [ZhW h5] at hLf
   rw [h5]
   subst hLf
   repeat' apply And.intro
   all_goals first|omega|rfl|exact hZ1 hlt|exact hC _ _ ⟨x.own,x.id,x.amount,x.hash,x.expiry,5,0,Zf⟩|exact hR _ _ _|(simp;done)
  ·have h5:¬YE x.own x.stage=5:=by simpa using h5
   rw [Zjk hst h0 h5] at hLf
   subst hLf
   repeat' apply And.intro
   all_goals first|omega|rfl|exact hZ1 hlt|exact hC _ _ x|exact hR _ _ _|(simp;done)
 ·repeat' apply And.intro
  all_goals first|omega|rfl|exact hZ2 (by omega)|exact Zo fun _ _=>rfl
theorem U4 (A:List Z7) (x:Z7):ZL (A++[x])=ZL A++X9 (decide (YE x.own x.stage=0)) x:=by
 unfold ZL
 rw [List.filter_append,VM]
theorem Z3E (A:List Z7) (x:Z7):Ym (A++[x])=Ym A++X9 (decide (¬YE x.own x.stage=0)) (brH x):=by
 unfold Ym
 rw [List.filter_append,List.map_append,VM]
 congr 1
 by_cases h:YE x.own x.stage=0<;>simp [h,X9]
def bkX (X:Z8) (i:Nat):Z8:={ X with i1:=X.i1-(ZL (X.L.take i)).length}
def Z8N (X:Z8) (n:Nat):Prop:=X.L.length=n/\n<=16/\(∀h∈X.L,1<=h.stage/\h.stage<=9)/\0<=X.i1/\X.i1<=2147483648
def ZgG (X:Z8) (n i:Nat):St:=ZgF (bkX X i) X.L n i (ZL (X.L.take i)) (Ym (X.L.take i))
def ZgH (X:Z8) (n i:Nat):St:=bkE (bkX X i) X.L n (ZL (X.L.take i)) (Ym (X.L.take i))
theorem ZmJ (X:Z8) (n i:Nat) (hC:Z8N X n) (hi:i<=n):ZG ZgD 20 24 0 2 (ZgG X n i) (rdM 2 0 9 (ZgG X n (i+1)) (ZgH X n i) (ZgH X n i) (ZgH X n i) (i<n/\i<n) (i=n) False False):=by
 obtain ⟨h1,h2,h3,h4⟩:=id hC
 have hlt:i<n->i<X.L.length:=fun h=>by omega
 have l0:(X.L.take i).length<=16:=by rw [List.length_take];omega
 have l1:(ZL (X.L.take i)).length<=(X.L.take i).length:=List.length_filter_le _ _
 have l2:(Ym (X.L.take i)).length<=(X.L.take i).length:=by unfold Ym;rw [List.length_map];exact List.length_filter_le _ _
 have e:∀k,(bkX X k).i1=X.i1-(ZL (X.L.take k)).length:=fun _=>rfl
 refine ZmI (bkX X i) (bkX X (i+1)) X.L n i (X.L.getD i Zc) _ _ _ _ (i<n/\i<n) (i=n) (by omega) h1 hi (fun _=>rfl) (fun h=>h3 _ (ZM (hlt h))) ⟨by omega,by omega⟩ (fun h=> ?_) (fun h=> ?_) (fun h=> ?_) (by rw [e];omega) (fun h=>⟨h,h⟩) (fun h=>h)
 ·rw [Yj (hlt h),U4]
 ·rw [Yj (hlt h),Z3E]
 ·unfold bkX
  rw [Yj (hlt h),U4]
  by_cases q:YE (X.L.getD i Zc).own (X.L.getD i Zc).stage=0
  ·rw [if_pos q,decide_eq_true q,X9,List.length_append]
   congr 1
   show X.i1-((_+1:Nat):Int)=_
   dsimp only;omega
  ·rw [if_neg q,decide_eq_false q,X9,List.append_nil]
noncomputable def ZhX (X:Z8) (n:Nat) (C:Prop) (E:Nat->St):Zg:=ZgD.withL 24 0 (goM 2 (ZgF X X.L n 0 [] []) C (YJ 0 n 9 (fun i=>i<n) (fun i=>i=n) (fun _=>False) (fun _=>False) E E E))
theorem Z7a (X:Z8):bkX X 0=X:=by
 unfold bkX
 have:X.i1-((ZL (X.L.take 0)).length:Int)=X.i1:=by simp [ZL]
 rw [this]
theorem ZdZ (X:Z8) (n:Nat):(ZhX X n (Z8N X n) (ZgH X n)).Ok:=
 Zg.withGoM (N:=20) (S:=ZgG X n) ZgE (by kernel_rfl) fun hC=>⟨by unfold ZgG;rw [Z7a];rfl,fun i hi _=>ZmJ X n i hC hi⟩
theorem ZmK (X X':Z8) (n l g:Nat) (G:List Z7) (C:Prop) (XF:Nat->Z8) (GF LF:Nat->List Z7) (hC:C) (hcap:X.t.cap≠0) (hG:G=GF n) (hX':X'={ XF n with L:=LF n}) (hl:l=X'.L.length) (hg:g=G.length):
  evF (ZhX X n C fun i=>bkE (XF i) X.L n (GF i) (LF i)) 20 24 [.ptr (some ⟨0,0,0,0,0⟩)] (Z5O X n) (Y5 2 (.ret (.nslice ⟨3,0,70,0,0⟩ 70 g g)) 4 [(0,.flat (X'.c (.nslice ⟨2,0,70,0,0⟩ 70 l l))),(2,.rows 70 l (Z6 X'.L)),(3,.rows 70 g (Z6 G))]):=by
 refine @Eq.mpr _ (let q1:=X.t;let q2:=q1.cap;let q3:=decide (g=0);let q4:=q1.fund;let q5:=X'.t;let q6:=q5.fund;let q7:=q1.index;let q8:=q5.index;let q9:=q5.cap;let q10:=q1.dust;let q11:=q5.dust;let q12:=q1.fee;let q13:=q5.fee;let q14:=q1.delay;let q15:=q5.delay;let q16:=q1.k0;let q17:=q5.k0;let q18:=q1.k1;let q19:=q5.k1;let q20:=X.side;let q21:=X.res;let q22:=[X.a0,X.a1];let q23:=[X'.a0,X'.a1];let q24:=[X.i0,X.i1];let q25:=[X'.i0,X'.i1];let q26:=decide (n=l);let q27:=decide (l<=n);let q28:=Z6 X'.L;let q29:=Z6 X.L;let q30:=decide (n=n);let q31:=decide (n<=n);let q32:=[(3,2)];let q33:=(2,3)::q32;let q34:=(2,1)::q32;
 Z0 (q2==0) (Z0 q3 (Z0 q3 (q4=q6/\Z0 (decide (q7=q8)) (Z0 (decide (q2=q9)) (Z0 (decide (q10=q11)) (Z0 (decide (q12=q13)) (Z0 (decide (q14=q15)) (q16=q17/\q18=q19/\Z0 (decide (q20=X'.side)) (Z0 (decide (q21=X'.res)) (q22=q23/\q24=q25/\Z0 q26 (Z0 q27 (Z0 q26 (Zb 2 [(2,1)] l q28 q29/\Z0 q3 True False) False) False) False) False) False) False) False) False) False) False) False) False)
 (Z0 (decide ((↑n:Int)=(↑n:Int)))
 (Z0 q30
 (Z0 q31
 (q4=q4/\
 Z0 (decide (q7=q7))
 (Z0 (decide (q2=q2))
 (Z0 (decide (q10=q10))
 (Z0 (decide (q12=q12))
 (Z0 (decide (q14=q14))
 (q16=q16/\
 q18=q18/\
 Z0 (decide (q20=q20))
 (Z0 (decide (q21=q21))
 (q22=q22/\
 q24=q24/\
 Z0 q30
 (Z0 q31
 (Z0 q30
 (Zb 2 [] n q29 q29/\
 C/\
 ∀(i:Nat),
 let q69:=decide (List.length (GF i)=g);let q70:=decide (g<=List.length (GF i));let q71:=(XF i).t;let q72:=q71.fund=q6;let q73:=decide (q71.index=q8);let q74:=decide (q71.cap=q9);let q75:=decide (q71.dust=q11);let q76:=decide (q71.fee=q13);let q77:=decide (q71.delay=q15);let q78:=q71.k0=q17;let q79:=q71.k1=q19;let q80:=decide ((XF i).side=X'.side);let q81:=decide ((XF i).res=X'.res);let q82:=[(XF i).a0,(XF i).a1]=q23;let q83:=[(XF i).i0,(XF i).i1]=q25;let q84:=decide (List.length (LF i)=l);
 i<=n->(∀(j:Nat),j<i->(fun (i:Nat)=>i<n) j)->(i=n->Z0 q69 (Z0 q70 (q72/\Z0 q73 (Z0 q74 (Z0 q75 (Z0 q76 (Z0 q77 (q78/\q79/\Z0 q80 (Z0 q81 (q82/\q83/\Z0 q84 (Z0 (decide (l<=List.length (LF i))) (Z0 q84 (Zb 2 q33 l q28 (Z6 (LF i))/\Z0 q69 (Zb 2 q33 g (Z6 G) (Z6 (GF i))/\True) False) False) False) False) False) False) False) False) False) False) False) False) False)/\(False->Z0 q69 (Z0 q70 (q72/\Z0 q73 (Z0 q74 (Z0 q75 (Z0 q76 (Z0 q77 (q78/\q79/\Z0 q80 (Z0 q81 (q82/\q83/\Z0 q26 (Z0 q27 (Z0 q26 (Zb 2 q34 l q28 q29/\Z0 q69 (Zb 2 q34 g (Z6 G) (Z6 (GF i))/\True) False) False) False) False) False) False) False) False) False) False) False) False) False)/\(False->False))
 False)
 False)
 False)
 False)
 False)
 False)
 False)
 False)
 False)
 False)
 False)
 False)
 False)) (by kernel_rfl) ?_
 conv=>zeta
 try simp only [Zj]
 try simp only [Zl]
 try simp only [Zi]
 try simp only [Zm]
 try simp only [Zn]
 try simp only [Zh]
 try simp only [Int.toNat_natCast,Nat.zero_add,true_and,and_true,Nat.le_refl]
 subst hG hX'
 have hR:∀τ k (Q:List Z7),Zb 2 τ k (Z6 Q) (Z6 Q):=fun τ k Q=>Zo fun _ _=>rfl
 refine ⟨fun h=>absurd h (by simpa using hcap),fun _=>⟨hR _ _ _,hC,fun i hi _=>⟨fun he=> ?_,fun h=>h.elim,fun h=>h.elim⟩⟩⟩
 subst he
 repeat' apply And.intro
 all_goals first|rfl|exact hR _ _ _|exact hl.symm|exact hg.symm|exact Nat.le_of_eq hl|exact Nat.le_of_eq hg
theorem Z8.Inv.bk {H:List Int->List Int} {X:Z8} (h:X.Inv H):Z8N X X.L.length:=⟨rfl,h.len,h.stage,h.i1⟩
theorem Z9X (X:Z8):brkX X={ bkX X X.L.length with L:=Ym X.L}:=by
 unfold brkX bkX
 rw [List.take_length]
def Z8O:Yf:=fun args h K=>match args with
 | [.ptr (some ⟨l,0,0,0,0⟩)]=>match h.get l with
  |some (.flat [_,_,_,_,_,_,_,_,_,_,_,_,.nslice ⟨b,0,70,0,0⟩ 70 _ _])=>frA [l,b] h 20 args fun Bs a=>match Bs,a with
   | [.flat cs,.rows 70 n f],[.ptr (some ⟨0,0,0,0,0⟩)]=>
    ∃X,LB cs n f X/\X.Inv Zs/\K (.ret (.nslice ⟨h.next+1,0,70,0,0⟩ 70 (ZL X.L).length (ZL X.L).length)) ⟨h.next+2,(l,.flat ((brkX X).c (.nslice ⟨h.next,0,70,0,0⟩ 70 (brkX X).L.length (brkX X).L.length)))::(h.next,.rows 70 (brkX X).L.length (Z6 (brkX X).L))::(h.next+1,.rows 70 (ZL X.L).length (Z6 (ZL X.L)))::Yc (Yc h.bs l) b⟩
   | _,_=>False
  | _=>False
 | _=>False
theorem Zbv (args:List AV) (h:Za) (K:KO) (hl:Z8O args h K):Zp PP 24 args h K:=by
 unfold Z8O at hl
 split at hl
 ·split at hl
  ·refine Spec.fsumm hl fun Bs a hlen hK0=> ?_
   split at hK0
   ·rename_i cs n f
    obtain ⟨X,⟨rfl,rfl,rfl⟩,hI,hK⟩:=hK0
    have e:=Z9X X
    have hv:=ZmK X (brkX X) X.L.length _ _ (ZL X.L) (Z8N X X.L.length) (bkX X) (fun i=>ZL (X.L.take i)) (fun i=>Ym (X.L.take i)) hI.bk (XB hI.tb) (by rw [List.take_length]) (by dsimp only;rw [List.take_length];exact e) rfl rfl
    exact ⟨_,_,_,_,_,.evM (ZdZ X _) hv,by simp,.ret _ _ rfl,.cons _ _ _ _ _ _ rfl (.flat _ _ rfl) (.cons _ _ _ _ _ _ rfl (.rows _ _ _ (fun _ _=>rfl)) (.cons _ _ _ _ _ _ rfl (.rows _ _ _ (fun _ _=>rfl)) .nil)),hK⟩
   ·exact hK0.elim
  ·exact hl.elim
 ·exact hl.elim
end Go.Tk
end
