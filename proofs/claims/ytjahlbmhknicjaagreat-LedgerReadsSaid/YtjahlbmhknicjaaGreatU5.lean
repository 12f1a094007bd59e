/- U: part 5 of an engine (a symbolic evaluator, proved against the model) and of the walk by it. -/
import Derived.Test.YtjahlbmhknicjaaGreatU4
import Derived.Shelf.SlSortCmp.WholeK
set_option linter.unusedVariables false
set_option linter.unusedSimpArgs false
set_option maxRecDepth 100000
set_option maxHeartbeats 0
section
namespace Go.Tk
open IntKind (i64 u8 u32 u64 wrap)
def Zce (Q:List Int→Nat→Bool→Bool→Prop):AV→Prop:=fun u=>match u with
 | .tuple [.agg [.vints .u8 ys n,.bool b],.bool v]=>Q ys n b v
 | _=>False
theorem Z71 {Q:List Int→Nat→Bool→Bool→Prop} {u:AV} (h:Zce Q u):∃ys n b v,u=.tuple [.agg [.vints .u8 ys n,.bool b],.bool v]∧Q ys n b v:=by
 unfold Zce at h
 split at h
 ·exact ⟨_,_,_,_,rfl,h⟩
 ·exact h.elim
theorem ZfJ (ys:List Int) (n:Nat) (Q:List Int→Nat→Bool→Bool→Prop) (hn:ys.length=n) (h1:0<n∧ys.getD 0 0≤1→Q (ys.drop 1) (n-1) false (ys.getD 0 0==1)) (h2:¬(0<n∧ys.getD 0 0≤1)→Q ys n true false):
  evF G0 20 166 [.agg [.vints .u8 ys n,.bool false]] ⟨0,[]⟩ (Y6 (Zce Q)):=by
 refine @Eq.mpr _ (let q1:=decide (n≤List.length ys);
 let q2:=decide ((0:Int)≤1∧1≤(↑(List.length ys):Int));
 let q3:=XV none ys;
 let q4:=List.getD q3 0 0;
 Z0 (decide (1>(↑n:Int))) (Q ys n true false) (Z0 q1 (Z0 (decide ((0:Int)≤1∧1≤(↑n:Int))) (Z0 q1 (Z0 q2 (Z0 q1 (Z0 q2 (q3=q3∧ys=ys∧Z0 (decide (n=n)) (Z0 (decide (q4>1)) (Q ys n true false) (Z0 (decide (q4=q4)) (Q (XV (some 1) ys) (X2 n (some 1)) false (q4==1)) False)) False) False) False) False) False) False) False)) (by kernel_rfl) ?_
 conv=>zeta
 try simp only [Zi]
 try simp only [Zj]
 try simp only [Zg]
 try simp only [Zk]
 try simp only [Zl]
 try simp only [Zh]
 try simp only [Int.toNat_natCast,Nat.zero_add,true_and,and_true,Nat.le_refl]
 have e:XV none ys=ys:=rfl
 rw [e]
 refine ⟨fun h=>h2 (by omega),fun h=> ?_⟩
 repeat' first
  | omega
  | (intro h4;exact h2 fun h5=>absurd h5.2 (by omega))
  | (intro h4;exact h1 ⟨by omega,by omega⟩)
  | apply And.intro
theorem ZfK (ys:List Int) (n:Nat) (Q:List Int→Nat→Bool→Bool→Prop) (h2:Q ys n true false):
  evF G0 20 166 [.agg [.vints .u8 ys n,.bool true]] ⟨0,[]⟩ (Y6 (Zce Q)):=by
 refine @Eq.mpr _ (Q ys n true false) (by kernel_rfl) ?_
 exact h2
def Zao:ZG:=fun args _ K=>match args with
 | [.agg [.vints .u8 ys n,.bool b]]=>match b with
  | true=>K (.tuple [.agg [.vints .u8 ys n,.bool true],.bool false])
  | false=>∃xs o,ys=xs.drop o∧(n=xs.length-o∧o≤xs.length)∧
   (∀v p,rdT xs o=some (v,p)→(o≤p∧p≤xs.length)→K (.tuple [.agg [.vints .u8 (xs.drop p) (xs.length-p),.bool false],.bool v]))∧
   (rdT xs o=none→K (.tuple [.agg [.vints .u8 (xs.drop o) (xs.length-o),.bool true],.bool false]))
 | _=>False
theorem Zap (args:List AV) (h:Z6) (K:AV→Prop) (hl:Zao args h K):Zm PP 166 args h fun o h'=>∃v,o=.ret v∧h'=h∧K v:=by
 unfold Zao at hl
 split at hl
 ·rename_i ys n b
  split at hl
  ·exact ZQ Zu rfl (ZfK ys n (fun ys n b v=>K (.tuple [.agg [.vints .u8 ys n,.bool b],.bool v])) hl) (fun u hu=>by obtain ⟨_,_,_,_,rfl,hq⟩:=Z71 hu;exact hq)
  ·obtain ⟨xs,o,rfl,⟨rfl,h1⟩,hK,hK'⟩:=hl
   have e:(xs.drop o).getD 0 0=xs.getD o 0:=by rw [List.getD_eq_getElem?_getD,List.getD_eq_getElem?_getD,List.getElem?_drop,Nat.add_zero]
   refine ZQ Zu rfl (ZfJ (xs.drop o) (xs.length-o) (fun ys n b v=>K (.tuple [.agg [.vints .u8 ys n,.bool b],.bool v])) (List.length_drop ..) (fun hc=> ?_) (fun hc=>hK' (by unfold rdT;rw [if_neg (by rw [e] at hc;omega)]))) (fun u hu=>by obtain ⟨_,_,_,_,rfl,hq⟩:=Z71 hu;exact hq)
   rw [e] at hc
   have:=hK (xs.getD o 0==1) (o+1) (by unfold rdT;rw [if_pos (by omega)]) ⟨by omega,by omega⟩
   rw [List.drop_drop,e]
   rw [show xs.length-o-1=xs.length-(o+1) by omega]
   exact this
 ·exact hl.elim
noncomputable def ZfL (F:List Int→Int×Int):Zd:=((G0.withP 121 (Z9Y F)).withP 120 Z5S).withP 166 Zao
theorem Zcf:(ZfL (Ze Zn)).Ok:=Zd.withP_ok (Zd.withP_ok (Zd.withP_ok Zu Z1n) QE) Zap
def htV (Q:List Int→Nat→Bool→Z9→Prop):AV→Prop:=fun u=>match u with
 | .tuple [.agg [.vints .u8 ys n,.bool b],.agg [.bool ow,.int .i64 id,.int .i64 am,.arr .u8 32 ha,.int .i64 ex,.int .i64 st,.int .i64 fi,.arr .u8 32 se]]=>Q ys n b ⟨ow,id,am,ha,ex,st,fi,se⟩
 | _=>False
theorem Zez {Q:List Int→Nat→Bool→Z9→Prop} {u:AV} (h:htV Q u):∃ys n b x,u=.tuple [.agg [.vints .u8 ys n,.bool b],.agg (Z9.c x)]∧Q ys n b x:=by
 unfold htV at h
 split at h
 ·exact ⟨_,_,_,⟨_,_,_,_,_,_,_,_⟩,rfl,h⟩
 ·exact h.elim
theorem ZfM (F:List Int→Int×Int) (xs:List Int) (o n:Nat) (Q:List Int→Nat→Bool→Z9→Prop) (hn:n=xs.length-o) (ho:o≤xs.length) (hb:Bytes xs) (h1:∀x p,Yy F xs o=some (x,p)→Q (xs.drop p) (xs.length-p) false x) (h2:Yy F xs o=none→∀ys n x,Q ys n true x):
  evF (ZfL F) 20 122 [.agg [.vints .u8 (xs.drop o) n,.bool false]] ⟨0,[]⟩ (Y6 (htV Q)):=by
 refine @Eq.mpr _ (∃(xs_1:List Int),
 let q1:=List.length xs_1;
 ∃(o_1:Nat),
 List.drop o xs=List.drop o_1 xs_1∧
 (n=q1-o_1∧o_1≤q1)∧
 (∀(v:Bool),
 let q3:=decide (v=v);
 ∀(p:Nat),
 rdT xs_1 o_1=some (v,p)→
 o_1≤p∧p≤q1→
 ∃(xs:List Int),
 let q5:=List.length xs;
 ∃(o:Nat),
 let q7:=rdN F xs o 2147483647;
 List.drop p xs_1=List.drop o xs∧
 (q1-p=q5-o∧o≤q5∧Bytes xs∧(0:Int)≤2147483647)∧
 (∀(v_1:Int),
 let q9:=decide (v_1=v_1);
 ∀(p:Nat),
 q7=some (v_1,p)→
 o≤p∧p≤q5∧0≤v_1∧v_1≤2147483647→
 ∃(xs_2:List Int),
 let q11:=List.length xs_2;
 ∃(o:Nat),
 let q13:=rdN F xs_2 o 1125899906842624;
 List.drop p xs=List.drop o xs_2∧
 (q5-p=q11-o∧o≤q11∧Bytes xs_2∧(0:Int)≤1125899906842624)∧
 (∀(v_2:Int),
 let q15:=decide (v_2=v_2);
 ∀(p:Nat),
 q13=some (v_2,p)→
 o≤p∧p≤q11∧0≤v_2∧v_2≤1125899906842624→
 ∃(xs:List Int),
 let q17:=List.length xs;
 ∃(o:Nat),
 List.drop p xs_2=List.drop o xs∧
 (q11-p=q17-o∧o≤q17)∧
 (∀(v_3:List Int) (p:Nat),
 rdH xs o=some (v_3,p)→
 o≤p∧p≤q17∧List.length v_3=32→
 ∃(xs_3:List Int),
 let q19:=List.length xs_3;
 ∃(o:Nat),
 let q21:=rdN F xs_3 o 2147483647;
 List.drop p xs=List.drop o xs_3∧
 (q17-p=q19-o∧o≤q19∧Bytes xs_3∧(0:Int)≤2147483647)∧
 (∀(v_4:Int),
 let q23:=decide (v_4=v_4);
 ∀(p:Nat),
 q21=some (v_4,p)→
 o≤p∧p≤q19∧0≤v_4∧v_4≤2147483647→
 ∃(xs:List Int),
 let q25:=List.length xs;
 ∃(o:Nat),
 let q27:=rdN F xs o 9;
 List.drop p xs_3=List.drop o xs∧
 (q19-p=q25-o∧o≤q25∧Bytes xs∧(0:Int)≤9)∧
 (∀(v_5:Int),
 let q29:=decide (v_5=v_5);
 let q30:=Z9.mk v v_1 v_2 v_3 v_4 v_5 0 Zc;
 ∀(p:Nat),
 q27=some (v_5,p)→
 o≤p∧p≤q25∧0≤v_5∧v_5≤9→
 ∃(xs_4:List Int),
 let q33:=List.length xs_4;
 ∃(o:Nat),
 let q35:=rdN F xs_4 o 2;
 List.drop p xs=List.drop o xs_4∧
 (q25-p=q33-o∧o≤q33∧Bytes xs_4∧(0:Int)≤2)∧
 (∀(v_6:Int) (p:Nat),
 let q37:=List.drop p xs_4;
 let q38:=q33-p;
 q35=some (v_6,p)→
 o≤p∧p≤q33∧0≤v_6∧v_6≤2→
 ((v_6=0→Z0 q3 (Z0 q9 (Z0 q15 (v_3=v_3∧Z0 q23 (Z0 q29 (Zc=Zc∧Q q37 q38 false q30) False) False) False) False) False)∧
 (v_6=1→
 ∃(xs:List Int),
 let q41:=List.length xs;
 ∃(o:Nat),q37=List.drop o xs∧(q38=q41-o∧o≤q41)∧(∀(v_7:List Int) (p:Nat),rdH xs o=some (v_7,p)→o≤p∧p≤q41∧List.length v_7=32→Z0 q3 (Z0 q9 (Z0 q15 (v_3=v_3∧Z0 q23 (Z0 q29 (v_7=v_7∧Q (List.drop p xs) (q41-p) false (Z9.mk v v_1 v_2 v_3 v_4 v_5 1 v_7)) False) False) False) False) False)∧(rdH xs o=none→Z0 q3 (Z0 q9 (Z0 q15 (v_3=v_3∧Z0 q23 (Z0 q29 (Zc=Zc∧Q (List.drop o xs) (q41-o) true (Z9.mk v v_1 v_2 v_3 v_4 v_5 1 Zc)) False) False) False) False) False)))∧
 (v_6=2→Z0 q3 (Z0 q9 (Z0 q15 (v_3=v_3∧Z0 q23 (Z0 q29 (Zc=Zc∧Q q37 q38 false (Z9.mk v v_1 v_2 v_3 v_4 v_5 2 Zc)) False) False) False) False) False))∧
 (q35=none→Z0 q3 (Z0 q9 (Z0 q15 (v_3=v_3∧Z0 q23 (Z0 q29 (Zc=Zc∧Q (List.drop o xs_4) (q33-o) true q30) False) False) False) False) False))∧
 (q27=none→Z0 q3 (Z0 q9 (Z0 q15 (v_3=v_3∧Z0 q23 (Zc=Zc∧Q (List.drop o xs) (q25-o) true (Z9.mk v v_1 v_2 v_3 v_4 0 0 Zc)) False) False) False) False))∧
 (q21=none→Z0 q3 (Z0 q9 (Z0 q15 (v_3=v_3∧Zc=Zc∧Q (List.drop o xs_3) (q19-o) true (Z9.mk v v_1 v_2 v_3 0 0 0 Zc)) False) False) False))∧
 (rdH xs o=none→Z0 q3 (Z0 q9 (Z0 q15 (Zc=Zc∧Zc=Zc∧Q (List.drop o xs) (q17-o) true (Z9.mk v v_1 v_2 Zc 0 0 0 Zc)) False) False) False))∧
 (q13=none→Z0 q3 (Z0 q9 (Zc=Zc∧Zc=Zc∧Q (List.drop o xs_2) (q11-o) true (Z9.mk v v_1 0 Zc 0 0 0 Zc)) False) False))∧
 (q7=none→Z0 q3 (Zc=Zc∧Zc=Zc∧Q (List.drop o xs) (q5-o) true (Z9.mk v 0 0 Zc 0 0 0 Zc)) False))∧
 (rdT xs_1 o_1=none→Zc=Zc∧Zc=Zc∧Q (List.drop o_1 xs_1) (q1-o_1) true (Z9.mk false 0 0 Zc 0 0 0 Zc))) (by kernel_rfl) ?_
 conv=>zeta
 try simp only [Zi]
 try simp only [Zj]
 try simp only [Zg]
 try simp only [Zk]
 try simp only [Zl]
 try simp only [Zh]
 try simp only [Int.toNat_natCast,Nat.zero_add,true_and,and_true,Nat.le_refl]
 subst hn
 cases h:Yy F xs o with
 | none=>
  have h2:=h2 h
  clear h1
  repeat' (first|(refine ⟨xs,_,rfl, ?_⟩)|(refine And.intro ?_ ?_)|intro _)
  all_goals first|omega|exact hb|trivial|exact h2 _ _ _|skip
  all_goals (exfalso;simp [Yy,Z1B, *] at h)
 | some xp=>
  obtain ⟨x,p⟩:=xp
  have h1:=h1 x p h
  clear h2
  repeat' (first|(refine ⟨xs,_,rfl, ?_⟩)|(refine And.intro ?_ ?_)|intro _)
  all_goals first|omega|exact hb|trivial|skip
  all_goals (simp [Yy,Z1B, *] at h)
  all_goals (obtain ⟨rfl,rfl⟩:=h;exact h1)
def Zcg (F:List Int→Int×Int):ZG:=fun args _ K=>match args with
 | [.agg [.vints .u8 ys n,.bool false]]=>∃xs o,ys=xs.drop o∧(n=xs.length-o∧o≤xs.length∧Bytes xs)∧
   (∀x p,Yy F xs o=some (x,p)→K (.tuple [.agg [.vints .u8 (xs.drop p) (xs.length-p),.bool false],.agg x.c]))∧
   (Yy F xs o=none→∀ys n x,K (.tuple [.agg [.vints .u8 ys n,.bool true],.agg (Z9.c x)]))
 | _=>False
theorem Z72 (args:List AV) (h:Z6) (K:AV→Prop) (hl:Zcg (Ze Zn) args h K):Zm PP 122 args h fun o h'=>∃v,o=.ret v∧h'=h∧K v:=by
 unfold Zcg at hl
 split at hl
 ·obtain ⟨xs,o,rfl,⟨rfl,h1,h2⟩,hK,hK'⟩:=hl
  exact ZQ Zcf rfl (ZfM _ xs o _ (fun ys n b x=>K (.tuple [.agg [.vints .u8 ys n,.bool b],.agg x.c])) rfl h1 h2 hK hK') (fun u hu=>by obtain ⟨_,_,_,_,rfl,hq⟩:=Zez hu;exact hq)
 ·exact hl.elim
end Go.Tk
end
section
namespace Go.Tk
open IntKind (i64 u8 u32 u64 wrap)
noncomputable def ZfN (H1:List Int→List Int) (H2:List Int→List Int→List Int) (B:Nat):Zd:=(Z64 (G8 H1 H2 B)).withP 81 Z65
theorem Zch:(ZfN ZJ Z5F 1000).Ok:=Zd.withP_ok (Zd.withP_ok (Zd.withP_ok (Zd.withP_ok (Zd.withP_ok (Zfg 1000 (by decide)) Z3r) Z1y) Z1z) Z1A) Z8f
theorem Z4y (x k:Int) (A B:Bool):(if x=k then A else B)=cond (x==k) A B:=by
 by_cases h:x=k
 ·simp [h]
 ·rw [if_neg h,show (x==k)=false from by simpa using h];rfl
theorem Zaq (x k:Int):decide (x≥k)= !decide (x<k):=by by_cases h:x<k<;>simp [h]<;>omega
theorem Zh5 (X:Za) (p:Z9) (b:Bool) (H1:List Int→List Int) (H2:List Int→List Int→List Int) (B:Nat) (hok:p.Ok) (hB:32≤B) (hl:(H1 p.secret).length=32) (hb:b=Yf H1 X p):
  evF (ZfN H1 H2 B) 20 91 [WB X,.agg p.c] ⟨0,[]⟩ (Y6 (fun v=>v=.bool b)):=by
 refine @Eq.mpr _ (let q1:=p.secret;
 let q2:=List.length q1;
 let q3:=p.fin;
 let q4:=p.stage;
 let q5:=p.own;
 let q6:=p.id;
 let q7:=p.hash;
 let q8:=Xy (Z9.mk q5 q6 p.amount q7 p.expiry q4 q3 q1);
 let q9:=decide (q6=q6);
 let q10:=decide (q6<X.i0);
 let q11:=decide (1≤q4∧q4≤9);
 let q12:=AV.bool b;
 let q13:=AV.bool false=q12;
 let q14:=Z0 q11 (AV.bool (q1==Zc)=q12) q13;
 let q15:=decide (q6<X.i1);
 let q16:=Z0 q8 (Z0 q5 (Z0 q9 (Z0 q10 q14 q13) False) (Z0 q9 (Z0 q15 q14 q13) False)) q13;
 let q17:=Z0 q11 q13 q13;
 let q18:=Z0 q8 (Z0 q5 (Z0 q9 (Z0 q10 q17 q13) False) (Z0 q9 (Z0 q15 q17 q13) False)) q13;
 let q19:=decide (q4≥6);
 let q20:=H1 q1;
 let q21:=Z0 q11 (AV.bool (q20==q7)=q12) q13;
 Z0 (decide (q2=32∧(32:Nat)=32)) (Z0 (q3==0) (Z0 (decide (q4<6)) q16 q18) (Z0 (q3==1) (Z0 q19 (q7=q7∧Z0 (decide (q2=32)) (Z0 (decide (32=q2)) (Z0 (decide (q2≤B)) (Z0 (decide (List.length q20=32∧List.length q7=32)) (Z0 q8 (Z0 q5 (Z0 q9 (Z0 q10 q21 q13) False) (Z0 q9 (Z0 q15 q21 q13) False)) q13) False) False) False) False) q18) (Z0 (q3==2) (Z0 q19 q16 q18) q18))) False) (by kernel_rfl) ?_
 conv=>zeta
 have e0:Z9.mk p.own p.id p.amount p.hash p.expiry p.stage p.fin p.secret=p:=rfl
 rw [e0]
 subst hb
 simp only [hok.secret,hok.hash,hl,decide_true,and_self,Z67,true_and,decide_eq_true hB,WX]
 congr 1
 unfold Yf Z62 Za.nx
 simp only [Z4y,show (6≤p.stage)=(p.stage≥6) from rfl,Zaq]
 have es:(H1 p.secret==p.hash)=(H1 p.secret==p.hash):=rfl
 generalize (H1 p.secret==p.hash)=ch
 generalize (p.secret==Zc)=cz
 generalize Xy p=c1
 generalize decide (p.stage<6)=c6
 generalize decide (1≤p.stage∧p.stage≤9)=d2
 generalize (p.fin==0)=f0
 generalize (p.fin==1)=f1
 generalize (p.fin==2)=f2
 cases p.own
 ·simp only
  generalize decide (p.id<X.i0)=d0
  generalize decide (p.id<X.i1)=d1
  cases f0<;>cases f1<;>cases f2<;>cases c6<;>cases d1<;>cases d2<;>simp
 ·simp only
  generalize decide (p.id<X.i0)=d0
  generalize decide (p.id<X.i1)=d1
  cases f0<;>cases f1<;>cases f2<;>cases c6<;>cases d0<;>cases d2<;>simp
theorem Z8g (args:List AV) (h:Z6) (K:AV→Prop) (hl:Zak ZJ args h K):Zm PP 91 args h fun o h'=>∃v,o=.ret v∧h'=h∧K v:=by
 refine Zy.psumm (d:=20) (Zs _ _ _ _ _ hl fun a ha=> ?_)
 split at ha
 ·obtain ⟨X,hX,ho,hK⟩:=ha
  exact ⟨_,(Zy.evV Zch (Zh5 X ⟨_,_,_,_,_,_,_,_⟩ _ _ _ _ ho (by decide) (Z9w _) rfl)).conv (fun E r hr=>hr.head (fun _ hc=>W7 hX hc) fun _ hc=>hc),fun _=>rfl,hK⟩
 ·exact ha.elim
end Go.Tk
end
section
namespace Go.Tk
open IntKind (i64 u8 u32 u64 wrap)
theorem Zh6 (s:Int):(if 5<s then 5 else s)=min s 5:=by split<;>omega
theorem Zh7 (p q:Z9) (b:Bool) (hb:b=decide (Wg p q)):
  evF Zev 20 92 [.agg p.c,.agg q.c] ⟨0,[]⟩ (Y6 (fun v=>v=.bool b)):=by
 refine @Eq.mpr _ (let q1:=q.own;
 let q2:=p.id;
 let q3:=q2 !=q2;
 let q4:=q.id;
 let q5:=q4 !=q4;
 let q6:=AV.bool b;
 let q7:=AV.bool false=q6;
 let q8:=Z0 (!p.own==q1) (AV.bool true=q6) (AV.bool (decide ((if 5<p.stage then 5 else p.stage)≥if 5<q.stage then 5 else q.stage))=q6);
 let q9:=decide (q2<q4);
 let q10:=decide (q2>q4);
 let q11:=Z0 q10 q7 q7;
 let q12:=Z0 q3 (Z0 q5 q7 q8) (Z0 q5 q7 (Z0 q9 q8 q11));
 Z0 p.own (Z0 q1 q12 (Z0 q3 (Z0 q5 q8 q8) (Z0 q5 q8 (Z0 q9 q8 (Z0 q10 q8 q8))))) (Z0 q1 (Z0 q3 (Z0 q5 q7 q7) (Z0 q5 q7 (Z0 q9 q7 q11))) q12)) (by kernel_rfl) ?_
 conv=>zeta
 subst hb
 simp only [bne_self_eq_false,Zai,WX,Zh6]
 congr 1
 refine Bool.eq_iff_iff.2 (Iff.trans (b:=Wg p q) ?_ decide_eq_true_iff.symm)
 unfold Wg
 cases p.own<;>cases q.own<;>by_cases h1:p.id<q.id<;>by_cases h2:q.id<p.id<;>simp [h1,h2]
theorem ZfO (X:Za) (p:Z9) (s:Int) (b:Bool) (hX:YW X) (hb:b=decide (WA X.side p.own=s)):
  evF G0 20 136 [.agg p.c,.pview [WB X] 0,.pview [.int .i64 s] 0] ⟨0,[]⟩ (Y6 (fun v=>v=.bool b)):=by
 refine @Eq.mpr _ (let q1:=decide (s=s);
 Z0 p.own (Z0 q1 (AV.bool (X.side==s)=AV.bool b) False) (Z0 q1 (AV.bool (wrap i64 (1-X.side)==s)=AV.bool b) False)) (by kernel_rfl) ?_
 conv=>zeta
 obtain ⟨h1,h2⟩:=hX
 rw [decide_eq_true (rfl:s=s),w64 (by omega)]
 subst hb
 unfold WA
 simp only [Z67,WX]
 cases p.own<;>rfl
theorem Zci (args:List AV) (h:Z6) (K:AV→Prop) (hl:Zew args h K):Zm PP 92 args h fun o h'=>∃v,o=.ret v∧h'=h∧K v:=by
 unfold Zew at hl
 split at hl
 ·exact ZQ Z6Z rfl (Zh7 ⟨_,_,_,_,_,_,_,_⟩ ⟨_,_,_,_,_,_,_,_⟩ _ rfl) (fun u hu=>hu▸hl)
 ·exact hl.elim
end Go.Tk
end
section
namespace Go.Tk
open IntKind (i64 u8 u32 u64 wrap)
theorem Zcj (args:List AV) (h:Z6) (K:AV→Prop) (hl:Zex args h K):Zm PP 136 args h fun o h'=>∃v,o=.ret v∧h'=h∧K v:=by
 unfold Zex at hl
 split at hl
 ·rename_i ow id am ha ex st en se cs s
  obtain ⟨X,hX,hs,hK⟩:=hl
  have:=ZQ (h:=h) Zu rfl (ZfO X ⟨ow,id,am,ha,ex,st,en,se⟩ s _ hs rfl) (fun u hu=>hu▸hK)
  exact this.conv fun E r hr=>hr.head (fun _ hc=>hc) fun _ hr=>hr.head (fun _ hc=>Z3t hX hc) fun _ hc=>hc
 ·exact hl.elim
noncomputable def ZeA:Zd:=G0.withP 136 Zex
theorem Zck:ZeA.Ok:=Zd.withP_ok Zu Zcj
def svC (X:Za) (s:Int):AV:=.func (.func 136) [] [.pview [WB X] 0,.pview [.int .i64 s] 0]
def svS (X:Za) (s:Int) (n i c:Nat) (O:List Z9):St:=⟨22,[(9,.int .i64 i),(8,.int .i64 n),(7,.vrows 70 n (Zf X.L) n),(1,svC X s),(4,.nslice ⟨0,0,70,0,0⟩ 70 c c)],⟨1,[(0,.rows 70 c (Zf O))]⟩,[]⟩
def svE (c:Nat) (O:List Z9):St:=⟨22,[(4,.nslice ⟨0,0,70,0,0⟩ 70 c c)],⟨1,[(0,.rows 70 c (Zf O))]⟩,[]⟩
theorem Zh8 (X:Za) (s:Int) (n i c c1:Nat) (O O1:List Z9) (Z1 Z2:Prop) (hn:n<1000) (hL:X.L.length=n) (hi:i≤n) (hO:O.length=c) (hci:c≤i) (hX:YW X) (h1:i<n→O1=O++Z66 (decide (WA X.side (X.L.getD i Zo).own=s)) (X.L.getD i Zo)) (hc1:c1=O1.length) (hZ1:i<n→Z1) (hZ2:i=n→Z2):
  ZD ZeA 20 135 0 0 (svS X s n i c O) (rdM 0 0 9 (svS X s n (i+1) c1 O1) (svE c O) (svE c O) (svE c O) Z1 Z2 False False):=by
 refine @Eq.mpr _ (let q1:=X.L;
 let q2:=List.length q1;
 let q3:=Zf q1;
 let q4:=Za.c X (AV.vrows 70 q2 q3 q2);
 let q5:=List.getD q1 (Int.toNat (↑i:Int)) Zo;
 let q6:=q5.own;
 let q7:=decide (c=c);
 let q8:=c+1;
 let q9:=decide (wrap i64 ((↑i:Int)+1)=(↑(i+1):Int));
 let q10:=decide ((↑n:Int)=(↑n:Int));
 let q11:=decide (n=n);
 let q12:=q3=q3;
 let q13:=[AV.pview q4 0];
 let q14:=q13=q13;
 let q15:=[AV.int i64 s];
 let q16:=q15=q15;
 let q17:=decide (q8=c1);
 let q18:=Zf O;
 let q19:=decide (c=c1);
 let q20:=[(0,0)];
 Z0 (decide ((↑i:Int)<(↑n:Int)))
 (Z0 (decide (0≤(↑i:Int)∧(↑i:Int)<(↑n:Int)))
 (∃(X:Za),
 let q41:=X.side;
 LV q4 X∧(0≤q41∧q41≤1)∧Z0 (decide (WA q41 q6=s)) (Z0 q7 (Z0 (decide (q8*112≤140737488355328)) (Z0 q9 (Z0 q10 (Z0 q11 (q12∧Z0 q11 (q14∧q16∧Z0 q17 (Z0 (decide (c1≤q8)) (Z0 q17 (ZO 0 [(0,3)] c1 (Zf O1) (Wd c q18 (Uy [AV.bool q6,AV.int i64 q5.id,AV.int i64 q5.amount,AV.arr u8 32 q5.hash,AV.int i64 q5.expiry,AV.int i64 q5.stage,AV.int i64 q5.fin,AV.arr u8 32 q5.secret] 0 70))∧Z1) False) False) False) False) False) False) False) False) False) (Z0 q9 (Z0 q10 (Z0 q11 (q12∧Z0 q11 (q14∧q16∧Z0 q19 (Z0 (decide (c1≤c)) (Z0 q19 (ZO 0 q20 c1 (Zf O1) q18∧Z1) False) False) False) False) False) False) False))
 False)
 (Z0 q7 (Z0 (decide (c≤c)) (Z0 q7 (ZO 0 q20 c q18 q18∧Z2) False) False) False)) (by kernel_rfl) ?_
 conv=>zeta
 try simp only [Zi]
 try simp only [Zj]
 try simp only [Zg]
 try simp only [Zk]
 try simp only [Zl]
 try simp only [Zh]
 try simp only [Int.toNat_natCast,Nat.zero_add,true_and,and_true,Nat.le_refl]
 refine ⟨fun hc=> ?_,fun hc=>⟨ZM fun _ _=>rfl,hZ2 (by omega)⟩⟩
 have hlt:i<n:=by omega
 have h1:=h1 hlt
 have hwr:i64.wrap ((i:Int)+1)=((i+1:Nat):Int):=by rw [w64 (by omega)];omega
 refine ⟨by omega,X,.a rfl,hX,fun hd=> ?_,fun hd=> ?_⟩
 ·rw [decide_eq_true hd] at h1
  have hl:c1=c+1:=by rw [hc1,h1];simp [Z66,hO]
  subst hl
  subst h1
  have hR:ZO 0 [(0,3)] (c+1) (Zf (O++Z66 true (X.L.getD i Zo))) (Wd c (Zf O) (Uy (X.L.getD i Zo).c 0 70)):=ZM fun j hj=>UV hO (fun _ _=>rfl) hj
  repeat' apply And.intro
  all_goals first|omega|exact hwr|exact hR|exact hZ1 hlt|rfl
 ·rw [decide_eq_false hd] at h1
  have hl:c1=c:=by rw [hc1,h1];simp [Z66,hO]
  subst hl
  simp only [Z66,List.append_nil] at h1
  subst h1
  repeat' apply And.intro
  all_goals first|omega|exact hwr|exact ZM fun _ _=>rfl|exact hZ1 hlt|rfl
def VN (X:Za) (s:Int) (i:Nat):List Z9:=ZR X.side s (X.L.take i)
theorem Z8h (X:Za) (s:Int) {i:Nat} (hi:i<X.L.length):VN X s (i+1)=VN X s i++Z66 (decide (WA X.side (X.L.getD i Zo).own=s)) (X.L.getD i Zo):=QI hi
theorem Zcl (X:Za) (s:Int) (i:Nat):(VN X s i).length≤i:=by
 refine Nat.le_trans (List.length_filter_le _ _) ?_
 rw [List.length_take];omega
theorem Zar (X:Za) (s:Int):VN X s X.L.length=ZR X.side s X.L:=by unfold VN;rw [List.take_length]
noncomputable def Zdo (X:Za) (s:Int) (n:Nat):Zd:=ZeA.withL 135 0 (goM 0 (svS X s n 0 0 []) (X.L.length=n∧n<1000∧YW X) (YR 0 n 9 (fun i=>i<n) (fun i=>i=n) (fun _=>False) (fun _=>False) (fun i=>svE (VN X s i).length (VN X s i)) (fun i=>svE (VN X s i).length (VN X s i)) (fun i=>svE (VN X s i).length (VN X s i))))
theorem Z4z (X:Za) (s:Int) (n:Nat):(Zdo X s n).Ok:=
 Zd.withGoM (N:=20) (S:=fun i=>svS X s n i (VN X s i).length (VN X s i)) Zck (by kernel_rfl) fun hC=>⟨by simp [VN,ZR],fun i hi _=>by
  obtain ⟨h1,h2,h3⟩:=hC
  exact Zh8 X s n i _ _ _ _ (i<n∧i<n) (i=n) h2 h1 hi rfl (Zcl X s i) h3 (fun h=>Z8h X s (by omega)) rfl (fun h=>⟨h,h⟩) (fun h=>h)⟩
theorem ZfP (X:Za) (s:Int) (n c:Nat) (O:List Z9) (hL:X.L.length=n) (hn:n<1000) (hX:YW X) (hO:O=ZR X.side s X.L) (hc:c=O.length):
  evF (Zdo X s n) 20 135 [.vrows 70 n (Zf X.L) n,svC X s] ⟨0,[]⟩ (Ya 0 (.ret (.nslice ⟨0,0,70,0,0⟩ 70 c c)) 1 [(0,.rows 70 c (Zf O))]):=by
 refine @Eq.mpr _ (let q1:=decide (n=n);
 let q2:=Zf X.L;
 let q3:=List.length X.L;
 let q4:=[AV.pview (Za.c X (AV.vrows 70 q3 q2 q3)) 0];
 let q5:=[AV.int i64 s];
 Z0 (decide ((↑n:Int)=(↑n:Int)))
 (Z0 q1
 (q2=q2∧
 Z0 q1
 (q4=q4∧
 q5=q5∧
 (q3=n∧n<1000∧0≤X.side∧X.side≤1)∧
 ∀(i:Nat),
 let q11:=List.length (VN X s i);
 let q12:=decide (q11=c);
 let q13:=Z0 q12 (Z0 (decide (c≤q11)) (Z0 q12 (ZO 0 [(0,0)] c (Zf O) (Zf (VN X s i))∧True) False) False) False;
 i≤n→(∀(j:Nat),j<i→(fun (i:Nat)=>i<n) j)→(i=n→q13)∧(False→q13)∧(False→False))
 False)
 False)
 False) (by kernel_rfl) ?_
 conv=>zeta
 try simp only [Zi]
 try simp only [Zj]
 try simp only [Zg]
 try simp only [Zk]
 try simp only [Zl]
 try simp only [Zh]
 try simp only [Int.toNat_natCast,Nat.zero_add,true_and,and_true,Nat.le_refl]
 have ha:VN X s n=O:=by rw [←hL,Zar,hO]
 repeat' apply And.intro
 all_goals first|rfl|exact hL|exact hn|exact hX.1|exact hX.2|skip
 intro i hi _
 refine ⟨fun he=> ?_,fun h=>h.elim,fun h=>h.elim⟩
 subst he
 rw [ha]
 subst hc
 repeat' apply And.intro
 all_goals first|omega|rfl|exact ZM fun _ _=>rfl
theorem Z8i (args:List AV) (h:Z6) (K:KO) (hl:Zal args h K):Zm PP 135 args h K:=by
 refine Zy.fsumm (d:=20) (Zs _ _ _ _ _ hl fun a ha=> ?_)
 split at ha
 ·obtain ⟨X,rfl,h1,rfl,hX,hs,h2,hK⟩:=ha
  refine ⟨_,_,_,_,(Zy.evM (Z4z X _ _) (ZfP X _ _ _ _ h1.symm h2 hs rfl rfl)).conv fun E r hr=>hr.head (fun _ hc=>hc) fun _ hr=>hr.head (fun _ hc=> ?_) fun _ hc=>hc,rfl,⟨Nat.one_pos,.rows _ _ _ (fun i _=>XA _ i),trivial⟩,hK⟩
  cases hc with
  | func fn fi ca fs cs h3 h4=>exact .func _ _ _ _ _ h3 (h4.head (fun _ hc=>Z3t hX hc) fun _ hc=>hc)
 ·obtain ⟨X,hX,hs,h1,hK⟩:=ha
  refine ⟨_,_,_,_,(Zy.evM (Z4z X _ 0) (ZfP X _ 0 _ _ (by rw [h1];rfl) (by omega) hs rfl rfl)).conv fun E r hr=>hr.head (fun _ hc=> ?_) fun _ hr=>hr.head (fun _ hc=> ?_) fun _ hc=>hc,rfl,⟨Nat.one_pos,.rows _ _ _ (fun i _=>XA _ i),trivial⟩,hK⟩
  ·cases hc;exact .vrowsNil _ _ _ _ rfl rfl
  ·cases hc with
   | func fn fi ca fs cs h3 h4=>exact .func _ _ _ _ _ h3 (h4.head (fun _ hc=>Z3t hX hc) fun _ hc=>hc)
 ·exact ha.elim
noncomputable def Zas:Zd:=G0.withF 135 Zal
theorem Zat:Zas.Ok:=Zd.withF_ok Zu Z8i
def Zcm (n i:Nat) (O:List Z9):St:=⟨26,[(14,.int .i64 i),(13,.int .i64 n),(12,.nslice ⟨0,0,70,0,0⟩ 70 n n),(4,.nslice ⟨1,0,0,0,0⟩ 1 i i)],⟨2,[(0,.rows 70 n (Zf O)),(1,.ints .i64 (Xx (O.take i)))]⟩,[]⟩
def Z8j (i:Nat) (O:List Z9):St:=⟨26,[(4,.nslice ⟨0,0,0,0,0⟩ 1 i i)],⟨1,[(0,.ints .i64 (Xx (O.take i)))]⟩,[]⟩
theorem Zh9 (n i:Nat) (O:List Z9) (Z1 Z2:Prop) (hn:n<1000) (hL:O.length=n) (hi:i≤n) (hZ1:i<n→Z1) (hZ2:i=n→Z2):
  ZD Zas 20 83 0 0 (Zcm n i O) (rdM 0 0 9 (Zcm n (i+1) O) (Z8j i O) (Z8j i O) (Z8j i O) Z1 Z2 False False):=by
 refine @Eq.mpr _ (let q1:=0+Int.toNat (↑i:Int);
 let q2:=Xx (List.take i O);
 let q3:=q2++[(List.getD O q1 Zo).amount];
 let q4:=List.length q3;
 let q5:=i+1;
 let q6:=decide (n=n);
 Z0 (decide ((↑i:Int)<(↑n:Int))) (Z0 (decide (0≤(↑i:Int)∧(↑i:Int)<(↑n:Int))) (Z0 (decide (q1<n)) (Z0 (decide (i64=i64∧List.length q2=i)) (Z0 (decide (q4*8≤140737488355328)) (Z0 (decide (wrap i64 ((↑i:Int)+1)=(↑q5:Int))) (Z0 (decide ((↑n:Int)=(↑n:Int))) (Z0 q6 (Z0 (decide (n≤n)) (Z0 (decide (q4=q5)) (Z0 (decide (q5≤q4)) (Z0 q6 (ZO 0 [(1,4),(0,0)] n (Zf O) (Zf O)∧q3=Xx (List.take q5 O)∧Z1) False) False) False) False) False) False) False) False) False) False) False) (Z0 (decide (i=i)) (Z0 (decide (i≤i)) (q2=q2∧Z2) False) False)) (by kernel_rfl) ?_
 conv=>zeta
 try simp only [Zi]
 try simp only [Zj]
 try simp only [Zg]
 try simp only [Zk]
 try simp only [Zl]
 try simp only [Zh]
 try simp only [Int.toNat_natCast,Nat.zero_add,true_and,and_true,Nat.le_refl]
 have hl:(Xx (O.take i)).length=i:=by unfold Xx;rw [List.length_map,List.length_take];omega
 refine ⟨fun hc=> ?_,fun hc=>hZ2 (by omega)⟩
 have hlt:i<n:=by omega
 have hwr:i64.wrap ((i:Int)+1)=((i+1:Nat):Int):=by rw [w64 (by omega)];omega
 have ht:Xx (O.take (i+1))=Xx (O.take i)++[(O.getD i Zo).amount]:=by
  unfold Xx
  rw [List.take_succ_eq_append_getElem (by omega),List.map_append,List.getD_eq_getElem?_getD,List.getElem?_eq_getElem (by omega)]
  rfl
 have hl2:(Xx (O.take i)++[(O.getD i Zo).amount]).length=i+1:=by simp [hl]
 repeat' apply And.intro
 all_goals first|omega|exact hwr|exact ZM fun _ _=>rfl|exact ht.symm|exact hZ1 hlt|rfl
noncomputable def Zdp (O:List Z9) (n:Nat):Zd:=Zas.withL 83 0 (goM 0 (Zcm n 0 O) (O.length=n∧n<1000) (YR 0 n 9 (fun i=>i<n) (fun i=>i=n) (fun _=>False) (fun _=>False) (fun i=>Z8j i O) (fun i=>Z8j i O) (fun i=>Z8j i O)))
theorem Zau (O:List Z9) (n:Nat):(Zdp O n).Ok:=
 Zd.withGoM (N:=20) (S:=fun i=>Zcm n i O) Zat (by kernel_rfl) fun hC=>⟨rfl,fun i hi _=>Zh9 n i O (i<n∧i<n) (i=n) hC.2 hC.1 hi (fun h=>⟨h,h⟩) (fun h=>h)⟩
theorem Z73 (side s:Int) (L:List Z9):(ZR side s L).length≤L.length:=List.length_filter_le _ _
theorem Zha (X:Za) (s:Int) (c:Nat) (O:List Z9) (xs:List Int) (hn:X.L.length<1000) (hX:YW X) (hO:O=ZR X.side s X.L) (hc:c=O.length) (hx:xs=Xx O):
  evF (Zdp O c) 20 83 [WB X,.int .i64 s] ⟨0,[]⟩ (Ya 0 (.ret (.nslice ⟨0,0,0,0,0⟩ 1 c c)) 1 [(0,.ints .i64 xs)]):=by
 refine @Eq.mpr _ (let q1:=List.length X.L;
 let q2:=Zf X.L;
 ∃(X_1:Za),
 let q5:=X_1.L;
 let q6:=X_1.side;
 let q7:=ZR q6 s q5;
 let q8:=List.length q7;
 let q9:=decide (q8=c);
 q1=q1∧
 q1=List.length q5∧
 q2=Zf q5∧
 LV (Za.c X (AV.vrows 70 q1 q2 q1)) X_1∧
 (0≤q6∧q6≤1)∧
 q1<1000∧
 Z0 (decide ((↑q8:Int)=(↑c:Int)))
 (Z0 q9
 (Z0 (decide (c≤q8))
 (Z0 q9
 (ZO 0 [(0,2)] c (Zf O) (Zf q7)∧
 Xx (List.take 0 O)=[]∧
 (List.length O=c∧c<1000)∧
 ∀(i:Nat),
 let q15:=Z0 (decide (i=c)) (Z0 (decide (c≤i)) (Xx (List.take i O)=xs∧True) False) False;
 i≤c→(∀(j:Nat),j<i→(fun (i:Nat)=>i<c) j)→(i=c→q15)∧(False→q15)∧(False→False))
 False)
 False)
 False)
 False) (by kernel_rfl) ?_
 conv=>zeta
 try simp only [Zi]
 try simp only [Zj]
 try simp only [Zg]
 try simp only [Zk]
 try simp only [Zl]
 try simp only [Zh]
 try simp only [Int.toNat_natCast,Nat.zero_add,true_and,and_true,Nat.le_refl]
 subst hx
 have hle:=Z73 X.side s X.L
 refine ⟨X, ?_⟩
 rw [←hO]
 repeat' apply And.intro
 all_goals first|rfl|exact .a rfl|exact hX.1|exact hX.2|exact hn|exact hc.symm|(rw [hc];done)|(rw [hc,hO];omega)|exact ZM fun _ _=>rfl|skip
 intro i hi _
 refine ⟨fun he=> ?_,fun h=>h.elim,fun h=>h.elim⟩
 rw [he,hc,List.take_length]
 exact ⟨rfl,Nat.le_refl _,rfl⟩
theorem QJ (args:List AV) (h:Z6) (K:KO) (hl:Z3s args h K):Zm PP 83 args h K:=by
 refine Zy.fsumm (d:=20) (Zs _ _ _ _ _ hl fun a ha=> ?_)
 split at ha
 ·obtain ⟨X,hX,hs,h1,hK⟩:=ha
  exact ⟨_,_,_,_,(Zy.evM (Zau _ _) (Zha X _ _ _ _ h1 hs rfl rfl rfl)).conv fun E r hr=>hr.head (fun _ hc=>W7 hX hc) fun _ hc=>hc,rfl,⟨Nat.one_pos,.ints _ _,trivial⟩,hK⟩
 ·exact ha.elim
def Z74 (xs:List Int) (n i:Nat) (a:Int):St:=⟨16,[(7,.int .i64 i),(6,.int .i64 n),(5,.vints .i64 xs n),(2,.int .i64 a)],⟨0,[]⟩,[]⟩
def Z2B (a:Int):St:=⟨16,[(2,.int .i64 a)],⟨0,[]⟩,[]⟩
theorem Zhb (xs:List Int) (n i:Nat) (a a1:Int) (Z1 Z2:Prop) (hn:n<1000) (hL:xs.length=n) (hi:i≤n) (h1:i<n→a1=i64.wrap (a+xs.getD i 0)) (hZ1:i<n→Z1) (hZ2:i=n→Z2):
  ZD G0 20 133 0 0 (Z74 xs n i a) (rdM 0 0 9 (Z74 xs n (i+1) a1) (Z2B a) (Z2B a) (Z2B a) Z1 Z2 False False):=by
 refine @Eq.mpr _ (Z0 (decide ((↑i:Int)<(↑n:Int))) (Z0 (decide (0≤(↑i:Int)∧(↑i:Int)<(↑n:Int))) (Z0 (decide (wrap i64 ((↑i:Int)+1)=(↑(i+1):Int))) (Z0 (decide ((↑n:Int)=(↑n:Int))) (xs=xs∧Z0 (decide (n=n)) (Z0 (decide (wrap i64 (a+List.getD xs (Int.toNat (↑i:Int)) 0)=a1)) Z1 False) False) False) False) False) (Z0 (decide (a=a)) Z2 False)) (by kernel_rfl) ?_
 try simp only [Zi]
 try simp only [Zj]
 try simp only [Zg]
 try simp only [Zk]
 try simp only [Zl]
 try simp only [Zh]
 try simp only [Int.toNat_natCast,Nat.zero_add,true_and,and_true,Nat.le_refl]
 refine ⟨fun hc=> ?_,fun hc=>hZ2 (by omega)⟩
 have hlt:i<n:=by omega
 have hwr:i64.wrap ((i:Int)+1)=((i+1:Nat):Int):=by rw [w64 (by omega)];omega
 have h1:=h1 hlt
 repeat' apply And.intro
 all_goals first|omega|exact hwr|exact h1.symm|exact hZ1 hlt|rfl
def Z1C (xs:List Int):Nat→Int
 | 0=>0
 | i+1=>i64.wrap (Z1C xs i+xs.getD i 0)
theorem Z2C {xs:List Int} (h:∀x∈xs,0≤x∧x≤1125899906842624):0≤xs.sum∧xs.sum≤1125899906842624*xs.length:=by
 induction xs with
 | nil=>simp
 | cons a r ih=>
  have h1:=h a (by simp)
  have h2:=ih fun x hx=>h x (by simp [hx])
  simp only [List.sum_cons,List.length_cons]
  omega
theorem Z75 {xs:List Int} (hn:xs.length<1000) (h:∀x∈xs,0≤x∧x≤1125899906842624):∀i,i≤xs.length→Z1C xs i=(xs.take i).sum
 | 0,_=>by simp [Z1C]
 | i+1,hi=>by
  have ih:=Z75 hn h i (by omega)
  have hb:=Z2C (xs:=xs.take (i+1)) fun x hx=>h x (List.mem_of_mem_take hx)
  have e:(xs.take (i+1)).sum=(xs.take i).sum+xs.getD i 0:=by
   rw [List.take_succ_eq_append_getElem (by omega),List.sum_append,List.getD_eq_getElem?_getD,List.getElem?_eq_getElem (by omega)]
   simp
  have hl:(xs.take (i+1)).length≤1000:=by rw [List.length_take];omega
  unfold Z1C
  rw [ih,←e,w64 (by omega)]
noncomputable def Zdq (xs:List Int) (n:Nat):Zd:=G0.withL 133 0 (goM 0 (Z74 xs n 0 0) (xs.length=n∧n<1000) (YR 0 n 9 (fun i=>i<n) (fun i=>i=n) (fun _=>False) (fun _=>False) (fun i=>Z2B (Z1C xs i)) (fun i=>Z2B (Z1C xs i)) (fun i=>Z2B (Z1C xs i))))
theorem Zav (xs:List Int) (n:Nat):(Zdq xs n).Ok:=
 Zd.withGoM (N:=20) (S:=fun i=>Z74 xs n i (Z1C xs i)) Zu (by kernel_rfl) fun hC=>⟨rfl,fun i hi _=>Zhb xs n i _ _ (i<n∧i<n) (i=n) hC.2 hC.1 hi (fun _=>rfl) (fun h=>⟨h,h⟩) (fun h=>h)⟩
theorem Zhc (xs:List Int) (n:Nat) (r:Int) (hL:xs.length=n) (hn:n<1000) (hr:r=Z1C xs n):
  evF (Zdq xs n) 20 133 [.vints .i64 xs n] ⟨0,[]⟩ (Y6 (fun v=>v=.int .i64 r)):=by
 refine @Eq.mpr _ (Z0 (decide ((↑n:Int)=(↑n:Int)))
 (xs=xs∧
 Z0 (decide (n=n))
 ((List.length xs=n∧n<1000)∧
 ∀(i:Nat),
 let q1:=AV.int i64 (Z1C xs i)=AV.int i64 r;
 i≤n→(∀(j:Nat),j<i→(fun (i:Nat)=>i<n) j)→(i=n→q1)∧(False→q1)∧(False→False))
 False)
 False) (by kernel_rfl) ?_
 conv=>zeta
 try simp only [Zi]
 try simp only [Zj]
 try simp only [Zg]
 try simp only [Zk]
 try simp only [Zl]
 try simp only [Zh]
 try simp only [Int.toNat_natCast,Nat.zero_add,true_and,and_true,Nat.le_refl]
 refine ⟨⟨hL,hn⟩,fun i hi _=>⟨fun he=> ?_,fun h=>h.elim,fun h=>h.elim⟩⟩
 rw [he,hr]
theorem ZeB (args:List AV) (h:Z6) (K:AV→Prop) (hl:smS args h K):Zm PP 133 args h fun o h'=>∃v,o=.ret v∧h'=h∧K v:=by
 refine Zy.psumm (d:=20) (Zs _ _ _ _ _ hl fun a ha=> ?_)
 split at ha
 ·rename_i xs n
  obtain ⟨h1,h2,h3,hK⟩:=ha
  have e:Z1C xs n=xs.sum:=by rw [h1,Z75 (by omega) h3 _ (Nat.le_refl _),List.take_length]
  exact ⟨_,Zy.evV (Zav _ _) (Zhc xs n _ h1.symm h2 rfl),fun _=>rfl,by rw [e];exact hK⟩
 ·exact ha.elim
noncomputable def Zdr:Zd:=(G0.withF 83 Z3s).withP 133 smS
theorem Zaw:Zdr.Ok:=Zd.withP_ok (Zd.withF_ok Zu QJ) ZeB
theorem Zhd (X:Za) (s:Int) (r:Int) (hs:s=0∨s=1) (hX:YW X) (hA:Z4x X) (hr:r=Yx X s):
  evF Zdr 20 79 [WB X,.int .i64 s] ⟨0,[]⟩ (Y6 (fun v=>v=.int .i64 r)):=by
 refine @Eq.mpr _ (let q1:=decide (0≤s∧s<2);
 let q2:=0+Int.toNat s;
 let q3:=decide (q2<2);
 let q4:=decide (q2<2);
 let q5:=List.length X.L;
 let q6:=List.getD [X.t.fee,(0:Int)] q2 0;
 let q7:=X.res;
 let q8:=List.getD [X.a0,X.a1] q2 0;
 Z0 q1
 (Z0 q3
 (Z0 q1
 (Z0 q4
 (∃(X_1:Za),
 let q17:=X_1.side;
 let q18:=ZR q17 s X_1.L;
 let q19:=List.length q18;
 let q20:=Xx q18;
 let q21:=List.take q19 (Y8 0 q20);
 LV (Za.c X (AV.vrows 70 q5 (Zf X.L) q5)) X_1∧(0≤q17∧q17≤1)∧List.length X_1.L<1000∧Z0 q4 (Z0 (decide (q6=q6)) (Z0 (decide (q7=q7)) (Z0 q3 (Z0 (decide (q8=q8)) (Z0 (decide (0+q19≤List.length q20)) (q19=List.length q21∧q19<1000∧(∀(x:Int),List.Mem x q21→0≤x∧x≤1125899906842624)∧AV.int i64 (wrap i64 (wrap i64 (wrap i64 (q8-List.sum q21)-q7)-q6))=AV.int i64 r) False) False) False) False) False) False)
 False)
 False)
 False)
 False) (by kernel_rfl) ?_
 conv=>zeta
 obtain ⟨h1,h2,h3,h4,h5,h6⟩:=hA
 have hle:=Z73 X.side s X.L
 have hb:∀x∈Xx (ZR X.side s X.L),0≤x∧x≤1125899906842624:=fun x hx=>by
  obtain ⟨z,hz,rfl⟩:=List.mem_map.1 hx
  exact h2 z ((List.mem_filter.1 hz).1)
 have hl:(Xx (ZR X.side s X.L)).length=(ZR X.side s X.L).length:=List.length_map _
 have hsum:=Z2C hb
 have e:List.take (ZR X.side s X.L).length (Y8 0 (Xx (ZR X.side s X.L)))=Xx (ZR X.side s X.L):=by rw [ZZ,List.drop_zero,←hl,List.take_length]
 try simp only [Zi]
 try simp only [Zj]
 try simp only [Zg]
 try simp only [Zk]
 try simp only [Zl]
 try simp only [Zh]
 try simp only [Int.toNat_natCast,Nat.zero_add,true_and,and_true,Nat.le_refl]
 repeat' first|apply And.intro|refine Exists.intro X ?_
 all_goals try rw [e]
 all_goals first|omega|rfl|exact .a rfl|exact hX.1|exact hX.2|exact hb|skip
 rw [hr]
 unfold Yx Za.am
 generalize (Xx (ZR X.side s X.L)).sum=q at*
 congr 1
 rcases hs with rfl|rfl
 ·simp only [Int.toNat_zero,List.getD_cons_zero,if_true]
  have e2:i64.wrap (X.a0-q)=X.a0-q:=w64 (by omega)
  have e3:i64.wrap (X.a0-q-X.res)=X.a0-q-X.res:=w64 (by omega)
  rw [e2,e3,w64 (by omega)]
 ·have e1:(1:Int).toNat=1:=rfl
  simp only [e1,List.getD_cons_succ,List.getD_cons_zero,show ¬(1:Int)=0 by decide,if_false]
  have e2:i64.wrap (X.a1-q)=X.a1-q:=w64 (by omega)
  have e3:i64.wrap (X.a1-q-X.res)=X.a1-q-X.res:=w64 (by omega)
  rw [e2,e3,w64 (by omega)]
theorem Z76 (args:List AV) (h:Z6) (K:AV→Prop) (hl:Zey args h K):Zm PP 79 args h fun o h'=>∃v,o=.ret v∧h'=h∧K v:=by
 refine Zy.psumm (d:=20) (Zs _ _ _ _ _ hl fun a ha=> ?_)
 split at ha
 ·obtain ⟨X,hX,hs,h1,h2,hK⟩:=ha
  exact ⟨_,(Zy.evV Zaw (Zhd X _ _ h1 hs h2 rfl)).conv fun E r hr=>hr.head (fun _ hc=>W7 hX hc) fun _ hc=>hc,fun _=>rfl,hK⟩
 ·exact ha.elim
end Go.Tk
end
section
namespace Go.Tk
open IntKind (i64 u8 u32 u64 wrap)
noncomputable def Zds:Zd:=G0.withF 83 Z3s
theorem Zax:Zds.Ok:=Zd.withF_ok Zu QJ
theorem ZfQ (X:Za) (s:Int) (b:Bool) (hX:YW X) (hn:X.L.length<1000) (hb:b=decide ((ZR X.side s X.L).length≤8)):
  evF Zds 20 90 [.int .i64 s,.pview [WB X] 0] ⟨0,[]⟩ (Y6 (fun v=>v=.bool b)):=by
 refine @Eq.mpr _ (let q1:=List.length X.L;
 ∃(X_1:Za),
 let q3:=X_1.side;
 LV (Za.c X (AV.vrows 70 q1 (Zf X.L) q1)) X_1∧(0≤q3∧q3≤1)∧List.length X_1.L<1000∧AV.bool (decide ((↑(List.length (ZR q3 s X_1.L)):Int)≤8))=AV.bool b) (by kernel_rfl) ?_
 conv=>zeta
 subst hb
 refine ⟨X,.a rfl,hX,hn, ?_⟩
 congr 1
 rw [Bool.eq_iff_iff,decide_eq_true_iff,decide_eq_true_iff]
 omega
theorem Zay (args:List AV) (h:Z6) (K:AV→Prop) (hl:Zdn args h K):Zm PP 90 args h fun o h'=>∃v,o=.ret v∧h'=h∧K v:=by
 refine Zy.psumm (d:=20) (Zs _ _ _ _ _ hl fun a ha=> ?_)
 split at ha
 ·obtain ⟨X,hX,hs,hn,hK⟩:=ha
  exact ⟨_,(Zy.evV Zax (ZfQ X _ _ hs hn rfl)).conv fun E r hr=>hr.head (fun _ hc=>hc) fun _ hr=>hr.head (fun _ hc=>Z3t hX hc) fun _ hc=>hc,fun _=>rfl,hK⟩
 ·exact ha.elim
noncomputable def Zcn (H1:List Int→List Int):Zd:=(G0.withP 91 (Zak H1)).withP 92 Zew
theorem Zco:(Zcn ZJ).Ok:=Zd.withP_ok (Zd.withP_ok Zu Z8g) Zci
noncomputable def Zaz (H1:List Int→List Int) (X:Za) (n:Nat):Zd:=((((Z64 (Zcn H1)).withP 72 Zag).withP 90 Zdn).withP 79 Zey).withF 83 Z3s
theorem ZaA {H1:List Int→List Int} (h0:(Zcn H1).Ok) (X:Za) (n:Nat):(Zaz H1 X n).Ok:=Zd.withF_ok (Zd.withP_ok (Zd.withP_ok (Zd.withP_ok (Zd.withP_ok (Zd.withP_ok (Zd.withP_ok (Zd.withP_ok h0 Z3r) Z1y) Z1z) Z1A) Zah) Zay) Z76) QJ
def rgS (X:Za) (n i:Nat):St:=⟨140,[(99,.int .i64 i),(98,.int .i64 n),(97,.vrows 70 n (Zf X.L) n),(1,.ptr (some ⟨0,0,0,0,0⟩))],⟨1,[(0,.flat [WB X])]⟩,[]⟩
def rgE (X:Za):St:=⟨140,[(1,.ptr (some ⟨0,0,0,0,0⟩))],⟨1,[(0,.flat [WB X])]⟩,[]⟩
def rgF:St:=⟨140,[(2,.bool false)],⟨0,[]⟩,[]⟩
theorem Zhe (X:Za) (n i:Nat) (H1:List Int→List Int) (Z1 Z2 Z3:Prop) (hn:n<1000) (hL:X.L.length=n) (hi:i≤n) (hok:∀h∈X.L,h.Ok) (h1:i<n→Y5 H1 X i=true→Z1) (h2:i=n→Z2) (h3:i<n→Y5 H1 X i=false→Z3):
  ZD (Zaz H1 X n) 20 32 0 0 (rgS X n i) (rdM 0 0 9 (rgS X n (i+1)) (rgE X) rgF rgF Z1 Z2 Z3 False):=by
 refine @Eq.mpr _ (let q1:=X.L;
 let q2:=List.length q1;
 let q3:=Zf q1;
 let q4:=Za.c X (AV.vrows 70 q2 q3 q2);
 let q5:=List.getD q1 (Int.toNat (↑i:Int)) Zo;
 let q6:=Z9.mk q5.own q5.id q5.amount q5.hash q5.expiry q5.stage q5.fin q5.secret;
 let q7:=wrap i64 ((↑i:Int)-1);
 let q8:=List.getD q1 (Int.toNat q7) Zo;
 let q9:=decide (n=n);
 let q10:=q4=q4;
 let q11:=Z0 (decide (wrap i64 ((↑i:Int)+1)=(↑(i+1):Int))) (Z0 (decide ((↑n:Int)=(↑n:Int))) (Z0 q9 (q3=q3∧Z0 q9 (q10∧Z1) False) False) False) False;
 Z0 (decide ((↑i:Int)<(↑n:Int))) (Z0 (decide (0≤(↑i:Int)∧(↑i:Int)<(↑n:Int))) (∃(X:Za),LV q4 X∧Z9.Ok q6∧Z0 (!Yf H1 X q6) Z3 (Z0 (decide ((↑i:Int)>0)) (Z0 (decide (0≤q7∧q7<(↑q2:Int))) (Z0 (!decide (Wg (Z9.mk q8.own q8.id q8.amount q8.hash q8.expiry q8.stage q8.fin q8.secret) q6)) Z3 q11) False) q11)) False) (q10∧Z2)) (by kernel_rfl) ?_
 conv=>zeta
 try simp only [Zi]
 try simp only [Zj]
 try simp only [Zg]
 try simp only [Zk]
 try simp only [Zl]
 try simp only [Zh]
 try simp only [Int.toNat_natCast,Nat.zero_add,true_and,and_true,Nat.le_refl]
 have e0:∀p:Z9,Z9.mk p.own p.id p.amount p.hash p.expiry p.stage p.fin p.secret=p:=fun _=>rfl
 simp only [e0]
 refine ⟨fun hc=> ?_,fun hc=>h2 (by omega)⟩
 have hlt:i<n:=by omega
 have hwr:i64.wrap ((i:Int)+1)=((i+1:Nat):Int):=by rw [w64 (by omega)];omega
 have hw1:0<i→i64.wrap ((i:Int)-1)=((i-1:Nat):Int):=fun h=>by rw [w64 (by omega)];omega
 have hx:(X.L.getD i Zo).Ok:=hok _ (Y0 (by omega))
 refine ⟨by omega,X,.a rfl,hx,fun hu=>h3 hlt ?_,fun hu=> ?_⟩
 ·have hu:Yf H1 X (X.L.getD i Zo)=false:=by simpa using hu
  unfold Y5
  rw [hu];rfl
 have hu:Yf H1 X (X.L.getD i Zo)=true:=by simpa using hu
 refine ⟨fun hp=> ?_,fun hp=> ?_⟩
 ·have hp:0<i:=by omega
  rw [hw1 hp,Int.toNat_natCast]
  refine ⟨by omega,fun hf=>h3 hlt ?_,fun hf=> ?_⟩
  ·have hf:decide (Wg (X.L.getD (i-1) Zo) (X.L.getD i Zo))=false:=by simpa using hf
   unfold Y5
   rw [hu,hf,ZB (by omega:i≠0)];rfl
  ·have hf:decide (Wg (X.L.getD (i-1) Zo) (X.L.getD i Zo))=true:=by simpa using hf
   have hb:Y5 H1 X i=true:=by
    unfold Y5
    rw [hu,hf];simp
   repeat' apply And.intro
   all_goals first|omega|exact hwr|exact h1 hlt hb|rfl
 ·have hb:Y5 H1 X i=true:=by
   unfold Y5
   rw [hu,show i=0 by omega];rfl
  repeat' apply And.intro
  all_goals first|omega|exact hwr|exact h1 hlt hb|rfl
noncomputable def Zdt (H1:List Int→List Int) (X:Za) (n:Nat):Zd:=(Zaz H1 X n).withL 32 0 (goM 0 (rgS X n 0) (n<1000∧X.L.length=n∧∀h∈X.L,h.Ok) (YR 0 n 9 (fun i=>Y5 H1 X i=true∧i<n) (fun i=>i=n) (fun i=>i<n∧Y5 H1 X i=false) (fun _=>False) (fun _=>rgE X) (fun _=>rgF) (fun _=>rgF)))
theorem ZaB {H1:List Int→List Int} (h0:(Zcn H1).Ok) (X:Za) (n:Nat):(Zdt H1 X n).Ok:=by
 exact Zd.withGoM (N:=20) (S:=fun i=>rgS X n i) (ZaA h0 X n) (by kernel_rfl) fun hC=>⟨rfl,fun i hi _=>Zhe X n i _ _ _ _ hC.1 hC.2.1 hi hC.2.2 (fun h h'=>⟨⟨h',h⟩,h⟩) (fun h=>h) (fun h h'=>⟨h,h'⟩)⟩
end Go.Tk
end
section
namespace Go.Tk
open IntKind (i64 u8 u32 u64 wrap)
theorem Y2 {t:YM} (h:Xk t=true):(0≤t.index∧t.index≤23)∧(1000≤t.cap∧t.cap≤1125899906842624)∧(1≤t.dust∧t.dust≤500)∧(0≤t.fee∧t.fee≤400)∧(1≤t.delay∧t.delay≤1000):=by
 unfold Xk at h
 simp only [Bool.and_eq_true,decide_eq_true_eq] at h
 omega
theorem Z77 {H:List Int→List Int} {X:Za} (hn:X.L.length<1000) (h1:Xk X.t=true) (h3:0≤X.res∧X.res≤X.t.cap/10) (h4:0≤X.a0∧X.a0≤X.t.cap) (h5:X.a1=X.t.cap-X.a0) (hl:∀h∈X.L,Yf H X h=true):Z4x X:=by
 have hb:=Y2 h1
 refine ⟨hn,fun h hh=> ?_,by omega,by omega,by omega,by omega⟩
 have:=hl h hh
 unfold Yf Xy at this
 simp only [Bool.and_eq_true,decide_eq_true_eq] at this
 omega
theorem Zhf (X:Za) (n:Nat) (H1:List Int→List Int) (b:Bool) (hL:X.L.length=n) (hn:n<1000) (ht:X.t.Ok) (hok:∀h∈X.L,h.Ok) (hb:b=Y7 H1 X):
  evF (Zdt H1 X n) 20 32 [WB X] ⟨0,[]⟩ (Y6 (fun v=>v=.bool b)):=by
 refine @Eq.mpr _ (let q1:=X.t;
 let q2:=q1.cap;
 let q3:=YM.mk q1.fund q1.index q2 q1.dust q1.fee q1.delay q1.k0 q1.k1;
 let q4:=AV.bool b;
 let q5:=AV.bool false=q4;
 let q6:=X.a0;
 let q7:=X.L;
 let q8:=List.length q7;
 let q9:=Zf q7;
 let q10:=Za.c X (AV.vrows (70:Nat) q8 q9 q8);
 let q11:=decide (q8=n);
 YM.Ok q3∧
 Z0 ((if Xk q3=true then (0:Int) else (2:Int)) !=(0:Int)) q5
 (Z0 (!decide ((0:Int)≤X.side∧X.side≤(1:Int))) q5
 (Z0 (!decide ((0:Int)≤X.res∧X.res≤wrap i64 (Int.tdiv q2 (10:Int)))) q5
 (Z0 (!decide ((0:Int)≤q6∧q6≤q2)) q5
 (Z0 (X.a1 !=wrap i64 (q2-q6)) q5
 (Z0 (!decide ((0:Int)≤X.i0∧X.i0≤(2147483648:Int))) q5
 (Z0 (!decide ((0:Int)≤X.i1∧X.i1≤(2147483648:Int))) q5
 (∃(X_1:Za),
 let q23:=X_1.side;
 LV q10 X_1∧
 ((0:Int)≤q23∧q23≤(1:Int))∧
 List.length X_1.L<(1000:Nat)∧
 Z0 (!decide (List.length (ZR q23 (0:Int) X_1.L)≤(8:Nat))) q5
 (∃(X_2:Za),
 let q25:=X_2.side;
 LV q10 X_2∧
 ((0:Int)≤q25∧q25≤(1:Int))∧
 List.length X_2.L<(1000:Nat)∧
 Z0 (!decide (List.length (ZR q25 (1:Int) X_2.L)≤(8:Nat))) q5
 (Z0 (decide ((↑q8:Int)=(↑n:Int)))
 (Z0 q11
 (q9=q9∧
 Z0 q11
 (q10=q10∧
 (n<(1000:Nat)∧q8=n∧∀(h:Z9),List.Mem h q7→Z9.Ok h)∧
 ∀(i:Nat),
 i≤n→
 (∀(j:Nat),j<i→(fun (i:Nat)=>Y5 H1 X i=true∧i<n) j)→
 (i=n→
 ∃(X:Za),
 LV q10 X∧
 ((0:Int)≤X.side∧X.side≤(1:Int))∧
 ((0:Int)=(0:Int)∨(0:Int)=(1:Int))∧
 Z4x X∧
 Z0 (decide (Yx X (0:Int)≥(0:Int)))
 (∃(X:Za),
 let q27:=X.side;
 LV q10 X∧((0:Int)≤q27∧q27≤(1:Int))∧List.length X.L<(1000:Nat)∧Z0 ((↑(List.length (ZR q27 (1:Int) X.L)):Int)==(0:Int)) (AV.bool true=q4) (∃(X:Za),LV q10 X∧((0:Int)≤X.side∧X.side≤(1:Int))∧((1:Int)=(0:Int)∨(1:Int)=(1:Int))∧Z4x X∧AV.bool (decide (Yx X (1:Int)≥(0:Int)))=q4))
 q5)∧
 (i<n∧Y5 H1 X i=false→q5)∧(False→False))
 False)
 False)
 False)))))))))) (by kernel_rfl) ?_
 conv=>zeta
 have e0:YM.mk X.t.fund X.t.index X.t.cap X.t.dust X.t.fee X.t.delay X.t.k0 X.t.k1=X.t:=rfl
 have no:¬(Y7 H1 X=true)→AV.bool false=AV.bool b:=fun h=>by rw [hb,Bool.eq_false_iff.2 h]
 have hr:=Ve (H:=H1) (X:=X)
 have hh:=U9 (X:=X)
 have key:Y7 H1 X=true→_:=fun h=>(hh.1 (hr.1 h).1)
 have hlen:X.L.length<1000:=by omega
 rw [e0]
 simp only [Zh]
 refine ⟨ht,fun k=>no fun h=> ?_,fun k1=> ?_⟩
 ·rw [(key h).1] at k;simp at k
 have k1:Xk X.t=true:=by
  cases hq:Xk X.t with
  | true=>rfl
  | false=>rw [hq] at k1;simp at k1
 have tb:=Y2 k1
 have td:i64.wrap (Int.tdiv X.t.cap 10)=X.t.cap/10:=by rw [Int.tdiv_eq_ediv_of_nonneg (by omega),w64 (by omega)]
 rw [td]
 refine ⟨fun k=>no fun h=> ?_,fun k2=> ?_⟩
 ·have:=(key h).2.1;simp at k;omega
 have k2:0≤X.side∧X.side≤1:=by simpa using k2
 refine ⟨fun k=>no fun h=> ?_,fun k3=> ?_⟩
 ·have:=(key h).2.2.1;simp at k;omega
 have k3:0≤X.res∧X.res≤X.t.cap/10:=by simpa using k3
 refine ⟨fun k=>no fun h=> ?_,fun k4=> ?_⟩
 ·have:=(key h).2.2.2.1;simp at k;omega
 have k4:0≤X.a0∧X.a0≤X.t.cap:=by simpa using k4
 have tw:i64.wrap (X.t.cap-X.a0)=X.t.cap-X.a0:=w64 (by omega)
 rw [tw]
 refine ⟨fun k=>no fun h=> ?_,fun k5=> ?_⟩
 ·have:=(key h).2.2.2.2.1;simp at k;omega
 have k5:X.a1=X.t.cap-X.a0:=by simpa using k5
 refine ⟨fun k=>no fun h=> ?_,fun k6=> ?_⟩
 ·have:=(key h).2.2.2.2.2.1;simp at k;omega
 have k6:0≤X.i0∧X.i0≤2147483648:=by simpa using k6
 refine ⟨fun k=>no fun h=> ?_,fun k7=> ?_⟩
 ·have:=(key h).2.2.2.2.2.2.1;simp at k;omega
 have k7:0≤X.i1∧X.i1≤2147483648:=by simpa using k7
 refine ⟨X,.a rfl,k2,hlen,fun k=>no fun h=> ?_,fun k8=> ?_⟩
 ·have:=(key h).2.2.2.2.2.2.2.1;simp at k;omega
 have k8:(ZR X.side 0 X.L).length≤8:=by simpa using k8
 refine ⟨X,.a rfl,k2,hlen,fun k=>no fun h=> ?_,fun k9=> ?_⟩
 ·have:=(key h).2.2.2.2.2.2.2.2;simp at k;omega
 have k9:(ZR X.side 1 X.L).length≤8:=by simpa using k9
 have hhd:Z4w X=true:=hh.2 ⟨k1,k2,k3,k4,k5,k6,k7,k8,k9⟩
 simp only [hL,decide_true]
 refine ⟨fun _=>⟨fun _=>⟨trivial,fun _=>⟨trivial,⟨hn,trivial,hok⟩,fun i hi hg=>⟨fun he=> ?_,fun hx=>no fun h=> ?_,fun h=>h.elim⟩⟩,fun h=>by cases h⟩,fun h=>by cases h⟩,fun h=>by cases h⟩
 ·subst he
  have hall:∀j,j<X.L.length→Y5 H1 X j=true:=fun j hj=>(hg j (by omega)).1
  have hA:Z4x X:=Z77 (H:=H1) hlen k1 k3 k4 k5 fun h hh=>by
   obtain ⟨j,hj,rfl⟩:=List.getElem_of_mem hh
   have:=hall j hj
   unfold Y5 at this
   simp only [Bool.and_eq_true] at this
   rw [List.getD_eq_getElem?_getD,List.getElem?_eq_getElem hj] at this
   exact this.1
  refine ⟨X,.a (by rw [hL]),k2,.inl trivial,hA,fun k10=>⟨X,.a (by rw [hL]),k2,hlen,fun k11=> ?_,fun k11=>⟨X,.a (by rw [hL]),k2,.inr trivial,hA, ?_⟩⟩,fun k=>no fun h=> ?_⟩
  ·have k10:0≤Yx X 0:=by simpa using k10
   have:Y7 H1 X=true:=hr.2 ⟨hhd,hall,k10,.inl (by simpa using k11)⟩
   rw [hb,this]
  ·have k10:0≤Yx X 0:=by simpa using k10
   rw [hb]
   congr 1
   rw [Bool.eq_iff_iff,decide_eq_true_iff]
   constructor
   ·intro h;exact hr.2 ⟨hhd,hall,k10,.inr h⟩
   ·intro h
    rcases (hr.1 h).2.2.2 with h|h
    ·rw [h] at k11;simp at k11
    ·exact h
  ·have:=(hr.1 h).2.2.1
   simp at k;omega
 ·have:=(hr.1 h).2.1 i (by omega)
  rw [hx.2] at this;cases this
theorem Zcp (args:List AV) (h:Z6) (K:AV→Prop) (hl:ZfI ZJ args h K):Zm PP 32 args h fun o h'=>∃v,o=.ret v∧h'=h∧K v:=by
 refine Zy.psumm (d:=20) (Zs _ _ _ _ _ hl fun a ha=> ?_)
 split at ha
 ·obtain ⟨X,hX,ht,hok,hn,hK⟩:=ha
  exact ⟨_,(Zy.evV (ZaB Zco X _) (Zhf X _ ZJ _ rfl hn ht hok rfl)).conv fun E r hr=>hr.head (fun _ hc=>W7 hX hc) fun _ hc=>hc,fun _=>rfl,hK⟩
 ·exact ha.elim
end Go.Tk
end
section
namespace Go.Tk
open IntKind (i64 u8 u32 u64 wrap)
structure N5 where
 a:Int
 b:Int
 c:Int
 d:Int
 e:Int
def r5 (F:List Int→Int×Int) (xs:List Int) (o:Nat):Option (N5×Nat):=
 (rdN F xs o 1125899906842624).bind fun a=>(rdN F xs a.2 1125899906842624).bind fun b=>(rdN F xs b.2 1125899906842624).bind fun c=>
 (rdN F xs c.2 1125899906842624).bind fun d=>(rdN F xs d.2 1125899906842624).bind fun e=>some (⟨a.1,b.1,c.1,d.1,e.1⟩,e.2)
def ZaC (X:Za) (n:N5):Za:={ X with t:=⟨X.t.fund,n.a,n.b,n.c,n.d,n.e,X.t.k0,X.t.k1⟩}
def ZaD (X:Za) (n:N5):Za:={ X with res:=n.a,a0:=n.b,a1:=n.c,i0:=n.d,i1:=n.e}
def C5 (F:List Int→Int×Int) (g:Za→N5→Za) (X Y:Za) (xs:List Int) (o p:Nat) (ok no:Prop):Prop:=o≤xs.length∧(∀n q,r5 F xs o=some (n,q)→Y=g X n∧p=q∧ok)∧(r5 F xs o=none→no)
def lr2 (X:Za) (xs:List Int) (o:Nat):St:=⟨120,lrT [(86,.int .i64 5),(85,.nslice ⟨6,0,0,0,0⟩ 1 5 5),(87,.int .i64 0)],⟨7,lrH X .nilslice xs o [(6,.flat [.ptr (some ⟨5,0,0,102,0⟩),.ptr (some ⟨5,0,0,103,0⟩),.ptr (some ⟨5,0,0,103,1⟩),.ptr (some ⟨5,0,0,105,0⟩),.ptr (some ⟨5,0,0,105,1⟩)])]⟩,lrD⟩
theorem Zhg (F:List Int→Int×Int) (H:List Int→List Int) (X Y:Za) (xs:List Int) (o p:Nat) (ok no:Prop) (hC:C5 F ZaC X Y xs o p ok no):
  Z4k (Z3u F H) 20 17 0 0 (lr0 X xs o) (jnP 0 0 pvL (lr1 Y xs p) lrP ok no):=by
 refine @Eq.mpr _ (let q1:=List.length xs;
 let q2:=q1-o;
 let q3:=rdN F xs o 1125899906842624;
 let q4:=q1-p;
 let q5:=X.t;
 let q6:=Y.t;
 Z0 (decide (q2=q2∧o≤q1∧q2=q2∧(0:Int)≤1125899906842624))
 ((∀(v:Int) (o':Nat),
 let q13:=rdN F xs o' 1125899906842624;
 q3=some (v,o')→
 o≤o'∧o'≤q1∧v≤1125899906842624→
 Z0 (decide (q1-o'=q1-o'∧o'≤q1∧q1-o'=q1-o'∧(0:Int)≤1125899906842624))
 ((∀(v_1:Int) (o'_1:Nat),
 let q15:=rdN F xs o'_1 1125899906842624;
 q13=some (v_1,o'_1)→
 o'≤o'_1∧o'_1≤q1∧v_1≤1125899906842624→
 Z0 (decide (q1-o'_1=q1-o'_1∧o'_1≤q1∧q1-o'_1=q1-o'_1∧(0:Int)≤1125899906842624))
 ((∀(v_2:Int) (o':Nat),
 let q17:=rdN F xs o' 1125899906842624;
 q15=some (v_2,o')→
 o'_1≤o'∧o'≤q1∧v_2≤1125899906842624→
 Z0 (decide (q1-o'=q1-o'∧o'≤q1∧q1-o'=q1-o'∧(0:Int)≤1125899906842624))
 ((∀(v_3:Int) (o'_2:Nat),
 let q19:=rdN F xs o'_2 1125899906842624;
 q17=some (v_3,o'_2)→o'≤o'_2∧o'_2≤q1∧v_3≤1125899906842624→Z0 (decide (q1-o'_2=q1-o'_2∧o'_2≤q1∧q1-o'_2=q1-o'_2∧(0:Int)≤1125899906842624)) ((∀(v_4:Int) (o':Nat),q19=some (v_4,o')→o'_2≤o'∧o'≤q1∧v_4≤1125899906842624→xs=xs∧Z0 (decide (o'=p)) (Z0 (decide (q1-o'=q4)) (Z0 (decide (q4≤q1-o')) (q5.fund=q6.fund∧Z0 (decide (v=q6.index)) (Z0 (decide (v_1=q6.cap)) (Z0 (decide (v_2=q6.dust)) (Z0 (decide (v_3=q6.fee)) (Z0 (decide (v_4=q6.delay)) (q5.k0=q6.k0∧q5.k1=q6.k1∧Z0 (decide (X.side=Y.side)) (Z0 (decide (X.res=Y.res)) ([X.a0,X.a1]=[Y.a0,Y.a1]∧[X.i0,X.i1]=[Y.i0,Y.i1]∧ok) False) False) False) False) False) False) False) False) False) False)∧(q19=none→no)) False)∧
 (q17=none→no))
 False)∧
 (q15=none→no))
 False)∧
 (q13=none→no))
 False)∧
 (q3=none→no))
 False) (by kernel_rfl) ?_
 conv=>zeta
 try simp only [Zi]
 try simp only [Zj]
 try simp only [Zg]
 try simp only [Zk]
 try simp only [Zl]
 try simp only [Zh]
 try simp only [Int.toNat_natCast,Nat.zero_add,true_and,and_true,Nat.le_refl]
 obtain ⟨ho,h1,h2⟩:=hC
 cases h:r5 F xs o with
 | none=>
  have h2:=h2 h
  clear h1
  repeat' (first|(refine And.intro ?_ ?_)|intro _)
  all_goals first|omega|exact h2|skip
  all_goals (exfalso;simp [r5, *] at h)
 | some nq=>
  obtain ⟨n,q⟩:=nq
  obtain ⟨rfl,rfl,hok⟩:=h1 n q h
  clear h1 h2
  repeat' (first|(refine And.intro ?_ ?_)|intro _)
  all_goals first|omega|exact hok|trivial|skip
  all_goals (simp [r5, *] at h)
  all_goals (obtain ⟨rfl,rfl⟩:=h)
  all_goals first|rfl|exact Nat.le_refl _
theorem Zhh (F:List Int→Int×Int) (H:List Int→List Int) (X Y:Za) (xs:List Int) (o p:Nat) (ok no:Prop) (hC:C5 F ZaD X Y xs o p ok no):
  Z4k (Z3u F H) 20 17 2 0 (lr2 X xs o) (jnP 0 2 pvL (lr1 Y xs p) lrP ok no):=by
 refine @Eq.mpr _ (let q1:=List.length xs;
 let q2:=q1-o;
 let q3:=rdN F xs o 1125899906842624;
 let q4:=q1-p;
 let q5:=X.t;
 let q6:=Y.t;
 Z0 (decide (q2=q2∧o≤q1∧q2=q2∧(0:Int)≤1125899906842624))
 ((∀(v:Int) (o':Nat),
 let q13:=rdN F xs o' 1125899906842624;
 q3=some (v,o')→
 o≤o'∧o'≤q1∧v≤1125899906842624→
 Z0 (decide (q1-o'=q1-o'∧o'≤q1∧q1-o'=q1-o'∧(0:Int)≤1125899906842624))
 ((∀(v_1:Int) (o'_1:Nat),
 let q15:=rdN F xs o'_1 1125899906842624;
 q13=some (v_1,o'_1)→
 o'≤o'_1∧o'_1≤q1∧v_1≤1125899906842624→
 Z0 (decide (q1-o'_1=q1-o'_1∧o'_1≤q1∧q1-o'_1=q1-o'_1∧(0:Int)≤1125899906842624))
 ((∀(v_2:Int) (o':Nat),
 let q17:=rdN F xs o' 1125899906842624;
 q15=some (v_2,o')→
 o'_1≤o'∧o'≤q1∧v_2≤1125899906842624→
 Z0 (decide (q1-o'=q1-o'∧o'≤q1∧q1-o'=q1-o'∧(0:Int)≤1125899906842624))
 ((∀(v_3:Int) (o'_2:Nat),
 let q19:=rdN F xs o'_2 1125899906842624;
 q17=some (v_3,o'_2)→o'≤o'_2∧o'_2≤q1∧v_3≤1125899906842624→Z0 (decide (q1-o'_2=q1-o'_2∧o'_2≤q1∧q1-o'_2=q1-o'_2∧(0:Int)≤1125899906842624)) ((∀(v_4:Int) (o':Nat),q19=some (v_4,o')→o'_2≤o'∧o'≤q1∧v_4≤1125899906842624→xs=xs∧Z0 (decide (o'=p)) (Z0 (decide (q1-o'=q4)) (Z0 (decide (q4≤q1-o')) (q5.fund=q6.fund∧Z0 (decide (q5.index=q6.index)) (Z0 (decide (q5.cap=q6.cap)) (Z0 (decide (q5.dust=q6.dust)) (Z0 (decide (q5.fee=q6.fee)) (Z0 (decide (q5.delay=q6.delay)) (q5.k0=q6.k0∧q5.k1=q6.k1∧Z0 (decide (X.side=Y.side)) (Z0 (decide (v=Y.res)) ([v_1,v_2]=[Y.a0,Y.a1]∧[v_3,v_4]=[Y.i0,Y.i1]∧ok) False) False) False) False) False) False) False) False) False) False)∧(q19=none→no)) False)∧
 (q17=none→no))
 False)∧
 (q15=none→no))
 False)∧
 (q13=none→no))
 False)∧
 (q3=none→no))
 False) (by kernel_rfl) ?_
 conv=>zeta
 try simp only [Zi]
 try simp only [Zj]
 try simp only [Zg]
 try simp only [Zk]
 try simp only [Zl]
 try simp only [Zh]
 try simp only [Int.toNat_natCast,Nat.zero_add,true_and,and_true,Nat.le_refl]
 obtain ⟨ho,h1,h2⟩:=hC
 cases h:r5 F xs o with
 | none=>
  have h2:=h2 h
  clear h1
  repeat' (first|(refine And.intro ?_ ?_)|intro _)
  all_goals first|omega|exact h2|skip
  all_goals (exfalso;simp [r5, *] at h)
 | some nq=>
  obtain ⟨n,q⟩:=nq
  obtain ⟨rfl,rfl,hok⟩:=h1 n q h
  clear h1 h2
  repeat' (first|(refine And.intro ?_ ?_)|intro _)
  all_goals first|omega|exact hok|trivial|skip
  all_goals (simp [r5, *] at h)
  all_goals (obtain ⟨rfl,rfl⟩:=h)
  all_goals first|rfl|exact Nat.le_refl _
def lo5 (F:List Int→Int×Int) (id:Nat) (g:Za→N5→Za) (S:Za→List Int→Nat→St):Nat→St→KE→Prop:=fun k s Z=>match Nat.beq k 0 with
 | true=>∃(X:Za) (xs:List Int) (o:Nat),Xj 0 (S X xs o) s (o≤xs.length∧(∀n q,r5 F xs o=some (n,q)→q≤xs.length→Z (.exit id) (lr1 (g X n) xs q))∧(r5 F xs o=none→Z (.panic pvL) lrP))
 | false=>False
theorem WC {xs:List Int} {o p:Nat} {v most:Int} (ho:o≤xs.length) (h:rdN (Ze Zn) xs o most=some (v,p)):o≤p∧p≤xs.length∧v≤most:=by
 unfold rdN at h
 split at h
 ·rename_i hc
  simp only [Option.some.injEq,Prod.mk.injEq] at h
  have hle:=U6 Zn (xs.drop o)
  rw [List.length_drop] at hle
  omega
 ·cases h
theorem ZfR {xs:List Int} {o p:Nat} {n:N5} (ho:o≤xs.length) (h:r5 (Ze Zn) xs o=some (n,p)):p≤xs.length:=by
 unfold r5 at h
 simp only [Option.bind_eq_some_iff] at h
 obtain ⟨a,h1,b,h2,c,h3,d,h4,e,h5,h6⟩:=h
 have k1:=WC ho h1
 have k2:=WC k1.2.1 h2
 have k3:=WC k2.2.1 h3
 have k4:=WC k3.2.1 h4
 have k5:=WC k4.2.1 h5
 simp only [Option.some.injEq,Prod.mk.injEq] at h6
 omega
theorem ZaE {G:Zd} (hG:G.Ok) {id:Nat} {g:Za→N5→Za} {S:Za→List Int→Nat→St} (h1:Z3k G.P 17 id=true)
  (h:∀X Y xs o p ok no,C5 (Ze Zn) g X Y xs o p ok no→Z4k G 20 17 id 0 (S X xs o) (jnP 0 id pvL (lr1 Y xs p) lrP ok no)):(G.withL 17 id (lo5 (Ze Zn) id g S)).Ok:=
 Zd.withJX hG rfl h1 fun k s Z hs=>by
  unfold lo5 at hs
  split at hs
  ·rename_i hk
   have:=Nat.eq_of_beq_eq_true hk
   subst this
   obtain ⟨X,xs,o,hs⟩:=hs
   obtain ⟨⟨ho,h2,h3⟩,hw⟩:=Ye hs
   cases hr:r5 (Ze Zn) xs o with
   | none=>
    have hC:C5 (Ze Zn) g X X xs o o False True:=by
     refine ⟨ho,fun n q he=> ?_,fun _=>trivial⟩
     rw [hr] at he;cases he
    exact ⟨_,_,_,_,_,hw,h _ _ _ _ _ _ _ hC,fun hk=>hk.elim,fun _=>h3 hr⟩
   | some p=>
    have hC:C5 (Ze Zn) g X (g X p.1) xs o p.2 True False:=by
     refine ⟨ho,fun n q he=> ?_,fun he=> ?_⟩
     ·rw [hr] at he;cases he;exact ⟨rfl,rfl,trivial⟩
     ·rw [hr] at he;cases he
    exact ⟨_,_,_,_,_,hw,h _ _ _ _ _ _ _ hC,fun _=>h2 p.1 p.2 hr (ZfR ho hr),fun hk=>hk.elim⟩
  ·exact hs.elim
theorem Z3v:(Z3u (Ze Zn) ZJ).Ok:=Zd.withP_ok (Zd.withF_ok (Zd.withF_ok (Zd.withF_ok (Zd.withF_ok (Zd.withF_ok Zu Z9M) Z7Y) Zan) Z9O) Z1l) Zcp
noncomputable def Zcq (F:List Int→Int×Int) (H:List Int→List Int):Zd:=((Z3u F H).withL 17 0 (lo5 F 0 ZaC lr0)).withL 17 2 (lo5 F 2 ZaD lr2)
theorem Zcr:(Zcq (Ze Zn) ZJ).Ok:=
 Zd.withL_join (H:=Z3u (Ze Zn) ZJ) (ZaE Z3v (by kernel_rfl) fun X Y xs o p ok no hC=>Zhg _ _ X Y xs o p ok no hC) rfl (ZaE Z3v (by kernel_rfl) fun X Y xs o p ok no hC=>Zhh _ _ X Y xs o p ok no hC)
def stL (F:List Int→Int×Int) (xs:List Int) (o:Nat):Nat→List Z9×Nat
 | 0=>([],o)
 | i+1=>match Yy F xs (stL F xs o i).2 with
  | some (x,p)=>((stL F xs o i).1++[x],p)
  | none=>stL F xs o i
def goH (F:List Int→Int×Int) (xs:List Int) (o i:Nat):Prop:=(Yy F xs (stL F xs o i).2).isSome=true
def lr4 (X:Za) (xs:List Int) (cnt:Int) (i:Nat) (L:List Z9) (o:Nat):St:=⟨120,lrT [(97,.int .i64 cnt),(98,.int .i64 i)],⟨7,lrH X (.nslice ⟨6,0,70,0,0⟩ 70 i i) xs o [(6,.rows 70 i (Zf L))]⟩,lrD⟩
def lr5 (X:Za) (xs:List Int) (i:Nat) (L:List Z9) (o:Nat):St:=⟨120,lrT [],⟨7,lrH X (.nslice ⟨6,0,70,0,0⟩ 70 i i) xs o [(6,.rows 70 i (Zf L))]⟩,lrD⟩
theorem Zhi (F:List Int→Int×Int) (H:List Int→List Int) (X:Za) (xs:List Int) (cnt:Int) (i o o':Nat) (L L':List Z9) (Z1 Z2 Z5:Prop) (ho:o≤xs.length) (hi:i≤16∧cnt≤16) (hL:L.length=i) (h2:¬(i:Int)<cnt→Z2) (h5:(i:Int)<cnt→Yy F xs o=none→Z5) (h1:(i:Int)<cnt→∀x p,Yy F xs o=some (x,p)→(o'=p∧L'=L++[x])∧Z1):
  ZD (Z3u F H) 20 17 4 0 (lr4 X xs cnt i L o) (rdP 0 4 9 pvL (lr4 X xs cnt (i+1) L' o') (lr5 X xs i L o) lrP lrP lrP Z1 Z2 False False Z5):=by
 refine @Eq.mpr _ (let q1:=List.length xs;
 let q2:=q1-o;
 let q3:=decide (i=i);
 let q4:=i+1;
 let q5:=decide (q4*112≤140737488355328);
 let q6:=decide (cnt=cnt);
 let q7:=decide (wrap i64 (↑i+1)=↑q4);
 let q8:=q1-o';
 let q9:=X.t;
 let q10:=q9.fund;
 let q11:=q10=q10;
 let q12:=q9.index;
 let q13:=decide (q12=q12);
 let q14:=q9.cap;
 let q15:=decide (q14=q14);
 let q16:=q9.dust;
 let q17:=decide (q16=q16);
 let q18:=q9.fee;
 let q19:=decide (q18=q18);
 let q20:=q9.delay;
 let q21:=decide (q20=q20);
 let q22:=q9.k0;
 let q23:=q22=q22;
 let q24:=q9.k1;
 let q25:=q24=q24;
 let q26:=decide (X.side=X.side);
 let q27:=decide (X.res=X.res);
 let q28:=[X.a0,X.a1];
 let q29:=q28=q28;
 let q30:=[X.i0,X.i1];
 let q31:=q30=q30;
 let q32:=decide (q4=q4);
 let q33:=decide (q4≤q4);
 let q34:=[(3,3),(5,5),(0,0),(1,1),(4,4)];
 let q35:=(2,2)::(6,10)::q34;
 let q36:=Zf L;
 Z0 (decide (↑i<cnt))
 (Z0 (decide (q2=q2∧o≤q1∧q2=q2))
 ((∀(v:Bool) (o'_1:Nat),
 let q73:=rdN F xs o'_1 2147483647;
 rdT xs o=some (v,o'_1)→
 o≤o'_1∧o'_1≤q1→
 Z0 (decide (q1-o'_1=q1-o'_1∧o'_1≤q1∧q1-o'_1=q1-o'_1∧(0:Int)≤2147483647))
 ((∀(v_1:Int) (o'_2:Nat),
 let q75:=rdN F xs o'_2 1125899906842624;
 q73=some (v_1,o'_2)→
 o'_1≤o'_2∧o'_2≤q1∧v_1≤2147483647→
 Z0 (decide (q1-o'_2=q1-o'_2∧o'_2≤q1∧q1-o'_2=q1-o'_2∧(0:Int)≤1125899906842624))
 ((∀(v_2:Int) (o'_3:Nat),
 q75=some (v_2,o'_3)→
 o'_2≤o'_3∧o'_3≤q1∧v_2≤1125899906842624→
 Z0 (decide (q1-o'_3=q1-o'_3∧o'_3≤q1∧q1-o'_3=q1-o'_3))
 ((∀(hh:List Int),
 let q77:=AV.arr u8 32 hh;
 ∀(o'_4:Nat),
 let q79:=rdN F xs o'_4 2147483647;
 rdH xs o'_3=some (hh,o'_4)→
 o'_3≤o'_4∧o'_4≤q1∧List.length hh=32→
 Z0 (decide (q1-o'_4=q1-o'_4∧o'_4≤q1∧q1-o'_4=q1-o'_4∧(0:Int)≤2147483647))
 ((∀(v_3:Int) (o'_5:Nat),
 let q81:=rdN F xs o'_5 9;
 q79=some (v_3,o'_5)→
 o'_4≤o'_5∧o'_5≤q1∧v_3≤2147483647→
 Z0 (decide (q1-o'_5=q1-o'_5∧o'_5≤q1∧q1-o'_5=q1-o'_5∧(0:Int)≤9))
 ((∀(v_4:Int) (o'_6:Nat),
 let q83:=rdN F xs o'_6 2;
 q81=some (v_4,o'_6)→
 o'_5≤o'_6∧o'_6≤q1∧v_4≤9→
 Z0 (decide (q1-o'_6=q1-o'_6∧o'_6≤q1∧q1-o'_6=q1-o'_6∧(0:Int)≤2))
 ((∀(v_5:Int) (o'_7:Nat),
 let q85:=q1-o'_7;
 q83=some (v_5,o'_7)→
 o'_6≤o'_7∧o'_7≤q1∧v_5≤2→
 Z0 (v_5==1) (Z0 (decide (q85=q85∧o'_7≤q1∧q85=q85)) ((∀(hh:List Int) (o'_8:Nat),rdH xs o'_7=some (hh,o'_8)→o'_7≤o'_8∧o'_8≤q1∧List.length hh=32→Z0 q3 (Z0 q3 (Z0 q3 (Z0 q3 (Z0 q3 (Z0 q5 (Z0 q6 (Z0 q7 (xs=xs∧Z0 (decide (o'_8=o')) (Z0 (decide (q1-o'_8=q8)) (Z0 (decide (q8≤q1-o'_8)) (q11∧Z0 q13 (Z0 q15 (Z0 q17 (Z0 q19 (Z0 q21 (q23∧q25∧Z0 q26 (Z0 q27 (q29∧q31∧Z0 q32 (Z0 q33 (Z0 q32 (ZO 0 q35 q4 (Zf L') (Wd i q36 (Uy [AV.bool v,AV.int i64 v_1,AV.int i64 v_2,q77,AV.int i64 v_3,AV.int i64 v_4,AV.int i64 v_5,AV.arr u8 32 hh] 0 70))∧Z1) False) False) False) False) False) False) False) False) False) False) False) False) False) False) False) False) False) False) False) False) False)∧(rdH xs o'_7=none→Z5)) False)
 (Z0 q3 (Z0 q3 (Z0 q3 (Z0 q3 (Z0 q3 (Z0 q5 (Z0 q6 (Z0 q7 (xs=xs∧Z0 (decide (o'_7=o')) (Z0 (decide (q85=q8)) (Z0 (decide (q8≤q85)) (q11∧Z0 q13 (Z0 q15 (Z0 q17 (Z0 q19 (Z0 q21 (q23∧q25∧Z0 q26 (Z0 q27 (q29∧q31∧Z0 q32 (Z0 q33 (Z0 q32 (ZO 0 q35 q4 (Zf L') (Wd i q36 (Uy [AV.bool v,AV.int i64 v_1,AV.int i64 v_2,q77,AV.int i64 v_3,AV.int i64 v_4,AV.int i64 v_5,AV.arr u8 32 Zc] 0 70))∧Z1) False) False) False) False) False) False) False) False) False) False) False) False) False) False) False) False) False) False) False) False) False))∧
 (q83=none→Z5))
 False)∧
 (q81=none→Z5))
 False)∧
 (q79=none→Z5))
 False)∧
 (rdH xs o'_3=none→Z5))
 False)∧
 (q75=none→Z5))
 False)∧
 (q73=none→Z5))
 False)∧
 (rdT xs o=none→Z5))
 False)
 (xs=xs∧Z0 (decide (o=o)) (Z0 (decide (q2=q2)) (Z0 (decide (q2≤q2)) (q11∧Z0 q13 (Z0 q15 (Z0 q17 (Z0 q19 (Z0 q21 (q23∧q25∧Z0 q26 (Z0 q27 (q29∧q31∧Z0 q3 (Z0 (decide (i≤i)) (Z0 q3 (ZO 0 ((2,2)::(6,6)::q34) i q36 q36∧Z2) False) False) False) False) False) False) False) False) False) False) False) False) False)) (by kernel_rfl) ?_
 conv=>zeta
 try simp only [Zi]
 try simp only [Zj]
 try simp only [Zg]
 try simp only [Zk]
 try simp only [Zl]
 try simp only [Zh]
 try simp only [Int.toNat_natCast,Nat.zero_add,true_and,and_true,Nat.le_refl]
 have hself:∀τ,ZO 0 τ i (Zf L) (Zf L):=fun _=>ZM fun _ _=>rfl
 refine ⟨fun hlt=> ?_,fun hge=> ?_⟩
 rotate_left
 ·have:=h2 hge
  repeat' apply And.intro
  all_goals first|omega|exact this|exact hself _|trivial
 have h5:=h5 hlt
 have h1:=h1 hlt
 have hw:i64.wrap ((i:Int)+1)=((i+1:Nat):Int):=w64 (by omega)
 simp only [hw]
 clear hw hself h2
 cases h:Yy F xs o with
 | none=>
  have h5:=h5 h
  clear h1
  repeat' (first|(refine And.intro ?_ ?_)|intro _)
  all_goals first|omega|exact h5|trivial|skip
  all_goals (exfalso;simp [Yy,Z1B, *] at h)
 | some xp=>
  obtain ⟨x,p⟩:=xp
  obtain ⟨⟨rfl,rfl⟩,hZ⟩:=h1 x p h
  clear h1 h5
  repeat' (first|(refine And.intro ?_ ?_)|intro _)
  all_goals first|omega|exact hZ|trivial|skip
  all_goals (simp [Yy,Z1B, *] at h)
  all_goals (obtain ⟨rfl,rfl⟩:=h)
  all_goals first|rfl|exact Nat.le_refl _|skip
  all_goals (refine ZM fun q hq=> ?_;(try simp only [*]);exact UV (x:=⟨_,_,_,_,_,_,_,_⟩) hL (fun _ _=>rfl) hq)
end Go.Tk
end
section
namespace Go.Tk
open IntKind (i64 u8 u32 u64 wrap)
def rdL (F:List Int→Int×Int) (xs:List Int) (o:Nat):Nat→Option (List Z9×Nat)
 | 0=>some ([],o)
 | n+1=>(rdL F xs o n).bind fun a=>(Yy F xs a.2).bind fun b=>some (a.1++[b.1],b.2)
theorem Z1D {F:List Int→Int×Int} {xs:List Int} {o:Nat}:∀{n:Nat},(∀j,j<n→goH F xs o j)→rdL F xs o n=some (stL F xs o n)
 | 0,_=>rfl
 | n+1,h=>by
  have hn:=h n (Nat.lt_succ_self _)
  unfold goH at hn
  unfold rdL stL
  rw [Z1D fun j hj=>h j (by omega)]
  cases hr:Yy F xs (stL F xs o n).2 with
  | none=>rw [hr] at hn;cases hn
  | some x=>simp [hr]
theorem Z4A {F:List Int→Int×Int} {xs:List Int} {o n:Nat} (h:rdL F xs o n=none):∀{m:Nat},n≤m→rdL F xs o m=none
 | 0,hm=>by
  have e:n=0:=by omega
  subst e
  exact h
 | m+1,hm=>by
  by_cases e:n=m+1
  ·subst e;exact h
  ·unfold rdL;rw [Z4A h (show n≤m by omega)];rfl
theorem ZaF {F:List Int→Int×Int} {xs:List Int} {o n m:Nat} (h:∀j,j<n→goH F xs o j) (hn:Yy F xs (stL F xs o n).2=none) (hm:n<m):rdL F xs o m=none:=by
 refine Z4A (n:=n+1) ?_ hm
 unfold rdL
 rw [Z1D h]
 simp [hn]
theorem Zcs {xs:List Int} {o p:Nat} {x:Z9} (ho:o≤xs.length) (h:Yy (Ze Zn) xs o=some (x,p)):o≤p∧p≤xs.length∧x.hash.length=32∧x.secret.length=32:=by
 unfold Yy at h
 simp only [Option.bind_eq_some_iff] at h
 obtain ⟨a,h1,b,h2,c,h3,d,h4,e,h5,f,h6,g,h7,s,h8,h9⟩:=h
 have k1:o≤a.2∧a.2≤xs.length:=by
  unfold rdT at h1
  split at h1
  ·cases h1;exact ⟨by show o≤o+1;omega,by show o+1≤_;omega⟩
  ·cases h1
 have hh:∀{q:Nat} {r:List Int×Nat},rdH xs q=some r→q≤r.2∧r.2≤xs.length∧r.1.length=32:=fun {q r} h=>by
  unfold rdH at h
  split at h
  ·cases h
   refine ⟨by show q≤q+32;omega,by show q+32≤_;omega, ?_⟩
   show ((xs.drop q).take 32).length=32
   rw [List.length_take,List.length_drop];omega
  ·cases h
 have k2:=WC k1.2 h2
 have k3:=WC k2.2.1 h3
 have k4:=hh h4
 have k5:=WC k4.2.1 h5
 have k6:=WC k5.2.1 h6
 have k7:=WC k6.2.1 h7
 have k8:g.2≤s.2∧s.2≤xs.length∧s.1.length=32:=by
  unfold Z1B at h8
  split at h8
  ·exact hh h8
  ·cases h8;exact ⟨Nat.le_refl _,k7.2.1,rfl⟩
 cases h9
 exact ⟨by omega,by omega,k4.2.2,k8.2.2⟩
theorem Z1E {xs:List Int} {o:Nat} (ho:o≤xs.length):∀n,(∀j,j<n→goH (Ze Zn) xs o j)→(stL (Ze Zn) xs o n).1.length=n∧(stL (Ze Zn) xs o n).2≤xs.length∧∀x∈(stL (Ze Zn) xs o n).1,x.hash.length=32∧x.secret.length=32
 | 0,_=>⟨rfl,ho,fun x hx=>by cases hx⟩
 | n+1,h=>by
  obtain ⟨i1,i2,i3⟩:=Z1E ho n fun j hj=>h j (by omega)
  have hn:=h n (Nat.lt_succ_self _)
  unfold goH at hn
  unfold stL
  cases hr:Yy (Ze Zn) xs (stL (Ze Zn) xs o n).2 with
  | none=>rw [hr] at hn;cases hn
  | some x=>
   have k:=Zcs i2 hr
   refine ⟨by simp [i1],k.2.1,fun y hy=> ?_⟩
   rcases List.mem_append.1 hy with hy|hy
   ·exact i3 y hy
   ·rw [List.mem_singleton] at hy;subst hy;exact k.2.2
def lo6 (F:List Int→Int×Int) (S4:Za→List Int→Int→Nat→List Z9→Nat→St) (S5:Za→List Int→Nat→List Z9→Nat→St):Nat→St→KE→Prop:=fun k s Z=>match Nat.beq k 0 with
 | true=>∃(X:Za) (xs:List Int) (cnt:Int) (o:Nat),Xj 0 (S4 X xs cnt 0 [] o) s (o≤xs.length∧cnt≤16∧(∀(n:Nat) L p,n=cnt.toNat→rdL F xs o n=some (L,p)→(L.length=n∧p≤xs.length∧n≤16∧∀x∈L,x.hash.length=32∧x.secret.length=32)→Z (.exit 4) (S5 X xs n L p))∧(rdL F xs o cnt.toNat=none→Z (.panic pvL) lrP))
 | false=>False
theorem Z4B {F:List Int→Int×Int} {xs:List Int} {o i:Nat} {x:Z9} {p:Nat} (hr:Yy F xs (stL F xs o i).2=some (x,p)):stL F xs o (i+1)=((stL F xs o i).1++[x],p):=by
 show (match Yy F xs (stL F xs o i).2 with|some (x,p)=>((stL F xs o i).1++[x],p)|none=>stL F xs o i)=_
 rw [hr]
theorem ZfS {X:Za} {xs:List Int} {cnt:Int} {o i:Nat} (ho:o≤xs.length) (hc:cnt≤16) (hi:i≤cnt.toNat) (hgo:∀j,j<i→goH (Ze Zn) xs o j):ZD (Z3u (Ze Zn) ZJ) 20 17 4 0 (lr4 X xs cnt i (stL (Ze Zn) xs o i).1 (stL (Ze Zn) xs o i).2) (rdP 0 4 9 pvL (lr4 X xs cnt (i+1) (stL (Ze Zn) xs o (i+1)).1 (stL (Ze Zn) xs o (i+1)).2) (lr5 X xs i (stL (Ze Zn) xs o i).1 (stL (Ze Zn) xs o i).2) lrP lrP lrP (goH (Ze Zn) xs o i∧i<cnt.toNat) (¬(i:Int)<cnt) False False ((i:Int)<cnt∧Yy (Ze Zn) xs (stL (Ze Zn) xs o i).2=none)):=by
 obtain ⟨i1,i2,i3⟩:=Z1E ho i hgo
 refine Zhi (Ze Zn) ZJ X xs cnt i (stL (Ze Zn) xs o i).2 (stL (Ze Zn) xs o (i+1)).2 (stL (Ze Zn) xs o i).1 (stL (Ze Zn) xs o (i+1)).1 _ _ _ i2 ⟨by omega,hc⟩ i1 (fun h=>h) (fun h h'=>⟨h,h'⟩) fun hlt x p hr=> ?_
 rw [Z4B hr]
 have hg:goH (Ze Zn) xs o i:=by unfold goH;simp only [hr,Option.isSome_some]
 exact ⟨⟨rfl,rfl⟩,hg,by omega⟩
theorem Z78 (G:Zd) (f:FuncId) (id:Nat) (S:Nat→St→KE→Prop):(G.withL f id S).P=G.P:=rfl
theorem ZeC (F:List Int→Int×Int) (H:List Int→List Int):(Zcq F H).P=(Z3u F H).P:=by unfold Zcq;rw [Z78,Z78]
theorem ZeD {G:Zd} (hG:G.Ok) {S4:Za→List Int→Int→Nat→List Z9→Nat→St} {S5:Za→List Int→Nat→List Z9→Nat→St} (h1:Xt G.P 17 4=true)
  (h:∀{X:Za} {xs:List Int} {cnt:Int} {o i:Nat},o≤xs.length→cnt≤16→i≤cnt.toNat→(∀j,j<i→goH (Ze Zn) xs o j)→ZD G 20 17 4 0 (S4 X xs cnt i (stL (Ze Zn) xs o i).1 (stL (Ze Zn) xs o i).2) (rdP 0 4 9 pvL (S4 X xs cnt (i+1) (stL (Ze Zn) xs o (i+1)).1 (stL (Ze Zn) xs o (i+1)).2) (S5 X xs i (stL (Ze Zn) xs o i).1 (stL (Ze Zn) xs o i).2) lrP lrP lrP (goH (Ze Zn) xs o i∧i<cnt.toNat) (¬(i:Int)<cnt) False False ((i:Int)<cnt∧Yy (Ze Zn) xs (stL (Ze Zn) xs o i).2=none))):
  (G.withL 17 4 (lo6 (Ze Zn) S4 S5)).Ok:=by
 refine Zd.withGoX (N:=20) (l:=9) (pv:=pvL) hG rfl h1 fun k s Z hs=> ?_
 unfold lo6 at hs
 split at hs
 ·rename_i hk
  have:=Nat.eq_of_beq_eq_true hk
  subst this
  obtain ⟨X,xs,cnt,o,hs⟩:=hs
  obtain ⟨⟨ho,hc,h1,h2⟩,hw⟩:=Ye hs
  refine ⟨cnt.toNat,fun i=>S4 X xs cnt i (stL (Ze Zn) xs o i).1 (stL (Ze Zn) xs o i).2,fun i=>S5 X xs i (stL (Ze Zn) xs o i).1 (stL (Ze Zn) xs o i).2,fun _=>lrP,fun _=>lrP,fun _=>lrP,goH (Ze Zn) xs o,fun i=>¬(i:Int)<cnt,fun _=>False,fun _=>False,fun i=>(i:Int)<cnt∧Yy (Ze Zn) xs (stL (Ze Zn) xs o i).2=none,hw,fun i hi hgo=>h ho hc hi hgo, ?_⟩
  intro i hi hgo
  refine ⟨fun hx=> ?_,fun h=>h.elim,fun h=>h.elim,fun hx=> ?_⟩
  ·have e:i=cnt.toNat:=by omega
   obtain ⟨i1,i2,i3⟩:=Z1E ho i hgo
   exact h1 i _ _ e (Z1D hgo) ⟨i1,i2,by omega,i3⟩
  ·exact h2 (ZaF hgo hx.2 (by omega))
 ·exact hs.elim
noncomputable def ZfT (F:List Int→Int×Int) (H:List Int→List Int):Zd:=(Zcq F H).withL 17 4 (lo6 F lr4 lr5)
theorem Z79:(ZfT (Ze Zn) ZJ).Ok:=Zd.withL_join (H:=Z3u (Ze Zn) ZJ) Zcr (ZeC _ _) (ZeD Z3v (by kernel_rfl) ZfS)
end Go.Tk
end
section
namespace Go.Tk
open IntKind (i64 u8 u32 u64 wrap)
def ZfU (t:YM) (side res a b:Int):Za:=⟨t,side,res,a,b,0,0,[]⟩
end Go.Tk
end
section
namespace Go.Tk
open IntKind (i64 u8 u32 u64 wrap)
theorem and_mk {a b:Bool} (h1:a=true) (h2:b=true):(a&&b)=true:=by rw [h1,h2];rfl
end Go.Tk
end
section
namespace Go.Tk
open IntKind (i64 u8 u32 u64 wrap)
open Go.Proofs Go.Shelf Go.Lib Go.Sort
theorem Z4C {W w':World} (h1:W.heap.size≤w'.heap.size) (h2:w'.os=W.os) (h3:w'.tape=W.tape) (h4:w'.output=W.output∧W.drawn≤w'.drawn) (h5:∀b,b<W.heap.size→w'.heap[b]? =W.heap[b]?):∃q os',w'=grow (W.drewN q) os':=by
 refine ⟨w'.drawn-W.drawn,w'.heap.extract W.heap.size w'.heap.size, ?_⟩
 obtain ⟨heap,tape,drawn,os,output⟩:=w'
 obtain ⟨heap0,tape0,drawn0,os0,output0⟩:=W
 simp only at h1 h2 h3 h4 h5
 unfold grow World.drewN
 simp only [World.mk.injEq]
 refine ⟨?_,h3,by omega,h2,h4.1⟩
 apply Array.ext_getElem?
 intro i
 rcases Nat.lt_or_ge i heap0.size with h|h
 ·rw [Array.getElem?_append_left h];exact h5 i h
 ·rw [Array.getElem?_append_right h,Array.getElem?_extract]
  rcases Nat.lt_or_ge i heap.size with h'|h'
  ·rw [if_pos (by omega)];congr 1;omega
  ·rw [if_neg (by omega),Array.getElem?_eq_none (by omega)]
section
variable {P:Program} {ρ:Go.Shelf.Ren} {α:Type} [Inhabited α]
theorem Z68 {g k:Nat} {c:α→List AV} {enc:α→List Value} (hc2:∀E x,Zq E (c x) (enc x)) {cf:α→α→Int} (hcmp:∀x y,Zy P g [.agg (c x),.agg (c y)] (.int .i64 (cf x y)) 0 []) (blk off size:Nat) (w:World):
  CmpLays P g #[] enc k cf blk off size w:=by
 intro m os dk hs x y
 have E0:Emb ⟨fun _=>none,fun _ _=>False⟩ ⟨0,[]⟩ (sortWorldK enc k w blk off m dk os):=
  ⟨fun _ _=>rfl,fun x B h=>by simp [Z6.get,ZC] at h,fun x B h=>by simp [Z6.get,ZC] at h,fun x y B B' b N N' h=>by simp [Z6.get,ZC] at h,fun _ _ h=>h.elim,fun _ _ _ _ _ h=>h.elim⟩
 refine (hcmp x y _ _ [.agg (enc x).toArray,.agg (enc y).toArray] E0 (.cons _ _ _ _ (.agg _ _ (hc2 _ _)) (.cons _ _ _ _ (.agg _ _ (hc2 _ _)) .nil))).mono ?_
 rintro e w' ⟨E',r,rfl,hev,hr⟩
 cases hr
 refine ⟨rfl,Z4C hev.size hev.os hev.tape hev.output fun b hb=>hev.keep b hb ?_⟩
 rintro ⟨x,B,N,hx,_⟩
 simp [Z6.get,ZC] at hx
theorem Z8k (L:SlLaysF0.n6 P ρ) {k:Nat} (aE:∀w,(Go.isAgg (ρ.t 24)).run P w=.ok true w) (zE:∀w,(Go.sizeOf (ρ.t 24)).run P w=.ok k w) {c:α→List AV} {enc:α→List Value} (hk:∀x,(enc x).length=k) (hk0:0<k) (h1:∀x,∀v∈enc x,v.oneCell'=true)
  (hc1:∀E x vs,Zq E (c x) vs→vs=enc x) (hc2:∀E x,Zq E (c x) (enc x)) {cf:α→α→Int} (hO:SWO (ltOf cf)) {g:Nat} (eg:∀args w,(callFunc g args).run P w=.ok (.enter g args) w)
  (hcmp:∀x y,Zy P g [.agg (c x),.agg (c y)] (.int .i64 (cf x y)) 0 []) {l L':List α} {n lo:Nat} (hn:l.length=n) (h0:0<n) (hsz:n<4611686018427387904) {f f':Nat→List AV} (hf0:∀i,i<n→f i=c (l.getD i default)) (hf1:∀i,i<n→f' i=c (L'.getD i default))
  (hL:∀l':List α,l'.Perm l→l'.Pairwise (fun a b=>ltOf cf b a=false)→l'=L'):
  Spec P (ρ.f 6) [.nslice ⟨0,0,k,0,0⟩ k n lo,.func (.func g) [] []] ⟨1,[(0,.rows k n f)]⟩ (.ret (.tuple [])) 1 [(0,.rows k n f')]:=by
 intro E w rs he hr
 cases hr with
 | cons v r vs rs hr1 hr2=>
 cases hr2 with
 | cons v2 r2 vs2 rs2 hr2 hr3=>
 cases hr3
 cases hr2 with
 | func fn fi ca fs cs h3 h4=>
 cases h3
 cases h4
 cases hr1 with
 | nslice0 p esz len lo a q1 q2=>omega
 | nslice p esz len lo b N cap hb q1 q2 q3=>
 have hB:=he.own 0 _ rfl
 cases hB with
 | rows0 sz n f q0 hno=>omega
 | rows sz n f b' cells elem fr gg hb' hw hfr hc hl hv=>
 rw [hb'] at hb
 cases hb
 have htot:(ZE.mk 0 0 k 0 0).tot=0:=by simp [ZE.tot]
 rw [htot] at q3⊢
 have hgg:∀i,i<n→gg i=enc (l.getD i default):=fun i hi=>by
  have:=hc i hi
  rw [hf0 i hi] at this
  exact hc1 _ _ _ this
 have hcs:n*k≤cells.size:=by
  rcases Nat.lt_or_ge cells.size (n*k) with h|h
  ·exfalso
   have e:n=(n-1)+1:=by omega
   have hlast:(gg (n-1))[k-1]? =some ((gg (n-1))[k-1]'(by rw [hl _ (by omega)];omega)):=List.getElem?_eq_getElem _
   have:=hv (n-1) (k-1) _ (by omega) hlast
   have e2:(n-1)*k+(k-1)<cells.size:=by
    rcases Nat.lt_or_ge ((n-1)*k+(k-1)) cells.size with h'|h'
    ·exact h'
    ·rw [Array.getElem?_eq_none h'] at this;cases this
   have e3:n*k=(n-1)*k+k:=by rw [e,Nat.add_mul];simp
   omega
  ·exact h
 have hdiv:∀j,j<n*k→j/k<n:=fun j hj=>(Nat.div_lt_iff_lt_mul hk0).2 hj
 have hH:HoldsK enc k w b 0 l.toArray:=by
  intro j hj
  rw [size_flatK] at hj
  have hj:j<n*k:=by simpa [hn] using hj
  have hi:=hdiv j hj
  have hm:j%k<k:=Nat.mod_lt _ hk0
  rw [get_flatK _ _ _ _ (by simpa [hn] using hj)]
  have e:l.toArray[j/k]! =l.getD (j/k) default:=by simp [List.getD_eq_getElem?_getD]
  have hx:(gg (j/k))[j%k]? =some ((enc (l.getD (j/k) default))[j%k]!):=by
   rw [hgg _ hi]
   rw [List.getElem?_eq_getElem (by rw [hk];exact hm)]
   simp [getElem!_pos,hk,hm]
  have hcell:=hv (j/k) (j%k) _ hi hx
  have ej:j/k*k+j%k=j:=by rw [Nat.mul_comm];exact Nat.div_add_mod j k
  rw [ej] at hcell
  refine ⟨?_, ?_⟩
  ·rw [Nat.zero_add,cell_of_heap hw,hcell,e];rfl
  ·unfold World.frozen?
   simp only [Nat.zero_add,hw]
   have:=hfr j (by omega)
   rw [Bool.eq_false_iff]
   simp only [ne_eq,Bool.and_eq_true,decide_eq_true_eq]
   exact this
 have hblk:b<w.heap.size:=(he.own 0 _ rfl).lt hb'
 have hcon:=AnyQ.slices_SortFunc L k aE zE enc hk h1 cf hO g #[] b 0 cap l.toArray w eg (Z68 hc2 hcmp b 0 _ w) hH hblk (by simpa [hn] using hsz)
 have en:l.toArray.size=n:=by simpa using hn
 rw [en] at hcon
 refine hcon.mono ?_
 rintro e w' ⟨rfl,d',m,os,hp,hs,rfl⟩
 obtain ⟨p1,_,p3⟩:=hp
 rw [en] at p1
 have pe:(d'.extract 0 n)=d':=by rw [←p1];simp
 have pe2:(l.toArray.extract 0 n)=l.toArray:=by rw [←en];simp
 rw [pe,pe2] at p3
 have hLd:d'.toList=L':=by
  refine hL _ p3 ?_
  rw [List.pairwise_iff_getElem]
  intro i j hi hj hij
  have:=hs i j (Nat.zero_le _) hij (by simpa [p1] using hj)
  have e1:d'[i]! =d'.toList[i]:=by simp only [Array.length_toList] at hi;simp [getElem!_pos,hi]
  have e2:d'[j]! =d'.toList[j]:=by simp only [Array.length_toList] at hj;simp [getElem!_pos,hj]
  rw [e1,e2] at this
  exact this
 have hheap:(sortWorldK enc k w b 0 m d' os).heap=w.heap.modify b (onCells (putCells id 0 (flatK enc k d')))++os:=rfl
 have hold:∀i,i<w.heap.size→i≠b→(sortWorldK enc k w b 0 m d' os).heap[i]? =w.heap[i]?:=fun i hi hib=>by
  rw [hheap,Array.getElem?_append_left (by simpa using hi),Array.getElem?_modify,if_neg (fun h=>hib h.symm)]
 have hnew:(sortWorldK enc k w b 0 m d' os).heap[b]? =some (.cells (putCells id 0 (flatK enc k d') cells) elem fr):=by
  rw [hheap,Array.getElem?_append_left (by simpa using hblk),Array.getElem?_modify,if_pos rfl,hw];rfl
 have hpsz:(putCells id 0 (flatK enc k d') cells).size=cells.size:=by simp [putCells]
 have hle:w.heap.size≤(sortWorldK enc k w b 0 m d' os).heap.size:=by rw [hheap];simp
 have hown:∀{H:Z6} {i:Nat},H=⟨1,[(0,Blk.rows k n f)]⟩∨H=⟨1,[(0,Blk.rows k n f')]⟩→(Vj E H i↔i=b):=by
  intro H i hq0
  constructor
  ·rintro ⟨x,B,N,hx,hbx⟩
   have hx0:x=0:=by
    rcases hq0 with rfl|rfl
    ·simp only [Z6.get,ZC] at hx
     split at hx
     ·rename_i hq;exact (Nat.eq_of_beq_eq_true hq).symm
     ·cases hx
    ·simp only [Z6.get,ZC] at hx
     split at hx
     ·rename_i hq;exact (Nat.eq_of_beq_eq_true hq).symm
     ·cases hx
   subst hx0
   rw [hb'] at hbx
   cases hbx;rfl
  ·rintro rfl
   rcases hq0 with rfl|rfl<;>exact ⟨0,_,_,rfl,hb'⟩
 have hbn:∀a cc,E.imm a cc→a.block≠b:=fun a cc hi hq=>he.sep a cc 0 _ _ hi rfl (by rw [hb',hq])
 refine ⟨E,⟨.refl E,⟨he.fresh,fun x B hx=> ?_,fun x B hx=> ?_,fun x y B B' bb N N' hx hy _ _=> ?_,fun a cc hi=> ?_,fun a cc x B N hi hx hbx=> ?_⟩,hle,rfl,rfl,⟨rfl,Nat.le_add_right _ _⟩,fun i hi hno=>hold i hi (fun h=>hno ((hown (.inl rfl)).2 h)),fun i ho=>.inl ((hown (.inl rfl)).2 ((hown (.inr rfl)).1 ho)),fun _ _ h=>h⟩,.ret _ _ (.tuple [] [] .nil)⟩
 ·simp only [Z6.get,ZC] at hx
  split at hx
  ·rename_i hq;have:=Nat.eq_of_beq_eq_true hq;show x<1;omega
  ·cases hx
 ·simp only [Z6.get,ZC] at hx
  split at hx
  ·rename_i hq
   have:=Nat.eq_of_beq_eq_true hq
   subst this
   cases hx
   refine .rows k n f' b _ elem fr (fun i=>enc (L'.getD i default)) (by rw [hpsz];exact hb') hnew (fun o ho=>hfr o (by rw [hpsz] at ho;exact ho)) (fun i hi=>by rw [hf1 i hi];exact hc2 _ _) (fun i hi=>hk _) (fun i j cc hi hj=> ?_)
   have hjk:j<k:=by
    have:=(List.getElem?_eq_some_iff.1 hj).1
    rw [hk] at this;exact this
   have ht:i*k+j<n*k:=by
    have:(i+1)*k≤n*k:=Nat.mul_le_mul_right _ hi
    rw [Nat.add_mul,Nat.one_mul] at this
    omega
   unfold putCells
   rw [Array.getElem?_mapIdx,Array.getElem?_eq_getElem (by omega)]
   simp only [Option.map_some]
   rw [if_pos ⟨Nat.zero_le _,by rw [size_flatK,p1];omega⟩,Nat.sub_zero,get_flatK _ _ _ _ (by rw [p1];exact ht)]
   have e1:(i*k+j)/k=i:=by rw [Nat.mul_comm,Nat.mul_add_div hk0,Nat.div_eq_of_lt hjk];rfl
   have e2:(i*k+j)%k=j:=by rw [Nat.mul_comm,Nat.mul_add_mod,Nat.mod_eq_of_lt hjk]
   rw [e1,e2]
   have e3:d'[i]! =L'.getD i default:=by
    have hid:i<d'.size:=by omega
    rw [←hLd,List.getD_eq_getElem?_getD];simp [getElem!_pos,hid]
   rw [e3]
   obtain ⟨hjl,hj2⟩:=List.getElem?_eq_some_iff.1 hj
   rw [←hj2,getElem!_pos (enc (L'.getD i default)) j hjl];rfl
  ·cases hx
 ·simp only [Z6.get,ZC] at hx hy
  split at hx
  ·rename_i hq
   split at hy
   ·rename_i hq'
    rw [←Nat.eq_of_beq_eq_true hq,←Nat.eq_of_beq_eq_true hq']
   ·cases hy
  ·cases hx
 ·have h0:=he.imm a cc hi
  have hlt:a.block<w.heap.size:=by
   rcases Nat.lt_or_ge a.block w.heap.size with hl|hg
   ·exact hl
   ·simp [World.cell?,Array.getElem?_eq_none hg] at h0
  simpa [World.cell?,hold _ hlt (hbn a cc hi)] using h0
 ·have:=(hown (H:=⟨1,[(0,.rows k n f')]⟩) (.inr rfl)).1 ⟨x,B,N,hx,hbx⟩
  exact hbn a cc hi this
end
end Go.Tk
end
section
namespace Go.Tk
open IntKind (i64 u8 u32 u64 wrap)
def Z8l:Go.Shelf.Ren:=⟨fun|6=>84|15=>138|14=>137|28=>180|29=>181|20=>172|21=>173|22=>174|23=>175|24=>176|25=>177|26=>178|27=>179|46=>199|47=>200|48=>201|49=>202|50=>203|57=>209|n=>n,fun|22=>74|24=>97|25=>151|3=>3|39=>209|0=>0|53=>222|55=>256|4=>4|46=>248|45=>247|50=>252|5=>5|9=>9|66=>275|70=>279|76=>289|77=>290|n=>n,fun|n=>n⟩
theorem ZfV:Go.Proofs.SlLaysF0.n6 PP Z8l:={
 mixed:=by kernel_rfl,
 f6:=⟨Go.Proofs.Tryz.f84.name,by decide,Go.Proofs.Tryz.func84.trans (congrArg some (by kernel_rfl))⟩,
 f14:=⟨Go.Proofs.Tryz.f137.name,by decide,Go.Proofs.Tryz.func137.trans (congrArg some (by kernel_rfl))⟩,
 f15:=Go.Proofs.Tryz.func138.trans (congrArg some (by kernel_rfl)),
 f20:=⟨Go.Proofs.Tryz.f172.name,by decide,Go.Proofs.Tryz.func172.trans (congrArg some (by kernel_rfl))⟩,
 f21:=⟨Go.Proofs.Tryz.f173.name,by decide,Go.Proofs.Tryz.func173.trans (congrArg some (by kernel_rfl))⟩,
 f22:=⟨Go.Proofs.Tryz.f174.name,by decide,Go.Proofs.Tryz.func174.trans (congrArg some (by kernel_rfl))⟩,
 f23:=⟨Go.Proofs.Tryz.f175.name,by decide,Go.Proofs.Tryz.func175.trans (congrArg some (by kernel_rfl))⟩,
 f24:=⟨Go.Proofs.Tryz.f176.name,by decide,Go.Proofs.Tryz.func176.trans (congrArg some (by kernel_rfl))⟩,
 f25:=⟨Go.Proofs.Tryz.f177.name,by decide,Go.Proofs.Tryz.func177.trans (congrArg some (by kernel_rfl))⟩,
 f26:=⟨Go.Proofs.Tryz.f178.name,by decide,Go.Proofs.Tryz.func178.trans (congrArg some (by kernel_rfl))⟩,
 f27:=⟨Go.Proofs.Tryz.f179.name,by decide,Go.Proofs.Tryz.func179.trans (congrArg some (by kernel_rfl))⟩,
 f28:=Go.Proofs.Tryz.func180.trans (congrArg some (by kernel_rfl)),
 f29:=Go.Proofs.Tryz.func181.trans (congrArg some (by kernel_rfl)),
 f46:=⟨Go.Proofs.Tryz.f199.name,by decide,Go.Proofs.Tryz.func199.trans (congrArg some (by kernel_rfl))⟩,
 f47:=Go.Proofs.Tryz.func200.trans (congrArg some (by kernel_rfl)),
 f48:=Go.Proofs.Tryz.func201.trans (congrArg some (by kernel_rfl)),
 f49:=⟨Go.Proofs.Tryz.f202.name,by decide,Go.Proofs.Tryz.func202.trans (congrArg some (by kernel_rfl))⟩,
 f50:=⟨Go.Proofs.Tryz.f203.name,by decide,Go.Proofs.Tryz.func203.trans (congrArg some (by kernel_rfl))⟩,
 f57:=⟨Go.Proofs.Tryz.f209.name,by decide,Go.Proofs.Tryz.func209.trans (congrArg some (by kernel_rfl))⟩,
 t0:=Go.Proofs.Tryz.underlying0,
 a0:=Go.Proofs.Tryz.isAgg0,
 z0:=Go.Proofs.Tryz.sizeOf0,
 v0:=Go.Proofs.Tryz.zeroValue0,
 t3:=Go.Proofs.Tryz.underlying3,
 a3:=Go.Proofs.Tryz.isAgg3,
 z3:=Go.Proofs.Tryz.sizeOf3,
 v3:=Go.Proofs.Tryz.zeroValue3,
 t4:=Go.Proofs.Tryz.underlying4,
 a4:=Go.Proofs.Tryz.isAgg4,
 z4:=Go.Proofs.Tryz.sizeOf4,
 v4:=Go.Proofs.Tryz.zeroValue4,
 t5:=Go.Proofs.Tryz.underlying5,
 a5:=Go.Proofs.Tryz.isAgg5,
 z5:=Go.Proofs.Tryz.sizeOf5,
 v5:=Go.Proofs.Tryz.zeroValue5,
 t9:=Go.Proofs.Tryz.underlying9,
 a9:=Go.Proofs.Tryz.isAgg9,
 z9:=Go.Proofs.Tryz.sizeOf9,
 v9:=Go.Proofs.Tryz.zeroValue9,
 t22:=Go.Proofs.Tryz.underlying74,
 a22:=Go.Proofs.Tryz.isAgg74,
 z22:=Go.Proofs.Tryz.sizeOf74,
 v22:=Go.Proofs.Tryz.zeroValue74,
 t25:=Go.Proofs.Tryz.underlying151,
 a25:=Go.Proofs.Tryz.isAgg151,
 z25:=Go.Proofs.Tryz.sizeOf151,
 v25:=Go.Proofs.Tryz.zeroValue151,
 t39:=Go.Proofs.Tryz.underlying209,
 a39:=Go.Proofs.Tryz.isAgg209,
 z39:=Go.Proofs.Tryz.sizeOf209,
 v39:=Go.Proofs.Tryz.zeroValue209,
 t45:=Go.Proofs.Tryz.underlying247,
 a45:=Go.Proofs.Tryz.isAgg247,
 z45:=Go.Proofs.Tryz.sizeOf247,
 v45:=Go.Proofs.Tryz.zeroValue247,
 t46:=Go.Proofs.Tryz.underlying248,
 a46:=Go.Proofs.Tryz.isAgg248,
 z46:=Go.Proofs.Tryz.sizeOf248,
 v46:=Go.Proofs.Tryz.zeroValue248,
 t50:=Go.Proofs.Tryz.underlying252,
 a50:=Go.Proofs.Tryz.isAgg252,
 z50:=Go.Proofs.Tryz.sizeOf252,
 v50:=Go.Proofs.Tryz.zeroValue252,
 t53:=Go.Proofs.Tryz.underlying222,
 a53:=Go.Proofs.Tryz.isAgg222,
 z53:=Go.Proofs.Tryz.sizeOf222,
 v53:=Go.Proofs.Tryz.zeroValue222,
 t55:=Go.Proofs.Tryz.underlying256,
 a55:=Go.Proofs.Tryz.isAgg256,
 z55:=Go.Proofs.Tryz.sizeOf256,
 v55:=Go.Proofs.Tryz.zeroValue256,
 t66:=Go.Proofs.Tryz.underlying275,
 a66:=Go.Proofs.Tryz.isAgg275,
 z66:=Go.Proofs.Tryz.sizeOf275,
 v66:=Go.Proofs.Tryz.zeroValue275,
 t70:=Go.Proofs.Tryz.underlying279,
 a70:=Go.Proofs.Tryz.isAgg279,
 z70:=Go.Proofs.Tryz.sizeOf279,
 v70:=Go.Proofs.Tryz.zeroValue279,
 t76:=Go.Proofs.Tryz.underlying289,
 a76:=Go.Proofs.Tryz.isAgg289,
 z76:=Go.Proofs.Tryz.sizeOf289,
 v76:=Go.Proofs.Tryz.zeroValue289,
 t77:=Go.Proofs.Tryz.underlying290,
 a77:=Go.Proofs.Tryz.isAgg290,
 z77:=Go.Proofs.Tryz.sizeOf290,
 v77:=Go.Proofs.Tryz.zeroValue290}
end Go.Tk
end
section
namespace Go.Tk
open IntKind (i64 u8 u32 u64 wrap)
def Z8m {α:Type} (lt:α→α→Bool) (l:List α):Prop:=l.Pairwise fun a b=>lt b a=false
theorem Z00 {α:Type} {lt:α→α→Bool}:∀{l m:List α},l.Perm m→Z8m lt l→Z8m lt m→(∀a∈l,∀b∈l,lt a b=false→lt b a=false→a=b)→l=m
 | [],m,hp,_,_,_=>by simpa using hp.symm
 | x::r,[],hp,_,_,_=>by simp at hp
 | x::r,y::q,hp,hl,hm,hu=>by
  unfold Z8m at hl hm
  rw [List.pairwise_cons] at hl hm
  have hyx:y=x:=by
   by_cases e:y=x
   ·exact e
   ·have hx:x∈q:=by
     have:=hp.subset (List.mem_cons_self ..)
     rcases List.mem_cons.1 this with h|h
     ·exact absurd h.symm e
     ·exact h
    have hy:y∈r:=by
     have:=hp.symm.subset (List.mem_cons_self ..)
     rcases List.mem_cons.1 this with h|h
     ·exact absurd h e
     ·exact h
    exact hu y (List.mem_cons_of_mem _ hy) x (List.mem_cons_self ..) (hl.1 y hy) (hm.1 x hx)
  subst hyx
  rw [List.perm_cons] at hp
  rw [Z00 hp hl.2 hm.2 fun a ha b hb=>hu a (List.mem_cons_of_mem _ ha) b (List.mem_cons_of_mem _ hb)]
end Go.Tk
end
section
namespace Go.Tk
open IntKind (i64 u8 u32 u64 wrap)
def Vf (h:Z9):Int:=match h.own with
 | true=>0
 | false=>1
def Z4D (a b:Int):Int:=if a<b then -1 else if b<a then 1 else 0
def cfH (a b:Z9):Int:=if Z4D (Vf a) (Vf b)≠0 then Z4D (Vf a) (Vf b) else Z4D a.id b.id
theorem Z8n (b:Bool) (x:Prop):Z0 b x x=x:=by cases b<;>rfl
theorem Zhj (p q:Z9) (r:Int) (hr:r=cfH p q):
  evF G0 20 85 [.agg p.c,.agg q.c] ⟨0,[]⟩ (Y6 (fun v=>v=.int .i64 r)):=by
 refine @Eq.mpr _ (let q1:=p.id;
 let q2:=q1 !=q1;
 let q3:=q.id;
 let q4:=q3 !=q3;
 let q5:=AV.int i64 r;
 let q6:=AV.int i64 0=q5;
 let q7:=AV.int i64 (-1)=q5;
 let q8:=AV.int i64 1=q5;
 let q9:=decide (q1<q3);
 let q10:=decide (q1>q3);
 let q11:=Z0 q2 (Z0 q4 q6 q7) (Z0 q4 q8 (Z0 q9 q7 (Z0 q10 q8 q6)));
 Z0 p.own (Z0 q.own q11 (Z0 q2 (Z0 q4 q7 q7) (Z0 q4 q7 (Z0 q9 q7 (Z0 q10 q7 q7))))) (Z0 q.own (Z0 q2 (Z0 q4 q8 q8) (Z0 q4 q8 (Z0 q9 q8 (Z0 q10 q8 q8)))) q11)) (by kernel_rfl) ?_
 conv=>zeta
 subst hr
 simp only [bne_self_eq_false,Zai,Z8n]
 unfold cfH Vf Z4D
 simp only [Zaj]
 congr 1
 cases p.own<;>cases q.own<;>by_cases h1:p.id<q.id<;>by_cases h2:q.id<p.id<;>simp [h1,h2]
def ltH (a b:Z9):Bool:=Go.Proofs.ltOf cfH a b
theorem Z0o (a b:Z9):ltH a b=true↔Vf a<Vf b∨(Vf a=Vf b∧a.id<b.id):=by
 unfold ltH Go.Proofs.ltOf cfH Z4D
 rw [decide_eq_true_iff]
 split<;>split<;>(try split)<;>(try split)<;>omega
theorem Z3w (a b:Z9):ltH a b=false↔¬(Vf a<Vf b∨(Vf a=Vf b∧a.id<b.id)):=by
 rw [←Z0o,Bool.not_eq_true]
theorem Zct:Go.Sort.SWO (Go.Proofs.ltOf cfH) where
 irrefl x:=by rw [show Go.Proofs.ltOf cfH x x=ltH x x from rfl,Z3w];omega
 trans x y z h1 h2:=by
  rw [show Go.Proofs.ltOf cfH x z=ltH x z from rfl,Z0o]
  have a:=(Z0o x y).1 h1
  have b:=(Z0o y z).1 h2
  omega
 ntrans x y z h1 h2:=by
  rw [show Go.Proofs.ltOf cfH x z=ltH x z from rfl,Z3w]
  have a:=(Z3w x y).1 h1
  have b:=(Z3w y z).1 h2
  omega
def Zcu (h:Z9):List Value:=.bool h.own::.int .i64 h.id::.int .i64 h.amount::(intCells .u8 32 h.hash++(.int .i64 h.expiry::.int .i64 h.stage::.int .i64 h.fin::(intCells .u8 32 h.secret++[])))
theorem Z1F (E:Env) (h:Z9):Zq E h.c (Zcu h):=
 .one _ _ _ _ rfl rfl (.bool _) (.one _ _ _ _ rfl rfl (.int _ _) (.one _ _ _ _ rfl rfl (.int _ _) (.arr _ _ _ _ _ (.one _ _ _ _ rfl rfl (.int _ _) (.one _ _ _ _ rfl rfl (.int _ _) (.one _ _ _ _ rfl rfl (.int _ _) (.arr _ _ _ _ _ .nil)))))))
theorem Zcv (E:Env) (h:Z9) (vs:List Value) (hc:Zq E h.c vs):vs=Zcu h:=by
 unfold Z9.c at hc
 obtain ⟨c1,w0,rfl,_,_,h1,k0⟩:=hc.cons_cell (by intros;simp)
 obtain ⟨c2,w1,rfl,_,_,h2,k1⟩:=k0.cons_cell (by intros;simp)
 obtain ⟨c3,w2,rfl,_,_,h3,k2⟩:=k1.cons_cell (by intros;simp)
 obtain ⟨w3,rfl,k3⟩:=k2.cons_arr
 obtain ⟨c4,w4,rfl,_,_,h4,k4⟩:=k3.cons_cell (by intros;simp)
 obtain ⟨c5,w5,rfl,_,_,h5,k5⟩:=k4.cons_cell (by intros;simp)
 obtain ⟨c6,w6,rfl,_,_,h6,k6⟩:=k5.cons_cell (by intros;simp)
 obtain ⟨w7,rfl,k7⟩:=k6.cons_arr
 cases k7
 cases h1;cases h2;cases h3;cases h4;cases h5;cases h6
 rfl
instance:Inhabited Z9:=⟨Zo⟩
theorem ZfW:∃(E:Env),True:=⟨⟨fun _=>none,fun _ _=>False⟩,trivial⟩
theorem ZaG (h:Z9):(Zcu h).length=70:=by
 obtain ⟨E,_⟩:=ZfW
 have:=(Z1F E h).length
 simpa [Z9.c,csz] using this
theorem ZaH (h:Z9):∀v∈Zcu h,v.oneCell'=true:=by
 obtain ⟨E,_⟩:=ZfW
 exact (Z1F E h).all_one
structure ZaI (L L':List Z9) (n:Nat):Prop where
 hn:L.length=n
 pos:0<n
 lt:n<1000
 perm:L'.Perm L
 ord:Z8m ltH L'
 uniq:∀a∈L',∀b∈L',ltH a b=false→ltH b a=false→a=b
theorem ZeE {L L':List Z9} {n lo:Nat} {f:Nat→List AV} (hf:∀i,i<n→f i=Zf L i) (h:ZaI L L' n):Spec PP 84 [.nslice ⟨0,0,70,0,0⟩ 70 n lo,.func (.func 85) [] []] ⟨1,[(0,.rows 70 n f)]⟩ (.ret (.tuple [])) 1 [(0,.rows 70 n (Zf L'))]:=
 Z8k (L:=ZfV) (k:=70) Go.Proofs.Tryz.isAgg97 Go.Proofs.Tryz.sizeOf97 (c:=Z9.c) ZaG (by decide) ZaH Zcv Z1F Zct (g:=85)
  (fun _ _=>Go.Proofs.enters_of Go.Proofs.Tryz.func85 (by kernel_rfl) rfl _ _) (fun x y=>Zy.evV Zu (Zhj x y _ rfl)) h.hn h.pos (by have:=h.lt;omega) hf (fun _ _=>rfl)
  (fun l' hp ho=>(Z00 (lt:=ltH) (h.perm.trans hp.symm) h.ord ho h.uniq).symm)
end Go.Tk
end
section
namespace Go.Tk
open IntKind (i64 u8 u32 u64 wrap)
theorem ZfX (N:Nat) (L:List Z9) (hN:N+1<1000000):
  evF G0 20 45 [.vrows 70 (N+1) (Zf L) (N+1)] ⟨0,[]⟩ (Ya 0 (.ret (.nslice ⟨0,0,70,0,0⟩ 70 (N+1) (N+1))) 1 [(0,.rows 70 (N+1) (Zf L))]):=by
 refine @Eq.mpr _ (let q1:=N+1;
 let q2:=0+q1;
 let q3:=decide (q2=q1);
 Z0 (decide (q2*112≤140737488355328)) (Z0 q3 (Z0 (decide (q1≤q2)) (Z0 q3 (ZO 0 [(0,0)] q1 (Zf L) (Wd 0 (fun (x:Nat)=>[]) (Zf L))∧True) False) False) False) False) (by kernel_rfl) ?_
 conv=>zeta
 try simp only [Zi]
 try simp only [Zj]
 try simp only [Zg]
 try simp only [Zk]
 try simp only [Zl]
 try simp only [Zh]
 try simp only [Int.toNat_natCast,Nat.zero_add,true_and,and_true,Nat.le_refl]
 repeat' apply And.intro
 all_goals first|omega|exact ZM fun i hi=>by rw [Z3h (Nat.zero_le _)];rfl
theorem ZfY (L:List Z9) :
  evF G0 20 45 [.nilslice] ⟨0,[]⟩ (Ya 0 (.ret (.nslice ⟨0,0,70,0,0⟩ 70 0 0)) 1 [(0,.rows 70 0 (Zf L))]):=by
 refine @Eq.mpr _ (True) (by kernel_rfl) ?_
 trivial
theorem ZfZ (L:List Z9) :
  evF G0 20 45 [.fslice] ⟨0,[]⟩ (Ya 0 (.ret (.nslice ⟨0,0,70,0,0⟩ 70 0 0)) 1 [(0,.rows 70 0 (Zf L))]):=by
 refine @Eq.mpr _ (ZO 0 [(0,0)] 0 (Zf L) (Wd 0 (fun (x:Nat)=>[]) fun (x:Nat)=>[])∧True) (by kernel_rfl) ?_
 try simp only [Zi]
 try simp only [Zj]
 try simp only [Zg]
 try simp only [Zk]
 try simp only [Zl]
 try simp only [Zh]
 try simp only [Int.toNat_natCast,Nat.zero_add,true_and,and_true,Nat.le_refl]
 first|exact ZM fun i hi=>by omega|exact ⟨ZM fun i hi=>by omega,trivial⟩
theorem ZaJ (N:Nat) (L:List Z9) (hN:N<1000000):Zy PP 45 [.vrows 70 N (Zf L) N] (.nslice ⟨0,0,70,0,0⟩ 70 N N) 1 [(0,.rows 70 N (Zf L))]:=by
 cases N with
 | zero=>exact Zy.vrows0 (.evM Zu (ZfY L)) (.evM Zu (ZfZ L))
 | succ n=>exact .evM Zu (ZfX n L hN)
def ZeF:Yn:=fun args h K=>ZI none h true 20 args fun a=>match a with
 | [.vrows 70 n f m]=>∃L,m=n∧f=Zf L∧n<1000000∧K (.ret (.nslice ⟨h.next,0,70,0,0⟩ 70 n n)) ⟨h.next+1,(h.next,.rows 70 n (Zf L))::h.bs⟩
 | _=>False
theorem Z7a (args:List AV) (h:Z6) (K:KO) (hl:ZeF args h K):Zm PP 45 args h K:=by
 refine Zy.fsumm (d:=20) (Zs _ _ _ _ _ hl fun a ha=> ?_)
 split at ha
 ·obtain ⟨L,rfl,rfl,hN,hK⟩:=ha
  exact ⟨_,_,_,_,ZaJ _ L hN,rfl,⟨Nat.one_pos,.rows _ _ _ (fun i _=>XA _ i),trivial⟩,hK⟩
 ·exact ha.elim
end Go.Tk
end
section
namespace Go.Tk
open IntKind (i64 u8 u32 u64 wrap)
end Go.Tk
end
section
namespace Go.Tk
open IntKind (i64 u8 u32 u64 wrap)
def Z4E (a b:Z9):Prop:=Vf a<Vf b∨(Vf a=Vf b∧a.id<b.id)
theorem ZaK {a b:Z9} (h:Wg a b):Z4E a b:=by
 unfold Wg at h
 unfold Z4E Vf
 rcases h with ⟨h1,h2⟩|⟨h1,h2,_⟩
 ·rw [h1,h2];exact .inl (by decide)
 ·rw [h1];exact .inr ⟨rfl,h2⟩
theorem Z8o (h:Z9):∀(L:List Z9),(Zeu h L).Perm (L++[h])
 | []=>.refl _
 | x::r=>by
  unfold Zeu
  split
  ·exact (List.perm_append_comm (l₁:=[h]) (l₂:=x::r))
  ·exact (Z8o h r).cons x
theorem Z3x {side:Int} (hs:side=0∨side=1):∀(L:List Z9),(ZR side 0 L).length+(ZR side 1 L).length=L.length
 | []=>rfl
 | x::r=>by
  have ih:=Z3x hs r
  unfold ZR at*
  simp only [List.filter_cons,List.length_cons]
  have:(WA side x.own=0∧¬WA side x.own=1)∨(¬WA side x.own=0∧WA side x.own=1):=by
   unfold WA
   rcases hs with rfl|rfl<;>cases x.own<;>simp
  rcases this with ⟨h1,h2⟩|⟨h1,h2⟩
  ·rw [decide_eq_true h1,decide_eq_false h2];simp;omega
  ·rw [decide_eq_false h1,decide_eq_true h2];simp;omega
theorem Za.Inv.len {H:List Int→List Int} {X:Za} (h:X.Inv H):X.L.length≤16:=by
 have:=Z3x h.side X.L
 have:=h.n0
 have:=h.n1
 omega
theorem Za.Inv.am {H:List Int→List Int} {X:Za} (h:X.Inv H):Z4x X:=Z77 (by have:=h.len;omega) h.tb h.res h.a0 h.a1 h.und
theorem Za.Inv.less {H:List Int→List Int} {X:Za} (h:X.Inv H):X.L.Pairwise Z4E:=h.fol.imp fun hab=>ZaK hab
theorem Qk {H:List Int→List Int} {X:Za} {h:Z9} (hu:Yf H X h=true):Xy h=true∧h.id<X.nx h.own∧(1≤h.stage∧h.stage≤9)∧Z62 H h=true:=by
 unfold Yf at hu
 simp only [Bool.and_eq_true,decide_eq_true_eq] at hu
 exact ⟨hu.1.1.1,hu.1.1.2,hu.1.2,hu.2⟩
end Go.Tk
end
section
namespace Go.Tk
open IntKind (i64 u8 u32 u64 wrap)
end Go.Tk
end
section
namespace Go.Tk
open IntKind (i64 u8 u32 u64 wrap)
def isP (own:Bool) (id:Int) (p:Z9):Prop:=p.own=own∧p.id=id
def fiE:St:=⟨19,[],⟨0,[]⟩,[]⟩
def fiR (i:Nat):St:=⟨19,[(4,.int .i64 i)],⟨0,[]⟩,[]⟩
end Go.Tk
end
section
namespace Go.Tk
open IntKind (i64 u8 u32 u64 wrap)
theorem Zg0 {s:Int} (h:1≤s∧s≤9):s=1∨s=2∨s=3∨s=4∨s=5∨s=6∨s=7∨s=8∨s=9:=by omega
theorem Zhk (o:Bool) (s r:Int) (hs:1≤s∧s≤9) (hr:r=Z1x o s):
  evF G0 20 111 [.bool o,.int .i64 s] ⟨0,[]⟩ (Y6 (fun v=>v=.int .i64 r)):=by
 refine @Eq.mpr _ (let q1:=AV.int i64 r;
 let q2:=AV.int i64 0=q1;
 let q3:=decide (s=s);
 let q4:=decide (0≤s∧s<10);
 Z0 (decide (1≤s)) (Z0 (!decide (s≤10)) q2 (Z0 (s==10) q2 (Z0 (o==true) (Z0 q3 (Z0 q4 (AV.int i64 (List.getD [(0:Int),1,2,3,4,0,3,4,1,2] (Int.toNat s) 0)=q1) False) False) (Z0 q3 (Z0 q4 (AV.int i64 (List.getD [(0:Int),3,4,1,2,0,1,2,3,4] (Int.toNat s) 0)=q1) False) False)))) q2) (by kernel_rfl) ?_
 conv=>zeta
 subst hr
 cases o<;>rcases Zg0 hs with h|h|h|h|h|h|h|h|h<;>subst h<;>exact rfl
theorem Zg1 (o:Bool) (s r:Int) (hs:1≤s∧s≤9) (hr:r=Z1x o s):
  evF G0 20 112 [.bool o,.int .i64 s] ⟨0,[]⟩ (Y6 (fun v=>v=.int .i64 r)):=by
 refine @Eq.mpr _ (let q1:=AV.int i64 r;
 let q2:=AV.int i64 0=q1;
 let q3:=decide (0≤s∧s<10);
 let q4:=0+Int.toNat s;
 Z0 (decide (s<1)) q2 (Z0 (decide (s>10)) q2 (Z0 (s==5) q2 (Z0 (s==10) q2 (Z0 o (Z0 q3 (Z0 (decide (q4<10)) (AV.int i64 (List.getD [(0:Int),1,2,3,4,0,3,4,1,2] q4 0)=q1) False) False) (Z0 q3 (Z0 (decide (q4<10)) (AV.int i64 (List.getD [(0:Int),3,4,1,2,0,1,2,3,4] q4 0)=q1) False) False)))))) (by kernel_rfl) ?_
 conv=>zeta
 subst hr
 cases o<;>rcases Zg0 hs with h|h|h|h|h|h|h|h|h<;>subst h<;>exact rfl
def waS:ZG:=fun args _ K=>match args with
 | [.bool o,.int .i64 s]=>Zt (1≤s∧s≤9) (K (.int .i64 (Z1x o s)))
 | _=>False
theorem ZeG (args:List AV) (h:Z6) (K:AV→Prop) (hl:waS args h K):Zm PP 111 args h fun o h'=>∃v,o=.ret v∧h'=h∧K v:=by
 unfold waS at hl
 split at hl
 ·obtain ⟨h1,hK⟩:=Z8 hl
  exact ZQ Zu rfl (Zhk _ _ _ h1 rfl) (fun u hu=>hu▸hK)
 ·exact hl.elim
theorem Zcw (args:List AV) (h:Z6) (K:AV→Prop) (hl:waS args h K):Zm PP 112 args h fun o h'=>∃v,o=.ret v∧h'=h∧K v:=by
 unfold waS at hl
 split at hl
 ·obtain ⟨h1,hK⟩:=Z8 hl
  exact ZQ Zu rfl (Zg1 _ _ _ h1 rfl) (fun u hu=>hu▸hK)
 ·exact hl.elim
end Go.Tk
end
section
namespace Go.Tk
open IntKind (i64 u8 u32 u64 wrap)
theorem Za.Inv.stage {H:List Int→List Int} {X:Za} (h:X.Inv H):∀z∈X.L,1≤z.stage∧z.stage≤9:=fun z hz=>(Qk (h.und z hz)).2.2.1
end Go.Tk
end
section
namespace Go.Tk
open IntKind (i64 u8 u32 u64 wrap)
end Go.Tk
end
section
namespace Go.Tk
open IntKind (i64 u8 u32 u64 wrap)
def ZT (side s:Int) (L:List Z9):Int:=(Xx (ZR side s L)).sum
def Z1G (side s:Int) (L:List Z9):Nat:=(ZR side s L).length
def Z4F (side s:Int) (h:Z9):Int:=if WA side h.own=s then h.amount else 0
def ZaL (side s:Int) (h:Z9):Nat:=if WA side h.own=s then 1 else 0
theorem X7 (side s:Int) (x:Z9) (r:List Z9):ZT side s (x::r)=Z4F side s x+ZT side s r:=by
 unfold ZT Z4F ZR Xx
 rw [List.filter_cons]
 by_cases h:WA side x.own=s<;>simp [h]
theorem Z4G (side s:Int) (x:Z9) (r:List Z9):Z1G side s (x::r)=ZaL side s x+Z1G side s r:=by
 unfold Z1G ZaL ZR
 rw [List.filter_cons]
 by_cases h:WA side x.own=s<;>simp [h]<;>omega
theorem VO (X:Za) (s:Int):Yx X s=X.am s-ZT X.side s X.L-X.res-(if s=0 then X.t.fee else 0):=rfl
theorem Z7b {h:Z9} (hp:Xy h=true):(0≤h.id∧h.id≤2147483647)∧(1≤h.amount∧h.amount≤1125899906842624)∧1≤h.expiry∧h.expiry≤2147483647:=by
 unfold Xy at hp
 simp only [Bool.and_eq_true,decide_eq_true_eq] at hp
 exact ⟨hp.1.1,hp.1.2,hp.2⟩
theorem Z3y:Bytes Zc:=⟨fun i=>by
 have:Zc.getD i 0=0:=by
  show (List.replicate 32 (0:Int)).getD i 0=0
  rw [List.getD_eq_getElem?_getD,List.getElem?_replicate];split<;>rfl
 rw [this];omega⟩
end Go.Tk
end
section
namespace Go.Tk
open IntKind (i64 u8 u32 u64 wrap)
def Z7c (G:List Z9):List Z9:=G.filter fun h=>decide (h.fin=1)
theorem Zcx {side s:Int}:∀{G:List Z9},(∀h∈G,0≤h.amount)→0≤ZT side s (Z7c G)∧ZT side s (Z7c G)≤ZT side s G
 | [],_=>by simp [Z7c,ZT,ZR,Xx]
 | x::r,h=>by
  obtain ⟨i1,i2⟩:=Zcx (side:=side) (s:=s) (G:=r) fun z hz=>h z (by simp [hz])
  have hx:=h x (by simp)
  have ha:0≤Z4F side s x:=by unfold Z4F;split<;>omega
  rw [X7]
  unfold Z7c at*
  rw [List.filter_cons]
  split
  ·rw [X7];omega
  ·omega
theorem W9 {side s:Int}:∀{G:List Z9},(∀h∈G,0≤h.amount)→0≤ZT side s G
 | [],_=>by simp [ZT,ZR,Xx]
 | x::r,h=>by
  have i1:=W9 (side:=side) (s:=s) (G:=r) fun z hz=>h z (by simp [hz])
  have hx:=h x (by simp)
  have ha:0≤Z4F side s x:=by unfold Z4F;split<;>omega
  rw [X7];omega
theorem Z1H {side s:Int} {L:List Z9} (h:ZR side s L=[]):ZT side s L=0:=by unfold ZT;rw [h];rfl
end Go.Tk
end
section
namespace Go.Tk
open IntKind (i64 u8 u32 u64 wrap)
theorem Z4H {L:List Z9} {i:Nat} (hi:i<L.length):L.take (i+1)=L.take i++[L.getD i Zo]:=by
 rw [List.take_succ_eq_append_getElem hi,List.getD_eq_getElem?_getD,List.getElem?_eq_getElem hi];rfl
def Zhl (X:Za) (m:Int) (n:Nat):Prop:=X.L.length=n∧n≤16∧(1≤m∧m≤4)∧(X.side=0∨X.side=1)∧(∀h∈X.L,(1≤h.stage∧h.stage≤9)∧0≤h.amount∧h.amount≤1125899906842624)∧(0≤X.a0∧X.a0≤1125899906842624)∧0≤X.a1∧X.a1≤1125899906842624
theorem WY {t:YM} (h:Xk t=true):t.cap≠0:=by have:=Y2 h;omega
theorem Za.Inv.st {H:List Int→List Int} {X:Za} (h:X.Inv H) {m:Int} (hm:1≤m∧m≤4):Zhl X m X.L.length:=
 ⟨rfl,h.len,hm,h.side,fun z hz=>⟨(Qk (h.und z hz)).2.2.1,h.am.am z hz⟩,by have:=h.a0;have:=Y2 h.tb;omega,by have:=h.a0;have:=h.a1;have:=Y2 h.tb;omega⟩
end Go.Tk
end
section
namespace Go.Tk
open IntKind (i64 u8 u32 u64 wrap)
end Go.Tk
end
section
namespace Go.Tk
open IntKind (i64 u8 u32 u64 wrap)
structure Zg2 where
 frm:Int
 id:Int
 amount:Int
 hash:List Int
 expiry:Int
def Zg2.c (p:Zg2):List AV:=[.int .i64 p.frm,.int .i64 p.id,.int .i64 p.amount,.arr .u8 32 p.hash,.int .i64 p.expiry]
end Go.Tk
end
section
namespace Go.Tk
open IntKind (i64 u8 u32 u64 wrap)
def Z8p (p:Z9→Bool):List Z9→Nat
 | []=>0
 | x::r=>if p x=true then 0 else Z8p p r+1
theorem Z3z {p:Z9→Bool}:∀{L:List Z9},(∀j,j<L.length→p (L.getD j Zo)=false)→Z8p p L=L.length
 | [],_=>rfl
 | x::r,h=>by
  unfold Z8p
  have h0:p x=false:=h 0 (by simp)
  rw [h0,if_neg (by simp),Z3z fun j hj=>by have:=h (j+1) (by simpa using hj);rwa [List.getD_cons_succ] at this]
  rfl
theorem Z1I (p:Z9→Bool):∀L:List Z9,decide (Z8p p L<L.length)=L.any p
 | []=>rfl
 | x::r=>by
  unfold Z8p
  rw [List.any_cons]
  cases h:p x
  ·rw [if_neg (by simp),Bool.false_or,←Z1I p r,List.length_cons]
   by_cases q:Z8p p r<r.length
   ·rw [decide_eq_true q,decide_eq_true (by omega)]
   ·rw [decide_eq_false q,decide_eq_false (by omega)]
  ·simp
def wtP (h:Z9):Bool:=decide (Z1x h.own h.stage=1)
noncomputable def ZeH:Zd:=G0.withP 111 waS
theorem Zcy:ZeH.Ok:=Zd.withP_ok Zu ZeG
def wtC:AV:=.func (.func 110) [] []
def wtS (L:List Z9) (n i:Nat):St:=⟨19,[(8,.int .i64 i),(7,.int .i64 n),(1,wtC),(0,.vrows 70 n (Zf L) n)],⟨0,[]⟩,[]⟩
theorem Zhm (L:List Z9) (n i:Nat) (Z1 Z2 Z3:Prop) (hn:n<1000) (hL:L.length=n) (hi:i≤n) (hst:i<n→1≤(L.getD i Zo).stage∧(L.getD i Zo).stage≤9) (h1:i<n→wtP (L.getD i Zo)=false→Z1) (h2:i=n→Z2) (h3:i<n→wtP (L.getD i Zo)=true→Z3):
  ZD ZeH 20 155 0 0 (wtS L n i) (rdM 0 0 9 (wtS L n (i+1)) fiE (fiR i) (fiR i) Z1 Z2 Z3 False):=by
 refine @Eq.mpr _ (let q1:=List.getD L (Int.toNat (↑i:Int)) Zo;
 let q2:=q1.stage;
 let q3:=decide (n=n);
 Z0 (decide ((↑i:Int)<(↑n:Int))) (Z0 (decide (0≤(↑i:Int)∧(↑i:Int)<(↑n:Int))) (Z0 (decide (1≤q2∧q2≤9)) (Z0 (Z1x q1.own q2==1) (Z0 (decide ((↑i:Int)=(↑i:Int))) Z3 False) (Z0 (decide (wrap i64 ((↑i:Int)+1)=(↑(i+1):Int))) (Z0 (decide ((↑n:Int)=(↑n:Int))) (Z0 q3 (Zf L=Zf L∧Z0 q3 Z1 False) False) False) False)) False) False) Z2) (by kernel_rfl) ?_
 conv=>zeta
 try simp only [Zi]
 try simp only [Zj]
 try simp only [Zg]
 try simp only [Zk]
 try simp only [Zl]
 try simp only [Zh]
 try simp only [Int.toNat_natCast,Nat.zero_add,true_and,and_true,Nat.le_refl]
 refine ⟨fun hc=> ?_,fun hc=>h2 (by omega)⟩
 have hlt:i<n:=by omega
 have hwr:i64.wrap ((i:Int)+1)=((i+1:Nat):Int):=by rw [w64 (by omega)];omega
 refine ⟨by omega,hst hlt,fun hm=>h3 hlt ?_,fun hm=> ?_⟩
 ·unfold wtP;simpa using hm
 have:=h1 hlt (by unfold wtP;simpa using hm)
 repeat' apply And.intro
 all_goals first|omega|exact hwr|exact this|rfl
noncomputable def Zdu (L:List Z9) (n:Nat) (C:Prop):Zd:=ZeH.withL 155 0 (goM 0 (wtS L n 0) C (YR 0 n 9 (fun i=>wtP (L.getD i Zo)=false∧i<n) (fun i=>i=n) (fun i=>i<n∧wtP (L.getD i Zo)=true) (fun _=>False) (fun _=>fiE) (fun i=>fiR i) (fun i=>fiR i)))
def Zg3 (L:List Z9) (n:Nat):Prop:=n<1000∧L.length=n∧∀h∈L,1≤h.stage∧h.stage≤9
theorem ZaM (L:List Z9) (n:Nat):(Zdu L n (Zg3 L n)).Ok:=
 Zd.withGoM (N:=20) (S:=fun i=>wtS L n i) Zcy (by kernel_rfl) fun hC=>⟨rfl,fun i hi _=>Zhm L n i _ _ _ hC.1 hC.2.1 hi (fun h=>hC.2.2 _ (Y0 (by have:=hC.2.1;omega))) (fun h h'=>⟨⟨h',h⟩,h⟩) (fun h=>h) (fun h h'=>⟨h,h'⟩)⟩
theorem Zhn (X:Za) (n:Nat) (b:Bool) (C:Prop) (hC:C) (hn:X.L.length=n) (hcap:X.t.cap≠0) (hb:b=XG X.L):
  evF (Zdu X.L n C) 20 50 [WB X] ⟨0,[]⟩ (Y6 fun v=>v=.bool b):=by
 refine @Eq.mpr _ (let q1:=X.L;
 let q2:=List.length q1;
 let q3:=decide (q2=n);
 let q4:=Zf q1;
 let q5:=AV.bool false=AV.bool b;
 Z0 (!X.t.cap==0) (Z0 (decide ((↑q2:Int)=(↑n:Int))) (Z0 q3 (q4=q4∧Z0 q3 (C∧∀(i:Nat),i≤n→(∀(j:Nat),j<i→(fun (i:Nat)=>wtP (List.getD q1 i Zo)=false∧i<n) j)→(i=n→q5)∧(i<n∧wtP (List.getD q1 i Zo)=true→AV.bool true=AV.bool b)∧(False→False)) False) False) False) q5) (by kernel_rfl) ?_
 conv=>zeta
 try simp only [Zi]
 try simp only [Zj]
 try simp only [Zg]
 try simp only [Zk]
 try simp only [Zl]
 try simp only [Zh]
 try simp only [Int.toNat_natCast,Nat.zero_add,true_and,and_true,Nat.le_refl]
 subst hb
 refine ⟨fun _=>⟨by rw [hn],hn,hn,hC,fun i hi hg=>⟨fun he=> ?_,fun hx=> ?_,fun h=>h.elim⟩⟩,fun h=>absurd h (by simpa using hcap)⟩
 ·have:XG X.L=false:=by
   rw [show XG X.L=X.L.any wtP from rfl,←Z1I,Z3z (p:=wtP) fun j hj=>(hg j (by omega)).1]
   exact decide_eq_false (by omega)
  rw [this]
 ·have:XG X.L=true:=List.any_eq_true.2 ⟨_,Y0 (by omega),hx.2⟩
  rw [this]
def ZaN:ZG:=fun args h K=>ZI none h true 20 args fun a=>match a with
 | [.pview cs 0]=>∃X,LV cs X∧X.Inv ZJ∧K (.bool (XG X.L))
 | _=>False
theorem Z8q (args:List AV) (h:Z6) (K:AV→Prop) (hl:ZaN args h K):Zm PP 50 args h fun o h'=>∃v,o=.ret v∧h'=h∧K v:=by
 refine Zy.psumm (d:=20) (Zs _ _ _ _ _ hl fun a ha=> ?_)
 split at ha
 ·obtain ⟨X,hX,hI,hK⟩:=ha
  exact ⟨_,(Zy.evV (ZaM X.L X.L.length) (Zhn X _ _ _ ⟨hI.am.n,rfl,hI.stage⟩ rfl (WY hI.tb) rfl)).conv fun E r hr=>hr.head (fun _ hc=>W7 hX hc) fun _ hc=>hc,fun _=>rfl,hK⟩
 ·exact ha.elim
end Go.Tk
end
section
namespace Go.Tk
open IntKind (i64 u8 u32 u64 wrap)
def Yc (W:Int→List Int):List Int→List Int→List Int
 | xs,[]=>xs
 | xs,n::r=>Yc W (xs++W n) r
theorem XB:∀(ns xs:List Int),(Yc Zn xs ns).length≤xs.length+9*ns.length
 | [],xs=>by simp [Yc]
 | n::r,xs=>by
  have h1:=ZK n
  have h2:=XB r (xs++Zn n)
  simp only [Yc,List.length_append,List.length_cons] at*;omega
def wrH (N:Nat) (xs:List Int):Z6:=⟨2,[(0,.flat [.nslice ⟨1,0,0,0,0⟩ 1 N N,.bool true]),(1,.ints .u8 xs)]⟩
theorem Zho (W:Int→List Int) (T:Int) (xs ys:List Int) (N L:Nat) (a b:Int) (hT:T=4611686018427387904) (hW:W=Zn) (hN:xs.length=N) (hB:N<80000000000000) (h1:0≤a∧a≤T) (h2:0≤b∧b≤T) (hy:ys=Yc W xs [a,b]) (hL:L=ys.length):
  evF (Z7W W) 20 65 [.ptr (some ⟨0,0,0,0,0⟩),.vints .i64 [a,b] 2] (wrH N xs) (Ya 2 (.ret (.int .i64 0)) 3 [(0,.flat [.nslice ⟨2,0,0,0,0⟩ 1 L L,.bool true]),(2,.ints .u8 ys)]):=by
 refine @Eq.mpr _ (let q1:=xs++W a;
 let q2:=List.length q1;
 let q3:=q1++W b;
 let q4:=List.length q3;
 Z0 (decide (a<0)) False (Z0 (decide (a>4611686018427387904)) False (Z0 (decide (b<0)) False (Z0 (decide (b>4611686018427387904)) False (Z0 (decide (List.length xs=N∧N<90000000000000)) (Z0 (decide (q2=q2∧q2<90000000000000)) (Z0 (decide (q4=L)) (Z0 (decide (L≤q4)) (q3=ys∧True) False) False) False) False))))) (by kernel_rfl) ?_
 conv=>zeta
 try simp only [Zi]
 try simp only [Zj]
 try simp only [Zg]
 try simp only [Zk]
 try simp only [Zl]
 try simp only [Zh]
 try simp only [Int.toNat_natCast,Nat.zero_add,true_and,and_true,Nat.le_refl]
 subst hT hW hN hy hL
 have wa:=ZK a
 have wb:=ZK b
 simp only [Yc]
 repeat' apply And.intro
 all_goals first|omega|rfl|(simp only [List.length_append]<;>omega)
theorem Zhp (W:Int→List Int) (T:Int) (xs ys:List Int) (N L:Nat) (a b c:Int) (hT:T=4611686018427387904) (hW:W=Zn) (hN:xs.length=N) (hB:N<80000000000000) (h1:0≤a∧a≤T) (h2:0≤b∧b≤T) (h3:0≤c∧c≤T) (hy:ys=Yc W xs [a,b,c]) (hL:L=ys.length):
  evF (Z7W W) 20 65 [.ptr (some ⟨0,0,0,0,0⟩),.vints .i64 [a,b,c] 3] (wrH N xs) (Ya 2 (.ret (.int .i64 0)) 3 [(0,.flat [.nslice ⟨2,0,0,0,0⟩ 1 L L,.bool true]),(2,.ints .u8 ys)]):=by
 refine @Eq.mpr _ (let q1:=xs++W a;
 let q2:=List.length q1;
 let q3:=q1++W b;
 let q4:=List.length q3;
 let q5:=q3++W c;
 let q6:=List.length q5;
 Z0 (decide (a<0)) False (Z0 (decide (a>4611686018427387904)) False (Z0 (decide (b<0)) False (Z0 (decide (b>4611686018427387904)) False (Z0 (decide (c<0)) False (Z0 (decide (c>4611686018427387904)) False (Z0 (decide (List.length xs=N∧N<90000000000000)) (Z0 (decide (q2=q2∧q2<90000000000000)) (Z0 (decide (q4=q4∧q4<90000000000000)) (Z0 (decide (q6=L)) (Z0 (decide (L≤q6)) (q5=ys∧True) False) False) False) False) False))))))) (by kernel_rfl) ?_
 conv=>zeta
 try simp only [Zi]
 try simp only [Zj]
 try simp only [Zg]
 try simp only [Zk]
 try simp only [Zl]
 try simp only [Zh]
 try simp only [Int.toNat_natCast,Nat.zero_add,true_and,and_true,Nat.le_refl]
 subst hT hW hN hy hL
 have wa:=ZK a
 have wb:=ZK b
 have wc:=ZK c
 simp only [Yc]
 repeat' apply And.intro
 all_goals first|omega|rfl|(simp only [List.length_append]<;>omega)
theorem Zhq (W:Int→List Int) (T:Int) (xs ys:List Int) (N L:Nat) (a b c d e:Int) (hT:T=4611686018427387904) (hW:W=Zn) (hN:xs.length=N) (hB:N<80000000000000) (h1:0≤a∧a≤T) (h2:0≤b∧b≤T) (h3:0≤c∧c≤T) (h4:0≤d∧d≤T) (h5:0≤e∧e≤T) (hy:ys=Yc W xs [a,b,c,d,e]) (hL:L=ys.length):
  evF (Z7W W) 20 65 [.ptr (some ⟨0,0,0,0,0⟩),.vints .i64 [a,b,c,d,e] 5] (wrH N xs) (Ya 2 (.ret (.int .i64 0)) 3 [(0,.flat [.nslice ⟨2,0,0,0,0⟩ 1 L L,.bool true]),(2,.ints .u8 ys)]):=by
 refine @Eq.mpr _ (let q1:=xs++W a;
 let q2:=List.length q1;
 let q3:=q1++W b;
 let q4:=List.length q3;
 let q5:=q3++W c;
 let q6:=List.length q5;
 let q7:=q5++W d;
 let q8:=List.length q7;
 let q9:=q7++W e;
 let q10:=List.length q9;
 Z0 (decide (a<0)) False (Z0 (decide (a>4611686018427387904)) False (Z0 (decide (b<0)) False (Z0 (decide (b>4611686018427387904)) False (Z0 (decide (c<0)) False (Z0 (decide (c>4611686018427387904)) False (Z0 (decide (d<0)) False (Z0 (decide (d>4611686018427387904)) False (Z0 (decide (e<0)) False (Z0 (decide (e>4611686018427387904)) False (Z0 (decide (List.length xs=N∧N<90000000000000)) (Z0 (decide (q2=q2∧q2<90000000000000)) (Z0 (decide (q4=q4∧q4<90000000000000)) (Z0 (decide (q6=q6∧q6<90000000000000)) (Z0 (decide (q8=q8∧q8<90000000000000)) (Z0 (decide (q10=L)) (Z0 (decide (L≤q10)) (q9=ys∧True) False) False) False) False) False) False) False))))))))))) (by kernel_rfl) ?_
 conv=>zeta
 try simp only [Zi]
 try simp only [Zj]
 try simp only [Zg]
 try simp only [Zk]
 try simp only [Zl]
 try simp only [Zh]
 try simp only [Int.toNat_natCast,Nat.zero_add,true_and,and_true,Nat.le_refl]
 subst hT hW hN hy hL
 have wa:=ZK a
 have wb:=ZK b
 have wc:=ZK c
 have wd:=ZK d
 have we:=ZK e
 simp only [Yc]
 repeat' apply And.intro
 all_goals first|omega|rfl|(simp only [List.length_append]<;>omega)
theorem Zhr (W:Int→List Int) (T:Int) (xs ys:List Int) (N L:Nat) (a b c d e f g:Int) (hT:T=4611686018427387904) (hW:W=Zn) (hN:xs.length=N) (hB:N<80000000000000) (h1:0≤a∧a≤T) (h2:0≤b∧b≤T) (h3:0≤c∧c≤T) (h4:0≤d∧d≤T) (h5:0≤e∧e≤T) (h6:0≤f∧f≤T) (h7:0≤g∧g≤T) (hy:ys=Yc W xs [a,b,c,d,e,f,g]) (hL:L=ys.length):
  evF (Z7W W) 20 65 [.ptr (some ⟨0,0,0,0,0⟩),.vints .i64 [a,b,c,d,e,f,g] 7] (wrH N xs) (Ya 2 (.ret (.int .i64 0)) 3 [(0,.flat [.nslice ⟨2,0,0,0,0⟩ 1 L L,.bool true]),(2,.ints .u8 ys)]):=by
 refine @Eq.mpr _ (let q1:=xs++W a;
 let q2:=List.length q1;
 let q3:=q1++W b;
 let q4:=List.length q3;
 let q5:=q3++W c;
 let q6:=List.length q5;
 let q7:=q5++W d;
 let q8:=List.length q7;
 let q9:=q7++W e;
 let q10:=List.length q9;
 let q11:=q9++W f;
 let q12:=List.length q11;
 let q13:=q11++W g;
 let q14:=List.length q13;
 Z0 (decide (a<0)) False
 (Z0 (decide (a>4611686018427387904)) False (Z0 (decide (b<0)) False (Z0 (decide (b>4611686018427387904)) False (Z0 (decide (c<0)) False (Z0 (decide (c>4611686018427387904)) False (Z0 (decide (d<0)) False (Z0 (decide (d>4611686018427387904)) False (Z0 (decide (e<0)) False (Z0 (decide (e>4611686018427387904)) False (Z0 (decide (f<0)) False (Z0 (decide (f>4611686018427387904)) False (Z0 (decide (g<0)) False (Z0 (decide (g>4611686018427387904)) False (Z0 (decide (List.length xs=N∧N<90000000000000)) (Z0 (decide (q2=q2∧q2<90000000000000)) (Z0 (decide (q4=q4∧q4<90000000000000)) (Z0 (decide (q6=q6∧q6<90000000000000)) (Z0 (decide (q8=q8∧q8<90000000000000)) (Z0 (decide (q10=q10∧q10<90000000000000)) (Z0 (decide (q12=q12∧q12<90000000000000)) (Z0 (decide (q14=L)) (Z0 (decide (L≤q14)) (q13=ys∧True) False) False) False) False) False) False) False) False) False))))))))))))))) (by kernel_rfl) ?_
 conv=>zeta
 try simp only [Zi]
 try simp only [Zj]
 try simp only [Zg]
 try simp only [Zk]
 try simp only [Zl]
 try simp only [Zh]
 try simp only [Int.toNat_natCast,Nat.zero_add,true_and,and_true,Nat.le_refl]
 subst hT hW hN hy hL
 have wa:=ZK a
 have wb:=ZK b
 have wc:=ZK c
 have wd:=ZK d
 have we:=ZK e
 have wf:=ZK f
 have wg:=ZK g
 simp only [Yc]
 repeat' apply And.intro
 all_goals first|omega|rfl|(simp only [List.length_append]<;>omega)
theorem Zhs (hh:List Int) (hq:hh.length=32):
  evF G0 20 64 [.ptr (some ⟨0,0,0,0,0⟩),.vrows 32 1 (fun _=>[.arr .u8 32 hh]) 1] ⟨1,[(0,.flat [.nilslice,.bool true])]⟩ (Ya 1 (.ret (.int .i64 0)) 2 [(0,.flat [.nslice ⟨1,0,0,0,0⟩ 1 32 32,.bool true]),(1,.ints .u8 hh)]):=by
 refine @Eq.mpr _ (let q1:=[]++hh;
 let q2:=List.length q1;
 Z0 (decide (u8=u8∧List.length hh=32)) (Z0 (decide (q2*1≤140737488355328)) (Z0 (decide (q2=32)) (Z0 (decide (32≤q2)) (q1=hh∧True) False) False) False) False) (by kernel_rfl) ?_
 conv=>zeta
 try simp only [Zi]
 try simp only [Zj]
 try simp only [Zg]
 try simp only [Zk]
 try simp only [Zl]
 try simp only [Zh]
 try simp only [Int.toNat_natCast,Nat.zero_add,true_and,and_true,Nat.le_refl]
 simp only [List.nil_append]
 repeat' apply And.intro
 all_goals first|trivial|omega|rfl|assumption
theorem Zht (xs hh gg ys:List Int) (N L:Nat) (hN:xs.length=N) (hB:N<80000000000000) (hq:hh.length=32) (hg:gg.length=32) (hy:ys=xs++hh++gg) (hL:L=ys.length):
  evF G0 20 64 [.ptr (some ⟨0,0,0,0,0⟩),.vrows 32 2 (fun i=>[.arr .u8 32 ([hh,gg].getD i [])]) 2] (wrH N xs) (Ya 2 (.ret (.int .i64 0)) 3 [(0,.flat [.nslice ⟨2,0,0,0,0⟩ 1 L L,.bool true]),(2,.ints .u8 ys)]):=by
 refine @Eq.mpr _ (let q1:=xs++hh;
 let q2:=List.length q1;
 let q3:=q1++gg;
 let q4:=List.length q3;
 Z0 (decide (u8=u8∧List.length hh=32)) (Z0 (decide (u8=u8∧List.length xs=N)) (Z0 (decide (q2*1≤140737488355328)) (Z0 (decide (u8=u8∧List.length gg=32)) (Z0 (decide (u8=u8∧q2=q2)) (Z0 (decide (q4*1≤140737488355328)) (Z0 (decide (q4=L)) (Z0 (decide (L≤q4)) (q3=ys∧True) False) False) False) False) False) False) False) False) (by kernel_rfl) ?_
 conv=>zeta
 try simp only [Zi]
 try simp only [Zj]
 try simp only [Zg]
 try simp only [Zk]
 try simp only [Zl]
 try simp only [Zh]
 try simp only [Int.toNat_natCast,Nat.zero_add,true_and,and_true,Nat.le_refl]
 subst hN hy hL
 repeat' apply And.intro
 all_goals first|omega|rfl|assumption|(simp only [List.length_append]<;>omega)
theorem Zhu (xs ys:List Int) (N L:Nat) (b:Bool) (hN:xs.length=N) (hB:N<80000000000000) (hy:ys=xs++[cond b 1 0]) (hL:L=ys.length):
  evF G0 20 66 [.ptr (some ⟨0,0,0,0,0⟩),.vrows 1 1 (fun _=>[.bool b]) 1] (wrH N xs) (Ya 2 (.ret (.int .i64 0)) 3 [(0,.flat [.nslice ⟨2,0,0,0,0⟩ 1 L L,.bool true]),(2,.ints .u8 ys)]):=by
 refine @Eq.mpr _ (let q1:=decide (u8=u8∧List.length xs=N);
 let q2:=xs++[(1:Int)];
 let q3:=List.length q2;
 let q4:=xs++[(0:Int)];
 let q5:=List.length q4;
 Z0 b (Z0 q1 (Z0 (decide (q3*1≤140737488355328)) (Z0 (decide (q3=L)) (Z0 (decide (L≤q3)) (q2=ys∧True) False) False) False) False) (Z0 q1 (Z0 (decide (q5*1≤140737488355328)) (Z0 (decide (q5=L)) (Z0 (decide (L≤q5)) (q4=ys∧True) False) False) False) False)) (by kernel_rfl) ?_
 conv=>zeta
 try simp only [Zi]
 try simp only [Zj]
 try simp only [Zg]
 try simp only [Zk]
 try simp only [Zl]
 try simp only [Zh]
 try simp only [Int.toNat_natCast,Nat.zero_add,true_and,and_true,Nat.le_refl]
 subst hN hy hL
 refine ⟨fun h=> ?_,fun h=> ?_⟩
 all_goals subst h
 all_goals repeat' apply And.intro
 all_goals first|omega|rfl|(simp only [List.length_append,List.length_cons,List.length_nil]<;>omega)
def Z1J (h:Z6) (w b:Nat) (ys:List Int):Z6:=⟨h.next+1,(w,.flat [.nslice ⟨h.next,0,0,0,0⟩ 1 ys.length ys.length,.bool true])::(h.next,.ints .u8 ys)::YT (YT h.bs w) b⟩
def wnG (W:Int→List Int) (T:Int) (B:Nat):Yn:=fun args h K=>match args with
 | [.ptr (some ⟨w,0,0,0,0⟩),_]=>match h.get w with
  |some (.flat [.nslice ⟨b,0,0,0,0⟩ 1 _ _,.bool true])=>frA [w,b] h 20 args fun Bs a=>match Bs,a with
   | [.flat [.nslice ⟨1,0,0,0,0⟩ 1 N M,.bool true],.ints .u8 xs],[.ptr (some ⟨0,0,0,0,0⟩),.vints .i64 [x,y] 2]=>
    Zt (xs.length=N∧M=N∧N<B∧(0≤x∧x≤T)∧(0≤y∧y≤T)) (K (.ret (.int .i64 0)) (Z1J h w b (Yc W xs [x,y])))
   | [.flat [.nslice ⟨1,0,0,0,0⟩ 1 N M,.bool true],.ints .u8 xs],[.ptr (some ⟨0,0,0,0,0⟩),.vints .i64 [x,y,z] 3]=>
    Zt (xs.length=N∧M=N∧N<B∧(0≤x∧x≤T)∧(0≤y∧y≤T)∧(0≤z∧z≤T)) (K (.ret (.int .i64 0)) (Z1J h w b (Yc W xs [x,y,z])))
   | [.flat [.nslice ⟨1,0,0,0,0⟩ 1 N M,.bool true],.ints .u8 xs],[.ptr (some ⟨0,0,0,0,0⟩),.vints .i64 [x,y,z,u,v] 5]=>
    Zt (xs.length=N∧M=N∧N<B∧(0≤x∧x≤T)∧(0≤y∧y≤T)∧(0≤z∧z≤T)∧(0≤u∧u≤T)∧(0≤v∧v≤T)) (K (.ret (.int .i64 0)) (Z1J h w b (Yc W xs [x,y,z,u,v])))
   | [.flat [.nslice ⟨1,0,0,0,0⟩ 1 N M,.bool true],.ints .u8 xs],[.ptr (some ⟨0,0,0,0,0⟩),.vints .i64 [x,y,z,u,v,p,q] 7]=>
    Zt (xs.length=N∧M=N∧N<B∧(0≤x∧x≤T)∧(0≤y∧y≤T)∧(0≤z∧z≤T)∧(0≤u∧u≤T)∧(0≤v∧v≤T)∧(0≤p∧p≤T)∧(0≤q∧q≤T)) (K (.ret (.int .i64 0)) (Z1J h w b (Yc W xs [x,y,z,u,v,p,q])))
   | _,_=>False
  | _=>False
 | _=>False
theorem ZeI (args:List AV) (h:Z6) (K:KO) (hl:wnG Zn 4611686018427387904 80000000000000 args h K):Zm PP 65 args h K:=by
 unfold wnG at hl
 split at hl
 ·split at hl
  ·refine Spec.fsumm hl fun Bs a hlen hK0=> ?_
   split at hK0
   ·obtain ⟨⟨h1,rfl,h2,k0,k1⟩,hK⟩:=Z8 hK0
    exact ⟨_,_,_,_,_,.evM Qf (Zho _ _ _ _ _ _ _ _ rfl rfl h1 h2 k0 k1 rfl rfl),by simp,.ret _ _ rfl,.cons _ _ _ _ _ _ rfl (.flat _ _ rfl) (.cons _ _ _ _ _ _ rfl (.ints _ _) .nil),hK⟩
   ·obtain ⟨⟨h1,rfl,h2,k0,k1,k2⟩,hK⟩:=Z8 hK0
    exact ⟨_,_,_,_,_,.evM Qf (Zhp _ _ _ _ _ _ _ _ _ rfl rfl h1 h2 k0 k1 k2 rfl rfl),by simp,.ret _ _ rfl,.cons _ _ _ _ _ _ rfl (.flat _ _ rfl) (.cons _ _ _ _ _ _ rfl (.ints _ _) .nil),hK⟩
   ·obtain ⟨⟨h1,rfl,h2,k0,k1,k2,k3,k4⟩,hK⟩:=Z8 hK0
    exact ⟨_,_,_,_,_,.evM Qf (Zhq _ _ _ _ _ _ _ _ _ _ _ rfl rfl h1 h2 k0 k1 k2 k3 k4 rfl rfl),by simp,.ret _ _ rfl,.cons _ _ _ _ _ _ rfl (.flat _ _ rfl) (.cons _ _ _ _ _ _ rfl (.ints _ _) .nil),hK⟩
   ·obtain ⟨⟨h1,rfl,h2,k0,k1,k2,k3,k4,k5,k6⟩,hK⟩:=Z8 hK0
    exact ⟨_,_,_,_,_,.evM Qf (Zhr _ _ _ _ _ _ _ _ _ _ _ _ _ rfl rfl h1 h2 k0 k1 k2 k3 k4 k5 k6 rfl rfl),by simp,.ret _ _ rfl,.cons _ _ _ _ _ _ rfl (.flat _ _ rfl) (.cons _ _ _ _ _ _ rfl (.ints _ _) .nil),hK⟩
   ·exact hK0.elim
  ·exact hl.elim
 ·exact hl.elim
def whG (B:Nat):Yn:=fun args h K=>match args with
 | [.ptr (some ⟨w,0,0,0,0⟩),_]=>match h.get w with
  |some (.flat [.nslice ⟨b,0,0,0,0⟩ 1 _ _,.bool true])=>frA [w,b] h 20 args fun Bs a=>match Bs,a with
   | [.flat [.nslice ⟨1,0,0,0,0⟩ 1 N M,.bool true],.ints .u8 xs],[.ptr (some ⟨0,0,0,0,0⟩),.vrows 32 1 f 1]=>match f 0 with
    | [.arr .u8 32 hh]=>Zt (xs.length=N∧M=N∧N<B∧hh.length=32) (K (.ret (.int .i64 0)) (Z1J h w b (xs++hh)))
    | _=>False
   | [.flat [.nslice ⟨1,0,0,0,0⟩ 1 N M,.bool true],.ints .u8 xs],[.ptr (some ⟨0,0,0,0,0⟩),.vrows 32 2 f 2]=>match f 0,f 1 with
    | [.arr .u8 32 hh],[.arr .u8 32 gg]=>Zt (xs.length=N∧M=N∧N<B∧hh.length=32∧gg.length=32) (K (.ret (.int .i64 0)) (Z1J h w b (xs++hh++gg)))
    | _,_=>False
   | _,_=>False
  | some (.flat [.nilslice,.bool true])=>frA [w] h 20 args fun Bs a=>match Bs,a with
   | [.flat [.nilslice,.bool true]],[.ptr (some ⟨0,0,0,0,0⟩),.vrows 32 1 f 1]=>match f 0 with
    | [.arr .u8 32 hh]=>Zt (hh.length=32) (K (.ret (.int .i64 0)) ⟨h.next+1,(w,.flat [.nslice ⟨h.next,0,0,0,0⟩ 1 32 32,.bool true])::(h.next,.ints .u8 hh)::YT h.bs w⟩)
    | _=>False
   | _,_=>False
  | _=>False
 | _=>False
theorem ZeJ (args:List AV) (h:Z6) (K:KO) (hl:whG 80000000000000 args h K):Zm PP 64 args h K:=by
 unfold whG at hl
 split at hl
 ·split at hl
  ·refine Spec.fsumm hl fun Bs a hlen hK0=> ?_
   split at hK0
   ·split at hK0
    case h_2=>exact hK0.elim
    rename_i hh hf
    obtain ⟨⟨h1,rfl,h2,h3⟩,hK⟩:=Z8 hK0
    refine ⟨_,_,_,_,_,(Spec.evM Zu (ZbM _ hh _ _ _ _ h1 (by omega) h3 rfl rfl)).conv fun E r hr=>hr.head (fun _ hc=>hc) fun _ hc=>hc.head (fun _ hc=>hc.rowsC ?_) fun _ hc=>hc,by simp,.ret _ _ rfl,.cons _ _ _ _ _ _ rfl (.flat _ _ rfl) (.cons _ _ _ _ _ _ rfl (.ints _ _) .nil),hK⟩
    intro i hi
    have:i=0:=by omega
    subst this
    exact hf
   ·split at hK0
    case h_2=>exact hK0.elim
    rename_i hh gg hf hg
    obtain ⟨⟨h1,rfl,h2,h3,h4⟩,hK⟩:=Z8 hK0
    refine ⟨_,_,_,_,_,(Spec.evM Zu (Zht _ hh gg _ _ _ h1 h2 h3 h4 rfl rfl)).conv fun E r hr=>hr.head (fun _ hc=>hc) fun _ hc=>hc.head (fun _ hc=>hc.rowsC ?_) fun _ hc=>hc,by simp,.ret _ _ rfl,.cons _ _ _ _ _ _ rfl (.flat _ _ rfl) (.cons _ _ _ _ _ _ rfl (.ints _ _) .nil),hK⟩
    intro i hi
    have:i=0∨i=1:=by omega
    rcases this with rfl|rfl
    ·exact hf
    ·exact hg
   ·exact hK0.elim
  ·refine Spec.fsumm hl fun Bs a hlen hK0=> ?_
   split at hK0
   ·split at hK0
    case h_2=>exact hK0.elim
    rename_i hh hf
    obtain ⟨h3,hK⟩:=Z8 hK0
    refine ⟨_,_,_,_,_,(Spec.evM Zu (Zhs hh h3)).conv fun E r hr=>hr.head (fun _ hc=>hc) fun _ hc=>hc.head (fun _ hc=>hc.rowsC ?_) fun _ hc=>hc,by simp,.ret _ _ rfl,.cons _ _ _ _ _ _ rfl (.flat _ _ rfl) (.cons _ _ _ _ _ _ rfl (.ints _ _) .nil),hK⟩
    intro i hi
    have:i=0:=by omega
    subst this
    exact hf
   ·exact hK0.elim
  ·exact hl.elim
 ·exact hl.elim
def wtG (B:Nat):Yn:=fun args h K=>match args with
 | [.ptr (some ⟨w,0,0,0,0⟩),_]=>match h.get w with
  |some (.flat [.nslice ⟨b,0,0,0,0⟩ 1 _ _,.bool true])=>frA [w,b] h 20 args fun Bs a=>match Bs,a with
   | [.flat [.nslice ⟨1,0,0,0,0⟩ 1 N M,.bool true],.ints .u8 xs],[.ptr (some ⟨0,0,0,0,0⟩),.vrows 1 1 f 1]=>match f 0 with
    | [.bool t]=>Zt (xs.length=N∧M=N∧N<B) (K (.ret (.int .i64 0)) (Z1J h w b (xs++[cond t 1 0])))
    | _=>False
   | _,_=>False
  | _=>False
 | _=>False
theorem ZeK (args:List AV) (h:Z6) (K:KO) (hl:wtG 80000000000000 args h K):Zm PP 66 args h K:=by
 unfold wtG at hl
 split at hl
 ·split at hl
  ·refine Spec.fsumm hl fun Bs a hlen hK0=> ?_
   split at hK0
   ·split at hK0
    case h_2=>exact hK0.elim
    rename_i t hf
    obtain ⟨⟨h1,rfl,h2⟩,hK⟩:=Z8 hK0
    refine ⟨_,_,_,_,_,(Spec.evM Zu (Zhu _ _ _ _ t h1 h2 rfl rfl)).conv fun E r hr=>hr.head (fun _ hc=>hc) fun _ hc=>hc.head (fun _ hc=>hc.rowsC ?_) fun _ hc=>hc,by simp,.ret _ _ rfl,.cons _ _ _ _ _ _ rfl (.flat _ _ rfl) (.cons _ _ _ _ _ _ rfl (.ints _ _) .nil),hK⟩
    intro i hi
    have:i=0:=by omega
    subst this
    exact hf
   ·exact hK0.elim
  ·exact hl.elim
 ·exact hl.elim
end Go.Tk
end
section
namespace Go.Tk
open IntKind (i64 u8 u32 u64 wrap)
def Z1Y (W:Int→List Int) (xs:List Int) (h:Z9):List Int:=if h.fin=1 then Yc W (Yc W (xs++[cond h.own 1 0]) [h.id,h.amount]++h.hash) [h.expiry,h.stage,h.fin]++h.secret else Yc W (Yc W (xs++[cond h.own 1 0]) [h.id,h.amount]++h.hash) [h.expiry,h.stage,h.fin]
def Wa (W:Int→List Int) (X:Za):List Int:=Yc W (Yc W X.t.fund [X.t.index,X.t.cap,X.t.dust,X.t.fee,X.t.delay]++X.t.k0++X.t.k1) [X.side,X.res,X.a0,X.a1,X.i0,X.i1,(X.L.length:Int)]
def WZ (W:Int→List Int) (X:Za):List Int:=X.L.foldl (Z1Y W) (Wa W X)
noncomputable def Zcz (W:Int→List Int) (T:Int) (B:Nat):Zd:=(((G0.withF 65 (wnG W T B)).withF 64 (whG B)).withF 66 (wtG B)).withF 113 Z3j
theorem ZcA:(Zcz Zn 4611686018427387904 80000000000000).Ok:=Zd.withF_ok (Zd.withF_ok (Zd.withF_ok (Zd.withF_ok Zu ZeI) ZeJ) ZeK) Z1l
def rwS (X:Za) (n i N:Nat) (xs:List Int):St:=⟨127,[(77,.int .i64 i),(76,.int .i64 n),(75,.vrows 70 n (Zf X.L) n),(3,.ptr (some ⟨0,0,0,0,0⟩))],wrH N xs,[]⟩
def rwE (N:Nat) (xs:List Int):St:=⟨127,[(3,.ptr (some ⟨0,0,0,0,0⟩))],wrH N xs,[]⟩
def ZcB (T:Int) (x:Z9):Prop:=(0≤x.id∧x.id≤T)∧(0≤x.amount∧x.amount≤T)∧(0≤x.expiry∧x.expiry≤T)∧(0≤x.stage∧x.stage≤T)∧0≤x.fin∧x.fin≤T
theorem Zhv (X:Za) (n i N N1 B:Nat) (xs ys:List Int) (x:Z9) (W:Int→List Int) (T:Int) (Z1 Z2:Prop) (hn:n<1000) (hL:X.L.length=n) (hi:i≤n) (hx:i<n→X.L.getD i Zo=x) (hN:xs.length=N) (hB:i<n→N+1000<B) (hW:W=Zn) (hr:i<n→ZcB T x) (hk:i<n→x.Ok) (hy:i<n→ys=Z1Y W xs x) (hN1:i<n→N1=ys.length) (hZ1:i<n→Z1) (hZ2:i=n→Z2):
  ZD (Zcz W T B) 20 21 0 0 (rwS X n i N xs) (rdM 0 0 9 (rwS X n (i+1) N1 ys) (rwE N xs) (rwE N xs) (rwE N xs) Z1 Z2 False False):=by
 refine @Eq.mpr _ (let q1:=List.getD X.L (Int.toNat (↑i:Int)) Zo;
 let q2:=xs++[bif q1.own then 1 else 0];
 let q3:=List.length q2;
 let q4:=q1.id;
 let q5:=q1.amount;
 let q6:=Yc W q2 [q4,q5];
 let q7:=List.length q6;
 let q8:=q1.hash;
 let q9:=q6++q8;
 let q10:=List.length q9;
 let q11:=q1.expiry;
 let q12:=q1.stage;
 let q13:=q1.fin;
 let q14:=Yc W q9 [q11,q12,q13];
 let q15:=List.length q14;
 let q16:=q1.secret;
 let q17:=decide (wrap i64 ((↑i:Int)+1)=(↑(i+1):Int));
 let q18:=decide ((↑n:Int)=(↑n:Int));
 let q19:=decide (n=n);
 let q20:=Zf X.L;
 let q21:=q20=q20;
 let q22:=q14++q16;
 let q23:=List.length q22;
 Z0 (decide ((↑i:Int)<(↑n:Int))) (Z0 (decide (0≤(↑i:Int)∧(↑i:Int)<(↑n:Int))) (Z0 (decide (List.length xs=N∧N=N∧N<B)) (Z0 (decide (q3=q3∧q3=q3∧q3<B∧(0≤q4∧q4≤T)∧0≤q5∧q5≤T)) (Z0 (decide (q7=q7∧q7=q7∧q7<B∧List.length q8=32)) (Z0 (decide (q10=q10∧q10=q10∧q10<B∧(0≤q11∧q11≤T)∧(0≤q12∧q12≤T)∧0≤q13∧q13≤T)) (Z0 (q13==1) (Z0 (decide (q15=q15∧q15=q15∧q15<B∧List.length q16=32)) (Z0 q17 (Z0 q18 (Z0 q19 (q21∧Z0 q19 (Z0 (decide (q23=N1)) (Z0 (decide (N1≤q23)) (q22=ys∧Z1) False) False) False) False) False) False) False) (Z0 q17 (Z0 q18 (Z0 q19 (q21∧Z0 q19 (Z0 (decide (q15=N1)) (Z0 (decide (N1≤q15)) (q14=ys∧Z1) False) False) False) False) False) False)) False) False) False) False) False) (Z0 (decide (N=N)) (Z0 (decide (N≤N)) (xs=xs∧Z2) False) False)) (by kernel_rfl) ?_
 conv=>zeta
 try simp only [Zi]
 try simp only [Zj]
 try simp only [Zg]
 try simp only [Zk]
 try simp only [Zl]
 try simp only [Zh]
 try simp only [Int.toNat_natCast,Nat.zero_add,true_and,and_true,Nat.le_refl]
 refine ⟨fun hc=> ?_,fun hc=>hZ2 (by omega)⟩
 have hlt:i<n:=by omega
 rw [hx hlt]
 obtain ⟨r1,r2,r3,r4,r5⟩:=hr hlt
 have hk:=hk hlt
 have hB:=hB hlt
 have hy:=hy hlt
 have hN1:=hN1 hlt
 have hwr:i64.wrap ((i:Int)+1)=((i+1:Nat):Int):=by rw [w64 (by omega)];omega
 have k1:=hk.hash
 have k2:=hk.secret
 subst hW
 unfold Z1Y at hy
 have l1:=XB [x.id,x.amount] (xs++[bif x.own then 1 else 0])
 generalize Yc Zn (xs++[bif x.own then 1 else 0]) [x.id,x.amount]=A1 at*
 have l2:=XB [x.expiry,x.stage,x.fin] (A1++x.hash)
 generalize hA2:Yc Zn (A1++x.hash) [x.expiry,x.stage,x.fin]=A2 at*
 simp only [List.length_append,List.length_cons,List.length_nil] at*
 refine ⟨by omega,⟨hN,by omega⟩,⟨by omega,r1,r2⟩,⟨by omega,k1⟩,⟨by omega,r3,r4,r5⟩,fun hf=> ?_,fun hf=> ?_⟩
 ·have hf:x.fin=1:=by simpa using hf
  have hy:ys=A2++x.secret:=by rw [hy,if_pos hf]
  subst hy
  rw [List.length_append] at hN1
  exact ⟨⟨by omega,k2⟩,hwr,by omega,by omega,rfl,hZ1 hlt⟩
 ·have hf:¬x.fin=1:=by simpa using hf
  have hy:ys=A2:=by rw [hy,if_neg hf]
  subst hy
  exact ⟨hwr,by omega,by omega,rfl,hZ1 hlt⟩
theorem ZaO (xs:List Int) (h:Z9) (h1:h.hash.length=32) (h2:h.secret.length=32):(Z1Y Zn xs h).length≤xs.length+110:=by
 have l1:=XB [h.id,h.amount] (xs++[bif h.own then 1 else 0])
 have l2:=XB [h.expiry,h.stage,h.fin] (Yc Zn (xs++[bif h.own then 1 else 0]) [h.id,h.amount]++h.hash)
 unfold Z1Y
 simp only [List.length_append,List.length_cons,List.length_nil] at*
 split
 ·rw [List.length_append];omega
 ·omega
theorem Z1K {L:List Z9} (hL:∀h∈L,h.Ok):∀xs,(L.foldl (Z1Y Zn) xs).length≤xs.length+110*L.length:=by
 induction L with
 | nil=>simp
 | cons h r ih=>
  intro xs
  rw [List.foldl_cons,List.length_cons]
  have h1:=ih (fun z hz=>hL z (by simp [hz])) (Z1Y Zn xs h)
  have hk:=hL h (by simp)
  have h2:=ZaO xs h hk.hash hk.secret
  omega
theorem Ua {X:Za} (hf:X.t.fund.length=32) (h0:X.t.k0.length=32) (h1:X.t.k1.length=32):(Wa Zn X).length≤300:=by
 have l1:=XB [X.t.index,X.t.cap,X.t.dust,X.t.fee,X.t.delay] X.t.fund
 have l2:=XB [X.side,X.res,X.a0,X.a1,X.i0,X.i1,(X.L.length:Int)] (Yc Zn X.t.fund [X.t.index,X.t.cap,X.t.dust,X.t.fee,X.t.delay]++X.t.k0++X.t.k1)
 unfold Wa
 simp only [List.length_append,List.length_cons,List.length_nil] at*
 omega
def ZaP (T:Int) (X:Za):Prop:=(0≤X.t.index∧X.t.index≤T)∧(0≤X.t.cap∧X.t.cap≤T)∧(0≤X.t.dust∧X.t.dust≤T)∧(0≤X.t.fee∧X.t.fee≤T)∧(0≤X.t.delay∧X.t.delay≤T)∧(0≤X.side∧X.side≤T)∧(0≤X.res∧X.res≤T)∧(0≤X.a0∧X.a0≤T)∧(0≤X.a1∧X.a1≤T)∧(0≤X.i0∧X.i0≤T)∧(0≤X.i1∧X.i1≤T)∧0≤(X.L.length:Int)∧(X.L.length:Int)≤T
def Z69 (T:Int) (B:Nat) (X:Za) (n:Nat) (hd:List Int):Prop:=X.L.length=n∧n≤16∧hd.length≤300∧10000≤B∧(∀h∈X.L,ZcB T h∧h.Ok)
def YI (X:Za) (hd:List Int) (i:Nat):List Int:=(X.L.take i).foldl (Z1Y Zn) hd
theorem Zhw (T:Int) (B:Nat) (X:Za) (n i:Nat) (hd:List Int) (hC:Z69 T B X n hd) (hi:i≤n):ZD (Zcz Zn T B) 20 21 0 0 (rwS X n i (YI X hd i).length (YI X hd i)) (rdM 0 0 9 (rwS X n (i+1) (YI X hd (i+1)).length (YI X hd (i+1))) (rwE (YI X hd i).length (YI X hd i)) (rwE (YI X hd i).length (YI X hd i)) (rwE (YI X hd i).length (YI X hd i)) (i<n∧i<n) (i=n) False False):=by
 obtain ⟨h1,h2,h3,h4,h5⟩:=id hC
 have hlt:i<n→i<X.L.length:=fun h=>by omega
 have hl:=Z1K (L:=X.L.take i) (fun z hz=>(h5 z (List.mem_of_mem_take hz)).2) hd
 have l0:(X.L.take i).length≤16:=by rw [List.length_take];omega
 refine Zhv X n i _ _ B _ _ (X.L.getD i Zo) Zn T (i<n∧i<n) (i=n) (by omega) h1 hi (fun _=>rfl) rfl (fun _=> ?_) rfl (fun h=>(h5 _ (Y0 (hlt h))).1) (fun h=>(h5 _ (Y0 (hlt h))).2) (fun h=> ?_) (fun _=>rfl) (fun h=>⟨h,h⟩) (fun h=>h)
 ·unfold YI;omega
 ·unfold YI
  rw [Z4H (hlt h),List.foldl_append];rfl
noncomputable def Zdv (W:Int→List Int) (T:Int) (B:Nat) (X:Za) (n N:Nat) (hd:List Int) (C:Prop) (E:Nat→St):Zd:=(Zcz W T B).withL 21 0 (goM 0 (rwS X n 0 N hd) C (YR 0 n 9 (fun i=>i<n) (fun i=>i=n) (fun _=>False) (fun _=>False) E E E))
theorem ZaQ (X:Za) (n:Nat) (hd:List Int):(Zdv Zn 4611686018427387904 80000000000000 X n hd.length hd (Z69 4611686018427387904 80000000000000 X n hd) (fun i=>rwE (YI X hd i).length (YI X hd i))).Ok:=
 Zd.withGoM (N:=20) (S:=fun i=>rwS X n i (YI X hd i).length (YI X hd i)) ZcA (by kernel_rfl) fun hC=>⟨rfl,fun i hi _=>Zhw _ _ X n i hd hC hi⟩
theorem Zhx (X:Za) (n N B l:Nat) (hd ys:List Int) (W:Int→List Int) (T:Int) (C:Prop) (XF:Nat→List Int) (hC:C) (hn:X.L.length=n) (hcap:X.t.cap≠0) (hhd:hd=Wa W X) (hN:N=hd.length) (hy:ys=XF n) (hl:l=ys.length) (hl2:ys.length<90000000000000) (hf:X.t.fund.length=32) (h0:X.t.k0.length=32) (h1:X.t.k1.length=32) (hB:10000≤B) (hW:W=Zn) (hT:ZaP T X):
  evF (Zdv W T B X n N hd C fun i=>rwE (XF i).length (XF i)) 20 21 [WB X] ⟨0,[]⟩ (Ya 0 (.ret (.nslice ⟨0,0,0,0,0⟩ 1 l l)) 1 [(0,.ints .u8 ys)]):=by
 refine @Eq.mpr _ (let q1:=X.t;
 let q2:=q1.cap;
 let q3:=decide (l=0);
 let q4:=q1.fund;
 let q5:=q4=q4;
 let q6:=q1.index;
 let q7:=decide (q6=q6);
 let q8:=decide (q2=q2);
 let q9:=q1.dust;
 let q10:=decide (q9=q9);
 let q11:=q1.fee;
 let q12:=decide (q11=q11);
 let q13:=q1.delay;
 let q14:=decide (q13=q13);
 let q15:=q1.k0;
 let q16:=q15=q15;
 let q17:=q1.k1;
 let q18:=q17=q17;
 let q19:=Yc W q4 [q6,q2,q9,q11,q13];
 let q20:=List.length q19;
 let q21:=q19++q15++q17;
 let q22:=List.length q21;
 let q23:=X.side;
 let q24:=X.res;
 let q25:=X.a0;
 let q26:=X.a1;
 let q27:=X.i0;
 let q28:=X.i1;
 let q29:=List.length X.L;
 let q30:=↑q29;
 let q31:=decide (q29=n);
 let q32:=Zf X.L;
 let q33:=Yc W q21 [q23,q24,q25,q26,q27,q28,q30];
 let q34:=List.length q33;
 Z0 (q2==0) (Z0 q3 (Z0 q3 (ys=[]∧True) False) False)
 (q5∧
 Z0 q7
 (Z0 q8
 (Z0 q10
 (Z0 q12
 (Z0 q14
 (q16∧
 q18∧
 q5∧
 Z0 q7
 (Z0 q8
 (Z0 q10
 (Z0 q12
 (Z0 q14
 (q16∧
 q18∧
 q5∧
 Z0 q7
 (Z0 q8
 (Z0 q10
 (Z0 q12
 (Z0 q14
 (q16∧
 q18∧
 Z0 (decide (List.length q4=32))
 (Z0 (decide (List.length q4=32∧(32:Nat)=32∧32<B∧(0≤q6∧q6≤T)∧(0≤q2∧q2≤T)∧(0≤q9∧q9≤T)∧(0≤q11∧q11≤T)∧0≤q13∧q13≤T))
 (Z0 (decide (q20=q20∧q20=q20∧q20<B∧List.length q15=32∧List.length q17=32))
 (Z0 (decide (q22=q22∧q22=q22∧q22<B∧(0≤q23∧q23≤T)∧(0≤q24∧q24≤T)∧(0≤q25∧q25≤T)∧(0≤q26∧q26≤T)∧(0≤q27∧q27≤T)∧(0≤q28∧q28≤T)∧0≤q30∧q30≤T))
 (Z0 (decide (q30=↑n))
 (Z0 q31
 (q32=q32∧
 Z0 q31
 (Z0 (decide (q34=N))
 (Z0 (decide (N≤q34))
 (q33=hd∧
 C∧
 ∀(i:Nat),
 let q69:=List.length (XF i);
 let q70:=List.take q69 (Y8 0 (XF i));
 i≤n→(∀(j:Nat),j<i→(fun (i:Nat)=>i<n) j)→(i=n→Z0 (decide (0+q69≤q69)) (Z0 (decide (List.length q70=q69∧q69<90000000000000)) (Z0 (decide (q69=l)) (Z0 (decide (l≤q69)) (q70=ys∧True) False) False) False) False)∧(False→False)∧(False→False))
 False)
 False)
 False)
 False)
 False)
 False)
 False)
 False)
 False)
 False)
 False)
 False)
 False)
 False)
 False)
 False)
 False)
 False)
 False)
 False)
 False)
 False)
 False)
 False)) (by kernel_rfl) ?_
 conv=>zeta
 try simp only [Zi]
 try simp only [Zj]
 try simp only [Zg]
 try simp only [Zk]
 try simp only [Zl]
 try simp only [Zh]
 try simp only [Int.toNat_natCast,Nat.zero_add,true_and,and_true,Nat.le_refl]
 subst hy hN
 obtain ⟨t1,t2,t3,t4,t5,t6,t7,t8,t9,t10,t11,t12⟩:=hT
 have hlen:=Ua hf h0 h1
 have e:List.take (XF n).length (Y8 0 (XF n))=XF n:=by rw [ZZ,List.drop_zero,List.take_length]
 subst hW
 have l1:=XB [X.t.index,X.t.cap,X.t.dust,X.t.fee,X.t.delay] X.t.fund
 have hhd':=hhd
 unfold Wa at hhd
 rw [←hhd]
 have hlen:hd.length≤300:=by rw [hhd'];exact hlen
 simp only [List.length_append,List.length_cons,List.length_nil] at l1⊢
 refine ⟨fun h=>absurd h (by simpa using hcap),fun _=>⟨hf,⟨hf,by omega,t1,t2,t3,t4,t5⟩,⟨by omega,h0,h1⟩,⟨by omega,t6,t7,t8,t9,t10,t11,t12⟩,by rw [hn],hn,hn,trivial,Nat.le_refl _,trivial,hC,fun i hi _=>⟨fun he=> ?_,fun h=>h,fun h=>h⟩⟩⟩
 subst he
 rw [e]
 exact ⟨⟨rfl,hl2⟩,hl.symm,Nat.le_of_eq hl,rfl⟩
theorem ZcC {H:List Int→List Int} {h:Z9} (hf:Z62 H h=true):0≤h.fin∧h.fin≤2:=by
 unfold Z62 at hf
 by_cases h0:h.fin=0
 ·omega
 ·rw [if_neg h0] at hf
  by_cases h1:h.fin=1
  ·omega
  ·rw [if_neg h1] at hf
   by_cases h2:h.fin=2
   ·omega
   ·rw [if_neg h2] at hf;cases hf
theorem Za.Inv.hnum {H:List Int→List Int} {X:Za} (h:X.Inv H):∀z∈X.L,ZcB 4611686018427387904 z∧z.Ok:=fun z hz=>by
 obtain ⟨u1,u2,u3,u4⟩:=Qk (h.und z hz)
 have:=Z7b u1
 have:=ZcC u4
 exact ⟨⟨by omega,by omega,by omega,by omega,by omega⟩,h.ok z hz⟩
theorem Za.Inv.hdnum {H:List Int→List Int} {X:Za} (h:X.Inv H):ZaP 4611686018427387904 X:=by
 have:=Y2 h.tb
 have:=h.side
 have:=h.res
 have:=h.a0
 have:=h.a1
 have:=h.i0
 have:=h.i1
 have:=h.len
 refine ⟨?_, ?_, ?_, ?_, ?_, ?_, ?_, ?_, ?_, ?_, ?_, ?_⟩<;>omega
theorem Za.Inv.rw' {H:List Int→List Int} {X:Za} (h:X.Inv H) (hf:X.t.fund.length=32):Z69 4611686018427387904 80000000000000 X X.L.length (Wa Zn X):=
 ⟨rfl,h.len,Ua hf h.tok.k0 h.tok.k1,by decide,h.hnum⟩
theorem Za.Inv.rawLen {H:List Int→List Int} {X:Za} (h:X.Inv H) (hf:X.t.fund.length=32):(WZ Zn X).length≤3000:=by
 have h1:=Z1K (L:=X.L) (fun z hz=>h.ok z hz) (Wa Zn X)
 have h2:=Ua hf h.tok.k0 h.tok.k1
 have:=h.len
 unfold WZ;omega
def Zdw (W:Int→List Int):Yn:=fun args h K=>ZI none h true 20 args fun a=>match a with
 | [.pview cs 0]=>∃X,LV cs X∧X.Inv ZJ∧X.t.fund.length=32∧K (.ret (.nslice ⟨h.next,0,0,0,0⟩ 1 (WZ W X).length (WZ W X).length)) ⟨h.next+1,(h.next,.ints .u8 (WZ W X))::h.bs⟩
 | _=>False
theorem ZaR (args:List AV) (h:Z6) (K:KO) (hl:Zdw Zn args h K):Zm PP 21 args h K:=by
 refine Zy.fsumm (d:=20) (Zs _ _ _ _ _ hl fun a ha=> ?_)
 split at ha
 ·obtain ⟨X,hX,hI,hf,hK⟩:=ha
  have hv:=Zhx X X.L.length _ 80000000000000 _ (Wa Zn X) (WZ Zn X) Zn 4611686018427387904 (Z69 4611686018427387904 80000000000000 X X.L.length (Wa Zn X)) (YI X (Wa Zn X)) (hI.rw' hf) rfl (WY hI.tb) rfl rfl (by unfold YI;rw [List.take_length];rfl) rfl (by have:=hI.rawLen hf;omega) hf hI.tok.k0 hI.tok.k1 (by decide) rfl hI.hdnum
  exact ⟨_,_,_,_,(Zy.evM (ZaQ X _ _) hv).conv fun E r hr=>hr.head (fun _ hc=>W7 hX hc) fun _ hc=>hc,rfl,⟨Nat.one_pos,.ints _ _,trivial⟩,hK⟩
 ·exact ha.elim
end Go.Tk
end
section
namespace Go.Tk
open IntKind (i64 u8 u32 u64 wrap)
noncomputable def Ws:Code:=rfA PP 48 0
noncomputable def Wt:Code:=rfB PP 48 0
noncomputable def ZeL:Zd:=G0.withF 45 ZeF
theorem Z7d:ZeL.Ok:=Zd.withF_ok Zu Z7a
noncomputable def ZaS (L:List Z9) (own:Bool) (id:Int) (n i:Nat) (ls:LoopState) (pe:Option Code) (R:Z9) (b:Bool):St:=⟨17,[(0,.yield 7),(5,.nslice ⟨4,0,70,0,0⟩ 70 n n),(6,.int .i64 n),(7,.int .i64 i)],⟨8,[(7,.loop ⟨ls,pe,48,27,[(4,pt 0),(5,pt 1),(6,pt 2),(7,pt 3)],[14],Ws,Wt,6⟩),(6,.defd),(4,.rows 70 n (Zf L)),(3,.flat [.bool b]),(2,.flat R.c),(1,.flat [.int .i64 id]),(0,.flat [.bool own])]⟩,[]⟩
noncomputable def Z8r (ls:LoopState) (pe:Option Code) (R:Z9) (b:Bool):St:=⟨17,[(0,.yield 7)],⟨8,[(7,.loop ⟨ls,pe,48,27,[(6,pt 2),(7,pt 3)],[14],Ws,Wt,6⟩),(6,.defd),(3,.flat [.bool b]),(2,.flat R.c)]⟩,[]⟩
theorem Zg4 (L:List Z9) (own:Bool) (id:Int) (n i:Nat) (x:Z9) (ls:LoopState) (pe:Option Code) (R:Z9) (b:Bool) (Z1 Z2:Prop) (hn:n<1000) (hL:L.length=n) (hi:i≤n) (hxx:i<n→L.getD i Zo=x) (hx:i=n→(ls=.ready∧pe=none∧R=Zo∧b=false)∧Z2) (hbk:i<n→isP own id x→(ls=.done∧pe=some .ret∧R=x∧b=true)∧Z2) (hgo:i<n→¬isP own id x→Z1):
  ZD ZeL 20 108 0 8 (ZaS L own id n i .ready none Zo false) (rdM 8 0 9 (ZaS L own id n (i+1) .ready none Zo false) (Z8r ls pe R b) (Z8r ls pe R b) (Z8r ls pe R b) Z1 Z2 False False):=by
 refine @Eq.mpr _ (let q1:=0+Int.toNat (↑i:Int);
 let q2:=List.getD L q1 Zo;
 let q3:=q2.own;
 let q4:=q2.id;
 let q5:=(48:FuncId)=48∧(27:Nat)=27∧[(14:Nat)]=[(14:Nat)]∧Ws=Ws∧Wt=Wt;
 let q6:=decide (n=n);
 let q7:=Zo.hash;
 let q8:=Zo.secret;
 let q9:=Z0 q6 (Z0 (decide (n≤n)) (Z0 (decide ((↑n:Int)=(↑n:Int))) (Z0 (decide (wrap i64 ((↑i:Int)+1)=(↑(i+1):Int))) ((LoopState.ready=LoopState.ready∧(none:Option Code)=none∧q5)∧Z0 q6 (ZO 8 [] n (Zf L) (Zf L)∧q7=q7∧q8=q8∧Z0 (decide (id=id)) (Z0 (decide (own=own)) Z1 False) False) False) False) False) False) False;
 Z0 (decide ((↑i:Int)<(↑n:Int))) (Z0 (decide (0≤(↑i:Int)∧(↑i:Int)<(↑n:Int))) (Z0 (decide (q1<n)) (Z0 (q3==own) (Z0 (q4==id) ((LoopState.done=ls∧some Code.ret=pe∧q5)∧Z0 (decide (true=b)) (Z0 (decide (q3=R.own)) (Z0 (decide (q4=R.id)) (Z0 (decide (q2.amount=R.amount)) (q2.hash=R.hash∧Z0 (decide (q2.expiry=R.expiry)) (Z0 (decide (q2.stage=R.stage)) (Z0 (decide (q2.fin=R.fin)) (q2.secret=R.secret∧Z2) False) False) False) False) False) False) False) q9) q9) False) False) ((LoopState.ready=ls∧none=pe∧q5)∧Z0 (decide (false=b)) (Z0 (decide (Zo.own=R.own)) (Z0 (decide (Zo.id=R.id)) (Z0 (decide (Zo.amount=R.amount)) (q7=R.hash∧Z0 (decide (Zo.expiry=R.expiry)) (Z0 (decide (Zo.stage=R.stage)) (Z0 (decide (Zo.fin=R.fin)) (q8=R.secret∧Z2) False) False) False) False) False) False) False)) (by kernel_rfl) ?_
 conv=>zeta
 try simp only [Zi]
 try simp only [Zj]
 try simp only [Zg]
 try simp only [Zk]
 try simp only [Zl]
 try simp only [Zh]
 try simp only [Int.toNat_natCast,Nat.zero_add,true_and,and_true,Nat.le_refl]
 refine ⟨fun hc=> ?_,fun hc=> ?_⟩
 ·have hlt:i<n:=by omega
  rw [hxx hlt]
  have hwr:i64.wrap ((i:Int)+1)=((i+1:Nat):Int):=by rw [w64 (by omega)];omega
  have hR:∀τ,ZO 8 τ n (Zf L) (Zf L):=fun τ=>ZM fun _ _=>rfl
  refine ⟨by omega,hlt,fun h1=>⟨fun h2=> ?_,fun h2=> ?_⟩,fun h1=> ?_⟩
  ·obtain ⟨⟨e1,e2,e3,e4⟩,hz⟩:=hbk hlt ⟨by simpa using h1,by simpa using h2⟩
   subst e1 e2 e3 e4
   exact ⟨⟨rfl,rfl⟩,rfl,rfl,rfl,rfl,rfl,rfl,rfl,rfl,rfl,hz⟩
  ·exact ⟨hwr,hR _,hgo hlt fun h=>by have:=h.2;simp [this] at h2⟩
  ·exact ⟨hwr,hR _,hgo hlt fun h=>by have:=h.1;simp [this] at h1⟩
 ·obtain ⟨⟨e1,e2,e3,e4⟩,hz⟩:=hx (by omega)
  subst e1 e2 e3 e4
  exact ⟨⟨rfl,rfl⟩,rfl,rfl,rfl,rfl,rfl,rfl,rfl,rfl,rfl,hz⟩
noncomputable def Z7e (L:List Z9) (own:Bool) (id:Int) (n J:Nat) (ls:LoopState) (pe:Option Code) (R:Z9) (b:Bool) (C:Prop):Zd:=ZeL.withL 108 0 (goM 8 (ZaS L own id n 0 .ready none Zo false) C (YR 0 J 9 (fun i=>i<J) (fun i=>i=J) (fun _=>False) (fun _=>False) (fun _=>Z8r ls pe R b) (fun _=>Z8r ls pe R b) (fun _=>Z8r ls pe R b)))
theorem ZcD (L:List Z9) (own:Bool) (id:Int) (n:Nat) (hn:n<1000) (hL:L.length=n) (hno:∀i,i<n→¬isP own id (L.getD i Zo)):(Z7e L own id n n .ready none Zo false True).Ok:=by
 refine Zd.withGoM (N:=20) (S:=fun i=>ZaS L own id n i .ready none Zo false) Z7d (by kernel_rfl) fun _=>⟨rfl,fun i hi _=> ?_⟩
 exact Zg4 L own id n i (L.getD i Zo) .ready none Zo false _ _ hn hL hi (fun _=>rfl) (fun h=>⟨⟨rfl,rfl,rfl,rfl⟩,h⟩) (fun h h'=>absurd h' (hno i h)) (fun h _=>⟨h,h⟩)
theorem ZcE (L:List Z9) (own:Bool) (id:Int) (n J:Nat) (hn:n<1000) (hL:L.length=n) (hJ:J<n) (hyes:isP own id (L.getD J Zo)) (hno:∀i,i<J→¬isP own id (L.getD i Zo)):(Z7e L own id n J .done (some .ret) (L.getD J Zo) true True).Ok:=by
 refine Zd.withGoM (N:=20) (S:=fun i=>ZaS L own id n i .ready none Zo false) Z7d (by kernel_rfl) fun _=>⟨rfl,fun i hi _=> ?_⟩
 refine Zg4 L own id n i (L.getD i Zo) .done (some .ret) _ true _ _ hn hL (by omega) (fun _=>rfl) (fun h=>absurd h (by omega)) (fun h h'=> ?_) (fun h h'=> ?_)
 ·have:i=J:=by
   rcases Nat.lt_or_ge i J with q|q
   ·exact absurd h' (hno i q)
   ·omega
  subst this
  exact ⟨⟨rfl,rfl,rfl,rfl⟩,rfl⟩
 ·have:i≠J:=fun e=>by subst e;exact h' hyes
  exact ⟨by omega,by omega⟩
theorem fdA (X:Za) (own:Bool) (id:Int) (n J:Nat) (C:Prop) (hC:C) (hn:X.L.length=n) (hn2:n<1000) (hcap:X.t.cap≠0):
  evF (Z7e X.L own id n J .ready none Zo false C) 20 48 [WB X,.bool own,.int .i64 id] ⟨0,[]⟩ (Y6 fun v=>v=.tuple [.agg Zo.c,.bool false]):=by
 refine @Eq.mpr _ (let q1:=X.t.cap==0;
 let q2:=AV.int i64 0;
 let q3:=AV.arr u8 32 Zc;
 let q4:=[AV.bool false];
 let q5:=AV.tuple (AV.agg [AV.bool false,q2,q2,q3,q2,q2,q2,q3]::q4)=AV.tuple (AV.agg (Z9.c Zo)::q4);
 let q6:=List.length X.L;
 let q7:=Zf X.L;
 let q8:=decide (q6=n);
 Z0 (!q1) (Z0 q1 q5 (∃(L:List Z9),q6=q6∧q7=Zf L∧q6<1000000∧Z0 q8 (Z0 (decide (n≤q6)) (Z0 (decide ((↑q6:Int)=(↑n:Int))) ((LoopState.ready=LoopState.ready∧(none:Option Code)=none∧(48:FuncId)=48∧(27:Nat)=27∧[(14:Nat)]=[(14:Nat)]∧Ws=Ws∧Wt=Wt)∧Z0 q8 (ZO 8 [] n q7 (Zf L)∧Zc=Zo.hash∧Zc=Zo.secret∧Z0 (decide (id=id)) (Z0 (decide (own=own)) (C∧∀(i:Nat),i≤J→(∀(j:Nat),j<i→(fun (i:Nat)=>i<J) j)→(i=J→q5)∧(False→q5)∧(False→False)) False) False) False) False) False) False)) q5) (by kernel_rfl) ?_
 conv=>zeta
 try simp only [Zi]
 try simp only [Zj]
 try simp only [Zg]
 try simp only [Zk]
 try simp only [Zl]
 try simp only [Zh]
 try simp only [Int.toNat_natCast,Nat.zero_add,true_and,and_true,Nat.le_refl]
 subst hn
 refine ⟨fun _=>⟨fun h=>absurd h (by simpa using hcap),fun _=>⟨X.L,rfl,by omega,rfl,Nat.le_refl _,rfl,rfl,ZM fun _ _=>rfl,rfl,rfl,hC,fun i _ _=>⟨fun _=>rfl,fun _=>rfl,fun h=>h⟩⟩⟩,fun h=>absurd h (by simpa using hcap)⟩
theorem fdB (X:Za) (own:Bool) (id:Int) (n J:Nat) (C:Prop) (R:Z9) (hC:C) (hn:X.L.length=n) (hn2:n<1000) (hcap:X.t.cap≠0):
  evF (Z7e X.L own id n J .done (some .ret) R true C) 20 48 [WB X,.bool own,.int .i64 id] ⟨0,[]⟩ (Y6 fun v=>v=.tuple [.agg R.c,.bool true]):=by
 refine @Eq.mpr _ (let q1:=X.t.cap==0;
 let q2:=AV.int i64 0;
 let q3:=AV.arr u8 32 Zc;
 let q4:=[AV.bool true];
 let q5:=AV.tuple (AV.agg (Z9.c R)::q4);
 let q6:=AV.tuple [AV.agg [AV.bool false,q2,q2,q3,q2,q2,q2,q3],AV.bool false]=q5;
 let q7:=List.length X.L;
 let q8:=Zf X.L;
 let q9:=decide (q7=n);
 let q10:=AV.tuple (AV.agg [AV.bool R.own,AV.int i64 R.id,AV.int i64 R.amount,AV.arr u8 32 R.hash,AV.int i64 R.expiry,AV.int i64 R.stage,AV.int i64 R.fin,AV.arr u8 32 R.secret]::q4)=q5;
 Z0 (!q1) (Z0 q1 q6 (∃(L:List Z9),q7=q7∧q8=Zf L∧q7<1000000∧Z0 q9 (Z0 (decide (n≤q7)) (Z0 (decide ((↑q7:Int)=(↑n:Int))) ((LoopState.ready=LoopState.ready∧(none:Option Code)=none∧(48:FuncId)=48∧(27:Nat)=27∧[(14:Nat)]=[(14:Nat)]∧Ws=Ws∧Wt=Wt)∧Z0 q9 (ZO 8 [] n q8 (Zf L)∧Zc=Zo.hash∧Zc=Zo.secret∧Z0 (decide (id=id)) (Z0 (decide (own=own)) (C∧∀(i:Nat),i≤J→(∀(j:Nat),j<i→(fun (i:Nat)=>i<J) j)→(i=J→q10)∧(False→q10)∧(False→False)) False) False) False) False) False) False)) q6) (by kernel_rfl) ?_
 conv=>zeta
 try simp only [Zi]
 try simp only [Zj]
 try simp only [Zg]
 try simp only [Zk]
 try simp only [Zl]
 try simp only [Zh]
 try simp only [Int.toNat_natCast,Nat.zero_add,true_and,and_true,Nat.le_refl]
 subst hn
 refine ⟨fun _=>⟨fun h=>absurd h (by simpa using hcap),fun _=>⟨X.L,rfl,by omega,rfl,Nat.le_refl _,rfl,rfl,ZM fun _ _=>rfl,rfl,rfl,hC,fun i _ _=>⟨fun _=>rfl,fun _=>rfl,fun h=>h⟩⟩⟩,fun h=>absurd h (by simpa using hcap)⟩
theorem Vg {own:Bool} {id:Int}:∀{L:List Z9},(∀j,j<Xz own id L→¬isP own id (L.getD j Zo))∧(Xz own id L<L.length→isP own id (L.getD (Xz own id L) Zo))∧Xz own id L≤L.length
 | []=>⟨fun j hj=>by simp [Xz] at hj,fun h=>by simp [Xz] at h,Nat.le_refl _⟩
 | x::r=>by
  obtain ⟨h1,h2,h3⟩:=Vg (own:=own) (id:=id) (L:=r)
  unfold Xz
  split
  ·rename_i h
   exact ⟨fun j hj=>absurd hj (Nat.not_lt_zero _),fun _=>h,Nat.zero_le _⟩
  ·rename_i h
   refine ⟨fun j hj=> ?_,fun hl=> ?_,by rw [List.length_cons];omega⟩
   ·cases j with
    | zero=>exact h
    | succ j=>rw [List.getD_cons_succ];exact h1 j (by omega)
   ·rw [List.getD_cons_succ];exact h2 (by rw [List.length_cons] at hl;omega)
def fdH (L:List Z9) (own:Bool) (id:Int):Z9×Bool:=if Xz own id L<L.length then (L.getD (Xz own id L) Zo,true) else (Zo,false)
theorem Z8s {X:Za} (hn:X.L.length<1000) (hcap:X.t.cap≠0) (own:Bool) (id:Int):Zy PP 48 [WB X,.bool own,.int .i64 id] (.tuple [.agg (fdH X.L own id).1.c,.bool (fdH X.L own id).2]) 0 []:=by
 obtain ⟨h1,h2,h3⟩:=Vg (own:=own) (id:=id) (L:=X.L)
 unfold fdH
 by_cases h:Xz own id X.L<X.L.length
 ·rw [if_pos h]
  exact Zy.evV (ZcE X.L own id _ _ hn rfl h (h2 h) h1) (fdB X own id _ _ True _ trivial rfl hn hcap)
 ·rw [if_neg h]
  exact Zy.evV (ZcD X.L own id _ hn rfl fun i hi=>h1 i (by omega)) (fdA X own id _ _ True trivial rfl hn hcap)
def ZeM:ZG:=fun args h K=>ZI none h true 20 args fun a=>match a with
 | [.pview cs 0,.bool own,.int .i64 id]=>∃X,LV cs X∧X.L.length<1000∧X.t.cap≠0∧K (.tuple [.agg (fdH X.L own id).1.c,.bool (fdH X.L own id).2])
 | _=>False
theorem Z8t (args:List AV) (h:Z6) (K:AV→Prop) (hl:ZeM args h K):Zm PP 48 args h fun o h'=>∃v,o=.ret v∧h'=h∧K v:=by
 refine Zy.psumm (d:=20) (Zs _ _ _ _ _ hl fun a ha=> ?_)
 split at ha
 ·obtain ⟨X,hX,h1,h2,hK⟩:=ha
  exact ⟨_,(Z8s h1 h2 _ _).conv fun E r hr=>hr.head (fun _ hc=>W7 hX hc) fun _ hc=>hc,fun _=>rfl,hK⟩
 ·exact ha.elim
end Go.Tk
end
section
namespace Go.Tk
open IntKind (i64 u8 u32 u64 wrap)
def Vh (side s:Int) (p:Int×Nat) (h:Z9):Int×Nat:=if WA side h.own=s∧p.1≤1125899906842624 then (p.1+h.amount,p.2+1) else p
def offD (side s:Int) (L:List Z9):Int×Nat:=L.foldl (Vh side s) (0,0)
theorem Z2D {α β:Type} (g:β→α→β) (d:α) {L:List α} {i:Nat} (hi:i<L.length) (b:β):(L.take (i+1)).foldl g b=g ((L.take i).foldl g b) (L.getD i d):=by
 rw [List.take_succ_eq_append_getElem hi,List.foldl_append,List.getD_eq_getElem?_getD,List.getElem?_eq_getElem hi];rfl
theorem QK {side s:Int} {L:List Z9} (hA:∀h∈L,0≤h.amount∧h.amount≤1125899906842624):∀i,i≤L.length→(0≤(offD side s (L.take i)).1∧(offD side s (L.take i)).1≤2251799813685248)∧(offD side s (L.take i)).2≤i
 | 0,_=>by simp [offD]
 | i+1,hi=>by
  obtain ⟨h1,h2⟩:=QK (side:=side) (s:=s) hA i (by omega)
  unfold offD at*
  rw [Z2D (Vh side s) Zo (by omega)]
  generalize List.foldl (Vh side s) (0,0) (L.take i)=p at*
  have:=hA _ (Y0 (L:=L) (i:=i) (by omega))
  unfold Vh
  split
  ·rename_i hc
   constructor<;>dsimp only<;>omega
  ·omega
def ZcF (X:Za) (s:Int) (n i:Nat) (a:Int) (c:Nat):St:=⟨42,[(8,.int .i64 i),(2,.ptr (some ⟨0,0,0,0,0⟩)),(1,.int .i64 s),(6,.int .i64 a),(7,.int .i64 c)],⟨1,[(0,.flat (X.c (.vrows 70 n (Zf X.L) n)))]⟩,[]⟩
def ZaT (a:Int) (c:Nat):St:=⟨42,[(6,.int .i64 a),(7,.int .i64 c)],⟨0,[]⟩,[]⟩
theorem Zhy (X:Za) (s:Int) (n i:Nat) (x:Z9) (a a1:Int) (c c1:Nat) (Z1 Z2:Prop) (hn:n<1000) (hL:X.L.length=n) (hi:i≤n) (hX:YW X) (hx:i<n→X.L.getD i Zo=x) (ha:i<n→(0≤a∧a≤2251799813685248)∧0≤x.amount∧x.amount≤1125899906842624) (hc:i<n→c<1000) (h1:i<n→(a1,c1)=Vh X.side s (a,c) x) (hZ1:i<n→Z1) (hZ2:i=n→Z2):
  ZD G0 20 96 0 0 (ZcF X s n i a c) (rdM 0 0 9 (ZcF X s n (i+1) a1 c1) (ZaT a c) (ZaT a c) (ZaT a c) Z1 Z2 False False):=by
 refine @Eq.mpr _ (let q1:=decide (0≤(↑i:Int)∧(↑i:Int)<(↑n:Int));
 let q2:=List.getD X.L (Int.toNat (↑i:Int)) Zo;
 let q3:=X.side;
 let q4:=decide (wrap i64 ((↑i:Int)+1)=(↑(i+1):Int));
 let q5:=decide (s=s);
 let q6:=X.t;
 let q7:=q6.fund;
 let q8:=q6.index;
 let q9:=q6.cap;
 let q10:=q6.dust;
 let q11:=q6.fee;
 let q12:=q6.delay;
 let q13:=q6.k0;
 let q14:=q6.k1;
 let q15:=[X.a0,X.a1];
 let q16:=[X.i0,X.i1];
 let q17:=decide (n=n);
 let q18:=Zf X.L;
 let q19:=q7=q7∧Z0 (decide (q8=q8)) (Z0 (decide (q9=q9)) (Z0 (decide (q10=q10)) (Z0 (decide (q11=q11)) (Z0 (decide (q12=q12)) (q13=q13∧q14=q14∧Z0 (decide (q3=q3)) (Z0 (decide (X.res=X.res)) (q15=q15∧q16=q16∧Z0 q17 (q18=q18∧Z0 q17 Z1 False) False) False) False) False) False) False) False) False;
 let q20:=Z0 q4 (Z0 q5 (Z0 (decide (a=a1)) (Z0 (decide ((↑c:Int)=(↑c1:Int))) q19 False) False) False) False;
 let q21:=Z0 (decide (a≤1125899906842624)) (Z0 q1 (Z0 q4 (Z0 q5 (Z0 (decide (wrap i64 (a+q2.amount)=a1)) (Z0 (decide (wrap i64 ((↑c:Int)+1)=(↑c1:Int))) q19 False) False) False) False) False) q20;
 Z0 (decide ((↑i:Int)<(↑n:Int))) (Z0 q1 (Z0 q2.own (Z0 (q3==s) q21 q20) (Z0 (wrap i64 (1-q3)==s) q21 q20)) False) (Z0 (decide (a=a)) (Z0 (decide ((↑c:Int)=(↑c:Int))) Z2 False) False)) (by kernel_rfl) ?_
 conv=>zeta
 try simp only [Zi]
 try simp only [Zj]
 try simp only [Zg]
 try simp only [Zk]
 try simp only [Zl]
 try simp only [Zh]
 try simp only [Int.toNat_natCast,Nat.zero_add,true_and,and_true,Nat.le_refl]
 refine ⟨fun hc'=> ?_,fun hc'=>hZ2 (by omega)⟩
 have hlt:i<n:=by omega
 rw [hx hlt]
 obtain ⟨s1,s2⟩:=hX
 have ha:=ha hlt
 have hc:=hc hlt
 have h1:=h1 hlt
 have hwr:i64.wrap ((i:Int)+1)=((i+1:Nat):Int):=by rw [w64 (by omega)];omega
 have hwf:i64.wrap (1-X.side)=1-X.side:=w64 (by omega)
 have hwa:i64.wrap (a+x.amount)=a+x.amount:=w64 (by omega)
 have hwc:i64.wrap ((c:Int)+1)=(c:Int)+1:=w64 (by omega)
 rw [hwr,hwf,hwa,hwc]
 unfold Vh at h1
 refine ⟨by omega,fun ho=>⟨fun hq=>⟨fun hm=> ?_,fun hm=> ?_⟩,fun hq=> ?_⟩,fun ho=>⟨fun hq=>⟨fun hm=> ?_,fun hm=> ?_⟩,fun hq=> ?_⟩⟩
 all_goals rw [ho] at h1
 all_goals simp only [WA] at h1
 all_goals try (have hq:¬X.side=s:=by simpa using hq)
 all_goals try (have hq:X.side=s:=by simpa using hq)
 all_goals try (have hq:¬1-X.side=s:=by simpa using hq)
 all_goals try (have hq:1-X.side=s:=by simpa using hq)
 all_goals first|simp only [hq,hm,true_and,false_and,and_true,and_false,if_true,if_false,not_false_iff] at h1|simp only [hq,true_and,false_and,if_true,if_false] at h1
 all_goals simp only [Prod.mk.injEq] at h1
 all_goals obtain ⟨e1,e2⟩:=h1
 all_goals repeat' apply And.intro
 all_goals first|omega|exact hZ1 hlt|rfl
def Z6a (X:Za) (n:Nat):Prop:=X.L.length=n∧n<1000∧YW X∧∀h∈X.L,0≤h.amount∧h.amount≤1125899906842624
noncomputable def Zg5 (X:Za) (s:Int) (n:Nat) (C:Prop) (E:Nat→St):Zd:=G0.withL 96 0 (goM 0 (ZcF X s n 0 0 0) C (YR 0 n 9 (fun i=>i<n) (fun i=>i=n) (fun _=>False) (fun _=>False) E E E))
theorem ZcG (X:Za) (s:Int) (n:Nat):(Zg5 X s n (Z6a X n) (fun i=>ZaT (offD X.side s (X.L.take i)).1 (offD X.side s (X.L.take i)).2)).Ok:=by
 refine Zd.withGoM (N:=20) (S:=fun i=>ZcF X s n i (offD X.side s (X.L.take i)).1 (offD X.side s (X.L.take i)).2) Zu (by kernel_rfl) fun hC=>⟨rfl,fun i hi _=> ?_⟩
 obtain ⟨h1,h2,h3,h4⟩:=hC
 have hlt:i<n→i<X.L.length:=fun h=>by omega
 obtain ⟨b1,b2⟩:=QK (side:=X.side) (s:=s) h4 i (by omega)
 refine Zhy X s n i (X.L.getD i Zo) _ _ _ _ _ _ h2 h1 hi h3 (fun _=>rfl) (fun h=>⟨b1,h4 _ (Y0 (hlt h))⟩) (fun h=>by omega) (fun h=> ?_) (fun h=>⟨h,h⟩) (fun h=>h)
 show offD X.side s (X.L.take (i+1))=_
 unfold offD
 rw [Z2D (Vh X.side s) Zo (hlt h)]
theorem Zhz (X:Za) (s:Int) (n:Nat) (a:Int) (c:Nat) (C:Prop) (AF:Nat→Int) (CF:Nat→Nat) (hC:C) (hn:X.L.length=n) (ha:a=AF n) (hc:c=CF n):
  evF (Zg5 X s n C fun i=>ZaT (AF i) (CF i)) 20 96 [.agg (X.c (.vrows 70 n (Zf X.L) n)),.int .i64 s] ⟨0,[]⟩ (Y6 (fun v=>v=.tuple [.int .i64 a,.int .i64 c])):=by
 refine @Eq.mpr _ (let q1:=X.t;
 let q2:=q1.fund;
 let q3:=q1.index;
 let q4:=q1.cap;
 let q5:=q1.dust;
 let q6:=q1.fee;
 let q7:=q1.delay;
 let q8:=q1.k0;
 let q9:=q1.k1;
 let q10:=[X.a0,X.a1];
 let q11:=[X.i0,X.i1];
 let q12:=decide (n=n);
 let q13:=Zf X.L;
 Z0 (decide (s=s)) (q2=q2∧Z0 (decide (q3=q3)) (Z0 (decide (q4=q4)) (Z0 (decide (q5=q5)) (Z0 (decide (q6=q6)) (Z0 (decide (q7=q7)) (q8=q8∧q9=q9∧Z0 (decide (X.side=X.side)) (Z0 (decide (X.res=X.res)) (q10=q10∧q11=q11∧Z0 q12 (q13=q13∧Z0 q12 (C∧∀(i:Nat),i≤n→(∀(j:Nat),j<i→(fun (i:Nat)=>i<n) j)→(i=n→AV.tuple [AV.int i64 (AF i),AV.int i64 ↑(CF i)]=AV.tuple [AV.int i64 a,AV.int i64 ↑c])∧(False→False)∧(False→False)) False) False) False) False) False) False) False) False) False) False) (by kernel_rfl) ?_
 conv=>zeta
 try simp only [Zi]
 try simp only [Zj]
 try simp only [Zg]
 try simp only [Zk]
 try simp only [Zl]
 try simp only [Zh]
 try simp only [Int.toNat_natCast,Nat.zero_add,true_and,and_true,Nat.le_refl]
 refine ⟨hC,fun i _ _=>⟨fun he=> ?_,fun h=>h,fun h=>h⟩⟩
 rw [he,ha,hc]
def Z3A (X:Za):AV:=.agg (X.c (.vrows 70 X.L.length (Zf X.L) X.L.length))
theorem Vi {cs:List AV} {X:Za} (h:LV cs X) {E:Env} {r:Value} (hc:Zb E (.agg cs) r):Zb E (Z3A X) r:=by
 cases hc with
 | agg cs vs hc=>exact .agg _ _ (Z70 h hc)
def Zg6:ZG:=fun args h K=>ZI none h true 20 args fun a=>match a with
 | [.agg cs,.int .i64 s]=>∃X,LV cs X∧Z6a X X.L.length∧K (.tuple [.int .i64 (offD X.side s X.L).1,.int .i64 (offD X.side s X.L).2])
 | _=>False
theorem Z4I (args:List AV) (h:Z6) (K:AV→Prop) (hl:Zg6 args h K):Zm PP 96 args h fun o h'=>∃v,o=.ret v∧h'=h∧K v:=by
 refine Zy.psumm (d:=20) (Zs _ _ _ _ _ hl fun a ha=> ?_)
 split at ha
 ·rename_i cs s
  obtain ⟨X,hX,h1,hK⟩:=ha
  have hv:=Zhz X s X.L.length (offD X.side s X.L).1 (offD X.side s X.L).2 (Z6a X X.L.length) (fun i=>(offD X.side s (X.L.take i)).1) (fun i=>(offD X.side s (X.L.take i)).2) h1 rfl (by rw [List.take_length]) (by rw [List.take_length])
  exact ⟨_,(Zy.evV (ZcG X s _) hv).conv fun E r hr=>hr.head (fun _ hc=>Vi hX hc) fun _ hc=>hc,fun _=>rfl,hK⟩
 ·exact ha.elim
theorem Ub {side s:Int}:∀(L:List Z9) (p:Int×Nat),(∀h∈L,0≤h.amount)→p.1+ZT side s L≤1125899906842624→L.foldl (Vh side s) p=(p.1+ZT side s L,p.2+Z1G side s L)
 | [],p,_,_=>by simp [ZT,Z1G,ZR,Xx]
 | x::r,p,hA,hp=>by
  have hr:=W9 (side:=side) (s:=s) (G:=r) fun z hz=>hA z (by simp [hz])
  have hx:=hA x (by simp)
  rw [X7] at hp
  rw [List.foldl_cons,X7,Z4G]
  unfold Z4F at hp⊢
  unfold ZaL
  by_cases hf:WA side x.own=s
  ·rw [if_pos hf] at hp⊢
   rw [if_pos hf]
   have e:Vh side s p x=(p.1+x.amount,p.2+1):=by unfold Vh;rw [if_pos ⟨hf,by omega⟩]
   rw [e,Ub r _ (fun z hz=>hA z (by simp [hz])) (by dsimp only;omega)]
   simp only [Prod.mk.injEq];omega
  ·rw [if_neg hf] at hp⊢
   rw [if_neg hf]
   have e:Vh side s p x=p:=by unfold Vh;rw [if_neg (fun h=>hf h.1)]
   rw [e,Ub r _ (fun z hz=>hA z (by simp [hz])) (by omega)]
   simp only [Prod.mk.injEq];omega
theorem Za.Inv.offs {H:List Int→List Int} {X:Za} (h:X.Inv H):ZT X.side 0 X.L≤1125899906842624∧ZT X.side 1 X.L≤1125899906842624:=by
 have o0:=h.ov0
 have tb:=Y2 h.tb
 have hr:=h.res
 have ha0:=h.a0
 have ha1:=h.a1
 rw [VO,if_pos rfl,show X.am 0=X.a0 from rfl] at o0
 refine ⟨by omega, ?_⟩
 rcases h.ov1 with k|k
 ·rw [Z1H k];omega
 ·rw [VO,if_neg (by decide),show X.am 1=X.a1 from rfl] at k
  omega
theorem Za.Inv.offD {H:List Int→List Int} {X:Za} (h:X.Inv H) {s:Int} (hs:s=0∨s=1):offD X.side s X.L=(ZT X.side s X.L,(ZR X.side s X.L).length):=by
 have ho:=h.offs
 unfold Go.Tk.offD
 rw [Ub X.L (0,0) (fun z hz=>(h.am.am z hz).1) (by rcases hs with rfl|rfl<;>dsimp only<;>omega)]
 simp only [Int.zero_add,Nat.zero_add];rfl
theorem Za.Inv.od {H:List Int→List Int} {X:Za} (h:X.Inv H):Z6a X X.L.length:=⟨rfl,h.am.n,by have:=h.side;exact ⟨by omega,by omega⟩,h.am.am⟩
def Zdx:ZG:=fun args h K=>ZI none h true 20 args fun a=>match a with
 | [.agg cs,.int .i64 s]=>∃X,LV cs X∧X.Inv ZJ∧(s=0∨s=1)∧K (.tuple [.int .i64 (ZT X.side s X.L),.int .i64 (ZR X.side s X.L).length])
 | _=>False
theorem ZaU (args:List AV) (h:Z6) (K:AV→Prop) (hl:Zdx args h K):Zm PP 96 args h fun o h'=>∃v,o=.ret v∧h'=h∧K v:=by
 refine Z4I args h K (Zs _ _ _ _ _ hl fun a ha=> ?_)
 split at ha
 ·obtain ⟨X,hX,hI,hs,hK⟩:=ha
  refine ⟨X,hX,hI.od, ?_⟩
  rw [hI.offD hs];exact hK
 ·exact ha.elim
noncomputable def Zdy:Zd:=G0.withP 96 Zdx
theorem ZaV:Zdy.Ok:=Zd.withP_ok Zu ZaU
theorem Zg7 (X:Za) (s r:Int) (hs:s=0∨s=1) (hI:X.Inv ZJ) (hr:r=Yx X s):
  evF Zdy 20 97 [Z3A X,.int .i64 s] ⟨0,[]⟩ (Y6 (fun v=>v=.int .i64 r)):=by
 refine @Eq.mpr _ (let q1:=X.t;
 let q2:=q1.fee;
 let q3:=[X.a0,X.a1];
 let q4:=List.length X.L;
 let q5:=0+Int.toNat s;
 ∃(X_1:Za),
 let q11:=wrap i64 (wrap i64 (List.getD q3 q5 0-ZT X_1.side s X_1.L)-X.res);
 LV [AV.arr u8 32 q1.fund,AV.int i64 q1.index,AV.int i64 q1.cap,AV.int i64 q1.dust,AV.int i64 q2,AV.int i64 q1.delay,AV.arr u8 32 q1.k0,AV.arr u8 32 q1.k1,AV.int i64 X.side,AV.int i64 X.res,AV.arr i64 2 q3,AV.arr i64 2 [X.i0,X.i1],AV.vrows 70 q4 (Zf X.L) q4] X_1∧Za.Inv ZJ X_1∧(s=0∨s=1)∧Z0 (decide (0≤s∧s<2)) (Z0 (decide (q5<2)) (Z0 (s==0) (AV.int i64 (wrap i64 (q11-q2))=AV.int i64 r) (AV.int i64 q11=AV.int i64 r)) False) False) (by kernel_rfl) ?_
 conv=>zeta
 try simp only [Zi]
 try simp only [Zj]
 try simp only [Zg]
 try simp only [Zk]
 try simp only [Zl]
 try simp only [Zh]
 try simp only [Int.toNat_natCast,Nat.zero_add,true_and,and_true,Nat.le_refl]
 have tb:=Y2 hI.tb
 have hres:=hI.res
 have ha0:=hI.a0
 have ha1:=hI.a1
 have ho:=hI.offs
 have n0:=W9 (side:=X.side) (s:=0) fun z hz=>(hI.am.am z hz).1
 have n1:=W9 (side:=X.side) (s:=1) fun z hz=>(hI.am.am z hz).1
 refine ⟨X,.a rfl,hI,hs,by omega,by omega,fun h=> ?_,fun h=> ?_⟩
 ·have h0:s=0:=by simpa using h
  subst h0
  rw [hr,VO,if_pos rfl]
  show AV.int .i64 (i64.wrap (i64.wrap (i64.wrap (X.a0-_)-_)-_))=AV.int .i64 (X.a0-_-_-_)
  rw [w64 (x:=X.a0-ZT X.side 0 X.L) (by omega),w64 (x:=X.a0-ZT X.side 0 X.L-X.res) (by omega),w64 (by omega)]
 ·have h0:s=1:=by
   have:¬s=0:=by simpa using h
   omega
  subst h0
  rw [hr,VO,if_neg (by decide)]
  show AV.int .i64 (i64.wrap (i64.wrap (X.a1-_)-_))=AV.int .i64 (X.a1-_-_-0)
  rw [w64 (x:=X.a1-ZT X.side 1 X.L) (by omega),w64 (by omega),Int.sub_zero]
def Zg8:ZG:=fun args h K=>ZI none h true 20 args fun a=>match a with
 | [.agg cs,.int .i64 s]=>∃X,LV cs X∧X.Inv ZJ∧(s=0∨s=1)∧K (.int .i64 (Yx X s))
 | _=>False
theorem ZcH (args:List AV) (h:Z6) (K:AV→Prop) (hl:Zg8 args h K):Zm PP 97 args h fun o h'=>∃v,o=.ret v∧h'=h∧K v:=by
 refine Zy.psumm (d:=20) (Zs _ _ _ _ _ hl fun a ha=> ?_)
 split at ha
 ·obtain ⟨X,hX,hI,hs,hK⟩:=ha
  exact ⟨_,(Zy.evV ZaV (Zg7 X _ _ hs hI rfl)).conv fun E r hr=>hr.head (fun _ hc=>Vi hX hc) fun _ hc=>hc,fun _=>rfl,hK⟩
 ·exact ha.elim
noncomputable def ZaW:Zd:=(G0.withP 97 Zg8).withP 79 Zey
theorem Z4J:ZaW.Ok:=Zd.withP_ok (Zd.withP_ok Zu ZcH) Z76
def leftV (X:Za) (s:Int):Int:=if s=0∨s=1 then max 0 (Yx X s) else 0
theorem Z1L {X:Za} {s:Int} (hs:s=0∨s=1):(if Yx X s>0 then Yx X s else 0)=leftV X s:=by
 unfold leftV
 rw [if_pos hs]
 split<;>omega
theorem QL {X:Za} {s:Int} (hs:¬(s=0∨s=1)):leftV X s=0:=by unfold leftV;rw [if_neg hs]
theorem Zg9 (X:Za) (s r:Int) (hI:X.Inv ZJ) (hr:r=leftV X s):
  evF ZaW 20 49 [Z3A X,.int .i64 s] ⟨0,[]⟩ (Y6 (fun v=>v=.int .i64 r)):=by
 refine @Eq.mpr _ (let q1:=X.t;
 let q2:=List.length X.L;
 let q3:=∃(X_1:Za),LV [AV.arr u8 32 q1.fund,AV.int i64 q1.index,AV.int i64 q1.cap,AV.int i64 q1.dust,AV.int i64 q1.fee,AV.int i64 q1.delay,AV.arr u8 32 q1.k0,AV.arr u8 32 q1.k1,AV.int i64 X.side,AV.int i64 X.res,AV.arr i64 2 [X.a0,X.a1],AV.arr i64 2 [X.i0,X.i1],AV.vrows 70 q2 (Zf X.L) q2] X_1∧Za.Inv ZJ X_1∧(s=0∨s=1)∧AV.int i64 (if Yx X_1 s>0 then Yx X_1 s else 0)=AV.int i64 r;
 Z0 (s !=0) (Z0 (s !=1) (AV.int i64 0=AV.int i64 r) q3) q3) (by kernel_rfl) ?_
 conv=>zeta
 try simp only [Zi]
 try simp only [Zj]
 try simp only [Zg]
 try simp only [Zk]
 try simp only [Zl]
 try simp only [Zh]
 try simp only [Int.toNat_natCast,Nat.zero_add,true_and,and_true,Nat.le_refl]
 subst hr
 refine ⟨fun h0=>⟨fun h1=> ?_,fun h1=> ?_⟩,fun h0=> ?_⟩
 ·rw [QL]
  intro h
  rcases h with rfl|rfl
  ·simp at h0
  ·simp at h1
 ·have hs:s=0∨s=1:=.inr (by simpa using h1)
  exact ⟨X,.a rfl,hI,hs,by rw [Z1L hs]⟩
 ·have hs:s=0∨s=1:=.inl (by simpa using h0)
  exact ⟨X,.a rfl,hI,hs,by rw [Z1L hs]⟩
theorem Zga (X:Za) (s r:Int) (hI:X.Inv ZJ) (hr:r=leftV X s):
  evF ZaW 20 25 [WB X,.int .i64 s] ⟨0,[]⟩ (Y6 (fun v=>v=.int .i64 r)):=by
 refine @Eq.mpr _ (let q1:=AV.int i64 0=AV.int i64 r;
 let q2:=List.length X.L;
 Z0 (X.t.cap==0) q1 (Z0 (decide (0≤s)) (Z0 (!decide (s≤1)) q1 (∃(X_1:Za),LV (Za.c X (AV.vrows 70 q2 (Zf X.L) q2)) X_1∧(0≤X_1.side∧X_1.side≤1)∧(s=0∨s=1)∧Z4x X_1∧AV.int i64 (if Yx X_1 s>0 then Yx X_1 s else 0)=AV.int i64 r)) q1)) (by kernel_rfl) ?_
 conv=>zeta
 try simp only [Zi]
 try simp only [Zj]
 try simp only [Zg]
 try simp only [Zk]
 try simp only [Zl]
 try simp only [Zh]
 try simp only [Int.toNat_natCast,Nat.zero_add,true_and,and_true,Nat.le_refl]
 subst hr
 have hsd:=hI.side
 refine ⟨fun h=>absurd h (by simpa using WY hI.tb),fun _=>⟨fun h0=>⟨fun h1=> ?_,fun h1=> ?_⟩,fun h0=> ?_⟩⟩
 ·have:¬s≤1:=by simpa using h1
  rw [QL (by omega)]
 ·have:s≤1:=by simpa using h1
  have hs:s=0∨s=1:=by omega
  exact ⟨X,.a rfl,by omega,hs,hI.am,by rw [Z1L hs]⟩
 ·rw [QL (by omega)]
theorem Z6b {X:Za} (hI:X.Inv ZJ) (s:Int):Zy PP 49 [Z3A X,.int .i64 s] (.int .i64 (leftV X s)) 0 []:=Zy.evV Z4J (Zg9 X s _ hI rfl)
theorem Z8u {X:Za} (hI:X.Inv ZJ) (s:Int):Zy PP 25 [WB X,.int .i64 s] (.int .i64 (leftV X s)) 0 []:=Zy.evV Z4J (Zga X s _ hI rfl)
def ZaX:ZG:=fun args h K=>ZI none h true 20 args fun a=>match a with
 | [.agg cs,.int .i64 s]=>∃X,LV cs X∧X.Inv ZJ∧K (.int .i64 (leftV X s))
 | _=>False
theorem Z8v (args:List AV) (h:Z6) (K:AV→Prop) (hl:ZaX args h K):Zm PP 49 args h fun o h'=>∃v,o=.ret v∧h'=h∧K v:=by
 refine Zy.psumm (d:=20) (Zs _ _ _ _ _ hl fun a ha=> ?_)
 split at ha
 ·obtain ⟨X,hX,hI,hK⟩:=ha
  exact ⟨_,(Z6b hI _).conv fun E r hr=>hr.head (fun _ hc=>Vi hX hc) fun _ hc=>hc,fun _=>rfl,hK⟩
 ·exact ha.elim
def ZaY:ZG:=fun args h K=>ZI none h true 20 args fun a=>match a with
 | [.pview cs 0,.int .i64 s]=>∃X,LV cs X∧X.Inv ZJ∧K (.int .i64 (leftV X s))
 | _=>False
theorem Z8w (args:List AV) (h:Z6) (K:AV→Prop) (hl:ZaY args h K):Zm PP 25 args h fun o h'=>∃v,o=.ret v∧h'=h∧K v:=by
 refine Zy.psumm (d:=20) (Zs _ _ _ _ _ hl fun a ha=> ?_)
 split at ha
 ·obtain ⟨X,hX,hI,hK⟩:=ha
  exact ⟨_,(Z8u hI _).conv fun E r hr=>hr.head (fun _ hc=>W7 hX hc) fun _ hc=>hc,fun _=>rfl,hK⟩
 ·exact ha.elim
end Go.Tk
end
section
namespace Go.Tk
open IntKind (i64 u8 u32 u64 wrap)
def X3:Za:=⟨⟨Zc,0,0,0,0,0,Zc,Zc⟩,0,0,0,0,0,0,[]⟩
def slH (b n:Nat):AV:=.nslice ⟨b,0,70,0,0⟩ 70 n n
def plI (own:Bool):Int:=match own with
 | true=>0
 | false=>1
theorem ZhA (own:Bool) (r:Int) (hr:r=plI own):
  evF G0 20 99 [.bool own] ⟨0,[]⟩ (Y6 (fun v=>v=.int .i64 r)):=by
 refine @Eq.mpr _ (Z0 own (AV.int i64 0=AV.int i64 r) (AV.int i64 1=AV.int i64 r)) (by kernel_rfl) ?_
 subst hr
 cases own<;>exact rfl
def plS:ZG:=fun args _ K=>match args with
 | [.bool own]=>K (.int .i64 (plI own))
 | _=>False
theorem ZeN (args:List AV) (h:Z6) (K:AV→Prop) (hl:plS args h K):Zm PP 99 args h fun o h'=>∃v,o=.ret v∧h'=h∧K v:=by
 unfold plS at hl
 split at hl
 ·exact ZQ Zu rfl (ZhA _ _ rfl) (fun u hu=>hu▸hl)
 ·exact hl.elim
def sdS:ZG:=fun args h K=>ZI none h true 20 args fun a=>match a with
 | [.agg cs,.bool own]=>∃X,LV cs X∧YW X∧K (.int .i64 (WA X.side own))
 | _=>False
theorem Zgb (h:Z9) (z:Int) (b:Bool) (hz:z=0) (hb:b=Xy h):
  evF G0 20 98 [.agg [.int .i64 z,.int .i64 h.id,.int .i64 h.amount,.arr .u8 32 h.hash,.int .i64 h.expiry]] ⟨0,[]⟩ (Y6 (fun v=>v=.bool b)):=by
 refine @Eq.mpr _ (let q1:=h.amount;
 let q2:=AV.bool false=AV.bool b;
 let q3:=Z0 (decide (h.id≥0)) (Z0 (decide (h.id≤2147483647)) (Z0 (decide (q1>0)) (Z0 (decide (q1≥0)) (Z0 (decide (q1≤1125899906842624)) (Z0 (decide (h.expiry≥1)) (AV.bool (decide (h.expiry≤2147483647))=AV.bool b) q2) q2) q2) q2) q2) q2;
 Z0 (z==0) q3 (Z0 (z==1) q3 q2)) (by kernel_rfl) ?_
 conv=>zeta
 subst hz hb
 unfold Xy
 simp only [WX]
 congr 1
 by_cases h1:0≤h.id<;>by_cases h2:h.id≤2147483647<;>by_cases h3:1≤h.amount<;>by_cases h4:h.amount≤1125899906842624<;>by_cases h5:1≤h.expiry<;>by_cases h6:h.expiry≤2147483647<;>simp [h1,h2,h3,h4,h5,h6]<;>omega
def ZeO:ZG:=fun args _ K=>match args with
 | [.agg [.int .i64 z,.int .i64 id,.int .i64 am,.arr .u8 32 ha,.int .i64 ex]]=>Zt (z=0) (K (.bool (Xy ⟨false,id,am,ha,ex,0,0,[]⟩)))
 | _=>False
theorem ZcI (args:List AV) (h:Z6) (K:AV→Prop) (hl:ZeO args h K):Zm PP 98 args h fun o h'=>∃v,o=.ret v∧h'=h∧K v:=by
 unfold ZeO at hl
 split at hl
 ·obtain ⟨h1,hK⟩:=Z8 hl
  exact ZQ Zu rfl (Zgb ⟨false,_,_,_,_,0,0,[]⟩ _ _ h1 rfl) (fun u hu=>hu▸hK)
 ·exact hl.elim
end Go.Tk
end
section
namespace Go.Tk
open IntKind (i64 u8 u32 u64 wrap)
def UW (F:List Int→Int×Int) (xs:List Int):Option (Za×Int×Nat):=
 (rdH xs 0).bind fun a=>(r5 F xs a.2).bind fun b=>(rdH xs b.2).bind fun c=>(rdH xs c.2).bind fun d=>(rdN F xs d.2 1).bind fun e=>(r5 F xs e.2).bind fun f=>(rdN F xs f.2 16).bind fun g=>
 some (⟨⟨a.1,b.1.a,b.1.b,b.1.c,b.1.d,b.1.e,c.1,d.1⟩,e.1,f.1.a,f.1.b,f.1.c,f.1.d,f.1.e,[]⟩,g.1,g.2)
def YN (F:List Int→Int×Int) (xs:List Int):Option Za:=
 (UW F xs).bind fun h=>(rdL F xs h.2.2 h.2.1.toNat).bind fun l=>if l.2=xs.length then some { h.1 with L:=l.1} else none
theorem Z6c {xs:List Int} (h:∀x∈xs,0≤x∧x≤255):Bytes xs:=⟨fun i=>by
 rw [List.getD_eq_getElem?_getD]
 rcases Nat.lt_or_ge i xs.length with q|q
 ·rw [List.getElem?_eq_getElem q];exact h _ (List.getElem_mem q)
 ·rw [List.getElem?_eq_none q];exact ⟨by decide,by decide⟩⟩
theorem Bytes.take {xs:List Int} (h:Bytes xs) (n:Nat):Bytes (xs.take n):=Z6c fun x hx=>by
 obtain ⟨i,hi,rfl⟩:=List.getElem_of_mem (List.mem_of_mem_take hx)
 have:=h.h i
 rwa [List.getD_eq_getElem?_getD,List.getElem?_eq_getElem hi] at this
theorem Z01 {xs hh:List Int} {o p:Nat} (hb:Bytes xs) (h:rdH xs o=some (hh,p)):hh.length=32∧Bytes hh:=by
 unfold rdH at h
 split at h
 ·cases h
  exact ⟨by rw [List.length_take,List.length_drop];omega,(hb.drop o).take 32⟩
 ·cases h
theorem ZeP {xs:List Int} {o p:Nat} {x:Z9} (hb:Bytes xs) (h:Yy (Ze Zn) xs o=some (x,p)):x.Ok:=by
 unfold Yy at h
 simp only [Option.bind_eq_some_iff] at h
 obtain ⟨a,h1,b,h2,c,h3,d,h4,e,h5,f,h6,g,h7,s,h8,h9⟩:=h
 have k4:=Z01 hb h4
 have k8:s.1.length=32∧Bytes s.1:=by
  unfold Z1B at h8
  split at h8
  ·exact Z01 hb h8
  ·cases h8;exact ⟨rfl,Z3y⟩
 cases h9
 exact ⟨k4.1,k4.2,k8.1,k8.2⟩
theorem Z7f {xs:List Int} {o:Nat} (hb:Bytes xs):∀{n:Nat} {L:List Z9} {p:Nat},rdL (Ze Zn) xs o n=some (L,p)→∀x∈L,x.Ok
 | 0,L,p,h,x,hx=>by cases h;cases hx
 | n+1,L,p,h,x,hx=>by
  unfold rdL at h
  simp only [Option.bind_eq_some_iff] at h
  obtain ⟨a,h1,b,h2,h3⟩:=h
  cases h3
  rcases List.mem_append.1 hx with hx|hx
  ·exact Z7f hb h1 x hx
  ·rw [List.mem_singleton] at hx;subst hx;exact ZeP hb h2
def ZaZ (ok:Bool) (X:Za) (n:Nat):KO:=fun o h=>match o with
 | .ret (.tuple [.ptr none,.int .i64 _])=>Z0 ok False (Ya 0 (.ret (.tuple [.ptr none,.int .i64 204])) 0 [] o h)
 | .ret (.tuple [.ptr (some _),.int .i64 _])=>Z0 ok (Ya 0 (.ret (.tuple [.ptr (some ⟨0,0,0,0,0⟩),.int .i64 0])) 2 [(0,.flat (X.c (slH 1 n))),(1,.rows 70 n (Zf X.L))] o h) False
 | _=>False
theorem Zgc (F:List Int→Int×Int) (H:List Int→List Int) (xs:List Int) (N:Nat) (X:Za) (n:Nat) (ok:Bool) (hN:xs.length=N) (hB:N<90000000000000) (hb:Bytes xs) (hn:X.L.length=n) (hF:F=Ze Zn) (hok:ok=true→YN F xs=some X∧Y7 H X=true) (hno:ok=false→∀Y,YN F xs=some Y→Y7 H Y=false):
  evF (ZfT F H) 20 17 [.vints .u8 xs N] ⟨0,[]⟩ (ZaZ ok X n):=by
 refine @Eq.mpr _ (let q1:=List.length xs;
 let q2:=[(0:Int),0];
 let q3:=Z0 ok False True;
 let q4:=X.t;
 Z0 (decide (q1=N∧N<90000000000000))
 (Z0 (decide (N=q1-0∧0≤q1∧N=q1-0))
 ((∀(hh:List Int) (o':Nat),
 rdH xs 0=some (hh,o')→
 0≤o'∧o'≤q1∧List.length hh=32→
 ∃(X_1:Za),
 let q9:=X_1.t;
 ∃(xs_1:List Int),
 let q11:=List.length xs_1;
 ∃(o:Nat),
 xs=xs_1∧
 Z0 (decide (o'=o))
 (Z0 (decide (q1-o'=q11-o))
 (Z0 (decide (q11-o≤q1-o'))
 (hh=q9.fund∧
 Z0 (decide (0=q9.index))
 (Z0 (decide (0=q9.cap))
 (Z0 (decide (0=q9.dust))
 (Z0 (decide (0=q9.fee))
 (Z0 (decide (0=q9.delay))
 (Zc=q9.k0∧
 Zc=q9.k1∧
 Z0 (decide (0=X_1.side))
 (Z0 (decide (0=X_1.res))
 (q2=[X_1.a0,X_1.a1]∧
 q2=[X_1.i0,X_1.i1]∧
 o≤q11∧
 (∀(n_1:N5),
 let q13:=ZaC X_1 n_1;
 let q14:=q13.t;
 ∀(q:Nat),
 r5 F xs_1 o=some (n_1,q)→
 q≤q11→
 Z0 (decide (q11-q=q11-q∧q≤q11∧q11-q=q11-q))
 ((∀(hh:List Int) (o':Nat),
 rdH xs_1 q=some (hh,o')→
 q≤o'∧o'≤q11∧List.length hh=32→
 Z0 (decide (q11-o'=q11-o'∧o'≤q11∧q11-o'=q11-o'))
 ((∀(hh_1:List Int) (o'_1:Nat),
 let q17:=rdN F xs_1 o'_1 1;
 rdH xs_1 o'=some (hh_1,o'_1)→
 o'≤o'_1∧o'_1≤q11∧List.length hh_1=32→
 Z0 (decide (q11-o'_1=q11-o'_1∧o'_1≤q11∧q11-o'_1=q11-o'_1∧(0:Int)≤1))
 ((∀(v:Int) (o':Nat),
 q17=some (v,o')→
 o'_1≤o'∧o'≤q11∧v≤1→
 ∃(X_2:Za),
 let q19:=X_2.t;
 ∃(xs:List Int),
 let q21:=List.length xs;
 ∃(o:Nat),
 xs_1=xs∧
 Z0 (decide (o'=o))
 (Z0 (decide (q11-o'=q21-o))
 (Z0 (decide (q21-o≤q11-o'))
 (q14.fund=q19.fund∧
 Z0 (decide (q14.index=q19.index))
 (Z0 (decide (q14.cap=q19.cap))
 (Z0 (decide (q14.dust=q19.dust))
 (Z0 (decide (q14.fee=q19.fee))
 (Z0 (decide (q14.delay=q19.delay))
 (hh=q19.k0∧
 hh_1=q19.k1∧
 Z0 (decide (v=X_2.side))
 (Z0 (decide (q13.res=X_2.res))
 ([q13.a0,q13.a1]=[X_2.a0,X_2.a1]∧
 [q13.i0,q13.i1]=[X_2.i0,X_2.i1]∧
 o≤q21∧
 (∀(n_2:N5),
 let q23:=ZaD X_2 n_2;
 let q24:=q23.t;
 ∀(q:Nat),
 let q27:=rdN F xs q 16;
 r5 F xs o=some (n_2,q)→
 q≤q21→
 Z0 (decide (q21-q=q21-q∧q≤q21∧q21-q=q21-q∧(0:Int)≤16))
 ((∀(v:Int) (o':Nat),
 q27=some (v,o')→
 q≤o'∧o'≤q21∧v≤16→
 ∃(X_3:Za),
 let q29:=X_3.t;
 let q30:=q29.fund;
 let q31:=q29.index;
 let q32:=q29.cap;
 let q33:=q29.dust;
 let q34:=q29.fee;
 let q35:=q29.delay;
 let q36:=q29.k0;
 let q37:=q29.k1;
 let q38:=X_3.side;
 let q39:=X_3.res;
 let q40:=[X_3.a0,X_3.a1];
 let q41:=[X_3.i0,X_3.i1];
 ∃(xs_2:List Int),
 let q55:=List.length xs_2;
 ∃(cnt:Int),
 ∃(o:Nat),
 Z0 (decide (v=cnt))
 (xs=xs_2∧
 Z0 (decide (o'=o))
 (Z0 (decide (q21-o'=q55-o))
 (Z0 (decide (q55-o≤q21-o'))
 (q24.fund=q30∧
 Z0 (decide (q24.index=q31))
 (Z0 (decide (q24.cap=q32))
 (Z0 (decide (q24.dust=q33))
 (Z0 (decide (q24.fee=q34))
 (Z0 (decide (q24.delay=q35))
 (q24.k0=q36∧
 q24.k1=q37∧
 Z0 (decide (q23.side=q38))
 (Z0 (decide (q23.res=q39))
 ([q23.a0,q23.a1]=q40∧
 [q23.i0,q23.i1]=q41∧
 o≤q55∧
 cnt≤16∧
 (∀(n_3:Nat),
 let q57:=decide (n_3=n);
 ∀(L:List Z9) (p:Nat),
 let q59:=q55-p;
 n_3=Int.toNat cnt→
 rdL F xs_2 o n_3=some (L,p)→
 (List.length L=n_3∧p≤q55∧n_3≤16∧∀(x:Z9),x∈L→List.length x.hash=32∧List.length x.secret=32)→
 Z0 (decide (q59=q59))
 (Z0 (decide (q59=0))
 (Z0 (decide (0+n_3≤n_3))
 ((∀(i:Nat),i<n_3→true=true)∧
 ∃(X_4:Za),LV [AV.arr u8 32 q30,AV.int i64 q31,AV.int i64 q32,AV.int i64 q33,AV.int i64 q34,AV.int i64 q35,AV.arr u8 32 q36,AV.arr u8 32 q37,AV.int i64 q38,AV.int i64 q39,AV.arr i64 2 q40,AV.arr i64 2 q41,AV.vrows 70 n_3 (XW 0 (Zf L)) n_3] X_4∧YM.Ok X_4.t∧(∀(h:Z9),List.Mem h X_4.L→Z9.Ok h)∧List.length X_4.L<1000∧Z0 (!Y7 H X_4) q3 (Z0 ok (q30=q4.fund∧Z0 (decide (q31=q4.index)) (Z0 (decide (q32=q4.cap)) (Z0 (decide (q33=q4.dust)) (Z0 (decide (q34=q4.fee)) (Z0 (decide (q35=q4.delay)) (q36=q4.k0∧q37=q4.k1∧Z0 (decide (q38=X.side)) (Z0 (decide (q39=X.res)) (q40=[X.a0,X.a1]∧q41=[X.i0,X.i1]∧Z0 q57 (Z0 (decide (n≤n_3)) (Z0 q57 (ZO 0 [(1,6),(0,5)] n (Zf X.L) (Zf L)∧True) False) False) False) False) False) False) False) False) False) False) False))
 False)
 q3)
 False)∧
 (rdL F xs_2 o (Int.toNat cnt)=none→q3))
 False)
 False)
 False)
 False)
 False)
 False)
 False)
 False)
 False)
 False)
 False)∧
 (q27=none→q3))
 False)∧
 (r5 F xs o=none→q3))
 False)
 False)
 False)
 False)
 False)
 False)
 False)
 False)
 False)
 False)∧
 (q17=none→q3))
 False)∧
 (rdH xs_1 o'=none→q3))
 False)∧
 (rdH xs_1 q=none→q3))
 False)∧
 (r5 F xs_1 o=none→q3))
 False)
 False)
 False)
 False)
 False)
 False)
 False)
 False)
 False)
 False)∧
 (rdH xs 0=none→q3))
 False)
 False) (by kernel_rfl) ?_
 conv=>zeta
 try simp only [Zi]
 try simp only [Zj]
 try simp only [Zg]
 try simp only [Zk]
 try simp only [Zl]
 try simp only [Zh]
 try simp only [Int.toNat_natCast,Nat.zero_add,true_and,and_true,Nat.le_refl]
 have bad:YN F xs=none→ok=false:=fun h=>Bool.eq_false_iff.2 fun e=>by rw [(hok e).1] at h;cases h
 subst hN
 refine ⟨⟨rfl,hB⟩,⟨by omega,by omega,by omega⟩,fun hh o1 h1 b1=> ?_,fun h1=>bad (by simp [YN,UW,h1])⟩
 refine ⟨⟨⟨hh,0,0,0,0,0,Zc,Zc⟩,0,0,0,0,0,0,[]⟩,xs,o1,rfl,rfl,rfl,Nat.le_refl _,rfl,rfl,rfl,rfl,rfl,rfl,rfl,rfl,rfl,rfl,rfl,rfl,b1.2.1,fun n5 q h2 b2=> ?_,fun h2=>bad (by simp [YN,UW,h1,h2])⟩
 refine ⟨b2,fun k0 o2 h3 b3=> ?_,fun h3=>bad (by simp [YN,UW,h1,h2,h3])⟩
 refine ⟨b3.2.1,fun k1 o3 h4 b4=> ?_,fun h4=>bad (by simp [YN,UW,h1,h2,h3,h4])⟩
 refine ⟨⟨b4.2.1,by omega⟩,fun sd o4 h5 b5=> ?_,fun h5=>bad (by simp [YN,UW,h1,h2,h3,h4,h5])⟩
 refine ⟨⟨⟨hh,n5.a,n5.b,n5.c,n5.d,n5.e,k0,k1⟩,sd,0,0,0,0,0,[]⟩,xs,o4,rfl,rfl,rfl,Nat.le_refl _,rfl,rfl,rfl,rfl,rfl,rfl,rfl,rfl,rfl,rfl,rfl,rfl,b5.2.1,fun m5 q2 h6 b6=> ?_,fun h6=>bad (by simp [YN,UW,h1,h2,h3,h4,h5,h6])⟩
 refine ⟨⟨b6,by omega⟩,fun cnt o5 h7 b7=> ?_,fun h7=>bad (by simp [YN,UW,h1,h2,h3,h4,h5,h6,h7])⟩
 refine ⟨⟨⟨hh,n5.a,n5.b,n5.c,n5.d,n5.e,k0,k1⟩,sd,m5.a,m5.b,m5.c,m5.d,m5.e,[]⟩,xs,cnt,o5,rfl,rfl,rfl,rfl,Nat.le_refl _,rfl,rfl,rfl,rfl,rfl,rfl,rfl,rfl,rfl,rfl,rfl,rfl,b7.2.1,b7.2.2,fun n3 L p en h8 b8=> ?_,fun h8=>bad (by simp [YN,UW,h1,h2,h3,h4,h5,h6,h7,h8])⟩
 subst en
 refine ⟨fun hp=> ?_,fun hp=>bad ?_⟩
 rotate_left
 ·have:¬p=xs.length:=by omega
  simp [YN,UW,h1,h2,h3,h4,h5,h6,h7,h8,this]
 have hp:p=xs.length:=by omega
 have hr:YN F xs=some ⟨⟨hh,n5.a,n5.b,n5.c,n5.d,n5.e,k0,k1⟩,sd,m5.a,m5.b,m5.c,m5.d,m5.e,L⟩:=by simp [YN,UW,h1,h2,h3,h4,h5,h6,h7,h8,hp]
 subst hF
 have q0:=Z01 hb h3
 have q1:=Z01 hb h4
 refine ⟨fun _ _=>trivial,⟨⟨hh,n5.a,n5.b,n5.c,n5.d,n5.e,k0,k1⟩,sd,m5.a,m5.b,m5.c,m5.d,m5.e,L⟩,.a (by rw [←b8.1];rfl),⟨q0.1,q1.1,q0.2,q1.2⟩,Z7f hb h8,(show L.length<1000 by omega),fun hR=> ?_,fun hR=> ?_⟩
 ·refine Bool.eq_false_iff.2 fun e=> ?_
  obtain ⟨e1,e2⟩:=hok e
  rw [hr] at e1
  cases e1
  rw [e2] at hR
  cases hR
 ·have e:ok=true:=by
   cases h:ok with
   | true=>rfl
   | false=>
    rw [hno h _ hr] at hR
    cases hR
  obtain ⟨e1,e2⟩:=hok e
  rw [hr] at e1
  cases e1
  subst hn
  repeat' first
   | exact e
   | exact b8.1.symm
   | exact Nat.le_of_eq b8.1
   | apply And.intro
   | rfl
   | exact ZM fun _ _=>rfl
   | omega
theorem ZeQ {X:Za} {n:Nat} {o:Out} {h:Z6} (hk:ZaZ true X n o h):Ya 0 (.ret (.tuple [.ptr (some ⟨0,0,0,0,0⟩),.int .i64 0])) 2 [(0,.flat (X.c (slH 1 n))),(1,.rows 70 n (Zf X.L))] o h:=by
 unfold ZaZ at hk
 split at hk
 ·exact hk.elim
 ·exact hk
 ·exact hk.elim
theorem ZeR {X:Za} {n:Nat} {o:Out} {h:Z6} (hk:ZaZ false X n o h):Ya 0 (.ret (.tuple [.ptr none,.int .i64 204])) 0 [] o h:=by
 unfold ZaZ at hk
 split at hk
 ·exact hk
 ·exact hk.elim
 ·exact hk.elim
structure Z4K (F:List Int→Int×Int) (H:List Int→List Int) (xs:List Int) (R:Option Za):Prop where
 h:match R with
  | some X=>YN F xs=some X∧Y7 H X=true
  | none=>∀X,YN F xs=some X→Y7 H X=false
def Zb0 (F:List Int→Int×Int) (H:List Int→List Int) (R:Option Za):Yn:=fun args h K=>frA [] h 20 args fun Bs a=>match Bs,a with
 | [],[.vints .u8 xs N]=>(xs.length=N∧N<90000000000000∧Bytes xs)∧Z4K F H xs R∧(match R with
  | some X=>K (.ret (.tuple [.ptr (some ⟨h.next,0,0,0,0⟩),.int .i64 0])) ⟨h.next+2,(h.next,.flat (X.c (slH (h.next+1) X.L.length)))::(h.next+1,.rows 70 X.L.length (Zf X.L))::h.bs⟩
  | none=>K (.ret (.tuple [.ptr none,.int .i64 204])) h)
 | _,_=>False
theorem Zb1 {R:Option Za} (args:List AV) (h:Z6) (K:KO) (hl:Zb0 (Ze Zn) ZJ R args h K):Zm PP 17 args h K:=by
 unfold Zb0 at hl
 refine Spec.fsumm hl fun Bs a hlen hK0=> ?_
 split at hK0
 ·obtain ⟨⟨h1,h2,h3⟩,⟨hR⟩,hK⟩:=hK0
  rename_i xs N
  cases R with
  | some X=>exact ⟨_,_,_,_,_,Spec.evK Z79 (Zgc _ ZJ xs N X X.L.length true h1 h2 h3 rfl rfl (fun _=>hR) (fun h=>by cases h)) (fun o' h' hk=>ZeQ hk),Nat.zero_le _,.ret _ _ rfl,.cons _ _ _ _ _ _ rfl (.flat _ _ rfl) (.cons _ _ _ _ _ _ rfl (.rows _ _ _ (fun _ _=>rfl)) .nil),hK⟩
  | none=>exact ⟨_,_,_,_,_,Spec.evK Z79 (Zgc _ ZJ xs N ⟨⟨[],0,0,0,0,0,[],[]⟩,0,0,0,0,0,0,[]⟩ 0 false h1 h2 h3 rfl rfl (fun h=>by cases h) (fun _=>hR)) (fun o' h' hk=>ZeR hk),Nat.zero_le _,.ret _ _ rfl,.nil,hK⟩
 ·exact hK0.elim
end Go.Tk
end
section
namespace Go.Tk
open IntKind (i64 u8 u32 u64 wrap)
structure RS where
 o:Nat
 bad:Bool
def Yo (F:List Int→Int×Int) (xs:List Int) (s:RS) (most:Int):Int×RS:=match s.bad with
 | true=>(0,s)
 | false=>match rdN F xs s.o most with
  | some (v,p)=>(v,⟨p,false⟩)
  | none=>(0,⟨s.o,true⟩)
def Xl (xs:List Int) (s:RS):List Int×RS:=match s.bad with
 | true=>(Zc,s)
 | false=>match rdH xs s.o with
  | some (v,p)=>(v,⟨p,false⟩)
  | none=>(Zc,⟨s.o,true⟩)
def Z7g (F:List Int→Int×Int):ZG:=fun args _ K=>match args with
 | [.agg [.vints .u8 ys n,.bool b],.int .i64 most]=>∃xs s,ys=List.drop (RS.o s) xs∧(n=xs.length-s.o∧b=s.bad∧s.o≤xs.length∧Bytes xs∧0≤most)∧
   ∀v t,Yo F xs s most=(v,t)→t.o≤xs.length→K (.tuple [.agg [.vints .u8 (xs.drop t.o) (xs.length-t.o),.bool t.bad],.int .i64 v])
 | _=>False
def Z3B:ZG:=fun args _ K=>match args with
 | [.agg [.vints .u8 ys n,.bool b]]=>∃xs s,ys=List.drop (RS.o s) xs∧(n=xs.length-s.o∧b=s.bad∧s.o≤xs.length)∧
   ∀v t,Xl xs s=(v,t)→t.o≤xs.length→K (.tuple [.agg [.vints .u8 (xs.drop t.o) (xs.length-t.o),.bool t.bad],.agg [.arr .u8 32 v]])
 | _=>False
theorem Z8x {most v:Int} {K:Int→Prop} (h:K v):small most v K:=by
 unfold small
 split
 ·rename_i hd
  generalize most.toNat=m
  induction m with
  | zero=>exact fun e=>e▸h
  | succ m ih=>exact ⟨ih,fun e=>e▸h⟩
 ·exact h
theorem Z4L (args:List AV) (h:Z6) (K:AV→Prop) (hl:Z7g (Ze Zn) args h K):Zm PP 121 args h fun o h'=>∃v,o=.ret v∧h'=h∧K v:=by
 unfold Z7g at hl
 split at hl
 ·obtain ⟨xs,⟨o,c⟩,rfl,⟨rfl,e,h1,h2,h3⟩,hK⟩:=hl
  unfold Yo at hK
  cases c with
  | true=>subst e;exact Z1n _ h K (hK _ _ rfl h1)
  | false=>
   subst e
   refine Z1n _ h K ⟨xs,o,rfl,⟨rfl,h1,h2,h3⟩,fun v p he hb=>Z8x (hK v ⟨p,false⟩ (by simp only [he]) hb.2.1),fun he=>hK 0 ⟨o,true⟩ (by simp only [he]) h1⟩
 ·exact hl.elim
theorem Z2E (args:List AV) (h:Z6) (K:AV→Prop) (hl:Z3B args h K):Zm PP 120 args h fun o h'=>∃v,o=.ret v∧h'=h∧K v:=by
 unfold Z3B at hl
 split at hl
 ·obtain ⟨xs,⟨o,c⟩,rfl,⟨rfl,e,h1⟩,hK⟩:=hl
  unfold Xl at hK
  cases c with
  | true=>subst e;exact QE _ h K (hK _ _ rfl h1)
  | false=>
   subst e
   refine QE _ h K ⟨xs,o,rfl,⟨rfl,h1⟩,fun v p he hb=>hK v ⟨p,false⟩ (by simp only [he]) hb.2.1,fun he=>hK Zc ⟨o,true⟩ (by simp only [he]) h1⟩
 ·exact hl.elim
noncomputable def Z4M (F:List Int→Int×Int):Zd:=((G0.withP 121 (Z7g F)).withP 120 Z3B).withP 122 (Zcg F)
theorem ZcJ:(Z4M (Ze Zn)).Ok:=Zd.withP_ok (Zd.withP_ok (Zd.withP_ok Zu Z4L) Z2E) Z72
end Go.Tk
end
section
namespace Go.Tk
open IntKind (i64 u8 u32 u64 wrap)
def tkT (l:ZU):ZU:=l++[(5,.ptr (some ⟨5,0,0,0,0⟩)),(4,.ptr (some ⟨4,0,0,0,0⟩)),(3,.ptr (some ⟨3,0,0,0,0⟩)),(2,.ptr (some ⟨2,0,0,0,0⟩))]
def tkH (X:Za) (r:AV) (b:Bool) (l:AV) (bs:List (Nat×Blk)):List (Nat×Blk):=[(0,.flat (X3.c .nilslice)),(2,.flat [.nilslice,.bool false]),(3,.flat (X3.c .nilslice)),(4,.flat [r,.bool b]),(5,.flat (X.c l))]++bs
def tkS (X:Za) (cnt:Int) (i:Nat) (L:List Z9) (ys:List Int) (m:Nat) (b:Bool):St:=⟨143,tkT [(8,.int .i64 i),(7,.int .i64 cnt)],⟨7,tkH X (.vints .u8 ys m) b (.nslice ⟨6,0,70,0,0⟩ 70 i i) [(6,.rows 70 i (Zf L))]⟩,[]⟩
def tkE (X:Za) (i:Nat) (L:List Z9) (ys:List Int) (m:Nat):St:=⟨143,tkT [],⟨7,tkH X (.vints .u8 ys m) false (.nslice ⟨6,0,70,0,0⟩ 70 i i) [(6,.rows 70 i (Zf L))]⟩,[]⟩
def tkB (X:Za) (cnt:Int) (i:Nat):St:=⟨143,tkT [(8,.int .i64 i),(7,.int .i64 cnt)],⟨6,tkH X .top true .top []⟩,[]⟩
def ZcK (X:Za):St:=⟨143,tkT [],⟨6,tkH X .top true .top []⟩,[]⟩
def tkN:St:=⟨143,[],⟨0,[]⟩,[]⟩
theorem ZhB (F:List Int→Int×Int) (X:Za) (xs:List Int) (cnt:Int) (i o p:Nat) (L:List Z9) (x:Z9) (Z1 Z2:Prop) (ho:o≤xs.length) (hb:Bytes xs) (hi:i≤16∧cnt≤16) (hL:L.length=i) (h2:¬(i:Int)<cnt→Z2) (hx:(i:Int)<cnt→Yy F xs o=some (x,p)) (h1:(i:Int)<cnt→Z1):
  ZD (Z4M F) 20 59 0 1 (tkS X cnt i L (xs.drop o) (xs.length-o) false) (rdP 1 0 9 pvL (tkS X cnt (i+1) (L++[x]) (xs.drop p) (xs.length-p) false) (tkE X i L (xs.drop o) (xs.length-o)) tkN tkN tkN Z1 Z2 False False False):=by
 refine @Eq.mpr _ (let q1:=List.drop o xs;
 let q2:=List.length xs-o;
 let q3:=decide (i=i);
 let q4:=i+1;
 let q5:=decide (q4*112≤140737488355328);
 let q6:=decide (wrap i64 (↑i+1)=↑q4);
 let q7:=decide (cnt=cnt);
 let q8:=X3.t;
 let q9:=q8.fund;
 let q10:=q9=q9;
 let q11:=q8.k0;
 let q12:=q11=q11;
 let q13:=q8.k1;
 let q14:=q13=q13;
 let q15:=[X3.a0,X3.a1];
 let q16:=q15=q15;
 let q17:=[X3.i0,X3.i1];
 let q18:=q17=q17;
 let q19:=List.length xs-p;
 let q20:=X.t;
 let q21:=q20.fund;
 let q22:=q21=q21;
 let q23:=q20.index;
 let q24:=decide (q23=q23);
 let q25:=q20.cap;
 let q26:=decide (q25=q25);
 let q27:=q20.dust;
 let q28:=decide (q27=q27);
 let q29:=q20.fee;
 let q30:=decide (q29=q29);
 let q31:=q20.delay;
 let q32:=decide (q31=q31);
 let q33:=q20.k0;
 let q34:=q33=q33;
 let q35:=q20.k1;
 let q36:=q35=q35;
 let q37:=decide (X.side=X.side);
 let q38:=decide (X.res=X.res);
 let q39:=[X.a0,X.a1];
 let q40:=q39=q39;
 let q41:=[X.i0,X.i1];
 let q42:=q41=q41;
 let q43:=decide (q4=q4);
 let q44:=[(2,2),(3,3),(4,4),(5,5)];
 let q45:=Zf L;
 Z0 (decide (↑i<cnt))
 (∃(xs_1:List Int),
 let q91:=List.length xs_1;
 ∃(o:Nat),
 q1=List.drop o xs_1∧
 (q2=q91-o∧o≤q91∧Bytes xs_1)∧
 (∀(x_1:Z9) (p_1:Nat),
 let q93:=List.drop p_1 xs_1;
 let q94:=q93=q93;
 let q95:=q91-p_1;
 let q96:=decide (q95=q95);
 Yy F xs_1 o=some (x_1,p_1)→Z0 q3 (Z0 q3 (q94∧Z0 q96 (Z0 q3 (Z0 q5 (q94∧Z0 q96 (Z0 q6 (Z0 q7 (q10∧q12∧q14∧q16∧q18∧q10∧q12∧q14∧q16∧q18∧q93=List.drop p xs∧Z0 (decide (q95=q19)) (q22∧Z0 q24 (Z0 q26 (Z0 q28 (Z0 q30 (Z0 q32 (q34∧q36∧Z0 q37 (Z0 q38 (q40∧q42∧Z0 q43 (Z0 (decide (q4≤q4)) (Z0 q43 (ZO 1 ((6,10)::q44) q4 (Zf (L++[x])) (Wd i q45 (Uy [AV.bool x_1.own,AV.int i64 x_1.id,AV.int i64 x_1.amount,AV.arr u8 32 x_1.hash,AV.int i64 x_1.expiry,AV.int i64 x_1.stage,AV.int i64 x_1.fin,AV.arr u8 32 x_1.secret] 0 70))∧Z1) False) False) False) False) False) False) False) False) False) False) False) False) False) False) False) False) False) False) False)∧
 (Yy F xs_1 o=none→
 ∀(ys:List Int) (n:Nat),
 let q93:=decide (n=n);
 ∀(x:Z9),Z0 q3 (Z0 q3 (ys=ys∧Z0 q93 (Z0 q3 (Z0 q5 (ys=ys∧Z0 q93 (Z0 q6 (Z0 q7 (q10∧q12∧q14∧q16∧q18∧q10∧q12∧q14∧q16∧q18∧ys=List.drop p xs∧Z0 (decide (n=q19)) False False) False) False) False) False) False) False) False) False))
 (q10∧q12∧q14∧q16∧q18∧q10∧q12∧q14∧q16∧q18∧q1=q1∧Z0 (decide (q2=q2)) (q22∧Z0 q24 (Z0 q26 (Z0 q28 (Z0 q30 (Z0 q32 (q34∧q36∧Z0 q37 (Z0 q38 (q40∧q42∧Z0 q3 (Z0 (decide (i≤i)) (Z0 q3 (ZO 1 ((6,6)::q44) i q45 q45∧Z2) False) False) False) False) False) False) False) False) False) False) False)) (by kernel_rfl) ?_
 conv=>zeta
 try simp only [Zi]
 try simp only [Zj]
 try simp only [Zg]
 try simp only [Zk]
 try simp only [Zl]
 try simp only [Zh]
 try simp only [Int.toNat_natCast,Nat.zero_add,true_and,and_true,Nat.le_refl]
 have hself:∀τ,ZO 1 τ i (Zf L) (Zf L):=fun _=>ZM fun _ _=>rfl
 refine ⟨fun hlt=>⟨xs,o,rfl,⟨rfl,ho,hb⟩,fun x' p' hp=> ?_,fun hn=>(by rw [hx hlt] at hn;cases hn)⟩,fun hge=>by simp [hself,h2 hge]⟩
 rw [hx hlt] at hp
 simp only [Option.some.injEq,Prod.mk.injEq] at hp
 obtain ⟨rfl,rfl⟩:=hp
 have hw:i64.wrap ((i:Int)+1)=((i+1:Nat):Int):=w64 (by omega)
 have h1:=h1 hlt
 rw [hw]
 and_intros<;>first|trivial|rfl|omega|exact h1|skip
 exact ZM fun q hq=>UV hL (fun _ _=>rfl) hq
theorem ZhC (F:List Int→Int×Int) (X:Za) (xs:List Int) (cnt:Int) (i o:Nat) (L:List Z9) (Z1 Z2:Prop) (ho:o≤xs.length) (hb:Bytes xs) (hi:i≤16∧cnt≤16) (hL:L.length=i) (h2:¬(i:Int)<cnt→Z2) (hx:(i:Int)<cnt→Yy F xs o=none) (h1:(i:Int)<cnt→Z1):
  ZD (Z4M F) 20 59 0 1 (tkS X cnt i L (xs.drop o) (xs.length-o) false) (rdP 1 0 9 pvL (tkB X cnt (i+1)) (tkE X i L (xs.drop o) (xs.length-o)) tkN tkN tkN Z1 Z2 False False False):=by
 refine @Eq.mpr _ (let q1:=List.drop o xs;
 let q2:=List.length xs-o;
 let q3:=decide (i=i);
 let q4:=decide ((i+1)*112≤140737488355328);
 let q5:=decide (wrap i64 (↑i+1)=↑(i+1));
 let q6:=decide (cnt=cnt);
 let q7:=X3.t;
 let q8:=q7.fund;
 let q9:=q8=q8;
 let q10:=q7.k0;
 let q11:=q10=q10;
 let q12:=q7.k1;
 let q13:=q12=q12;
 let q14:=[X3.a0,X3.a1];
 let q15:=q14=q14;
 let q16:=[X3.i0,X3.i1];
 let q17:=q16=q16;
 let q18:=X.t;
 let q19:=q18.fund;
 let q20:=q19=q19;
 let q21:=q18.index;
 let q22:=decide (q21=q21);
 let q23:=q18.cap;
 let q24:=decide (q23=q23);
 let q25:=q18.dust;
 let q26:=decide (q25=q25);
 let q27:=q18.fee;
 let q28:=decide (q27=q27);
 let q29:=q18.delay;
 let q30:=decide (q29=q29);
 let q31:=q18.k0;
 let q32:=q31=q31;
 let q33:=q18.k1;
 let q34:=q33=q33;
 let q35:=decide (X.side=X.side);
 let q36:=decide (X.res=X.res);
 let q37:=[X.a0,X.a1];
 let q38:=q37=q37;
 let q39:=[X.i0,X.i1];
 let q40:=q39=q39;
 Z0 (decide (↑i<cnt))
 (∃(xs:List Int),
 let q81:=List.length xs;
 ∃(o:Nat),
 q1=List.drop o xs∧
 (q2=q81-o∧o≤q81∧Bytes xs)∧
 (∀(x:Z9) (p:Nat),
 let q83:=List.drop p xs=List.drop p xs;
 let q84:=decide (q81-p=q81-p);
 Yy F xs o=some (x,p)→Z0 q3 (Z0 q3 (q83∧Z0 q84 (Z0 q3 (Z0 q4 (q83∧Z0 q84 (Z0 q5 (Z0 q6 (q9∧q11∧q13∧q15∧q17∧q9∧q11∧q13∧q15∧q17∧False) False) False) False) False) False) False) False) False)∧
 (Yy F xs o=none→
 ∀(ys:List Int) (n:Nat),
 let q83:=decide (n=n);
 ∀(x:Z9),Z0 q3 (Z0 q3 (ys=ys∧Z0 q83 (Z0 q3 (Z0 q4 (ys=ys∧Z0 q83 (Z0 q5 (Z0 q6 (q9∧q11∧q13∧q15∧q17∧q9∧q11∧q13∧q15∧q17∧q20∧Z0 q22 (Z0 q24 (Z0 q26 (Z0 q28 (Z0 q30 (q32∧q34∧Z0 q35 (Z0 q36 (q38∧q40∧Z1) False) False) False) False) False) False) False) False) False) False) False) False) False) False) False))
 (q9∧q11∧q13∧q15∧q17∧q9∧q11∧q13∧q15∧q17∧q1=q1∧Z0 (decide (q2=q2)) (q20∧Z0 q22 (Z0 q24 (Z0 q26 (Z0 q28 (Z0 q30 (q32∧q34∧Z0 q35 (Z0 q36 (q38∧q40∧Z0 q3 (Z0 (decide (i≤i)) (Z0 q3 (ZO 1 [(6,6),(2,2),(3,3),(4,4),(5,5)] i (Zf L) (Zf L)∧Z2) False) False) False) False) False) False) False) False) False) False) False)) (by kernel_rfl) ?_
 conv=>zeta
 try simp only [Zi]
 try simp only [Zj]
 try simp only [Zg]
 try simp only [Zk]
 try simp only [Zl]
 try simp only [Zh]
 try simp only [Int.toNat_natCast,Nat.zero_add,true_and,and_true,Nat.le_refl]
 have hself:∀τ,ZO 1 τ i (Zf L) (Zf L):=fun _=>ZM fun _ _=>rfl
 refine ⟨fun hlt=>⟨xs,o,rfl,⟨rfl,ho,hb⟩,fun x' p' hp=>(by rw [hx hlt] at hp;cases hp),fun hn ys n x=> ?_⟩,fun hge=>by simp [hself,h2 hge]⟩
 have hw:i64.wrap ((i:Int)+1)=((i+1:Nat):Int):=w64 (by omega)
 have h1:=h1 hlt
 rw [hw]
 and_intros<;>first|trivial|rfl|omega|exact h1
theorem ZhD (F:List Int→Int×Int) (X:Za) (cnt:Int) (i:Nat) (Z1 Z2:Prop) (h2:Z2):
  ZD (Z4M F) 20 59 0 1 (tkB X cnt i) (rdP 1 0 9 pvL (tkB X cnt (i+1)) (ZcK X) tkN tkN tkN Z1 Z2 False False False):=by
 refine @Eq.mpr _ (let q1:=X3.t;
 let q2:=q1.fund;
 let q3:=q2=q2;
 let q4:=q1.k0;
 let q5:=q4=q4;
 let q6:=q1.k1;
 let q7:=q6=q6;
 let q8:=[X3.a0,X3.a1];
 let q9:=q8=q8;
 let q10:=[X3.i0,X3.i1];
 let q11:=q10=q10;
 let q12:=X.t;
 let q13:=q12.fund;
 let q14:=q12.index;
 let q15:=q12.cap;
 let q16:=q12.dust;
 let q17:=q12.fee;
 let q18:=q12.delay;
 let q19:=q12.k0;
 let q20:=q12.k1;
 let q21:=[X.a0,X.a1];
 let q22:=[X.i0,X.i1];
 let q23:=q3∧q5∧q7∧q9∧q11∧q3∧q5∧q7∧q9∧q11∧q13=q13∧Z0 (decide (q14=q14)) (Z0 (decide (q15=q15)) (Z0 (decide (q16=q16)) (Z0 (decide (q17=q17)) (Z0 (decide (q18=q18)) (q19=q19∧q20=q20∧Z0 (decide (X.side=X.side)) (Z0 (decide (X.res=X.res)) (q21=q21∧q22=q22∧Z2) False) False) False) False) False) False) False;
 Z0 (decide (↑i<cnt)) q23 q23) (by kernel_rfl) ?_
 conv=>zeta
 try simp only [Zi]
 try simp only [Zj]
 try simp only [Zg]
 try simp only [Zk]
 try simp only [Zl]
 try simp only [Zh]
 try simp only [Int.toNat_natCast,Nat.zero_add,true_and,and_true,Nat.le_refl]
 repeat' first|exact h2|intro _|apply And.intro|rfl|trivial
theorem Zgd (F:List Int→Int×Int) (X:Za) (cnt:Int) (ys:List Int) (m:Nat) (Z1 Z2:Prop) (h2:Z2):
  ZD (Z4M F) 20 59 0 1 (tkS X cnt 0 [] ys m true) (rdP 1 0 9 pvL (tkB X cnt 1) (ZcK X) tkN tkN tkN Z1 Z2 False False False):=by
 refine @Eq.mpr _ (let q1:=X3.t;
 let q2:=q1.fund;
 let q3:=q2=q2;
 let q4:=q1.k0;
 let q5:=q4=q4;
 let q6:=q1.k1;
 let q7:=q6=q6;
 let q8:=[X3.a0,X3.a1];
 let q9:=q8=q8;
 let q10:=[X3.i0,X3.i1];
 let q11:=q10=q10;
 let q12:=X.t;
 let q13:=q12.fund;
 let q14:=q12.index;
 let q15:=q12.cap;
 let q16:=q12.dust;
 let q17:=q12.fee;
 let q18:=q12.delay;
 let q19:=q12.k0;
 let q20:=q12.k1;
 let q21:=[X.a0,X.a1];
 let q22:=[X.i0,X.i1];
 let q23:=q3∧q5∧q7∧q9∧q11∧q3∧q5∧q7∧q9∧q11∧q13=q13∧Z0 (decide (q14=q14)) (Z0 (decide (q15=q15)) (Z0 (decide (q16=q16)) (Z0 (decide (q17=q17)) (Z0 (decide (q18=q18)) (q19=q19∧q20=q20∧Z0 (decide (X.side=X.side)) (Z0 (decide (X.res=X.res)) (q21=q21∧q22=q22∧Z2) False) False) False) False) False) False) False;
 Z0 (decide (0<cnt)) q23 q23) (by kernel_rfl) ?_
 conv=>zeta
 try simp only [Zi]
 try simp only [Zj]
 try simp only [Zg]
 try simp only [Zk]
 try simp only [Zl]
 try simp only [Zh]
 try simp only [Int.toNat_natCast,Nat.zero_add,true_and,and_true,Nat.le_refl]
 repeat' first|exact h2|intro _|apply And.intro|rfl|trivial
end Go.Tk
end
section
namespace Go.Tk
open IntKind (i64 u8 u32 u64 wrap)
def lo7 (F:List Int→Int×Int) (S:Za→Int→Nat→List Z9→List Int→Nat→Bool→St) (E:Za→Nat→List Z9→List Int→Nat→St) (B:Za→St):Nat→St→KE→Prop:=fun k s Z=>match Nat.beq k 1 with
 | true=>∃(X:Za) (xs:List Int) (cnt:Int) (t:RS),Xj 1 (S X cnt 0 [] (xs.drop t.o) (xs.length-t.o) t.bad) s (t.o≤xs.length∧Bytes xs∧cnt≤16∧
   (∀(n:Nat) L p,n=cnt.toNat→t.bad=false→rdL F xs t.o n=some (L,p)→(L.length=n∧p≤xs.length∧n≤16∧∀x∈L,x.Ok)→Z (.exit 0) (E X n L (xs.drop p) (xs.length-p)))∧(t.bad=true∨rdL F xs t.o cnt.toNat=none→Z (.exit 0) (B X)))
 | false=>False
open Classical in
theorem ZeS {G:Zd} (hG:G.Ok) {S:Za→Int→Nat→List Z9→List Int→Nat→Bool→St} {E:Za→Nat→List Z9→List Int→Nat→St} {Bs:Za→Int→Nat→St} {B:Za→St} {N:St} (h1:Xt G.P 59 0=true)
  (hg:∀{X:Za} {xs:List Int} {cnt:Int} {i o p:Nat} {L:List Z9} {x:Z9} {Z1 Z2:Prop},o≤xs.length→Bytes xs→i≤16∧cnt≤16→L.length=i→(¬(i:Int)<cnt→Z2)→((i:Int)<cnt→Yy (Ze Zn) xs o=some (x,p))→((i:Int)<cnt→Z1)→ZD G 20 59 0 1 (S X cnt i L (xs.drop o) (xs.length-o) false) (rdP 1 0 9 pvL (S X cnt (i+1) (L++[x]) (xs.drop p) (xs.length-p) false) (E X i L (xs.drop o) (xs.length-o)) N N N Z1 Z2 False False False))
  (hb:∀{X:Za} {xs:List Int} {cnt:Int} {i o:Nat} {L:List Z9} {Z1 Z2:Prop},o≤xs.length→Bytes xs→i≤16∧cnt≤16→L.length=i→(¬(i:Int)<cnt→Z2)→((i:Int)<cnt→Yy (Ze Zn) xs o=none)→((i:Int)<cnt→Z1)→ZD G 20 59 0 1 (S X cnt i L (xs.drop o) (xs.length-o) false) (rdP 1 0 9 pvL (Bs X cnt (i+1)) (E X i L (xs.drop o) (xs.length-o)) N N N Z1 Z2 False False False))
  (hx:∀{X:Za} {cnt:Int} {i:Nat} {Z1 Z2:Prop},Z2→ZD G 20 59 0 1 (Bs X cnt i) (rdP 1 0 9 pvL (Bs X cnt (i+1)) (B X) N N N Z1 Z2 False False False))
  (hx0:∀{X:Za} {cnt:Int} {ys:List Int} {m:Nat} {Z1 Z2:Prop},Z2→ZD G 20 59 0 1 (S X cnt 0 [] ys m true) (rdP 1 0 9 pvL (Bs X cnt 1) (B X) N N N Z1 Z2 False False False)):
  (G.withL 59 0 (lo7 (Ze Zn) S E B)).Ok:=by
 refine Zd.withGoX (N:=20) (l:=9) (pv:=pvL) hG rfl h1 fun k s Z hs=> ?_
 unfold lo7 at hs
 split at hs
 ·rename_i hk
  have:=Nat.eq_of_beq_eq_true hk
  subst this
  obtain ⟨X,xs,cnt,⟨o,c⟩,hs⟩:=hs
  obtain ⟨⟨ho,hby,hc,k1,k2⟩,hw⟩:=Ye hs
  cases c with
  | true=>
   refine ⟨0,fun i=>match i with|0=>S X cnt 0 [] (xs.drop o) (xs.length-o) true|_=>Bs X cnt i,fun _=>B X,fun _=>N,fun _=>N,fun _=>N,fun _=>False,fun _=>True,fun _=>False,fun _=>False,fun _=>False,hw,fun i hi hgo=> ?_, ?_⟩
   ·match i,hi with
    | 0,_=>exact hx0 trivial
   intro i hi hgo
   exact ⟨fun _=>k2 (.inl rfl),fun h=>h.elim,fun h=>h.elim,fun h=>h.elim⟩
  | false=>
   let Gi:Nat→Prop:=fun i=>∀j,j<i→goH (Ze Zn) xs o j
   have e0:Gi 0:=fun j hj=>absurd hj (Nat.not_lt_zero _)
   refine ⟨cnt.toNat,fun i=>if Gi i then S X cnt i (stL (Ze Zn) xs o i).1 (xs.drop (stL (Ze Zn) xs o i).2) (xs.length-(stL (Ze Zn) xs o i).2) false else Bs X cnt i,fun i=>if Gi i then E X i (stL (Ze Zn) xs o i).1 (xs.drop (stL (Ze Zn) xs o i).2) (xs.length-(stL (Ze Zn) xs o i).2) else B X,fun _=>N,fun _=>N,fun _=>N,fun i=>(i:Int)<cnt∧Gi i,fun i=>¬((i:Int)<cnt∧Gi i),fun _=>False,fun _=>False,fun _=>False,by dsimp only;rw [if_pos e0];exact hw,fun i hi hgo=> ?_, ?_⟩
   ·dsimp only
    by_cases hG:Gi i
    ·rw [if_pos hG,if_pos hG]
     obtain ⟨i1,i2,i3⟩:=Z1E ho i hG
     by_cases hh:goH (Ze Zn) xs o i
     ·have hG1:Gi (i+1):=fun j hj=>by
       by_cases e:j=i
       ·rw [e];exact hh
       ·exact hG j (by omega)
      rw [if_pos hG1]
      cases hr:Yy (Ze Zn) xs (stL (Ze Zn) xs o i).2 with
      | none=>unfold goH at hh;rw [hr] at hh;cases hh
      | some xp=>
       rw [Z4B (x:=xp.1) (p:=xp.2) hr]
       exact hg i2 hby ⟨by omega,hc⟩ i1 (fun h h2=>h h2.1) (fun _=>hr) (fun hlt=>⟨⟨hlt,hG⟩,by omega⟩)
     ·have hG1:¬Gi (i+1):=fun h=>hh (h i (Nat.lt_succ_self _))
      rw [if_neg hG1]
      have hr:Yy (Ze Zn) xs (stL (Ze Zn) xs o i).2=none:=by
       cases hr:Yy (Ze Zn) xs (stL (Ze Zn) xs o i).2 with
       | none=>rfl
       | some xp=>exact absurd (show goH (Ze Zn) xs o i by unfold goH;simp only [hr,Option.isSome_some]) hh
      exact hb i2 hby ⟨by omega,hc⟩ i1 (fun h h2=>h h2.1) (fun _=>hr) (fun hlt=>⟨⟨hlt,hG⟩,by omega⟩)
    ·have hG1:¬Gi (i+1):=fun h=>hG fun j hj=>h j (by omega)
     rw [if_neg hG,if_neg hG,if_neg hG1]
     exact hx fun h=>hG h.2
   ·intro i hi hgo
    refine ⟨fun h=> ?_,fun h=>h.elim,fun h=>h.elim,fun h=>h.elim⟩
    dsimp only
    by_cases hG:Gi i
    ·rw [if_pos hG]
     have e:i=cnt.toNat:=by
      have:¬(i:Int)<cnt:=fun h2=>h ⟨h2,hG⟩
      omega
     obtain ⟨i1,i2,i3⟩:=Z1E ho i hG
     exact k1 i _ _ e rfl (Z1D hG) ⟨i1,i2,by omega,Z7f hby (Z1D hG)⟩
    ·rw [if_neg hG]
     cases i with
     | zero=>exact absurd e0 hG
     | succ j=>
      have hj:=hgo j (Nat.lt_succ_self _)
      have hr:Yy (Ze Zn) xs (stL (Ze Zn) xs o j).2=none:=by
       cases hr:Yy (Ze Zn) xs (stL (Ze Zn) xs o j).2 with
       | none=>rfl
       | some xp=>
        refine absurd (fun q hq=> ?_) hG
        by_cases e:q=j
        ·rw [e];unfold goH;simp only [hr,Option.isSome_some]
        ·exact hj.2 q (by omega)
      exact k2 (.inr (ZaF hj.2 hr (by omega)))
 ·exact hs.elim
noncomputable def ZhE (F:List Int→Int×Int):Zd:=(Z4M F).withL 59 0 (lo7 F tkS tkE ZcK)
theorem ZcL:(ZhE (Ze Zn)).Ok:=ZeS (Bs:=tkB) (N:=tkN) ZcJ (by kernel_rfl) (fun h1 h2 h3 h4 h5 h6 h7=>ZhB _ _ _ _ _ _ _ _ _ _ _ h1 h2 h3 h4 h5 h6 h7) (fun h1 h2 h3 h4 h5 h6 h7=>ZhC _ _ _ _ _ _ _ _ _ h1 h2 h3 h4 h5 h6 h7) (fun h=>ZhD _ _ _ _ _ _ h) (fun h=>Zgd _ _ _ _ _ _ _ h)
end Go.Tk
end
section
namespace Go.Tk
open IntKind (i64 u8 u32 u64 wrap)
theorem Zb2 {xs:List Int} (h:Bytes xs):∀x∈xs,U8 x:=fun x hx=>by
 obtain ⟨i,hi,rfl⟩:=List.getElem_of_mem hx
 have:=h.h i
 rw [List.getD_eq_getElem?_getD,List.getElem?_eq_getElem hi] at this
 have h1:0≤xs[i]∧xs[i]≤255:=this
 unfold U8;omega
end Go.Tk
end
section
namespace Go.Tk
open IntKind (i64 u8 u32 u64 wrap)
end Go.Tk
end
section
namespace Go.Tk
open IntKind (i64 u8 u32 u64 wrap)
end Go.Tk
end
section
namespace Go.Tk
open IntKind (i64 u8 u32 u64 wrap)
end Go.Tk
end
section
namespace Go.Tk
open IntKind (i64 u8 u32 u64 wrap)
noncomputable def ZeT:Zd:=G0.withP 112 waS
theorem ZcM:ZeT.Ok:=Zd.withP_ok Zu Zcw
def ZcN (X:Za) (i:Nat):St:=⟨25,[(3,.int .i64 i),(1,.ptr (some ⟨0,0,0,0,0⟩))],⟨1,[(0,.flat (X.c (.vrows 70 X.L.length (Zf X.L) X.L.length)))]⟩,[]⟩
def Zge:St:=⟨25,[],⟨0,[]⟩,[]⟩
def ZcO:St:=⟨25,[(2,.bool true)],⟨0,[]⟩,[]⟩
theorem Zgf (X:Za) (n i:Nat) (Z1 Z2 Z3:Prop) (hn:n<1000) (hL:X.L.length=n) (hi:i≤n) (hst:i<n→1≤(X.L.getD i Zo).stage∧(X.L.getD i Zo).stage≤9) (h1:i<n→wtP (X.L.getD i Zo)=false→Z1) (h2:i=n→Z2) (h3:i<n→wtP (X.L.getD i Zo)=true→Z3):
  ZD ZeT 20 51 0 0 (ZcN X i) (rdM 0 0 9 (ZcN X (i+1)) Zge ZcO ZcO Z1 Z2 Z3 False):=by
 refine @Eq.mpr _ (let q1:=X.L;
 let q2:=List.length q1;
 let q3:=decide (0≤(↑i:Int)∧(↑i:Int)<(↑q2:Int));
 let q4:=List.getD q1 (Int.toNat (↑i:Int)) Zo;
 let q5:=q4.stage;
 let q6:=X.t;
 let q7:=q6.fund;
 let q8:=q6.index;
 let q9:=q6.cap;
 let q10:=q6.dust;
 let q11:=q6.fee;
 let q12:=q6.delay;
 let q13:=q6.k0;
 let q14:=q6.k1;
 let q15:=[X.a0,X.a1];
 let q16:=[X.i0,X.i1];
 let q17:=decide (q2=q2);
 let q18:=Zf q1;
 Z0 (decide ((↑i:Int)<(↑q2:Int))) (Z0 q3 (Z0 q3 (Z0 (decide (1≤q5∧q5≤9)) (Z0 (Z1x q4.own q5==1) Z3 (Z0 (decide (wrap i64 ((↑i:Int)+1)=(↑(i+1):Int))) (q7=q7∧Z0 (decide (q8=q8)) (Z0 (decide (q9=q9)) (Z0 (decide (q10=q10)) (Z0 (decide (q11=q11)) (Z0 (decide (q12=q12)) (q13=q13∧q14=q14∧Z0 (decide (X.side=X.side)) (Z0 (decide (X.res=X.res)) (q15=q15∧q16=q16∧Z0 q17 (q18=q18∧Z0 q17 Z1 False) False) False) False) False) False) False) False) False) False)) False) False) False) Z2) (by kernel_rfl) ?_
 conv=>zeta
 try simp only [Zi]
 try simp only [Zj]
 try simp only [Zg]
 try simp only [Zk]
 try simp only [Zl]
 try simp only [Zh]
 try simp only [Int.toNat_natCast,Nat.zero_add,true_and,and_true,Nat.le_refl]
 subst hL
 refine ⟨fun hc=> ?_,fun hc=>h2 (by omega)⟩
 have hlt:i<X.L.length:=by omega
 have hwr:i64.wrap ((i:Int)+1)=((i+1:Nat):Int):=by rw [w64 (by omega)];omega
 refine ⟨by omega,by omega,hst hlt,fun hm=>h3 hlt ?_,fun hm=>⟨hwr,h1 hlt ?_⟩⟩
 ·unfold wtP;simpa using hm
 ·unfold wtP;simpa using hm
def ZcP (A B:List Z9) (i:Nat):St:=⟨26,[(5,.int .i64 i),(0,.vrows 70 A.length (Zf A) A.length),(1,.vrows 70 B.length (Zf B) B.length)],⟨0,[]⟩,[]⟩
def Z8y:St:=⟨26,[],⟨0,[]⟩,[]⟩
theorem Zgg (A:List Z9) (n i:Nat) (Z1 Z2:Prop) (hn:n<1000) (hA:A.length=n) (hi:i≤n) (hOk:∀h∈A,h.Ok) (h1:i<n→Z1) (h2:i=n→Z2):
  ZD G0 20 40 0 0 (ZcP A A i) (rdM 0 0 9 (ZcP A A (i+1)) Z8y Z8y Z8y Z1 Z2 False False):=by
 refine @Eq.mpr _ (let q1:=List.length A;
 let q2:=decide (0≤(↑i:Int)∧(↑i:Int)<(↑q1:Int));
 let q3:=List.getD A (Int.toNat (↑i:Int)) Zo;
 let q4:=q3.hash;
 let q5:=q3.secret;
 let q6:=q3.own;
 let q7:=q3.id;
 let q8:=q3.amount;
 let q9:=q3.expiry;
 let q10:=q3.stage;
 let q11:=q3.fin;
 let q12:=decide (q1=q1);
 let q13:=Zf A=Zf A;
 Z0 (decide ((↑i:Int)<(↑q1:Int))) (Z0 q2 (Z0 q2 (Z0 (decide (List.length q4=32∧List.length q4=32)) (Z0 (decide (List.length q5=32∧List.length q5=32)) (Z0 (!(q6==q6&&(q7==q7&&(q8==q8&&(q4==q4&&(q9==q9&&(q10==q10&&(q11==q11&&q5==q5)))))))) False (Z0 (decide (wrap i64 ((↑i:Int)+1)=(↑(i+1):Int))) (Z0 q12 (q13∧Z0 q12 (Z0 q12 (q13∧Z0 q12 Z1 False) False) False) False) False)) False) False) False) False) Z2) (by kernel_rfl) ?_
 conv=>zeta
 try simp only [Zi]
 try simp only [Zj]
 try simp only [Zg]
 try simp only [Zk]
 try simp only [Zl]
 try simp only [Zh]
 try simp only [Int.toNat_natCast,Nat.zero_add,true_and,and_true,Nat.le_refl]
 subst hA
 refine ⟨fun hc=> ?_,fun hc=>h2 (by omega)⟩
 have hlt:i<A.length:=by omega
 have hwr:i64.wrap ((i:Int)+1)=((i+1:Nat):Int):=by rw [w64 (by omega)];omega
 have hx:=hOk _ (Y0 hlt)
 exact ⟨by omega,by omega,⟨hx.hash,hx.hash⟩,⟨hx.secret,hx.secret⟩,by simp,hwr,h1 hlt⟩
noncomputable def Zdz (X:Za) (n:Nat) (C:Prop):Zd:=ZeT.withL 51 0 (goM 0 (ZcN X 0) C (YR 0 n 9 (fun i=>wtP (X.L.getD i Zo)=false∧i<n) (fun i=>i=n) (fun i=>i<n∧wtP (X.L.getD i Zo)=true) (fun _=>False) (fun _=>Zge) (fun _=>ZcO) (fun _=>ZcO)))
theorem Zb3 (X:Za) (n:Nat):(Zdz X n (Zg3 X.L n)).Ok:=
 Zd.withGoM (N:=20) (S:=fun i=>ZcN X i) ZcM (by kernel_rfl) fun hC=>⟨rfl,fun i hi _=>Zgf X n i _ _ _ hC.1 hC.2.1 hi (fun h=>hC.2.2 _ (Y0 (by have:=hC.2.1;omega))) (fun h h'=>⟨⟨h',h⟩,h⟩) (fun h=>h) (fun h h'=>⟨h,h'⟩)⟩
theorem Zgh (X:Za) (n:Nat) (b:Bool) (C:Prop) (hC:C) (hn:X.L.length=n) (hb:b=XG X.L):
  evF (Zdz X n C) 20 51 [Z3A X] ⟨0,[]⟩ (Y6 fun v=>v=.bool b):=by
 refine @Eq.mpr _ (let q1:=X.t;
 let q2:=q1.fund;
 let q3:=q1.index;
 let q4:=q1.cap;
 let q5:=q1.dust;
 let q6:=q1.fee;
 let q7:=q1.delay;
 let q8:=q1.k0;
 let q9:=q1.k1;
 let q10:=[X.a0,X.a1];
 let q11:=[X.i0,X.i1];
 let q12:=X.L;
 let q13:=List.length q12;
 let q14:=decide (q13=q13);
 let q15:=Zf q12;
 q2=q2∧Z0 (decide (q3=q3)) (Z0 (decide (q4=q4)) (Z0 (decide (q5=q5)) (Z0 (decide (q6=q6)) (Z0 (decide (q7=q7)) (q8=q8∧q9=q9∧Z0 (decide (X.side=X.side)) (Z0 (decide (X.res=X.res)) (q10=q10∧q11=q11∧Z0 q14 (q15=q15∧Z0 q14 (C∧∀(i:Nat),i≤n→(∀(j:Nat),j<i→(fun (i:Nat)=>wtP (List.getD q12 i Zo)=false∧i<n) j)→(i=n→AV.bool false=AV.bool b)∧(i<n∧wtP (List.getD q12 i Zo)=true→AV.bool true=AV.bool b)∧(False→False)) False) False) False) False) False) False) False) False) False) (by kernel_rfl) ?_
 conv=>zeta
 try simp only [Zi]
 try simp only [Zj]
 try simp only [Zg]
 try simp only [Zk]
 try simp only [Zl]
 try simp only [Zh]
 try simp only [Int.toNat_natCast,Nat.zero_add,true_and,and_true,Nat.le_refl]
 subst hb
 refine ⟨hC,fun i hi hg=>⟨fun he=> ?_,fun hx=> ?_,fun h=>h.elim⟩⟩
 ·have:XG X.L=false:=by
   rw [show XG X.L=X.L.any wtP from rfl,←Z1I,Z3z (p:=wtP) fun j hj=>(hg j (by omega)).1]
   exact decide_eq_false (by omega)
  rw [this]
 ·have:XG X.L=true:=List.any_eq_true.2 ⟨_,Y0 (by omega),hx.2⟩
  rw [this]
def Z7h:ZG:=fun args h K=>ZI none h true 20 args fun a=>match a with
 | [.agg cs]=>∃X,LV cs X∧X.Inv ZJ∧K (.bool (XG X.L))
 | _=>False
theorem Z6d (args:List AV) (h:Z6) (K:AV→Prop) (hl:Z7h args h K):Zm PP 51 args h fun o h'=>∃v,o=.ret v∧h'=h∧K v:=by
 refine Zy.psumm (d:=20) (Zs _ _ _ _ _ hl fun a ha=> ?_)
 split at ha
 ·obtain ⟨X,hX,hI,hK⟩:=ha
  exact ⟨_,(Zy.evV (Zb3 X X.L.length) (Zgh X _ _ _ ⟨hI.am.n,rfl,hI.stage⟩ rfl rfl)).conv fun E r hr=>hr.head (fun _ hc=>Vi hX hc) fun _ hc=>hc,fun _=>rfl,hK⟩
 ·exact ha.elim
noncomputable def ZdA (A:List Z9) (n:Nat) (C:Prop):Zd:=G0.withL 40 0 (goM 0 (ZcP A A 0) C (YR 0 n 9 (fun i=>i<n) (fun i=>i=n) (fun _=>False) (fun _=>False) (fun _=>Z8y) (fun _=>Z8y) (fun _=>Z8y)))
theorem Zb4 (A:List Z9) (n:Nat):(ZdA A n (n<1000∧A.length=n∧∀h∈A,h.Ok)).Ok:=
 Zd.withGoM (N:=20) (S:=fun i=>ZcP A A i) Zu (by kernel_rfl) fun hC=>⟨rfl,fun i hi _=>Zgg A n i _ _ hC.1 hC.2.1 hi hC.2.2 (fun h=>⟨h,h⟩) (fun h=>h)⟩
theorem Zgi (A:List Z9) (n:Nat) (C:Prop) (hC:C):
  evF (ZdA A n C) 20 40 [.vrows 70 A.length (Zf A) A.length,.vrows 70 A.length (Zf A) A.length] ⟨0,[]⟩ (Y6 fun v=>v=.bool true):=by
 refine @Eq.mpr _ (let q1:=List.length A;
 let q2:=(↑q1:Int);
 let q3:=AV.bool true;
 let q4:=decide (q1=q1);
 let q5:=Zf A=Zf A;
 Z0 (q2 !=q2) (AV.bool false=q3) (Z0 q4 (q5∧Z0 q4 (Z0 q4 (q5∧Z0 q4 (C∧∀(i:Nat),i≤n→(∀(j:Nat),j<i→(fun (i:Nat)=>i<n) j)→(i=n→q3=q3)∧(False→False)∧(False→False)) False) False) False) False)) (by kernel_rfl) ?_
 conv=>zeta
 try simp only [Zi]
 try simp only [Zj]
 try simp only [Zg]
 try simp only [Zk]
 try simp only [Zl]
 try simp only [Zh]
 try simp only [Int.toNat_natCast,Nat.zero_add,true_and,and_true,Nat.le_refl]
 exact ⟨fun h=>by simp at h,fun _=>⟨hC,fun i _ _=>⟨fun _=>trivial,fun h=>h,fun h=>h⟩⟩⟩
theorem Zgj (u:Unit) :
  evF G0 20 40 [.nilslice,.nilslice] ⟨0,[]⟩ (Y6 fun v=>v=.bool true):=by
 refine @Eq.mpr _ (AV.bool true=AV.bool true) (by kernel_rfl) ?_
 trivial
def Z7i:ZG:=fun args h K=>ZI none h true 20 args fun a=>match a with
 | [.vrows 70 n f n',.vrows 70 m g m']=>∃A,(n=A.length∧n'=n∧m=n∧m'=n)∧(f=Zf A∧g=Zf A)∧n<1000∧(∀h∈A,h.Ok)∧K (.bool true)
 | [.nilslice,.nilslice]=>K (.bool true)
 | _=>False
theorem Z6e (args:List AV) (h:Z6) (K:AV→Prop) (hl:Z7i args h K):Zm PP 40 args h fun o h'=>∃v,o=.ret v∧h'=h∧K v:=by
 refine Zy.psumm (d:=20) (Zs _ _ _ _ _ hl fun a ha=> ?_)
 split at ha
 ·obtain ⟨A,⟨rfl,rfl,rfl,rfl⟩,⟨rfl,rfl⟩,h1,h2,hK⟩:=ha
  exact ⟨_,Zy.evV (Zb4 A _) (Zgi A _ _ ⟨h1,rfl,h2⟩),fun _=>rfl,hK⟩
 ·exact ⟨_,Zy.evV Zu (Zgj ()),fun _=>rfl,ha⟩
 ·exact ha.elim
end Go.Tk
end
