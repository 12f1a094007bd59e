/- K: part 5 of an engine (a symbolic evaluator, proved against the model) and of the walk by it. -/
import Derived.Test.YtjahlbmhknicjaaGreatK4
import Derived.Shelf.SlSortCmp.WholeK
set_option linter.unusedVariables false
set_option linter.unusedSimpArgs false
set_option maxRecDepth 100000
set_option maxHeartbeats 0
section
namespace Go.Tk
open IntKind (i64 u8 u32 u64 wrap)
def ZfY (Q:List Int->Nat->Bool->Bool->Prop):AV->Prop:=fun u=>match u with
 | .tuple [.agg [.vints .u8 ys n,.bool b],.bool v]=>Q ys n b v
 | _=>False
theorem Z9L {Q:List Int->Nat->Bool->Bool->Prop} {u:AV} (h:ZfY Q u):∃ys n b v,u=.tuple [.agg [.vints .u8 ys n,.bool b],.bool v]/\Q ys n b v:=by
 unfold ZfY at h
 split at h
 ·exact ⟨_,_,_,_,rfl,h⟩
 ·exact h.elim
theorem Zky (ys:List Int) (n:Nat) (Q:List Int->Nat->Bool->Bool->Prop) (hn:ys.length=n) (h1:0<n/\ys.getD 0 0<=1->Q (ys.drop 1) (n-1) false (ys.getD 0 0==1)) (h2:¬(0<n/\ys.getD 0 0<=1)->Q ys n true false):
  evF G0 20 166 [.agg [.vints .u8 ys n,.bool false]] ⟨0,[]⟩ (Y4 (ZfY Q)):=by
 refine @Eq.mpr _ (let q1:=decide (n<=List.length ys);let q2:=decide ((0:Int)<=1/\1<=(↑(List.length ys):Int));let q3:=WK none ys;let q4:=List.getD q3 0 0;
 Z0 (decide (1>(↑n:Int))) (Q ys n true false) (Z0 q1 (Z0 (decide ((0:Int)<=1/\1<=(↑n:Int))) (Z0 q1 (Z0 q2 (Z0 q1 (Z0 q2 (q3=q3/\ys=ys/\Z0 (decide (n=n)) (Z0 (decide (q4>1)) (Q ys n true false) (Z0 (decide (q4=q4)) (Q (WK (some 1) ys) (WL n (some 1)) false (q4==1)) False)) False) False) False) False) False) False) False)) (by kernel_rfl) ?_
 conv=>zeta
 try simp only [Zi]
 try simp only [Zj]
 try simp only [Zf]
 try simp only [Zk]
 try simp only [Zl]
 try simp only [Zg]
 try simp only [Int.toNat_natCast,Nat.zero_add,true_and,and_true,Nat.le_refl]
 have e:WK none ys=ys:=rfl
 rw [e]
 refine ⟨fun h=>h2 (by omega),fun h=> ?_⟩
 repeat' first
  | omega
  | (intro h4;exact h2 fun h5=>absurd h5.2 (by omega))
  | (intro h4;exact h1 ⟨by omega,by omega⟩)
  | apply And.intro
theorem Zkz (ys:List Int) (n:Nat) (Q:List Int->Nat->Bool->Bool->Prop) (h2:Q ys n true false):
  evF G0 20 166 [.agg [.vints .u8 ys n,.bool true]] ⟨0,[]⟩ (Y4 (ZfY Q)):=by
 refine @Eq.mpr _ (Q ys n true false) (by kernel_rfl) ?_
 exact h2
def Zdp:ZK:=fun args _ K=>match args with
 | [.agg [.vints .u8 ys n,.bool b]]=>match b with
  | true=>K (.tuple [.agg [.vints .u8 ys n,.bool true],.bool false])
  | false=>∃xs o,ys=xs.drop o/\(n=xs.length-o/\o<=xs.length)/\
   (∀v p,rdT xs o=some (v,p)->(o<=p/\p<=xs.length)->K (.tuple [.agg [.vints .u8 (xs.drop p) (xs.length-p),.bool false],.bool v]))/\
   (rdT xs o=none->K (.tuple [.agg [.vints .u8 (xs.drop o) (xs.length-o),.bool true],.bool false]))
 | _=>False
theorem Zdq (args:List AV) (h:Z9) (K:AV->Prop) (hl:Zdp args h K):Zn PP 166 args h fun o h'=>∃v,o=.ret v/\h'=h/\K v:=by
 unfold Zdp at hl
 split at hl
 ·rename_i ys n b
  split at hl
  ·exact ZU Zu rfl (Zkz ys n (fun ys n b v=>K (.tuple [.agg [.vints .u8 ys n,.bool b],.bool v])) hl) (fun u hu=>by obtain ⟨_,_,_,_,rfl,hq⟩:=Z9L hu;exact hq)
  ·obtain ⟨xs,o,rfl,⟨rfl,h1⟩,hK,hK'⟩:=hl
   have e:(xs.drop o).getD 0 0=xs.getD o 0:=by rw [List.getD_eq_getElem?_getD,List.getD_eq_getElem?_getD,List.getElem?_drop,Nat.add_zero]
   refine ZU Zu rfl (Zky (xs.drop o) (xs.length-o) (fun ys n b v=>K (.tuple [.agg [.vints .u8 ys n,.bool b],.bool v])) (List.length_drop ..) (fun hc=> ?_) (fun hc=>hK' (by unfold rdT;rw [if_neg (by rw [e] at hc;omega)]))) (fun u hu=>by obtain ⟨_,_,_,_,rfl,hq⟩:=Z9L hu;exact hq)
   rw [e] at hc
   have:=hK (xs.getD o 0==1) (o+1) (by unfold rdT;rw [if_pos (by omega)]) ⟨by omega,by omega⟩
   rw [List.drop_drop,e]
   rw [show xs.length-o-1=xs.length-(o+1) by omega]
   exact this
 ·exact hl.elim
noncomputable def ZkA (F:List Int->Int×Int):Zh:=((G0.withP 121 (Zd2 F)).withP 120 Z8t).withP 166 Zdp
theorem ZfZ:(ZkA (Zo Zq)).Ok:=Zh.withP_ok (Zh.withP_ok (Zh.withP_ok Zu Z35) Z0V) Zdq
def htV (Q:List Int->Nat->Bool->Z6->Prop):AV->Prop:=fun u=>match u with
 | .tuple [.agg [.vints .u8 ys n,.bool b],.agg [.bool ow,.int .i64 id,.int .i64 am,.arr .u8 32 ha,.int .i64 ex,.int .i64 st,.int .i64 fi,.arr .u8 32 se]]=>Q ys n b ⟨ow,id,am,ha,ex,st,fi,se⟩
 | _=>False
theorem Zjg {Q:List Int->Nat->Bool->Z6->Prop} {u:AV} (h:htV Q u):∃ys n b x,u=.tuple [.agg [.vints .u8 ys n,.bool b],.agg (Z6.c x)]/\Q ys n b x:=by
 unfold htV at h
 split at h
 ·exact ⟨_,_,_,⟨_,_,_,_,_,_,_,_⟩,rfl,h⟩
 ·exact h.elim
theorem ZkB (F:List Int->Int×Int) (xs:List Int) (o n:Nat) (Q:List Int->Nat->Bool->Z6->Prop) (hn:n=xs.length-o) (ho:o<=xs.length) (hb:Bytes xs) (h1:∀x p,X6 F xs o=some (x,p)->Q (xs.drop p) (xs.length-p) false x) (h2:X6 F xs o=none->∀ys n x,Q ys n true x):
  evF (ZkA F) 20 122 [.agg [.vints .u8 (xs.drop o) n,.bool false]] ⟨0,[]⟩ (Y4 (htV Q)):=by
 refine @Eq.mpr _ (∃(xs_1:List Int),
 let q1:=List.length xs_1;
 ∃(o_1:Nat),
 List.drop o xs=List.drop o_1 xs_1/\
 (n=q1-o_1/\o_1<=q1)/\
 (∀(v:Bool),
 let q3:=decide (v=v);
 ∀(p:Nat),
 rdT xs_1 o_1=some (v,p)->
 o_1<=p/\p<=q1->
 ∃(xs:List Int),
 let q5:=List.length xs;
 ∃(o:Nat),
 let q7:=rdN F xs o 2147483647;
 List.drop p xs_1=List.drop o xs/\
 (q1-p=q5-o/\o<=q5/\Bytes xs/\(0:Int)<=2147483647)/\
 (∀(v_1:Int),
 let q9:=decide (v_1=v_1);
 ∀(p:Nat),
 q7=some (v_1,p)->
 o<=p/\p<=q5/\0<=v_1/\v_1<=2147483647->
 ∃(xs_2:List Int),
 let q11:=List.length xs_2;
 ∃(o:Nat),
 let q13:=rdN F xs_2 o 1125899906842624;
 List.drop p xs=List.drop o xs_2/\
 (q5-p=q11-o/\o<=q11/\Bytes xs_2/\(0:Int)<=1125899906842624)/\
 (∀(v_2:Int),
 let q15:=decide (v_2=v_2);
 ∀(p:Nat),
 q13=some (v_2,p)->
 o<=p/\p<=q11/\0<=v_2/\v_2<=1125899906842624->
 ∃(xs:List Int),
 let q17:=List.length xs;
 ∃(o:Nat),
 List.drop p xs_2=List.drop o xs/\
 (q11-p=q17-o/\o<=q17)/\
 (∀(v_3:List Int) (p:Nat),
 rdH xs o=some (v_3,p)->
 o<=p/\p<=q17/\List.length v_3=32->
 ∃(xs_3:List Int),
 let q19:=List.length xs_3;
 ∃(o:Nat),
 let q21:=rdN F xs_3 o 2147483647;
 List.drop p xs=List.drop o xs_3/\
 (q17-p=q19-o/\o<=q19/\Bytes xs_3/\(0:Int)<=2147483647)/\
 (∀(v_4:Int),
 let q23:=decide (v_4=v_4);
 ∀(p:Nat),
 q21=some (v_4,p)->
 o<=p/\p<=q19/\0<=v_4/\v_4<=2147483647->
 ∃(xs:List Int),
 let q25:=List.length xs;
 ∃(o:Nat),
 let q27:=rdN F xs o 9;
 List.drop p xs_3=List.drop o xs/\
 (q19-p=q25-o/\o<=q25/\Bytes xs/\(0:Int)<=9)/\
 (∀(v_5:Int),
 let q29:=decide (v_5=v_5);let q30:=Z6.mk v v_1 v_2 v_3 v_4 v_5 0 Za;
 ∀(p:Nat),
 q27=some (v_5,p)->
 o<=p/\p<=q25/\0<=v_5/\v_5<=9->
 ∃(xs_4:List Int),
 let q33:=List.length xs_4;
 ∃(o:Nat),
 let q35:=rdN F xs_4 o 2;
 List.drop p xs=List.drop o xs_4/\
 (q25-p=q33-o/\o<=q33/\Bytes xs_4/\(0:Int)<=2)/\
 (∀(v_6:Int) (p:Nat),
 let q37:=List.drop p xs_4;let q38:=q33-p;
 q35=some (v_6,p)->
 o<=p/\p<=q33/\0<=v_6/\v_6<=2->
 ((v_6=0->Z0 q3 (Z0 q9 (Z0 q15 (v_3=v_3/\Z0 q23 (Z0 q29 (Za=Za/\Q q37 q38 false q30) False) False) False) False) False)/\
 (v_6=1->
 ∃(xs:List Int),
 let q41:=List.length xs;
 ∃(o:Nat),q37=List.drop o xs/\(q38=q41-o/\o<=q41)/\(∀(v_7:List Int) (p:Nat),rdH xs o=some (v_7,p)->o<=p/\p<=q41/\List.length v_7=32->Z0 q3 (Z0 q9 (Z0 q15 (v_3=v_3/\Z0 q23 (Z0 q29 (v_7=v_7/\Q (List.drop p xs) (q41-p) false (Z6.mk v v_1 v_2 v_3 v_4 v_5 1 v_7)) False) False) False) False) False)/\(rdH xs o=none->Z0 q3 (Z0 q9 (Z0 q15 (v_3=v_3/\Z0 q23 (Z0 q29 (Za=Za/\Q (List.drop o xs) (q41-o) true (Z6.mk v v_1 v_2 v_3 v_4 v_5 1 Za)) False) False) False) False) False)))/\
 (v_6=2->Z0 q3 (Z0 q9 (Z0 q15 (v_3=v_3/\Z0 q23 (Z0 q29 (Za=Za/\Q q37 q38 false (Z6.mk v v_1 v_2 v_3 v_4 v_5 2 Za)) False) False) False) False) False))/\
 (q35=none->Z0 q3 (Z0 q9 (Z0 q15 (v_3=v_3/\Z0 q23 (Z0 q29 (Za=Za/\Q (List.drop o xs_4) (q33-o) true q30) False) False) False) False) False))/\
 (q27=none->Z0 q3 (Z0 q9 (Z0 q15 (v_3=v_3/\Z0 q23 (Za=Za/\Q (List.drop o xs) (q25-o) true (Z6.mk v v_1 v_2 v_3 v_4 0 0 Za)) False) False) False) False))/\
 (q21=none->Z0 q3 (Z0 q9 (Z0 q15 (v_3=v_3/\Za=Za/\Q (List.drop o xs_3) (q19-o) true (Z6.mk v v_1 v_2 v_3 0 0 0 Za)) False) False) False))/\
 (rdH xs o=none->Z0 q3 (Z0 q9 (Z0 q15 (Za=Za/\Za=Za/\Q (List.drop o xs) (q17-o) true (Z6.mk v v_1 v_2 Za 0 0 0 Za)) False) False) False))/\
 (q13=none->Z0 q3 (Z0 q9 (Za=Za/\Za=Za/\Q (List.drop o xs_2) (q11-o) true (Z6.mk v v_1 0 Za 0 0 0 Za)) False) False))/\
 (q7=none->Z0 q3 (Za=Za/\Za=Za/\Q (List.drop o xs) (q5-o) true (Z6.mk v 0 0 Za 0 0 0 Za)) False))/\
 (rdT xs_1 o_1=none->Za=Za/\Za=Za/\Q (List.drop o_1 xs_1) (q1-o_1) true (Z6.mk false 0 0 Za 0 0 0 Za))) (by kernel_rfl) ?_
 conv=>zeta
 try simp only [Zi]
 try simp only [Zj]
 try simp only [Zf]
 try simp only [Zk]
 try simp only [Zl]
 try simp only [Zg]
 try simp only [Int.toNat_natCast,Nat.zero_add,true_and,and_true,Nat.le_refl]
 subst hn
 cases h:X6 F xs o with
 | none=>
  have h2:=h2 h
  clear h1
  repeat' (first|(refine ⟨xs,_,rfl, ?_⟩)|(refine And.intro ?_ ?_)|intro _)
  all_goals first|omega|exact hb|trivial|exact h2 _ _ _|skip
  all_goals (exfalso;simp [X6,Z3i, *] at h)
 | some xp=>
  obtain ⟨x,p⟩:=xp
  have h1:=h1 x p h
  clear h2
  repeat' (first|(refine ⟨xs,_,rfl, ?_⟩)|(refine And.intro ?_ ?_)|intro _)
  all_goals first|omega|exact hb|trivial|skip
  all_goals (simp [X6,Z3i, *] at h)
  all_goals (obtain ⟨rfl,rfl⟩:=h;exact h1)
def Zg0 (F:List Int->Int×Int):ZK:=fun args _ K=>match args with
 | [.agg [.vints .u8 ys n,.bool false]]=>∃xs o,ys=xs.drop o/\(n=xs.length-o/\o<=xs.length/\Bytes xs)/\
   (∀x p,X6 F xs o=some (x,p)->K (.tuple [.agg [.vints .u8 (xs.drop p) (xs.length-p),.bool false],.agg x.c]))/\
   (X6 F xs o=none->∀ys n x,K (.tuple [.agg [.vints .u8 ys n,.bool true],.agg (Z6.c x)]))
 | _=>False
theorem Z9M (args:List AV) (h:Z9) (K:AV->Prop) (hl:Zg0 (Zo Zq) args h K):Zn PP 122 args h fun o h'=>∃v,o=.ret v/\h'=h/\K v:=by
 unfold Zg0 at hl
 split at hl
 ·obtain ⟨xs,o,rfl,⟨rfl,h1,h2⟩,hK,hK'⟩:=hl
  exact ZU ZfZ rfl (ZkB _ xs o _ (fun ys n b x=>K (.tuple [.agg [.vints .u8 ys n,.bool b],.agg x.c])) rfl h1 h2 hK hK') (fun u hu=>by obtain ⟨_,_,_,_,rfl,hq⟩:=Zjg hu;exact hq)
 ·exact hl.elim
end Go.Tk
end
section
namespace Go.Tk
open IntKind (i64 u8 u32 u64 wrap)
noncomputable def ZkC (H1:List Int->List Int) (H2:List Int->List Int->List Int) (B:Nat):Zh:=(Z5z (G8 H1 H2 B)).withP 81 Z5A
theorem Zg1:(ZkC Zr Z3W 1000).Ok:=Zh.withP_ok (Zh.withP_ok (Zh.withP_ok (Zh.withP_ok (Zh.withP_ok (ZhH 1000 (by decide)) Z1X) Z0q) Z0r) Z0s) Z4C
theorem Z6R (x k:Int) (A B:Bool):(if x=k then A else B)=cond (x==k) A B:=by
 by_cases h:x=k
 ·simp [h]
 ·rw [if_neg h,show (x==k)=false from by simpa using h];rfl
theorem Zdr (x k:Int):decide (x>=k)= !decide (x<k):=by by_cases h:x<k<;>simp [h]<;>omega
theorem ZmA (X:Z7) (p:Z6) (b:Bool) (H1:List Int->List Int) (H2:List Int->List Int->List Int) (B:Nat) (hok:p.Ok) (hB:32<=B) (hl:(H1 p.secret).length=32) (hb:b=Yz H1 X p):
  evF (ZkC H1 H2 B) 20 91 [Wp X,.agg p.c] ⟨0,[]⟩ (Y4 (fun v=>v=.bool b)):=by
 refine @Eq.mpr _ (let q1:=p.secret;let q2:=List.length q1;let q3:=p.fin;let q4:=p.stage;let q5:=p.own;let q6:=p.id;let q7:=p.hash;let q8:=Yj (Z6.mk q5 q6 p.amount q7 p.expiry q4 q3 q1);let q9:=decide (q6=q6);let q10:=decide (q6<X.i0);let q11:=decide (1<=q4/\q4<=9);let q12:=AV.bool b;let q13:=AV.bool false=q12;let q14:=Z0 q11 (AV.bool (q1==Za)=q12) q13;let q15:=decide (q6<X.i1);let q16:=Z0 q8 (Z0 q5 (Z0 q9 (Z0 q10 q14 q13) False) (Z0 q9 (Z0 q15 q14 q13) False)) q13;let q17:=Z0 q11 q13 q13;let q18:=Z0 q8 (Z0 q5 (Z0 q9 (Z0 q10 q17 q13) False) (Z0 q9 (Z0 q15 q17 q13) False)) q13;let q19:=decide (q4>=6);let q20:=H1 q1;let q21:=Z0 q11 (AV.bool (q20==q7)=q12) q13;
 Z0 (decide (q2=32/\(32:Nat)=32)) (Z0 (q3==0) (Z0 (decide (q4<6)) q16 q18) (Z0 (q3==1) (Z0 q19 (q7=q7/\Z0 (decide (q2=32)) (Z0 (decide (32=q2)) (Z0 (decide (q2<=B)) (Z0 (decide (List.length q20=32/\List.length q7=32)) (Z0 q8 (Z0 q5 (Z0 q9 (Z0 q10 q21 q13) False) (Z0 q9 (Z0 q15 q21 q13) False)) q13) False) False) False) False) q18) (Z0 (q3==2) (Z0 q19 q16 q18) q18))) False) (by kernel_rfl) ?_
 conv=>zeta
 have e0:Z6.mk p.own p.id p.amount p.hash p.expiry p.stage p.fin p.secret=p:=rfl
 rw [e0]
 subst hb
 simp only [hok.secret,hok.hash,hl,decide_true,and_self,Z8E,true_and,decide_eq_true hB,WD]
 congr 1
 unfold Yz QW Z7.nx
 simp only [Z6R,show (6<=p.stage)=(p.stage>=6) from rfl,Zdr]
 have es:(H1 p.secret==p.hash)=(H1 p.secret==p.hash):=rfl
 generalize (H1 p.secret==p.hash)=ch
 generalize (p.secret==Za)=cz
 generalize Yj p=c1
 generalize decide (p.stage<6)=c6
 generalize decide (1<=p.stage/\p.stage<=9)=d2
 generalize (p.fin==0)=f0
 generalize (p.fin==1)=f1
 generalize (p.fin==2)=f2
 cases p.own
 ·simp only
  generalize decide (p.id<X.i0)=d0
  generalize decide (p.id<X.i1)=d1
  cases f0<;>cases f1<;>cases f2<;>cases c6<;>cases d1<;>cases d2<;>simp
 ·simp only
  generalize decide (p.id<X.i0)=d0
  generalize decide (p.id<X.i1)=d1
  cases f0<;>cases f1<;>cases f2<;>cases c6<;>cases d0<;>cases d2<;>simp
theorem Zbd (args:List AV) (h:Z9) (K:AV->Prop) (hl:Zdl Zr args h K):Zn PP 91 args h fun o h'=>∃v,o=.ret v/\h'=h/\K v:=by
 refine ZA.psumm (d:=20) (Zs _ _ _ _ _ hl fun a ha=> ?_)
 split at ha
 ·obtain ⟨X,hX,ho,hK⟩:=ha
  exact ⟨_,(ZA.evV Zg1 (ZmA X ⟨_,_,_,_,_,_,_,_⟩ _ _ _ _ ho (by decide) (VG _) rfl)).conv (fun E r hr=>hr.head (fun _ hc=>W0 hX hc) fun _ hc=>hc),fun _=>rfl,hK⟩
 ·exact ha.elim
end Go.Tk
end
section
namespace Go.Tk
open IntKind (i64 u8 u32 u64 wrap)
theorem ZmB (s:Int):(if 5<s then 5 else s)=min s 5:=by split<;>omega
theorem ZmC (p q:Z6) (b:Bool) (hb:b=decide (Xi p q)):
  evF Zjd 20 92 [.agg p.c,.agg q.c] ⟨0,[]⟩ (Y4 (fun v=>v=.bool b)):=by
 refine @Eq.mpr _ (let q1:=q.own;let q2:=p.id;let q3:=q2 !=q2;let q4:=q.id;let q5:=q4 !=q4;let q6:=AV.bool b;let q7:=AV.bool false=q6;let q8:=Z0 (!p.own==q1) (AV.bool true=q6) (AV.bool (decide ((if 5<p.stage then 5 else p.stage)>=if 5<q.stage then 5 else q.stage))=q6);let q9:=decide (q2<q4);let q10:=decide (q2>q4);let q11:=Z0 q10 q7 q7;let q12:=Z0 q3 (Z0 q5 q7 q8) (Z0 q5 q7 (Z0 q9 q8 q11));
 Z0 p.own (Z0 q1 q12 (Z0 q3 (Z0 q5 q8 q8) (Z0 q5 q8 (Z0 q9 q8 (Z0 q10 q8 q8))))) (Z0 q1 (Z0 q3 (Z0 q5 q7 q7) (Z0 q5 q7 (Z0 q9 q7 q11))) q12)) (by kernel_rfl) ?_
 conv=>zeta
 subst hb
 simp only [bne_self_eq_false,Zdj,WD,ZmB]
 congr 1
 refine Bool.eq_iff_iff.2 (Iff.trans (b:=Xi p q) ?_ decide_eq_true_iff.symm)
 unfold Xi
 cases p.own<;>cases q.own<;>by_cases h1:p.id<q.id<;>by_cases h2:q.id<p.id<;>simp [h1,h2]
theorem ZkD (X:Z7) (p:Z6) (s:Int) (b:Bool) (hX:YX X) (hb:b=decide (ZS X.side p.own=s)):
  evF G0 20 136 [.agg p.c,.pview [Wp X] 0,.pview [.int .i64 s] 0] ⟨0,[]⟩ (Y4 (fun v=>v=.bool b)):=by
 refine @Eq.mpr _ (let q1:=decide (s=s);
 Z0 p.own (Z0 q1 (AV.bool (X.side==s)=AV.bool b) False) (Z0 q1 (AV.bool (wrap i64 (1-X.side)==s)=AV.bool b) False)) (by kernel_rfl) ?_
 conv=>zeta
 obtain ⟨h1,h2⟩:=hX
 rw [decide_eq_true (rfl:s=s),w64 (by omega)]
 subst hb
 unfold ZS
 simp only [Z8E,WD]
 cases p.own<;>rfl
theorem Zg2 (args:List AV) (h:Z9) (K:AV->Prop) (hl:Zje args h K):Zn PP 92 args h fun o h'=>∃v,o=.ret v/\h'=h/\K v:=by
 unfold Zje at hl
 split at hl
 ·exact ZU Z9J rfl (ZmC ⟨_,_,_,_,_,_,_,_⟩ ⟨_,_,_,_,_,_,_,_⟩ _ rfl) (fun u hu=>hu▸hl)
 ·exact hl.elim
end Go.Tk
end
section
namespace Go.Tk
open IntKind (i64 u8 u32 u64 wrap)
theorem Zg3 (args:List AV) (h:Z9) (K:AV->Prop) (hl:Zjf args h K):Zn PP 136 args h fun o h'=>∃v,o=.ret v/\h'=h/\K v:=by
 unfold Zjf at hl
 split at hl
 ·rename_i ow id am ha ex st en se cs s
  obtain ⟨X,hX,hs,hK⟩:=hl
  have:=ZU (h:=h) Zu rfl (ZkD X ⟨ow,id,am,ha,ex,st,en,se⟩ s _ hs rfl) (fun u hu=>hu▸hK)
  exact this.conv fun E r hr=>hr.head (fun _ hc=>hc) fun _ hr=>hr.head (fun _ hc=>Z5C hX hc) fun _ hc=>hc
 ·exact hl.elim
noncomputable def Zjh:Zh:=G0.withP 136 Zjf
theorem Zg4:Zjh.Ok:=Zh.withP_ok Zu Zg3
def svC (X:Z7) (s:Int):AV:=.func (.func 136) [] [.pview [Wp X] 0,.pview [.int .i64 s] 0]
def svS (X:Z7) (s:Int) (n i c:Nat) (O:List Z6):St:=⟨22,[(9,.int .i64 i),(8,.int .i64 n),(7,.vrows 70 n (Z4 X.L) n),(1,svC X s),(4,.nslice ⟨0,0,70,0,0⟩ 70 c c)],⟨1,[(0,.rows 70 c (Z4 O))]⟩,[]⟩
def svE (c:Nat) (O:List Z6):St:=⟨22,[(4,.nslice ⟨0,0,70,0,0⟩ 70 c c)],⟨1,[(0,.rows 70 c (Z4 O))]⟩,[]⟩
theorem ZmD (X:Z7) (s:Int) (n i c c1:Nat) (O O1:List Z6) (Z1 Z2:Prop) (hn:n<1000) (hL:X.L.length=n) (hi:i<=n) (hO:O.length=c) (hci:c<=i) (hX:YX X) (h1:i<n->O1=O++X4 (decide (ZS X.side (X.L.getD i Z8).own=s)) (X.L.getD i Z8)) (hc1:c1=O1.length) (hZ1:i<n->Z1) (hZ2:i=n->Z2):
  ZB Zjh 20 135 0 0 (svS X s n i c O) (rdM 0 0 9 (svS X s n (i+1) c1 O1) (svE c O) (svE c O) (svE c O) Z1 Z2 False False):=by
 refine @Eq.mpr _ (let q1:=X.L;let q2:=List.length q1;let q3:=Z4 q1;let q4:=Z7.c X (AV.vrows 70 q2 q3 q2);let q5:=List.getD q1 (Int.toNat (↑i:Int)) Z8;let q6:=q5.own;let q7:=decide (c=c);let q8:=c+1;let q9:=decide (wrap i64 ((↑i:Int)+1)=(↑(i+1):Int));let q10:=decide ((↑n:Int)=(↑n:Int));let q11:=decide (n=n);let q12:=q3=q3;let q13:=[AV.pview q4 0];let q14:=q13=q13;let q15:=[AV.int i64 s];let q16:=q15=q15;let q17:=decide (q8=c1);let q18:=Z4 O;let q19:=decide (c=c1);let q20:=[(0,0)];
 Z0 (decide ((↑i:Int)<(↑n:Int)))
 (Z0 (decide (0<=(↑i:Int)/\(↑i:Int)<(↑n:Int)))
 (∃(X:Z7),
 let q41:=X.side;
 LV q4 X/\(0<=q41/\q41<=1)/\Z0 (decide (ZS q41 q6=s)) (Z0 q7 (Z0 (decide (q8*112<=140737488355328)) (Z0 q9 (Z0 q10 (Z0 q11 (q12/\Z0 q11 (q14/\q16/\Z0 q17 (Z0 (decide (c1<=q8)) (Z0 q17 (Zc 0 [(0,3)] c1 (Z4 O1) (ZZ c q18 (YG [AV.bool q6,AV.int i64 q5.id,AV.int i64 q5.amount,AV.arr u8 32 q5.hash,AV.int i64 q5.expiry,AV.int i64 q5.stage,AV.int i64 q5.fin,AV.arr u8 32 q5.secret] 0 70))/\Z1) False) False) False) False) False) False) False) False) False) (Z0 q9 (Z0 q10 (Z0 q11 (q12/\Z0 q11 (q14/\q16/\Z0 q19 (Z0 (decide (c1<=c)) (Z0 q19 (Zc 0 q20 c1 (Z4 O1) q18/\Z1) False) False) False) False) False) False) False))
 False)
 (Z0 q7 (Z0 (decide (c<=c)) (Z0 q7 (Zc 0 q20 c q18 q18/\Z2) False) False) False)) (by kernel_rfl) ?_
 conv=>zeta
 try simp only [Zi]
 try simp only [Zj]
 try simp only [Zf]
 try simp only [Zk]
 try simp only [Zl]
 try simp only [Zg]
 try simp only [Int.toNat_natCast,Nat.zero_add,true_and,and_true,Nat.le_refl]
 refine ⟨fun hc=> ?_,fun hc=>⟨Zp fun _ _=>rfl,hZ2 (by omega)⟩⟩
 have hlt:i<n:=by omega
 have h1:=h1 hlt
 have hwr:i64.wrap ((i:Int)+1)=((i+1:Nat):Int):=by rw [w64 (by omega)];omega
 refine ⟨by omega,X,.a rfl,hX,fun hd=> ?_,fun hd=> ?_⟩
 ·rw [decide_eq_true hd] at h1
  have hl:c1=c+1:=by rw [hc1,h1];simp [X4,hO]
  subst hl
  subst h1
  have hR:Zc 0 [(0,3)] (c+1) (Z4 (O++X4 true (X.L.getD i Z8))) (ZZ c (Z4 O) (YG (X.L.getD i Z8).c 0 70)):=Zp fun j hj=>Yk hO (fun _ _=>rfl) hj
  repeat' apply And.intro
  all_goals first|omega|exact hwr|exact hR|exact hZ1 hlt|rfl
 ·rw [decide_eq_false hd] at h1
  have hl:c1=c:=by rw [hc1,h1];simp [X4,hO]
  subst hl
  simp only [X4,List.append_nil] at h1
  subst h1
  repeat' apply And.intro
  all_goals first|omega|exact hwr|exact Zp fun _ _=>rfl|exact hZ1 hlt|rfl
def UE (X:Z7) (s:Int) (i:Nat):List Z6:=ZR X.side s (X.L.take i)
theorem Zbe (X:Z7) (s:Int) {i:Nat} (hi:i<X.L.length):UE X s (i+1)=UE X s i++X4 (decide (ZS X.side (X.L.getD i Z8).own=s)) (X.L.getD i Z8):=Z10 hi
theorem Zg5 (X:Z7) (s:Int) (i:Nat):(UE X s i).length<=i:=by
 refine Nat.le_trans (List.length_filter_le _ _) ?_
 rw [List.length_take];omega
theorem Zds (X:Z7) (s:Int):UE X s X.L.length=ZR X.side s X.L:=by unfold UE;rw [List.take_length]
noncomputable def ZhN (X:Z7) (s:Int) (n:Nat):Zh:=Zjh.withL 135 0 (goM 0 (svS X s n 0 0 []) (X.L.length=n/\n<1000/\YX X) (Yu 0 n 9 (fun i=>i<n) (fun i=>i=n) (fun _=>False) (fun _=>False) (fun i=>svE (UE X s i).length (UE X s i)) (fun i=>svE (UE X s i).length (UE X s i)) (fun i=>svE (UE X s i).length (UE X s i))))
theorem Z6S (X:Z7) (s:Int) (n:Nat):(ZhN X s n).Ok:=
 Zh.withGoM (N:=20) (S:=fun i=>svS X s n i (UE X s i).length (UE X s i)) Zg4 (by kernel_rfl) fun hC=>⟨by simp [UE,ZR],fun i hi _=>by
  obtain ⟨h1,h2,h3⟩:=hC
  exact ZmD X s n i _ _ _ _ (i<n/\i<n) (i=n) h2 h1 hi rfl (Zg5 X s i) h3 (fun h=>Zbe X s (by omega)) rfl (fun h=>⟨h,h⟩) (fun h=>h)⟩
theorem ZkE (X:Z7) (s:Int) (n c:Nat) (O:List Z6) (hL:X.L.length=n) (hn:n<1000) (hX:YX X) (hO:O=ZR X.side s X.L) (hc:c=O.length):
  evF (ZhN X s n) 20 135 [.vrows 70 n (Z4 X.L) n,svC X s] ⟨0,[]⟩ (ZX 0 (.ret (.nslice ⟨0,0,70,0,0⟩ 70 c c)) 1 [(0,.rows 70 c (Z4 O))]):=by
 refine @Eq.mpr _ (let q1:=decide (n=n);let q2:=Z4 X.L;let q3:=List.length X.L;let q4:=[AV.pview (Z7.c X (AV.vrows 70 q3 q2 q3)) 0];let q5:=[AV.int i64 s];
 Z0 (decide ((↑n:Int)=(↑n:Int)))
 (Z0 q1
 (q2=q2/\
 Z0 q1
 (q4=q4/\
 q5=q5/\
 (q3=n/\n<1000/\0<=X.side/\X.side<=1)/\
 ∀(i:Nat),
 let q11:=List.length (UE X s i);let q12:=decide (q11=c);let q13:=Z0 q12 (Z0 (decide (c<=q11)) (Z0 q12 (Zc 0 [(0,0)] c (Z4 O) (Z4 (UE X s i))/\True) False) False) False;
 i<=n->(∀(j:Nat),j<i->(fun (i:Nat)=>i<n) j)->(i=n->q13)/\(False->q13)/\(False->False))
 False)
 False)
 False) (by kernel_rfl) ?_
 conv=>zeta
 try simp only [Zi]
 try simp only [Zj]
 try simp only [Zf]
 try simp only [Zk]
 try simp only [Zl]
 try simp only [Zg]
 try simp only [Int.toNat_natCast,Nat.zero_add,true_and,and_true,Nat.le_refl]
 have ha:UE X s n=O:=by rw [<-hL,Zds,hO]
 repeat' apply And.intro
 all_goals first|rfl|exact hL|exact hn|exact hX.1|exact hX.2|skip
 intro i hi _
 refine ⟨fun he=> ?_,fun h=>h.elim,fun h=>h.elim⟩
 subst he
 rw [ha]
 subst hc
 repeat' apply And.intro
 all_goals first|omega|rfl|exact Zp fun _ _=>rfl
theorem Zbf (args:List AV) (h:Z9) (K:KO) (hl:Zdm args h K):Zn PP 135 args h K:=by
 refine ZA.fsumm (d:=20) (Zs _ _ _ _ _ hl fun a ha=> ?_)
 split at ha
 ·obtain ⟨X,rfl,h1,rfl,hX,hs,h2,hK⟩:=ha
  refine ⟨_,_,_,_,(ZA.evM (Z6S X _ _) (ZkE X _ _ _ _ h1.symm h2 hs rfl rfl)).conv fun E r hr=>hr.head (fun _ hc=>hc) fun _ hr=>hr.head (fun _ hc=> ?_) fun _ hc=>hc,rfl,⟨Nat.one_pos,.rows _ _ _ (fun i _=>Xq _ i),trivial⟩,hK⟩
  cases hc with
  | func fn fi ca fs cs h3 h4=>exact .func _ _ _ _ _ h3 (h4.head (fun _ hc=>Z5C hX hc) fun _ hc=>hc)
 ·obtain ⟨X,hX,hs,h1,hK⟩:=ha
  refine ⟨_,_,_,_,(ZA.evM (Z6S X _ 0) (ZkE X _ 0 _ _ (by rw [h1];rfl) (by omega) hs rfl rfl)).conv fun E r hr=>hr.head (fun _ hc=> ?_) fun _ hr=>hr.head (fun _ hc=> ?_) fun _ hc=>hc,rfl,⟨Nat.one_pos,.rows _ _ _ (fun i _=>Xq _ i),trivial⟩,hK⟩
  ·cases hc;exact .vrowsNil _ _ _ _ rfl rfl
  ·cases hc with
   | func fn fi ca fs cs h3 h4=>exact .func _ _ _ _ _ h3 (h4.head (fun _ hc=>Z5C hX hc) fun _ hc=>hc)
 ·exact ha.elim
noncomputable def Zdt:Zh:=G0.withF 135 Zdm
theorem Zdu:Zdt.Ok:=Zh.withF_ok Zu Zbf
def Zg6 (n i:Nat) (O:List Z6):St:=⟨26,[(14,.int .i64 i),(13,.int .i64 n),(12,.nslice ⟨0,0,70,0,0⟩ 70 n n),(4,.nslice ⟨1,0,0,0,0⟩ 1 i i)],⟨2,[(0,.rows 70 n (Z4 O)),(1,.ints .i64 (XP (O.take i)))]⟩,[]⟩
def Zbg (i:Nat) (O:List Z6):St:=⟨26,[(4,.nslice ⟨0,0,0,0,0⟩ 1 i i)],⟨1,[(0,.ints .i64 (XP (O.take i)))]⟩,[]⟩
theorem ZmE (n i:Nat) (O:List Z6) (Z1 Z2:Prop) (hn:n<1000) (hL:O.length=n) (hi:i<=n) (hZ1:i<n->Z1) (hZ2:i=n->Z2):
  ZB Zdt 20 83 0 0 (Zg6 n i O) (rdM 0 0 9 (Zg6 n (i+1) O) (Zbg i O) (Zbg i O) (Zbg i O) Z1 Z2 False False):=by
 refine @Eq.mpr _ (let q1:=0+Int.toNat (↑i:Int);let q2:=XP (List.take i O);let q3:=q2++[(List.getD O q1 Z8).amount];let q4:=List.length q3;let q5:=i+1;let q6:=decide (n=n);
 Z0 (decide ((↑i:Int)<(↑n:Int))) (Z0 (decide (0<=(↑i:Int)/\(↑i:Int)<(↑n:Int))) (Z0 (decide (q1<n)) (Z0 (decide (i64=i64/\List.length q2=i)) (Z0 (decide (q4*8<=140737488355328)) (Z0 (decide (wrap i64 ((↑i:Int)+1)=(↑q5:Int))) (Z0 (decide ((↑n:Int)=(↑n:Int))) (Z0 q6 (Z0 (decide (n<=n)) (Z0 (decide (q4=q5)) (Z0 (decide (q5<=q4)) (Z0 q6 (Zc 0 [(1,4),(0,0)] n (Z4 O) (Z4 O)/\q3=XP (List.take q5 O)/\Z1) False) False) False) False) False) False) False) False) False) False) False) (Z0 (decide (i=i)) (Z0 (decide (i<=i)) (q2=q2/\Z2) False) False)) (by kernel_rfl) ?_
 conv=>zeta
 try simp only [Zi]
 try simp only [Zj]
 try simp only [Zf]
 try simp only [Zk]
 try simp only [Zl]
 try simp only [Zg]
 try simp only [Int.toNat_natCast,Nat.zero_add,true_and,and_true,Nat.le_refl]
 have hl:(XP (O.take i)).length=i:=by unfold XP;rw [List.length_map,List.length_take];omega
 refine ⟨fun hc=> ?_,fun hc=>hZ2 (by omega)⟩
 have hlt:i<n:=by omega
 have hwr:i64.wrap ((i:Int)+1)=((i+1:Nat):Int):=by rw [w64 (by omega)];omega
 have ht:XP (O.take (i+1))=XP (O.take i)++[(O.getD i Z8).amount]:=by
  unfold XP
  rw [List.take_succ_eq_append_getElem (by omega),List.map_append,List.getD_eq_getElem?_getD,List.getElem?_eq_getElem (by omega)]
  rfl
 have hl2:(XP (O.take i)++[(O.getD i Z8).amount]).length=i+1:=by simp [hl]
 repeat' apply And.intro
 all_goals first|omega|exact hwr|exact Zp fun _ _=>rfl|exact ht.symm|exact hZ1 hlt|rfl
noncomputable def ZhO (O:List Z6) (n:Nat):Zh:=Zdt.withL 83 0 (goM 0 (Zg6 n 0 O) (O.length=n/\n<1000) (Yu 0 n 9 (fun i=>i<n) (fun i=>i=n) (fun _=>False) (fun _=>False) (fun i=>Zbg i O) (fun i=>Zbg i O) (fun i=>Zbg i O)))
theorem Zdv (O:List Z6) (n:Nat):(ZhO O n).Ok:=
 Zh.withGoM (N:=20) (S:=fun i=>Zg6 n i O) Zdu (by kernel_rfl) fun hC=>⟨rfl,fun i hi _=>ZmE n i O (i<n/\i<n) (i=n) hC.2 hC.1 hi (fun h=>⟨h,h⟩) (fun h=>h)⟩
theorem Z5E (side s:Int) (L:List Z6):(ZR side s L).length<=L.length:=List.length_filter_le _ _
theorem ZmF (X:Z7) (s:Int) (c:Nat) (O:List Z6) (xs:List Int) (hn:X.L.length<1000) (hX:YX X) (hO:O=ZR X.side s X.L) (hc:c=O.length) (hx:xs=XP O):
  evF (ZhO O c) 20 83 [Wp X,.int .i64 s] ⟨0,[]⟩ (ZX 0 (.ret (.nslice ⟨0,0,0,0,0⟩ 1 c c)) 1 [(0,.ints .i64 xs)]):=by
 refine @Eq.mpr _ (let q1:=List.length X.L;let q2:=Z4 X.L;
 ∃(X_1:Z7),
 let q5:=X_1.L;let q6:=X_1.side;let q7:=ZR q6 s q5;let q8:=List.length q7;let q9:=decide (q8=c);
 q1=q1/\
 q1=List.length q5/\
 q2=Z4 q5/\
 LV (Z7.c X (AV.vrows 70 q1 q2 q1)) X_1/\
 (0<=q6/\q6<=1)/\
 q1<1000/\
 Z0 (decide ((↑q8:Int)=(↑c:Int)))
 (Z0 q9
 (Z0 (decide (c<=q8))
 (Z0 q9
 (Zc 0 [(0,2)] c (Z4 O) (Z4 q7)/\
 XP (List.take 0 O)=[]/\
 (List.length O=c/\c<1000)/\
 ∀(i:Nat),
 let q15:=Z0 (decide (i=c)) (Z0 (decide (c<=i)) (XP (List.take i O)=xs/\True) False) False;
 i<=c->(∀(j:Nat),j<i->(fun (i:Nat)=>i<c) j)->(i=c->q15)/\(False->q15)/\(False->False))
 False)
 False)
 False)
 False) (by kernel_rfl) ?_
 conv=>zeta
 try simp only [Zi]
 try simp only [Zj]
 try simp only [Zf]
 try simp only [Zk]
 try simp only [Zl]
 try simp only [Zg]
 try simp only [Int.toNat_natCast,Nat.zero_add,true_and,and_true,Nat.le_refl]
 subst hx
 have hle:=Z5E X.side s X.L
 refine ⟨X, ?_⟩
 rw [<-hO]
 repeat' apply And.intro
 all_goals first|rfl|exact .a rfl|exact hX.1|exact hX.2|exact hn|exact hc.symm|(rw [hc];done)|(rw [hc,hO];omega)|exact Zp fun _ _=>rfl|skip
 intro i hi _
 refine ⟨fun he=> ?_,fun h=>h.elim,fun h=>h.elim⟩
 rw [he,hc,List.take_length]
 exact ⟨rfl,Nat.le_refl _,rfl⟩
theorem Q8 (args:List AV) (h:Z9) (K:KO) (hl:Z3h args h K):Zn PP 83 args h K:=by
 refine ZA.fsumm (d:=20) (Zs _ _ _ _ _ hl fun a ha=> ?_)
 split at ha
 ·obtain ⟨X,hX,hs,h1,hK⟩:=ha
  exact ⟨_,_,_,_,(ZA.evM (Zdv _ _) (ZmF X _ _ _ _ h1 hs rfl rfl rfl)).conv fun E r hr=>hr.head (fun _ hc=>W0 hX hc) fun _ hc=>hc,rfl,⟨Nat.one_pos,.ints _ _,trivial⟩,hK⟩
 ·exact ha.elim
def Z9N (xs:List Int) (n i:Nat) (a:Int):St:=⟨16,[(7,.int .i64 i),(6,.int .i64 n),(5,.vints .i64 xs n),(2,.int .i64 a)],⟨0,[]⟩,[]⟩
def Z4D (a:Int):St:=⟨16,[(2,.int .i64 a)],⟨0,[]⟩,[]⟩
theorem ZmG (xs:List Int) (n i:Nat) (a a1:Int) (Z1 Z2:Prop) (hn:n<1000) (hL:xs.length=n) (hi:i<=n) (h1:i<n->a1=i64.wrap (a+xs.getD i 0)) (hZ1:i<n->Z1) (hZ2:i=n->Z2):
  ZB G0 20 133 0 0 (Z9N xs n i a) (rdM 0 0 9 (Z9N xs n (i+1) a1) (Z4D a) (Z4D a) (Z4D a) Z1 Z2 False False):=by
 refine @Eq.mpr _ (Z0 (decide ((↑i:Int)<(↑n:Int))) (Z0 (decide (0<=(↑i:Int)/\(↑i:Int)<(↑n:Int))) (Z0 (decide (wrap i64 ((↑i:Int)+1)=(↑(i+1):Int))) (Z0 (decide ((↑n:Int)=(↑n:Int))) (xs=xs/\Z0 (decide (n=n)) (Z0 (decide (wrap i64 (a+List.getD xs (Int.toNat (↑i:Int)) 0)=a1)) Z1 False) False) False) False) False) (Z0 (decide (a=a)) Z2 False)) (by kernel_rfl) ?_
 try simp only [Zi]
 try simp only [Zj]
 try simp only [Zf]
 try simp only [Zk]
 try simp only [Zl]
 try simp only [Zg]
 try simp only [Int.toNat_natCast,Nat.zero_add,true_and,and_true,Nat.le_refl]
 refine ⟨fun hc=> ?_,fun hc=>hZ2 (by omega)⟩
 have hlt:i<n:=by omega
 have hwr:i64.wrap ((i:Int)+1)=((i+1:Nat):Int):=by rw [w64 (by omega)];omega
 have h1:=h1 hlt
 repeat' apply And.intro
 all_goals first|omega|exact hwr|exact h1.symm|exact hZ1 hlt|rfl
def Z3j (xs:List Int):Nat->Int
 | 0=>0
 | i+1=>i64.wrap (Z3j xs i+xs.getD i 0)
theorem Z12 {xs:List Int} (h:∀x∈xs,0<=x/\x<=1125899906842624):0<=xs.sum/\xs.sum<=1125899906842624*xs.length:=by
 induction xs with
 | nil=>simp
 | cons a r ih=>
  have h1:=h a (by simp)
  have h2:=ih fun x hx=>h x (by simp [hx])
  simp only [List.sum_cons,List.length_cons]
  omega
theorem Z9O {xs:List Int} (hn:xs.length<1000) (h:∀x∈xs,0<=x/\x<=1125899906842624):∀i,i<=xs.length->Z3j xs i=(xs.take i).sum
 | 0,_=>by simp [Z3j]
 | i+1,hi=>by
  have ih:=Z9O hn h i (by omega)
  have hb:=Z12 (xs:=xs.take (i+1)) fun x hx=>h x (List.mem_of_mem_take hx)
  have e:(xs.take (i+1)).sum=(xs.take i).sum+xs.getD i 0:=by
   rw [List.take_succ_eq_append_getElem (by omega),List.sum_append,List.getD_eq_getElem?_getD,List.getElem?_eq_getElem (by omega)]
   simp
  have hl:(xs.take (i+1)).length<=1000:=by rw [List.length_take];omega
  unfold Z3j
  rw [ih,<-e,w64 (by omega)]
noncomputable def ZhP (xs:List Int) (n:Nat):Zh:=G0.withL 133 0 (goM 0 (Z9N xs n 0 0) (xs.length=n/\n<1000) (Yu 0 n 9 (fun i=>i<n) (fun i=>i=n) (fun _=>False) (fun _=>False) (fun i=>Z4D (Z3j xs i)) (fun i=>Z4D (Z3j xs i)) (fun i=>Z4D (Z3j xs i))))
theorem Zdw (xs:List Int) (n:Nat):(ZhP xs n).Ok:=
 Zh.withGoM (N:=20) (S:=fun i=>Z9N xs n i (Z3j xs i)) Zu (by kernel_rfl) fun hC=>⟨rfl,fun i hi _=>ZmG xs n i _ _ (i<n/\i<n) (i=n) hC.2 hC.1 hi (fun _=>rfl) (fun h=>⟨h,h⟩) (fun h=>h)⟩
theorem ZmH (xs:List Int) (n:Nat) (r:Int) (hL:xs.length=n) (hn:n<1000) (hr:r=Z3j xs n):
  evF (ZhP xs n) 20 133 [.vints .i64 xs n] ⟨0,[]⟩ (Y4 (fun v=>v=.int .i64 r)):=by
 refine @Eq.mpr _ (Z0 (decide ((↑n:Int)=(↑n:Int)))
 (xs=xs/\
 Z0 (decide (n=n))
 ((List.length xs=n/\n<1000)/\
 ∀(i:Nat),
 let q1:=AV.int i64 (Z3j xs i)=AV.int i64 r;
 i<=n->(∀(j:Nat),j<i->(fun (i:Nat)=>i<n) j)->(i=n->q1)/\(False->q1)/\(False->False))
 False)
 False) (by kernel_rfl) ?_
 conv=>zeta
 try simp only [Zi]
 try simp only [Zj]
 try simp only [Zf]
 try simp only [Zk]
 try simp only [Zl]
 try simp only [Zg]
 try simp only [Int.toNat_natCast,Nat.zero_add,true_and,and_true,Nat.le_refl]
 refine ⟨⟨hL,hn⟩,fun i hi _=>⟨fun he=> ?_,fun h=>h.elim,fun h=>h.elim⟩⟩
 rw [he,hr]
theorem Zji (args:List AV) (h:Z9) (K:AV->Prop) (hl:smS args h K):Zn PP 133 args h fun o h'=>∃v,o=.ret v/\h'=h/\K v:=by
 refine ZA.psumm (d:=20) (Zs _ _ _ _ _ hl fun a ha=> ?_)
 split at ha
 ·rename_i xs n
  obtain ⟨h1,h2,h3,hK⟩:=ha
  have e:Z3j xs n=xs.sum:=by rw [h1,Z9O (by omega) h3 _ (Nat.le_refl _),List.take_length]
  exact ⟨_,ZA.evV (Zdw _ _) (ZmH xs n _ h1.symm h2 rfl),fun _=>rfl,by rw [e];exact hK⟩
 ·exact ha.elim
noncomputable def ZhQ:Zh:=(G0.withF 83 Z3h).withP 133 smS
theorem Zdx:ZhQ.Ok:=Zh.withP_ok (Zh.withF_ok Zu Q8) Zji
theorem ZmI (X:Z7) (s:Int) (r:Int) (hs:s=0\/s=1) (hX:YX X) (hA:Z11 X) (hr:r=Y5 X s):
  evF ZhQ 20 79 [Wp X,.int .i64 s] ⟨0,[]⟩ (Y4 (fun v=>v=.int .i64 r)):=by
 refine @Eq.mpr _ (let q1:=decide (0<=s/\s<2);let q2:=0+Int.toNat s;let q3:=decide (q2<2);let q4:=decide (q2<2);let q5:=List.length X.L;let q6:=List.getD [X.t.fee,(0:Int)] q2 0;let q7:=X.res;let q8:=List.getD [X.a0,X.a1] q2 0;
 Z0 q1
 (Z0 q3
 (Z0 q1
 (Z0 q4
 (∃(X_1:Z7),
 let q17:=X_1.side;let q18:=ZR q17 s X_1.L;let q19:=List.length q18;let q20:=XP q18;let q21:=List.take q19 (YC 0 q20);
 LV (Z7.c X (AV.vrows 70 q5 (Z4 X.L) q5)) X_1/\(0<=q17/\q17<=1)/\List.length X_1.L<1000/\Z0 q4 (Z0 (decide (q6=q6)) (Z0 (decide (q7=q7)) (Z0 q3 (Z0 (decide (q8=q8)) (Z0 (decide (0+q19<=List.length q20)) (q19=List.length q21/\q19<1000/\(∀(x:Int),List.Mem x q21->0<=x/\x<=1125899906842624)/\AV.int i64 (wrap i64 (wrap i64 (wrap i64 (q8-List.sum q21)-q7)-q6))=AV.int i64 r) False) False) False) False) False) False)
 False)
 False)
 False)
 False) (by kernel_rfl) ?_
 conv=>zeta
 obtain ⟨h1,h2,h3,h4,h5,h6⟩:=hA
 have hle:=Z5E X.side s X.L
 have hb:∀x∈XP (ZR X.side s X.L),0<=x/\x<=1125899906842624:=fun x hx=>by
  obtain ⟨z,hz,rfl⟩:=List.mem_map.1 hx
  exact h2 z ((List.mem_filter.1 hz).1)
 have hl:(XP (ZR X.side s X.L)).length=(ZR X.side s X.L).length:=List.length_map _
 have hsum:=Z12 hb
 have e:List.take (ZR X.side s X.L).length (YC 0 (XP (ZR X.side s X.L)))=XP (ZR X.side s X.L):=by rw [Yf,List.drop_zero,<-hl,List.take_length]
 try simp only [Zi]
 try simp only [Zj]
 try simp only [Zf]
 try simp only [Zk]
 try simp only [Zl]
 try simp only [Zg]
 try simp only [Int.toNat_natCast,Nat.zero_add,true_and,and_true,Nat.le_refl]
 repeat' first|apply And.intro|refine Exists.intro X ?_
 all_goals try rw [e]
 all_goals first|omega|rfl|exact .a rfl|exact hX.1|exact hX.2|exact hb|skip
 rw [hr]
 unfold Y5 Z7.am
 generalize (XP (ZR X.side s X.L)).sum=q at*
 congr 1
 rcases hs with rfl|rfl
 ·simp only [Int.toNat_zero,List.getD_cons_zero,if_true]
  have e2:i64.wrap (X.a0-q)=X.a0-q:=w64 (by omega)
  have e3:i64.wrap (X.a0-q-X.res)=X.a0-q-X.res:=w64 (by omega)
  rw [e2,e3,w64 (by omega)]
 ·have e1:(1:Int).toNat=1:=rfl
  simp only [e1,List.getD_cons_succ,List.getD_cons_zero,show ¬(1:Int)=0 by decide,if_false]
  have e2:i64.wrap (X.a1-q)=X.a1-q:=w64 (by omega)
  have e3:i64.wrap (X.a1-q-X.res)=X.a1-q-X.res:=w64 (by omega)
  rw [e2,e3,w64 (by omega)]
theorem Z5F (args:List AV) (h:Z9) (K:AV->Prop) (hl:ZfX args h K):Zn PP 79 args h fun o h'=>∃v,o=.ret v/\h'=h/\K v:=by
 refine ZA.psumm (d:=20) (Zs _ _ _ _ _ hl fun a ha=> ?_)
 split at ha
 ·obtain ⟨X,hX,hs,h1,h2,hK⟩:=ha
  exact ⟨_,(ZA.evV Zdx (ZmI X _ _ h1 hs h2 rfl)).conv fun E r hr=>hr.head (fun _ hc=>W0 hX hc) fun _ hc=>hc,fun _=>rfl,hK⟩
 ·exact ha.elim
end Go.Tk
end
section
namespace Go.Tk
open IntKind (i64 u8 u32 u64 wrap)
noncomputable def ZhR:Zh:=G0.withF 83 Z3h
theorem Zdy:ZhR.Ok:=Zh.withF_ok Zu Q8
theorem ZkF (X:Z7) (s:Int) (b:Bool) (hX:YX X) (hn:X.L.length<1000) (hb:b=decide ((ZR X.side s X.L).length<=8)):
  evF ZhR 20 90 [.int .i64 s,.pview [Wp X] 0] ⟨0,[]⟩ (Y4 (fun v=>v=.bool b)):=by
 refine @Eq.mpr _ (let q1:=List.length X.L;
 ∃(X_1:Z7),
 let q3:=X_1.side;
 LV (Z7.c X (AV.vrows 70 q1 (Z4 X.L) q1)) X_1/\(0<=q3/\q3<=1)/\List.length X_1.L<1000/\AV.bool (decide ((↑(List.length (ZR q3 s X_1.L)):Int)<=8))=AV.bool b) (by kernel_rfl) ?_
 conv=>zeta
 subst hb
 refine ⟨X,.a rfl,hX,hn, ?_⟩
 congr 1
 rw [Bool.eq_iff_iff,decide_eq_true_iff,decide_eq_true_iff]
 omega
theorem Zdz (args:List AV) (h:Z9) (K:AV->Prop) (hl:ZhM args h K):Zn PP 90 args h fun o h'=>∃v,o=.ret v/\h'=h/\K v:=by
 refine ZA.psumm (d:=20) (Zs _ _ _ _ _ hl fun a ha=> ?_)
 split at ha
 ·obtain ⟨X,hX,hs,hn,hK⟩:=ha
  exact ⟨_,(ZA.evV Zdy (ZkF X _ _ hs hn rfl)).conv fun E r hr=>hr.head (fun _ hc=>hc) fun _ hr=>hr.head (fun _ hc=>Z5C hX hc) fun _ hc=>hc,fun _=>rfl,hK⟩
 ·exact ha.elim
noncomputable def Zg7 (H1:List Int->List Int):Zh:=(G0.withP 91 (Zdl H1)).withP 92 Zje
theorem Zg8:(Zg7 Zr).Ok:=Zh.withP_ok (Zh.withP_ok Zu Zbd) Zg2
noncomputable def ZdA (H1:List Int->List Int) (X:Z7) (n:Nat):Zh:=((((Z5z (Zg7 H1)).withP 72 Zdh).withP 90 ZhM).withP 79 ZfX).withF 83 Z3h
theorem ZdB {H1:List Int->List Int} (h0:(Zg7 H1).Ok) (X:Z7) (n:Nat):(ZdA H1 X n).Ok:=Zh.withF_ok (Zh.withP_ok (Zh.withP_ok (Zh.withP_ok (Zh.withP_ok (Zh.withP_ok (Zh.withP_ok (Zh.withP_ok h0 Z1X) Z0q) Z0r) Z0s) Zdi) Zdz) Z5F) Q8
def rgS (X:Z7) (n i:Nat):St:=⟨140,[(99,.int .i64 i),(98,.int .i64 n),(97,.vrows 70 n (Z4 X.L) n),(1,.ptr (some ⟨0,0,0,0,0⟩))],⟨1,[(0,.flat [Wp X])]⟩,[]⟩
def rgE (X:Z7):St:=⟨140,[(1,.ptr (some ⟨0,0,0,0,0⟩))],⟨1,[(0,.flat [Wp X])]⟩,[]⟩
def rgF:St:=⟨140,[(2,.bool false)],⟨0,[]⟩,[]⟩
theorem ZmJ (X:Z7) (n i:Nat) (H1:List Int->List Int) (Z1 Z2 Z3:Prop) (hn:n<1000) (hL:X.L.length=n) (hi:i<=n) (hok:∀h∈X.L,h.Ok) (h1:i<n->Yy H1 X i=true->Z1) (h2:i=n->Z2) (h3:i<n->Yy H1 X i=false->Z3):
  ZB (ZdA H1 X n) 20 32 0 0 (rgS X n i) (rdM 0 0 9 (rgS X n (i+1)) (rgE X) rgF rgF Z1 Z2 Z3 False):=by
 refine @Eq.mpr _ (let q1:=X.L;let q2:=List.length q1;let q3:=Z4 q1;let q4:=Z7.c X (AV.vrows 70 q2 q3 q2);let q5:=List.getD q1 (Int.toNat (↑i:Int)) Z8;let q6:=Z6.mk q5.own q5.id q5.amount q5.hash q5.expiry q5.stage q5.fin q5.secret;let q7:=wrap i64 ((↑i:Int)-1);let q8:=List.getD q1 (Int.toNat q7) Z8;let q9:=decide (n=n);let q10:=q4=q4;let q11:=Z0 (decide (wrap i64 ((↑i:Int)+1)=(↑(i+1):Int))) (Z0 (decide ((↑n:Int)=(↑n:Int))) (Z0 q9 (q3=q3/\Z0 q9 (q10/\Z1) False) False) False) False;
 Z0 (decide ((↑i:Int)<(↑n:Int))) (Z0 (decide (0<=(↑i:Int)/\(↑i:Int)<(↑n:Int))) (∃(X:Z7),LV q4 X/\Z6.Ok q6/\Z0 (!Yz H1 X q6) Z3 (Z0 (decide ((↑i:Int)>0)) (Z0 (decide (0<=q7/\q7<(↑q2:Int))) (Z0 (!decide (Xi (Z6.mk q8.own q8.id q8.amount q8.hash q8.expiry q8.stage q8.fin q8.secret) q6)) Z3 q11) False) q11)) False) (q10/\Z2)) (by kernel_rfl) ?_
 conv=>zeta
 try simp only [Zi]
 try simp only [Zj]
 try simp only [Zf]
 try simp only [Zk]
 try simp only [Zl]
 try simp only [Zg]
 try simp only [Int.toNat_natCast,Nat.zero_add,true_and,and_true,Nat.le_refl]
 have e0:∀p:Z6,Z6.mk p.own p.id p.amount p.hash p.expiry p.stage p.fin p.secret=p:=fun _=>rfl
 simp only [e0]
 refine ⟨fun hc=> ?_,fun hc=>h2 (by omega)⟩
 have hlt:i<n:=by omega
 have hwr:i64.wrap ((i:Int)+1)=((i+1:Nat):Int):=by rw [w64 (by omega)];omega
 have hw1:0<i->i64.wrap ((i:Int)-1)=((i-1:Nat):Int):=fun h=>by rw [w64 (by omega)];omega
 have hx:(X.L.getD i Z8).Ok:=hok _ (ZD (by omega))
 refine ⟨by omega,X,.a rfl,hx,fun hu=>h3 hlt ?_,fun hu=> ?_⟩
 ·have hu:Yz H1 X (X.L.getD i Z8)=false:=by simpa using hu
  unfold Yy
  rw [hu];rfl
 have hu:Yz H1 X (X.L.getD i Z8)=true:=by simpa using hu
 refine ⟨fun hp=> ?_,fun hp=> ?_⟩
 ·have hp:0<i:=by omega
  rw [hw1 hp,Int.toNat_natCast]
  refine ⟨by omega,fun hf=>h3 hlt ?_,fun hf=> ?_⟩
  ·have hf:decide (Xi (X.L.getD (i-1) Z8) (X.L.getD i Z8))=false:=by simpa using hf
   unfold Yy
   rw [hu,hf,ZC (by omega:i≠0)];rfl
  ·have hf:decide (Xi (X.L.getD (i-1) Z8) (X.L.getD i Z8))=true:=by simpa using hf
   have hb:Yy H1 X i=true:=by
    unfold Yy
    rw [hu,hf];simp
   repeat' apply And.intro
   all_goals first|omega|exact hwr|exact h1 hlt hb|rfl
 ·have hb:Yy H1 X i=true:=by
   unfold Yy
   rw [hu,show i=0 by omega];rfl
  repeat' apply And.intro
  all_goals first|omega|exact hwr|exact h1 hlt hb|rfl
noncomputable def ZhS (H1:List Int->List Int) (X:Z7) (n:Nat):Zh:=(ZdA H1 X n).withL 32 0 (goM 0 (rgS X n 0) (n<1000/\X.L.length=n/\∀h∈X.L,h.Ok) (Yu 0 n 9 (fun i=>Yy H1 X i=true/\i<n) (fun i=>i=n) (fun i=>i<n/\Yy H1 X i=false) (fun _=>False) (fun _=>rgE X) (fun _=>rgF) (fun _=>rgF)))
theorem ZdC {H1:List Int->List Int} (h0:(Zg7 H1).Ok) (X:Z7) (n:Nat):(ZhS H1 X n).Ok:=by
 exact Zh.withGoM (N:=20) (S:=fun i=>rgS X n i) (ZdB h0 X n) (by kernel_rfl) fun hC=>⟨rfl,fun i hi _=>ZmJ X n i _ _ _ _ hC.1 hC.2.1 hi hC.2.2 (fun h h'=>⟨⟨h',h⟩,h⟩) (fun h=>h) (fun h h'=>⟨h,h'⟩)⟩
end Go.Tk
end
section
namespace Go.Tk
open IntKind (i64 u8 u32 u64 wrap)
theorem Y1 {t:X3} (h:W5 t=true):(0<=t.index/\t.index<=23)/\(1000<=t.cap/\t.cap<=1125899906842624)/\(1<=t.dust/\t.dust<=500)/\(0<=t.fee/\t.fee<=400)/\(1<=t.delay/\t.delay<=1000):=by
 unfold W5 at h
 simp only [Bool.and_eq_true,decide_eq_true_eq] at h
 omega
theorem Z9P {H:List Int->List Int} {X:Z7} (hn:X.L.length<1000) (h1:W5 X.t=true) (h3:0<=X.res/\X.res<=X.t.cap/10) (h4:0<=X.a0/\X.a0<=X.t.cap) (h5:X.a1=X.t.cap-X.a0) (hl:∀h∈X.L,Yz H X h=true):Z11 X:=by
 have hb:=Y1 h1
 refine ⟨hn,fun h hh=> ?_,by omega,by omega,by omega,by omega⟩
 have:=hl h hh
 unfold Yz Yj at this
 simp only [Bool.and_eq_true,decide_eq_true_eq] at this
 omega
theorem ZmK (X:Z7) (n:Nat) (H1:List Int->List Int) (b:Bool) (hL:X.L.length=n) (hn:n<1000) (ht:X.t.Ok) (hok:∀h∈X.L,h.Ok) (hb:b=YA H1 X):
  evF (ZhS H1 X n) 20 32 [Wp X] ⟨0,[]⟩ (Y4 (fun v=>v=.bool b)):=by
 refine @Eq.mpr _ (let q1:=X.t;let q2:=q1.cap;let q3:=X3.mk q1.fund q1.index q2 q1.dust q1.fee q1.delay q1.k0 q1.k1;let q4:=AV.bool b;let q5:=AV.bool false=q4;let q6:=X.a0;let q7:=X.L;let q8:=List.length q7;let q9:=Z4 q7;let q10:=Z7.c X (AV.vrows (70:Nat) q8 q9 q8);let q11:=decide (q8=n);
 X3.Ok q3/\
 Z0 ((if W5 q3=true then (0:Int) else (2:Int)) !=(0:Int)) q5
 (Z0 (!decide ((0:Int)<=X.side/\X.side<=(1:Int))) q5
 (Z0 (!decide ((0:Int)<=X.res/\X.res<=wrap i64 (Int.tdiv q2 (10:Int)))) q5
 (Z0 (!decide ((0:Int)<=q6/\q6<=q2)) q5
 (Z0 (X.a1 !=wrap i64 (q2-q6)) q5
 (Z0 (!decide ((0:Int)<=X.i0/\X.i0<=(2147483648:Int))) q5
 (Z0 (!decide ((0:Int)<=X.i1/\X.i1<=(2147483648:Int))) q5
 (∃(X_1:Z7),
 let q23:=X_1.side;
 LV q10 X_1/\
 ((0:Int)<=q23/\q23<=(1:Int))/\
 List.length X_1.L<(1000:Nat)/\
 Z0 (!decide (List.length (ZR q23 (0:Int) X_1.L)<=(8:Nat))) q5
 (∃(X_2:Z7),
 let q25:=X_2.side;
 LV q10 X_2/\
 ((0:Int)<=q25/\q25<=(1:Int))/\
 List.length X_2.L<(1000:Nat)/\
 Z0 (!decide (List.length (ZR q25 (1:Int) X_2.L)<=(8:Nat))) q5
 (Z0 (decide ((↑q8:Int)=(↑n:Int)))
 (Z0 q11
 (q9=q9/\
 Z0 q11
 (q10=q10/\
 (n<(1000:Nat)/\q8=n/\∀(h:Z6),List.Mem h q7->Z6.Ok h)/\
 ∀(i:Nat),
 i<=n->
 (∀(j:Nat),j<i->(fun (i:Nat)=>Yy H1 X i=true/\i<n) j)->
 (i=n->
 ∃(X:Z7),
 LV q10 X/\
 ((0:Int)<=X.side/\X.side<=(1:Int))/\
 ((0:Int)=(0:Int)\/(0:Int)=(1:Int))/\
 Z11 X/\
 Z0 (decide (Y5 X (0:Int)>=(0:Int)))
 (∃(X:Z7),
 let q27:=X.side;
 LV q10 X/\((0:Int)<=q27/\q27<=(1:Int))/\List.length X.L<(1000:Nat)/\Z0 ((↑(List.length (ZR q27 (1:Int) X.L)):Int)==(0:Int)) (AV.bool true=q4) (∃(X:Z7),LV q10 X/\((0:Int)<=X.side/\X.side<=(1:Int))/\((1:Int)=(0:Int)\/(1:Int)=(1:Int))/\Z11 X/\AV.bool (decide (Y5 X (1:Int)>=(0:Int)))=q4))
 q5)/\
 (i<n/\Yy H1 X i=false->q5)/\(False->False))
 False)
 False)
 False)))))))))) (by kernel_rfl) ?_
 conv=>zeta
 have e0:X3.mk X.t.fund X.t.index X.t.cap X.t.dust X.t.fee X.t.delay X.t.k0 X.t.k1=X.t:=rfl
 have no:¬(YA H1 X=true)->AV.bool false=AV.bool b:=fun h=>by rw [hb,Bool.eq_false_iff.2 h]
 have hr:=U3 (H:=H1) (X:=X)
 have hh:=Q7 (X:=X)
 have key:YA H1 X=true->_:=fun h=>(hh.1 (hr.1 h).1)
 have hlen:X.L.length<1000:=by omega
 rw [e0]
 simp only [Zg]
 refine ⟨ht,fun k=>no fun h=> ?_,fun k1=> ?_⟩
 ·rw [(key h).1] at k;simp at k
 have k1:W5 X.t=true:=by
  cases hq:W5 X.t with
  | true=>rfl
  | false=>rw [hq] at k1;simp at k1
 have tb:=Y1 k1
 have td:i64.wrap (Int.tdiv X.t.cap 10)=X.t.cap/10:=by rw [Int.tdiv_eq_ediv_of_nonneg (by omega),w64 (by omega)]
 rw [td]
 refine ⟨fun k=>no fun h=> ?_,fun k2=> ?_⟩
 ·have:=(key h).2.1;simp at k;omega
 have k2:0<=X.side/\X.side<=1:=by simpa using k2
 refine ⟨fun k=>no fun h=> ?_,fun k3=> ?_⟩
 ·have:=(key h).2.2.1;simp at k;omega
 have k3:0<=X.res/\X.res<=X.t.cap/10:=by simpa using k3
 refine ⟨fun k=>no fun h=> ?_,fun k4=> ?_⟩
 ·have:=(key h).2.2.2.1;simp at k;omega
 have k4:0<=X.a0/\X.a0<=X.t.cap:=by simpa using k4
 have tw:i64.wrap (X.t.cap-X.a0)=X.t.cap-X.a0:=w64 (by omega)
 rw [tw]
 refine ⟨fun k=>no fun h=> ?_,fun k5=> ?_⟩
 ·have:=(key h).2.2.2.2.1;simp at k;omega
 have k5:X.a1=X.t.cap-X.a0:=by simpa using k5
 refine ⟨fun k=>no fun h=> ?_,fun k6=> ?_⟩
 ·have:=(key h).2.2.2.2.2.1;simp at k;omega
 have k6:0<=X.i0/\X.i0<=2147483648:=by simpa using k6
 refine ⟨fun k=>no fun h=> ?_,fun k7=> ?_⟩
 ·have:=(key h).2.2.2.2.2.2.1;simp at k;omega
 have k7:0<=X.i1/\X.i1<=2147483648:=by simpa using k7
 refine ⟨X,.a rfl,k2,hlen,fun k=>no fun h=> ?_,fun k8=> ?_⟩
 ·have:=(key h).2.2.2.2.2.2.2.1;simp at k;omega
 have k8:(ZR X.side 0 X.L).length<=8:=by simpa using k8
 refine ⟨X,.a rfl,k2,hlen,fun k=>no fun h=> ?_,fun k9=> ?_⟩
 ·have:=(key h).2.2.2.2.2.2.2.2;simp at k;omega
 have k9:(ZR X.side 1 X.L).length<=8:=by simpa using k9
 have hhd:Z6Q X=true:=hh.2 ⟨k1,k2,k3,k4,k5,k6,k7,k8,k9⟩
 simp only [hL,decide_true]
 refine ⟨fun _=>⟨fun _=>⟨trivial,fun _=>⟨trivial,⟨hn,trivial,hok⟩,fun i hi hg=>⟨fun he=> ?_,fun hx=>no fun h=> ?_,fun h=>h.elim⟩⟩,fun h=>by cases h⟩,fun h=>by cases h⟩,fun h=>by cases h⟩
 ·subst he
  have hall:∀j,j<X.L.length->Yy H1 X j=true:=fun j hj=>(hg j (by omega)).1
  have hA:Z11 X:=Z9P (H:=H1) hlen k1 k3 k4 k5 fun h hh=>by
   obtain ⟨j,hj,rfl⟩:=List.getElem_of_mem hh
   have:=hall j hj
   unfold Yy at this
   simp only [Bool.and_eq_true] at this
   rw [List.getD_eq_getElem?_getD,List.getElem?_eq_getElem hj] at this
   exact this.1
  refine ⟨X,.a (by rw [hL]),k2,.inl trivial,hA,fun k10=>⟨X,.a (by rw [hL]),k2,hlen,fun k11=> ?_,fun k11=>⟨X,.a (by rw [hL]),k2,.inr trivial,hA, ?_⟩⟩,fun k=>no fun h=> ?_⟩
  ·have k10:0<=Y5 X 0:=by simpa using k10
   have:YA H1 X=true:=hr.2 ⟨hhd,hall,k10,.inl (by simpa using k11)⟩
   rw [hb,this]
  ·have k10:0<=Y5 X 0:=by simpa using k10
   rw [hb]
   congr 1
   rw [Bool.eq_iff_iff,decide_eq_true_iff]
   constructor
   ·intro h;exact hr.2 ⟨hhd,hall,k10,.inr h⟩
   ·intro h
    rcases (hr.1 h).2.2.2 with h|h
    ·rw [h] at k11;simp at k11
    ·exact h
  ·have:=(hr.1 h).2.2.1
   simp at k;omega
 ·have:=(hr.1 h).2.1 i (by omega)
  rw [hx.2] at this;cases this
theorem Zg9 (args:List AV) (h:Z9) (K:AV->Prop) (hl:Zkx Zr args h K):Zn PP 32 args h fun o h'=>∃v,o=.ret v/\h'=h/\K v:=by
 refine ZA.psumm (d:=20) (Zs _ _ _ _ _ hl fun a ha=> ?_)
 split at ha
 ·obtain ⟨X,hX,ht,hok,hn,hK⟩:=ha
  exact ⟨_,(ZA.evV (ZdC Zg8 X _) (ZmK X _ Zr _ rfl hn ht hok rfl)).conv fun E r hr=>hr.head (fun _ hc=>W0 hX hc) fun _ hc=>hc,fun _=>rfl,hK⟩
 ·exact ha.elim
end Go.Tk
end
section
namespace Go.Tk
open IntKind (i64 u8 u32 u64 wrap)
structure N5 where
 a:Int
 b:Int
 c:Int
 d:Int
 e:Int
def r5 (F:List Int->Int×Int) (xs:List Int) (o:Nat):Option (N5×Nat):=
 (rdN F xs o 1125899906842624).bind fun a=>(rdN F xs a.2 1125899906842624).bind fun b=>(rdN F xs b.2 1125899906842624).bind fun c=>
 (rdN F xs c.2 1125899906842624).bind fun d=>(rdN F xs d.2 1125899906842624).bind fun e=>some (⟨a.1,b.1,c.1,d.1,e.1⟩,e.2)
def ZdD (X:Z7) (n:N5):Z7:={ X with t:=⟨X.t.fund,n.a,n.b,n.c,n.d,n.e,X.t.k0,X.t.k1⟩}
def ZdE (X:Z7) (n:N5):Z7:={ X with res:=n.a,a0:=n.b,a1:=n.c,i0:=n.d,i1:=n.e}
def C5 (F:List Int->Int×Int) (g:Z7->N5->Z7) (X Y:Z7) (xs:List Int) (o p:Nat) (ok no:Prop):Prop:=o<=xs.length/\(∀n q,r5 F xs o=some (n,q)->Y=g X n/\p=q/\ok)/\(r5 F xs o=none->no)
def lr2 (X:Z7) (xs:List Int) (o:Nat):St:=⟨120,lrT [(86,.int .i64 5),(85,.nslice ⟨6,0,0,0,0⟩ 1 5 5),(87,.int .i64 0)],⟨7,lrH X .nilslice xs o [(6,.flat [.ptr (some ⟨5,0,0,102,0⟩),.ptr (some ⟨5,0,0,103,0⟩),.ptr (some ⟨5,0,0,103,1⟩),.ptr (some ⟨5,0,0,105,0⟩),.ptr (some ⟨5,0,0,105,1⟩)])]⟩,lrD⟩
theorem ZmL (F:List Int->Int×Int) (H:List Int->List Int) (X Y:Z7) (xs:List Int) (o p:Nat) (ok no:Prop) (hC:C5 F ZdD X Y xs o p ok no):
  Z6E (Z5D F H) 20 17 0 0 (lr0 X xs o) (jnP 0 0 pvL (lr1 Y xs p) lrP ok no):=by
 refine @Eq.mpr _ (let q1:=List.length xs;let q2:=q1-o;let q3:=rdN F xs o 1125899906842624;let q4:=q1-p;let q5:=X.t;let q6:=Y.t;
 Z0 (decide (q2=q2/\o<=q1/\q2=q2/\(0:Int)<=1125899906842624))
 ((∀(v:Int) (o':Nat),
 let q13:=rdN F xs o' 1125899906842624;
 q3=some (v,o')->
 o<=o'/\o'<=q1/\v<=1125899906842624->
 Z0 (decide (q1-o'=q1-o'/\o'<=q1/\q1-o'=q1-o'/\(0:Int)<=1125899906842624))
 ((∀(v_1:Int) (o'_1:Nat),
 let q15:=rdN F xs o'_1 1125899906842624;
 q13=some (v_1,o'_1)->
 o'<=o'_1/\o'_1<=q1/\v_1<=1125899906842624->
 Z0 (decide (q1-o'_1=q1-o'_1/\o'_1<=q1/\q1-o'_1=q1-o'_1/\(0:Int)<=1125899906842624))
 ((∀(v_2:Int) (o':Nat),
 let q17:=rdN F xs o' 1125899906842624;
 q15=some (v_2,o')->
 o'_1<=o'/\o'<=q1/\v_2<=1125899906842624->
 Z0 (decide (q1-o'=q1-o'/\o'<=q1/\q1-o'=q1-o'/\(0:Int)<=1125899906842624))
 ((∀(v_3:Int) (o'_2:Nat),
 let q19:=rdN F xs o'_2 1125899906842624;
 q17=some (v_3,o'_2)->o'<=o'_2/\o'_2<=q1/\v_3<=1125899906842624->Z0 (decide (q1-o'_2=q1-o'_2/\o'_2<=q1/\q1-o'_2=q1-o'_2/\(0:Int)<=1125899906842624)) ((∀(v_4:Int) (o':Nat),q19=some (v_4,o')->o'_2<=o'/\o'<=q1/\v_4<=1125899906842624->xs=xs/\Z0 (decide (o'=p)) (Z0 (decide (q1-o'=q4)) (Z0 (decide (q4<=q1-o')) (q5.fund=q6.fund/\Z0 (decide (v=q6.index)) (Z0 (decide (v_1=q6.cap)) (Z0 (decide (v_2=q6.dust)) (Z0 (decide (v_3=q6.fee)) (Z0 (decide (v_4=q6.delay)) (q5.k0=q6.k0/\q5.k1=q6.k1/\Z0 (decide (X.side=Y.side)) (Z0 (decide (X.res=Y.res)) ([X.a0,X.a1]=[Y.a0,Y.a1]/\[X.i0,X.i1]=[Y.i0,Y.i1]/\ok) False) False) False) False) False) False) False) False) False) False)/\(q19=none->no)) False)/\
 (q17=none->no))
 False)/\
 (q15=none->no))
 False)/\
 (q13=none->no))
 False)/\
 (q3=none->no))
 False) (by kernel_rfl) ?_
 conv=>zeta
 try simp only [Zi]
 try simp only [Zj]
 try simp only [Zf]
 try simp only [Zk]
 try simp only [Zl]
 try simp only [Zg]
 try simp only [Int.toNat_natCast,Nat.zero_add,true_and,and_true,Nat.le_refl]
 obtain ⟨ho,h1,h2⟩:=hC
 cases h:r5 F xs o with
 | none=>
  have h2:=h2 h
  clear h1
  repeat' (first|(refine And.intro ?_ ?_)|intro _)
  all_goals first|omega|exact h2|skip
  all_goals (exfalso;simp [r5, *] at h)
 | some nq=>
  obtain ⟨n,q⟩:=nq
  obtain ⟨rfl,rfl,hok⟩:=h1 n q h
  clear h1 h2
  repeat' (first|(refine And.intro ?_ ?_)|intro _)
  all_goals first|omega|exact hok|trivial|skip
  all_goals (simp [r5, *] at h)
  all_goals (obtain ⟨rfl,rfl⟩:=h)
  all_goals first|rfl|exact Nat.le_refl _
theorem ZmM (F:List Int->Int×Int) (H:List Int->List Int) (X Y:Z7) (xs:List Int) (o p:Nat) (ok no:Prop) (hC:C5 F ZdE X Y xs o p ok no):
  Z6E (Z5D F H) 20 17 2 0 (lr2 X xs o) (jnP 0 2 pvL (lr1 Y xs p) lrP ok no):=by
 refine @Eq.mpr _ (let q1:=List.length xs;let q2:=q1-o;let q3:=rdN F xs o 1125899906842624;let q4:=q1-p;let q5:=X.t;let q6:=Y.t;
 Z0 (decide (q2=q2/\o<=q1/\q2=q2/\(0:Int)<=1125899906842624))
 ((∀(v:Int) (o':Nat),
 let q13:=rdN F xs o' 1125899906842624;
 q3=some (v,o')->
 o<=o'/\o'<=q1/\v<=1125899906842624->
 Z0 (decide (q1-o'=q1-o'/\o'<=q1/\q1-o'=q1-o'/\(0:Int)<=1125899906842624))
 ((∀(v_1:Int) (o'_1:Nat),
 let q15:=rdN F xs o'_1 1125899906842624;
 q13=some (v_1,o'_1)->
 o'<=o'_1/\o'_1<=q1/\v_1<=1125899906842624->
 Z0 (decide (q1-o'_1=q1-o'_1/\o'_1<=q1/\q1-o'_1=q1-o'_1/\(0:Int)<=1125899906842624))
 ((∀(v_2:Int) (o':Nat),
 let q17:=rdN F xs o' 1125899906842624;
 q15=some (v_2,o')->
 o'_1<=o'/\o'<=q1/\v_2<=1125899906842624->
 Z0 (decide (q1-o'=q1-o'/\o'<=q1/\q1-o'=q1-o'/\(0:Int)<=1125899906842624))
 ((∀(v_3:Int) (o'_2:Nat),
 let q19:=rdN F xs o'_2 1125899906842624;
 q17=some (v_3,o'_2)->o'<=o'_2/\o'_2<=q1/\v_3<=1125899906842624->Z0 (decide (q1-o'_2=q1-o'_2/\o'_2<=q1/\q1-o'_2=q1-o'_2/\(0:Int)<=1125899906842624)) ((∀(v_4:Int) (o':Nat),q19=some (v_4,o')->o'_2<=o'/\o'<=q1/\v_4<=1125899906842624->xs=xs/\Z0 (decide (o'=p)) (Z0 (decide (q1-o'=q4)) (Z0 (decide (q4<=q1-o')) (q5.fund=q6.fund/\Z0 (decide (q5.index=q6.index)) (Z0 (decide (q5.cap=q6.cap)) (Z0 (decide (q5.dust=q6.dust)) (Z0 (decide (q5.fee=q6.fee)) (Z0 (decide (q5.delay=q6.delay)) (q5.k0=q6.k0/\q5.k1=q6.k1/\Z0 (decide (X.side=Y.side)) (Z0 (decide (v=Y.res)) ([v_1,v_2]=[Y.a0,Y.a1]/\[v_3,v_4]=[Y.i0,Y.i1]/\ok) False) False) False) False) False) False) False) False) False) False)/\(q19=none->no)) False)/\
 (q17=none->no))
 False)/\
 (q15=none->no))
 False)/\
 (q13=none->no))
 False)/\
 (q3=none->no))
 False) (by kernel_rfl) ?_
 conv=>zeta
 try simp only [Zi]
 try simp only [Zj]
 try simp only [Zf]
 try simp only [Zk]
 try simp only [Zl]
 try simp only [Zg]
 try simp only [Int.toNat_natCast,Nat.zero_add,true_and,and_true,Nat.le_refl]
 obtain ⟨ho,h1,h2⟩:=hC
 cases h:r5 F xs o with
 | none=>
  have h2:=h2 h
  clear h1
  repeat' (first|(refine And.intro ?_ ?_)|intro _)
  all_goals first|omega|exact h2|skip
  all_goals (exfalso;simp [r5, *] at h)
 | some nq=>
  obtain ⟨n,q⟩:=nq
  obtain ⟨rfl,rfl,hok⟩:=h1 n q h
  clear h1 h2
  repeat' (first|(refine And.intro ?_ ?_)|intro _)
  all_goals first|omega|exact hok|trivial|skip
  all_goals (simp [r5, *] at h)
  all_goals (obtain ⟨rfl,rfl⟩:=h)
  all_goals first|rfl|exact Nat.le_refl _
def lo5 (F:List Int->Int×Int) (id:Nat) (g:Z7->N5->Z7) (S:Z7->List Int->Nat->St):Nat->St->KE->Prop:=fun k s Z=>match Nat.beq k 0 with
 | true=>∃(X:Z7) (xs:List Int) (o:Nat),W4 0 (S X xs o) s (o<=xs.length/\(∀n q,r5 F xs o=some (n,q)->q<=xs.length->Z (.exit id) (lr1 (g X n) xs q))/\(r5 F xs o=none->Z (.panic pvL) lrP))
 | false=>False
theorem Vp {xs:List Int} {o p:Nat} {v most:Int} (ho:o<=xs.length) (h:rdN (Zo Zq) xs o most=some (v,p)):o<=p/\p<=xs.length/\v<=most:=by
 unfold rdN at h
 split at h
 ·rename_i hc
  simp only [Option.some.injEq,Prod.mk.injEq] at h
  have hle:=Q5 Zq (xs.drop o)
  rw [List.length_drop] at hle
  omega
 ·cases h
theorem ZkG {xs:List Int} {o p:Nat} {n:N5} (ho:o<=xs.length) (h:r5 (Zo Zq) xs o=some (n,p)):p<=xs.length:=by
 unfold r5 at h
 simp only [Option.bind_eq_some_iff] at h
 obtain ⟨a,h1,b,h2,c,h3,d,h4,e,h5,h6⟩:=h
 have k1:=Vp ho h1
 have k2:=Vp k1.2.1 h2
 have k3:=Vp k2.2.1 h3
 have k4:=Vp k3.2.1 h4
 have k5:=Vp k4.2.1 h5
 simp only [Option.some.injEq,Prod.mk.injEq] at h6
 omega
theorem ZdF {G:Zh} (hG:G.Ok) {id:Nat} {g:Z7->N5->Z7} {S:Z7->List Int->Nat->St} (h1:Z5r G.P 17 id=true)
  (h:∀X Y xs o p ok no,C5 (Zo Zq) g X Y xs o p ok no->Z6E G 20 17 id 0 (S X xs o) (jnP 0 id pvL (lr1 Y xs p) lrP ok no)):(G.withL 17 id (lo5 (Zo Zq) id g S)).Ok:=
 Zh.withJX hG rfl h1 fun k s Z hs=>by
  unfold lo5 at hs
  split at hs
  ·rename_i hk
   have:=Nat.eq_of_beq_eq_true hk
   subst this
   obtain ⟨X,xs,o,hs⟩:=hs
   obtain ⟨⟨ho,h2,h3⟩,hw⟩:=YI hs
   cases hr:r5 (Zo Zq) xs o with
   | none=>
    have hC:C5 (Zo Zq) g X X xs o o False True:=by
     refine ⟨ho,fun n q he=> ?_,fun _=>trivial⟩
     rw [hr] at he;cases he
    exact ⟨_,_,_,_,_,hw,h _ _ _ _ _ _ _ hC,fun hk=>hk.elim,fun _=>h3 hr⟩
   | some p=>
    have hC:C5 (Zo Zq) g X (g X p.1) xs o p.2 True False:=by
     refine ⟨ho,fun n q he=> ?_,fun he=> ?_⟩
     ·rw [hr] at he;cases he;exact ⟨rfl,rfl,trivial⟩
     ·rw [hr] at he;cases he
    exact ⟨_,_,_,_,_,hw,h _ _ _ _ _ _ _ hC,fun _=>h2 p.1 p.2 hr (ZkG ho hr),fun hk=>hk.elim⟩
  ·exact hs.elim
theorem Z5G:(Z5D (Zo Zq) Zr).Ok:=Zh.withP_ok (Zh.withF_ok (Zh.withF_ok (Zh.withF_ok (Zh.withF_ok (Zh.withF_ok Zu ZcQ) ZaX) Zdo) ZcS) Z33) Zg9
noncomputable def Zga (F:List Int->Int×Int) (H:List Int->List Int):Zh:=((Z5D F H).withL 17 0 (lo5 F 0 ZdD lr0)).withL 17 2 (lo5 F 2 ZdE lr2)
theorem Zgb:(Zga (Zo Zq) Zr).Ok:=
 Zh.withL_join (H:=Z5D (Zo Zq) Zr) (ZdF Z5G (by kernel_rfl) fun X Y xs o p ok no hC=>ZmL _ _ X Y xs o p ok no hC) rfl (ZdF Z5G (by kernel_rfl) fun X Y xs o p ok no hC=>ZmM _ _ X Y xs o p ok no hC)
def stL (F:List Int->Int×Int) (xs:List Int) (o:Nat):Nat->List Z6×Nat
 | 0=>([],o)
 | i+1=>match X6 F xs (stL F xs o i).2 with
  | some (x,p)=>((stL F xs o i).1++[x],p)
  | none=>stL F xs o i
def goH (F:List Int->Int×Int) (xs:List Int) (o i:Nat):Prop:=(X6 F xs (stL F xs o i).2).isSome=true
def lr4 (X:Z7) (xs:List Int) (cnt:Int) (i:Nat) (L:List Z6) (o:Nat):St:=⟨120,lrT [(97,.int .i64 cnt),(98,.int .i64 i)],⟨7,lrH X (.nslice ⟨6,0,70,0,0⟩ 70 i i) xs o [(6,.rows 70 i (Z4 L))]⟩,lrD⟩
def lr5 (X:Z7) (xs:List Int) (i:Nat) (L:List Z6) (o:Nat):St:=⟨120,lrT [],⟨7,lrH X (.nslice ⟨6,0,70,0,0⟩ 70 i i) xs o [(6,.rows 70 i (Z4 L))]⟩,lrD⟩
theorem ZmN (F:List Int->Int×Int) (H:List Int->List Int) (X:Z7) (xs:List Int) (cnt:Int) (i o o':Nat) (L L':List Z6) (Z1 Z2 Z5:Prop) (ho:o<=xs.length) (hi:i<=16/\cnt<=16) (hL:L.length=i) (h2:¬(i:Int)<cnt->Z2) (h5:(i:Int)<cnt->X6 F xs o=none->Z5) (h1:(i:Int)<cnt->∀x p,X6 F xs o=some (x,p)->(o'=p/\L'=L++[x])/\Z1):
  ZB (Z5D F H) 20 17 4 0 (lr4 X xs cnt i L o) (rdP 0 4 9 pvL (lr4 X xs cnt (i+1) L' o') (lr5 X xs i L o) lrP lrP lrP Z1 Z2 False False Z5):=by
 refine @Eq.mpr _ (let q1:=List.length xs;let q2:=q1-o;let q3:=decide (i=i);let q4:=i+1;let q5:=decide (q4*112<=140737488355328);let q6:=decide (cnt=cnt);let q7:=decide (wrap i64 (↑i+1)=↑q4);let q8:=q1-o';let q9:=X.t;let q10:=q9.fund;let q11:=q10=q10;let q12:=q9.index;let q13:=decide (q12=q12);let q14:=q9.cap;let q15:=decide (q14=q14);let q16:=q9.dust;let q17:=decide (q16=q16);let q18:=q9.fee;let q19:=decide (q18=q18);let q20:=q9.delay;let q21:=decide (q20=q20);let q22:=q9.k0;let q23:=q22=q22;let q24:=q9.k1;let q25:=q24=q24;let q26:=decide (X.side=X.side);let q27:=decide (X.res=X.res);let q28:=[X.a0,X.a1];let q29:=q28=q28;let q30:=[X.i0,X.i1];let q31:=q30=q30;let q32:=decide (q4=q4);let q33:=decide (q4<=q4);let q34:=[(3,3),(5,5),(0,0),(1,1),(4,4)];let q35:=(2,2)::(6,10)::q34;let q36:=Z4 L;
 Z0 (decide (↑i<cnt))
 (Z0 (decide (q2=q2/\o<=q1/\q2=q2))
 ((∀(v:Bool) (o'_1:Nat),
 let q73:=rdN F xs o'_1 2147483647;
 rdT xs o=some (v,o'_1)->
 o<=o'_1/\o'_1<=q1->
 Z0 (decide (q1-o'_1=q1-o'_1/\o'_1<=q1/\q1-o'_1=q1-o'_1/\(0:Int)<=2147483647))
 ((∀(v_1:Int) (o'_2:Nat),
 let q75:=rdN F xs o'_2 1125899906842624;
 q73=some (v_1,o'_2)->
 o'_1<=o'_2/\o'_2<=q1/\v_1<=2147483647->
 Z0 (decide (q1-o'_2=q1-o'_2/\o'_2<=q1/\q1-o'_2=q1-o'_2/\(0:Int)<=1125899906842624))
 ((∀(v_2:Int) (o'_3:Nat),
 q75=some (v_2,o'_3)->
 o'_2<=o'_3/\o'_3<=q1/\v_2<=1125899906842624->
 Z0 (decide (q1-o'_3=q1-o'_3/\o'_3<=q1/\q1-o'_3=q1-o'_3))
 ((∀(hh:List Int),
 let q77:=AV.arr u8 32 hh;
 ∀(o'_4:Nat),
 let q79:=rdN F xs o'_4 2147483647;
 rdH xs o'_3=some (hh,o'_4)->
 o'_3<=o'_4/\o'_4<=q1/\List.length hh=32->
 Z0 (decide (q1-o'_4=q1-o'_4/\o'_4<=q1/\q1-o'_4=q1-o'_4/\(0:Int)<=2147483647))
 ((∀(v_3:Int) (o'_5:Nat),
 let q81:=rdN F xs o'_5 9;
 q79=some (v_3,o'_5)->
 o'_4<=o'_5/\o'_5<=q1/\v_3<=2147483647->
 Z0 (decide (q1-o'_5=q1-o'_5/\o'_5<=q1/\q1-o'_5=q1-o'_5/\(0:Int)<=9))
 ((∀(v_4:Int) (o'_6:Nat),
 let q83:=rdN F xs o'_6 2;
 q81=some (v_4,o'_6)->
 o'_5<=o'_6/\o'_6<=q1/\v_4<=9->
 Z0 (decide (q1-o'_6=q1-o'_6/\o'_6<=q1/\q1-o'_6=q1-o'_6/\(0:Int)<=2))
 ((∀(v_5:Int) (o'_7:Nat),
 let q85:=q1-o'_7;
 q83=some (v_5,o'_7)->
 o'_6<=o'_7/\o'_7<=q1/\v_5<=2->
 Z0 (v_5==1) (Z0 (decide (q85=q85/\o'_7<=q1/\q85=q85)) ((∀(hh:List Int) (o'_8:Nat),rdH xs o'_7=some (hh,o'_8)->o'_7<=o'_8/\o'_8<=q1/\List.length hh=32->Z0 q3 (Z0 q3 (Z0 q3 (Z0 q3 (Z0 q3 (Z0 q5 (Z0 q6 (Z0 q7 (xs=xs/\Z0 (decide (o'_8=o')) (Z0 (decide (q1-o'_8=q8)) (Z0 (decide (q8<=q1-o'_8)) (q11/\Z0 q13 (Z0 q15 (Z0 q17 (Z0 q19 (Z0 q21 (q23/\q25/\Z0 q26 (Z0 q27 (q29/\q31/\Z0 q32 (Z0 q33 (Z0 q32 (Zc 0 q35 q4 (Z4 L') (ZZ i q36 (YG [AV.bool v,AV.int i64 v_1,AV.int i64 v_2,q77,AV.int i64 v_3,AV.int i64 v_4,AV.int i64 v_5,AV.arr u8 32 hh] 0 70))/\Z1) False) False) False) False) False) False) False) False) False) False) False) False) False) False) False) False) False) False) False) False) False)/\(rdH xs o'_7=none->Z5)) False)
 (Z0 q3 (Z0 q3 (Z0 q3 (Z0 q3 (Z0 q3 (Z0 q5 (Z0 q6 (Z0 q7 (xs=xs/\Z0 (decide (o'_7=o')) (Z0 (decide (q85=q8)) (Z0 (decide (q8<=q85)) (q11/\Z0 q13 (Z0 q15 (Z0 q17 (Z0 q19 (Z0 q21 (q23/\q25/\Z0 q26 (Z0 q27 (q29/\q31/\Z0 q32 (Z0 q33 (Z0 q32 (Zc 0 q35 q4 (Z4 L') (ZZ i q36 (YG [AV.bool v,AV.int i64 v_1,AV.int i64 v_2,q77,AV.int i64 v_3,AV.int i64 v_4,AV.int i64 v_5,AV.arr u8 32 Za] 0 70))/\Z1) False) False) False) False) False) False) False) False) False) False) False) False) False) False) False) False) False) False) False) False) False))/\
 (q83=none->Z5))
 False)/\
 (q81=none->Z5))
 False)/\
 (q79=none->Z5))
 False)/\
 (rdH xs o'_3=none->Z5))
 False)/\
 (q75=none->Z5))
 False)/\
 (q73=none->Z5))
 False)/\
 (rdT xs o=none->Z5))
 False)
 (xs=xs/\Z0 (decide (o=o)) (Z0 (decide (q2=q2)) (Z0 (decide (q2<=q2)) (q11/\Z0 q13 (Z0 q15 (Z0 q17 (Z0 q19 (Z0 q21 (q23/\q25/\Z0 q26 (Z0 q27 (q29/\q31/\Z0 q3 (Z0 (decide (i<=i)) (Z0 q3 (Zc 0 ((2,2)::(6,6)::q34) i q36 q36/\Z2) False) False) False) False) False) False) False) False) False) False) False) False) False)) (by kernel_rfl) ?_
 conv=>zeta
 try simp only [Zi]
 try simp only [Zj]
 try simp only [Zf]
 try simp only [Zk]
 try simp only [Zl]
 try simp only [Zg]
 try simp only [Int.toNat_natCast,Nat.zero_add,true_and,and_true,Nat.le_refl]
 have hself:∀τ,Zc 0 τ i (Z4 L) (Z4 L):=fun _=>Zp fun _ _=>rfl
 refine ⟨fun hlt=> ?_,fun hge=> ?_⟩
 rotate_left
 ·have:=h2 hge
  repeat' apply And.intro
  all_goals first|omega|exact this|exact hself _|trivial
 have h5:=h5 hlt
 have h1:=h1 hlt
 have hw:i64.wrap ((i:Int)+1)=((i+1:Nat):Int):=w64 (by omega)
 simp only [hw]
 clear hw hself h2
 cases h:X6 F xs o with
 | none=>
  have h5:=h5 h
  clear h1
  repeat' (first|(refine And.intro ?_ ?_)|intro _)
  all_goals first|omega|exact h5|trivial|skip
  all_goals (exfalso;simp [X6,Z3i, *] at h)
 | some xp=>
  obtain ⟨x,p⟩:=xp
  obtain ⟨⟨rfl,rfl⟩,hZ⟩:=h1 x p h
  clear h1 h5
  repeat' (first|(refine And.intro ?_ ?_)|intro _)
  all_goals first|omega|exact hZ|trivial|skip
  all_goals (simp [X6,Z3i, *] at h)
  all_goals (obtain ⟨rfl,rfl⟩:=h)
  all_goals first|rfl|exact Nat.le_refl _|skip
  all_goals (refine Zp fun q hq=> ?_;(try simp only [*]);exact Yk (x:=⟨_,_,_,_,_,_,_,_⟩) hL (fun _ _=>rfl) hq)
end Go.Tk
end
section
namespace Go.Tk
open IntKind (i64 u8 u32 u64 wrap)
def rdL (F:List Int->Int×Int) (xs:List Int) (o:Nat):Nat->Option (List Z6×Nat)
 | 0=>some ([],o)
 | n+1=>(rdL F xs o n).bind fun a=>(X6 F xs a.2).bind fun b=>some (a.1++[b.1],b.2)
theorem Z3k {F:List Int->Int×Int} {xs:List Int} {o:Nat}:∀{n:Nat},(∀j,j<n->goH F xs o j)->rdL F xs o n=some (stL F xs o n)
 | 0,_=>rfl
 | n+1,h=>by
  have hn:=h n (Nat.lt_succ_self _)
  unfold goH at hn
  unfold rdL stL
  rw [Z3k fun j hj=>h j (by omega)]
  cases hr:X6 F xs (stL F xs o n).2 with
  | none=>rw [hr] at hn;cases hn
  | some x=>simp [hr]
theorem Z6T {F:List Int->Int×Int} {xs:List Int} {o n:Nat} (h:rdL F xs o n=none):∀{m:Nat},n<=m->rdL F xs o m=none
 | 0,hm=>by
  have e:n=0:=by omega
  subst e
  exact h
 | m+1,hm=>by
  by_cases e:n=m+1
  ·subst e;exact h
  ·unfold rdL;rw [Z6T h (show n<=m by omega)];rfl
theorem ZdG {F:List Int->Int×Int} {xs:List Int} {o n m:Nat} (h:∀j,j<n->goH F xs o j) (hn:X6 F xs (stL F xs o n).2=none) (hm:n<m):rdL F xs o m=none:=by
 refine Z6T (n:=n+1) ?_ hm
 unfold rdL
 rw [Z3k h]
 simp [hn]
theorem Zgc {xs:List Int} {o p:Nat} {x:Z6} (ho:o<=xs.length) (h:X6 (Zo Zq) xs o=some (x,p)):o<=p/\p<=xs.length/\x.hash.length=32/\x.secret.length=32:=by
 unfold X6 at h
 simp only [Option.bind_eq_some_iff] at h
 obtain ⟨a,h1,b,h2,c,h3,d,h4,e,h5,f,h6,g,h7,s,h8,h9⟩:=h
 have k1:o<=a.2/\a.2<=xs.length:=by
  unfold rdT at h1
  split at h1
  ·cases h1;exact ⟨by show o<=o+1;omega,by show o+1<=_;omega⟩
  ·cases h1
 have hh:∀{q:Nat} {r:List Int×Nat},rdH xs q=some r->q<=r.2/\r.2<=xs.length/\r.1.length=32:=fun {q r} h=>by
  unfold rdH at h
  split at h
  ·cases h
   refine ⟨by show q<=q+32;omega,by show q+32<=_;omega, ?_⟩
   show ((xs.drop q).take 32).length=32
   rw [List.length_take,List.length_drop];omega
  ·cases h
 have k2:=Vp k1.2 h2
 have k3:=Vp k2.2.1 h3
 have k4:=hh h4
 have k5:=Vp k4.2.1 h5
 have k6:=Vp k5.2.1 h6
 have k7:=Vp k6.2.1 h7
 have k8:g.2<=s.2/\s.2<=xs.length/\s.1.length=32:=by
  unfold Z3i at h8
  split at h8
  ·exact hh h8
  ·cases h8;exact ⟨Nat.le_refl _,k7.2.1,rfl⟩
 cases h9
 exact ⟨by omega,by omega,k4.2.2,k8.2.2⟩
theorem Z3l {xs:List Int} {o:Nat} (ho:o<=xs.length):∀n,(∀j,j<n->goH (Zo Zq) xs o j)->(stL (Zo Zq) xs o n).1.length=n/\(stL (Zo Zq) xs o n).2<=xs.length/\∀x∈(stL (Zo Zq) xs o n).1,x.hash.length=32/\x.secret.length=32
 | 0,_=>⟨rfl,ho,fun x hx=>by cases hx⟩
 | n+1,h=>by
  obtain ⟨i1,i2,i3⟩:=Z3l ho n fun j hj=>h j (by omega)
  have hn:=h n (Nat.lt_succ_self _)
  unfold goH at hn
  unfold stL
  cases hr:X6 (Zo Zq) xs (stL (Zo Zq) xs o n).2 with
  | none=>rw [hr] at hn;cases hn
  | some x=>
   have k:=Zgc i2 hr
   refine ⟨by simp [i1],k.2.1,fun y hy=> ?_⟩
   rcases List.mem_append.1 hy with hy|hy
   ·exact i3 y hy
   ·rw [List.mem_singleton] at hy;subst hy;exact k.2.2
def lo6 (F:List Int->Int×Int) (S4:Z7->List Int->Int->Nat->List Z6->Nat->St) (S5:Z7->List Int->Nat->List Z6->Nat->St):Nat->St->KE->Prop:=fun k s Z=>match Nat.beq k 0 with
 | true=>∃(X:Z7) (xs:List Int) (cnt:Int) (o:Nat),W4 0 (S4 X xs cnt 0 [] o) s (o<=xs.length/\cnt<=16/\(∀(n:Nat) L p,n=cnt.toNat->rdL F xs o n=some (L,p)->(L.length=n/\p<=xs.length/\n<=16/\∀x∈L,x.hash.length=32/\x.secret.length=32)->Z (.exit 4) (S5 X xs n L p))/\(rdL F xs o cnt.toNat=none->Z (.panic pvL) lrP))
 | false=>False
theorem Z6U {F:List Int->Int×Int} {xs:List Int} {o i:Nat} {x:Z6} {p:Nat} (hr:X6 F xs (stL F xs o i).2=some (x,p)):stL F xs o (i+1)=((stL F xs o i).1++[x],p):=by
 show (match X6 F xs (stL F xs o i).2 with|some (x,p)=>((stL F xs o i).1++[x],p)|none=>stL F xs o i)=_
 rw [hr]
theorem ZkH {X:Z7} {xs:List Int} {cnt:Int} {o i:Nat} (ho:o<=xs.length) (hc:cnt<=16) (hi:i<=cnt.toNat) (hgo:∀j,j<i->goH (Zo Zq) xs o j):ZB (Z5D (Zo Zq) Zr) 20 17 4 0 (lr4 X xs cnt i (stL (Zo Zq) xs o i).1 (stL (Zo Zq) xs o i).2) (rdP 0 4 9 pvL (lr4 X xs cnt (i+1) (stL (Zo Zq) xs o (i+1)).1 (stL (Zo Zq) xs o (i+1)).2) (lr5 X xs i (stL (Zo Zq) xs o i).1 (stL (Zo Zq) xs o i).2) lrP lrP lrP (goH (Zo Zq) xs o i/\i<cnt.toNat) (¬(i:Int)<cnt) False False ((i:Int)<cnt/\X6 (Zo Zq) xs (stL (Zo Zq) xs o i).2=none)):=by
 obtain ⟨i1,i2,i3⟩:=Z3l ho i hgo
 refine ZmN (Zo Zq) Zr X xs cnt i (stL (Zo Zq) xs o i).2 (stL (Zo Zq) xs o (i+1)).2 (stL (Zo Zq) xs o i).1 (stL (Zo Zq) xs o (i+1)).1 _ _ _ i2 ⟨by omega,hc⟩ i1 (fun h=>h) (fun h h'=>⟨h,h'⟩) fun hlt x p hr=> ?_
 rw [Z6U hr]
 have hg:goH (Zo Zq) xs o i:=by unfold goH;simp only [hr,Option.isSome_some]
 exact ⟨⟨rfl,rfl⟩,hg,by omega⟩
theorem Z5H (G:Zh) (f:FuncId) (id:Nat) (S:Nat->St->KE->Prop):(G.withL f id S).P=G.P:=rfl
theorem Zjj (F:List Int->Int×Int) (H:List Int->List Int):(Zga F H).P=(Z5D F H).P:=by unfold Zga;rw [Z5H,Z5H]
theorem Zjk {G:Zh} (hG:G.Ok) {S4:Z7->List Int->Int->Nat->List Z6->Nat->St} {S5:Z7->List Int->Nat->List Z6->Nat->St} (h1:Wg G.P 17 4=true)
  (h:∀{X:Z7} {xs:List Int} {cnt:Int} {o i:Nat},o<=xs.length->cnt<=16->i<=cnt.toNat->(∀j,j<i->goH (Zo Zq) xs o j)->ZB G 20 17 4 0 (S4 X xs cnt i (stL (Zo Zq) xs o i).1 (stL (Zo Zq) xs o i).2) (rdP 0 4 9 pvL (S4 X xs cnt (i+1) (stL (Zo Zq) xs o (i+1)).1 (stL (Zo Zq) xs o (i+1)).2) (S5 X xs i (stL (Zo Zq) xs o i).1 (stL (Zo Zq) xs o i).2) lrP lrP lrP (goH (Zo Zq) xs o i/\i<cnt.toNat) (¬(i:Int)<cnt) False False ((i:Int)<cnt/\X6 (Zo Zq) xs (stL (Zo Zq) xs o i).2=none))):
  (G.withL 17 4 (lo6 (Zo Zq) S4 S5)).Ok:=by
 refine Zh.withGoX (N:=20) (l:=9) (pv:=pvL) hG rfl h1 fun k s Z hs=> ?_
 unfold lo6 at hs
 split at hs
 ·rename_i hk
  have:=Nat.eq_of_beq_eq_true hk
  subst this
  obtain ⟨X,xs,cnt,o,hs⟩:=hs
  obtain ⟨⟨ho,hc,h1,h2⟩,hw⟩:=YI hs
  refine ⟨cnt.toNat,fun i=>S4 X xs cnt i (stL (Zo Zq) xs o i).1 (stL (Zo Zq) xs o i).2,fun i=>S5 X xs i (stL (Zo Zq) xs o i).1 (stL (Zo Zq) xs o i).2,fun _=>lrP,fun _=>lrP,fun _=>lrP,goH (Zo Zq) xs o,fun i=>¬(i:Int)<cnt,fun _=>False,fun _=>False,fun i=>(i:Int)<cnt/\X6 (Zo Zq) xs (stL (Zo Zq) xs o i).2=none,hw,fun i hi hgo=>h ho hc hi hgo, ?_⟩
  intro i hi hgo
  refine ⟨fun hx=> ?_,fun h=>h.elim,fun h=>h.elim,fun hx=> ?_⟩
  ·have e:i=cnt.toNat:=by omega
   obtain ⟨i1,i2,i3⟩:=Z3l ho i hgo
   exact h1 i _ _ e (Z3k hgo) ⟨i1,i2,by omega,i3⟩
  ·exact h2 (ZdG hgo hx.2 (by omega))
 ·exact hs.elim
noncomputable def ZkI (F:List Int->Int×Int) (H:List Int->List Int):Zh:=(Zga F H).withL 17 4 (lo6 F lr4 lr5)
theorem Z9Q:(ZkI (Zo Zq) Zr).Ok:=Zh.withL_join (H:=Z5D (Zo Zq) Zr) Zgb (Zjj _ _) (Zjk Z5G (by kernel_rfl) ZkH)
end Go.Tk
end
section
namespace Go.Tk
open IntKind (i64 u8 u32 u64 wrap)
def ZkJ (t:X3) (side res a b:Int):Z7:=⟨t,side,res,a,b,0,0,[]⟩
end Go.Tk
end
section
namespace Go.Tk
open IntKind (i64 u8 u32 u64 wrap)
theorem and_mk {a b:Bool} (h1:a=true) (h2:b=true):(a&&b)=true:=by rw [h1,h2];rfl
theorem ZdH {E:Env} {w:World} {sz n:Nat} {g g':Nat->List AV} (hg:∀i,i<n->g' i=g i) (he:Emb E ⟨1,[(0,.rows sz n g')]⟩ w):Emb E ⟨1,[(0,.rows sz n g)]⟩ w:=by
 have hget:∀(f:Nat->List AV) x B,(Z9.mk 1 [(0,.rows sz n f)]).get x=some B->x=0/\B=.rows sz n f:=fun f x B hx=>by
  simp only [Z9.get,ZN] at hx
  split at hx
  ·rename_i hb
   cases hx
   exact ⟨(Nat.eq_of_beq_eq_true hb).symm,rfl⟩
  ·cases hx
 have h0:∀f:Nat->List AV,(Z9.mk 1 [(0,.rows sz n f)]).get 0=some (.rows sz n f):=fun f=>rfl
 refine ⟨he.fresh,fun x B hx=> ?_,fun x B hx=> ?_,fun x y B B' b N N' hx hy h1 h2=> ?_,he.imm,fun a c x B N hi hx hb=> ?_⟩
 ·obtain ⟨rfl,rfl⟩:=hget _ _ _ hx;exact he.lt 0 _ (h0 _)
 ·obtain ⟨rfl,rfl⟩:=hget _ _ _ hx
  have:=he.own 0 _ (h0 g')
  cases this with
  | rows0 _ _ _ hn hb=>exact .rows0 _ _ _ hn hb
  | rows _ _ _ b cells elem fr gv hb hw hf hc hl hv=>exact .rows _ _ _ b cells elem fr gv hb hw hf (fun i hi=>hg i hi▸hc i hi) hl hv
 ·obtain ⟨rfl,rfl⟩:=hget _ _ _ hx
  obtain ⟨rfl,rfl⟩:=hget _ _ _ hy
  rfl
 ·obtain ⟨rfl,rfl⟩:=hget _ _ _ hx
  exact he.sep a c 0 _ N hi (h0 g') hb
theorem Spec.rows {P:Program} {f:FuncId} {args:List AV} {sz n:Nat} {g g':Nat->List AV} {o:Out} {nx:Nat} {bs:List (Nat×Blk)} (hg:∀i,i<n->g' i=g i) (h:Spec P f args ⟨1,[(0,.rows sz n g)]⟩ o nx bs):Spec P f args ⟨1,[(0,.rows sz n g')]⟩ o nx bs:=by
 intro E w rs he hl
 have he':=ZdH hg he
 refine (h E w rs he' hl).mono ?_
 rintro e w' ⟨E',hev,ho⟩
 have own:∀b,WI E ⟨1,[(0,.rows sz n g)]⟩ b↔WI E ⟨1,[(0,.rows sz n g')]⟩ b:=fun b=>by
  unfold WI
  constructor
  ·rintro ⟨x,B,N,hx,hb⟩
   simp only [Z9.get,ZN] at hx
   split at hx
   ·rename_i hq;have:=Nat.eq_of_beq_eq_true hq;subst this;exact ⟨0,_,N,rfl,hb⟩
   ·cases hx
  ·rintro ⟨x,B,N,hx,hb⟩
   simp only [Z9.get,ZN] at hx
   split at hx
   ·rename_i hq;have:=Nat.eq_of_beq_eq_true hq;subst this;exact ⟨0,_,N,rfl,hb⟩
   ·cases hx
 exact ⟨E',⟨hev.le,hev.emb,hev.size,hev.os,hev.tape,hev.output,fun b hb hn=>hev.keep b hb (fun h=>hn ((own b).1 h)),fun b hb=>(hev.own b hb).imp (own b).1 id,hev.imm⟩,ho⟩
end Go.Tk
end
section
namespace Go.Tk
open IntKind (i64 u8 u32 u64 wrap)
open Go.Proofs Go.Shelf Go.Lib Go.Sort
theorem Z6V {W w':World} (h1:W.heap.size<=w'.heap.size) (h2:w'.os=W.os) (h3:w'.tape=W.tape) (h4:w'.output=W.output/\W.drawn<=w'.drawn) (h5:∀b,b<W.heap.size->w'.heap[b]? =W.heap[b]?):∃q os',w'=grow (W.drewN q) os':=by
 refine ⟨w'.drawn-W.drawn,w'.heap.extract W.heap.size w'.heap.size, ?_⟩
 obtain ⟨heap,tape,drawn,os,output⟩:=w'
 obtain ⟨heap0,tape0,drawn0,os0,output0⟩:=W
 simp only at h1 h2 h3 h4 h5
 unfold grow World.drewN
 simp only [World.mk.injEq]
 refine ⟨?_,h3,by omega,h2,h4.1⟩
 apply Array.ext_getElem?
 intro i
 rcases Nat.lt_or_ge i heap0.size with h|h
 ·rw [Array.getElem?_append_left h];exact h5 i h
 ·rw [Array.getElem?_append_right h,Array.getElem?_extract]
  rcases Nat.lt_or_ge i heap.size with h'|h'
  ·rw [if_pos (by omega)];congr 1;omega
  ·rw [if_neg (by omega),Array.getElem?_eq_none (by omega)]
section
variable {P:Program} {ρ:Go.Shelf.Ren} {α:Type} [Inhabited α]
theorem Z8F {g k:Nat} {c:α->List AV} {enc:α->List Value} (hc2:∀E x,Zv E (c x) (enc x)) {cf:α->α->Int} (hcmp:∀x y,ZA P g [.agg (c x),.agg (c y)] (.int .i64 (cf x y)) 0 []) (blk off size:Nat) (w:World):
  CmpLays P g #[] enc k cf blk off size w:=by
 intro m os dk hs x y
 have E0:Emb ⟨fun _=>none,fun _ _=>False⟩ ⟨0,[]⟩ (sortWorldK enc k w blk off m dk os):=
  ⟨fun _ _=>rfl,fun x B h=>by simp [Z9.get,ZN] at h,fun x B h=>by simp [Z9.get,ZN] at h,fun x y B B' b N N' h=>by simp [Z9.get,ZN] at h,fun _ _ h=>h.elim,fun _ _ _ _ _ h=>h.elim⟩
 refine (hcmp x y _ _ [.agg (enc x).toArray,.agg (enc y).toArray] E0 (.cons _ _ _ _ (.agg _ _ (hc2 _ _)) (.cons _ _ _ _ (.agg _ _ (hc2 _ _)) .nil))).mono ?_
 rintro e w' ⟨E',r,rfl,hev,hr⟩
 cases hr
 refine ⟨rfl,Z6V hev.size hev.os hev.tape hev.output fun b hb=>hev.keep b hb ?_⟩
 rintro ⟨x,B,N,hx,_⟩
 simp [Z9.get,ZN] at hx
theorem Zbh (L:SlLaysF0.n6 P ρ) {k:Nat} (aE:∀w,(Go.isAgg (ρ.t 24)).run P w=.ok true w) (zE:∀w,(Go.sizeOf (ρ.t 24)).run P w=.ok k w) {c:α->List AV} {enc:α->List Value} (hk:∀x,(enc x).length=k) (hk0:0<k) (h1:∀x,∀v∈enc x,v.oneCell'=true)
  (hc1:∀E x vs,Zv E (c x) vs->vs=enc x) (hc2:∀E x,Zv E (c x) (enc x)) {cf:α->α->Int} (hO:SWO (ltOf cf)) {g:Nat} (eg:∀args w,(callFunc g args).run P w=.ok (.enter g args) w)
  (hcmp:∀x y,ZA P g [.agg (c x),.agg (c y)] (.int .i64 (cf x y)) 0 []) {l L':List α} {n lo:Nat} (hn:l.length=n) (h0:0<n) (hsz:n<4611686018427387904) {f f':Nat->List AV} (hf0:∀i,i<n->f i=c (l.getD i default)) (hf1:∀i,i<n->f' i=c (L'.getD i default))
  (hL:∀l':List α,l'.Perm l->l'.Pairwise (fun a b=>ltOf cf b a=false)->l'=L'):
  Spec P (ρ.f 6) [.nslice ⟨0,0,k,0,0⟩ k n lo,.func (.func g) [] []] ⟨1,[(0,.rows k n f)]⟩ (.ret (.tuple [])) 1 [(0,.rows k n f')]:=by
 intro E w rs he hr
 cases hr with
 | cons v r vs rs hr1 hr2=>
 cases hr2 with
 | cons v2 r2 vs2 rs2 hr2 hr3=>
 cases hr3
 cases hr2 with
 | func fn fi ca fs cs h3 h4=>
 cases h3
 cases h4
 cases hr1 with
 | nslice0 p esz len lo a q1 q2=>omega
 | nslice p esz len lo b N cap hb q1 q2 q3=>
 have hB:=he.own 0 _ rfl
 cases hB with
 | rows0 sz n f q0 hno=>omega
 | rows sz n f b' cells elem fr gg hb' hw hfr hc hl hv=>
 rw [hb'] at hb
 cases hb
 have htot:(ZG.mk 0 0 k 0 0).tot=0:=by simp [ZG.tot]
 rw [htot] at q3⊢
 have hgg:∀i,i<n->gg i=enc (l.getD i default):=fun i hi=>by
  have:=hc i hi
  rw [hf0 i hi] at this
  exact hc1 _ _ _ this
 have hcs:n*k<=cells.size:=by
  rcases Nat.lt_or_ge cells.size (n*k) with h|h
  ·exfalso
   have e:n=(n-1)+1:=by omega
   have hlast:(gg (n-1))[k-1]? =some ((gg (n-1))[k-1]'(by rw [hl _ (by omega)];omega)):=List.getElem?_eq_getElem _
   have:=hv (n-1) (k-1) _ (by omega) hlast
   have e2:(n-1)*k+(k-1)<cells.size:=by
    rcases Nat.lt_or_ge ((n-1)*k+(k-1)) cells.size with h'|h'
    ·exact h'
    ·rw [Array.getElem?_eq_none h'] at this;cases this
   have e3:n*k=(n-1)*k+k:=by rw [e,Nat.add_mul];simp
   omega
  ·exact h
 have hdiv:∀j,j<n*k->j/k<n:=fun j hj=>(Nat.div_lt_iff_lt_mul hk0).2 hj
 have hH:HoldsK enc k w b 0 l.toArray:=by
  intro j hj
  rw [size_flatK] at hj
  have hj:j<n*k:=by simpa [hn] using hj
  have hi:=hdiv j hj
  have hm:j%k<k:=Nat.mod_lt _ hk0
  rw [get_flatK _ _ _ _ (by simpa [hn] using hj)]
  have e:l.toArray[j/k]! =l.getD (j/k) default:=by simp [List.getD_eq_getElem?_getD]
  have hx:(gg (j/k))[j%k]? =some ((enc (l.getD (j/k) default))[j%k]!):=by
   rw [hgg _ hi]
   rw [List.getElem?_eq_getElem (by rw [hk];exact hm)]
   simp [getElem!_pos,hk,hm]
  have hcell:=hv (j/k) (j%k) _ hi hx
  have ej:j/k*k+j%k=j:=by rw [Nat.mul_comm];exact Nat.div_add_mod j k
  rw [ej] at hcell
  refine ⟨?_, ?_⟩
  ·rw [Nat.zero_add,cell_of_heap hw,hcell,e];rfl
  ·unfold World.frozen?
   simp only [Nat.zero_add,hw]
   have:=hfr j (by omega)
   rw [Bool.eq_false_iff]
   simp only [ne_eq,Bool.and_eq_true,decide_eq_true_eq]
   exact this
 have hblk:b<w.heap.size:=(he.own 0 _ rfl).lt hb'
 have hcon:=AnyQ.slices_SortFunc L k aE zE enc hk h1 cf hO g #[] b 0 cap l.toArray w eg (Z8F hc2 hcmp b 0 _ w) hH hblk (by simpa [hn] using hsz)
 have en:l.toArray.size=n:=by simpa using hn
 rw [en] at hcon
 refine hcon.mono ?_
 rintro e w' ⟨rfl,d',m,os,hp,hs,rfl⟩
 obtain ⟨p1,_,p3⟩:=hp
 rw [en] at p1
 have pe:(d'.extract 0 n)=d':=by rw [<-p1];simp
 have pe2:(l.toArray.extract 0 n)=l.toArray:=by rw [<-en];simp
 rw [pe,pe2] at p3
 have hLd:d'.toList=L':=by
  refine hL _ p3 ?_
  rw [List.pairwise_iff_getElem]
  intro i j hi hj hij
  have:=hs i j (Nat.zero_le _) hij (by simpa [p1] using hj)
  have e1:d'[i]! =d'.toList[i]:=by simp only [Array.length_toList] at hi;simp [getElem!_pos,hi]
  have e2:d'[j]! =d'.toList[j]:=by simp only [Array.length_toList] at hj;simp [getElem!_pos,hj]
  rw [e1,e2] at this
  exact this
 have hheap:(sortWorldK enc k w b 0 m d' os).heap=w.heap.modify b (onCells (putCells id 0 (flatK enc k d')))++os:=rfl
 have hold:∀i,i<w.heap.size->i≠b->(sortWorldK enc k w b 0 m d' os).heap[i]? =w.heap[i]?:=fun i hi hib=>by
  rw [hheap,Array.getElem?_append_left (by simpa using hi),Array.getElem?_modify,if_neg (fun h=>hib h.symm)]
 have hnew:(sortWorldK enc k w b 0 m d' os).heap[b]? =some (.cells (putCells id 0 (flatK enc k d') cells) elem fr):=by
  rw [hheap,Array.getElem?_append_left (by simpa using hblk),Array.getElem?_modify,if_pos rfl,hw];rfl
 have hpsz:(putCells id 0 (flatK enc k d') cells).size=cells.size:=by simp [putCells]
 have hle:w.heap.size<=(sortWorldK enc k w b 0 m d' os).heap.size:=by rw [hheap];simp
 have hown:∀{H:Z9} {i:Nat},H=⟨1,[(0,Blk.rows k n f)]⟩\/H=⟨1,[(0,Blk.rows k n f')]⟩->(WI E H i↔i=b):=by
  intro H i hq0
  constructor
  ·rintro ⟨x,B,N,hx,hbx⟩
   have hx0:x=0:=by
    rcases hq0 with rfl|rfl
    ·simp only [Z9.get,ZN] at hx
     split at hx
     ·rename_i hq;exact (Nat.eq_of_beq_eq_true hq).symm
     ·cases hx
    ·simp only [Z9.get,ZN] at hx
     split at hx
     ·rename_i hq;exact (Nat.eq_of_beq_eq_true hq).symm
     ·cases hx
   subst hx0
   rw [hb'] at hbx
   cases hbx;rfl
  ·rintro rfl
   rcases hq0 with rfl|rfl<;>exact ⟨0,_,_,rfl,hb'⟩
 have hbn:∀a cc,E.imm a cc->a.block≠b:=fun a cc hi hq=>he.sep a cc 0 _ _ hi rfl (by rw [hb',hq])
 refine ⟨E,⟨.refl E,⟨he.fresh,fun x B hx=> ?_,fun x B hx=> ?_,fun x y B B' bb N N' hx hy _ _=> ?_,fun a cc hi=> ?_,fun a cc x B N hi hx hbx=> ?_⟩,hle,rfl,rfl,⟨rfl,Nat.le_add_right _ _⟩,fun i hi hno=>hold i hi (fun h=>hno ((hown (.inl rfl)).2 h)),fun i ho=>.inl ((hown (.inl rfl)).2 ((hown (.inr rfl)).1 ho)),fun _ _ h=>h⟩,.ret _ _ (.tuple [] [] .nil)⟩
 ·simp only [Z9.get,ZN] at hx
  split at hx
  ·rename_i hq;have:=Nat.eq_of_beq_eq_true hq;show x<1;omega
  ·cases hx
 ·simp only [Z9.get,ZN] at hx
  split at hx
  ·rename_i hq
   have:=Nat.eq_of_beq_eq_true hq
   subst this
   cases hx
   refine .rows k n f' b _ elem fr (fun i=>enc (L'.getD i default)) (by rw [hpsz];exact hb') hnew (fun o ho=>hfr o (by rw [hpsz] at ho;exact ho)) (fun i hi=>by rw [hf1 i hi];exact hc2 _ _) (fun i hi=>hk _) (fun i j cc hi hj=> ?_)
   have hjk:j<k:=by
    have:=(List.getElem?_eq_some_iff.1 hj).1
    rw [hk] at this;exact this
   have ht:i*k+j<n*k:=by
    have:(i+1)*k<=n*k:=Nat.mul_le_mul_right _ hi
    rw [Nat.add_mul,Nat.one_mul] at this
    omega
   unfold putCells
   rw [Array.getElem?_mapIdx,Array.getElem?_eq_getElem (by omega)]
   simp only [Option.map_some]
   rw [if_pos ⟨Nat.zero_le _,by rw [size_flatK,p1];omega⟩,Nat.sub_zero,get_flatK _ _ _ _ (by rw [p1];exact ht)]
   have e1:(i*k+j)/k=i:=by rw [Nat.mul_comm,Nat.mul_add_div hk0,Nat.div_eq_of_lt hjk];rfl
   have e2:(i*k+j)%k=j:=by rw [Nat.mul_comm,Nat.mul_add_mod,Nat.mod_eq_of_lt hjk]
   rw [e1,e2]
   have e3:d'[i]! =L'.getD i default:=by
    have hid:i<d'.size:=by omega
    rw [<-hLd,List.getD_eq_getElem?_getD];simp [getElem!_pos,hid]
   rw [e3]
   obtain ⟨hjl,hj2⟩:=List.getElem?_eq_some_iff.1 hj
   rw [<-hj2,getElem!_pos (enc (L'.getD i default)) j hjl];rfl
  ·cases hx
 ·simp only [Z9.get,ZN] at hx hy
  split at hx
  ·rename_i hq
   split at hy
   ·rename_i hq'
    rw [<-Nat.eq_of_beq_eq_true hq,<-Nat.eq_of_beq_eq_true hq']
   ·cases hy
  ·cases hx
 ·have h0:=he.imm a cc hi
  have hlt:a.block<w.heap.size:=by
   rcases Nat.lt_or_ge a.block w.heap.size with hl|hg
   ·exact hl
   ·simp [World.cell?,Array.getElem?_eq_none hg] at h0
  simpa [World.cell?,hold _ hlt (hbn a cc hi)] using h0
 ·have:=(hown (H:=⟨1,[(0,.rows k n f')]⟩) (.inr rfl)).1 ⟨x,B,N,hx,hbx⟩
  exact hbn a cc hi this
end
end Go.Tk
end
section
namespace Go.Tk
open IntKind (i64 u8 u32 u64 wrap)
def Zbi:Go.Shelf.Ren:=⟨fun|6=>84|15=>138|14=>137|28=>180|29=>181|20=>172|21=>173|22=>174|23=>175|24=>176|25=>177|26=>178|27=>179|46=>199|47=>200|48=>201|49=>202|50=>203|57=>209|n=>n,fun|22=>74|24=>97|25=>151|3=>3|39=>209|0=>0|53=>222|55=>256|4=>4|46=>248|45=>247|50=>252|5=>5|9=>9|66=>275|70=>279|76=>289|77=>290|n=>n,fun|n=>n⟩
theorem ZkK:Go.Proofs.SlLaysF0.n6 PP Zbi:={
 mixed:=by kernel_rfl,
 f6:=⟨Go.Proofs.Tryz.f84.name,by decide,Go.Proofs.Tryz.func84.trans (congrArg some (by kernel_rfl))⟩,
 f14:=⟨Go.Proofs.Tryz.f137.name,by decide,Go.Proofs.Tryz.func137.trans (congrArg some (by kernel_rfl))⟩,
 f15:=Go.Proofs.Tryz.func138.trans (congrArg some (by kernel_rfl)),
 f20:=⟨Go.Proofs.Tryz.f172.name,by decide,Go.Proofs.Tryz.func172.trans (congrArg some (by kernel_rfl))⟩,
 f21:=⟨Go.Proofs.Tryz.f173.name,by decide,Go.Proofs.Tryz.func173.trans (congrArg some (by kernel_rfl))⟩,
 f22:=⟨Go.Proofs.Tryz.f174.name,by decide,Go.Proofs.Tryz.func174.trans (congrArg some (by kernel_rfl))⟩,
 f23:=⟨Go.Proofs.Tryz.f175.name,by decide,Go.Proofs.Tryz.func175.trans (congrArg some (by kernel_rfl))⟩,
 f24:=⟨Go.Proofs.Tryz.f176.name,by decide,Go.Proofs.Tryz.func176.trans (congrArg some (by kernel_rfl))⟩,
 f25:=⟨Go.Proofs.Tryz.f177.name,by decide,Go.Proofs.Tryz.func177.trans (congrArg some (by kernel_rfl))⟩,
 f26:=⟨Go.Proofs.Tryz.f178.name,by decide,Go.Proofs.Tryz.func178.trans (congrArg some (by kernel_rfl))⟩,
 f27:=⟨Go.Proofs.Tryz.f179.name,by decide,Go.Proofs.Tryz.func179.trans (congrArg some (by kernel_rfl))⟩,
 f28:=Go.Proofs.Tryz.func180.trans (congrArg some (by kernel_rfl)),
 f29:=Go.Proofs.Tryz.func181.trans (congrArg some (by kernel_rfl)),
 f46:=⟨Go.Proofs.Tryz.f199.name,by decide,Go.Proofs.Tryz.func199.trans (congrArg some (by kernel_rfl))⟩,
 f47:=Go.Proofs.Tryz.func200.trans (congrArg some (by kernel_rfl)),
 f48:=Go.Proofs.Tryz.func201.trans (congrArg some (by kernel_rfl)),
 f49:=⟨Go.Proofs.Tryz.f202.name,by decide,Go.Proofs.Tryz.func202.trans (congrArg some (by kernel_rfl))⟩,
 f50:=⟨Go.Proofs.Tryz.f203.name,by decide,Go.Proofs.Tryz.func203.trans (congrArg some (by kernel_rfl))⟩,
 f57:=⟨Go.Proofs.Tryz.f209.name,by decide,Go.Proofs.Tryz.func209.trans (congrArg some (by kernel_rfl))⟩,
 t0:=Go.Proofs.Tryz.underlying0,
 a0:=Go.Proofs.Tryz.isAgg0,
 z0:=Go.Proofs.Tryz.sizeOf0,
 v0:=Go.Proofs.Tryz.zeroValue0,
 t3:=Go.Proofs.Tryz.underlying3,
 a3:=Go.Proofs.Tryz.isAgg3,
 z3:=Go.Proofs.Tryz.sizeOf3,
 v3:=Go.Proofs.Tryz.zeroValue3,
 t4:=Go.Proofs.Tryz.underlying4,
 a4:=Go.Proofs.Tryz.isAgg4,
 z4:=Go.Proofs.Tryz.sizeOf4,
 v4:=Go.Proofs.Tryz.zeroValue4,
 t5:=Go.Proofs.Tryz.underlying5,
 a5:=Go.Proofs.Tryz.isAgg5,
 z5:=Go.Proofs.Tryz.sizeOf5,
 v5:=Go.Proofs.Tryz.zeroValue5,
 t9:=Go.Proofs.Tryz.underlying9,
 a9:=Go.Proofs.Tryz.isAgg9,
 z9:=Go.Proofs.Tryz.sizeOf9,
 v9:=Go.Proofs.Tryz.zeroValue9,
 t22:=Go.Proofs.Tryz.underlying74,
 a22:=Go.Proofs.Tryz.isAgg74,
 z22:=Go.Proofs.Tryz.sizeOf74,
 v22:=Go.Proofs.Tryz.zeroValue74,
 t25:=Go.Proofs.Tryz.underlying151,
 a25:=Go.Proofs.Tryz.isAgg151,
 z25:=Go.Proofs.Tryz.sizeOf151,
 v25:=Go.Proofs.Tryz.zeroValue151,
 t39:=Go.Proofs.Tryz.underlying209,
 a39:=Go.Proofs.Tryz.isAgg209,
 z39:=Go.Proofs.Tryz.sizeOf209,
 v39:=Go.Proofs.Tryz.zeroValue209,
 t45:=Go.Proofs.Tryz.underlying247,
 a45:=Go.Proofs.Tryz.isAgg247,
 z45:=Go.Proofs.Tryz.sizeOf247,
 v45:=Go.Proofs.Tryz.zeroValue247,
 t46:=Go.Proofs.Tryz.underlying248,
 a46:=Go.Proofs.Tryz.isAgg248,
 z46:=Go.Proofs.Tryz.sizeOf248,
 v46:=Go.Proofs.Tryz.zeroValue248,
 t50:=Go.Proofs.Tryz.underlying252,
 a50:=Go.Proofs.Tryz.isAgg252,
 z50:=Go.Proofs.Tryz.sizeOf252,
 v50:=Go.Proofs.Tryz.zeroValue252,
 t53:=Go.Proofs.Tryz.underlying222,
 a53:=Go.Proofs.Tryz.isAgg222,
 z53:=Go.Proofs.Tryz.sizeOf222,
 v53:=Go.Proofs.Tryz.zeroValue222,
 t55:=Go.Proofs.Tryz.underlying256,
 a55:=Go.Proofs.Tryz.isAgg256,
 z55:=Go.Proofs.Tryz.sizeOf256,
 v55:=Go.Proofs.Tryz.zeroValue256,
 t66:=Go.Proofs.Tryz.underlying275,
 a66:=Go.Proofs.Tryz.isAgg275,
 z66:=Go.Proofs.Tryz.sizeOf275,
 v66:=Go.Proofs.Tryz.zeroValue275,
 t70:=Go.Proofs.Tryz.underlying279,
 a70:=Go.Proofs.Tryz.isAgg279,
 z70:=Go.Proofs.Tryz.sizeOf279,
 v70:=Go.Proofs.Tryz.zeroValue279,
 t76:=Go.Proofs.Tryz.underlying289,
 a76:=Go.Proofs.Tryz.isAgg289,
 z76:=Go.Proofs.Tryz.sizeOf289,
 v76:=Go.Proofs.Tryz.zeroValue289,
 t77:=Go.Proofs.Tryz.underlying290,
 a77:=Go.Proofs.Tryz.isAgg290,
 z77:=Go.Proofs.Tryz.sizeOf290,
 v77:=Go.Proofs.Tryz.zeroValue290}
end Go.Tk
end
section
namespace Go.Tk
open IntKind (i64 u8 u32 u64 wrap)
def Z8G {α:Type} (lt:α->α->Bool) (l:List α):Prop:=l.Pairwise fun a b=>lt b a=false
theorem Z1o {α:Type} {lt:α->α->Bool}:∀{l m:List α},l.Perm m->Z8G lt l->Z8G lt m->(∀a∈l,∀b∈l,lt a b=false->lt b a=false->a=b)->l=m
 | [],m,hp,_,_,_=>by simpa using hp.symm
 | x::r,[],hp,_,_,_=>by simp at hp
 | x::r,y::q,hp,hl,hm,hu=>by
  unfold Z8G at hl hm
  rw [List.pairwise_cons] at hl hm
  have hyx:y=x:=by
   by_cases e:y=x
   ·exact e
   ·have hx:x∈q:=by
     have:=hp.subset (List.mem_cons_self ..)
     rcases List.mem_cons.1 this with h|h
     ·exact absurd h.symm e
     ·exact h
    have hy:y∈r:=by
     have:=hp.symm.subset (List.mem_cons_self ..)
     rcases List.mem_cons.1 this with h|h
     ·exact absurd h e
     ·exact h
    exact hu y (List.mem_cons_of_mem _ hy) x (List.mem_cons_self ..) (hl.1 y hy) (hm.1 x hx)
  subst hyx
  rw [List.perm_cons] at hp
  rw [Z1o hp hl.2 hm.2 fun a ha b hb=>hu a (List.mem_cons_of_mem _ ha) b (List.mem_cons_of_mem _ hb)]
end Go.Tk
end
section
namespace Go.Tk
open IntKind (i64 u8 u32 u64 wrap)
def Wy (h:Z6):Int:=match h.own with
 | true=>0
 | false=>1
def Z6W (a b:Int):Int:=if a<b then -1 else if b<a then 1 else 0
def cfH (a b:Z6):Int:=if Z6W (Wy a) (Wy b)≠0 then Z6W (Wy a) (Wy b) else Z6W a.id b.id
theorem Zbj (b:Bool) (x:Prop):Z0 b x x=x:=by cases b<;>rfl
theorem ZmO (p q:Z6) (r:Int) (hr:r=cfH p q):
  evF G0 20 85 [.agg p.c,.agg q.c] ⟨0,[]⟩ (Y4 (fun v=>v=.int .i64 r)):=by
 refine @Eq.mpr _ (let q1:=p.id;let q2:=q1 !=q1;let q3:=q.id;let q4:=q3 !=q3;let q5:=AV.int i64 r;let q6:=AV.int i64 0=q5;let q7:=AV.int i64 (-1)=q5;let q8:=AV.int i64 1=q5;let q9:=decide (q1<q3);let q10:=decide (q1>q3);let q11:=Z0 q2 (Z0 q4 q6 q7) (Z0 q4 q8 (Z0 q9 q7 (Z0 q10 q8 q6)));
 Z0 p.own (Z0 q.own q11 (Z0 q2 (Z0 q4 q7 q7) (Z0 q4 q7 (Z0 q9 q7 (Z0 q10 q7 q7))))) (Z0 q.own (Z0 q2 (Z0 q4 q8 q8) (Z0 q4 q8 (Z0 q9 q8 (Z0 q10 q8 q8)))) q11)) (by kernel_rfl) ?_
 conv=>zeta
 subst hr
 simp only [bne_self_eq_false,Zdj,Zbj]
 unfold cfH Wy Z6W
 simp only [Zdk]
 congr 1
 cases p.own<;>cases q.own<;>by_cases h1:p.id<q.id<;>by_cases h2:q.id<p.id<;>simp [h1,h2]
def ltH (a b:Z6):Bool:=Go.Proofs.ltOf cfH a b
theorem Z1Y (a b:Z6):ltH a b=true↔Wy a<Wy b\/(Wy a=Wy b/\a.id<b.id):=by
 unfold ltH Go.Proofs.ltOf cfH Z6W
 rw [decide_eq_true_iff]
 split<;>split<;>(try split)<;>(try split)<;>omega
theorem Z13 (a b:Z6):ltH a b=false↔¬(Wy a<Wy b\/(Wy a=Wy b/\a.id<b.id)):=by
 rw [<-Z1Y,Bool.not_eq_true]
theorem Zgd:Go.Sort.SWO (Go.Proofs.ltOf cfH) where
 irrefl x:=by rw [show Go.Proofs.ltOf cfH x x=ltH x x from rfl,Z13];omega
 trans x y z h1 h2:=by
  rw [show Go.Proofs.ltOf cfH x z=ltH x z from rfl,Z1Y]
  have a:=(Z1Y x y).1 h1
  have b:=(Z1Y y z).1 h2
  omega
 ntrans x y z h1 h2:=by
  rw [show Go.Proofs.ltOf cfH x z=ltH x z from rfl,Z13]
  have a:=(Z13 x y).1 h1
  have b:=(Z13 y z).1 h2
  omega
def Zge (h:Z6):List Value:=.bool h.own::.int .i64 h.id::.int .i64 h.amount::(intCells .u8 32 h.hash++(.int .i64 h.expiry::.int .i64 h.stage::.int .i64 h.fin::(intCells .u8 32 h.secret++[])))
theorem Z3m (E:Env) (h:Z6):Zv E h.c (Zge h):=
 .one _ _ _ _ rfl rfl (.bool _) (.one _ _ _ _ rfl rfl (.int _ _) (.one _ _ _ _ rfl rfl (.int _ _) (.arr _ _ _ _ _ (.one _ _ _ _ rfl rfl (.int _ _) (.one _ _ _ _ rfl rfl (.int _ _) (.one _ _ _ _ rfl rfl (.int _ _) (.arr _ _ _ _ _ .nil)))))))
theorem Zgf (E:Env) (h:Z6) (vs:List Value) (hc:Zv E h.c vs):vs=Zge h:=by
 unfold Z6.c at hc
 obtain ⟨c1,w0,rfl,_,_,h1,k0⟩:=hc.cons_cell (by intros;simp)
 obtain ⟨c2,w1,rfl,_,_,h2,k1⟩:=k0.cons_cell (by intros;simp)
 obtain ⟨c3,w2,rfl,_,_,h3,k2⟩:=k1.cons_cell (by intros;simp)
 obtain ⟨w3,rfl,k3⟩:=k2.cons_arr
 obtain ⟨c4,w4,rfl,_,_,h4,k4⟩:=k3.cons_cell (by intros;simp)
 obtain ⟨c5,w5,rfl,_,_,h5,k5⟩:=k4.cons_cell (by intros;simp)
 obtain ⟨c6,w6,rfl,_,_,h6,k6⟩:=k5.cons_cell (by intros;simp)
 obtain ⟨w7,rfl,k7⟩:=k6.cons_arr
 cases k7
 cases h1;cases h2;cases h3;cases h4;cases h5;cases h6
 rfl
instance:Inhabited Z6:=⟨Z8⟩
theorem ZkL:∃(E:Env),True:=⟨⟨fun _=>none,fun _ _=>False⟩,trivial⟩
theorem ZdI (h:Z6):(Zge h).length=70:=by
 obtain ⟨E,_⟩:=ZkL
 have:=(Z3m E h).length
 simpa [Z6.c,csz] using this
theorem ZdJ (h:Z6):∀v∈Zge h,v.oneCell'=true:=by
 obtain ⟨E,_⟩:=ZkL
 exact (Z3m E h).all_one
structure XK (L L':List Z6) (n:Nat):Prop where
 hn:L.length=n
 pos:0<n
 lt:n<1000
 perm:L'.Perm L
 ord:Z8G ltH L'
 uniq:∀a∈L',∀b∈L',ltH a b=false->ltH b a=false->a=b
theorem ZdK {L L':List Z6} {n lo:Nat} {f:Nat->List AV} (hf:∀i,i<n->f i=Z4 L i) (h:XK L L' n):Spec PP 84 [.nslice ⟨0,0,70,0,0⟩ 70 n lo,.func (.func 85) [] []] ⟨1,[(0,.rows 70 n f)]⟩ (.ret (.tuple [])) 1 [(0,.rows 70 n (Z4 L'))]:=
 Zbh (L:=ZkK) (k:=70) Go.Proofs.Tryz.isAgg97 Go.Proofs.Tryz.sizeOf97 (c:=Z6.c) ZdI (by decide) ZdJ Zgf Z3m Zgd (g:=85)
  (fun _ _=>Go.Proofs.enters_of Go.Proofs.Tryz.func85 (by kernel_rfl) rfl _ _) (fun x y=>ZA.evV Zu (ZmO x y _ rfl)) h.hn h.pos (by have:=h.lt;omega) hf (fun _ _=>rfl)
  (fun l' hp ho=>(Z1o (lt:=ltH) (h.perm.trans hp.symm) h.ord ho h.uniq).symm)
def Z8H:Y8:=fun args h K=>match args with
 | [.nslice ⟨b,0,70,0,0⟩ 70 _ _,_]=>frA [b] h 20 args fun Bs a=>match Bs,a with
  | [.rows 70 n f],[.nslice ⟨0,0,70,0,0⟩ 70 n' _,.func (.func 85) [] []]=>∃L L',n'=n/\(∀i,i<n->f i=Z4 L i)/\XK L L' n/\K (.ret (.tuple [])) ⟨h.next,(b,.rows 70 n (Z4 L'))::Ye h.bs b⟩
  | _,_=>False
 | _=>False
theorem Zbk (args:List AV) (h:Z9) (K:KO) (hl:Z8H args h K):Zn PP 84 args h K:=by
 unfold Z8H at hl
 split at hl
 ·refine Spec.fsumm hl fun Bs a hlen hK0=> ?_
  split at hK0
  ·obtain ⟨L,L',rfl,hf,hs,hK⟩:=hK0
   exact ⟨_,_,_,_,_,ZdK hf hs,Nat.le_refl _,.ret _ _ rfl,.cons _ _ _ _ _ _ rfl (.rows _ _ _ (fun i _=>Xq _ i)) .nil,hK⟩
  ·exact hK0.elim
 ·exact hl.elim
end Go.Tk
end
section
namespace Go.Tk
open IntKind (i64 u8 u32 u64 wrap)
theorem ZkM (N:Nat) (L:List Z6) (hN:N+1<1000000):
  evF G0 20 45 [.vrows 70 (N+1) (Z4 L) (N+1)] ⟨0,[]⟩ (ZX 0 (.ret (.nslice ⟨0,0,70,0,0⟩ 70 (N+1) (N+1))) 1 [(0,.rows 70 (N+1) (Z4 L))]):=by
 refine @Eq.mpr _ (let q1:=N+1;let q2:=0+q1;let q3:=decide (q2=q1);
 Z0 (decide (q2*112<=140737488355328)) (Z0 q3 (Z0 (decide (q1<=q2)) (Z0 q3 (Zc 0 [(0,0)] q1 (Z4 L) (ZZ 0 (fun (x:Nat)=>[]) (Z4 L))/\True) False) False) False) False) (by kernel_rfl) ?_
 conv=>zeta
 try simp only [Zi]
 try simp only [Zj]
 try simp only [Zf]
 try simp only [Zk]
 try simp only [Zl]
 try simp only [Zg]
 try simp only [Int.toNat_natCast,Nat.zero_add,true_and,and_true,Nat.le_refl]
 repeat' apply And.intro
 all_goals first|omega|exact Zp fun i hi=>by rw [Z0k (Nat.zero_le _)];rfl
theorem ZkN (L:List Z6) :
  evF G0 20 45 [.nilslice] ⟨0,[]⟩ (ZX 0 (.ret (.nslice ⟨0,0,70,0,0⟩ 70 0 0)) 1 [(0,.rows 70 0 (Z4 L))]):=by
 refine @Eq.mpr _ (True) (by kernel_rfl) ?_
 trivial
theorem ZkO (L:List Z6) :
  evF G0 20 45 [.fslice] ⟨0,[]⟩ (ZX 0 (.ret (.nslice ⟨0,0,70,0,0⟩ 70 0 0)) 1 [(0,.rows 70 0 (Z4 L))]):=by
 refine @Eq.mpr _ (Zc 0 [(0,0)] 0 (Z4 L) (ZZ 0 (fun (x:Nat)=>[]) fun (x:Nat)=>[])/\True) (by kernel_rfl) ?_
 try simp only [Zi]
 try simp only [Zj]
 try simp only [Zf]
 try simp only [Zk]
 try simp only [Zl]
 try simp only [Zg]
 try simp only [Int.toNat_natCast,Nat.zero_add,true_and,and_true,Nat.le_refl]
 first|exact Zp fun i hi=>by omega|exact ⟨Zp fun i hi=>by omega,trivial⟩
theorem ZdL (N:Nat) (L:List Z6) (hN:N<1000000):ZA PP 45 [.vrows 70 N (Z4 L) N] (.nslice ⟨0,0,70,0,0⟩ 70 N N) 1 [(0,.rows 70 N (Z4 L))]:=by
 cases N with
 | zero=>exact ZA.vrows0 (.evM Zu (ZkN L)) (.evM Zu (ZkO L))
 | succ n=>exact .evM Zu (ZkM n L hN)
def ZdM:Y8:=fun args h K=>ZP none h true 20 args fun a=>match a with
 | [.vrows 70 n f m]=>∃L,m=n/\f=Z4 L/\n<1000000/\K (.ret (.nslice ⟨h.next,0,70,0,0⟩ 70 n n)) ⟨h.next+1,(h.next,.rows 70 n (Z4 L))::h.bs⟩
 | _=>False
theorem Z1Z (args:List AV) (h:Z9) (K:KO) (hl:ZdM args h K):Zn PP 45 args h K:=by
 refine ZA.fsumm (d:=20) (Zs _ _ _ _ _ hl fun a ha=> ?_)
 split at ha
 ·obtain ⟨L,rfl,rfl,hN,hK⟩:=ha
  exact ⟨_,_,_,_,ZdL _ L hN,rfl,⟨Nat.one_pos,.rows _ _ _ (fun i _=>Xq _ i),trivial⟩,hK⟩
 ·exact ha.elim
end Go.Tk
end
section
namespace Go.Tk
open IntKind (i64 u8 u32 u64 wrap)
noncomputable def ZdN:Zh:=((((G0.withP 81 Z5A).withP 79 ZfX).withF 83 Z3h).withF 45 ZdM).withF 84 Z8H
theorem Z20:ZdN.Ok:=Zh.withF_ok (Zh.withF_ok (Zh.withF_ok (Zh.withP_ok (Zh.withP_ok Zu Z4C) Z5F) Q8) Z1Z) Zbk
def Z5I (X:Z7) (n:Nat):Z9:=⟨2,[(0,.flat (X.c (.nslice ⟨1,0,70,0,0⟩ 70 n n))),(1,.rows 70 n (Z4 X.L))]⟩
theorem ZhT (L:List Z6) (h:Z6) (n:Nat) (hn:L.length=n):(∀i,i<n+1->Yt (ZZ n (Z4 L) (YG h.c 0 70) i)=true)/\∀i,i<n+1->ZZ n (Z4 L) (YG h.c 0 70) i=Z4 (L++[h]) i:=by
 have h2:∀i,i<n+1->ZZ n (Z4 L) (YG h.c 0 70) i=Z4 (L++[h]) i:=fun i hi=>Yk hn (fun _ _=>rfl) hi
 exact ⟨fun i hi=>by rw [h2 i hi];exact Xq _ _,h2⟩
structure Z6X (X:Z7):Prop where
 cap:X.t.cap≠0
 side:X.side=0\/X.side=1
 am:Z11 X
 nx:(0<=X.i0/\X.i0<=2147483648)/\0<=X.i1/\X.i1<=2147483648
theorem Z8I (X:Z7) (n:Nat) (id am ex e:Int) (hash:List Int) (hn:X.L.length=n) (hX:Z6X X) (he:e=XA X true id am hash ex) (hne:e≠0):
  evF ZdN 20 26 [.ptr (some ⟨0,0,0,0,0⟩),.bool true,.int .i64 id,.int .i64 am,.agg [.arr .u8 32 hash],.int .i64 ex] (Z5I X n) (ZX 2 (.ret (.int .i64 e)) 2 [(0,.flat (X.c (.nslice ⟨1,0,70,0,0⟩ 70 n n))),(1,.rows 70 n (Z4 X.L))]):=by
 refine @Eq.mpr _ (let q1:=X.t;let q2:=q1.cap;let q3:=q1.fund;let q4:=q3=q3;let q5:=q1.index;let q6:=decide (q5=q5);let q7:=decide (q2=q2);let q8:=q1.dust;let q9:=decide (q8=q8);let q10:=q1.fee;let q11:=decide (q10=q10);let q12:=q1.delay;let q13:=decide (q12=q12);let q14:=q1.k0;let q15:=q14=q14;let q16:=q1.k1;let q17:=q16=q16;let q18:=X.side;let q19:=decide (q18=q18);let q20:=X.res;let q21:=decide (q20=q20);let q22:=[X.a0,X.a1];let q23:=q22=q22;let q24:=X.i0;let q25:=[X.i1];let q26:=q24::q25;let q27:=decide (n=n);let q28:=Z4 X.L;let q29:=q4/\Z0 q6 (Z0 q7 (Z0 q9 (Z0 q11 (Z0 q13 (q15/\q17/\Z0 q19 (Z0 q21 (q23/\q26=q26/\Z0 q27 (Z0 (decide (n<=n)) (Z0 q27 (Zc 2 [] n q28 q28/\True) False) False) False) False) False) False) False) False) False) False;let q30:=decide (0+n<=n);let q31:=ZT 0 q28;let q32:=n+1;let q33:=YG [AV.bool true,AV.int i64 id,AV.int i64 am,AV.arr u8 32 hash,AV.int i64 ex,AV.int i64 1,AV.int i64 0,AV.arr u8 32 Za] 0 70;
 Z0 (q2==0) (Z0 (decide (1=e)) q29 False)
 (Z0 q30
 ((∀(i:Nat),i<n->true=true)/\
 ∃(X:Z7),
 let q67:=[AV.arr u8 32 q3,AV.int i64 q5,AV.int i64 q2,AV.int i64 q8,AV.int i64 q10,AV.int i64 q12,AV.arr u8 32 q14,AV.arr u8 32 q16,AV.int i64 q18,AV.int i64 q20,AV.arr i64 2 q22,AV.arr i64 2 q26,AV.vrows 70 n q31 n];let q68:=X.side;
 LV q67 X/\
 (0<=q68/\q68<=1)/\
 List.length X.L<1000/\
 Z0 (decide (q24=q24))
 (Z0 q30
 ((∀(i:Nat),i<n->true=true)/\
 ∃(X_1:Z7),
 LV q67 X_1/\
 (0<=X_1.side/\X_1.side<=1)/\
 (q18=0\/q18=1)/\
 Z11 X_1/\
 Z0 (!Yj (Z6.mk true id am hash ex 1 0 Za)) (Z0 (decide (2=e)) q29 False)
 (Z0 (id !=q24) (Z0 (decide (200=e)) q29 False)
 (Z0 (decide ((↑(List.length (ZR q68 q18 X.L)):Int)>=8)) (Z0 (decide (201=e)) q29 False)
 (Z0 (decide (Y5 X_1 q18<am)) (Z0 (decide (202=e)) q29 False)
 (Z0 q30 ((∀(i:Nat),i<n->true=true)/\∃(L:List Z6),n=n/\q31=Z4 L/\n<1000000/\Z0 (decide (id=id)) (Z0 (decide (am=am)) (hash=hash/\Z0 (decide (ex=ex)) (Za=Za/\Z0 q27 (Z0 (decide (q32*112<=140737488355328)) ((∀(i:Nat),i<q32->Yt (ZZ n (Z4 L) q33 i)=true)/\∃(L_1:List Z6),∃(L':List Z6),q32=q32/\(∀(i:Nat),i<q32->ZZ n (Z4 L) q33 i=Z4 L_1 i)/\XK L_1 L' q32/\Z0 (decide (0=e)) (q4/\Z0 q6 (Z0 q7 (Z0 q9 (Z0 q11 (Z0 q13 (q15/\q17/\Z0 q19 (Z0 q21 (q23/\wrap i64 (q24+1)::q25=q26/\False) False) False) False) False) False) False) False) False) False) False) False) False) False) False/\
 Z0 q27 (Z0 q27 (Z0 q30 ((∀(i:Nat),i<n->true=true)/\∃(L:List Z6),n=n/\q31=Z4 L/\n<1000000/\Z0 q27 (Z0 (decide (q32*112<=140737488355328)) ((∀(i:Nat),i<q32->Yt (ZZ n (Z4 L) q33 i)=true)/\∃(L_1:List Z6),∃(L':List Z6),q32=q32/\(∀(i:Nat),i<q32->ZZ n (Z4 L) q33 i=Z4 L_1 i)/\XK L_1 L' q32/\Z0 (decide (0=e)) (q4/\Z0 q6 (Z0 q7 (Z0 q9 (Z0 q11 (Z0 q13 (q15/\q17/\Z0 q19 (Z0 q21 (q23/\wrap i64 (q24+1)::q25=q26/\False) False) False) False) False) False) False) False) False) False) False) False) False) False)))))
 False)
 False)
 False)) (by kernel_rfl) ?_
 conv=>zeta
 subst hn
 have hlen:=hX.am.n
 have hs01:0<=X.side/\X.side<=1:=by have:=hX.side;omega
 have hwf:i64.wrap (1-X.side)=1-X.side:=w64 (by omega)
 try rw [hwf]
 have hsf:X.side=0\/X.side=1:=by have:=hX.side;omega
 have hp:Yj ⟨true,id,am,hash,ex,1,0,Za⟩=Yj (Xd X true id am hash ex):=rfl
 rw [hp]
 try simp only [Zi]
 try simp only [Zj]
 try simp only [Zf]
 try simp only [Zk]
 try simp only [Zl]
 try simp only [Zg]
 try simp only [Int.toNat_natCast,Nat.zero_add,true_and,and_true,Nat.le_refl]
 unfold XA at he
 have hf:ZS X.side true=X.side:=rfl
 have hnx:X.nx true=X.i0:=rfl
 rw [hf,hnx] at he
 have hR:Zc 2 [] X.L.length (Z4 X.L) (Z4 X.L):=Zp fun _ _=>rfl
 refine ⟨fun hc=>absurd hc (by simp [hX.cap]),fun _=>⟨fun _ _=>trivial,X,.a rfl,hs01,hlen,fun _ _=>trivial,X,.a rfl,hs01,hsf,hX.am,fun k=>⟨?_,hR⟩,fun k1=>⟨fun k=>⟨?_,hR⟩,fun k2=>⟨fun k=>⟨?_,hR⟩,fun k3=>⟨fun k=>⟨?_,hR⟩,fun k4=> ?_⟩⟩⟩⟩⟩
 ·rw [he,if_pos (by simpa using k)]
 ·rw [he,if_neg (by simpa using k1),if_pos (by simpa using k)]
 ·rw [he,if_neg (by simpa using k1),if_neg (by simpa using k2),if_pos (by omega)]
 ·rw [he,if_neg (by simpa using k1),if_neg (by simpa using k2),if_neg (by omega),if_pos k]
 ·exact absurd (by rw [he,if_neg (by simpa using k1),if_neg (by simpa using k2),if_neg (by omega),if_neg k4]) hne
theorem Z8J (X X':Z7) (n:Nat) (id am ex:Int) (hash:List Int) (hn:X.L.length=n) (hX:Z6X X) (he:XA X true id am hash ex=0) (hX':X'=addX X true id am hash ex) (hs:XK (X.L++[Xd X true id am hash ex]) X'.L (n+1)):
  evF ZdN 20 26 [.ptr (some ⟨0,0,0,0,0⟩),.bool true,.int .i64 id,.int .i64 am,.agg [.arr .u8 32 hash],.int .i64 ex] (Z5I X n) (ZX 2 (.ret (.int .i64 0)) 3 [(0,.flat (X'.c (.nslice ⟨2,0,70,0,0⟩ 70 (n+1) (n+1)))),(2,.rows 70 (n+1) (Z4 X'.L))]):=by
 refine @Eq.mpr _ (let q1:=X.t;let q2:=q1.cap;let q3:=decide (0+n<=n);let q4:=q1.fund;let q5:=q1.index;let q6:=q1.dust;let q7:=q1.fee;let q8:=q1.delay;let q9:=q1.k0;let q10:=q1.k1;let q11:=X.side;let q12:=[X.a0,X.a1];let q13:=X.i0;let q14:=[X.i1];let q15:=ZT 0 (Z4 X.L);let q16:=decide (n=n);let q17:=n+1;let q18:=YG [AV.bool true,AV.int i64 id,AV.int i64 am,AV.arr u8 32 hash,AV.int i64 ex,AV.int i64 1,AV.int i64 0,AV.arr u8 32 Za] 0 70;let q19:=X'.t;let q20:=decide (q17=q17);
 Z0 (q2==0) False
 (Z0 q3
 ((∀(i:Nat),i<n->true=true)/\
 ∃(X_1:Z7),
 let q41:=[AV.arr u8 32 q4,AV.int i64 q5,AV.int i64 q2,AV.int i64 q6,AV.int i64 q7,AV.int i64 q8,AV.arr u8 32 q9,AV.arr u8 32 q10,AV.int i64 q11,AV.int i64 X.res,AV.arr i64 2 q12,AV.arr i64 2 (q13::q14),AV.vrows 70 n q15 n];let q42:=X_1.side;
 LV q41 X_1/\
 (0<=q42/\q42<=1)/\
 List.length X_1.L<1000/\
 Z0 (decide (q13=q13))
 (Z0 q3
 ((∀(i:Nat),i<n->true=true)/\
 ∃(X_2:Z7),
 LV q41 X_2/\
 (0<=X_2.side/\X_2.side<=1)/\
 (q11=0\/q11=1)/\
 Z11 X_2/\
 Z0 (!Yj (Z6.mk true id am hash ex 1 0 Za)) False
 (Z0 (id !=q13) False
 (Z0 (decide ((↑(List.length (ZR q42 q11 X_1.L)):Int)>=8)) False
 (Z0 (decide (Y5 X_2 q11<am)) False
 (Z0 q3
 ((∀(i:Nat),i<n->true=true)/\
 ∃(L:List Z6),n=n/\q15=Z4 L/\n<1000000/\Z0 (decide (id=id)) (Z0 (decide (am=am)) (hash=hash/\Z0 (decide (ex=ex)) (Za=Za/\Z0 q16 (Z0 (decide (q17*112<=140737488355328)) ((∀(i:Nat),i<q17->Yt (ZZ n (Z4 L) q18 i)=true)/\∃(L_1:List Z6),∃(L':List Z6),q17=q17/\(∀(i:Nat),i<q17->ZZ n (Z4 L) q18 i=Z4 L_1 i)/\XK L_1 L' q17/\q4=q19.fund/\Z0 (decide (q5=q19.index)) (Z0 (decide (q2=q19.cap)) (Z0 (decide (q6=q19.dust)) (Z0 (decide (q7=q19.fee)) (Z0 (decide (q8=q19.delay)) (q9=q19.k0/\q10=q19.k1/\Z0 (decide (q11=X'.side)) (Z0 (decide (X.res=X'.res)) (q12=[X'.a0,X'.a1]/\wrap i64 (q13+1)::q14=[X'.i0,X'.i1]/\Z0 q20 (Z0 (decide (q17<=q17)) (Z0 q20 (Zc 2 [(2,14)] q17 (Z4 X'.L) (Z4 L')/\True) False) False) False) False) False) False) False) False) False) False) False) False) False) False) False)
 False/\
 Z0 q16 (Z0 q16 (Z0 q3 ((∀(i:Nat),i<n->true=true)/\∃(L:List Z6),n=n/\q15=Z4 L/\n<1000000/\Z0 q16 (Z0 (decide (q17*112<=140737488355328)) ((∀(i:Nat),i<q17->Yt (ZZ n (Z4 L) q18 i)=true)/\∃(L_1:List Z6),∃(L':List Z6),q17=q17/\(∀(i:Nat),i<q17->ZZ n (Z4 L) q18 i=Z4 L_1 i)/\XK L_1 L' q17/\q4=q19.fund/\Z0 (decide (q5=q19.index)) (Z0 (decide (q2=q19.cap)) (Z0 (decide (q6=q19.dust)) (Z0 (decide (q7=q19.fee)) (Z0 (decide (q8=q19.delay)) (q9=q19.k0/\q10=q19.k1/\Z0 (decide (q11=X'.side)) (Z0 (decide (X.res=X'.res)) (q12=[X'.a0,X'.a1]/\wrap i64 (q13+1)::q14=[X'.i0,X'.i1]/\Z0 q20 (Z0 (decide (q17<=q17)) (Z0 q20 (Zc 2 [(2,14)] q17 (Z4 X'.L) (Z4 L')/\True) False) False) False) False) False) False) False) False) False) False) False) False) False) False) False)))))
 False)
 False)
 False)) (by kernel_rfl) ?_
 conv=>zeta
 subst hn
 have hlen:=hX.am.n
 have hs01:0<=X.side/\X.side<=1:=by have:=hX.side;omega
 have hwf:i64.wrap (1-X.side)=1-X.side:=w64 (by omega)
 try rw [hwf]
 have hsf:X.side=0\/X.side=1:=by have:=hX.side;omega
 have hp:Yj ⟨true,id,am,hash,ex,1,0,Za⟩=Yj (Xd X true id am hash ex):=rfl
 rw [hp]
 have ht:=ZhT X.L (Xd X true id am hash ex) _ rfl
 have hX2:X'={ XG X true 1 with L:=Xp (Xd X true id am hash ex) X.L}:=by rw [hX'];unfold addX;rw [if_pos he]
 generalize Xp (Xd X true id am hash ex) X.L=L2 at hX2
 subst hX2
 have hwi:i64.wrap (X.i0+1)=X.i0+1:=w64 (by have:=hX.nx;omega)
 try simp only [Zi]
 try simp only [Zj]
 try simp only [Zf]
 try simp only [Zk]
 try simp only [Zl]
 try simp only [Zg]
 try simp only [Int.toNat_natCast,Nat.zero_add,true_and,and_true,Nat.le_refl]
 unfold XA at he
 have hf:ZS X.side true=X.side:=rfl
 have hnx:X.nx true=X.i0:=rfl
 rw [hf,hnx] at he
 have hno:Yj (Xd X true id am hash ex)=true/\id=X.i0/\¬8<=(ZR X.side (X.side) X.L).length/\¬Y5 X (X.side)<am:=by
  split at he
  ·cases he
  ·rename_i q1
   split at he
   ·cases he
   ·rename_i q2
    split at he
    ·cases he
    ·rename_i q3
     split at he
     ·cases he
     ·rename_i q4
      exact ⟨by simpa using q1,by simpa using q2,q3,q4⟩
 obtain ⟨k1,k2,k3,k4⟩:=hno
 have hR:∀τ,Zc 2 τ (X.L.length+1) (Z4 L2) (Z4 L2):=fun τ=>Zp fun _ _=>rfl
 have hcap:=hX.cap
 have k3':¬((ZR X.side (X.side) X.L).length:Int)>=8:=by omega
 refine ⟨by simp [hcap],fun _ _=>trivial,X,.a rfl,hs01,hlen,fun _ _=>trivial,X,.a rfl,hs01,hsf,hX.am,by simp [k1],by simp [k2],k3',k4, ?_, ?_⟩
 all_goals exact ⟨fun _ _=>trivial,X.L,rfl,by omega,by omega,ht.1,X.L++[Xd X true id am hash ex],L2,ht.2,hs,rfl,rfl,rfl,rfl,rfl,rfl,rfl,rfl,rfl,rfl,rfl,by rw [hwi];rfl,hR _⟩
theorem Z6Y (X:Z7) (n:Nat) (id am ex e:Int) (hash:List Int) (hn:X.L.length=n) (hX:Z6X X) (he:e=XA X false id am hash ex) (hne:e≠0):
  evF ZdN 20 26 [.ptr (some ⟨0,0,0,0,0⟩),.bool false,.int .i64 id,.int .i64 am,.agg [.arr .u8 32 hash],.int .i64 ex] (Z5I X n) (ZX 2 (.ret (.int .i64 e)) 2 [(0,.flat (X.c (.nslice ⟨1,0,70,0,0⟩ 70 n n))),(1,.rows 70 n (Z4 X.L))]):=by
 refine @Eq.mpr _ (let q1:=X.t;let q2:=q1.cap;let q3:=q1.fund;let q4:=q3=q3;let q5:=q1.index;let q6:=decide (q5=q5);let q7:=decide (q2=q2);let q8:=q1.dust;let q9:=decide (q8=q8);let q10:=q1.fee;let q11:=decide (q10=q10);let q12:=q1.delay;let q13:=decide (q12=q12);let q14:=q1.k0;let q15:=q14=q14;let q16:=q1.k1;let q17:=q16=q16;let q18:=X.side;let q19:=decide (q18=q18);let q20:=X.res;let q21:=decide (q20=q20);let q22:=[X.a0,X.a1];let q23:=q22=q22;let q24:=X.i1;let q25:=[X.i0,q24];let q26:=decide (n=n);let q27:=Z4 X.L;let q28:=q4/\Z0 q6 (Z0 q7 (Z0 q9 (Z0 q11 (Z0 q13 (q15/\q17/\Z0 q19 (Z0 q21 (q23/\q25=q25/\Z0 q26 (Z0 (decide (n<=n)) (Z0 q26 (Zc 2 [] n q27 q27/\True) False) False) False) False) False) False) False) False) False) False;let q29:=decide (0+n<=n);let q30:=ZT 0 q27;let q31:=wrap i64 (1-q18);let q32:=n+1;let q33:=YG [AV.bool false,AV.int i64 id,AV.int i64 am,AV.arr u8 32 hash,AV.int i64 ex,AV.int i64 1,AV.int i64 0,AV.arr u8 32 Za] 0 70;
 Z0 (q2==0) (Z0 (decide (1=e)) q28 False)
 (Z0 q29
 ((∀(i:Nat),i<n->true=true)/\
 ∃(X_1:Z7),
 let q67:=[AV.arr u8 32 q3,AV.int i64 q5,AV.int i64 q2,AV.int i64 q8,AV.int i64 q10,AV.int i64 q12,AV.arr u8 32 q14,AV.arr u8 32 q16,AV.int i64 q18,AV.int i64 q20,AV.arr i64 2 q22,AV.arr i64 2 q25,AV.vrows 70 n q30 n];let q68:=X_1.side;
 LV q67 X_1/\
 (0<=q68/\q68<=1)/\
 List.length X_1.L<1000/\
 Z0 (decide (q24=q24))
 (Z0 q29
 ((∀(i:Nat),i<n->true=true)/\
 ∃(X_2:Z7),
 LV q67 X_2/\
 (0<=X_2.side/\X_2.side<=1)/\
 (q31=0\/q31=1)/\
 Z11 X_2/\
 Z0 (!Yj (Z6.mk false id am hash ex 1 0 Za)) (Z0 (decide (2=e)) q28 False)
 (Z0 (id !=q24) (Z0 (decide (200=e)) q28 False)
 (Z0 (decide ((↑(List.length (ZR q68 q31 X_1.L)):Int)>=8)) (Z0 (decide (201=e)) q28 False)
 (Z0 (decide (Y5 X_2 q31<am)) (Z0 (decide (202=e)) q28 False)
 (Z0 q29 ((∀(i:Nat),i<n->true=true)/\∃(L:List Z6),n=n/\q30=Z4 L/\n<1000000/\Z0 (decide (id=id)) (Z0 (decide (am=am)) (hash=hash/\Z0 (decide (ex=ex)) (Za=Za/\Z0 q26 (Z0 (decide (q32*112<=140737488355328)) ((∀(i:Nat),i<q32->Yt (ZZ n (Z4 L) q33 i)=true)/\∃(L_1:List Z6),∃(L':List Z6),q32=q32/\(∀(i:Nat),i<q32->ZZ n (Z4 L) q33 i=Z4 L_1 i)/\XK L_1 L' q32/\Z0 (decide (0=e)) (q4/\Z0 q6 (Z0 q7 (Z0 q9 (Z0 q11 (Z0 q13 (q15/\q17/\Z0 q19 (Z0 q21 (q23/\[X.i0,wrap i64 (q24+1)]=q25/\False) False) False) False) False) False) False) False) False) False) False) False) False) False) False/\
 Z0 q26 (Z0 q26 (Z0 q29 ((∀(i:Nat),i<n->true=true)/\∃(L:List Z6),n=n/\q30=Z4 L/\n<1000000/\Z0 q26 (Z0 (decide (q32*112<=140737488355328)) ((∀(i:Nat),i<q32->Yt (ZZ n (Z4 L) q33 i)=true)/\∃(L_1:List Z6),∃(L':List Z6),q32=q32/\(∀(i:Nat),i<q32->ZZ n (Z4 L) q33 i=Z4 L_1 i)/\XK L_1 L' q32/\Z0 (decide (0=e)) (q4/\Z0 q6 (Z0 q7 (Z0 q9 (Z0 q11 (Z0 q13 (q15/\q17/\Z0 q19 (Z0 q21 (q23/\[X.i0,wrap i64 (q24+1)]=q25/\False) False) False) False) False) False) False) False) False) False) False) False) False) False)))))
 False)
 False)
 False)) (by kernel_rfl) ?_
 conv=>zeta
 subst hn
 have hlen:=hX.am.n
 have hs01:0<=X.side/\X.side<=1:=by have:=hX.side;omega
 have hwf:i64.wrap (1-X.side)=1-X.side:=w64 (by omega)
 try rw [hwf]
 have hsf:1-X.side=0\/1-X.side=1:=by have:=hX.side;omega
 have hp:Yj ⟨false,id,am,hash,ex,1,0,Za⟩=Yj (Xd X false id am hash ex):=rfl
 rw [hp]
 try simp only [Zi]
 try simp only [Zj]
 try simp only [Zf]
 try simp only [Zk]
 try simp only [Zl]
 try simp only [Zg]
 try simp only [Int.toNat_natCast,Nat.zero_add,true_and,and_true,Nat.le_refl]
 unfold XA at he
 have hf:ZS X.side false=1-X.side:=rfl
 have hnx:X.nx false=X.i1:=rfl
 rw [hf,hnx] at he
 have hR:Zc 2 [] X.L.length (Z4 X.L) (Z4 X.L):=Zp fun _ _=>rfl
 refine ⟨fun hc=>absurd hc (by simp [hX.cap]),fun _=>⟨fun _ _=>trivial,X,.a rfl,hs01,hlen,fun _ _=>trivial,X,.a rfl,hs01,hsf,hX.am,fun k=>⟨?_,hR⟩,fun k1=>⟨fun k=>⟨?_,hR⟩,fun k2=>⟨fun k=>⟨?_,hR⟩,fun k3=>⟨fun k=>⟨?_,hR⟩,fun k4=> ?_⟩⟩⟩⟩⟩
 ·rw [he,if_pos (by simpa using k)]
 ·rw [he,if_neg (by simpa using k1),if_pos (by simpa using k)]
 ·rw [he,if_neg (by simpa using k1),if_neg (by simpa using k2),if_pos (by omega)]
 ·rw [he,if_neg (by simpa using k1),if_neg (by simpa using k2),if_neg (by omega),if_pos k]
 ·exact absurd (by rw [he,if_neg (by simpa using k1),if_neg (by simpa using k2),if_neg (by omega),if_neg k4]) hne
theorem Z6Z (X X':Z7) (n:Nat) (id am ex:Int) (hash:List Int) (hn:X.L.length=n) (hX:Z6X X) (he:XA X false id am hash ex=0) (hX':X'=addX X false id am hash ex) (hs:XK (X.L++[Xd X false id am hash ex]) X'.L (n+1)):
  evF ZdN 20 26 [.ptr (some ⟨0,0,0,0,0⟩),.bool false,.int .i64 id,.int .i64 am,.agg [.arr .u8 32 hash],.int .i64 ex] (Z5I X n) (ZX 2 (.ret (.int .i64 0)) 3 [(0,.flat (X'.c (.nslice ⟨2,0,70,0,0⟩ 70 (n+1) (n+1)))),(2,.rows 70 (n+1) (Z4 X'.L))]):=by
 refine @Eq.mpr _ (let q1:=X.t;let q2:=q1.cap;let q3:=decide (0+n<=n);let q4:=q1.fund;let q5:=q1.index;let q6:=q1.dust;let q7:=q1.fee;let q8:=q1.delay;let q9:=q1.k0;let q10:=q1.k1;let q11:=X.side;let q12:=[X.a0,X.a1];let q13:=X.i1;let q14:=ZT 0 (Z4 X.L);let q15:=wrap i64 (1-q11);let q16:=decide (n=n);let q17:=n+1;let q18:=YG [AV.bool false,AV.int i64 id,AV.int i64 am,AV.arr u8 32 hash,AV.int i64 ex,AV.int i64 1,AV.int i64 0,AV.arr u8 32 Za] 0 70;let q19:=X'.t;let q20:=decide (q17=q17);
 Z0 (q2==0) False
 (Z0 q3
 ((∀(i:Nat),i<n->true=true)/\
 ∃(X_1:Z7),
 let q41:=[AV.arr u8 32 q4,AV.int i64 q5,AV.int i64 q2,AV.int i64 q6,AV.int i64 q7,AV.int i64 q8,AV.arr u8 32 q9,AV.arr u8 32 q10,AV.int i64 q11,AV.int i64 X.res,AV.arr i64 2 q12,AV.arr i64 2 [X.i0,q13],AV.vrows 70 n q14 n];let q42:=X_1.side;
 LV q41 X_1/\
 (0<=q42/\q42<=1)/\
 List.length X_1.L<1000/\
 Z0 (decide (q13=q13))
 (Z0 q3
 ((∀(i:Nat),i<n->true=true)/\
 ∃(X_2:Z7),
 LV q41 X_2/\
 (0<=X_2.side/\X_2.side<=1)/\
 (q15=0\/q15=1)/\
 Z11 X_2/\
 Z0 (!Yj (Z6.mk false id am hash ex 1 0 Za)) False
 (Z0 (id !=q13) False
 (Z0 (decide ((↑(List.length (ZR q42 q15 X_1.L)):Int)>=8)) False
 (Z0 (decide (Y5 X_2 q15<am)) False
 (Z0 q3
 ((∀(i:Nat),i<n->true=true)/\
 ∃(L:List Z6),n=n/\q14=Z4 L/\n<1000000/\Z0 (decide (id=id)) (Z0 (decide (am=am)) (hash=hash/\Z0 (decide (ex=ex)) (Za=Za/\Z0 q16 (Z0 (decide (q17*112<=140737488355328)) ((∀(i:Nat),i<q17->Yt (ZZ n (Z4 L) q18 i)=true)/\∃(L_1:List Z6),∃(L':List Z6),q17=q17/\(∀(i:Nat),i<q17->ZZ n (Z4 L) q18 i=Z4 L_1 i)/\XK L_1 L' q17/\q4=q19.fund/\Z0 (decide (q5=q19.index)) (Z0 (decide (q2=q19.cap)) (Z0 (decide (q6=q19.dust)) (Z0 (decide (q7=q19.fee)) (Z0 (decide (q8=q19.delay)) (q9=q19.k0/\q10=q19.k1/\Z0 (decide (q11=X'.side)) (Z0 (decide (X.res=X'.res)) (q12=[X'.a0,X'.a1]/\[X.i0,wrap i64 (q13+1)]=[X'.i0,X'.i1]/\Z0 q20 (Z0 (decide (q17<=q17)) (Z0 q20 (Zc 2 [(2,14)] q17 (Z4 X'.L) (Z4 L')/\True) False) False) False) False) False) False) False) False) False) False) False) False) False) False) False)
 False/\
 Z0 q16 (Z0 q16 (Z0 q3 ((∀(i:Nat),i<n->true=true)/\∃(L:List Z6),n=n/\q14=Z4 L/\n<1000000/\Z0 q16 (Z0 (decide (q17*112<=140737488355328)) ((∀(i:Nat),i<q17->Yt (ZZ n (Z4 L) q18 i)=true)/\∃(L_1:List Z6),∃(L':List Z6),q17=q17/\(∀(i:Nat),i<q17->ZZ n (Z4 L) q18 i=Z4 L_1 i)/\XK L_1 L' q17/\q4=q19.fund/\Z0 (decide (q5=q19.index)) (Z0 (decide (q2=q19.cap)) (Z0 (decide (q6=q19.dust)) (Z0 (decide (q7=q19.fee)) (Z0 (decide (q8=q19.delay)) (q9=q19.k0/\q10=q19.k1/\Z0 (decide (q11=X'.side)) (Z0 (decide (X.res=X'.res)) (q12=[X'.a0,X'.a1]/\[X.i0,wrap i64 (q13+1)]=[X'.i0,X'.i1]/\Z0 q20 (Z0 (decide (q17<=q17)) (Z0 q20 (Zc 2 [(2,14)] q17 (Z4 X'.L) (Z4 L')/\True) False) False) False) False) False) False) False) False) False) False) False) False) False) False) False)))))
 False)
 False)
 False)) (by kernel_rfl) ?_
 conv=>zeta
 subst hn
 have hlen:=hX.am.n
 have hs01:0<=X.side/\X.side<=1:=by have:=hX.side;omega
 have hwf:i64.wrap (1-X.side)=1-X.side:=w64 (by omega)
 try rw [hwf]
 have hsf:1-X.side=0\/1-X.side=1:=by have:=hX.side;omega
 have hp:Yj ⟨false,id,am,hash,ex,1,0,Za⟩=Yj (Xd X false id am hash ex):=rfl
 rw [hp]
 have ht:=ZhT X.L (Xd X false id am hash ex) _ rfl
 have hX2:X'={ XG X false 1 with L:=Xp (Xd X false id am hash ex) X.L}:=by rw [hX'];unfold addX;rw [if_pos he]
 generalize Xp (Xd X false id am hash ex) X.L=L2 at hX2
 subst hX2
 have hwi:i64.wrap (X.i1+1)=X.i1+1:=w64 (by have:=hX.nx;omega)
 try simp only [Zi]
 try simp only [Zj]
 try simp only [Zf]
 try simp only [Zk]
 try simp only [Zl]
 try simp only [Zg]
 try simp only [Int.toNat_natCast,Nat.zero_add,true_and,and_true,Nat.le_refl]
 unfold XA at he
 have hf:ZS X.side false=1-X.side:=rfl
 have hnx:X.nx false=X.i1:=rfl
 rw [hf,hnx] at he
 have hno:Yj (Xd X false id am hash ex)=true/\id=X.i1/\¬8<=(ZR X.side (1-X.side) X.L).length/\¬Y5 X (1-X.side)<am:=by
  split at he
  ·cases he
  ·rename_i q1
   split at he
   ·cases he
   ·rename_i q2
    split at he
    ·cases he
    ·rename_i q3
     split at he
     ·cases he
     ·rename_i q4
      exact ⟨by simpa using q1,by simpa using q2,q3,q4⟩
 obtain ⟨k1,k2,k3,k4⟩:=hno
 have hR:∀τ,Zc 2 τ (X.L.length+1) (Z4 L2) (Z4 L2):=fun τ=>Zp fun _ _=>rfl
 have hcap:=hX.cap
 have k3':¬((ZR X.side (1-X.side) X.L).length:Int)>=8:=by omega
 refine ⟨by simp [hcap],fun _ _=>trivial,X,.a rfl,hs01,hlen,fun _ _=>trivial,X,.a rfl,hs01,hsf,hX.am,by simp [k1],by simp [k2],k3',k4, ?_, ?_⟩
 all_goals exact ⟨fun _ _=>trivial,X.L,rfl,by omega,by omega,ht.1,X.L++[Xd X false id am hash ex],L2,ht.2,hs,rfl,rfl,rfl,rfl,rfl,rfl,rfl,rfl,rfl,rfl,rfl,by rw [hwi];rfl,hR _⟩
end Go.Tk
end
section
namespace Go.Tk
open IntKind (i64 u8 u32 u64 wrap)
def WW (a b:Z6):Prop:=Wy a<Wy b\/(Wy a=Wy b/\a.id<b.id)
theorem ZdO {a b:Z6} (h:Xi a b):WW a b:=by
 unfold Xi at h
 unfold WW Wy
 rcases h with ⟨h1,h2⟩|⟨h1,h2,_⟩
 ·rw [h1,h2];exact .inl (by decide)
 ·rw [h1];exact .inr ⟨rfl,h2⟩
theorem Q9 (h:Z6):∀(L:List Z6),(Xp h L).Perm (L++[h])
 | []=>.refl _
 | x::r=>by
  unfold Xp
  split
  ·exact (List.perm_append_comm (l₁:=[h]) (l₂:=x::r))
  ·exact (Q9 h r).cons x
theorem Z0t {h z:Z6} {L:List Z6}:z∈Xp h L↔z∈L\/z=h:=by
 rw [(Q9 h L).mem_iff];simp
theorem Z3n (h:Z6) (L:List Z6):(Xp h L).length=L.length+1:=by
 rw [(Q9 h L).length_eq];simp
theorem Z4E {h:Z6}:∀{L:List Z6},L.Pairwise WW->(∀x∈L,x.own=h.own->x.id<h.id)->(Xp h L).Pairwise WW
 | [],_,_=>by simp [Xp]
 | x::r,hp,hx=>by
  obtain ⟨h1,h2⟩:=List.pairwise_cons.1 hp
  unfold Xp
  split
  ·rename_i hc
   refine List.pairwise_cons.2 ⟨fun y hy=> ?_,hp⟩
   have kx:Wy x=1:=by unfold Wy;rw [hc.2]
   have kh:Wy h=0:=by unfold Wy;rw [hc.1]
   rcases List.mem_cons.1 hy with rfl|hy
   ·exact .inl (by omega)
   ·have:=h1 y hy
    unfold WW at*
    omega
  ·rename_i hc
   refine List.pairwise_cons.2 ⟨fun y hy=> ?_,Z4E h2 fun z hz=>hx z (by simp [hz])⟩
   rcases Z0t.1 hy with hy|rfl
   ·exact h1 y hy
   ·have:=hx x (by simp)
    unfold WW Wy
    cases hxo:x.own<;>cases hyo:y.own<;>simp_all
theorem Z3o:∀{L:List Z6},L.Pairwise WW->∀a∈L,∀b∈L,a=b\/WW a b\/WW b a
 | [],_,a,ha,_,_=>by cases ha
 | x::r,hp,a,ha,b,hb=>by
  obtain ⟨h1,h2⟩:=List.pairwise_cons.1 hp
  rcases List.mem_cons.1 ha with e1|e1<;>rcases List.mem_cons.1 hb with e2|e2
  ·exact .inl (e1.trans e2.symm)
  ·rw [e1];exact .inr (.inl (h1 b e2))
  ·rw [e2];exact .inr (.inr (h1 a e1))
  ·exact Z3o h2 a e1 b e2
theorem ZdP {L:List Z6} (h:L.Pairwise WW):Z8G ltH L:=
 h.imp fun {a b} hab=>by
  rw [Z13]
  unfold WW at hab
  omega
theorem Z5J {side:Int} (hs:side=0\/side=1):∀(L:List Z6),(ZR side 0 L).length+(ZR side 1 L).length=L.length
 | []=>rfl
 | x::r=>by
  have ih:=Z5J hs r
  unfold ZR at*
  simp only [List.filter_cons,List.length_cons]
  have:(ZS side x.own=0/\¬ZS side x.own=1)\/(¬ZS side x.own=0/\ZS side x.own=1):=by
   unfold ZS
   rcases hs with rfl|rfl<;>cases x.own<;>simp
  rcases this with ⟨h1,h2⟩|⟨h1,h2⟩
  ·rw [decide_eq_true h1,decide_eq_false h2];simp;omega
  ·rw [decide_eq_false h1,decide_eq_true h2];simp;omega
theorem Z7.Inv.len {H:List Int->List Int} {X:Z7} (h:X.Inv H):X.L.length<=16:=by
 have:=Z5J h.side X.L
 have:=h.n0
 have:=h.n1
 omega
theorem Z7.Inv.am {H:List Int->List Int} {X:Z7} (h:X.Inv H):Z11 X:=Z9P (by have:=h.len;omega) h.tb h.res h.a0 h.a1 h.und
theorem Z7.Inv.add {H:List Int->List Int} {X:Z7} (h:X.Inv H):Z6X X:=
 ⟨by have:=Y1 h.tb;omega,h.side,h.am,h.i0,h.i1⟩
theorem Z7.Inv.less {H:List Int->List Int} {X:Z7} (h:X.Inv H):X.L.Pairwise WW:=h.fol.imp fun hab=>ZdO hab
theorem YJ {H:List Int->List Int} {X:Z7} {h:Z6} (hu:Yz H X h=true):Yj h=true/\h.id<X.nx h.own/\(1<=h.stage/\h.stage<=9)/\QW H h=true:=by
 unfold Yz at hu
 simp only [Bool.and_eq_true,decide_eq_true_eq] at hu
 exact ⟨hu.1.1.1,hu.1.1.2,hu.1.2,hu.2⟩
theorem Z14 {X:Z7} {own:Bool} {id am ex:Int} {hash:List Int} (he:XA X own id am hash ex=0):Yj (Xd X own id am hash ex)=true/\id=X.nx own/\(ZR X.side (ZS X.side own) X.L).length<8/\am<=Y5 X (ZS X.side own):=by
 unfold XA at he
 split at he
 ·cases he
 ·rename_i q1
  split at he
  ·cases he
  ·rename_i q2
   split at he
   ·cases he
   ·rename_i q3
    split at he
    ·cases he
    ·rename_i q4
     exact ⟨by simpa using q1,by simpa using q2,by omega,by omega⟩
theorem Z7.Inv.sort {H:List Int->List Int} {X:Z7} (h:X.Inv H) {own:Bool} {id am ex:Int} {hash:List Int} (he:XA X own id am hash ex=0):XK (X.L++[Xd X own id am hash ex]) (Xp (Xd X own id am hash ex) X.L) (X.L.length+1):=by
 obtain ⟨_,hid,_,_⟩:=Z14 he
 have hl:(Xp (Xd X own id am hash ex) X.L).Pairwise WW:=Z4E h.less fun x hx ho=>by
  have:=(YJ (h.und x hx)).2.1
  rw [ho] at this
  show x.id<id
  rw [hid];exact this
 refine ⟨by simp,Nat.succ_pos _,by have:=h.len;omega,Q9 _ _,ZdP hl,fun a ha b hb h1 h2=> ?_⟩
 rw [Z13] at h1 h2
 rcases Z3o hl a ha b hb with e|e|e
 ·exact e
 ·exact absurd e h1
 ·exact absurd e h2
end Go.Tk
end
section
namespace Go.Tk
open IntKind (i64 u8 u32 u64 wrap)
structure LB (cs:List AV) (n:Nat) (f:Nat->List AV) (X:Z7):Prop where
 h1:cs=X.c (.nslice ⟨1,0,70,0,0⟩ 70 n n)
 h2:f=Z4 X.L
 h3:n=X.L.length
def Zjl (H:List Int->List Int) (c:Bool):Y8:=fun args h K=>match args with
 | [.ptr (some ⟨l,0,0,0,0⟩),_,_,_,_,_]=>match h.get l with
  |some (.flat [_,_,_,_,_,_,_,_,_,_,_,_,.nslice ⟨b,0,70,0,0⟩ 70 _ _])=>frA [l,b] h 20 args fun Bs a=>match Bs,a with
   | [.flat cs,.rows 70 n f],[.ptr (some ⟨0,0,0,0,0⟩),.bool own,.int .i64 id,.int .i64 am,.agg [.arr .u8 32 hash],.int .i64 ex]=>
    ∃X,LB cs n f X/\X.Inv H/\(match c with
     | true=>XA X own id am hash ex=0/\K (.ret (.int .i64 0)) ⟨h.next+1,(l,.flat ((addX X own id am hash ex).c (.nslice ⟨h.next,0,70,0,0⟩ 70 (X.L.length+1) (X.L.length+1))))::(h.next,.rows 70 (X.L.length+1) (Z4 (addX X own id am hash ex).L))::Ye (Ye h.bs l) b⟩
     | false=>XA X own id am hash ex≠0/\K (.ret (.int .i64 (XA X own id am hash ex))) ⟨h.next,(l,.flat (X.c (.nslice ⟨b,0,70,0,0⟩ 70 X.L.length X.L.length)))::(b,.rows 70 X.L.length (Z4 X.L))::Ye (Ye h.bs l) b⟩)
   | _,_=>False
  | _=>False
 | _=>False
theorem Zgg {H:List Int->List Int} (c:Bool) (args:List AV) (h:Z9) (K:KO) (hl:Zjl H c args h K):Zn PP 26 args h K:=by
 unfold Zjl at hl
 split at hl
 ·split at hl
  ·refine Spec.fsumm hl fun Bs a hlen hK0=> ?_
   split at hK0
   ·rename_i cs n f own id am hash ex
    obtain ⟨X,⟨rfl,rfl,rfl⟩,hI,hK⟩:=hK0
    cases c with
    | true=>
     obtain ⟨he,hK1⟩:=hK
     have hs:XK (X.L++[Xd X own id am hash ex]) (addX X own id am hash ex).L (X.L.length+1):=by
      have:=hI.sort he
      unfold addX
      rw [if_pos he]
      exact this
     cases own with
     | true=>exact ⟨_,_,_,_,_,.evM Z20 (Z8J X _ _ id am ex hash rfl hI.add he rfl hs),by simp,.ret _ _ rfl,.cons _ _ _ _ _ _ rfl (.flat _ _ rfl) (.cons _ _ _ _ _ _ rfl (.rows _ _ _ (fun _ _=>rfl)) .nil),hK1⟩
     | false=>exact ⟨_,_,_,_,_,.evM Z20 (Z6Z X _ _ id am ex hash rfl hI.add he rfl hs),by simp,.ret _ _ rfl,.cons _ _ _ _ _ _ rfl (.flat _ _ rfl) (.cons _ _ _ _ _ _ rfl (.rows _ _ _ (fun _ _=>rfl)) .nil),hK1⟩
    | false=>
     obtain ⟨he,hK2⟩:=hK
     cases own with
     | true=>exact ⟨_,_,_,_,_,.evM Z20 (Z8I X _ id am ex _ hash rfl hI.add rfl he),by simp,.ret _ _ rfl,.cons _ _ _ _ _ _ rfl (.flat _ _ rfl) (.cons _ _ _ _ _ _ rfl (.rows _ _ _ (fun _ _=>rfl)) .nil),hK2⟩
     | false=>exact ⟨_,_,_,_,_,.evM Z20 (Z6Y X _ id am ex _ hash rfl hI.add rfl he),by simp,.ret _ _ rfl,.cons _ _ _ _ _ _ rfl (.flat _ _ rfl) (.cons _ _ _ _ _ _ rfl (.rows _ _ _ (fun _ _=>rfl)) .nil),hK2⟩
   ·exact hK0.elim
  ·exact hl.elim
 ·exact hl.elim
end Go.Tk
end
section
namespace Go.Tk
open IntKind (i64 u8 u32 u64 wrap)
def isP (own:Bool) (id:Int) (p:Z6):Prop:=p.own=own/\p.id=id
theorem Z3p {own:Bool} {id:Int}:∀{L:List Z6},(∀j,j<L.length->¬isP own id (L.getD j Z8))->ZH own id L=L.length
 | [],_=>rfl
 | x::r,h=>by
  unfold ZH
  have h0:¬(x.own=own/\x.id=id):=h 0 (by simp)
  rw [if_neg h0,Z3p fun j hj=>by have:=h (j+1) (by simpa using hj);rwa [List.getD_cons_succ] at this]
  rfl
theorem Z3q {own:Bool} {id:Int}:∀{L:List Z6} {i:Nat},i<L.length->(∀j,j<i->¬isP own id (L.getD j Z8))->isP own id (L.getD i Z8)->ZH own id L=i
 | [],i,hi,_,_=>by simp at hi
 | x::r,0,_,_,h=>by
  unfold ZH
  exact if_pos h
 | x::r,i+1,hi,hn,h=>by
  unfold ZH
  have h0:¬(x.own=own/\x.id=id):=hn 0 (Nat.succ_pos _)
  rw [if_neg h0,Z3q (i:=i) (by simpa using hi) (fun j hj=>by have:=hn (j+1) (by omega);rwa [List.getD_cons_succ] at this) (by rwa [List.getD_cons_succ] at h)]
def fiV (own:Bool) (id:Int) (L:List Z6):Int:=if ZH own id L<L.length then (ZH own id L:Int) else -1
theorem ZkP (p:Z6) (own:Bool) (id:Int) (b:Bool) (hb:b=decide (p.own=own/\p.id=id)):
  evF G0 20 185 [.agg p.c,.pview [.bool own] 0,.pview [.int .i64 id] 0] ⟨0,[]⟩ (Y4 (fun v=>v=.bool b)):=by
 refine @Eq.mpr _ (Z0 (p.own==own) (AV.bool (p.id==id)=AV.bool b) (AV.bool false=AV.bool b)) (by kernel_rfl) ?_
 subst hb
 simp only [WD]
 congr 1
 by_cases h1:p.own=own<;>by_cases h2:p.id=id<;>simp [h1,h2]
def ZkQ:ZK:=fun args h K=>ZP none h true 20 args fun a=>match a with
 | [.agg [.bool ow,.int .i64 i,.int .i64 am,.arr .u8 32 ha,.int .i64 ex,.int .i64 st,.int .i64 en,.arr .u8 32 se],.pview [.bool own] 0,.pview [.int .i64 id] 0]=>K (.bool (decide (ow=own/\i=id)))
 | _=>False
theorem Zgh (args:List AV) (h:Z9) (K:AV->Prop) (hl:ZkQ args h K):Zn PP 185 args h fun o h'=>∃v,o=.ret v/\h'=h/\K v:=by
 refine ZA.psumm (d:=20) (Zs _ _ _ _ _ hl fun a ha=> ?_)
 split at ha
 ·rename_i ow i am ha' ex st en se own id
  exact ⟨_,ZA.evV Zu (ZkP ⟨ow,i,am,ha',ex,st,en,se⟩ own id _ rfl),fun _=>rfl,ha⟩
 ·exact ha.elim
noncomputable def Zjm:Zh:=G0.withP 185 ZkQ
theorem Zgi:Zjm.Ok:=Zh.withP_ok Zu Zgh
def fdC (own:Bool) (id:Int):AV:=.func (.func 185) [] [.pview [.bool own] 0,.pview [.int .i64 id] 0]
def fiS (L:List Z6) (own:Bool) (id:Int) (n i:Nat):St:=⟨19,[(8,.int .i64 i),(7,.int .i64 n),(1,fdC own id),(0,.vrows 70 n (Z4 L) n)],⟨0,[]⟩,[]⟩
def fiE:St:=⟨19,[],⟨0,[]⟩,[]⟩
def fiR (i:Nat):St:=⟨19,[(4,.int .i64 i)],⟨0,[]⟩,[]⟩
theorem ZmP (L:List Z6) (own:Bool) (id:Int) (n i:Nat) (Z1 Z2 Z3:Prop) (hn:n<1000) (hL:L.length=n) (hi:i<=n) (h1:i<n->¬isP own id (L.getD i Z8)->Z1) (h2:i=n->Z2) (h3:i<n->isP own id (L.getD i Z8)->Z3):
  ZB Zjm 20 155 0 0 (fiS L own id n i) (rdM 0 0 9 (fiS L own id n (i+1)) fiE (fiR i) (fiR i) Z1 Z2 Z3 False):=by
 refine @Eq.mpr _ (let q1:=List.getD L (Int.toNat (↑i:Int)) Z8;let q2:=[AV.bool own];let q3:=[AV.int i64 id];let q4:=decide (n=n);
 Z0 (decide ((↑i:Int)<(↑n:Int))) (Z0 (decide (0<=(↑i:Int)/\(↑i:Int)<(↑n:Int))) (Z0 (decide (q1.own=own/\q1.id=id)) (Z0 (decide ((↑i:Int)=(↑i:Int))) Z3 False) (Z0 (decide (wrap i64 ((↑i:Int)+1)=(↑(i+1):Int))) (Z0 (decide ((↑n:Int)=(↑n:Int))) (q2=q2/\q3=q3/\Z0 q4 (Z4 L=Z4 L/\Z0 q4 Z1 False) False) False) False)) False) Z2) (by kernel_rfl) ?_
 conv=>zeta
 try simp only [Zi]
 try simp only [Zj]
 try simp only [Zf]
 try simp only [Zk]
 try simp only [Zl]
 try simp only [Zg]
 try simp only [Int.toNat_natCast,Nat.zero_add,true_and,and_true,Nat.le_refl]
 refine ⟨fun hc=> ?_,fun hc=>h2 (by omega)⟩
 have hlt:i<n:=by omega
 have hwr:i64.wrap ((i:Int)+1)=((i+1:Nat):Int):=by rw [w64 (by omega)];omega
 refine ⟨by omega,fun hm=>h3 hlt hm,fun hm=> ?_⟩
 have:=h1 hlt hm
 repeat' apply And.intro
 all_goals first|omega|exact hwr|exact this|rfl
noncomputable def ZhU (L:List Z6) (own:Bool) (id:Int) (n:Nat):Zh:=Zjm.withL 155 0 (goM 0 (fiS L own id n 0) (n<1000/\L.length=n) (Yu 0 n 9 (fun i=>¬isP own id (L.getD i Z8)/\i<n) (fun i=>i=n) (fun i=>i<n/\isP own id (L.getD i Z8)) (fun _=>False) (fun _=>fiE) (fun i=>fiR i) (fun i=>fiR i)))
theorem ZdQ (L:List Z6) (own:Bool) (id:Int) (n:Nat):(ZhU L own id n).Ok:=
 Zh.withGoM (N:=20) (S:=fun i=>fiS L own id n i) Zgi (by kernel_rfl) fun hC=>⟨rfl,fun i hi _=>ZmP L own id n i _ _ _ hC.1 hC.2 hi (fun h h'=>⟨⟨h',h⟩,h⟩) (fun h=>h) (fun h h'=>⟨h,h'⟩)⟩
theorem ZmQ (L:List Z6) (own:Bool) (id:Int) (n:Nat) (r:Int) (hL:L.length=n) (hn:n<1000) (hr:r=fiV own id L):
  evF (ZhU L own id n) 20 155 [.vrows 70 n (Z4 L) n,fdC own id] ⟨0,[]⟩ (Y4 (fun v=>v=.int .i64 r)):=by
 refine @Eq.mpr _ (let q1:=[AV.bool own];let q2:=[AV.int i64 id];let q3:=decide (n=n);
 Z0 (decide ((↑n:Int)=(↑n:Int))) (q1=q1/\q2=q2/\Z0 q3 (Z4 L=Z4 L/\Z0 q3 ((n<1000/\List.length L=n)/\∀(i:Nat),i<=n->(∀(j:Nat),j<i->(fun (i:Nat)=>¬isP own id (List.getD L i Z8)/\i<n) j)->(i=n->AV.int i64 (-1)=AV.int i64 r)/\(i<n/\isP own id (List.getD L i Z8)->AV.int i64 (↑i:Int)=AV.int i64 r)/\(False->False)) False) False) False) (by kernel_rfl) ?_
 conv=>zeta
 try simp only [Zi]
 try simp only [Zj]
 try simp only [Zf]
 try simp only [Zk]
 try simp only [Zl]
 try simp only [Zg]
 try simp only [Int.toNat_natCast,Nat.zero_add,true_and,and_true,Nat.le_refl]
 subst hL
 repeat' apply And.intro
 all_goals first|rfl|exact hn|skip
 intro i hi hg
 refine ⟨fun he=> ?_,fun he=> ?_,fun h=>h.elim⟩
 ·rw [hr]
  unfold fiV
  rw [Z3p fun j hj=>(hg j (by omega)).1,if_neg (by omega)]
 ·rw [hr]
  unfold fiV
  rw [Z3q he.1 (fun j hj=>(hg j hj).1) he.2,if_pos he.1]
def ZkR:ZK:=fun args h K=>ZP none h true 20 args fun a=>match a with
 | [.vrows 70 n f n',.func (.func 185) [] [.pview [.bool own] 0,.pview [.int .i64 id] 0]]=>∃L,n'=n/\f=Z4 L/\L.length=n/\n<1000/\K (.int .i64 (fiV own id L))
 | _=>False
theorem Zgj (args:List AV) (h:Z9) (K:AV->Prop) (hl:ZkR args h K):Zn PP 155 args h fun o h'=>∃v,o=.ret v/\h'=h/\K v:=by
 refine ZA.psumm (d:=20) (Zs _ _ _ _ _ hl fun a ha=> ?_)
 split at ha
 ·obtain ⟨L,rfl,rfl,h1,h2,hK⟩:=ha
  exact ⟨_,ZA.evV (ZdQ L _ _ _) (ZmQ L _ _ _ _ h1 h2 rfl),fun _=>rfl,hK⟩
 ·exact ha.elim
noncomputable def ZhV:Zh:=G0.withP 155 ZkR
theorem ZdR:ZhV.Ok:=Zh.withP_ok Zu Zgj
theorem ZmR (X:Z7) (own:Bool) (id r:Int) (hn:X.L.length<1000) (hr:r=fiV own id X.L):
  evF ZhV 20 146 [Wp X,.bool own,.int .i64 id] ⟨0,[]⟩ (Y4 (fun v=>v=.int .i64 r)):=by
 refine @Eq.mpr _ (let q1:=List.length X.L;
 ∃(L:List Z6),q1=q1/\Z4 X.L=Z4 L/\List.length L=q1/\q1<1000/\AV.int i64 (fiV own id L)=AV.int i64 r) (by kernel_rfl) ?_
 conv=>zeta
 subst hr
 exact ⟨X.L,rfl,rfl,rfl,hn,rfl⟩
def ZhW:ZK:=fun args h K=>ZP none h true 20 args fun a=>match a with
 | [.pview cs 0,.bool own,.int .i64 id]=>∃X,LV cs X/\X.L.length<1000/\K (.int .i64 (fiV own id X.L))
 | _=>False
theorem ZdS (args:List AV) (h:Z9) (K:AV->Prop) (hl:ZhW args h K):Zn PP 146 args h fun o h'=>∃v,o=.ret v/\h'=h/\K v:=by
 refine ZA.psumm (d:=20) (Zs _ _ _ _ _ hl fun a ha=> ?_)
 split at ha
 ·obtain ⟨X,hX,h1,hK⟩:=ha
  exact ⟨_,(ZA.evV ZdR (ZmR X _ _ _ h1 rfl)).conv fun E r hr=>hr.head (fun _ hc=>W0 hX hc) fun _ hc=>hc,fun _=>rfl,hK⟩
 ·exact ha.elim
end Go.Tk
end
section
namespace Go.Tk
open IntKind (i64 u8 u32 u64 wrap)
theorem Z8K {s:Int} (h:1<=s/\s<=9):s=1\/s=2\/s=3\/s=4\/s=5\/s=6\/s=7\/s=8\/s=9:=by omega
theorem ZhX {s:Int} (h:1<=s/\s<=4):s=1\/s=2\/s=3\/s=4:=by omega
theorem ZmS (o:Bool) (s r:Int) (hs:1<=s/\s<=9) (hr:r=Xy o s):
  evF G0 20 111 [.bool o,.int .i64 s] ⟨0,[]⟩ (Y4 (fun v=>v=.int .i64 r)):=by
 refine @Eq.mpr _ (let q1:=AV.int i64 r;let q2:=AV.int i64 0=q1;let q3:=decide (s=s);let q4:=decide (0<=s/\s<10);
 Z0 (decide (1<=s)) (Z0 (!decide (s<=10)) q2 (Z0 (s==10) q2 (Z0 (o==true) (Z0 q3 (Z0 q4 (AV.int i64 (List.getD [(0:Int),1,2,3,4,0,3,4,1,2] (Int.toNat s) 0)=q1) False) False) (Z0 q3 (Z0 q4 (AV.int i64 (List.getD [(0:Int),3,4,1,2,0,1,2,3,4] (Int.toNat s) 0)=q1) False) False)))) q2) (by kernel_rfl) ?_
 conv=>zeta
 subst hr
 cases o<;>rcases Z8K hs with h|h|h|h|h|h|h|h|h<;>subst h<;>exact rfl
theorem ZkS (o:Bool) (s r:Int) (hs:1<=s/\s<=9) (hr:r=Xy o s):
  evF G0 20 112 [.bool o,.int .i64 s] ⟨0,[]⟩ (Y4 (fun v=>v=.int .i64 r)):=by
 refine @Eq.mpr _ (let q1:=AV.int i64 r;let q2:=AV.int i64 0=q1;let q3:=decide (0<=s/\s<10);let q4:=0+Int.toNat s;
 Z0 (decide (s<1)) q2 (Z0 (decide (s>10)) q2 (Z0 (s==5) q2 (Z0 (s==10) q2 (Z0 o (Z0 q3 (Z0 (decide (q4<10)) (AV.int i64 (List.getD [(0:Int),1,2,3,4,0,3,4,1,2] q4 0)=q1) False) False) (Z0 q3 (Z0 (decide (q4<10)) (AV.int i64 (List.getD [(0:Int),3,4,1,2,0,1,2,3,4] q4 0)=q1) False) False)))))) (by kernel_rfl) ?_
 conv=>zeta
 subst hr
 cases o<;>rcases Z8K hs with h|h|h|h|h|h|h|h|h<;>subst h<;>exact rfl
theorem ZmT (o:Bool) (s m r:Int) (on:Bool) (hs:1<=s/\s<=9) (hm:1<=m/\m<=4) (hr:r=ZY o s m) (hon:on=decide (Xy o s=m)):
  evF G0 20 87 [.bool o,.int .i64 s,.int .i64 m] ⟨0,[]⟩ (Y4 (fun v=>v=.tuple [.int .i64 r,.bool on,.int .i64 0])):=by
 refine @Eq.mpr _ (let q1:=decide (1<=s);let q2:=decide (1<=m);let q3:=decide (s<=10);let q4:=false==q3;let q5:=[AV.int i64 0];let q6:=AV.tuple (AV.int i64 r::AV.bool on::q5);let q7:=AV.tuple [AV.int i64 0,AV.bool false,AV.int i64 2]=q6;let q8:=AV.tuple (AV.int i64 s::AV.bool false::q5)=q6;let q9:=AV.tuple (AV.int i64 (wrap i64 (s+1))::AV.bool true::q5)=q6;let q10:=Z0 (0 !=m) q8 q9;let q11:=decide (s=s);let q12:=decide (0<=s/\s<10);
 Z0 q1 (Z0 q2 (Z0 q4 q7 (Z0 (false==decide (m<=4)) q7 (Z0 q1 (Z0 (!q3) q10 (Z0 (s==10) q10 (Z0 (o==true) (Z0 q11 (Z0 q12 (Z0 (List.getD [(0:Int),1,2,3,4,0,3,4,1,2] (Int.toNat s) 0 !=m) q8 q9) False) False) (Z0 q11 (Z0 q12 (Z0 (List.getD [(0:Int),3,4,1,2,0,1,2,3,4] (Int.toNat s) 0 !=m) q8 q9) False) False)))) q10))) (Z0 q4 q7 q7)) (Z0 q2 q7 q7)) (by kernel_rfl) ?_
 conv=>zeta
 subst hr hon
 cases o<;>rcases Z8K hs with h|h|h|h|h|h|h|h|h<;>subst h<;>rcases ZhX hm with h|h|h|h<;>subst h<;>exact rfl
theorem ZkT (o:Bool) (s m r:Int) (on:Bool) (hs:1<=s/\s<=9) (hm:1<=m/\m<=4) (hr:r=ZY o s m) (hon:on=decide (Xy o s=m)):
  evF G0 20 104 [.bool o,.int .i64 s,.int .i64 m] ⟨0,[]⟩ (Y4 (fun v=>v=.tuple [.int .i64 r,.bool on,.int .i64 0])):=by
 refine @Eq.mpr _ (let q1:=decide (s<1);let q2:=[AV.int i64 0];let q3:=AV.tuple (AV.int i64 r::AV.bool on::q2);let q4:=AV.tuple [AV.int i64 0,AV.bool false,AV.int i64 2]=q3;let q5:=decide (s>10);let q6:=AV.tuple (AV.int i64 (wrap i64 (s+1))::AV.bool true::q2)=q3;let q7:=AV.tuple (AV.int i64 s::AV.bool false::q2)=q3;let q8:=Z0 (0==m) q6 q7;let q9:=decide (0<=s/\s<10);let q10:=0+Int.toNat s;
 Z0 q1 q4 (Z0 q5 q4 (Z0 (decide (m<1)) q4 (Z0 (decide (m>4)) q4 (Z0 q1 q8 (Z0 q5 q8 (Z0 (s==5) q8 (Z0 (s==10) q8 (Z0 o (Z0 q9 (Z0 (decide (q10<10)) (Z0 (List.getD [(0:Int),1,2,3,4,0,3,4,1,2] q10 0==m) q6 q7) False) False) (Z0 q9 (Z0 (decide (q10<10)) (Z0 (List.getD [(0:Int),3,4,1,2,0,1,2,3,4] q10 0==m) q6 q7) False) False)))))))))) (by kernel_rfl) ?_
 conv=>zeta
 subst hr hon
 cases o<;>rcases Z8K hs with h|h|h|h|h|h|h|h|h<;>subst h<;>rcases ZhX hm with h|h|h|h<;>subst h<;>exact rfl
theorem ZmU (o u:Bool) (s:Int) (b:Bool) (hb:b=Xj o s u):
  evF G0 20 71 [.bool o,.int .i64 s,.bool u] ⟨0,[]⟩ (Y4 (fun v=>v=.bool b)):=by
 refine @Eq.mpr _ (let q1:=AV.bool b;let q2:=AV.bool false=q1;
 Z0 (o==u) (Z0 (decide (4<=s)) (AV.bool (decide (s<=6))=q1) q2) (Z0 (decide (2<=s)) (AV.bool (decide (s<=8))=q1) q2)) (by kernel_rfl) ?_
 conv=>zeta
 subst hb
 unfold Xj
 rw [Bool.decide_and,Bool.decide_and]
 cases o<;>cases u<;>simp [Z0]<;>(split<;>simp_all)<;>(try omega)
theorem ZkU (o u:Bool) (s:Int) (b:Bool) (hb:b=Xj o s u):
  evF G0 20 106 [.bool o,.int .i64 s,.bool u] ⟨0,[]⟩ (Y4 (fun v=>v=.bool b)):=by
 refine @Eq.mpr _ (let q1:=AV.bool b;let q2:=AV.bool false=q1;
 Z0 (o==u) (Z0 (decide (s>=4)) (AV.bool (decide (s<=6))=q1) q2) (Z0 (decide (s>=2)) (AV.bool (decide (s<=8))=q1) q2)) (by kernel_rfl) ?_
 conv=>zeta
 subst hb
 unfold Xj
 rw [Bool.decide_and,Bool.decide_and]
 cases o<;>cases u<;>simp [Z0]<;>(split<;>simp_all)<;>(try omega)
theorem ZmV (o:Bool) (s r:Int) (hs:1<=s/\s<=9) (hr:r=YE o s):
  evF G0 20 89 [.bool o,.int .i64 s] ⟨0,[]⟩ (Y4 (fun v=>v=.int .i64 r)):=by
 refine @Eq.mpr _ (let q1:=AV.int i64 r;let q2:=AV.int i64 0=q1;let q3:=AV.int i64 s=q1;let q4:=Z0 (false==o) q3 (Z0 (false==(s==6)) q3 (AV.int i64 5=q1));
 Z0 (decide (1<=s)) (Z0 (!decide (s<=10)) q2 (Z0 (false== !o) q4 (Z0 (false==(s==1)) q4 q2))) q2) (by kernel_rfl) ?_
 conv=>zeta
 subst hr
 cases o<;>rcases Z8K hs with h|h|h|h|h|h|h|h|h<;>subst h<;>exact rfl
theorem ZkV (o:Bool) (s r:Int) (hs:1<=s/\s<=9) (hr:r=YE o s):
  evF G0 20 105 [.bool o,.int .i64 s] ⟨0,[]⟩ (Y4 (fun v=>v=.int .i64 r)):=by
 refine @Eq.mpr _ (let q1:=AV.int i64 r;let q2:=AV.int i64 0=q1;let q3:=AV.int i64 s=q1;let q4:=Z0 o (Z0 (s==6) (AV.int i64 5=q1) q3) q3;
 Z0 (decide (s<1)) q2 (Z0 (decide (s>10)) q2 (Z0 (!o) (Z0 (s==1) q2 q4) q4))) (by kernel_rfl) ?_
 conv=>zeta
 subst hr
 cases o<;>rcases Z8K hs with h|h|h|h|h|h|h|h|h<;>subst h<;>exact rfl
theorem ZmW (s r e:Int) (hs:1<=s/\s<=9) (hr:r=if s=5 then 6 else 0) (he:e=if s=5 then 0 else 190):
  evF G0 20 147 [.int .i64 s] ⟨0,[]⟩ (Y4 (fun v=>v=.tuple [.int .i64 r,.int .i64 e])):=by
 refine @Eq.mpr _ (let q1:=AV.int i64 0;let q2:=AV.tuple [AV.int i64 r,AV.int i64 e];let q3:=AV.tuple [q1,AV.int i64 2]=q2;
 Z0 (decide (1<=s)) (Z0 (!decide (s<=10)) q3 (Z0 (s !=5) (AV.tuple [q1,AV.int i64 190]=q2) (AV.tuple [AV.int i64 6,q1]=q2))) q3) (by kernel_rfl) ?_
 conv=>zeta
 subst hr he
 rcases Z8K hs with h|h|h|h|h|h|h|h|h<;>subst h<;>exact rfl
def waS:ZK:=fun args _ K=>match args with
 | [.bool o,.int .i64 s]=>Zx (1<=s/\s<=9) (K (.int .i64 (Xy o s)))
 | _=>False
theorem Zjn (args:List AV) (h:Z9) (K:AV->Prop) (hl:waS args h K):Zn PP 111 args h fun o h'=>∃v,o=.ret v/\h'=h/\K v:=by
 unfold waS at hl
 split at hl
 ·obtain ⟨h1,hK⟩:=Ze hl
  exact ZU Zu rfl (ZmS _ _ _ h1 rfl) (fun u hu=>hu▸hK)
 ·exact hl.elim
theorem Zgk (args:List AV) (h:Z9) (K:AV->Prop) (hl:waS args h K):Zn PP 112 args h fun o h'=>∃v,o=.ret v/\h'=h/\K v:=by
 unfold waS at hl
 split at hl
 ·obtain ⟨h1,hK⟩:=Ze hl
  exact ZU Zu rfl (ZkS _ _ _ h1 rfl) (fun u hu=>hu▸hK)
 ·exact hl.elim
def neS:ZK:=fun args _ K=>match args with
 | [.bool o,.int .i64 s,.int .i64 m]=>Zx ((1<=s/\s<=9)/\1<=m/\m<=4) (K (.tuple [.int .i64 (ZY o s m),.bool (decide (Xy o s=m)),.int .i64 0]))
 | _=>False
theorem Zjo (args:List AV) (h:Z9) (K:AV->Prop) (hl:neS args h K):Zn PP 87 args h fun o h'=>∃v,o=.ret v/\h'=h/\K v:=by
 unfold neS at hl
 split at hl
 ·obtain ⟨⟨h1,h2⟩,hK⟩:=Ze hl
  exact ZU Zu rfl (ZmT _ _ _ _ _ h1 h2 rfl rfl) (fun u hu=>hu▸hK)
 ·exact hl.elim
theorem Zgl (args:List AV) (h:Z9) (K:AV->Prop) (hl:neS args h K):Zn PP 104 args h fun o h'=>∃v,o=.ret v/\h'=h/\K v:=by
 unfold neS at hl
 split at hl
 ·obtain ⟨⟨h1,h2⟩,hK⟩:=Ze hl
  exact ZU Zu rfl (ZkT _ _ _ _ _ h1 h2 rfl rfl) (fun u hu=>hu▸hK)
 ·exact hl.elim
def Zbl:ZK:=fun args _ K=>match args with
 | [.bool o,.int .i64 s,.bool u]=>K (.bool (Xj o s u))
 | _=>False
theorem Zgm (args:List AV) (h:Z9) (K:AV->Prop) (hl:Zbl args h K):Zn PP 71 args h fun o h'=>∃v,o=.ret v/\h'=h/\K v:=by
 unfold Zbl at hl
 split at hl
 ·exact ZU Zu rfl (ZmU _ _ _ _ rfl) (fun u hu=>hu▸hl)
 ·exact hl.elim
theorem ZdT (args:List AV) (h:Z9) (K:AV->Prop) (hl:Zbl args h K):Zn PP 106 args h fun o h'=>∃v,o=.ret v/\h'=h/\K v:=by
 unfold Zbl at hl
 split at hl
 ·exact ZU Zu rfl (ZkU _ _ _ _ rfl) (fun u hu=>hu▸hl)
 ·exact hl.elim
def bkS:ZK:=fun args _ K=>match args with
 | [.bool o,.int .i64 s]=>Zx (1<=s/\s<=9) (K (.int .i64 (YE o s)))
 | _=>False
theorem Zjp (args:List AV) (h:Z9) (K:AV->Prop) (hl:bkS args h K):Zn PP 89 args h fun o h'=>∃v,o=.ret v/\h'=h/\K v:=by
 unfold bkS at hl
 split at hl
 ·obtain ⟨h1,hK⟩:=Ze hl
  exact ZU Zu rfl (ZmV _ _ _ h1 rfl) (fun u hu=>hu▸hK)
 ·exact hl.elim
theorem Zgn (args:List AV) (h:Z9) (K:AV->Prop) (hl:bkS args h K):Zn PP 105 args h fun o h'=>∃v,o=.ret v/\h'=h/\K v:=by
 unfold bkS at hl
 split at hl
 ·obtain ⟨h1,hK⟩:=Ze hl
  exact ZU Zu rfl (ZkV _ _ _ h1 rfl) (fun u hu=>hu▸hK)
 ·exact hl.elim
def seS:ZK:=fun args _ K=>match args with
 | [.int .i64 s]=>Zx (1<=s/\s<=9) (K (.tuple [.int .i64 (if s=5 then 6 else 0),.int .i64 (if s=5 then 0 else 190)]))
 | _=>False
theorem Zjq (args:List AV) (h:Z9) (K:AV->Prop) (hl:seS args h K):Zn PP 147 args h fun o h'=>∃v,o=.ret v/\h'=h/\K v:=by
 unfold seS at hl
 split at hl
 ·obtain ⟨h1,hK⟩:=Ze hl
  exact ZU Zu rfl (ZmW _ _ _ h1 rfl rfl) (fun u hu=>hu▸hK)
 ·exact hl.elim
end Go.Tk
end
section
namespace Go.Tk
open IntKind (i64 u8 u32 u64 wrap)
noncomputable def Zjr (H1:List Int->List Int) (H2:List Int->List Int->List Int) (B:Nat):Zh:=(((G8 H1 H2 B).withP 146 ZhW).withP 147 seS).withF 45 ZdM
theorem Z9R:(Zjr Zr Z3W 1000).Ok:=Zh.withF_ok (Zh.withP_ok (Zh.withP_ok (ZhH 1000 (by decide)) ZdS) Zjq) Z1Z
theorem ZhY {L:List Z6} {I:Nat} {q:Z6} (hI:I<L.length) (i:Nat):(L.set I q).getD i Z8=if i=I then q else L.getD i Z8:=by
 rw [List.getD_eq_getElem?_getD,List.getElem?_set]
 by_cases h:i=I
 ·subst h;rw [if_pos rfl,if_pos hI,if_pos rfl];rfl
 ·rw [if_neg (fun q=>h q.symm),if_neg h,List.getD_eq_getElem?_getD]
theorem ZkW (X:Z7) (n:Nat) (own:Bool) (id k e:Int) (sec:List Int) (H1:List Int->List Int) (H2:List Int->List Int->List Int) (B:Nat) (hn:X.L.length=n) (hlen:X.L.length<1000) (hcap:X.t.cap≠0) (hst:∀h∈X.L,1<=h.stage/\h.stage<=9) (hOk:∀h∈X.L,h.Ok) (hsec:sec.length=32) (hl:(H1 sec).length=32) (hB:32<=B) (he:e=Xb H1 X own id k sec) (hne:e≠0):
  evF (Zjr H1 H2 B) 20 88 [.ptr (some ⟨0,0,0,0,0⟩),.bool own,.int .i64 id,.int .i64 k,.agg [.arr .u8 32 sec]] (Z5I X n) (ZX 2 (.ret (.int .i64 e)) 2 [(0,.flat (X.c (.nslice ⟨1,0,70,0,0⟩ 70 n n))),(1,.rows 70 n (Z4 X.L))]):=by
 refine @Eq.mpr _ (let q1:=X.t;let q2:=q1.cap;let q3:=q1.fund;let q4:=q3=q3;let q5:=q1.index;let q6:=decide (q5=q5);let q7:=decide (q2=q2);let q8:=q1.dust;let q9:=decide (q8=q8);let q10:=q1.fee;let q11:=decide (q10=q10);let q12:=q1.delay;let q13:=decide (q12=q12);let q14:=q1.k0;let q15:=q14=q14;let q16:=q1.k1;let q17:=q16=q16;let q18:=X.side;let q19:=decide (q18=q18);let q20:=X.res;let q21:=decide (q20=q20);let q22:=[X.a0,X.a1];let q23:=q22=q22;let q24:=[X.i0,X.i1];let q25:=q24=q24;let q26:=decide (n=n);let q27:=Z4 X.L;let q28:=q4/\Z0 q6 (Z0 q7 (Z0 q9 (Z0 q11 (Z0 q13 (q15/\q17/\Z0 q19 (Z0 q21 (q23/\q25/\Z0 q26 (Z0 (decide (n<=n)) (Z0 q26 (Zc 2 [] n q27 q27/\True) False) False) False) False) False) False) False) False) False) False;let q29:=decide (0+n<=n);let q30:=ZT 0 q27;let q31:=List.length sec;let q32:=Z0 (decide (0=e)) (q4/\Z0 q6 (Z0 q7 (Z0 q9 (Z0 q11 (Z0 q13 (q15/\q17/\Z0 q19 (Z0 q21 (q23/\q25/\False) False) False) False) False) False) False) False) False;
 Z0 (q2==0) (Z0 (decide (1=e)) q28 False)
 (Z0 q29
 ((∀(i:Nat),i<n->true=true)/\
 ∃(X_1:Z7),
 let q65:=fiV own id X_1.L;let q66:=decide (0<=q65/\q65< ↑n);let q67:=0+Int.toNat q65;let q68:=List.getD X.L q67 Z8;let q69:=q68.stage;let q70:=if q69=5 then 0 else 190;let q71:=q68.hash;let q72:=q70 !=0;let q73:=Z0 (decide (q70=e)) q28 False;
 LV [AV.arr u8 32 q3,AV.int i64 q5,AV.int i64 q2,AV.int i64 q8,AV.int i64 q10,AV.int i64 q12,AV.arr u8 32 q14,AV.arr u8 32 q16,AV.int i64 q18,AV.int i64 q20,AV.arr i64 2 q22,AV.arr i64 2 q24,AV.vrows 70 n q30 n] X_1/\
 List.length X_1.L<1000/\
 Z0 (decide (q65<0)) (Z0 (decide (5=e)) q28 False)
 (Z0 q66 (Z0 (decide (q67<n)) (Z0 (decide (1<=q69/\q69<=9)) (Z0 (q70==0) (Z0 (k==1) (q71=q71/\Z0 (decide (q31=32)) (Z0 (decide (32=q31)) (Z0 (decide (q31<=B)) (Z0 (decide (List.length (H1 sec)=32/\List.length q71=32)) (Z0 (!H1 sec==q71) (Z0 (decide (203=e)) q28 False) (Z0 q72 q73 (sec=sec/\sec=sec/\Z0 q29 ((∀(i:Nat),i<n->true=true)/\∃(L:List Z6),n=n/\q30=Z4 L/\n<1000000/\Z0 q66 (Z0 (decide (q67<n)) q32 False) False) False))) False) False) False) False) (Z0 q72 q73 (sec=sec/\sec=sec/\Z0 q29 ((∀(i:Nat),i<n->true=true)/\∃(L:List Z6),n=n/\q30=Z4 L/\n<1000000/\Z0 q66 (Z0 (decide (q67<n)) q32 False) False) False))) (Z0 q72 q73 (sec=sec/\sec=sec/\Z0 q29 ((∀(i:Nat),i<n->true=true)/\∃(L:List Z6),n=n/\q30=Z4 L/\n<1000000/\Z0 q66 (Z0 (decide (q67<n)) q32 False) False) False))) False) False) False))
 False)) (by kernel_rfl) ?_
 conv=>zeta
 subst hn
 have hR:Zc 2 [] X.L.length (Z4 X.L) (Z4 X.L):=Zp fun _ _=>rfl
 try simp only [Zi]
 try simp only [Zj]
 try simp only [Zf]
 try simp only [Zk]
 try simp only [Zl]
 try simp only [Zg]
 try simp only [Int.toNat_natCast,Nat.zero_add,true_and,and_true,Nat.le_refl]
 unfold Xb at he
 refine ⟨fun hc=>absurd hc (by simp [hcap]),fun _=>⟨fun _ _=>trivial,X,.a rfl,hlen, ?_⟩⟩
 by_cases hI:ZH own id X.L<X.L.length
 ·have hv:fiV own id X.L=((ZH own id X.L:Nat):Int):=by unfold fiV;rw [if_pos hI]
  rw [hv]
  simp only [Int.toNat_natCast]
  rw [if_neg (by omega)] at he
  have hx:=ZD hI
  have h1:=hst _ hx
  have h2:=(hOk _ hx).hash
  refine ⟨fun h=>by omega,fun _=>⟨by omega,hI,h1, ?_⟩⟩
  by_cases h5:(X.L.getD (ZH own id X.L) Z8).stage=5
  ·rw [if_neg (fun hq=>hq h5)] at he
   simp only [if_pos h5]
   have hz:(fun (_:Unit)=>(k=1/\H1 sec≠(X.L.getD (ZH own id X.L) Z8).hash)) ()->e=203:=fun h=>by rw [he,if_pos h]
   have hno:¬(k=1/\H1 sec≠(X.L.getD (ZH own id X.L) Z8).hash)->False:=fun h=>hne (by rw [he,if_neg h])
   refine ⟨fun _=>⟨fun hk=>⟨hsec,hsec.symm,by omega,⟨hl,h2⟩,fun hh=>⟨?_,hR⟩,fun hh=>(hno fun hq=>hq.2 (by simpa using hh)).elim⟩,fun hk=>(hno fun hq=>by simp [hq.1] at hk).elim⟩,fun h=>by simp at h⟩
   exact (hz ⟨by simpa using hk,by simpa using hh⟩).symm
  ·rw [if_pos h5] at he
   simp only [if_neg h5]
   exact ⟨fun h=>by simp at h,fun _=>⟨fun _=>⟨he.symm,hR⟩,fun h=>by simp at h⟩⟩
 ·have hv:fiV own id X.L= -1:=by unfold fiV;rw [if_neg hI]
  rw [hv]
  rw [if_pos (by omega)] at he
  exact ⟨fun _=>⟨he.symm,hR⟩,fun h=>by omega⟩
theorem ZkX (X X':Z7) (n:Nat) (own:Bool) (id k:Int) (sec:List Int) (H1:List Int->List Int) (H2:List Int->List Int->List Int) (B:Nat) (hn:X.L.length=n) (hlen:X.L.length<1000) (hcap:X.t.cap≠0) (hst:∀h∈X.L,1<=h.stage/\h.stage<=9) (hOk:∀h∈X.L,h.Ok) (hsec:sec.length=32) (hl:(H1 sec).length=32) (hB:32<=B) (he:Xb H1 X own id k sec=0) (hX':X'=endX H1 X own id k sec):
  evF (Zjr H1 H2 B) 20 88 [.ptr (some ⟨0,0,0,0,0⟩),.bool own,.int .i64 id,.int .i64 k,.agg [.arr .u8 32 sec]] (Z5I X n) (ZX 2 (.ret (.int .i64 0)) 3 [(0,.flat (X'.c (.nslice ⟨2,0,70,0,0⟩ 70 n n))),(2,.rows 70 n (Z4 X'.L))]):=by
 refine @Eq.mpr _ (let q1:=X.t;let q2:=q1.cap;let q3:=decide ((0:Nat)+n<=n);let q4:=q1.fund;let q5:=q1.index;let q6:=q1.dust;let q7:=q1.fee;let q8:=q1.delay;let q9:=q1.k0;let q10:=q1.k1;let q11:=[X.a0,X.a1];let q12:=[X.i0,X.i1];let q13:=X.L;let q14:=Z4 q13;let q15:=ZT (0:Nat) q14;let q16:=List.length sec;let q17:=X'.t;let q18:=q4=q17.fund;let q19:=decide (q5=q17.index);let q20:=decide (q2=q17.cap);let q21:=decide (q6=q17.dust);let q22:=decide (q7=q17.fee);let q23:=decide (q8=q17.delay);let q24:=q9=q17.k0;let q25:=q10=q17.k1;let q26:=decide (X.side=X'.side);let q27:=decide (X.res=X'.res);let q28:=q11=[X'.a0,X'.a1];let q29:=q12=[X'.i0,X'.i1];let q30:=decide (n=n);let q31:=decide (n<=n);let q32:=Z4 X'.L;
 Z0 (q2==(0:Int)) False
 (Z0 q3
 ((∀(i:Nat),i<n->true=true)/\
 ∃(X_1:Z7),
 let q65:=fiV own id X_1.L;let q66:=decide ((0:Int)<=q65/\q65<(↑n:Int));let q67:=(0:Nat)+Int.toNat q65;let q68:=List.getD q13 q67 Z8;let q69:=q68.stage;let q70:=q69=(5:Int);let q71:=if q70 then (0:Int) else (190:Int);let q72:=q68.hash;let q73:=q71 !=(0:Int);let q74:=Z0 (decide (q71=(0:Int))) (q18/\Z0 q19 (Z0 q20 (Z0 q21 (Z0 q22 (Z0 q23 (q24/\q25/\Z0 q26 (Z0 q27 (q28/\q29/\Z0 q30 (Z0 q31 (Z0 q30 (Zc (2:Nat) [((2:Nat),(1:Nat))] n q32 q14/\True) False) False) False) False) False) False) False) False) False) False) False;
 LV [AV.arr u8 (32:Nat) q4,AV.int i64 q5,AV.int i64 q2,AV.int i64 q6,AV.int i64 q7,AV.int i64 q8,AV.arr u8 (32:Nat) q9,AV.arr u8 (32:Nat) q10,AV.int i64 X.side,AV.int i64 X.res,AV.arr i64 (2:Nat) q11,AV.arr i64 (2:Nat) q12,AV.vrows (70:Nat) n q15 n] X_1/\
 List.length X_1.L<(1000:Nat)/\
 Z0 (decide (q65<(0:Int))) False
 (Z0 q66
 (Z0 (decide (q67<n))
 (Z0 (decide ((1:Int)<=q69/\q69<=(9:Int)))
 (Z0 (q71==(0:Int))
 (Z0 (k==(1:Int))
 (q72=q72/\Z0 (decide (q16=(32:Nat))) (Z0 (decide ((32:Nat)=q16)) (Z0 (decide (q16<=B)) (Z0 (decide (List.length (H1 sec)=(32:Nat)/\List.length q72=(32:Nat))) (Z0 (!H1 sec==q72) False (Z0 q73 q74 (sec=sec/\sec=sec/\Z0 q3 ((∀(i:Nat),i<n->true=true)/\∃(L:List Z6),n=n/\q15=Z4 L/\n<(1000000:Nat)/\Z0 q66 (Z0 (decide (q67<n)) (q18/\Z0 q19 (Z0 q20 (Z0 q21 (Z0 q22 (Z0 q23 (q24/\q25/\Z0 q26 (Z0 q27 (q28/\q29/\Z0 q30 (Z0 q31 (Z0 q30 (Zc (2:Nat) [((2:Nat),(5:Nat))] n q32 (Z0A (Z4 L) q67 [AV.bool q68.own,AV.int i64 q68.id,AV.int i64 q68.amount,AV.arr u8 (32:Nat) q72,AV.int i64 q68.expiry,AV.int i64 (if q70 then (6:Int) else (0:Int)),AV.int i64 k,AV.arr u8 (32:Nat) sec])/\True) False) False) False) False) False) False) False) False) False) False) False) False) False))) False) False) False) False)
 (Z0 q73 q74 (sec=sec/\sec=sec/\Z0 q3 ((∀(i:Nat),i<n->true=true)/\∃(L:List Z6),n=n/\q15=Z4 L/\n<(1000000:Nat)/\Z0 q66 (Z0 (decide (q67<n)) (q18/\Z0 q19 (Z0 q20 (Z0 q21 (Z0 q22 (Z0 q23 (q24/\q25/\Z0 q26 (Z0 q27 (q28/\q29/\Z0 q30 (Z0 q31 (Z0 q30 (Zc (2:Nat) [((2:Nat),(4:Nat))] n q32 (Z0A (Z4 L) q67 [AV.bool q68.own,AV.int i64 q68.id,AV.int i64 q68.amount,AV.arr u8 (32:Nat) q72,AV.int i64 q68.expiry,AV.int i64 (if q70 then (6:Int) else (0:Int)),AV.int i64 k,AV.arr u8 (32:Nat) sec])/\True) False) False) False) False) False) False) False) False) False) False) False) False) False)))
 (Z0 q73 q74 (sec=sec/\sec=sec/\Z0 q3 ((∀(i:Nat),i<n->true=true)/\∃(L:List Z6),n=n/\q15=Z4 L/\n<(1000000:Nat)/\Z0 q66 (Z0 (decide (q67<n)) (q18/\Z0 q19 (Z0 q20 (Z0 q21 (Z0 q22 (Z0 q23 (q24/\q25/\Z0 q26 (Z0 q27 (q28/\q29/\Z0 q30 (Z0 q31 (Z0 q30 (Zc (2:Nat) [((2:Nat),(4:Nat))] n q32 (Z0A (Z4 L) q67 [AV.bool q68.own,AV.int i64 q68.id,AV.int i64 q68.amount,AV.arr u8 (32:Nat) q72,AV.int i64 q68.expiry,AV.int i64 (if q70 then (6:Int) else (0:Int)),AV.int i64 k,AV.arr u8 (32:Nat) sec])/\True) False) False) False) False) False) False) False) False) False) False) False) False) False)))
 False)
 False)
 False))
 False)) (by kernel_rfl) ?_
 conv=>zeta
 subst hn
 have hX2:X'={ X with L:=X.L.set (ZH own id X.L) (Uf (X.L.getD (ZH own id X.L) Z8) k sec)}:=by rw [hX'];unfold endX;rw [if_pos he]
 have hI:ZH own id X.L<X.L.length:=by
  rcases Nat.lt_or_ge (ZH own id X.L) X.L.length with h|h
  ·exact h
  ·unfold Xb at he;rw [if_pos h] at he;cases he
 have h5:(X.L.getD (ZH own id X.L) Z8).stage=5:=by
  unfold Xb at he
  rw [if_neg (by omega)] at he
  by_cases h:(X.L.getD (ZH own id X.L) Z8).stage=5
  ·exact h
  ·rw [if_pos h] at he;cases he
 have hno:¬(k=1/\H1 sec≠(X.L.getD (ZH own id X.L) Z8).hash):=fun hq=>by
  unfold Xb at he
  rw [if_neg (by omega),if_neg (fun hq2=>hq2 h5),if_pos hq] at he
  cases he
 have hU:∀τ,Zc 2 τ X.L.length (Z4 (X.L.set (ZH own id X.L) (Uf (X.L.getD (ZH own id X.L) Z8) k sec))) (Z0A (Z4 X.L) (ZH own id X.L) (Uf (X.L.getD (ZH own id X.L) Z8) k sec).c):=fun τ=>Zp fun i hi=>by
  rw [UP]
  unfold Z4
  rw [ZhY hI]
  by_cases h:i=ZH own id X.L
  ·rw [if_pos h,h,Nat.beq_refl]
  ·rw [if_neg h,ZC h]
 generalize hLn:X.L.set (ZH own id X.L) (Uf (X.L.getD (ZH own id X.L) Z8) k sec)=L2 at*
 subst hX2
 try simp only [Zi]
 try simp only [Zj]
 try simp only [Zf]
 try simp only [Zk]
 try simp only [Zl]
 try simp only [Zg]
 try simp only [Int.toNat_natCast,Nat.zero_add,true_and,and_true,Nat.le_refl]
 have hx:=ZD hI
 have h1:=hst _ hx
 have h2:=(hOk _ hx).hash
 have hv:fiV own id X.L=((ZH own id X.L:Nat):Int):=by unfold fiV;rw [if_pos hI]
 refine ⟨by simp [hcap],fun _ _=>trivial,X,.a rfl,hlen, ?_⟩
 rw [hv]
 simp only [Int.toNat_natCast,if_pos h5]
 refine ⟨by omega,by omega,hI,h1,fun _=>⟨fun hk=>⟨hsec,hsec.symm,by omega,⟨hl,h2⟩, ?_, ?_⟩,fun hk=> ?_⟩,fun h=>by simp at h⟩
 ·have hk:k=1:=by simpa using hk
  have:H1 sec=(X.L.getD (ZH own id X.L) Z8).hash:=Classical.byContradiction fun hq=>hno ⟨hk,hq⟩
  rw [this];simp
 all_goals
  refine ⟨fun h=>by simp at h,fun _=>⟨fun _ _=>trivial,X.L,rfl,by omega, ?_⟩⟩
  repeat' apply And.intro
  all_goals first|rfl|exact hU _|omega
theorem Z7.Inv.stage {H:List Int->List Int} {X:Z7} (h:X.Inv H):∀z∈X.L,1<=z.stage/\z.stage<=9:=fun z hz=>(YJ (h.und z hz)).2.2.1
def Zjs (c:Bool):Y8:=fun args h K=>match args with
 | [.ptr (some ⟨l,0,0,0,0⟩),_,_,_,_]=>match h.get l with
  |some (.flat [_,_,_,_,_,_,_,_,_,_,_,_,.nslice ⟨b,0,70,0,0⟩ 70 _ _])=>frA [l,b] h 20 args fun Bs a=>match Bs,a with
   | [.flat cs,.rows 70 n f],[.ptr (some ⟨0,0,0,0,0⟩),.bool own,.int .i64 id,.int .i64 k,.agg [.arr .u8 32 sec]]=>
    ∃X,LB cs n f X/\X.Inv Zr/\sec.length=32/\(match c with
     | true=>Xb Zr X own id k sec=0/\K (.ret (.int .i64 0)) ⟨h.next+1,(l,.flat ((endX Zr X own id k sec).c (.nslice ⟨h.next,0,70,0,0⟩ 70 X.L.length X.L.length)))::(h.next,.rows 70 X.L.length (Z4 (endX Zr X own id k sec).L))::Ye (Ye h.bs l) b⟩
     | false=>Xb Zr X own id k sec≠0/\K (.ret (.int .i64 (Xb Zr X own id k sec))) ⟨h.next,(l,.flat (X.c (.nslice ⟨b,0,70,0,0⟩ 70 X.L.length X.L.length)))::(b,.rows 70 X.L.length (Z4 X.L))::Ye (Ye h.bs l) b⟩)
   | _,_=>False
  | _=>False
 | _=>False
theorem Zgo (c:Bool) (args:List AV) (h:Z9) (K:KO) (hl:Zjs c args h K):Zn PP 88 args h K:=by
 unfold Zjs at hl
 split at hl
 ·split at hl
  ·refine Spec.fsumm hl fun Bs a hlen hK0=> ?_
   split at hK0
   ·rename_i cs n f own id k sec
    obtain ⟨X,⟨rfl,rfl,rfl⟩,hI,hsec,hK⟩:=hK0
    have hlen:X.L.length<1000:=hI.am.n
    cases c with
    | true=>
     obtain ⟨he,hK1⟩:=hK
     exact ⟨_,_,_,_,_,.evM Z9R (ZkX X _ _ own id k sec Zr Z3W 1000 rfl hlen hI.add.cap hI.stage hI.ok hsec (VG _) (by decide) he rfl),by simp,.ret _ _ rfl,.cons _ _ _ _ _ _ rfl (.flat _ _ rfl) (.cons _ _ _ _ _ _ rfl (.rows _ _ _ (fun _ _=>rfl)) .nil),hK1⟩
    | false=>
     obtain ⟨he,hK2⟩:=hK
     exact ⟨_,_,_,_,_,.evM Z9R (ZkW X _ own id k _ sec Zr Z3W 1000 rfl hlen hI.add.cap hI.stage hI.ok hsec (VG _) (by decide) rfl he),by simp,.ret _ _ rfl,.cons _ _ _ _ _ _ rfl (.flat _ _ rfl) (.cons _ _ _ _ _ _ rfl (.rows _ _ _ (fun _ _=>rfl)) .nil),hK2⟩
   ·exact hK0.elim
  ·exact hl.elim
 ·exact hl.elim
end Go.Tk
end
section
namespace Go.Tk
open IntKind (i64 u8 u32 u64 wrap)
noncomputable def Zgp:Zh:=G0.withP 87 neS
def ZmX:AV:=.func (.func 128) [] [.ptr (some ⟨2,0,0,0,0⟩)]
def ZmY (X:Z7) (L:List Z6) (n:Nat) (G Hd Lf:List Z6):Z9:=⟨6,[(0,.flat (X.c (.nslice ⟨1,0,70,0,0⟩ 70 n n))),(1,.rows 70 n (Z4 L)),(2,.flat [.ptr (some ⟨0,0,0,103,0⟩)]),(3,.rows 70 G.length (Z4 G)),(4,.rows 70 Hd.length (Z4 Hd)),(5,.rows 70 Lf.length (Z4 Lf))]⟩
def stS (X:Z7) (L:List Z6) (m:Int) (n i:Nat) (G Hd Lf:List Z6):St:=⟨87,[(30,.int .i64 i),(29,.int .i64 n),(28,.nslice ⟨1,0,70,0,0⟩ 70 n n),(1,.int .i64 m),(7,ZmX),(0,.ptr (some ⟨0,0,0,0,0⟩)),(5,.nslice ⟨3,0,70,0,0⟩ 70 G.length G.length),(4,.nslice ⟨4,0,70,0,0⟩ 70 Hd.length Hd.length),(8,.nslice ⟨5,0,70,0,0⟩ 70 Lf.length Lf.length)],ZmY X L n G Hd Lf,[]⟩
def stE (X:Z7) (L:List Z6) (m:Int) (n:Nat) (G Hd Lf:List Z6):St:=⟨87,[(0,.ptr (some ⟨0,0,0,0,0⟩)),(5,.nslice ⟨2,0,70,0,0⟩ 70 G.length G.length),(4,.nslice ⟨3,0,70,0,0⟩ 70 Hd.length Hd.length),(8,.nslice ⟨4,0,70,0,0⟩ 70 Lf.length Lf.length)],⟨5,[(0,.flat (X.c (.nslice ⟨1,0,70,0,0⟩ 70 n n))),(1,.rows 70 n (Z4 L)),(2,.rows 70 G.length (Z4 G)),(3,.rows 70 Hd.length (Z4 Hd)),(4,.rows 70 Lf.length (Z4 Lf))]⟩,[]⟩
theorem Qa {s a b q:Int} (hs:s=0\/s=1) (h1: -1152921504606846976<=a/\a<=1152921504606846976) (h2: -1152921504606846976<=b/\b<=1152921504606846976) (h3:0<=q/\q<=1152921504606846976):
  ([a,b].set s.toNat (i64.wrap ([a,b].getD s.toNat 0-q))).set (1-s).toNat (i64.wrap (([a,b].set s.toNat (i64.wrap ([a,b].getD s.toNat 0-q))).getD (1-s).toNat 0+q))=if s=0 then [a-q,b+q] else [a+q,b-q]:=by
 rcases hs with rfl|rfl
 ·show [i64.wrap (a-q),i64.wrap (b+q)]=[a-q,b+q]
  rw [w64 (by omega),w64 (by omega)]
 ·show [i64.wrap (a+q),i64.wrap (b-q)]=[a+q,b-q]
  rw [w64 (by omega),w64 (by omega)]
theorem Z0u {side:Int} {p:Int×Int} {h:Z6} (hf:¬h.fin=1):XZ side p h=p:=by unfold XZ;rw [if_neg hf]
theorem UF {side a b:Int} {h:Z6} (hf:h.fin=1):[(XZ side (a,b) h).1,(XZ side (a,b) h).2]=if ZS side h.own=0 then [a-h.amount,b+h.amount] else [a+h.amount,b-h.amount]:=by
 unfold XZ
 rw [if_pos hf]
 split<;>rfl
theorem Z8L {o:Bool} {s m:Int} (hs:1<=s/\s<=9) (h:ZY o s m=10):s=9:=by unfold ZY at h;split at h<;>omega
theorem ZkY (X X1:Z7) (L:List Z6) (m:Int) (n i:Nat) (x:Z6) (G Hd Lf G1 Hd1 Lf1:List Z6) (Z1 Z2:Prop) (hn:n<1000) (hL:L.length=n) (hi:i<=n) (hm:1<=m/\m<=4) (hX:YX X) (hx:i<n->L.getD i Z8=x) (hst:i<n->1<=x.stage/\x.stage<=9) (hb:G.length<1000/\Hd.length<1000/\Lf.length<1000) (hG:i<n->G1=G++X4 (decide (ZY x.own x.stage m=10)) (stH m x)) (hH:i<n->Hd1=Hd++X4 (decide (x.stage=4/\Xy x.own 4=m)) (stH m x)) (hLf:i<n->Lf1=Lf++X4 (decide (¬ZY x.own x.stage m=10)) (stH m x)) (hX1:i<n->X1=if ZY x.own x.stage m=10 then { X with a0:=(XZ X.side (X.a0,X.a1) (stH m x)).1,a1:=(XZ X.side (X.a0,X.a1) (stH m x)).2} else X) (hw:i<n->ZY x.own x.stage m=10->x.fin=1->(-1152921504606846976<=X.a0/\X.a0<=1152921504606846976)/\(-1152921504606846976<=X.a1/\X.a1<=1152921504606846976)/\0<=x.amount/\x.amount<=1152921504606846976) (hZ1:i<n->Z1) (hZ2:i=n->Z2):
  ZB Zgp 20 27 1 2 (stS X L m n i G Hd Lf) (rdM 2 1 9 (stS X1 L m n (i+1) G1 Hd1 Lf1) (stE X L m n G Hd Lf) (stE X L m n G Hd Lf) (stE X L m n G Hd Lf) Z1 Z2 False False):=by
 refine @Eq.mpr _ (let q1:=0+Int.toNat (↑i:Int);let q2:=List.getD L q1 Z8;let q3:=q2.stage;let q4:=q2.own;let q5:=ZY q4 q3 m;let q6:=decide (q4=q4);let q7:=q2.id;let q8:=decide (q7=q7);let q9:=q2.amount;let q10:=decide (q9=q9);let q11:=q2.hash;let q12:=q11=q11;let q13:=q2.expiry;let q14:=decide (q13=q13);let q15:=decide (q5=q5);let q16:=q2.fin;let q17:=decide (q16=q16);let q18:=q2.secret;let q19:=q18=q18;let q20:=q16==1;let q21:=X.side;let q22:=decide (0<=q21/\q21<2);let q23:=0+Int.toNat q21;let q24:=wrap i64 (1-q21);let q25:=decide (0<=q24/\q24<2);let q26:=0+Int.toNat q24;let q27:=decide (q26<2);let q28:=[X.a0,X.a1];let q29:=List.set q28 q23 (wrap i64 (List.getD q28 q23 0-q9));let q30:=List.length G;let q31:=decide (q30=q30);let q32:=q30+1;let q33:=decide (q32*112<=140737488355328);let q34:=decide (wrap i64 ((↑i:Int)+1)=(↑(i+1):Int));let q35:=decide ((↑n:Int)=(↑n:Int));let q36:=decide (n=n);let q37:=decide (n<=n);let q38:=decide (m=m);let q39:=List.length G1;let q40:=decide (q32=q39);let q41:=decide (q39<=q32);let q42:=List.length Hd;let q43:=List.length Hd1;let q44:=decide (q42=q43);let q45:=decide (q43<=q42);let q46:=List.length Lf;let q47:=List.length Lf1;let q48:=decide (q46=q47);let q49:=decide (q47<=q46);let q50:=X.t;let q51:=q50.fund;let q52:=X1.t;let q53:=q51=q52.fund;let q54:=q50.index;let q55:=decide (q54=q52.index);let q56:=q50.cap;let q57:=decide (q56=q52.cap);let q58:=q50.dust;let q59:=decide (q58=q52.dust);let q60:=q50.fee;let q61:=decide (q60=q52.fee);let q62:=q50.delay;let q63:=decide (q62=q52.delay);let q64:=q50.k0;let q65:=q64=q52.k0;let q66:=q50.k1;let q67:=q66=q52.k1;let q68:=decide (q21=X1.side);let q69:=X.res;let q70:=decide (q69=X1.res);let q71:=[X1.a0,X1.a1];let q72:=[X.i0,X.i1];let q73:=q72=[X1.i0,X1.i1];let q74:=[(2,2)];let q75:=(5,5)::(4,4)::(3,9)::q74;let q76:=Z4 L;let q77:=Z4 G1;let q78:=Z4 G;let q79:=YG [AV.bool q4,AV.int i64 q7,AV.int i64 q9,AV.arr u8 32 q11,AV.int i64 q13,AV.int i64 q5,AV.int i64 q16,AV.arr u8 32 q18] 0 70;let q80:=Z4 Hd1;let q81:=Z4 Hd;let q82:=Z4 Lf1;let q83:=Z4 Lf;let q84:=q73/\Z0 q36 (Z0 q37 (Z0 q36 (Zc 2 q75 n q76 q76/\Z0 q40 (Zc 2 q75 q39 q77 (ZZ q30 q78 q79)/\Z0 q44 (Zc 2 q75 q43 q80 q81/\Z0 q48 (Zc 2 q75 q47 q82 q83/\Z1) False) False) False) False) False) False;let q85:=q28=q71;let q86:=Z0 q31 (Z0 q33 (Z0 q34 (Z0 q35 (Z0 q36 (Z0 q37 (Z0 q38 (Z0 q40 (Z0 q41 (Z0 q44 (Z0 q45 (Z0 q48 (Z0 q49 (q53/\Z0 q55 (Z0 q57 (Z0 q59 (Z0 q61 (Z0 q63 (q65/\q67/\Z0 q68 (Z0 q70 (q85/\q84) False) False) False) False) False) False) False) False) False) False) False) False) False) False) False) False) False) False) False) False;let q87:=wrap i64 (1-q24);let q88:=decide (0<=q87/\q87<2);let q89:=0+Int.toNat q87;let q90:=List.set q28 q26 (wrap i64 (List.getD q28 q26 0-q9));let q91:=decide (q42=q42);let q92:=q42+1;let q93:=decide (q46=q46);let q94:=q46+1;let q95:=decide (q94*112<=140737488355328);let q96:=decide (q30=q39);let q97:=decide (q39<=q30);let q98:=decide (q92=q43);let q99:=decide (q94=q47);let q100:=decide (q47<=q94);let q101:=(3,3)::q74;let q102:=(5,10)::(4,8)::q101;let q103:=ZZ q46 q83 q79;let q104:=(5,8)::(4,4)::q101;let q105:=Z0 q93 (Z0 q95 (Z0 q34 (Z0 q35 (Z0 q36 (Z0 q37 (Z0 q38 (Z0 q96 (Z0 q97 (Z0 q44 (Z0 q45 (Z0 q99 (Z0 q100 (q53/\Z0 q55 (Z0 q57 (Z0 q59 (Z0 q61 (Z0 q63 (q65/\q67/\Z0 q68 (Z0 q70 (q85/\q73/\Z0 q36 (Z0 q37 (Z0 q36 (Zc 2 q104 n q76 q76/\Z0 q96 (Zc 2 q104 q39 q77 q78/\Z0 q44 (Zc 2 q104 q43 q80 q81/\Z0 q99 (Zc 2 q104 q47 q82 q103/\Z1) False) False) False) False) False) False) False) False) False) False) False) False) False) False) False) False) False) False) False) False) False) False) False) False) False) False;let q106:=[(4,5),(3,4),(2,3)];
 Z0 (decide ((↑i:Int)<(↑n:Int)))
 (Z0 (decide (0<=(↑i:Int)/\(↑i:Int)<(↑n:Int)))
 (Z0 (decide (q1<n))
 (Z0 (decide ((1<=q3/\q3<=9)/\1<=m/\m<=4))
 (Z0 (q5==10)
 (Z0 q4 (Z0 q6 (Z0 q8 (Z0 q10 (q12/\Z0 q14 (Z0 q15 (Z0 q17 (q19/\Z0 q20 (Z0 q22 (Z0 (decide (q23<2)) (Z0 q22 (Z0 (decide (i64=i64/\q23<2/\q23<2)) (Z0 q25 (Z0 q27 (Z0 q25 (Z0 (decide (i64=i64/\q26<2/\q26<List.length q29)) (Z0 q31 (Z0 q33 (Z0 q34 (Z0 q35 (Z0 q36 (Z0 q37 (Z0 q38 (Z0 q40 (Z0 q41 (Z0 q44 (Z0 q45 (Z0 q48 (Z0 q49 (q53/\Z0 q55 (Z0 q57 (Z0 q59 (Z0 q61 (Z0 q63 (q65/\q67/\Z0 q68 (Z0 q70 (List.set q29 q26 (wrap i64 (List.getD q29 q26 0+q9))=q71/\q84) False) False) False) False) False) False) False) False) False) False) False) False) False) False) False) False) False) False) False) False) False) False) False) False) False) False) False) False) q86) False) False) False) False) False) False)
 (Z0 q6 (Z0 q8 (Z0 q10 (q12/\Z0 q14 (Z0 q15 (Z0 q17 (q19/\Z0 q20 (Z0 q25 (Z0 q27 (Z0 q25 (Z0 (decide (i64=i64/\q26<2/\q26<2)) (Z0 q88 (Z0 (decide (q89<2)) (Z0 q88 (Z0 (decide (i64=i64/\q89<2/\q89<List.length q90)) (Z0 q31 (Z0 q33 (Z0 q34 (Z0 q35 (Z0 q36 (Z0 q37 (Z0 q38 (Z0 q40 (Z0 q41 (Z0 q44 (Z0 q45 (Z0 q48 (Z0 q49 (q53/\Z0 q55 (Z0 q57 (Z0 q59 (Z0 q61 (Z0 q63 (q65/\q67/\Z0 q68 (Z0 q70 (List.set q90 q89 (wrap i64 (List.getD q90 q89 0+q9))=q71/\q84) False) False) False) False) False) False) False) False) False) False) False) False) False) False) False) False) False) False) False) False) False) False) False) False) False) False) False) False) q86) False) False) False) False) False) False))
 (Z0 (decide (Xy q4 q3=m)) (Z0 (q5==5) (Z0 q91 (Z0 (decide (q92*112<=140737488355328)) (Z0 q93 (Z0 q95 (Z0 q34 (Z0 q35 (Z0 q36 (Z0 q37 (Z0 q38 (Z0 q96 (Z0 q97 (Z0 q98 (Z0 (decide (q43<=q92)) (Z0 q99 (Z0 q100 (q53/\Z0 q55 (Z0 q57 (Z0 q59 (Z0 q61 (Z0 q63 (q65/\q67/\Z0 q68 (Z0 q70 (q85/\q73/\Z0 q36 (Z0 q37 (Z0 q36 (Zc 2 q102 n q76 q76/\Z0 q96 (Zc 2 q102 q39 q77 q78/\Z0 q98 (Zc 2 q102 q43 q80 (ZZ q42 q81 q79)/\Z0 q99 (Zc 2 q102 q47 q82 q103/\Z1) False) False) False) False) False) False) False) False) False) False) False) False) False) False) False) False) False) False) False) False) False) False) False) False) False) False) False) False) q105) q105))
 False)
 False)
 False)
 (Z0 q31 (Z0 (decide (q30<=q30)) (Z0 q91 (Z0 (decide (q42<=q42)) (Z0 q93 (Z0 (decide (q46<=q46)) (q51=q51/\Z0 (decide (q54=q54)) (Z0 (decide (q56=q56)) (Z0 (decide (q58=q58)) (Z0 (decide (q60=q60)) (Z0 (decide (q62=q62)) (q64=q64/\q66=q66/\Z0 (decide (q21=q21)) (Z0 (decide (q69=q69)) (q28=q28/\q72=q72/\Z0 q36 (Z0 q37 (Z0 q36 (Zc 2 q106 n q76 q76/\Z0 q31 (Zc 2 q106 q30 q78 q78/\Z0 q91 (Zc 2 q106 q42 q81 q81/\Z0 q93 (Zc 2 q106 q46 q83 q83/\Z2) False) False) False) False) False) False) False) False) False) False) False) False) False) False) False) False) False) False) False)) (by kernel_rfl) ?_
 conv=>zeta
 try simp only [Zi]
 try simp only [Zj]
 try simp only [Zf]
 try simp only [Zk]
 try simp only [Zl]
 try simp only [Zg]
 try simp only [Int.toNat_natCast,Nat.zero_add,true_and,and_true,Nat.le_refl]
 refine ⟨fun hc=> ?_,fun hc=> ?_⟩
 ·have hlt:i<n:=by omega
  rw [hx hlt]
  have hG:=hG hlt
  have hH:=hH hlt
  have hLf:=hLf hlt
  have hX1:=hX1 hlt
  have hst:=hst hlt
  have hw:=hw hlt
  have hwr:i64.wrap ((i:Int)+1)=((i+1:Nat):Int):=by rw [w64 (by omega)];omega
  rw [hwr]
  refine ⟨by omega,hlt,⟨hst,hm⟩,fun h10=> ?_,fun h10=> ?_⟩
  ·have h10:ZY x.own x.stage m=10:=by simpa using h10
   have h9:=Z8L hst h10
   rw [decide_eq_true h10] at hG
   rw [decide_eq_false (by omega)] at hH
   rw [decide_eq_false (by simp [h10])] at hLf
   rw [if_pos h10] at hX1
   simp only [X4,List.append_nil] at hG hH hLf
   subst hG hH hLf hX1
   obtain ⟨s1,s2⟩:=hX
   have hwf:i64.wrap (1-X.side)=1-X.side:=w64 (by omega)
   have hwg:i64.wrap (1-(1-X.side))=X.side:=by rw [w64 (by omega)];omega
   rw [hwf]
   try rw [hwg]
   have hRG:∀τ,Zc 2 τ (G++[stH m x]).length (Z4 (G++[stH m x])) (ZZ G.length (Z4 G) (YG (stH m x).c 0 70)):=fun τ=>Zp fun j hj=>Yk rfl (fun _ _=>rfl) (by simpa using hj)
   have hR:∀τ k (Q:List Z6),Zc 2 τ k (Z4 Q) (Z4 Q):=fun τ k Q=>Zp fun _ _=>rfl
   refine ⟨fun ho=>⟨fun hf=> ?_,fun hf=> ?_⟩,fun ho=>⟨fun hf=> ?_,fun hf=> ?_⟩⟩
   all_goals repeat' apply And.intro
   all_goals first|omega|rfl|exact hZ1 hlt|exact hRG _|exact hR _ _ _|(simp;done)|(simp only [List.length_set,List.length_cons,List.length_nil,List.length_append];omega)|skip
   ·have hf:x.fin=1:=by simpa using hf
    obtain ⟨b1,b2,b3⟩:=hw h10 hf
    show _=[(XZ X.side (X.a0,X.a1) (stH m x)).1,(XZ X.side (X.a0,X.a1) (stH m x)).2]
    rw [UF (h:=stH m x) hf,Qa (by omega) b1 b2 b3]
    show _=if ZS X.side x.own=0 then _ else _
    rw [ho];rfl
   ·have hf:¬x.fin=1:=by simpa using hf
    show _=[(XZ X.side (X.a0,X.a1) (stH m x)).1,(XZ X.side (X.a0,X.a1) (stH m x)).2]
    rw [Z0u (h:=stH m x) hf]
   ·have hf:x.fin=1:=by simpa using hf
    obtain ⟨b1,b2,b3⟩:=hw h10 hf
    show _=[(XZ X.side (X.a0,X.a1) (stH m x)).1,(XZ X.side (X.a0,X.a1) (stH m x)).2]
    have e:=Qa (s:=1-X.side) (by omega) b1 b2 b3
    rw [show 1-(1-X.side)=X.side by omega] at e
    rw [UF (h:=stH m x) hf,e]
    show _=if ZS X.side x.own=0 then _ else _
    rw [ho];rfl
   ·have hf:¬x.fin=1:=by simpa using hf
    show _=[(XZ X.side (X.a0,X.a1) (stH m x)).1,(XZ X.side (X.a0,X.a1) (stH m x)).2]
    rw [Z0u (h:=stH m x) hf]
  ·have h10:¬ZY x.own x.stage m=10:=by simpa using h10
   rw [decide_eq_false h10] at hG
   rw [decide_eq_true h10] at hLf
   rw [if_neg h10] at hX1
   simp only [X4,List.append_nil] at hG hLf
   subst hG hLf hX1
   have hRL:∀τ,Zc 2 τ (Lf++[stH m x]).length (Z4 (Lf++[stH m x])) (ZZ Lf.length (Z4 Lf) (YG (stH m x).c 0 70)):=fun τ=>Zp fun j hj=>Yk rfl (fun _ _=>rfl) (by simpa using hj)
   have hR:∀τ k (Q:List Z6),Zc 2 τ k (Z4 Q) (Z4 Q):=fun τ k Q=>Zp fun _ _=>rfl
   refine ⟨fun ho=>⟨fun h5=> ?_,fun h5=> ?_⟩,fun ho=> ?_⟩
   ·have ho:Xy x.own x.stage=m:=ho
    have h5:ZY x.own x.stage m=5:=by simpa using h5
    have h4:x.stage=4:=by unfold ZY at h5;rw [if_pos ho] at h5;omega
    rw [decide_eq_true ⟨h4,by rw [<-h4];exact ho⟩] at hH
    simp only [X4] at hH
    subst hH
    have hRH:∀τ,Zc 2 τ (Hd++[stH m x]).length (Z4 (Hd++[stH m x])) (ZZ Hd.length (Z4 Hd) (YG (stH m x).c 0 70)):=fun τ=>Zp fun j hj=>Yk rfl (fun _ _=>rfl) (by simpa using hj)
    repeat' apply And.intro
    all_goals first|omega|rfl|exact hZ1 hlt|exact hRL _|exact hRH _|exact hR _ _ _|(simp;done)
   all_goals
    have hH':Hd1=Hd:=by
     rw [hH,decide_eq_false]
     ·simp [X4]
     ·intro hq
      simp [ZY,hq.1,hq.2] at*
    subst hH'
    repeat' apply And.intro
    all_goals first|omega|rfl|exact hZ1 hlt|exact hRL _|exact hR _ _ _|(simp;done)
 ·repeat' apply And.intro
  all_goals first|omega|rfl|exact hZ2 (by omega)|exact Zp fun _ _=>rfl
end Go.Tk
end
section
namespace Go.Tk
open IntKind (i64 u8 u32 u64 wrap)
def ZE (side s:Int) (L:List Z6):Int:=(XP (ZR side s L)).sum
def Yv (side s:Int) (L:List Z6):Nat:=(ZR side s L).length
def UG (side s:Int) (h:Z6):Int:=if ZS side h.own=s then h.amount else 0
def UH (side s:Int) (h:Z6):Nat:=if ZS side h.own=s then 1 else 0
theorem Z4F {side:Int} (hs:side=0\/side=1) (own:Bool):ZS side own=0\/ZS side own=1:=by
 unfold ZS;rcases hs with rfl|rfl<;>cases own<;>simp
theorem ZO (side s:Int) (x:Z6) (r:List Z6):ZE side s (x::r)=UG side s x+ZE side s r:=by
 unfold ZE UG ZR XP
 rw [List.filter_cons]
 by_cases h:ZS side x.own=s<;>simp [h]
theorem Yb (side s:Int) (x:Z6) (r:List Z6):Yv side s (x::r)=UH side s x+Yv side s r:=by
 unfold Yv UH ZR
 rw [List.filter_cons]
 by_cases h:ZS side x.own=s<;>simp [h]<;>omega
theorem Xr (X:Z7) (s:Int):Y5 X s=X.am s-ZE X.side s X.L-X.res-(if s=0 then X.t.fee else 0):=rfl
theorem U4 {side s:Int} {L:List Z6}:ZR side s L=[]↔Yv side s L=0:=by
 unfold Yv;exact List.length_eq_zero_iff.symm
theorem Z3r (side s:Int) (h:Z6):∀L,ZE side s (Xp h L)=ZE side s L+UG side s h
 | []=>by unfold Xp;rw [ZO];omega
 | x::r=>by
  unfold Xp
  split
  ·rw [ZO];omega
  ·rw [ZO,ZO,Z3r side s h r];omega
theorem Z3s (side s:Int) (h:Z6):∀L,Yv side s (Xp h L)=Yv side s L+UH side s h
 | []=>by unfold Xp;rw [Yb];omega
 | x::r=>by
  unfold Xp
  split
  ·rw [Yb];omega
  ·rw [Yb,Yb,Z3s side s h r];omega
theorem Z70 {h:Z6}:∀{L:List Z6},L.Pairwise Xi->(∀x∈L,x.own=h.own->x.id<h.id/\min h.stage 5<=min x.stage 5)->(Xp h L).Pairwise Xi
 | [],_,_=>by simp [Xp]
 | x::r,hp,hx=>by
  obtain ⟨h1,h2⟩:=List.pairwise_cons.1 hp
  unfold Xp
  split
  ·rename_i hc
   refine List.pairwise_cons.2 ⟨fun y hy=> ?_,hp⟩
   rcases List.mem_cons.1 hy with rfl|hy
   ·exact .inl ⟨hc.1,hc.2⟩
   ·have:=h1 y hy
    unfold Xi at this
    rcases this with ⟨q,_⟩|⟨q,_⟩
    ·rw [hc.2] at q;cases q
    ·exact .inl ⟨hc.1,by rw [<-q];exact hc.2⟩
  ·rename_i hc
   refine List.pairwise_cons.2 ⟨fun y hy=> ?_,Z70 h2 fun z hz=>hx z (by simp [hz])⟩
   rcases Z0t.1 hy with hy|rfl
   ·exact h1 y hy
   ·have:=hx x (by simp)
    unfold Xi
    cases hxo:x.own<;>cases hyo:y.own<;>simp_all
theorem Zgq (X:Z7) (own o:Bool) (d:Int):(XG X own d).nx o=X.nx o+(if own=o then d else 0):=by
 cases own<;>cases o<;>simp [XG,Z7.nx]
theorem Zjt (X:Z7) (own:Bool) (d s:Int):(XG X own d).am s=X.am s:=by cases own<;>rfl
theorem Z21 {h:Z6} (hp:Yj h=true):(0<=h.id/\h.id<=2147483647)/\(1<=h.amount/\h.amount<=1125899906842624)/\1<=h.expiry/\h.expiry<=2147483647:=by
 unfold Yj at hp
 simp only [Bool.and_eq_true,decide_eq_true_eq] at hp
 exact ⟨hp.1.1,hp.1.2,hp.2⟩
theorem VN {H:List Int->List Int} {X:Z7} {h:Z6} (h1:Yj h=true) (h2:h.id<X.nx h.own) (h3:1<=h.stage/\h.stage<=9) (h4:QW H h=true):Yz H X h=true:=by
 unfold Yz
 rw [h1,h4,decide_eq_true h2,decide_eq_true h3];rfl
theorem Xw:Bytes Za:=⟨fun i=>by
 have:Za.getD i 0=0:=by
  show (List.replicate 32 (0:Int)).getD i 0=0
  rw [List.getD_eq_getElem?_getD,List.getElem?_replicate];split<;>rfl
 rw [this];omega⟩
theorem Z7.Inv.addX {H:List Int->List Int} {X:Z7} (h:X.Inv H) {own:Bool} {id am ex:Int} {hash:List Int} (hh:hash.length=32) (hb:Bytes hash):(addX X own id am hash ex).Inv H:=by
 unfold Go.Tk.addX
 split
 case isFalse=>exact h
 rename_i he
 obtain ⟨hp,hid,hn,ha⟩:=Z14 he
 have hpi:=Z21 hp
 have hpi1:(0<=id/\id<=2147483647)/\(1<=am/\am<=1125899906842624):=⟨hpi.1,hpi.2.1⟩
 have hamif:∀s,UG X.side s (Xd X own id am hash ex)=if ZS X.side own=s then am else 0:=fun s=>rfl
 have honeif:∀s,UH X.side s (Xd X own id am hash ex)=if ZS X.side own=s then 1 else 0:=fun s=>rfl
 generalize hq:Xd X own id am hash ex=q at*
 have hqo:q.own=own:=by rw [<-hq];rfl
 have hqi:q.id=id:=by rw [<-hq];rfl
 have hqs:q.stage=1:=by rw [<-hq];rfl
 have hqf:QW H q=true:=by rw [<-hq];simp [QW,Xd]
 have hqk:q.Ok:=by rw [<-hq];exact ⟨hh,hb,rfl,Xw⟩
 have e1:∀(d:Int),(XG X own d).side=X.side:=fun d=>by cases own<;>rfl
 have hov:∀s,Y5 { XG X own 1 with L:=Xp q X.L} s=Y5 X s-(if ZS X.side own=s then am else 0):=fun s=>by
  have:Y5 { XG X own 1 with L:=Xp q X.L} s=(XG X own 1).am s-ZE (XG X own 1).side s (Xp q X.L)-(XG X own 1).res-(if s=0 then (XG X own 1).t.fee else 0):=rfl
  rw [this,e1,Zjt,Z3r,hamif,Xr]
  have e2:(XG X own 1).res=X.res:=by cases own<;>rfl
  have e3:(XG X own 1).t=X.t:=by cases own<;>rfl
  rw [e2,e3];omega
 have hlen:∀s,(ZR (XG X own 1).side s (Xp q X.L)).length=(ZR X.side s X.L).length+if ZS X.side own=s then 1 else 0:=fun s=>by
  have:=Z3s X.side s q X.L
  rw [honeif] at this
  rw [e1];exact this
 have hnx:∀o,({ XG X own 1 with L:=Xp q X.L}:Z7).nx o=X.nx o+(if own=o then 1 else 0):=fun o=>Zgq X own o 1
 have hf:=ZS X.side own
 refine ⟨?_, ?_, ?_, ?_, ?_, ?_, ?_, ?_, ?_, ?_, ?_, ?_, ?_, ?_, ?_⟩
 ·cases own<;>exact h.tok
 ·cases own<;>exact h.tb
 ·show (XG X own 1).side=0\/_;rw [e1];exact h.side
 ·cases own<;>exact h.res
 ·cases own<;>exact h.a0
 ·cases own<;>exact h.a1
 ·have:=h.i0
  cases own
  ·exact this
  ·have:id=X.i0:=hid
   show 0<=X.i0+1/\X.i0+1<=_;omega
 ·have:=h.i1
  cases own
  ·have:id=X.i1:=hid
   show 0<=X.i1+1/\X.i1+1<=_;omega
  ·exact this
 ·have:=h.n0
  show (ZR (XG X own 1).side 0 (Xp q X.L)).length<=8
  rw [hlen];split
  ·rename_i e;rw [e] at hn;omega
  ·omega
 ·have:=h.n1
  show (ZR (XG X own 1).side 1 (Xp q X.L)).length<=8
  rw [hlen];split
  ·rename_i e;rw [e] at hn;omega
  ·omega
 ·intro x hx
  rcases Z0t.1 hx with hx|rfl
  ·obtain ⟨u1,u2,u3,u4⟩:=YJ (h.und x hx)
   refine VN u1 ?_ u3 u4
   rw [hnx];split<;>omega
  ·refine VN hp ?_ (by rw [hqs];omega) hqf
   rw [hnx,hqo,if_pos rfl,hqi,hid];omega
 ·refine Z70 h.fol fun x hx ho=> ?_
  obtain ⟨u1,u2,u3,u4⟩:=YJ (h.und x hx)
  rw [ho,hqo] at u2
  rw [hqi,hqs,hid];omega
 ·have:=h.ov0
  rw [hov];split
  ·rename_i e;rw [e] at ha;omega
  ·omega
 ·rcases h.ov1 with h1|h1
  ·by_cases e:ZS X.side own=1
   ·right
    rw [hov,if_pos e];rw [e] at ha;omega
   ·left
    show ZR (XG X own 1).side 1 (Xp q X.L)=[]
    refine List.eq_nil_of_length_eq_zero ?_
    rw [hlen,h1,if_neg e];rfl
  ·right
   rw [hov];split
   ·rename_i e;rw [e] at ha;omega
   ·omega
 ·intro x hx
  rcases Z0t.1 hx with hx|rfl
  ·exact h.ok x hx
  ·exact hqk
def Vq (h:Z6):Bool×Int×Int×Int:=(h.own,h.id,h.amount,min h.stage 5)
theorem Z71 {a b c d:Z6} (h1:Vq a=Vq c) (h2:Vq b=Vq d) (h:Xi a b):Xi c d:=by
 unfold Vq at h1 h2
 simp only [Prod.mk.injEq] at h1 h2
 unfold Xi at*
 rw [<-h1.1,<-h2.1,<-h1.2.1,<-h2.2.1,<-h1.2.2.2,<-h2.2.2.2];exact h
theorem Z72 {side s:Int}:∀{L M:List Z6},L.map Vq=M.map Vq->ZE side s L=ZE side s M/\Yv side s L=Yv side s M
 | [],[],_=>⟨rfl,rfl⟩
 | [],y::q,h=>by simp at h
 | x::r,[],h=>by simp at h
 | x::r,y::q,h=>by
  simp only [List.map_cons,List.cons.injEq] at h
  obtain ⟨i1,i2⟩:=Z72 (side:=side) (s:=s) h.2
  have hk:=h.1
  unfold Vq at hk
  simp only [Prod.mk.injEq] at hk
  rw [ZO,ZO,Yb,Yb,i1,i2]
  unfold UG UH
  rw [hk.1,hk.2.2.1];exact ⟨rfl,rfl⟩
theorem Z9S:∀{L M:List Z6},L.map Vq=M.map Vq->L.Pairwise Xi->M.Pairwise Xi
 | [],[],_,_=>.nil
 | [],y::q,h,_=>by simp at h
 | x::r,[],h,_=>by simp at h
 | x::r,y::q,h,hp=>by
  simp only [List.map_cons,List.cons.injEq] at h
  obtain ⟨h1,h2⟩:=List.pairwise_cons.1 hp
  refine List.pairwise_cons.2 ⟨fun z hz=> ?_,Z9S h.2 h2⟩
  have:Vq z∈r.map Vq:=by rw [h.2];exact List.mem_map_of_mem hz
  obtain ⟨w,hw,e⟩:=List.mem_map.1 this
  exact Z71 h.1 e (h1 w hw)
theorem Zgr {L:List Z6} {I:Nat} {q:Z6} (hI:I<L.length) (hk:Vq q=Vq (L.getD I Z8)):(L.set I q).map Vq=L.map Vq:=by
 rw [List.map_set,hk,List.getD_eq_getElem?_getD,List.getElem?_eq_getElem hI]
 apply List.ext_getElem?
 intro i
 rw [List.getElem?_set]
 split
 ·rename_i e;subst e
  rw [if_pos (by simpa using hI)];simp [hI]
 ·rfl
theorem Z4G {H:List Int->List Int} {X:Z7} {own:Bool} {id k:Int} {sec:List Int} (he:Xb H X own id k sec=0):ZH own id X.L<X.L.length/\(X.L.getD (ZH own id X.L) Z8).stage=5/\(k=1->H sec=(X.L.getD (ZH own id X.L) Z8).hash):=by
 unfold Xb at he
 split at he
 ·cases he
 ·split at he
  ·cases he
  ·split at he
   ·cases he
   ·rename_i q1 q2 q3
    refine ⟨by omega,by simpa using q2,fun hk=> ?_⟩
    exact Classical.byContradiction fun hq=>q3 ⟨hk,hq⟩
theorem Z7.Inv.endX {H:List Int->List Int} {X:Z7} (h:X.Inv H) {own:Bool} {id k:Int} {sec:List Int} (hs:sec.length=32) (hb:Bytes sec) (hk:k=1\/(k=2/\sec=Za)):(endX H X own id k sec).Inv H:=by
 unfold Go.Tk.endX
 split
 case isFalse=>exact h
 rename_i he
 obtain ⟨hI,h5,hsec⟩:=Z4G he
 generalize ZH own id X.L=I at*
 have hx:=ZD hI
 obtain ⟨u1,u2,u3,u4⟩:=YJ (h.und _ hx)
 generalize hz:X.L.getD I Z8=z at*
 have hkey:Vq (Uf z k sec)=Vq (X.L.getD I Z8):=by
  rw [hz]
  unfold Vq Uf
  rw [h5];rfl
 have hm:=Zgr hI hkey
 have hsum:=fun s=>Z72 (side:=X.side) (s:=s) hm
 have hov:∀s,Y5 { X with L:=X.L.set I (Uf z k sec)} s=Y5 X s:=fun s=>by
  have:Y5 { X with L:=X.L.set I (Uf z k sec)} s=X.am s-ZE X.side s (X.L.set I (Uf z k sec))-X.res-(if s=0 then X.t.fee else 0):=rfl
  rw [this,(hsum s).1,Xr]
 have hmem:∀x∈X.L.set I (Uf z k sec),x∈X.L\/x=Uf z k sec:=fun x hx=>List.mem_or_eq_of_mem_set hx
 refine ⟨h.tok,h.tb,h.side,h.res,h.a0,h.a1,h.i0,h.i1, ?_, ?_, ?_,Z9S hm.symm h.fol, ?_, ?_, ?_⟩
 ·have:=(hsum 0).2
  unfold Yv at this
  rw [this];exact h.n0
 ·have:=(hsum 1).2
  unfold Yv at this
  rw [this];exact h.n1
 ·intro x hx
  rcases hmem x hx with hx|rfl
  ·obtain ⟨u1,u2,u3,u4⟩:=YJ (h.und x hx)
   exact VN u1 u2 u3 u4
  ·refine VN u1 u2 (show 1<=(6:Int)/\(6:Int)<=9 by omega) ?_
   unfold QW Uf
   rcases hk with rfl|⟨rfl,rfl⟩
   ·simp [hsec rfl]
   ·simp
 ·rw [hov];exact h.ov0
 ·rcases h.ov1 with h1|h1
  ·left
   rw [U4] at h1⊢
   show Yv X.side 1 (X.L.set I (Uf z k sec))=0
   rw [(hsum 1).2,h1]
  ·right;rw [hov];exact h1
 ·intro x hx
  rcases hmem x hx with hx|rfl
  ·exact h.ok x hx
  ·have:=h.ok z (by rw [<-hz];exact ZD hI)
   exact ⟨this.hash,this.hb,hs,hb⟩
end Go.Tk
end
section
namespace Go.Tk
open IntKind (i64 u8 u32 u64 wrap)
theorem Z1p (m:Int) (x:Z6) (r:List Z6):Yo m (x::r)=if ZY x.own x.stage m=10 then Yo m r else stH m x::Yo m r:=by
 unfold Yo
 rw [List.map_cons,List.filter_cons]
 by_cases h:ZY x.own x.stage m=10<;>simp [h,stH]
theorem Z1q (m:Int) (x:Z6) (r:List Z6):ZV m (x::r)=if ZY x.own x.stage m=10 then stH m x::ZV m r else ZV m r:=by
 unfold ZV
 rw [List.map_cons,List.filter_cons]
 by_cases h:ZY x.own x.stage m=10<;>simp [h,stH]
theorem Z5K (m side s:Int):∀L,ZE side s L=ZE side s (Yo m L)+ZE side s (ZV m L)
 | []=>rfl
 | x::r=>by
  have ih:=Z5K m side s r
  have e:UG side s (stH m x)=UG side s x:=rfl
  rw [Z1p,Z1q,ZO]
  split
  ·rw [ZO,e];omega
  ·rw [ZO,e];omega
theorem Z22 (m side s:Int):∀L,Yv side s L=Yv side s (Yo m L)+Yv side s (ZV m L)
 | []=>rfl
 | x::r=>by
  have ih:=Z22 m side s r
  have e:UH side s (stH m x)=UH side s x:=rfl
  rw [Z1p,Z1q,Yb]
  split
  ·rw [Yb,e];omega
  ·rw [Yb,e];omega
def WX (G:List Z6):List Z6:=G.filter fun h=>decide (h.fin=1)
theorem UI {side:Int} (hs:side=0\/side=1):∀(G:List Z6) (a b:Int),G.foldl (XZ side) (a,b)=(a-ZE side 0 (WX G)+ZE side 1 (WX G),b+ZE side 0 (WX G)-ZE side 1 (WX G))
 | [],a,b=>by simp [WX,ZE,ZR,XP]
 | x::r,a,b=>by
  rw [List.foldl_cons]
  by_cases hf:x.fin=1
  ·have e:WX (x::r)=x::WX r:=by unfold WX;rw [List.filter_cons,decide_eq_true hf];rfl
   rw [e,ZO,ZO]
   have hfr:(ZS side x.own=0/\¬ZS side x.own=1)\/(¬ZS side x.own=0/\ZS side x.own=1):=by
    unfold ZS
    rcases hs with rfl|rfl<;>cases x.own<;>simp
   unfold UG
   rcases hfr with ⟨h1,h2⟩|⟨h1,h2⟩
   ·have hm:XZ side (a,b) x=(a-x.amount,b+x.amount):=by unfold XZ;rw [if_pos hf,if_pos h1]
    rw [hm,UI hs r,if_pos h1,if_neg h2]
    simp only [Prod.mk.injEq];constructor<;>omega
   ·have hm:XZ side (a,b) x=(a+x.amount,b-x.amount):=by unfold XZ;rw [if_pos hf,if_neg h1]
    rw [hm,UI hs r,if_neg h1,if_pos h2]
    simp only [Prod.mk.injEq];constructor<;>omega
  ·have e:WX (x::r)=WX r:=by unfold WX;rw [List.filter_cons,decide_eq_false hf];rfl
   rw [e,XZ,if_neg hf,UI hs r]
theorem Z0v {side s:Int}:∀{G:List Z6},(∀h∈G,0<=h.amount)->0<=ZE side s (WX G)/\ZE side s (WX G)<=ZE side s G
 | [],_=>by simp [WX,ZE,ZR,XP]
 | x::r,h=>by
  obtain ⟨i1,i2⟩:=Z0v (side:=side) (s:=s) (G:=r) fun z hz=>h z (by simp [hz])
  have hx:=h x (by simp)
  have ha:0<=UG side s x:=by unfold UG;split<;>omega
  rw [ZO]
  unfold WX at*
  rw [List.filter_cons]
  split
  ·rw [ZO];omega
  ·omega
theorem Xc {side s:Int}:∀{G:List Z6},(∀h∈G,0<=h.amount)->0<=ZE side s G
 | [],_=>by simp [ZE,ZR,XP]
 | x::r,h=>by
  have i1:=Xc (side:=side) (s:=s) (G:=r) fun z hz=>h z (by simp [hz])
  have hx:=h x (by simp)
  have ha:0<=UG side s x:=by unfold UG;split<;>omega
  rw [ZO];omega
theorem QX {side s:Int} {L:List Z6} (h:ZR side s L=[]):ZE side s L=0:=by unfold ZE;rw [h];rfl
theorem Z23 (o:Bool) (s m:Int):s<=ZY o s m/\ZY o s m<=s+1:=by unfold ZY;split<;>omega
theorem ZdU {a b:Z6} {m:Int} (h:Xi a b):Xi (stH m a) (stH m b):=by
 unfold Xi at*
 rcases h with h|⟨h1,h2,h3⟩
 ·exact .inl h
 ·refine .inr ⟨h1,h2, ?_⟩
  show min (ZY b.own b.stage m) 5<=min (ZY a.own a.stage m) 5
  have k1:=Z23 a.own a.stage m
  have k2:=Z23 b.own b.stage m
  by_cases e:a.stage=b.stage
  ·rw [h1,e];omega
  ·omega
theorem Z8M {m:Int} {L:List Z6} (h:L.Pairwise Xi):(Yo m L).Pairwise Xi:=by
 unfold Yo
 refine List.Pairwise.filter _ ?_
 exact List.pairwise_map.2 (h.imp fun hab=>ZdU hab)
theorem QY {m:Int} {L:List Z6} {x:Z6} (h:x∈Yo m L):∃z∈L,x=stH m z/\ZY z.own z.stage m≠10:=by
 unfold Yo at h
 obtain ⟨h1,h2⟩:=List.mem_filter.1 h
 obtain ⟨z,hz,rfl⟩:=List.mem_map.1 h1
 exact ⟨z,hz,rfl,of_decide_eq_true h2⟩
theorem QZ {m:Int} {L:List Z6} {x:Z6} (h:x∈ZV m L):∃z∈L,x=stH m z:=by
 unfold ZV at h
 obtain ⟨h1,h2⟩:=List.mem_filter.1 h
 obtain ⟨z,hz,rfl⟩:=List.mem_map.1 h1
 exact ⟨z,hz,rfl⟩
theorem ZkZ (o:Bool):Xy o 5=0:=by unfold Xy;simp
theorem ZdV {H:List Int->List Int} {z:Z6} {m:Int} (hm:1<=m/\m<=4) (h:QW H z=true):QW H (stH m z)=true:=by
 have k:=Z23 z.own z.stage m
 unfold QW at*
 show (if z.fin=0 then decide (ZY z.own z.stage m<6)&&(z.secret==Za) else if z.fin=1 then decide (6<=ZY z.own z.stage m)&&(H z.secret==z.hash) else if z.fin=2 then decide (6<=ZY z.own z.stage m)&&(z.secret==Za) else false)=true
 by_cases h0:z.fin=0
 ·rw [if_pos h0] at h⊢
  simp only [Bool.and_eq_true,decide_eq_true_eq] at h⊢
  refine ⟨?_,h.2⟩
  by_cases h5:z.stage=5
  ·have:ZY z.own z.stage m=5:=by unfold ZY;rw [h5,ZkZ,if_neg (by omega)]
   omega
  ·omega
 ·rw [if_neg h0] at h⊢
  by_cases h1:z.fin=1
  ·rw [if_pos h1] at h⊢
   simp only [Bool.and_eq_true,decide_eq_true_eq] at h⊢
   exact ⟨by omega,h.2⟩
  ·rw [if_neg h1] at h⊢
   by_cases h2:z.fin=2
   ·rw [if_pos h2] at h⊢
    simp only [Bool.and_eq_true,decide_eq_true_eq] at h⊢
    exact ⟨by omega,h.2⟩
   ·rw [if_neg h2] at h;cases h
theorem Z7.Inv.stpX {H:List Int->List Int} {X:Z7} (h:X.Inv H) (m:Int):(stpX X m).Inv H:=by
 unfold Go.Tk.stpX
 split
 case isFalse=>exact h
 rename_i hm
 have hA:∀z∈X.L,0<=z.amount:=fun z hz=>(h.am.am z hz).1
 have hG:∀z∈ZV m X.L,0<=z.amount:=fun z hz=>by
  obtain ⟨y,hy,rfl⟩:=QZ hz
  exact hA y hy
 have hLf:∀z∈Yo m X.L,0<=z.amount:=fun z hz=>by
  obtain ⟨y,hy,rfl,_⟩:=QY hz
  exact hA y hy
 unfold Z0p
 rw [UI h.side]
 have s0:=Z5K m X.side 0 X.L
 have s1:=Z5K m X.side 1 X.L
 have p0:=Z0v (side:=X.side) (s:=0) hG
 have p1:=Z0v (side:=X.side) (s:=1) hG
 have q0:=Xc (side:=X.side) (s:=0) hLf
 have q1:=Xc (side:=X.side) (s:=1) hLf
 have o0:=h.ov0
 rw [Xr] at o0
 have ham0:X.am 0=X.a0:=rfl
 have ham1:X.am 1=X.a1:=rfl
 rw [ham0,if_pos rfl] at o0
 have tb:=Y1 h.tb
 have hr:=h.res
 have ha0:=h.a0
 have ha1:=h.a1
 have o1:ZE X.side 1 X.L=0\/0<=X.a1-ZE X.side 1 X.L-X.res:=by
  rcases h.ov1 with k|k
  ·exact .inl (QX k)
  ·right
   rw [Xr,ham1,if_neg (by decide)] at k
   omega
 have hov:∀(a b s:Int),Y5 { X with L:=Yo m X.L,a0:=a,a1:=b} s=(if s=0 then a else b)-ZE X.side s (Yo m X.L)-X.res-(if s=0 then X.t.fee else 0):=fun a b s=>rfl
 refine ⟨h.tok,h.tb,h.side,h.res, ?_, ?_,h.i0,h.i1, ?_, ?_, ?_,Z8M h.fol, ?_, ?_, ?_⟩
 ·show 0<=_/\_<=X.t.cap
  constructor<;>dsimp only<;>omega
 ·dsimp only;omega
 ·have:=Z22 m X.side 0 X.L
  have k:=h.n0
  unfold Yv at this
  dsimp only;omega
 ·have:=Z22 m X.side 1 X.L
  have k:=h.n1
  unfold Yv at this
  dsimp only;omega
 ·intro x hx
  obtain ⟨z,hz,rfl,hn⟩:=QY hx
  obtain ⟨u1,u2,u3,u4⟩:=YJ (h.und z hz)
  have k:=Z23 z.own z.stage m
  exact VN u1 u2 (show 1<=ZY z.own z.stage m/\ZY z.own z.stage m<=9 by omega) (ZdV hm u4)
 ·rw [hov,if_pos rfl,if_pos rfl];omega
 ·rcases h.ov1 with k|k
  ·left
   rw [U4] at k⊢
   have:=Z22 m X.side 1 X.L
   show Yv X.side 1 (Yo m X.L)=0
   omega
  ·right
   rw [Xr,ham1,if_neg (by decide)] at k
   rw [hov,if_neg (by decide),if_neg (by decide)];omega
 ·intro x hx
  obtain ⟨z,hz,rfl,_⟩:=QY hx
  have:=h.ok z hz
  exact ⟨this.hash,this.hb,this.secret,this.sb⟩
theorem Z1r (x:Z6) (r:List Z6):Ym (x::r)=if YE x.own x.stage=0 then Ym r else brH x::Ym r:=by
 unfold Ym
 rw [List.filter_cons]
 by_cases h:YE x.own x.stage=0<;>simp [h]
theorem Z1s (x:Z6) (r:List Z6):ZL (x::r)=if YE x.own x.stage=0 then x::ZL r else ZL r:=by
 unfold ZL
 rw [List.filter_cons]
 by_cases h:YE x.own x.stage=0<;>simp [h]
theorem Wd (x:Z6):(brH x).own=x.own/\(brH x).id=x.id/\(brH x).amount=x.amount/\(brH x).hash=x.hash/\(brH x).expiry=x.expiry:=by
 unfold brH;split<;>exact ⟨rfl,rfl,rfl,rfl,rfl⟩
theorem Z24 (side s:Int):∀L,ZE side s L=ZE side s (Ym L)+ZE side s (ZL L)
 | []=>rfl
 | x::r=>by
  have ih:=Z24 side s r
  have e:UG side s (brH x)=UG side s x:=by unfold UG;rw [(Wd x).1,(Wd x).2.2.1]
  rw [Z1r,Z1s,ZO]
  split
  ·rw [ZO];omega
  ·rw [ZO,e];omega
theorem Z25 (side s:Int):∀L,Yv side s L=Yv side s (Ym L)+Yv side s (ZL L)
 | []=>rfl
 | x::r=>by
  have ih:=Z25 side s r
  have e:UH side s (brH x)=UH side s x:=by unfold UH;rw [(Wd x).1]
  rw [Z1r,Z1s,Yb]
  split
  ·rw [Yb];omega
  ·rw [Yb,e];omega
theorem Z3t {o:Bool} {s:Int} (hs:1<=s/\s<=9):YE o s=0↔o=false/\s=1:=by
 unfold YE
 split
 ·rename_i h
  rcases h with h|h|h
  ·omega
  ·omega
  ·exact ⟨fun _=>h,fun _=>rfl⟩
 ·rename_i h
  have h1:¬(o=false/\s=1):=fun q=>h (.inr (.inr q))
  split<;>exact ⟨fun q=>by omega,fun q=>absurd q h1⟩
theorem Z26 {o:Bool} {s:Int} (hs:1<=s/\s<=9) (h0:YE o s≠0):YE o s=if o=true/\s=6 then 5 else s:=by
 have:¬(s<1\/10<s\/(o=false/\s=1)):=fun q=>by
  rcases q with q|q|q
  ·omega
  ·omega
  ·exact h0 ((Z3t hs).2 q)
 unfold YE
 rw [if_neg this]
theorem Z73 {x:Z6} (hs:1<=x.stage/\x.stage<=9) (h0:YE x.own x.stage≠0):(brH x).stage=YE x.own x.stage:=by
 unfold brH;split
 ·rename_i h;exact h.symm
 ·rfl
theorem ZdW {x:Z6} (hs:1<=x.stage/\x.stage<=9) (h0:YE x.own x.stage≠0):min (brH x).stage 5=min x.stage 5:=by
 rw [Z73 hs h0,Z26 hs h0]
 split
 ·rename_i h;rw [h.2];rfl
 ·rfl
theorem Z3u {L:List Z6} {x:Z6} (h:x∈Ym L):∃z∈L,x=brH z/\YE z.own z.stage≠0:=by
 unfold Ym at h
 obtain ⟨z,hz,rfl⟩:=List.mem_map.1 h
 obtain ⟨h1,h2⟩:=List.mem_filter.1 hz
 exact ⟨z,h1,rfl,by simpa using h2⟩
theorem U5 {L:List Z6} {x:Z6} (h:x∈ZL L):x∈L/\YE x.own x.stage=0:=by
 unfold ZL at h
 obtain ⟨h1,h2⟩:=List.mem_filter.1 h
 exact ⟨h1,by simpa using h2⟩
theorem Z15:∀{G:List Z6} {z N:Int},z<N->(∀g∈G,z<g.id/\g.id<N)->G.Pairwise (fun a b=>a.id<b.id)->z+G.length<N
 | [],z,N,h,_,_=>by simpa using h
 | g::r,z,N,h,hg,hp=>by
  obtain ⟨h1,h2⟩:=List.pairwise_cons.1 hp
  have k:=hg g (by simp)
  have:=Z15 (G:=r) (z:=g.id) (N:=N) k.2 (fun y hy=>⟨h1 y hy,(hg y (by simp [hy])).2⟩) h2
  rw [List.length_cons];omega
theorem Z7.Inv.brIds {H:List Int->List Int} {X:Z7} (h:X.Inv H):(ZL X.L).Pairwise (fun a b=>a.id<b.id)/\∀g∈ZL X.L,g.own=false/\g.stage=1/\0<=g.id/\g.id<X.i1:=by
 have hm:∀g∈ZL X.L,g.own=false/\g.stage=1/\0<=g.id/\g.id<X.i1:=fun g hg=>by
  obtain ⟨h1,h2⟩:=U5 hg
  obtain ⟨u1,u2,u3,u4⟩:=YJ (h.und g h1)
  have k:=(Z3t u3).1 h2
  have:=Z21 u1
  rw [k.1] at u2
  exact ⟨k.1,k.2,this.1.1,u2⟩
 refine ⟨?_,hm⟩
 have hp:(ZL X.L).Pairwise Xi:=List.Pairwise.filter _ h.fol
 refine List.Pairwise.imp_of_mem (fun {a b} ha hb hab=> ?_) hp
 rcases hab with ⟨k,_⟩|⟨_,k,_⟩
 ·rw [(hm a ha).1] at k;cases k
 ·exact k
theorem Z7.Inv.brLt {H:List Int->List Int} {X:Z7} (h:X.Inv H) {z:Z6} (hz:z∈X.L) (h0:YE z.own z.stage≠0) (ho:z.own=false):z.id+(ZL X.L).length<X.i1:=by
 obtain ⟨hp,hm⟩:=h.brIds
 obtain ⟨u1,u2,u3,u4⟩:=YJ (h.und z hz)
 rw [ho] at u2
 refine Z15 (show z.id<X.i1 from u2) (fun g hg=> ?_) hp
 have k:=hm g hg
 refine ⟨?_,k.2.2.2⟩
 have hzs:z.stage≠1:=fun e=>h0 ((Z3t u3).2 ⟨ho,e⟩)
 have hgm:=(U5 hg).1
 obtain ⟨i,hi,rfl⟩:=List.getElem_of_mem hz
 obtain ⟨j,hj,rfl⟩:=List.getElem_of_mem hgm
 have hpw:=List.pairwise_iff_getElem.1 h.fol
 rcases Nat.lt_trichotomy i j with e|e|e
 ·rcases hpw i j hi hj e with ⟨q,_⟩|⟨_,q,_⟩
  ·rw [ho] at q;cases q
  ·exact q
 ·subst e;exact absurd k.2.1 hzs
 ·rcases hpw j i hj hi e with ⟨q,_⟩|⟨_,_,q⟩
  ·rw [k.1] at q;cases q
  ·rw [k.2.1] at q;omega
theorem Z7.Inv.brkX {H:List Int->List Int} {X:Z7} (h:X.Inv H):(brkX X).Inv H:=by
 unfold Go.Tk.brkX
 have hA:∀z∈X.L,0<=z.amount:=fun z hz=>(h.am.am z hz).1
 have hG:∀z∈ZL X.L,0<=z.amount:=fun z hz=>hA z (U5 hz).1
 have s0:=Z24 X.side 0 X.L
 have s1:=Z24 X.side 1 X.L
 have p0:=Xc (side:=X.side) (s:=0) hG
 have p1:=Xc (side:=X.side) (s:=1) hG
 have hov:∀s,Y5 { X with L:=Ym X.L,i1:=X.i1-(ZL X.L).length} s=Y5 X s+ZE X.side s (ZL X.L):=fun s=>by
  have:Y5 { X with L:=Ym X.L,i1:=X.i1-(ZL X.L).length} s=X.am s-ZE X.side s (Ym X.L)-X.res-(if s=0 then X.t.fee else 0):=rfl
  rw [this,Xr,Z24 X.side s X.L];omega
 obtain ⟨hp,hm⟩:=h.brIds
 have hcnt: -1+((ZL X.L).length:Int)<X.i1:=Z15 (by have:=h.i1;omega) (fun g hg=>⟨by have:=(hm g hg).2.2.1;omega,(hm g hg).2.2.2⟩) hp
 refine ⟨h.tok,h.tb,h.side,h.res,h.a0,h.a1,h.i0, ?_, ?_, ?_, ?_, ?_, ?_, ?_, ?_⟩
 ·have:=h.i1
  dsimp only;omega
 ·have:=Z25 X.side 0 X.L
  have k:=h.n0
  unfold Yv at this
  dsimp only;omega
 ·have:=Z25 X.side 1 X.L
  have k:=h.n1
  unfold Yv at this
  dsimp only;omega
 ·intro x hx
  obtain ⟨z,hz,rfl,h0⟩:=Z3u hx
  obtain ⟨u1,u2,u3,u4⟩:=YJ (h.und z hz)
  obtain ⟨e1,e2,e3,e4,e5⟩:=Wd z
  refine VN ?_ ?_ ?_ ?_
  ·unfold Yj at*;rw [e2,e3,e5];exact u1
  ·rw [e1,e2]
   cases ho:z.own
   ·have:=h.brLt hz h0 ho
    show z.id<X.i1-_
    omega
   ·rw [ho] at u2;exact u2
  ·rw [Z73 u3 h0,Z26 u3 h0];split<;>omega
  ·unfold brH
   split
   ·simp [QW]
   ·rename_i h5
    have:YE z.own z.stage=z.stage:=by
     rw [Z26 u3 h0] at h5⊢
     split
     ·rename_i q;rw [if_pos q] at h5;exact absurd rfl h5
     ·rfl
    rw [this];exact u4
 ·unfold Ym
  refine List.pairwise_map.2 ?_
  refine List.Pairwise.imp_of_mem (fun {a b} ha hb hab=> ?_) (List.Pairwise.filter _ h.fol)
  obtain ⟨ha1,ha2⟩:=List.mem_filter.1 ha
  obtain ⟨hb1,hb2⟩:=List.mem_filter.1 hb
  have ka:=ZdW (YJ (h.und a ha1)).2.2.1 (by simpa using ha2)
  have kb:=ZdW (YJ (h.und b hb1)).2.2.1 (by simpa using hb2)
  refine Z71 ?_ ?_ hab
  ·unfold Vq;rw [(Wd a).1,(Wd a).2.1,(Wd a).2.2.1,ka]
  ·unfold Vq;rw [(Wd b).1,(Wd b).2.1,(Wd b).2.2.1,kb]
 ·rw [hov];have:=h.ov0;omega
 ·rcases h.ov1 with k|k
  ·left
   rw [U4] at k⊢
   have:=Z25 X.side 1 X.L
   show Yv X.side 1 (Ym X.L)=0
   omega
  ·right;rw [hov];omega
 ·intro x hx
  obtain ⟨z,hz,rfl,_⟩:=Z3u hx
  have:=h.ok z hz
  unfold brH
  split
  ·exact ⟨this.hash,this.hb,rfl,Xw⟩
  ·exact ⟨this.hash,this.hb,this.secret,this.sb⟩
end Go.Tk
end
section
namespace Go.Tk
open IntKind (i64 u8 u32 u64 wrap)
theorem Y9 {L:List Z6} {i:Nat} (hi:i<L.length):L.take (i+1)=L.take i++[L.getD i Z8]:=by
 rw [List.take_succ_eq_append_getElem hi,List.getD_eq_getElem?_getD,List.getElem?_eq_getElem hi];rfl
theorem VO (p:Z6->Bool) (x:Z6):[x].filter p=X4 (p x) x:=by
 rw [List.filter_cons]
 cases p x<;>rfl
theorem Z00 (m:Int) (A:List Z6) (x:Z6):ZV m (A++[x])=ZV m A++X4 (decide (ZY x.own x.stage m=10)) (stH m x):=by
 unfold ZV
 rw [List.map_append,List.filter_append,List.map_cons,List.map_nil,VO];rfl
theorem Z3v (m:Int) (A:List Z6) (x:Z6):Yo m (A++[x])=Yo m A++X4 (decide (¬ZY x.own x.stage m=10)) (stH m x):=by
 unfold Yo
 rw [List.map_append,List.filter_append,List.map_cons,List.map_nil,VO];rfl
theorem Z3w (m:Int) (A:List Z6) (x:Z6):Yp m (A++[x])=Yp m A++X4 (decide (x.stage=4/\Xy x.own 4=m)) (stH m x):=by
 unfold Yp
 rw [List.filter_append,List.map_append,VO]
 cases decide (x.stage=4/\Xy x.own 4=m)<;>rfl
theorem ZdX (m side:Int) (p:Int×Int) (A:List Z6) (x:Z6):Z0p m side p (A++[x])=if ZY x.own x.stage m=10 then XZ side (Z0p m side p A) (stH m x) else Z0p m side p A:=by
 unfold Z0p
 rw [Z00,List.foldl_append]
 by_cases h:ZY x.own x.stage m=10
 ·rw [decide_eq_true h,if_pos h];rfl
 ·rw [decide_eq_false h,if_neg h];rfl
theorem Z4H {side s:Int} {G:List Z6} {n:Nat} (hn:G.length<=n) (h:∀x∈G,0<=x.amount/\x.amount<=1125899906842624):0<=ZE side s G/\ZE side s G<=1125899906842624*n:=by
 unfold ZE
 have:=Z12 (xs:=XP (ZR side s G)) fun x hx=>by
  obtain ⟨z,hz,rfl⟩:=List.mem_map.1 hx
  exact h z (List.mem_filter.1 hz).1
 have h2:(XP (ZR side s G)).length<=n:=by
  unfold XP;rw [List.length_map]
  exact Nat.le_trans (Z5E side s G) hn
 omega
theorem Z8N {m side:Int} {a b:Int} {A:List Z6} (hs:side=0\/side=1) (hn:A.length<=16) (hA:∀x∈A,0<=x.amount/\x.amount<=1125899906842624) (ha:0<=a/\a<=1125899906842624) (hb:0<=b/\b<=1125899906842624):
  (-1152921504606846976<=(Z0p m side (a,b) A).1/\(Z0p m side (a,b) A).1<=1152921504606846976)/\ -1152921504606846976<=(Z0p m side (a,b) A).2/\(Z0p m side (a,b) A).2<=1152921504606846976:=by
 unfold Z0p
 rw [UI hs]
 have hl:(ZV m A).length<=16:=by
  unfold ZV
  refine Nat.le_trans (List.length_filter_le _ _) ?_
  rw [List.length_map];exact hn
 have hG:∀z∈ZV m A,0<=z.amount/\z.amount<=1125899906842624:=fun z hz=>by
  obtain ⟨y,hy,rfl⟩:=QZ hz
  exact hA y hy
 have p0:=Z0v (side:=side) (s:=0) fun z hz=>(hG z hz).1
 have p1:=Z0v (side:=side) (s:=1) fun z hz=>(hG z hz).1
 have q0:=Z4H (side:=side) (s:=0) hl hG
 have q1:=Z4H (side:=side) (s:=1) hl hG
 dsimp only
 omega
def stX (X:Z7) (m:Int) (i:Nat):Z7:={ X with a0:=(Z0p m X.side (X.a0,X.a1) (X.L.take i)).1,a1:=(Z0p m X.side (X.a0,X.a1) (X.L.take i)).2}
theorem Z74 {X:Z7} {m:Int} {i:Nat} (hi:i<X.L.length):stX X m (i+1)=if ZY (X.L.getD i Z8).own (X.L.getD i Z8).stage m=10 then { stX X m i with a0:=(XZ X.side ((stX X m i).a0,(stX X m i).a1) (stH m (X.L.getD i Z8))).1,a1:=(XZ X.side ((stX X m i).a0,(stX X m i).a1) (stH m (X.L.getD i Z8))).2} else stX X m i:=by
 unfold stX
 rw [Y9 hi,ZdX]
 by_cases h:ZY (X.L.getD i Z8).own (X.L.getD i Z8).stage m=10
 ·rw [if_pos h,if_pos h]
 ·rw [if_neg h,if_neg h]
theorem Z3x (m:Int) (A:List Z6):(ZV m A).length<=A.length:=by
 unfold ZV;refine Nat.le_trans (List.length_filter_le _ _) ?_;rw [List.length_map];exact Nat.le_refl _
theorem Z75 (m:Int) (A:List Z6):(Yo m A).length<=A.length:=by
 unfold Yo;refine Nat.le_trans (List.length_filter_le _ _) ?_;rw [List.length_map];exact Nat.le_refl _
theorem Z3y (m:Int) (A:List Z6):(Yp m A).length<=A.length:=by
 unfold Yp;rw [List.length_map];exact List.length_filter_le _ _
def Z76 (X:Z7) (m:Int) (n:Nat):Prop:=X.L.length=n/\n<=16/\(1<=m/\m<=4)/\(X.side=0\/X.side=1)/\(∀h∈X.L,(1<=h.stage/\h.stage<=9)/\0<=h.amount/\h.amount<=1125899906842624)/\(0<=X.a0/\X.a0<=1125899906842624)/\0<=X.a1/\X.a1<=1125899906842624
theorem Z4I {X:Z7} {m:Int} {n i:Nat} (h:Z76 X m n):(-1152921504606846976<=(stX X m i).a0/\(stX X m i).a0<=1152921504606846976)/\ -1152921504606846976<=(stX X m i).a1/\(stX X m i).a1<=1152921504606846976:=
 Z8N h.2.2.2.1 (by rw [List.length_take];have:=h.1;have:=h.2.1;omega) (fun x hx=>(h.2.2.2.2.1 x (List.mem_of_mem_take hx)).2) h.2.2.2.2.2.1 h.2.2.2.2.2.2
def Zgs (X:Z7) (m:Int) (n i:Nat):St:=stS (stX X m i) X.L m n i (ZV m (X.L.take i)) (Yp m (X.L.take i)) (Yo m (X.L.take i))
def Zgt (X:Z7) (m:Int) (n i:Nat):St:=stE (stX X m i) X.L m n (ZV m (X.L.take i)) (Yp m (X.L.take i)) (Yo m (X.L.take i))
noncomputable def Zgu (X:Z7) (m:Int) (n:Nat) (C:Prop) (E:Nat->St):Zh:=Zgp.withL 27 1 (goM 2 (stS X X.L m n 0 [] [] []) C (Yu 1 n 9 (fun i=>i<n) (fun i=>i=n) (fun _=>False) (fun _=>False) E E E))
theorem Z9T:Zgp.Ok:=Zh.withP_ok Zu Zjo
theorem Zl0 (X:Z7) (m:Int) (n i:Nat) (hC:Z76 X m n) (hi:i<=n):ZB Zgp 20 27 1 2 (Zgs X m n i) (rdM 2 1 9 (Zgs X m n (i+1)) (Zgt X m n i) (Zgt X m n i) (Zgt X m n i) (i<n/\i<n) (i=n) False False):=by
 obtain ⟨h1,h2,h3,h4,h5,h6⟩:=id hC
 have hlt:i<n->i<X.L.length:=fun h=>by omega
 have l0:(X.L.take i).length<=16:=by rw [List.length_take];omega
 have l1:=Z3x m (X.L.take i)
 have l2:=Z3y m (X.L.take i)
 have l3:=Z75 m (X.L.take i)
 refine ZkY (stX X m i) (stX X m (i+1)) X.L m n i (X.L.getD i Z8) _ _ _ _ _ _ (i<n/\i<n) (i=n) (by omega) h1 hi h3 (show 0<=X.side/\X.side<=1 by omega) (fun _=>rfl) (fun h=>(h5 _ (ZD (hlt h))).1) ⟨by omega,by omega,by omega⟩ (fun h=> ?_) (fun h=> ?_) (fun h=> ?_) (fun h=>Z74 (hlt h)) (fun h _ _=> ?_) (fun h=>⟨h,h⟩) (fun h=>h)
 ·rw [Y9 (hlt h),Z00]
 ·rw [Y9 (hlt h),Z3w]
 ·rw [Y9 (hlt h),Z3v]
 ·obtain ⟨b1,b2⟩:=Z4I (i:=i) hC
  have:=(h5 _ (ZD (hlt h))).2
  exact ⟨b1,b2,this.1,by omega⟩
theorem Zgv (X:Z7) (m:Int) (n:Nat):(Zgu X m n (Z76 X m n) (Zgt X m n)).Ok:=
 Zh.withGoM (N:=20) (S:=Zgs X m n) Z9T (by kernel_rfl) fun hC=>⟨rfl,fun i hi _=>Zl0 X m n i hC hi⟩
theorem ZmZ (X X':Z7) (m:Int) (n l g d:Nat) (G Hd:List Z6) (C:Prop) (XF:Nat->Z7) (GF HF LF:Nat->List Z6) (hC:C) (hn:n<=16) (hm:1<=m/\m<=4) (hcap:X.t.cap≠0) (hG:G=GF n) (hH:Hd=HF n) (hX':X'={ XF n with L:=LF n}) (hl:l=X'.L.length) (hg:g=G.length) (hd:d=Hd.length):
  evF (Zgu X m n C fun i=>stE (XF i) X.L m n (GF i) (HF i) (LF i)) 20 27 [.ptr (some ⟨0,0,0,0,0⟩),.int .i64 m] (Z5I X n) (ZX 2 (.ret (.tuple [.nslice ⟨4,0,70,0,0⟩ 70 d d,.nslice ⟨3,0,70,0,0⟩ 70 g g,.int .i64 0])) 5 [(0,.flat (X'.c (.nslice ⟨2,0,70,0,0⟩ 70 l l))),(2,.rows 70 l (Z4 X'.L)),(3,.rows 70 g (Z4 G)),(4,.rows 70 d (Z4 Hd))]):=by
 refine @Eq.mpr _ (let q1:=X.t;let q2:=q1.cap;let q3:=decide (d=0);let q4:=decide (g=0);let q5:=Z0 q3 (Z0 q3 (Z0 q4 (Z0 q4 False False) False) False) False;let q6:=decide (n=n);let q7:=decide (n<=n);let q8:=q1.fund;let q9:=q1.index;let q10:=q1.dust;let q11:=q1.fee;let q12:=q1.delay;let q13:=q1.k0;let q14:=q1.k1;let q15:=[X.a0,X.a1];let q16:=[X.i0,X.i1];let q17:=Z4 X.L;let q18:=X'.t;let q19:=[(2,4),(3,2),(4,3)];
 Z0 (q2==0) q5
 (Z0 (decide (1<=m))
 (Z0 (!decide (m<=4)) q5
 (Z0 (decide ((↑n:Int)=(↑n:Int)))
 (Z0 q6
 (Z0 q7
 (Z0 (decide (m=m))
 (q8=q8/\
 Z0 (decide (q9=q9))
 (Z0 (decide (q2=q2))
 (Z0 (decide (q10=q10))
 (Z0 (decide (q11=q11))
 (Z0 (decide (q12=q12))
 (q13=q13/\
 q14=q14/\
 Z0 (decide (X.side=X.side))
 (Z0 (decide (X.res=X.res))
 (q15=q15/\
 q16=q16/\
 Z0 q6
 (Z0 q7
 (Z0 q6
 (Zc 2 [(2,2)] n q17 q17/\
 C/\
 ∀(i:Nat),
 let q39:=decide (List.length (HF i)=d);let q40:=decide (List.length (GF i)=g);let q41:=(XF i).t;let q42:=decide (List.length (LF i)=l);
 i<=n->(∀(j:Nat),j<i->(fun (i:Nat)=>i<n) j)->(i=n->Z0 q39 (Z0 (decide (d<=List.length (HF i))) (Z0 q40 (Z0 (decide (g<=List.length (GF i))) (q41.fund=q18.fund/\Z0 (decide (q41.index=q18.index)) (Z0 (decide (q41.cap=q18.cap)) (Z0 (decide (q41.dust=q18.dust)) (Z0 (decide (q41.fee=q18.fee)) (Z0 (decide (q41.delay=q18.delay)) (q41.k0=q18.k0/\q41.k1=q18.k1/\Z0 (decide ((XF i).side=X'.side)) (Z0 (decide ((XF i).res=X'.res)) ([(XF i).a0,(XF i).a1]=[X'.a0,X'.a1]/\[(XF i).i0,(XF i).i1]=[X'.i0,X'.i1]/\Z0 q42 (Z0 (decide (l<=List.length (LF i))) (Z0 q42 (Zc 2 q19 l (Z4 X'.L) (Z4 (LF i))/\Z0 q40 (Zc 2 q19 g (Z4 G) (Z4 (GF i))/\Z0 q39 (Zc 2 q19 d (Z4 Hd) (Z4 (HF i))/\True) False) False) False) False) False) False) False) False) False) False) False) False) False) False) False) False)/\(False->False)/\(False->False))
 False)
 False)
 False)
 False)
 False)
 False)
 False)
 False)
 False)
 False)
 False)
 False)
 False)
 False))
 q5)) (by kernel_rfl) ?_
 conv=>zeta
 try simp only [Zi]
 try simp only [Zj]
 try simp only [Zf]
 try simp only [Zk]
 try simp only [Zl]
 try simp only [Zg]
 try simp only [Int.toNat_natCast,Nat.zero_add,true_and,and_true,Nat.le_refl]
 subst hG hH hX'
 have hR:∀τ k (Q:List Z6),Zc 2 τ k (Z4 Q) (Z4 Q):=fun τ k Q=>Zp fun _ _=>rfl
 have hcap':(X.t.cap==0)=false:=by simpa using hcap
 rw [hcap']
 refine ⟨fun h=>(by cases h),fun _=>⟨fun h1=>⟨fun h2=> ?_,fun _=>⟨hR _ _ _,hC,fun i hi _=>⟨fun he=> ?_,fun h=>h.elim,fun h=>h.elim⟩⟩⟩,fun h=>absurd hm.1 h⟩⟩
 ·have:¬m<=4:=by simpa using h2
  exact absurd hm.2 this
 ·subst he
  repeat' apply And.intro
  all_goals first|rfl|exact hR _ _ _|exact hl.symm|exact hg.symm|exact hd.symm|exact Nat.le_of_eq hl|exact Nat.le_of_eq hg|exact Nat.le_of_eq hd
theorem Zn0 (X:Z7) (m:Int) (n:Nat) (C:Prop) (hcap:X.t.cap≠0) (hm:¬(1<=m/\m<=4)):
  evF (Zgu X m n C fun _=>stE X [] m n [] [] []) 20 27 [.ptr (some ⟨0,0,0,0,0⟩),.int .i64 m] (Z5I X n) (ZX 2 (.ret (.tuple [.nilslice,.nilslice,.int .i64 2])) 2 [(0,.flat (X.c (.nslice ⟨1,0,70,0,0⟩ 70 n n))),(1,.rows 70 n (Z4 X.L))]):=by
 refine @Eq.mpr _ (let q1:=X.t;let q2:=q1.cap;let q3:=q1.fund;let q4:=q3=q3;let q5:=q1.index;let q6:=decide (q5=q5);let q7:=decide (q2=q2);let q8:=q1.dust;let q9:=decide (q8=q8);let q10:=q1.fee;let q11:=decide (q10=q10);let q12:=q1.delay;let q13:=decide (q12=q12);let q14:=q1.k0;let q15:=q14=q14;let q16:=q1.k1;let q17:=q16=q16;let q18:=decide (X.side=X.side);let q19:=decide (X.res=X.res);let q20:=[X.a0,X.a1];let q21:=q20=q20;let q22:=[X.i0,X.i1];let q23:=q22=q22;let q24:=decide (n=n);let q25:=decide (n<=n);let q26:=Z4 X.L;let q27:=q4/\Z0 q6 (Z0 q7 (Z0 q9 (Z0 q11 (Z0 q13 (q15/\q17/\Z0 q18 (Z0 q19 (q21/\q23/\Z0 q24 (Z0 q25 (Z0 q24 (Zc 2 [] n q26 q26/\True) False) False) False) False) False) False) False) False) False) False;
 Z0 (q2==0) False (Z0 (decide (1<=m)) (Z0 (!decide (m<=4)) q27 (Z0 (decide ((↑n:Int)=(↑n:Int))) (Z0 q24 (Z0 q25 (Z0 (decide (m=m)) (q4/\Z0 q6 (Z0 q7 (Z0 q9 (Z0 q11 (Z0 q13 (q15/\q17/\Z0 q18 (Z0 q19 (q21/\q23/\Z0 q24 (Z0 q25 (Z0 q24 (Zc 2 [(2,2)] n q26 q26/\C/\∀(i:Nat),i<=n->(∀(j:Nat),j<i->(fun (i:Nat)=>i<n) j)->(i=n->False)/\(False->False)/\(False->False)) False) False) False) False) False) False) False) False) False) False) False) False) False) False)) q27)) (by kernel_rfl) ?_
 conv=>zeta
 try simp only [Zi]
 try simp only [Zj]
 try simp only [Zf]
 try simp only [Zk]
 try simp only [Zl]
 try simp only [Zg]
 try simp only [Int.toNat_natCast,Nat.zero_add,true_and,and_true,Nat.le_refl]
 have hR:∀τ k (Q:List Z6),Zc 2 τ k (Z4 Q) (Z4 Q):=fun τ k Q=>Zp fun _ _=>rfl
 refine ⟨by simpa using hcap,fun h1=>⟨fun _=>hR _ _ _,fun h2=> ?_⟩,fun _=>hR _ _ _⟩
 have:m<=4:=by simpa using h2
 exact absurd ⟨h1,this⟩ hm
theorem Xg {t:X3} (h:W5 t=true):t.cap≠0:=by have:=Y1 h;omega
theorem Z7.Inv.st {H:List Int->List Int} {X:Z7} (h:X.Inv H) {m:Int} (hm:1<=m/\m<=4):Z76 X m X.L.length:=
 ⟨rfl,h.len,hm,h.side,fun z hz=>⟨(YJ (h.und z hz)).2.2.1,h.am.am z hz⟩,by have:=h.a0;have:=Y1 h.tb;omega,by have:=h.a0;have:=h.a1;have:=Y1 h.tb;omega⟩
theorem Z9U {X:Z7} {m:Int} (hm:1<=m/\m<=4):stpX X m={ stX X m X.L.length with L:=Yo m X.L}:=by
 unfold stpX stX
 rw [if_pos hm,List.take_length]
def ZdY (c:Bool):Y8:=fun args h K=>match args with
 | [.ptr (some ⟨l,0,0,0,0⟩),_]=>match h.get l with
  |some (.flat [_,_,_,_,_,_,_,_,_,_,_,_,.nslice ⟨b,0,70,0,0⟩ 70 _ _])=>frA [l,b] h 20 args fun Bs a=>match Bs,a with
   | [.flat cs,.rows 70 n f],[.ptr (some ⟨0,0,0,0,0⟩),.int .i64 m]=>
    ∃X,LB cs n f X/\X.Inv Zr/\(match c with
     | true=>(1<=m/\m<=4)/\K (.ret (.tuple [.nslice ⟨h.next+2,0,70,0,0⟩ 70 (Yp m X.L).length (Yp m X.L).length,.nslice ⟨h.next+1,0,70,0,0⟩ 70 (ZV m X.L).length (ZV m X.L).length,.int .i64 0])) ⟨h.next+3,(l,.flat ((stpX X m).c (.nslice ⟨h.next,0,70,0,0⟩ 70 (stpX X m).L.length (stpX X m).L.length)))::(h.next,.rows 70 (stpX X m).L.length (Z4 (stpX X m).L))::(h.next+1,.rows 70 (ZV m X.L).length (Z4 (ZV m X.L)))::(h.next+2,.rows 70 (Yp m X.L).length (Z4 (Yp m X.L)))::Ye (Ye h.bs l) b⟩
     | false=>¬(1<=m/\m<=4)/\K (.ret (.tuple [.nilslice,.nilslice,.int .i64 2])) ⟨h.next,(l,.flat (X.c (.nslice ⟨b,0,70,0,0⟩ 70 X.L.length X.L.length)))::(b,.rows 70 X.L.length (Z4 X.L))::Ye (Ye h.bs l) b⟩)
   | _,_=>False
  | _=>False
 | _=>False
theorem ZdZ (c:Bool) (args:List AV) (h:Z9) (K:KO) (hl:ZdY c args h K):Zn PP 27 args h K:=by
 unfold ZdY at hl
 split at hl
 ·split at hl
  ·refine Spec.fsumm hl fun Bs a hlen hK0=> ?_
   split at hK0
   ·rename_i cs n f m
    obtain ⟨X,⟨rfl,rfl,rfl⟩,hI,hK⟩:=hK0
    cases c with
    | true=>
     obtain ⟨hm,hK1⟩:=hK
     have e:=Z9U (X:=X) hm
     have hv:=ZmZ X (stpX X m) m X.L.length _ _ _ (ZV m X.L) (Yp m X.L) (Z76 X m X.L.length) (stX X m) (fun i=>ZV m (X.L.take i)) (fun i=>Yp m (X.L.take i)) (fun i=>Yo m (X.L.take i)) (hI.st hm) hI.len hm (Xg hI.tb) (by rw [List.take_length]) (by rw [List.take_length]) (by dsimp only;rw [List.take_length];exact e) rfl rfl rfl
     exact ⟨_,_,_,_,_,.evM (Zgv X m _) hv,by simp,.ret _ _ rfl,.cons _ _ _ _ _ _ rfl (.flat _ _ rfl) (.cons _ _ _ _ _ _ rfl (.rows _ _ _ (fun _ _=>rfl)) (.cons _ _ _ _ _ _ rfl (.rows _ _ _ (fun _ _=>rfl)) (.cons _ _ _ _ _ _ rfl (.rows _ _ _ (fun _ _=>rfl)) .nil))),hK1⟩
    | false=>
     obtain ⟨hm,hK2⟩:=hK
     have hC:(Zgu X m X.L.length False fun _=>stE X [] m X.L.length [] [] []).Ok:=Zh.withGoM (N:=20) (S:=fun i=>Zgs X m X.L.length i) Z9T (by kernel_rfl) fun h=>h.elim
     exact ⟨_,_,_,_,_,.evM hC (Zn0 X m _ False (Xg hI.tb) hm),by simp,.ret _ _ rfl,.cons _ _ _ _ _ _ rfl (.flat _ _ rfl) (.cons _ _ _ _ _ _ rfl (.rows _ _ _ (fun _ _=>rfl)) .nil),hK2⟩
   ·exact hK0.elim
  ·exact hl.elim
 ·exact hl.elim
end Go.Tk
end
