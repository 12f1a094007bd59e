/- V: part 6 of an engine (a symbolic evaluator, proved against the model) and of the walk by it. -/
import Derived.Test.YtjahlbmhknicjaaGreatV5
set_option linter.unusedVariables false
set_option linter.unusedSimpArgs false
set_option maxRecDepth 100000
set_option maxHeartbeats 0
section
namespace Go.Tk
open IntKind (i64 u8 u32 u64 wrap)
def Yl:Z6:=⟨⟨Zd,0,0,0,0,0,Zd,Zd⟩,0,0,0,0,0,0,[]⟩
def slH (b n:Nat):AV:=.nslice ⟨b,0,70,0,0⟩ 70 n n
def Ug (h:Z5) (p:List Z5×Bool) (x:Z5):List Z5×Bool:=if h.own=true∧x.own=false∧p.2=false then (p.1++[h]++[x],true) else (p.1++[x],p.2)
def Z6k (h:Z5) (p:List Z5×Bool):List Z5:=if p.2=true then p.1 else p.1++[h]
theorem Z6l (h:Z5):∀(L O:List Z5),L.foldl (Ug h) (O,true)=(O++L,true)
 | [],O=>by simp
 | x::r,O=>by
  rw [List.foldl_cons]
  have:Ug h (O,true) x=(O++[x],true):=by simp [Ug]
  rw [this,Z6l h r];simp
theorem Z4a (h:Z5):∀(L O:List Z5),Z6k h (L.foldl (Ug h) (O,false))=O++Xe h L
 | [],O=>by simp [Z6k,Xe]
 | x::r,O=>by
  rw [List.foldl_cons]
  unfold Xe
  by_cases hc:h.own=true∧x.own=false
  ·rw [if_pos hc]
   have:Ug h (O,false) x=(O++[h]++[x],true):=by unfold Ug;rw [if_pos ⟨hc.1,hc.2,rfl⟩]
   rw [this,Z6l]
   simp [Z6k]
  ·rw [if_neg hc]
   have:Ug h (O,false) x=(O++[x],false):=by unfold Ug;rw [if_neg (fun q=>hc ⟨q.1,q.2.1⟩)]
   rw [this,Z4a h r];simp
theorem Z57 (h:Z5):∀(L:List Z5) (p:List Z5×Bool),(L.foldl (Ug h) p).1.length≤p.1.length+2*L.length
 | [],p=>by simp
 | x::r,p=>by
  rw [List.foldl_cons,List.length_cons]
  have:=Z57 h r (Ug h p x)
  have h2:(Ug h p x).1.length≤p.1.length+2:=by unfold Ug;split<;>simp
  omega
def plI (own:Bool):Int:=match own with
 | true=>0
 | false=>1
theorem ZkP (own:Bool) (r:Int) (hr:r=plI own):
  evF G0 20 99 [.bool own] ⟨0,[]⟩ (Y8 (fun v=>v=.int .i64 r)):=by
 refine @Eq.mpr _ (Z0 own (AV.int i64 0=AV.int i64 r) (AV.int i64 1=AV.int i64 r)) (by kernel_rfl) ?_
 subst hr
 cases own<;>exact rfl
def plS:ZN:=fun args _ K=>match args with
 | [.bool own]=>K (.int .i64 (plI own))
 | _=>False
theorem Zhu (args:List AV) (h:Z9) (K:AV→Prop) (hl:plS args h K):Zm PP 99 args h fun o h'=>∃v,o=.ret v∧h'=h∧K v:=by
 unfold plS at hl
 split at hl
 ·exact Yc Zr rfl (ZkP _ _ rfl) (fun u hu=>hu▸hl)
 ·exact hl.elim
theorem ZkQ (X:Z6) (own:Bool) (r:Int) (hX:YN X) (hr:r=ZP X.side own):
  evF G0 20 100 [Z0v X,.bool own] ⟨0,[]⟩ (Y8 (fun v=>v=.int .i64 r)):=by
 refine @Eq.mpr _ (Z0 own (AV.int i64 X.side=AV.int i64 r) (AV.int i64 (wrap i64 (1-X.side))=AV.int i64 r)) (by kernel_rfl) ?_
 subst hr
 obtain ⟨s1,s2⟩:=hX
 rw [w64 (by omega)]
 cases own<;>exact rfl
def sdS:ZN:=fun args h K=>ZO none h true 20 args fun a=>match a with
 | [.agg cs,.bool own]=>∃X,LV cs X∧YN X∧K (.int .i64 (ZP X.side own))
 | _=>False
theorem Z7S (args:List AV) (h:Z9) (K:AV→Prop) (hl:sdS args h K):Zm PP 100 args h fun o h'=>∃v,o=.ret v∧h'=h∧K v:=by
 refine Zw.psumm (d:=20) (Zq _ _ _ _ _ hl fun a ha=> ?_)
 split at ha
 ·obtain ⟨X,hX,hs,hK⟩:=ha
  exact ⟨_,(Zw.evV Zr (ZkQ X _ _ hs rfl)).conv fun E r hr=>hr.head (fun _ hc=>XX hX hc) fun _ hc=>hc,fun _=>rfl,hK⟩
 ·exact ha.elim
theorem ZiL (h:Z5) (z:Int) (b:Bool) (hz:z=0) (hb:b=Yo h):
  evF G0 20 98 [.agg [.int .i64 z,.int .i64 h.id,.int .i64 h.amount,.arr .u8 32 h.hash,.int .i64 h.expiry]] ⟨0,[]⟩ (Y8 (fun v=>v=.bool b)):=by
 refine @Eq.mpr _ (let q1:=h.amount;
 let q2:=AV.bool false=AV.bool b;
 let q3:=Z0 (decide (h.id≥0)) (Z0 (decide (h.id≤2147483647)) (Z0 (decide (q1>0)) (Z0 (decide (q1≥0)) (Z0 (decide (q1≤1125899906842624)) (Z0 (decide (h.expiry≥1)) (AV.bool (decide (h.expiry≤2147483647))=AV.bool b) q2) q2) q2) q2) q2) q2;
 Z0 (z==0) q3 (Z0 (z==1) q3 q2)) (by kernel_rfl) ?_
 conv=>zeta
 subst hz hb
 unfold Yo
 simp only [Vm]
 congr 1
 by_cases h1:0≤h.id<;>by_cases h2:h.id≤2147483647<;>by_cases h3:1≤h.amount<;>by_cases h4:h.amount≤1125899906842624<;>by_cases h5:1≤h.expiry<;>by_cases h6:h.expiry≤2147483647<;>simp [h1,h2,h3,h4,h5,h6]<;>omega
def Zhv:ZN:=fun args _ K=>match args with
 | [.agg [.int .i64 z,.int .i64 id,.int .i64 am,.arr .u8 32 ha,.int .i64 ex]]=>Zu (z=0) (K (.bool (Yo ⟨false,id,am,ha,ex,0,0,[]⟩)))
 | _=>False
theorem Zf5 (args:List AV) (h:Z9) (K:AV→Prop) (hl:Zhv args h K):Zm PP 98 args h fun o h'=>∃v,o=.ret v∧h'=h∧K v:=by
 unfold Zhv at hl
 split at hl
 ·obtain ⟨h1,hK⟩:=Zc hl
  exact Yc Zr rfl (ZiL ⟨false,_,_,_,_,0,0,[]⟩ _ _ h1 rfl) (fun u hu=>hu▸hK)
 ·exact hl.elim
noncomputable def Zhw:Zf:=((((G0.withP 97 Zht).withP 96 ZcD).withP 99 plS).withP 100 sdS).withP 98 Zhv
theorem Z8V:Zhw.Ok:=Zf.withP_ok (Zf.withP_ok (Zf.withP_ok (Zf.withP_ok (Zf.withP_ok Zr Z8U) Z6i) Zhu) Z7S) Zf5
def Z18 (X:Z6) (h:Z5) (own:Bool) (n i:Nat) (d:Bool) (O:List Z5):St:=⟨111,[(20,.int .i64 i),(6,pt 1),(1,.bool own),(19,.bool d),(18,slH 4 O.length),(14,pt 3),(12,pt 2)],⟨5,[(0,.rows 70 n (Z4 X.L)),(1,.flat (X.c (slH 0 n))),(2,.flat (Yl.c .nilslice)),(3,.flat h.c),(4,.rows 70 O.length (Z4 O))]⟩,[]⟩
theorem ZiM (X:Z6) (h:Z5) (own:Bool) (n i:Nat) (x:Z5) (d d1:Bool) (O O1:List Z5) (Z1 Z2:Prop) (hn:n<1000) (hL:X.L.length=n) (hi:i≤n) (hx:i<n→X.L.getD i Z7=x) (hO:O.length<5000) (ho:h.own=own) (h1:i<n→(O1,d1)=Ug h (O,d) x) (hZ1:i<n→Z1) (hZ2:i=n→Z2):
  ZI Zhw 20 34 0 1 (Z18 X h own n i d O) (rdM 1 0 9 (Z18 X h own n (i+1) d1 O1) (Z18 X h own n i d O) (Z18 X h own n i d O) (Z18 X h own n i d O) Z1 Z2 False False):=by
 refine @Eq.mpr _ (let q1:=decide (0≤(↑i:Int)∧(↑i:Int)<(↑n:Int));
 let q2:=0+Int.toNat (↑i:Int);
 let q3:=List.getD X.L q2 Z7;
 let q4:=q3.own;
 let q5:=List.length O;
 let q6:=decide (q5=q5);
 let q7:=q5+1;
 let q8:=decide (q7*112≤140737488355328);
 let q9:=q7+1;
 let q10:=decide (wrap i64 ((↑i:Int)+1)=(↑(i+1):Int));
 let q11:=decide (own=own);
 let q12:=List.length O1;
 let q13:=decide (q9=q12);
 let q14:=decide (n=n);
 let q15:=[(1,1)];
 let q16:=(2,2)::(3,3)::(4,8)::q15;
 let q17:=Z4 X.L;
 let q18:=X.t;
 let q19:=q18.fund;
 let q20:=q19=q19;
 let q21:=q18.index;
 let q22:=decide (q21=q21);
 let q23:=q18.cap;
 let q24:=decide (q23=q23);
 let q25:=q18.dust;
 let q26:=decide (q25=q25);
 let q27:=q18.fee;
 let q28:=decide (q27=q27);
 let q29:=q18.delay;
 let q30:=decide (q29=q29);
 let q31:=q18.k0;
 let q32:=q31=q31;
 let q33:=q18.k1;
 let q34:=q33=q33;
 let q35:=decide (X.side=X.side);
 let q36:=decide (X.res=X.res);
 let q37:=[X.a0,X.a1];
 let q38:=q37=q37;
 let q39:=[X.i0,X.i1];
 let q40:=q39=q39;
 let q41:=decide (n≤n);
 let q42:=Yl.t;
 let q43:=q42.fund;
 let q44:=q43=q43;
 let q45:=q42.k0;
 let q46:=q45=q45;
 let q47:=q42.k1;
 let q48:=q47=q47;
 let q49:=[Yl.a0,Yl.a1];
 let q50:=q49=q49;
 let q51:=[Yl.i0,Yl.i1];
 let q52:=q51=q51;
 let q53:=h.own;
 let q54:=decide (q53=q53);
 let q55:=h.id;
 let q56:=decide (q55=q55);
 let q57:=h.amount;
 let q58:=decide (q57=q57);
 let q59:=h.hash;
 let q60:=q59=q59;
 let q61:=h.expiry;
 let q62:=decide (q61=q61);
 let q63:=h.stage;
 let q64:=decide (q63=q63);
 let q65:=h.fin;
 let q66:=decide (q65=q65);
 let q67:=h.secret;
 let q68:=q67=q67;
 let q69:=Z4 O;
 let q70:=YC [AV.bool q4,AV.int i64 q3.id,AV.int i64 q3.amount,AV.arr u8 32 q3.hash,AV.int i64 q3.expiry,AV.int i64 q3.stage,AV.int i64 q3.fin,AV.arr u8 32 q3.secret] 0 70;
 let q71:=decide (q7=q12);
 let q72:=(2,2)::(3,3)::(4,6)::q15;
 let q73:=Z0 q6 (Z0 q8 (Z0 q10 (Z0 q11 (Z0 (decide (d=d1)) (Z0 q71 (Z0 (decide (q12≤q7)) (Z0 q14 (Za 1 q72 n q17 q17∧q20∧Z0 q22 (Z0 q24 (Z0 q26 (Z0 q28 (Z0 q30 (q32∧q34∧Z0 q35 (Z0 q36 (q38∧q40∧Z0 q14 (Z0 q41 (q44∧q46∧q48∧q50∧q52∧Z0 q54 (Z0 q56 (Z0 q58 (q60∧Z0 q62 (Z0 q64 (Z0 q66 (q68∧Z0 q71 (Za 1 q72 q12 (Z4 O1) (ZW q5 q69 q70)∧Z1) False) False) False) False) False) False) False) False) False) False) False) False) False) False) False) False) False) False) False) False) False) False) False) False;
 let q74:=(2,2)::(3,3)::(4,4)::q15;
 Z0 (decide ((↑i:Int)<(↑n:Int)))
 (Z0 own
 (Z0 q1
 (Z0 (decide (q2<n))
 (Z0 (!q4)
 (Z0 (!d) (Z0 q6 (Z0 q8 (Z0 q1 (Z0 (decide (q2<n)) (Z0 (decide (q7=q7)) (Z0 (decide (q9*112≤140737488355328)) (Z0 q10 (Z0 q11 (Z0 (decide (true=d1)) (Z0 q13 (Z0 (decide (q12≤q9)) (Z0 q14 (Za 1 q16 n q17 q17∧q20∧Z0 q22 (Z0 q24 (Z0 q26 (Z0 q28 (Z0 q30 (q32∧q34∧Z0 q35 (Z0 q36 (q38∧q40∧Z0 q14 (Z0 q41 (q44∧q46∧q48∧q50∧q52∧Z0 q54 (Z0 q56 (Z0 q58 (q60∧Z0 q62 (Z0 q64 (Z0 q66 (q68∧Z0 q13 (Za 1 q16 q12 (Z4 O1) (ZW q7 (ZW q5 q69 (YC [AV.bool q53,AV.int i64 q55,AV.int i64 q57,AV.arr u8 32 q59,AV.int i64 q61,AV.int i64 q63,AV.int i64 q65,AV.arr u8 32 q67] 0 70)) q70)∧Z1) False) False) False) False) False) False) False) False) False) False) False) False) False) False) False) False) False) False) False) False) False) False) False) False) False) False) False) False) (Z0 q1 (Z0 (decide (q2<n)) q73 False) False))
 (Z0 q1 (Z0 (decide (q2<n)) q73 False) False))
 False)
 False)
 (Z0 q1 (Z0 (decide (q2<n)) q73 False) False))
 (Z0 (decide ((↑i:Int)=(↑i:Int))) (Z0 q11 (Z0 (decide (d=d)) (Z0 q6 (Z0 (decide (q5≤q5)) (Z0 q14 (Za 1 q74 n q17 q17∧q20∧Z0 q22 (Z0 q24 (Z0 q26 (Z0 q28 (Z0 q30 (q32∧q34∧Z0 q35 (Z0 q36 (q38∧q40∧Z0 q14 (Z0 q41 (q44∧q46∧q48∧q50∧q52∧Z0 q54 (Z0 q56 (Z0 q58 (q60∧Z0 q62 (Z0 q64 (Z0 q66 (q68∧Z0 q6 (Za 1 q74 q5 q69 q69∧Z2) False) False) False) False) False) False) False) False) False) False) False) False) False) False) False) False) False) False) False) False) False) False)) (by kernel_rfl) ?_
 conv=>zeta
 try simp only [Zg]
 try simp only [Zi]
 try simp only [Zh]
 try simp only [Zj]
 try simp only [Zk]
 try simp only [Ze]
 try simp only [Int.toNat_natCast,Nat.zero_add,true_and,and_true,Nat.le_refl]
 refine ⟨fun hc=> ?_,fun hc=> ?_⟩
 ·have hlt:i<n:=by omega
  rw [hx hlt]
  have h1:=h1 hlt
  have hwr:i64.wrap ((i:Int)+1)=((i+1:Nat):Int):=by rw [w64 (by omega)];omega
  rw [hwr]
  have hR:∀τ k (Q:List Z5),Za 1 τ k (Z4 Q) (Z4 Q):=fun τ k Q=>Zn fun _ _=>rfl
  have hC:∀τ (Q:List Z5) (y:Z5),Za 1 τ (Q++[y]).length (Z4 (Q++[y])) (ZW Q.length (Z4 Q) (YC y.c 0 70)):=fun τ Q y=>Zn fun j hj=>Yt rfl (fun _ _=>rfl) (by simpa using hj)
  have hD:∀τ (Q:List Z5) (y z:Z5),Za 1 τ (Q++[y]++[z]).length (Z4 (Q++[y]++[z])) (ZW (Q.length+1) (ZW Q.length (Z4 Q) (YC y.c 0 70)) (YC z.c 0 70)):=fun τ Q y z=>Zn fun j hj=>Yt (O:=Q++[y]) (by simp) (fun k hk=>Yt rfl (fun _ _=>rfl) hk) (by simpa using hj)
  have no:¬(h.own=true∧x.own=false∧d=false)→O1=O++[x]∧d1=d:=fun q=>by
   unfold Ug at h1
   rw [if_neg q] at h1
   simp only [Prod.mk.injEq] at h1;exact h1
  refine ⟨fun ho1=>⟨by omega,hlt,fun hx1=>⟨fun hd=> ?_,fun hd=> ?_⟩,fun hx1=> ?_⟩,fun ho1=> ?_⟩
  ·have e:h.own=true∧x.own=false∧d=false:=⟨by rw [ho,ho1],by simpa using hx1,by simpa using hd⟩
   unfold Ug at h1
   rw [if_pos e] at h1
   simp only [Prod.mk.injEq] at h1
   obtain ⟨e1,e2⟩:=h1
   subst e1 e2
   repeat' apply And.intro
   all_goals first|omega|rfl|exact hZ1 hlt|exact hD _ _ _ _|exact hR _ _ _|(simp;done)
  ·obtain ⟨e1,e2⟩:=no (fun q=>by rw [q.2.2] at hd;cases hd)
   subst e1 e2
   repeat' apply And.intro
   all_goals first|omega|rfl|exact hZ1 hlt|exact hC _ _ _|exact hR _ _ _|(simp;done)
  ·obtain ⟨e1,e2⟩:=no (fun q=>by rw [q.2.1] at hx1;cases hx1)
   subst e1 e2
   repeat' apply And.intro
   all_goals first|omega|rfl|exact hZ1 hlt|exact hC _ _ _|exact hR _ _ _|(simp;done)
  ·obtain ⟨e1,e2⟩:=no (fun q=>by rw [ho,ho1] at q;cases q.1)
   subst e1 e2
   repeat' apply And.intro
   all_goals first|omega|rfl|exact hZ1 hlt|exact hC _ _ _|exact hR _ _ _|(simp;done)
 ·repeat' apply And.intro
  all_goals first|omega|rfl|exact hZ2 (by omega)|exact Zn fun _ _=>rfl
def QX (X:Z6) (h:Z5) (i:Nat):List Z5×Bool:=(X.L.take i).foldl (Ug h) ([],false)
noncomputable def Z8W (X:Z6) (h:Z5) (own:Bool) (n:Nat) (C:Prop) (E:Nat→St):Zf:=Zhw.withL 34 0 (goM 1 (Z18 X h own n 0 false []) C (Ys 0 n 9 (fun i=>i<n) (fun i=>i=n) (fun _=>False) (fun _=>False) E E E))
theorem ZcJ (X:Z6) (h:Z5) (own:Bool) (n:Nat):(Z8W X h own n (n<1000∧X.L.length=n∧h.own=own) (fun i=>Z18 X h own n i (QX X h i).2 (QX X h i).1)).Ok:=by
 refine Zf.withGoM (N:=20) (S:=fun i=>Z18 X h own n i (QX X h i).2 (QX X h i).1) Z8V (by kernel_rfl) fun hC=>⟨rfl,fun i hi _=> ?_⟩
 obtain ⟨h1,h2,h3⟩:=hC
 have hl:=Z57 h (X.L.take i) ([],false)
 have l0:(X.L.take i).length≤i:=by rw [List.length_take];omega
 have l1:(QX X h i).1.length≤2*i:=by unfold QX;simp only [List.length_nil] at hl;omega
 refine ZiM X h own n i (X.L.getD i Z7) _ _ _ _ _ _ h1 h2 hi (fun _=>rfl) (by omega) h3 (fun q=> ?_) (fun q=>⟨q,q⟩) (fun q=>q)
 show QX X h (i+1)=_
 unfold QX
 rw [UE (Ug h) Z7 (by omega)]
theorem Z6m (X:Z6) (own:Bool) (id am ex:Int) (hash:List Int):Yo ⟨false,id,am,hash,ex,0,0,[]⟩=Yo (YZ X own id am hash ex):=rfl
theorem Zg8 (X:Z6) (own:Bool):[X.i0,X.i1].getD (plI own).toNat 0=X.nx own:=by cases own<;>rfl
theorem ZcK (own:Bool):0≤plI own∧plI own<2:=by cases own<;>exact ⟨by decide,by decide⟩
theorem ZiN (X:Z6) (own:Bool) (n:Nat) (id am ex e:Int) (hash:List Int) (C:Prop) (hL:X.L.length=n) (hI:X.Inv Zo) (he:e=Xp X own id am hash ex) (hne:e≠0):
  evF (Z8W X Z7 own n C fun i=>Z18 X Z7 own n i false []) 20 34 [.agg (X.c (slH 0 n)),.bool own,.int .i64 id,.int .i64 am,.agg [.arr .u8 32 hash],.int .i64 ex] ⟨1,[(0,.rows 70 n (Z4 X.L))]⟩ (Y7 1 (.ret (.tuple [.agg (X.c (slH 0 n)),.int .i64 e])) 1 [(0,.rows 70 n (Z4 X.L))]):=by
 refine @Eq.mpr _ (let q1:=X.t;
 let q2:=q1.fund;
 let q3:=q2=q2;
 let q4:=q1.index;
 let q5:=decide (q4=q4);
 let q6:=q1.cap;
 let q7:=decide (q6=q6);
 let q8:=q1.dust;
 let q9:=decide (q8=q8);
 let q10:=q1.fee;
 let q11:=decide (q10=q10);
 let q12:=q1.delay;
 let q13:=decide (q12=q12);
 let q14:=q1.k0;
 let q15:=q14=q14;
 let q16:=q1.k1;
 let q17:=q16=q16;
 let q18:=X.side;
 let q19:=decide (q18=q18);
 let q20:=X.res;
 let q21:=decide (q20=q20);
 let q22:=[X.a0,X.a1];
 let q23:=q22=q22;
 let q24:=[X.i0,X.i1];
 let q25:=q24=q24;
 let q26:=decide (n=n);
 let q27:=decide (n≤n);
 let q28:=Z4 X.L;
 let q29:=Z0 q26 (Za 1 [] n q28 q28∧True) False;
 let q30:=0+Int.toNat (plI own);
 let q31:=decide (0+n≤n);
 let q32:=Yl.t;
 let q33:=[(0:Int),0];
 Z0 (!Yo (Z5.mk false id am hash ex 0 0 [])) (q3∧Z0 q5 (Z0 q7 (Z0 q9 (Z0 q11 (Z0 q13 (q15∧q17∧Z0 q19 (Z0 q21 (q23∧q25∧Z0 q26 (Z0 q27 (Z0 (decide (2=e)) q29 False) False) False) False) False) False) False) False) False) False)
 (Z0 (decide (0≤plI own∧plI own<2))
 (Z0 (decide (q30<2))
 (Z0 (id !=List.getD q24 q30 0) (q3∧Z0 q5 (Z0 q7 (Z0 q9 (Z0 q11 (Z0 q13 (q15∧q17∧Z0 q19 (Z0 q21 (q23∧q25∧Z0 q26 (Z0 q27 (Z0 (decide (200=e)) q29 False) False) False) False) False) False) False) False) False) False)
 (Z0 q31
 ((∀(i:Nat),i<n→true=true)∧
 ∃(X:Z6),
 let q67:=[AV.arr u8 32 q2,AV.int i64 q4,AV.int i64 q6,AV.int i64 q8,AV.int i64 q10,AV.int i64 q12,AV.arr u8 32 q14,AV.arr u8 32 q16,AV.int i64 q18,AV.int i64 q20,AV.arr i64 2 q22,AV.arr i64 2 q24,AV.vrows 70 n (ZK 0 q28) n];
 let q68:=X.side;
 let q69:=ZP q68 own;
 let q70:=q69=0∨q69=1;
 LV q67 X∧
 (0≤q68∧q68≤1)∧
 Z0 q31
 ((∀(i:Nat),i<n→true=true)∧
 ∃(X:Z6),
 LV q67 X∧
 Z6.Inv Zo X∧
 q70∧
 Z0 (decide ((↑(List.length (ZQ X.side q69 X.L)):Int)≥8)) (q3∧Z0 q5 (Z0 q7 (Z0 q9 (Z0 q11 (Z0 q13 (q15∧q17∧Z0 q19 (Z0 q21 (q23∧q25∧Z0 q26 (Z0 q27 (Z0 (decide (201=e)) q29 False) False) False) False) False) False) False) False) False) False)
 (Z0 q31 ((∀(i:Nat),i<n→true=true)∧∃(X:Z6),LV q67 X∧Z6.Inv Zo X∧q70∧Z0 (decide (Y1 X q69<am)) (q3∧Z0 q5 (Z0 q7 (Z0 q9 (Z0 q11 (Z0 q13 (q15∧q17∧Z0 q19 (Z0 q21 (q23∧q25∧Z0 q26 (Z0 q27 (Z0 (decide (202=e)) q29 False) False) False) False) False) False) False) False) False) False) (Z0 (decide (own=own)) (Z0 q26 (Za 1 [(2,3),(3,4),(1,1)] n q28 q28∧q3∧Z0 q5 (Z0 q7 (Z0 q9 (Z0 q11 (Z0 q13 (q15∧q17∧Z0 q19 (Z0 q21 (q23∧q25∧Z0 q26 (Z0 q27 (Zd=q32.fund∧Zd=q32.k0∧Zd=q32.k1∧q33=[Yl.a0,Yl.a1]∧q33=[Yl.i0,Yl.i1]∧Z0 (decide (own=Z7.own)) (Z0 (decide (id=Z7.id)) (Z0 (decide (am=Z7.amount)) (hash=Z7.hash∧Z0 (decide (ex=Z7.expiry)) False False) False) False) False) False) False) False) False) False) False) False) False) False) False) False)) False))
 False)
 False))
 False)
 False)) (by kernel_rfl) ?_
 conv=>zeta
 try simp only [Zg]
 try simp only [Zi]
 try simp only [Zh]
 try simp only [Zj]
 try simp only [Zk]
 try simp only [Ze]
 try simp only [Int.toNat_natCast,Nat.zero_add,true_and,and_true,Nat.le_refl]
 have hs:=hI.side
 have hs01:0≤X.side∧X.side≤1:=by omega
 have hR:Za 1 [] n (Z4 X.L) (Z4 X.L):=Zn fun _ _=>rfl
 rw [Z6m X own id am ex hash,Zg8]
 subst hL
 unfold Xp at he
 refine ⟨fun k=>⟨?_,hR⟩,fun k1=>⟨ZcK own,by have:=ZcK own;omega,fun k=>⟨?_,hR⟩,fun k2=>⟨fun _ _=>trivial,X,.a rfl,hs01,fun _ _=>trivial,X,.a rfl,hI,Z44 hs own,fun k=>⟨?_,hR⟩,fun k3=>⟨fun _ _=>trivial,X,.a rfl,hI,Z44 hs own,fun k=>⟨?_,hR⟩,fun k4=> ?_⟩⟩⟩⟩
 ·rw [he,if_pos (by simpa using k)]
 ·rw [he,if_neg (by simpa using k1),if_pos (by simpa using k)]
 ·rw [he,if_neg (by simpa using k1),if_neg (by simpa using k2),if_pos (by omega)]
 ·rw [he,if_neg (by simpa using k1),if_neg (by simpa using k2),if_neg (by omega),if_pos k]
 ·exact absurd (by rw [he,if_neg (by simpa using k1),if_neg (by simpa using k2),if_neg (by omega),if_neg k4]) hne
theorem Zf6 {X:Z6} (own:Bool) (h:(0≤X.i0∧X.i0≤2147483648)∧0≤X.i1∧X.i1≤2147483648):[X.i0,X.i1].set (plI own).toNat (i64.wrap (X.nx own+1))=[(Xq X own 1).i0,(Xq X own 1).i1]:=by
 cases own
 ·show [X.i0,i64.wrap (X.i1+1)]=[X.i0,X.i1+1]
  rw [w64 (by omega)]
 ·show [i64.wrap (X.i0+1),X.i1]=[X.i0+1,X.i1]
  rw [w64 (by omega)]
theorem ZcL (X:Z6) (own:Bool) (d:Int):(Xq X own d).t=X.t∧(Xq X own d).side=X.side∧(Xq X own d).res=X.res∧(Xq X own d).a0=X.a0∧(Xq X own d).a1=X.a1:=by cases own<;>exact ⟨rfl,rfl,rfl,rfl,rfl⟩
theorem ZiO (X X':Z6) (h:Z5) (own:Bool) (n l:Nat) (id am ex:Int) (hash:List Int) (C:Prop) (DF:Nat→Bool) (OF:Nat→List Z5) (hC:C) (hL:X.L.length=n) (hI:X.Inv Zo) (he:Xp X own id am hash ex=0) (hh:h=YZ X own id am hash ex) (hX':X'={ Xq X own 1 with L:=Z6k h (OF n,DF n)}) (hl:l=X'.L.length) (hb:(OF n).length<1000):
  evF (Z8W X h own n C fun i=>Z18 X h own n i (DF i) (OF i)) 20 34 [.agg (X.c (slH 0 n)),.bool own,.int .i64 id,.int .i64 am,.agg [.arr .u8 32 hash],.int .i64 ex] ⟨1,[(0,.rows 70 n (Z4 X.L))]⟩ (Y7 1 (.ret (.tuple [.agg (X'.c (slH 1 l)),.int .i64 0])) 2 [(0,.rows 70 n (Z4 X.L)),(1,.rows 70 l (Z4 X'.L))]):=by
 refine @Eq.mpr _ (let q1:=decide (0≤plI own∧plI own<2);
 let q2:=0+Int.toNat (plI own);
 let q3:=[X.i0,X.i1];
 let q4:=List.getD q3 q2 0;
 let q5:=decide (0+n≤n);
 let q6:=X.t;
 let q7:=q6.fund;
 let q8:=q6.index;
 let q9:=q6.cap;
 let q10:=q6.dust;
 let q11:=q6.fee;
 let q12:=q6.delay;
 let q13:=q6.k0;
 let q14:=q6.k1;
 let q15:=X.side;
 let q16:=X.res;
 let q17:=[X.a0,X.a1];
 let q18:=Z4 X.L;
 let q19:=decide (n=n);
 let q20:=Yl.t;
 let q21:=[(0:Int),0];
 let q22:=decide (q2<2);
 let q23:=decide (i64=i64∧q2<2∧q2<2);
 let q24:=X'.t;
 let q25:=q7=q24.fund;
 let q26:=decide (q8=q24.index);
 let q27:=decide (q9=q24.cap);
 let q28:=decide (q10=q24.dust);
 let q29:=decide (q11=q24.fee);
 let q30:=decide (q12=q24.delay);
 let q31:=q13=q24.k0;
 let q32:=q14=q24.k1;
 let q33:=decide (q15=X'.side);
 let q34:=decide (q16=X'.res);
 let q35:=q17=[X'.a0,X'.a1];
 let q36:=List.set q3 q2 (wrap i64 (q4+1))=[X'.i0,X'.i1];
 let q37:=[(1,6)];
 let q38:=Z4 X'.L;
 let q39:=[(1,4)];
 Z0 (!Yo (Z5.mk false id am hash ex 0 0 [])) False
 (Z0 q1
 (Z0 (decide (q2<2))
 (Z0 (id !=q4) False
 (Z0 q5
 ((∀(i:Nat),i<n→true=true)∧
 ∃(X_1:Z6),
 let q79:=[AV.arr u8 32 q7,AV.int i64 q8,AV.int i64 q9,AV.int i64 q10,AV.int i64 q11,AV.int i64 q12,AV.arr u8 32 q13,AV.arr u8 32 q14,AV.int i64 q15,AV.int i64 q16,AV.arr i64 2 q17,AV.arr i64 2 q3,AV.vrows 70 n (ZK 0 q18) n];
 let q80:=X_1.side;
 let q81:=ZP q80 own;
 let q82:=q81=0∨q81=1;
 LV q79 X_1∧
 (0≤q80∧q80≤1)∧
 Z0 q5
 ((∀(i:Nat),i<n→true=true)∧
 ∃(X_2:Z6),
 LV q79 X_2∧
 Z6.Inv Zo X_2∧
 q82∧
 Z0 (decide ((↑(List.length (ZQ X_2.side q81 X_2.L)):Int)≥8)) False
 (Z0 q5
 ((∀(i:Nat),i<n→true=true)∧
 ∃(X_3:Z6),
 LV q79 X_3∧
 Z6.Inv Zo X_3∧
 q82∧
 Z0 (decide (Y1 X_3 q81<am)) False
 (Z0 (decide (own=own))
 (Z0 q19
 (Za 1 [(2,3),(3,4),(1,1)] n q18 q18∧
 q7=q7∧
 Z0 (decide (q8=q8))
 (Z0 (decide (q9=q9))
 (Z0 (decide (q10=q10))
 (Z0 (decide (q11=q11))
 (Z0 (decide (q12=q12))
 (q13=q13∧
 q14=q14∧
 Z0 (decide (q15=q15))
 (Z0 (decide (q16=q16))
 (q17=q17∧
 q3=q3∧
 Z0 q19
 (Z0 (decide (n≤n))
 (Zd=q20.fund∧
 Zd=q20.k0∧
 Zd=q20.k1∧
 q21=[Yl.a0,Yl.a1]∧
 q21=[Yl.i0,Yl.i1]∧
 Z0 (decide (own=h.own))
 (Z0 (decide (id=h.id))
 (Z0 (decide (am=h.amount))
 (hash=h.hash∧
 Z0 (decide (ex=h.expiry))
 (Z0 (decide (1=h.stage))
 (Z0 (decide (0=h.fin))
 (Zd=h.secret∧
 C∧
 ∀(i:Nat),
 let q87:=List.length (OF i);
 let q88:=q87+1;
 let q89:=decide (q88=l);
 let q90:=decide (q87=l);
 i≤n→
 (∀(j:Nat),j<i→(fun (i:Nat)=>i<n) j)→
 (i=n→
 Z0 (!DF i) (Z0 (decide (q87=q87)) (Z0 (decide (q88*112≤140737488355328)) (Z0 q1 (Z0 q22 (Z0 q1 (Z0 q23 (q25∧Z0 q26 (Z0 q27 (Z0 q28 (Z0 q29 (Z0 q30 (q31∧q32∧Z0 q33 (Z0 q34 (q35∧q36∧Z0 q89 (Z0 (decide (l≤q88)) (Z0 q19 (Za 1 q37 n q18 q18∧Z0 q89 (Za 1 q37 l q38 (ZW q87 (Z4 (OF i)) (YC [AV.bool h.own,AV.int i64 h.id,AV.int i64 h.amount,AV.arr u8 32 h.hash,AV.int i64 h.expiry,AV.int i64 h.stage,AV.int i64 h.fin,AV.arr u8 32 h.secret] 0 70))∧True) False) False) False) False) False) False) False) False) False) False) False) False) False) False) False) False) False)
 (Z0 q1 (Z0 q22 (Z0 q1 (Z0 q23 (q25∧Z0 q26 (Z0 q27 (Z0 q28 (Z0 q29 (Z0 q30 (q31∧q32∧Z0 q33 (Z0 q34 (q35∧q36∧Z0 q90 (Z0 (decide (l≤q87)) (Z0 q19 (Za 1 q39 n q18 q18∧Z0 q90 (Za 1 q39 l q38 (Z4 (OF i))∧True) False) False) False) False) False) False) False) False) False) False) False) False) False) False) False))∧
 (False→False)∧(False→False))
 False)
 False)
 False)
 False)
 False)
 False)
 False)
 False)
 False)
 False)
 False)
 False)
 False)
 False)
 False)
 False)
 False))
 False))
 False)
 False))
 False)
 False)) (by kernel_rfl) ?_
 conv=>zeta
 try simp only [Zg]
 try simp only [Zi]
 try simp only [Zh]
 try simp only [Zj]
 try simp only [Zk]
 try simp only [Ze]
 try simp only [Int.toNat_natCast,Nat.zero_add,true_and,and_true,Nat.le_refl]
 have hs:=hI.side
 have hs01:0≤X.side∧X.side≤1:=by omega
 have hR:∀τ k (Q:List Z5),Za 1 τ k (Z4 Q) (Z4 Q):=fun τ k Q=>Zn fun _ _=>rfl
 have hC2:∀τ (Q:List Z5) (y:Z5),Za 1 τ (Q++[y]).length (Z4 (Q++[y])) (ZW Q.length (Z4 Q) (YC y.c 0 70)):=fun τ Q y=>Zn fun j hj=>Yt rfl (fun _ _=>rfl) (by simpa using hj)
 rw [Z6m X own id am ex hash,Zg8,Zf6 own ⟨hI.i0,hI.i1⟩]
 obtain ⟨k1,k2,k3,k4⟩:=Z0t he
 have hp:=ZcK own
 have hp2:(plI own).toNat<2:=by omega
 obtain ⟨c1,c2,c3,c4,c5⟩:=ZcL X own 1
 subst hL
 refine ⟨by simp [k1],hp,hp2,by simp [k2],fun _ _=>trivial,X,.a rfl,hs01,fun _ _=>trivial,X,.a rfl,hI,Z44 hs own,by omega,fun _ _=>trivial,X,.a rfl,hI,Z44 hs own,by omega,hR _ _ _,rfl,rfl,rfl,rfl,rfl, ?_⟩
 have hf:∀d:Bool,X'.L=Z6k h (OF X.L.length,DF X.L.length):=fun _=>by rw [hX']
 have e:X'.t=X.t∧X'.side=X.side∧X'.res=X.res∧X'.a0=X.a0∧X'.a1=X.a1∧X'.i0=(Xq X own 1).i0∧X'.i1=(Xq X own 1).i1:=by rw [hX'];exact ⟨c1,c2,c3,c4,c5,rfl,rfl⟩
 obtain ⟨e1,e2,e3,e4,e5,e6,e7⟩:=e
 rw [e1,e2,e3,e4,e5,e6,e7]
 have hf:=hf true
 refine ⟨by rw [hh];rfl,by rw [hh];rfl,by rw [hh];rfl,by rw [hh];rfl,by rw [hh];rfl,by rw [hh];rfl,by rw [hh];rfl,by rw [hh];rfl,hC,fun i hi _=>⟨fun hi=> ?_,fun h=>h.elim,fun h=>h.elim⟩⟩
 subst hi
 refine ⟨fun hd=> ?_,fun hd=> ?_⟩
 ·have hd:DF X.L.length=false:=by simpa using hd
  have hq:X'.L=OF X.L.length++[h]:=by rw [hf];unfold Z6k;rw [hd];rfl
  rw [hq] at hl⊢
  subst hl
  repeat' apply And.intro
  all_goals first|omega|rfl|exact hR _ _ _|exact hC2 _ _ _|(simp;done)|skip
 ·have hd:DF X.L.length=true:=by simpa using hd
  have hq:X'.L=OF X.L.length:=by rw [hf];unfold Z6k;rw [hd];rfl
  rw [hq] at hl⊢
  subst hl
  repeat' apply And.intro
  all_goals first|omega|rfl|exact hR _ _ _|(simp;done)|skip
structure LD (cs:List AV) (n:Nat) (f:Nat→List AV) (X:Z6):Prop where
 h1:cs=X.c (slH 0 n)
 h2:f=Z4 X.L
 h3:n=X.L.length
def ZcM (H:List Int→List Int) (c:Bool):Ye:=fun args h K=>match args with
 | [.agg [_,_,_,_,_,_,_,_,_,_,_,_,.nslice ⟨b,0,70,0,0⟩ 70 _ _],_,_,_,_,_]=>frA [b] h 20 args fun Bs a=>match Bs,a with
  | [.rows 70 n f],[.agg cs,.bool own,.int .i64 id,.int .i64 am,.agg [.arr .u8 32 hash],.int .i64 ex]=>
   ∃X,LD cs n f X∧X.Inv H∧(match c with
    | true=>Xp X own id am hash ex=0∧K (.ret (.tuple [.agg ((addX X own id am hash ex).c (slH h.next (X.L.length+1))),.int .i64 0])) ⟨h.next+1,(b,.rows 70 X.L.length (Z4 X.L))::(h.next,.rows 70 (X.L.length+1) (Z4 (addX X own id am hash ex).L))::Yw h.bs b⟩
    | false=>Xp X own id am hash ex≠0∧K (.ret (.tuple [.agg (X.c (slH b X.L.length)),.int .i64 (Xp X own id am hash ex)])) ⟨h.next,(b,.rows 70 X.L.length (Z4 X.L))::Yw h.bs b⟩)
  | _,_=>False
 | _=>False
theorem ZcN (c:Bool) (args:List AV) (h:Z9) (K:KO) (hl:ZcM Zo c args h K):Zm PP 34 args h K:=by
 unfold ZcM at hl
 split at hl
 ·refine Spec.fsumm hl fun Bs a hlen hK0=> ?_
  split at hK0
  ·rename_i cs n f own id am hash ex
   obtain ⟨X,⟨rfl,rfl,rfl⟩,hI,hK⟩:=hK0
   cases c with
   | true=>
    obtain ⟨he,hK1⟩:=hK
    have hq:=Z57 (YZ X own id am hash ex) X.L ([],false)
    have hlen:=hI.len
    have e:addX X own id am hash ex={ Xq X own 1 with L:=Z6k (YZ X own id am hash ex) ((QX X (YZ X own id am hash ex) X.L.length).1,(QX X (YZ X own id am hash ex) X.L.length).2)}:=by
     have h0:=Z4a (YZ X own id am hash ex) X.L []
     unfold addX QX
     rw [if_pos he,List.take_length]
     rw [List.nil_append] at h0
     rw [←h0]
    have hl2:X.L.length+1=(addX X own id am hash ex).L.length:=by
     unfold addX
     rw [if_pos he]
     exact (Z2J _ _).symm
    have hv:=ZiO X (addX X own id am hash ex) (YZ X own id am hash ex) own X.L.length (X.L.length+1) id am ex hash _ (fun i=>(QX X (YZ X own id am hash ex) i).2) (fun i=>(QX X (YZ X own id am hash ex) i).1) (show X.L.length<1000∧X.L.length=X.L.length∧(YZ X own id am hash ex).own=own from ⟨hI.am.n,rfl,rfl⟩) rfl hI he rfl e hl2 (by unfold QX;rw [List.take_length];simp only [List.length_nil] at hq;omega)
    exact ⟨_,_,_,_,_,.evM (ZcJ X _ own _) hv,by simp,.ret _ _ rfl,.cons _ _ _ _ _ _ rfl (.rows _ _ _ (fun _ _=>rfl)) (.cons _ _ _ _ _ _ rfl (.rows _ _ _ (fun _ _=>rfl)) .nil),hK1⟩
   | false=>
    obtain ⟨he,hK2⟩:=hK
    have hC:(Z8W X Z7 own X.L.length False fun i=>Z18 X Z7 own X.L.length i false []).Ok:=Zf.withGoM (N:=20) (S:=fun i=>Z18 X Z7 own X.L.length i false []) Z8V (by kernel_rfl) fun h=>h.elim
    exact ⟨_,_,_,_,_,.evM hC (ZiN X own _ id am ex _ hash False rfl hI rfl he),by simp,.ret _ _ rfl,.cons _ _ _ _ _ _ rfl (.rows _ _ _ (fun _ _=>rfl)) .nil,hK2⟩
  ·exact hK0.elim
 ·exact hl.elim
end Go.Tk
end
section
namespace Go.Tk
open IntKind (i64 u8 u32 u64 wrap)
noncomputable def Zhx (H1:List Int→List Int) (B:Nat):Zf:=(G0.withP 154 ZiK).withP 102 (ZbH H1 B)
theorem Z8X:(Zhx Wk 1000).Ok:=Zf.withP_ok (Zf.withP_ok Zr Zf4) (Z5V fun xs h=>Z40 xs (by omega))
theorem ZiP (X:Z6) (n:Nat) (own:Bool) (id k e:Int) (sec:List Int) (H1:List Int→List Int) (B:Nat) (hn:X.L.length=n) (hlen:X.L.length<1000) (hOk:∀h∈X.L,h.Ok) (hsec:sec.length=32) (hl:(H1 sec).length=32) (hB:32≤B) (he:e=YY H1 X own id k sec) (hne:e≠0):
  evF (Zhx H1 B) 20 103 [.agg (X.c (slH 0 n)),.bool own,.int .i64 id,.int .i64 k,.agg [.arr .u8 32 sec]] ⟨1,[(0,.rows 70 n (Z4 X.L))]⟩ (Y7 1 (.ret (.tuple [.agg (X.c (slH 0 n)),.int .i64 e])) 1 [(0,.rows 70 n (Z4 X.L))]):=by
 refine @Eq.mpr _ (let q1:=0+n;
 let q2:=decide (q1≤n);
 let q3:=X.t;
 let q4:=q3.fund;
 let q5:=q3.index;
 let q6:=q3.cap;
 let q7:=q3.dust;
 let q8:=q3.fee;
 let q9:=q3.delay;
 let q10:=q3.k0;
 let q11:=q3.k1;
 let q12:=X.side;
 let q13:=X.res;
 let q14:=[X.a0,X.a1];
 let q15:=[X.i0,X.i1];
 let q16:=Z4 X.L;
 let q17:=q4=q4;
 let q18:=decide (q5=q5);
 let q19:=decide (q6=q6);
 let q20:=decide (q7=q7);
 let q21:=decide (q8=q8);
 let q22:=decide (q9=q9);
 let q23:=q10=q10;
 let q24:=q11=q11;
 let q25:=decide (q12=q12);
 let q26:=decide (q13=q13);
 let q27:=q14=q14;
 let q28:=q15=q15;
 let q29:=decide (n=n);
 let q30:=decide (n≤n);
 let q31:=Z0 q29 (Za 1 [] n q16 q16∧True) False;
 let q32:=List.length sec;
 let q33:=decide (q1*112≤140737488355328);
 let q34:=q17∧Z0 q18 (Z0 q19 (Z0 q20 (Z0 q21 (Z0 q22 (q23∧q24∧Z0 q25 (Z0 q26 (q27∧q28∧False) False) False) False) False) False) False) False;
 Z0 q2
 ((∀(i:Nat),i<n→true=true)∧
 ∃(X_1:Z6),
 let q69:=fiV own id X_1.L;
 let q70:=decide (0≤q69∧q69< ↑n);
 let q71:=0+Int.toNat q69;
 let q72:=List.getD X.L q71 Z7;
 let q73:=q72.hash;
 let q74:=decide (0≤q69∧q69< ↑q1);
 LV [AV.arr u8 32 q4,AV.int i64 q5,AV.int i64 q6,AV.int i64 q7,AV.int i64 q8,AV.int i64 q9,AV.arr u8 32 q10,AV.arr u8 32 q11,AV.int i64 q12,AV.int i64 q13,AV.arr i64 2 q14,AV.arr i64 2 q15,AV.vrows 70 n (ZK 0 q16) n] X_1∧
 List.length X_1.L<1000∧
 Z0 (decide (q69<0)) (q17∧Z0 q18 (Z0 q19 (Z0 q20 (Z0 q21 (Z0 q22 (q23∧q24∧Z0 q25 (Z0 q26 (q27∧q28∧Z0 q29 (Z0 q30 (Z0 (decide (5=e)) q31 False) False) False) False) False) False) False) False) False) False)
 (Z0 q70
 (Z0 (decide (q71<n))
 (Z0 (q72.stage !=5) (q17∧Z0 q18 (Z0 q19 (Z0 q20 (Z0 q21 (Z0 q22 (q23∧q24∧Z0 q25 (Z0 q26 (q27∧q28∧Z0 q29 (Z0 q30 (Z0 (decide (190=e)) q31 False) False) False) False) False) False) False) False) False) False)
 (Z0 (k==1) (Z0 q70 (Z0 (decide (q71<n)) (Z0 (decide (q32=32)) (Z0 (decide (32=q32)) (Z0 (decide (q32≤B)) (Z0 (decide (List.length (H1 sec)=32∧List.length q73=32)) (Z0 (!H1 sec==q73) (q17∧Z0 q18 (Z0 q19 (Z0 q20 (Z0 q21 (Z0 q22 (q23∧q24∧Z0 q25 (Z0 q26 (q27∧q28∧Z0 q29 (Z0 q30 (Z0 (decide (203=e)) q31 False) False) False) False) False) False) False) False) False) False) (Z0 q2 (Z0 q33 (Z0 q74 (Z0 (decide (q71<q1)) (Z0 q74 (Z0 (decide (q71<q1)) (Z0 q74 (Z0 (decide (q71<q1)) q34 False) False) False) False) False) False) False) False)) False) False) False) False) False) False) (Z0 q2 (Z0 q33 (Z0 q74 (Z0 (decide (q71<q1)) (Z0 q74 (Z0 (decide (q71<q1)) (Z0 q74 (Z0 (decide (q71<q1)) q34 False) False) False) False) False) False) False) False)))
 False)
 False))
 False) (by kernel_rfl) ?_
 conv=>zeta
 try simp only [Zg]
 try simp only [Zi]
 try simp only [Zh]
 try simp only [Zj]
 try simp only [Zk]
 try simp only [Ze]
 try simp only [Int.toNat_natCast,Nat.zero_add,true_and,and_true,Nat.le_refl]
 subst hn
 have hR:Za 1 [] X.L.length (Z4 X.L) (Z4 X.L):=Zn fun _ _=>rfl
 unfold YY at he
 refine ⟨fun _ _=>trivial,X,.a rfl,hlen, ?_⟩
 by_cases hI:ZB own id X.L<X.L.length
 ·have hv:fiV own id X.L=((ZB own id X.L:Nat):Int):=by unfold fiV;rw [if_pos hI]
  rw [hv]
  simp only [Int.toNat_natCast]
  rw [if_neg (by omega)] at he
  have h2:=(hOk _ (Zz hI)).hash
  have hi:(0:Int)≤((ZB own id X.L:Nat):Int)∧((ZB own id X.L:Nat):Int)<(X.L.length:Int):=by omega
  generalize hz:X.L.getD (ZB own id X.L) Z7=z at*
  refine ⟨fun h=>by omega,fun _=>⟨hi,hI,fun h5=>⟨?_,hR⟩,fun h5=>⟨fun hk=>⟨hi,hI,hsec,hsec.symm,by omega,⟨hl,h2⟩,fun hh=>⟨?_,hR⟩,fun hh=> ?_⟩,fun hk=> ?_⟩⟩⟩
  ·rw [he,if_pos (by simpa using h5)]
  ·rw [he,if_neg (by simpa using h5),if_pos ⟨by simpa using hk,by simpa using hh⟩]
  ·exact absurd (by rw [he,if_neg (by simpa using h5),if_neg (fun q=>q.2 (by simpa using hh))]) hne
  ·exact absurd (by rw [he,if_neg (by simpa using h5),if_neg (fun q=>by simp [q.1] at hk)]) hne
 ·have hv:fiV own id X.L= -1:=by unfold fiV;rw [if_neg hI]
  rw [hv]
  rw [if_pos (by omega)] at he
  exact ⟨fun _=>⟨he.symm,hR⟩,fun h=>by omega⟩
theorem ZiQ (X X':Z6) (n:Nat) (own:Bool) (id k:Int) (sec:List Int) (H1:List Int→List Int) (B:Nat) (hn:X.L.length=n) (hlen:X.L.length<1000) (hOk:∀h∈X.L,h.Ok) (hsec:sec.length=32) (hl:(H1 sec).length=32) (hB:32≤B) (he:YY H1 X own id k sec=0) (hX':X'=endX H1 X own id k sec):
  evF (Zhx H1 B) 20 103 [.agg (X.c (slH 0 n)),.bool own,.int .i64 id,.int .i64 k,.agg [.arr .u8 32 sec]] ⟨1,[(0,.rows 70 n (Z4 X.L))]⟩ (Y7 1 (.ret (.tuple [.agg (X'.c (slH 1 n)),.int .i64 0])) 2 [(0,.rows 70 n (Z4 X.L)),(1,.rows 70 n (Z4 X'.L))]):=by
 refine @Eq.mpr _ (Z0 (decide ((0:Nat)+n≤n))
 ((∀(i:Nat),i<n→true=true)∧
 ∃(X_1:Z6),
 LV [AV.arr u8 (32:Nat) X.t.fund,AV.int i64 X.t.index,AV.int i64 X.t.cap,AV.int i64 X.t.dust,AV.int i64 X.t.fee,AV.int i64 X.t.delay,AV.arr u8 (32:Nat) X.t.k0,AV.arr u8 (32:Nat) X.t.k1,AV.int i64 X.side,AV.int i64 X.res,AV.arr i64 (2:Nat) [X.a0,X.a1],AV.arr i64 (2:Nat) [X.i0,X.i1],AV.vrows (70:Nat) n (ZK (0:Nat) (Z4 X.L)) n] X_1∧
 List.length X_1.L<(1000:Nat)∧
 Z0 (decide (fiV own id X_1.L<(0:Int))) False
 (Z0 (decide ((0:Int)≤fiV own id X_1.L∧fiV own id X_1.L<(↑n:Int)))
 (Z0 (decide ((0:Nat)+Int.toNat (fiV own id X_1.L)<n))
 (Z0 ((List.getD X.L ((0:Nat)+Int.toNat (fiV own id X_1.L)) Z7).stage !=(5:Int)) False
 (Z0 (k==(1:Int))
 (Z0 (decide ((0:Int)≤fiV own id X_1.L∧fiV own id X_1.L<(↑n:Int)))
 (Z0 (decide ((0:Nat)+Int.toNat (fiV own id X_1.L)<n))
 (Z0 (decide (List.length sec=(32:Nat)))
 (Z0 (decide ((32:Nat)=List.length sec))
 (Z0 (decide (List.length sec≤B))
 (Z0 (decide (List.length (H1 sec)=(32:Nat)∧List.length (List.getD X.L ((0:Nat)+Int.toNat (fiV own id X_1.L)) Z7).hash=(32:Nat)))
 (Z0 (!H1 sec==(List.getD X.L ((0:Nat)+Int.toNat (fiV own id X_1.L)) Z7).hash) False
 (Z0 (decide ((0:Nat)+n≤n))
 (Z0 (decide (((0:Nat)+n)*(112:Nat)≤(140737488355328:Nat)))
 (Z0 (decide ((0:Int)≤fiV own id X_1.L∧fiV own id X_1.L<(↑((0:Nat)+n):Int)))
 (Z0 (decide ((0:Nat)+Int.toNat (fiV own id X_1.L)<(0:Nat)+n))
 (Z0 (decide ((0:Int)≤fiV own id X_1.L∧fiV own id X_1.L<(↑((0:Nat)+n):Int)))
 (Z0 (decide ((0:Nat)+Int.toNat (fiV own id X_1.L)<(0:Nat)+n))
 (Z0 (decide ((0:Int)≤fiV own id X_1.L∧fiV own id X_1.L<(↑((0:Nat)+n):Int)))
 (Z0 (decide ((0:Nat)+Int.toNat (fiV own id X_1.L)<(0:Nat)+n))
 (X.t.fund=X'.t.fund∧
 Z0 (decide (X.t.index=X'.t.index))
 (Z0 (decide (X.t.cap=X'.t.cap))
 (Z0 (decide (X.t.dust=X'.t.dust))
 (Z0 (decide (X.t.fee=X'.t.fee))
 (Z0 (decide (X.t.delay=X'.t.delay))
 (X.t.k0=X'.t.k0∧
 X.t.k1=X'.t.k1∧
 Z0 (decide (X.side=X'.side))
 (Z0 (decide (X.res=X'.res))
 ([X.a0,X.a1]=[X'.a0,X'.a1]∧
 [X.i0,X.i1]=[X'.i0,X'.i1]∧
 Z0 (decide ((0:Nat)+n=n))
 (Z0 (decide (n≤(0:Nat)+n))
 (Z0 (decide (n=n))
 (Za (1:Nat) [((1:Nat),(4:Nat))] n (Z4 X.L) (Z4 X.L)∧
 Z0 (decide ((0:Nat)+n=n))
 (Za (1:Nat) [((1:Nat),(4:Nat))] n (Z4 X'.L)
 (QZ
 (QZ (QZ (ZW (0:Nat) (fun (x:Nat)=>[]) (ZK (0:Nat) (Z4 X.L))) ((0:Nat)+Int.toNat (fiV own id X_1.L)) [AV.bool (List.getD X.L ((0:Nat)+Int.toNat (fiV own id X_1.L)-(0:Nat)) Z7).own,AV.int i64 (List.getD X.L ((0:Nat)+Int.toNat (fiV own id X_1.L)-(0:Nat)) Z7).id,AV.int i64 (List.getD X.L ((0:Nat)+Int.toNat (fiV own id X_1.L)-(0:Nat)) Z7).amount,AV.arr u8 (32:Nat) (List.getD X.L ((0:Nat)+Int.toNat (fiV own id X_1.L)-(0:Nat)) Z7).hash,AV.int i64 (List.getD X.L ((0:Nat)+Int.toNat (fiV own id X_1.L)-(0:Nat)) Z7).expiry,AV.int i64 (6:Int),AV.int i64 (List.getD X.L ((0:Nat)+Int.toNat (fiV own id X_1.L)-(0:Nat)) Z7).fin,AV.arr u8 (32:Nat) (List.getD X.L ((0:Nat)+Int.toNat (fiV own id X_1.L)-(0:Nat)) Z7).secret]) ((0:Nat)+Int.toNat (fiV own id X_1.L))
 [AV.bool
 (match Nat.beq ((0:Nat)+Int.toNat (fiV own id X_1.L)) ((0:Nat)+Int.toNat (fiV own id X_1.L)) with
 | true=>(List.getD X.L ((0:Nat)+Int.toNat (fiV own id X_1.L)-(0:Nat)) Z7).own
 | false=>(List.getD X.L ((0:Nat)+Int.toNat (fiV own id X_1.L)-(0:Nat)) Z7).own),
 AV.int i64
 (match Nat.beq ((0:Nat)+Int.toNat (fiV own id X_1.L)) ((0:Nat)+Int.toNat (fiV own id X_1.L)) with
 | true=>(List.getD X.L ((0:Nat)+Int.toNat (fiV own id X_1.L)-(0:Nat)) Z7).id
 | false=>(List.getD X.L ((0:Nat)+Int.toNat (fiV own id X_1.L)-(0:Nat)) Z7).id),
 AV.int i64
 (match Nat.beq ((0:Nat)+Int.toNat (fiV own id X_1.L)) ((0:Nat)+Int.toNat (fiV own id X_1.L)) with
 | true=>(List.getD X.L ((0:Nat)+Int.toNat (fiV own id X_1.L)-(0:Nat)) Z7).amount
 | false=>(List.getD X.L ((0:Nat)+Int.toNat (fiV own id X_1.L)-(0:Nat)) Z7).amount),
 AV.arr u8 (32:Nat)
 (match Nat.beq ((0:Nat)+Int.toNat (fiV own id X_1.L)) ((0:Nat)+Int.toNat (fiV own id X_1.L)) with
 | true=>(List.getD X.L ((0:Nat)+Int.toNat (fiV own id X_1.L)-(0:Nat)) Z7).hash
 | false=>(List.getD X.L ((0:Nat)+Int.toNat (fiV own id X_1.L)-(0:Nat)) Z7).hash),
 AV.int i64
 (match Nat.beq ((0:Nat)+Int.toNat (fiV own id X_1.L)) ((0:Nat)+Int.toNat (fiV own id X_1.L)) with
 | true=>(List.getD X.L ((0:Nat)+Int.toNat (fiV own id X_1.L)-(0:Nat)) Z7).expiry
 | false=>(List.getD X.L ((0:Nat)+Int.toNat (fiV own id X_1.L)-(0:Nat)) Z7).expiry),
 AV.int i64
 (match Nat.beq ((0:Nat)+Int.toNat (fiV own id X_1.L)) ((0:Nat)+Int.toNat (fiV own id X_1.L)) with
 | true=>(6:Int)
 | false=>(List.getD X.L ((0:Nat)+Int.toNat (fiV own id X_1.L)-(0:Nat)) Z7).stage),
 AV.int i64 k,
 AV.arr u8 (32:Nat)
 (match Nat.beq ((0:Nat)+Int.toNat (fiV own id X_1.L)) ((0:Nat)+Int.toNat (fiV own id X_1.L)) with
 | true=>(List.getD X.L ((0:Nat)+Int.toNat (fiV own id X_1.L)-(0:Nat)) Z7).secret
 | false=>(List.getD X.L ((0:Nat)+Int.toNat (fiV own id X_1.L)-(0:Nat)) Z7).secret)])
 ((0:Nat)+Int.toNat (fiV own id X_1.L))
 [AV.bool
 (match Nat.beq ((0:Nat)+Int.toNat (fiV own id X_1.L)) ((0:Nat)+Int.toNat (fiV own id X_1.L)) with
 | true=>
 (match Nat.beq ((0:Nat)+Int.toNat (fiV own id X_1.L)) ((0:Nat)+Int.toNat (fiV own id X_1.L)) with
 | true=>(List.getD X.L ((0:Nat)+Int.toNat (fiV own id X_1.L)-(0:Nat)) Z7).own
 | false=>(List.getD X.L ((0:Nat)+Int.toNat (fiV own id X_1.L)-(0:Nat)) Z7).own)
 | false=>
 match Nat.beq ((0:Nat)+Int.toNat (fiV own id X_1.L)) ((0:Nat)+Int.toNat (fiV own id X_1.L)) with
 | true=>(List.getD X.L ((0:Nat)+Int.toNat (fiV own id X_1.L)-(0:Nat)) Z7).own
 | false=>(List.getD X.L ((0:Nat)+Int.toNat (fiV own id X_1.L)-(0:Nat)) Z7).own),
 AV.int i64
 (match Nat.beq ((0:Nat)+Int.toNat (fiV own id X_1.L)) ((0:Nat)+Int.toNat (fiV own id X_1.L)) with
 | true=>
 (match Nat.beq ((0:Nat)+Int.toNat (fiV own id X_1.L)) ((0:Nat)+Int.toNat (fiV own id X_1.L)) with
 | true=>(List.getD X.L ((0:Nat)+Int.toNat (fiV own id X_1.L)-(0:Nat)) Z7).id
 | false=>(List.getD X.L ((0:Nat)+Int.toNat (fiV own id X_1.L)-(0:Nat)) Z7).id)
 | false=>
 match Nat.beq ((0:Nat)+Int.toNat (fiV own id X_1.L)) ((0:Nat)+Int.toNat (fiV own id X_1.L)) with
 | true=>(List.getD X.L ((0:Nat)+Int.toNat (fiV own id X_1.L)-(0:Nat)) Z7).id
 | false=>(List.getD X.L ((0:Nat)+Int.toNat (fiV own id X_1.L)-(0:Nat)) Z7).id),
 AV.int i64
 (match Nat.beq ((0:Nat)+Int.toNat (fiV own id X_1.L)) ((0:Nat)+Int.toNat (fiV own id X_1.L)) with
 | true=>
 (match Nat.beq ((0:Nat)+Int.toNat (fiV own id X_1.L)) ((0:Nat)+Int.toNat (fiV own id X_1.L)) with
 | true=>(List.getD X.L ((0:Nat)+Int.toNat (fiV own id X_1.L)-(0:Nat)) Z7).amount
 | false=>(List.getD X.L ((0:Nat)+Int.toNat (fiV own id X_1.L)-(0:Nat)) Z7).amount)
 | false=>
 match Nat.beq ((0:Nat)+Int.toNat (fiV own id X_1.L)) ((0:Nat)+Int.toNat (fiV own id X_1.L)) with
 | true=>(List.getD X.L ((0:Nat)+Int.toNat (fiV own id X_1.L)-(0:Nat)) Z7).amount
 | false=>(List.getD X.L ((0:Nat)+Int.toNat (fiV own id X_1.L)-(0:Nat)) Z7).amount),
 AV.arr u8 (32:Nat)
 (match Nat.beq ((0:Nat)+Int.toNat (fiV own id X_1.L)) ((0:Nat)+Int.toNat (fiV own id X_1.L)) with
 | true=>
 (match Nat.beq ((0:Nat)+Int.toNat (fiV own id X_1.L)) ((0:Nat)+Int.toNat (fiV own id X_1.L)) with
 | true=>(List.getD X.L ((0:Nat)+Int.toNat (fiV own id X_1.L)-(0:Nat)) Z7).hash
 | false=>(List.getD X.L ((0:Nat)+Int.toNat (fiV own id X_1.L)-(0:Nat)) Z7).hash)
 | false=>
 match Nat.beq ((0:Nat)+Int.toNat (fiV own id X_1.L)) ((0:Nat)+Int.toNat (fiV own id X_1.L)) with
 | true=>(List.getD X.L ((0:Nat)+Int.toNat (fiV own id X_1.L)-(0:Nat)) Z7).hash
 | false=>(List.getD X.L ((0:Nat)+Int.toNat (fiV own id X_1.L)-(0:Nat)) Z7).hash),
 AV.int i64
 (match Nat.beq ((0:Nat)+Int.toNat (fiV own id X_1.L)) ((0:Nat)+Int.toNat (fiV own id X_1.L)) with
 | true=>
 (match Nat.beq ((0:Nat)+Int.toNat (fiV own id X_1.L)) ((0:Nat)+Int.toNat (fiV own id X_1.L)) with
 | true=>(List.getD X.L ((0:Nat)+Int.toNat (fiV own id X_1.L)-(0:Nat)) Z7).expiry
 | false=>(List.getD X.L ((0:Nat)+Int.toNat (fiV own id X_1.L)-(0:Nat)) Z7).expiry)
 | false=>
 match Nat.beq ((0:Nat)+Int.toNat (fiV own id X_1.L)) ((0:Nat)+Int.toNat (fiV own id X_1.L)) with
 | true=>(List.getD X.L ((0:Nat)+Int.toNat (fiV own id X_1.L)-(0:Nat)) Z7).expiry
 | false=>(List.getD X.L ((0:Nat)+Int.toNat (fiV own id X_1.L)-(0:Nat)) Z7).expiry),
 AV.int i64
 (match Nat.beq ((0:Nat)+Int.toNat (fiV own id X_1.L)) ((0:Nat)+Int.toNat (fiV own id X_1.L)) with
 | true=>
 (match Nat.beq ((0:Nat)+Int.toNat (fiV own id X_1.L)) ((0:Nat)+Int.toNat (fiV own id X_1.L)) with
 | true=>(6:Int)
 | false=>(List.getD X.L ((0:Nat)+Int.toNat (fiV own id X_1.L)-(0:Nat)) Z7).stage)
 | false=>
 match Nat.beq ((0:Nat)+Int.toNat (fiV own id X_1.L)) ((0:Nat)+Int.toNat (fiV own id X_1.L)) with
 | true=>(6:Int)
 | false=>(List.getD X.L ((0:Nat)+Int.toNat (fiV own id X_1.L)-(0:Nat)) Z7).stage),
 AV.int i64
 (match Nat.beq ((0:Nat)+Int.toNat (fiV own id X_1.L)) ((0:Nat)+Int.toNat (fiV own id X_1.L)) with
 | true=>k
 | false=>
 match Nat.beq ((0:Nat)+Int.toNat (fiV own id X_1.L)) ((0:Nat)+Int.toNat (fiV own id X_1.L)) with
 | true=>(List.getD X.L ((0:Nat)+Int.toNat (fiV own id X_1.L)-(0:Nat)) Z7).fin
 | false=>(List.getD X.L ((0:Nat)+Int.toNat (fiV own id X_1.L)-(0:Nat)) Z7).fin),
 AV.arr u8 (32:Nat) sec])∧
 True)
 False)
 False)
 False)
 False)
 False)
 False)
 False)
 False)
 False)
 False)
 False)
 False)
 False)
 False)
 False)
 False)
 False)
 False)
 False))
 False)
 False)
 False)
 False)
 False)
 False)
 (Z0 (decide ((0:Nat)+n≤n))
 (Z0 (decide (((0:Nat)+n)*(112:Nat)≤(140737488355328:Nat)))
 (Z0 (decide ((0:Int)≤fiV own id X_1.L∧fiV own id X_1.L<(↑((0:Nat)+n):Int)))
 (Z0 (decide ((0:Nat)+Int.toNat (fiV own id X_1.L)<(0:Nat)+n))
 (Z0 (decide ((0:Int)≤fiV own id X_1.L∧fiV own id X_1.L<(↑((0:Nat)+n):Int)))
 (Z0 (decide ((0:Nat)+Int.toNat (fiV own id X_1.L)<(0:Nat)+n))
 (Z0 (decide ((0:Int)≤fiV own id X_1.L∧fiV own id X_1.L<(↑((0:Nat)+n):Int)))
 (Z0 (decide ((0:Nat)+Int.toNat (fiV own id X_1.L)<(0:Nat)+n))
 (X.t.fund=X'.t.fund∧
 Z0 (decide (X.t.index=X'.t.index))
 (Z0 (decide (X.t.cap=X'.t.cap))
 (Z0 (decide (X.t.dust=X'.t.dust))
 (Z0 (decide (X.t.fee=X'.t.fee))
 (Z0 (decide (X.t.delay=X'.t.delay))
 (X.t.k0=X'.t.k0∧
 X.t.k1=X'.t.k1∧
 Z0 (decide (X.side=X'.side))
 (Z0 (decide (X.res=X'.res))
 ([X.a0,X.a1]=[X'.a0,X'.a1]∧
 [X.i0,X.i1]=[X'.i0,X'.i1]∧
 Z0 (decide ((0:Nat)+n=n))
 (Z0 (decide (n≤(0:Nat)+n))
 (Z0 (decide (n=n))
 (Za (1:Nat) [((1:Nat),(4:Nat))] n (Z4 X.L) (Z4 X.L)∧
 Z0 (decide ((0:Nat)+n=n))
 (Za (1:Nat) [((1:Nat),(4:Nat))] n (Z4 X'.L)
 (QZ
 (QZ (QZ (ZW (0:Nat) (fun (x:Nat)=>[]) (ZK (0:Nat) (Z4 X.L))) ((0:Nat)+Int.toNat (fiV own id X_1.L)) [AV.bool (List.getD X.L ((0:Nat)+Int.toNat (fiV own id X_1.L)-(0:Nat)) Z7).own,AV.int i64 (List.getD X.L ((0:Nat)+Int.toNat (fiV own id X_1.L)-(0:Nat)) Z7).id,AV.int i64 (List.getD X.L ((0:Nat)+Int.toNat (fiV own id X_1.L)-(0:Nat)) Z7).amount,AV.arr u8 (32:Nat) (List.getD X.L ((0:Nat)+Int.toNat (fiV own id X_1.L)-(0:Nat)) Z7).hash,AV.int i64 (List.getD X.L ((0:Nat)+Int.toNat (fiV own id X_1.L)-(0:Nat)) Z7).expiry,AV.int i64 (6:Int),AV.int i64 (List.getD X.L ((0:Nat)+Int.toNat (fiV own id X_1.L)-(0:Nat)) Z7).fin,AV.arr u8 (32:Nat) (List.getD X.L ((0:Nat)+Int.toNat (fiV own id X_1.L)-(0:Nat)) Z7).secret]) ((0:Nat)+Int.toNat (fiV own id X_1.L))
 [AV.bool
 (match Nat.beq ((0:Nat)+Int.toNat (fiV own id X_1.L)) ((0:Nat)+Int.toNat (fiV own id X_1.L)) with
 | true=>(List.getD X.L ((0:Nat)+Int.toNat (fiV own id X_1.L)-(0:Nat)) Z7).own
 | false=>(List.getD X.L ((0:Nat)+Int.toNat (fiV own id X_1.L)-(0:Nat)) Z7).own),
 AV.int i64
 (match Nat.beq ((0:Nat)+Int.toNat (fiV own id X_1.L)) ((0:Nat)+Int.toNat (fiV own id X_1.L)) with
 | true=>(List.getD X.L ((0:Nat)+Int.toNat (fiV own id X_1.L)-(0:Nat)) Z7).id
 | false=>(List.getD X.L ((0:Nat)+Int.toNat (fiV own id X_1.L)-(0:Nat)) Z7).id),
 AV.int i64
 (match Nat.beq ((0:Nat)+Int.toNat (fiV own id X_1.L)) ((0:Nat)+Int.toNat (fiV own id X_1.L)) with
 | true=>(List.getD X.L ((0:Nat)+Int.toNat (fiV own id X_1.L)-(0:Nat)) Z7).amount
 | false=>(List.getD X.L ((0:Nat)+Int.toNat (fiV own id X_1.L)-(0:Nat)) Z7).amount),
 AV.arr u8 (32:Nat)
 (match Nat.beq ((0:Nat)+Int.toNat (fiV own id X_1.L)) ((0:Nat)+Int.toNat (fiV own id X_1.L)) with
 | true=>(List.getD X.L ((0:Nat)+Int.toNat (fiV own id X_1.L)-(0:Nat)) Z7).hash
 | false=>(List.getD X.L ((0:Nat)+Int.toNat (fiV own id X_1.L)-(0:Nat)) Z7).hash),
 AV.int i64
 (match Nat.beq ((0:Nat)+Int.toNat (fiV own id X_1.L)) ((0:Nat)+Int.toNat (fiV own id X_1.L)) with
 | true=>(List.getD X.L ((0:Nat)+Int.toNat (fiV own id X_1.L)-(0:Nat)) Z7).expiry
 | false=>(List.getD X.L ((0:Nat)+Int.toNat (fiV own id X_1.L)-(0:Nat)) Z7).expiry),
 AV.int i64
 (match Nat.beq ((0:Nat)+Int.toNat (fiV own id X_1.L)) ((0:Nat)+Int.toNat (fiV own id X_1.L)) with
 | true=>(6:Int)
 | false=>(List.getD X.L ((0:Nat)+Int.toNat (fiV own id X_1.L)-(0:Nat)) Z7).stage),
 AV.int i64 k,
 AV.arr u8 (32:Nat)
 (match Nat.beq ((0:Nat)+Int.toNat (fiV own id X_1.L)) ((0:Nat)+Int.toNat (fiV own id X_1.L)) with
 | true=>(List.getD X.L ((0:Nat)+Int.toNat (fiV own id X_1.L)-(0:Nat)) Z7).secret
 | false=>(List.getD X.L ((0:Nat)+Int.toNat (fiV own id X_1.L)-(0:Nat)) Z7).secret)])
 ((0:Nat)+Int.toNat (fiV own id X_1.L))
 [AV.bool
 (match Nat.beq ((0:Nat)+Int.toNat (fiV own id X_1.L)) ((0:Nat)+Int.toNat (fiV own id X_1.L)) with
 | true=>
 (match Nat.beq ((0:Nat)+Int.toNat (fiV own id X_1.L)) ((0:Nat)+Int.toNat (fiV own id X_1.L)) with
 | true=>(List.getD X.L ((0:Nat)+Int.toNat (fiV own id X_1.L)-(0:Nat)) Z7).own
 | false=>(List.getD X.L ((0:Nat)+Int.toNat (fiV own id X_1.L)-(0:Nat)) Z7).own)
 | false=>
 match Nat.beq ((0:Nat)+Int.toNat (fiV own id X_1.L)) ((0:Nat)+Int.toNat (fiV own id X_1.L)) with
 | true=>(List.getD X.L ((0:Nat)+Int.toNat (fiV own id X_1.L)-(0:Nat)) Z7).own
 | false=>(List.getD X.L ((0:Nat)+Int.toNat (fiV own id X_1.L)-(0:Nat)) Z7).own),
 AV.int i64
 (match Nat.beq ((0:Nat)+Int.toNat (fiV own id X_1.L)) ((0:Nat)+Int.toNat (fiV own id X_1.L)) with
 | true=>
 (match Nat.beq ((0:Nat)+Int.toNat (fiV own id X_1.L)) ((0:Nat)+Int.toNat (fiV own id X_1.L)) with
 | true=>(List.getD X.L ((0:Nat)+Int.toNat (fiV own id X_1.L)-(0:Nat)) Z7).id
 | false=>(List.getD X.L ((0:Nat)+Int.toNat (fiV own id X_1.L)-(0:Nat)) Z7).id)
 | false=>
 match Nat.beq ((0:Nat)+Int.toNat (fiV own id X_1.L)) ((0:Nat)+Int.toNat (fiV own id X_1.L)) with
 | true=>(List.getD X.L ((0:Nat)+Int.toNat (fiV own id X_1.L)-(0:Nat)) Z7).id
 | false=>(List.getD X.L ((0:Nat)+Int.toNat (fiV own id X_1.L)-(0:Nat)) Z7).id),
 AV.int i64
 (match Nat.beq ((0:Nat)+Int.toNat (fiV own id X_1.L)) ((0:Nat)+Int.toNat (fiV own id X_1.L)) with
 | true=>
 (match Nat.beq ((0:Nat)+Int.toNat (fiV own id X_1.L)) ((0:Nat)+Int.toNat (fiV own id X_1.L)) with
 | true=>(List.getD X.L ((0:Nat)+Int.toNat (fiV own id X_1.L)-(0:Nat)) Z7).amount
 | false=>(List.getD X.L ((0:Nat)+Int.toNat (fiV own id X_1.L)-(0:Nat)) Z7).amount)
 | false=>
 match Nat.beq ((0:Nat)+Int.toNat (fiV own id X_1.L)) ((0:Nat)+Int.toNat (fiV own id X_1.L)) with
 | true=>(List.getD X.L ((0:Nat)+Int.toNat (fiV own id X_1.L)-(0:Nat)) Z7).amount
 | false=>(List.getD X.L ((0:Nat)+Int.toNat (fiV own id X_1.L)-(0:Nat)) Z7).amount),
 AV.arr u8 (32:Nat)
 (match Nat.beq ((0:Nat)+Int.toNat (fiV own id X_1.L)) ((0:Nat)+Int.toNat (fiV own id X_1.L)) with
 | true=>
 (match Nat.beq ((0:Nat)+Int.toNat (fiV own id X_1.L)) ((0:Nat)+Int.toNat (fiV own id X_1.L)) with
 | true=>(List.getD X.L ((0:Nat)+Int.toNat (fiV own id X_1.L)-(0:Nat)) Z7).hash
 | false=>(List.getD X.L ((0:Nat)+Int.toNat (fiV own id X_1.L)-(0:Nat)) Z7).hash)
 | false=>
 match Nat.beq ((0:Nat)+Int.toNat (fiV own id X_1.L)) ((0:Nat)+Int.toNat (fiV own id X_1.L)) with
 | true=>(List.getD X.L ((0:Nat)+Int.toNat (fiV own id X_1.L)-(0:Nat)) Z7).hash
 | false=>(List.getD X.L ((0:Nat)+Int.toNat (fiV own id X_1.L)-(0:Nat)) Z7).hash),
 AV.int i64
 (match Nat.beq ((0:Nat)+Int.toNat (fiV own id X_1.L)) ((0:Nat)+Int.toNat (fiV own id X_1.L)) with
 | true=>
 (match Nat.beq ((0:Nat)+Int.toNat (fiV own id X_1.L)) ((0:Nat)+Int.toNat (fiV own id X_1.L)) with
 | true=>(List.getD X.L ((0:Nat)+Int.toNat (fiV own id X_1.L)-(0:Nat)) Z7).expiry
 | false=>(List.getD X.L ((0:Nat)+Int.toNat (fiV own id X_1.L)-(0:Nat)) Z7).expiry)
 | false=>
 match Nat.beq ((0:Nat)+Int.toNat (fiV own id X_1.L)) ((0:Nat)+Int.toNat (fiV own id X_1.L)) with
 | true=>(List.getD X.L ((0:Nat)+Int.toNat (fiV own id X_1.L)-(0:Nat)) Z7).expiry
 | false=>(List.getD X.L ((0:Nat)+Int.toNat (fiV own id X_1.L)-(0:Nat)) Z7).expiry),
 AV.int i64
 (match Nat.beq ((0:Nat)+Int.toNat (fiV own id X_1.L)) ((0:Nat)+Int.toNat (fiV own id X_1.L)) with
 | true=>
 (match Nat.beq ((0:Nat)+Int.toNat (fiV own id X_1.L)) ((0:Nat)+Int.toNat (fiV own id X_1.L)) with
 | true=>(6:Int)
 | false=>(List.getD X.L ((0:Nat)+Int.toNat (fiV own id X_1.L)-(0:Nat)) Z7).stage)
 | false=>
 match Nat.beq ((0:Nat)+Int.toNat (fiV own id X_1.L)) ((0:Nat)+Int.toNat (fiV own id X_1.L)) with
 | true=>(6:Int)
 | false=>(List.getD X.L ((0:Nat)+Int.toNat (fiV own id X_1.L)-(0:Nat)) Z7).stage),
 AV.int i64
 (match Nat.beq ((0:Nat)+Int.toNat (fiV own id X_1.L)) ((0:Nat)+Int.toNat (fiV own id X_1.L)) with
 | true=>k
 | false=>
 match Nat.beq ((0:Nat)+Int.toNat (fiV own id X_1.L)) ((0:Nat)+Int.toNat (fiV own id X_1.L)) with
 | true=>(List.getD X.L ((0:Nat)+Int.toNat (fiV own id X_1.L)-(0:Nat)) Z7).fin
 | false=>(List.getD X.L ((0:Nat)+Int.toNat (fiV own id X_1.L)-(0:Nat)) Z7).fin),
 AV.arr u8 (32:Nat) sec])∧
 True)
 False)
 False)
 False)
 False)
 False)
 False)
 False)
 False)
 False)
 False)
 False)
 False)
 False)
 False)
 False)
 False)
 False)
 False)
 False)))
 False)
 False))
 False) (by kernel_rfl) ?_
 try simp only [Zg]
 try simp only [Zi]
 try simp only [Zh]
 try simp only [Zj]
 try simp only [Zk]
 try simp only [Ze]
 try simp only [Int.toNat_natCast,Nat.zero_add,true_and,and_true,Nat.le_refl]
 subst hn
 obtain ⟨hI,h5,hno⟩:=Z45 he
 have hX2:X'={ X with L:=X.L.set (ZB own id X.L) (VK (X.L.getD (ZB own id X.L) Z7) k sec)}:=by rw [hX'];unfold endX;rw [if_pos he]
 have hv:fiV own id X.L=((ZB own id X.L:Nat):Int):=by unfold fiV;rw [if_pos hI]
 have h2:=(hOk _ (Zz hI)).hash
 have hR:∀τ,Za 1 τ X.L.length (Z4 X.L) (Z4 X.L):=fun τ=>Zn fun _ _=>rfl
 refine ⟨fun _ _=>trivial,X,.a rfl,hlen, ?_⟩
 rw [hv]
 simp only [Int.toNat_natCast,Nat.sub_zero]
 have hset:∀i,(X.L.set (ZB own id X.L) (VK (X.L.getD (ZB own id X.L) Z7) k sec)).getD i Z7=if i=ZB own id X.L then VK (X.L.getD (ZB own id X.L) Z7) k sec else X.L.getD i Z7:=fun i=>Zg0 hI i
 generalize hz:X.L.getD (ZB own id X.L) Z7=z at*
 generalize hLn:X.L.set (ZB own id X.L) (VK z k sec)=L2 at*
 subst hX2
 have hi:(0:Int)≤((ZB own id X.L:Nat):Int)∧((ZB own id X.L:Nat):Int)<(X.L.length:Int):=by omega
 generalize ZB own id X.L=I at*
 refine ⟨by omega,hi,hI,by simp [h5],fun hk=>⟨hi,hI,hsec,hsec.symm,by omega,⟨hl,h2⟩,by rw [hno (by simpa using hk)];simp, ?_⟩,fun hk=> ?_⟩
 all_goals
  repeat' apply And.intro
  all_goals first|omega|exact hR _|rfl|skip
  refine Zn fun i hi=> ?_
  rw [Ui]
  unfold Z4
  rw [hset]
  by_cases h:i=I
  ·rw [if_pos h,h]
   simp only [Nat.beq_refl]
   rfl
  ·rw [if_neg h,Zx h,Ui,Zx h,Ui,Zx h]
   rw [QK (Nat.zero_le _)]
   rfl
theorem Z6n {xs:List Int} (h:Bytes xs):∀x∈xs,U8 x:=fun x hx=>by
 obtain ⟨i,hi,rfl⟩:=List.getElem_of_mem hx
 have:=h.h i
 rw [List.getD_eq_getElem?_getD,List.getElem?_eq_getElem hi] at this
 have h1:0≤xs[i]∧xs[i]≤255:=this
 unfold U8;omega
theorem ZcO {X:Z6} {own:Bool} {id k:Int} {sec:List Int} (hs:sec.length=32) (hb:Bytes sec):YY Wk X own id k sec=YY Zo X own id k sec∧endX Wk X own id k sec=endX Zo X own id k sec:=by
 have e:Wk sec=Zo sec:=Z8C (Z6n hb) (by omega)
 have e1:YY Wk X own id k sec=YY Zo X own id k sec:=by unfold YY;rw [e]
 exact ⟨e1,by unfold endX;rw [e1]⟩
def ZcP (c:Bool):Ye:=fun args h K=>match args with
 | [.agg [_,_,_,_,_,_,_,_,_,_,_,_,.nslice ⟨b,0,70,0,0⟩ 70 _ _],_,_,_,_]=>frA [b] h 20 args fun Bs a=>match Bs,a with
  | [.rows 70 n f],[.agg cs,.bool own,.int .i64 id,.int .i64 k,.agg [.arr .u8 32 sec]]=>
   ∃X,LD cs n f X∧X.Inv Zo∧(sec.length=32∧Bytes sec)∧(match c with
    | true=>YY Zo X own id k sec=0∧K (.ret (.tuple [.agg ((endX Zo X own id k sec).c (slH h.next X.L.length)),.int .i64 0])) ⟨h.next+1,(b,.rows 70 X.L.length (Z4 X.L))::(h.next,.rows 70 X.L.length (Z4 (endX Zo X own id k sec).L))::Yw h.bs b⟩
    | false=>YY Zo X own id k sec≠0∧K (.ret (.tuple [.agg (X.c (slH b X.L.length)),.int .i64 (YY Zo X own id k sec)])) ⟨h.next,(b,.rows 70 X.L.length (Z4 X.L))::Yw h.bs b⟩)
  | _,_=>False
 | _=>False
theorem ZcQ (c:Bool) (args:List AV) (h:Z9) (K:KO) (hl:ZcP c args h K):Zm PP 103 args h K:=by
 unfold ZcP at hl
 split at hl
 ·refine Spec.fsumm hl fun Bs a hlen hK0=> ?_
  split at hK0
  ·rename_i cs n f own id k sec
   obtain ⟨X,⟨rfl,rfl,rfl⟩,hI,⟨hs,hb⟩,hK⟩:=hK0
   obtain ⟨e1,e2⟩:=ZcO (X:=X) (own:=own) (id:=id) (k:=k) hs hb
   cases c with
   | true=>
    obtain ⟨he,hK1⟩:=hK
    exact ⟨_,_,_,_,_,.evM Z8X (ZiQ X _ _ own id k sec Wk 1000 rfl hI.am.n hI.ok hs (Z62 _) (by decide) (by rw [e1];exact he) e2.symm),by simp,.ret _ _ rfl,.cons _ _ _ _ _ _ rfl (.rows _ _ _ (fun _ _=>rfl)) (.cons _ _ _ _ _ _ rfl (.rows _ _ _ (fun _ _=>rfl)) .nil),hK1⟩
   | false=>
    obtain ⟨he,hK2⟩:=hK
    exact ⟨_,_,_,_,_,.evM Z8X (ZiP X _ own id k _ sec Wk 1000 rfl hI.am.n hI.ok hs (Z62 _) (by decide) e1.symm he),by simp,.ret _ _ rfl,.cons _ _ _ _ _ _ rfl (.rows _ _ _ (fun _ _=>rfl)) .nil,hK2⟩
  ·exact hK0.elim
 ·exact hl.elim
end Go.Tk
end
section
namespace Go.Tk
open IntKind (i64 u8 u32 u64 wrap)
noncomputable def Zf7:Zf:=(G0.withP 100 sdS).withP 104 neS
theorem Z8Y:Zf7.Ok:=Zf.withP_ok (Zf.withP_ok Zr Z7S) Zey
def Zg9 (X:Z6) (L:List Z5) (n:Nat) (G Hd Lf:List Z5):Z9:=⟨6,[(0,.rows 70 n (Z4 L)),(1,.flat (X.c (slH 0 n))),(2,.flat (Yl.c .nilslice)),(3,.rows 70 G.length (Z4 G)),(4,.rows 70 Hd.length (Z4 Hd)),(5,.rows 70 Lf.length (Z4 Lf))]⟩
def Zf8 (X:Z6) (L:List Z5) (m:Int) (n i:Nat) (G Hd Lf:List Z5):St:=⟨101,[(11,.int .i64 i),(2,pt 1),(1,.int .i64 m),(10,slH 3 G.length),(9,slH 4 Hd.length),(8,slH 5 Lf.length),(4,pt 2)],Zg9 X L n G Hd Lf,[]⟩
def Z7T (X:Z6) (L:List Z5) (n:Nat) (G Hd Lf:List Z5):St:=⟨101,[(2,pt 1),(10,slH 3 G.length),(9,slH 4 Hd.length),(8,slH 5 Lf.length),(4,pt 2)],Zg9 X L n G Hd Lf,[]⟩
theorem ZiR (X X1:Z6) (L:List Z5) (m:Int) (n i:Nat) (x:Z5) (G Hd Lf G1 Hd1 Lf1:List Z5) (Z1 Z2:Prop) (hn:n<1000) (hXL:X.L=L) (hL:L.length=n) (hi:i≤n) (hm:1≤m∧m≤4) (hX:YN X) (hx:i<n→L.getD i Z7=x) (hst:i<n→1≤x.stage∧x.stage≤9) (hb:G.length<1000∧Hd.length<1000∧Lf.length<1000) (hG:i<n→G1=G++YU (decide (ZT x.own x.stage m=10)) (stH m x)) (hH:i<n→Hd1=Hd++YU (decide (x.stage=4∧Xm x.own 4=m)) (stH m x)) (hLf:i<n→Lf1=Lf++YU (decide (¬ZT x.own x.stage m=10)) (stH m x)) (hX1:i<n→X1=if ZT x.own x.stage m=10 then { X with a0:=(XP X.side (X.a0,X.a1) (stH m x)).1,a1:=(XP X.side (X.a0,X.a1) (stH m x)).2} else X) (hw:i<n→ZT x.own x.stage m=10→x.fin=1→(-1152921504606846976≤X.a0∧X.a0≤1152921504606846976)∧(-1152921504606846976≤X.a1∧X.a1≤1152921504606846976)∧0≤x.amount∧x.amount≤1152921504606846976) (hZ1:i<n→Z1) (hZ2:i=n→Z2):
  ZI Zf7 20 39 0 1 (Zf8 X L m n i G Hd Lf) (rdM 1 0 9 (Zf8 X1 L m n (i+1) G1 Hd1 Lf1) (Z7T X L n G Hd Lf) (Z7T X L n G Hd Lf) (Z7T X L n G Hd Lf) Z1 Z2 False False):=by
 refine @Eq.mpr _ (let q1:=0+Int.toNat (↑i:Int);
 let q2:=List.getD L q1 Z7;
 let q3:=q2.stage;
 let q4:=q2.own;
 let q5:=ZT q4 q3 m;
 let q6:=List.length G;
 let q7:=decide (q6=q6);
 let q8:=q6+1;
 let q9:=q2.fin;
 let q10:=X.t;
 let q11:=q10.fund;
 let q12:=q10.index;
 let q13:=q10.cap;
 let q14:=q10.dust;
 let q15:=q10.fee;
 let q16:=q10.delay;
 let q17:=q10.k0;
 let q18:=q10.k1;
 let q19:=X.side;
 let q20:=X.res;
 let q21:=[X.a0,X.a1];
 let q22:=[X.i0,X.i1];
 let q23:=Z4 L;
 let q24:=q2.amount;
 let q25:=decide (wrap i64 ((↑i:Int)+1)=(↑(i+1):Int));
 let q26:=decide (m=m);
 let q27:=List.length G1;
 let q28:=decide (q8=q27);
 let q29:=decide (q27≤q8);
 let q30:=List.length Hd;
 let q31:=List.length Hd1;
 let q32:=decide (q30=q31);
 let q33:=decide (q31≤q30);
 let q34:=List.length Lf;
 let q35:=List.length Lf1;
 let q36:=decide (q34=q35);
 let q37:=decide (q35≤q34);
 let q38:=decide (n=n);
 let q39:=(2,2);
 let q40:=[(1,1)];
 let q41:=q39::(5,5)::(4,4)::(3,8)::q40;
 let q42:=Za 1 q41 n q23 q23;
 let q43:=X1.t;
 let q44:=q11=q43.fund;
 let q45:=decide (q12=q43.index);
 let q46:=decide (q13=q43.cap);
 let q47:=decide (q14=q43.dust);
 let q48:=decide (q15=q43.fee);
 let q49:=decide (q16=q43.delay);
 let q50:=q17=q43.k0;
 let q51:=q18=q43.k1;
 let q52:=decide (q19=X1.side);
 let q53:=decide (q20=X1.res);
 let q54:=[X1.a0,X1.a1];
 let q55:=q22=[X1.i0,X1.i1];
 let q56:=decide (n≤n);
 let q57:=Yl.t;
 let q58:=q57.fund;
 let q59:=q58=q58;
 let q60:=q57.k0;
 let q61:=q60=q60;
 let q62:=q57.k1;
 let q63:=q62=q62;
 let q64:=[Yl.a0,Yl.a1];
 let q65:=q64=q64;
 let q66:=[Yl.i0,Yl.i1];
 let q67:=q66=q66;
 let q68:=Z4 G1;
 let q69:=Z4 G;
 let q70:=YC [AV.bool q4,AV.int i64 q2.id,AV.int i64 q24,AV.arr u8 32 q2.hash,AV.int i64 q2.expiry,AV.int i64 q5,AV.int i64 q9,AV.arr u8 32 q2.secret] 0 70;
 let q71:=Z4 Hd1;
 let q72:=Z4 Hd;
 let q73:=Z4 Lf1;
 let q74:=Z4 Lf;
 let q75:=q55∧Z0 q38 (Z0 q56 (q59∧q61∧q63∧q65∧q67∧Z0 q28 (Za 1 q41 q27 q68 (ZW q6 q69 q70)∧Z0 q32 (Za 1 q41 q31 q71 q72∧Z0 q36 (Za 1 q41 q35 q73 q74∧Z1) False) False) False) False) False;
 let q76:=q21=q54;
 let q77:=decide (q30=q30);
 let q78:=q30+1;
 let q79:=decide (q34=q34);
 let q80:=q34+1;
 let q81:=decide (q80*112≤140737488355328);
 let q82:=decide (q6=q27);
 let q83:=decide (q27≤q6);
 let q84:=decide (q78=q31);
 let q85:=decide (q80=q35);
 let q86:=decide (q35≤q80);
 let q87:=(3,3)::q40;
 let q88:=q39::(5,10)::(4,8)::q87;
 let q89:=ZW q34 q74 q70;
 let q90:=(4,4)::q87;
 let q91:=q39::(5,8)::q90;
 let q92:=Z0 q79 (Z0 q81 (Z0 q25 (Z0 q26 (Z0 q82 (Z0 q83 (Z0 q32 (Z0 q33 (Z0 q85 (Z0 q86 (Z0 q38 (Za 1 q91 n q23 q23∧q44∧Z0 q45 (Z0 q46 (Z0 q47 (Z0 q48 (Z0 q49 (q50∧q51∧Z0 q52 (Z0 q53 (q76∧q55∧Z0 q38 (Z0 q56 (q59∧q61∧q63∧q65∧q67∧Z0 q82 (Za 1 q91 q27 q68 q69∧Z0 q32 (Za 1 q91 q31 q71 q72∧Z0 q85 (Za 1 q91 q35 q73 q89∧Z1) False) False) False) False) False) False) False) False) False) False) False) False) False) False) False) False) False) False) False) False) False) False) False;
 let q93:=q39::(5,5)::q90;
 Z0 (decide ((↑i:Int)<(↑n:Int)))
 (Z0 (decide (0≤(↑i:Int)∧(↑i:Int)<(↑n:Int)))
 (Z0 (decide (q1<n))
 (Z0 (decide ((1≤q3∧q3≤9)∧1≤m∧m≤4))
 (Z0 (q5==10)
 (Z0 q7
 (Z0 (decide (q8*112≤140737488355328))
 (Z0 (q9==1)
 (Z0 (decide (0+n≤n))
 ((∀(i:Nat),i<n→true=true)∧
 ∃(X_1:Z6),
 let q187:=X_1.side;
 let q188:=ZP q187 q4;
 let q189:=decide (0≤q188∧q188<2);
 let q190:=0+Int.toNat q188;
 let q191:=wrap i64 (1-q188);
 let q192:=decide (0≤q191∧q191<2);
 let q193:=0+Int.toNat q191;
 let q194:=List.set q21 q190 (wrap i64 (List.getD q21 q190 0-q24));
 LV [AV.arr u8 32 q11,AV.int i64 q12,AV.int i64 q13,AV.int i64 q14,AV.int i64 q15,AV.int i64 q16,AV.arr u8 32 q17,AV.arr u8 32 q18,AV.int i64 q19,AV.int i64 q20,AV.arr i64 2 q21,AV.arr i64 2 q22,AV.vrows 70 n (ZK 0 q23) n] X_1∧
 (0≤q187∧q187≤1)∧Z0 q189 (Z0 (decide (q190<2)) (Z0 q189 (Z0 (decide (i64=i64∧q190<2∧q190<2)) (Z0 q192 (Z0 (decide (q193<2)) (Z0 q192 (Z0 (decide (i64=i64∧q193<2∧q193<List.length q194)) (Z0 q25 (Z0 q26 (Z0 q28 (Z0 q29 (Z0 q32 (Z0 q33 (Z0 q36 (Z0 q37 (Z0 q38 (q42∧q44∧Z0 q45 (Z0 q46 (Z0 q47 (Z0 q48 (Z0 q49 (q50∧q51∧Z0 q52 (Z0 q53 (List.set q194 q193 (wrap i64 (List.getD q194 q193 0+q24))=q54∧q75) False) False) False) False) False) False) False) False) False) False) False) False) False) False) False) False) False) False) False) False) False) False) False) False)
 False)
 (Z0 q25 (Z0 q26 (Z0 q28 (Z0 q29 (Z0 q32 (Z0 q33 (Z0 q36 (Z0 q37 (Z0 q38 (q42∧q44∧Z0 q45 (Z0 q46 (Z0 q47 (Z0 q48 (Z0 q49 (q50∧q51∧Z0 q52 (Z0 q53 (q76∧q75) False) False) False) False) False) False) False) False) False) False) False) False) False) False) False) False))
 False)
 False)
 (Z0 (decide (Xm q4 q3=m)) (Z0 (q5==5) (Z0 q77 (Z0 (decide (q78*112≤140737488355328)) (Z0 q79 (Z0 q81 (Z0 q25 (Z0 q26 (Z0 q82 (Z0 q83 (Z0 q84 (Z0 (decide (q31≤q78)) (Z0 q85 (Z0 q86 (Z0 q38 (Za 1 q88 n q23 q23∧q44∧Z0 q45 (Z0 q46 (Z0 q47 (Z0 q48 (Z0 q49 (q50∧q51∧Z0 q52 (Z0 q53 (q76∧q55∧Z0 q38 (Z0 q56 (q59∧q61∧q63∧q65∧q67∧Z0 q82 (Za 1 q88 q27 q68 q69∧Z0 q84 (Za 1 q88 q31 q71 (ZW q30 q72 q70)∧Z0 q85 (Za 1 q88 q35 q73 q89∧Z1) False) False) False) False) False) False) False) False) False) False) False) False) False) False) False) False) False) False) False) False) False) False) False) False) False) q92) q92))
 False)
 False)
 False)
 (Z0 q7 (Z0 (decide (q6≤q6)) (Z0 q77 (Z0 (decide (q30≤q30)) (Z0 q79 (Z0 (decide (q34≤q34)) (Z0 q38 (Za 1 q93 n q23 q23∧q11=q11∧Z0 (decide (q12=q12)) (Z0 (decide (q13=q13)) (Z0 (decide (q14=q14)) (Z0 (decide (q15=q15)) (Z0 (decide (q16=q16)) (q17=q17∧q18=q18∧Z0 (decide (q19=q19)) (Z0 (decide (q20=q20)) (q21=q21∧q22=q22∧Z0 q38 (Z0 q56 (q59∧q61∧q63∧q65∧q67∧Z0 q7 (Za 1 q93 q6 q69 q69∧Z0 q77 (Za 1 q93 q30 q72 q72∧Z0 q79 (Za 1 q93 q34 q74 q74∧Z2) False) False) False) False) False) False) False) False) False) False) False) False) False) False) False) False) False) False) False)) (by kernel_rfl) ?_
 conv=>zeta
 try simp only [Zg]
 try simp only [Zi]
 try simp only [Zh]
 try simp only [Zj]
 try simp only [Zk]
 try simp only [Ze]
 try simp only [Int.toNat_natCast,Nat.zero_add,true_and,and_true,Nat.le_refl]
 refine ⟨fun hc=> ?_,fun hc=> ?_⟩
 ·have hlt:i<n:=by omega
  rw [hx hlt]
  have hG:=hG hlt
  have hH:=hH hlt
  have hLf:=hLf hlt
  have hX1:=hX1 hlt
  have hst:=hst hlt
  have hw:=hw hlt
  have hwr:i64.wrap ((i:Int)+1)=((i+1:Nat):Int):=by rw [w64 (by omega)];omega
  rw [hwr]
  have hR:∀τ k (Q:List Z5),Za 1 τ k (Z4 Q) (Z4 Q):=fun τ k Q=>Zn fun _ _=>rfl
  have hC:∀τ (Q:List Z5) (y:Z5),Za 1 τ (Q++[y]).length (Z4 (Q++[y])) (ZW Q.length (Z4 Q) (YC y.c 0 70)):=fun τ Q y=>Zn fun j hj=>Yt rfl (fun _ _=>rfl) (by simpa using hj)
  refine ⟨by omega,hlt,⟨hst,hm⟩,fun h10=>⟨by omega,fun hf=> ?_,fun hf=> ?_⟩,fun h10=>⟨fun ho=>⟨fun h5=> ?_,fun h5=> ?_⟩,fun ho=> ?_⟩⟩
  ·have h10:ZT x.own x.stage m=10:=by simpa using h10
   have h9:=Z7K hst h10
   rw [decide_eq_true h10] at hG
   rw [decide_eq_false (by omega)] at hH
   rw [decide_eq_false (by simp [h10])] at hLf
   rw [if_pos h10] at hX1
   simp only [YU,List.append_nil] at hG hH hLf
   have hf:x.fin=1:=by simpa using hf
   obtain ⟨b1,b2,b3⟩:=hw h10 hf
   have hs:X.side=0∨X.side=1:=by obtain ⟨s1,s2⟩:=hX;omega
   have hfr:=Z44 hs x.own
   have hwf:i64.wrap (1-ZP X.side x.own)=1-ZP X.side x.own:=w64 (by omega)
   subst hG hH hLf hX1
   refine ⟨fun _ _=>trivial,X, ?_,hX, ?_⟩
   ·refine .a ?_
    rw [hXL,hL];rfl
   rw [hwf,UB hfr b1 b2 b3]
   have em:=Ud (side:=X.side) (a:=X.a0) (b:=X.a1) (h:=stH m x) hf
   have e1:[X.a0,X.a1].set (ZP X.side x.own).toNat (i64.wrap ([X.a0,X.a1].getD (ZP X.side x.own).toNat 0-x.amount))=[X.a0,X.a1].set (ZP X.side x.own).toNat (i64.wrap ([X.a0,X.a1].getD (ZP X.side x.own).toNat 0-x.amount)):=rfl
   have hlen2:([X.a0,X.a1].set (ZP X.side x.own).toNat (i64.wrap ([X.a0,X.a1].getD (ZP X.side x.own).toNat 0-x.amount))).length=2:=by simp
   rw [hlen2]
   repeat' apply And.intro
   all_goals first|omega|rfl|exact hZ1 hlt|exact hC _ _ _|exact hR _ _ _|(simp;done)|exact em.symm
  ·have h10:ZT x.own x.stage m=10:=by simpa using h10
   have h9:=Z7K hst h10
   rw [decide_eq_true h10] at hG
   rw [decide_eq_false (by omega)] at hH
   rw [decide_eq_false (by simp [h10])] at hLf
   rw [if_pos h10,QU (h:=stH m x) (show ¬x.fin=1 by simpa using hf)] at hX1
   simp only [YU,List.append_nil] at hG hH hLf
   have hX1:X1=X:=hX1
   subst hG hH hLf hX1
   repeat' apply And.intro
   all_goals first|omega|rfl|exact hZ1 hlt|exact hC _ _ _|exact hR _ _ _|(simp;done)
  all_goals
   have h10:¬ZT x.own x.stage m=10:=by simpa using h10
   rw [decide_eq_false h10] at hG
   rw [decide_eq_true h10] at hLf
   rw [if_neg h10] at hX1
   simp only [YU,List.append_nil] at hG hLf
   subst hG hLf hX1
  ·have ho:Xm x.own x.stage=m:=ho
   have h5:ZT x.own x.stage m=5:=by simpa using h5
   have h4:x.stage=4:=by unfold ZT at h5;rw [if_pos ho] at h5;omega
   rw [decide_eq_true ⟨h4,by rw [←h4];exact ho⟩] at hH
   simp only [YU] at hH
   subst hH
   repeat' apply And.intro
   all_goals first|omega|rfl|exact hZ1 hlt|exact hC _ _ _|exact hR _ _ _|(simp;done)
  all_goals
   have hH':Hd1=Hd:=by
    rw [hH,decide_eq_false]
    ·simp [YU]
    ·intro hq
     simp [ZT,hq.1,hq.2] at*
   subst hH'
   repeat' apply And.intro
   all_goals first|omega|rfl|exact hZ1 hlt|exact hC _ _ _|exact hR _ _ _|(simp;done)
 ·repeat' apply And.intro
  all_goals first|omega|rfl|exact hZ2 (by omega)|exact Zn fun _ _=>rfl
def Z8Z (X:Z6) (m:Int) (n i:Nat):St:=Zf8 (stX X m i) X.L m n i (ZR m (X.L.take i)) (Yi m (X.L.take i)) (Yh m (X.L.take i))
def Z90 (X:Z6) (m:Int) (n i:Nat):St:=Z7T (stX X m i) X.L n (ZR m (X.L.take i)) (Yi m (X.L.take i)) (Yh m (X.L.take i))
theorem ZiS (X:Z6) (m:Int) (n i:Nat) (hC:Z6g X m n) (hi:i≤n):ZI Zf7 20 39 0 1 (Z8Z X m n i) (rdM 1 0 9 (Z8Z X m n (i+1)) (Z90 X m n i) (Z90 X m n i) (Z90 X m n i) (i<n∧i<n) (i=n) False False):=by
 obtain ⟨h1,h2,h3,h4,h5,h6⟩:=id hC
 have hlt:i<n→i<X.L.length:=fun h=>by omega
 have l0:(X.L.take i).length≤16:=by rw [List.length_take];omega
 have l1:=Z2T m (X.L.take i)
 have l2:=Z2U m (X.L.take i)
 have l3:=Z6f m (X.L.take i)
 refine ZiR (stX X m i) (stX X m (i+1)) X.L m n i (X.L.getD i Z7) _ _ _ _ _ _ (i<n∧i<n) (i=n) (by omega) rfl h1 hi h3 (show 0≤X.side∧X.side≤1 by omega) (fun _=>rfl) (fun h=>(h5 _ (Zz (hlt h))).1) ⟨by omega,by omega,by omega⟩ (fun h=> ?_) (fun h=> ?_) (fun h=> ?_) (fun h=>Z6e (hlt h)) (fun h _ _=> ?_) (fun h=>⟨h,h⟩) (fun h=>h)
 ·rw [Y5 (hlt h),Qp]
 ·rw [Y5 (hlt h),Z2S]
 ·rw [Y5 (hlt h),Z2R]
 ·obtain ⟨b1,b2⟩:=Z47 (i:=i) hC
  have:=(h5 _ (Zz (hlt h))).2
  exact ⟨b1,b2,this.1,by omega⟩
noncomputable def Z91 (X:Z6) (m:Int) (n:Nat) (C:Prop) (E:Nat→St):Zf:=Zf7.withL 39 0 (goM 1 (Zf8 X X.L m n 0 [] [] []) C (Ys 0 n 9 (fun i=>i<n) (fun i=>i=n) (fun _=>False) (fun _=>False) E E E))
theorem ZcR (X:Z6) (m:Int) (n:Nat):(Z91 X m n (Z6g X m n) (Z90 X m n)).Ok:=
 Zf.withGoM (N:=20) (S:=Z8Z X m n) Z8Y (by kernel_rfl) fun hC=>⟨rfl,fun i hi _=>ZiS X m n i hC hi⟩
theorem ZiT (X X':Z6) (m:Int) (n l g d:Nat) (G Hd:List Z5) (C:Prop) (XF:Nat→Z6) (GF HF LF:Nat→List Z5) (hC:C) (hm:1≤m∧m≤4) (hG:G=GF n) (hH:Hd=HF n) (hX':X'={ XF n with L:=LF n}) (hl:l=X'.L.length) (hg:g=G.length) (hd:d=Hd.length):
  evF (Z91 X m n C fun i=>Z7T (XF i) X.L n (GF i) (HF i) (LF i)) 20 39 [.agg (X.c (slH 0 n)),.int .i64 m] ⟨1,[(0,.rows 70 n (Z4 X.L))]⟩ (Y7 1 (.ret (.tuple [.agg (X'.c (slH 1 l)),slH 3 d,slH 2 g,.int .i64 0])) 4 [(0,.rows 70 n (Z4 X.L)),(1,.rows 70 l (Z4 X'.L)),(2,.rows 70 g (Z4 G)),(3,.rows 70 d (Z4 Hd))]):=by
 refine @Eq.mpr _ (let q1:=decide (n=n);
 let q2:=Z4 X.L;
 let q3:=X.t;
 let q4:=q3.fund;
 let q5:=q3.index;
 let q6:=q3.cap;
 let q7:=q3.dust;
 let q8:=q3.fee;
 let q9:=q3.delay;
 let q10:=q3.k0;
 let q11:=q3.k1;
 let q12:=[X.a0,X.a1];
 let q13:=[X.i0,X.i1];
 let q14:=Yl.t;
 let q15:=[(0:Int),0];
 let q16:=X'.t;
 let q17:=[(2,3),(3,4),(1,5)];
 Z0 (decide (m<1)) False
 (Z0 (decide (m>4)) False
 (Z0 (decide (m=m))
 (Z0 q1
 (Za 1 [(2,2),(1,1)] n q2 q2∧
 q4=q4∧
 Z0 (decide (q5=q5))
 (Z0 (decide (q6=q6))
 (Z0 (decide (q7=q7))
 (Z0 (decide (q8=q8))
 (Z0 (decide (q9=q9))
 (q10=q10∧
 q11=q11∧
 Z0 (decide (X.side=X.side))
 (Z0 (decide (X.res=X.res))
 (q12=q12∧
 q13=q13∧
 Z0 q1
 (Z0 (decide (n≤n))
 (Zd=q14.fund∧
 Zd=q14.k0∧
 Zd=q14.k1∧
 q15=[Yl.a0,Yl.a1]∧
 q15=[Yl.i0,Yl.i1]∧
 C∧
 ∀(i:Nat),
 let q35:=(XF i).t;
 let q36:=decide (List.length (LF i)=l);
 let q37:=decide (List.length (HF i)=d);
 let q38:=decide (List.length (GF i)=g);
 i≤n→(∀(j:Nat),j<i→(fun (i:Nat)=>i<n) j)→(i=n→q35.fund=q16.fund∧Z0 (decide (q35.index=q16.index)) (Z0 (decide (q35.cap=q16.cap)) (Z0 (decide (q35.dust=q16.dust)) (Z0 (decide (q35.fee=q16.fee)) (Z0 (decide (q35.delay=q16.delay)) (q35.k0=q16.k0∧q35.k1=q16.k1∧Z0 (decide ((XF i).side=X'.side)) (Z0 (decide ((XF i).res=X'.res)) ([(XF i).a0,(XF i).a1]=[X'.a0,X'.a1]∧[(XF i).i0,(XF i).i1]=[X'.i0,X'.i1]∧Z0 q36 (Z0 (decide (l≤List.length (LF i))) (Z0 q37 (Z0 (decide (d≤List.length (HF i))) (Z0 q38 (Z0 (decide (g≤List.length (GF i))) (Z0 q1 (Za 1 q17 n q2 q2∧Z0 q36 (Za 1 q17 l (Z4 X'.L) (Z4 (LF i))∧Z0 q38 (Za 1 q17 g (Z4 G) (Z4 (GF i))∧Z0 q37 (Za 1 q17 d (Z4 Hd) (Z4 (HF i))∧True) False) False) False) False) False) False) False) False) False) False) False) False) False) False) False) False) False)∧(False→False)∧(False→False))
 False)
 False)
 False)
 False)
 False)
 False)
 False)
 False)
 False)
 False)
 False))) (by kernel_rfl) ?_
 conv=>zeta
 try simp only [Zg]
 try simp only [Zi]
 try simp only [Zh]
 try simp only [Zj]
 try simp only [Zk]
 try simp only [Ze]
 try simp only [Int.toNat_natCast,Nat.zero_add,true_and,and_true,Nat.le_refl]
 subst hG hH hX'
 have hR:∀τ k (Q:List Z5),Za 1 τ k (Z4 Q) (Z4 Q):=fun τ k Q=>Zn fun _ _=>rfl
 refine ⟨by omega,by omega,hR _ _ _,rfl,rfl,rfl,rfl,rfl,hC,fun i hi _=>⟨fun he=> ?_,fun h=>h,fun h=>h⟩⟩
 subst he
 repeat' apply And.intro
 all_goals first|rfl|exact hR _ _ _|exact hl.symm|exact hg.symm|exact hd.symm|exact Nat.le_of_eq hl|exact Nat.le_of_eq hg|exact Nat.le_of_eq hd
theorem ZiU (X:Z6) (m:Int) (n:Nat) (C:Prop) (hm:¬(1≤m∧m≤4)):
  evF (Z91 X m n C fun _=>Z7T X [] n [] [] []) 20 39 [.agg (X.c (slH 0 n)),.int .i64 m] ⟨1,[(0,.rows 70 n (Z4 X.L))]⟩ (Y7 1 (.ret (.tuple [.agg (X.c (slH 0 n)),.nilslice,.nilslice,.int .i64 2])) 1 [(0,.rows 70 n (Z4 X.L))]):=by
 refine @Eq.mpr _ (let q1:=X.t;
 let q2:=q1.fund;
 let q3:=q2=q2;
 let q4:=q1.index;
 let q5:=decide (q4=q4);
 let q6:=q1.cap;
 let q7:=decide (q6=q6);
 let q8:=q1.dust;
 let q9:=decide (q8=q8);
 let q10:=q1.fee;
 let q11:=decide (q10=q10);
 let q12:=q1.delay;
 let q13:=decide (q12=q12);
 let q14:=q1.k0;
 let q15:=q14=q14;
 let q16:=q1.k1;
 let q17:=q16=q16;
 let q18:=decide (X.side=X.side);
 let q19:=decide (X.res=X.res);
 let q20:=[X.a0,X.a1];
 let q21:=q20=q20;
 let q22:=[X.i0,X.i1];
 let q23:=q22=q22;
 let q24:=decide (n=n);
 let q25:=decide (n≤n);
 let q26:=Z4 X.L;
 let q27:=q3∧Z0 q5 (Z0 q7 (Z0 q9 (Z0 q11 (Z0 q13 (q15∧q17∧Z0 q18 (Z0 q19 (q21∧q23∧Z0 q24 (Z0 q25 (Z0 q24 (Za 1 [] n q26 q26∧True) False) False) False) False) False) False) False) False) False) False;
 let q28:=Yl.t;
 let q29:=[(0:Int),0];
 Z0 (decide (m<1)) q27 (Z0 (decide (m>4)) q27 (Z0 (decide (m=m)) (Z0 q24 (Za 1 [(2,2),(1,1)] n q26 q26∧q3∧Z0 q5 (Z0 q7 (Z0 q9 (Z0 q11 (Z0 q13 (q15∧q17∧Z0 q18 (Z0 q19 (q21∧q23∧Z0 q24 (Z0 q25 (Zd=q28.fund∧Zd=q28.k0∧Zd=q28.k1∧q29=[Yl.a0,Yl.a1]∧q29=[Yl.i0,Yl.i1]∧C∧∀(i:Nat),i≤n→(∀(j:Nat),j<i→(fun (i:Nat)=>i<n) j)→(i=n→q3∧Z0 q5 (Z0 q7 (Z0 q9 (Z0 q11 (Z0 q13 (q15∧q17∧Z0 q18 (Z0 q19 (q21∧q23∧False) False) False) False) False) False) False) False)∧(False→False)∧(False→False)) False) False) False) False) False) False) False) False) False) False) False))) (by kernel_rfl) ?_
 conv=>zeta
 try simp only [Zg]
 try simp only [Zi]
 try simp only [Zh]
 try simp only [Zj]
 try simp only [Zk]
 try simp only [Ze]
 try simp only [Int.toNat_natCast,Nat.zero_add,true_and,and_true,Nat.le_refl]
 have hR:∀τ k (Q:List Z5),Za 1 τ k (Z4 Q) (Z4 Q):=fun τ k Q=>Zn fun _ _=>rfl
 exact ⟨fun _=>hR _ _ _,fun h1=>⟨fun _=>hR _ _ _,fun h2=>absurd ⟨by omega,by omega⟩ hm⟩⟩
def Z7U (c:Bool):Ye:=fun args h K=>match args with
 | [.agg [_,_,_,_,_,_,_,_,_,_,_,_,.nslice ⟨b,0,70,0,0⟩ 70 _ _],_]=>frA [b] h 20 args fun Bs a=>match Bs,a with
  | [.rows 70 n f],[.agg cs,.int .i64 m]=>
   ∃X,LD cs n f X∧X.Inv Zo∧(match c with
    | true=>(1≤m∧m≤4)∧K (.ret (.tuple [.agg ((stpX X m).c (slH h.next (stpX X m).L.length)),slH (h.next+2) (Yi m X.L).length,slH (h.next+1) (ZR m X.L).length,.int .i64 0])) ⟨h.next+3,(b,.rows 70 X.L.length (Z4 X.L))::(h.next,.rows 70 (stpX X m).L.length (Z4 (stpX X m).L))::(h.next+1,.rows 70 (ZR m X.L).length (Z4 (ZR m X.L)))::(h.next+2,.rows 70 (Yi m X.L).length (Z4 (Yi m X.L)))::Yw h.bs b⟩
    | false=>¬(1≤m∧m≤4)∧K (.ret (.tuple [.agg (X.c (slH b X.L.length)),.nilslice,.nilslice,.int .i64 2])) ⟨h.next,(b,.rows 70 X.L.length (Z4 X.L))::Yw h.bs b⟩)
  | _,_=>False
 | _=>False
theorem Zai (c:Bool) (args:List AV) (h:Z9) (K:KO) (hl:Z7U c args h K):Zm PP 39 args h K:=by
 unfold Z7U at hl
 split at hl
 ·refine Spec.fsumm hl fun Bs a hlen hK0=> ?_
  split at hK0
  ·rename_i cs n f m
   obtain ⟨X,⟨rfl,rfl,rfl⟩,hI,hK⟩:=hK0
   cases c with
   | true=>
    obtain ⟨hm,hK1⟩:=hK
    have e:=Z8O (X:=X) hm
    have hv:=ZiT X (stpX X m) m X.L.length _ _ _ (ZR m X.L) (Yi m X.L) (Z6g X m X.L.length) (stX X m) (fun i=>ZR m (X.L.take i)) (fun i=>Yi m (X.L.take i)) (fun i=>Yh m (X.L.take i)) (hI.st hm) hm (by rw [List.take_length]) (by rw [List.take_length]) (by dsimp only;rw [List.take_length];exact e) rfl rfl rfl
    exact ⟨_,_,_,_,_,.evM (ZcR X m _) hv,by simp,.ret _ _ rfl,.cons _ _ _ _ _ _ rfl (.rows _ _ _ (fun _ _=>rfl)) (.cons _ _ _ _ _ _ rfl (.rows _ _ _ (fun _ _=>rfl)) (.cons _ _ _ _ _ _ rfl (.rows _ _ _ (fun _ _=>rfl)) (.cons _ _ _ _ _ _ rfl (.rows _ _ _ (fun _ _=>rfl)) .nil))),hK1⟩
   | false=>
    obtain ⟨hm,hK2⟩:=hK
    have hC:(Z91 X m X.L.length False fun _=>Z7T X [] X.L.length [] [] []).Ok:=Zf.withGoM (N:=20) (S:=fun i=>Z8Z X m X.L.length i) Z8Y (by kernel_rfl) fun h=>h.elim
    exact ⟨_,_,_,_,_,.evM hC (ZiU X m _ False hm),by simp,.ret _ _ rfl,.cons _ _ _ _ _ _ rfl (.rows _ _ _ (fun _ _=>rfl)) .nil,hK2⟩
  ·exact hK0.elim
 ·exact hl.elim
end Go.Tk
end
section
namespace Go.Tk
open IntKind (i64 u8 u32 u64 wrap)
noncomputable def Zf9:Zf:=G0.withP 105 bkS
theorem Zfa:Zf9.Ok:=Zf.withP_ok Zr ZeA
def Zga (X:Z6) (L:List Z5) (n:Nat) (G Lf:List Z5):Z9:=⟨5,[(0,.rows 70 n (Z4 L)),(1,.flat (X.c (slH 0 n))),(2,.flat (Yl.c .nilslice)),(3,.rows 70 G.length (Z4 G)),(4,.rows 70 Lf.length (Z4 Lf))]⟩
def Zfb (X:Z6) (L:List Z5) (n i:Nat) (G Lf:List Z5):St:=⟨53,[(6,.int .i64 i),(1,pt 1),(5,slH 3 G.length),(4,slH 4 Lf.length),(2,pt 2)],Zga X L n G Lf,[]⟩
def ZcS (X:Z6) (L:List Z5) (n:Nat) (G Lf:List Z5):St:=⟨53,[(1,pt 1),(5,slH 3 G.length),(4,slH 4 Lf.length),(2,pt 2)],Zga X L n G Lf,[]⟩
theorem ZiV (X X1:Z6) (L:List Z5) (n i:Nat) (x:Z5) (G Lf G1 Lf1:List Z5) (Z1 Z2:Prop) (hn:n<1000) (hL:L.length=n) (hi:i≤n) (hx:i<n→L.getD i Z7=x) (hst:i<n→1≤x.stage∧x.stage≤9) (hb:G.length<1000∧Lf.length<1000) (hG:i<n→G1=G++YU (decide (Yu x.own x.stage=0)) x) (hLf:i<n→Lf1=Lf++YU (decide (¬Yu x.own x.stage=0)) (brH x)) (hX1:i<n→X1=if Yu x.own x.stage=0 then { X with i1:=X.i1-1} else X) (hw: -1000≤X.i1∧X.i1≤2147483648) (hZ1:i<n→Z1) (hZ2:i=n→Z2):
  ZI Zf9 20 41 0 1 (Zfb X L n i G Lf) (rdM 1 0 9 (Zfb X1 L n (i+1) G1 Lf1) (ZcS X L n G Lf) (ZcS X L n G Lf) (ZcS X L n G Lf) Z1 Z2 False False):=by
 refine @Eq.mpr _ (let q1:=0+Int.toNat (↑i:Int);
 let q2:=List.getD L q1 Z7;
 let q3:=q2.stage;
 let q4:=q2.own;
 let q5:=Yu q4 q3;
 let q6:=List.length G;
 let q7:=decide (q6=q6);
 let q8:=q6+1;
 let q9:=decide (wrap i64 ((↑i:Int)+1)=(↑(i+1):Int));
 let q10:=List.length G1;
 let q11:=decide (q8=q10);
 let q12:=List.length Lf;
 let q13:=List.length Lf1;
 let q14:=decide (q12=q13);
 let q15:=decide (n=n);
 let q16:=[(1,1)];
 let q17:=(2,2)::(4,4)::(3,7)::q16;
 let q18:=Z4 L;
 let q19:=X.t;
 let q20:=q19.fund;
 let q21:=X1.t;
 let q22:=q20=q21.fund;
 let q23:=q19.index;
 let q24:=decide (q23=q21.index);
 let q25:=q19.cap;
 let q26:=decide (q25=q21.cap);
 let q27:=q19.dust;
 let q28:=decide (q27=q21.dust);
 let q29:=q19.fee;
 let q30:=decide (q29=q21.fee);
 let q31:=q19.delay;
 let q32:=decide (q31=q21.delay);
 let q33:=q19.k0;
 let q34:=q33=q21.k0;
 let q35:=q19.k1;
 let q36:=q35=q21.k1;
 let q37:=X.side;
 let q38:=decide (q37=X1.side);
 let q39:=X.res;
 let q40:=decide (q39=X1.res);
 let q41:=[X.a0,X.a1];
 let q42:=q41=[X1.a0,X1.a1];
 let q43:=[X1.i0,X1.i1];
 let q44:=decide (n≤n);
 let q45:=Yl.t;
 let q46:=q45.fund;
 let q47:=q46=q46;
 let q48:=q45.k0;
 let q49:=q48=q48;
 let q50:=q45.k1;
 let q51:=q50=q50;
 let q52:=[Yl.a0,Yl.a1];
 let q53:=q52=q52;
 let q54:=[Yl.i0,Yl.i1];
 let q55:=q54=q54;
 let q56:=Z4 G;
 let q57:=AV.bool q4;
 let q58:=AV.int i64 q2.id;
 let q59:=AV.int i64 q2.amount;
 let q60:=AV.arr u8 32 q2.hash;
 let q61:=AV.int i64 q2.expiry;
 let q62:=[AV.int i64 q2.fin,AV.arr u8 32 q2.secret];
 let q63:=Z4 Lf1;
 let q64:=Z4 Lf;
 let q65:=decide (q12=q12);
 let q66:=q12+1;
 let q67:=decide (q66*112≤140737488355328);
 let q68:=decide (q6=q10);
 let q69:=decide (q10≤q6);
 let q70:=decide (q66=q13);
 let q71:=decide (q13≤q66);
 let q72:=(3,3)::q16;
 let q73:=(2,2)::(4,7)::q72;
 let q74:=Za 1 q73 n q18 q18;
 let q75:=[X.i0,X.i1];
 let q76:=q75=q43;
 let q77:=Za 1 q73 q10 (Z4 G1) q56;
 let q78:=AV.int i64 q5;
 let q79:=(2,2)::(4,4)::q72;
 Z0 (decide ((↑i:Int)<(↑n:Int)))
 (Z0 (decide (0≤(↑i:Int)∧(↑i:Int)<(↑n:Int)))
 (Z0 (decide (q1<n))
 (Z0 (decide (1≤q3∧q3≤9))
 (Z0 (q5==0) (Z0 q7 (Z0 (decide (q8*112≤140737488355328)) (Z0 q9 (Z0 q11 (Z0 (decide (q10≤q8)) (Z0 q14 (Z0 (decide (q13≤q12)) (Z0 q15 (Za 1 q17 n q18 q18∧q22∧Z0 q24 (Z0 q26 (Z0 q28 (Z0 q30 (Z0 q32 (q34∧q36∧Z0 q38 (Z0 q40 (q42∧[X.i0,wrap i64 (X.i1-1)]=q43∧Z0 q15 (Z0 q44 (q47∧q49∧q51∧q53∧q55∧Z0 q11 (Za 1 q17 q10 (Z4 G1) (ZW q6 q56 (YC (q57::q58::q59::q60::q61::AV.int i64 q3::q62) 0 70))∧Z0 q14 (Za 1 q17 q13 q63 q64∧Z1) False) False) False) False) False) False) False) False) False) False) False) False) False) False) False) False) False) False) False)
 (Z0 (q5==5) (Z0 q65 (Z0 q67 (Z0 q9 (Z0 q68 (Z0 q69 (Z0 q70 (Z0 q71 (Z0 q15 (q74∧q22∧Z0 q24 (Z0 q26 (Z0 q28 (Z0 q30 (Z0 q32 (q34∧q36∧Z0 q38 (Z0 q40 (q42∧q76∧Z0 q15 (Z0 q44 (q47∧q49∧q51∧q53∧q55∧Z0 q68 (q77∧Z0 q70 (Za 1 q73 q13 q63 (ZW q12 q64 (YC [q57,q58,q59,q60,q61,q78,AV.int i64 0,AV.arr u8 32 Zd] 0 70))∧Z1) False) False) False) False) False) False) False) False) False) False) False) False) False) False) False) False) False) False) False)
 (Z0 q65 (Z0 q67 (Z0 q9 (Z0 q68 (Z0 q69 (Z0 q70 (Z0 q71 (Z0 q15 (q74∧q22∧Z0 q24 (Z0 q26 (Z0 q28 (Z0 q30 (Z0 q32 (q34∧q36∧Z0 q38 (Z0 q40 (q42∧q76∧Z0 q15 (Z0 q44 (q47∧q49∧q51∧q53∧q55∧Z0 q68 (q77∧Z0 q70 (Za 1 q73 q13 q63 (ZW q12 q64 (YC (q57::q58::q59::q60::q61::q78::q62) 0 70))∧Z1) False) False) False) False) False) False) False) False) False) False) False) False) False) False) False) False) False) False) False)))
 False)
 False)
 False)
 (Z0 q7 (Z0 (decide (q6≤q6)) (Z0 q65 (Z0 (decide (q12≤q12)) (Z0 q15 (Za 1 q79 n q18 q18∧q20=q20∧Z0 (decide (q23=q23)) (Z0 (decide (q25=q25)) (Z0 (decide (q27=q27)) (Z0 (decide (q29=q29)) (Z0 (decide (q31=q31)) (q33=q33∧q35=q35∧Z0 (decide (q37=q37)) (Z0 (decide (q39=q39)) (q41=q41∧q75=q75∧Z0 q15 (Z0 q44 (q47∧q49∧q51∧q53∧q55∧Z0 q7 (Za 1 q79 q6 q56 q56∧Z0 q65 (Za 1 q79 q12 q64 q64∧Z2) False) False) False) False) False) False) False) False) False) False) False) False) False) False) False) False)) (by kernel_rfl) ?_
 conv=>zeta
 try simp only [Zg]
 try simp only [Zi]
 try simp only [Zh]
 try simp only [Zj]
 try simp only [Zk]
 try simp only [Ze]
 try simp only [Int.toNat_natCast,Nat.zero_add,true_and,and_true,Nat.le_refl]
 refine ⟨fun hc=> ?_,fun hc=> ?_⟩
 ·have hlt:i<n:=by omega
  rw [hx hlt]
  have hG:=hG hlt
  have hLf:=hLf hlt
  have hX1:=hX1 hlt
  have hst:=hst hlt
  have hwr:i64.wrap ((i:Int)+1)=((i+1:Nat):Int):=by rw [w64 (by omega)];omega
  have hwi:i64.wrap (X.i1-1)=X.i1-1:=w64 (by omega)
  rw [hwr,hwi]
  have hR:∀τ k (Q:List Z5),Za 1 τ k (Z4 Q) (Z4 Q):=fun τ k Q=>Zn fun _ _=>rfl
  have hC:∀τ (Q:List Z5) (y:Z5),Za 1 τ (Q++[y]).length (Z4 (Q++[y])) (ZW Q.length (Z4 Q) (YC y.c 0 70)):=fun τ Q y=>Zn fun j hj=>Yt rfl (fun _ _=>rfl) (by simpa using hj)
  refine ⟨by omega,hlt,hst,fun h0=> ?_,fun h0=>⟨fun h5=> ?_,fun h5=> ?_⟩⟩
  ·have h0:Yu x.own x.stage=0:=by simpa using h0
   rw [decide_eq_true h0] at hG
   rw [decide_eq_false (fun h=>h h0)] at hLf
   rw [if_pos h0] at hX1
   simp only [YU,List.append_nil] at hG hLf
   subst hG hLf hX1
   repeat' apply And.intro
   all_goals first|omega|rfl|exact hZ1 hlt|exact hC _ _ _|exact hR _ _ _|(simp;done)
  all_goals
   have h0:¬Yu x.own x.stage=0:=by simpa using h0
   rw [decide_eq_false h0] at hG
   rw [decide_eq_true h0] at hLf
   rw [if_neg h0] at hX1
   simp only [YU,List.append_nil] at hG hLf
   subst hG hX1
  ·have h5:Yu x.own x.stage=5:=by simpa using h5
   rw [Zg1 h5] at hLf
   rw [h5]
   subst hLf
   repeat' apply And.intro
   all_goals first|omega|rfl|exact hZ1 hlt|exact hC _ _ ⟨x.own,x.id,x.amount,x.hash,x.expiry,5,0,Zd⟩|exact hR _ _ _|(simp;done)
  ·have h5:¬Yu x.own x.stage=5:=by simpa using h5
   have hb5:brH x=⟨x.own,x.id,x.amount,x.hash,x.expiry,Yu x.own x.stage,x.fin,x.secret⟩:=by unfold brH;rw [if_neg h5]
   rw [hb5] at hLf
   subst hLf
   repeat' apply And.intro
   all_goals first|omega|rfl|exact hZ1 hlt|exact hC _ _ ⟨x.own,x.id,x.amount,x.hash,x.expiry,Yu x.own x.stage,x.fin,x.secret⟩|exact hR _ _ _|(simp;done)
 ·repeat' apply And.intro
  all_goals first|omega|rfl|exact hZ2 (by omega)|exact Zn fun _ _=>rfl
def Z92 (X:Z6) (n i:Nat):St:=Zfb (bkX X i) X.L n i (ZD (X.L.take i)) (Yg (X.L.take i))
def Z93 (X:Z6) (n i:Nat):St:=ZcS (bkX X i) X.L n (ZD (X.L.take i)) (Yg (X.L.take i))
theorem ZiW (X:Z6) (n i:Nat) (hC:Z7N X n) (hi:i≤n):ZI Zf9 20 41 0 1 (Z92 X n i) (rdM 1 0 9 (Z92 X n (i+1)) (Z93 X n i) (Z93 X n i) (Z93 X n i) (i<n∧i<n) (i=n) False False):=by
 obtain ⟨h1,h2,h3,h4⟩:=id hC
 have hlt:i<n→i<X.L.length:=fun h=>by omega
 have l0:(X.L.take i).length≤16:=by rw [List.length_take];omega
 have l1:(ZD (X.L.take i)).length≤(X.L.take i).length:=List.length_filter_le _ _
 have l2:(Yg (X.L.take i)).length≤(X.L.take i).length:=by unfold Yg;rw [List.length_map];exact List.length_filter_le _ _
 have e:∀k,(bkX X k).i1=X.i1-(ZD (X.L.take k)).length:=fun _=>rfl
 refine ZiV (bkX X i) (bkX X (i+1)) X.L n i (X.L.getD i Z7) _ _ _ _ (i<n∧i<n) (i=n) (by omega) h1 hi (fun _=>rfl) (fun h=>h3 _ (Zz (hlt h))) ⟨by omega,by omega⟩ (fun h=> ?_) (fun h=> ?_) (fun h=> ?_) (by rw [e];omega) (fun h=>⟨h,h⟩) (fun h=>h)
 ·rw [Y5 (hlt h),VD]
 ·rw [Y5 (hlt h),Z2V]
 ·unfold bkX
  rw [Y5 (hlt h),VD]
  by_cases q:Yu (X.L.getD i Z7).own (X.L.getD i Z7).stage=0
  ·rw [if_pos q,decide_eq_true q,YU,List.length_append]
   congr 1
   show X.i1-((_+1:Nat):Int)=_
   dsimp only;omega
  ·rw [if_neg q,decide_eq_false q,YU,List.append_nil]
noncomputable def Zgb (X:Z6) (n:Nat) (C:Prop) (E:Nat→St):Zf:=Zf9.withL 41 0 (goM 1 (Zfb X X.L n 0 [] []) C (Ys 0 n 9 (fun i=>i<n) (fun i=>i=n) (fun _=>False) (fun _=>False) E E E))
theorem ZcT (X:Z6) (n:Nat):(Zgb X n (Z7N X n) (Z93 X n)).Ok:=
 Zf.withGoM (N:=20) (S:=Z92 X n) Zfa (by kernel_rfl) fun hC=>⟨by unfold Z92;rw [Z6h];rfl,fun i hi _=>ZiW X n i hC hi⟩
theorem ZiX (X X':Z6) (n l g:Nat) (G:List Z5) (C:Prop) (XF:Nat→Z6) (GF LF:Nat→List Z5) (hC:C) (hG:G=GF n) (hX':X'={ XF n with L:=LF n}) (hl:l=X'.L.length) (hg:g=G.length):
  evF (Zgb X n C fun i=>ZcS (XF i) X.L n (GF i) (LF i)) 20 41 [.agg (X.c (slH 0 n))] ⟨1,[(0,.rows 70 n (Z4 X.L))]⟩ (Y7 1 (.ret (.tuple [.agg (X'.c (slH 1 l)),slH 2 g])) 3 [(0,.rows 70 n (Z4 X.L)),(1,.rows 70 l (Z4 X'.L)),(2,.rows 70 g (Z4 G))]):=by
 refine @Eq.mpr _ (let q1:=decide (n=n);
 let q2:=Z4 X.L;
 let q3:=X.t;
 let q4:=q3.fund;
 let q5:=q3.index;
 let q6:=q3.cap;
 let q7:=q3.dust;
 let q8:=q3.fee;
 let q9:=q3.delay;
 let q10:=q3.k0;
 let q11:=q3.k1;
 let q12:=[X.a0,X.a1];
 let q13:=[X.i0,X.i1];
 let q14:=Yl.t;
 let q15:=[(0:Int),0];
 let q16:=X'.t;
 let q17:=[(2,3),(1,4)];
 Z0 q1
 (Za 1 [(2,2),(1,1)] n q2 q2∧
 q4=q4∧
 Z0 (decide (q5=q5))
 (Z0 (decide (q6=q6))
 (Z0 (decide (q7=q7))
 (Z0 (decide (q8=q8))
 (Z0 (decide (q9=q9))
 (q10=q10∧
 q11=q11∧
 Z0 (decide (X.side=X.side))
 (Z0 (decide (X.res=X.res))
 (q12=q12∧
 q13=q13∧
 Z0 q1
 (Z0 (decide (n≤n))
 (Zd=q14.fund∧
 Zd=q14.k0∧
 Zd=q14.k1∧
 q15=[Yl.a0,Yl.a1]∧
 q15=[Yl.i0,Yl.i1]∧
 C∧
 ∀(i:Nat),
 let q35:=(XF i).t;
 let q36:=decide (List.length (LF i)=l);
 let q37:=decide (List.length (GF i)=g);
 i≤n→(∀(j:Nat),j<i→(fun (i:Nat)=>i<n) j)→(i=n→q35.fund=q16.fund∧Z0 (decide (q35.index=q16.index)) (Z0 (decide (q35.cap=q16.cap)) (Z0 (decide (q35.dust=q16.dust)) (Z0 (decide (q35.fee=q16.fee)) (Z0 (decide (q35.delay=q16.delay)) (q35.k0=q16.k0∧q35.k1=q16.k1∧Z0 (decide ((XF i).side=X'.side)) (Z0 (decide ((XF i).res=X'.res)) ([(XF i).a0,(XF i).a1]=[X'.a0,X'.a1]∧[(XF i).i0,(XF i).i1]=[X'.i0,X'.i1]∧Z0 q36 (Z0 (decide (l≤List.length (LF i))) (Z0 q37 (Z0 (decide (g≤List.length (GF i))) (Z0 q1 (Za 1 q17 n q2 q2∧Z0 q36 (Za 1 q17 l (Z4 X'.L) (Z4 (LF i))∧Z0 q37 (Za 1 q17 g (Z4 G) (Z4 (GF i))∧True) False) False) False) False) False) False) False) False) False) False) False) False) False) False)∧(False→False)∧(False→False))
 False)
 False)
 False)
 False)
 False)
 False)
 False)
 False)
 False)
 False) (by kernel_rfl) ?_
 conv=>zeta
 try simp only [Zg]
 try simp only [Zi]
 try simp only [Zh]
 try simp only [Zj]
 try simp only [Zk]
 try simp only [Ze]
 try simp only [Int.toNat_natCast,Nat.zero_add,true_and,and_true,Nat.le_refl]
 subst hG hX'
 have hR:∀τ k (Q:List Z5),Za 1 τ k (Z4 Q) (Z4 Q):=fun τ k Q=>Zn fun _ _=>rfl
 refine ⟨hR _ _ _,rfl,rfl,rfl,rfl,rfl,hC,fun i hi _=>⟨fun he=> ?_,fun h=>h,fun h=>h⟩⟩
 subst he
 repeat' apply And.intro
 all_goals first|rfl|exact hR _ _ _|exact hl.symm|exact hg.symm|exact Nat.le_of_eq hl|exact Nat.le_of_eq hg
def Z58:Ye:=fun args h K=>match args with
 | [.agg [_,_,_,_,_,_,_,_,_,_,_,_,.nslice ⟨b,0,70,0,0⟩ 70 _ _]]=>frA [b] h 20 args fun Bs a=>match Bs,a with
  | [.rows 70 n f],[.agg cs]=>
   ∃X,LD cs n f X∧X.Inv Zo∧K (.ret (.tuple [.agg ((brkX X).c (slH h.next (brkX X).L.length)),slH (h.next+1) (ZD X.L).length])) ⟨h.next+2,(b,.rows 70 X.L.length (Z4 X.L))::(h.next,.rows 70 (brkX X).L.length (Z4 (brkX X).L))::(h.next+1,.rows 70 (ZD X.L).length (Z4 (ZD X.L)))::Yw h.bs b⟩
  | _,_=>False
 | _=>False
theorem Z7V (args:List AV) (h:Z9) (K:KO) (hl:Z58 args h K):Zm PP 41 args h K:=by
 unfold Z58 at hl
 split at hl
 ·refine Spec.fsumm hl fun Bs a hlen hK0=> ?_
  split at hK0
  ·rename_i cs n f
   obtain ⟨X,⟨rfl,rfl,rfl⟩,hI,hK⟩:=hK0
   have e:=Z8P X
   have hv:=ZiX X (brkX X) X.L.length _ _ (ZD X.L) (Z7N X X.L.length) (bkX X) (fun i=>ZD (X.L.take i)) (fun i=>Yg (X.L.take i)) hI.bk (by rw [List.take_length]) (by dsimp only;rw [List.take_length];exact e) rfl rfl
   exact ⟨_,_,_,_,_,.evM (ZcT X _) hv,by simp,.ret _ _ rfl,.cons _ _ _ _ _ _ rfl (.rows _ _ _ (fun _ _=>rfl)) (.cons _ _ _ _ _ _ rfl (.rows _ _ _ (fun _ _=>rfl)) (.cons _ _ _ _ _ _ rfl (.rows _ _ _ (fun _ _=>rfl)) .nil)),hK⟩
  ·exact hK0.elim
 ·exact hl.elim
end Go.Tk
end
section
namespace Go.Tk
open IntKind (i64 u8 u32 u64 wrap)
noncomputable def Zfc:Zf:=(G0.withP 100 sdS).withP 106 Za8
theorem Z94:Zfc.Ok:=Zf.withP_ok (Zf.withP_ok Zr Z7S) Zci
def slP (b n:Nat):AV:=.nslice ⟨b,0,36,0,0⟩ 36 n n
def ZiY (X:Z6) (k ow:Int) (pt:List Int) (a b:Int) (P:List YV):Z9:=⟨4,[(0,.flat (X.c (.vrows 70 X.L.length (Z4 X.L) X.L.length))),(1,.flat srZ),(2,.flat [.int .i64 k,.int .i64 ow,.arr .u8 32 pt,.arr .i64 2 [a,b],slP 3 P.length]),(3,.rows 36 P.length (ZG P))]⟩
def Zfd (X:Z6) (o:Bool) (k ow:Int) (pt:List Int) (i:Nat) (a b:Int) (P:List YV):St:=⟨113,[(11,.int .i64 i),(4,.ptr (some ⟨0,0,0,0,0⟩)),(1,.bool o),(10,.ptr (some ⟨2,0,0,0,0⟩)),(8,.ptr (some ⟨1,0,0,0,0⟩))],ZiY X k ow pt a b P,[]⟩
def Z7W (k ow:Int) (pt:List Int) (a b:Int) (P:List YV):St:=⟨113,[(10,.ptr (some ⟨1,0,0,0,0⟩)),(8,.ptr (some ⟨0,0,0,0,0⟩))],⟨3,[(0,.flat srZ),(1,.flat [.int .i64 k,.int .i64 ow,.arr .u8 32 pt,.arr .i64 2 [a,b],slP 2 P.length]),(2,.rows 36 P.length (ZG P))]⟩,[]⟩
theorem ZiZ (X:Z6) (o:Bool) (k ow:Int) (pt:List Int) (n i:Nat) (a b a1 b1:Int) (P P1:List YV) (x:Z5) (Z1 Z2:Prop) (hn:n<1000) (hL:X.L.length=n) (hi:i≤n) (hX:YN X) (hP:P.length<1000) (hx:i<n→X.L.getD i Z7=x) (hst:i<n→1≤x.stage∧x.stage≤9) (hP1:i<n→P1=P++Zcq (X5 x.own x.stage o) (QW X.side x)) (ha:i<n→(a1,b1)=srP X.side o (a,b) x) (hw:i<n→(-1152921504606846976≤a∧a≤1152921504606846976)∧(-1152921504606846976≤b∧b≤1152921504606846976)∧0≤x.amount∧x.amount≤1152921504606846976) (hZ1:i<n→Z1) (hZ2:i=n→Z2):
  ZI Zfc 20 42 0 0 (Zfd X o k ow pt i a b P) (rdM 0 0 9 (Zfd X o k ow pt (i+1) a1 b1 P1) (Z7W k ow pt a b P) (Z7W k ow pt a b P) (Z7W k ow pt a b P) Z1 Z2 False False):=by
 refine @Eq.mpr _ (let q1:=X.L;
 let q2:=List.length q1;
 let q3:=X.t;
 let q4:=q3.fund;
 let q5:=q3.index;
 let q6:=q3.cap;
 let q7:=q3.dust;
 let q8:=q3.fee;
 let q9:=q3.delay;
 let q10:=q3.k0;
 let q11:=q3.k1;
 let q12:=X.side;
 let q13:=X.res;
 let q14:=[X.a0,X.a1];
 let q15:=[X.i0,X.i1];
 let q16:=Z4 q1;
 let q17:=List.getD q1 (Int.toNat (↑i:Int)) Z7;
 let q18:=q17.own;
 let q19:=q17.stage;
 let q20:=X5 q18 q19 o;
 let q21:=List.length P;
 let q22:=decide (q21=q21);
 let q23:=q21+1;
 let q24:=decide (wrap i64 ((↑i:Int)+1)=(↑(i+1):Int));
 let q25:=decide (o=o);
 let q26:=q4=q4;
 let q27:=decide (q5=q5);
 let q28:=decide (q6=q6);
 let q29:=decide (q7=q7);
 let q30:=decide (q8=q8);
 let q31:=decide (q9=q9);
 let q32:=q10=q10;
 let q33:=q11=q11;
 let q34:=decide (q12=q12);
 let q35:=decide (q13=q13);
 let q36:=q14=q14;
 let q37:=q15=q15;
 let q38:=decide (q2=q2);
 let q39:=q16=q16;
 let q40:=[(0:Int),0];
 let q41:=q40=q40;
 let q42:=decide (k=k);
 let q43:=decide (ow=ow);
 let q44:=[a,b];
 let q45:=q17.amount;
 let q46:=[a1,b1];
 let q47:=List.length P1;
 let q48:=decide (q23=q47);
 let q49:=[(1,1),(2,2),(0,0)];
 let q50:=ZG P;
 let q51:=decide (q21=q47);
 let q52:=Z0 q51 (Z0 (decide (q47≤q21)) (Z0 q51 (Za 0 ((3,3)::q49) q47 (ZG P1) q50∧Z1) False) False) False;
 let q53:=Z0 q24 (Z0 q25 (q26∧Z0 q27 (Z0 q28 (Z0 q29 (Z0 q30 (Z0 q31 (q32∧q33∧Z0 q34 (Z0 q35 (q36∧q37∧Z0 q38 (q39∧Z0 q38 (Zd=Zd∧q41∧Z0 q42 (Z0 q43 (pt=pt∧q44=q46∧q52) False) False) False) False) False) False) False) False) False) False) False) False) False;
 Z0 (decide ((↑i:Int)<(↑q2:Int)))
 (Z0 (decide (0≤(↑i:Int)∧(↑i:Int)<(↑q2:Int)))
 (∃(X:Z6),
 let q107:=X.side;
 let q108:=ZP q107 q18;
 let q109:=decide (0≤q108∧q108<2);
 let q110:=0+Int.toNat q108;
 let q111:=decide (q110<2);
 let q112:=decide (i64=i64∧q110<2∧q110<2);
 let q113:=List.set q44 q110 (wrap i64 (List.getD q44 q110 0-q45));
 let q114:=Z0 q22 (Z0 (decide (q23*64≤140737488355328)) (Z0 q109 (Z0 q111 (Z0 q109 (Z0 q112 (Z0 q24 (Z0 q25 (q26∧Z0 q27 (Z0 q28 (Z0 q29 (Z0 q30 (Z0 q31 (q32∧q33∧Z0 q34 (Z0 q35 (q36∧q37∧Z0 q38 (q39∧Z0 q38 (Zd=Zd∧q41∧Z0 q42 (Z0 q43 (pt=pt∧q113=q46∧Z0 q48 (Z0 (decide (q47≤q23)) (Z0 q48 (Za 0 ((3,6)::q49) q47 (ZG P1) (ZW q21 q50 (YC [AV.int i64 q108,AV.int i64 q17.id,AV.int i64 q45,AV.arr u8 32 q17.hash,AV.int i64 q17.expiry] 0 36))∧Z1) False) False) False) False) False) False) False) False) False) False) False) False) False) False) False) False) False) False) False) False) False) False;
 let q115:=wrap i64 (1-q108);
 let q116:=decide (0≤q115∧q115<2);
 let q117:=0+Int.toNat q115;
 let q118:=Z0 (q17.fin==1) (Z0 q109 (Z0 q111 (Z0 q109 (Z0 q112 (Z0 q116 (Z0 (decide (q117<2)) (Z0 q116 (Z0 (decide (i64=i64∧q117<2∧q117<List.length q113)) (Z0 q24 (Z0 q25 (q26∧Z0 q27 (Z0 q28 (Z0 q29 (Z0 q30 (Z0 q31 (q32∧q33∧Z0 q34 (Z0 q35 (q36∧q37∧Z0 q38 (q39∧Z0 q38 (Zd=Zd∧q41∧Z0 q42 (Z0 q43 (pt=pt∧List.set q113 q117 (wrap i64 (List.getD q113 q117 0+q45))=q46∧q52) False) False) False) False) False) False) False) False) False) False) False) False) False) False) False) False) False) False) False) False) False) q53;
 LV [AV.arr u8 32 q4,AV.int i64 q5,AV.int i64 q6,AV.int i64 q7,AV.int i64 q8,AV.int i64 q9,AV.arr u8 32 q10,AV.arr u8 32 q11,AV.int i64 q12,AV.int i64 q13,AV.arr i64 2 q14,AV.arr i64 2 q15,AV.vrows 70 q2 q16 q2] X∧(0≤q107∧q107≤1)∧Z0 (q18==o) (Z0 q20 q114 (Z0 (decide (q19>6)) q118 q53)) (Z0 q20 q114 (Z0 (decide (q19>8)) q118 q53)))
 False)
 (Zd=Zd∧q41∧Z0 q42 (Z0 q43 (pt=pt∧q44=q44∧Z0 q22 (Z0 (decide (q21≤q21)) (Z0 q22 (Za 0 [(2,3),(0,1),(1,2)] q21 q50 q50∧Z2) False) False) False) False) False)) (by kernel_rfl) ?_
 conv=>zeta
 try simp only [Zg]
 try simp only [Zi]
 try simp only [Zh]
 try simp only [Zj]
 try simp only [Zk]
 try simp only [Ze]
 try simp only [Int.toNat_natCast,Nat.zero_add,true_and,and_true,Nat.le_refl]
 subst hL
 refine ⟨fun hc=> ?_,fun hc=>⟨XA fun _ _=>rfl,hZ2 (by omega)⟩⟩
 have hlt:i<X.L.length:=by omega
 rw [hx hlt]
 have hst:=hst hlt
 have hP1:=hP1 hlt
 have ha:=ha hlt
 obtain ⟨b1',b2',b3'⟩:=hw hlt
 have hs:X.side=0∨X.side=1:=by obtain ⟨s1,s2⟩:=hX;omega
 have hfr:=Z44 hs x.own
 have hab:[a1,b1]=[(srP X.side o (a,b) x).1,(srP X.side o (a,b) x).2]:=by rw [←ha]
 have hwr:i64.wrap ((i:Int)+1)=((i+1:Nat):Int):=by rw [w64 (by omega)];omega
 have hwf:i64.wrap (1-ZP X.side x.own)=1-ZP X.side x.own:=w64 (by omega)
 have hR:∀τ k (Q:List YV),Za 0 τ k (ZG Q) (ZG Q):=fun τ k Q=>XA fun _ _=>rfl
 have hC:∀τ (Q:List YV) (y:YV),Za 0 τ (Q++[y]).length (ZG (Q++[y])) (ZW Q.length (ZG Q) (YC y.c 0 36)):=fun τ Q y=>XA fun j hj=>Z0T (by simpa using hj)
 have e:=UB hfr b1' b2' b3'
 have k1:=Z54 hfr b1' b2' b3'
 have hl2:([a,b].set (ZP X.side x.own).toNat (i64.wrap ([a,b].getD (ZP X.side x.own).toNat 0-x.amount))).length=2:=by simp
 refine ⟨by omega,X,.a rfl,hX, ?_⟩
 rw [hwr,hwf,e,hl2,k1]
 have hpo:QW X.side x=⟨ZP X.side x.own,x.id,x.amount,x.hash,x.expiry⟩:=rfl
 have s0:X5 x.own x.stage o=true→P1=P++[⟨ZP X.side x.own,x.id,x.amount,x.hash,x.expiry⟩]∧[a1,b1]=[(if ZP X.side x.own=0 then (a-x.amount,b) else (a,b-x.amount)).1,(if ZP X.side x.own=0 then (a-x.amount,b) else (a,b-x.amount)).2]:=fun h=>by
  unfold srP at hab
  rw [h] at hab hP1
  exact ⟨by rw [hP1,hpo];rfl,hab⟩
 have s1:X5 x.own x.stage o=false→P1=P∧(6<x.stage→x.fin=1→[a1,b1]=if ZP X.side x.own=0 then [a-x.amount,b+x.amount] else [a+x.amount,b-x.amount])∧(6<x.stage→¬x.fin=1→[a1,b1]=[a,b])∧(¬6<x.stage→[a1,b1]=[a,b]):=fun h=>by
  unfold srP at hab
  rw [h] at hab hP1
  simp only at hab
  refine ⟨by rw [hP1];simp [Zcq],fun h6 hf=> ?_,fun h6 hf=> ?_,fun h6=> ?_⟩
  ·rw [if_pos h6,Ud hf] at hab;exact hab
  ·rw [if_pos h6,QU hf] at hab;exact hab
  ·rw [if_neg h6] at hab;exact hab
 refine ⟨fun ho=>⟨fun hst1=> ?_,fun hst0=>⟨fun h6=>⟨fun hf=> ?_,fun hf=> ?_⟩,fun h6=> ?_⟩⟩,fun ho=>⟨fun hst1=> ?_,fun hst0=>⟨fun h6=>⟨fun hf=> ?_,fun hf=> ?_⟩,fun h6=> ?_⟩⟩⟩
 ·obtain ⟨q1,q2⟩:=s0 hst1
  rw [q2]
  subst q1
  repeat' apply And.intro
  all_goals first|omega|rfl|exact hZ1 hlt|exact hC _ _ _|exact hR _ _ _|(simp;done)|skip
 ·obtain ⟨q1,q2,q3,q4⟩:=s1 hst0
  rw [q2 (by omega) (by simpa using hf)]
  subst q1
  repeat' apply And.intro
  all_goals first|omega|rfl|exact hZ1 hlt|exact hC _ _ _|exact hR _ _ _|(simp;done)|skip
 ·obtain ⟨q1,q2,q3,q4⟩:=s1 hst0
  rw [q3 (by omega) (by simpa using hf)]
  subst q1
  repeat' apply And.intro
  all_goals first|omega|rfl|exact hZ1 hlt|exact hC _ _ _|exact hR _ _ _|(simp;done)|skip
 ·obtain ⟨q1,q2,q3,q4⟩:=s1 hst0
  rw [q4 (by omega)]
  subst q1
  repeat' apply And.intro
  all_goals first|omega|rfl|exact hZ1 hlt|exact hC _ _ _|exact hR _ _ _|(simp;done)|skip
 ·obtain ⟨q1,q2⟩:=s0 hst1
  rw [q2]
  subst q1
  repeat' apply And.intro
  all_goals first|omega|rfl|exact hZ1 hlt|exact hC _ _ _|exact hR _ _ _|(simp;done)|skip
 ·obtain ⟨q1,q2,q3,q4⟩:=s1 hst0
  have hno:¬x.own=o:=by simpa using ho
  have hsd:¬(2≤x.stage∧x.stage≤8):=by unfold X5 at hst0;rw [if_neg hno] at hst0;exact of_decide_eq_false hst0
  rw [q2 (by omega) (by simpa using hf)]
  subst q1
  repeat' apply And.intro
  all_goals first|omega|rfl|exact hZ1 hlt|exact hC _ _ _|exact hR _ _ _|(simp;done)|skip
 ·obtain ⟨q1,q2,q3,q4⟩:=s1 hst0
  have hno:¬x.own=o:=by simpa using ho
  have hsd:¬(2≤x.stage∧x.stage≤8):=by unfold X5 at hst0;rw [if_neg hno] at hst0;exact of_decide_eq_false hst0
  rw [q3 (by omega) (by simpa using hf)]
  subst q1
  repeat' apply And.intro
  all_goals first|omega|rfl|exact hZ1 hlt|exact hC _ _ _|exact hR _ _ _|(simp;done)|skip
 ·obtain ⟨q1,q2,q3,q4⟩:=s1 hst0
  have hno:¬x.own=o:=by simpa using ho
  have hsd:¬(2≤x.stage∧x.stage≤8):=by unfold X5 at hst0;rw [if_neg hno] at hst0;exact of_decide_eq_false hst0
  rw [q4 (by omega)]
  subst q1
  repeat' apply And.intro
  all_goals first|omega|rfl|exact hZ1 hlt|exact hC _ _ _|exact hR _ _ _|(simp;done)|skip
def Z95 (X:Z6) (o:Bool) (k ow:Int) (pt:List Int) (i:Nat):St:=Zfd X o k ow pt i (WH X.side o (X.a0,X.a1) (X.L.take i)).1 (WH X.side o (X.a0,X.a1) (X.L.take i)).2 (YI X.side o (X.L.take i))
def Z96 (X:Z6) (o:Bool) (k ow:Int) (pt:List Int) (i:Nat):St:=Z7W k ow pt (WH X.side o (X.a0,X.a1) (X.L.take i)).1 (WH X.side o (X.a0,X.a1) (X.L.take i)).2 (YI X.side o (X.L.take i))
def ZcU (X:Z6) (n:Nat):Prop:=Zcs X n∧∀h∈X.L,1≤h.stage∧h.stage≤9
theorem Zj0 (X:Z6) (o:Bool) (k ow:Int) (pt:List Int) (n i:Nat) (hC:ZcU X n) (hi:i≤n):ZI Zfc 20 42 0 0 (Z95 X o k ow pt i) (rdM 0 0 9 (Z95 X o k ow pt (i+1)) (Z96 X o k ow pt i) (Z96 X o k ow pt i) (Z96 X o k ow pt i) (i<n∧i<n) (i=n) False False):=by
 obtain ⟨⟨h1,h2,h3,h4,h5,h6⟩,h7⟩:=id hC
 have hlt:i<n→i<X.L.length:=fun h=>by omega
 have l0:(X.L.take i).length≤16:=by rw [List.length_take];omega
 have l1:=UC X.side o (X.L.take i)
 have hb:=Z2W (side:=X.side) (o:=o) h4 h5 h6 i (by omega)
 refine ZiZ X o k ow pt n i _ _ _ _ _ _ (X.L.getD i Z7) (i<n∧i<n) (i=n) (by omega) h1 hi (show 0≤X.side∧X.side≤1 by omega) (by omega) (fun _=>rfl) (fun h=>h7 _ (Zz (hlt h))) (fun h=> ?_) (fun h=> ?_) (fun h=>⟨by omega,by omega, ?_⟩) (fun h=>⟨h,h⟩) (fun h=>h)
 ·rw [Y5 (hlt h),Z48]
 ·unfold WH
  rw [Y5 (hlt h),List.foldl_append];rfl
 ·have:=h4 _ (Zz (hlt h));omega
noncomputable def Z97 (X:Z6) (o:Bool) (k ow:Int) (pt:List Int) (n:Nat) (C:Prop) (E:Nat→St):Zf:=Zfc.withL 42 0 (goM 0 (Zfd X o k ow pt 0 X.a0 X.a1 []) C (Ys 0 n 9 (fun i=>i<n) (fun i=>i=n) (fun _=>False) (fun _=>False) E E E))
theorem ZcV (X:Z6) (o:Bool) (k ow:Int) (pt:List Int) (n:Nat):(Z97 X o k ow pt n (ZcU X n) (Z96 X o k ow pt)).Ok:=
 Zf.withGoM (N:=20) (S:=Z95 X o k ow pt) Z94 (by kernel_rfl) fun hC=>⟨rfl,fun i hi _=>Zj0 X o k ow pt n i hC hi⟩
theorem Zj1 (X:Z6) (o:Bool) (k ow:Int) (pt:List Int) (n l:Nat) (a b:Int) (P:List YV) (C:Prop) (AF BF:Nat→Int) (PF:Nat→List YV) (hC:C) (hs:0≤X.side∧X.side≤1) (hk:0≤k∧k≤2147483647) (how:ow=ZP X.side o) (ha:a=AF n) (hb:b=BF n) (hP:P=PF n) (hl:l=P.length):
  evF (Z97 X o k ow pt n C fun i=>Z7W k ow pt (AF i) (BF i) (PF i)) 20 42 [Z0v X,.bool o,.int .i64 k,.agg [.arr .u8 32 pt]] ⟨0,[]⟩ (Y7 0 (.ret (.tuple [.agg [.int .i64 k,.int .i64 ow,.arr .u8 32 pt,.arr .i64 2 [a,b],slP 0 l],.int .i64 0])) 1 [(0,.rows 36 l (ZG P))]):=by
 refine @Eq.mpr _ (let q1:=[(0:Int),0];
 let q2:=[a,b];
 let q3:=decide (l=0);
 let q4:=Z0 (decide (0=k)) (Z0 (decide (0=ow)) (Zd=pt∧q1=q2∧Z0 q3 (Z0 q3 False False) False) False) False;
 let q5:=X.t;
 let q6:=q5.fund;
 let q7:=q5.index;
 let q8:=q5.cap;
 let q9:=q5.dust;
 let q10:=q5.fee;
 let q11:=q5.delay;
 let q12:=q5.k0;
 let q13:=q5.k1;
 let q14:=X.side;
 let q15:=X.res;
 let q16:=[X.a0,X.a1];
 let q17:=[X.i0,X.i1];
 let q18:=List.length X.L;
 let q19:=Z4 X.L;
 let q20:=q16=q16;
 let q21:=decide (q18=q18);
 let q22:=decide (k=k);
 Z0 (decide (k<0)) q4
 (Z0 (decide (k>2147483647)) q4
 (∃(X:Z6),
 let q45:=X.side;
 LV [AV.arr u8 32 q6,AV.int i64 q7,AV.int i64 q8,AV.int i64 q9,AV.int i64 q10,AV.int i64 q11,AV.arr u8 32 q12,AV.arr u8 32 q13,AV.int i64 q14,AV.int i64 q15,AV.arr i64 2 q16,AV.arr i64 2 q17,AV.vrows 70 q18 q19 q18] X∧
 (0≤q45∧q45≤1)∧
 Z0 (decide (o=o))
 (q6=q6∧
 Z0 (decide (q7=q7))
 (Z0 (decide (q8=q8))
 (Z0 (decide (q9=q9))
 (Z0 (decide (q10=q10))
 (Z0 (decide (q11=q11))
 (q12=q12∧
 q13=q13∧
 Z0 (decide (q14=q14))
 (Z0 (decide (q15=q15))
 (q20∧
 q17=q17∧
 Z0 q21
 (q19=q19∧
 Z0 q21
 (Zd=Zd∧
 q1=q1∧
 Z0 q22
 (Z0 (decide (ZP q45 o=ow))
 (pt=pt∧
 q20∧
 C∧
 ∀(i:Nat),
 let q47:=decide (List.length (PF i)=l);
 i≤n→(∀(j:Nat),j<i→(fun (i:Nat)=>i<n) j)→(i=n→Z0 q22 (Z0 (decide (ow=ow)) (pt=pt∧[AF i,BF i]=q2∧Z0 q47 (Z0 (decide (l≤List.length (PF i))) (Z0 q47 (Za 0 [(0,2)] l (ZG P) (ZG (PF i))∧True) False) False) False) False) False)∧(False→False)∧(False→False))
 False)
 False)
 False)
 False)
 False)
 False)
 False)
 False)
 False)
 False)
 False)
 False))) (by kernel_rfl) ?_
 conv=>zeta
 try simp only [Zg]
 try simp only [Zi]
 try simp only [Zh]
 try simp only [Zj]
 try simp only [Zk]
 try simp only [Ze]
 try simp only [Int.toNat_natCast,Nat.zero_add,true_and,and_true,Nat.le_refl]
 subst ha hb hP
 refine ⟨fun h=>absurd h (by omega),fun _=>⟨fun h=>absurd h (by omega),fun _=>⟨X,.a rfl,hs,how.symm,hC,fun i hi _=>⟨fun he=> ?_,fun h=>h,fun h=>h⟩⟩⟩⟩
 subst he
 exact ⟨rfl,hl.symm,Nat.le_of_eq hl,hl.symm,XA fun _ _=>rfl⟩
theorem Zj2 (X:Z6) (o:Bool) (k ow:Int) (pt:List Int) (n:Nat) (C:Prop) (hk:¬(0≤k∧k≤2147483647)):
  evF (Z97 X o k ow pt n C fun i=>Z7W k ow pt 0 0 []) 20 42 [Z0v X,.bool o,.int .i64 k,.agg [.arr .u8 32 pt]] ⟨0,[]⟩ (Y8 fun v=>v=.tuple [.agg srZ,.int .i64 2]):=by
 refine @Eq.mpr _ (let q1:=[(0:Int),0];
 let q2:=[AV.int i64 2];
 let q3:=AV.tuple (AV.agg [AV.int i64 0,AV.int i64 0,AV.arr u8 32 Zd,AV.arr i64 2 q1,AV.nilslice]::q2)=AV.tuple (AV.agg srZ::q2);
 let q4:=X.t;
 let q5:=q4.fund;
 let q6:=q4.index;
 let q7:=q4.cap;
 let q8:=q4.dust;
 let q9:=q4.fee;
 let q10:=q4.delay;
 let q11:=q4.k0;
 let q12:=q4.k1;
 let q13:=X.side;
 let q14:=X.res;
 let q15:=[X.a0,X.a1];
 let q16:=[X.i0,X.i1];
 let q17:=List.length X.L;
 let q18:=Z4 X.L;
 let q19:=q15=q15;
 let q20:=decide (q17=q17);
 Z0 (decide (k<0)) q3
 (Z0 (decide (k>2147483647)) q3
 (∃(X:Z6),
 let q41:=X.side;
 LV [AV.arr u8 32 q5,AV.int i64 q6,AV.int i64 q7,AV.int i64 q8,AV.int i64 q9,AV.int i64 q10,AV.arr u8 32 q11,AV.arr u8 32 q12,AV.int i64 q13,AV.int i64 q14,AV.arr i64 2 q15,AV.arr i64 2 q16,AV.vrows 70 q17 q18 q17] X∧(0≤q41∧q41≤1)∧Z0 (decide (o=o)) (q5=q5∧Z0 (decide (q6=q6)) (Z0 (decide (q7=q7)) (Z0 (decide (q8=q8)) (Z0 (decide (q9=q9)) (Z0 (decide (q10=q10)) (q11=q11∧q12=q12∧Z0 (decide (q13=q13)) (Z0 (decide (q14=q14)) (q19∧q16=q16∧Z0 q20 (q18=q18∧Z0 q20 (Zd=Zd∧q1=q1∧Z0 (decide (k=k)) (Z0 (decide (ZP q41 o=ow)) (pt=pt∧q19∧C∧∀(i:Nat),i≤n→(∀(j:Nat),j<i→(fun (i:Nat)=>i<n) j)→(i=n→False)∧(False→False)∧(False→False)) False) False) False) False) False) False) False) False) False) False) False) False))) (by kernel_rfl) ?_
 conv=>zeta
 try simp only [Zg]
 try simp only [Zi]
 try simp only [Zh]
 try simp only [Zj]
 try simp only [Zk]
 try simp only [Ze]
 try simp only [Int.toNat_natCast,Nat.zero_add,true_and,and_true,Nat.le_refl]
 exact ⟨fun _=>rfl,fun h1=>⟨fun _=>rfl,fun h2=>absurd ⟨by omega,by omega⟩ hk⟩⟩
def Z32 (c:Bool):Ye:=fun args h K=>ZO none h true 20 args fun a=>match a with
 | [.agg cs,.bool o,.int .i64 k,.agg [.arr .u8 32 pt]]=>∃X,LV cs X∧X.Inv Zo∧(match c with
  | true=>(0≤k∧k≤2147483647)∧K (.ret (.tuple [.agg [.int .i64 k,.int .i64 (ZP X.side o),.arr .u8 32 pt,.arr .i64 2 [(Z16 X o).1,(Z16 X o).2],slP h.next (YI X.side o X.L).length],.int .i64 0])) ⟨h.next+1,(h.next,.rows 36 (YI X.side o X.L).length (ZG (YI X.side o X.L)))::h.bs⟩
  | false=>¬(0≤k∧k≤2147483647)∧K (.ret (.tuple [.agg srZ,.int .i64 2])) ⟨h.next,h.bs⟩)
 | _=>False
theorem Z0U (c:Bool) (args:List AV) (h:Z9) (K:KO) (hl:Z32 c args h K):Zm PP 42 args h K:=by
 refine Zw.fsumm (d:=20) (Zq _ _ _ _ _ hl fun a ha=> ?_)
 split at ha
 ·rename_i cs o k pt
  obtain ⟨X,hX,hI,hK⟩:=ha
  cases c with
  | true=>
   obtain ⟨hk,hK1⟩:=hK
   have hv:=Zj1 X o k (ZP X.side o) pt X.L.length _ (Z16 X o).1 (Z16 X o).2 (YI X.side o X.L) (ZcU X X.L.length) (fun i=>(WH X.side o (X.a0,X.a1) (X.L.take i)).1) (fun i=>(WH X.side o (X.a0,X.a1) (X.L.take i)).2) (fun i=>YI X.side o (X.L.take i)) ⟨hI.sr,hI.stage⟩ (by have:=hI.side;omega) hk rfl (by rw [List.take_length];rfl) (by rw [List.take_length];rfl) (by rw [List.take_length]) rfl
   exact ⟨_,_,_,_,(Zw.evM (ZcV X o k _ pt _) hv).conv fun E r hr=>hr.head (fun _ hc=>XX hX hc) fun _ hc=>hc,rfl,⟨Nat.one_pos,.rows _ _ _ (fun i _=>VE _ i),trivial⟩,hK1⟩
  | false=>
   obtain ⟨hk,hK2⟩:=hK
   have hC:(Z97 X o k 0 pt X.L.length False fun _=>Z7W k 0 pt 0 0 []).Ok:=Zf.withGoM (N:=20) (S:=fun i=>Z95 X o k 0 pt i) Z94 (by kernel_rfl) fun h=>h.elim
   exact ⟨_,_,_,_,(Zw.evV hC (Zj2 X o k 0 pt _ False hk)).conv fun E r hr=>hr.head (fun _ hc=>XX hX hc) fun _ hc=>hc,rfl,trivial,hK2⟩
 ·exact ha.elim
end Go.Tk
end
section
namespace Go.Tk
open IntKind (i64 u8 u32 u64 wrap)
noncomputable def Zhy:Zf:=G0.withP 112 waS
theorem Zfe:Zhy.Ok:=Zf.withP_ok Zr Zex
def Zff (X:Z6) (i:Nat):St:=⟨25,[(3,.int .i64 i),(1,.ptr (some ⟨0,0,0,0,0⟩))],⟨1,[(0,.flat (X.c (.vrows 70 X.L.length (Z4 X.L) X.L.length)))]⟩,[]⟩
def Zj3:St:=⟨25,[],⟨0,[]⟩,[]⟩
def Zfg:St:=⟨25,[(2,.bool true)],⟨0,[]⟩,[]⟩
theorem Zj4 (X:Z6) (n i:Nat) (Z1 Z2 Z3:Prop) (hn:n<1000) (hL:X.L.length=n) (hi:i≤n) (hst:i<n→1≤(X.L.getD i Z7).stage∧(X.L.getD i Z7).stage≤9) (h1:i<n→wtP (X.L.getD i Z7)=false→Z1) (h2:i=n→Z2) (h3:i<n→wtP (X.L.getD i Z7)=true→Z3):
  ZI Zhy 20 51 0 0 (Zff X i) (rdM 0 0 9 (Zff X (i+1)) Zj3 Zfg Zfg Z1 Z2 Z3 False):=by
 refine @Eq.mpr _ (let q1:=X.L;
 let q2:=List.length q1;
 let q3:=decide (0≤(↑i:Int)∧(↑i:Int)<(↑q2:Int));
 let q4:=List.getD q1 (Int.toNat (↑i:Int)) Z7;
 let q5:=q4.stage;
 let q6:=X.t;
 let q7:=q6.fund;
 let q8:=q6.index;
 let q9:=q6.cap;
 let q10:=q6.dust;
 let q11:=q6.fee;
 let q12:=q6.delay;
 let q13:=q6.k0;
 let q14:=q6.k1;
 let q15:=[X.a0,X.a1];
 let q16:=[X.i0,X.i1];
 let q17:=decide (q2=q2);
 let q18:=Z4 q1;
 Z0 (decide ((↑i:Int)<(↑q2:Int))) (Z0 q3 (Z0 q3 (Z0 (decide (1≤q5∧q5≤9)) (Z0 (Xm q4.own q5==1) Z3 (Z0 (decide (wrap i64 ((↑i:Int)+1)=(↑(i+1):Int))) (q7=q7∧Z0 (decide (q8=q8)) (Z0 (decide (q9=q9)) (Z0 (decide (q10=q10)) (Z0 (decide (q11=q11)) (Z0 (decide (q12=q12)) (q13=q13∧q14=q14∧Z0 (decide (X.side=X.side)) (Z0 (decide (X.res=X.res)) (q15=q15∧q16=q16∧Z0 q17 (q18=q18∧Z0 q17 Z1 False) False) False) False) False) False) False) False) False) False)) False) False) False) Z2) (by kernel_rfl) ?_
 conv=>zeta
 try simp only [Zg]
 try simp only [Zi]
 try simp only [Zh]
 try simp only [Zj]
 try simp only [Zk]
 try simp only [Ze]
 try simp only [Int.toNat_natCast,Nat.zero_add,true_and,and_true,Nat.le_refl]
 subst hL
 refine ⟨fun hc=> ?_,fun hc=>h2 (by omega)⟩
 have hlt:i<X.L.length:=by omega
 have hwr:i64.wrap ((i:Int)+1)=((i+1:Nat):Int):=by rw [w64 (by omega)];omega
 refine ⟨by omega,by omega,hst hlt,fun hm=>h3 hlt ?_,fun hm=>⟨hwr,h1 hlt ?_⟩⟩
 ·unfold wtP;simpa using hm
 ·unfold wtP;simpa using hm
def Z6o (A B:List Z5) (i:Nat):St:=⟨26,[(5,.int .i64 i),(0,.vrows 70 A.length (Z4 A) A.length),(1,.vrows 70 B.length (Z4 B) B.length)],⟨0,[]⟩,[]⟩
def Z3l:St:=⟨26,[],⟨0,[]⟩,[]⟩
theorem Zj5 (A:List Z5) (n i:Nat) (Z1 Z2:Prop) (hn:n<1000) (hA:A.length=n) (hi:i≤n) (hOk:∀h∈A,h.Ok) (h1:i<n→Z1) (h2:i=n→Z2):
  ZI G0 20 40 0 0 (Z6o A A i) (rdM 0 0 9 (Z6o A A (i+1)) Z3l Z3l Z3l Z1 Z2 False False):=by
 refine @Eq.mpr _ (let q1:=List.length A;
 let q2:=decide (0≤(↑i:Int)∧(↑i:Int)<(↑q1:Int));
 let q3:=List.getD A (Int.toNat (↑i:Int)) Z7;
 let q4:=q3.hash;
 let q5:=q3.secret;
 let q6:=q3.own;
 let q7:=q3.id;
 let q8:=q3.amount;
 let q9:=q3.expiry;
 let q10:=q3.stage;
 let q11:=q3.fin;
 let q12:=decide (q1=q1);
 let q13:=Z4 A=Z4 A;
 Z0 (decide ((↑i:Int)<(↑q1:Int))) (Z0 q2 (Z0 q2 (Z0 (decide (List.length q4=32∧List.length q4=32)) (Z0 (decide (List.length q5=32∧List.length q5=32)) (Z0 (!(q6==q6&&(q7==q7&&(q8==q8&&(q4==q4&&(q9==q9&&(q10==q10&&(q11==q11&&q5==q5)))))))) False (Z0 (decide (wrap i64 ((↑i:Int)+1)=(↑(i+1):Int))) (Z0 q12 (q13∧Z0 q12 (Z0 q12 (q13∧Z0 q12 Z1 False) False) False) False) False)) False) False) False) False) Z2) (by kernel_rfl) ?_
 conv=>zeta
 try simp only [Zg]
 try simp only [Zi]
 try simp only [Zh]
 try simp only [Zj]
 try simp only [Zk]
 try simp only [Ze]
 try simp only [Int.toNat_natCast,Nat.zero_add,true_and,and_true,Nat.le_refl]
 subst hA
 refine ⟨fun hc=> ?_,fun hc=>h2 (by omega)⟩
 have hlt:i<A.length:=by omega
 have hwr:i64.wrap ((i:Int)+1)=((i+1:Nat):Int):=by rw [w64 (by omega)];omega
 have hx:=hOk _ (Zz hlt)
 exact ⟨by omega,by omega,⟨hx.hash,hx.hash⟩,⟨hx.secret,hx.secret⟩,by simp,hwr,h1 hlt⟩
def Zfh (s p:Int) (pt:List Int) (a b:Int) (P:List YV) (i:Nat):St:=⟨59,[(5,.int .i64 i),(2,.ptr (some ⟨0,0,0,0,0⟩)),(3,.ptr (some ⟨1,0,0,0,0⟩))],⟨2,[(0,.flat [.int .i64 s,.int .i64 p,.arr .u8 32 pt,.arr .i64 2 [a,b],.vrows 36 P.length (ZG P) P.length]),(1,.flat [.int .i64 s,.int .i64 p,.arr .u8 32 pt,.arr .i64 2 [a,b],.vrows 36 P.length (ZG P) P.length])]⟩,[]⟩
def Zaj:St:=⟨59,[],⟨0,[]⟩,[]⟩
theorem Zj6 (s p:Int) (pt:List Int) (a b:Int) (P:List YV) (n i:Nat) (Z1 Z2:Prop) (hn:n<1000) (hP:P.length=n) (hi:i≤n) (hOk:∀q∈P,q.hash.length=32) (h1:i<n→Z1) (h2:i=n→Z2):
  ZI G0 20 43 0 0 (Zfh s p pt a b P i) (rdM 0 0 9 (Zfh s p pt a b P (i+1)) Zaj Zaj Zaj Z1 Z2 False False):=by
 refine @Eq.mpr _ (let q1:=List.length P;
 let q2:=decide (0≤(↑i:Int)∧(↑i:Int)<(↑q1:Int));
 let q3:=List.getD P (Int.toNat (↑i:Int)) Zhm;
 let q4:=q3.hash;
 let q5:=q3.frm;
 let q6:=q3.id;
 let q7:=q3.amount;
 let q8:=q3.expiry;
 let q9:=decide (s=s);
 let q10:=decide (p=p);
 let q11:=[a,b];
 let q12:=q11=q11;
 let q13:=decide (q1=q1);
 let q14:=ZG P=ZG P;
 Z0 (decide ((↑i:Int)<(↑q1:Int))) (Z0 q2 (Z0 q2 (Z0 (decide (List.length q4=32∧List.length q4=32)) (Z0 (!(q5==q5&&(q6==q6&&(q7==q7&&(q4==q4&&q8==q8))))) False (Z0 (decide (wrap i64 ((↑i:Int)+1)=(↑(i+1):Int))) (Z0 q9 (Z0 q10 (pt=pt∧q12∧Z0 q13 (q14∧Z0 q13 (Z0 q9 (Z0 q10 (pt=pt∧q12∧Z0 q13 (q14∧Z0 q13 Z1 False) False) False) False) False) False) False) False) False)) False) False) False) Z2) (by kernel_rfl) ?_
 conv=>zeta
 try simp only [Zg]
 try simp only [Zi]
 try simp only [Zh]
 try simp only [Zj]
 try simp only [Zk]
 try simp only [Ze]
 try simp only [Int.toNat_natCast,Nat.zero_add,true_and,and_true,Nat.le_refl]
 subst hP
 refine ⟨fun hc=> ?_,fun hc=>h2 (by omega)⟩
 have hlt:i<P.length:=by omega
 have hwr:i64.wrap ((i:Int)+1)=((i+1:Nat):Int):=by rw [w64 (by omega)];omega
 have hx:=hOk (P.getD i Zhm) (by rw [List.getD_eq_getElem?_getD,List.getElem?_eq_getElem hlt];exact List.getElem_mem hlt)
 exact ⟨by omega,by omega,⟨hx,hx⟩,by simp,hwr,h1 hlt⟩
noncomputable def Zgc (X:Z6) (n:Nat) (C:Prop):Zf:=Zhy.withL 51 0 (goM 0 (Zff X 0) C (Ys 0 n 9 (fun i=>wtP (X.L.getD i Z7)=false∧i<n) (fun i=>i=n) (fun i=>i<n∧wtP (X.L.getD i Z7)=true) (fun _=>False) (fun _=>Zj3) (fun _=>Zfg) (fun _=>Zfg)))
theorem ZcW (X:Z6) (n:Nat):(Zgc X n (ZiA X.L n)).Ok:=
 Zf.withGoM (N:=20) (S:=fun i=>Zff X i) Zfe (by kernel_rfl) fun hC=>⟨rfl,fun i hi _=>Zj4 X n i _ _ _ hC.1 hC.2.1 hi (fun h=>hC.2.2 _ (Zz (by have:=hC.2.1;omega))) (fun h h'=>⟨⟨h',h⟩,h⟩) (fun h=>h) (fun h h'=>⟨h,h'⟩)⟩
theorem Zj7 (X:Z6) (n:Nat) (b:Bool) (C:Prop) (hC:C) (hn:X.L.length=n) (hb:b=Wa X.L):
  evF (Zgc X n C) 20 51 [Z0v X] ⟨0,[]⟩ (Y8 fun v=>v=.bool b):=by
 refine @Eq.mpr _ (let q1:=X.t;
 let q2:=q1.fund;
 let q3:=q1.index;
 let q4:=q1.cap;
 let q5:=q1.dust;
 let q6:=q1.fee;
 let q7:=q1.delay;
 let q8:=q1.k0;
 let q9:=q1.k1;
 let q10:=[X.a0,X.a1];
 let q11:=[X.i0,X.i1];
 let q12:=X.L;
 let q13:=List.length q12;
 let q14:=decide (q13=q13);
 let q15:=Z4 q12;
 q2=q2∧Z0 (decide (q3=q3)) (Z0 (decide (q4=q4)) (Z0 (decide (q5=q5)) (Z0 (decide (q6=q6)) (Z0 (decide (q7=q7)) (q8=q8∧q9=q9∧Z0 (decide (X.side=X.side)) (Z0 (decide (X.res=X.res)) (q10=q10∧q11=q11∧Z0 q14 (q15=q15∧Z0 q14 (C∧∀(i:Nat),i≤n→(∀(j:Nat),j<i→(fun (i:Nat)=>wtP (List.getD q12 i Z7)=false∧i<n) j)→(i=n→AV.bool false=AV.bool b)∧(i<n∧wtP (List.getD q12 i Z7)=true→AV.bool true=AV.bool b)∧(False→False)) False) False) False) False) False) False) False) False) False) (by kernel_rfl) ?_
 conv=>zeta
 try simp only [Zg]
 try simp only [Zi]
 try simp only [Zh]
 try simp only [Zj]
 try simp only [Zk]
 try simp only [Ze]
 try simp only [Int.toNat_natCast,Nat.zero_add,true_and,and_true,Nat.le_refl]
 subst hb
 refine ⟨hC,fun i hi hg=>⟨fun he=> ?_,fun hx=> ?_,fun h=>h.elim⟩⟩
 ·have:Wa X.L=false:=by
   rw [show Wa X.L=X.L.any wtP from rfl,←Z2Y,Z56 (p:=wtP) fun j hj=>(hg j (by omega)).1]
   exact decide_eq_false (by omega)
  rw [this]
 ·have:Wa X.L=true:=List.any_eq_true.2 ⟨_,Zz (by omega),hx.2⟩
  rw [this]
def Z98:ZN:=fun args h K=>ZO none h true 20 args fun a=>match a with
 | [.agg cs]=>∃X,LV cs X∧X.Inv Zo∧K (.bool (Wa X.L))
 | _=>False
theorem Z7X (args:List AV) (h:Z9) (K:AV→Prop) (hl:Z98 args h K):Zm PP 51 args h fun o h'=>∃v,o=.ret v∧h'=h∧K v:=by
 refine Zw.psumm (d:=20) (Zq _ _ _ _ _ hl fun a ha=> ?_)
 split at ha
 ·obtain ⟨X,hX,hI,hK⟩:=ha
  exact ⟨_,(Zw.evV (ZcW X X.L.length) (Zj7 X _ _ _ ⟨hI.am.n,rfl,hI.stage⟩ rfl rfl)).conv fun E r hr=>hr.head (fun _ hc=>XX hX hc) fun _ hc=>hc,fun _=>rfl,hK⟩
 ·exact ha.elim
noncomputable def Zgd (A:List Z5) (n:Nat) (C:Prop):Zf:=G0.withL 40 0 (goM 0 (Z6o A A 0) C (Ys 0 n 9 (fun i=>i<n) (fun i=>i=n) (fun _=>False) (fun _=>False) (fun _=>Z3l) (fun _=>Z3l) (fun _=>Z3l)))
theorem ZcX (A:List Z5) (n:Nat):(Zgd A n (n<1000∧A.length=n∧∀h∈A,h.Ok)).Ok:=
 Zf.withGoM (N:=20) (S:=fun i=>Z6o A A i) Zr (by kernel_rfl) fun hC=>⟨rfl,fun i hi _=>Zj5 A n i _ _ hC.1 hC.2.1 hi hC.2.2 (fun h=>⟨h,h⟩) (fun h=>h)⟩
theorem Zj8 (A:List Z5) (n:Nat) (C:Prop) (hC:C):
  evF (Zgd A n C) 20 40 [.vrows 70 A.length (Z4 A) A.length,.vrows 70 A.length (Z4 A) A.length] ⟨0,[]⟩ (Y8 fun v=>v=.bool true):=by
 refine @Eq.mpr _ (let q1:=List.length A;
 let q2:=(↑q1:Int);
 let q3:=AV.bool true;
 let q4:=decide (q1=q1);
 let q5:=Z4 A=Z4 A;
 Z0 (q2 !=q2) (AV.bool false=q3) (Z0 q4 (q5∧Z0 q4 (Z0 q4 (q5∧Z0 q4 (C∧∀(i:Nat),i≤n→(∀(j:Nat),j<i→(fun (i:Nat)=>i<n) j)→(i=n→q3=q3)∧(False→False)∧(False→False)) False) False) False) False)) (by kernel_rfl) ?_
 conv=>zeta
 try simp only [Zg]
 try simp only [Zi]
 try simp only [Zh]
 try simp only [Zj]
 try simp only [Zk]
 try simp only [Ze]
 try simp only [Int.toNat_natCast,Nat.zero_add,true_and,and_true,Nat.le_refl]
 exact ⟨fun h=>by simp at h,fun _=>⟨hC,fun i _ _=>⟨fun _=>trivial,fun h=>h,fun h=>h⟩⟩⟩
theorem Zj9 (u:Unit) :
  evF G0 20 40 [.nilslice,.nilslice] ⟨0,[]⟩ (Y8 fun v=>v=.bool true):=by
 refine @Eq.mpr _ (AV.bool true=AV.bool true) (by kernel_rfl) ?_
 trivial
def Z59:ZN:=fun args h K=>ZO none h true 20 args fun a=>match a with
 | [.vrows 70 n f n',.vrows 70 m g m']=>∃A,(n=A.length∧n'=n∧m=n∧m'=n)∧(f=Z4 A∧g=Z4 A)∧n<1000∧(∀h∈A,h.Ok)∧K (.bool true)
 | [.nilslice,.nilslice]=>K (.bool true)
 | _=>False
theorem Z33 (args:List AV) (h:Z9) (K:AV→Prop) (hl:Z59 args h K):Zm PP 40 args h fun o h'=>∃v,o=.ret v∧h'=h∧K v:=by
 refine Zw.psumm (d:=20) (Zq _ _ _ _ _ hl fun a ha=> ?_)
 split at ha
 ·obtain ⟨A,⟨rfl,rfl,rfl,rfl⟩,⟨rfl,rfl⟩,h1,h2,hK⟩:=ha
  exact ⟨_,Zw.evV (ZcX A _) (Zj8 A _ _ ⟨h1,rfl,h2⟩),fun _=>rfl,hK⟩
 ·exact ⟨_,Zw.evV Zr (Zj9 ()),fun _=>rfl,ha⟩
 ·exact ha.elim
noncomputable def Zge (s p:Int) (pt:List Int) (a b:Int) (P:List YV) (n:Nat) (C:Prop):Zf:=G0.withL 43 0 (goM 0 (Zfh s p pt a b P 0) C (Ys 0 n 9 (fun i=>i<n) (fun i=>i=n) (fun _=>False) (fun _=>False) (fun _=>Zaj) (fun _=>Zaj) (fun _=>Zaj)))
theorem ZcY (s p:Int) (pt:List Int) (a b:Int) (P:List YV) (n:Nat):(Zge s p pt a b P n (n<1000∧P.length=n∧∀q∈P,q.hash.length=32)).Ok:=
 Zf.withGoM (N:=20) (S:=fun i=>Zfh s p pt a b P i) Zr (by kernel_rfl) fun hC=>⟨rfl,fun i hi _=>Zj6 s p pt a b P n i _ _ hC.1 hC.2.1 hi hC.2.2 (fun h=>⟨h,h⟩) (fun h=>h)⟩
def Zgf (s p:Int) (pt:List Int) (a b:Int) (P:List YV):AV:=.agg [.int .i64 s,.int .i64 p,.arr .u8 32 pt,.arr .i64 2 [a,b],.vrows 36 P.length (ZG P) P.length]
theorem Zja (s p:Int) (pt:List Int) (a b:Int) (P:List YV) (n:Nat) (C:Prop) (hC:C) (hp:pt.length=32):
  evF (Zge s p pt a b P n C) 20 43 [Zgf s p pt a b P,Zgf s p pt a b P] ⟨0,[]⟩ (Y8 fun v=>v=.bool true):=by
 refine @Eq.mpr _ (let q1:=AV.bool true;
 let q2:=AV.bool false=q1;
 let q3:=[a,b];
 let q4:=List.length P;
 let q5:=(↑q4:Int);
 let q6:=decide (s=s);
 let q7:=decide (p=p);
 let q8:=q3=q3;
 let q9:=decide (q4=q4);
 let q10:=ZG P=ZG P;
 Z0 (s !=s) q2 (Z0 (p !=p) q2 (Z0 (decide (List.length pt=32∧List.length pt=32)) (Z0 (!pt==pt) q2 (Z0 (!q3==q3) q2 (Z0 (q5 !=q5) q2 (Z0 q6 (Z0 q7 (pt=pt∧q8∧Z0 q9 (q10∧Z0 q9 (Z0 q6 (Z0 q7 (pt=pt∧q8∧Z0 q9 (q10∧Z0 q9 (C∧∀(i:Nat),i≤n→(∀(j:Nat),j<i→(fun (i:Nat)=>i<n) j)→(i=n→q1=q1)∧(False→False)∧(False→False)) False) False) False) False) False) False) False) False)))) False))) (by kernel_rfl) ?_
 conv=>zeta
 try simp only [Zg]
 try simp only [Zi]
 try simp only [Zh]
 try simp only [Zj]
 try simp only [Zk]
 try simp only [Ze]
 try simp only [Int.toNat_natCast,Nat.zero_add,true_and,and_true,Nat.le_refl]
 exact ⟨fun h=>by simp at h,fun _=>⟨fun h=>by simp at h,fun _=>⟨⟨hp,hp⟩,fun h=>by simp at h,fun _=>⟨fun h=>by simp at h,fun _=>⟨fun h=>by simp at h,fun _=>⟨hC,fun i _ _=>⟨fun _=>trivial,fun h=>h,fun h=>h⟩⟩⟩⟩⟩⟩⟩
theorem Zjb (s p:Int) (pt:List Int) (a b:Int) (hp:pt.length=32):
  evF G0 20 43 [.agg [.int .i64 s,.int .i64 p,.arr .u8 32 pt,.arr .i64 2 [a,b],.nilslice],.agg [.int .i64 s,.int .i64 p,.arr .u8 32 pt,.arr .i64 2 [a,b],.nilslice]] ⟨0,[]⟩ (Y8 fun v=>v=.bool true):=by
 refine @Eq.mpr _ (let q1:=AV.bool true;
 let q2:=AV.bool false=q1;
 let q3:=[a,b];
 Z0 (s !=s) q2 (Z0 (p !=p) q2 (Z0 (decide (List.length pt=32∧List.length pt=32)) (Z0 (!pt==pt) q2 (Z0 (!q3==q3) q2 (q1=q1))) False))) (by kernel_rfl) ?_
 conv=>zeta
 try simp only [Zg]
 try simp only [Zi]
 try simp only [Zh]
 try simp only [Zj]
 try simp only [Zk]
 try simp only [Ze]
 try simp only [Int.toNat_natCast,Nat.zero_add,true_and,and_true,Nat.le_refl]
 exact ⟨fun h=>by simp at h,fun _=>⟨fun h=>by simp at h,fun _=>⟨⟨hp,hp⟩,fun h=>by simp at h,fun _=>⟨fun h=>by simp at h,fun _=>trivial⟩⟩⟩⟩
def Z34:ZN:=fun args h K=>ZO none h true 20 args fun a=>match a with
 | [.agg [.int .i64 s,.int .i64 p,.arr .u8 32 pt,.arr .i64 2 [a,b],.vrows 36 n f n'],.agg [.int .i64 s',.int .i64 p',.arr .u8 32 pt',.arr .i64 2 [a',b'],.vrows 36 m g m']]=>∃P,(n=P.length∧n'=n∧m=n∧m'=n)∧(f=ZG P∧g=ZG P)∧(s'=s∧p'=p∧pt'=pt∧a'=a∧b'=b)∧pt.length=32∧n<1000∧(∀q∈P,q.hash.length=32)∧K (.bool true)
 | [.agg [.int .i64 s,.int .i64 p,.arr .u8 32 pt,.arr .i64 2 [a,b],.nilslice],.agg [.int .i64 s',.int .i64 p',.arr .u8 32 pt',.arr .i64 2 [a',b'],.nilslice]]=>(s'=s∧p'=p∧pt'=pt∧a'=a∧b'=b)∧pt.length=32∧K (.bool true)
 | _=>False
theorem Z0V (args:List AV) (h:Z9) (K:AV→Prop) (hl:Z34 args h K):Zm PP 43 args h fun o h'=>∃v,o=.ret v∧h'=h∧K v:=by
 refine Zw.psumm (d:=20) (Zq _ _ _ _ _ hl fun a ha=> ?_)
 split at ha
 ·obtain ⟨P,⟨rfl,rfl,rfl,rfl⟩,⟨rfl,rfl⟩,⟨rfl,rfl,rfl,rfl,rfl⟩,hp,h1,h2,hK⟩:=ha
  exact ⟨_,Zw.evV (ZcY _ _ _ _ _ P _) (Zja _ _ _ _ _ P _ _ ⟨h1,rfl,h2⟩ hp),fun _=>rfl,hK⟩
 ·obtain ⟨⟨rfl,rfl,rfl,rfl,rfl⟩,hp,hK⟩:=ha
  exact ⟨_,Zw.evV Zr (Zjb _ _ _ _ _ hp),fun _=>rfl,hK⟩
 ·exact ha.elim
end Go.Tk
end
section
namespace Go.Tk
open IntKind (i64 u8 u32 u64 wrap)
def slB (b n:Nat):AV:=.nslice ⟨b,0,0,0,0⟩ 1 n n
noncomputable def Zjc (W:Int→List Int):Zf:=G0.withF 123 (Zbx W)
theorem Zfi:(Zjc ZX).Ok:=Zf.withF_ok Zr Zby
theorem Zjd (W:Int→List Int) (xs ys:List Int) (N L:Nat) (n:Int) (hN:xs.length=N) (hB:N<80000000000000) (hW:W=ZX) (hn:0≤n) (hy:ys=xs++W n) (hL:L=ys.length):
  evF (Zjc W) 20 60 [slB 0 N,.int .i64 n] ⟨1,[(0,.ints .u8 xs)]⟩ (Y7 1 (.ret (slB 1 L)) 2 [(1,.ints .u8 ys)]):=by
 refine @Eq.mpr _ (let q1:=List.length (W n);
 let q2:=xs++List.take q1 (Xc 0 (W n));
 let q3:=List.length q2;
 Z0 (decide (0≤n)) (Z0 (decide (u8=u8∧0+q1≤q1)) (Z0 (decide (u8=u8∧List.length xs=N)) (Z0 (decide (q3*1≤140737488355328)) (Z0 (decide (q3=L)) (Z0 (decide (L≤q3)) (q2=ys∧True) False) False) False) False) False) False) (by kernel_rfl) ?_
 conv=>zeta
 try simp only [Zg]
 try simp only [Zi]
 try simp only [Zh]
 try simp only [Zj]
 try simp only [Zk]
 try simp only [Ze]
 try simp only [Int.toNat_natCast,Nat.zero_add,true_and,and_true,Nat.le_refl]
 subst hW hN hy hL
 have e:List.take (ZX n).length (Xc 0 (ZX n))=ZX n:=by rw [YP,List.drop_zero,List.take_length]
 have:=ZU n
 rw [e]
 simp only [List.length_append]
 repeat' apply And.intro
 all_goals first|trivial|omega|rfl
theorem Zje (xs hh ys:List Int) (N L:Nat) (hN:xs.length=N) (hB:N<80000000000000) (hl:hh.length=32) (hy:ys=xs++hh) (hL:L=ys.length):
  evF G0 20 61 [slB 0 N,.agg [.arr .u8 32 hh]] ⟨1,[(0,.ints .u8 xs)]⟩ (Y7 1 (.ret (slB 1 L)) 2 [(1,.ints .u8 ys)]):=by
 refine @Eq.mpr _ (let q1:=xs++hh;
 let q2:=List.length q1;
 Z0 (decide (u8=u8∧List.length hh=32)) (Z0 (decide (u8=u8∧List.length xs=N)) (Z0 (decide (q2*1≤140737488355328)) (Z0 (decide (q2=L)) (Z0 (decide (L≤q2)) (q1=ys∧True) False) False) False) False) False) (by kernel_rfl) ?_
 conv=>zeta
 try simp only [Zg]
 try simp only [Zi]
 try simp only [Zh]
 try simp only [Zj]
 try simp only [Zk]
 try simp only [Ze]
 try simp only [Int.toNat_natCast,Nat.zero_add,true_and,and_true,Nat.le_refl]
 subst hN hy hL
 simp only [List.length_append]
 repeat' apply And.intro
 all_goals first|trivial|omega|rfl
theorem Zjf (hh:List Int) (hl:hh.length=32):
  evF G0 20 61 [.nilslice,.agg [.arr .u8 32 hh]] ⟨0,[]⟩ (Y7 0 (.ret (slB 0 32)) 1 [(0,.ints .u8 hh)]):=by
 refine @Eq.mpr _ (let q1:=[]++hh;
 let q2:=List.length q1;
 Z0 (decide (u8=u8∧List.length hh=32)) (Z0 (decide (q2*1≤140737488355328)) (Z0 (decide (q2=32)) (Z0 (decide (32≤q2)) (q1=hh∧True) False) False) False) False) (by kernel_rfl) ?_
 conv=>zeta
 try simp only [Zg]
 try simp only [Zi]
 try simp only [Zh]
 try simp only [Zj]
 try simp only [Zk]
 try simp only [Ze]
 try simp only [Int.toNat_natCast,Nat.zero_add,true_and,and_true,Nat.le_refl]
 simp only [List.nil_append]
 repeat' apply And.intro
 all_goals first|trivial|omega|rfl
def Zjg (h:Z9) (b:Nat) (ys:List Int):Z9:=⟨h.next+1,(h.next,.ints .u8 ys)::Yw h.bs b⟩
def Zhz (W:Int→List Int) (B:Nat):Ye:=fun args h K=>match args with
 | [.nslice ⟨b,0,0,0,0⟩ 1 _ _,_]=>frA [b] h 20 args fun Bs a=>match Bs,a with
  | [.ints .u8 xs],[.nslice ⟨0,0,0,0,0⟩ 1 N M,.int .i64 n]=>Zu (xs.length=N∧M=N∧N<B∧0≤n) (K (.ret (slB h.next (xs++W n).length)) (Zjg h b (xs++W n)))
  | _,_=>False
 | _=>False
theorem Zfj (args:List AV) (h:Z9) (K:KO) (hl:Zhz ZX 80000000000000 args h K):Zm PP 60 args h K:=by
 unfold Zhz at hl
 split at hl
 ·refine Spec.fsumm hl fun Bs a hlen hK0=> ?_
  split at hK0
  ·obtain ⟨⟨h1,rfl,h2,h3⟩,hK⟩:=Zc hK0
   exact ⟨_,_,_,_,_,.evM Zfi (Zjd _ _ _ _ _ _ h1 h2 rfl h3 rfl rfl),by simp,.ret _ _ rfl,.cons _ _ _ _ _ _ rfl (.ints _ _) .nil,hK⟩
  ·exact hK0.elim
 ·exact hl.elim
def ZcZ (B:Nat):Ye:=fun args h K=>match args with
 | [.nslice ⟨b,0,0,0,0⟩ 1 _ _,_]=>frA [b] h 20 args fun Bs a=>match Bs,a with
  | [.ints .u8 xs],[.nslice ⟨0,0,0,0,0⟩ 1 N M,.agg [.arr .u8 32 hh]]=>Zu (xs.length=N∧M=N∧N<B∧hh.length=32) (K (.ret (slB h.next (xs++hh).length)) (Zjg h b (xs++hh)))
  | _,_=>False
 | [.nilslice,_]=>frA [] h 20 args fun Bs a=>match Bs,a with
  | [],[.nilslice,.agg [.arr .u8 32 hh]]=>Zu (hh.length=32) (K (.ret (slB h.next 32)) ⟨h.next+1,(h.next,.ints .u8 hh)::h.bs⟩)
  | _,_=>False
 | _=>False
theorem Zd0 (args:List AV) (h:Z9) (K:KO) (hl:ZcZ 80000000000000 args h K):Zm PP 61 args h K:=by
 unfold ZcZ at hl
 split at hl
 ·refine Spec.fsumm hl fun Bs a hlen hK0=> ?_
  split at hK0
  ·obtain ⟨⟨h1,rfl,h2,h3⟩,hK⟩:=Zc hK0
   exact ⟨_,_,_,_,_,.evM Zr (Zje _ _ _ _ _ h1 h2 h3 rfl rfl),by simp,.ret _ _ rfl,.cons _ _ _ _ _ _ rfl (.ints _ _) .nil,hK⟩
  ·exact hK0.elim
 ·refine Spec.fsumm hl fun Bs a hlen hK0=> ?_
  split at hK0
  ·obtain ⟨h3,hK⟩:=Zc hK0
   exact ⟨_,_,_,_,_,.evM Zr (Zjf _ h3),Nat.zero_le _,.ret _ _ rfl,.cons _ _ _ _ _ _ rfl (.ints _ _) .nil,hK⟩
  ·exact hK0.elim
 ·exact hl.elim
theorem Zjh (b:Bool) (ys:List Int) (hy:ys=[cond b 1 0]):
  evF G0 20 62 [.bool b] ⟨0,[]⟩ (Y7 0 (.ret (slB 0 1)) 1 [(0,.ints .u8 ys)]):=by
 refine @Eq.mpr _ (Z0 b ([(1:Int)]=ys∧True) ([(0:Int)]=ys∧True)) (by kernel_rfl) ?_
 try simp only [Zg]
 try simp only [Zi]
 try simp only [Zh]
 try simp only [Zj]
 try simp only [Zk]
 try simp only [Ze]
 try simp only [Int.toNat_natCast,Nat.zero_add,true_and,and_true,Nat.le_refl]
 subst hy
 cases b<;>simp
def Z7Y:Ye:=fun args h K=>match args with
 | [.bool b]=>K (.ret (slB h.next 1)) ⟨h.next+1,(h.next,.ints .u8 [cond b 1 0])::h.bs⟩
 | _=>False
theorem Zak (args:List AV) (h:Z9) (K:KO) (hl:Z7Y args h K):Zm PP 62 args h K:=by
 unfold Z7Y at hl
 split at hl
 ·exact (Zw.evM Zr (Zjh _ _ rfl)).calls (fun E w rs he hr=>by
   cases hr with
   | cons v r vs rs h1 h2=>cases h2;exact .cons _ _ _ _ (h1.plain rfl) .nil) rfl ⟨Nat.one_pos,.ints _ _,trivial⟩ hl
 ·exact hl.elim
noncomputable def Z99 (W:Int→List Int) (B:Nat):Zf:=((G0.withF 60 (Zhz W B)).withF 61 (ZcZ B)).withF 62 Z7Y
theorem Zd1:(Z99 ZX 80000000000000).Ok:=Zf.withF_ok (Zf.withF_ok (Zf.withF_ok Zr Zfj) Zd0) Zak
def Zal (X:Z6) (i N:Nat) (xs:List Int):St:=⟨113,[(4,.int .i64 i),(1,.ptr (some ⟨0,0,0,0,0⟩)),(3,slB 1 N)],⟨2,[(0,.flat (X.c (.vrows 70 X.L.length (Z4 X.L) X.L.length))),(1,.ints .u8 xs)]⟩,[]⟩
def Z6p (N:Nat) (xs:List Int):St:=⟨113,[(3,slB 0 N)],⟨1,[(0,.ints .u8 xs)]⟩,[]⟩
theorem Zji (X:Z6) (n i N N1 B:Nat) (xs ys:List Int) (x:Z5) (W:Int→List Int) (T:Int) (Z1 Z2:Prop) (hn:n<1000) (hL:X.L.length=n) (hi:i≤n) (hx:i<n→X.L.getD i Z7=x) (hN:xs.length=N) (hB:i<n→N+1000<B) (hB2:B≤80000000000000) (hW:W=ZX) (hr:i<n→ZeV T x) (hk:i<n→x.Ok) (hy:i<n→ys=Z3k W xs x) (hN1:i<n→N1=ys.length) (hZ1:i<n→Z1) (hZ2:i=n→Z2):
  ZI (Z99 W B) 20 20 0 0 (Zal X i N xs) (rdM 0 0 9 (Zal X (i+1) N1 ys) (Z6p N xs) (Z6p N xs) (Z6p N xs) Z1 Z2 False False):=by
 refine @Eq.mpr _ (let q1:=X.L;
 let q2:=List.length q1;
 let q3:=List.getD q1 (Int.toNat (↑i:Int)) Z7;
 let q4:=xs++[bif q3.own then 1 else 0];
 let q5:=List.length q4;
 let q6:=q3.id;
 let q7:=q3.fin;
 let q8:=decide (q7=q7);
 let q9:=q3.stage;
 let q10:=decide (q9=q9);
 let q11:=q3.expiry;
 let q12:=decide (q11=q11);
 let q13:=q3.hash;
 let q14:=q13=q13;
 let q15:=q3.amount;
 let q16:=q4++W q6;
 let q17:=List.length q16;
 let q18:=q16++W q15;
 let q19:=List.length q18;
 let q20:=q18++q13;
 let q21:=List.length q20;
 let q22:=q20++W q11;
 let q23:=List.length q22;
 let q24:=q22++W q9;
 let q25:=List.length q24;
 let q26:=q24++W q7;
 let q27:=List.length q26;
 let q28:=q3.secret;
 let q29:=decide (wrap i64 ((↑i:Int)+1)=(↑(i+1):Int));
 let q30:=q26++q28;
 let q31:=List.length q30;
 let q32:=X.t;
 let q33:=q32.fund;
 let q34:=q33=q33;
 let q35:=q32.index;
 let q36:=decide (q35=q35);
 let q37:=q32.cap;
 let q38:=decide (q37=q37);
 let q39:=q32.dust;
 let q40:=decide (q39=q39);
 let q41:=q32.fee;
 let q42:=decide (q41=q41);
 let q43:=q32.delay;
 let q44:=decide (q43=q43);
 let q45:=q32.k0;
 let q46:=q45=q45;
 let q47:=q32.k1;
 let q48:=q47=q47;
 let q49:=decide (X.side=X.side);
 let q50:=decide (X.res=X.res);
 let q51:=[X.a0,X.a1];
 let q52:=q51=q51;
 let q53:=[X.i0,X.i1];
 let q54:=q53=q53;
 let q55:=decide (q2=q2);
 let q56:=Z4 q1;
 let q57:=q56=q56;
 Z0 (decide ((↑i:Int)<(↑q2:Int)))
 (Z0 (decide (0≤(↑i:Int)∧(↑i:Int)<(↑q2:Int)))
 (Z0 (decide (u8=u8∧List.length xs=N))
 (Z0 (decide (q5*1≤140737488355328))
 (Z0 (decide (q5=q5∧q5=q5∧q5<B∧0≤q6))
 (Z0 q8
 (Z0 q10
 (Z0 q12
 (q14∧
 Z0 (decide (q15=q15))
 (Z0 (decide (q17=q17∧q17=q17∧q17<B∧0≤q15))
 (Z0 q8
 (Z0 q10
 (Z0 q12
 (q14∧
 Z0 (decide (q19=q19∧q19=q19∧q19<B∧List.length q13=32))
 (Z0 q8 (Z0 q10 (Z0 q12 (Z0 (decide (q21=q21∧q21=q21∧q21<B∧0≤q11)) (Z0 q8 (Z0 q10 (Z0 (decide (q23=q23∧q23=q23∧q23<B∧0≤q9)) (Z0 q8 (Z0 (decide (q25=q25∧q25=q25∧q25<B∧0≤q7)) (Z0 (q7==1) (Z0 (decide (q27=q27∧q27=q27∧q27<B∧List.length q28=32)) (Z0 q29 (Z0 (decide (q31=N1)) (Z0 (decide (N1≤q31)) (q34∧Z0 q36 (Z0 q38 (Z0 q40 (Z0 q42 (Z0 q44 (q46∧q48∧Z0 q49 (Z0 q50 (q52∧q54∧Z0 q55 (q57∧Z0 q55 (q30=ys∧Z1) False) False) False) False) False) False) False) False) False) False) False) False) False) (Z0 q29 (Z0 (decide (q27=N1)) (Z0 (decide (N1≤q27)) (q34∧Z0 q36 (Z0 q38 (Z0 q40 (Z0 q42 (Z0 q44 (q46∧q48∧Z0 q49 (Z0 q50 (q52∧q54∧Z0 q55 (q57∧Z0 q55 (q26=ys∧Z1) False) False) False) False) False) False) False) False) False) False) False) False)) False) False) False) False) False) False) False) False) False) False)
 False)
 False)
 False)
 False)
 False)
 False)
 False)
 False)
 False)
 False)
 False)
 False)
 (Z0 (decide (N=N)) (Z0 (decide (N≤N)) (xs=xs∧Z2) False) False)) (by kernel_rfl) ?_
 conv=>zeta
 try simp only [Zg]
 try simp only [Zi]
 try simp only [Zh]
 try simp only [Zj]
 try simp only [Zk]
 try simp only [Ze]
 try simp only [Int.toNat_natCast,Nat.zero_add,true_and,and_true,Nat.le_refl]
 subst hL
 refine ⟨fun hc=> ?_,fun hc=>hZ2 (by omega)⟩
 have hlt:i<X.L.length:=by omega
 rw [hx hlt]
 obtain ⟨⟨r1,_⟩,⟨r2,_⟩,⟨r3,_⟩,⟨r4,_⟩,r5,_⟩:=hr hlt
 have hk:=hk hlt
 have hB:=hB hlt
 have hy:=hy hlt
 have hN1:=hN1 hlt
 have hwr:i64.wrap ((i:Int)+1)=((i+1:Nat):Int):=by rw [w64 (by omega)];omega
 have k1:=hk.hash
 have k2:=hk.secret
 subst hW
 unfold Z3k at hy
 simp only [Yv] at hy
 have l1:=ZU x.id
 have l2:=ZU x.amount
 have l3:=ZU x.expiry
 have l4:=ZU x.stage
 have l5:=ZU x.fin
 refine ⟨by omega,hN, ?_,⟨?_,r1⟩,⟨?_,r2⟩,⟨?_,k1⟩,⟨?_,r3⟩,⟨?_,r4⟩,⟨?_,r5⟩,fun hf=> ?_,fun hf=> ?_⟩
 case _|_|_|_|_|_|_=>simp only [List.length_append,List.length_cons,List.length_nil];omega
 ·have hf:x.fin=1:=by simpa using hf
  rw [if_pos hf] at hy
  rw [←hy,←hN1]
  refine ⟨⟨?_,k2⟩,hwr,rfl,Nat.le_refl _,rfl,hZ1 hlt⟩
  simp only [List.length_append,List.length_cons,List.length_nil];omega
 ·have hf:¬x.fin=1:=by simpa using hf
  rw [if_neg hf] at hy
  rw [←hy,←hN1]
  exact ⟨hwr,rfl,Nat.le_refl _,rfl,hZ1 hlt⟩
theorem Zjj (T:Int) (B:Nat) (X:Z6) (n i:Nat) (hd:List Int) (hB2:B≤80000000000000) (hC:Z7Q T B X n hd) (hi:i≤n):ZI (Z99 ZX B) 20 20 0 0 (Zal X i (X9 X hd i).length (X9 X hd i)) (rdM 0 0 9 (Zal X (i+1) (X9 X hd (i+1)).length (X9 X hd (i+1))) (Z6p (X9 X hd i).length (X9 X hd i)) (Z6p (X9 X hd i).length (X9 X hd i)) (Z6p (X9 X hd i).length (X9 X hd i)) (i<n∧i<n) (i=n) False False):=by
 obtain ⟨h1,h2,h3,h4,h5⟩:=id hC
 have hlt:i<n→i<X.L.length:=fun h=>by omega
 have hl:=Z30 (L:=X.L.take i) (fun z hz=>(h5 z (List.mem_of_mem_take hz)).2) hd
 have l0:(X.L.take i).length≤16:=by rw [List.length_take];omega
 refine Zji X n i _ _ B _ _ (X.L.getD i Z7) ZX T (i<n∧i<n) (i=n) (by omega) h1 hi (fun _=>rfl) rfl (fun _=> ?_) hB2 rfl (fun h=>(h5 _ (Zz (hlt h))).1) (fun h=>(h5 _ (Zz (hlt h))).2) (fun h=> ?_) (fun _=>rfl) (fun h=>⟨h,h⟩) (fun h=>h)
 ·unfold X9;omega
 ·unfold X9
  rw [Y5 (hlt h),List.foldl_append];rfl
noncomputable def Zgg (W:Int→List Int) (B:Nat) (X:Z6) (n N:Nat) (hd:List Int) (C:Prop) (E:Nat→St):Zf:=(Z99 W B).withL 20 0 (goM 0 (Zal X 0 N hd) C (Ys 0 n 9 (fun i=>i<n) (fun i=>i=n) (fun _=>False) (fun _=>False) E E E))
theorem Zd2 (X:Z6) (n:Nat) (hd:List Int):(Zgg ZX 80000000000000 X n hd.length hd (Z7Q 4611686018427387904 80000000000000 X n hd) (fun i=>Z6p (X9 X hd i).length (X9 X hd i))).Ok:=
 Zf.withGoM (N:=20) (S:=fun i=>Zal X i (X9 X hd i).length (X9 X hd i)) Zd1 (by kernel_rfl) fun hC=>⟨rfl,fun i hi _=>Zjj _ _ X n i hd (Nat.le_refl _) hC hi⟩
theorem Zjk (X:Z6) (n N B l:Nat) (hd ys:List Int) (W:Int→List Int) (T:Int) (C:Prop) (XF:Nat→List Int) (hC:C) (hn:X.L.length=n) (hhd:hd=WF W X) (hN:N=hd.length) (hy:ys=XF n) (hl:l=ys.length) (hf:X.t.fund.length=32) (h0:X.t.k0.length=32) (h1:X.t.k1.length=32) (hB:10000≤B) (hW:W=ZX) (hT:Zcx T X):
  evF (Zgg W B X n N hd C fun i=>Z6p (XF i).length (XF i)) 20 20 [Z0v X] ⟨0,[]⟩ (Y7 0 (.ret (slB 0 l)) 1 [(0,.ints .u8 ys)]):=by
 refine @Eq.mpr _ (let q1:=X.t;
 let q2:=q1.fund;
 let q3:=q1.delay;
 let q4:=decide (q3=q3);
 let q5:=q1.fee;
 let q6:=decide (q5=q5);
 let q7:=q1.dust;
 let q8:=decide (q7=q7);
 let q9:=q1.cap;
 let q10:=decide (q9=q9);
 let q11:=q1.index;
 let q12:=decide (q11=q11);
 let q13:=q2++W q11;
 let q14:=List.length q13;
 let q15:=q13++W q9;
 let q16:=List.length q15;
 let q17:=q15++W q7;
 let q18:=List.length q17;
 let q19:=q17++W q5;
 let q20:=List.length q19;
 let q21:=q19++W q3;
 let q22:=List.length q21;
 let q23:=q1.k0;
 let q24:=X.res;
 let q25:=decide (q24=q24);
 let q26:=X.side;
 let q27:=decide (q26=q26);
 let q28:=q1.k1;
 let q29:=q28=q28;
 let q30:=q21++q23;
 let q31:=List.length q30;
 let q32:=q30++q28;
 let q33:=List.length q32;
 let q34:=q32++W q26;
 let q35:=List.length q34;
 let q36:=q34++W q24;
 let q37:=List.length q36;
 let q38:=X.a0;
 let q39:=X.i1;
 let q40:=decide (q39=q39);
 let q41:=X.i0;
 let q42:=decide (q41=q41);
 let q43:=X.a1;
 let q44:=q36++W q38;
 let q45:=List.length q44;
 let q46:=q44++W q43;
 let q47:=List.length q46;
 let q48:=q46++W q41;
 let q49:=List.length q48;
 let q50:=q48++W q39;
 let q51:=List.length q50;
 let q52:=List.length X.L;
 let q53:=↑q52;
 let q54:=q50++W q53;
 let q55:=List.length q54;
 let q56:=[q38,q43];
 let q57:=[q41,q39];
 let q58:=decide (q52=q52);
 let q59:=Z4 X.L;
 Z0 (decide (List.length q2=32))
 (Z0 q4
 (Z0 q6
 (Z0 q8
 (Z0 q10
 (Z0 q12
 (Z0 (decide (List.length q2=32∧(32:Nat)=32∧32<B∧0≤q11))
 (Z0 q4
 (Z0 q6
 (Z0 q8
 (Z0 q10
 (Z0 (decide (q14=q14∧q14=q14∧q14<B∧0≤q9))
 (Z0 q4
 (Z0 q6
 (Z0 q8
 (Z0 (decide (q16=q16∧q16=q16∧q16<B∧0≤q7))
 (Z0 q4
 (Z0 q6
 (Z0 (decide (q18=q18∧q18=q18∧q18<B∧0≤q5))
 (Z0 q4
 (Z0 (decide (q20=q20∧q20=q20∧q20<B∧0≤q3))
 (Z0 (decide (q22=q22∧q22=q22∧q22<B∧List.length q23=32))
 (Z0 q25
 (Z0 q27
 (q29∧
 Z0 (decide (q31=q31∧q31=q31∧q31<B∧List.length q28=32))
 (Z0 q25
 (Z0 q27
 (Z0 (decide (q33=q33∧q33=q33∧q33<B∧0≤q26))
 (Z0 q25
 (Z0 (decide (q35=q35∧q35=q35∧q35<B∧0≤q24))
 (Z0 (decide (q37=q37∧q37=q37∧q37<B∧0≤q38)) (Z0 q40 (Z0 q42 (Z0 (decide (q43=q43)) (Z0 (decide (q45=q45∧q45=q45∧q45<B∧0≤q43)) (Z0 q40 (Z0 q42 (Z0 (decide (q47=q47∧q47=q47∧q47<B∧0≤q41)) (Z0 q40 (Z0 (decide (q49=q49∧q49=q49∧q49<B∧0≤q39)) (Z0 (decide (q51=q51∧q51=q51∧q51<B∧0≤q53)) (Z0 (decide (q55=N)) (Z0 (decide (N≤q55)) (q2=q2∧Z0 q12 (Z0 q10 (Z0 q8 (Z0 q6 (Z0 q4 (q23=q23∧q29∧Z0 q27 (Z0 q25 (q56=q56∧q57=q57∧Z0 q58 (q59=q59∧Z0 q58 (q54=hd∧C∧∀(i:Nat),i≤n→(∀(j:Nat),j<i→(fun (i:Nat)=>i<n) j)→(i=n→Z0 (decide (List.length (XF i)=l)) (Z0 (decide (l≤List.length (XF i))) (XF i=ys∧True) False) False)∧(False→False)∧(False→False)) False) False) False) False) False) False) False) False) False) False) False) False) False) False) False) False) False) False) False) False) False) False) False)
 False)
 False)
 False)
 False)
 False)
 False)
 False)
 False)
 False)
 False)
 False)
 False)
 False)
 False)
 False)
 False)
 False)
 False)
 False)
 False)
 False)
 False)
 False)
 False)
 False)
 False)
 False)
 False)
 False) (by kernel_rfl) ?_
 conv=>zeta
 try simp only [Zg]
 try simp only [Zi]
 try simp only [Zh]
 try simp only [Zj]
 try simp only [Zk]
 try simp only [Ze]
 try simp only [Int.toNat_natCast,Nat.zero_add,true_and,and_true,Nat.le_refl]
 subst hy hN hW
 obtain ⟨⟨t1,_⟩,⟨t2,_⟩,⟨t3,_⟩,⟨t4,_⟩,⟨t5,_⟩,⟨t6,_⟩,⟨t7,_⟩,⟨t8,_⟩,⟨t9,_⟩,⟨t10,_⟩,⟨t11,_⟩,t12,_⟩:=hT
 have hlen:=UD hf h0 h1
 rw [←hhd] at hlen
 simp only [WF,Yv] at hhd
 rw [←hhd]
 rw [hhd] at hlen
 simp only [List.length_append] at hlen⊢
 refine ⟨hf,⟨hf,by omega,t1⟩,⟨by omega,t2⟩,⟨by omega,t3⟩,⟨by omega,t4⟩,⟨by omega,t5⟩,⟨by omega,h0⟩,⟨by omega,h1⟩,⟨by omega,t6⟩,⟨by omega,t7⟩,⟨by omega,t8⟩,⟨by omega,t9⟩,⟨by omega,t10⟩,⟨by omega,t11⟩,⟨by omega,t12⟩,trivial,Nat.le_refl _,trivial,hC,fun i hi _=>⟨fun he=> ?_,fun h=>h,fun h=>h⟩⟩
 subst he
 exact ⟨hl.symm,Nat.le_of_eq hl,rfl⟩
def Zgh (W:Int→List Int):Ye:=fun args h K=>ZO none h true 20 args fun a=>match a with
 | [.agg cs]=>∃X,LV cs X∧X.Inv Zo∧X.t.fund.length=32∧K (.ret (slB h.next (Vp W X).length)) ⟨h.next+1,(h.next,.ints .u8 (Vp W X))::h.bs⟩
 | _=>False
theorem Zd3 (args:List AV) (h:Z9) (K:KO) (hl:Zgh ZX args h K):Zm PP 20 args h K:=by
 refine Zw.fsumm (d:=20) (Zq _ _ _ _ _ hl fun a ha=> ?_)
 split at ha
 ·obtain ⟨X,hX,hI,hf,hK⟩:=ha
  have hv:=Zjk X X.L.length _ 80000000000000 _ (WF ZX X) (Vp ZX X) ZX 4611686018427387904 (Z7Q 4611686018427387904 80000000000000 X X.L.length (WF ZX X)) (X9 X (WF ZX X)) (hI.rw' hf) rfl rfl rfl (by unfold X9;rw [List.take_length];rfl) rfl hf hI.tok.k0 hI.tok.k1 (by decide) rfl hI.hdnum
  exact ⟨_,_,_,_,(Zw.evM (Zd2 X _ _) hv).conv fun E r hr=>hr.head (fun _ hc=>XX hX hc) fun _ hc=>hc,rfl,⟨Nat.one_pos,.ints _ _,trivial⟩,hK⟩
 ·exact ha.elim
end Go.Tk
end
section
namespace Go.Tk
open IntKind (i64 u8 u32 u64 wrap)
theorem Zjl (X:Z6) (hc:X.t.cap≠0):
  evF G0 20 44 [XW X] ⟨0,[]⟩ (Y8 fun v=>v=.bool false):=by
 refine @Eq.mpr _ (AV.bool (X.t.cap==0)=AV.bool false) (by kernel_rfl) ?_
 have:(X.t.cap==0)=false:=by simpa using hc
 rw [this]
def Z9a:ZN:=fun args h K=>ZO none h true 20 args fun a=>match a with
 | [.pview cs 0]=>∃X,LV cs X∧X.t.cap≠0∧K (.bool false)
 | _=>False
theorem Z35 (args:List AV) (h:Z9) (K:AV→Prop) (hl:Z9a args h K):Zm PP 44 args h fun o h'=>∃v,o=.ret v∧h'=h∧K v:=by
 refine Zw.psumm (d:=20) (Zq _ _ _ _ _ hl fun a ha=> ?_)
 split at ha
 ·obtain ⟨X,hX,hI,hK⟩:=ha
  exact ⟨_,(Zw.evV Zr (Zjl X hI)).conv fun E r hr=>hr.head (fun _ hc=>Xr hX hc) fun _ hc=>hc,fun _=>rfl,hK⟩
 ·exact ha.elim
def Zd4:ZN:=fun args h K=>ZO none h true 20 args fun a=>match a with
 | [.pview cs 0,.bool own,.int .i64 id]=>∃X y,LV cs X∧X.L.length<1000∧X.t.cap≠0∧fdH X.L own id=(y,true)∧K (.tuple [.agg y.c,.bool true])
 | _=>False
theorem Zam (args:List AV) (h:Z9) (K:AV→Prop) (hl:Zd4 args h K):Zm PP 48 args h fun o h'=>∃v,o=.ret v∧h'=h∧K v:=by
 refine Zae args h K (Zq _ _ _ _ _ hl fun a ha=> ?_)
 split at ha
 ·obtain ⟨X,y,hX,h1,h2,h3,hK⟩:=ha
  exact ⟨X,hX,h1,h2,by rw [h3];exact hK⟩
 ·exact ha.elim
noncomputable def UF:Code:=rfA PP 15 0
noncomputable def UG:Code:=rfB PP 15 0
noncomputable def ZhA (W:Int→List Int):Zf:=(((((((((G0.withF 45 Za7).withP 44 Z9a).withP 48 Zd4).withP 40 Z59).withP 25 ZcH).withP 49 ZcG).withP 50 Zcv).withP 51 Z98).withF 21 (Zg5 W)).withF 20 (Zgh W)
theorem Zfk:(ZhA ZX).Ok:=Zf.withF_ok (Zf.withF_ok (Zf.withP_ok (Zf.withP_ok (Zf.withP_ok (Zf.withP_ok (Zf.withP_ok (Zf.withP_ok (Zf.withP_ok (Zf.withF_ok Zr QS) Z35) Zam) Z33) Zah) Zag) Zab) Z7X) Zcz) Zd3
def Zfl:St:=⟨17,[],⟨0,[]⟩,[]⟩
def Zjm (X:Z6) (i:Nat):List (Nat×Blk):=[(10,.rows 70 i (Z4 X.L)),(3,.flat [slH 10 i]),(2,.flat [.bool false]),(1,.flat (X.c (.vrows 70 X.L.length (Z4 X.L) X.L.length))),(0,.flat [XW X])]
noncomputable def Zfm (X:Z6) (i:Nat):St:=⟨17,[(0,.yield 9),(5,slH 6 X.L.length),(6,.int .i64 X.L.length),(7,.int .i64 i)],⟨11,(9,.loop ⟨.ready,none,15,102,[(2,pt 0),(3,pt 1),(4,pt 2),(5,pt 3)],[14],UF,UG,8⟩)::(8,.defd)::(6,.rows 70 X.L.length (Z4 X.L))::Zjm X i⟩,[]⟩
noncomputable def Zjn (X:Z6) (i:Nat):St:=⟨17,[(0,.yield 9)],⟨11,(9,.loop ⟨.ready,none,15,102,[(2,pt 0),(3,pt 1),(4,pt 2),(5,pt 3)],[14],UF,UG,8⟩)::(8,.defd)::Zjm X i⟩,[]⟩
theorem ZkR (X:Z6) (n i:Nat) (x:Z5) (W:Int→List Int) (Z1 Z2:Prop) (hn:n<1000) (hL:X.L.length=n) (hi:i≤n) (hcap:X.t.cap≠0) (hx:i<n→X.L.getD i Z7=x) (hk:i<n→x.Ok) (hfd:i<n→fdH X.L x.own x.id=(x,true)) (h1:i<n→Z1) (h2:i=n→Z2):
  ZI (ZhA W) 20 108 0 10 (Zfm X i) (rdM 10 0 9 (Zfm X (i+1)) (Zjn X i) Zfl Zfl Z1 Z2 False False):=by
 refine @Eq.mpr _ (let q1:=X.L;
 let q2:=List.length q1;
 let q3:=(↑q2:Int);
 let q4:=0+Int.toNat (↑i:Int);
 let q5:=decide (i=i);
 let q6:=i+1;
 let q7:=Z4 q1;
 let q8:=Z6.c X (AV.vrows 70 q2 q7 q2);
 let q9:=List.getD q1 q4 Z7;
 let q10:=q9.own;
 let q11:=q9.id;
 let q12:=q9.hash;
 let q13:=q9.secret;
 let q14:=q9.amount;
 let q15:=q9.expiry;
 let q16:=q9.stage;
 let q17:=q9.fin;
 let q18:=(15:FuncId)=15∧(102:Nat)=102∧[(14:Nat)]=[(14:Nat)]∧UF=UF∧UG=UG;
 let q19:=decide (q6=i);
 let q20:=[(10,14)];
 let q21:=ZW i q7 (YC [AV.bool q10,AV.int i64 q11,AV.int i64 q14,AV.arr u8 32 q12,AV.int i64 q15,AV.int i64 q16,AV.int i64 q17,AV.arr u8 32 q13] 0 70);
 let q22:=X.t;
 let q23:=q22.fund;
 let q24:=q23=q23;
 let q25:=q22.index;
 let q26:=decide (q25=q25);
 let q27:=q22.cap;
 let q28:=decide (q27=q27);
 let q29:=q22.dust;
 let q30:=decide (q29=q29);
 let q31:=q22.fee;
 let q32:=decide (q31=q31);
 let q33:=q22.delay;
 let q34:=decide (q33=q33);
 let q35:=q22.k0;
 let q36:=q35=q35;
 let q37:=q22.k1;
 let q38:=q37=q37;
 let q39:=decide (X.side=X.side);
 let q40:=decide (X.res=X.res);
 let q41:=[X.a0,X.a1];
 let q42:=q41=q41;
 let q43:=[X.i0,X.i1];
 let q44:=q43=q43;
 let q45:=decide (q2=q2);
 let q46:=q7=q7;
 let q47:=q8=q8;
 let q48:=q24∧Z0 q26 (Z0 q28 (Z0 q30 (Z0 q32 (Z0 q34 (q36∧q38∧Z0 q39 (Z0 q40 (q42∧q44∧Z0 q45 (q46∧Z0 q45 (q47∧Z2) False) False) False) False) False) False) False) False) False;
 let q49:=LoopState.ready=LoopState.ready∧(none:Option Code)=none∧q18;
 let q50:=decide (q6=q6);
 Z0 (decide ((↑i:Int)<q3))
 (Z0 (decide (0≤(↑i:Int)∧(↑i:Int)<q3))
 (Z0 (decide (q4<q2))
 (Z0 q5
 (Z0 (decide (q6*112≤140737488355328))
 (∃(X_1:Z6),
 ∃(y:Z5),
 LV q8 X_1∧
 List.length X_1.L<1000∧
 X_1.t.cap≠0∧
 fdH X_1.L q10 q11=(y,true)∧Z0 (decide (List.length y.hash=32∧List.length q12=32)) (Z0 (decide (List.length y.secret=32∧List.length q13=32)) (Z0 (!(y.own==q10&&(y.id==q11&&(y.amount==q14&&(y.hash==q12&&(y.expiry==q15&&(y.stage==q16&&(y.fin==q17&&y.secret==q13)))))))) ((LoopState.done=LoopState.ready∧some Code.ret=none∧q18)∧Z0 q19 (Za 10 q20 i q7 q21∧Z0 q19 (Z0 (decide (i≤q6)) q48 False) False) False) (Z0 q45 (Z0 (decide (q2≤q2)) (Z0 (decide (q3=q3)) (Z0 (decide (wrap i64 ((↑i:Int)+1)=(↑q6:Int))) (q49∧Z0 q45 (Za 10 q20 q2 q7 q7∧Z0 q50 (Za 10 q20 q6 q7 q21∧Z0 q50 (Z0 (decide (q6≤q6)) (q24∧Z0 q26 (Z0 q28 (Z0 q30 (Z0 q32 (Z0 q34 (q36∧q38∧Z0 q39 (Z0 q40 (q42∧q44∧Z0 q45 (q46∧Z0 q45 (q47∧Z1) False) False) False) False) False) False) False) False) False) False) False) False) False) False) False) False) False)) False) False)
 False)
 False)
 False)
 False)
 (q49∧Z0 q5 (Za 10 [(10,10)] i q7 q7∧Z0 q5 (Z0 (decide (i≤i)) q48 False) False) False)) (by kernel_rfl) ?_
 conv=>zeta
 try simp only [Zg]
 try simp only [Zi]
 try simp only [Zh]
 try simp only [Zj]
 try simp only [Zk]
 try simp only [Ze]
 try simp only [Int.toNat_natCast,Nat.zero_add,true_and,and_true,Nat.le_refl]
 subst hL
 refine ⟨fun hc=> ?_,fun hc=> ?_⟩
 ·have hlt:i<X.L.length:=by omega
  rw [hx hlt]
  have hk:=hk hlt
  have hwr:i64.wrap ((i:Int)+1)=((i+1:Nat):Int):=by rw [w64 (by omega)];omega
  have hC:∀τ,Za 10 τ (i+1) (Z4 X.L) (ZW i (Z4 X.L) (YC x.c 0 70)):=fun τ=>Zn fun j hj=>by
   rcases Nat.lt_or_ge j i with h|h
   ·rw [Z4P h]
   ·have e:j=i:=by omega
    subst e
    rw [QK (Nat.le_refl _),Nat.sub_self]
    unfold Z4
    rw [hx hlt];rfl
  refine ⟨by omega,hlt,by omega,X,x,.a rfl,hn,hcap,hfd hlt,⟨hk.hash,hk.hash⟩,⟨hk.secret,hk.secret⟩,fun h=>absurd h (by simp),fun _=> ?_⟩
  repeat' apply And.intro
  all_goals first|omega|rfl|exact hwr|exact h1 hlt|exact hC _|exact Zn fun _ _=>rfl
 ·repeat' apply And.intro
  all_goals first|omega|rfl|exact h2 (by omega)|exact Zn fun _ _=>rfl
theorem Zd5 {own:Bool} {id:Int} {L:List Z5} {i:Nat} (hi:i<L.length) (h:isP own id (L.getD i Z7)):ZB own id L≤i:=by
 obtain ⟨h1,_,_⟩:=VF (own:=own) (id:=id) (L:=L)
 rcases Nat.lt_or_ge i (ZB own id L) with q|q
 ·exact absurd h (h1 i q)
 ·exact q
theorem Zfn {L:List Z5} (hl:L.Pairwise WD) {i:Nat} (hi:i<L.length):fdH L (L.getD i Z7).own (L.getD i Z7).id=(L.getD i Z7,true):=by
 have h0:isP (L.getD i Z7).own (L.getD i Z7).id (L.getD i Z7):=⟨rfl,rfl⟩
 have hle:=Zd5 hi h0
 obtain ⟨_,h2,_⟩:=VF (own:=(L.getD i Z7).own) (id:=(L.getD i Z7).id) (L:=L)
 have hlt:ZB (L.getD i Z7).own (L.getD i Z7).id L<L.length:=by omega
 have he:=h2 hlt
 have:ZB (L.getD i Z7).own (L.getD i Z7).id L=i:=by
  rcases Nat.lt_or_ge (ZB (L.getD i Z7).own (L.getD i Z7).id L) i with q|q
  ·have hp:=(List.pairwise_iff_getElem.1 hl) _ i hlt hi q
   generalize ZB (L.getD i Z7).own (L.getD i Z7).id L=j at*
   have e1:L[j].own=L[i].own:=by have:=he.1;simpa [List.getD_eq_getElem?_getD,List.getElem?_eq_getElem hlt,List.getElem?_eq_getElem hi] using this
   have e2:L[j].id=L[i].id:=by have:=he.2;simpa [List.getD_eq_getElem?_getD,List.getElem?_eq_getElem hlt,List.getElem?_eq_getElem hi] using this
   unfold WD Wl at hp
   rw [e1,e2] at hp
   omega
  ·omega
 unfold fdH
 rw [this,if_pos hi]
def ZkS (X:Z6) (n:Nat):Prop:=X.Inv Zo∧X.L.length=n
noncomputable def Zgi (W:Int→List Int) (X:Z6) (n:Nat) (C:Prop):Zf:=(ZhA W).withL 108 0 (goM 10 (Zfm X 0) C (Ys 0 n 9 (fun i=>i<n) (fun i=>i=n) (fun _=>False) (fun _=>False) (Zjn X) (fun _=>Zfl) (fun _=>Zfl)))
theorem Zd6 (X:Z6) (n:Nat):(Zgi ZX X n (ZkS X n)).Ok:=
 Zf.withGoM (N:=20) (S:=Zfm X) Zfk (by kernel_rfl) fun hC=>⟨rfl,fun i hi _=>by
  obtain ⟨hI,hL⟩:=hC
  exact ZkR X n i (X.L.getD i Z7) ZX _ _ (by have:=hI.len;omega) hL hi (Yj hI.tb) (fun _=>rfl) (fun h=>hI.ok _ (Zz (by omega))) (fun h=>Zfn hI.less (by omega)) (fun h=>⟨h,h⟩) (fun h=>h)⟩
theorem ZkT (X:Z6) (n:Nat) (W:Int→List Int) (C:Prop) (hC:C) (hI:X.Inv Zo) (hn:X.L.length=n) (hf:X.t.fund.length=32):
  evF (Zgi W X n C) 20 15 [XW X,Z0v X] ⟨0,[]⟩ (Y8 fun v=>v=.bool true):=by
 refine @Eq.mpr _ (let q1:=List.length X.L;
 let q2:=Z4 X.L;
 let q3:=AV.vrows 70 q1 q2 q1;
 let q4:=Z6.c X q3;
 let q5:=q1<1000000;
 let q6:=decide (q1=q1);
 let q7:=(↑q1:Int);
 let q8:=X.t;
 let q9:=q8.fund;
 let q10:=q9=q9;
 let q11:=q8.index;
 let q12:=decide (q11=q11);
 let q13:=q8.cap;
 let q14:=decide (q13=q13);
 let q15:=q8.dust;
 let q16:=decide (q15=q15);
 let q17:=q8.fee;
 let q18:=decide (q17=q17);
 let q19:=q8.delay;
 let q20:=decide (q19=q19);
 let q21:=q8.k0;
 let q22:=q21=q21;
 let q23:=q8.k1;
 let q24:=q23=q23;
 let q25:=X.side;
 let q26:=decide (q25=q25);
 let q27:=X.res;
 let q28:=decide (q27=q27);
 let q29:=[X.a0,X.a1];
 let q30:=q29=q29;
 let q31:=X.i0;
 let q32:=X.i1;
 let q33:=[q31,q32];
 let q34:=q33=q33;
 let q35:=q2=q2;
 let q36:=AV.bool false=AV.bool true;
 ∃(X_1:Z6),
 LV q4 X_1∧
 X_1.t.cap≠0∧
 ∃(L:List Z5),
 q1=q1∧
 q2=Z4 L∧
 q5∧
 ∃(X_2:Z6),
 LV q4 X_2∧
 X_2.t.cap≠0∧
 ∃(L_1:List Z5),
 q1=q1∧
 q2=Z4 L_1∧
 q5∧
 Z0 q6
 (Z0 (decide (q1≤q1))
 (Z0 (decide (q7=q7))
 ((LoopState.ready=LoopState.ready∧(none:Option Code)=none∧(15:FuncId)=15∧(102:Nat)=102∧[(14:Nat)]=[(14:Nat)]∧UF=UF∧UG=UG)∧
 Z0 q6
 (Za 10 [] q1 q2 (Z4 L_1)∧
 q10∧
 Z0 q12
 (Z0 q14
 (Z0 q16
 (Z0 q18
 (Z0 q20
 (q22∧
 q24∧
 Z0 q26
 (Z0 q28
 (q30∧
 q34∧
 Z0 q6
 (q35∧
 Z0 q6
 (q4=q4∧
 C∧
 ∀(i:Nat),
 i≤n→
 (∀(j:Nat),j<i→(fun (i:Nat)=>i<n) j)→
 (i=n→
 Z0 (decide (0+i≤i))
 ((∀(i_1:Nat),i_1<i→true=true)∧
 ∃(A:List Z5),
 (i=List.length A∧i=i∧q1=i∧q1=i)∧
 (ZK 0 q2=Z4 A∧q2=Z4 A)∧
 i<1000∧
 (∀(h:Z5),List.Mem h A→Z5.Ok h)∧
 ∃(X_3:Z6),
 LV q4 X_3∧
 X_3.t.cap≠0∧
 q30∧
 Z0 (q29==q29)
 (∃(X_4:Z6),
 LV q4 X_4∧
 Z6.Inv Zo X_4∧
 ∃(X_5:Z6),
 let q73:=[AV.arr u8 32 q9,AV.int i64 q11,AV.int i64 q13,AV.int i64 q15,AV.int i64 q17,AV.int i64 q19,AV.arr u8 32 q21,AV.arr u8 32 q23,AV.int i64 q25,AV.int i64 q27,AV.arr i64 2 q29,AV.arr i64 2 q33,q3];
 LV q73 X_5∧
 Z6.Inv Zo X_5∧
 Z0 (leftV X_4 0==leftV X_5 0)
 (∃(X_6:Z6),
 LV q4 X_6∧
 Z6.Inv Zo X_6∧
 ∃(X_7:Z6),
 LV q73 X_7∧
 Z6.Inv Zo X_7∧
 Z0 (leftV X_6 1==leftV X_7 1)
 (∃(X_8:Z6),
 LV q4 X_8∧
 Z6.Inv Zo X_8∧
 ∃(X_9:Z6),
 LV q4 X_9∧
 Z6.Inv Zo X_9∧
 ∃(X_10:Z6),
 LV q4 X_10∧
 X_10.t.cap≠0∧
 Z0 (decide (q31=q31))
 (Z0 (q31==q31)
 (∃(X_11:Z6),
 LV q4 X_11∧
 X_11.t.cap≠0∧
 Z0 (decide (q32=q32))
 (Z0 (q32==q32)
 (∃(X_12:Z6),
 LV q4 X_12∧
 Z6.Inv Zo X_12∧
 ∃(X_13:Z6),
 LV q73 X_13∧
 Z6.Inv Zo X_13∧
 Z0 (Wa X_12.L==Wa X_13.L)
 (∃(X_14:Z6),
 let q75:=List.length (Vp W X_14);
 let q76:=decide (u8=u8∧0+q75≤q75);
 let q77:=strOf (List.take q75 (Xc 0 (Vp W X_14)));
 LV q4 X_14∧
 Z6.Inv Zo X_14∧
 List.length X_14.t.fund=32∧
 q10∧
 Z0 q12
 (Z0 q14
 (Z0 q16
 (Z0 q18
 (Z0 q20
 (q22∧
 q24∧
 Z0 q26
 (Z0 q28
 (q30∧
 q34∧
 Z0 q6
 (q35∧
 Z0 q6
 (Z0 q76
 (∃(X_15:Z6),
 let q81:=List.length (Vp W X_15);
 LV q73 X_15∧Z6.Inv Zo X_15∧List.length X_15.t.fund=32∧Z0 q76 (q77=q77∧Z0 (decide (u8=u8∧0+q81≤q81)) (AV.bool (ByteArray.toList q77==ByteArray.toList (strOf (List.take q81 (Xc 0 (Vp W X_15)))))=AV.bool true) False) False)
 False)
 False)
 False)
 False)
 False)
 False)
 False)
 False)
 False)
 False)
 q36)
 q36)
 False)
 q36)
 False)
 q36)
 q36)
 q36)
 False)∧
 (False→False)∧(False→False))
 False)
 False)
 False)
 False)
 False)
 False)
 False)
 False)
 False)
 False)
 False)
 False)
 False) (by kernel_rfl) ?_
 conv=>zeta
 try simp only [Zg]
 try simp only [Zi]
 try simp only [Zh]
 try simp only [Zj]
 try simp only [Zk]
 try simp only [Ze]
 try simp only [Int.toNat_natCast,Nat.zero_add,true_and,and_true,Nat.le_refl]
 subst hn
 have hcap:=Yj hI.tb
 have hlen:=hI.am.n
 refine ⟨X,.a rfl,hcap,X.L,rfl,by omega,X,.a rfl,hcap,X.L,rfl,by omega,Zn fun _ _=>rfl,hC,fun i hi _=>⟨fun he=> ?_,fun h=>h.elim,fun h=>h.elim⟩⟩
 subst he
 refine ⟨fun _ _=>trivial,X.L,⟨rfl,rfl,rfl⟩,⟨rfl,rfl⟩,hlen,hI.ok,X,.a rfl,hcap, ?_⟩
 repeat' first
  | exact hI
  | exact hcap
  | exact hf
  | (intro h;simp at h;done)
  | intro _
  | refine Exists.intro X (And.intro (.a rfl) ?_)
  | apply And.intro
  | rfl
  | omega
  | exact congrArg AV.bool (beq_self_eq_true _)
def Zjo:ZN:=fun args h K=>ZO none h true 20 args fun a=>match a with
 | [.pview cs 0,.agg ws]=>∃X,LV cs X∧LV ws X∧X.Inv Zo∧X.t.fund.length=32∧K (.bool true)
 | _=>False
theorem Zfo (args:List AV) (h:Z9) (K:AV→Prop) (hl:Zjo args h K):Zm PP 15 args h fun o h'=>∃v,o=.ret v∧h'=h∧K v:=by
 refine Zw.psumm (d:=20) (Zq _ _ _ _ _ hl fun a ha=> ?_)
 split at ha
 ·obtain ⟨X,hX,hW,hI,hf,hK⟩:=ha
  exact ⟨_,(Zw.evV (Zd6 X X.L.length) (ZkT X _ ZX _ ⟨hI,rfl⟩ hI rfl hf)).conv fun E r hr=>hr.head (fun _ hc=>Xr hX hc) fun _ hr=>hr.head (fun _ hc=>XX hW hc) fun _ hc=>hc,fun _=>rfl,hK⟩
 ·exact ha.elim
end Go.Tk
end
section
namespace Go.Tk
open IntKind (i64 u8 u32 u64 wrap)
structure Y0 where
 what:Int
 own:Bool
 off:Int
 amount:Int
 expiry:Int
 secret:List Int
 at':Int
 move:Int
 ours:Bool
 number:Int
def Y0.c (a:Y0):List AV:=[.int .i64 a.what,.bool a.own,.int .i64 a.off,.int .i64 a.amount,.int .i64 a.expiry,.arr .u8 32 a.secret,.int .i64 a.at',.int .i64 a.move,.bool a.ours,.int .i64 a.number]
structure Y0.Ok (a:Y0):Prop where
 secret:a.secret.length=32
 sb:Bytes a.secret
def Zgj (t:Int) (n:Nat):Nat:=(Int.tmod (Int.tmod t n+n) n).toNat
def Y6 (X:Z6) (a:Y0):Bool×Int:=if X.L.length=0∨a.at'=99 then (a.own,a.off) else ((X.L.getD (Zgj a.at' X.L.length) Z7).own,(X.L.getD (Zgj a.at' X.L.length) Z7).id)
theorem Zd7 {t:Int} {n:Nat} (hn:0<n):(0≤Int.tmod (Int.tmod t n+n) n∧Int.tmod (Int.tmod t n+n) n<n)∧ -(n:Int)<Int.tmod t n∧Int.tmod t n<n:=by
 have h1:=Int.tmod_lt_of_pos t (show (0:Int)<n by omega)
 have h2: -(n:Int)<Int.tmod t n:=by
  have:=Int.tmod_lt_of_pos (-t) (show (0:Int)<n by omega)
  rw [Int.neg_tmod] at this;omega
 have h3:=Int.tmod_lt_of_pos (Int.tmod t n+n) (show (0:Int)<n by omega)
 have h4:=Int.tmod_nonneg (n:Int) (show (0:Int)≤Int.tmod t n+n by omega)
 exact ⟨⟨h4,h3⟩,h2,h1⟩
theorem ZkU (X:Z6) (a:Y0) (o:Bool) (d:Int) (hn:X.L.length<1000) (ho:o=(Y6 X a).1) (hd:d=(Y6 X a).2):
  evF G0 20 36 [Z0v X,.agg a.c] ⟨0,[]⟩ (Y8 fun v=>v=.tuple [.bool o,.int .i64 d,.agg [.arr .u8 32 a.secret]]):=by
 refine @Eq.mpr _ (let q1:=↑(List.length X.L);
 let q2:=[AV.agg [AV.arr u8 32 a.secret]];
 let q3:=AV.tuple (AV.bool o::AV.int i64 d::q2);
 let q4:=AV.tuple (AV.bool a.own::AV.int i64 a.off::q2)=q3;
 let q5:=decide (q1≠0);
 let q6:=Int.tmod (wrap i64 (Int.tmod a.at' q1+q1)) q1;
 let q7:=List.getD X.L (Int.toNat q6) Z7;
 Z0 (q1==0) q4 (Z0 (a.at'==99) q4 (Z0 q5 (Z0 q5 (Z0 (decide (0≤q6∧q6<q1)) (AV.tuple (AV.bool q7.own::AV.int i64 q7.id::q2)=q3) False) False) False))) (by kernel_rfl) ?_
 conv=>zeta
 try simp only [Zg]
 try simp only [Zi]
 try simp only [Zh]
 try simp only [Zj]
 try simp only [Zk]
 try simp only [Ze]
 try simp only [Int.toNat_natCast,Nat.zero_add,true_and,and_true,Nat.le_refl]
 subst ho hd
 unfold Y6
 refine ⟨fun h=> ?_,fun h=>⟨fun h9=> ?_,fun h9=> ?_⟩⟩
 ·have h:X.L.length=0:=by simpa using h
  rw [if_pos (.inl h)]
 ·rw [if_pos (.inr (by simpa using h9))]
 ·have h:¬X.L.length=0:=by simpa using h
  have h9:¬a.at'=99:=by simpa using h9
  obtain ⟨p1,p2⟩:=Zd7 (t:=a.at') (n:=X.L.length) (by omega)
  rw [w64 (x:=Int.tmod a.at' X.L.length+X.L.length) (by omega),if_neg (fun q=>q.elim h h9)]
  exact ⟨by omega,by omega,p1,rfl⟩
def Zgk:ZN:=fun args h K=>ZO none h true 20 args fun a=>match a with
 | [.agg cs,.agg [.int .i64 w,.bool ow,.int .i64 of,.int .i64 am,.int .i64 ex,.arr .u8 32 se,.int .i64 at',.int .i64 mo,.bool ou,.int .i64 nu]]=>∃X,LV cs X∧X.L.length<1000∧K (.tuple [.bool (Y6 X ⟨w,ow,of,am,ex,se,at',mo,ou,nu⟩).1,.int .i64 (Y6 X ⟨w,ow,of,am,ex,se,at',mo,ou,nu⟩).2,.agg [.arr .u8 32 se]])
 | _=>False
theorem Zd8 (args:List AV) (h:Z9) (K:AV→Prop) (hl:Zgk args h K):Zm PP 36 args h fun o h'=>∃v,o=.ret v∧h'=h∧K v:=by
 refine Zw.psumm (d:=20) (Zq _ _ _ _ _ hl fun a ha=> ?_)
 split at ha
 ·rename_i cs w ow of am ex se at' mo ou nu
  obtain ⟨X,hX,h1,hK⟩:=ha
  exact ⟨_,(Zw.evV Zr (ZkU X ⟨w,ow,of,am,ex,se,at',mo,ou,nu⟩ _ _ h1 rfl rfl)).conv fun E r hr=>hr.head (fun _ hc=>XX hX hc) fun _ hc=>hc,fun _=>rfl,hK⟩
 ·exact ha.elim
noncomputable def Z3m (H1:List Int→List Int) (B:Nat) (c:Bool):Zf:=(((((((((((((G0.withP 102 (ZbH H1 B)).withF 26 (Zhc Zo c)).withF 88 (Zhj c)).withF 27 (Zcn c)).withF 30 Z7O).withF 23 (Z55 c)).withF 34 (ZcM Zo c)).withF 103 (ZcP c)).withF 39 (Z7U c)).withF 41 Z58).withF 42 (Z32 c)).withP 40 Z59).withP 43 Z34).withP 36 Zgk
theorem Wm (c:Bool):(Z3m Wk 1000 c).Ok:=Zf.withP_ok (Zf.withP_ok (Zf.withP_ok (Zf.withF_ok (Zf.withF_ok (Zf.withF_ok (Zf.withF_ok (Zf.withF_ok (Zf.withF_ok (Zf.withF_ok (Zf.withF_ok (Zf.withF_ok (Zf.withF_ok (Zf.withP_ok Zr (Z5V fun xs h=>Z40 xs (by omega))) (Zet c)) (ZeB c)) (Zco c)) Za9) (Z2X c)) (ZcN c)) (ZcQ c)) (Zai c)) Z7V) (Z0U c)) Z33) Z0V) Zd8
def Z0y (X:Z6):Z9:=⟨3,[(0,.flat (X.c (slH 1 X.L.length))),(1,.rows 70 X.L.length (Z4 X.L)),(2,.rows 70 X.L.length (Z4 X.L))]⟩
theorem Zfp {X:Z6} (hI:X.Inv Zo) {m:Int} {h:Z5} (hh:h∈Yi m X.L):h.Ok:=by
 unfold Yi at hh
 obtain ⟨z,hz,rfl⟩:=List.mem_map.1 hh
 have:=hI.ok z (List.mem_filter.1 hz).1
 exact ⟨this.hash,this.hb,this.secret,this.sb⟩
theorem Zfq {X:Z6} (hI:X.Inv Zo) {m:Int} {h:Z5} (hh:h∈ZR m X.L):h.Ok:=by
 obtain ⟨z,hz,rfl⟩:=Qo hh
 have:=hI.ok z hz
 exact ⟨this.hash,this.hb,this.secret,this.sb⟩
def Z36 (X:Z6):List (Nat×Blk):=[(0,.flat (X.c (slH 1 X.L.length))),(1,.rows 70 X.L.length (Z4 X.L)),(2,.rows 70 X.L.length (Z4 X.L))]
def Zan (X Y:Z6):List (Nat×Blk):=[(0,.flat (Y.c (slH 3 Y.L.length))),(3,.rows 70 Y.L.length (Z4 Y.L)),(4,.rows 70 Y.L.length (Z4 Y.L)),(2,.rows 70 X.L.length (Z4 X.L))]
def WG (n:Int):Int:=max (-1099511627776) (min 1099511627776 n)
def idA (X:Z6) (a:Y0):Int:=X.nx a.own+WG a.off
theorem Zjp (X Y:Z6) (a:Y0) (H1:List Int→List Int) (B:Nat) (hs:List Int) (hI:X.Inv Zo) (ha:a.Ok) (hB:32≤B) (hh:H1 a.secret=hs) (hl:hs.length=32) (hY:Y=addX X a.own (idA X a) a.amount hs a.expiry) (he:Xp X a.own (idA X a) a.amount hs a.expiry=0):
  evF (Z3m H1 B true) 20 11 [.ptr (some ⟨0,0,0,0,0⟩),.agg (X.c (slH 2 X.L.length)),.agg (.int .i64 0::a.c.tail)] (Z0y X) (Y7 3 (.ret (.tuple [.agg (Y.c (slH 4 Y.L.length)),.bool true])) 5 (Zan X Y)):=by
 refine @Eq.mpr _ (let q1:=a.own;
 let q2:=List.length a.secret;
 let q3:=decide (q2=32);
 let q4:=decide (32=q2);
 let q5:=decide (q2≤B);
 let q6:=a.expiry;
 let q7:=decide (q6=q6);
 let q8:=a.amount;
 let q9:=decide (q8=q8);
 let q10:=decide (q1=q1);
 let q11:=X.t;
 let q12:=q11.fund;
 let q13:=q12=q12;
 let q14:=q11.index;
 let q15:=decide (q14=q14);
 let q16:=q11.cap;
 let q17:=decide (q16=q16);
 let q18:=q11.dust;
 let q19:=decide (q18=q18);
 let q20:=q11.fee;
 let q21:=decide (q20=q20);
 let q22:=q11.delay;
 let q23:=decide (q22=q22);
 let q24:=q11.k0;
 let q25:=q24=q24;
 let q26:=q11.k1;
 let q27:=q26=q26;
 let q28:=X.side;
 let q29:=decide (q28=q28);
 let q30:=X.res;
 let q31:=decide (q30=q30);
 let q32:=[X.a0,X.a1];
 let q33:=q32=q32;
 let q34:=[X.i0,X.i1];
 let q35:=q34=q34;
 let q36:=List.length X.L;
 let q37:=decide (q36=q36);
 let q38:=AV.arr u8 32 q12;
 let q39:=AV.int i64 q14;
 let q40:=AV.int i64 q16;
 let q41:=AV.int i64 q18;
 let q42:=AV.int i64 q20;
 let q43:=AV.int i64 q22;
 let q44:=AV.arr u8 32 q24;
 let q45:=AV.arr u8 32 q26;
 let q46:=AV.int i64 q28;
 let q47:=AV.int i64 q30;
 let q48:=AV.arr i64 2 q32;
 let q49:=AV.arr i64 2 q34;
 let q50:=Z4 X.L;
 let q51:=if a.off<1099511627776 then a.off else 1099511627776;
 let q52:=if q51> -1099511627776 then q51 else -1099511627776;
 let q53:=wrap i64 (X.i0+q52);
 let q54:=H1 a.secret;
 let q55:=Y.t;
 let q56:=q55.fund;
 let q57:=q55.index;
 let q58:=q55.cap;
 let q59:=q55.dust;
 let q60:=q55.fee;
 let q61:=q55.delay;
 let q62:=q55.k0;
 let q63:=q55.k1;
 let q64:=Y.side;
 let q65:=Y.res;
 let q66:=[Y.a0,Y.a1];
 let q67:=[Y.i0,Y.i1];
 let q68:=List.length Y.L;
 let q69:=[(3,12),(4,8)];
 let q70:=Z4 Y.L;
 let q71:=wrap i64 (X.i1+q52);
 Z0 q1
 (Z0 q3
 (Z0 q4
 (Z0 q5
 (Z0 q7
 (Z0 q9
 (Z0 q10
 (q13∧
 Z0 q15
 (Z0 q17
 (Z0 q19
 (Z0 q21
 (Z0 q23
 (q25∧
 q27∧
 Z0 q29
 (Z0 q31
 (q33∧
 q35∧
 Z0 q37
 (Z0 q37
 ((∀(i:Nat),i<q36→true=true)∧
 ∃(X_1:Z6),
 let q143:=addX X_1 q1 q53 q8 q54 q6;
 let q144:=q143.t;
 let q145:=q144.fund;
 let q146:=q145=q145;
 let q147:=q144.index;
 let q148:=decide (q147=q147);
 let q149:=q144.cap;
 let q150:=decide (q149=q149);
 let q151:=q144.dust;
 let q152:=decide (q151=q151);
 let q153:=q144.fee;
 let q154:=decide (q153=q153);
 let q155:=q144.delay;
 let q156:=decide (q155=q155);
 let q157:=q144.k0;
 let q158:=q157=q157;
 let q159:=q144.k1;
 let q160:=q159=q159;
 let q161:=q143.side;
 let q162:=decide (q161=q161);
 let q163:=q143.res;
 let q164:=decide (q163=q163);
 let q165:=[q143.a0,q143.a1];
 let q166:=q165=q165;
 let q167:=[q143.i0,q143.i1];
 let q168:=q167=q167;
 let q169:=List.length X_1.L;
 let q170:=q169+1;
 let q171:=decide (q170=q170);
 let q172:=decide (q170=q68);
 LD [q38,q39,q40,q41,q42,q43,q44,q45,q46,q47,q48,q49,AV.nslice (ZE.mk 0 0 70 0 0) 70 q36 q36] q36 q50 X_1∧
 Z6.Inv Zo X_1∧
 Xp X_1 q1 q53 q8 q54 q6=0∧
 Z0 q3
 (Z0 q4
 (Z0 q5
 (Z0 q7
 (Z0 q9
 (Z0 q10
 (q146∧
 Z0 q148
 (Z0 q150
 (Z0 q152
 (Z0 q154
 (Z0 q156
 (q158∧
 q160∧
 Z0 q162
 (Z0 q164
 (q166∧
 q168∧
 Z0 q171
 (Z0 q171
 ((∀(i:Nat),i<q36→true=true)∧
 ∃(X_2:Z6),
 let q203:=addX X_2 q1 q53 q8 q54 q6;
 let q204:=q203.t;
 let q205:=List.length X_2.L+1;
 let q206:=decide (q205=q68);
 LB [q38,q39,q40,q41,q42,q43,q44,q45,q46,q47,q48,q49,AV.nslice (ZE.mk 1 0 70 0 0) 70 q36 q36] q36 q50 X_2∧
 Z6.Inv Zo X_2∧
 Xp X_2 q1 q53 q8 q54 q6=0∧
 q146∧
 Z0 q148
 (Z0 q150
 (Z0 q152
 (Z0 q154
 (Z0 q156
 (q158∧
 q160∧
 Z0 q162
 (Z0 q164
 (q166∧
 q168∧
 Z0 q171
 (Z0 q171
 (q146∧
 Z0 q148
 (Z0 q150
 (Z0 q152
 (Z0 q154
 (Z0 q156
 (q158∧
 q160∧
 Z0 q162
 (Z0 q164
 (q166∧
 q168∧
 Z0 q171
 (Z0 q171 (q145=q56∧Z0 (decide (q147=q57)) (Z0 (decide (q149=q58)) (Z0 (decide (q151=q59)) (Z0 (decide (q153=q60)) (Z0 (decide (q155=q61)) (q157=q62∧q159=q63∧Z0 (decide (q161=q64)) (Z0 (decide (q163=q65)) (q165=q66∧q167=q67∧Z0 q172 (Z0 (decide (q68≤q170)) (q204.fund=q56∧Z0 (decide (q204.index=q57)) (Z0 (decide (q204.cap=q58)) (Z0 (decide (q204.dust=q59)) (Z0 (decide (q204.fee=q60)) (Z0 (decide (q204.delay=q61)) (q204.k0=q62∧q204.k1=q63∧Z0 (decide (q203.side=q64)) (Z0 (decide (q203.res=q65)) ([q203.a0,q203.a1]=q66∧[q203.i0,q203.i1]=q67∧Z0 q206 (Z0 (decide (q68≤q205)) (Z0 q206 (Za 3 q69 q68 q70 (Z4 q203.L)∧Z0 q172 (Za 3 q69 q68 q70 (Z4 q143.L)∧Z0 (decide (q169=q36)) (Za 3 q69 q36 q50 (Z4 X_1.L)∧True) False) False) False) False) False) False) False) False) False) False) False) False) False) False) False) False) False) False) False) False) False)
 False)
 False)
 False)
 False)
 False)
 False)
 False)
 False)
 False)
 False)
 False)
 False)
 False)
 False)
 False)
 False)
 False)
 False)
 False)
 False)
 False)
 False)
 False)
 False)
 False)
 False)
 False)
 False)
 False)
 False)
 False)
 False)
 False)
 False)
 False)
 False)
 False)
 False)
 False)
 False)
 False)
 False)
 False)
 False)
 False)
 False)
 False)
 False)
 (Z0 q3
 (Z0 q4
 (Z0 q5
 (Z0 q7
 (Z0 q9
 (Z0 q10
 (q13∧
 Z0 q15
 (Z0 q17
 (Z0 q19
 (Z0 q21
 (Z0 q23
 (q25∧
 q27∧
 Z0 q29
 (Z0 q31
 (q33∧
 q35∧
 Z0 q37
 (Z0 q37
 ((∀(i:Nat),i<q36→true=true)∧
 ∃(X_1:Z6),
 let q143:=addX X_1 q1 q71 q8 q54 q6;
 let q144:=q143.t;
 let q145:=q144.fund;
 let q146:=q145=q145;
 let q147:=q144.index;
 let q148:=decide (q147=q147);
 let q149:=q144.cap;
 let q150:=decide (q149=q149);
 let q151:=q144.dust;
 let q152:=decide (q151=q151);
 let q153:=q144.fee;
 let q154:=decide (q153=q153);
 let q155:=q144.delay;
 let q156:=decide (q155=q155);
 let q157:=q144.k0;
 let q158:=q157=q157;
 let q159:=q144.k1;
 let q160:=q159=q159;
 let q161:=q143.side;
 let q162:=decide (q161=q161);
 let q163:=q143.res;
 let q164:=decide (q163=q163);
 let q165:=[q143.a0,q143.a1];
 let q166:=q165=q165;
 let q167:=[q143.i0,q143.i1];
 let q168:=q167=q167;
 let q169:=List.length X_1.L;
 let q170:=q169+1;
 let q171:=decide (q170=q170);
 let q172:=decide (q170=q68);
 LD [q38,q39,q40,q41,q42,q43,q44,q45,q46,q47,q48,q49,AV.nslice (ZE.mk 0 0 70 0 0) 70 q36 q36] q36 q50 X_1∧
 Z6.Inv Zo X_1∧
 Xp X_1 q1 q71 q8 q54 q6=0∧
 Z0 q3
 (Z0 q4
 (Z0 q5
 (Z0 q7
 (Z0 q9
 (Z0 q10
 (q146∧
 Z0 q148
 (Z0 q150
 (Z0 q152
 (Z0 q154
 (Z0 q156
 (q158∧
 q160∧
 Z0 q162
 (Z0 q164
 (q166∧
 q168∧
 Z0 q171
 (Z0 q171
 ((∀(i:Nat),i<q36→true=true)∧
 ∃(X_2:Z6),
 let q203:=addX X_2 q1 q71 q8 q54 q6;
 let q204:=q203.t;
 let q205:=List.length X_2.L+1;
 let q206:=decide (q205=q68);
 LB [q38,q39,q40,q41,q42,q43,q44,q45,q46,q47,q48,q49,AV.nslice (ZE.mk 1 0 70 0 0) 70 q36 q36] q36 q50 X_2∧
 Z6.Inv Zo X_2∧
 Xp X_2 q1 q71 q8 q54 q6=0∧
 q146∧
 Z0 q148
 (Z0 q150
 (Z0 q152
 (Z0 q154
 (Z0 q156
 (q158∧
 q160∧
 Z0 q162
 (Z0 q164
 (q166∧
 q168∧
 Z0 q171
 (Z0 q171
 (q146∧
 Z0 q148
 (Z0 q150
 (Z0 q152
 (Z0 q154
 (Z0 q156
 (q158∧
 q160∧
 Z0 q162
 (Z0 q164
 (q166∧
 q168∧
 Z0 q171
 (Z0 q171 (q145=q56∧Z0 (decide (q147=q57)) (Z0 (decide (q149=q58)) (Z0 (decide (q151=q59)) (Z0 (decide (q153=q60)) (Z0 (decide (q155=q61)) (q157=q62∧q159=q63∧Z0 (decide (q161=q64)) (Z0 (decide (q163=q65)) (q165=q66∧q167=q67∧Z0 q172 (Z0 (decide (q68≤q170)) (q204.fund=q56∧Z0 (decide (q204.index=q57)) (Z0 (decide (q204.cap=q58)) (Z0 (decide (q204.dust=q59)) (Z0 (decide (q204.fee=q60)) (Z0 (decide (q204.delay=q61)) (q204.k0=q62∧q204.k1=q63∧Z0 (decide (q203.side=q64)) (Z0 (decide (q203.res=q65)) ([q203.a0,q203.a1]=q66∧[q203.i0,q203.i1]=q67∧Z0 q206 (Z0 (decide (q68≤q205)) (Z0 q206 (Za 3 q69 q68 q70 (Z4 q203.L)∧Z0 q172 (Za 3 q69 q68 q70 (Z4 q143.L)∧Z0 (decide (q169=q36)) (Za 3 q69 q36 q50 (Z4 X_1.L)∧True) False) False) False) False) False) False) False) False) False) False) False) False) False) False) False) False) False) False) False) False) False)
 False)
 False)
 False)
 False)
 False)
 False)
 False)
 False)
 False)
 False)
 False)
 False)
 False)
 False)
 False)
 False)
 False)
 False)
 False)
 False)
 False)
 False)
 False)
 False)
 False)
 False)
 False)
 False)
 False)
 False)
 False)
 False)
 False)
 False)
 False)
 False)
 False)
 False)
 False)
 False)
 False)
 False)
 False)
 False)
 False)
 False)
 False)
 False)) (by kernel_rfl) ?_
 conv=>zeta
 try simp only [Zg]
 try simp only [Zi]
 try simp only [Zh]
 try simp only [Zj]
 try simp only [Zk]
 try simp only [Ze]
 try simp only [Int.toNat_natCast,Nat.zero_add,true_and,and_true,Nat.le_refl]
 have hsb:a.secret.length≤B:=by rw [ha.secret];exact hB
 have hc:(if (if a.off<1099511627776 then a.off else 1099511627776)> -1099511627776 then (if a.off<1099511627776 then a.off else 1099511627776) else -1099511627776)=WG a.off:=by
  unfold WG
  split<;>split<;>omega
 have hcb: -1099511627776≤WG a.off∧WG a.off≤1099511627776:=by unfold WG;omega
 have h0:=hI.i0
 have h1:=hI.i1
 rw [hc,hh]
 refine ⟨fun ho=> ?_,fun ho=> ?_⟩
 ·have hw:i64.wrap (X.i0+WG a.off)=idA X a:=by
   rw [w64 (by omega)];unfold idA;rw [ho];rfl
  rw [hw]
  subst hY
  have hl2:(addX X a.own (idA X a) a.amount hs a.expiry).L.length=X.L.length+1:=by
   unfold addX;rw [if_pos he];exact Z2J _ _
  rw [hl2]
  repeat' first
   | exact hI
   | exact he
   | exact ha.secret
   | exact hsb
   | exact beq_self_eq_true _
   | exact ha.secret.symm
   | (intro _ _;trivial)
   | refine Exists.intro X (And.intro ⟨rfl,rfl,rfl⟩ ?_)
   | apply And.intro
   | rfl
   | omega
   | exact Zn fun _ _=>rfl
 ·have hw:i64.wrap (X.i1+WG a.off)=idA X a:=by
   rw [w64 (by omega)];unfold idA;rw [ho];rfl
  rw [hw]
  subst hY
  have hl2:(addX X a.own (idA X a) a.amount hs a.expiry).L.length=X.L.length+1:=by
   unfold addX;rw [if_pos he];exact Z2J _ _
  rw [hl2]
  repeat' first
   | exact hI
   | exact he
   | exact ha.secret
   | exact hsb
   | exact beq_self_eq_true _
   | exact ha.secret.symm
   | (intro _ _;trivial)
   | refine Exists.intro X (And.intro ⟨rfl,rfl,rfl⟩ ?_)
   | apply And.intro
   | rfl
   | omega
   | exact Zn fun _ _=>rfl
theorem Zjq (X:Z6) (a:Y0) (H1:List Int→List Int) (B:Nat) (hs:List Int) (hI:X.Inv Zo) (ha:a.Ok) (hB:32≤B) (hh:H1 a.secret=hs) (hl:hs.length=32) (he:Xp X a.own (idA X a) a.amount hs a.expiry≠0):
  evF (Z3m H1 B false) 20 11 [.ptr (some ⟨0,0,0,0,0⟩),.agg (X.c (slH 2 X.L.length)),.agg (.int .i64 0::a.c.tail)] (Z0y X) (Y7 3 (.ret (.tuple [.agg (X.c (slH 2 X.L.length)),.bool true])) 3 (Z36 X)):=by
 refine @Eq.mpr _ (let q1:=a.own;
 let q2:=List.length a.secret;
 let q3:=decide (q2=32);
 let q4:=decide (32=q2);
 let q5:=decide (q2≤B);
 let q6:=a.expiry;
 let q7:=decide (q6=q6);
 let q8:=a.amount;
 let q9:=decide (q8=q8);
 let q10:=decide (q1=q1);
 let q11:=X.t;
 let q12:=q11.fund;
 let q13:=q12=q12;
 let q14:=q11.index;
 let q15:=decide (q14=q14);
 let q16:=q11.cap;
 let q17:=decide (q16=q16);
 let q18:=q11.dust;
 let q19:=decide (q18=q18);
 let q20:=q11.fee;
 let q21:=decide (q20=q20);
 let q22:=q11.delay;
 let q23:=decide (q22=q22);
 let q24:=q11.k0;
 let q25:=q24=q24;
 let q26:=q11.k1;
 let q27:=q26=q26;
 let q28:=X.side;
 let q29:=decide (q28=q28);
 let q30:=X.res;
 let q31:=decide (q30=q30);
 let q32:=[X.a0,X.a1];
 let q33:=q32=q32;
 let q34:=[X.i0,X.i1];
 let q35:=q34=q34;
 let q36:=List.length X.L;
 let q37:=decide (q36=q36);
 let q38:=AV.arr u8 32 q12;
 let q39:=AV.int i64 q14;
 let q40:=AV.int i64 q16;
 let q41:=AV.int i64 q18;
 let q42:=AV.int i64 q20;
 let q43:=AV.int i64 q22;
 let q44:=AV.arr u8 32 q24;
 let q45:=AV.arr u8 32 q26;
 let q46:=AV.int i64 q28;
 let q47:=AV.int i64 q30;
 let q48:=AV.arr i64 2 q32;
 let q49:=AV.arr i64 2 q34;
 let q50:=Z4 X.L;
 let q51:=if a.off<1099511627776 then a.off else 1099511627776;
 let q52:=if q51> -1099511627776 then q51 else -1099511627776;
 let q53:=wrap i64 (X.i0+q52);
 let q54:=H1 a.secret;
 let q55:=wrap i64 (X.i1+q52);
 Z0 q1
 (Z0 q3
 (Z0 q4
 (Z0 q5
 (Z0 q7
 (Z0 q9
 (Z0 q10
 (q13∧
 Z0 q15
 (Z0 q17
 (Z0 q19
 (Z0 q21
 (Z0 q23
 (q25∧
 q27∧
 Z0 q29
 (Z0 q31
 (q33∧
 q35∧
 Z0 q37
 (Z0 q37
 ((∀(i:Nat),i<q36→true=true)∧
 ∃(X_1:Z6),
 let q111:=Xp X_1 q1 q53 q8 q54 q6;
 let q112:=X_1.t;
 let q113:=q112.fund;
 let q114:=q113=q113;
 let q115:=q112.index;
 let q116:=decide (q115=q115);
 let q117:=q112.cap;
 let q118:=decide (q117=q117);
 let q119:=q112.dust;
 let q120:=decide (q119=q119);
 let q121:=q112.fee;
 let q122:=decide (q121=q121);
 let q123:=q112.delay;
 let q124:=decide (q123=q123);
 let q125:=q112.k0;
 let q126:=q125=q125;
 let q127:=q112.k1;
 let q128:=q127=q127;
 let q129:=X_1.side;
 let q130:=decide (q129=q129);
 let q131:=X_1.res;
 let q132:=decide (q131=q131);
 let q133:=[X_1.a0,X_1.a1];
 let q134:=q133=q133;
 let q135:=[X_1.i0,X_1.i1];
 let q136:=q135=q135;
 let q137:=List.length X_1.L;
 let q138:=decide (q137=q137);
 let q139:=decide (q137=q36);
 LD [q38,q39,q40,q41,q42,q43,q44,q45,q46,q47,q48,q49,AV.nslice (ZE.mk 0 0 70 0 0) 70 q36 q36] q36 q50 X_1∧
 Z6.Inv Zo X_1∧
 q111≠0∧
 Z0 q3
 (Z0 q4
 (Z0 q5
 (Z0 q7
 (Z0 q9
 (Z0 q10
 (q114∧
 Z0 q116
 (Z0 q118
 (Z0 q120
 (Z0 q122
 (Z0 q124
 (q126∧
 q128∧
 Z0 q130
 (Z0 q132
 (q134∧
 q136∧
 Z0 q138
 (Z0 q138
 ((∀(i:Nat),i<q36→true=true)∧
 ∃(X_2:Z6),
 let q169:=Xp X_2 q1 q53 q8 q54 q6;
 let q170:=X_2.t;
 let q171:=List.length X_2.L;
 let q172:=decide (q171=q36);
 LB [q38,q39,q40,q41,q42,q43,q44,q45,q46,q47,q48,q49,AV.nslice (ZE.mk 1 0 70 0 0) 70 q36 q36] q36 q50 X_2∧
 Z6.Inv Zo X_2∧
 q169≠0∧
 q114∧
 Z0 q116
 (Z0 q118
 (Z0 q120
 (Z0 q122
 (Z0 q124
 (q126∧
 q128∧
 Z0 q130
 (Z0 q132
 (q134∧
 q136∧
 Z0 q138
 (Z0 q138
 (q114∧
 Z0 q116
 (Z0 q118
 (Z0 q120
 (Z0 q122
 (Z0 q124
 (q126∧
 q128∧
 Z0 q130
 (Z0 q132
 (q134∧
 q136∧Z0 q138 (Z0 q138 (q113=q12∧Z0 (decide (q115=q14)) (Z0 (decide (q117=q16)) (Z0 (decide (q119=q18)) (Z0 (decide (q121=q20)) (Z0 (decide (q123=q22)) (q125=q24∧q127=q26∧Z0 (decide (q129=q28)) (Z0 (decide (q131=q30)) (q133=q32∧q135=q34∧Z0 q139 (Z0 (decide (q36≤q137)) (Z0 (decide ((q169==q111)=true)) (q170.fund=q12∧Z0 (decide (q170.index=q14)) (Z0 (decide (q170.cap=q16)) (Z0 (decide (q170.dust=q18)) (Z0 (decide (q170.fee=q20)) (Z0 (decide (q170.delay=q22)) (q170.k0=q24∧q170.k1=q26∧Z0 (decide (X_2.side=q28)) (Z0 (decide (X_2.res=q30)) ([X_2.a0,X_2.a1]=q32∧[X_2.i0,X_2.i1]=q34∧Z0 q172 (Z0 (decide (q36≤q171)) (Z0 q172 (Za 3 [] q36 q50 (Z4 X_2.L)∧Z0 q139 (Za 3 [] q36 q50 (Z4 X_1.L)∧True) False) False) False) False) False) False) False) False) False) False) False) False) False) False) False) False) False) False) False) False) False) False) False)
 False)
 False)
 False)
 False)
 False)
 False)
 False)
 False)
 False)
 False)
 False)
 False)
 False)
 False)
 False)
 False)
 False)
 False)
 False)
 False)
 False)
 False)
 False)
 False)
 False)
 False)
 False)
 False)
 False)
 False)
 False)
 False)
 False)
 False)
 False)
 False)
 False)
 False)
 False)
 False)
 False)
 False)
 False)
 False)
 False)
 False)
 (Z0 q3
 (Z0 q4
 (Z0 q5
 (Z0 q7
 (Z0 q9
 (Z0 q10
 (q13∧
 Z0 q15
 (Z0 q17
 (Z0 q19
 (Z0 q21
 (Z0 q23
 (q25∧
 q27∧
 Z0 q29
 (Z0 q31
 (q33∧
 q35∧
 Z0 q37
 (Z0 q37
 ((∀(i:Nat),i<q36→true=true)∧
 ∃(X_1:Z6),
 let q111:=Xp X_1 q1 q55 q8 q54 q6;
 let q112:=X_1.t;
 let q113:=q112.fund;
 let q114:=q113=q113;
 let q115:=q112.index;
 let q116:=decide (q115=q115);
 let q117:=q112.cap;
 let q118:=decide (q117=q117);
 let q119:=q112.dust;
 let q120:=decide (q119=q119);
 let q121:=q112.fee;
 let q122:=decide (q121=q121);
 let q123:=q112.delay;
 let q124:=decide (q123=q123);
 let q125:=q112.k0;
 let q126:=q125=q125;
 let q127:=q112.k1;
 let q128:=q127=q127;
 let q129:=X_1.side;
 let q130:=decide (q129=q129);
 let q131:=X_1.res;
 let q132:=decide (q131=q131);
 let q133:=[X_1.a0,X_1.a1];
 let q134:=q133=q133;
 let q135:=[X_1.i0,X_1.i1];
 let q136:=q135=q135;
 let q137:=List.length X_1.L;
 let q138:=decide (q137=q137);
 let q139:=decide (q137=q36);
 LD [q38,q39,q40,q41,q42,q43,q44,q45,q46,q47,q48,q49,AV.nslice (ZE.mk 0 0 70 0 0) 70 q36 q36] q36 q50 X_1∧
 Z6.Inv Zo X_1∧
 q111≠0∧
 Z0 q3
 (Z0 q4
 (Z0 q5
 (Z0 q7
 (Z0 q9
 (Z0 q10
 (q114∧
 Z0 q116
 (Z0 q118
 (Z0 q120
 (Z0 q122
 (Z0 q124
 (q126∧
 q128∧
 Z0 q130
 (Z0 q132
 (q134∧
 q136∧
 Z0 q138
 (Z0 q138
 ((∀(i:Nat),i<q36→true=true)∧
 ∃(X_2:Z6),
 let q169:=Xp X_2 q1 q55 q8 q54 q6;
 let q170:=X_2.t;
 let q171:=List.length X_2.L;
 let q172:=decide (q171=q36);
 LB [q38,q39,q40,q41,q42,q43,q44,q45,q46,q47,q48,q49,AV.nslice (ZE.mk 1 0 70 0 0) 70 q36 q36] q36 q50 X_2∧
 Z6.Inv Zo X_2∧
 q169≠0∧
 q114∧
 Z0 q116
 (Z0 q118
 (Z0 q120
 (Z0 q122
 (Z0 q124
 (q126∧
 q128∧
 Z0 q130
 (Z0 q132
 (q134∧
 q136∧
 Z0 q138
 (Z0 q138
 (q114∧
 Z0 q116
 (Z0 q118
 (Z0 q120
 (Z0 q122
 (Z0 q124
 (q126∧
 q128∧
 Z0 q130
 (Z0 q132
 (q134∧
 q136∧Z0 q138 (Z0 q138 (q113=q12∧Z0 (decide (q115=q14)) (Z0 (decide (q117=q16)) (Z0 (decide (q119=q18)) (Z0 (decide (q121=q20)) (Z0 (decide (q123=q22)) (q125=q24∧q127=q26∧Z0 (decide (q129=q28)) (Z0 (decide (q131=q30)) (q133=q32∧q135=q34∧Z0 q139 (Z0 (decide (q36≤q137)) (Z0 (decide ((q169==q111)=true)) (q170.fund=q12∧Z0 (decide (q170.index=q14)) (Z0 (decide (q170.cap=q16)) (Z0 (decide (q170.dust=q18)) (Z0 (decide (q170.fee=q20)) (Z0 (decide (q170.delay=q22)) (q170.k0=q24∧q170.k1=q26∧Z0 (decide (X_2.side=q28)) (Z0 (decide (X_2.res=q30)) ([X_2.a0,X_2.a1]=q32∧[X_2.i0,X_2.i1]=q34∧Z0 q172 (Z0 (decide (q36≤q171)) (Z0 q172 (Za 3 [] q36 q50 (Z4 X_2.L)∧Z0 q139 (Za 3 [] q36 q50 (Z4 X_1.L)∧True) False) False) False) False) False) False) False) False) False) False) False) False) False) False) False) False) False) False) False) False) False) False) False)
 False)
 False)
 False)
 False)
 False)
 False)
 False)
 False)
 False)
 False)
 False)
 False)
 False)
 False)
 False)
 False)
 False)
 False)
 False)
 False)
 False)
 False)
 False)
 False)
 False)
 False)
 False)
 False)
 False)
 False)
 False)
 False)
 False)
 False)
 False)
 False)
 False)
 False)
 False)
 False)
 False)
 False)
 False)
 False)
 False)
 False)) (by kernel_rfl) ?_
 conv=>zeta
 try simp only [Zg]
 try simp only [Zi]
 try simp only [Zh]
 try simp only [Zj]
 try simp only [Zk]
 try simp only [Ze]
 try simp only [Int.toNat_natCast,Nat.zero_add,true_and,and_true,Nat.le_refl]
 have hsb:a.secret.length≤B:=by rw [ha.secret];exact hB
 have hc:(if (if a.off<1099511627776 then a.off else 1099511627776)> -1099511627776 then (if a.off<1099511627776 then a.off else 1099511627776) else -1099511627776)=WG a.off:=by
  unfold WG
  split<;>split<;>omega
 have hcb: -1099511627776≤WG a.off∧WG a.off≤1099511627776:=by unfold WG;omega
 have h0:=hI.i0
 have h1:=hI.i1
 rw [hc,hh]
 refine ⟨fun ho=> ?_,fun ho=> ?_⟩
 ·have hw:i64.wrap (X.i0+WG a.off)=idA X a:=by
   rw [w64 (by omega)];unfold idA;rw [ho];rfl
  rw [hw]
  repeat' first
   | exact hI
   | exact he
   | exact ha.secret
   | exact hsb
   | exact beq_self_eq_true _
   | exact ha.secret.symm
   | (intro _ _;trivial)
   | refine Exists.intro X (And.intro ⟨rfl,rfl,rfl⟩ ?_)
   | apply And.intro
   | rfl
   | omega
   | exact Zn fun _ _=>rfl
 ·have hw:i64.wrap (X.i1+WG a.off)=idA X a:=by
   rw [w64 (by omega)];unfold idA;rw [ho];rfl
  rw [hw]
  repeat' first
   | exact hI
   | exact he
   | exact ha.secret
   | exact hsb
   | exact beq_self_eq_true _
   | exact ha.secret.symm
   | (intro _ _;trivial)
   | refine Exists.intro X (And.intro ⟨rfl,rfl,rfl⟩ ?_)
   | apply And.intro
   | rfl
   | omega
   | exact Zn fun _ _=>rfl
theorem Zjr (X Y:Z6) (a:Y0) (H1:List Int→List Int) (B:Nat) (hI:X.Inv Zo) (ha:a.Ok) (hB:32≤B) (he:YY Zo X (Y6 X a).1 (Y6 X a).2 1 a.secret=0) (hY:Y=endX Zo X (Y6 X a).1 (Y6 X a).2 1 a.secret):
  evF (Z3m H1 B true) 20 11 [.ptr (some ⟨0,0,0,0,0⟩),.agg (X.c (slH 2 X.L.length)),.agg (.int .i64 1::a.c.tail)] (Z0y X) (Y7 3 (.ret (.tuple [.agg (Y.c (slH 4 Y.L.length)),.bool true])) 5 (Zan X Y)):=by
 refine @Eq.mpr _ (let q1:=List.length X.L;
 let q2:=X.t;
 let q3:=AV.arr u8 32 q2.fund;
 let q4:=AV.int i64 q2.index;
 let q5:=AV.int i64 q2.cap;
 let q6:=AV.int i64 q2.dust;
 let q7:=AV.int i64 q2.fee;
 let q8:=AV.int i64 q2.delay;
 let q9:=AV.arr u8 32 q2.k0;
 let q10:=AV.arr u8 32 q2.k1;
 let q11:=AV.int i64 X.side;
 let q12:=AV.int i64 X.res;
 let q13:=AV.arr i64 2 [X.a0,X.a1];
 let q14:=AV.arr i64 2 [X.i0,X.i1];
 let q15:=Z4 X.L;
 let q16:=a.secret;
 let q17:=List.length q16=32;
 let q18:=Y0.mk 1 a.own a.off a.amount a.expiry q16 a.at' a.move a.ours a.number;
 let q19:=Y.t;
 let q20:=q19.fund;
 let q21:=q19.index;
 let q22:=q19.cap;
 let q23:=q19.dust;
 let q24:=q19.fee;
 let q25:=q19.delay;
 let q26:=q19.k0;
 let q27:=q19.k1;
 let q28:=[Y.a0,Y.a1];
 let q29:=[Y.i0,Y.i1];
 let q30:=List.length Y.L;
 let q31:=[(3,13),(4,10)];
 let q32:=Z4 Y.L;
 Z0 (decide (0+q1≤q1))
 ((∀(i:Nat),i<q1→true=true)∧
 ∃(X:Z6),
 let q65:=(Y6 X q18).fst;
 let q66:=(Y6 X q18).snd;
 LV [q3,q4,q5,q6,q7,q8,q9,q10,q11,q12,q13,q14,AV.vrows 70 q1 (ZK 0 q15) q1] X∧
 List.length X.L<1000∧
 (∀(i:Nat),i<q1→true=true)∧
 ∃(X:Z6),
 let q69:=endX Zo X q65 q66 1 q16;
 let q70:=q69.t;
 let q71:=q70.fund;
 let q72:=q71=q71;
 let q73:=q70.index;
 let q74:=decide (q73=q73);
 let q75:=q70.cap;
 let q76:=decide (q75=q75);
 let q77:=q70.dust;
 let q78:=decide (q77=q77);
 let q79:=q70.fee;
 let q80:=decide (q79=q79);
 let q81:=q70.delay;
 let q82:=decide (q81=q81);
 let q83:=q70.k0;
 let q84:=q83=q83;
 let q85:=q70.k1;
 let q86:=q85=q85;
 let q87:=q69.side;
 let q88:=decide (q87=q87);
 let q89:=q69.res;
 let q90:=decide (q89=q89);
 let q91:=[q69.a0,q69.a1];
 let q92:=q91=q91;
 let q93:=[q69.i0,q69.i1];
 let q94:=q93=q93;
 let q95:=List.length X.L;
 let q96:=decide (q95=q95);
 let q97:=decide (q95=q30);
 LD [q3,q4,q5,q6,q7,q8,q9,q10,q11,q12,q13,q14,AV.nslice (ZE.mk 0 0 70 0 0) 70 q1 q1] q1 q15 X∧
 Z6.Inv Zo X∧
 (q17∧Bytes q16)∧
 YY Zo X q65 q66 1 q16=0∧
 (∀(i:Nat),i<q1→true=true)∧
 ∃(X_1:Z6),
 let q127:=endX Zo X_1 q65 q66 1 q16;
 let q128:=q127.t;
 let q129:=List.length X_1.L;
 let q130:=decide (q129=q30);
 LB [q3,q4,q5,q6,q7,q8,q9,q10,q11,q12,q13,q14,AV.nslice (ZE.mk 1 0 70 0 0) 70 q1 q1] q1 q15 X_1∧
 Z6.Inv Zo X_1∧
 q17∧
 YY Zo X_1 q65 q66 1 q16=0∧
 q72∧
 Z0 q74
 (Z0 q76
 (Z0 q78
 (Z0 q80
 (Z0 q82
 (q84∧
 q86∧
 Z0 q88
 (Z0 q90
 (q92∧
 q94∧
 Z0 q96
 (Z0 q96
 (q72∧
 Z0 q74
 (Z0 q76
 (Z0 q78
 (Z0 q80
 (Z0 q82
 (q84∧
 q86∧
 Z0 q88
 (Z0 q90
 (q92∧
 q94∧
 Z0 q96
 (Z0 q96 (q71=q20∧Z0 (decide (q73=q21)) (Z0 (decide (q75=q22)) (Z0 (decide (q77=q23)) (Z0 (decide (q79=q24)) (Z0 (decide (q81=q25)) (q83=q26∧q85=q27∧Z0 (decide (q87=Y.side)) (Z0 (decide (q89=Y.res)) (q91=q28∧q93=q29∧Z0 q97 (Z0 (decide (q30≤q95)) (q128.fund=q20∧Z0 (decide (q128.index=q21)) (Z0 (decide (q128.cap=q22)) (Z0 (decide (q128.dust=q23)) (Z0 (decide (q128.fee=q24)) (Z0 (decide (q128.delay=q25)) (q128.k0=q26∧q128.k1=q27∧Z0 (decide (q127.side=Y.side)) (Z0 (decide (q127.res=Y.res)) ([q127.a0,q127.a1]=q28∧[q127.i0,q127.i1]=q29∧Z0 q130 (Z0 (decide (q30≤q129)) (Z0 q130 (Za 3 q31 q30 q32 (Z4 q127.L)∧Z0 q97 (Za 3 q31 q30 q32 (Z4 q69.L)∧Z0 (decide (q95=q1)) (Za 3 q31 q1 q15 (Z4 X.L)∧True) False) False) False) False) False) False) False) False) False) False) False) False) False) False) False) False) False) False) False) False) False) False)
 False)
 False)
 False)
 False)
 False)
 False)
 False)
 False)
 False)
 False)
 False)
 False)
 False)
 False)
 False)
 False)
 False)
 False) (by kernel_rfl) ?_
 conv=>zeta
 try simp only [Zg]
 try simp only [Zi]
 try simp only [Zh]
 try simp only [Zj]
 try simp only [Zk]
 try simp only [Ze]
 try simp only [Int.toNat_natCast,Nat.zero_add,true_and,and_true,Nat.le_refl]
 have hlen:=hI.am.n
 have hsb:a.secret.length≤B:=by rw [ha.secret];exact hB
 subst hY
 have hlx:(endX Zo X (Y6 X a).1 (Y6 X a).2 1 a.secret).L.length=X.L.length:=by unfold endX;split<;>simp
 rw [hlx]
 repeat' first
  | exact hI
  | exact he
  | exact ha.secret
  | exact ha.sb
  | exact XY
  | exact hsb
  | exact hlen
  | exact beq_self_eq_true _
  | (intro _ _;trivial)
  | refine Exists.intro X (And.intro ⟨rfl,rfl,rfl⟩ ?_)
  | refine Exists.intro X (And.intro (.a rfl) ?_)
  | apply And.intro
  | rfl
  | omega
  | exact Zn fun _ _=>rfl
theorem Zjs (X:Z6) (a:Y0) (H1:List Int→List Int) (B:Nat) (hI:X.Inv Zo) (ha:a.Ok) (hB:32≤B) (he:YY Zo X (Y6 X a).1 (Y6 X a).2 1 a.secret≠0):
  evF (Z3m H1 B false) 20 11 [.ptr (some ⟨0,0,0,0,0⟩),.agg (X.c (slH 2 X.L.length)),.agg (.int .i64 1::a.c.tail)] (Z0y X) (Y7 3 (.ret (.tuple [.agg (X.c (slH 2 X.L.length)),.bool true])) 3 (Z36 X)):=by
 refine @Eq.mpr _ (let q1:=List.length X.L;
 let q2:=X.t;
 let q3:=q2.fund;
 let q4:=AV.arr u8 32 q3;
 let q5:=q2.index;
 let q6:=AV.int i64 q5;
 let q7:=q2.cap;
 let q8:=AV.int i64 q7;
 let q9:=q2.dust;
 let q10:=AV.int i64 q9;
 let q11:=q2.fee;
 let q12:=AV.int i64 q11;
 let q13:=q2.delay;
 let q14:=AV.int i64 q13;
 let q15:=q2.k0;
 let q16:=AV.arr u8 32 q15;
 let q17:=q2.k1;
 let q18:=AV.arr u8 32 q17;
 let q19:=X.side;
 let q20:=AV.int i64 q19;
 let q21:=X.res;
 let q22:=AV.int i64 q21;
 let q23:=[X.a0,X.a1];
 let q24:=AV.arr i64 2 q23;
 let q25:=[X.i0,X.i1];
 let q26:=AV.arr i64 2 q25;
 let q27:=Z4 X.L;
 let q28:=a.secret;
 let q29:=List.length q28=32;
 let q30:=Y0.mk 1 a.own a.off a.amount a.expiry q28 a.at' a.move a.ours a.number;
 Z0 (decide (0+q1≤q1))
 ((∀(i:Nat),i<q1→true=true)∧
 ∃(X:Z6),
 let q61:=(Y6 X q30).fst;
 let q62:=(Y6 X q30).snd;
 LV [q4,q6,q8,q10,q12,q14,q16,q18,q20,q22,q24,q26,AV.vrows 70 q1 (ZK 0 q27) q1] X∧
 List.length X.L<1000∧
 (∀(i:Nat),i<q1→true=true)∧
 ∃(X:Z6),
 let q65:=YY Zo X q61 q62 1 q28;
 let q66:=X.t;
 let q67:=q66.fund;
 let q68:=q67=q67;
 let q69:=q66.index;
 let q70:=decide (q69=q69);
 let q71:=q66.cap;
 let q72:=decide (q71=q71);
 let q73:=q66.dust;
 let q74:=decide (q73=q73);
 let q75:=q66.fee;
 let q76:=decide (q75=q75);
 let q77:=q66.delay;
 let q78:=decide (q77=q77);
 let q79:=q66.k0;
 let q80:=q79=q79;
 let q81:=q66.k1;
 let q82:=q81=q81;
 let q83:=X.side;
 let q84:=decide (q83=q83);
 let q85:=X.res;
 let q86:=decide (q85=q85);
 let q87:=[X.a0,X.a1];
 let q88:=q87=q87;
 let q89:=[X.i0,X.i1];
 let q90:=q89=q89;
 let q91:=List.length X.L;
 let q92:=decide (q91=q91);
 let q93:=decide (q91=q1);
 LD [q4,q6,q8,q10,q12,q14,q16,q18,q20,q22,q24,q26,AV.nslice (ZE.mk 0 0 70 0 0) 70 q1 q1] q1 q27 X∧
 Z6.Inv Zo X∧
 (q29∧Bytes q28)∧
 q65≠0∧
 (∀(i:Nat),i<q1→true=true)∧
 ∃(X_1:Z6),
 let q123:=YY Zo X_1 q61 q62 1 q28;
 let q124:=X_1.t;
 let q125:=List.length X_1.L;
 let q126:=decide (q125=q1);
 LB [q4,q6,q8,q10,q12,q14,q16,q18,q20,q22,q24,q26,AV.nslice (ZE.mk 1 0 70 0 0) 70 q1 q1] q1 q27 X_1∧
 Z6.Inv Zo X_1∧
 q29∧
 q123≠0∧
 q68∧
 Z0 q70
 (Z0 q72
 (Z0 q74
 (Z0 q76
 (Z0 q78
 (q80∧
 q82∧
 Z0 q84
 (Z0 q86
 (q88∧
 q90∧
 Z0 q92
 (Z0 q92
 (q68∧
 Z0 q70
 (Z0 q72
 (Z0 q74
 (Z0 q76
 (Z0 q78
 (q80∧
 q82∧
 Z0 q84 (Z0 q86 (q88∧q90∧Z0 q92 (Z0 q92 (q67=q3∧Z0 (decide (q69=q5)) (Z0 (decide (q71=q7)) (Z0 (decide (q73=q9)) (Z0 (decide (q75=q11)) (Z0 (decide (q77=q13)) (q79=q15∧q81=q17∧Z0 (decide (q83=q19)) (Z0 (decide (q85=q21)) (q87=q23∧q89=q25∧Z0 q93 (Z0 (decide (q1≤q91)) (Z0 (decide ((q123==q65)=true)) (q124.fund=q3∧Z0 (decide (q124.index=q5)) (Z0 (decide (q124.cap=q7)) (Z0 (decide (q124.dust=q9)) (Z0 (decide (q124.fee=q11)) (Z0 (decide (q124.delay=q13)) (q124.k0=q15∧q124.k1=q17∧Z0 (decide (X_1.side=q19)) (Z0 (decide (X_1.res=q21)) ([X_1.a0,X_1.a1]=q23∧[X_1.i0,X_1.i1]=q25∧Z0 q126 (Z0 (decide (q1≤q125)) (Z0 q126 (Za 3 [] q1 q27 (Z4 X_1.L)∧Z0 q93 (Za 3 [] q1 q27 (Z4 X.L)∧True) False) False) False) False) False) False) False) False) False) False) False) False) False) False) False) False) False) False) False) False) False) False) False) False)
 False)
 False)
 False)
 False)
 False)
 False)
 False)
 False)
 False)
 False)
 False)
 False)
 False)
 False)
 False)
 False) (by kernel_rfl) ?_
 conv=>zeta
 try simp only [Zg]
 try simp only [Zi]
 try simp only [Zh]
 try simp only [Zj]
 try simp only [Zk]
 try simp only [Ze]
 try simp only [Int.toNat_natCast,Nat.zero_add,true_and,and_true,Nat.le_refl]
 have hlen:=hI.am.n
 have hsb:a.secret.length≤B:=by rw [ha.secret];exact hB
 repeat' first
  | exact hI
  | exact he
  | exact ha.secret
  | exact ha.sb
  | exact XY
  | exact hsb
  | exact hlen
  | exact beq_self_eq_true _
  | (intro _ _;trivial)
  | refine Exists.intro X (And.intro ⟨rfl,rfl,rfl⟩ ?_)
  | refine Exists.intro X (And.intro (.a rfl) ?_)
  | apply And.intro
  | rfl
  | omega
  | exact Zn fun _ _=>rfl
theorem Zjt (X Y:Z6) (a:Y0) (H1:List Int→List Int) (B:Nat) (hI:X.Inv Zo) (ha:a.Ok) (hB:32≤B) (he:YY Zo X (Y6 X a).1 (Y6 X a).2 2 Zd=0) (hY:Y=endX Zo X (Y6 X a).1 (Y6 X a).2 2 Zd):
  evF (Z3m H1 B true) 20 11 [.ptr (some ⟨0,0,0,0,0⟩),.agg (X.c (slH 2 X.L.length)),.agg (.int .i64 2::a.c.tail)] (Z0y X) (Y7 3 (.ret (.tuple [.agg (Y.c (slH 4 Y.L.length)),.bool true])) 5 (Zan X Y)):=by
 refine @Eq.mpr _ (let q1:=List.length X.L;
 let q2:=X.t;
 let q3:=AV.arr u8 32 q2.fund;
 let q4:=AV.int i64 q2.index;
 let q5:=AV.int i64 q2.cap;
 let q6:=AV.int i64 q2.dust;
 let q7:=AV.int i64 q2.fee;
 let q8:=AV.int i64 q2.delay;
 let q9:=AV.arr u8 32 q2.k0;
 let q10:=AV.arr u8 32 q2.k1;
 let q11:=AV.int i64 X.side;
 let q12:=AV.int i64 X.res;
 let q13:=AV.arr i64 2 [X.a0,X.a1];
 let q14:=AV.arr i64 2 [X.i0,X.i1];
 let q15:=Z4 X.L;
 let q16:=Y0.mk 2 a.own a.off a.amount a.expiry a.secret a.at' a.move a.ours a.number;
 let q17:=Y.t;
 let q18:=q17.fund;
 let q19:=q17.index;
 let q20:=q17.cap;
 let q21:=q17.dust;
 let q22:=q17.fee;
 let q23:=q17.delay;
 let q24:=q17.k0;
 let q25:=q17.k1;
 let q26:=[Y.a0,Y.a1];
 let q27:=[Y.i0,Y.i1];
 let q28:=List.length Y.L;
 let q29:=[(3,11),(4,9)];
 let q30:=Z4 Y.L;
 Z0 (decide (0+q1≤q1))
 ((∀(i:Nat),i<q1→true=true)∧
 ∃(X:Z6),
 let q61:=(Y6 X q16).fst;
 let q62:=(Y6 X q16).snd;
 LV [q3,q4,q5,q6,q7,q8,q9,q10,q11,q12,q13,q14,AV.vrows 70 q1 (ZK 0 q15) q1] X∧
 List.length X.L<1000∧
 (∀(i:Nat),i<q1→true=true)∧
 ∃(X:Z6),
 let q65:=endX Zo X q61 q62 2 Zd;
 let q66:=q65.t;
 let q67:=q66.fund;
 let q68:=q67=q67;
 let q69:=q66.index;
 let q70:=decide (q69=q69);
 let q71:=q66.cap;
 let q72:=decide (q71=q71);
 let q73:=q66.dust;
 let q74:=decide (q73=q73);
 let q75:=q66.fee;
 let q76:=decide (q75=q75);
 let q77:=q66.delay;
 let q78:=decide (q77=q77);
 let q79:=q66.k0;
 let q80:=q79=q79;
 let q81:=q66.k1;
 let q82:=q81=q81;
 let q83:=q65.side;
 let q84:=decide (q83=q83);
 let q85:=q65.res;
 let q86:=decide (q85=q85);
 let q87:=[q65.a0,q65.a1];
 let q88:=q87=q87;
 let q89:=[q65.i0,q65.i1];
 let q90:=q89=q89;
 let q91:=List.length X.L;
 let q92:=decide (q91=q91);
 let q93:=decide (q91=q28);
 LD [q3,q4,q5,q6,q7,q8,q9,q10,q11,q12,q13,q14,AV.nslice (ZE.mk 0 0 70 0 0) 70 q1 q1] q1 q15 X∧
 Z6.Inv Zo X∧
 ((32:Nat)=32∧Bytes Zd)∧
 YY Zo X q61 q62 2 Zd=0∧
 (∀(i:Nat),i<q1→true=true)∧
 ∃(X_1:Z6),
 let q123:=endX Zo X_1 q61 q62 2 Zd;
 let q124:=q123.t;
 let q125:=List.length X_1.L;
 let q126:=decide (q125=q28);
 LB [q3,q4,q5,q6,q7,q8,q9,q10,q11,q12,q13,q14,AV.nslice (ZE.mk 1 0 70 0 0) 70 q1 q1] q1 q15 X_1∧
 Z6.Inv Zo X_1∧
 (32:Nat)=32∧
 YY Zo X_1 q61 q62 2 Zd=0∧
 q68∧
 Z0 q70
 (Z0 q72
 (Z0 q74
 (Z0 q76
 (Z0 q78
 (q80∧
 q82∧
 Z0 q84
 (Z0 q86
 (q88∧
 q90∧
 Z0 q92
 (Z0 q92
 (q68∧
 Z0 q70
 (Z0 q72
 (Z0 q74
 (Z0 q76
 (Z0 q78
 (q80∧
 q82∧
 Z0 q84
 (Z0 q86
 (q88∧
 q90∧
 Z0 q92
 (Z0 q92 (q67=q18∧Z0 (decide (q69=q19)) (Z0 (decide (q71=q20)) (Z0 (decide (q73=q21)) (Z0 (decide (q75=q22)) (Z0 (decide (q77=q23)) (q79=q24∧q81=q25∧Z0 (decide (q83=Y.side)) (Z0 (decide (q85=Y.res)) (q87=q26∧q89=q27∧Z0 q93 (Z0 (decide (q28≤q91)) (q124.fund=q18∧Z0 (decide (q124.index=q19)) (Z0 (decide (q124.cap=q20)) (Z0 (decide (q124.dust=q21)) (Z0 (decide (q124.fee=q22)) (Z0 (decide (q124.delay=q23)) (q124.k0=q24∧q124.k1=q25∧Z0 (decide (q123.side=Y.side)) (Z0 (decide (q123.res=Y.res)) ([q123.a0,q123.a1]=q26∧[q123.i0,q123.i1]=q27∧Z0 q126 (Z0 (decide (q28≤q125)) (Z0 q126 (Za 3 q29 q28 q30 (Z4 q123.L)∧Z0 q93 (Za 3 q29 q28 q30 (Z4 q65.L)∧Z0 (decide (q91=q1)) (Za 3 q29 q1 q15 (Z4 X.L)∧True) False) False) False) False) False) False) False) False) False) False) False) False) False) False) False) False) False) False) False) False) False) False)
 False)
 False)
 False)
 False)
 False)
 False)
 False)
 False)
 False)
 False)
 False)
 False)
 False)
 False)
 False)
 False)
 False)
 False) (by kernel_rfl) ?_
 conv=>zeta
 try simp only [Zg]
 try simp only [Zi]
 try simp only [Zh]
 try simp only [Zj]
 try simp only [Zk]
 try simp only [Ze]
 try simp only [Int.toNat_natCast,Nat.zero_add,true_and,and_true,Nat.le_refl]
 have hlen:=hI.am.n
 have hsb:a.secret.length≤B:=by rw [ha.secret];exact hB
 subst hY
 have hlx:(endX Zo X (Y6 X a).1 (Y6 X a).2 2 Zd).L.length=X.L.length:=by unfold endX;split<;>simp
 rw [hlx]
 repeat' first
  | exact hI
  | exact he
  | exact ha.secret
  | exact ha.sb
  | exact XY
  | exact hsb
  | exact hlen
  | exact beq_self_eq_true _
  | (intro _ _;trivial)
  | refine Exists.intro X (And.intro ⟨rfl,rfl,rfl⟩ ?_)
  | refine Exists.intro X (And.intro (.a rfl) ?_)
  | apply And.intro
  | rfl
  | omega
  | exact Zn fun _ _=>rfl
theorem Zju (X:Z6) (a:Y0) (H1:List Int→List Int) (B:Nat) (hI:X.Inv Zo) (ha:a.Ok) (hB:32≤B) (he:YY Zo X (Y6 X a).1 (Y6 X a).2 2 Zd≠0):
  evF (Z3m H1 B false) 20 11 [.ptr (some ⟨0,0,0,0,0⟩),.agg (X.c (slH 2 X.L.length)),.agg (.int .i64 2::a.c.tail)] (Z0y X) (Y7 3 (.ret (.tuple [.agg (X.c (slH 2 X.L.length)),.bool true])) 3 (Z36 X)):=by
 refine @Eq.mpr _ (let q1:=List.length X.L;
 let q2:=X.t;
 let q3:=q2.fund;
 let q4:=AV.arr u8 32 q3;
 let q5:=q2.index;
 let q6:=AV.int i64 q5;
 let q7:=q2.cap;
 let q8:=AV.int i64 q7;
 let q9:=q2.dust;
 let q10:=AV.int i64 q9;
 let q11:=q2.fee;
 let q12:=AV.int i64 q11;
 let q13:=q2.delay;
 let q14:=AV.int i64 q13;
 let q15:=q2.k0;
 let q16:=AV.arr u8 32 q15;
 let q17:=q2.k1;
 let q18:=AV.arr u8 32 q17;
 let q19:=X.side;
 let q20:=AV.int i64 q19;
 let q21:=X.res;
 let q22:=AV.int i64 q21;
 let q23:=[X.a0,X.a1];
 let q24:=AV.arr i64 2 q23;
 let q25:=[X.i0,X.i1];
 let q26:=AV.arr i64 2 q25;
 let q27:=Z4 X.L;
 let q28:=Y0.mk 2 a.own a.off a.amount a.expiry a.secret a.at' a.move a.ours a.number;
 Z0 (decide (0+q1≤q1))
 ((∀(i:Nat),i<q1→true=true)∧
 ∃(X:Z6),
 let q57:=(Y6 X q28).fst;
 let q58:=(Y6 X q28).snd;
 LV [q4,q6,q8,q10,q12,q14,q16,q18,q20,q22,q24,q26,AV.vrows 70 q1 (ZK 0 q27) q1] X∧
 List.length X.L<1000∧
 (∀(i:Nat),i<q1→true=true)∧
 ∃(X:Z6),
 let q61:=YY Zo X q57 q58 2 Zd;
 let q62:=X.t;
 let q63:=q62.fund;
 let q64:=q63=q63;
 let q65:=q62.index;
 let q66:=decide (q65=q65);
 let q67:=q62.cap;
 let q68:=decide (q67=q67);
 let q69:=q62.dust;
 let q70:=decide (q69=q69);
 let q71:=q62.fee;
 let q72:=decide (q71=q71);
 let q73:=q62.delay;
 let q74:=decide (q73=q73);
 let q75:=q62.k0;
 let q76:=q75=q75;
 let q77:=q62.k1;
 let q78:=q77=q77;
 let q79:=X.side;
 let q80:=decide (q79=q79);
 let q81:=X.res;
 let q82:=decide (q81=q81);
 let q83:=[X.a0,X.a1];
 let q84:=q83=q83;
 let q85:=[X.i0,X.i1];
 let q86:=q85=q85;
 let q87:=List.length X.L;
 let q88:=decide (q87=q87);
 let q89:=decide (q87=q1);
 LD [q4,q6,q8,q10,q12,q14,q16,q18,q20,q22,q24,q26,AV.nslice (ZE.mk 0 0 70 0 0) 70 q1 q1] q1 q27 X∧
 Z6.Inv Zo X∧
 ((32:Nat)=32∧Bytes Zd)∧
 q61≠0∧
 (∀(i:Nat),i<q1→true=true)∧
 ∃(X_1:Z6),
 let q119:=YY Zo X_1 q57 q58 2 Zd;
 let q120:=X_1.t;
 let q121:=List.length X_1.L;
 let q122:=decide (q121=q1);
 LB [q4,q6,q8,q10,q12,q14,q16,q18,q20,q22,q24,q26,AV.nslice (ZE.mk 1 0 70 0 0) 70 q1 q1] q1 q27 X_1∧
 Z6.Inv Zo X_1∧
 (32:Nat)=32∧
 q119≠0∧
 q64∧
 Z0 q66
 (Z0 q68
 (Z0 q70
 (Z0 q72
 (Z0 q74
 (q76∧
 q78∧
 Z0 q80
 (Z0 q82
 (q84∧
 q86∧
 Z0 q88
 (Z0 q88
 (q64∧
 Z0 q66
 (Z0 q68
 (Z0 q70
 (Z0 q72
 (Z0 q74
 (q76∧
 q78∧
 Z0 q80 (Z0 q82 (q84∧q86∧Z0 q88 (Z0 q88 (q63=q3∧Z0 (decide (q65=q5)) (Z0 (decide (q67=q7)) (Z0 (decide (q69=q9)) (Z0 (decide (q71=q11)) (Z0 (decide (q73=q13)) (q75=q15∧q77=q17∧Z0 (decide (q79=q19)) (Z0 (decide (q81=q21)) (q83=q23∧q85=q25∧Z0 q89 (Z0 (decide (q1≤q87)) (Z0 (decide ((q119==q61)=true)) (q120.fund=q3∧Z0 (decide (q120.index=q5)) (Z0 (decide (q120.cap=q7)) (Z0 (decide (q120.dust=q9)) (Z0 (decide (q120.fee=q11)) (Z0 (decide (q120.delay=q13)) (q120.k0=q15∧q120.k1=q17∧Z0 (decide (X_1.side=q19)) (Z0 (decide (X_1.res=q21)) ([X_1.a0,X_1.a1]=q23∧[X_1.i0,X_1.i1]=q25∧Z0 q122 (Z0 (decide (q1≤q121)) (Z0 q122 (Za 3 [] q1 q27 (Z4 X_1.L)∧Z0 q89 (Za 3 [] q1 q27 (Z4 X.L)∧True) False) False) False) False) False) False) False) False) False) False) False) False) False) False) False) False) False) False) False) False) False) False) False) False)
 False)
 False)
 False)
 False)
 False)
 False)
 False)
 False)
 False)
 False)
 False)
 False)
 False)
 False)
 False)
 False) (by kernel_rfl) ?_
 conv=>zeta
 try simp only [Zg]
 try simp only [Zi]
 try simp only [Zh]
 try simp only [Zj]
 try simp only [Zk]
 try simp only [Ze]
 try simp only [Int.toNat_natCast,Nat.zero_add,true_and,and_true,Nat.le_refl]
 have hlen:=hI.am.n
 have hsb:a.secret.length≤B:=by rw [ha.secret];exact hB
 repeat' first
  | exact hI
  | exact he
  | exact ha.secret
  | exact ha.sb
  | exact XY
  | exact hsb
  | exact hlen
  | exact beq_self_eq_true _
  | (intro _ _;trivial)
  | refine Exists.intro X (And.intro ⟨rfl,rfl,rfl⟩ ?_)
  | refine Exists.intro X (And.intro (.a rfl) ?_)
  | apply And.intro
  | rfl
  | omega
  | exact Zn fun _ _=>rfl
theorem Zjv (X Y:Z6) (a:Y0) (H1:List Int→List Int) (B:Nat) (hI:X.Inv Zo) (ha:a.Ok) (hB:32≤B) (he:1≤a.move∧a.move≤4) (hY:Y=stpX X a.move):
  evF (Z3m H1 B true) 20 11 [.ptr (some ⟨0,0,0,0,0⟩),.agg (X.c (slH 2 X.L.length)),.agg (.int .i64 3::a.c.tail)] (Z0y X) (Y7 3 (.ret (.tuple [.agg (Y.c (slH 4 Y.L.length)),.bool true])) 5 (Zan X Y)):=by
 refine @Eq.mpr _ (let q1:=List.length X.L;
 let q2:=X.t;
 let q3:=AV.arr u8 32 q2.fund;
 let q4:=AV.int i64 q2.index;
 let q5:=AV.int i64 q2.cap;
 let q6:=AV.int i64 q2.dust;
 let q7:=AV.int i64 q2.fee;
 let q8:=AV.int i64 q2.delay;
 let q9:=AV.arr u8 32 q2.k0;
 let q10:=AV.arr u8 32 q2.k1;
 let q11:=AV.int i64 X.side;
 let q12:=AV.int i64 X.res;
 let q13:=AV.arr i64 2 [X.a0,X.a1];
 let q14:=AV.arr i64 2 [X.i0,X.i1];
 let q15:=Z4 X.L;
 let q16:=a.move;
 let q17:=1≤q16∧q16≤4;
 let q18:=Y.t;
 let q19:=q18.fund;
 let q20:=q18.index;
 let q21:=q18.cap;
 let q22:=q18.dust;
 let q23:=q18.fee;
 let q24:=q18.delay;
 let q25:=q18.k0;
 let q26:=q18.k1;
 let q27:=[Y.a0,Y.a1];
 let q28:=[Y.i0,Y.i1];
 let q29:=List.length Y.L;
 let q30:=[(3,10),(4,6)];
 let q31:=Z4 Y.L;
 (∀(i:Nat),i<q1→true=true)∧
 ∃(X_1:Z6),
 let q63:=X_1.L;
 let q64:=Yi q16 q63;
 let q65:=List.length q64;
 let q66:=ZR q16 q63;
 let q67:=List.length q66;
 let q68:=stpX X_1 q16;
 let q69:=q68.t;
 let q70:=q69.fund;
 let q71:=q69.index;
 let q72:=q69.cap;
 let q73:=q69.dust;
 let q74:=q69.fee;
 let q75:=q69.delay;
 let q76:=q69.k0;
 let q77:=q69.k1;
 let q78:=q68.side;
 let q79:=q68.res;
 let q80:=[q68.a0,q68.a1];
 let q81:=[q68.i0,q68.i1];
 let q82:=q68.L;
 let q83:=List.length q82;
 let q84:=decide (q83=q83);
 let q85:=decide (q83=q29);
 LD [q3,q4,q5,q6,q7,q8,q9,q10,q11,q12,q13,q14,AV.nslice (ZE.mk 0 0 70 0 0) 70 q1 q1] q1 q15 X_1∧
 Z6.Inv Zo X_1∧
 q17∧
 (∀(i:Nat),i<q1→true=true)∧
 ∃(X_2:Z6),
 let q109:=Yi q16 X_2.L;
 let q110:=List.length q109;
 let q111:=q65=q110;
 let q112:=ZR q16 X_2.L;
 let q113:=List.length q112;
 let q114:=q67=q113;
 let q115:=stpX X_2 q16;
 let q116:=q115.t;
 let q117:=q115.L;
 let q118:=List.length q117;
 let q119:=decide (q118=q29);
 LB [q3,q4,q5,q6,q7,q8,q9,q10,q11,q12,q13,q14,AV.nslice (ZE.mk 1 0 70 0 0) 70 q1 q1] q1 q15 X_2∧
 Z6.Inv Zo X_2∧
 q17∧
 Z0 (decide (0+q110≤q110))
 ((∀(i:Nat),i<q110→true=true)∧
 Z0 (decide (0+q65≤q65))
 ((∀(i:Nat),i<q65→true=true)∧
 ∃(A:List Z5),
 (q110=List.length A∧q110=q110∧q111∧q111)∧
 (ZK 0 (Z4 q109)=Z4 A∧ZK 0 (Z4 q64)=Z4 A)∧
 q110<1000∧
 (∀(h:Z5),List.Mem h A→Z5.Ok h)∧
 Z0 (decide (0+q113≤q113))
 ((∀(i:Nat),i<q113→true=true)∧
 Z0 (decide (0+q67≤q67))
 ((∀(i:Nat),i<q67→true=true)∧
 ∃(A:List Z5),
 (q113=List.length A∧q113=q113∧q114∧q114)∧
 (ZK 0 (Z4 q112)=Z4 A∧ZK 0 (Z4 q66)=Z4 A)∧
 q113<1000∧
 (∀(h:Z5),List.Mem h A→Z5.Ok h)∧
 q70=q70∧
 Z0 (decide (q71=q71))
 (Z0 (decide (q72=q72))
 (Z0 (decide (q73=q73))
 (Z0 (decide (q74=q74))
 (Z0 (decide (q75=q75))
 (q76=q76∧
 q77=q77∧
 Z0 (decide (q78=q78))
 (Z0 (decide (q79=q79))
 (q80=q80∧
 q81=q81∧
 Z0 q84
 (Z0 q84 (q70=q19∧Z0 (decide (q71=q20)) (Z0 (decide (q72=q21)) (Z0 (decide (q73=q22)) (Z0 (decide (q74=q23)) (Z0 (decide (q75=q24)) (q76=q25∧q77=q26∧Z0 (decide (q78=Y.side)) (Z0 (decide (q79=Y.res)) (q80=q27∧q81=q28∧Z0 q85 (Z0 (decide (q29≤q83)) (q116.fund=q19∧Z0 (decide (q116.index=q20)) (Z0 (decide (q116.cap=q21)) (Z0 (decide (q116.dust=q22)) (Z0 (decide (q116.fee=q23)) (Z0 (decide (q116.delay=q24)) (q116.k0=q25∧q116.k1=q26∧Z0 (decide (q115.side=Y.side)) (Z0 (decide (q115.res=Y.res)) ([q115.a0,q115.a1]=q27∧[q115.i0,q115.i1]=q28∧Z0 q119 (Z0 (decide (q29≤q118)) (Z0 q119 (Za 3 q30 q29 q31 (Z4 q117)∧Z0 q85 (Za 3 q30 q29 q31 (Z4 q82)∧Z0 (decide (List.length q63=q1)) (Za 3 q30 q1 q15 (Z4 q63)∧True) False) False) False) False) False) False) False) False) False) False) False) False) False) False) False) False) False) False) False) False) False)
 False)
 False)
 False)
 False)
 False)
 False)
 False)
 False)
 False)
 False)
 False)
 False)
 False) (by kernel_rfl) ?_
 conv=>zeta
 try simp only [Zg]
 try simp only [Zi]
 try simp only [Zh]
 try simp only [Zj]
 try simp only [Zk]
 try simp only [Ze]
 try simp only [Int.toNat_natCast,Nat.zero_add,true_and,and_true,Nat.le_refl]
 have hlen:=hI.am.n
 have hsb:a.secret.length≤B:=by rw [ha.secret];exact hB
 subst hY
 have okH:∀h∈Yi a.move X.L,h.Ok:=fun h hh=>Zfp hI hh
 have okG:∀h∈ZR a.move X.L,h.Ok:=fun h hh=>Zfq hI hh
 have l1:(Yi a.move X.L).length<1000:=by have:=Z2U a.move X.L;omega
 have l2:(ZR a.move X.L).length<1000:=by have:=Z2T a.move X.L;omega
 repeat' first
  | exact hI
  | exact he
  | exact ha.secret
  | exact ha.sb
  | exact XY
  | exact hsb
  | exact hlen
  | exact beq_self_eq_true _
  | (intro _ _;trivial)
  | refine Exists.intro X (And.intro ⟨rfl,rfl,rfl⟩ ?_)
  | refine Exists.intro X (And.intro (.a rfl) ?_)
  | exact okH
  | exact okG
  | exact l1
  | exact l2
  | refine Exists.intro (Yi a.move X.L) (And.intro ⟨rfl,rfl,rfl⟩ ?_)
  | refine Exists.intro (ZR a.move X.L) (And.intro ⟨rfl,rfl,rfl⟩ ?_)
  | apply And.intro
  | rfl
  | omega
  | exact Zn fun _ _=>rfl
theorem Zjw (X:Z6) (a:Y0) (H1:List Int→List Int) (B:Nat) (hI:X.Inv Zo) (ha:a.Ok) (hB:32≤B) (he:¬(1≤a.move∧a.move≤4)):
  evF (Z3m H1 B false) 20 11 [.ptr (some ⟨0,0,0,0,0⟩),.agg (X.c (slH 2 X.L.length)),.agg (.int .i64 3::a.c.tail)] (Z0y X) (Y7 3 (.ret (.tuple [.agg (X.c (slH 2 X.L.length)),.bool true])) 3 (Z36 X)):=by
 refine @Eq.mpr _ (let q1:=List.length X.L;
 let q2:=X.t;
 let q3:=q2.fund;
 let q4:=AV.arr u8 32 q3;
 let q5:=q2.index;
 let q6:=AV.int i64 q5;
 let q7:=q2.cap;
 let q8:=AV.int i64 q7;
 let q9:=q2.dust;
 let q10:=AV.int i64 q9;
 let q11:=q2.fee;
 let q12:=AV.int i64 q11;
 let q13:=q2.delay;
 let q14:=AV.int i64 q13;
 let q15:=q2.k0;
 let q16:=AV.arr u8 32 q15;
 let q17:=q2.k1;
 let q18:=AV.arr u8 32 q17;
 let q19:=X.side;
 let q20:=AV.int i64 q19;
 let q21:=X.res;
 let q22:=AV.int i64 q21;
 let q23:=[X.a0,X.a1];
 let q24:=AV.arr i64 2 q23;
 let q25:=[X.i0,X.i1];
 let q26:=AV.arr i64 2 q25;
 let q27:=Z4 X.L;
 let q28:=¬(1≤a.move∧a.move≤4);
 (∀(i:Nat),i<q1→true=true)∧
 ∃(X:Z6),
 let q57:=X.t;
 let q58:=q57.fund;
 let q59:=q57.index;
 let q60:=q57.cap;
 let q61:=q57.dust;
 let q62:=q57.fee;
 let q63:=q57.delay;
 let q64:=q57.k0;
 let q65:=q57.k1;
 let q66:=X.side;
 let q67:=X.res;
 let q68:=[X.a0,X.a1];
 let q69:=[X.i0,X.i1];
 let q70:=List.length X.L;
 let q71:=decide (q70=q70);
 let q72:=decide (q70=q1);
 LD [q4,q6,q8,q10,q12,q14,q16,q18,q20,q22,q24,q26,AV.nslice (ZE.mk 0 0 70 0 0) 70 q1 q1] q1 q27 X∧
 Z6.Inv Zo X∧
 q28∧
 (∀(i:Nat),i<q1→true=true)∧
 ∃(X_1:Z6),
 let q89:=X_1.t;
 let q90:=List.length X_1.L;
 let q91:=decide (q90=q1);
 LB [q4,q6,q8,q10,q12,q14,q16,q18,q20,q22,q24,q26,AV.nslice (ZE.mk 1 0 70 0 0) 70 q1 q1] q1 q27 X_1∧
 Z6.Inv Zo X_1∧
 q28∧
 q58=q58∧
 Z0 (decide (q59=q59))
 (Z0 (decide (q60=q60))
 (Z0 (decide (q61=q61))
 (Z0 (decide (q62=q62))
 (Z0 (decide (q63=q63))
 (q64=q64∧
 q65=q65∧
 Z0 (decide (q66=q66)) (Z0 (decide (q67=q67)) (q68=q68∧q69=q69∧Z0 q71 (Z0 q71 (q58=q3∧Z0 (decide (q59=q5)) (Z0 (decide (q60=q7)) (Z0 (decide (q61=q9)) (Z0 (decide (q62=q11)) (Z0 (decide (q63=q13)) (q64=q15∧q65=q17∧Z0 (decide (q66=q19)) (Z0 (decide (q67=q21)) (q68=q23∧q69=q25∧Z0 q72 (Z0 (decide (q1≤q70)) (q89.fund=q3∧Z0 (decide (q89.index=q5)) (Z0 (decide (q89.cap=q7)) (Z0 (decide (q89.dust=q9)) (Z0 (decide (q89.fee=q11)) (Z0 (decide (q89.delay=q13)) (q89.k0=q15∧q89.k1=q17∧Z0 (decide (X_1.side=q19)) (Z0 (decide (X_1.res=q21)) ([X_1.a0,X_1.a1]=q23∧[X_1.i0,X_1.i1]=q25∧Z0 q91 (Z0 (decide (q1≤q90)) (Z0 q91 (Za 3 [] q1 q27 (Z4 X_1.L)∧Z0 q72 (Za 3 [] q1 q27 (Z4 X.L)∧True) False) False) False) False) False) False) False) False) False) False) False) False) False) False) False) False) False) False) False) False) False) False) False) False)
 False)
 False)
 False)
 False)
 False) (by kernel_rfl) ?_
 conv=>zeta
 try simp only [Zg]
 try simp only [Zi]
 try simp only [Zh]
 try simp only [Zj]
 try simp only [Zk]
 try simp only [Ze]
 try simp only [Int.toNat_natCast,Nat.zero_add,true_and,and_true,Nat.le_refl]
 have hlen:=hI.am.n
 have hsb:a.secret.length≤B:=by rw [ha.secret];exact hB
 repeat' first
  | exact hI
  | exact he
  | exact ha.secret
  | exact ha.sb
  | exact XY
  | exact hsb
  | exact hlen
  | exact beq_self_eq_true _
  | (intro _ _;trivial)
  | refine Exists.intro X (And.intro ⟨rfl,rfl,rfl⟩ ?_)
  | refine Exists.intro X (And.intro (.a rfl) ?_)
  | apply And.intro
  | rfl
  | omega
  | exact Zn fun _ _=>rfl
theorem Zjx (X Y:Z6) (a:Y0) (H1:List Int→List Int) (B:Nat) (hI:X.Inv Zo) (ha:a.Ok) (hB:32≤B) (he:True) (hY:Y=brkX X):
  evF (Z3m H1 B true) 20 11 [.ptr (some ⟨0,0,0,0,0⟩),.agg (X.c (slH 2 X.L.length)),.agg (.int .i64 4::a.c.tail)] (Z0y X) (Y7 3 (.ret (.tuple [.agg (Y.c (slH 4 Y.L.length)),.bool true])) 5 (Zan X Y)):=by
 refine @Eq.mpr _ (let q1:=List.length X.L;
 let q2:=X.t;
 let q3:=AV.arr u8 32 q2.fund;
 let q4:=AV.int i64 q2.index;
 let q5:=AV.int i64 q2.cap;
 let q6:=AV.int i64 q2.dust;
 let q7:=AV.int i64 q2.fee;
 let q8:=AV.int i64 q2.delay;
 let q9:=AV.arr u8 32 q2.k0;
 let q10:=AV.arr u8 32 q2.k1;
 let q11:=AV.int i64 X.side;
 let q12:=AV.int i64 X.res;
 let q13:=AV.arr i64 2 [X.a0,X.a1];
 let q14:=AV.arr i64 2 [X.i0,X.i1];
 let q15:=Z4 X.L;
 let q16:=Y.t;
 let q17:=q16.fund;
 let q18:=q16.index;
 let q19:=q16.cap;
 let q20:=q16.dust;
 let q21:=q16.fee;
 let q22:=q16.delay;
 let q23:=q16.k0;
 let q24:=q16.k1;
 let q25:=[Y.a0,Y.a1];
 let q26:=[Y.i0,Y.i1];
 let q27:=List.length Y.L;
 let q28:=[(3,9),(4,6)];
 let q29:=Z4 Y.L;
 (∀(i:Nat),i<q1→true=true)∧
 ∃(X_1:Z6),
 let q59:=brkX X_1;
 let q60:=q59.t;
 let q61:=q60.fund;
 let q62:=q60.index;
 let q63:=q60.cap;
 let q64:=q60.dust;
 let q65:=q60.fee;
 let q66:=q60.delay;
 let q67:=q60.k0;
 let q68:=q60.k1;
 let q69:=q59.side;
 let q70:=q59.res;
 let q71:=[q59.a0,q59.a1];
 let q72:=[q59.i0,q59.i1];
 let q73:=q59.L;
 let q74:=List.length q73;
 let q75:=decide (q74=q74);
 let q76:=X_1.L;
 let q77:=ZD q76;
 let q78:=List.length q77;
 let q79:=decide (q74=q27);
 LD [q3,q4,q5,q6,q7,q8,q9,q10,q11,q12,q13,q14,AV.nslice (ZE.mk 0 0 70 0 0) 70 q1 q1] q1 q15 X_1∧
 Z6.Inv Zo X_1∧
 (∀(i:Nat),i<q1→true=true)∧
 ∃(X_2:Z6),
 let q101:=ZD X_2.L;
 let q102:=List.length q101;
 let q103:=q78=q102;
 let q104:=brkX X_2;
 let q105:=q104.t;
 let q106:=q104.L;
 let q107:=List.length q106;
 let q108:=decide (q107=q27);
 LB [q3,q4,q5,q6,q7,q8,q9,q10,q11,q12,q13,q14,AV.nslice (ZE.mk 1 0 70 0 0) 70 q1 q1] q1 q15 X_2∧
 Z6.Inv Zo X_2∧
 q61=q61∧
 Z0 (decide (q62=q62))
 (Z0 (decide (q63=q63))
 (Z0 (decide (q64=q64))
 (Z0 (decide (q65=q65))
 (Z0 (decide (q66=q66))
 (q67=q67∧
 q68=q68∧
 Z0 (decide (q69=q69))
 (Z0 (decide (q70=q70))
 (q71=q71∧
 q72=q72∧
 Z0 q75
 (Z0 q75
 (Z0 (decide (0+q102≤q102))
 ((∀(i:Nat),i<q102→true=true)∧
 Z0 (decide (0+q78≤q78))
 ((∀(i:Nat),i<q78→true=true)∧
 ∃(A:List Z5),
 (q102=List.length A∧q102=q102∧q103∧q103)∧
 (ZK 0 (Z4 q101)=Z4 A∧ZK 0 (Z4 q77)=Z4 A)∧
 q102<1000∧
 (∀(h:Z5),List.Mem h A→Z5.Ok h)∧
 q61=q17∧Z0 (decide (q62=q18)) (Z0 (decide (q63=q19)) (Z0 (decide (q64=q20)) (Z0 (decide (q65=q21)) (Z0 (decide (q66=q22)) (q67=q23∧q68=q24∧Z0 (decide (q69=Y.side)) (Z0 (decide (q70=Y.res)) (q71=q25∧q72=q26∧Z0 q79 (Z0 (decide (q27≤q74)) (q105.fund=q17∧Z0 (decide (q105.index=q18)) (Z0 (decide (q105.cap=q19)) (Z0 (decide (q105.dust=q20)) (Z0 (decide (q105.fee=q21)) (Z0 (decide (q105.delay=q22)) (q105.k0=q23∧q105.k1=q24∧Z0 (decide (q104.side=Y.side)) (Z0 (decide (q104.res=Y.res)) ([q104.a0,q104.a1]=q25∧[q104.i0,q104.i1]=q26∧Z0 q108 (Z0 (decide (q27≤q107)) (Z0 q108 (Za 3 q28 q27 q29 (Z4 q106)∧Z0 q79 (Za 3 q28 q27 q29 (Z4 q73)∧Z0 (decide (List.length q76=q1)) (Za 3 q28 q1 q15 (Z4 q76)∧True) False) False) False) False) False) False) False) False) False) False) False) False) False) False) False) False) False) False) False) False) False)
 False)
 False)
 False)
 False)
 False)
 False)
 False)
 False)
 False)
 False)
 False) (by kernel_rfl) ?_
 conv=>zeta
 try simp only [Zg]
 try simp only [Zi]
 try simp only [Zh]
 try simp only [Zj]
 try simp only [Zk]
 try simp only [Ze]
 try simp only [Int.toNat_natCast,Nat.zero_add,true_and,and_true,Nat.le_refl]
 have hlen:=hI.am.n
 have hsb:a.secret.length≤B:=by rw [ha.secret];exact hB
 subst hY
 have okG:∀h∈ZD X.L,h.Ok:=fun h hh=>hI.ok h (VC hh).1
 have l2:(ZD X.L).length<1000:=by
  have:(ZD X.L).length≤X.L.length:=List.length_filter_le _ _
  omega
 repeat' first
  | exact hI
  | exact he
  | exact ha.secret
  | exact ha.sb
  | exact XY
  | exact hsb
  | exact hlen
  | exact beq_self_eq_true _
  | (intro _ _;trivial)
  | refine Exists.intro X (And.intro ⟨rfl,rfl,rfl⟩ ?_)
  | refine Exists.intro X (And.intro (.a rfl) ?_)
  | exact okG
  | exact l2
  | refine Exists.intro (ZD X.L) (And.intro ⟨rfl,rfl,rfl⟩ ?_)
  | apply And.intro
  | rfl
  | omega
  | exact Zn fun _ _=>rfl
end Go.Tk
end
section
namespace Go.Tk
open IntKind (i64 u8 u32 u64 wrap)
theorem Zd9 {X:Z6} (hI:X.Inv Zo) {o:Bool} {q:YV} (hq:q∈YI X.side o X.L):q.hash.length=32:=by
 unfold YI at hq
 obtain ⟨z,hz,rfl⟩:=List.mem_map.1 hq
 exact (hI.ok z (List.mem_filter.1 hz).1).hash
def nF:Ye:=fun _ _ _=>False
theorem Z9b {f:FuncId} (args:List AV) (h:Z9) (K:KO) (hl:nF args h K):Zm PP f args h K:=hl.elim
noncomputable def Zda (c:Bool):Zf:=(((((((G0.withF 35 nF).withF 36 nF).withF 39 nF).withF 41 nF).withF 23 (Z55 c)).withF 42 (Z32 c)).withP 43 Z34)
theorem Z6q (c:Bool):(Zda c).Ok:=Zf.withP_ok (Zf.withF_ok (Zf.withF_ok (Zf.withF_ok (Zf.withF_ok (Zf.withF_ok (Zf.withF_ok Zr Z9b) Z9b) Z9b) Z9b) (Z2X c)) (Z0U c)) Z0V
theorem Zjy (X:Z6) (a:Y0) (hI:X.Inv Zo) (ha:a.Ok) (hw:¬(0≤a.what∧a.what≤4)) (hk:0≤a.number∧a.number≤2147483647):
  evF (Zda true) 20 11 [.ptr (some ⟨0,0,0,0,0⟩),.agg (X.c (slH 2 X.L.length)),.agg a.c] (Z0y X) (Y7 3 (.ret (.tuple [.agg (X.c (slH 2 X.L.length)),.bool true])) 3 (Z36 X)):=by
 refine @Eq.mpr _ (let q1:=a.what;
 let q2:=List.length X.L;
 let q3:=X.t;
 let q4:=q3.fund;
 let q5:=q3.index;
 let q6:=q3.cap;
 let q7:=q3.dust;
 let q8:=q3.fee;
 let q9:=q3.delay;
 let q10:=q3.k0;
 let q11:=q3.k1;
 let q12:=X.side;
 let q13:=X.res;
 let q14:=[X.a0,X.a1];
 let q15:=[X.i0,X.i1];
 let q16:=Z4 X.L;
 let q17:=a.number;
 let q18:=0≤q17∧q17≤2147483647;
 let q19:=a.ours;
 let q20:=a.secret;
 let q21:=q4=q4;
 let q22:=decide (q5=q5);
 let q23:=decide (q6=q6);
 let q24:=decide (q7=q7);
 let q25:=decide (q8=q8);
 let q26:=decide (q9=q9);
 let q27:=q10=q10;
 let q28:=q11=q11;
 let q29:=decide (q12=q12);
 let q30:=decide (q13=q13);
 let q31:=q14=q14;
 let q32:=q15=q15;
 let q33:=decide (q2=q2);
 let q34:=decide (q2≤q2);
 let q35:=Za 3 [] q2 q16 q16;
 Z0 (q1==0) (Z0 a.own False False)
 (Z0 (q1==1) False
 (Z0 (q1==2) False
 (Z0 (q1==3) False
 (Z0 (q1==4) False
 (Z0 (decide (0+q2≤q2))
 ((∀(i:Nat),i<q2→true=true)∧
 ∃(X_1:Z6),
 let q71:=[AV.arr u8 32 q4,AV.int i64 q5,AV.int i64 q6,AV.int i64 q7,AV.int i64 q8,AV.int i64 q9,AV.arr u8 32 q10,AV.arr u8 32 q11,AV.int i64 q12,AV.int i64 q13,AV.arr i64 2 q14,AV.arr i64 2 q15,AV.vrows 70 q2 (ZK 0 q16) q2];
 let q72:=YI X_1.side q19 X_1.L;
 let q73:=List.length q72;
 LV q71 X_1∧
 Z6.Inv Zo X_1∧
 q18∧
 Z0 (decide (0+q2≤q2))
 ((∀(i:Nat),i<q2→true=true)∧
 ∃(X_2:Z6),
 let q77:=YI X_2.side q19 X_2.L;
 let q78:=List.length q77;
 let q79:=q73=q78;
 LV q71 X_2∧
 Z6.Inv Zo X_2∧
 q18∧
 Z0 (decide (0+q78≤q78))
 ((∀(i:Nat),i<q78→true=true)∧
 Z0 (decide (0+q73≤q73))
 ((∀(i:Nat),i<q73→true=true)∧
 ∃(P:List YV),(q78=List.length P∧q78=q78∧q79∧q79)∧(ZK 0 (ZG q77)=ZG P∧ZK 0 (ZG q72)=ZG P)∧(q17=q17∧ZP X_1.side q19=ZP X_2.side q19∧q20=q20∧(Z16 X_1 q19).fst=(Z16 X_2 q19).fst∧(Z16 X_1 q19).snd=(Z16 X_2 q19).snd)∧List.length q20=32∧q78<1000∧(∀(q:YV),List.Mem q P→List.length q.hash=32)∧q21∧Z0 q22 (Z0 q23 (Z0 q24 (Z0 q25 (Z0 q26 (q27∧q28∧Z0 q29 (Z0 q30 (q31∧q32∧Z0 q33 (Z0 q33 (q21∧Z0 q22 (Z0 q23 (Z0 q24 (Z0 q25 (Z0 q26 (q27∧q28∧Z0 q29 (Z0 q30 (q31∧q32∧Z0 q33 (Z0 q34 (q21∧Z0 q22 (Z0 q23 (Z0 q24 (Z0 q25 (Z0 q26 (q27∧q28∧Z0 q29 (Z0 q30 (q31∧q32∧Z0 q33 (Z0 q34 (Z0 q33 (q35∧Z0 q33 (q35∧True) False) False) False) False) False) False) False) False) False) False) False) False) False) False) False) False) False) False) False) False) False) False) False) False) False) False) False) False) False)
 False)
 False)
 False)
 False)))))) (by kernel_rfl) ?_
 conv=>zeta
 try simp only [Zg]
 try simp only [Zi]
 try simp only [Zh]
 try simp only [Zj]
 try simp only [Zk]
 try simp only [Ze]
 try simp only [Int.toNat_natCast,Nat.zero_add,true_and,and_true,Nat.le_refl]
 have e:∀k:Int,0≤k→k≤4→(a.what==k)=false:=fun k h1 h2=>by
  rw [beq_eq_false_iff_ne];omega
 have l1:(YI X.side a.ours X.L).length<1000:=by
  have:=UC X.side a.ours X.L
  have:=hI.len
  omega
 have okP:∀q∈YI X.side a.ours X.L,q.hash.length=32:=fun q hq=>Zd9 hI hq
 refine ⟨fun h=>absurd h (by rw [e 0 (by decide) (by decide)];simp),fun _=>⟨e 1 (by decide) (by decide),e 2 (by decide) (by decide),e 3 (by decide) (by decide),e 4 (by decide) (by decide),fun _ _=>trivial,X,.a rfl,hI,hk,fun _ _=>trivial,X,.a rfl,hI,hk, ?_⟩⟩
 exact ⟨fun _ _=>trivial,fun _ _=>trivial,YI X.side a.ours X.L,⟨rfl,rfl,rfl⟩,⟨rfl,rfl⟩,⟨rfl,rfl,rfl⟩,ha.secret,l1,okP,Zn fun _ _=>rfl,Zn fun _ _=>rfl⟩
theorem Zjz (X:Z6) (a:Y0) (hI:X.Inv Zo) (ha:a.Ok) (hw:¬(0≤a.what∧a.what≤4)) (hk:¬(0≤a.number∧a.number≤2147483647)):
  evF (Zda false) 20 11 [.ptr (some ⟨0,0,0,0,0⟩),.agg (X.c (slH 2 X.L.length)),.agg a.c] (Z0y X) (Y7 3 (.ret (.tuple [.agg (X.c (slH 2 X.L.length)),.bool true])) 3 (Z36 X)):=by
 refine @Eq.mpr _ (let q1:=a.what;
 let q2:=List.length X.L;
 let q3:=X.t;
 let q4:=q3.fund;
 let q5:=q3.index;
 let q6:=q3.cap;
 let q7:=q3.dust;
 let q8:=q3.fee;
 let q9:=q3.delay;
 let q10:=q3.k0;
 let q11:=q3.k1;
 let q12:=X.side;
 let q13:=X.res;
 let q14:=[X.a0,X.a1];
 let q15:=[X.i0,X.i1];
 let q16:=Z4 X.L;
 let q17:=¬(0≤a.number∧a.number≤2147483647);
 let q18:=q4=q4;
 let q19:=decide (q5=q5);
 let q20:=decide (q6=q6);
 let q21:=decide (q7=q7);
 let q22:=decide (q8=q8);
 let q23:=decide (q9=q9);
 let q24:=q10=q10;
 let q25:=q11=q11;
 let q26:=decide (q12=q12);
 let q27:=decide (q13=q13);
 let q28:=q14=q14;
 let q29:=q15=q15;
 let q30:=decide (q2=q2);
 let q31:=decide (q2≤q2);
 let q32:=Za 3 [] q2 q16 q16;
 Z0 (q1==0) (Z0 a.own False False)
 (Z0 (q1==1) False
 (Z0 (q1==2) False
 (Z0 (q1==3) False
 (Z0 (q1==4) False
 (Z0 (decide (0+q2≤q2))
 ((∀(i:Nat),i<q2→true=true)∧
 ∃(X:Z6),
 let q65:=[AV.arr u8 32 q4,AV.int i64 q5,AV.int i64 q6,AV.int i64 q7,AV.int i64 q8,AV.int i64 q9,AV.arr u8 32 q10,AV.arr u8 32 q11,AV.int i64 q12,AV.int i64 q13,AV.arr i64 2 q14,AV.arr i64 2 q15,AV.vrows 70 q2 (ZK 0 q16) q2];
 LV q65 X∧Z6.Inv Zo X∧q17∧Z0 (decide (0+q2≤q2)) ((∀(i:Nat),i<q2→true=true)∧∃(X:Z6),LV q65 X∧Z6.Inv Zo X∧q17∧((0:Int)=0∧(0:Int)=0∧Zd=Zd∧(0:Int)=0∧(0:Int)=0)∧(32:Nat)=32∧q18∧Z0 q19 (Z0 q20 (Z0 q21 (Z0 q22 (Z0 q23 (q24∧q25∧Z0 q26 (Z0 q27 (q28∧q29∧Z0 q30 (Z0 q30 (q18∧Z0 q19 (Z0 q20 (Z0 q21 (Z0 q22 (Z0 q23 (q24∧q25∧Z0 q26 (Z0 q27 (q28∧q29∧Z0 q30 (Z0 q31 (q18∧Z0 q19 (Z0 q20 (Z0 q21 (Z0 q22 (Z0 q23 (q24∧q25∧Z0 q26 (Z0 q27 (q28∧q29∧Z0 q30 (Z0 q31 (Z0 q30 (q32∧Z0 q30 (q32∧True) False) False) False) False) False) False) False) False) False) False) False) False) False) False) False) False) False) False) False) False) False) False) False) False) False) False) False) False) False) False)
 False)))))) (by kernel_rfl) ?_
 conv=>zeta
 try simp only [Zg]
 try simp only [Zi]
 try simp only [Zh]
 try simp only [Zj]
 try simp only [Zk]
 try simp only [Ze]
 try simp only [Int.toNat_natCast,Nat.zero_add,true_and,and_true,Nat.le_refl]
 have e:∀k:Int,0≤k→k≤4→(a.what==k)=false:=fun k h1 h2=>by
  rw [beq_eq_false_iff_ne];omega
 have l1:(YI X.side a.ours X.L).length<1000:=by
  have:=UC X.side a.ours X.L
  have:=hI.len
  omega
 have okP:∀q∈YI X.side a.ours X.L,q.hash.length=32:=fun q hq=>Zd9 hI hq
 refine ⟨fun h=>absurd h (by rw [e 0 (by decide) (by decide)];simp),fun _=>⟨e 1 (by decide) (by decide),e 2 (by decide) (by decide),e 3 (by decide) (by decide),e 4 (by decide) (by decide),fun _ _=>trivial,X,.a rfl,hI,hk,fun _ _=>trivial,X,.a rfl,hI,hk, ?_⟩⟩
 exact ⟨Zn fun _ _=>rfl,Zn fun _ _=>rfl⟩
def actX (X:Z6) (a:Y0):Z6:=if a.what=0 then addX X a.own (idA X a) a.amount (Zo a.secret) a.expiry else if a.what=1 then endX Zo X (Y6 X a).1 (Y6 X a).2 1 a.secret else if a.what=2 then endX Zo X (Y6 X a).1 (Y6 X a).2 2 Zd else if a.what=3 then stpX X a.move else if a.what=4 then brkX X else X
def We (X:Z6) (a:Y0):Prop:=if a.what=0 then Xp X a.own (idA X a) a.amount (Zo a.secret) a.expiry≠0 else if a.what=1 then YY Zo X (Y6 X a).1 (Y6 X a).2 1 a.secret≠0 else if a.what=2 then YY Zo X (Y6 X a).1 (Y6 X a).2 2 Zd≠0 else if a.what=3 then ¬(1≤a.move∧a.move≤4) else if a.what=4 then False else True
theorem Zdb {X:Z6} {a:Y0} (h:We X a):actX X a=X:=by
 unfold We at h
 unfold actX
 split
 ·rename_i q;rw [if_pos q] at h;unfold addX;rw [if_neg h]
 ·rename_i q;rw [if_neg q] at h
  split
  ·rename_i q;rw [if_pos q] at h;unfold endX;rw [if_neg h]
  ·rename_i q;rw [if_neg q] at h
   split
   ·rename_i q;rw [if_pos q] at h;unfold endX;rw [if_neg h]
   ·rename_i q;rw [if_neg q] at h
    split
    ·rename_i q;rw [if_pos q] at h;unfold stpX;rw [if_neg h]
    ·rename_i q;rw [if_neg q] at h
     split
     ·rename_i q;rw [if_pos q] at h;exact h.elim
     ·rfl
theorem Z0z {xs:List Int} (h:∀x∈xs,0≤x∧x≤255):Bytes xs:=⟨fun i=>by
 rw [List.getD_eq_getElem?_getD]
 rcases Nat.lt_or_ge i xs.length with q|q
 ·rw [List.getElem?_eq_getElem q];exact h _ (List.getElem_mem q)
 ·rw [List.getElem?_eq_none q];exact ⟨by decide,by decide⟩⟩
theorem Zao (n:Int):∀x∈WP n,0≤x∧x≤255:=fun x hx=>by
 unfold WP at hx
 simp only [List.mem_cons,List.not_mem_nil,or_false] at hx
 rcases hx with rfl|rfl|rfl|rfl<;>exact ZjV _
theorem Z7Z (bs:List Int):Bytes (Zo bs):=Z0z fun x hx=>by
 unfold Zo ZA.fin Z5R at hx
 simp only [List.mem_append] at hx
 rcases hx with ((((((hx|hx)|hx)|hx)|hx)|hx)|hx)|hx<;>exact Zao _ x hx
theorem Z6.Inv.actX {X:Z6} (h:X.Inv Zo) {a:Y0} (ha:a.Ok):(actX X a).Inv Zo:=by
 unfold Go.Tk.actX
 split
 ·exact h.addX (Vh _) (Z7Z _)
 ·split
  ·exact h.endX ha.secret ha.sb (.inl rfl)
  ·split
   ·exact h.endX rfl XY (.inr ⟨rfl,rfl⟩)
   ·split
    ·exact h.stpX _
    ·split
     ·exact h.brkX
     ·exact h
theorem Zdc (X:Z6) (a:Y0):(actX X a).t=X.t:=by
 unfold actX
 split
 ·unfold addX
  split
  ·cases a.own<;>rfl
  ·rfl
 ·split
  ·unfold endX;split<;>rfl
  ·split
   ·unfold endX;split<;>rfl
   ·split
    ·unfold stpX;split<;>rfl
    ·split
     ·rfl
     ·rfl
theorem Zfr {a:Y0} (ha:a.Ok):Wk a.secret=Zo a.secret:=Z8C (Z6n ha.sb) (by have:=ha.secret;omega)
theorem Spec.act {X:Z6} {a:Y0} (hI:X.Inv Zo) (ha:a.Ok):(We X a→Spec PP 11 [.ptr (some ⟨0,0,0,0,0⟩),.agg (X.c (slH 2 X.L.length)),.agg a.c] (Z0y X) (.ret (.tuple [.agg (X.c (slH 2 X.L.length)),.bool true])) 3 (Z36 X))∧(¬We X a→Spec PP 11 [.ptr (some ⟨0,0,0,0,0⟩),.agg (X.c (slH 2 X.L.length)),.agg a.c] (Z0y X) (.ret (.tuple [.agg ((actX X a).c (slH 4 (actX X a).L.length)),.bool true])) 5 (Zan X (actX X a))):=by
 have hs:=Zfr ha
 obtain ⟨w,ow,of,am,ex,se,at',mo,ou,nu⟩:=a
 by_cases h0:w=0
 ·subst h0
  refine ⟨fun hk=> ?_,fun hk=> ?_⟩
  ·exact .evM (Wm false) (Zjq X ⟨0,ow,of,am,ex,se,at',mo,ou,nu⟩ Wk 1000 _ hI ha (by decide) hs (Vh _) hk)
  ·exact .evM (Wm true) (Zjp X _ ⟨0,ow,of,am,ex,se,at',mo,ou,nu⟩ Wk 1000 _ hI ha (by decide) hs (Vh _) rfl (by
    have:¬(Xp X ow (idA X ⟨0,ow,of,am,ex,se,at',mo,ou,nu⟩) am (Zo se) ex≠0):=hk
    simpa using this))
 by_cases h1:w=1
 ·subst h1
  refine ⟨fun hk=> ?_,fun hk=> ?_⟩
  ·exact .evM (Wm false) (Zjs X ⟨1,ow,of,am,ex,se,at',mo,ou,nu⟩ Wk 1000 hI ha (by decide) hk)
  ·exact .evM (Wm true) (Zjr X _ ⟨1,ow,of,am,ex,se,at',mo,ou,nu⟩ Wk 1000 hI ha (by decide) (by
    have:¬(YY Zo X (Y6 X ⟨1,ow,of,am,ex,se,at',mo,ou,nu⟩).1 (Y6 X ⟨1,ow,of,am,ex,se,at',mo,ou,nu⟩).2 1 se≠0):=hk
    simpa using this) rfl)
 by_cases h2:w=2
 ·subst h2
  refine ⟨fun hk=> ?_,fun hk=> ?_⟩
  ·exact .evM (Wm false) (Zju X ⟨2,ow,of,am,ex,se,at',mo,ou,nu⟩ Wk 1000 hI ha (by decide) hk)
  ·exact .evM (Wm true) (Zjt X _ ⟨2,ow,of,am,ex,se,at',mo,ou,nu⟩ Wk 1000 hI ha (by decide) (by
    have:¬(YY Zo X (Y6 X ⟨2,ow,of,am,ex,se,at',mo,ou,nu⟩).1 (Y6 X ⟨2,ow,of,am,ex,se,at',mo,ou,nu⟩).2 2 Zd≠0):=hk
    simpa using this) rfl)
 by_cases h3:w=3
 ·subst h3
  refine ⟨fun hk=> ?_,fun hk=> ?_⟩
  ·exact .evM (Wm false) (Zjw X ⟨3,ow,of,am,ex,se,at',mo,ou,nu⟩ Wk 1000 hI ha (by decide) hk)
  ·exact .evM (Wm true) (Zjv X _ ⟨3,ow,of,am,ex,se,at',mo,ou,nu⟩ Wk 1000 hI ha (by decide) (Classical.not_not.1 hk) rfl)
 by_cases h4:w=4
 ·subst h4
  refine ⟨fun hk=>hk.elim,fun hk=> ?_⟩
  exact .evM (Wm true) (Zjx X _ ⟨4,ow,of,am,ex,se,at',mo,ou,nu⟩ Wk 1000 hI ha (by decide) trivial rfl)
 refine ⟨fun _=> ?_,fun hk=>absurd ?_ hk⟩
 ·by_cases hn:0≤nu∧nu≤2147483647
  ·exact .evM (Z6q true) (Zjy X ⟨w,ow,of,am,ex,se,at',mo,ou,nu⟩ hI ha (show ¬(0≤w∧w≤4) by omega) hn)
  ·exact .evM (Z6q false) (Zjz X ⟨w,ow,of,am,ex,se,at',mo,ou,nu⟩ hI ha (show ¬(0≤w∧w≤4) by omega) hn)
 ·unfold We
  rw [if_neg h0,if_neg h1,if_neg h2,if_neg h3,if_neg h4]
  trivial
structure LA (cs:List AV) (n:Nat) (f:Nat→List AV) (ws:List AV) (m:Nat) (g:Nat→List AV) (X:Z6):Prop where
 h1:cs=X.c (slH 1 X.L.length)
 h2:n=X.L.length
 h3:f=Z4 X.L
 h4:ws=X.c (slH 2 X.L.length)
 h5:m=X.L.length
 h6:g=Z4 X.L
def ZhB:Ye:=fun args h K=>match args with
 | [.ptr (some ⟨l,0,0,0,0⟩),.agg [_,_,_,_,_,_,_,_,_,_,_,_,.nslice ⟨d,0,70,0,0⟩ 70 _ _],_]=>match h.get l with
  |some (.flat [_,_,_,_,_,_,_,_,_,_,_,_,.nslice ⟨b,0,70,0,0⟩ 70 _ _])=>frA [l,b,d] h 20 args fun Bs v=>match Bs,v with
   | [.flat cs,.rows 70 n f,.rows 70 m g],[.ptr (some ⟨0,0,0,0,0⟩),.agg ws,.agg [.int .i64 w,.bool ow,.int .i64 of,.int .i64 am,.int .i64 ex,.arr .u8 32 se,.int .i64 at',.int .i64 mo,.bool ou,.int .i64 nu]]=>
    ∃X a,a=⟨w,ow,of,am,ex,se,at',mo,ou,nu⟩∧LA cs n f ws m g X∧X.Inv Zo∧Y0.Ok a∧(We X a→K (.ret (.tuple [.agg (X.c (slH d X.L.length)),.bool true])) ⟨h.next,(l,.flat (X.c (slH b X.L.length)))::(b,.rows 70 X.L.length (Z4 X.L))::(d,.rows 70 X.L.length (Z4 X.L))::Yw (Yw (Yw h.bs l) b) d⟩)∧
     (¬We X a→K (.ret (.tuple [.agg ((actX X a).c (slH (h.next+1) (actX X a).L.length)),.bool true])) ⟨h.next+2,(l,.flat ((actX X a).c (slH h.next (actX X a).L.length)))::(h.next,.rows 70 (actX X a).L.length (Z4 (actX X a).L))::(h.next+1,.rows 70 (actX X a).L.length (Z4 (actX X a).L))::(d,.rows 70 X.L.length (Z4 X.L))::Yw (Yw (Yw h.bs l) b) d⟩)
   | _,_=>False
  | _=>False
 | _=>False
theorem Zfs (args:List AV) (h:Z9) (K:KO) (hl:ZhB args h K):Zm PP 11 args h K:=by
 unfold ZhB at hl
 split at hl
 ·split at hl
  ·refine Spec.fsumm hl fun Bs a hlen hK0=> ?_
   split at hK0
   ·obtain ⟨X,a,he,⟨rfl,rfl,rfl,rfl,rfl,rfl⟩,hI,ha,hK1,hK2⟩:=hK0
    obtain ⟨s1,s2⟩:=Spec.act hI ha
    by_cases hk:We X a
    ·have hK:=hK1 hk
     have hs:=s1 hk
     subst he
     exact ⟨_,_,_,_,_,hs,by simp,.ret _ _ rfl,.cons _ _ _ _ _ _ rfl (.flat _ _ rfl) (.cons _ _ _ _ _ _ rfl (.rows _ _ _ (fun _ _=>rfl)) (.cons _ _ _ _ _ _ rfl (.rows _ _ _ (fun _ _=>rfl)) .nil)),hK⟩
    ·have hK:=hK2 hk
     have hs:=s2 hk
     subst he
     exact ⟨_,_,_,_,_,hs,by simp,.ret _ _ rfl,.cons _ _ _ _ _ _ rfl (.flat _ _ rfl) (.cons _ _ _ _ _ _ rfl (.rows _ _ _ (fun _ _=>rfl)) (.cons _ _ _ _ _ _ rfl (.rows _ _ _ (fun _ _=>rfl)) (.cons _ _ _ _ _ _ rfl (.rows _ _ _ (fun _ _=>rfl)) .nil))),hK⟩
   ·exact hK0.elim
  ·exact hl.elim
 ·exact hl.elim
end Go.Tk
end
