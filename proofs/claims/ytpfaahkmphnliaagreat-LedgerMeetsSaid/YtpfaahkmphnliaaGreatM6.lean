/- M: part 6 of an engine (a symbolic evaluator, proved against the model) and of the walk by it. -/
import Derived.Test.YtpfaahkmphnliaaGreatM5
import Derived.Test.YtpfaahkmphnliaaGreatRows
import Derived.ChangeOld
set_option linter.unusedVariables false
set_option linter.unusedSimpArgs false
set_option maxRecDepth 100000
set_option maxHeartbeats 0
section
namespace Go.Tk
open IntKind (i64 u8 u32 u64 wrap)
structure Ze.Okb (m:Ze):Prop where
 ok:m.Ok
 hb:Bytes m.o.hash
theorem Ziq (a b:Ze) (r:Bool) (ha:a.Okb) (hb:b.Okb) (hr:r=ltM a b):
  evF (G0.withP 184 ZfD) 20 171 [.agg a.c,.agg b.c] ⟨0,[]⟩ (YM (fun v=>v=.bool r)):=by
 refine @Eq.mpr _ (let q1:=a.o;
 let q2:=q1.amount;
 let q3:=b.o;
 let q4:=q3.amount;
 let q5:=AV.bool r;
 let q6:=q1.kind;
 let q7:=q3.kind;
 let q8:=q1.expiry;
 let q9:=q3.expiry;
 let q10:=q1.hash;
 let q11:=q3.hash;
 let q12:=VV q10 q11;
 Z0 (q2 !=q4) (AV.bool (decide (q2<q4))=q5) (Z0 (q6 !=q7) (AV.bool (decide (q6<q7))=q5) (Z0 (q8 !=q9) (AV.bool (decide (q8<q9))=q5) ((List.length q10=32∧List.length q11=32)∧Bytes q10∧Bytes q11∧Z0 (q12 !=0) (AV.bool (decide (q12<0))=q5) (AV.bool (decide (a.id<b.id))=q5))))) (by kernel_rfl) ?_
 conv=>zeta
 try simp only [Zi]
 try simp only [Zj]
 try simp only [Zk]
 try simp only [Zl]
 try simp only [Zm]
 try simp only [Zh]
 try simp only [Int.toNat_natCast,Nat.zero_add,true_and,and_true,Nat.le_refl]
 have h4:=Z9P (ha.ok.hash.trans hb.ok.hash.symm)
 have k1:=ha.ok.hash
 have k2:=hb.ok.hash
 have k3:=ha.hb
 have k4:=hb.hb
 subst hr
 unfold ltM
 generalize VV a.o.hash b.o.hash=c4 at*
 generalize Yx a.o.hash=v1 at*
 generalize Yx b.o.hash=v2 at*
 refine ⟨fun h1=> ?_,fun h1=>⟨fun h2=> ?_,fun h2=>⟨fun h3=> ?_,fun h3=>⟨⟨k1,k2⟩,k3,k4,fun h5=> ?_,fun h5=> ?_⟩⟩⟩⟩
 all_goals
  simp only [bne_iff_ne,ne_eq,bne_eq_false_iff_eq] at*
  congr 1
  rw [decide_eq_decide]
  omega
def Zc7:ZU:=fun args _ K=>match args with
 | [.agg ca,.agg cb]=>∃a b,ca=Ze.c a∧cb=Ze.c b∧(a.Okb∧b.Okb)∧K (.bool (ltM a b))
 | _=>False
theorem Zc8 (args:List AV) (h:Z6) (K:AV→Prop) (hl:Zc7 args h K):Zn PP 171 args h fun o h'=>∃v,o=.ret v∧h'=h∧K v:=by
 unfold Zc7 at hl
 split at hl
 ·obtain ⟨a,b,rfl,rfl,⟨h1,h2⟩,hK⟩:=hl
  exact Yq (Zf.withP_ok ZB Zdi) rfl (Ziq a b _ h1 h2 rfl) (fun u hu=>hu▸hK)
 ·exact hl.elim
def W9 (m:Ze) (s:List Ze×Bool) (x:Ze):List Ze×Bool:=match !s.2&&ltM m x with
 | true=>(s.1++[m]++[x],true)
 | false=>(s.1++[x],s.2)
def puN (m:Ze) (L:List Ze) (i:Nat):List Ze×Bool:=(L.take i).foldl (W9 m) ([],false)
def Z8A (m:Ze) (s:List Ze×Bool):List Ze:=match s.2 with
 | true=>s.1
 | false=>s.1++[m]
theorem Z6e (m:Ze) (L:List Ze) {i:Nat} (hi:i<L.length):puN m L (i+1)=W9 m (puN m L i) (L.getD i Vn):=by
 unfold puN
 rw [List.take_succ_eq_append_getElem hi,List.foldl_append,List.getD_eq_getElem?_getD,List.getElem?_eq_getElem hi]
 rfl
theorem Z6f (m:Ze):∀(L O:List Ze),L.foldl (W9 m) (O,true)=(O++L,true)
 | [],O=>by simp
 | x::r,O=>by
  rw [List.foldl_cons]
  show List.foldl (W9 m) (O++[x],true) r=_
  rw [Z6f m r];simp
theorem Z8B (m:Ze):∀(L O:List Ze),Z8A m (L.foldl (W9 m) (O,false))=O++Xg ltM m L
 | [],O=>rfl
 | x::r,O=>by
  rw [List.foldl_cons]
  unfold Xg
  cases h:ltM m x with
  | true=>
   have:W9 m (O,false) x=(O++[m]++[x],true):=by unfold W9;rw [h];rfl
   rw [this,Z6f]
   simp [Z8A]
  | false=>
   have:W9 m (O,false) x=(O++[x],false):=by unfold W9;rw [h];rfl
   rw [this,Z8B m r]
   simp
theorem Ze1 (m:Ze) (L:List Ze):Z8A m (puN m L L.length)=Xg ltM m L:=by
 unfold puN
 rw [List.take_length,Z8B];rfl
theorem Zg5 {O P:List Ze} {c i:Nat} (hc:O.length=c):Yc c (Zw O) (Zw P) i=Zw (O++P) i:=by
 unfold Zw
 rcases Nat.lt_or_ge i c with h|h
 ·rw [QT h,List.getD_eq_getElem?_getD,List.getD_eq_getElem?_getD,List.getElem?_append_left (by omega)]
 ·rw [UC h,List.getD_eq_getElem?_getD,List.getD_eq_getElem?_getD,List.getElem?_append_right (by omega),hc]
theorem Z4V (m:Ze) (L:List Ze):∀i,i≤L.length→(puN m L i).1.length≤i+1∧((puN m L i).2=false→(puN m L i).1.length=i)
 | 0,_=>by simp [puN]
 | i+1,h=>by
  obtain ⟨h1,h2⟩:=Z4V m L i (by omega)
  rw [Z6e m L (by omega)]
  unfold W9
  cases hd:(puN m L i).2 with
  | true=>simp;omega
  | false=>
   have:=h2 hd
   cases ltM m (L.getD i Vn)<;>simp<;>omega
def puS (n:Nat) (L:List Ze) (m:Ze) (i c:Nat) (D:Bool) (O:List Ze):St:=⟨42,[(7,.int .i64 i),(0,.vrows 134 n (Zw L) n),(6,.bool D),(3,.ptr (some ⟨0,0,0,0,0⟩)),(5,.nslice ⟨1,0,134,0,0⟩ 134 c c)],⟨2,[(0,.flat m.c),(1,.rows 134 c (Zw O))]⟩,[]⟩
def puE (m:Ze) (c:Nat) (D:Bool) (O:List Ze):St:=⟨42,[(6,.bool D),(3,.ptr (some ⟨0,0,0,0,0⟩)),(5,.nslice ⟨1,0,134,0,0⟩ 134 c c)],⟨2,[(0,.flat m.c),(1,.rows 134 c (Zw O))]⟩,[]⟩
noncomputable def E84:Zf:=G0.withP 171 Zc7
theorem ZfW:E84.Ok:=Zf.withP_ok ZB Zc8
theorem Vo {f:Nat→List AV} {O:List Ze} {x:Ze} {c i:Nat} (hc:O.length=c) (hf:∀i,i<c→f i=Zw O i) (hi:i<c+1):Yc c f (Xk (Ze.c x) 0 134) i=Zw (O++[x]) i:=by
 rcases Nat.lt_or_ge i c with h|h
 ·rw [QT h,hf i h]
  unfold Zw
  rw [List.getD_eq_getElem?_getD,List.getD_eq_getElem?_getD,List.getElem?_append_left (by omega)]
 ·have e:i=c:=by omega
  subst e
  rw [UC (Nat.le_refl _),Nat.sub_self]
  unfold Zw
  rw [List.getD_eq_getElem?_getD,List.getElem?_append_right (by omega),hc,Nat.sub_self]
  rfl
theorem Zir (n i c c1:Nat) (L O O1:List Ze) (m:Ze) (D D1:Bool) (Z1 Z2:Prop) (hn:n<1000) (hL:L.length=n) (hi:i≤n) (hO:O.length=c) (hci:c≤i+1) (hm:m.Okb) (hok:∀x∈L,x.Okb) (h1:i<n→W9 m (O,D) (L.getD i Vn)=(O1,D1)) (hc1:c1=O1.length) (hZ1:i<n→Z1) (hZ2:i=n→Z2):
  ZY E84 20 133 0 0 (puS n L m i c D O) (rdM 0 0 9 (puS n L m (i+1) c1 D1 O1) (puE m c D O) (puE m c D O) (puE m c D O) Z1 Z2 False False):=by
 refine @Eq.mpr _ (let q1:=decide (0≤(↑i:Int)∧(↑i:Int)<(↑n:Int));
 let q2:=m.o;
 let q3:=q2.kind;
 let q4:=q2.amount;
 let q5:=q2.owner;
 let q6:=q2.other;
 let q7:=q2.point;
 let q8:=q2.hash;
 let q9:=q2.delay;
 let q10:=q2.expiry;
 let q11:=m.id;
 let q12:=m.what;
 let q13:=[AV.int i64 q3,AV.int i64 q4,AV.arr u8 32 q5,AV.arr u8 32 q6,AV.arr u8 32 q7,AV.arr u8 32 q8,AV.int i64 q9,AV.int i64 q10,AV.int i64 q11,AV.int i64 q12];
 let q14:=List.getD L (Int.toNat (↑i:Int)) Vn;
 let q15:=q14.o;
 let q16:=[AV.int i64 q15.kind,AV.int i64 q15.amount,AV.arr u8 32 q15.owner,AV.arr u8 32 q15.other,AV.arr u8 32 q15.point,AV.arr u8 32 q15.hash,AV.int i64 q15.delay,AV.int i64 q15.expiry,AV.int i64 q14.id,AV.int i64 q14.what];
 let q17:=decide (c=c);
 let q18:=c+1;
 let q19:=decide (q18*176≤140737488355328);
 let q20:=q18+1;
 let q21:=decide (wrap i64 ((↑i:Int)+1)=(↑(i+1):Int));
 let q22:=decide (n=n);
 let q23:=Zw L=Zw L;
 let q24:=decide (q20=c1);
 let q25:=decide (q3=q3);
 let q26:=decide (q4=q4);
 let q27:=q5=q5;
 let q28:=q6=q6;
 let q29:=q7=q7;
 let q30:=q8=q8;
 let q31:=decide (q9=q9);
 let q32:=decide (q10=q10);
 let q33:=decide (q11=q11);
 let q34:=decide (q12=q12);
 let q35:=[(0,0)];
 let q36:=Zw O;
 let q37:=Xk q16 0 134;
 let q38:=decide (q18=c1);
 let q39:=Z0 q1 (Z0 q17 (Z0 q19 (Z0 q21 (Z0 q22 (q23∧Z0 q22 (Z0 (decide (D=D1)) (Z0 q38 (Z0 (decide (c1≤q18)) (Z0 q25 (Z0 q26 (q27∧q28∧q29∧q30∧Z0 q31 (Z0 q32 (Z0 q33 (Z0 q34 (Z0 q38 (Zd 0 ((1,3)::q35) c1 (Zw O1) (Yc c q36 q37)∧Z1) False) False) False) False) False) False) False) False) False) False) False) False) False) False) False) False;
 Z0 (decide ((↑i:Int)<(↑n:Int))) (Z0 (!D) (Z0 q1 (∃(a:Ze),∃(b:Ze),q13=Ze.c a∧q16=Ze.c b∧(Ze.Okb a∧Ze.Okb b)∧Z0 (ltM a b) (Z0 q17 (Z0 q19 (Z0 q1 (Z0 (decide (q18=q18)) (Z0 (decide (q20*176≤140737488355328)) (Z0 q21 (Z0 q22 (q23∧Z0 q22 (Z0 (decide (true=D1)) (Z0 q24 (Z0 (decide (c1≤q20)) (Z0 q25 (Z0 q26 (q27∧q28∧q29∧q30∧Z0 q31 (Z0 q32 (Z0 q33 (Z0 q34 (Z0 q24 (Zd 0 ((1,5)::q35) c1 (Zw O1) (Yc q18 (Yc c q36 (Xk q13 0 134)) q37)∧Z1) False) False) False) False) False) False) False) False) False) False) False) False) False) False) False) False) False) False) q39) False) q39) (Z0 (decide (D=D)) (Z0 q17 (Z0 (decide (c≤c)) (Z0 q25 (Z0 q26 (q27∧q28∧q29∧q30∧Z0 q31 (Z0 q32 (Z0 q33 (Z0 q34 (Z0 q17 (Zd 0 ((1,1)::q35) c q36 q36∧Z2) False) False) False) False) False) False) False) False) False) False)) (by kernel_rfl) ?_
 conv=>zeta
 try simp only [Zi]
 try simp only [Zj]
 try simp only [Zk]
 try simp only [Zl]
 try simp only [Zm]
 try simp only [Zh]
 try simp only [Int.toNat_natCast,Nat.zero_add,true_and,and_true,Nat.le_refl]
 refine ⟨fun hc=> ?_,fun hc=>⟨Y2 fun _ _=>rfl,hZ2 (by omega)⟩⟩
 have hlt:i<n:=by omega
 have h1:=h1 hlt
 have hwr:i64.wrap ((i:Int)+1)=((i+1:Nat):Int):=by rw [w64 (by omega)];omega
 have hx:(L.getD i Vn).Okb:=hok _ (by rw [List.getD_eq_getElem?_getD,List.getElem?_eq_getElem (show i<L.length by omega)];exact List.getElem_mem _)
 generalize L.getD i Vn=x at*
 unfold W9 at h1
 refine ⟨fun hD=> ?_,fun hD=> ?_⟩
 ·have hD:D=false:=by simpa using hD
  refine ⟨by omega,m,x,rfl,rfl,⟨hm,hx⟩,fun hlt=> ?_,fun hlt=> ?_⟩
  ·rw [hD,hlt] at h1
   simp only [Bool.not_false,Bool.and_self,Prod.mk.injEq] at h1
   obtain ⟨h1,h2⟩:=h1
   subst h1 h2
   have hl:c1=c+1+1:=by rw [hc1];simp [hO]
   subst hl
   refine ⟨by omega,by omega,by omega,hwr,rfl,rfl,Nat.le_refl _,rfl,Y2 fun j hj=> ?_,hZ1 (by omega)⟩
   exact Vo (by simp [hO]) (fun k hk=>Vo hO (fun _ _=>rfl) hk) hj
  ·rw [hD,hlt] at h1
   simp only [Bool.not_false,Bool.and_false,Prod.mk.injEq] at h1
   obtain ⟨h1,h2⟩:=h1
   subst h1 h2
   have hl:c1=c+1:=by rw [hc1];simp [hO]
   subst hl
   exact ⟨by omega,by omega,hwr,hD,rfl,Nat.le_refl _,rfl,Y2 fun j hj=>Vo hO (fun _ _=>rfl) hj,hZ1 (by omega)⟩
 ·have hD:D=true:=by simpa using hD
  rw [hD] at h1
  simp only [Bool.not_true,Bool.false_and,Prod.mk.injEq] at h1
  obtain ⟨h1,h2⟩:=h1
  subst h1 h2
  have hl:c1=c+1:=by rw [hc1];simp [hO]
  subst hl
  exact ⟨by omega,by omega,hwr,hD,rfl,Nat.le_refl _,rfl,Y2 fun j hj=>Vo hO (fun _ _=>rfl) hj,hZ1 (by omega)⟩
structure Z6g (n:Nat) (L:List Ze) (m:Ze):Prop where
 hn:n<1000
 hl:L.length=n
 hm:m.Okb
 ok:∀x∈L,x.Okb
noncomputable def Zh4 (n:Nat) (L:List Ze) (m:Ze):Zf:=E84.withL 133 0 (goM 0 (puS n L m 0 0 false []) (Z6g n L m) (YR 0 n 9 (fun i=>i<n) (fun i=>i=n) (fun _=>False) (fun _=>False) (fun i=>puE m (puN m L i).1.length (puN m L i).2 (puN m L i).1) (fun i=>puE m (puN m L i).1.length (puN m L i).2 (puN m L i).1) (fun i=>puE m (puN m L i).1.length (puN m L i).2 (puN m L i).1)))
theorem Ze2 (n:Nat) (L:List Ze) (m:Ze):(Zh4 n L m).Ok:=
 Zf.withGoM (N:=20) (S:=fun i=>puS n L m i (puN m L i).1.length (puN m L i).2 (puN m L i).1) ZfW (by kernel_rfl) fun hC=>⟨rfl,fun i hi _=>by
  obtain ⟨h1,h2,h3,h4⟩:=hC
  exact Zir n i _ _ L _ _ m _ _ (i<n∧i<n) (i=n) h1 h2 hi rfl (Z4V m L i (by omega)).1 h3 h4 (fun hlt=>by rw [Z6e m L (by omega)]) rfl (fun h=>⟨h,h⟩) (fun h=>h)⟩
theorem Zis (n:Nat) (L L1:List Ze) (m:Ze) (h:Z6g n L m) (hL1:L1=Xg ltM m L):
  evF (Zh4 n L m) 20 133 [.vrows 134 n (Zw L) n,.agg m.c] ⟨0,[]⟩ (YS 0 (.ret (.nslice ⟨0,0,134,0,0⟩ 134 (n+1) (n+1))) 1 [(0,.rows 134 (n+1) (Zw L1))]):=by
 refine @Eq.mpr _ (let q1:=decide (n=n);
 let q2:=m.o;
 let q3:=q2.kind;
 let q4:=q2.amount;
 let q5:=q2.owner;
 let q6:=q2.other;
 let q7:=q2.point;
 let q8:=q2.hash;
 let q9:=q2.delay;
 let q10:=q2.expiry;
 let q11:=m.id;
 let q12:=m.what;
 let q13:=n+1;
 Z0 q1
 (Zw L=Zw L∧
 Z0 q1
 (Z0 (decide (q3=q3))
 (Z0 (decide (q4=q4))
 (q5=q5∧
 q6=q6∧
 q7=q7∧
 q8=q8∧
 Z0 (decide (q9=q9))
 (Z0 (decide (q10=q10))
 (Z0 (decide (q11=q11))
 (Z0 (decide (q12=q12))
 (Z6g n L m∧
 ∀(i:Nat),
 let q27:=(puN m L i).fst;
 let q28:=List.length q27;
 let q29:=q28+1;
 let q30:=decide (q29=q13);
 let q31:=Zw q27;
 let q32:=decide (q28=q13);
 i≤n→(∀(j:Nat),j<i→(fun (i:Nat)=>i<n) j)→(i=n→Z0 (!(puN m L i).snd) (Z0 (decide (q28=q28)) (Z0 (decide (q29*176≤140737488355328)) (Z0 q30 (Z0 (decide (q13≤q29)) (Z0 q30 (Zd 0 [(0,3)] q13 (Zw L1) (Yc q28 q31 (Xk [AV.int i64 q3,AV.int i64 q4,AV.arr u8 32 q5,AV.arr u8 32 q6,AV.arr u8 32 q7,AV.arr u8 32 q8,AV.int i64 q9,AV.int i64 q10,AV.int i64 q11,AV.int i64 q12] 0 134))∧True) False) False) False) False) False) (Z0 q32 (Z0 (decide (q13≤q28)) (Z0 q32 (Zd 0 [(0,1)] q13 (Zw L1) q31∧True) False) False) False))∧(False→False)∧(False→False))
 False)
 False)
 False)
 False)
 False)
 False)
 False)
 False) (by kernel_rfl) ?_
 conv=>zeta
 try simp only [Zi]
 try simp only [Zj]
 try simp only [Zk]
 try simp only [Zl]
 try simp only [Zm]
 try simp only [Zh]
 try simp only [Int.toNat_natCast,Nat.zero_add,true_and,and_true,Nat.le_refl]
 refine ⟨h,fun i hi _=>⟨fun he=> ?_,fun h=>h.elim,fun h=>h.elim⟩⟩
 subst he
 have hfin:=Ze1 m L
 obtain ⟨g1,g2⟩:=Z4V m L i (by rw [h.hl];exact Nat.le_refl _)
 rw [h.hl] at hfin
 have hn:=h.hn
 have hl1:L1.length=i+1:=by rw [hL1,Z2M,h.hl]
 unfold Z8A at hfin
 refine ⟨fun hD=> ?_,fun hD=> ?_⟩
 ·have hD:(puN m L i).2=false:=by simpa using hD
  rw [hD] at hfin
  simp only at hfin
  have hl:=g2 hD
  exact ⟨by omega,by omega,by omega,by omega,Y2 fun j hj=>by rw [hL1,←hfin];exact Vo rfl (fun _ _=>rfl) (by omega)⟩
 ·have hD:(puN m L i).2=true:=by simpa using hD
  rw [hD] at hfin
  simp only at hfin
  rw [hfin]
  rw [hL1] at hl1
  exact ⟨by omega,by omega,by omega,Y2 fun j hj=>by rw [hL1]⟩
theorem Zit (m:Ze) (L1:List Ze) (hL:L1=[m]):
  evF G0 20 133 [.nilslice,.agg m.c] ⟨0,[]⟩ (YS 0 (.ret (.nslice ⟨0,0,134,0,0⟩ 134 1 1)) 1 [(0,.rows 134 1 (Zw L1))]):=by
 refine @Eq.mpr _ (let q1:=m.o;
 Zd 0 [(0,2)] 1 (Zw L1) (Yc 0 (fun (x:Nat)=>[]) (Xk [AV.int i64 q1.kind,AV.int i64 q1.amount,AV.arr u8 32 q1.owner,AV.arr u8 32 q1.other,AV.arr u8 32 q1.point,AV.arr u8 32 q1.hash,AV.int i64 q1.delay,AV.int i64 q1.expiry,AV.int i64 m.id,AV.int i64 m.what] 0 134))∧True) (by kernel_rfl) ?_
 conv=>zeta
 try simp only [Zi]
 try simp only [Zj]
 try simp only [Zk]
 try simp only [Zl]
 try simp only [Zm]
 try simp only [Zh]
 try simp only [Int.toNat_natCast,Nat.zero_add,true_and,and_true,Nat.le_refl]
 refine Y2 fun i hi=> ?_
 subst hL
 have e:i=0:=by omega
 subst e
 rfl
def puF:YQ:=fun args h K=>ZV none h true 20 args fun a=>match a with
 | [.nilslice,.agg cm]=>∃m,cm=Ze.c m∧K (.ret (.nslice ⟨h.next,0,134,0,0⟩ 134 1 1)) ⟨h.next+1,(h.next,.rows 134 1 (Zw (Xg ltM m [])))::h.bs⟩
 | [.vrows 134 n f n',.agg cm]=>∃L m,n'=n∧f=Zw L∧cm=Ze.c m∧Z6g n L m∧K (.ret (.nslice ⟨h.next,0,134,0,0⟩ 134 (n+1) (n+1))) ⟨h.next+1,(h.next,.rows 134 (n+1) (Zw (Xg ltM m L)))::h.bs⟩
 | _=>False
theorem ZfX (args:List AV) (h:Z6) (K:KO) (hl:puF args h K):Zn PP 133 args h K:=by
 refine ZI.fsumm (d:=20) (Zu _ _ _ _ _ hl fun a ha=> ?_)
 split at ha
 ·obtain ⟨m,rfl,hK⟩:=ha
  exact ⟨_,_,_,_,.evM ZB (Zit m _ rfl),rfl,⟨Nat.one_pos,.rows _ _ _ (fun i _=>W4 _ i),trivial⟩,hK⟩
 ·obtain ⟨L,m,rfl,rfl,rfl,hp,hK⟩:=ha
  exact ⟨_,_,_,_,.evM (Ze2 _ L m) (Zis _ L _ m hp rfl),rfl,⟨Nat.one_pos,.rows _ _ _ (fun i _=>W4 _ i),trivial⟩,hK⟩
 ·exact ha.elim
end Go.Tk
end
section
namespace Go.Tk
open IntKind (i64 u8 u32 u64 wrap)
def Z4W (t:Zo):InS:=⟨t.fund,t.index,1,Z9,Z9,Z9⟩
def Yl (L:List Ze):Nat→Vi:=fun i=>(L.getD i Vn).o
def txZ:List AV:=[.int .i64 0,.nilslice,.nilslice]
def mxH (t:Zo) (num:Int) (L:List Ze) (i:Nat):Z6:=⟨4,[(0,.flat txZ),(1,.flat (InS.c (Z4W t))),(2,.flat [.int .i64 num,.nslice ⟨1,0,0,0,0⟩ 130 1 1,.nslice ⟨3,0,132,0,0⟩ 132 i i]),(3,.rows 132 i (Yj (Yl L)))]⟩
def Ze3 (t:Zo) (num:Int) (L:List Ze) (n i:Nat):St:=⟨39,[(9,.int .i64 i),(2,.vrows 134 n (Zw L) n),(8,.ptr (some ⟨2,0,0,0,0⟩)),(6,.ptr (some ⟨0,0,0,0,0⟩))],mxH t num L i,[]⟩
def Z9R (t:Zo) (num:Int) (L:List Ze) (i:Nat):St:=⟨39,[(8,.ptr (some ⟨2,0,0,0,0⟩)),(6,.ptr (some ⟨0,0,0,0,0⟩))],mxH t num L i,[]⟩
theorem Z7E {L:List Ze} {i j:Nat} (hj:j<i+1):Yc i (Yj (Yl L)) (Xk (Vi.c (L.getD i Vn).o) 0 132) j=(Yl L j).c:=by
 rcases Nat.lt_or_ge j i with h|h
 ·rw [QT h];rfl
 ·have e:j=i:=by omega
  subst e
  rw [UC (Nat.le_refl _),Nat.sub_self]
  rfl
theorem Zh5 (t:Zo) (num:Int) (L:List Ze) (n i:Nat) (Z1 Z2:Prop) (hn:n<1000) (hi:i≤n) (h1:i<n→Z1) (h2:i=n→Z2):
  ZY G0 20 84 0 0 (Ze3 t num L n i) (rdM 0 0 9 (Ze3 t num L n (i+1)) (Z9R t num L i) (Z9R t num L i) (Z9R t num L i) Z1 Z2 False False):=by
 refine @Eq.mpr _ (let q1:=decide (i=i);
 let q2:=i+1;
 let q3:=decide (n=n);
 let q4:=Z4W t;
 let q5:=q4.name;
 let q6:=q5=q5;
 let q7:=q4.index;
 let q8:=decide (q7=q7);
 let q9:=q4.tag;
 let q10:=q9=q9;
 let q11:=q4.also;
 let q12:=q11=q11;
 let q13:=q4.secret;
 let q14:=q13=q13;
 let q15:=decide (num=num);
 let q16:=decide (q2=q2);
 let q17:=[(1,1),(0,0),(2,2)];
 let q18:=Yj (Yl L);
 let q19:=(List.getD L (Int.toNat (↑i:Int)) Vn).o;
 Z0 (decide ((↑i:Int)<(↑n:Int))) (Z0 (decide (0≤(↑i:Int)∧(↑i:Int)<(↑n:Int))) (Z0 q1 (Z0 q1 (Z0 q1 (Z0 (decide (q2*160≤140737488355328)) (Z0 (decide (wrap i64 ((↑i:Int)+1)=(↑q2:Int))) (Z0 q3 (Zw L=Zw L∧Z0 q3 (q6∧Z0 q8 (q10∧q12∧q14∧Z0 q15 (Z0 q16 (Z0 (decide (q2≤q2)) (Z0 q16 (Zd 0 ((3,5)::q17) q2 q18 (Yc i q18 (Xk [AV.int i64 q19.kind,AV.int i64 q19.amount,AV.arr u8 32 q19.owner,AV.arr u8 32 q19.other,AV.arr u8 32 q19.point,AV.arr u8 32 q19.hash,AV.int i64 q19.delay,AV.int i64 q19.expiry] 0 132))∧Z1) False) False) False) False) False) False) False) False) False) False) False) False) False) (q6∧Z0 q8 (q10∧q12∧q14∧Z0 q15 (Z0 q1 (Z0 (decide (i≤i)) (Z0 q1 (Zd 0 ((3,3)::q17) i q18 q18∧Z2) False) False) False) False) False)) (by kernel_rfl) ?_
 conv=>zeta
 try simp only [Zi]
 try simp only [Zj]
 try simp only [Zk]
 try simp only [Zl]
 try simp only [Zm]
 try simp only [Zh]
 try simp only [Int.toNat_natCast,Nat.zero_add,true_and,and_true,Nat.le_refl]
 refine ⟨fun hc=> ?_,fun hc=>⟨XP fun _ _=>rfl,h2 (by omega)⟩⟩
 exact ⟨by omega,by omega,by rw [w64 (by omega)];omega,XP fun j hj=>Z7E hj,h1 (by omega)⟩
noncomputable def Zh6 (t:Zo) (num:Int) (L:List Ze) (n:Nat):Zf:=G0.withL 84 0 (goM 0 (Ze3 t num L n 0) (n<1000) (YR 0 n 9 (fun i=>i<n) (fun i=>i=n) (fun _=>False) (fun _=>False) (fun i=>Z9R t num L i) (fun i=>Z9R t num L i) (fun i=>Z9R t num L i)))
theorem Ze4 (t:Zo) (num:Int) (L:List Ze) (n:Nat):(Zh6 t num L n).Ok:=
 Zf.withGoM (N:=20) (S:=fun i=>Ze3 t num L n i) ZB (by kernel_rfl) fun hC=>⟨rfl,fun i hi _=>Zh5 t num L n i _ _ hC hi (fun h=>⟨h,h⟩) (fun h=>h)⟩
theorem Zh7 (t:Zo) (num:Int) (L:List Ze) (n:Nat) (hn:n<1000) (h0:n≠0):
  evF (Zh6 t num L n) 20 84 [.agg t.c,.int .i64 num,.vrows 134 n (Zw L) n] ⟨0,[]⟩ (YS 0 (.ret (.tuple [.agg [.int .i64 num,.nslice ⟨0,0,0,0,0⟩ 130 1 1,.nslice ⟨1,0,132,0,0⟩ 132 n n],.int .i64 0])) 2 [(0,.flat (InS.c (Z4W t))),(1,.rows 132 n (Yj (Yl L)))]):=by
 refine @Eq.mpr _ (let q1:=decide (n=n);
 let q2:=Z4W t;
 let q3:=q2.name;
 let q4:=q2.index;
 let q5:=q2.tag;
 let q6:=q2.also;
 let q7:=q2.secret;
 let q8:=decide (num=num);
 let q9:=Yj (Yl L);
 Z0 ((↑n:Int)==0) (Z0 (decide (0=num)) False False)
 (Z0 q1
 (Zw L=Zw L∧
 Z0 q1
 (t.fund=q3∧
 Z0 (decide (t.index=q4))
 (Z9=q5∧
 Z9=q6∧
 Z9=q7∧
 Z0 q8
 (n<1000∧
 ∀(i:Nat),
 let q19:=decide (i=n);
 i≤n→(∀(j:Nat),j<i→(fun (i:Nat)=>i<n) j)→(i=n→Z0 q8 (Z0 q19 (Z0 (decide (n≤i)) (q3=q3∧Z0 (decide (q4=q4)) (q5=q5∧q6=q6∧q7=q7∧Z0 q19 (Zd 0 [(1,3),(0,1)] n q9 q9∧True) False) False) False) False) False)∧(False→False)∧(False→False))
 False)
 False)
 False)
 False)) (by kernel_rfl) ?_
 conv=>zeta
 try simp only [Zi]
 try simp only [Zj]
 try simp only [Zk]
 try simp only [Zl]
 try simp only [Zm]
 try simp only [Zh]
 try simp only [Int.toNat_natCast,Nat.zero_add,true_and,and_true,Nat.le_refl]
 refine ⟨fun h=> ?_,fun _=>⟨rfl,rfl,rfl,rfl,rfl,hn,fun i hi _=>⟨fun he=> ?_,fun h=>h.elim,fun h=>h.elim⟩⟩⟩
 ·have:(n:Int)=0:=by simpa using h
  omega
 ·subst he
  exact ⟨rfl,Nat.le_refl _,rfl,XP fun _ _=>rfl⟩
end Go.Tk
end
section
namespace Go.Tk
open IntKind (i64 u8 u32 u64 wrap)
theorem Yy {l:List Ze}:(Y9 l).length=l.length:=by unfold Y9;rw [XS];simp
theorem XU:Bytes Z9:=⟨fun i=>by
 have h:Z9=List.replicate 32 0:=rfl
 rw [h,List.getD_eq_getElem?_getD,List.getElem?_replicate]
 split<;>simp⟩
end Go.Tk
end
section
namespace Go.Tk
open IntKind (i64 u8 u32 u64 wrap)
end Go.Tk
end
section
namespace Go.Tk
open IntKind (i64 u8 u32 u64 wrap)
structure ZS where
 frm:Int
 id:Int
 amount:Int
 hash:List Int
 expiry:Int
def ZS.c (p:ZS):List AV:=[.int .i64 p.frm,.int .i64 p.id,.int .i64 p.amount,.arr .u8 32 p.hash,.int .i64 p.expiry]
def Xn (g:Nat→ZS):Nat→List AV:=fun i=>(g i).c
structure ZS.Ok (p:ZS):Prop where
 hash:p.hash.length=32
 hb:Bytes p.hash
def WH (p:ZS):Bool:=decide (0≤p.frm∧p.frm≤1)&&decide (0≤p.id∧p.id≤2147483647)&&decide (1≤p.amount∧p.amount≤1125899906842624)&&decide (1≤p.expiry∧p.expiry≤2147483647)
theorem Zh8 (p:ZS) (b:Bool) (hb:b=WH p):
  evF G0 20 102 [.agg p.c] ⟨0,[]⟩ (YM (fun v=>v=.bool b)):=by
 refine @Eq.mpr _ (let q1:=p.amount;
 let q2:=AV.bool false=AV.bool b;
 let q3:=Z0 (decide (p.id≥0)) (Z0 (decide (p.id≤2147483647)) (Z0 (decide (q1>0)) (Z0 (decide (q1≥0)) (Z0 (decide (q1≤1125899906842624)) (Z0 (decide (p.expiry≥1)) (AV.bool (decide (p.expiry≤2147483647))=AV.bool b) q2) q2) q2) q2) q2) q2;
 Z0 (p.frm==0) q3 (Z0 (p.frm==1) q3 q2)) (by kernel_rfl) ?_
 conv=>zeta
 subst hb
 simp only [Vl,AV.bool.injEq]
 unfold WH
 refine ⟨fun k1=> ?_,fun k1=>⟨fun k2=> ?_,fun k2=> ?_⟩⟩
 all_goals
  simp only [beq_iff_eq,beq_eq_false_iff_ne,ne_eq] at k1
 ·refine ⟨fun k3=>⟨fun k4=>⟨fun k5=>⟨fun k6=>⟨fun k7=>⟨fun k8=> ?_,fun k8=> ?_⟩,fun k7=> ?_⟩,fun k6=> ?_⟩,fun k5=> ?_⟩,fun k4=> ?_⟩,fun k3=> ?_⟩
  all_goals
   rw [Bool.eq_iff_iff]
   simp only [decide_eq_true_eq,decide_eq_false_iff_not,Bool.and_eq_true,Bool.false_eq_true] at*
   first|omega|exact ⟨fun h=>h.elim,fun h=>by omega⟩
 ·simp only [beq_iff_eq] at k2
  refine ⟨fun k3=>⟨fun k4=>⟨fun k5=>⟨fun k6=>⟨fun k7=>⟨fun k8=> ?_,fun k8=> ?_⟩,fun k7=> ?_⟩,fun k6=> ?_⟩,fun k5=> ?_⟩,fun k4=> ?_⟩,fun k3=> ?_⟩
  all_goals
   rw [Bool.eq_iff_iff]
   simp only [decide_eq_true_eq,decide_eq_false_iff_not,Bool.and_eq_true,Bool.false_eq_true] at*
   first|omega|exact ⟨fun h=>h.elim,fun h=>by omega⟩
 ·simp only [beq_eq_false_iff_ne,ne_eq] at k2
  rw [Bool.eq_iff_iff]
  simp only [decide_eq_true_eq,Bool.and_eq_true,Bool.false_eq_true]
  constructor
  ·intro h;exact h.elim
  ·intro h;omega
def Zc9:ZU:=fun args _ K=>match args with
 | [.agg [.int .i64 fr,.int .i64 id,.int .i64 am,.arr .u8 32 ha,.int .i64 ex]]=>K (.bool (WH ⟨fr,id,am,ha,ex⟩))
 | _=>False
def Z3c (p:ZS):AV:=.agg [.arr .i64 2 [p.frm,p.id]]
def shX (a0 a1:Int) (g:Nat→ZS) (i:Nat):List Int:=a0::a1::(List.range i).map fun j=>(g j).amount
structure ShS where
 num:Int
 owner:Int
 point:List Int
 a0:Int
 a1:Int
 n:Nat
 g:Nat→ZS
def ShS.c (s:ShS):List AV:=[.int .i64 s.num,.int .i64 s.owner,.arr .u8 32 s.point,.arr .i64 2 [s.a0,s.a1],.vrows 36 s.n (Xn s.g) s.n]
def Z9S (g:Nat→ZS) (i:Nat):Nat:=Y3 (fun j=>Yt (Z3c (g i)) (Z3c (g j))) i
theorem Zca (args:List AV) (h:Z6) (K:AV→Prop) (hl:Zc9 args h K):Zn PP 102 args h fun o h'=>∃v,o=.ret v∧h'=h∧K v:=by
 unfold Zc9 at hl
 split at hl
 ·exact Yq ZB rfl (Zh8 ⟨_,_,_,_,_⟩ _ rfl) (fun u hu=>hu▸hl)
 ·exact hl.elim
def shM (g:Nat→ZS):Nat→List Int
 | 0=>[0,0]
 | i+1=>(shM g i).set (g i).frm.toNat (i64.wrap ((shM g i).getD (g i).frm.toNat 0+1))
theorem Z4X (g:Nat→ZS):∀i,(shM g i).length=2
 | 0=>rfl
 | i+1=>by simp [shM,Z4X g i]
theorem Zcb (a0 a1:Int) (g:Nat→ZS) (i:Nat):shX a0 a1 g (i+1)=shX a0 a1 g i++[(g i).amount]:=by simp [shX,List.range_succ]
theorem Ze5 (a0 a1:Int) (g:Nat→ZS) (i:Nat):(shX a0 a1 g i).length=i+2:=by simp [shX]
def ZfY (g:Nat→ZS) (i:Nat):Prop:=WH (g i)=true∧Z9S g i=i
def shB (A:List Int→Int×Int) (t:Zo) (s:ShS):Bool:=YT t&&decide (0≤s.num∧s.num≤2147483647)&&decide (0≤s.owner∧s.owner≤1)&&decide (t.fee≤s.a0)&&(List.range s.n).all (fun i=>WH (s.g i)&&Nat.beq (Z9S s.g i) i)&&decide ((shM s.g s.n).getD 0 0≤8)&&decide ((shM s.g s.n).getD 1 0≤8)&&decide ((A (shX s.a0 s.a1 s.g s.n)).2=0)&&decide ((A (shX s.a0 s.a1 s.g s.n)).1=t.cap)
theorem Z1y {A:List Int→Int×Int} {t:Zo} {s:ShS}:shB A t s=true↔YT t=true∧(0≤s.num∧s.num≤2147483647)∧(0≤s.owner∧s.owner≤1)∧t.fee≤s.a0∧(∀i,i<s.n→ZfY s.g i)∧(shM s.g s.n).getD 0 0≤8∧(shM s.g s.n).getD 1 0≤8∧(A (shX s.a0 s.a1 s.g s.n)).2=0∧(A (shX s.a0 s.a1 s.g s.n)).1=t.cap:=by
 unfold shB
 simp only [Bool.and_eq_true,decide_eq_true_eq,and_assoc,List.all_eq_true,List.mem_range]
 have e:(∀i,i<s.n→WH (s.g i)=true∧Nat.beq (Z9S s.g i) i=true)↔∀i,i<s.n→ZfY s.g i:=by
  constructor
  ·intro h i hi;exact ⟨(h i hi).1,Nat.eq_of_beq_eq_true (h i hi).2⟩
  ·intro h i hi;exact ⟨(h i hi).1,by rw [(h i hi).2];exact Nat.beq_refl _⟩
 rw [e]
end Go.Tk
end
section
namespace Go.Tk
open IntKind (i64 u8 u32 u64 wrap)
def Z7F (v:AV) (N:Nat) (g:Nat→ZS):Prop:=match v with
 | .vrows 36 n f m=>(m=n∧N=n)∧∀i,i<n→f i=(g i).c
 | .nilslice=>N=0
 | .eslice=>N=0
 | .fslice=>N=0
 | _=>False
theorem Z7F.rel {v:AV} {N:Nat} {g:Nat→ZS} (h:Z7F v N g) {E:Env} {r:Value} (hv:Zc E v r):Zc E (.vrows 36 N (Xn g) N) r:=by
 unfold Z7F at h
 split at h
 ·obtain ⟨⟨rfl,rfl⟩,hf⟩:=h
  exact hv.rowsC hf
 ·subst h;cases hv;exact .rows0 rfl (fun _=>rfl)
 ·subst h;cases hv with|eslice a=>exact .rows0 rfl (fun _=>rfl)
 ·subst h;cases hv with|fslice a c=>exact .rows0 rfl (fun h=>by cases h)
 ·exact h.elim
theorem Z7F.cell {v:AV} {N:Nat} {g:Nat→ZS} (h:Z7F v N g):v.isCell=true∧∀k n xs,v≠.arr k n xs:=by
 unfold Z7F at h;split at h<;>simp_all [AV.isCell]
def Z4Y (l:List AV) (s:ShS):Prop:=match l with
 | [.int .i64 nu,.int .i64 ow,.arr .u8 32 po,.arr .i64 2 am,b]=>(s.num=nu∧s.owner=ow∧s.point=po∧am=[s.a0,s.a1])∧Z7F b s.n s.g
 | _=>False
theorem Z4Y.rel {l:List AV} {s:ShS} (h:Z4Y l s) {E:Env} {r:Value} (hv:Zc E (.agg l) r):Zc E (.agg s.c) r:=by
 unfold Z4Y at h
 split at h
 ·rename_i nu ow po am b
  obtain ⟨⟨rfl,rfl,rfl,rfl⟩,h2⟩:=h
  cases hv with
  | agg cs vs hc=>
   obtain ⟨c1,ws,rfl,_,q1,p1,hc⟩:=Zq.cons_cell hc (fun _ _ _ h=>by cases h)
   obtain ⟨c2,ws,rfl,_,q2,p2,hc⟩:=Zq.cons_cell hc (fun _ _ _ h=>by cases h)
   obtain ⟨w3,e3,hc3⟩:=Zq.cons_arr hc
   obtain ⟨w4,e4,hc4⟩:=Zq.cons_arr hc3
   obtain ⟨c5,w5,e5,_,q5,p5,hc5⟩:=Zq.cons_cell hc4 h2.cell.2
   cases hc5
   subst e5 e4 e3
   exact .agg _ _ (.one _ _ _ _ rfl q1 p1 (.one _ _ _ _ rfl q2 p2 (.arr _ _ _ _ _ (.arr _ _ _ _ _ (.one _ _ _ _ rfl q5 (h2.rel p5) .nil)))))
 ·exact h.elim
end Go.Tk
end
section
namespace Go.Tk
open IntKind (i64 u8 u32 u64 wrap)
def Z0b (t:Zo) (s:ShS) (own other:List Int) (i:Nat):Ze:=⟨⟨if (s.g i).frm=s.owner then 4 else 5,(s.g i).amount,own,other,s.point,(s.g i).hash,t.delay,(s.g i).expiry⟩,(s.g i).id,i⟩
def YG (t:Zo) (s:ShS) (own other:List Int) (O0:List Ze):Nat→List Ze
 | 0=>O0
 | i+1=>YG t s own other O0 i++(if t.dust≤(s.g i).amount then [Z0b t s own other i] else [])
theorem VE {t:Zo} {s:ShS} {own other:List Int} {O0:List Ze}:∀i,(YG t s own other O0 i).length≤i+O0.length
 | 0=>by simp [YG]
 | i+1=>by
  have:=VE (t:=t) (s:=s) (own:=own) (other:=other) (O0:=O0) i
  simp only [YG,List.length_append]
  split<;>simp<;>omega
def YZ (t:Zo) (point own other:List Int) (mine theirs:Int):List Ze:=
 (if t.dust≤mine then [⟨⟨3,mine,own,Z9,point,Z9,t.delay,0⟩,0, -1⟩] else [])++(if t.dust≤theirs then [⟨⟨1,theirs,other,Z9,Z9,Z9,0,0⟩,0, -2⟩] else [])
end Go.Tk
end
section
namespace Go.Tk
open IntKind (i64 u8 u32 u64 wrap)
def ZR (t:Zo) (s:ShS):List Ze:=
 if s.owner=0 then YG t s t.k0 t.k1 (YZ t s.point t.k0 t.k1 (s.a0-t.fee) s.a1) s.n
 else YG t s t.k1 t.k0 (YZ t s.point t.k1 t.k0 s.a1 (s.a0-t.fee)) s.n
structure Zcc (t:Zo) (s:ShS):Prop where
 ow:s.owner=0∨s.owner=1
 n:s.n<1000
 fee: -9223372036854775808≤s.a0-t.fee∧s.a0-t.fee<9223372036854775808
 len:(ZR t s).length<20
 ok:∀m∈ZR t s,m.Ok
end Go.Tk
end
section
namespace Go.Tk
open IntKind (i64 u8 u32 u64 wrap)
structure ShS.Ok (s:ShS):Prop where
 point:s.point.length=32
 a0: -9223372036854775808≤s.a0∧s.a0<9223372036854775808
 g:∀i,i<s.n→(s.g i).Ok
theorem Z1z {g:Nat→ZS}:∀i,i<1000→(∀j,j<i→WH (g j)=true)→(shM g i).getD 0 0+(shM g i).getD 1 0=i∧0≤(shM g i).getD 0 0∧0≤(shM g i).getD 1 0
 | 0,_,_=>by simp [shM]
 | i+1,hi,h=>by
  obtain ⟨h1,h2,h3⟩:=Z1z i (by omega) (fun j hj=>h j (by omega))
  have hl:=Z4X g i
  have hp:=h i (by omega)
  unfold WH at hp
  simp only [Bool.and_eq_true,decide_eq_true_eq] at hp
  have hf:(g i).frm=0∨(g i).frm=1:=by omega
  obtain ⟨x,y,hxy⟩:∃x y,shM g i=[x,y]:=by
   match hm:shM g i,hl with
   | [x,y],_=>exact ⟨x,y,rfl⟩
  rw [hxy] at h1 h2 h3
  simp only [shM,hxy]
  simp at h1 h2 h3
  rcases hf with hf|hf<;>rw [hf]
  ·have e:i64.wrap (x+1)=x+1:=w64 (by omega)
   simp [e];omega
  ·have e:i64.wrap (y+1)=y+1:=w64 (by omega)
   simp [e];omega
theorem Qx {t:Zo} {point own other:List Int} {a b:Int} (h1:point.length=32) (h2:own.length=32) (h3:other.length=32):∀m∈YZ t point own other a b,m.Ok:=fun m hm=>by
 have z32:Z9.length=32:=rfl
 unfold YZ at hm
 rw [List.mem_append] at hm
 rcases hm with hm|hm
 ·split at hm
  ·rw [List.mem_singleton] at hm;subst hm;exact ⟨h2,z32,h1,z32⟩
  ·cases hm
 ·split at hm
  ·rw [List.mem_singleton] at hm;subst hm;exact ⟨h3,z32,z32,z32⟩
  ·cases hm
theorem Qy {t:Zo} {s:ShS} {own other:List Int} {O0:List Ze} (h0:∀m∈O0,m.Ok) (hs:s.Ok) (h2:own.length=32) (h3:other.length=32):∀i,i≤s.n→∀m∈YG t s own other O0 i,m.Ok
 | 0,_=>h0
 | i+1,hi=>fun m hm=>by
  simp only [YG,List.mem_append] at hm
  rcases hm with hm|hm
  ·exact Qy h0 hs h2 h3 i (by omega) m hm
  ·split at hm
   ·rw [List.mem_singleton] at hm;subst hm
    exact ⟨h2,h3,hs.point,(hs.g i (by omega)).hash⟩
   ·cases hm
theorem VF {t:Zo} {point own other:List Int} {a b:Int}:(YZ t point own other a b).length≤2:=by
 unfold YZ;rw [List.length_append];split<;>split<;>simp
theorem Z7G {A:List Int→Int×Int} {t:Zo} {s:ShS} (ht:t.Ok) (hs:s.Ok) (hn:s.n<1000) (h:shB A t s=true):Zcc t s:=by
 obtain ⟨g1,g2,g3,g4,g5,g6,g7,_⟩:=Z1y.1 h
 obtain ⟨h1,h2,h3⟩:=Z1z s.n hn (fun j hj=>(g5 j hj).1)
 have hf:0≤t.fee:=by
  unfold YT at g1
  simp only [Bool.and_eq_true,decide_eq_true_eq] at g1
  omega
 have ha:=hs.a0
 refine ⟨by omega,hn,by omega, ?_, ?_⟩
 ·unfold ZR
  split
  ·have k1:=VE (t:=t) (s:=s) (own:=t.k0) (other:=t.k1) (O0:=YZ t s.point t.k0 t.k1 (s.a0-t.fee) s.a1) s.n
   have k2:=VF (t:=t) (point:=s.point) (own:=t.k0) (other:=t.k1) (a:=s.a0-t.fee) (b:=s.a1)
   omega
  ·have k1:=VE (t:=t) (s:=s) (own:=t.k1) (other:=t.k0) (O0:=YZ t s.point t.k1 t.k0 s.a1 (s.a0-t.fee)) s.n
   have k2:=VF (t:=t) (point:=s.point) (own:=t.k1) (other:=t.k0) (a:=s.a1) (b:=s.a0-t.fee)
   omega
 ·unfold ZR
  split
  ·exact Qy (Qx hs.point ht.k0 ht.k1) hs ht.k0 ht.k1 s.n (Nat.le_refl _)
  ·exact Qy (Qx hs.point ht.k1 ht.k0) hs ht.k1 ht.k0 s.n (Nat.le_refl _)
theorem Zh9 (t:Zo) (num:Int) (L:List Ze) :
  evF G0 20 84 [.agg t.c,.int .i64 num,.vrows 134 0 (Zw L) 0] ⟨0,[]⟩ (YS 0 (.ret (.tuple [.agg txZ,.int .i64 180])) 0 []):=by
 refine @Eq.mpr _ (True) (by kernel_rfl) ?_
 trivial
end Go.Tk
end
section
namespace Go.Tk
open IntKind (i64 u8 u32 u64 wrap)
def mxG:YQ:=fun args h K=>ZV none h true 20 args fun a=>match a with
 | [.agg [.arr .u8 32 fu,.int .i64 ix,.int .i64 ca,.int .i64 du,.int .i64 fe,.int .i64 de,.arr .u8 32 k0,.arr .u8 32 k1],.int .i64 num,.vrows 134 n f n']=>∃L,n'=n∧f=Zw L∧n<1000∧(n=0→K (.ret (.tuple [.agg txZ,.int .i64 180])) h)∧(n≠0→K (.ret (.tuple [.agg [.int .i64 num,.nslice ⟨h.next,0,0,0,0⟩ 130 1 1,.nslice ⟨h.next+1,0,132,0,0⟩ 132 n n],.int .i64 0])) ⟨h.next+2,(h.next,.flat (InS.c ⟨fu,ix,1,Z9,Z9,Z9⟩))::(h.next+1,.rows 132 n (Yj (Yl L)))::h.bs⟩)
 | _=>False
theorem Ze6 (args:List AV) (h:Z6) (K:KO) (hl:mxG args h K):Zn PP 84 args h K:=by
 refine ZI.fsumm (d:=20) (Zu _ _ _ _ _ hl fun a ha=> ?_)
 split at ha
 ·obtain ⟨L,rfl,rfl,h1,h2,hK⟩:=ha
  rename_i num n
  rcases Nat.eq_zero_or_pos n with h0|h0
  ·subst h0
   exact ⟨_,_,_,_,.evM ZB (Zh9 ⟨_,_,_,_,_,_,_,_⟩ _ L),rfl,trivial,h2 rfl⟩
  ·exact ⟨_,_,_,_,.evM (Ze4 _ _ _ _) (Zh7 ⟨_,_,_,_,_,_,_,_⟩ _ L _ h1 (by omega)),rfl,⟨by decide,.flat _ rfl,by decide,.rows _ _ _ (fun i _=>(Yl L i).plainC),trivial⟩,hK (by omega)⟩
 ·exact ha.elim
end Go.Tk
end
section
namespace Go.Tk
open IntKind (i64 u8 u32 u64 wrap)
end Go.Tk
end
section
namespace Go.Tk
open IntKind (i64 u8 u32 u64 wrap)
structure Zcd (L:List Ze) (n:Nat):Prop where
 ne:L.Pairwise fun a b=>a.what≠b.what
 lo:∀m∈L, -2≤m.what∧m.what<n
theorem Zcd.at {L:List Ze} {n:Nat} (h:Zcd L n) {i j:Nat} (hj:j<i) (hi:i<L.length):(L.getD j Vn).what≠(L.getD i Vn).what:=by
 have:=(List.pairwise_iff_getElem.1 h.ne) j i (by omega) hi hj
 rw [List.getD_eq_getElem?_getD,List.getD_eq_getElem?_getD,List.getElem?_eq_getElem hi,List.getElem?_eq_getElem (by omega)]
 exact this
end Go.Tk
end
section
namespace Go.Tk
open IntKind (i64 u8 u32 u64 wrap)
def Ym (s:ShS):Nat→Int
 | 0=>s.a0+s.a1
 | i+1=>Ym s i+(s.g i).amount
def Ui (g:Nat→ZS) (i k:Nat):Bool:=decide ((g k).frm=(g i).frm)&&decide ((g k).id=(g i).id)
theorem Zce (g:Nat→ZS) (i k:Nat):Yt (Z3c (g i)) (Z3c (g k))=Ui g i k:=by
 unfold Z3c Ui
 rw [Bool.eq_iff_iff]
 simp [Yt,Vt,Q9]
 constructor
 ·rintro ⟨h1,h2⟩;exact ⟨h1.symm,h2.symm⟩
 ·rintro ⟨h1,h2⟩;exact ⟨h1.symm,h2.symm⟩
theorem Z6h (g:Nat→ZS) (i:Nat):Z9S g i=i↔∀k,k<i→Ui g i k=false:=by
 unfold Z9S
 constructor
 ·intro h k hk
  rcases Z4l (fun j=>Yt (Z3c (g i)) (Z3c (g j))) i with ⟨_,h2⟩|⟨h2,_⟩
  ·rw [←Zce];exact h2 k hk
  ·omega
 ·intro h
  exact VU fun j hj=>by rw [Zce];exact h j hj
structure Q2 (t:Zo) (s:ShS) (i:Nat):Prop where
 p:WH (s.g i)=true
 sum:Ym s i≤t.cap
 dup:∀k,k<i→Ui s.g i k=false
theorem UH {p:ZS} (h:WH p=true):0<p.amount∧p.amount≤1125899906842624∧(p.frm=0∨p.frm=1):=by
 unfold WH at h
 simp only [Bool.and_eq_true,decide_eq_true_eq] at h
 omega
theorem Z2Y (s:ShS):∀{i n:Nat},i≤n→(∀j,j<n→WH (s.g j)=true)→Ym s i≤Ym s n
 | i,0,h,_=>by
  have:i=0:=by omega
  subst this;exact Int.le_refl _
 | i,n+1,h,hp=>by
  rcases Nat.lt_or_ge n i with h1|h1
  ·have:i=n+1:=by omega
   subst this;exact Int.le_refl _
  ·have:=Z2Y s h1 (fun j hj=>hp j (by omega))
   have h2:=UH (hp n (by omega))
   simp only [Ym]
   omega
theorem Z1A (s:ShS):∀n,(shX s.a0 s.a1 s.g n).sum=Ym s n
 | 0=>by simp [shX,Ym]
 | n+1=>by
  rw [Zcb,List.sum_append,Z1A s n]
  simp [Ym]
theorem Ze7 (a0 a1:Int) (g:Nat→ZS) (n:Nat):(∀j,j<n+2→VA 1125899906842624 (shX a0 a1 g n) j=false)↔(0≤a0∧a0≤1125899906842624)∧(0≤a1∧a1≤1125899906842624)∧∀i,i<n→(0≤(g i).amount∧(g i).amount≤1125899906842624):=by
 have e:∀j,VA 1125899906842624 (shX a0 a1 g n) (j+2)=Z2A 1125899906842624 (((List.range n).map fun j=>(g j).amount).getD j 0):=fun j=>by
  unfold VA shX;simp
 have e0:VA 1125899906842624 (shX a0 a1 g n) 0=Z2A 1125899906842624 a0:=by unfold VA shX;simp
 have e1:VA 1125899906842624 (shX a0 a1 g n) 1=Z2A 1125899906842624 a1:=by unfold VA shX;simp
 have ov:∀x,Z2A 1125899906842624 x=false↔0≤x∧x≤1125899906842624:=fun x=>by
  unfold Z2A;rw [decide_eq_false_iff_not];omega
 have eg:∀j,j<n→((List.range n).map fun j=>(g j).amount).getD j 0=(g j).amount:=fun j hj=>by
  simp [List.getD_eq_getElem?_getD,hj]
 constructor
 ·intro h
  refine ⟨(ov _).1 (e0▸h 0 (by omega)),(ov _).1 (e1▸h 1 (by omega)),fun i hi=> ?_⟩
  have:=h (i+2) (by omega)
  rw [e,eg i hi] at this
  exact (ov _).1 this
 ·rintro ⟨h1,h2,h3⟩ j hj
  match j with
  | 0=>rw [e0];exact (ov _).2 h1
  | 1=>rw [e1];exact (ov _).2 h2
  | j+2=>rw [e,eg j (by omega)];exact (ov _).2 (h3 j (by omega))
theorem Z8C (a0 a1:Int) (g:Nat→ZS) (n:Nat):allIn 1125899906842624 (shX a0 a1 g n)=true↔(0≤a0∧a0≤1125899906842624)∧(0≤a1∧a1≤1125899906842624)∧∀i,i<n→(0≤(g i).amount∧(g i).amount≤1125899906842624):=by
 rw [←Ze7]
 unfold allIn
 rw [Bool.not_eq_true',List.any_eq_false]
 simp only [List.mem_range,Ze5,Bool.not_eq_true]
theorem Z8D {t:Zo} {s:ShS}:shB Z18 t s=true↔YT t=true∧(0≤s.num∧s.num≤2147483647)∧(0≤s.owner∧s.owner≤1)∧(0≤s.a0∧s.a0≤1125899906842624)∧(0≤s.a1∧s.a1≤1125899906842624)∧t.fee≤s.a0∧(∀i,i<s.n→Q2 t s i)∧Ym s s.n=t.cap∧(shM s.g s.n).getD 0 0≤8∧(shM s.g s.n).getD 1 0≤8:=by
 rw [Z1y]
 constructor
 ·rintro ⟨h1,h2,h3,h4,h5,h6,h7,h8,h9⟩
  unfold Z18 at h8 h9
  by_cases ha:allIn 1125899906842624 (shX s.a0 s.a1 s.g s.n)=true
  ·rw [if_pos ha] at h8 h9
   by_cases hb:(shX s.a0 s.a1 s.g s.n).sum≤1125899906842624
   ·rw [if_pos hb] at h9
    obtain ⟨a1,a2,a3⟩:=(Z8C _ _ _ _).1 ha
    rw [Z1A] at h9
    have h9:Ym s s.n=t.cap:=h9
    exact ⟨h1,h2,h3,a1,a2,h4,fun i hi=>⟨(h5 i hi).1,by have:=Z2Y s (Nat.le_of_lt hi) (fun j hj=>(h5 j hj).1);omega,(Z6h _ _).1 (h5 i hi).2⟩,h9,h6,h7⟩
   ·rw [if_neg hb] at h8;simp at h8
  ·rw [if_neg ha] at h8;simp at h8
 ·rintro ⟨h1,h2,h3,a1,a2,h4,h5,h9,h6,h7⟩
  have ha:allIn 1125899906842624 (shX s.a0 s.a1 s.g s.n)=true:=(Z8C _ _ _ _).2 ⟨a1,a2,fun i hi=>by have:=UH (h5 i hi).p;omega⟩
  have hc:t.cap≤1125899906842624:=by
   unfold YT at h1
   simp only [Bool.and_eq_true,decide_eq_true_eq] at h1
   omega
  have hb:(shX s.a0 s.a1 s.g s.n).sum≤1125899906842624:=by rw [Z1A];omega
  refine ⟨h1,h2,h3,h4,fun i hi=>⟨(h5 i hi).p,(Z6h _ _).2 (h5 i hi).dup⟩,h6,h7, ?_, ?_⟩
  ·unfold Z18;rw [if_pos ha,if_pos hb]
  ·unfold Z18;rw [if_pos ha,if_pos hb];show (shX s.a0 s.a1 s.g s.n).sum=_;rw [Z1A,h9]
theorem Z6i {t:Zo} {s:ShS} (h1:0≤s.a0∧s.a0≤1125899906842624) (h2:0≤s.a1∧s.a1≤1125899906842624):∀i,(∀j,j<i→Q2 t s j)→0≤Ym s i∧(0<i→Ym s i≤t.cap+1125899906842624)∧(i=0→Ym s i≤2251799813685248)
 | 0,_=>by simp only [Ym];omega
 | i+1,h=>by
  obtain ⟨k1,_⟩:=Z6i h1 h2 i (fun j hj=>h j (by omega))
  have k2:=h i (by omega)
  have k3:=UH k2.p
  have k4:=k2.sum
  simp only [Ym]
  omega
end Go.Tk
end
section
namespace Go.Tk
open IntKind (i64 u8 u32 u64 wrap)
end Go.Tk
end
section
namespace Go.Tk
open IntKind (i64 u8 u32 u64 wrap)
def rsH (t:Zo) (s:ShS) (M:List Int):Z6:=⟨3,[(0,.flat t.c),(1,.flat s.c),(2,.flat [.arr .i64 2 M])]⟩
def Zha (t:Zo) (s:ShS) (M:List Int) (i:Nat):Z6:=⟨4,[(0,.flat t.c),(1,.flat s.c),(2,.flat [.arr .i64 2 M]),(3,.flat (s.g i).c)]⟩
def rs0 (t:Zo) (s:ShS) (M:List Int) (i:Nat):St:=⟨132,[(7,.int .i64 i),(3,.ptr (some ⟨1,0,0,0,0⟩)),(5,.int .i64 (Ym s i)),(2,.ptr (some ⟨0,0,0,0,0⟩)),(6,.ptr (some ⟨2,0,0,0,0⟩))],rsH t s M,[]⟩
def Zhb (t:Zo) (s:ShS) (M:List Int) (i:Nat):St:=⟨132,[(5,.int .i64 (Ym s i)),(2,.ptr (some ⟨0,0,0,0,0⟩)),(6,.ptr (some ⟨1,0,0,0,0⟩))],⟨2,[(0,.flat t.c),(1,.flat [.arr .i64 2 M])]⟩,[]⟩
def rs2 (t:Zo) (s:ShS) (M:List Int) (i k:Nat):St:=⟨132,[(9,.int .i64 k),(7,.int .i64 i),(3,.ptr (some ⟨1,0,0,0,0⟩)),(8,.ptr (some ⟨3,0,0,0,0⟩)),(6,.ptr (some ⟨2,0,0,0,0⟩)),(5,.int .i64 (Ym s i)),(2,.ptr (some ⟨0,0,0,0,0⟩))],Zha t s M i,[]⟩
def Zhc (t:Zo) (s:ShS) (M:List Int) (i:Nat):St:=⟨132,[(7,.int .i64 i),(3,.ptr (some ⟨1,0,0,0,0⟩)),(8,.ptr (some ⟨3,0,0,0,0⟩)),(6,.ptr (some ⟨2,0,0,0,0⟩)),(5,.int .i64 (Ym s i)),(2,.ptr (some ⟨0,0,0,0,0⟩))],Zha t s M i,[]⟩
def rsR:St:=⟨132,[(4,.bool false)],⟨0,[]⟩,[]⟩
noncomputable def ZfZ:Zf:=(G0.withP 97 Z7r).withP 102 Zc9
theorem Z8E:ZfZ.Ok:=Zf.withP_ok (Zf.withP_ok ZB Z9x) Zca
theorem Ziu (t:Zo) (s:ShS) (M:List Int) (i k:Nat) (Z1 Z2 Z3:Prop) (hn:s.n<1000) (hi:i<s.n) (hk:k≤i) (h1:k<i→Ui s.g i k=false→Z1) (h2:k=i→Z2) (h3:k<i→Ui s.g i k=true→Z3):
  ZY ZfZ 20 83 2 0 (rs2 t s M i k) (rdM 0 2 9 (rs2 t s M i (k+1)) (Zhc t s M i) rsR rsR Z1 Z2 Z3 False):=by
 refine @Eq.mpr _ (let q1:=s.n;
 let q2:=decide (0≤(↑k:Int)∧(↑k:Int)<(↑q1:Int));
 let q3:=s.g (Int.toNat (↑k:Int));
 let q4:=s.g i;
 let q5:=q4.frm;
 let q6:=q4.id;
 let q7:=decide ((↑i:Int)=(↑i:Int));
 let q8:=decide (Ym s i=Ym s i);
 let q9:=t.fund=t.fund;
 let q10:=decide (t.index=t.index);
 let q11:=decide (t.cap=t.cap);
 let q12:=decide (t.dust=t.dust);
 let q13:=decide (t.fee=t.fee);
 let q14:=decide (t.delay=t.delay);
 let q15:=t.k0=t.k0;
 let q16:=t.k1=t.k1;
 let q17:=decide (s.num=s.num);
 let q18:=decide (s.owner=s.owner);
 let q19:=s.point=s.point;
 let q20:=[s.a0,s.a1];
 let q21:=q20=q20;
 let q22:=decide (q1=q1);
 let q23:=Xn s.g;
 let q24:=q23=q23;
 let q25:=decide (q5=q5);
 let q26:=decide (q6=q6);
 let q27:=q4.amount;
 let q28:=decide (q27=q27);
 let q29:=q4.hash;
 let q30:=q29=q29;
 let q31:=q4.expiry;
 let q32:=decide (q31=q31);
 let q33:=Z0 (decide (wrap i64 ((↑k:Int)+1)=(↑(k+1):Int))) (Z0 q7 (Z0 q8 (q9∧Z0 q10 (Z0 q11 (Z0 q12 (Z0 q13 (Z0 q14 (q15∧q16∧Z0 q17 (Z0 q18 (q19∧q21∧Z0 q22 (q24∧Z0 q22 (M=M∧Z0 q25 (Z0 q26 (Z0 q28 (q30∧Z0 q32 Z1 False) False) False) False) False) False) False) False) False) False) False) False) False) False) False) False;
 Z0 (decide ((↑k:Int)<(↑i:Int))) (Z0 q2 (Z0 (q3.frm==q5) (Z0 q2 (Z0 (q3.id==q6) Z3 q33) False) q33) False) (Z0 q7 (Z0 q8 (q9∧Z0 q10 (Z0 q11 (Z0 q12 (Z0 q13 (Z0 q14 (q15∧q16∧Z0 q17 (Z0 q18 (q19∧q21∧Z0 q22 (q24∧Z0 q22 (M=M∧Z0 q25 (Z0 q26 (Z0 q28 (q30∧Z0 q32 Z2 False) False) False) False) False) False) False) False) False) False) False) False) False) False) False)) (by kernel_rfl) ?_
 conv=>zeta
 try simp only [Zi]
 try simp only [Zj]
 try simp only [Zk]
 try simp only [Zl]
 try simp only [Zm]
 try simp only [Zh]
 try simp only [Int.toNat_natCast,Nat.zero_add,true_and,and_true,Nat.le_refl]
 refine ⟨fun hc=> ?_,fun hc=>h2 (by omega)⟩
 have hlt:k<i:=by omega
 have hwr:i64.wrap ((k:Int)+1)=((k+1:Nat):Int):=by rw [w64 (by omega)];omega
 unfold Ui at h1 h3
 refine ⟨by omega,fun k1=>⟨by omega,fun k2=>h3 hlt ?_,fun k2=>⟨hwr,h1 hlt ?_⟩⟩,fun k1=>⟨hwr,h1 hlt ?_⟩⟩
 all_goals
  simp only [beq_iff_eq,beq_eq_false_iff_ne,ne_eq] at k1
  try simp only [beq_iff_eq,beq_eq_false_iff_ne,ne_eq] at k2
  simp [*]
noncomputable def Zcf (t:Zo) (s:ShS):Zf:=ZfZ.withL 83 2 (Zfj fun p:Nat×List Int=>goM 0 (rs2 t s p.2 p.1 0) (p.1<s.n∧s.n<1000) (YR 2 p.1 9 (fun k=>Ui s.g p.1 k=false) (fun k=>k=p.1) (fun k=>k<p.1∧Ui s.g p.1 k=true) (fun _=>False) (fun _=>Zhc t s p.2 p.1) (fun _=>rsR) (fun _=>rsR)))
theorem Zcg (t:Zo) (s:ShS):(Zcf t s).Ok:=
 Zf.withL_ex Z8E fun p=>Zf.withGoM (N:=20) (S:=fun k=>rs2 t s p.2 p.1 k) Z8E (by kernel_rfl) fun hC=>⟨rfl,fun k hk hgo=>Ziu t s p.2 p.1 k _ _ _ hC.2 hC.1 hk (fun h1 h2=>⟨h2,h1⟩) (fun h=>h) (fun h1 h2=>⟨h1,h2⟩)⟩
theorem Ziv (t:Zo) (s:ShS) (M M1:List Int) (i:Nat) (Z1 Z2 Z3:Prop) (hn:s.n<1000) (hi:i≤s.n) (hMl:M.length=2) (hM1:M1=M.set (s.g i).frm.toNat (i64.wrap (M.getD (s.g i).frm.toNat 0+1))) (hM0:0≤M.getD 0 0∧M.getD 0 0≤i) (hs:0≤Ym s i∧Ym s i≤2251799813685248) (h1:i<s.n→Q2 t s i→Z1) (h2:i=s.n→Z2) (h3:i<s.n→¬Q2 t s i→Z3):
  ZY (Zcf t s) 20 83 0 0 (rs0 t s M i) (rdM 0 0 9 (rs0 t s M1 (i+1)) (Zhb t s M i) rsR rsR Z1 Z2 Z3 False):=by
 refine @Eq.mpr _ (let q1:=s.n;
 let q2:=s.g (Int.toNat (↑i:Int));
 let q3:=q2.frm;
 let q4:=q2.id;
 let q5:=q2.amount;
 let q6:=q2.hash;
 let q7:=q2.expiry;
 let q8:=Ym s i;
 let q9:=t.cap;
 let q10:=t.fund=t.fund;
 let q11:=decide (t.index=t.index);
 let q12:=decide (q9=q9);
 let q13:=decide (t.dust=t.dust);
 let q14:=decide (t.fee=t.fee);
 let q15:=decide (t.delay=t.delay);
 let q16:=t.k0=t.k0;
 let q17:=t.k1=t.k1;
 let q18:=decide (s.num=s.num);
 let q19:=decide (s.owner=s.owner);
 let q20:=s.point=s.point;
 let q21:=[s.a0,s.a1];
 let q22:=q21=q21;
 let q23:=decide (q1=q1);
 let q24:=s.g;
 let q25:=Xn q24;
 let q26:=q25=q25;
 Z0 (decide ((↑i:Int)<(↑q1:Int)))
 (Z0 (decide (0≤(↑i:Int)∧(↑i:Int)<(↑q1:Int)))
 (Z0 (!WH (ZS.mk q3 q4 q5 q6 q7)) Z3
 (Z0 (decide (q8>q9)) Z3
 (∃(i_1:Nat×List Int),
 let q53:=Ym s i_1.fst;
 let q54:=q24 i_1.fst;
 let q55:=q54.frm;
 let q56:=q54.amount;
 let q57:=decide (0≤q55∧q55<2);
 let q58:=0+Int.toNat q55;
 Z0 (decide ((↑i:Int)=(↑i_1.fst:Int)))
 (Z0 (decide (q8=q53))
 (q10∧
 Z0 q11
 (Z0 q12
 (Z0 q13
 (Z0 q14
 (Z0 q15
 (q16∧
 q17∧
 Z0 q18
 (Z0 q19
 (q20∧
 q22∧
 Z0 q23
 (q26∧
 Z0 q23
 (M=i_1.snd∧Z0 (decide (q3=q55)) (Z0 (decide (q4=q54.id)) (Z0 (decide (q5=q56)) (q6=q54.hash∧Z0 (decide (q7=q54.expiry)) ((i_1.fst<q1∧q1<1000)∧∀(i_2:Nat),i_2≤i_1.fst→(∀(j:Nat),j<i_2→(fun (k:Nat)=>Ui q24 i_1.fst k=false) j)→(i_2=i_1.fst→Z0 q57 (Z0 (decide (q58<2)) (Z0 q57 (Z0 (decide (i64=i64∧q58<2∧q58<List.length i_1.snd)) (Z0 (decide (wrap i64 ((↑i_1.fst:Int)+1)=(↑(i+1):Int))) (Z0 (decide (wrap i64 (q53+q56)=Ym s (i+1))) (q10∧Z0 q11 (Z0 q12 (Z0 q13 (Z0 q14 (Z0 q15 (q16∧q17∧Z0 q18 (Z0 q19 (q20∧q22∧Z0 q23 (q26∧Z0 q23 (List.set i_1.snd q58 (wrap i64 (List.getD i_1.snd q58 0+1))=M1∧Z1) False) False) False) False) False) False) False) False) False) False) False) False) False) False) False)∧(i_2<i_1.fst∧Ui q24 i_1.fst i_2=true→Z3)∧(False→False)) False) False) False) False)
 False)
 False)
 False)
 False)
 False)
 False)
 False)
 False)
 False)
 False)
 False)))
 False)
 (Z0 (decide (q8=q8)) (q10∧Z0 q11 (Z0 q12 (Z0 q13 (Z0 q14 (Z0 q15 (q16∧q17∧M=M∧Z2) False) False) False) False) False) False)) (by kernel_rfl) ?_
 conv=>zeta
 try simp only [Zi]
 try simp only [Zj]
 try simp only [Zk]
 try simp only [Zl]
 try simp only [Zm]
 try simp only [Zh]
 try simp only [Int.toNat_natCast,Nat.zero_add,true_and,and_true,Nat.le_refl]
 have e0:(ZS.mk (s.g i).frm (s.g i).id (s.g i).amount (s.g i).hash (s.g i).expiry)=s.g i:=rfl
 rw [e0]
 refine ⟨fun hc=> ?_,fun hc=>h2 (by omega)⟩
 have hlt:i<s.n:=by omega
 have hwr:i64.wrap ((i:Int)+1)=((i+1:Nat):Int):=by rw [w64 (by omega)];omega
 refine ⟨by omega,fun k1=>h3 hlt fun h=> ?_,fun k1=>⟨fun k2=>h3 hlt fun h=> ?_,fun k2=>⟨(i,M),rfl,rfl,rfl,rfl,rfl,rfl,rfl,rfl,⟨hlt,hn⟩,fun m hm hd=>⟨fun hq=> ?_,fun hq=>h3 hlt fun h=> ?_,fun h=>h.elim⟩⟩⟩⟩
 ·rw [h.p] at k1;cases k1
 ·have:=h.sum;omega
 ·subst hq
  have kp:WH (s.g m)=true:=by simpa using k1
  have kb:=UH kp
  have hf:0≤(s.g m).frm∧(s.g m).frm<2:=by omega
  have e5:i64.wrap (Ym s m+(s.g m).amount)=Ym s (m+1):=by rw [w64 (by omega)];rfl
  exact ⟨hf,by show (s.g m).frm.toNat<2;omega,hf,⟨by show (s.g m).frm.toNat<2;omega,by show (s.g m).frm.toNat<M.length;omega⟩,hwr,e5,hM1.symm,h1 hlt ⟨kp,by omega,hd⟩⟩
 ·have:=h.dup m hq.1
  rw [hq.2] at this;cases this
noncomputable def ZeR (t:Zo) (s:ShS):Zf:=(Zcf t s).withL 83 0 (goM 0 (rs0 t s [0,0] 0) (s.n<1000∧t.cap≤1125899906842624∧(0≤s.a0∧s.a0≤1125899906842624)∧(0≤s.a1∧s.a1≤1125899906842624)) (YR 0 s.n 9 (fun i=>Q2 t s i) (fun i=>i=s.n) (fun i=>i<s.n∧¬Q2 t s i) (fun _=>False) (fun i=>Zhb t s (shM s.g i) i) (fun _=>rsR) (fun _=>rsR)))
theorem Zch (t:Zo) (s:ShS):(ZeR t s).Ok:=
 Zf.withGoM (N:=20) (S:=fun i=>rs0 t s (shM s.g i) i) (Zcg t s) (by kernel_rfl) fun hC=>⟨rfl,fun i hi hgo=>by
  obtain ⟨c1,c2,c3,c4⟩:=hC
  have hM:=Z1z (g:=s.g) i (by omega) (fun j hj=>(hgo j hj).p)
  have hS:=Z6i c3 c4 i hgo
  exact Ziv t s (shM s.g i) _ i _ _ _ c1 hi (Z4X s.g i) rfl (by omega) (by rcases Nat.eq_zero_or_pos i with h0|h0<;>omega) (fun h1 h2=>⟨h2,h1⟩) (fun h=>h) (fun h1 h2=>⟨h1,h2⟩)⟩
theorem Zhd (t:Zo) (s:ShS) (b:Bool) (ht:t.Ok) (hn:s.n<1000) (hb:b=shB Z18 t s):
  evF (ZeR t s) 20 83 [.agg t.c,.agg s.c] ⟨0,[]⟩ (YS 0 (.ret (.bool b)) 0 []):=by
 refine @Eq.mpr _ (Zo.Ok (Zo.mk t.fund t.index t.cap t.dust t.fee t.delay t.k0 t.k1)∧
 Z0 (!YT (Zo.mk t.fund t.index t.cap t.dust t.fee t.delay t.k0 t.k1)) (Z0 (decide (false=b)) True False)
 (Z0 (decide (s.num<0)) (Z0 (decide (false=b)) True False)
 (Z0 (decide (s.num>2147483647)) (Z0 (decide (false=b)) True False)
 (Z0 (s.owner !=0)
 (Z0 (s.owner !=1) (Z0 (decide (false=b)) True False)
 (Z0 (decide (s.a0≥0))
 (Z0 (!decide (s.a0≤1125899906842624)) (Z0 (decide (false=b)) True False)
 (Z0 (decide (s.a1≥0))
 (Z0 (!decide (s.a1≤1125899906842624)) (Z0 (decide (false=b)) True False)
 (Z0 (decide (s.a0<t.fee)) (Z0 (decide (false=b)) True False)
 (Z0 (decide (wrap i64 (s.a0+s.a1)=Ym s 0))
 (t.fund=t.fund∧
 Z0 (decide (t.index=t.index)) (Z0 (decide (t.cap=t.cap)) (Z0 (decide (t.dust=t.dust)) (Z0 (decide (t.fee=t.fee)) (Z0 (decide (t.delay=t.delay)) (t.k0=t.k0∧t.k1=t.k1∧Z0 (decide (s.num=s.num)) (Z0 (decide (s.owner=s.owner)) (s.point=s.point∧[s.a0,s.a1]=[s.a0,s.a1]∧Z0 (decide (s.n=s.n)) (Xn s.g=Xn s.g∧Z0 (decide (s.n=s.n)) ([(0:Int),0]=[(0:Int),0]∧(s.n<1000∧t.cap≤1125899906842624∧(0≤s.a0∧s.a0≤1125899906842624)∧0≤s.a1∧s.a1≤1125899906842624)∧∀(i:Nat),i≤s.n→(∀(j:Nat),j<i→(fun (i:Nat)=>Q2 t s i) j)→(i=s.n→Z0 (Ym s i==t.cap) (Z0 (decide (List.getD (shM s.g i) 0 0≤8)) (Z0 (decide (decide (List.getD (shM s.g i) 1 0≤8)=b)) True False) (Z0 (decide (false=b)) True False)) (Z0 (decide (false=b)) True False))∧(i<s.n∧¬Q2 t s i→Z0 (decide (false=b)) True False)∧(False→False)) False) False) False) False) False) False) False) False)
 False)
 False)))
 (Z0 (decide (false=b)) True False)))
 (Z0 (decide (false=b)) True False)))
 (Z0 (decide (s.a0≥0))
 (Z0 (!decide (s.a0≤1125899906842624)) (Z0 (decide (false=b)) True False)
 (Z0 (decide (s.a1≥0))
 (Z0 (!decide (s.a1≤1125899906842624)) (Z0 (decide (false=b)) True False)
 (Z0 (decide (s.a0<t.fee)) (Z0 (decide (false=b)) True False)
 (Z0 (decide (wrap i64 (s.a0+s.a1)=Ym s 0))
 (t.fund=t.fund∧
 Z0 (decide (t.index=t.index)) (Z0 (decide (t.cap=t.cap)) (Z0 (decide (t.dust=t.dust)) (Z0 (decide (t.fee=t.fee)) (Z0 (decide (t.delay=t.delay)) (t.k0=t.k0∧t.k1=t.k1∧Z0 (decide (s.num=s.num)) (Z0 (decide (s.owner=s.owner)) (s.point=s.point∧[s.a0,s.a1]=[s.a0,s.a1]∧Z0 (decide (s.n=s.n)) (Xn s.g=Xn s.g∧Z0 (decide (s.n=s.n)) ([(0:Int),0]=[(0:Int),0]∧(s.n<1000∧t.cap≤1125899906842624∧(0≤s.a0∧s.a0≤1125899906842624)∧0≤s.a1∧s.a1≤1125899906842624)∧∀(i:Nat),i≤s.n→(∀(j:Nat),j<i→(fun (i:Nat)=>Q2 t s i) j)→(i=s.n→Z0 (Ym s i==t.cap) (Z0 (decide (List.getD (shM s.g i) 0 0≤8)) (Z0 (decide (decide (List.getD (shM s.g i) 1 0≤8)=b)) True False) (Z0 (decide (false=b)) True False)) (Z0 (decide (false=b)) True False))∧(i<s.n∧¬Q2 t s i→Z0 (decide (false=b)) True False)∧(False→False)) False) False) False) False) False) False) False) False)
 False)
 False)))
 (Z0 (decide (false=b)) True False)))
 (Z0 (decide (false=b)) True False)))))) (by kernel_rfl) ?_
 try simp only [Zi]
 try simp only [Zj]
 try simp only [Zk]
 try simp only [Zl]
 try simp only [Zm]
 try simp only [Zh]
 try simp only [Int.toNat_natCast,Nat.zero_add,true_and,and_true,Nat.le_refl]
 have e0:(Zo.mk t.fund t.index t.cap t.dust t.fee t.delay t.k0 t.k1)=t:=rfl
 rw [e0]
 have hR:=Z8D (t:=t) (s:=s)
 have no:¬(shB Z18 t s=true)→false=b:=fun h=>by rw [hb];simpa using h
 refine ⟨ht,fun k1=>no fun h=> ?_,fun k1=>⟨fun k2=>no fun h=> ?_,fun k2=>⟨fun k3=>no fun h=> ?_,fun k3=>⟨fun k4=>⟨fun k5=>no fun h=> ?_,fun k5=> ?_⟩,fun k4=> ?_⟩⟩⟩⟩
 ·have:=(hR.1 h).1;rw [this] at k1;cases k1
 ·have:=(hR.1 h).2.1;omega
 ·have:=(hR.1 h).2.1;omega
 ·have:=(hR.1 h).2.2.1
  simp only [bne_iff_ne,ne_eq] at k4 k5
  omega
 all_goals
  have ow:0≤s.owner∧s.owner≤1:=by
   first
    | (simp only [bne_eq_false_iff_eq] at k5;omega)
    | (simp only [bne_eq_false_iff_eq] at k4;omega)
  have kt:YT t=true:=by simpa using k1
  have kc:t.cap≤1125899906842624:=by
   have:=kt
   unfold YT at this
   simp only [Bool.and_eq_true,decide_eq_true_eq] at this
   omega
  refine ⟨fun a1=>⟨fun a2=>no fun h=> ?_,fun a2=>⟨fun a3=>⟨fun a4=>no fun h=> ?_,fun a4=>⟨fun a5=>no fun h=> ?_,fun a5=>⟨?_,⟨hn,kc, ?_, ?_⟩,fun i hi hgo=>⟨fun hq=>⟨fun c1=>⟨fun c2=> ?_,fun c2=>no fun h=> ?_⟩,fun c1=>no fun h=> ?_⟩,fun hq=>no fun h=> ?_,fun h=>h.elim⟩⟩⟩⟩,fun a3=>no fun h=> ?_⟩⟩,fun a1=>no fun h=> ?_⟩
  ·have:=(hR.1 h).2.2.2.1;simp at a2;omega
  ·have:=(hR.1 h).2.2.2.2.1;simp at a4;omega
  ·have:=(hR.1 h).2.2.2.2.2.1;omega
  ·simp at a2 a4;rw [w64 (by omega)];rfl
  ·simp at a2;omega
  ·simp at a4;omega
  ·subst hq
   have c1:Ym s s.n=t.cap:=by simpa using c1
   simp at a2 a4
   rw [hb,Bool.eq_iff_iff,decide_eq_true_eq,hR]
   exact ⟨fun h=>⟨kt,by omega,ow,by omega,by omega,by omega,hgo,c1,c2,h⟩,fun h=>h.2.2.2.2.2.2.2.2.2⟩
  ·subst hq;have:=(hR.1 h).2.2.2.2.2.2.2.2.1;omega
  ·subst hq
   have:=(hR.1 h).2.2.2.2.2.2.2.1
   rw [this] at c1;simp at c1
  ·exact hq.2 ((hR.1 h).2.2.2.2.2.2.1 i hq.1)
  ·have:=(hR.1 h).2.2.2.2.1;omega
  ·have:=(hR.1 h).2.2.2.1;omega
def Zhe (A:List Int→Int×Int):ZU:=fun args h K=>ZV none h true 20 args fun a=>match a with
 | [.agg [.arr .u8 32 fu,.int .i64 ix,.int .i64 ca,.int .i64 du,.int .i64 fe,.int .i64 de,.arr .u8 32 k0,.arr .u8 32 k1],.agg l]=>(Zo.Ok ⟨fu,ix,ca,du,fe,de,k0,k1⟩)∧∃s,Z4Y l s∧s.n<1000∧K (.bool (shB A ⟨fu,ix,ca,du,fe,de,k0,k1⟩ s))
 | _=>False
theorem Ze8 (args:List AV) (h:Z6) (K:AV→Prop) (hl:Zhe Z18 args h K):Zn PP 83 args h fun o h'=>∃v,o=.ret v∧h'=h∧K v:=by
 refine ZI.psumm (d:=20) (Zu _ _ _ _ _ hl fun a ha=> ?_)
 split at ha
 ·obtain ⟨ht,s,hs,hn,hK⟩:=ha
  exact ⟨_,(ZI.evM (Zch _ _) (Zhd ⟨_,_,_,_,_,_,_,_⟩ s _ ht hn rfl)).conv fun E r hr=>hr.head (fun _ hc=>hc) (fun _ hc=>hc.head (fun _ hc=>hs.rel hc) (fun _ hc=>hc)),fun _=>rfl,hK⟩
 ·exact ha.elim
end Go.Tk
end
section
namespace Go.Tk
open IntKind (i64 u8 u32 u64 wrap)
def ouS (t:Zo) (s:ShS) (own other:List Int) (L:List Ze) (c i:Nat):St:=⟨109,[(11,.int .i64 i),(3,.ptr (some ⟨1,0,0,0,0⟩)),(2,.ptr (some ⟨0,0,0,0,0⟩)),(5,.nslice ⟨4,0,134,0,0⟩ 134 c c),(6,.ptr (some ⟨2,0,0,0,0⟩)),(7,.ptr (some ⟨3,0,0,0,0⟩))],⟨5,[(0,.flat t.c),(1,.flat s.c),(2,.flat [.arr .u8 32 own]),(3,.flat [.arr .u8 32 other]),(4,.rows 134 c (Zw L))]⟩,[]⟩
def ouE (L:List Ze) (c:Nat):St:=⟨109,[(5,.nslice ⟨0,0,134,0,0⟩ 134 c c)],⟨1,[(0,.rows 134 c (Zw L))]⟩,[]⟩
noncomputable def Zg0:Zf:=G0.withF 133 puF
theorem Ze9:Zg0.Ok:=Zf.withF_ok ZB ZfX
theorem Ziw (t:Zo) (s:ShS) (own other:List Int) (L L1:List Ze) (c c1 i:Nat) (Z1 Z2:Prop) (hn:s.n<500) (hi:i≤s.n) (hL:L.length=c) (hci:c≤i+2) (hL1:i<s.n→L1=(if t.dust≤(s.g i).amount then Xg ltM (Z0b t s own other i) L else L)) (hc1:c1=L1.length) (hok:∀m∈L,m.Okb) (hp:i<s.n→(Z0b t s own other i).Okb) (h1:i<s.n→Z1) (h2:i=s.n→Z2):
  ZY Zg0 20 85 0 0 (ouS t s own other L c i) (rdM 0 0 9 (ouS t s own other L1 c1 (i+1)) (ouE L c) (ouE L c) (ouE L c) Z1 Z2 False False):=by
 refine @Eq.mpr _ (let q1:=s.n;
 let q2:=s.g (Int.toNat (↑i:Int));
 let q3:=q2.amount;
 let q4:=t.dust;
 let q5:=decide (wrap i64 ((↑i:Int)+1)=(↑(i+1):Int));
 let q6:=decide (c=c1);
 let q7:=t.fund=t.fund;
 let q8:=decide (t.index=t.index);
 let q9:=decide (t.cap=t.cap);
 let q10:=decide (q4=q4);
 let q11:=decide (t.fee=t.fee);
 let q12:=t.delay;
 let q13:=decide (q12=q12);
 let q14:=t.k0=t.k0;
 let q15:=t.k1=t.k1;
 let q16:=decide (s.num=s.num);
 let q17:=s.owner;
 let q18:=decide (q17=q17);
 let q19:=s.point;
 let q20:=q19=q19;
 let q21:=[s.a0,s.a1];
 let q22:=q21=q21;
 let q23:=decide (q1=q1);
 let q24:=Xn s.g;
 let q25:=q24=q24;
 let q26:=[(0,0),(1,1)];
 let q27:=Zw L;
 let q28:=decide (0+c≤c);
 let q29:=[AV.int i64 q3,AV.arr u8 32 own,AV.arr u8 32 other,AV.arr u8 32 q19,AV.arr u8 32 q2.hash,AV.int i64 q12,AV.int i64 q2.expiry,AV.int i64 q2.id,AV.int i64 (↑i:Int)];
 let q30:=decide (c+1=c1);
 let q31:=decide (c=c);
 Z0 (decide ((↑i:Int)<(↑q1:Int)))
 (Z0 (decide (0≤(↑i:Int)∧(↑i:Int)<(↑q1:Int)))
 (Z0 (decide (q3<q4)) (Z0 q5 (Z0 q6 (Z0 (decide (c1≤c)) (q7∧Z0 q8 (Z0 q9 (Z0 q10 (Z0 q11 (Z0 q13 (q14∧q15∧Z0 q16 (Z0 q18 (q20∧q22∧Z0 q23 (q25∧Z0 q23 (own=own∧other=other∧Z0 q6 (Zd 0 ((3,3)::(2,2)::(4,4)::q26) c1 (Zw L1) q27∧Z1) False) False) False) False) False) False) False) False) False) False) False) False) False)
 (Z0 (q2.frm==q17) (Z0 q28 ((∀(i:Nat),i<c→true=true)∧∃(L:List Ze),∃(m:Ze),c=c∧ZX 0 q27=Zw L∧AV.int i64 4::q29=Ze.c m∧Z6g c L m∧Z0 q5 (Z0 q30 (Z0 (decide (c1≤c+1)) (q7∧Z0 q8 (Z0 q9 (Z0 q10 (Z0 q11 (Z0 q13 (q14∧q15∧Z0 q16 (Z0 q18 (q20∧q22∧Z0 q23 (q25∧Z0 q23 (own=own∧other=other∧Z0 q30 (Zd 0 ((3,3)::(2,2)::(4,6)::q26) c1 (Zw L1) (Zw (Xg ltM m L))∧Z1) False) False) False) False) False) False) False) False) False) False) False) False) False) False)
 (Z0 q28 ((∀(i:Nat),i<c→true=true)∧∃(L:List Ze),∃(m:Ze),c=c∧ZX 0 q27=Zw L∧AV.int i64 5::q29=Ze.c m∧Z6g c L m∧Z0 q5 (Z0 q30 (Z0 (decide (c1≤c+1)) (q7∧Z0 q8 (Z0 q9 (Z0 q10 (Z0 q11 (Z0 q13 (q14∧q15∧Z0 q16 (Z0 q18 (q20∧q22∧Z0 q23 (q25∧Z0 q23 (own=own∧other=other∧Z0 q30 (Zd 0 ((3,3)::(2,2)::(4,6)::q26) c1 (Zw L1) (Zw (Xg ltM m L))∧Z1) False) False) False) False) False) False) False) False) False) False) False) False) False) False)))
 False)
 (Z0 q31 (Z0 (decide (c≤c)) (Z0 q31 (Zd 0 [(0,4)] c q27 q27∧Z2) False) False) False)) (by kernel_rfl) ?_
 conv=>zeta
 try simp only [Zi]
 try simp only [Zj]
 try simp only [Zk]
 try simp only [Zl]
 try simp only [Zm]
 try simp only [Zh]
 try simp only [Int.toNat_natCast,Nat.zero_add,true_and,and_true,Nat.le_refl]
 refine ⟨fun hc=> ?_,fun hc=>⟨Y2 fun _ _=>rfl,h2 (by omega)⟩⟩
 have hlt:i<s.n:=by omega
 have hwr:i64.wrap ((i:Int)+1)=((i+1:Nat):Int):=by rw [w64 (by omega)];omega
 have hL1:=hL1 hlt
 have hp:=hp hlt
 refine ⟨by omega,fun k=> ?_,fun k=>⟨fun k2=> ?_,fun k2=> ?_⟩⟩
 ·rw [if_neg (by omega)] at hL1
  have e:c=c1:=by rw [hc1,hL1,hL]
  exact ⟨hwr,e,by omega,e,Y2 fun _ _=>by rw [hL1],h1 hlt⟩
 all_goals
  rw [if_pos (by omega)] at hL1
  have e:c+1=c1:=by rw [hc1,hL1,Z2M,hL]
  refine ⟨fun _ _=>trivial,L,Z0b t s own other i,rfl, ?_,⟨by omega,hL,hp,hok⟩,hwr,e,by omega,e,Y2 fun _ _=>by rw [hL1],h1 hlt⟩
  simp only [beq_iff_eq,beq_eq_false_iff_ne,ne_eq] at k2
  unfold Z0b
  first|(rw [if_pos k2];rfl)|(rw [if_neg k2];rfl)
theorem VG {t:Zo} {point own other:List Int} {a b:Int} (h1:point.length=32) (h2:own.length=32) (h3:other.length=32):∀m∈YZ t point own other a b,m.Okb:=fun m hm=>by
 refine ⟨Qx h1 h2 h3 m hm, ?_⟩
 unfold YZ at hm
 rw [List.mem_append] at hm
 rcases hm with hm|hm
 ·split at hm
  ·rw [List.mem_singleton] at hm;subst hm;exact XU
  ·cases hm
 ·split at hm
  ·rw [List.mem_singleton] at hm;subst hm;exact XU
  ·cases hm
theorem Z3Z {t:Zo} {s:ShS} {own other:List Int} {i:Nat} (hs:s.Ok) (h2:own.length=32) (h3:other.length=32) (hi:i<s.n):(Z0b t s own other i).Okb:=⟨⟨h2,h3,hs.point,(hs.g i hi).hash⟩,(hs.g i hi).hb⟩
theorem VH {t:Zo} {s:ShS} {own other:List Int} {O0:List Ze} (h0:∀m∈O0,m.Okb) (hs:s.Ok) (h2:own.length=32) (h3:other.length=32):∀i,i≤s.n→∀m∈YG t s own other O0 i,m.Okb
 | 0,_=>h0
 | i+1,hi=>fun m hm=>by
  simp only [YG,List.mem_append] at hm
  rcases hm with hm|hm
  ·exact VH h0 hs h2 h3 i (by omega) m hm
  ·split at hm
   ·rw [List.mem_singleton] at hm;subst hm
    exact Z3Z hs h2 h3 (by omega)
   ·cases hm
theorem Z9T {L:List Ze} {P:Ze→Prop} (h:∀m∈L,P m):∀m∈Y9 L,P m:=fun m hm=>by
 rcases (Z9Q (acc:=[])).1 hm with h0|h0
 ·cases h0
 ·exact h m h0
structure OuC (t:Zo) (s:ShS) (own other:List Int) (O0 L0:List Ze) (c0:Nat) (Ll:Nat→List Ze):Prop where
 hn:s.n<500
 hl:L0=Y9 O0
 hc:c0=L0.length
 c2:O0.length≤2
 okb:∀m∈O0,m.Okb
 hs:s.Ok
 ho1:own.length=32
 ho2:other.length=32
 hL:Ll=fun i=>Y9 (YG t s own other O0 i)
noncomputable def Zci (t:Zo) (s:ShS) (own other:List Int) (O0 L0:List Ze) (c0:Nat) (Ll:Nat→List Ze):Zf:=Zg0.withL 85 0 (goM 0 (ouS t s own other L0 c0 0) (OuC t s own other O0 L0 c0 Ll) (YR 0 s.n 9 (fun i=>i<s.n) (fun i=>i=s.n) (fun _=>False) (fun _=>False) (fun i=>ouE (Ll i) (Ll i).length) (fun i=>ouE (Ll i) (Ll i).length) (fun i=>ouE (Ll i) (Ll i).length)))
theorem Z6j (t:Zo) (s:ShS) (own other:List Int) (O0 L0:List Ze) (c0:Nat) (Ll:Nat→List Ze):(Zci t s own other O0 L0 c0 Ll).Ok:=
 Zf.withGoM (N:=20) (S:=fun i=>ouS t s own other (Y9 (YG t s own other O0 i)) (Y9 (YG t s own other O0 i)).length i) Ze9 (by kernel_rfl) fun hC=>⟨by
  show ouS t s own other (Y9 O0) (Y9 O0).length 0=_
  rw [hC.hc,hC.hl],fun i hi _=>by
  rw [hC.hL]
  have h1:=VE (t:=t) (s:=s) (own:=own) (other:=other) (O0:=O0) i
  have h2:=hC.c2
  refine Ziw t s own other _ _ _ _ i _ _ hC.hn hi rfl (by rw [Yy];omega) (fun hlt=> ?_) rfl (Z9T (VH hC.okb hC.hs hC.ho1 hC.ho2 i hi)) (fun hlt=>Z3Z hC.hs hC.ho1 hC.ho2 hlt) (fun h=>⟨h,h⟩) (fun h=>h)
  simp only [YG]
  split
  ·unfold Y9;rw [Z2N]
  ·rw [List.append_nil]⟩
theorem Zhf (t:Zo) (num:Int) (point:List Int) (a0 a1:Int) (n:Nat) (g:Nat→ZS) (O0 L0:List Ze) (c0:Nat) (Ll:Nat→List Ze) (b0:Int) (L1:List Ze) (c:Nat) (hwr:i64.wrap (a0-t.fee)=b0) (hO0:O0=YZ t point t.k0 t.k1 b0 a1) (hC:OuC t ⟨num,0,point,a0,a1,n,g⟩ t.k0 t.k1 O0 L0 c0 Ll) (hL1:L1=Ll n) (hc:c=L1.length):
  evF (Zci t ⟨num,0,point,a0,a1,n,g⟩ t.k0 t.k1 O0 L0 c0 Ll) 20 85 [.agg t.c,.agg (ShS.c ⟨num,0,point,a0,a1,n,g⟩)] ⟨0,[]⟩ (YS 0 (.ret (.nslice ⟨0,0,134,0,0⟩ 134 c c)) 1 [(0,.rows 134 c (Zw L1))]):=by
 refine @Eq.mpr _ (let q1:=t.k1;
 let q2:=q1=q1;
 let q3:=ShS.mk num 0 point a0 a1 n g;
 let q4:=q3.a0;
 let q5:=t.fee;
 let q6:=wrap i64 (q4-q5);
 let q7:=t.dust;
 let q8:=t.k0;
 let q9:=AV.arr u8 32 Z9;
 let q10:=q3.point;
 let q11:=t.delay;
 let q12:=AV.int i64 0;
 let q13:=q3.a1;
 let q14:=decide (q13≥q7);
 let q15:=decide (2=c0);
 let q16:=t.fund=t.fund;
 let q17:=decide (t.index=t.index);
 let q18:=decide (t.cap=t.cap);
 let q19:=decide (q7=q7);
 let q20:=decide (q5=q5);
 let q21:=decide (q11=q11);
 let q22:=q8=q8;
 let q23:=q3.num;
 let q24:=decide (q23=q23);
 let q25:=q10=q10;
 let q26:=[q4,q13];
 let q27:=q26=q26;
 let q28:=q3.n;
 let q29:=decide (q28=q28);
 let q30:=Xn q3.g;
 let q31:=q30=q30;
 let q32:=[(0,0),(1,1)];
 let q33:=OuC t q3 q8 q1 O0 L0 c0 Ll∧∀(i:Nat),i≤q28→(∀(j:Nat),j<i→(fun (i:Nat)=>i<q28) j)→(i=q28→Z0 (decide (List.length (Ll i)=c)) (Z0 (decide (c≤List.length (Ll i))) (Z0 (decide (List.length (Ll i)=c)) (Zd 0 [(0,0)] c (Zw L1) (Zw (Ll i))∧True) False) False) False)∧(False→False)∧(False→False);
 let q34:=decide (1=c0);
 let q35:=decide (c0=0);
 q2∧
 q2∧
 q2∧
 Z0 (decide (q6≥q7))
 (∃(m:Ze),
 let q71:=Zw (Xg ltM m []);
 [AV.int i64 3,AV.int i64 q6,AV.arr u8 32 q8,q9,AV.arr u8 32 q10,q9,AV.int i64 q11,q12,q12,AV.int i64 (-1)]=Ze.c m∧
 Z0 q14 ((∀(i:Nat),i<1→true=true)∧∃(L:List Ze),∃(m:Ze),(1:Nat)=1∧ZX 0 q71=Zw L∧[AV.int i64 1,AV.int i64 q13,AV.arr u8 32 q1,q9,q9,q9,q12,q12,q12,AV.int i64 (-2)]=Ze.c m∧Z6g 1 L m∧Z0 q15 (Z0 (decide (c0≤2)) (q16∧Z0 q17 (Z0 q18 (Z0 q19 (Z0 q20 (Z0 q21 (q22∧q2∧Z0 q24 (q25∧q27∧Z0 q29 (q31∧Z0 q29 (q22∧q2∧Z0 q15 (Zd 0 ((3,3)::(2,2)::(4,6)::q32) c0 (Zw L0) (Zw (Xg ltM m L))∧q33) False) False) False) False) False) False) False) False) False) False) False) (Z0 q34 (Z0 (decide (c0≤1)) (q16∧Z0 q17 (Z0 q18 (Z0 q19 (Z0 q20 (Z0 q21 (q22∧q2∧Z0 q24 (q25∧q27∧Z0 q29 (q31∧Z0 q29 (q22∧q2∧Z0 q34 (Zd 0 ((3,3)::(2,2)::(4,5)::q32) c0 (Zw L0) q71∧q33) False) False) False) False) False) False) False) False) False) False) False))
 (Z0 q14 (∃(m:Ze),[AV.int i64 1,AV.int i64 q13,AV.arr u8 32 q1,q9,q9,q9,q12,q12,q12,AV.int i64 (-2)]=Ze.c m∧Z0 q34 (Z0 (decide (c0≤1)) (q16∧Z0 q17 (Z0 q18 (Z0 q19 (Z0 q20 (Z0 q21 (q22∧q2∧Z0 q24 (q25∧q27∧Z0 q29 (q31∧Z0 q29 (q22∧q2∧Z0 q34 (Zd 0 ((3,3)::(2,2)::(4,5)::q32) c0 (Zw L0) (Zw (Xg ltM m []))∧q33) False) False) False) False) False) False) False) False) False) False) False) (Z0 q35 (Z0 q35 (q16∧Z0 q17 (Z0 q18 (Z0 q19 (Z0 q20 (Z0 q21 (q22∧q2∧Z0 q24 (q25∧q27∧Z0 q29 (q31∧Z0 q29 (q22∧q2∧Z0 q35 q33 False) False) False) False) False) False) False) False) False) False) False))) (by kernel_rfl) ?_
 conv=>zeta
 try simp only [Zi]
 try simp only [Zj]
 try simp only [Zk]
 try simp only [Zl]
 try simp only [Zm]
 try simp only [Zh]
 try simp only [Int.toNat_natCast,Nat.zero_add,true_and,and_true,Nat.le_refl]
 rw [hwr]
 have z32:Z9.length=32:=rfl
 have okX:(⟨⟨3,b0,t.k0,Z9,point,Z9,t.delay,0⟩,0, -1⟩:Ze).Okb:=⟨⟨hC.ho1,z32,hC.hs.point,z32⟩,XU⟩
 have okY:(⟨⟨1,a1,t.k1,Z9,Z9,Z9,0,0⟩,0, -2⟩:Ze).Okb:=⟨⟨hC.ho2,z32,z32,z32⟩,XU⟩
 have hfin:∀i,i≤n→(∀j,j<i→j<n)→(i=n→(Ll i).length=c∧c≤(Ll i).length∧(Ll i).length=c∧Zd 0 [(0,0)] c (Zw L1) (Zw (Ll i)))∧(False→False)∧(False→False):=fun i _ _=>⟨fun he=>by
  subst he
  have e:(Ll i).length=c:=by rw [hc,hL1]
  exact ⟨e,by omega,e,Y2 fun _ _=>by rw [hL1]⟩,fun h=>h,fun h=>h⟩
 have hl0:=hC.hl
 rw [hO0] at hl0
 unfold YZ at hl0
 have hc0:=hC.hc
 refine ⟨fun k1=>⟨⟨⟨3,b0,t.k0,Z9,point,Z9,t.delay,0⟩,0, -1⟩,rfl,fun k2=> ?_,fun k2=> ?_⟩,fun k1=>⟨fun k2=> ?_,fun k2=> ?_⟩⟩
 ·rw [if_pos k1,if_pos k2] at hl0
  have e:2=c0:=by rw [hc0,hl0];unfold Y9;rw [XS];rfl
  exact ⟨fun _ _=>trivial,Xg ltM ⟨⟨3,b0,t.k0,Z9,point,Z9,t.delay,0⟩,0, -1⟩ [],⟨⟨1,a1,t.k1,Z9,Z9,Z9,0,0⟩,0, -2⟩,rfl,rfl,⟨by decide,rfl,okY,fun x hx=>by rcases List.mem_cons.1 hx with rfl|hx;exact okX;cases hx⟩,e,by omega,e,Y2 fun _ _=>by rw [hl0];rfl,hC,hfin⟩
 ·rw [if_pos k1,if_neg k2] at hl0
  have e:1=c0:=by rw [hc0,hl0];unfold Y9;rw [XS];rfl
  exact ⟨e,by omega,e,Y2 fun _ _=>by rw [hl0];rfl,hC,hfin⟩
 ·rw [if_neg k1,if_pos k2] at hl0
  have e:1=c0:=by rw [hc0,hl0];unfold Y9;rw [XS];rfl
  exact ⟨⟨⟨1,a1,t.k1,Z9,Z9,Z9,0,0⟩,0, -2⟩,rfl,e,by omega,e,Y2 fun _ _=>by rw [hl0];rfl,hC,hfin⟩
 ·rw [if_neg k1,if_neg k2] at hl0
  have e:0=c0:=by rw [hc0,hl0];rfl
  and_intros
  all_goals first|exact hC|exact hfin|omega|exact Y2 fun j hj=>absurd hj (by omega)|rfl
theorem Zhg (t:Zo) (num:Int) (point:List Int) (a0 a1:Int) (n:Nat) (g:Nat→ZS) (O0 L0:List Ze) (c0:Nat) (Ll:Nat→List Ze) (b0:Int) (L1:List Ze) (c:Nat) (hwr:i64.wrap (a0-t.fee)=b0) (hO0:O0=YZ t point t.k1 t.k0 a1 b0) (hC:OuC t ⟨num,1,point,a0,a1,n,g⟩ t.k1 t.k0 O0 L0 c0 Ll) (hL1:L1=Ll n) (hc:c=L1.length):
  evF (Zci t ⟨num,1,point,a0,a1,n,g⟩ t.k1 t.k0 O0 L0 c0 Ll) 20 85 [.agg t.c,.agg (ShS.c ⟨num,1,point,a0,a1,n,g⟩)] ⟨0,[]⟩ (YS 0 (.ret (.nslice ⟨0,0,134,0,0⟩ 134 c c)) 1 [(0,.rows 134 c (Zw L1))]):=by
 refine @Eq.mpr _ (let q1:=t.k0;
 let q2:=q1=q1;
 let q3:=ShS.mk num 1 point a0 a1 n g;
 let q4:=q3.a1;
 let q5:=t.dust;
 let q6:=t.k1;
 let q7:=AV.arr u8 32 Z9;
 let q8:=q3.point;
 let q9:=t.delay;
 let q10:=AV.int i64 0;
 let q11:=q3.a0;
 let q12:=t.fee;
 let q13:=wrap i64 (q11-q12);
 let q14:=decide (q13≥q5);
 let q15:=decide (2=c0);
 let q16:=t.fund=t.fund;
 let q17:=decide (t.index=t.index);
 let q18:=decide (t.cap=t.cap);
 let q19:=decide (q5=q5);
 let q20:=decide (q12=q12);
 let q21:=decide (q9=q9);
 let q22:=q6=q6;
 let q23:=q3.num;
 let q24:=decide (q23=q23);
 let q25:=q8=q8;
 let q26:=[q11,q4];
 let q27:=q26=q26;
 let q28:=q3.n;
 let q29:=decide (q28=q28);
 let q30:=Xn q3.g;
 let q31:=q30=q30;
 let q32:=[(0,0),(1,1)];
 let q33:=OuC t q3 q6 q1 O0 L0 c0 Ll∧∀(i:Nat),i≤q28→(∀(j:Nat),j<i→(fun (i:Nat)=>i<q28) j)→(i=q28→Z0 (decide (List.length (Ll i)=c)) (Z0 (decide (c≤List.length (Ll i))) (Z0 (decide (List.length (Ll i)=c)) (Zd 0 [(0,0)] c (Zw L1) (Zw (Ll i))∧True) False) False) False)∧(False→False)∧(False→False);
 let q34:=decide (1=c0);
 let q35:=decide (c0=0);
 q2∧
 q2∧
 q2∧
 Z0 (decide (q4≥q5))
 (∃(m:Ze),
 let q71:=Zw (Xg ltM m []);
 [AV.int i64 3,AV.int i64 q4,AV.arr u8 32 q6,q7,AV.arr u8 32 q8,q7,AV.int i64 q9,q10,q10,AV.int i64 (-1)]=Ze.c m∧
 Z0 q14 ((∀(i:Nat),i<1→true=true)∧∃(L:List Ze),∃(m:Ze),(1:Nat)=1∧ZX 0 q71=Zw L∧[AV.int i64 1,AV.int i64 q13,AV.arr u8 32 q1,q7,q7,q7,q10,q10,q10,AV.int i64 (-2)]=Ze.c m∧Z6g 1 L m∧Z0 q15 (Z0 (decide (c0≤2)) (q16∧Z0 q17 (Z0 q18 (Z0 q19 (Z0 q20 (Z0 q21 (q2∧q22∧Z0 q24 (q25∧q27∧Z0 q29 (q31∧Z0 q29 (q22∧q2∧Z0 q15 (Zd 0 ((3,3)::(2,2)::(4,6)::q32) c0 (Zw L0) (Zw (Xg ltM m L))∧q33) False) False) False) False) False) False) False) False) False) False) False) (Z0 q34 (Z0 (decide (c0≤1)) (q16∧Z0 q17 (Z0 q18 (Z0 q19 (Z0 q20 (Z0 q21 (q2∧q22∧Z0 q24 (q25∧q27∧Z0 q29 (q31∧Z0 q29 (q22∧q2∧Z0 q34 (Zd 0 ((3,3)::(2,2)::(4,5)::q32) c0 (Zw L0) q71∧q33) False) False) False) False) False) False) False) False) False) False) False))
 (Z0 q14 (∃(m:Ze),[AV.int i64 1,AV.int i64 q13,AV.arr u8 32 q1,q7,q7,q7,q10,q10,q10,AV.int i64 (-2)]=Ze.c m∧Z0 q34 (Z0 (decide (c0≤1)) (q16∧Z0 q17 (Z0 q18 (Z0 q19 (Z0 q20 (Z0 q21 (q2∧q22∧Z0 q24 (q25∧q27∧Z0 q29 (q31∧Z0 q29 (q22∧q2∧Z0 q34 (Zd 0 ((3,3)::(2,2)::(4,5)::q32) c0 (Zw L0) (Zw (Xg ltM m []))∧q33) False) False) False) False) False) False) False) False) False) False) False) (Z0 q35 (Z0 q35 (q16∧Z0 q17 (Z0 q18 (Z0 q19 (Z0 q20 (Z0 q21 (q2∧q22∧Z0 q24 (q25∧q27∧Z0 q29 (q31∧Z0 q29 (q22∧q2∧Z0 q35 q33 False) False) False) False) False) False) False) False) False) False) False))) (by kernel_rfl) ?_
 conv=>zeta
 try simp only [Zi]
 try simp only [Zj]
 try simp only [Zk]
 try simp only [Zl]
 try simp only [Zm]
 try simp only [Zh]
 try simp only [Int.toNat_natCast,Nat.zero_add,true_and,and_true,Nat.le_refl]
 rw [hwr]
 have z32:Z9.length=32:=rfl
 have okX:(⟨⟨3,a1,t.k1,Z9,point,Z9,t.delay,0⟩,0, -1⟩:Ze).Okb:=⟨⟨hC.ho1,z32,hC.hs.point,z32⟩,XU⟩
 have okY:(⟨⟨1,b0,t.k0,Z9,Z9,Z9,0,0⟩,0, -2⟩:Ze).Okb:=⟨⟨hC.ho2,z32,z32,z32⟩,XU⟩
 have hfin:∀i,i≤n→(∀j,j<i→j<n)→(i=n→(Ll i).length=c∧c≤(Ll i).length∧(Ll i).length=c∧Zd 0 [(0,0)] c (Zw L1) (Zw (Ll i)))∧(False→False)∧(False→False):=fun i _ _=>⟨fun he=>by
  subst he
  have e:(Ll i).length=c:=by rw [hc,hL1]
  exact ⟨e,by omega,e,Y2 fun _ _=>by rw [hL1]⟩,fun h=>h,fun h=>h⟩
 have hl0:=hC.hl
 rw [hO0] at hl0
 unfold YZ at hl0
 have hc0:=hC.hc
 refine ⟨fun k1=>⟨⟨⟨3,a1,t.k1,Z9,point,Z9,t.delay,0⟩,0, -1⟩,rfl,fun k2=> ?_,fun k2=> ?_⟩,fun k1=>⟨fun k2=> ?_,fun k2=> ?_⟩⟩
 ·rw [if_pos k1,if_pos k2] at hl0
  have e:2=c0:=by rw [hc0,hl0];unfold Y9;rw [XS];rfl
  exact ⟨fun _ _=>trivial,Xg ltM ⟨⟨3,a1,t.k1,Z9,point,Z9,t.delay,0⟩,0, -1⟩ [],⟨⟨1,b0,t.k0,Z9,Z9,Z9,0,0⟩,0, -2⟩,rfl,rfl,⟨by decide,rfl,okY,fun x hx=>by rcases List.mem_cons.1 hx with rfl|hx;exact okX;cases hx⟩,e,by omega,e,Y2 fun _ _=>by rw [hl0];rfl,hC,hfin⟩
 ·rw [if_pos k1,if_neg k2] at hl0
  have e:1=c0:=by rw [hc0,hl0];unfold Y9;rw [XS];rfl
  exact ⟨e,by omega,e,Y2 fun _ _=>by rw [hl0];rfl,hC,hfin⟩
 ·rw [if_neg k1,if_pos k2] at hl0
  have e:1=c0:=by rw [hc0,hl0];unfold Y9;rw [XS];rfl
  exact ⟨⟨⟨1,b0,t.k0,Z9,Z9,Z9,0,0⟩,0, -2⟩,rfl,e,by omega,e,Y2 fun _ _=>by rw [hl0];rfl,hC,hfin⟩
 ·rw [if_neg k1,if_neg k2] at hl0
  have e:0=c0:=by rw [hc0,hl0];rfl
  and_intros
  all_goals first|exact hC|exact hfin|omega|exact Y2 fun j hj=>absurd hj (by omega)|rfl
end Go.Tk
end
section
namespace Go.Tk
open IntKind (i64 u8 u32 u64 wrap)
theorem Zhh {A:List Int→Int×Int} {t:Zo} {s:ShS} (hn:s.n<1000) (h:shB A t s=true):s.n≤16:=by
 obtain ⟨g1,g2,g3,g4,g5,g6,g7,_⟩:=Z1y.1 h
 obtain ⟨h1,h2,h3⟩:=Z1z s.n hn (fun j hj=>(g5 j hj).1)
 omega
structure Z6k (t:Zo) (s:ShS):Prop where
 o:Zcc t s
 hs:s.Ok
 ht:t.Ok
 hn:s.n≤16
def Zhi:YQ:=fun args h K=>ZV none h true 20 args fun a=>match a with
 | [.agg [.arr .u8 32 fu,.int .i64 ix,.int .i64 ca,.int .i64 du,.int .i64 fe,.int .i64 de,.arr .u8 32 k0,.arr .u8 32 k1],.agg l]=>∃s,Z4Y l s∧Z6k ⟨fu,ix,ca,du,fe,de,k0,k1⟩ s∧
  ∀n L,L=Y9 (ZR ⟨fu,ix,ca,du,fe,de,k0,k1⟩ s)→n=L.length→K (.ret (.nslice ⟨h.next,0,134,0,0⟩ 134 n n)) ⟨h.next+1,(h.next,.rows 134 n (Zw L))::h.bs⟩
 | _=>False
theorem Zea (args:List AV) (h:Z6) (K:KO) (hl:Zhi args h K):Zn PP 85 args h K:=by
 refine ZI.fsumm (d:=20) (Zu _ _ _ _ _ hl fun a ha=> ?_)
 split at ha
 ·rename_i fu ix ca du fe de k0 k1 l
  obtain ⟨s,hs,⟨ho,hsok,ht,hn⟩,hK⟩:=ha
  have hK:=hK _ _ rfl rfl
  have hfee:=ho.fee
  rcases ho.ow with ow|ow
  ·obtain ⟨num,owner,point,a0,a1,n,g⟩:=s
   simp only at ow hn
   subst ow
   unfold ZR at hK
   rw [if_pos rfl] at hK
   have hC:OuC ⟨fu,ix,ca,du,fe,de,k0,k1⟩ ⟨num,0,point,a0,a1,n,g⟩ k0 k1 (YZ ⟨fu,ix,ca,du,fe,de,k0,k1⟩ point k0 k1 (a0-fe) a1) _ _ _:=⟨by show n<500;omega,rfl,rfl,VF,VG hsok.point ht.k0 ht.k1,hsok,ht.k0,ht.k1,rfl⟩
   exact ⟨_,_,_,_,(ZI.evM (Z6j _ _ _ _ _ _ _ _) (Zhf ⟨fu,ix,ca,du,fe,de,k0,k1⟩ num point a0 a1 n g _ _ _ _ _ _ _ (w64 hfee) rfl hC rfl rfl)).conv (fun E r hr=>hr.head (fun _ hc=>hc) (fun _ hc=>hc.head (fun _ hc=>hs.rel hc) (fun _ hc=>hc))),rfl,⟨Nat.one_pos,.rows _ _ _ (fun i _=>W4 _ i),trivial⟩,hK⟩
  ·obtain ⟨num,owner,point,a0,a1,n,g⟩:=s
   simp only at ow hn
   subst ow
   unfold ZR at hK
   rw [if_neg (show ¬(1:Int)=0 by decide)] at hK
   have hC:OuC ⟨fu,ix,ca,du,fe,de,k0,k1⟩ ⟨num,1,point,a0,a1,n,g⟩ k1 k0 (YZ ⟨fu,ix,ca,du,fe,de,k0,k1⟩ point k1 k0 a1 (a0-fe)) _ _ _:=⟨by show n<500;omega,rfl,rfl,VF,VG hsok.point ht.k1 ht.k0,hsok,ht.k1,ht.k0,rfl⟩
   exact ⟨_,_,_,_,(ZI.evM (Z6j _ _ _ _ _ _ _ _) (Zhg ⟨fu,ix,ca,du,fe,de,k0,k1⟩ num point a0 a1 n g _ _ _ _ _ _ _ (w64 hfee) rfl hC rfl rfl)).conv (fun E r hr=>hr.head (fun _ hc=>hc) (fun _ hc=>hc.head (fun _ hc=>hs.rel hc) (fun _ hc=>hc))),rfl,⟨Nat.one_pos,.rows _ _ _ (fun i _=>W4 _ i),trivial⟩,hK⟩
 ·exact ha.elim
noncomputable def Zeb (A:List Int→Int×Int):Zf:=((G0.withP 83 (Zhe A)).withF 85 Zhi).withF 84 mxG
theorem Z8F:(Zeb Z18).Ok:=Zf.withF_ok (Zf.withF_ok (Zf.withP_ok ZB Ze8) Zea) Ze6
theorem ZiF (A:List Int→Int×Int) (t:Zo) (s:ShS) (ht:t.Ok) (hn:s.n<1000) (hb:shB A t s=false):
  evF (Zeb A) 20 35 [.agg t.c,.agg s.c] ⟨0,[]⟩ (YS 0 (.ret (.tuple [.agg txZ,.int .i64 2])) 0 []):=by
 refine @Eq.mpr _ (let q1:=t.fund;
 let q2:=t.index;
 let q3:=t.cap;
 let q4:=t.dust;
 let q5:=t.fee;
 let q6:=t.delay;
 let q7:=t.k0;
 let q8:=t.k1;
 let q9:=Zo.mk q1 q2 q3 q4 q5 q6 q7 q8;
 let q10:=s.num;
 let q11:=s.n;
 Zo.Ok q9∧
 ∃(s_1:ShS),
 let q23:=[s.a0,s.a1];
 ((s_1.num=q10∧s_1.owner=s.owner∧s_1.point=s.point∧q23=[s_1.a0,s_1.a1])∧(q11=q11∧s_1.n=q11)∧∀(i:Nat),i<q11→Xn s.g i=ZS.c (s_1.g i))∧s_1.n<1000∧Z0 (!shB A q9 s_1) True (∃(s_2:ShS),((s_2.num=q10∧s_2.owner=s.owner∧s_2.point=s.point∧q23=[s_2.a0,s_2.a1])∧(q11=q11∧s_2.n=q11)∧∀(i:Nat),i<q11→Xn s.g i=ZS.c (s_2.g i))∧Z6k q9 s_2∧∀(n:Nat) (L:List Ze),L=Y9 (ZR q9 s_2)→n=List.length L→Z0 (decide (q10=q10)) (q1=q1∧Z0 (decide (q2=q2)) (Z0 (decide (q3=q3)) (Z0 (decide (q4=q4)) (Z0 (decide (q5=q5)) (Z0 (decide (q6=q6)) (q7=q7∧q8=q8∧Z0 (decide (0+n≤n)) ((∀(i:Nat),i<n→true=true)∧∃(L_1:List Ze),n=n∧ZX 0 (Zw L)=Zw L_1∧n<1000∧(n=0→False)∧(n≠0→Z0 (decide (q10=0)) False False)) False) False) False) False) False) False) False)) (by kernel_rfl) ?_
 conv=>zeta
 try simp only [Zi]
 try simp only [Zj]
 try simp only [Zk]
 try simp only [Zl]
 try simp only [Zm]
 try simp only [Zh]
 try simp only [Int.toNat_natCast,Nat.zero_add,true_and,and_true,Nat.le_refl]
 have e0:(Zo.mk t.fund t.index t.cap t.dust t.fee t.delay t.k0 t.k1)=t:=rfl
 rw [e0]
 refine ⟨ht,s,⟨⟨rfl,rfl,rfl,rfl⟩,rfl,fun _ _=>rfl⟩,hn,fun _=>trivial,fun k=> ?_⟩
 rw [hb] at k;cases k
theorem Zhj (A:List Int→Int×Int) (t:Zo) (s:ShS) (n:Nat) (L1:List Ze) (ht:t.Ok) (hn:s.n<1000) (hb:shB A t s=true) (ho:Z6k t s) (hL:L1=Y9 (ZR t s)) (hl:n=L1.length) (h0:n=0):
  evF (Zeb A) 20 35 [.agg t.c,.agg s.c] ⟨0,[]⟩ (YS 0 (.ret (.tuple [.agg txZ,.int .i64 180])) 0 []):=by
 refine @Eq.mpr _ (let q1:=t.fund;
 let q2:=t.index;
 let q3:=t.cap;
 let q4:=t.dust;
 let q5:=t.fee;
 let q6:=t.delay;
 let q7:=t.k0;
 let q8:=t.k1;
 let q9:=Zo.mk q1 q2 q3 q4 q5 q6 q7 q8;
 let q10:=s.num;
 let q11:=s.n;
 Zo.Ok q9∧
 ∃(s_1:ShS),
 let q23:=[s.a0,s.a1];
 ((s_1.num=q10∧s_1.owner=s.owner∧s_1.point=s.point∧q23=[s_1.a0,s_1.a1])∧(q11=q11∧s_1.n=q11)∧∀(i:Nat),i<q11→Xn s.g i=ZS.c (s_1.g i))∧s_1.n<1000∧Z0 (!shB A q9 s_1) False (∃(s_2:ShS),((s_2.num=q10∧s_2.owner=s.owner∧s_2.point=s.point∧q23=[s_2.a0,s_2.a1])∧(q11=q11∧s_2.n=q11)∧∀(i:Nat),i<q11→Xn s.g i=ZS.c (s_2.g i))∧Z6k q9 s_2∧∀(n:Nat) (L:List Ze),L=Y9 (ZR q9 s_2)→n=List.length L→Z0 (decide (q10=q10)) (q1=q1∧Z0 (decide (q2=q2)) (Z0 (decide (q3=q3)) (Z0 (decide (q4=q4)) (Z0 (decide (q5=q5)) (Z0 (decide (q6=q6)) (q7=q7∧q8=q8∧Z0 (decide (0+n≤n)) ((∀(i:Nat),i<n→true=true)∧∃(L_1:List Ze),n=n∧ZX 0 (Zw L)=Zw L_1∧n<1000∧(n=0→True)∧(n≠0→Z0 (decide (q10=0)) False False)) False) False) False) False) False) False) False)) (by kernel_rfl) ?_
 conv=>zeta
 try simp only [Zi]
 try simp only [Zj]
 try simp only [Zk]
 try simp only [Zl]
 try simp only [Zm]
 try simp only [Zh]
 try simp only [Int.toNat_natCast,Nat.zero_add,true_and,and_true,Nat.le_refl]
 have e0:(Zo.mk t.fund t.index t.cap t.dust t.fee t.delay t.k0 t.k1)=t:=rfl
 rw [e0]
 refine ⟨ht,s,⟨⟨rfl,rfl,rfl,rfl⟩,rfl,fun _ _=>rfl⟩,hn,by rw [hb];rfl,s,⟨⟨rfl,rfl,rfl,rfl⟩,rfl,fun _ _=>rfl⟩,ho,fun m L hL' hm=> ?_⟩
 ·have e1:L=L1:=hL'.trans hL.symm
  subst e1
  have e2:m=n:=hm.trans hl.symm
  subst e2
  have hlen:=ho.o.len
  rw [hl,hL,Yy] at h0
  have h20:m<1000:=by rw [hl,hL,Yy];omega
  refine ⟨fun _ _=>trivial,L,rfl,h20,fun _=> ?_,fun h=> ?_⟩
  ·first|trivial|rfl
  ·exfalso;rw [hl,hL,Yy] at h;exact h h0
theorem Zhk (A:List Int→Int×Int) (t:Zo) (s:ShS) (n:Nat) (L1:List Ze) (ht:t.Ok) (hn:s.n<1000) (hb:shB A t s=true) (ho:Z6k t s) (hL:L1=Y9 (ZR t s)) (hl:n=L1.length) (h0:n≠0):
  evF (Zeb A) 20 35 [.agg t.c,.agg s.c] ⟨0,[]⟩ (YS 0 (.ret (.tuple [.agg [.int .i64 s.num,.nslice ⟨0,0,0,0,0⟩ 130 1 1,.nslice ⟨1,0,132,0,0⟩ 132 n n],.int .i64 0])) 2 [(0,.flat (InS.c (Z4W t))),(1,.rows 132 n (Yj (Yl L1)))]):=by
 refine @Eq.mpr _ (let q1:=t.fund;
 let q2:=t.index;
 let q3:=t.cap;
 let q4:=t.dust;
 let q5:=t.fee;
 let q6:=t.delay;
 let q7:=t.k0;
 let q8:=t.k1;
 let q9:=Zo.mk q1 q2 q3 q4 q5 q6 q7 q8;
 let q10:=s.num;
 let q11:=s.n;
 let q12:=Z0 (decide (0=q10)) False False;
 let q13:=decide (q10=q10);
 let q14:=InS.mk q1 q2 1 Z9 Z9 Z9;
 let q15:=Z4W t;
 Zo.Ok q9∧
 ∃(s_1:ShS),
 let q31:=[s.a0,s.a1];
 ((s_1.num=q10∧s_1.owner=s.owner∧s_1.point=s.point∧q31=[s_1.a0,s_1.a1])∧(q11=q11∧s_1.n=q11)∧∀(i:Nat),i<q11→Xn s.g i=ZS.c (s_1.g i))∧
 s_1.n<1000∧
 Z0 (!shB A q9 s_1) q12
 (∃(s_2:ShS),
 ((s_2.num=q10∧s_2.owner=s.owner∧s_2.point=s.point∧q31=[s_2.a0,s_2.a1])∧(q11=q11∧s_2.n=q11)∧∀(i:Nat),i<q11→Xn s.g i=ZS.c (s_2.g i))∧
 Z6k q9 s_2∧
 ∀(n_1:Nat),
 let q33:=decide (n_1=n);
 ∀(L:List Ze),L=Y9 (ZR q9 s_2)→n_1=List.length L→Z0 q13 (q1=q1∧Z0 (decide (q2=q2)) (Z0 (decide (q3=q3)) (Z0 (decide (q4=q4)) (Z0 (decide (q5=q5)) (Z0 (decide (q6=q6)) (q7=q7∧q8=q8∧Z0 (decide (0+n_1≤n_1)) ((∀(i:Nat),i<n_1→true=true)∧∃(L_1:List Ze),n_1=n_1∧ZX 0 (Zw L)=Zw L_1∧n_1<1000∧(n_1=0→q12)∧(n_1≠0→Z0 q13 (Z0 q33 (Z0 (decide (n≤n_1)) (q14.name=q15.name∧Z0 (decide (q14.index=q15.index)) (q14.tag=q15.tag∧q14.also=q15.also∧q14.secret=q15.secret∧Z0 q33 (Zd 0 [(1,5),(0,4)] n (Yj (Yl L1)) (Yj (Yl L_1))∧True) False) False) False) False) False)) False) False) False) False) False) False) False)) (by kernel_rfl) ?_
 conv=>zeta
 try simp only [Zi]
 try simp only [Zj]
 try simp only [Zk]
 try simp only [Zl]
 try simp only [Zm]
 try simp only [Zh]
 try simp only [Int.toNat_natCast,Nat.zero_add,true_and,and_true,Nat.le_refl]
 have e0:(Zo.mk t.fund t.index t.cap t.dust t.fee t.delay t.k0 t.k1)=t:=rfl
 rw [e0]
 refine ⟨ht,s,⟨⟨rfl,rfl,rfl,rfl⟩,rfl,fun _ _=>rfl⟩,hn,fun k=> ?_,fun _=>⟨s,⟨⟨rfl,rfl,rfl,rfl⟩,rfl,fun _ _=>rfl⟩,ho,fun m L hL' hm=> ?_⟩⟩
 ·rw [hb] at k;cases k
 ·have e1:L=L1:=hL'.trans hL.symm
  subst e1
  have e2:m=n:=hm.trans hl.symm
  subst e2
  have hlen:=ho.o.len
  rw [hl,hL,Yy] at h0
  have h20:m<1000:=by rw [hl,hL,Yy];omega
  refine ⟨fun _ _=>trivial,L,rfl,h20,fun h=> ?_,fun _=>⟨rfl,Nat.le_refl _,rfl,rfl,rfl,rfl,rfl,rfl,XP fun _ _=>rfl⟩⟩
  exfalso
  rw [hl,hL,Yy] at h
  exact h0 h
end Go.Tk
end
section
namespace Go.Tk
open IntKind (i64 u8 u32 u64 wrap)
def erM (m:Ze):Ze:=⟨m.o,m.id,0⟩
theorem Z6l (l:List Ze):∀acc,(W1 ltM acc l).map erM=W1 ltM (acc.map erM) (l.map erM):=by
 have hi:∀x acc,(Xg ltM x acc).map erM=Xg ltM (erM x) (acc.map erM):=fun x acc=>by
  induction acc with
  | nil=>rfl
  | cons y r ih=>
   simp only [Xg,List.map_cons]
   have e:ltM (erM x) (erM y)=ltM x y:=rfl
   rw [e]
   split
   ·rfl
   ·rw [List.map_cons,ih]
 induction l with
 | nil=>intro acc;rfl
 | cons x r ih=>intro acc;simp only [W1,List.map_cons];rw [ih,hi]
theorem Uj (t:Zo) (s:ShS) (own other:List Int) (O0:List Ze):∀n,YG t s own other O0 n=O0++((List.range n).map fun i=>if t.dust≤(s.g i).amount then [Z0b t s own other i] else []).flatten
 | 0=>by simp [YG]
 | n+1=>by
  simp only [YG]
  rw [Uj t s own other O0 n,List.range_succ,List.map_append,List.flatten_append,List.append_assoc]
  simp
structure V0 (s r:ShS):Prop where
 num:r.num=s.num
 owner:r.owner=s.owner
 point:r.point=s.point
 a0:r.a0=s.a0
 a1:r.a1=s.a1
 n:r.n=s.n
 p:((List.range s.n).map r.g).Perm ((List.range s.n).map s.g)
def Zhl (t:Zo) (ow:Int) (point own other:List Int) (p:ZS):List Ze:=if t.dust≤p.amount then [⟨⟨if p.frm=ow then 4 else 5,p.amount,own,other,point,p.hash,t.delay,p.expiry⟩,p.id,0⟩] else []
theorem Z8G (t:Zo) (s:ShS) (own other:List Int):(List.map erM∘fun i=>if t.dust≤(s.g i).amount then [Z0b t s own other i] else [])=Zhl t s.owner s.point own other∘s.g:=funext fun i=>by
 unfold Zhl
 simp only [Function.comp]
 split<;>rfl
theorem Z10 {t:Zo} {s r:ShS} (h:V0 s r) (own other:List Int) (O0:List Ze):((YG t r own other O0 s.n).map erM).Perm ((YG t s own other O0 s.n).map erM):=by
 rw [Uj,Uj,List.map_append,List.map_append]
 refine List.Perm.append_left _ ?_
 rw [List.map_flatten,List.map_flatten,List.map_map,List.map_map,Z8G,Z8G,h.owner,h.point,←List.map_map,←List.map_map]
 exact (h.p.map _).flatten
theorem Z2Z {t:Zo} {s r:ShS} (h:V0 s r):((ZR t r).map erM).Perm ((ZR t s).map erM):=by
 unfold ZR
 rw [h.owner,h.point,h.a0,h.a1,h.n]
 split
 ·exact Z10 h _ _ _
 ·exact Z10 h _ _ _
def Z6m (t:Zo) (point own other:List Int) (k a:Int) (h:List Int) (x id:Int):Ze:=
 if k=3 then ⟨⟨3,a,own,Z9,point,Z9,t.delay,0⟩,0,0⟩ else if k=1 then ⟨⟨1,a,other,Z9,Z9,Z9,0,0⟩,0,0⟩ else ⟨⟨k,a,own,other,point,h,t.delay,x⟩,id,0⟩
theorem Z30 {t:Zo} {point own other:List Int} {a b:Int}:∀m∈YZ t point own other a b,erM m=Z6m t point own other m.o.kind m.o.amount m.o.hash m.o.expiry m.id:=fun m hm=>by
 unfold YZ at hm
 rw [List.mem_append] at hm
 rcases hm with hm|hm<;>split at hm<;>simp at hm<;>subst hm<;>rfl
theorem Qz {t:Zo} {s:ShS} {own other:List Int} {O0:List Ze} (h0:∀m∈O0,erM m=Z6m t s.point own other m.o.kind m.o.amount m.o.hash m.o.expiry m.id):∀i,∀m∈YG t s own other O0 i,erM m=Z6m t s.point own other m.o.kind m.o.amount m.o.hash m.o.expiry m.id
 | 0=>h0
 | i+1=>fun m hm=>by
  simp only [YG,List.mem_append] at hm
  rcases hm with hm|hm
  ·exact Qz h0 i m hm
  ·split at hm
   ·rw [List.mem_singleton] at hm;subst hm
    unfold Z6m erM Z0b
    split<;>rfl
   ·cases hm
theorem Z9U (t:Zo) (s:ShS):∃own other,∀m∈ZR t s,erM m=Z6m t s.point own other m.o.kind m.o.amount m.o.hash m.o.expiry m.id:=by
 unfold ZR
 split
 ·exact ⟨_,_,Qz Z30 _⟩
 ·exact ⟨_,_,Qz Z30 _⟩
theorem Z6n:∀{x y:List Int},x.length=y.length→Bytes x→Bytes y→Yx x=Yx y→x=y
 | [],[],_,_,_,_=>rfl
 | [],b::s,h,_,_,_=>by simp at h
 | a::r,[],h,_,_,_=>by simp at h
 | a::r,b::s,h,hx,hy,he=>by
  have h':r.length=s.length:=by simpa using h
  have h1:=Z0a r
  have h2:=Z0a s
  rw [←h'] at h2
  have ha:=hx.h 0
  have hb:=hy.h 0
  simp at ha hb
  have hu:∀z:Int,0≤z→z≤255→((Xz z).toNat:Int)=z:=fun z z1 z2=>by
   unfold Xz
   simp
   omega
  simp only [Yx] at he
  rw [←h'] at he
  have ea:(Xz a).toNat=(Xz b).toNat:=by
   generalize (Xz a).toNat=u at*
   generalize (Xz b).toNat=v at*
   generalize 256^r.length=M at*
   rcases Nat.lt_trichotomy u v with g|g|g
   ·have:(u+1)*M≤v*M:=Nat.mul_le_mul_right _ g
    rw [Nat.add_mul,Nat.one_mul] at this;omega
   ·exact g
   ·have:(v+1)*M≤u*M:=Nat.mul_le_mul_right _ g
    rw [Nat.add_mul,Nat.one_mul] at this;omega
  have e1:=hu a ha.1 ha.2
  have e2:=hu b hb.1 hb.2
  have er:Yx r=Yx s:=by rw [ea] at he;omega
  have hx':Bytes r:=⟨fun i=>by have:=hx.h (i+1);simpa using this⟩
  have hy':Bytes s:=⟨fun i=>by have:=hy.h (i+1);simpa using this⟩
  rw [Z6n h' hx' hy' er,show a=b by omega]
theorem Z9V {t:Zo} {s r:ShS} (h:V0 s r) (hok:∀m∈ZR t s,m.Okb):(Y9 (ZR t r)).map erM=(Y9 (ZR t s)).map erM:=by
 unfold Y9
 rw [Z6l,Z6l]
 have p1:=XR (lt:=ltM) (l:=(ZR t r).map erM) (acc:=([]:List Ze).map erM)
 have p2:=XR (lt:=ltM) (l:=(ZR t s).map erM) (acc:=([]:List Ze).map erM)
 rw [List.map_nil,List.nil_append] at p1 p2
 refine Uf (lt:=ltM) ((p1.trans (Z2Z h)).trans p2.symm) (Z0E Zc6 .nil) (Z0E Zc6 .nil) fun a ha b hb h1 h2=> ?_
 obtain ⟨own,other,hk⟩:=Z9U t s
 have key:∀x,x∈W1 ltM (([]:List Ze).map erM) ((ZR t r).map erM)→∃m∈ZR t s,erM m=x:=fun x hx=>by
  have:=(p1.trans (Z2Z h)).mem_iff.1 hx
  exact List.mem_map.1 this
 obtain ⟨m,hm,rfl⟩:=key a ha
 obtain ⟨m',hm',rfl⟩:=key b hb
 have o1:=hok m hm
 have o2:=hok m' hm'
 have h1:ltM m m'=false:=h1
 have h2:ltM m' m=false:=h2
 rw [hk m hm,hk m' hm']
 unfold ltM at h1 h2
 simp only [decide_eq_false_iff_not] at h1 h2
 have ev:Yx m.o.hash=Yx m'.o.hash→m.o.hash=m'.o.hash:=fun hq=>Z6n (o1.ok.hash.trans o2.ok.hash.symm) o1.hb o2.hb hq
 have e1:m.o.amount=m'.o.amount:=by omega
 have e2:m.o.kind=m'.o.kind:=by omega
 have e3:m.o.expiry=m'.o.expiry:=by omega
 have e4:Yx m.o.hash=Yx m'.o.hash:=by omega
 have e5:m.id=m'.id:=by omega
 rw [e1,e2,e3,ev e4,e5]
end Go.Tk
end
section
namespace Go.Tk
open IntKind (i64 u8 u32 u64 wrap)
structure CoS (t:Zo) (s:ShS):Prop where
 ht:t.Ok
 hs:s.Ok
 hn:s.n<1000
 hb:shB Z18 t s=true
def Zhm:YQ:=fun args h K=>ZV none h true 20 args fun a=>match a with
 | [.agg [.arr .u8 32 fu,.int .i64 ix,.int .i64 ca,.int .i64 du,.int .i64 fe,.int .i64 de,.arr .u8 32 k0,.arr .u8 32 k1],.agg l]=>∃s,Z4Y l s∧CoS ⟨fu,ix,ca,du,fe,de,k0,k1⟩ s∧(ZR ⟨fu,ix,ca,du,fe,de,k0,k1⟩ s).length=0∧K (.ret (.tuple [.agg txZ,.int .i64 180])) h
 | _=>False
def Zhn:YQ:=fun args h K=>ZV none h true 20 args fun a=>match a with
 | [.agg [.arr .u8 32 fu,.int .i64 ix,.int .i64 ca,.int .i64 du,.int .i64 fe,.int .i64 de,.arr .u8 32 k0,.arr .u8 32 k1],.agg l]=>∃s n L,Z4Y l s∧CoS ⟨fu,ix,ca,du,fe,de,k0,k1⟩ s∧(L=Y9 (ZR ⟨fu,ix,ca,du,fe,de,k0,k1⟩ s)∧n=L.length∧n≠0)∧K (.ret (.tuple [.agg [.int .i64 s.num,.nslice ⟨h.next,0,0,0,0⟩ 130 1 1,.nslice ⟨h.next+1,0,132,0,0⟩ 132 n n],.int .i64 0])) ⟨h.next+2,(h.next,.flat (InS.c (Z4W ⟨fu,ix,ca,du,fe,de,k0,k1⟩)))::(h.next+1,.rows 132 n (Yj (Yl L)))::h.bs⟩
 | _=>False
theorem Zec (args:List AV) (h:Z6) (K:KO) (hl:Zhm args h K):Zn PP 35 args h K:=by
 refine ZI.fsumm (d:=20) (Zu _ _ _ _ _ hl fun a ha=> ?_)
 split at ha
 ·rename_i fu ix ca du fe de k0 k1 l
  obtain ⟨s,hs,⟨ht,hsok,hn,hc⟩,h0,hK⟩:=ha
  have ho:Z6k ⟨fu,ix,ca,du,fe,de,k0,k1⟩ s:=⟨Z7G ht hsok hn hc,hsok,ht,Zhh hn hc⟩
  exact ⟨_,_,_,_,(ZI.evM Z8F (Zhj _ ⟨_,_,_,_,_,_,_,_⟩ s _ _ ht hn hc ho rfl rfl (by rw [Yy];exact h0))).conv (fun E r hr=>hr.head (fun _ hc=>hc) (fun _ hc=>hc.head (fun _ hc=>hs.rel hc) (fun _ hc=>hc))),rfl,trivial,hK⟩
 ·exact ha.elim
theorem Zed (args:List AV) (h:Z6) (K:KO) (hl:Zhn args h K):Zn PP 35 args h K:=by
 refine ZI.fsumm (d:=20) (Zu _ _ _ _ _ hl fun a ha=> ?_)
 split at ha
 ·rename_i fu ix ca du fe de k0 k1 l
  obtain ⟨s,n,L,hs,⟨ht,hsok,hn,hc⟩,⟨rfl,rfl,h0⟩,hK⟩:=ha
  have ho:Z6k ⟨fu,ix,ca,du,fe,de,k0,k1⟩ s:=⟨Z7G ht hsok hn hc,hsok,ht,Zhh hn hc⟩
  exact ⟨_,_,_,_,(ZI.evM Z8F (Zhk _ ⟨_,_,_,_,_,_,_,_⟩ s _ _ ht hn hc ho rfl rfl h0)).conv (fun E r hr=>hr.head (fun _ hc=>hc) (fun _ hc=>hc.head (fun _ hc=>hs.rel hc) (fun _ hc=>hc))),rfl,⟨by decide,.flat _ rfl,by decide,.rows _ _ _ (fun i _=>(Yl _ i).plainC),trivial⟩,hK⟩
 ·exact ha.elim
noncomputable def Zho:Zf:=G0.withF 35 Zhn
theorem Zee:Zho.Ok:=Zf.withF_ok ZB Zed
noncomputable def ZeS:Zf:=G0.withF 35 Zhm
theorem Zcj:ZeS.Ok:=Zf.withF_ok ZB Zec
def scH (q:InS) (u v:Int) (n:Nat) (L M:List Ze):Z6:=⟨6,[(0,.flat [.int .i64 u,.nslice ⟨1,0,0,0,0⟩ 130 1 1,.nslice ⟨2,0,132,0,0⟩ 132 n n]),(1,.flat (InS.c q)),(2,.rows 132 n (Yj (Yl L))),(3,.flat [.int .i64 v,.nslice ⟨4,0,0,0,0⟩ 130 1 1,.nslice ⟨5,0,132,0,0⟩ 132 n n]),(4,.flat (InS.c q)),(5,.rows 132 n (Yj (Yl M)))]⟩
def scS (q:InS) (u v:Int) (n:Nat) (L M:List Ze) (i:Nat):St:=⟨65,[(11,.int .i64 i),(7,.ptr (some ⟨0,0,0,0,0⟩)),(9,.ptr (some ⟨3,0,0,0,0⟩))],scH q u v n L M,[]⟩
def scE:St:=⟨65,[],⟨0,[]⟩,[]⟩
theorem Zix (q:InS) (u v:Int) (n i:Nat) (L M:List Ze) (x:Vi) (Z1 Z2:Prop) (hn:n<1000) (hi:i≤n) (hx:i<n→Yl L i=x∧Yl M i=x∧x.Ok) (h1:i<n→Z1) (h2:i=n→Z2):
  ZY G0 20 13 0 0 (scS q u v n L M i) (rdM 0 0 9 (scS q u v n L M (i+1)) scE scE scE Z1 Z2 False False):=by
 refine @Eq.mpr _ (let q1:=decide (0≤(↑i:Int)∧(↑i:Int)<(↑n:Int));
 let q2:=0+Int.toNat (↑i:Int);
 let q3:=Yl L q2;
 let q4:=q3.owner;
 let q5:=Yl M q2;
 let q6:=q5.owner;
 let q7:=q3.other;
 let q8:=q5.other;
 let q9:=q3.point;
 let q10:=q5.point;
 let q11:=q3.hash;
 let q12:=q5.hash;
 let q13:=decide (n=n);
 let q14:=decide (n≤n);
 let q15:=q.name=q.name;
 let q16:=decide (q.index=q.index);
 let q17:=decide (q.way=q.way);
 let q18:=q.tag=q.tag;
 let q19:=q.also=q.also;
 let q20:=q.secret=q.secret;
 let q21:=[(5,5),(4,4),(2,2),(1,1),(3,3),(0,0)];
 let q22:=Yj (Yl L);
 let q23:=Yj (Yl M);
 Z0 (decide ((↑i:Int)<(↑n:Int))) (Z0 q1 (Z0 (decide (q2<n)) (Z0 q1 (Z0 (decide (q2<n)) (Z0 (decide (List.length q4=32∧List.length q6=32)) (Z0 (decide (List.length q7=32∧List.length q8=32)) (Z0 (decide (List.length q9=32∧List.length q10=32)) (Z0 (decide (List.length q11=32∧List.length q12=32)) (Z0 (!(q3.kind==q5.kind&&(q3.amount==q5.amount&&(q4==q6&&(q7==q8&&(q9==q10&&(q11==q12&&(q3.delay==q5.delay&&q3.expiry==q5.expiry)))))))) False (Z0 (decide (wrap i64 ((↑i:Int)+1)=(↑(i+1):Int))) (Z0 (decide (u=u)) (Z0 q13 (Z0 q14 (q15∧Z0 q16 (Z0 q17 (q18∧q19∧q20∧Z0 q13 (Zd 0 q21 n q22 q22∧Z0 (decide (v=v)) (Z0 q13 (Z0 q14 (q15∧Z0 q16 (Z0 q17 (q18∧q19∧q20∧Z0 q13 (Zd 0 q21 n q23 q23∧Z1) False) False) False) False) False) False) False) False) False) False) False) False) False)) False) False) False) False) False) False) False) False) Z2) (by kernel_rfl) ?_
 conv=>zeta
 try simp only [Zi]
 try simp only [Zj]
 try simp only [Zk]
 try simp only [Zl]
 try simp only [Zm]
 try simp only [Zh]
 try simp only [Int.toNat_natCast,Nat.zero_add,true_and,and_true,Nat.le_refl]
 refine ⟨fun hc=> ?_,fun hc=>h2 (by omega)⟩
 have hlt:i<n:=by omega
 have hwr:i64.wrap ((i:Int)+1)=((i+1:Nat):Int):=by rw [w64 (by omega)];omega
 obtain ⟨e1,e2,ok⟩:=hx hlt
 rw [e1,e2]
 exact ⟨by omega,hlt,by omega,hlt,⟨ok.owner,ok.owner⟩,⟨ok.other,ok.other⟩,⟨ok.point,ok.point⟩,⟨ok.hash,ok.hash⟩,by simp,hwr,XP fun _ _=>rfl,XP fun _ _=>rfl,h1 hlt⟩
noncomputable def ZeT (q:InS) (u v:Int) (n:Nat) (L M:List Ze) (C:Prop):Zf:=Zho.withL 13 0 (goM 0 (scS q u v n L M 0) C (YR 0 n 9 (fun i=>i<n) (fun i=>i=n) (fun _=>False) (fun _=>False) (fun _=>scE) (fun _=>scE) (fun _=>scE)))
def Zhp (n:Nat) (L M:List Ze):Prop:=n<1000∧∀i,i<n→Yl M i=Yl L i∧(Yl L i).Ok
theorem Zck (q:InS) (u v:Int) (n:Nat) (L M:List Ze):(ZeT q u v n L M (Zhp n L M)).Ok:=
 Zf.withL_join (H:=G0) Zee rfl (Zf.withGoM (N:=20) (S:=fun i=>scS q u v n L M i) ZB (by kernel_rfl) fun hC=>⟨rfl,fun i hi _=>Zix q u v n i L M (Yl L i) _ _ hC.1 hi (fun h=>⟨rfl,(hC.2 i h).1,(hC.2 i h).2⟩) (fun h=>⟨h,h⟩) (fun h=>h)⟩)
theorem Ziy (t:Zo) (s r:ShS) (L M:List Ze) (n:Nat) (C:Prop) (q:InS) (hq:q=Z4W t) (hp:V0 s r) (hs:CoS t s) (hr:CoS t r) (hL:L=Y9 (ZR t s)) (hM:M=Y9 (ZR t r)) (hn:n=L.length) (hm:n=M.length) (h0:n≠0) (hC:C):
  evF (ZeT q s.num s.num n L M C) 20 13 [.agg t.c,.agg s.c,.agg r.c] ⟨0,[]⟩ (YM fun v=>v=.bool true):=by
 refine @Eq.mpr _ (let q1:=s.n;
 let q2:=Zo.mk t.fund t.index t.cap t.dust t.fee t.delay t.k0 t.k1;
 let q3:=r.n;
 let q4:=AV.bool true;
 let q5:=AV.bool false=q4;
 let q6:=Z4W q2;
 let q7:=q6.name=q.name;
 let q8:=decide (q6.index=q.index);
 let q9:=decide (q6.way=q.way);
 let q10:=q6.tag=q.tag;
 let q11:=q6.also=q.also;
 let q12:=q6.secret=q.secret;
 let q13:=[(5,7),(4,6),(2,4),(1,3),(3,8),(0,5)];
 ∃(s_1:ShS),
 ∃(n_1:Nat),
 let q27:=decide (n_1=n);
 ∃(L_1:List Ze),
 ((s_1.num=s.num∧s_1.owner=s.owner∧s_1.point=s.point∧[s.a0,s.a1]=[s_1.a0,s_1.a1])∧(q1=q1∧s_1.n=q1)∧∀(i:Nat),i<q1→Xn s.g i=ZS.c (s_1.g i))∧
 CoS q2 s_1∧
 (L_1=Y9 (ZR q2 s_1)∧n_1=List.length L_1∧n_1≠0)∧
 ∃(s_2:ShS),
 let q29:=s_2.num;
 ∃(n_2:Nat),
 let q31:=decide (n_2=n);
 ∃(L_2:List Ze),((q29=r.num∧s_2.owner=r.owner∧s_2.point=r.point∧[r.a0,r.a1]=[s_2.a0,s_2.a1])∧(q3=q3∧s_2.n=q3)∧∀(i:Nat),i<q3→Xn r.g i=ZS.c (s_2.g i))∧CoS q2 s_2∧(L_2=Y9 (ZR q2 s_2)∧n_2=List.length L_2∧n_2≠0)∧Z0 (s_1.num !=q29) q5 (Z0 ((↑n_1:Int) !=(↑n_2:Int)) q5 (Z0 (decide (s_1.num=s.num)) (Z0 q27 (Z0 (decide (n≤n_1)) (q7∧Z0 q8 (Z0 q9 (q10∧q11∧q12∧Z0 q27 (Zd 0 q13 n (Yj (Yl L)) (Yj (Yl L_1))∧Z0 (decide (q29=s.num)) (Z0 q31 (Z0 (decide (n≤n_2)) (q7∧Z0 q8 (Z0 q9 (q10∧q11∧q12∧Z0 q31 (Zd 0 q13 n (Yj (Yl M)) (Yj (Yl L_2))∧C∧∀(i:Nat),i≤n→(∀(j:Nat),j<i→(fun (i:Nat)=>i<n) j)→(i=n→q4=q4)∧(False→False)∧(False→False)) False) False) False) False) False) False) False) False) False) False) False) False))) (by kernel_rfl) ?_
 conv=>zeta
 try simp only [Zi]
 try simp only [Zj]
 try simp only [Zk]
 try simp only [Zl]
 try simp only [Zm]
 try simp only [Zh]
 try simp only [Int.toNat_natCast,Nat.zero_add,true_and,and_true,Nat.le_refl]
 have e0:(Zo.mk t.fund t.index t.cap t.dust t.fee t.delay t.k0 t.k1)=t:=rfl
 rw [e0]
 subst hq
 refine ⟨s,n,L,⟨⟨rfl,rfl,rfl,rfl⟩,rfl,fun _ _=>rfl⟩,hs,⟨hL,hn,h0⟩,r,n,M,⟨⟨rfl,rfl,rfl,rfl⟩,rfl,fun _ _=>rfl⟩,hr,⟨hM,hm,h0⟩, ?_⟩
 rw [hp.num]
 refine ⟨fun h=>absurd h (by simp),fun _=>⟨fun h=>absurd h (by simp),fun _=> ?_⟩⟩
 repeat' apply And.intro
 all_goals first|rfl|omega|exact hC|exact Nat.le_refl _|exact XP fun _ _=>rfl|(intro i hi _;exact ⟨fun _=>trivial,fun h=>h,fun h=>h⟩)
theorem Ziz (t:Zo) (s r:ShS) (hp:V0 s r) (hs:CoS t s) (hr:CoS t r) (h0:(ZR t s).length=0) (h1:(ZR t r).length=0):
  evF ZeS 20 13 [.agg t.c,.agg s.c,.agg r.c] ⟨0,[]⟩ (YM fun v=>v=.bool true):=by
 refine @Eq.mpr _ (let q1:=s.n;
 let q2:=Zo.mk t.fund t.index t.cap t.dust t.fee t.delay t.k0 t.k1;
 let q3:=r.n;
 ∃(s_1:ShS),((s_1.num=s.num∧s_1.owner=s.owner∧s_1.point=s.point∧[s.a0,s.a1]=[s_1.a0,s_1.a1])∧(q1=q1∧s_1.n=q1)∧∀(i:Nat),i<q1→Xn s.g i=ZS.c (s_1.g i))∧CoS q2 s_1∧List.length (ZR q2 s_1)=0∧∃(s:ShS),((s.num=r.num∧s.owner=r.owner∧s.point=r.point∧[r.a0,r.a1]=[s.a0,s.a1])∧(q3=q3∧s.n=q3)∧∀(i:Nat),i<q3→Xn r.g i=ZS.c (s.g i))∧CoS q2 s∧List.length (ZR q2 s)=0∧AV.bool true=AV.bool true) (by kernel_rfl) ?_
 conv=>zeta
 try simp only [Zi]
 try simp only [Zj]
 try simp only [Zk]
 try simp only [Zl]
 try simp only [Zm]
 try simp only [Zh]
 try simp only [Int.toNat_natCast,Nat.zero_add,true_and,and_true,Nat.le_refl]
 have e0:(Zo.mk t.fund t.index t.cap t.dust t.fee t.delay t.k0 t.k1)=t:=rfl
 rw [e0]
 exact ⟨s,⟨⟨rfl,rfl,rfl,rfl⟩,rfl,fun _ _=>rfl⟩,hs,h0,r,⟨⟨rfl,rfl,rfl,rfl⟩,rfl,fun _ _=>rfl⟩,hr,h1⟩
theorem CoS.okb {t:Zo} {s:ShS} (h:CoS t s):∀m∈ZR t s,m.Okb:=fun m hm=>by
 unfold ZR at hm
 split at hm
 ·exact VH (VG h.hs.point h.ht.k0 h.ht.k1) h.hs h.ht.k0 h.ht.k1 s.n (Nat.le_refl _) m hm
 ·exact VH (VG h.hs.point h.ht.k1 h.ht.k0) h.hs h.ht.k1 h.ht.k0 s.n (Nat.le_refl _) m hm
theorem Z9W {t:Zo} {s r:ShS} (hp:V0 s r) (hs:CoS t s) (hr:CoS t r):(Y9 (ZR t r)).length=(Y9 (ZR t s)).length∧∀i,i<(Y9 (ZR t s)).length→Yl (Y9 (ZR t r)) i=Yl (Y9 (ZR t s)) i∧(Yl (Y9 (ZR t s)) i).Ok:=by
 have he:=Z9V hp hs.okb
 have hl:=congrArg List.length he
 rw [List.length_map,List.length_map] at hl
 refine ⟨hl,fun i hi=>⟨?_, ?_⟩⟩
 ·have:=congrArg (fun l:List Ze=>(l.getD i Vn).o) he
  simp only [List.getD_eq_getElem?_getD,List.getElem?_map] at this
  unfold Yl
  rw [List.getD_eq_getElem?_getD,List.getD_eq_getElem?_getD]
  rw [List.getElem?_eq_getElem hi,List.getElem?_eq_getElem (by omega)] at this⊢
  exact this
 ·unfold Yl
  rw [List.getD_eq_getElem?_getD,List.getElem?_eq_getElem hi]
  have hm:=List.getElem_mem hi
  have:=XR (lt:=ltM) (l:=ZR t s) (acc:=[])
  rw [List.nil_append] at this
  have hk:=(hs.okb _ (this.mem_iff.1 hm)).ok
  exact ⟨hk.owner,hk.other,hk.point,hk.hash⟩
def ZeU:ZU:=fun args h K=>ZV none h true 20 args fun a=>match a with
 | [.agg [.arr .u8 32 fu,.int .i64 ix,.int .i64 ca,.int .i64 du,.int .i64 fe,.int .i64 de,.arr .u8 32 k0,.arr .u8 32 k1],.agg l,.agg m]=>∃s r,Z4Y l s∧Z4Y m r∧V0 s r∧CoS ⟨fu,ix,ca,du,fe,de,k0,k1⟩ s∧CoS ⟨fu,ix,ca,du,fe,de,k0,k1⟩ r∧K (.bool true)
 | _=>False
theorem Zcl (args:List AV) (h:Z6) (K:AV→Prop) (hl:ZeU args h K):Zn PP 13 args h fun o h'=>∃v,o=.ret v∧h'=h∧K v:=by
 refine ZI.psumm (d:=20) (Zu _ _ _ _ _ hl fun a ha=> ?_)
 split at ha
 ·rename_i fu ix ca du fe de k0 k1 l m
  obtain ⟨s,r,h1,h2,hp,hs,hr,hK⟩:=ha
  obtain ⟨o1,o2⟩:=Z9W hp hs hr
  have hlen:(Y9 (ZR ⟨fu,ix,ca,du,fe,de,k0,k1⟩ s)).length<1000:=by
   have:=(Z7G hs.ht hs.hs hs.hn hs.hb).len
   rw [Yy];omega
  rcases Nat.eq_zero_or_pos (ZR ⟨fu,ix,ca,du,fe,de,k0,k1⟩ s).length with h0|h0
  ·have h3:(ZR ⟨fu,ix,ca,du,fe,de,k0,k1⟩ r).length=0:=by rw [Yy,Yy] at o1;omega
   exact ⟨_,(ZI.evV Zcj (Ziz ⟨_,_,_,_,_,_,_,_⟩ s r hp hs hr h0 h3)).conv (fun E r hr=>hr.head (fun _ hc=>hc) (fun _ hc=>hc.head (fun _ hc=>h1.rel hc) (fun _ hc=>hc.head (fun _ hc=>h2.rel hc) (fun _ hc=>hc)))),fun _=>rfl,hK⟩
  ·have hn0:(Y9 (ZR ⟨fu,ix,ca,du,fe,de,k0,k1⟩ s)).length≠0:=by rw [Yy];omega
   exact ⟨_,(ZI.evV (Zck _ _ _ _ _ _) (Ziy ⟨_,_,_,_,_,_,_,_⟩ s r _ _ _ (Zhp _ _ _) _ rfl hp hs hr rfl rfl rfl o1.symm hn0 ⟨hlen,o2⟩)).conv (fun E r hr=>hr.head (fun _ hc=>hc) (fun _ hc=>hc.head (fun _ hc=>h1.rel hc) (fun _ hc=>hc.head (fun _ hc=>h2.rel hc) (fun _ hc=>hc)))),fun _=>rfl,hK⟩
 ·exact ha.elim
end Go.Tk
end
section
namespace Go.Tk
open IntKind (i64 u8 u32 u64 wrap)
theorem Z9X {H:List Int→List Int} {t:Zo} {side res a b:Int}:X6 H (UL t side res a b)=true↔YT t=true∧(0≤side∧side≤1)∧(0≤res∧res≤t.cap/10)∧(0≤a∧a≤t.cap)∧b=t.cap-a∧0≤a-res-t.fee:=by
 rw [Qq,Z0z]
 have o:∀s,ZK (UL t side res a b).side s (UL t side res a b).L=[]:=fun _=>rfl
 have e:Y4 (UL t side res a b) 0=a-res-t.fee:=by
  rw [YV,Qt (o 0),if_pos rfl]
  show a-0-res-t.fee=_
  omega
 rw [o,o,e]
 constructor
 ·rintro ⟨⟨h1,h2,h3,h4,h5,_⟩,_,h6,_⟩
  exact ⟨h1,h2,h3,h4,h5,h6⟩
 ·rintro ⟨h1,h2,h3,h4,h5,h6⟩
  exact ⟨⟨h1,h2,h3,h4,h5,⟨Int.le_refl 0,show (0:Int)≤2147483648 by decide⟩,⟨Int.le_refl 0,show (0:Int)≤2147483648 by decide⟩,Nat.zero_le _,Nat.zero_le _⟩,fun i hi=>absurd hi (Nat.not_lt_zero _),h6,.inl rfl⟩
def ZiG (H:List Int→List Int):ZU:=fun args h K=>ZV none h true 20 args fun v=>match v with
 | [.agg [.arr .u8 32 fu,.int .i64 ix,.int .i64 ca,.int .i64 du,.int .i64 fe,.int .i64 de,.arr .u8 32 k0,.arr .u8 32 k1],.int .i64 sd,.int .i64 rs,.agg [.arr .i64 2 [a,b]]]=>
  Zo.Ok ⟨fu,ix,ca,du,fe,de,k0,k1⟩∧Z0 (X6 H (UL ⟨fu,ix,ca,du,fe,de,k0,k1⟩ sd rs a b)) (K (.tuple [.agg ((UL ⟨fu,ix,ca,du,fe,de,k0,k1⟩ sd rs a b).c .nilslice),.int .i64 0])) (K (.tuple [.agg (Zif.c .nilslice),.int .i64 2]))
 | _=>False
def Zg1:ZU:=fun args _ K=>match args with
 | []=>K (.bool true)
 | _=>False
def Z7H:Yp:=⟨0,false,0,0,0,Z9,0,0,false,0⟩
def Uk (A:List Yp) (i:Nat):List AV:=(A.getD i Z7H).c
end Go.Tk
end
section
namespace Go.Tk
open IntKind (i64 u8 u32 u64 wrap)
end Go.Tk
end
section
namespace Go.Tk
open IntKind (i64 u8 u32 u64 wrap)
theorem Z9Y {x:Z7}:Qr ltH [x]:=by simp [Qr]
def Z7I:YQ:=fun args h K=>match args with
 | [.nslice ⟨b,0,70,0,0⟩ 70 _ _,_]=>frA [b] h 20 args fun Bs a=>match Bs,a with
  | [.rows 70 1 f],[.nslice ⟨0,0,70,0,0⟩ 70 1 _,.func (.func 71) [] []]=>match f 0 with
   | [.bool ow,.int .i64 id,.int .i64 am,.arr .u8 32 ha,.int .i64 ex,.int .i64 st,.int .i64 fi,.arr .u8 32 se]=>K (.ret (.tuple [])) ⟨h.next,(b,.rows 70 1 (Z5 [⟨ow,id,am,ha,ex,st,fi,se⟩]))::Xe h.bs b⟩
   | _=>False
  | _,_=>False
 | _=>False
theorem Z9Z (args:List AV) (h:Z6) (K:KO) (hl:Z7I args h K):Zn PP 70 args h K:=by
 unfold Z7I at hl
 split at hl
 ·refine Spec.fsumm hl fun Bs a hlen hK0=> ?_
  split at hK0
  ·split at hK0
   ·rename_i f _ _ ow id am ha ex st fi se hf
    have hs:Xs [⟨ow,id,am,ha,ex,st,fi,se⟩] [⟨ow,id,am,ha,ex,st,fi,se⟩] 1:=⟨rfl,by decide,by decide,.refl _,Z9Y,fun a ha b hb _ _=>by
     simp only [List.mem_cons,List.not_mem_nil,or_false] at ha hb
     rw [ha,hb]⟩
    exact ⟨_,_,_,_,_,Zbw (fun i hi=>by
     have:i=0:=by omega
     subst this;rw [hf];rfl) hs,Nat.le_refl _,.ret _ _ rfl,.cons _ _ _ _ _ _ rfl (.rows _ _ _ (fun i _=>X7 _ i)) .nil,hK0⟩
   ·exact hK0.elim
  ·exact hK0.elim
 ·exact hl.elim
noncomputable def Zhq:Zf:=G0.withF 70 Z7I
theorem Zef:Zhq.Ok:=Zf.withF_ok ZB Z9Z
theorem Zhr (u:Unit) :
  evF Zhq 40 5 [] ⟨0,[]⟩ (YM fun v=>v=.bool true):=by
 refine @Eq.mpr _ (let q1:=[(0:Int),0,0,0,0,0,0,0,0,0,0,0,0,0,0,0,0,0,0,0,0,0,0,0,0,0,0,0,0,0,0];
 let q2:=(2:Int)::q1;
 let q3:=q2=q2;
 let q4:=(1:Int)::q1;
 let q5:=q4=q4;
 let q6:=AV.bool true;
 let q7:=AV.arr u8 32 Z9;
 let q8:=[(600:Int),400];
 let q9:=q8=q8;
 let q10:=(∀(i:Nat),i<1→plainC (Yc 0 (fun (x:Nat)=>[]) (Xk [q6,AV.int i64 0,AV.int i64 545,q7,AV.int i64 9,AV.int i64 1,AV.int i64 0,q7] 0 70) i)=true)∧q9∧Z9=Z9∧q9∧Z9=Z9∧q6=q6;
 q3∧q5∧q3∧q5∧q3∧q5∧q3∧q5∧q3∧q5∧(Z9=Z9∧Z9=Z9∧q10)∧q10) (by kernel_rfl) ?_
 conv=>zeta
 trivial
end Go.Tk
end
section
namespace Go.Tk
open IntKind (i64 u8 u32 u64 wrap)
def actTy:List Ty:=[.int .i64,.bool,.int .i64,.int .i64,.int .i64,.arr .u8 32,.int .i64,.int .i64,.bool,.int .i64]
theorem Zcm {l:List AV} (h:Fits actTy l):∃x:Yp,l=x.c∧x.Ok:=by
 unfold actTy at h
 cases h with|cons _ a1 _ u h1 h=>
 cases h with|cons _ a2 _ u h2 h=>
 cases h with|cons _ a3 _ u h3 h=>
 cases h with|cons _ a4 _ u h4 h=>
 cases h with|cons _ a5 _ u h5 h=>
 cases h with|cons _ a6 _ u h6 h=>
 cases h with|cons _ a7 _ u h7 h=>
 cases h with|cons _ a8 _ u h8 h=>
 cases h with|cons _ a9 _ u h9 h=>
 cases h with|cons _ a10 _ u h10 h=>
 cases h;cases h1;cases h2;cases h3;cases h4;cases h5;cases h6;cases h7;cases h8;cases h9;cases h10
 rename_i x1 w1 x2 x3 w3 x4 w4 x5 w5 x6 l6 w6 x7 w7 x8 w8 x9 x10 w10
 exact ⟨⟨x1,x2,x3,x4,x5,x6,x7,x8,x9,x10⟩,rfl,⟨l6,ZaY l6 w6⟩⟩
theorem Zeg {n:Nat} {p:Nat→Yp→Prop} (h:∀i,i<n→∃a,p i a):∃f:Nat→Yp,∀i,i<n→p i (f i):=
 ⟨fun i=>if hi:i<n then Classical.choose (h i hi) else Z7H,fun i hi=>by
  simp only [hi,dite_true]
  exact Classical.choose_spec (h i hi)⟩
theorem Za0 {a:AV} (h:Z5G false [.rows 41 actTy] a):∃(n:Nat) (A:List Yp),A.length=n∧(∀m∈A,m.Ok)∧∀(E:Env) (r:Value),Zc E a r→Zc E (.vrows 41 n (Uk A) n) r:=by
 cases h with|one _ _ h=>
 cases h with|rows esz ts n f hm h=>
 obtain ⟨g,hg⟩:=Zeg fun i hi=>Zcm (h i hi)
 refine ⟨n,(List.range n).map g,by simp,fun m hm=> ?_,fun E r hr=>hr.rowsC fun i hi=> ?_⟩
 ·obtain ⟨i,hi,rfl⟩:=List.mem_map.1 hm
  exact (hg i (List.mem_range.1 hi)).2
 ·unfold Uk
  rw [(hg i hi).1,List.getD_eq_getElem?_getD,List.getElem?_map,List.getElem?_range hi]
  rfl
theorem Zeh (args:List AV) (h:Z6) (K:AV→Prop) (hl:Zg1 args h K):Zn PP 5 args h fun o h'=>∃v,o=.ret v∧h'=h∧K v:=by
 unfold Zg1 at hl
 split at hl
 ·exact Yq Zef rfl (Zhr ()) (fun u hu=>hu▸hl)
 ·exact hl.elim
def Zhs (n:Int):List Int:=n::List.replicate 31 0
def tW:Zo:=⟨Z9,0,1000,10,5,3,Zhs 1,Zhs 2⟩
theorem ZeV:tW.Ok:=⟨rfl,rfl,Z0J (by decide),Z0J (by decide)⟩
end Go.Tk
end
section
namespace Go.Tk
open IntKind (i64 u8 u32 u64 wrap)
structure LBB (cs:List AV) (n:Nat) (f:Nat→List AV) (ws:List AV) (m:Nat) (g:Nat→List AV) (X Y:Za):Prop where
 h1:cs=X.c (slH 1 X.L.length)
 h2:n=X.L.length
 h3:f=Z5 X.L
 h4:ws=Y.c (slH 3 Y.L.length)
 h5:m=Y.L.length
 h6:g=Z5 Y.L
def Zcn:YQ:=fun args h K=>match args with
 | [.ptr (some ⟨l,0,0,0,0⟩),.ptr (some ⟨r,0,0,0,0⟩),_]=>match h.get l,h.get r with
  |some (.flat [_,_,_,_,_,_,_,_,_,_,_,_,.nslice ⟨b,0,70,0,0⟩ 70 _ _]),some (.flat [_,_,_,_,_,_,_,_,_,_,_,_,.nslice ⟨d,0,70,0,0⟩ 70 _ _])=>frA [l,b,r,d] h 20 args fun Bs v=>match Bs,v with
   | [.flat cs,.rows 70 n f,.flat ws,.rows 70 m g],[.ptr (some ⟨0,0,0,0,0⟩),.ptr (some ⟨2,0,0,0,0⟩),.agg [.int .i64 w,.bool ow,.int .i64 of,.int .i64 am,.int .i64 ex,.arr .u8 32 se,.int .i64 at',.int .i64 mo,.bool ou,.int .i64 nu]]=>
    ∃X Y a,a=⟨w,ow,of,am,ex,se,at',mo,ou,nu⟩∧LBB cs n f ws m g X Y∧MI X Y∧Yp.Ok a∧(Q1 X a→K (.ret (.bool true)) ⟨h.next,(l,.flat (X.c (slH b X.L.length)))::(b,.rows 70 X.L.length (Z5 X.L))::(r,.flat (Y.c (slH d Y.L.length)))::(d,.rows 70 Y.L.length (Z5 Y.L))::Xe (Xe (Xe (Xe h.bs l) b) r) d⟩)∧
     (¬Q1 X a→K (.ret (.bool true)) ⟨h.next+2,(l,.flat ((Qw X a).c (slH h.next (Qw X a).L.length)))::(h.next,.rows 70 (Qw X a).L.length (Z5 (Qw X a).L))::(r,.flat ((Z09 X Y a).c (slH (h.next+1) (Z09 X Y a).L.length)))::(h.next+1,.rows 70 (Z09 X Y a).L.length (Z5 (Z09 X Y a).L))::Xe (Xe (Xe (Xe h.bs l) b) r) d⟩)
   | _,_=>False
  | _,_=>False
 | _=>False
theorem Zco (args:List AV) (h:Z6) (K:KO) (hl:Zcn args h K):Zn PP 9 args h K:=by
 unfold Zcn at hl
 split at hl
 ·split at hl
  ·refine Spec.fsumm hl fun Bs a hlen hK0=> ?_
   split at hK0
   ·obtain ⟨X,Y,a,he,⟨rfl,rfl,rfl,rfl,rfl,rfl⟩,hI,ha,hK1,hK2⟩:=hK0
    obtain ⟨s1,s2⟩:=Spec.both hI.m hI.x hI.y ha
    by_cases hk:Q1 X a
    ·have hK:=hK1 hk
     have hs:=s1 hk
     subst he
     exact ⟨_,_,_,_,_,hs,by simp,.ret _ _ rfl,.cons _ _ _ _ _ _ rfl (.flat _ _ rfl) (.cons _ _ _ _ _ _ rfl (.rows _ _ _ (fun _ _=>rfl)) (.cons _ _ _ _ _ _ rfl (.flat _ _ rfl) (.cons _ _ _ _ _ _ rfl (.rows _ _ _ (fun _ _=>rfl)) .nil))),hK⟩
    ·have hK:=hK2 hk
     have hs:=s2 hk
     subst he
     exact ⟨_,_,_,_,_,hs,by simp,.ret _ _ rfl,.cons _ _ _ _ _ _ rfl (.flat _ _ rfl) (.cons _ _ _ _ _ _ rfl (.rows _ _ _ (fun _ _=>rfl)) (.cons _ _ _ _ _ _ rfl (.flat _ _ rfl) (.cons _ _ _ _ _ _ rfl (.rows _ _ _ (fun _ _=>rfl)) .nil))),hK⟩
   ·exact hK0.elim
  ·exact hl.elim
 ·exact hl.elim
structure Zcp (H:List Int→List Int) (X:Za) (t:Zo) (sd rs a b:Int):Prop where
 e:X=UL t sd rs a b
 ok:X.t.Ok
 r:X6 H X=true
def ZeW (H:List Int→List Int):YQ:=fun args h K=>frA [] h 20 args fun Bs a=>match Bs,a with
 | [],[.agg [.arr .u8 32 fu,.int .i64 ix,.int .i64 ca,.int .i64 du,.int .i64 fe,.int .i64 de,.arr .u8 32 k0,.arr .u8 32 k1],.int .i64 sd,.int .i64 rs,.agg [.arr .i64 2 [a,b]]]=>
  ∃X,Zcp H X ⟨fu,ix,ca,du,fe,de,k0,k1⟩ sd rs a b∧K (.ret (.tuple [.ptr (some ⟨h.next,0,0,0,0⟩),.int .i64 0])) ⟨h.next+2,(h.next,.flat (X.c (.nslice ⟨h.next+1,0,70,0,0⟩ 70 0 0)))::(h.next+1,.rows 70 0 (Z5 []))::h.bs⟩
 | _,_=>False
theorem Zcq (args:List AV) (h:Z6) (K:KO) (hl:ZeW Zt args h K):Zn PP 7 args h K:=by
 refine Spec.fsumm hl fun Bs a hlen hK0=> ?_
 split at hK0
 ·obtain ⟨X,⟨rfl,ht,hb⟩,hK⟩:=hK0
  exact ⟨_,_,_,_,_,.evM Zdu (ZhW _ _ _ _ _ _ _ ht rfl hb),Nat.zero_le _,.ret _ _ rfl,.cons _ _ _ _ _ _ rfl (.flat _ _ rfl) (.cons _ _ _ _ _ _ rfl (.rows _ _ _ (fun _ _=>rfl)) .nil),hK⟩
 ·exact hK0.elim
theorem ZiA (X:Za) (r:AV) (hcap:X.t.cap≠0) (hr:r=.agg [.arr .i64 2 [X.a0,X.a1]]):
  evF G0 20 10 [VB X] ⟨0,[]⟩ (YM fun v=>v=r):=by
 refine @Eq.mpr _ (Z0 (X.t.cap==0) (AV.agg [AV.arr i64 2 [(0:Int),0]]=r) (AV.agg [AV.arr i64 2 [X.a0,X.a1]]=r)) (by kernel_rfl) ?_
 try simp only [Zi]
 try simp only [Zj]
 try simp only [Zk]
 try simp only [Zl]
 try simp only [Zm]
 try simp only [Zh]
 try simp only [Int.toNat_natCast,Nat.zero_add,true_and,and_true,Nat.le_refl]
 subst hr
 exact ⟨fun h=>absurd h (by simpa using hcap),fun _=>rfl⟩
def Zht:ZU:=fun args h K=>ZV none h true 20 args fun a=>match a with
 | [.pview cs 0]=>∃X,LV cs X∧X.t.cap≠0∧K (.agg [.arr .i64 2 [X.a0,X.a1]])
 | _=>False
theorem Zei (args:List AV) (h:Z6) (K:AV→Prop) (hl:Zht args h K):Zn PP 10 args h fun o h'=>∃v,o=.ret v∧h'=h∧K v:=by
 refine ZI.psumm (d:=20) (Zu _ _ _ _ _ hl fun a ha=> ?_)
 split at ha
 ·obtain ⟨X,hX,hc,hK⟩:=ha
  exact ⟨_,(ZI.evV ZB (ZiA X _ hc rfl)).conv fun E r hr=>hr.head (fun _ hc=>WE hX hc) fun _ hc=>hc,fun _=>rfl,hK⟩
 ·exact ha.elim
noncomputable def Zg2 (H:List Int→List Int):Zf:=((((((G0.withF 7 (ZeW H)).withF 9 Zcn).withF 12 (Z8x true)).withP 13 ZeU).withP 5 Zg1).withP 11 ZbZ).withP 10 Zht
theorem Z8H:(Zg2 Zt).Ok:=Zf.withP_ok (Zf.withP_ok (Zf.withP_ok (Zf.withP_ok (Zf.withF_ok (Zf.withF_ok (Zf.withF_ok ZB Zcq) Zco) (Z7C true)) Zcl) Zeh) Z9J) Zei
end Go.Tk
end
section
namespace Go.Tk
open IntKind (i64 u8 u32 u64 wrap)
def Z6o (p:Xh):ZS:=⟨p.frm,p.id,p.amount,p.hash,p.expiry⟩
def pdG (P:List Xh) (i:Nat):ZS:=Z6o (P.getD i ZbP)
def Z3d (X:Za) (o:Bool) (k:Int) (pt:List Int):ShS:=⟨k,ZN X.side o,pt,(srP0 X o).1,(srP0 X o).2,(ZH X.side o X.L).length,pdG (ZH X.side o X.L)⟩
end Go.Tk
end
section
namespace Go.Tk
open IntKind (i64 u8 u32 u64 wrap)
theorem Zcr {m:Int} {xs:List Int} (h:∀y∈xs,0≤y∧y≤m):allIn m xs=true:=by
 unfold allIn
 rw [Bool.not_eq_true',List.any_eq_false]
 intro i hi
 have hi:=List.mem_range.1 hi
 have hy:=h _ (List.getElem_mem hi)
 have e:xs.getD i 0=xs[i]:=by rw [List.getD_eq_getElem?_getD,List.getElem?_eq_getElem hi];rfl
 unfold VA
 rw [e]
 generalize xs[i]=y at*
 simp [Z2A]
 omega
def Z11 (P:List Xh):Int:=(P.map (·.amount)).sum
theorem Z8I {side:Int} {o:Bool} (hs:side=0∨side=1):∀(L:List Z7) (p:Int×Int),(∀x∈L,0≤x.amount)→
  p.1-(YU (ZK side 0 L)).sum≤(YP side o p L).1∧p.2-(YU (ZK side 1 L)).sum≤(YP side o p L).2∧(YP side o p L).1+(YP side o p L).2+Z11 (ZH side o L)=p.1+p.2
 | [],p,_=>by
  show p.1-0≤p.1∧p.2-0≤p.2∧p.1+p.2+0=p.1+p.2
  omega
 | x::r,p,hA=>by
  have hx:=hA x (by simp)
  obtain ⟨h1,h2,h3⟩:=Z8I (o:=o) hs r (srP side o p x) (fun y hy=>hA y (by simp [hy]))
  have e:YP side o p (x::r)=YP side o (srP side o p x) r:=rfl
  rw [e]
  have hf:ZN side x.own=0∨ZN side x.own=1:=by unfold ZN;cases x.own<;>rcases hs with h|h<;>(subst h;decide)
  have e2:Z11 (ZH side o (x::r))=(if Yv x.own x.stage o=true then x.amount else 0)+Z11 (ZH side o r):=by
   unfold Z11 ZH
   rw [List.filter_cons]
   split
   ·rw [List.map_cons,List.map_cons,List.sum_cons];rfl
   ·rw [Int.zero_add]
  have e3:(YU (ZK side 0 (x::r))).sum=(if ZN side x.own=0 then x.amount else 0)+(YU (ZK side 0 r)).sum:=by
   unfold YU ZK
   rw [List.filter_cons]
   by_cases h:ZN side x.own=0
   ·rw [if_pos (by simp [h]),if_pos h,List.map_cons,List.sum_cons]
   ·rw [if_neg (by simp [h]),if_neg h,Int.zero_add]
  have e4:(YU (ZK side 1 (x::r))).sum=(if ZN side x.own=1 then x.amount else 0)+(YU (ZK side 1 r)).sum:=by
   unfold YU ZK
   rw [List.filter_cons]
   by_cases h:ZN side x.own=1
   ·rw [if_pos (by simp [h]),if_pos h,List.map_cons,List.sum_cons]
   ·rw [if_neg (by simp [h]),if_neg h,Int.zero_add]
  rw [e2,e3,e4]
  have hp:(srP side o p x).1=p.1-(if ZN side x.own=0 then x.amount else 0)∧(srP side o p x).2=p.2-(if ZN side x.own=1 then x.amount else 0)∧Yv x.own x.stage o=true∨(p.1-(if ZN side x.own=0 then x.amount else 0)≤(srP side o p x).1∧p.2-(if ZN side x.own=1 then x.amount else 0)≤(srP side o p x).2∧(srP side o p x).1+(srP side o p x).2=p.1+p.2∧¬Yv x.own x.stage o=true):=by
   unfold srP
   cases hst:Yv x.own x.stage o with
   | true=>
    left
    rcases hf with h|h<;>simp [h]
   | false=>
    right
    dsimp only
    by_cases c6:6<x.stage
    ·rw [if_pos c6]
     unfold Xr
     by_cases d:x.fin=1
     ·rw [if_pos d]
      rcases hf with h|h<;>simp [h]<;>omega
     ·rw [if_neg d]
      rcases hf with h|h<;>simp [h]<;>omega
    ·rw [if_neg c6]
     rcases hf with h|h<;>simp [h]<;>omega
  rcases hp with ⟨q1,q2,q3⟩|⟨q1,q2,q3,q4⟩
  ·rw [if_pos q3]
   rw [q1] at h1 h3
   rw [q2] at h2 h3
   rcases hf with h|h<;>simp [h] at* <;>omega
  ·rw [if_neg q4]
   refine ⟨?_, ?_, ?_⟩<;>omega
theorem Zej (P:List Xh) (a b:Int):shX a b (pdG P) P.length=a::b::P.map (·.amount):=by
 unfold shX
 congr 2
 refine List.ext_getElem (by simp) fun i h1 h2=> ?_
 have hi:i<P.length:=by simpa using h1
 simp only [List.getElem_map,List.getElem_range]
 unfold pdG Z6o
 rw [List.getD_eq_getElem?_getD,List.getElem?_eq_getElem hi]
 rfl
def cntF (s:Int) (P:List Xh):Nat:=(P.filter fun p=>decide (p.frm=s)).length
theorem Z8J {P:List Xh} (hP:∀p∈P,p.frm=0∨p.frm=1) (hn:P.length≤1000):∀i,i≤P.length→shM (pdG P) i=[(cntF 0 (P.take i):Int),(cntF 1 (P.take i):Int)]
 | 0,_=>rfl
 | i+1,hi=>by
  have ih:=Z8J hP hn i (by omega)
  have hlt:i<P.length:=hi
  have hg:pdG P i=Z6o P[i]:=by unfold pdG;rw [List.getD_eq_getElem?_getD,List.getElem?_eq_getElem hlt];rfl
  have ht:P.take (i+1)=P.take i++[P[i]]:=(List.take_append_getElem hlt).symm
  have hc (s:Int):cntF s (P.take (i+1))=cntF s (P.take i)+(if P[i].frm=s then 1 else 0):=by
   unfold cntF
   rw [ht,List.filter_append,List.length_append,List.filter_cons]
   by_cases h:P[i].frm=s<;>simp [h]
  have hl (s:Int):cntF s (P.take i)≤1000:=by
   unfold cntF
   have:=List.length_filter_le (fun p:Xh=>decide (p.frm=s)) (P.take i)
   rw [List.length_take] at this
   omega
  have l0:=hl 0
  have l1:=hl 1
  unfold shM
  rw [ih,hg,hc,hc]
  have hfr:(Z6o P[i]).frm=P[i].frm:=rfl
  rw [hfr]
  rcases hP _ (List.getElem_mem hlt) with h|h
  ·rw [h]
   show [i64.wrap ((cntF 0 (P.take i):Int)+1),(cntF 1 (P.take i):Int)]=[((cntF 0 (P.take i)+1:Nat):Int),((cntF 1 (P.take i)+0:Nat):Int)]
   rw [w64 (by omega)]
   congr 1
  ·rw [h]
   show [(cntF 0 (P.take i):Int),i64.wrap ((cntF 1 (P.take i):Int)+1)]=[((cntF 0 (P.take i)+0:Nat):Int),((cntF 1 (P.take i)+1:Nat):Int)]
   rw [w64 (by omega)]
   congr 1
theorem Z8K (side:Int) (o:Bool) (s:Int) (L:List Z7):cntF s (ZH side o L)≤(ZK side s L).length:=by
 unfold cntF ZH ZK
 rw [List.filter_map,List.length_map,List.filter_filter]
 have e:((fun h:Z7=>(((fun p:Xh=>decide (p.frm=s))∘Vm side) h)&&Yv h.own h.stage o))=fun h=>(decide (ZN side h.own=s))&&Yv h.own h.stage o:=by
  funext h;rfl
 rw [e]
 rw [←List.countP_eq_length_filter,←List.countP_eq_length_filter]
 exact List.countP_mono_left fun x _ h=>by
  simp only [Bool.and_eq_true] at h
  exact h.1
theorem Zek {p q:ZS} (h:p.frm=q.frm→¬p.id=q.id):Yt (Z3c p) (Z3c q)=false:=by
 unfold Z3c
 rw [Bool.eq_false_iff]
 intro hc
 simp [Yt,Vt,Q9] at hc
 exact h hc.1 hc.2
theorem Zcs {side:Int} (hs:side=0∨side=1) (o:Bool):ZN side o=0∨ZN side o=1:=by unfold ZN;cases o<;>rcases hs with h|h<;>(subst h;decide)
theorem Z7J {H:List Int→List Int} {X:Za} (hX:X.Inv H) (o:Bool):(ZH X.side o X.L).Pairwise fun a b=>b.frm=a.frm→¬b.id=a.id:=by
 unfold ZH
 rw [List.pairwise_map]
 refine (hX.fol.filter _).imp fun {a b} hab=> ?_
 have hs:=hX.side
 intro h1 h2
 have h1:ZN X.side b.own=ZN X.side a.own:=h1
 have h2:b.id=a.id:=h2
 rcases hab with ⟨h3,h4⟩|⟨_,h3,_⟩
 ·rw [h3,h4] at h1
  have h1:1-X.side=X.side:=h1
  omega
 ·omega
theorem Zel {H:List Int→List Int} {X:Za} {o:Bool} {k:Int} {pt:List Int} (hX:X.Inv H) (hk:0≤k∧k≤2147483647):shB Z18 X.t (Z3d X o k pt)=true:=by
 have hs:=hX.side
 have hn:∀x∈X.L,(0≤x.id∧x.id≤2147483647)∧(1≤x.amount∧x.amount≤1125899906842624)∧1≤x.expiry∧x.expiry≤2147483647:=fun x hx=>by
  have hu:=hX.und x hx
  unfold Xp Yu at hu
  simp only [Bool.and_eq_true,decide_eq_true_eq] at hu
  exact ⟨hu.1.1.1.1.1,hu.1.1.1.1.2,hu.1.1.1.2⟩
 obtain ⟨h1,h2,h3⟩:=Z8I (o:=o) hs X.L (X.a0,X.a1) (fun x hx=>by have:=hn x hx;omega)
 have tb:=ZZ hX.tb
 have hov0:=hX.ov0
 have hov1:=hX.ov1
 have ha:=hX.a0
 have ha1:=hX.a1
 have hr:=hX.res
 unfold Y4 Za.am at hov0 hov1
 simp only [if_true,if_false] at hov0 hov1
 rw [if_neg (by decide),if_neg (by decide)] at hov1
 have hb1:0≤(YP X.side o (X.a0,X.a1) X.L).2:=by
  rcases hov1 with h|h
  ·rw [h] at h2
   have h2:X.a1-0≤_:=h2
   omega
  ·have h2:X.a1-_≤_:=h2
   omega
 have hb0:X.t.fee≤(YP X.side o (X.a0,X.a1) X.L).1:=by
  have h1:X.a0-_≤_:=h1
  omega
 have hsum:(YP X.side o (X.a0,X.a1) X.L).1+(YP X.side o (X.a0,X.a1) X.L).2+Z11 (ZH X.side o X.L)=X.t.cap:=by
  have h3:_=X.a0+X.a1:=h3
  omega
 have hlen:=Z0G X.side o X.L
 have hL:=hX.len
 have hpn:∀p∈ZH X.side o X.L,(p.frm=0∨p.frm=1)∧(0≤p.id∧p.id≤2147483647)∧(1≤p.amount∧p.amount≤1125899906842624)∧1≤p.expiry∧p.expiry≤2147483647:=fun p hp=>by
  unfold ZH at hp
  obtain ⟨x,hx,rfl⟩:=List.mem_map.1 hp
  have hx:=(List.mem_filter.1 hx).1
  exact ⟨Zcs hs x.own,hn x hx⟩
 have hp0:0≤Z11 (ZH X.side o X.L):=by
  unfold Z11
  have:∀l:List Xh,(∀p∈l,1≤p.amount)→0≤(l.map (·.amount)).sum:=by
   intro l
   induction l with
   | nil=>intro _;exact Int.le_refl 0
   | cons y r ih=>
    intro h
    rw [List.map_cons,List.sum_cons]
    have:=ih fun p hp=>h p (by simp [hp])
    have:=h y (by simp)
    omega
  exact this _ fun p hp=>(hpn p hp).2.2.1.1
 have hM:=Z8J (fun p hp=>(hpn p hp).1) (by omega) (ZH X.side o X.L).length (Nat.le_refl _)
 rw [List.take_length] at hM
 have c0:=Z8K X.side o 0 X.L
 have c1:=Z8K X.side o 1 X.L
 have n0:=hX.n0
 have n1:=hX.n1
 have hA:Z18 (shX (srP0 X o).1 (srP0 X o).2 (pdG (ZH X.side o X.L)) (ZH X.side o X.L).length)=(X.t.cap,0):=by
  rw [Zej]
  have e:((srP0 X o).1::(srP0 X o).2::(ZH X.side o X.L).map (·.amount)).sum=X.t.cap:=by
   rw [List.sum_cons,List.sum_cons,←hsum]
   show (YP X.side o (X.a0,X.a1) X.L).1+((YP X.side o (X.a0,X.a1) X.L).2+Z11 (ZH X.side o X.L))=_
   omega
  have hin:allIn 1125899906842624 ((srP0 X o).1::(srP0 X o).2::(ZH X.side o X.L).map (·.amount))=true:=by
   refine Zcr fun y hy=> ?_
   simp only [List.mem_cons,List.mem_map] at hy
   rcases hy with rfl|rfl|⟨p,hp,rfl⟩
   ·show 0≤(YP X.side o (X.a0,X.a1) X.L).1∧(YP X.side o (X.a0,X.a1) X.L).1≤_
    omega
   ·show 0≤(YP X.side o (X.a0,X.a1) X.L).2∧(YP X.side o (X.a0,X.a1) X.L).2≤_
    omega
   ·have:=hpn p hp
    omega
  unfold Z18
  rw [if_pos hin,e,if_pos (by omega)]
 have hgo:∀i,i<(ZH X.side o X.L).length→ZfY (pdG (ZH X.side o X.L)) i:=fun i hi=>by
  have hg (j:Nat) (hj:j<(ZH X.side o X.L).length):pdG (ZH X.side o X.L) j=Z6o (ZH X.side o X.L)[j]:=by unfold pdG;rw [List.getD_eq_getElem?_getD,List.getElem?_eq_getElem hj];rfl
  refine ⟨?_, ?_⟩
  ·rw [hg i hi]
   obtain ⟨q1,q2,q3,q4⟩:=hpn _ (List.getElem_mem hi)
   unfold WH Z6o
   simp only [Bool.and_eq_true,decide_eq_true_eq]
   exact ⟨⟨⟨by omega,q2⟩,q3⟩,q4⟩
  ·unfold Z9S
   refine VU fun j hj=> ?_
   have hp:=List.pairwise_iff_getElem.1 (Z7J hX o) j i (by omega) hi hj
   rw [hg i hi,hg j (by omega)]
   exact Zek hp
 rw [Z1y]
 refine ⟨hX.tb,hk, ?_,hb0,hgo, ?_, ?_, ?_, ?_⟩
 ·have:=Zcs hs o
  show 0≤ZN X.side o∧ZN X.side o≤1
  omega
 ·show (shM (pdG (ZH X.side o X.L)) (ZH X.side o X.L).length).getD 0 0≤8
  rw [hM]
  show (cntF 0 (ZH X.side o X.L):Int)≤8
  omega
 ·show (shM (pdG (ZH X.side o X.L)) (ZH X.side o X.L).length).getD 1 0≤8
  rw [hM]
  show (cntF 1 (ZH X.side o X.L):Int)≤8
  omega
 ·exact congrArg Prod.snd hA
 ·exact congrArg Prod.fst hA
end Go.Tk
end
section
namespace Go.Tk
open IntKind (i64 u8 u32 u64 wrap)
def mtH (t:Zo) (X Y:Za):Z6:=⟨5,[(0,.flat t.c),(1,.flat (X.c (slH 2 X.L.length))),(2,.rows 70 X.L.length (Z5 X.L)),(3,.flat (Y.c (slH 4 Y.L.length))),(4,.rows 70 Y.L.length (Z5 Y.L))]⟩
def mtS (t:Zo) (X Y:Za) (A:List Yp) (n i:Nat):St:=⟨106,[(8,.int .i64 i),(0,.vrows 41 n (Uk A) n),(4,pt 1),(6,pt 3),(3,pt 0)],mtH t X Y,[]⟩
def Zem (t:Zo) (X Y:Za) (A:List Yp) (n i j:Nat):St:=⟨106,[(9,.int .i64 j),(4,pt 1),(6,pt 3),(3,pt 0),(8,.int .i64 i),(0,.vrows 41 n (Uk A) n)],mtH t X Y,[]⟩
def mtN:St:=⟨106,[],⟨0,[]⟩,[]⟩
theorem Z8L (P:List Xh):(List.range P.length).map (pdG P)=P.map Z6o:=by
 refine List.ext_getElem (by simp) fun i h1 h2=> ?_
 have hi:i<P.length:=by simpa using h1
 simp only [List.getElem_map,List.getElem_range]
 unfold pdG
 rw [List.getD_eq_getElem?_getD,List.getElem?_eq_getElem hi]
 rfl
theorem Zen {X Y:Za} (h:Mir X Y) (o:Bool) (k:Int) (pt:List Int):V0 (Z3d X o k pt) (Z3d Y (!o) k pt):=by
 have hp:=h.pen o
 have e:=h.srP0 o
 refine ⟨rfl,h.frm o,rfl,congrArg Prod.fst e,congrArg Prod.snd e,hp.length_eq, ?_⟩
 show ((List.range (ZH X.side o X.L).length).map (pdG (ZH Y.side (!o) Y.L))).Perm ((List.range (ZH X.side o X.L).length).map (pdG (ZH X.side o X.L)))
 rw [Z8L,←hp.length_eq,Z8L]
 exact hp.map _
theorem Zct {X:Za} (h:X.Inv Zt) {t:Zo} (ht:X.t=t) (o:Bool) {k:Int} (hk:0≤k∧k≤2147483647) {pt:List Int} (hpt:pt.length=32):CoS t (Z3d X o k pt):=by
 subst ht
 have hb:=Zel (o:=o) (pt:=pt) h hk
 have hr:=(Z8D.1 hb).2.2.2.1
 have h1:=Z0G X.side o X.L
 have h2:=h.len
 refine ⟨h.tok,⟨hpt,by omega,fun i hi=> ?_⟩, ?_,hb⟩
 ·have hi:i<(ZH X.side o X.L).length:=hi
  show (Z6o ((ZH X.side o X.L).getD i ZbP)).Ok
  rw [List.getD_eq_getElem?_getD,List.getElem?_eq_getElem hi]
  have hm:=List.getElem_mem hi
  generalize (ZH X.side o X.L)[i]=q at hm
  unfold ZH at hm
  obtain ⟨z,hz,rfl⟩:=List.mem_map.1 hm
  have:=h.ok z (List.mem_filter.1 hz).1
  exact ⟨this.hash,this.hb⟩
 ·show (ZH X.side o X.L).length<1000
  omega
structure MtC (t:Zo) (X Y:Za):Prop where
 mi:MI X Y
 x:X.t=t
theorem MtC.y {t:Zo} {X Y:Za} (h:MtC t X Y):Y.t=t:=h.mi.m.t.trans h.x
theorem ZiB (t:Zo) (X Y:Za) (A:List Yp) (n i j:Nat) (H:List Int→List Int) (Z1 Z2:Prop) (hj:j≤2) (hI:X.Inv Zt) (hJ:Y.Inv Zt) (hs:∀(o:Bool) (pt:List Int),pt.length=32→CoS t (Z3d X o 5 pt)∧CoS t (Z3d Y (!o) 5 pt)∧V0 (Z3d X o 5 pt) (Z3d Y (!o) 5 pt)) (hZ1:j<2→Z1) (hZ2:j=2→Z2):
  ZY (Zg2 H) 20 3 2 0 (Zem t X Y A n i j) (rdM 0 2 9 (Zem t X Y A n i (j+1)) (mtS t X Y A n i) mtN mtN Z1 Z2 False False):=by
 refine @Eq.mpr _ (let q1:=List.length X.L;
 let q2:=X.t;
 let q3:=q2.fund;
 let q4:=q2.index;
 let q5:=q2.cap;
 let q6:=q2.dust;
 let q7:=q2.fee;
 let q8:=q2.delay;
 let q9:=q2.k0;
 let q10:=q2.k1;
 let q11:=X.side;
 let q12:=X.res;
 let q13:=[X.a0,X.a1];
 let q14:=[X.i0,X.i1];
 let q15:=Z5 X.L;
 let q16:=(0:Int)≤5∧(5:Int)≤2147483647;
 let q17:=List.length Y.L;
 let q18:=Y.t;
 let q19:=q18.fund;
 let q20:=q18.index;
 let q21:=q18.cap;
 let q22:=q18.dust;
 let q23:=q18.fee;
 let q24:=q18.delay;
 let q25:=q18.k0;
 let q26:=q18.k1;
 let q27:=Y.side;
 let q28:=Y.res;
 let q29:=[Y.a0,Y.a1];
 let q30:=[Y.i0,Y.i1];
 let q31:=Z5 Y.L;
 let q32:=(↑j:Int)==0;
 let q33:=(↑j:Int)==1;
 let q34:=[(6:Int),0,0,0,0,0,0,0,0,0,0,0,0,0,0,0,0,0,0,0,0,0,0,0,0,0,0,0,0,0,0,0];
 let q35:=t.fund;
 let q36:=t.index;
 let q37:=t.cap;
 let q38:=t.dust;
 let q39:=t.fee;
 let q40:=t.delay;
 let q41:=t.k0;
 let q42:=t.k1;
 let q43:=Zo.mk q35 q36 q37 q38 q39 q40 q41 q42;
 let q44:=decide ((↑i:Int)=(↑i:Int));
 let q45:=decide (n=n);
 let q46:=Uk A=Uk A;
 let q47:=q35=q35;
 let q48:=decide (q36=q36);
 let q49:=decide (q37=q37);
 let q50:=decide (q38=q38);
 let q51:=decide (q39=q39);
 let q52:=decide (q40=q40);
 let q53:=q41=q41;
 let q54:=q42=q42;
 let q55:=q3=q3;
 let q56:=decide (q4=q4);
 let q57:=decide (q5=q5);
 let q58:=decide (q6=q6);
 let q59:=decide (q7=q7);
 let q60:=decide (q8=q8);
 let q61:=q9=q9;
 let q62:=q10=q10;
 let q63:=decide (q11=q11);
 let q64:=decide (q12=q12);
 let q65:=q13=q13;
 let q66:=q14=q14;
 let q67:=decide (q1=q1);
 let q68:=decide (q1≤q1);
 let q69:=[(4,4),(2,2),(0,0),(3,3),(1,1)];
 let q70:=Zd 0 q69 q1 q15 q15;
 let q71:=q19=q19;
 let q72:=decide (q20=q20);
 let q73:=decide (q21=q21);
 let q74:=decide (q22=q22);
 let q75:=decide (q23=q23);
 let q76:=decide (q24=q24);
 let q77:=q25=q25;
 let q78:=q26=q26;
 let q79:=decide (q27=q27);
 let q80:=decide (q28=q28);
 let q81:=q29=q29;
 let q82:=q30=q30;
 let q83:=decide (q17=q17);
 let q84:=decide (q17≤q17);
 let q85:=Zd 0 q69 q17 q31 q31;
 Z0 (decide ((↑j:Int)<2))
 (Z0 (decide (0+q1≤q1))
 ((∀(i:Nat),i<q1→true=true)∧
 ∃(X_1:Za),
 let q171:=ZH X_1.side q32 X_1.L;
 let q172:=List.length q171;
 LV [AV.arr u8 32 q3,AV.int i64 q4,AV.int i64 q5,AV.int i64 q6,AV.int i64 q7,AV.int i64 q8,AV.arr u8 32 q9,AV.arr u8 32 q10,AV.int i64 q11,AV.int i64 q12,AV.arr i64 2 q13,AV.arr i64 2 q14,AV.vrows 70 q1 (ZX 0 q15) q1] X_1∧
 Za.Inv Zt X_1∧
 q16∧
 Z0 (decide (0+q17≤q17))
 ((∀(i:Nat),i<q17→true=true)∧
 ∃(X_2:Za),
 let q175:=ZH X_2.side q33 X_2.L;
 let q176:=List.length q175;
 LV [AV.arr u8 32 q19,AV.int i64 q20,AV.int i64 q21,AV.int i64 q22,AV.int i64 q23,AV.int i64 q24,AV.arr u8 32 q25,AV.arr u8 32 q26,AV.int i64 q27,AV.int i64 q28,AV.arr i64 2 q29,AV.arr i64 2 q30,AV.vrows 70 q17 (ZX 0 q31) q17] X_2∧
 Za.Inv Zt X_2∧
 q16∧
 Z0 (decide (0+q172≤q172))
 ((∀(i:Nat),i<q172→true=true)∧
 Z0 (decide (0+q176≤q176))
 ((∀(i:Nat),i<q176→true=true)∧
 ∃(s:ShS),
 ∃(r:ShS),
 ((s.num=5∧s.owner=ZN X_1.side q32∧s.point=q34∧[(srP0 X_1 q32).fst,(srP0 X_1 q32).snd]=[s.a0,s.a1])∧
 (q172=q172∧s.n=q172)∧
 ∀(i:Nat),
 let q179:=List.getD q171 i ZbP;
 i<q172→[AV.int i64 q179.frm,AV.int i64 q179.id,AV.int i64 q179.amount,AV.arr u8 32 q179.hash,AV.int i64 q179.expiry]=ZS.c (s.g i))∧
 ((r.num=5∧r.owner=ZN X_2.side q33∧r.point=q34∧[(srP0 X_2 q33).fst,(srP0 X_2 q33).snd]=[r.a0,r.a1])∧
 (q176=q176∧r.n=q176)∧
 ∀(i:Nat),
 let q179:=List.getD q175 i ZbP;
 i<q176→[AV.int i64 q179.frm,AV.int i64 q179.id,AV.int i64 q179.amount,AV.arr u8 32 q179.hash,AV.int i64 q179.expiry]=ZS.c (r.g i))∧
 V0 s r∧CoS q43 s∧CoS q43 r∧Z0 (decide (wrap i64 ((↑j:Int)+1)=(↑(j+1):Int))) (Z0 q44 (Z0 q45 (q46∧Z0 q45 (q47∧Z0 q48 (Z0 q49 (Z0 q50 (Z0 q51 (Z0 q52 (q53∧q54∧q55∧Z0 q56 (Z0 q57 (Z0 q58 (Z0 q59 (Z0 q60 (q61∧q62∧Z0 q63 (Z0 q64 (q65∧q66∧Z0 q67 (Z0 q68 (Z0 q67 (q70∧q71∧Z0 q72 (Z0 q73 (Z0 q74 (Z0 q75 (Z0 q76 (q77∧q78∧Z0 q79 (Z0 q80 (q81∧q82∧Z0 q83 (Z0 q84 (Z0 q83 (q85∧Z1) False) False) False) False) False) False) False) False) False) False) False) False) False) False) False) False) False) False) False) False) False) False) False) False) False) False) False) False) False)
 False)
 False)
 False)
 False)
 (Z0 q44 (Z0 q45 (q46∧Z0 q45 (q47∧Z0 q48 (Z0 q49 (Z0 q50 (Z0 q51 (Z0 q52 (q53∧q54∧q55∧Z0 q56 (Z0 q57 (Z0 q58 (Z0 q59 (Z0 q60 (q61∧q62∧Z0 q63 (Z0 q64 (q65∧q66∧Z0 q67 (Z0 q68 (Z0 q67 (q70∧q71∧Z0 q72 (Z0 q73 (Z0 q74 (Z0 q75 (Z0 q76 (q77∧q78∧Z0 q79 (Z0 q80 (q81∧q82∧Z0 q83 (Z0 q84 (Z0 q83 (q85∧Z2) False) False) False) False) False) False) False) False) False) False) False) False) False) False) False) False) False) False) False) False) False) False) False) False) False) False) False) False)) (by kernel_rfl) ?_
 conv=>zeta
 try simp only [Zi]
 try simp only [Zj]
 try simp only [Zk]
 try simp only [Zl]
 try simp only [Zm]
 try simp only [Zh]
 try simp only [Int.toNat_natCast,Nat.zero_add,true_and,and_true,Nat.le_refl]
 refine ⟨fun hc=> ?_,fun hc=> ?_⟩
 ·have hlt:j<2:=by omega
  have hjb:(((j:Int))==1)= !(((j:Int))==0):=by
   have:j=0∨j=1:=by omega
   rcases this with h|h<;>(subst h;rfl)
  rw [hjb]
  have hwr:i64.wrap ((j:Int)+1)=((j+1:Nat):Int):=by rw [w64 (by omega)];omega
  generalize (((j:Int))==0)=o
  obtain ⟨c1,c2,c3⟩:=hs o [6,0,0,0,0,0,0,0,0,0,0,0,0,0,0,0,0,0,0,0,0,0,0,0,0,0,0,0,0,0,0,0] rfl
  have hz1:=hZ1 hlt
  clear hs
  repeat' first
   | assumption
   | (intro _ _;trivial)
   | exact hwr
   | exact Nat.le_refl _
   | apply And.intro
   | rfl
   | omega
   | exact Zg fun _ _=>rfl
  refine ⟨X,.a rfl, ?_⟩
  repeat' first
   | assumption
   | (intro _ _;trivial)
   | exact hwr
   | exact Nat.le_refl _
   | apply And.intro
   | rfl
   | omega
   | exact Zg fun _ _=>rfl
  refine ⟨Y,.a rfl, ?_⟩
  repeat' first
   | assumption
   | (intro _ _;trivial)
   | exact hwr
   | exact Nat.le_refl _
   | apply And.intro
   | rfl
   | omega
   | exact Zg fun _ _=>rfl
  refine ⟨Z3d X o 5 _,Z3d Y (!o) 5 _,⟨⟨rfl,rfl,rfl,rfl⟩,rfl,fun _ _=>rfl⟩,⟨⟨rfl,rfl,rfl,rfl⟩,rfl,fun _ _=>rfl⟩,c3,c1,c2, ?_⟩
  repeat' first
   | assumption
   | (intro _ _;trivial)
   | exact hwr
   | exact Nat.le_refl _
   | apply And.intro
   | rfl
   | omega
   | exact Zg fun _ _=>rfl
 ·have hz2:=hZ2 (by omega)
  have hwr:True:=trivial
  repeat' first
   | assumption
   | (intro _ _;trivial)
   | exact hwr
   | exact Nat.le_refl _
   | apply And.intro
   | rfl
   | omega
   | exact Zg fun _ _=>rfl
structure MtP where
 x:Za
 y:Za
 i:Nat
noncomputable def Zg3 (H:List Int→List Int) (t:Zo) (A:List Yp) (n:Nat):Zf:=(Zg2 H).withL 3 2 (Zfj fun p:MtP=>goM 0 (Zem t p.x p.y A n p.i 0) (MtC t p.x p.y) (YR 2 2 9 (fun j=>j<2) (fun j=>j=2) (fun _=>False) (fun _=>False) (fun _=>mtS t p.x p.y A n p.i) (fun _=>mtN) (fun _=>mtN)))
theorem Zeo (t:Zo) (A:List Yp) (n:Nat):(Zg3 Zt t A n).Ok:=
 Zf.withL_ex Z8H fun p=>Zf.withGoM (N:=20) (S:=fun j=>Zem t p.x p.y A n p.i j) Z8H (by kernel_rfl) fun hC=>⟨rfl,fun j hj _=>ZiB t p.x p.y A n p.i j _ _ _ hj hC.mi.x hC.mi.y (fun o pt hpt=>⟨Zct hC.mi.x hC.x o (by decide) hpt,Zct hC.mi.y hC.y _ (by decide) hpt,Zen hC.mi.m o 5 pt⟩) (fun h=>⟨h,h⟩) (fun h=>h)⟩
theorem Zhu (X:Za) (a:Yp):(Qw X a).t=X.t:=by
 unfold Qw
 split
 ·unfold addX
  split
  ·cases a.own<;>rfl
  ·rfl
 ·split
  ·unfold endX;split<;>rfl
  ·split
   ·unfold endX;split<;>rfl
   ·split
    ·unfold stpX;split<;>rfl
    ·rfl
theorem MtC.bot {t:Zo} {X Y:Za} (h:MtC t X Y) {a:Yp} (ha:a.Ok):MtC t (Qw X a) (Z09 X Y a):=⟨ZfV h.mi ha,(Zhu X a).trans h.x⟩
theorem ZiC (t:Zo) (X Y X' Y':Za) (A:List Yp) (n i:Nat) (a:Yp) (H:List Int→List Int) (Z1 Z2:Prop) (hn:n≤60) (hL:A.length=n) (hi:i≤n) (hM:MtC t X Y) (hx:i<n→A.getD i Z7H=a) (ha:i<n→a.Ok) (hX:i<n→X'=Qw X a) (hY:i<n→Y'=Z09 X Y a) (hZ1:i<n→Z1) (hZ2:i=n→Z2):
  ZY (Zg3 H t A n) 20 3 0 0 (mtS t X Y A n i) (rdM 0 0 9 (mtS t X' Y' A n (i+1)) mtN mtN mtN Z1 Z2 False False):=by
 refine @Eq.mpr _ (let q1:=List.length X.L;
 let q2:=List.length Y.L;
 let q3:=List.getD A (Int.toNat (↑i:Int)) Z7H;
 let q4:=X.t;
 let q5:=Y.t;
 let q6:=decide (n=n);
 let q7:=Uk A=Uk A;
 let q8:=t.fund=t.fund;
 let q9:=decide (t.index=t.index);
 let q10:=decide (t.cap=t.cap);
 let q11:=decide (t.dust=t.dust);
 let q12:=decide (t.fee=t.fee);
 let q13:=decide (t.delay=t.delay);
 let q14:=t.k0=t.k0;
 let q15:=t.k1=t.k1;
 let q16:=[(0,0),(3,3),(1,1)];
 let q17:=(4,4)::(2,2)::q16;
 let q18:=X'.t;
 let q19:=List.length X'.L;
 let q20:=Y'.t;
 let q21:=List.length Y'.L;
 let q22:=(4,6)::(2,5)::q16;
 Z0 (decide ((↑i:Int)<(↑n:Int)))
 (Z0 (decide (0≤(↑i:Int)∧(↑i:Int)<(↑n:Int)))
 ((∀(i:Nat),i<q1→true=true)∧
 (∀(i:Nat),i<q2→true=true)∧
 ∃(X_1:Za),
 let q45:=List.length X_1.L;
 let q46:=decide (0+q45≤q45);
 let q47:=X_1.t;
 let q48:=q47.fund;
 let q49:=q47.index;
 let q50:=q47.cap;
 let q51:=q47.dust;
 let q52:=q47.fee;
 let q53:=q47.delay;
 let q54:=q47.k0;
 let q55:=q47.k1;
 let q56:=[X_1.a0,X_1.a1];
 let q57:=[X_1.i0,X_1.i1];
 let q58:=Z5 X_1.L;
 ∃(Y_1:Za),
 let q73:=List.length Y_1.L;
 let q74:=decide (0+q73≤q73);
 let q75:=Y_1.t;
 let q76:=q75.fund;
 let q77:=q75.index;
 let q78:=q75.cap;
 let q79:=q75.dust;
 let q80:=q75.fee;
 let q81:=q75.delay;
 let q82:=q75.k0;
 let q83:=q75.k1;
 let q84:=[Y_1.a0,Y_1.a1];
 let q85:=[Y_1.i0,Y_1.i1];
 let q86:=Z5 Y_1.L;
 ∃(a:Yp),
 let q101:=Qw X_1 a;
 let q102:=q101.L;
 let q103:=List.length q102;
 let q104:=decide (0+q103≤q103);
 let q105:=q101.t;
 let q106:=q105.fund;
 let q107:=q105.index;
 let q108:=q105.cap;
 let q109:=q105.dust;
 let q110:=q105.fee;
 let q111:=q105.delay;
 let q112:=q105.k0;
 let q113:=q105.k1;
 let q114:=q101.side;
 let q115:=q101.res;
 let q116:=[q101.a0,q101.a1];
 let q117:=[q101.i0,q101.i1];
 let q118:=Z5 q102;
 let q119:=Z09 X_1 Y_1 a;
 let q120:=q119.L;
 let q121:=List.length q120;
 let q122:=decide (0+q121≤q121);
 let q123:=q119.t;
 let q124:=q123.fund;
 let q125:=q123.index;
 let q126:=q123.cap;
 let q127:=q123.dust;
 let q128:=q123.fee;
 let q129:=q123.delay;
 let q130:=q123.k0;
 let q131:=q123.k1;
 let q132:=q119.side;
 let q133:=q119.res;
 let q134:=[q119.a0,q119.a1];
 let q135:=[q119.i0,q119.i1];
 let q136:=Z5 q120;
 a=Yp.mk q3.what q3.own q3.off q3.amount q3.expiry q3.secret q3.at' q3.move q3.ours q3.number∧
 LBB [AV.arr u8 32 q4.fund,AV.int i64 q4.index,AV.int i64 q4.cap,AV.int i64 q4.dust,AV.int i64 q4.fee,AV.int i64 q4.delay,AV.arr u8 32 q4.k0,AV.arr u8 32 q4.k1,AV.int i64 X.side,AV.int i64 X.res,AV.arr i64 2 [X.a0,X.a1],AV.arr i64 2 [X.i0,X.i1],AV.nslice (ZO.mk 1 0 70 0 0) 70 q1 q1] q1 (Z5 X.L) [AV.arr u8 32 q5.fund,AV.int i64 q5.index,AV.int i64 q5.cap,AV.int i64 q5.dust,AV.int i64 q5.fee,AV.int i64 q5.delay,AV.arr u8 32 q5.k0,AV.arr u8 32 q5.k1,AV.int i64 Y.side,AV.int i64 Y.res,AV.arr i64 2 [Y.a0,Y.a1],AV.arr i64 2 [Y.i0,Y.i1],AV.nslice (ZO.mk 3 0 70 0 0) 70 q2 q2] q2 (Z5 Y.L) X_1 Y_1∧
 MI X_1 Y_1∧
 Yp.Ok a∧
 (Q1 X_1 a→
 Z0 q46
 ((∀(i:Nat),i<q45→true=true)∧
 ∃(X:Za),
 let q173:=[AV.arr u8 32 q48,AV.int i64 q49,AV.int i64 q50,AV.int i64 q51,AV.int i64 q52,AV.int i64 q53,AV.arr u8 32 q54,AV.arr u8 32 q55,AV.int i64 X_1.side,AV.int i64 X_1.res,AV.arr i64 2 q56,AV.arr i64 2 q57,AV.vrows 70 q45 (ZX 0 q58) q45];
 LV q173 X∧
 X.t.cap≠0∧
 Z0 q74
 ((∀(i:Nat),i<q73→true=true)∧
 ∃(X_2:Za),
 let q175:=[AV.arr u8 32 q76,AV.int i64 q77,AV.int i64 q78,AV.int i64 q79,AV.int i64 q80,AV.int i64 q81,AV.arr u8 32 q82,AV.arr u8 32 q83,AV.int i64 Y_1.side,AV.int i64 Y_1.res,AV.arr i64 2 q84,AV.arr i64 2 q85,AV.vrows 70 q73 (ZX 0 q86) q73];
 LV q175 X_2∧
 X_2.t.cap≠0∧
 Z0 (![X.a0,X.a1]==[X_2.a0,X_2.a1]) False
 (Z0 q46
 ((∀(i:Nat),i<q45→true=true)∧
 ∃(X:Za),
 LV q173 X∧
 Za.Inv Zt X∧
 Z0 q74
 ((∀(i:Nat),i<q73→true=true)∧
 ∃(X_3:Za),
 LV q175 X_3∧
 Za.Inv Zt X_3∧
 Z0 (leftV X 0 !=leftV X_3 0) False
 (Z0 q46
 ((∀(i:Nat),i<q45→true=true)∧
 ∃(X:Za),
 LV q173 X∧
 Za.Inv Zt X∧
 Z0 q74
 ((∀(i:Nat),i<q73→true=true)∧
 ∃(X_4:Za),
 LV q175 X_4∧
 Za.Inv Zt X_4∧
 Z0 (leftV X 1 !=leftV X_4 1) False
 (∃(i_1:MtP),
 let q177:=(↑i_1.i:Int);
 let q178:=i_1.x;
 let q179:=q178.t;
 let q180:=q179.fund;
 let q181:=q179.index;
 let q182:=q179.cap;
 let q183:=q179.dust;
 let q184:=q179.fee;
 let q185:=q179.delay;
 let q186:=q179.k0;
 let q187:=q179.k1;
 let q188:=q178.side;
 let q189:=q178.res;
 let q190:=[q178.a0,q178.a1];
 let q191:=[q178.i0,q178.i1];
 let q192:=q178.L;
 let q193:=List.length q192;
 let q194:=decide (q45=q193);
 let q195:=Z5 q192;
 let q196:=i_1.y;
 let q197:=q196.t;
 let q198:=q197.fund;
 let q199:=q197.index;
 let q200:=q197.cap;
 let q201:=q197.dust;
 let q202:=q197.fee;
 let q203:=q197.delay;
 let q204:=q197.k0;
 let q205:=q197.k1;
 let q206:=q196.side;
 let q207:=q196.res;
 let q208:=[q196.a0,q196.a1];
 let q209:=[q196.i0,q196.i1];
 let q210:=q196.L;
 let q211:=List.length q210;
 let q212:=decide (q73=q211);
 let q213:=Z5 q210;
 let q214:=decide (q193=q19);
 let q215:=decide (q211=q21);
 Z0 (decide ((↑i:Int)=q177))
 (Z0 q6
 (q7∧
 Z0 q6
 (q8∧
 Z0 q9
 (Z0 q10
 (Z0 q11
 (Z0 q12
 (Z0 q13
 (q14∧
 q15∧
 q48=q180∧
 Z0 (decide (q49=q181))
 (Z0 (decide (q50=q182))
 (Z0 (decide (q51=q183))
 (Z0 (decide (q52=q184))
 (Z0 (decide (q53=q185))
 (q54=q186∧
 q55=q187∧
 Z0 (decide (X_1.side=q188))
 (Z0 (decide (X_1.res=q189))
 (q56=q190∧
 q57=q191∧
 Z0 q194
 (Z0 (decide (q193≤q45))
 (Z0 q194
 (Zd 0 q17 q193 q195 q58∧
 q76=q198∧
 Z0 (decide (q77=q199))
 (Z0 (decide (q78=q200))
 (Z0 (decide (q79=q201))
 (Z0 (decide (q80=q202))
 (Z0 (decide (q81=q203))
 (q82=q204∧
 q83=q205∧
 Z0 (decide (Y_1.side=q206))
 (Z0 (decide (Y_1.res=q207))
 (q84=q208∧
 q85=q209∧
 Z0 q212
 (Z0 (decide (q211≤q73))
 (Z0 q212
 (Zd 0 q17 q211 q213 q86∧
 MtC t q178 q196∧
 ∀(i_2:Nat),
 i_2≤2→
 (∀(j:Nat),j<i_2→(fun (j:Nat)=>j<2) j)→
 (i_2=2→
 Z0 (decide (wrap i64 (q177+1)=(↑(i+1):Int)))
 (Z0 q6
 (q7∧
 Z0 q6
 (q8∧
 Z0 q9
 (Z0 q10
 (Z0 q11
 (Z0 q12
 (Z0 q13 (q14∧q15∧q180=q18.fund∧Z0 (decide (q181=q18.index)) (Z0 (decide (q182=q18.cap)) (Z0 (decide (q183=q18.dust)) (Z0 (decide (q184=q18.fee)) (Z0 (decide (q185=q18.delay)) (q186=q18.k0∧q187=q18.k1∧Z0 (decide (q188=X'.side)) (Z0 (decide (q189=X'.res)) (q190=[X'.a0,X'.a1]∧q191=[X'.i0,X'.i1]∧Z0 q214 (Z0 (decide (q19≤q193)) (Z0 q214 (Zd 0 q17 q19 (Z5 X'.L) q195∧q198=q20.fund∧Z0 (decide (q199=q20.index)) (Z0 (decide (q200=q20.cap)) (Z0 (decide (q201=q20.dust)) (Z0 (decide (q202=q20.fee)) (Z0 (decide (q203=q20.delay)) (q204=q20.k0∧q205=q20.k1∧Z0 (decide (q206=Y'.side)) (Z0 (decide (q207=Y'.res)) (q208=[Y'.a0,Y'.a1]∧q209=[Y'.i0,Y'.i1]∧Z0 q215 (Z0 (decide (q21≤q211)) (Z0 q215 (Zd 0 q17 q21 (Z5 Y'.L) q213∧Z1) False) False) False) False) False) False) False) False) False) False) False) False) False) False) False) False) False) False) False) False) False)
 False)
 False)
 False)
 False)
 False)
 False)
 False)∧
 (False→False)∧(False→False))
 False)
 False)
 False)
 False)
 False)
 False)
 False)
 False)
 False)
 False)
 False)
 False)
 False)
 False)
 False)
 False)
 False)
 False)
 False)
 False)
 False)
 False)
 False)
 False)
 False)
 False)
 False)
 False))
 False)
 False))
 False)
 False))
 False)
 False)∧
 (¬Q1 X_1 a→
 Z0 q104
 ((∀(i:Nat),i<q103→true=true)∧
 ∃(X:Za),
 let q173:=[AV.arr u8 32 q106,AV.int i64 q107,AV.int i64 q108,AV.int i64 q109,AV.int i64 q110,AV.int i64 q111,AV.arr u8 32 q112,AV.arr u8 32 q113,AV.int i64 q114,AV.int i64 q115,AV.arr i64 2 q116,AV.arr i64 2 q117,AV.vrows 70 q103 (ZX 0 q118) q103];
 LV q173 X∧
 X.t.cap≠0∧
 Z0 q122
 ((∀(i:Nat),i<q121→true=true)∧
 ∃(X_2:Za),
 let q175:=[AV.arr u8 32 q124,AV.int i64 q125,AV.int i64 q126,AV.int i64 q127,AV.int i64 q128,AV.int i64 q129,AV.arr u8 32 q130,AV.arr u8 32 q131,AV.int i64 q132,AV.int i64 q133,AV.arr i64 2 q134,AV.arr i64 2 q135,AV.vrows 70 q121 (ZX 0 q136) q121];
 LV q175 X_2∧
 X_2.t.cap≠0∧
 Z0 (![X.a0,X.a1]==[X_2.a0,X_2.a1]) False
 (Z0 q104
 ((∀(i:Nat),i<q103→true=true)∧
 ∃(X:Za),
 LV q173 X∧
 Za.Inv Zt X∧
 Z0 q122
 ((∀(i:Nat),i<q121→true=true)∧
 ∃(X_3:Za),
 LV q175 X_3∧
 Za.Inv Zt X_3∧
 Z0 (leftV X 0 !=leftV X_3 0) False
 (Z0 q104
 ((∀(i:Nat),i<q103→true=true)∧
 ∃(X:Za),
 LV q173 X∧
 Za.Inv Zt X∧
 Z0 q122
 ((∀(i:Nat),i<q121→true=true)∧
 ∃(X_4:Za),
 LV q175 X_4∧
 Za.Inv Zt X_4∧
 Z0 (leftV X 1 !=leftV X_4 1) False
 (∃(i_1:MtP),
 let q177:=(↑i_1.i:Int);
 let q178:=i_1.x;
 let q179:=q178.t;
 let q180:=q179.fund;
 let q181:=q179.index;
 let q182:=q179.cap;
 let q183:=q179.dust;
 let q184:=q179.fee;
 let q185:=q179.delay;
 let q186:=q179.k0;
 let q187:=q179.k1;
 let q188:=q178.side;
 let q189:=q178.res;
 let q190:=[q178.a0,q178.a1];
 let q191:=[q178.i0,q178.i1];
 let q192:=q178.L;
 let q193:=List.length q192;
 let q194:=decide (q103=q193);
 let q195:=Z5 q192;
 let q196:=i_1.y;
 let q197:=q196.t;
 let q198:=q197.fund;
 let q199:=q197.index;
 let q200:=q197.cap;
 let q201:=q197.dust;
 let q202:=q197.fee;
 let q203:=q197.delay;
 let q204:=q197.k0;
 let q205:=q197.k1;
 let q206:=q196.side;
 let q207:=q196.res;
 let q208:=[q196.a0,q196.a1];
 let q209:=[q196.i0,q196.i1];
 let q210:=q196.L;
 let q211:=List.length q210;
 let q212:=decide (q121=q211);
 let q213:=Z5 q210;
 let q214:=decide (q193=q19);
 let q215:=decide (q211=q21);
 Z0 (decide ((↑i:Int)=q177))
 (Z0 q6
 (q7∧
 Z0 q6
 (q8∧
 Z0 q9
 (Z0 q10
 (Z0 q11
 (Z0 q12
 (Z0 q13
 (q14∧
 q15∧
 q106=q180∧
 Z0 (decide (q107=q181))
 (Z0 (decide (q108=q182))
 (Z0 (decide (q109=q183))
 (Z0 (decide (q110=q184))
 (Z0 (decide (q111=q185))
 (q112=q186∧
 q113=q187∧
 Z0 (decide (q114=q188))
 (Z0 (decide (q115=q189))
 (q116=q190∧
 q117=q191∧
 Z0 q194
 (Z0 (decide (q193≤q103))
 (Z0 q194
 (Zd 0 q22 q193 q195 q118∧
 q124=q198∧
 Z0 (decide (q125=q199))
 (Z0 (decide (q126=q200))
 (Z0 (decide (q127=q201))
 (Z0 (decide (q128=q202))
 (Z0 (decide (q129=q203))
 (q130=q204∧
 q131=q205∧
 Z0 (decide (q132=q206))
 (Z0 (decide (q133=q207))
 (q134=q208∧
 q135=q209∧
 Z0 q212
 (Z0 (decide (q211≤q121))
 (Z0 q212
 (Zd 0 q22 q211 q213 q136∧
 MtC t q178 q196∧
 ∀(i_2:Nat),
 i_2≤2→
 (∀(j:Nat),j<i_2→(fun (j:Nat)=>j<2) j)→
 (i_2=2→
 Z0 (decide (wrap i64 (q177+1)=(↑(i+1):Int)))
 (Z0 q6
 (q7∧
 Z0 q6
 (q8∧
 Z0 q9
 (Z0 q10
 (Z0 q11
 (Z0 q12
 (Z0 q13 (q14∧q15∧q180=q18.fund∧Z0 (decide (q181=q18.index)) (Z0 (decide (q182=q18.cap)) (Z0 (decide (q183=q18.dust)) (Z0 (decide (q184=q18.fee)) (Z0 (decide (q185=q18.delay)) (q186=q18.k0∧q187=q18.k1∧Z0 (decide (q188=X'.side)) (Z0 (decide (q189=X'.res)) (q190=[X'.a0,X'.a1]∧q191=[X'.i0,X'.i1]∧Z0 q214 (Z0 (decide (q19≤q193)) (Z0 q214 (Zd 0 q17 q19 (Z5 X'.L) q195∧q198=q20.fund∧Z0 (decide (q199=q20.index)) (Z0 (decide (q200=q20.cap)) (Z0 (decide (q201=q20.dust)) (Z0 (decide (q202=q20.fee)) (Z0 (decide (q203=q20.delay)) (q204=q20.k0∧q205=q20.k1∧Z0 (decide (q206=Y'.side)) (Z0 (decide (q207=Y'.res)) (q208=[Y'.a0,Y'.a1]∧q209=[Y'.i0,Y'.i1]∧Z0 q215 (Z0 (decide (q21≤q211)) (Z0 q215 (Zd 0 q17 q21 (Z5 Y'.L) q213∧Z1) False) False) False) False) False) False) False) False) False) False) False) False) False) False) False) False) False) False) False) False) False)
 False)
 False)
 False)
 False)
 False)
 False)
 False)∧
 (False→False)∧(False→False))
 False)
 False)
 False)
 False)
 False)
 False)
 False)
 False)
 False)
 False)
 False)
 False)
 False)
 False)
 False)
 False)
 False)
 False)
 False)
 False)
 False)
 False)
 False)
 False)
 False)
 False)
 False)
 False))
 False)
 False))
 False)
 False))
 False)
 False))
 False)
 Z2) (by kernel_rfl) ?_
 conv=>zeta
 try simp only [Zi]
 try simp only [Zj]
 try simp only [Zk]
 try simp only [Zl]
 try simp only [Zm]
 try simp only [Zh]
 try simp only [Int.toNat_natCast,Nat.zero_add,true_and,and_true,Nat.le_refl]
 refine ⟨fun hc=> ?_,fun hc=>hZ2 (by omega)⟩
 have hlt:i<n:=by omega
 rw [hx hlt]
 have hwr:i64.wrap ((i:Int)+1)=((i+1:Nat):Int):=by rw [w64 (by omega)];omega
 replace hX:=hX hlt
 replace hY:=hY hlt
 have hN:MtC t X' Y':=by rw [hX,hY];exact hM.bot (ha hlt)
 refine ⟨by omega,fun _ _=>trivial,fun _ _=>trivial,X,Y,a,rfl,⟨rfl,rfl,rfl,rfl,rfl,rfl⟩,hM.mi,ha hlt,fun hk=> ?_,fun hk=> ?_⟩
 ·obtain ⟨e1,e2⟩:=Zc5 hM.mi hk
  rw [e1] at hX
  rw [e2] at hY
  subst hX hY
  have cV:=Yk hN.mi.x.tb
  have cU:=Yk hN.mi.y.tb
  have iV:=hN.mi.x
  have iU:=hN.mi.y
  have ham:(!([X'.a0,X'.a1]==[Y'.a0,Y'.a1]))=false:=by rw [hN.mi.m.a0,hN.mi.m.a1];simp
  have hl (s:Int):(leftV X' s !=leftV Y' s)=false:=by unfold leftV;rw [hN.mi.m.over];exact bne_self_eq_false _
  have hl0:=hl 0
  have hl1:=hl 1
  clear hl
  repeat' first
   | assumption
   | (intro _ _;trivial)
   | exact hwr
   | exact hZ1 hlt
   | exact Nat.le_refl _
   | (intro k hk hg;refine ⟨fun he=> ?_,fun h=>h,fun h=>h⟩)
   | apply And.intro
   | rfl
   | omega
   | exact Zg fun _ _=>rfl
  refine ⟨X',.a rfl, ?_⟩
  repeat' first
   | assumption
   | (intro _ _;trivial)
   | exact hwr
   | exact hZ1 hlt
   | exact Nat.le_refl _
   | (intro k hk hg;refine ⟨fun he=> ?_,fun h=>h,fun h=>h⟩)
   | apply And.intro
   | rfl
   | omega
   | exact Zg fun _ _=>rfl
  refine ⟨Y',.a rfl, ?_⟩
  repeat' first
   | assumption
   | (intro _ _;trivial)
   | exact hwr
   | exact hZ1 hlt
   | exact Nat.le_refl _
   | (intro k hk hg;refine ⟨fun he=> ?_,fun h=>h,fun h=>h⟩)
   | apply And.intro
   | rfl
   | omega
   | exact Zg fun _ _=>rfl
  refine ⟨X',.a rfl, ?_⟩
  repeat' first
   | assumption
   | (intro _ _;trivial)
   | exact hwr
   | exact hZ1 hlt
   | exact Nat.le_refl _
   | (intro k hk hg;refine ⟨fun he=> ?_,fun h=>h,fun h=>h⟩)
   | apply And.intro
   | rfl
   | omega
   | exact Zg fun _ _=>rfl
  refine ⟨Y',.a rfl, ?_⟩
  repeat' first
   | assumption
   | (intro _ _;trivial)
   | exact hwr
   | exact hZ1 hlt
   | exact Nat.le_refl _
   | (intro k hk hg;refine ⟨fun he=> ?_,fun h=>h,fun h=>h⟩)
   | apply And.intro
   | rfl
   | omega
   | exact Zg fun _ _=>rfl
  refine ⟨X',.a rfl, ?_⟩
  repeat' first
   | assumption
   | (intro _ _;trivial)
   | exact hwr
   | exact hZ1 hlt
   | exact Nat.le_refl _
   | (intro k hk hg;refine ⟨fun he=> ?_,fun h=>h,fun h=>h⟩)
   | apply And.intro
   | rfl
   | omega
   | exact Zg fun _ _=>rfl
  refine ⟨Y',.a rfl, ?_⟩
  repeat' first
   | assumption
   | (intro _ _;trivial)
   | exact hwr
   | exact hZ1 hlt
   | exact Nat.le_refl _
   | (intro k hk hg;refine ⟨fun he=> ?_,fun h=>h,fun h=>h⟩)
   | apply And.intro
   | rfl
   | omega
   | exact Zg fun _ _=>rfl
  refine ⟨⟨X',Y',i⟩, ?_⟩
  repeat' first
   | assumption
   | (intro _ _;trivial)
   | exact hwr
   | exact hZ1 hlt
   | exact Nat.le_refl _
   | (intro k hk hg;refine ⟨fun he=> ?_,fun h=>h,fun h=>h⟩)
   | apply And.intro
   | rfl
   | omega
   | exact Zg fun _ _=>rfl
 ·rw [←hX,←hY]
  clear hX hY
  have cV:=Yk hN.mi.x.tb
  have cU:=Yk hN.mi.y.tb
  have iV:=hN.mi.x
  have iU:=hN.mi.y
  have ham:(!([X'.a0,X'.a1]==[Y'.a0,Y'.a1]))=false:=by rw [hN.mi.m.a0,hN.mi.m.a1];simp
  have hl (s:Int):(leftV X' s !=leftV Y' s)=false:=by unfold leftV;rw [hN.mi.m.over];exact bne_self_eq_false _
  have hl0:=hl 0
  have hl1:=hl 1
  clear hl
  repeat' first
   | assumption
   | (intro _ _;trivial)
   | exact hwr
   | exact hZ1 hlt
   | exact Nat.le_refl _
   | (intro k hk hg;refine ⟨fun he=> ?_,fun h=>h,fun h=>h⟩)
   | apply And.intro
   | rfl
   | omega
   | exact Zg fun _ _=>rfl
  refine ⟨X',.a rfl, ?_⟩
  repeat' first
   | assumption
   | (intro _ _;trivial)
   | exact hwr
   | exact hZ1 hlt
   | exact Nat.le_refl _
   | (intro k hk hg;refine ⟨fun he=> ?_,fun h=>h,fun h=>h⟩)
   | apply And.intro
   | rfl
   | omega
   | exact Zg fun _ _=>rfl
  refine ⟨Y',.a rfl, ?_⟩
  repeat' first
   | assumption
   | (intro _ _;trivial)
   | exact hwr
   | exact hZ1 hlt
   | exact Nat.le_refl _
   | (intro k hk hg;refine ⟨fun he=> ?_,fun h=>h,fun h=>h⟩)
   | apply And.intro
   | rfl
   | omega
   | exact Zg fun _ _=>rfl
  refine ⟨X',.a rfl, ?_⟩
  repeat' first
   | assumption
   | (intro _ _;trivial)
   | exact hwr
   | exact hZ1 hlt
   | exact Nat.le_refl _
   | (intro k hk hg;refine ⟨fun he=> ?_,fun h=>h,fun h=>h⟩)
   | apply And.intro
   | rfl
   | omega
   | exact Zg fun _ _=>rfl
  refine ⟨Y',.a rfl, ?_⟩
  repeat' first
   | assumption
   | (intro _ _;trivial)
   | exact hwr
   | exact hZ1 hlt
   | exact Nat.le_refl _
   | (intro k hk hg;refine ⟨fun he=> ?_,fun h=>h,fun h=>h⟩)
   | apply And.intro
   | rfl
   | omega
   | exact Zg fun _ _=>rfl
  refine ⟨X',.a rfl, ?_⟩
  repeat' first
   | assumption
   | (intro _ _;trivial)
   | exact hwr
   | exact hZ1 hlt
   | exact Nat.le_refl _
   | (intro k hk hg;refine ⟨fun he=> ?_,fun h=>h,fun h=>h⟩)
   | apply And.intro
   | rfl
   | omega
   | exact Zg fun _ _=>rfl
  refine ⟨Y',.a rfl, ?_⟩
  repeat' first
   | assumption
   | (intro _ _;trivial)
   | exact hwr
   | exact hZ1 hlt
   | exact Nat.le_refl _
   | (intro k hk hg;refine ⟨fun he=> ?_,fun h=>h,fun h=>h⟩)
   | apply And.intro
   | rfl
   | omega
   | exact Zg fun _ _=>rfl
  refine ⟨⟨X',Y',i⟩, ?_⟩
  repeat' first
   | assumption
   | (intro _ _;trivial)
   | exact hwr
   | exact hZ1 hlt
   | exact Nat.le_refl _
   | (intro k hk hg;refine ⟨fun he=> ?_,fun h=>h,fun h=>h⟩)
   | apply And.intro
   | rfl
   | omega
   | exact Zg fun _ _=>rfl
def mtG (p:Za×Za) (a:Yp):Za×Za:=(Qw p.1 a,Z09 p.1 p.2 a)
def mtF (p:Za×Za) (A:List Yp) (i:Nat):Za×Za:=(A.take i).foldl mtG p
theorem Z31 {p:Za×Za} {A:List Yp} {i:Nat} (hi:i<A.length):mtF p A (i+1)=mtG (mtF p A i) (A.getD i Z7H):=Z0H mtG Z7H hi p
theorem Z8M {t:Zo} {p:Za×Za} (h:MtC t p.1 p.2) {A:List Yp} (hA:∀a∈A,a.Ok):∀i,i≤A.length→MtC t (mtF p A i).1 (mtF p A i).2
 | 0,_=>h
 | i+1,hi=>by
  rw [Z31 hi]
  exact (Z8M h hA i (by omega)).bot (hA _ (by rw [List.getD_eq_getElem?_getD,List.getElem?_eq_getElem (by omega)];exact List.getElem_mem (by omega)))
structure ZiD (t:Zo) (p:Za×Za) (A:List Yp) (n:Nat):Prop where
 h60:n≤60
 l:A.length=n
 m:MtC t p.1 p.2
 a:∀a∈A,a.Ok
noncomputable def Zhv (H:List Int→List Int) (t:Zo) (X Y:Za) (A:List Yp) (n:Nat) (C:Prop):Zf:=(Zg3 H t A n).withL 3 0 (goM 0 (mtS t X Y A n 0) C (YR 0 n 9 (fun i=>i<n) (fun i=>i=n) (fun _=>False) (fun _=>False) (fun _=>mtN) (fun _=>mtN) (fun _=>mtN)))
theorem Zep (t:Zo) (X Y:Za) (A:List Yp) (n:Nat):(Zhv Zt t X Y A n (ZiD t (X,Y) A n)).Ok:=
 Zf.withGoM (N:=20) (S:=fun i=>mtS t (mtF (X,Y) A i).1 (mtF (X,Y) A i).2 A n i) (Zeo t A n) (by kernel_rfl) fun hC=>⟨rfl,fun i hi _=>by
  obtain ⟨h1,h2,h3,h4⟩:=hC
  exact ZiC t (mtF (X,Y) A i).1 (mtF (X,Y) A i).2 (mtF (X,Y) A (i+1)).1 (mtF (X,Y) A (i+1)).2 A n i (A.getD i Z7H) _ _ _ h1 h2 hi (Z8M h3 h4 i (by omega)) (fun _=>rfl) (fun h=>h4 _ (by rw [List.getD_eq_getElem?_getD,List.getElem?_eq_getElem (by omega)];exact List.getElem_mem (by omega))) (fun h=>by rw [Z31 (by omega)];rfl) (fun h=>by rw [Z31 (by omega)];rfl) (fun h=>⟨h,h⟩) (fun h=>h)⟩
theorem ZiE (H:List Int→List Int) (t:Zo) (X Y:Za) (A:List Yp) (n:Nat) (C:Prop) (ht:t=tW) (hX:X=UL tW 0 50 600 400) (hY:Y=UL tW 1 50 600 400) (hok:tW.Ok) (hrX:X6 H X=true) (hrY:X6 H Y=true) (hC:n≤60→C):
  evF (Zhv H t X Y A n C) 20 3 [.vrows 41 n (Uk A) n] ⟨0,[]⟩ (YM fun v=>v=.bool true):=by
 refine @Eq.mpr _ (let q1:=AV.bool true=AV.bool true;
 let q2:=[(0:Int),0,0,0,0,0,0,0,0,0,0,0,0,0,0,0,0,0,0,0,0,0,0,0,0,0,0,0,0,0,0];
 let q3:=(1:Int)::q2;
 let q4:=(2:Int)::q2;
 let q5:=Zo.mk Z9 0 1000 10 5 3 q3 q4;
 let q6:=decide (n=n);
 let q7:=X.t;
 let q8:=List.length X.L;
 let q9:=decide (0=q8);
 let q10:=[(4,5),(2,3),(0,1),(3,4),(1,2)];
 let q11:=Y.t;
 let q12:=List.length Y.L;
 let q13:=decide (0=q12);
 Z0 (decide ((↑n:Int)>60)) q1
 (∃(X_1:Za),
 let q27:=X_1.t;
 Zcp H X_1 q5 0 50 600 400∧
 ∃(X_2:Za),
 let q29:=X_2.t;
 Zcp H X_2 q5 1 50 600 400∧
 Z0 q6
 (Uk A=Uk A∧
 Z0 q6
 (Z9=t.fund∧
 Z0 (decide (0=t.index))
 (Z0 (decide (1000=t.cap))
 (Z0 (decide (10=t.dust))
 (Z0 (decide (5=t.fee))
 (Z0 (decide (3=t.delay))
 (q3=t.k0∧
 q4=t.k1∧
 q27.fund=q7.fund∧
 Z0 (decide (q27.index=q7.index))
 (Z0 (decide (q27.cap=q7.cap))
 (Z0 (decide (q27.dust=q7.dust))
 (Z0 (decide (q27.fee=q7.fee))
 (Z0 (decide (q27.delay=q7.delay)) (q27.k0=q7.k0∧q27.k1=q7.k1∧Z0 (decide (X_1.side=X.side)) (Z0 (decide (X_1.res=X.res)) ([X_1.a0,X_1.a1]=[X.a0,X.a1]∧[X_1.i0,X_1.i1]=[X.i0,X.i1]∧Z0 q9 (Z0 (decide (q8≤0)) (Z0 q9 (Zd 0 q10 q8 (Z5 X.L) (Z5 [])∧q29.fund=q11.fund∧Z0 (decide (q29.index=q11.index)) (Z0 (decide (q29.cap=q11.cap)) (Z0 (decide (q29.dust=q11.dust)) (Z0 (decide (q29.fee=q11.fee)) (Z0 (decide (q29.delay=q11.delay)) (q29.k0=q11.k0∧q29.k1=q11.k1∧Z0 (decide (X_2.side=Y.side)) (Z0 (decide (X_2.res=Y.res)) ([X_2.a0,X_2.a1]=[Y.a0,Y.a1]∧[X_2.i0,X_2.i1]=[Y.i0,Y.i1]∧Z0 q13 (Z0 (decide (q12≤0)) (Z0 q13 (Zd 0 q10 q12 (Z5 Y.L) (Z5 [])∧C∧∀(i:Nat),i≤n→(∀(j:Nat),j<i→(fun (i:Nat)=>i<n) j)→(i=n→q1)∧(False→False)∧(False→False)) False) False) False) False) False) False) False) False) False) False) False) False) False) False) False) False)
 False)
 False)
 False)
 False)
 False)
 False)
 False)
 False)
 False)
 False)
 False)) (by kernel_rfl) ?_
 conv=>zeta
 try simp only [Zi]
 try simp only [Zj]
 try simp only [Zk]
 try simp only [Zl]
 try simp only [Zm]
 try simp only [Zh]
 try simp only [Int.toNat_natCast,Nat.zero_add,true_and,and_true,Nat.le_refl]
 subst ht
 have h0:Zcp H X tW 0 50 600 400:=⟨hX,by rw [hX];exact hok,hrX⟩
 have h1:Zcp H Y tW 1 50 600 400:=⟨hY,by rw [hY];exact hok,hrY⟩
 refine ⟨fun _=>trivial,fun hn=>⟨X,h0,Y,h1, ?_⟩⟩
 subst hX hY
 repeat' first
  | exact hC (by omega)
  | trivial
  | rfl
  | exact Zg fun _ _=>rfl
  | exact Nat.le_refl 0
  | (intro i hi hg;refine ⟨fun _=> ?_,fun h=>h,fun h=>h⟩)
  | apply And.intro
end Go.Tk
end
section
namespace Go.Tk
open IntKind (i64 u8 u32 u64 wrap)
theorem ledgermeets_walk {us:List AV} (h:Z3F [(false,[.rows 41 actTy])] us):Zn PP 3 us ⟨0,[]⟩ fun o h'=>∃v,o=.ret v∧h'=⟨0,[]⟩∧v=.bool true:=by
 cases h with|cons _ _ a _ _ h1 h=>
 cases h
 obtain ⟨n,A,hn,hA,hr⟩:=Za0 h1
 have main:∀s:Int,(s=0∨s=1)→X6 Zt (UL tW s 50 600 400)=true∧(UL tW s 50 600 400).Inv Zt:=fun s hs=>by
  have hr:X6 Zt (UL tW s 50 600 400)=true:=Z9X.2 ⟨by decide,by omega,by decide,by decide,by decide,by decide⟩
  exact ⟨hr,(Zdj ZeV (fun h hh=>by cases hh)).1 hr⟩
 obtain ⟨r0,i0⟩:=main 0 (.inl rfl)
 obtain ⟨r1,i1⟩:=main 1 (.inr rfl)
 have hm:MtC tW (UL tW 0 50 600 400) (UL tW 1 50 600 400):=⟨⟨⟨rfl,rfl,rfl,rfl,rfl,rfl,rfl,.nil⟩,i0,i1⟩,rfl⟩
 exact (Yq (h:=⟨0,[]⟩) (Zep tW _ _ A n) rfl (ZiE Zt tW _ _ A n _ rfl rfl rfl ZeV r0 r1 fun h60=>⟨h60,hn,hm,hA⟩) (fun u hu=>hu)).conv fun E r hr0=>hr0.head (fun _ hc=>hr E _ hc) fun _ hc=>hc
end Go.Tk
namespace Go.Proofs.YtpfaahkmphnliaaGreat.ledgerMeets
open Go.ChangeShapes Go.WideShapes Go.ChangeAt Go.RowKit
theorem own:ownKnob Tryz.prog.godebug=none:=by kernel_rfl
theorem laidOut:laidOutB Tryz.prog=true:=by kernel_rfl
theorem lifted (os:Os) (started:os.Started) (H:Type) (enc:TypeId×Value→H):
  ReturnsInHanded {} Tryz.checked os 3 .any (Rows.ledgerMeetsSpec.pre6 enc Tryz.prog Tryz.f3 Rows.ledgerMeetsRow.domain false) (Rows.ledgerMeetsSpec.post enc Tryz.prog Tryz.f3 false true false false):=
 Go.Tk.lifted_gen (C:=Tryz.checked) (m:=8) (τs:=[(false,[.rows 41 Go.Tk.actTy])]) own laidOut started (by kernel_rfl) Tryz.func3
  (ChangeSpec.witness6 (enc:=enc) (C:=Tryz.checked) false ⟨#[], #[.slice none 0 0],[]⟩ 8 (by kernel_rfl) (by kernel_rfl) (by kernel_rfl) (by kernel_rfl))
  rfl (tb:=4) rfl Tryz.underlying4 (by kernel_rfl) (by kernel_rfl) (fun ds h=>by
   match ds,h with
   | [a],_=>rfl) fun us h=>Go.Tk.ledgermeets_walk h
theorem Zg4:Tryz.pinned.checked.prog.funcNamed Rows.ledgerMeetsRow.func=some 3:=by kernel_rfl
theorem closed:joinedFacts Tryz.pinned.checked.prog 3 Tryz.f3 Rows.ledgerMeetsSpec Rows.ledgerMeetsRow=true:=by
 unfold joinedFacts
 repeat' with_reducible refine Go.Tk.and_mk ?_ ?_
 all_goals as_aux_lemma=>kernel_rfl
theorem over:Rows.ledgerMeetsRow.holds Tryz.pinned (OpenSpec.ofChange Rows.ledgerMeetsSpec):=
 OpenClaim.holds_of_wide 3 Tryz.f3 rfl rfl rfl rfl rfl rfl rfl ⟨rfl,rfl,rfl,rfl,rfl⟩ rfl rfl rfl rfl rfl Zg4 Tryz.func3 closed
  (of_decide_eq_true (by kernel_rfl)) (by unfold Func.isWrapper;first|(rw [if_pos (by decide+kernel)];kernel_rfl)|(rw [if_neg (by decide+kernel)];exact ⟨rfl,rfl⟩))
  (fun os started H enc _=>lifted os started H enc)
theorem proved:Rows.LedgerMeetsSaid:=over
end Go.Proofs.YtpfaahkmphnliaaGreat.ledgerMeets
end
