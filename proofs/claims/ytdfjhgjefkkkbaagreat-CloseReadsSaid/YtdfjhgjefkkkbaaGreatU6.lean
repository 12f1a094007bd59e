/- U: part 6 of an engine (a symbolic evaluator, proved against the model) and of the walk by it. -/
import Derived.Test.YtdfjhgjefkkkbaaGreatU5
set_option linter.unusedVariables false
set_option linter.unusedSimpArgs false
set_option maxRecDepth 100000
set_option maxHeartbeats 0
section
namespace Go.Tk
open IntKind (i64 u8 u32 u64 wrap)
structure Zc.Okb (m:Zc):Prop where
 ok:m.Ok
 hb:Bytes m.o.hash
theorem ZnW (a b:Zc) (r:Bool) (ha:a.Okb) (hb:b.Okb) (hr:r=ltM a b):
  evF (G0.withP 204 Zee) 20 205 [.agg a.c,.agg b.c] ⟨0,[]⟩ (XI (fun v=>v=.bool r)):=by
 refine @Eq.mpr _ (let q1:=a.o;let q2:=q1.amount;let q3:=b.o;let q4:=q3.amount;let q5:=AV.bool r;let q6:=q1.kind;let q7:=q3.kind;let q8:=q1.expiry;let q9:=q3.expiry;let q10:=q1.hash;let q11:=q3.hash;let q12:=X4 q10 q11;
 Z0 (q2 !=q4) (AV.bool (decide (q2<q4))=q5) (Z0 (q6 !=q7) (AV.bool (decide (q6<q7))=q5) (Z0 (q8 !=q9) (AV.bool (decide (q8<q9))=q5) ((List.length q10=32/\List.length q11=32)/\Bytes q10/\Bytes q11/\Z0 (q12 !=0) (AV.bool (decide (q12<0))=q5) (AV.bool (decide (a.id<b.id))=q5))))) (by kernel_rfl) ?_
 conv=>zeta
 try simp only [Z8]
 try simp only [Ze]
 try simp only [Za]
 try simp only [Zf]
 try simp only [Zg]
 try simp only [Z9]
 try simp only [Y_s]
 have h4:=Z4X (ha.ok.hash.trans hb.ok.hash.symm)
 have k1:=ha.ok.hash
 have k2:=hb.ok.hash
 have k3:=ha.hb
 have k4:=hb.hb
 subst hr
 unfold ltM
 generalize X4 a.o.hash b.o.hash=c4 at*
 generalize X7 a.o.hash=v1 at*
 generalize X7 b.o.hash=v2 at*
 refine ⟨fun h1=> ?_,fun h1=>⟨fun h2=> ?_,fun h2=>⟨fun h3=> ?_,fun h3=>⟨⟨k1,k2⟩,k3,k4,fun h5=> ?_,fun h5=> ?_⟩⟩⟩⟩
 all_goals
  simp only [bne_iff_ne,ne_eq,bne_eq_false_iff_eq] at*
  congr 1
  rw [decide_eq_decide]
  omega
def Zeo:ZG:=fun args _ K=>match args with
 | [.agg ca,.agg cb]=>∃a b,ca=Zc.c a/\cb=Zc.c b/\(a.Okb/\b.Okb)/\K (.bool (ltM a b))
 | _=>False
theorem Zep (args:List AV) (h:Z6) (K:AV->Prop) (hl:Zeo args h K):Zi PP 205 args h fun o h'=>∃v,o=.ret v/\h'=h/\K v:=by
 unfold Zeo at hl
 split at hl
 ·obtain ⟨a,b,rfl,rfl,⟨h1,h2⟩,hK⟩:=hl
  exact Yu (Zh.withP_ok Zp Za4) rfl (ZnW a b _ h1 h2 rfl) (fun u hu=>hu▸hK)
 ·exact hl.elim
def Wt (m:Zc) (s:List Zc×Bool) (x:Zc):List Zc×Bool:=match !s.2&&ltM m x with
 | true=>(s.1++[m]++[x],true)
 | false=>(s.1++[x],s.2)
def puN (m:Zc) (L:List Zc) (i:Nat):List Zc×Bool:=(L.take i).foldl (Wt m) ([],false)
def Zaa (m:Zc) (s:List Zc×Bool):List Zc:=match s.2 with
 | true=>s.1
 | false=>s.1++[m]
theorem Z7k (m:Zc) (L:List Zc) {i:Nat} (hi:i<L.length):puN m L (i+1)=Wt m (puN m L i) (L.getD i Yk):=by
 unfold puN
 rw [List.take_succ_eq_append_getElem hi,List.foldl_append,List.getD_eq_getElem?_getD,List.getElem?_eq_getElem hi]
 rfl
theorem Z7l (m:Zc):∀(L O:List Zc),L.foldl (Wt m) (O,true)=(O++L,true)
 | [],O=>by simp
 | x::r,O=>by
  rw [List.foldl_cons]
  show List.foldl (Wt m) (O++[x],true) r=_
  rw [Z7l m r];simp
theorem Zab (m:Zc):∀(L O:List Zc),Zaa m (L.foldl (Wt m) (O,false))=O++Xb ltM m L
 | [],O=>rfl
 | x::r,O=>by
  rw [List.foldl_cons]
  unfold Xb
  cases h:ltM m x with
  | true=>
   have:Wt m (O,false) x=(O++[m]++[x],true):=by unfold Wt;rw [h];rfl
   rw [this,Z7l]
   simp [Zaa]
  | false=>
   have:Wt m (O,false) x=(O++[x],false):=by unfold Wt;rw [h];rfl
   rw [this,Zab m r]
   simp
theorem Zhb (m:Zc) (L:List Zc):Zaa m (puN m L L.length)=Xb ltM m L:=by
 unfold puN
 rw [List.take_length,Zab];rfl
theorem Zkl {O P:List Zc} {c i:Nat} (hc:O.length=c):ZE c (Zn O) (Zn P) i=Zn (O++P) i:=by
 unfold Zn
 rcases Nat.lt_or_ge i c with h|h
 ·rw [Z24 h,List.getD_eq_getElem?_getD,List.getD_eq_getElem?_getD,List.getElem?_append_left (by omega)]
 ·rw [Vh h,List.getD_eq_getElem?_getD,List.getD_eq_getElem?_getD,List.getElem?_append_right (by omega),hc]
theorem Z5X (m:Zc) (L:List Zc):∀i,i<=L.length->(puN m L i).1.length<=i+1/\((puN m L i).2=false->(puN m L i).1.length=i)
 | 0,_=>by simp [puN]
 | i+1,h=>by
  obtain ⟨h1,h2⟩:=Z5X m L i (by omega)
  rw [Z7k m L (by omega)]
  unfold Wt
  cases hd:(puN m L i).2 with
  | true=>simp;omega
  | false=>
   have:=h2 hd
   cases ltM m (L.getD i Yk)<;>simp<;>omega
def puS (n:Nat) (L:List Zc) (m:Zc) (i c:Nat) (D:Bool) (O:List Zc):St:=⟨42,[(7,.int .i64 i),(0,.vrows 134 n (Zn L) n),(6,.bool D),(3,.ptr (some ⟨0,0,0,0,0⟩)),(5,.nslice ⟨1,0,134,0,0⟩ 134 c c)],⟨2,[(0,.flat m.c),(1,.rows 134 c (Zn O))]⟩,[]⟩
def puE (m:Zc) (c:Nat) (D:Bool) (O:List Zc):St:=⟨42,[(6,.bool D),(3,.ptr (some ⟨0,0,0,0,0⟩)),(5,.nslice ⟨1,0,134,0,0⟩ 134 c c)],⟨2,[(0,.flat m.c),(1,.rows 134 c (Zn O))]⟩,[]⟩
noncomputable def E84:Zh:=G0.withP 205 Zeo
theorem ZjI:E84.Ok:=Zh.withP_ok Zp Zep
theorem Wa {f:Nat->List AV} {O:List Zc} {x:Zc} {c i:Nat} (hc:O.length=c) (hf:∀i,i<c->f i=Zn O i) (hi:i<c+1):ZE c f (ZT (Zc.c x) 0 134) i=Zn (O++[x]) i:=by
 rcases Nat.lt_or_ge i c with h|h
 ·rw [Z24 h,hf i h]
  unfold Zn
  rw [List.getD_eq_getElem?_getD,List.getD_eq_getElem?_getD,List.getElem?_append_left (by omega)]
 ·have e:i=c:=by omega
  subst e
  rw [Vh (Nat.le_refl _),Nat.sub_self]
  unfold Zn
  rw [List.getD_eq_getElem?_getD,List.getElem?_append_right (by omega),hc,Nat.sub_self]
  rfl
theorem ZnX (n i c c1:Nat) (L O O1:List Zc) (m:Zc) (D D1:Bool) (Z1 Z2:Prop) (hn:n<1000) (hL:L.length=n) (hi:i<=n) (hO:O.length=c) (hci:c<=i+1) (hm:m.Okb) (hok:∀x∈L,x.Okb) (h1:i<n->Wt m (O,D) (L.getD i Yk)=(O1,D1)) (hc1:c1=O1.length) (hZ1:i<n->Z1) (hZ2:i=n->Z2):
  ZM E84 20 122 0 0 (puS n L m i c D O) (rdM 0 0 9 (puS n L m (i+1) c1 D1 O1) (puE m c D O) (puE m c D O) (puE m c D O) Z1 Z2 False False):=by
 refine @Eq.mpr _ (let q1:=decide (0<=(↑i:Int)/\(↑i:Int)<(↑n:Int));let q2:=m.o;let q3:=q2.kind;let q4:=q2.amount;let q5:=q2.owner;let q6:=q2.other;let q7:=q2.point;let q8:=q2.hash;let q9:=q2.delay;let q10:=q2.expiry;let q11:=m.id;let q12:=m.what;let q13:=[AV.int i64 q3,AV.int i64 q4,AV.arr u8 32 q5,AV.arr u8 32 q6,AV.arr u8 32 q7,AV.arr u8 32 q8,AV.int i64 q9,AV.int i64 q10,AV.int i64 q11,AV.int i64 q12];let q14:=List.getD L (Int.toNat (↑i:Int)) Yk;let q15:=q14.o;let q16:=[AV.int i64 q15.kind,AV.int i64 q15.amount,AV.arr u8 32 q15.owner,AV.arr u8 32 q15.other,AV.arr u8 32 q15.point,AV.arr u8 32 q15.hash,AV.int i64 q15.delay,AV.int i64 q15.expiry,AV.int i64 q14.id,AV.int i64 q14.what];let q17:=decide (c=c);let q18:=c+1;let q19:=decide (q18*176<=140737488355328);let q20:=q18+1;let q21:=decide (wrap i64 ((↑i:Int)+1)=(↑(i+1):Int));let q22:=decide (n=n);let q23:=Zn L=Zn L;let q24:=decide (q20=c1);let q25:=decide (q3=q3);let q26:=decide (q4=q4);let q27:=q5=q5;let q28:=q6=q6;let q29:=q7=q7;let q30:=q8=q8;let q31:=decide (q9=q9);let q32:=decide (q10=q10);let q33:=decide (q11=q11);let q34:=decide (q12=q12);let q35:=[(0,0)];let q36:=Zn O;let q37:=ZT q16 0 134;let q38:=decide (q18=c1);let q39:=Z0 q1 (Z0 q17 (Z0 q19 (Z0 q21 (Z0 q22 (q23/\Z0 q22 (Z0 (decide (D=D1)) (Z0 q38 (Z0 (decide (c1<=q18)) (Z0 q25 (Z0 q26 (q27/\q28/\q29/\q30/\Z0 q31 (Z0 q32 (Z0 q33 (Z0 q34 (Z0 q38 (Zr 0 ((1,3)::q35) c1 (Zn O1) (ZE c q36 q37)/\Z1) False) False) False) False) False) False) False) False) False) False) False) False) False) False) False) False;
 Z0 (decide ((↑i:Int)<(↑n:Int))) (Z0 (!D) (Z0 q1 (∃(a:Zc),∃(b:Zc),q13=Zc.c a/\q16=Zc.c b/\(Zc.Okb a/\Zc.Okb b)/\Z0 (ltM a b) (Z0 q17 (Z0 q19 (Z0 q1 (Z0 (decide (q18=q18)) (Z0 (decide (q20*176<=140737488355328)) (Z0 q21 (Z0 q22 (q23/\Z0 q22 (Z0 (decide (true=D1)) (Z0 q24 (Z0 (decide (c1<=q20)) (Z0 q25 (Z0 q26 (q27/\q28/\q29/\q30/\Z0 q31 (Z0 q32 (Z0 q33 (Z0 q34 (Z0 q24 (Zr 0 ((1,5)::q35) c1 (Zn O1) (ZE q18 (ZE c q36 (ZT q13 0 134)) q37)/\Z1) False) False) False) False) False) False) False) False) False) False) False) False) False) False) False) False) False) False) q39) False) q39) (Z0 (decide (D=D)) (Z0 q17 (Z0 (decide (c<=c)) (Z0 q25 (Z0 q26 (q27/\q28/\q29/\q30/\Z0 q31 (Z0 q32 (Z0 q33 (Z0 q34 (Z0 q17 (Zr 0 ((1,1)::q35) c q36 q36/\Z2) False) False) False) False) False) False) False) False) False) False)) (by kernel_rfl) ?_
 conv=>zeta
 try simp only [Z8]
 try simp only [Ze]
 try simp only [Za]
 try simp only [Zf]
 try simp only [Zg]
 try simp only [Z9]
 try simp only [Y_s]
 refine ⟨fun hc=> ?_,fun hc=>⟨Yd fun _ _=>rfl,hZ2 (by omega)⟩⟩
 have hlt:i<n:=by omega
 have h1:=h1 hlt
 have hwr:i64.wrap ((i:Int)+1)=((i+1:Nat):Int):=by rw [w64 (by omega)];omega
 have hx:(L.getD i Yk).Okb:=hok _ (by rw [List.getD_eq_getElem?_getD,List.getElem?_eq_getElem (show i<L.length by omega)];exact List.getElem_mem _)
 generalize L.getD i Yk=x at*
 unfold Wt at h1
 refine ⟨fun hD=> ?_,fun hD=> ?_⟩
 ·have hD:D=false:=by simpa using hD
  refine ⟨by omega,m,x,rfl,rfl,⟨hm,hx⟩,fun hlt=> ?_,fun hlt=> ?_⟩
  ·rw [hD,hlt] at h1
   simp only [Bool.not_false,Bool.and_self,Prod.mk.injEq] at h1
   obtain ⟨h1,h2⟩:=h1
   subst h1 h2
   have hl:c1=c+1+1:=by rw [hc1];simp [hO]
   subst hl
   refine ⟨by omega,by omega,by omega,hwr,rfl,rfl,Nat.le_refl _,rfl,Yd fun j hj=> ?_,hZ1 (by omega)⟩
   exact Wa (by simp [hO]) (fun k hk=>Wa hO (fun _ _=>rfl) hk) hj
  ·rw [hD,hlt] at h1
   simp only [Bool.not_false,Bool.and_false,Prod.mk.injEq] at h1
   obtain ⟨h1,h2⟩:=h1
   subst h1 h2
   have hl:c1=c+1:=by rw [hc1];simp [hO]
   subst hl
   exact ⟨by omega,by omega,hwr,hD,rfl,Nat.le_refl _,rfl,Yd fun j hj=>Wa hO (fun _ _=>rfl) hj,hZ1 (by omega)⟩
 ·have hD:D=true:=by simpa using hD
  rw [hD] at h1
  simp only [Bool.not_true,Bool.false_and,Prod.mk.injEq] at h1
  obtain ⟨h1,h2⟩:=h1
  subst h1 h2
  have hl:c1=c+1:=by rw [hc1];simp [hO]
  subst hl
  exact ⟨by omega,by omega,hwr,hD,rfl,Nat.le_refl _,rfl,Yd fun j hj=>Wa hO (fun _ _=>rfl) hj,hZ1 (by omega)⟩
structure Z8T (n:Nat) (L:List Zc) (m:Zc):Prop where
 hn:n<1000
 hl:L.length=n
 hm:m.Okb
 ok:∀x∈L,x.Okb
noncomputable def ZlX (n:Nat) (L:List Zc) (m:Zc):Zh:=E84.withL 122 0 (goM 0 (puS n L m 0 0 false []) (Z8T n L m) (YB 0 n 9 (fun i=>i<n) (fun i=>i=n) (fun _=>False) (fun _=>False) (fun i=>puE m (puN m L i).1.length (puN m L i).2 (puN m L i).1) (fun i=>puE m (puN m L i).1.length (puN m L i).2 (puN m L i).1) (fun i=>puE m (puN m L i).1.length (puN m L i).2 (puN m L i).1)))
theorem Zhc (n:Nat) (L:List Zc) (m:Zc):(ZlX n L m).Ok:=
 Zh.withGoM (N:=20) (S:=fun i=>puS n L m i (puN m L i).1.length (puN m L i).2 (puN m L i).1) ZjI (by kernel_rfl) fun hC=>⟨rfl,fun i hi _=>by
  obtain ⟨h1,h2,h3,h4⟩:=hC
  exact ZnX n i _ _ L _ _ m _ _ (i<n/\i<n) (i=n) h1 h2 hi rfl (Z5X m L i (by omega)).1 h3 h4 (fun hlt=>by rw [Z7k m L (by omega)]) rfl (fun h=>⟨h,h⟩) (fun h=>h)⟩
theorem ZnY (n:Nat) (L L1:List Zc) (m:Zc) (h:Z8T n L m) (hL1:L1=Xb ltM m L):
  evF (ZlX n L m) 20 122 [.vrows 134 n (Zn L) n,.agg m.c] ⟨0,[]⟩ (ZL 0 (.ret (.nslice ⟨0,0,134,0,0⟩ 134 (n+1) (n+1))) 1 [(0,.rows 134 (n+1) (Zn L1))]):=by
 refine @Eq.mpr _ (let q1:=decide (n=n);let q2:=m.o;let q3:=q2.kind;let q4:=q2.amount;let q5:=q2.owner;let q6:=q2.other;let q7:=q2.point;let q8:=q2.hash;let q9:=q2.delay;let q10:=q2.expiry;let q11:=m.id;let q12:=m.what;let q13:=n+1;
 Z0 q1
 (Zn L=Zn L/\
 Z0 q1
 (Z0 (decide (q3=q3))
 (Z0 (decide (q4=q4))
 (q5=q5/\
 q6=q6/\
 q7=q7/\
 q8=q8/\
 Z0 (decide (q9=q9))
 (Z0 (decide (q10=q10))
 (Z0 (decide (q11=q11))
 (Z0 (decide (q12=q12))
 (Z8T n L m/\
 ∀(i:Nat),
 let q27:=(puN m L i).fst;let q28:=List.length q27;let q29:=q28+1;let q30:=decide (q29=q13);let q31:=Zn q27;let q32:=decide (q28=q13);
 i<=n->(∀(j:Nat),j<i->(fun (i:Nat)=>i<n) j)->(i=n->Z0 (!(puN m L i).snd) (Z0 (decide (q28=q28)) (Z0 (decide (q29*176<=140737488355328)) (Z0 q30 (Z0 (decide (q13<=q29)) (Z0 q30 (Zr 0 [(0,3)] q13 (Zn L1) (ZE q28 q31 (ZT [AV.int i64 q3,AV.int i64 q4,AV.arr u8 32 q5,AV.arr u8 32 q6,AV.arr u8 32 q7,AV.arr u8 32 q8,AV.int i64 q9,AV.int i64 q10,AV.int i64 q11,AV.int i64 q12] 0 134))/\True) False) False) False) False) False) (Z0 q32 (Z0 (decide (q13<=q28)) (Z0 q32 (Zr 0 [(0,1)] q13 (Zn L1) q31/\True) False) False) False))/\(False->False)/\(False->False))
 False)
 False)
 False)
 False)
 False)
 False)
 False)
 False) (by kernel_rfl) ?_
 conv=>zeta
 try simp only [Z8]
 try simp only [Ze]
 try simp only [Za]
 try simp only [Zf]
 try simp only [Zg]
 try simp only [Z9]
 try simp only [Y_s]
 refine ⟨h,fun i hi _=>⟨fun he=> ?_,fun h=>h.elim,fun h=>h.elim⟩⟩
 subst he
 have hfin:=Zhb m L
 obtain ⟨g1,g2⟩:=Z5X m L i (by rw [h.hl];exact Nat.le_refl _)
 rw [h.hl] at hfin
 have hn:=h.hn
 have hl1:L1.length=i+1:=by rw [hL1,Z3E,h.hl]
 unfold Zaa at hfin
 refine ⟨fun hD=> ?_,fun hD=> ?_⟩
 ·have hD:(puN m L i).2=false:=by simpa using hD
  rw [hD] at hfin
  simp only at hfin
  have hl:=g2 hD
  exact ⟨by omega,by omega,by omega,by omega,Yd fun j hj=>by rw [hL1,<-hfin];exact Wa rfl (fun _ _=>rfl) (by omega)⟩
 ·have hD:(puN m L i).2=true:=by simpa using hD
  rw [hD] at hfin
  simp only at hfin
  rw [hfin]
  rw [hL1] at hl1
  exact ⟨by omega,by omega,by omega,Yd fun j hj=>by rw [hL1]⟩
theorem ZnZ (m:Zc) (L1:List Zc) (hL:L1=[m]):
  evF G0 20 122 [.nilslice,.agg m.c] ⟨0,[]⟩ (ZL 0 (.ret (.nslice ⟨0,0,134,0,0⟩ 134 1 1)) 1 [(0,.rows 134 1 (Zn L1))]):=by
 refine @Eq.mpr _ (let q1:=m.o;
 Zr 0 [(0,2)] 1 (Zn L1) (ZE 0 (fun (x:Nat)=>[]) (ZT [AV.int i64 q1.kind,AV.int i64 q1.amount,AV.arr u8 32 q1.owner,AV.arr u8 32 q1.other,AV.arr u8 32 q1.point,AV.arr u8 32 q1.hash,AV.int i64 q1.delay,AV.int i64 q1.expiry,AV.int i64 m.id,AV.int i64 m.what] 0 134))/\True) (by kernel_rfl) ?_
 conv=>zeta
 try simp only [Z8]
 try simp only [Ze]
 try simp only [Za]
 try simp only [Zf]
 try simp only [Zg]
 try simp only [Z9]
 try simp only [Y_s]
 refine Yd fun i hi=> ?_
 subst hL
 have e:i=0:=by omega
 subst e
 rfl
def puF:ZR:=fun args h K=>ZH none h true 20 args fun a=>match a with
 | [.nilslice,.agg cm]=>∃m,cm=Zc.c m/\K (.ret (.nslice ⟨h.next,0,134,0,0⟩ 134 1 1)) ⟨h.next+1,(h.next,.rows 134 1 (Zn (Xb ltM m [])))::h.bs⟩
 | [.vrows 134 n f n',.agg cm]=>∃L m,n'=n/\f=Zn L/\cm=Zc.c m/\Z8T n L m/\K (.ret (.nslice ⟨h.next,0,134,0,0⟩ 134 (n+1) (n+1))) ⟨h.next+1,(h.next,.rows 134 (n+1) (Zn (Xb ltM m L)))::h.bs⟩
 | _=>False
theorem ZjJ (args:List AV) (h:Z6) (K:KO) (hl:puF args h K):Zi PP 122 args h K:=by
 refine Zy.fsumm (d:=20) (Zm _ _ _ _ _ hl fun a ha=> ?_)
 split at ha
 ·obtain ⟨m,rfl,hK⟩:=ha
  exact ⟨_,_,_,_,.evM Zp (ZnZ m _ rfl),rfl,⟨Nat.one_pos,.rows _ _ _ (fun i _=>Xo _ i),trivial⟩,hK⟩
 ·obtain ⟨L,m,rfl,rfl,rfl,hp,hK⟩:=ha
  exact ⟨_,_,_,_,.evM (Zhc _ L m) (ZnY _ L _ m hp rfl),rfl,⟨Nat.one_pos,.rows _ _ _ (fun i _=>Xo _ i),trivial⟩,hK⟩
 ·exact ha.elim
def Z0h (t:Zo):InS:=⟨t.fund,t.index,1,Z5,Z5,Z5⟩
def Y3 (L:List Zc):Nat->ZK:=fun i=>(L.getD i Yk).o
def txZ:List AV:=[.int .i64 0,.nilslice,.nilslice]
def mxH (t:Zo) (num:Int) (L:List Zc) (i:Nat):Z6:=⟨4,[(0,.flat txZ),(1,.flat (InS.c (Z0h t))),(2,.flat [.int .i64 num,.nslice ⟨1,0,0,0,0⟩ 130 1 1,.nslice ⟨3,0,132,0,0⟩ 132 i i]),(3,.rows 132 i (Zj (Y3 L)))]⟩
def mxS (t:Zo) (num:Int) (L:List Zc) (n i:Nat):St:=⟨40,[(27,.int .i64 i),(26,.int .i64 n),(25,.vrows 134 n (Zn L) n),(8,.ptr (some ⟨2,0,0,0,0⟩)),(6,.ptr (some ⟨0,0,0,0,0⟩))],mxH t num L i,[]⟩
def mxE (t:Zo) (num:Int) (L:List Zc) (i:Nat):St:=⟨40,[(8,.ptr (some ⟨2,0,0,0,0⟩)),(6,.ptr (some ⟨0,0,0,0,0⟩))],mxH t num L i,[]⟩
def Zhd (t:Zo) (num:Int) (L:List Zc) (n i:Nat):St:=⟨39,[(9,.int .i64 i),(2,.vrows 134 n (Zn L) n),(8,.ptr (some ⟨2,0,0,0,0⟩)),(6,.ptr (some ⟨0,0,0,0,0⟩))],mxH t num L i,[]⟩
def ZbN (t:Zo) (num:Int) (L:List Zc) (i:Nat):St:=⟨39,[(8,.ptr (some ⟨2,0,0,0,0⟩)),(6,.ptr (some ⟨0,0,0,0,0⟩))],mxH t num L i,[]⟩
theorem Z3G {L:List Zc} {i j:Nat} (hj:j<i+1):ZE i (Zj (Y3 L)) (ZT (ZK.c (L.getD i Yk).o) 0 132) j=(Y3 L j).c:=by
 rcases Nat.lt_or_ge j i with h|h
 ·rw [Z24 h];rfl
 ·have e:j=i:=by omega
  subst e
  rw [Vh (Nat.le_refl _),Nat.sub_self]
  rfl
theorem Zo0 (t:Zo) (num:Int) (L:List Zc) (n i:Nat) (Z1 Z2:Prop) (hn:n<1000) (hi:i<=n) (h1:i<n->Z1) (h2:i=n->Z2):
  ZM G0 20 87 0 0 (mxS t num L n i) (rdM 0 0 9 (mxS t num L n (i+1)) (mxE t num L i) (mxE t num L i) (mxE t num L i) Z1 Z2 False False):=by
 refine @Eq.mpr _ (let q1:=decide (i=i);let q2:=i+1;let q3:=decide (n=n);let q4:=Z0h t;let q5:=q4.name;let q6:=q5=q5;let q7:=q4.index;let q8:=decide (q7=q7);let q9:=q4.tag;let q10:=q9=q9;let q11:=q4.also;let q12:=q11=q11;let q13:=q4.secret;let q14:=q13=q13;let q15:=decide (num=num);let q16:=decide (q2=q2);let q17:=[(1,1),(0,0),(2,2)];let q18:=Zj (Y3 L);let q19:=(List.getD L (Int.toNat (↑i:Int)) Yk).o;
 Z0 (decide ((↑i:Int)<(↑n:Int))) (Z0 (decide (0<=(↑i:Int)/\(↑i:Int)<(↑n:Int))) (Z0 q1 (Z0 (decide (q2*160<=140737488355328)) (Z0 (decide (wrap i64 ((↑i:Int)+1)=(↑q2:Int))) (Z0 (decide ((↑n:Int)=(↑n:Int))) (Z0 q3 (Zn L=Zn L/\Z0 q3 (q6/\Z0 q8 (q10/\q12/\q14/\Z0 q15 (Z0 q16 (Z0 (decide (q2<=q2)) (Z0 q16 (Zr 0 ((3,6)::q17) q2 q18 (ZE i q18 (ZT [AV.int i64 q19.kind,AV.int i64 q19.amount,AV.arr u8 32 q19.owner,AV.arr u8 32 q19.other,AV.arr u8 32 q19.point,AV.arr u8 32 q19.hash,AV.int i64 q19.delay,AV.int i64 q19.expiry] 0 132))/\Z1) False) False) False) False) False) False) False) False) False) False) False) False) (q6/\Z0 q8 (q10/\q12/\q14/\Z0 q15 (Z0 q1 (Z0 (decide (i<=i)) (Z0 q1 (Zr 0 ((3,3)::q17) i q18 q18/\Z2) False) False) False) False) False)) (by kernel_rfl) ?_
 conv=>zeta
 try simp only [Z8]
 try simp only [Ze]
 try simp only [Za]
 try simp only [Zf]
 try simp only [Zg]
 try simp only [Z9]
 try simp only [Y_s]
 refine ⟨fun hc=> ?_,fun hc=>⟨ZP fun _ _=>rfl,h2 (by omega)⟩⟩
 exact ⟨by omega,by omega,by rw [w64 (by omega)];omega,ZP fun j hj=>Z3G hj,h1 (by omega)⟩
theorem ZlY (t:Zo) (num:Int) (L:List Zc) (n i:Nat) (Z1 Z2:Prop) (hn:n<1000) (hi:i<=n) (h1:i<n->Z1) (h2:i=n->Z2):
  ZM G0 20 123 0 0 (Zhd t num L n i) (rdM 0 0 9 (Zhd t num L n (i+1)) (ZbN t num L i) (ZbN t num L i) (ZbN t num L i) Z1 Z2 False False):=by
 refine @Eq.mpr _ (let q1:=decide (i=i);let q2:=i+1;let q3:=decide (n=n);let q4:=Z0h t;let q5:=q4.name;let q6:=q5=q5;let q7:=q4.index;let q8:=decide (q7=q7);let q9:=q4.tag;let q10:=q9=q9;let q11:=q4.also;let q12:=q11=q11;let q13:=q4.secret;let q14:=q13=q13;let q15:=decide (num=num);let q16:=decide (q2=q2);let q17:=[(1,1),(0,0),(2,2)];let q18:=Zj (Y3 L);let q19:=(List.getD L (Int.toNat (↑i:Int)) Yk).o;
 Z0 (decide ((↑i:Int)<(↑n:Int))) (Z0 (decide (0<=(↑i:Int)/\(↑i:Int)<(↑n:Int))) (Z0 q1 (Z0 q1 (Z0 q1 (Z0 (decide (q2*160<=140737488355328)) (Z0 (decide (wrap i64 ((↑i:Int)+1)=(↑q2:Int))) (Z0 q3 (Zn L=Zn L/\Z0 q3 (q6/\Z0 q8 (q10/\q12/\q14/\Z0 q15 (Z0 q16 (Z0 (decide (q2<=q2)) (Z0 q16 (Zr 0 ((3,5)::q17) q2 q18 (ZE i q18 (ZT [AV.int i64 q19.kind,AV.int i64 q19.amount,AV.arr u8 32 q19.owner,AV.arr u8 32 q19.other,AV.arr u8 32 q19.point,AV.arr u8 32 q19.hash,AV.int i64 q19.delay,AV.int i64 q19.expiry] 0 132))/\Z1) False) False) False) False) False) False) False) False) False) False) False) False) False) (q6/\Z0 q8 (q10/\q12/\q14/\Z0 q15 (Z0 q1 (Z0 (decide (i<=i)) (Z0 q1 (Zr 0 ((3,3)::q17) i q18 q18/\Z2) False) False) False) False) False)) (by kernel_rfl) ?_
 conv=>zeta
 try simp only [Z8]
 try simp only [Ze]
 try simp only [Za]
 try simp only [Zf]
 try simp only [Zg]
 try simp only [Z9]
 try simp only [Y_s]
 refine ⟨fun hc=> ?_,fun hc=>⟨ZP fun _ _=>rfl,h2 (by omega)⟩⟩
 exact ⟨by omega,by omega,by rw [w64 (by omega)];omega,ZP fun j hj=>Z3G hj,h1 (by omega)⟩
noncomputable def E85 (t:Zo) (num:Int) (L:List Zc) (n:Nat):Zh:=G0.withL 87 0 (goM 0 (mxS t num L n 0) (n<1000) (YB 0 n 9 (fun i=>i<n) (fun i=>i=n) (fun _=>False) (fun _=>False) (fun i=>mxE t num L i) (fun i=>mxE t num L i) (fun i=>mxE t num L i)))
theorem ZjK (t:Zo) (num:Int) (L:List Zc) (n:Nat):(E85 t num L n).Ok:=
 Zh.withGoM (N:=20) (S:=fun i=>mxS t num L n i) Zp (by kernel_rfl) fun hC=>⟨rfl,fun i hi _=>Zo0 t num L n i _ _ hC hi (fun h=>⟨h,h⟩) (fun h=>h)⟩
noncomputable def ZlZ (t:Zo) (num:Int) (L:List Zc) (n:Nat):Zh:=G0.withL 123 0 (goM 0 (Zhd t num L n 0) (n<1000) (YB 0 n 9 (fun i=>i<n) (fun i=>i=n) (fun _=>False) (fun _=>False) (fun i=>ZbN t num L i) (fun i=>ZbN t num L i) (fun i=>ZbN t num L i)))
theorem Zhe (t:Zo) (num:Int) (L:List Zc) (n:Nat):(ZlZ t num L n).Ok:=
 Zh.withGoM (N:=20) (S:=fun i=>Zhd t num L n i) Zp (by kernel_rfl) fun hC=>⟨rfl,fun i hi _=>ZlY t num L n i _ _ hC hi (fun h=>⟨h,h⟩) (fun h=>h)⟩
theorem Zo1 (t:Zo) (num:Int) (L:List Zc) (n:Nat) (hn:n<1000) (h0:n≠0):
  evF (E85 t num L n) 20 87 [.agg t.c,.int .i64 num,.vrows 134 n (Zn L) n] ⟨0,[]⟩ (ZL 0 (.ret (.tuple [.agg [.int .i64 num,.nslice ⟨0,0,0,0,0⟩ 130 1 1,.nslice ⟨1,0,132,0,0⟩ 132 n n],.int .i64 0])) 2 [(0,.flat (InS.c (Z0h t))),(1,.rows 132 n (Zj (Y3 L)))]):=by
 refine @Eq.mpr _ (let q1:=decide (n=n);let q2:=Z0h t;let q3:=q2.name;let q4:=q2.index;let q5:=q2.tag;let q6:=q2.also;let q7:=q2.secret;let q8:=decide (num=num);let q9:=Zj (Y3 L);
 Z0 ((↑n:Int)==0) (Z0 (decide (0=num)) False False)
 (Z0 (decide ((↑n:Int)=(↑n:Int)))
 (Z0 q1
 (Zn L=Zn L/\
 Z0 q1
 (t.fund=q3/\
 Z0 (decide (t.index=q4))
 (Z5=q5/\
 Z5=q6/\
 Z5=q7/\
 Z0 q8
 (n<1000/\
 ∀(i:Nat),
 let q19:=decide (i=n);
 i<=n->(∀(j:Nat),j<i->(fun (i:Nat)=>i<n) j)->(i=n->Z0 q8 (Z0 q19 (Z0 (decide (n<=i)) (q3=q3/\Z0 (decide (q4=q4)) (q5=q5/\q6=q6/\q7=q7/\Z0 q19 (Zr 0 [(1,3),(0,1)] n q9 q9/\True) False) False) False) False) False)/\(False->False)/\(False->False))
 False)
 False)
 False)
 False)
 False)) (by kernel_rfl) ?_
 conv=>zeta
 try simp only [Z8]
 try simp only [Ze]
 try simp only [Za]
 try simp only [Zf]
 try simp only [Zg]
 try simp only [Z9]
 try simp only [Y_s]
 refine ⟨fun h=> ?_,fun _=>⟨rfl,rfl,rfl,rfl,rfl,hn,fun i hi _=>⟨fun he=> ?_,fun h=>h.elim,fun h=>h.elim⟩⟩⟩
 ·have:(n:Int)=0:=by simpa using h
  omega
 ·subst he
  exact ⟨rfl,Nat.le_refl _,rfl,ZP fun _ _=>rfl⟩
theorem Zo2 (t:Zo) (num:Int):
  evF G0 20 87 [.agg t.c,.int .i64 num,.nilslice] ⟨0,[]⟩ (ZL 0 (.ret (.tuple [.agg txZ,.int .i64 180])) 0 []):=by
 refine @Eq.mpr _ (True) (by kernel_rfl) ?_
 trivial
theorem Zm0 (t:Zo) (num:Int) (L:List Zc) (n:Nat) (hn:n<1000) (h0:n≠0):
  evF (ZlZ t num L n) 20 123 [.agg t.c,.int .i64 num,.vrows 134 n (Zn L) n] ⟨0,[]⟩ (ZL 0 (.ret (.tuple [.agg [.int .i64 num,.nslice ⟨0,0,0,0,0⟩ 130 1 1,.nslice ⟨1,0,132,0,0⟩ 132 n n],.int .i64 0])) 2 [(0,.flat (InS.c (Z0h t))),(1,.rows 132 n (Zj (Y3 L)))]):=by
 refine @Eq.mpr _ (let q1:=decide (n=n);let q2:=Z0h t;let q3:=q2.name;let q4:=q2.index;let q5:=q2.tag;let q6:=q2.also;let q7:=q2.secret;let q8:=decide (num=num);let q9:=Zj (Y3 L);
 Z0 ((↑n:Int)==0) (Z0 (decide (0=num)) False False)
 (Z0 q1
 (Zn L=Zn L/\
 Z0 q1
 (t.fund=q3/\
 Z0 (decide (t.index=q4))
 (Z5=q5/\
 Z5=q6/\
 Z5=q7/\
 Z0 q8
 (n<1000/\
 ∀(i:Nat),
 let q19:=decide (i=n);
 i<=n->(∀(j:Nat),j<i->(fun (i:Nat)=>i<n) j)->(i=n->Z0 q8 (Z0 q19 (Z0 (decide (n<=i)) (q3=q3/\Z0 (decide (q4=q4)) (q5=q5/\q6=q6/\q7=q7/\Z0 q19 (Zr 0 [(1,3),(0,1)] n q9 q9/\True) False) False) False) False) False)/\(False->False)/\(False->False))
 False)
 False)
 False)
 False)) (by kernel_rfl) ?_
 conv=>zeta
 try simp only [Z8]
 try simp only [Ze]
 try simp only [Za]
 try simp only [Zf]
 try simp only [Zg]
 try simp only [Z9]
 try simp only [Y_s]
 refine ⟨fun h=> ?_,fun _=>⟨rfl,rfl,rfl,rfl,rfl,hn,fun i hi _=>⟨fun he=> ?_,fun h=>h.elim,fun h=>h.elim⟩⟩⟩
 ·have:(n:Int)=0:=by simpa using h
  omega
 ·subst he
  exact ⟨rfl,Nat.le_refl _,rfl,ZP fun _ _=>rfl⟩
theorem Zm1 (t:Zo) (num:Int):
  evF G0 20 123 [.agg t.c,.int .i64 num,.nilslice] ⟨0,[]⟩ (ZL 0 (.ret (.tuple [.agg txZ,.int .i64 180])) 0 []):=by
 refine @Eq.mpr _ (True) (by kernel_rfl) ?_
 trivial
def mxF:ZR:=fun args h K=>ZH none h true 20 args fun a=>match a with
 | [.agg [.arr .u8 32 fu,.int .i64 ix,.int .i64 ca,.int .i64 du,.int .i64 fe,.int .i64 de,.arr .u8 32 k0,.arr .u8 32 k1],.int .i64 num,.nilslice]=>K (.ret (.tuple [.agg txZ,.int .i64 180])) h
 | [.agg [.arr .u8 32 fu,.int .i64 ix,.int .i64 ca,.int .i64 du,.int .i64 fe,.int .i64 de,.arr .u8 32 k0,.arr .u8 32 k1],.int .i64 num,.vrows 134 n f n']=>∃L,n'=n/\f=Zn L/\(n<1000/\n≠0)/\K (.ret (.tuple [.agg [.int .i64 num,.nslice ⟨h.next,0,0,0,0⟩ 130 1 1,.nslice ⟨h.next+1,0,132,0,0⟩ 132 n n],.int .i64 0])) ⟨h.next+2,(h.next,.flat (InS.c ⟨fu,ix,1,Z5,Z5,Z5⟩))::(h.next+1,.rows 132 n (Zj (Y3 L)))::h.bs⟩
 | _=>False
theorem Zm2 (args:List AV) (h:Z6) (K:KO) (hl:mxF args h K):Zi PP 87 args h K:=by
 refine Zy.fsumm (d:=20) (Zm _ _ _ _ _ hl fun a ha=> ?_)
 split at ha
 ·exact ⟨_,_,_,_,.evM Zp (Zo2 ⟨_,_,_,_,_,_,_,_⟩ _),rfl,trivial,ha⟩
 ·obtain ⟨L,rfl,rfl,⟨h1,h2⟩,hK⟩:=ha
  exact ⟨_,_,_,_,.evM (ZjK _ _ _ _) (Zo1 ⟨_,_,_,_,_,_,_,_⟩ _ L _ h1 h2),rfl,⟨by decide,.flat _ rfl,by decide,.rows _ _ _ (fun i _=>(Y3 L i).plainC),trivial⟩,hK⟩
 ·exact ha.elim
theorem ZjL (args:List AV) (h:Z6) (K:KO) (hl:mxF args h K):Zi PP 123 args h K:=by
 refine Zy.fsumm (d:=20) (Zm _ _ _ _ _ hl fun a ha=> ?_)
 split at ha
 ·exact ⟨_,_,_,_,.evM Zp (Zm1 ⟨_,_,_,_,_,_,_,_⟩ _),rfl,trivial,ha⟩
 ·obtain ⟨L,rfl,rfl,⟨h1,h2⟩,hK⟩:=ha
  exact ⟨_,_,_,_,.evM (Zhe _ _ _ _) (Zm0 ⟨_,_,_,_,_,_,_,_⟩ _ L _ h1 h2),rfl,⟨by decide,.flat _ rfl,by decide,.rows _ _ _ (fun i _=>(Y3 L i).plainC),trivial⟩,hK⟩
 ·exact ha.elim
noncomputable def E86 (A:List Int->Int×Int):Zh:=((((G0.withP 44 Z7g).withP 74 (Z9M A)).withP 86 inQ).withF 88 orF).withF 87 mxF
theorem Z8U:(E86 ZJ).Ok:=Zh.withF_ok (Zh.withF_ok (Zh.withP_ok (Zh.withP_ok (Zh.withP_ok Zp Z3C) Z3j) Zed) ZjH) Zm2
def clL (t:Zo) (a b fee:Int):List Zc:=
 (if t.dust<=a-fee then [⟨⟨1,a-fee,t.k0,Z5,Z5,Z5,0,0⟩,0,0⟩] else [])++(if t.dust<=b then [⟨⟨1,b,t.k1,Z5,Z5,Z5,0,0⟩,1,0⟩] else [])
def clB (A:List Int->Int×Int) (t:Zo) (a b fee:Int):Bool:=Yr t&&decide ((A [a,b]).2=0)&&decide ((A [a,b]).1=t.cap)&&decide (0<=fee/\fee<=a)
theorem Z0i {f:Nat->List AV} {L:List Zc} {n:Nat} (h:∀i,i<n->f i=Zn L i):∀i,i<n->plainC (f i)=true:=fun i hi=>by rw [h i hi];exact Xo L i
theorem YY {l:List Zc}:(ZZ l).length=l.length:=by unfold ZZ;rw [Z4W];simp
theorem Z5Y (x:Zc) (i:Nat) (hi:i<1):ZE 0 (fun _=>[]) (ZT (Zc.c x) 0 134) i=Zn [x] i:=Wa (O:=[]) rfl (fun k hk=>absurd hk (Nat.not_lt_zero k)) hi
theorem Zeq (x y:Zc) (i:Nat) (hi:i<2):ZE 1 (ZE 0 (fun _=>[]) (ZT (Zc.c x) 0 134)) (ZT (Zc.c y) 0 134) i=Zn [x,y] i:=Wa (O:=[x]) rfl (fun k hk=>Z5Y x k hk) hi
theorem Z8V {c:Bool}:(((if c=true then (0:Int) else 2) !=0)=true↔c=false)/\(((if c=true then (0:Int) else 2) !=0)=false↔c=true):=by cases c<;>simp
theorem Qp {A:List Int->Int×Int} {t:Zo} {a b fee:Int}:clB A t a b fee=true↔Yr t=true/\(A [a,b]).2=0/\(A [a,b]).1=t.cap/\(0<=fee/\fee<=a):=by
 unfold clB
 simp only [Bool.and_eq_true,decide_eq_true_eq,and_assoc]
theorem Zo3 (A:List Int->Int×Int) (t:Zo) (a b fee:Int) (ht:t.Ok) (hc:clB A t a b fee=false):
  evF (E86 A) 20 42 [.agg t.c,.agg [.arr .i64 2 [a,b]],.int .i64 fee] ⟨0,[]⟩ (ZL 0 (.ret (.tuple [.agg txZ,.int .i64 2])) 0 []):=by
 refine @Eq.mpr _ (let q1:=t.fund;let q2:=t.index;let q3:=t.cap;let q4:=t.dust;let q5:=t.fee;let q6:=t.delay;let q7:=t.k0;let q8:=t.k1;let q9:=Zo.mk q1 q2 q3 q4 q5 q6 q7 q8;let q10:=A [a,b];let q11:=wrap i64 (a-fee);let q12:=decide (b>=q4);let q13:=AV.int i64 (1:Int);let q14:=AV.arr u8 (32:Nat) Z5;let q15:=AV.int i64 (0:Int);let q16:=[q15];let q17:=ZT (q13::AV.int i64 q11::AV.arr u8 (32:Nat) q7::q14::q14::q14::q15::q15::q15::q16) (0:Nat) (134:Nat);let q18:=ZT (q13::AV.int i64 b::AV.arr u8 (32:Nat) q8::q14::q14::q14::q15::q15::q13::q16) (0:Nat) (134:Nat);let q19:=q1=q1;let q20:=decide (q2=q2);let q21:=decide (q3=q3);let q22:=decide (q4=q4);let q23:=decide (q5=q5);let q24:=decide (q6=q6);let q25:=q7=q7;let q26:=q8=q8;
 Zo.Ok q9/\
 Z0 ((if Yr q9=true then (0:Int) else (2:Int)) !=(0:Int)) True
 (Z0 (q10.snd !=(0:Int)) True
 (Z0 (q10.fst !=q3) True
 (Z0 (!decide ((0:Int)<=fee/\fee<=a)) True
 (Z0 (decide (q11>=q4))
 (Z0 q12 ((∀(i:Nat),i<(2:Nat)->plainC (ZE (1:Nat) (ZE (0:Nat) (fun (x:Nat)=>[]) q17) q18 i)=true)/\∃(L:List Zc),((2:Nat)=(2:Nat)/\(2:Nat)<(20:Nat)/\List.length L=(2:Nat))/\(∀(m:Zc),List.Mem m L->Zc.Ok m)/\(∀(i:Nat),i<(2:Nat)->ZE (1:Nat) (ZE (0:Nat) (fun (x:Nat)=>[]) q17) q18 i=Zn L i)/\q19/\Z0 q20 (Z0 q21 (Z0 q22 (Z0 q23 (Z0 q24 (q25/\q26/\(∀(i:Nat),i<(2:Nat)->true=true)/\∃(L_1:List Zc),(2:Nat)=(2:Nat)/\Yb (0:Nat) (Zn (ZZ L))=Zn L_1/\((2:Nat)<(1000:Nat)/\(2:Nat)≠(0:Nat))/\False) False) False) False) False) False)
 ((∀(i:Nat),i<(1:Nat)->plainC (ZE (0:Nat) (fun (x:Nat)=>[]) q17 i)=true)/\∃(L:List Zc),((1:Nat)=(1:Nat)/\(1:Nat)<(20:Nat)/\List.length L=(1:Nat))/\(∀(m:Zc),List.Mem m L->Zc.Ok m)/\(∀(i:Nat),i<(1:Nat)->ZE (0:Nat) (fun (x:Nat)=>[]) q17 i=Zn L i)/\q19/\Z0 q20 (Z0 q21 (Z0 q22 (Z0 q23 (Z0 q24 (q25/\q26/\(∀(i:Nat),i<(1:Nat)->true=true)/\∃(L_1:List Zc),(1:Nat)=(1:Nat)/\Yb (0:Nat) (Zn (ZZ L))=Zn L_1/\((1:Nat)<(1000:Nat)/\(1:Nat)≠(0:Nat))/\False) False) False) False) False) False))
 (Z0 q12 ((∀(i:Nat),i<(1:Nat)->plainC (ZE (0:Nat) (fun (x:Nat)=>[]) q18 i)=true)/\∃(L:List Zc),((1:Nat)=(1:Nat)/\(1:Nat)<(20:Nat)/\List.length L=(1:Nat))/\(∀(m:Zc),List.Mem m L->Zc.Ok m)/\(∀(i:Nat),i<(1:Nat)->ZE (0:Nat) (fun (x:Nat)=>[]) q18 i=Zn L i)/\q19/\Z0 q20 (Z0 q21 (Z0 q22 (Z0 q23 (Z0 q24 (q25/\q26/\(∀(i:Nat),i<(1:Nat)->true=true)/\∃(L_1:List Zc),(1:Nat)=(1:Nat)/\Yb (0:Nat) (Zn (ZZ L))=Zn L_1/\((1:Nat)<(1000:Nat)/\(1:Nat)≠(0:Nat))/\False) False) False) False) False) False) (q19/\Z0 q20 (Z0 q21 (Z0 q22 (Z0 q23 (Z0 q24 (q25/\q26/\False) False) False) False) False) False))))))) (by kernel_rfl) ?_
 conv=>zeta
 try simp only [Z8]
 try simp only [Ze]
 try simp only [Za]
 try simp only [Zf]
 try simp only [Zg]
 try simp only [Z9]
 try simp only [Y_s]
 have e0:(Zo.mk t.fund t.index t.cap t.dust t.fee t.delay t.k0 t.k1)=t:=rfl
 rw [e0]
 refine ⟨ht,fun _=>trivial,fun h1=>⟨fun _=>trivial,fun h2=>⟨fun _=>trivial,fun h3=>⟨fun _=>trivial,fun h4=> ?_⟩⟩⟩⟩
 exfalso
 have:clB A t a b fee=true:=Qp.2 ⟨Z8V.2.1 h1,by simpa using h2,by simpa using h3,by simpa using h4⟩
 rw [this] at hc;cases hc
theorem Zo4 (A:List Int->Int×Int) (t:Zo) (a b fee:Int) (ht:t.Ok) (ha:a<9223372036854775808) (hc:clB A t a b fee=true) (hL:clL t a b fee=[]):
  evF (E86 A) 20 42 [.agg t.c,.agg [.arr .i64 2 [a,b]],.int .i64 fee] ⟨0,[]⟩ (ZL 0 (.ret (.tuple [.agg txZ,.int .i64 180])) 0 []):=by
 refine @Eq.mpr _ (let q1:=t.fund;let q2:=t.index;let q3:=t.cap;let q4:=t.dust;let q5:=t.fee;let q6:=t.delay;let q7:=t.k0;let q8:=t.k1;let q9:=Zo.mk q1 q2 q3 q4 q5 q6 q7 q8;let q10:=A [a,b];let q11:=wrap i64 (a-fee);let q12:=decide (b>=q4);let q13:=AV.int i64 (1:Int);let q14:=AV.arr u8 (32:Nat) Z5;let q15:=AV.int i64 (0:Int);let q16:=[q15];let q17:=ZT (q13::AV.int i64 q11::AV.arr u8 (32:Nat) q7::q14::q14::q14::q15::q15::q15::q16) (0:Nat) (134:Nat);let q18:=ZT (q13::AV.int i64 b::AV.arr u8 (32:Nat) q8::q14::q14::q14::q15::q15::q13::q16) (0:Nat) (134:Nat);let q19:=q1=q1;let q20:=decide (q2=q2);let q21:=decide (q3=q3);let q22:=decide (q4=q4);let q23:=decide (q5=q5);let q24:=decide (q6=q6);let q25:=q7=q7;let q26:=q8=q8;
 Zo.Ok q9/\
 Z0 ((if Yr q9=true then (0:Int) else (2:Int)) !=(0:Int)) False
 (Z0 (q10.snd !=(0:Int)) False
 (Z0 (q10.fst !=q3) False
 (Z0 (!decide ((0:Int)<=fee/\fee<=a)) False
 (Z0 (decide (q11>=q4))
 (Z0 q12 ((∀(i:Nat),i<(2:Nat)->plainC (ZE (1:Nat) (ZE (0:Nat) (fun (x:Nat)=>[]) q17) q18 i)=true)/\∃(L:List Zc),((2:Nat)=(2:Nat)/\(2:Nat)<(20:Nat)/\List.length L=(2:Nat))/\(∀(m:Zc),List.Mem m L->Zc.Ok m)/\(∀(i:Nat),i<(2:Nat)->ZE (1:Nat) (ZE (0:Nat) (fun (x:Nat)=>[]) q17) q18 i=Zn L i)/\q19/\Z0 q20 (Z0 q21 (Z0 q22 (Z0 q23 (Z0 q24 (q25/\q26/\(∀(i:Nat),i<(2:Nat)->true=true)/\∃(L_1:List Zc),(2:Nat)=(2:Nat)/\Yb (0:Nat) (Zn (ZZ L))=Zn L_1/\((2:Nat)<(1000:Nat)/\(2:Nat)≠(0:Nat))/\False) False) False) False) False) False)
 ((∀(i:Nat),i<(1:Nat)->plainC (ZE (0:Nat) (fun (x:Nat)=>[]) q17 i)=true)/\∃(L:List Zc),((1:Nat)=(1:Nat)/\(1:Nat)<(20:Nat)/\List.length L=(1:Nat))/\(∀(m:Zc),List.Mem m L->Zc.Ok m)/\(∀(i:Nat),i<(1:Nat)->ZE (0:Nat) (fun (x:Nat)=>[]) q17 i=Zn L i)/\q19/\Z0 q20 (Z0 q21 (Z0 q22 (Z0 q23 (Z0 q24 (q25/\q26/\(∀(i:Nat),i<(1:Nat)->true=true)/\∃(L_1:List Zc),(1:Nat)=(1:Nat)/\Yb (0:Nat) (Zn (ZZ L))=Zn L_1/\((1:Nat)<(1000:Nat)/\(1:Nat)≠(0:Nat))/\False) False) False) False) False) False))
 (Z0 q12 ((∀(i:Nat),i<(1:Nat)->plainC (ZE (0:Nat) (fun (x:Nat)=>[]) q18 i)=true)/\∃(L:List Zc),((1:Nat)=(1:Nat)/\(1:Nat)<(20:Nat)/\List.length L=(1:Nat))/\(∀(m:Zc),List.Mem m L->Zc.Ok m)/\(∀(i:Nat),i<(1:Nat)->ZE (0:Nat) (fun (x:Nat)=>[]) q18 i=Zn L i)/\q19/\Z0 q20 (Z0 q21 (Z0 q22 (Z0 q23 (Z0 q24 (q25/\q26/\(∀(i:Nat),i<(1:Nat)->true=true)/\∃(L_1:List Zc),(1:Nat)=(1:Nat)/\Yb (0:Nat) (Zn (ZZ L))=Zn L_1/\((1:Nat)<(1000:Nat)/\(1:Nat)≠(0:Nat))/\False) False) False) False) False) False) (q19/\Z0 q20 (Z0 q21 (Z0 q22 (Z0 q23 (Z0 q24 (q25/\q26/\True) False) False) False) False) False))))))) (by kernel_rfl) ?_
 conv=>zeta
 try simp only [Z8]
 try simp only [Ze]
 try simp only [Za]
 try simp only [Zf]
 try simp only [Zg]
 try simp only [Z9]
 try simp only [Y_s]
 have e0:(Zo.mk t.fund t.index t.cap t.dust t.fee t.delay t.k0 t.k1)=t:=rfl
 rw [e0]
 obtain ⟨c1,c2,c3,c4⟩:=Qp.1 hc
 have hw:i64.wrap (a-fee)=a-fee:=w64 (by omega)
 have hd:¬t.dust<=a-fee/\¬t.dust<=b:=by
  unfold clL at hL
  rw [List.append_eq_nil_iff] at hL
  constructor
  ·intro h;rw [if_pos h] at hL;simp at hL
  ·intro h;rw [if_pos h] at hL;simp at hL
 refine ⟨ht,Z8V.2.2 c1,by simp [c2],by simp [c3],by simp [c4], ?_⟩
 ·rw [hw]
  exact ⟨fun h=>absurd h hd.1,fun h=>⟨fun h=>absurd h hd.2,fun _=>trivial⟩⟩
theorem Zo5 (A:List Int->Int×Int) (t:Zo) (a b fee:Int) (n:Nat) (L1:List Zc) (ht:t.Ok) (ha:a<9223372036854775808) (hc:clB A t a b fee=true) (hn:n≠0) (hL:L1=ZZ (clL t a b fee)) (hl:n=L1.length):
  evF (E86 A) 20 42 [.agg t.c,.agg [.arr .i64 2 [a,b]],.int .i64 fee] ⟨0,[]⟩ (ZL 0 (.ret (.tuple [.agg [.int .i64 2147483647,.nslice ⟨0,0,0,0,0⟩ 130 1 1,.nslice ⟨1,0,132,0,0⟩ 132 n n],.int .i64 0])) 2 [(0,.flat (InS.c (Z0h t))),(1,.rows 132 n (Zj (Y3 L1)))]):=by
 refine @Eq.mpr _ (let q1:=t.fund;let q2:=t.index;let q3:=t.cap;let q4:=t.dust;let q5:=t.fee;let q6:=t.delay;let q7:=t.k0;let q8:=t.k1;let q9:=Zo.mk q1 q2 q3 q4 q5 q6 q7 q8;let q10:=A [a,b];let q11:=wrap i64 (a-fee);let q12:=decide (b>=q4);let q13:=AV.int i64 (1:Int);let q14:=AV.arr u8 (32:Nat) Z5;let q15:=AV.int i64 (0:Int);let q16:=[q15];let q17:=ZT (q13::AV.int i64 q11::AV.arr u8 (32:Nat) q7::q14::q14::q14::q15::q15::q15::q16) (0:Nat) (134:Nat);let q18:=ZT (q13::AV.int i64 b::AV.arr u8 (32:Nat) q8::q14::q14::q14::q15::q15::q13::q16) (0:Nat) (134:Nat);let q19:=q1=q1;let q20:=decide (q2=q2);let q21:=decide (q3=q3);let q22:=decide (q4=q4);let q23:=decide (q5=q5);let q24:=decide (q6=q6);let q25:=q7=q7;let q26:=q8=q8;let q27:=decide ((2:Nat)=n);let q28:=InS.mk q1 q2 (1:Int) Z5 Z5 Z5;let q29:=Z0h t;let q30:=q28.name=q29.name;let q31:=decide (q28.index=q29.index);let q32:=q28.tag=q29.tag;let q33:=q28.also=q29.also;let q34:=q28.secret=q29.secret;let q35:=Zj (Y3 L1);let q36:=decide ((1:Nat)=n);
 Zo.Ok q9/\
 Z0 ((if Yr q9=true then (0:Int) else (2:Int)) !=(0:Int)) False
 (Z0 (q10.snd !=(0:Int)) False
 (Z0 (q10.fst !=q3) False
 (Z0 (!decide ((0:Int)<=fee/\fee<=a)) False
 (Z0 (decide (q11>=q4))
 (Z0 q12 ((∀(i:Nat),i<(2:Nat)->plainC (ZE (1:Nat) (ZE (0:Nat) (fun (x:Nat)=>[]) q17) q18 i)=true)/\∃(L:List Zc),((2:Nat)=(2:Nat)/\(2:Nat)<(20:Nat)/\List.length L=(2:Nat))/\(∀(m:Zc),List.Mem m L->Zc.Ok m)/\(∀(i:Nat),i<(2:Nat)->ZE (1:Nat) (ZE (0:Nat) (fun (x:Nat)=>[]) q17) q18 i=Zn L i)/\q19/\Z0 q20 (Z0 q21 (Z0 q22 (Z0 q23 (Z0 q24 (q25/\q26/\(∀(i:Nat),i<(2:Nat)->true=true)/\∃(L_1:List Zc),(2:Nat)=(2:Nat)/\Yb (0:Nat) (Zn (ZZ L))=Zn L_1/\((2:Nat)<(1000:Nat)/\(2:Nat)≠(0:Nat))/\Z0 q27 (Z0 (decide (n<=(2:Nat))) (q30/\Z0 q31 (q32/\q33/\q34/\Z0 q27 (Zr (0:Nat) [((1:Nat),(8:Nat)),((0:Nat),(7:Nat))] n q35 (Zj (Y3 L_1))/\True) False) False) False) False) False) False) False) False) False)
 ((∀(i:Nat),i<(1:Nat)->plainC (ZE (0:Nat) (fun (x:Nat)=>[]) q17 i)=true)/\∃(L:List Zc),((1:Nat)=(1:Nat)/\(1:Nat)<(20:Nat)/\List.length L=(1:Nat))/\(∀(m:Zc),List.Mem m L->Zc.Ok m)/\(∀(i:Nat),i<(1:Nat)->ZE (0:Nat) (fun (x:Nat)=>[]) q17 i=Zn L i)/\q19/\Z0 q20 (Z0 q21 (Z0 q22 (Z0 q23 (Z0 q24 (q25/\q26/\(∀(i:Nat),i<(1:Nat)->true=true)/\∃(L_1:List Zc),(1:Nat)=(1:Nat)/\Yb (0:Nat) (Zn (ZZ L))=Zn L_1/\((1:Nat)<(1000:Nat)/\(1:Nat)≠(0:Nat))/\Z0 q36 (Z0 (decide (n<=(1:Nat))) (q30/\Z0 q31 (q32/\q33/\q34/\Z0 q36 (Zr (0:Nat) [((1:Nat),(6:Nat)),((0:Nat),(5:Nat))] n q35 (Zj (Y3 L_1))/\True) False) False) False) False) False) False) False) False) False))
 (Z0 q12 ((∀(i:Nat),i<(1:Nat)->plainC (ZE (0:Nat) (fun (x:Nat)=>[]) q18 i)=true)/\∃(L:List Zc),((1:Nat)=(1:Nat)/\(1:Nat)<(20:Nat)/\List.length L=(1:Nat))/\(∀(m:Zc),List.Mem m L->Zc.Ok m)/\(∀(i:Nat),i<(1:Nat)->ZE (0:Nat) (fun (x:Nat)=>[]) q18 i=Zn L i)/\q19/\Z0 q20 (Z0 q21 (Z0 q22 (Z0 q23 (Z0 q24 (q25/\q26/\(∀(i:Nat),i<(1:Nat)->true=true)/\∃(L_1:List Zc),(1:Nat)=(1:Nat)/\Yb (0:Nat) (Zn (ZZ L))=Zn L_1/\((1:Nat)<(1000:Nat)/\(1:Nat)≠(0:Nat))/\Z0 q36 (Z0 (decide (n<=(1:Nat))) (q30/\Z0 q31 (q32/\q33/\q34/\Z0 q36 (Zr (0:Nat) [((1:Nat),(6:Nat)),((0:Nat),(5:Nat))] n q35 (Zj (Y3 L_1))/\True) False) False) False) False) False) False) False) False) False) (q19/\Z0 q20 (Z0 q21 (Z0 q22 (Z0 q23 (Z0 q24 (q25/\q26/\False) False) False) False) False) False))))))) (by kernel_rfl) ?_
 conv=>zeta
 try simp only [Z8]
 try simp only [Ze]
 try simp only [Za]
 try simp only [Zf]
 try simp only [Zg]
 try simp only [Z9]
 try simp only [Y_s]
 have e0:(Zo.mk t.fund t.index t.cap t.dust t.fee t.delay t.k0 t.k1)=t:=rfl
 rw [e0]
 obtain ⟨c1,c2,c3,c4⟩:=Qp.1 hc
 have hw:i64.wrap (a-fee)=a-fee:=w64 (by omega)
 refine ⟨ht,Z8V.2.2 c1,by simp [c2],by simp [c3],by simp [c4], ?_⟩
 ·rw [hw]
  have z32:Z5.length=32:=rfl
  refine ⟨fun h1=>⟨fun h2=> ?_,fun h2=> ?_⟩,fun h1=>⟨fun h2=> ?_,fun h2=> ?_⟩⟩
  ·have e:clL t a b fee=[⟨⟨1,a-fee,t.k0,Z5,Z5,Z5,0,0⟩,0,0⟩,⟨⟨1,b,t.k1,Z5,Z5,Z5,0,0⟩,1,0⟩]:=by unfold clL;rw [if_pos h1,if_pos h2];rfl
   have hn2:2=n:=by rw [hl,hL,e,YY];rfl
   have H:=Zeq ⟨⟨1,a-fee,t.k0,Z5,Z5,Z5,0,0⟩,0,0⟩ ⟨⟨1,b,t.k1,Z5,Z5,Z5,0,0⟩,1,0⟩
   refine ⟨Z0i H,_,⟨by decide,rfl⟩,fun m hm=> ?_,H,fun _ _=>trivial,_,rfl,⟨by decide,by decide⟩,hn2,by omega,rfl,rfl,rfl,rfl,rfl,hn2,ZP fun _ _=>by rw [hL,e];rfl⟩
   have hm:m∈[_,_]:=hm
   rcases List.mem_cons.1 hm with rfl|hm
   ·exact ⟨ht.k0,z32,z32,z32⟩
   ·rcases List.mem_cons.1 hm with rfl|hm
    ·exact ⟨ht.k1,z32,z32,z32⟩
    ·cases hm
  ·have e:clL t a b fee=[⟨⟨1,a-fee,t.k0,Z5,Z5,Z5,0,0⟩,0,0⟩]:=by unfold clL;rw [if_pos h1,if_neg h2];rfl
   have hn2:1=n:=by rw [hl,hL,e,YY];rfl
   have H:=Z5Y ⟨⟨1,a-fee,t.k0,Z5,Z5,Z5,0,0⟩,0,0⟩
   refine ⟨Z0i H,_,⟨by decide,rfl⟩,fun m hm=> ?_,H,fun _ _=>trivial,_,rfl,⟨by decide,by decide⟩,hn2,by omega,rfl,rfl,rfl,rfl,rfl,hn2,ZP fun _ _=>by rw [hL,e];rfl⟩
   have hm:m∈[_]:=hm
   rcases List.mem_cons.1 hm with rfl|hm
   ·exact ⟨ht.k0,z32,z32,z32⟩
   ·cases hm
  ·have e:clL t a b fee=[⟨⟨1,b,t.k1,Z5,Z5,Z5,0,0⟩,1,0⟩]:=by unfold clL;rw [if_neg h1,if_pos h2];rfl
   have hn2:1=n:=by rw [hl,hL,e,YY];rfl
   have H:=Z5Y ⟨⟨1,b,t.k1,Z5,Z5,Z5,0,0⟩,1,0⟩
   refine ⟨Z0i H,_,⟨by decide,rfl⟩,fun m hm=> ?_,H,fun _ _=>trivial,_,rfl,⟨by decide,by decide⟩,hn2,by omega,rfl,rfl,rfl,rfl,rfl,hn2,ZP fun _ _=>by rw [hL,e];rfl⟩
   have hm:m∈[_]:=hm
   rcases List.mem_cons.1 hm with rfl|hm
   ·exact ⟨ht.k1,z32,z32,z32⟩
   ·cases hm
  ·have e:clL t a b fee=[]:=by unfold clL;rw [if_neg h1,if_neg h2];rfl
   rw [e] at hL
   rw [hl,hL] at hn
   exact hn rfl
def clF (A:List Int->Int×Int):ZR:=fun args h K=>ZH none h true 20 args fun a=>match a with
 | [.agg [.arr .u8 32 fu,.int .i64 ix,.int .i64 ca,.int .i64 du,.int .i64 fe,.int .i64 de,.arr .u8 32 k0,.arr .u8 32 k1],.agg [.arr .i64 2 ab],.int .i64 fee]=>
  (Zo.Ok ⟨fu,ix,ca,du,fe,de,k0,k1⟩)/\∃a b,ab=[a,b]/\a<9223372036854775808/\(clB A ⟨fu,ix,ca,du,fe,de,k0,k1⟩ a b fee=false->K (.ret (.tuple [.agg txZ,.int .i64 2])) h)/\
  (clB A ⟨fu,ix,ca,du,fe,de,k0,k1⟩ a b fee=true->((clL ⟨fu,ix,ca,du,fe,de,k0,k1⟩ a b fee).length=0->K (.ret (.tuple [.agg txZ,.int .i64 180])) h)/\
   ∀n L,L=ZZ (clL ⟨fu,ix,ca,du,fe,de,k0,k1⟩ a b fee)->n=L.length->n≠0->K (.ret (.tuple [.agg [.int .i64 2147483647,.nslice ⟨h.next,0,0,0,0⟩ 130 1 1,.nslice ⟨h.next+1,0,132,0,0⟩ 132 n n],.int .i64 0])) ⟨h.next+2,(h.next,.flat (InS.c ⟨fu,ix,1,Z5,Z5,Z5⟩))::(h.next+1,.rows 132 n (Zj (Y3 L)))::h.bs⟩)
 | _=>False
theorem Z8W (args:List AV) (h:Z6) (K:KO) (hl:clF ZJ args h K):Zi PP 42 args h K:=by
 refine Zy.fsumm (d:=20) (Zm _ _ _ _ _ hl fun a ha=> ?_)
 split at ha
 ·rename_i fu ix ca du fe de k0 k1 ab fee
  obtain ⟨ht,a,b,rfl,ha,h1,h2⟩:=ha
  cases hc:clB ZJ ⟨fu,ix,ca,du,fe,de,k0,k1⟩ a b fee with
  | false=>exact ⟨_,_,_,_,.evM Z8U (Zo3 _ ⟨_,_,_,_,_,_,_,_⟩ a b fee ht hc),rfl,trivial,h1 hc⟩
  | true=>
   obtain ⟨h2,h3⟩:=h2 hc
   rcases Nat.eq_zero_or_pos (clL ⟨fu,ix,ca,du,fe,de,k0,k1⟩ a b fee).length with h0|h0
   ·exact ⟨_,_,_,_,.evM Z8U (Zo4 _ ⟨_,_,_,_,_,_,_,_⟩ a b fee ht ha hc (List.length_eq_zero_iff.1 h0)),rfl,trivial,h2 h0⟩
   ·have hn:(ZZ (clL ⟨fu,ix,ca,du,fe,de,k0,k1⟩ a b fee)).length≠0:=by rw [YY];omega
    exact ⟨_,_,_,_,.evM Z8U (Zo5 _ ⟨_,_,_,_,_,_,_,_⟩ a b fee _ _ ht ha hc hn rfl rfl),rfl,⟨by decide,.flat _ rfl,by decide,.rows _ _ _ (fun i _=>(Y3 _ i).plainC),trivial⟩,h3 _ _ rfl rfl hn⟩
 ·exact ha.elim
noncomputable def Zhf:Zh:=((G0.withP 112 Z5T).withF 122 puF).withF 123 mxF
theorem Z5Z:Zhf.Ok:=Zh.withF_ok (Zh.withF_ok (Zh.withP_ok Zp Z4T) ZjJ) ZjL
theorem Yl:Bytes Z5:=⟨fun i=>by
 have h:Z5=List.replicate 32 0:=rfl
 rw [h,List.getD_eq_getElem?_getD,List.getElem?_replicate]
 split<;>simp⟩
theorem Zer {m a b:Int}:allIn m [a,b]=true↔(0<=a/\a<=m)/\(0<=b/\b<=m):=by
 unfold allIn YA
 simp [List.range_succ,Uk]
theorem Wb {t:Zo} {a b fee:Int}:clB ZJ t a b fee=true↔Yr t=true/\((0<=a/\a<=1125899906842624)/\(0<=b/\b<=1125899906842624))/\a+b=t.cap/\(0<=fee/\fee<=a):=by
 rw [Qp]
 unfold ZJ
 by_cases h:allIn 1125899906842624 [a,b]=true
 ·rw [if_pos h]
  have h':=Zer.1 h
  by_cases h2:[a,b].sum<=1125899906842624
  ·rw [if_pos h2];simp;omega
  ·rw [if_neg h2]
   simp at h2
   constructor
   ·rintro ⟨_,h3,_⟩;simp at h3
   ·rintro ⟨h3,_,h4,_⟩
    unfold Yr at h3
    simp only [Bool.and_eq_true,decide_eq_true_eq] at h3
    omega
 ·rw [if_neg h]
  constructor
  ·rintro ⟨_,h3,_⟩;simp at h3
  ·rintro ⟨_,h3,_⟩;exact absurd (Zer.2 h3) h
theorem Zm3 (t:Zo) (a b fee:Int) (ht:t.Ok) (hc:clB ZJ t a b fee=false):
  evF Zhf 20 61 [.agg t.c,.agg [.arr .i64 2 [a,b]],.int .i64 fee] ⟨0,[]⟩ (ZL 0 (.ret (.tuple [.agg txZ,.int .i64 2])) 0 []):=by
 refine @Eq.mpr _ (let q1:=t.dust;let q2:=Zo.mk t.fund t.index t.cap q1 t.fee t.delay t.k0 t.k1;let q3:=wrap i64 (a-fee);let q4:=AV.int i64 1;let q5:=AV.arr u8 32 Z5;let q6:=AV.int i64 0;let q7:=[q6];let q8:=decide (b>=q1);
 Zo.Ok q2/\
 Z0 (!Yr q2) True
 (Z0 (decide (a>=0))
 (Z0 (!decide (a<=1125899906842624)) True
 (Z0 (decide (b>=0))
 (Z0 (!decide (b<=1125899906842624)) True
 (Z0 (wrap i64 (a+b) !=t.cap) True
 (Z0 (decide (fee<0)) True
 (Z0 (decide (fee>a)) True
 (Z0 (decide (q3>=q1))
 (∃(m:Zc),
 let q17:=Yb 0 (Zn (Xb ltM m []));
 q4::AV.int i64 q3::AV.arr u8 32 t.k0::q5::q5::q5::q6::q6::q6::q7=Zc.c m/\Z0 q8 ((∀(i:Nat),i<1->true=true)/\∃(L:List Zc),∃(m:Zc),(1:Nat)=1/\q17=Zn L/\q4::AV.int i64 b::AV.arr u8 32 t.k1::q5::q5::q5::q6::q6::q4::q7=Zc.c m/\Z8T 1 L m/\(∀(i:Nat),i<2->true=true)/\∃(L_1:List Zc),(2:Nat)=2/\Yb 0 (Zn (Xb ltM m L))=Zn L_1/\((2:Nat)<1000/\(2:Nat)≠0)/\False) ((∀(i:Nat),i<1->true=true)/\∃(L:List Zc),(1:Nat)=1/\q17=Zn L/\((1:Nat)<1000/\(1:Nat)≠0)/\False))
 (Z0 q8 (∃(m:Zc),q4::AV.int i64 b::AV.arr u8 32 t.k1::q5::q5::q5::q6::q6::q4::q7=Zc.c m/\(∀(i:Nat),i<1->true=true)/\∃(L:List Zc),(1:Nat)=1/\Yb 0 (Zn (Xb ltM m []))=Zn L/\((1:Nat)<1000/\(1:Nat)≠0)/\False) False))))))
 True))
 True)) (by kernel_rfl) ?_
 conv=>zeta
 try simp only [Z8]
 try simp only [Ze]
 try simp only [Za]
 try simp only [Zf]
 try simp only [Zg]
 try simp only [Z9]
 try simp only [Y_s]
 have e0:(Zo.mk t.fund t.index t.cap t.dust t.fee t.delay t.k0 t.k1)=t:=rfl
 rw [e0]
 have hx:¬(Yr t=true/\((0<=a/\a<=1125899906842624)/\(0<=b/\b<=1125899906842624))/\a+b=t.cap/\(0<=fee/\fee<=a)):=fun h=>by rw [Wb.2 h] at hc;cases hc
 refine ⟨ht,fun _=>trivial,fun g1=>⟨fun g2=>⟨fun _=>trivial,fun g3=>⟨fun g4=>⟨fun _=>trivial,fun g5=>⟨fun _=>trivial,fun g6=>⟨fun _=>trivial,fun g7=>⟨fun _=>trivial,fun g8=> ?_⟩⟩⟩⟩, ?_⟩⟩, ?_⟩⟩
 ·exfalso
  have k1:Yr t=true:=by simpa using g1
  have k3:a<=1125899906842624:=by simpa using g3
  have k5:b<=1125899906842624:=by simpa using g5
  rw [w64 (x:=a+b) (by omega)] at g6
  have k6:a+b=t.cap:=by simpa using g6
  exact hx ⟨k1,⟨⟨g2,k3⟩,g4,k5⟩,k6,by omega⟩
 all_goals intros;trivial
theorem Zm4 (t:Zo) (a b fee:Int) (ht:t.Ok) (hc:clB ZJ t a b fee=true) (hL:clL t a b fee=[]):
  evF Zhf 20 61 [.agg t.c,.agg [.arr .i64 2 [a,b]],.int .i64 fee] ⟨0,[]⟩ (ZL 0 (.ret (.tuple [.agg txZ,.int .i64 180])) 0 []):=by
 refine @Eq.mpr _ (let q1:=t.dust;let q2:=Zo.mk t.fund t.index t.cap q1 t.fee t.delay t.k0 t.k1;let q3:=wrap i64 (a-fee);let q4:=AV.int i64 1;let q5:=AV.arr u8 32 Z5;let q6:=AV.int i64 0;let q7:=[q6];let q8:=decide (b>=q1);
 Zo.Ok q2/\
 Z0 (!Yr q2) False
 (Z0 (decide (a>=0))
 (Z0 (!decide (a<=1125899906842624)) False
 (Z0 (decide (b>=0))
 (Z0 (!decide (b<=1125899906842624)) False
 (Z0 (wrap i64 (a+b) !=t.cap) False
 (Z0 (decide (fee<0)) False
 (Z0 (decide (fee>a)) False
 (Z0 (decide (q3>=q1))
 (∃(m:Zc),
 let q17:=Yb 0 (Zn (Xb ltM m []));
 q4::AV.int i64 q3::AV.arr u8 32 t.k0::q5::q5::q5::q6::q6::q6::q7=Zc.c m/\Z0 q8 ((∀(i:Nat),i<1->true=true)/\∃(L:List Zc),∃(m:Zc),(1:Nat)=1/\q17=Zn L/\q4::AV.int i64 b::AV.arr u8 32 t.k1::q5::q5::q5::q6::q6::q4::q7=Zc.c m/\Z8T 1 L m/\(∀(i:Nat),i<2->true=true)/\∃(L_1:List Zc),(2:Nat)=2/\Yb 0 (Zn (Xb ltM m L))=Zn L_1/\((2:Nat)<1000/\(2:Nat)≠0)/\False) ((∀(i:Nat),i<1->true=true)/\∃(L:List Zc),(1:Nat)=1/\q17=Zn L/\((1:Nat)<1000/\(1:Nat)≠0)/\False))
 (Z0 q8 (∃(m:Zc),q4::AV.int i64 b::AV.arr u8 32 t.k1::q5::q5::q5::q6::q6::q4::q7=Zc.c m/\(∀(i:Nat),i<1->true=true)/\∃(L:List Zc),(1:Nat)=1/\Yb 0 (Zn (Xb ltM m []))=Zn L/\((1:Nat)<1000/\(1:Nat)≠0)/\False) True))))))
 False))
 False)) (by kernel_rfl) ?_
 conv=>zeta
 try simp only [Z8]
 try simp only [Ze]
 try simp only [Za]
 try simp only [Zf]
 try simp only [Zg]
 try simp only [Z9]
 try simp only [Y_s]
 have e0:(Zo.mk t.fund t.index t.cap t.dust t.fee t.delay t.k0 t.k1)=t:=rfl
 rw [e0]
 obtain ⟨c1,⟨c2,c3⟩,c4,c5⟩:=Wb.1 hc
 have w1:i64.wrap (a-fee)=a-fee:=w64 (by omega)
 have w2:i64.wrap (a+b)=a+b:=w64 (by omega)
 refine ⟨ht,by rw [c1];rfl,by omega,by simp;omega,by omega,by simp;omega,by rw [w2];simp [c4],by omega,by omega, ?_⟩
 rw [w1]
 have hd:¬t.dust<=a-fee/\¬t.dust<=b:=by
  unfold clL at hL
  rw [List.append_eq_nil_iff] at hL
  constructor
  ·intro h;rw [if_pos h] at hL;simp at hL
  ·intro h;rw [if_pos h] at hL;simp at hL
 exact ⟨fun h=>absurd h hd.1,fun _=>⟨fun h=>absurd h hd.2,fun _=>trivial⟩⟩
theorem Zm5 (t:Zo) (a b fee:Int) (n:Nat) (L1:List Zc) (ht:t.Ok) (hc:clB ZJ t a b fee=true) (hn:n≠0) (hL:L1=ZZ (clL t a b fee)) (hl:n=L1.length):
  evF Zhf 20 61 [.agg t.c,.agg [.arr .i64 2 [a,b]],.int .i64 fee] ⟨0,[]⟩ (ZL 0 (.ret (.tuple [.agg [.int .i64 2147483647,.nslice ⟨0,0,0,0,0⟩ 130 1 1,.nslice ⟨1,0,132,0,0⟩ 132 n n],.int .i64 0])) 2 [(0,.flat (InS.c (Z0h t))),(1,.rows 132 n (Zj (Y3 L1)))]):=by
 refine @Eq.mpr _ (let q1:=t.dust;let q2:=Zo.mk t.fund t.index t.cap q1 t.fee t.delay t.k0 t.k1;let q3:=wrap i64 (a-fee);let q4:=AV.int i64 1;let q5:=AV.arr u8 32 Z5;let q6:=AV.int i64 0;let q7:=[q6];let q8:=decide (b>=q1);let q9:=decide (2=n);let q10:=InS.mk t.fund t.index 1 Z5 Z5 Z5;let q11:=Z0h t;let q12:=q10.name=q11.name;let q13:=decide (q10.index=q11.index);let q14:=q10.tag=q11.tag;let q15:=q10.also=q11.also;let q16:=q10.secret=q11.secret;let q17:=Zj (Y3 L1);let q18:=decide (1=n);
 Zo.Ok q2/\
 Z0 (!Yr q2) False
 (Z0 (decide (a>=0))
 (Z0 (!decide (a<=1125899906842624)) False
 (Z0 (decide (b>=0))
 (Z0 (!decide (b<=1125899906842624)) False
 (Z0 (wrap i64 (a+b) !=t.cap) False
 (Z0 (decide (fee<0)) False
 (Z0 (decide (fee>a)) False
 (Z0 (decide (q3>=q1))
 (∃(m:Zc),
 let q37:=Yb 0 (Zn (Xb ltM m []));
 q4::AV.int i64 q3::AV.arr u8 32 t.k0::q5::q5::q5::q6::q6::q6::q7=Zc.c m/\Z0 q8 ((∀(i:Nat),i<1->true=true)/\∃(L:List Zc),∃(m:Zc),(1:Nat)=1/\q37=Zn L/\q4::AV.int i64 b::AV.arr u8 32 t.k1::q5::q5::q5::q6::q6::q4::q7=Zc.c m/\Z8T 1 L m/\(∀(i:Nat),i<2->true=true)/\∃(L_1:List Zc),(2:Nat)=2/\Yb 0 (Zn (Xb ltM m L))=Zn L_1/\((2:Nat)<1000/\(2:Nat)≠0)/\Z0 q9 (Z0 (decide (n<=2)) (q12/\Z0 q13 (q14/\q15/\q16/\Z0 q9 (Zr 0 [(1,6),(0,5)] n q17 (Zj (Y3 L_1))/\True) False) False) False) False) ((∀(i:Nat),i<1->true=true)/\∃(L:List Zc),(1:Nat)=1/\q37=Zn L/\((1:Nat)<1000/\(1:Nat)≠0)/\Z0 q18 (Z0 (decide (n<=1)) (q12/\Z0 q13 (q14/\q15/\q16/\Z0 q18 (Zr 0 [(1,5),(0,4)] n q17 (Zj (Y3 L))/\True) False) False) False) False))
 (Z0 q8 (∃(m:Zc),q4::AV.int i64 b::AV.arr u8 32 t.k1::q5::q5::q5::q6::q6::q4::q7=Zc.c m/\(∀(i:Nat),i<1->true=true)/\∃(L:List Zc),(1:Nat)=1/\Yb 0 (Zn (Xb ltM m []))=Zn L/\((1:Nat)<1000/\(1:Nat)≠0)/\Z0 q18 (Z0 (decide (n<=1)) (q12/\Z0 q13 (q14/\q15/\q16/\Z0 q18 (Zr 0 [(1,5),(0,4)] n q17 (Zj (Y3 L))/\True) False) False) False) False) False))))))
 False))
 False)) (by kernel_rfl) ?_
 conv=>zeta
 try simp only [Z8]
 try simp only [Ze]
 try simp only [Za]
 try simp only [Zf]
 try simp only [Zg]
 try simp only [Z9]
 try simp only [Y_s]
 have e0:(Zo.mk t.fund t.index t.cap t.dust t.fee t.delay t.k0 t.k1)=t:=rfl
 rw [e0]
 obtain ⟨c1,⟨c2,c3⟩,c4,c5⟩:=Wb.1 hc
 have w1:i64.wrap (a-fee)=a-fee:=w64 (by omega)
 have w2:i64.wrap (a+b)=a+b:=w64 (by omega)
 refine ⟨ht,by rw [c1];rfl,by omega,by simp;omega,by omega,by simp;omega,by rw [w2];simp [c4],by omega,by omega, ?_⟩
 rw [w1]
 have z32:Z5.length=32:=rfl
 have oA:(⟨⟨1,a-fee,t.k0,Z5,Z5,Z5,0,0⟩,0,0⟩:Zc).Okb:=⟨⟨ht.k0,z32,z32,z32⟩,Yl⟩
 have oB:(⟨⟨1,b,t.k1,Z5,Z5,Z5,0,0⟩,1,0⟩:Zc).Okb:=⟨⟨ht.k1,z32,z32,z32⟩,Yl⟩
 refine ⟨fun h1=>⟨⟨⟨1,a-fee,t.k0,Z5,Z5,Z5,0,0⟩,0,0⟩,rfl,fun h2=> ?_,fun h2=> ?_⟩,fun h1=> ?_⟩
 ·have e:L1=Xb ltM ⟨⟨1,b,t.k1,Z5,Z5,Z5,0,0⟩,1,0⟩ (Xb ltM ⟨⟨1,a-fee,t.k0,Z5,Z5,Z5,0,0⟩,0,0⟩ []):=by rw [hL];unfold clL;rw [if_pos h1,if_pos h2];rfl
  have hn2:2=n:=by rw [hl,e,Z3E];rfl
  exact ⟨fun _ _=>trivial,_,⟨⟨1,b,t.k1,Z5,Z5,Z5,0,0⟩,1,0⟩,rfl,rfl,⟨by decide,rfl,oB,fun x hx=>by rcases List.mem_cons.1 hx with rfl|hx;exact oA;cases hx⟩,fun _ _=>trivial,_,rfl,⟨by decide,by decide⟩,hn2,by omega,rfl,rfl,rfl,rfl,rfl,hn2,ZP fun _ _=>by rw [e];rfl⟩
 ·have e:L1=Xb ltM ⟨⟨1,a-fee,t.k0,Z5,Z5,Z5,0,0⟩,0,0⟩ []:=by rw [hL];unfold clL;rw [if_pos h1,if_neg h2];rfl
  have hn2:1=n:=by rw [hl,e];rfl
  exact ⟨fun _ _=>trivial,_,rfl,⟨by decide,by decide⟩,hn2,by omega,rfl,rfl,rfl,rfl,rfl,hn2,ZP fun _ _=>by rw [e];rfl⟩
 ·by_cases h2:b>=t.dust
  rotate_left
  ·have e:L1=[]:=by rw [hL];unfold clL;rw [if_neg h1,if_neg h2];rfl
   rw [hl,e] at hn
   exact absurd rfl hn
  have e:L1=Xb ltM ⟨⟨1,b,t.k1,Z5,Z5,Z5,0,0⟩,1,0⟩ []:=by rw [hL];unfold clL;rw [if_neg h1,if_pos h2];rfl
  have hn2:1=n:=by rw [hl,e];rfl
  exact ⟨h2,⟨⟨1,b,t.k1,Z5,Z5,Z5,0,0⟩,1,0⟩,rfl,fun _ _=>trivial,_,rfl,⟨by decide,by decide⟩,hn2,by omega,rfl,rfl,rfl,rfl,rfl,hn2,ZP fun _ _=>by rw [e];rfl⟩
theorem Zac (args:List AV) (h:Z6) (K:KO) (hl:clF ZJ args h K):Zi PP 61 args h K:=by
 refine Zy.fsumm (d:=20) (Zm _ _ _ _ _ hl fun a ha=> ?_)
 split at ha
 ·rename_i fu ix ca du fe de k0 k1 ab fee
  obtain ⟨ht,a,b,rfl,ha,h1,h2⟩:=ha
  cases hc:clB ZJ ⟨fu,ix,ca,du,fe,de,k0,k1⟩ a b fee with
  | false=>exact ⟨_,_,_,_,.evM Z5Z (Zm3 ⟨_,_,_,_,_,_,_,_⟩ a b fee ht hc),rfl,trivial,h1 hc⟩
  | true=>
   obtain ⟨h2,h3⟩:=h2 hc
   rcases Nat.eq_zero_or_pos (clL ⟨fu,ix,ca,du,fe,de,k0,k1⟩ a b fee).length with h0|h0
   ·exact ⟨_,_,_,_,.evM Z5Z (Zm4 ⟨_,_,_,_,_,_,_,_⟩ a b fee ht hc (List.length_eq_zero_iff.1 h0)),rfl,trivial,h2 h0⟩
   ·have hn:(ZZ (clL ⟨fu,ix,ca,du,fe,de,k0,k1⟩ a b fee)).length≠0:=by rw [YY];omega
    exact ⟨_,_,_,_,.evM Z5Z (Zm5 ⟨_,_,_,_,_,_,_,_⟩ a b fee _ _ ht hc hn rfl rfl),rfl,⟨by decide,.flat _ rfl,by decide,.rows _ _ _ (fun i _=>(Y3 _ i).plainC),trivial⟩,h3 _ _ rfl rfl hn⟩
 ·exact ha.elim
@[irreducible] def loH (a b:List Int):List Int:=if X4 a b>0 then b else a
@[irreducible] def hiH (a b:List Int):List Int:=if X4 a b>0 then a else b
theorem Zm6 (a b lo hi:List Int) (ha:a.length=32) (hb:b.length=32) (hl:lo=loH a b) (hh:hi=hiH a b):
  evF G0 20 45 [.agg [.arr .u8 32 a],.agg [.arr .u8 32 b]] ⟨0,[]⟩ (XI (fun v=>v=.tuple [.agg [.arr .u8 32 lo],.agg [.arr .u8 32 hi]])):=by
 refine @Eq.mpr _ (let q1:=AV.agg [AV.arr u8 32 b];let q2:=AV.agg [AV.arr u8 32 a];let q3:=AV.tuple [AV.agg [AV.arr u8 32 lo],AV.agg [AV.arr u8 32 hi]];
 Z0 (decide (u8=u8/\List.length a=32)) (Z0 (decide (u8=u8/\List.length b=32)) (Z0 (decide (X4 a b>0)) (a=a/\AV.tuple [q1,q2]=q3) (b=b/\AV.tuple [q2,q1]=q3)) False) False) (by kernel_rfl) ?_
 conv=>zeta
 try simp only [Z8]
 try simp only [Ze]
 try simp only [Za]
 try simp only [Zf]
 try simp only [Zg]
 try simp only [Z9]
 try simp only [Y_s]
 subst hl hh
 unfold loH hiH
 refine ⟨ha,hb,fun h=> ?_,fun h=> ?_⟩
 ·rw [if_pos h,if_pos h]
 ·rw [if_neg h,if_neg h]
def ZjM:ZG:=fun args _ K=>match args with
 | [.agg [.arr .u8 32 a],.agg [.arr .u8 32 b]]=>(a.length=32/\b.length=32)/\K (.tuple [.agg [.arr .u8 32 (loH a b)],.agg [.arr .u8 32 (hiH a b)]])
 | _=>False
theorem Zhg (args:List AV) (h:Z6) (K:AV->Prop) (hl:ZjM args h K):Zi PP 45 args h fun o h'=>∃v,o=.ret v/\h'=h/\K v:=by
 unfold ZjM at hl
 split at hl
 ·obtain ⟨⟨h1,h2⟩,hK⟩:=hl
  exact Yu Zp rfl (Zm6 _ _ _ _ h1 h2 rfl rfl) (fun u hu=>hu▸hK)
 ·exact hl.elim
theorem Z60 {a b:List Int} (ha:a.length=32) (hb:b.length=32):(loH a b).length=32:=by unfold loH;split<;>assumption
theorem Z61 {a b:List Int} (ha:a.length=32) (hb:b.length=32):(hiH a b).length=32:=by unfold hiH;split<;>assumption
theorem Zm7 (m:Nat) (g:Nat->InS) (hm:m<1000):
  evF G0 20 91 [.vrows 130 (m+1) (Zk g) (m+1)] ⟨0,[]⟩ (ZL 0 (.ret (.nslice ⟨0,0,130,0,0⟩ 130 (m+1) (m+1))) 1 [(0,.rows 130 (m+1) (Zk g))]):=by
 refine @Eq.mpr _ (let q1:=m+1;let q2:=0+q1;let q3:=decide (q2=q1);
 Z0 (decide (q2*144<=140737488355328)) (Z0 q3 (Z0 (decide (q1<=q2)) (Z0 q3 (Zr 0 [(0,0)] q1 (Zk g) (ZE 0 (fun (x:Nat)=>[]) (Zk g))/\True) False) False) False) False) (by kernel_rfl) ?_
 conv=>zeta
 try simp only [Z8]
 try simp only [Ze]
 try simp only [Za]
 try simp only [Zf]
 try simp only [Zg]
 try simp only [Z9]
 try simp only [Y_s]
 exact ⟨by omega,Yf fun i _=>by rw [Vh (Nat.zero_le _)];rfl⟩
theorem Zm8 (g:Nat->InS):
  evF G0 20 91 [.nilslice] ⟨0,[]⟩ (ZL 0 (.ret (.nslice ⟨0,0,130,0,0⟩ 130 0 0)) 1 [(0,.rows 130 0 (Zk g))]):=by
 refine @Eq.mpr _ (True) (by kernel_rfl) ?_
 trivial
theorem Zm9 (g:Nat->InS):
  evF G0 20 91 [.fslice] ⟨0,[]⟩ (ZL 0 (.ret (.nslice ⟨0,0,130,0,0⟩ 130 0 0)) 1 [(0,.rows 130 0 (Zk g))]):=by
 refine @Eq.mpr _ (Zr 0 [(0,0)] 0 (Zk g) (ZE 0 (fun (x:Nat)=>[]) fun (x:Nat)=>[])/\True) (by kernel_rfl) ?_
 try simp only [Z8]
 try simp only [Ze]
 try simp only [Za]
 try simp only [Zf]
 try simp only [Zg]
 try simp only [Z9]
 try simp only [Y_s]
 exact Yf fun i hi=>absurd hi (Nat.not_lt_zero i)
theorem Zes (n:Nat) (g:Nat->InS) (hn:n<1000):Zy PP 91 [.vrows 130 n (Zk g) n] (.nslice ⟨0,0,130,0,0⟩ 130 n n) 1 [(0,.rows 130 n (Zk g))]:=by
 match n,hn with
 | 0,_=>exact Zy.vrows0 (.evM Zp (Zm8 g)) (.evM Zp (Zm9 g))
 | m+1,h=>exact .evM Zp (Zm7 m g (by omega))
def ZjN:ZR:=fun args h K=>ZH none h true 20 args fun a=>match a with
 | [v]=>∃N g,Z3W v N g/\N<1000/\K (.ret (.nslice ⟨h.next,0,130,0,0⟩ 130 N N)) ⟨h.next+1,(h.next,.rows 130 N (Zk g))::h.bs⟩
 | _=>False
theorem Zhh (args:List AV) (h:Z6) (K:KO) (hl:ZjN args h K):Zi PP 91 args h K:=by
 refine Zy.fsumm (d:=20) (Zm _ _ _ _ _ hl fun a ha=> ?_)
 split at ha
 ·obtain ⟨N,g,h1,h2,hK⟩:=ha
  exact ⟨_,_,_,_,(Zes N g h2).conv fun E r hr=>hr.head (fun _ hc=>h1.rel hc) (fun _ hc=>hc),rfl,⟨by decide,.rows _ _ _ (fun i _=>(g i).plainC),trivial⟩,hK⟩
 ·exact ha.elim
theorem Zma (m:Nat) (g:Nat->ZK) (hm:m<1000):
  evF G0 20 92 [.vrows 132 (m+1) (Zj g) (m+1)] ⟨0,[]⟩ (ZL 0 (.ret (.nslice ⟨0,0,132,0,0⟩ 132 (m+1) (m+1))) 1 [(0,.rows 132 (m+1) (Zj g))]):=by
 refine @Eq.mpr _ (let q1:=m+1;let q2:=0+q1;let q3:=decide (q2=q1);
 Z0 (decide (q2*160<=140737488355328)) (Z0 q3 (Z0 (decide (q1<=q2)) (Z0 q3 (Zr 0 [(0,0)] q1 (Zj g) (ZE 0 (fun (x:Nat)=>[]) (Zj g))/\True) False) False) False) False) (by kernel_rfl) ?_
 conv=>zeta
 try simp only [Z8]
 try simp only [Ze]
 try simp only [Za]
 try simp only [Zf]
 try simp only [Zg]
 try simp only [Z9]
 try simp only [Y_s]
 exact ⟨by omega,ZP fun i _=>by rw [Vh (Nat.zero_le _)];rfl⟩
theorem Zmb (g:Nat->ZK):
  evF G0 20 92 [.nilslice] ⟨0,[]⟩ (ZL 0 (.ret (.nslice ⟨0,0,132,0,0⟩ 132 0 0)) 1 [(0,.rows 132 0 (Zj g))]):=by
 refine @Eq.mpr _ (True) (by kernel_rfl) ?_
 trivial
theorem Zmc (g:Nat->ZK):
  evF G0 20 92 [.fslice] ⟨0,[]⟩ (ZL 0 (.ret (.nslice ⟨0,0,132,0,0⟩ 132 0 0)) 1 [(0,.rows 132 0 (Zj g))]):=by
 refine @Eq.mpr _ (Zr 0 [(0,0)] 0 (Zj g) (ZE 0 (fun (x:Nat)=>[]) fun (x:Nat)=>[])/\True) (by kernel_rfl) ?_
 try simp only [Z8]
 try simp only [Ze]
 try simp only [Za]
 try simp only [Zf]
 try simp only [Zg]
 try simp only [Z9]
 try simp only [Y_s]
 exact ZP fun i hi=>absurd hi (Nat.not_lt_zero i)
theorem Zet (n:Nat) (g:Nat->ZK) (hn:n<1000):Zy PP 92 [.vrows 132 n (Zj g) n] (.nslice ⟨0,0,132,0,0⟩ 132 n n) 1 [(0,.rows 132 n (Zj g))]:=by
 match n,hn with
 | 0,_=>exact Zy.vrows0 (.evM Zp (Zmb g)) (.evM Zp (Zmc g))
 | m+1,h=>exact .evM Zp (Zma m g (by omega))
def ZjO:ZR:=fun args h K=>ZH none h true 20 args fun a=>match a with
 | [v]=>∃N g,Z1D v N g/\N<1000/\K (.ret (.nslice ⟨h.next,0,132,0,0⟩ 132 N N)) ⟨h.next+1,(h.next,.rows 132 N (Zj g))::h.bs⟩
 | _=>False
theorem Zhi (args:List AV) (h:Z6) (K:KO) (hl:ZjO args h K):Zi PP 92 args h K:=by
 refine Zy.fsumm (d:=20) (Zm _ _ _ _ _ hl fun a ha=> ?_)
 split at ha
 ·obtain ⟨N,g,h1,h2,hK⟩:=ha
  exact ⟨_,_,_,_,(Zet N g h2).conv fun E r hr=>hr.head (fun _ hc=>h1.rel hc) (fun _ hc=>hc),rfl,⟨by decide,.rows _ _ _ (fun i _=>(g i).plainC),trivial⟩,hK⟩
 ·exact ha.elim
def Z0Q (tl th ta:List Int) (x:InS):InS:=if x.way=1 then ⟨x.name,x.index,x.way,tl,th,x.secret⟩ else if x.way=4 then x else ⟨x.name,x.index,x.way,ta,x.also,x.secret⟩
def Zo6 (t:TxS) (a b:List Int) (G:Nat->InS):Z6:=⟨7,[(0,.flat [.int .i64 t.num,.nslice ⟨5,0,130,0,0⟩ 130 t.N t.N,.nslice ⟨6,0,132,0,0⟩ 132 t.M t.M]),(1,.flat [.arr .u8 32 a]),(2,.flat [.arr .u8 32 b]),(3,.flat t.c),(4,.flat txZ),(5,.rows 130 t.N (Zk G)),(6,.rows 132 t.M (Zj t.outs))]⟩
def Zo7:Y1:=[(10,.ptr (some ⟨0,0,0,0,0⟩)),(4,.ptr (some ⟨1,0,0,0,0⟩)),(5,.ptr (some ⟨2,0,0,0,0⟩)),(9,.func (.func 90) [] [.ptr (some ⟨3,0,0,0,0⟩)]),(6,.ptr (some ⟨4,0,0,0,0⟩))]
def Zhj (t:TxS) (a b:List Int) (G:Nat->InS) (i:Nat):St:=⟨75,(34,.int .i64 i)::(33,.int .i64 t.N)::Zo7,Zo6 t a b G,[]⟩
def ZbO (t:TxS) (G:Nat->InS):St:=⟨75,[(10,.ptr (some ⟨0,0,0,0,0⟩)),(6,.ptr (some ⟨1,0,0,0,0⟩))],⟨4,[(0,.flat [.int .i64 t.num,.nslice ⟨2,0,130,0,0⟩ 130 t.N t.N,.nslice ⟨3,0,132,0,0⟩ 132 t.M t.M]),(1,.flat txZ),(2,.rows 130 t.N (Zk G)),(3,.rows 132 t.M (Zj t.outs))]⟩,[]⟩
def Z8X (A:List Int->Int×Int) (Tg:List Int->TxS->List Int):ZG:=fun args h K=>ZH none h true 20 args fun a=>match a with
 | [.agg l,.agg [.arr .u8 32 key]]=>∃t,Z0d l t/\(t.Ok/\key.length=32/\Yj A t=true)/\K (.tuple [.agg [.arr .u8 32 (Tg key t)],.int .i64 0])
 | _=>False
theorem Z4Y (args:List AV) (h:Z6) (K:AV->Prop) (hl:Z8X ZJ ZO args h K):Zi PP 83 args h fun o h'=>∃v,o=.ret v/\h'=h/\K v:=by
 refine Zbn args h K (Zm _ _ _ _ _ hl fun a ha=> ?_)
 split at ha
 ·obtain ⟨t,h1,⟨h2,h3,h4⟩,hK⟩:=ha
  refine ⟨t,h1,⟨h2,h3⟩, ?_⟩
  rw [h4];exact hK
 ·exact ha.elim
noncomputable def Zeu (A:List Int->Int×Int) (Tg:List Int->TxS->List Int):Zh:=(G0.withP 45 ZjM).withP 83 (Z8X A Tg)
theorem Zad:(Zeu ZJ ZO).Ok:=Zh.withP_ok (Zh.withP_ok Zp Zhg) Z4Y
theorem Zmd (A:List Int->Int×Int) (Tg:List Int->TxS->List Int) (t:TxS) (a b tl th ta:List Int) (G G1:Nat->InS) (i:Nat) (Z1 Z2:Prop) (ht:t.Ok) (hN:t.N<=24) (hc:Yj A t=true) (ha:a.length=32) (hb:b.length=32) (htl:tl=Tg (loH a b) t) (hth:th=Tg (hiH a b) t) (hta:ta=Tg a t) (hi:i<=t.N) (hG:∀j,i<=j->G j=t.ins j) (hG1:i<t.N->∀j,j<t.N->G1 j=if j=i then Z0Q tl th ta (t.ins i) else G j) (h1:i<t.N->Z1) (h2:i=t.N->Z2):
  ZM (Zeu A Tg) 20 43 0 0 (Zhj t a b G i) (rdM 0 0 9 (Zhj t a b G1 (i+1)) (ZbO t G) (ZbO t G) (ZbO t G) Z1 Z2 False False):=by
 refine @Eq.mpr _ (Z0 (decide ((↑i:Int)<(↑t.N:Int)))
 (Z0 (decide ((0:Int)<=(↑i:Int)/\(↑i:Int)<(↑t.N:Int)))
 (Z0 (decide ((0:Nat)+Int.toNat (↑i:Int)<t.N))
 (Z0 ((G ((0:Nat)+Int.toNat (↑i:Int))).way==(1:Int))
 ((List.length a=(32:Nat)/\List.length b=(32:Nat))/\
 ∃(t_1:TxS),
 (t_1.num=t.num/\((t.N=t.N/\t_1.N=t.N)/\∀(i:Nat),i<t.N->Zk t.ins i=InS.c (t_1.ins i))/\(t.M=t.M/\t_1.M=t.M)/\∀(i:Nat),i<t.M->Zj t.outs i=ZK.c (t_1.outs i))/\
 (TxS.Ok t_1/\List.length (loH a b)=(32:Nat)/\Yj A t_1=true)/\
 hiH a b=hiH a b/\
 ∃(t_2:TxS),
 (t_2.num=t.num/\((t.N=t.N/\t_2.N=t.N)/\∀(i:Nat),i<t.N->Zk t.ins i=InS.c (t_2.ins i))/\(t.M=t.M/\t_2.M=t.M)/\∀(i:Nat),i<t.M->Zj t.outs i=ZK.c (t_2.outs i))/\
 (TxS.Ok t_2/\List.length (hiH a b)=(32:Nat)/\Yj A t_2=true)/\
 Z0 (decide ((0:Nat)+Int.toNat (↑i:Int)<t.N))
 (Z0 (decide ((0:Nat)+Int.toNat (↑i:Int)<t.N))
 (Z0 (decide (wrap i64 ((↑i:Int)+(1:Int))=(↑(i+(1:Nat)):Int)))
 (Z0 (decide ((↑t.N:Int)=(↑t.N:Int)))
 (Z0 (decide (t.num=t.num))
 (Z0 (decide (t.N=t.N))
 (Z0 (decide (t.N<=t.N))
 (Z0 (decide (t.M=t.M))
 (Z0 (decide (t.M<=t.M))
 (a=a/\
 b=b/\
 Z0 (decide (t.num=t.num))
 (Z0 (decide (t.N=t.N))
 (Zk t.ins=Zk t.ins/\
 Z0 (decide (t.N=t.N))
 (Z0 (decide (t.M=t.M))
 (Zj t.outs=Zj t.outs/\
 Z0 (decide (t.M=t.M))
 (Z0 (decide (t.N=t.N))
 (Zr (0:Nat) [((6:Nat),(6:Nat)),((5:Nat),(5:Nat)),((4:Nat),(4:Nat)),((3:Nat),(3:Nat)),((2:Nat),(2:Nat)),((1:Nat),(1:Nat)),((0:Nat),(0:Nat))] t.N (Zk G1)
 (QM (QM (Zk G) ((0:Nat)+Int.toNat (↑i:Int)) [AV.arr u8 (32:Nat) (G ((0:Nat)+Int.toNat (↑i:Int))).name,AV.int i64 (G ((0:Nat)+Int.toNat (↑i:Int))).index,AV.int i64 (G ((0:Nat)+Int.toNat (↑i:Int))).way,AV.arr u8 (32:Nat) (Tg (loH a b) t_1),AV.arr u8 (32:Nat) (G ((0:Nat)+Int.toNat (↑i:Int))).also,AV.arr u8 (32:Nat) (G ((0:Nat)+Int.toNat (↑i:Int))).secret]) ((0:Nat)+Int.toNat (↑i:Int))
 [AV.arr u8 (32:Nat)
 (match Nat.beq ((0:Nat)+Int.toNat (↑i:Int)) ((0:Nat)+Int.toNat (↑i:Int)) with
 | true=>(G ((0:Nat)+Int.toNat (↑i:Int))).name
 | false=>(G ((0:Nat)+Int.toNat (↑i:Int))).name),
 AV.int i64
 (match Nat.beq ((0:Nat)+Int.toNat (↑i:Int)) ((0:Nat)+Int.toNat (↑i:Int)) with
 | true=>(G ((0:Nat)+Int.toNat (↑i:Int))).index
 | false=>(G ((0:Nat)+Int.toNat (↑i:Int))).index),
 AV.int i64
 (match Nat.beq ((0:Nat)+Int.toNat (↑i:Int)) ((0:Nat)+Int.toNat (↑i:Int)) with
 | true=>(G ((0:Nat)+Int.toNat (↑i:Int))).way
 | false=>(G ((0:Nat)+Int.toNat (↑i:Int))).way),
 AV.arr u8 (32:Nat)
 (match Nat.beq ((0:Nat)+Int.toNat (↑i:Int)) ((0:Nat)+Int.toNat (↑i:Int)) with
 | true=>Tg (loH a b) t_1
 | false=>(G ((0:Nat)+Int.toNat (↑i:Int))).tag),
 AV.arr u8 (32:Nat) (Tg (hiH a b) t_2),
 AV.arr u8 (32:Nat)
 (match Nat.beq ((0:Nat)+Int.toNat (↑i:Int)) ((0:Nat)+Int.toNat (↑i:Int)) with
 | true=>(G ((0:Nat)+Int.toNat (↑i:Int))).secret
 | false=>(G ((0:Nat)+Int.toNat (↑i:Int))).secret)])/\
 Z0 (decide (t.M=t.M)) (Zr (0:Nat) [((6:Nat),(6:Nat)),((5:Nat),(5:Nat)),((4:Nat),(4:Nat)),((3:Nat),(3:Nat)),((2:Nat),(2:Nat)),((1:Nat),(1:Nat)),((0:Nat),(0:Nat))] t.M (Zj t.outs) (Zj t.outs)/\Z1) False)
 False)
 False)
 False)
 False)
 False)
 False)
 False)
 False)
 False)
 False)
 False)
 False)
 False)
 False)
 False)
 (Z0 ((G ((0:Nat)+Int.toNat (↑i:Int))).way==(4:Int))
 (Z0 (decide (wrap i64 ((↑i:Int)+(1:Int))=(↑(i+(1:Nat)):Int)))
 (Z0 (decide ((↑t.N:Int)=(↑t.N:Int))) (Z0 (decide (t.num=t.num)) (Z0 (decide (t.N=t.N)) (Z0 (decide (t.N<=t.N)) (Z0 (decide (t.M=t.M)) (Z0 (decide (t.M<=t.M)) (a=a/\b=b/\Z0 (decide (t.num=t.num)) (Z0 (decide (t.N=t.N)) (Zk t.ins=Zk t.ins/\Z0 (decide (t.N=t.N)) (Z0 (decide (t.M=t.M)) (Zj t.outs=Zj t.outs/\Z0 (decide (t.M=t.M)) (Z0 (decide (t.N=t.N)) (Zr (0:Nat) [((6:Nat),(6:Nat)),((5:Nat),(5:Nat)),((4:Nat),(4:Nat)),((3:Nat),(3:Nat)),((2:Nat),(2:Nat)),((1:Nat),(1:Nat)),((0:Nat),(0:Nat))] t.N (Zk G1) (Zk G)/\Z0 (decide (t.M=t.M)) (Zr (0:Nat) [((6:Nat),(6:Nat)),((5:Nat),(5:Nat)),((4:Nat),(4:Nat)),((3:Nat),(3:Nat)),((2:Nat),(2:Nat)),((1:Nat),(1:Nat)),((0:Nat),(0:Nat))] t.M (Zj t.outs) (Zj t.outs)/\Z1) False) False) False) False) False) False) False) False) False) False) False) False) False) False)
 (∃(t_1:TxS),
 (t_1.num=t.num/\((t.N=t.N/\t_1.N=t.N)/\∀(i:Nat),i<t.N->Zk t.ins i=InS.c (t_1.ins i))/\(t.M=t.M/\t_1.M=t.M)/\∀(i:Nat),i<t.M->Zj t.outs i=ZK.c (t_1.outs i))/\
 (TxS.Ok t_1/\List.length a=(32:Nat)/\Yj A t_1=true)/\
 Z0 (decide ((0:Nat)+Int.toNat (↑i:Int)<t.N))
 (Z0 (decide (wrap i64 ((↑i:Int)+(1:Int))=(↑(i+(1:Nat)):Int)))
 (Z0 (decide ((↑t.N:Int)=(↑t.N:Int)))
 (Z0 (decide (t.num=t.num))
 (Z0 (decide (t.N=t.N))
 (Z0 (decide (t.N<=t.N))
 (Z0 (decide (t.M=t.M))
 (Z0 (decide (t.M<=t.M))
 (a=a/\
 b=b/\
 Z0 (decide (t.num=t.num))
 (Z0 (decide (t.N=t.N))
 (Zk t.ins=Zk t.ins/\
 Z0 (decide (t.N=t.N))
 (Z0 (decide (t.M=t.M))
 (Zj t.outs=Zj t.outs/\
 Z0 (decide (t.M=t.M)) (Z0 (decide (t.N=t.N)) (Zr (0:Nat) [((6:Nat),(6:Nat)),((5:Nat),(5:Nat)),((4:Nat),(4:Nat)),((3:Nat),(3:Nat)),((2:Nat),(2:Nat)),((1:Nat),(1:Nat)),((0:Nat),(0:Nat))] t.N (Zk G1) (QM (Zk G) ((0:Nat)+Int.toNat (↑i:Int)) [AV.arr u8 (32:Nat) (G ((0:Nat)+Int.toNat (↑i:Int))).name,AV.int i64 (G ((0:Nat)+Int.toNat (↑i:Int))).index,AV.int i64 (G ((0:Nat)+Int.toNat (↑i:Int))).way,AV.arr u8 (32:Nat) (Tg a t_1),AV.arr u8 (32:Nat) (G ((0:Nat)+Int.toNat (↑i:Int))).also,AV.arr u8 (32:Nat) (G ((0:Nat)+Int.toNat (↑i:Int))).secret])/\Z0 (decide (t.M=t.M)) (Zr (0:Nat) [((6:Nat),(6:Nat)),((5:Nat),(5:Nat)),((4:Nat),(4:Nat)),((3:Nat),(3:Nat)),((2:Nat),(2:Nat)),((1:Nat),(1:Nat)),((0:Nat),(0:Nat))] t.M (Zj t.outs) (Zj t.outs)/\Z1) False) False) False)
 False)
 False)
 False)
 False)
 False)
 False)
 False)
 False)
 False)
 False)
 False)
 False)))
 False)
 False)
 (Z0 (decide (t.num=t.num)) (Z0 (decide (t.N=t.N)) (Z0 (decide (t.N<=t.N)) (Z0 (decide (t.M=t.M)) (Z0 (decide (t.M<=t.M)) (Z0 (decide (t.N=t.N)) (Zr (0:Nat) [((3:Nat),(6:Nat)),((2:Nat),(5:Nat)),((1:Nat),(4:Nat)),((0:Nat),(0:Nat))] t.N (Zk G) (Zk G)/\Z0 (decide (t.M=t.M)) (Zr (0:Nat) [((3:Nat),(6:Nat)),((2:Nat),(5:Nat)),((1:Nat),(4:Nat)),((0:Nat),(0:Nat))] t.M (Zj t.outs) (Zj t.outs)/\Z2) False) False) False) False) False) False) False)) (by kernel_rfl) ?_
 try simp only [Z8]
 try simp only [Ze]
 try simp only [Za]
 try simp only [Zf]
 try simp only [Zg]
 try simp only [Z9]
 try simp only [Y_s]
 refine ⟨fun hlt'=> ?_,fun hge=>⟨Yf fun _ _=>rfl,ZP fun _ _=>rfl,h2 (by omega)⟩⟩
 have hlt:i<t.N:=by omega
 have hwr:i64.wrap ((i:Int)+1)=((i+1:Nat):Int):=by rw [w64 (by omega)];omega
 have hG1:=hG1 hlt
 have hZ:=h1 hlt
 have hO:∀τ,Zr 0 τ t.M (Zj t.outs) (Zj t.outs):=fun τ=>ZP fun _ _=>rfl
 have e1:=hG i (Nat.le_refl _)
 rw [e1]
 have hU:∀(A1:List AV) j,A1=(Z0Q tl th ta (t.ins i)).c->j<t.N->QM (Zk G) i A1 j=(G1 j).c:=fun A1 j hA hj=>by
  rw [Wy,hG1 j hj]
  by_cases e:j=i
  ·subst e;rw [Nat.beq_refl,if_pos rfl];exact hA
  ·rw [ZB e,if_neg e];rfl
 have hU2:∀(A1 B1:List AV) j,B1=(Z0Q tl th ta (t.ins i)).c->j<t.N->QM (QM (Zk G) i A1) i B1 j=(G1 j).c:=fun A1 B1 j hB hj=>by
  rw [Wy,Wy,hG1 j hj]
  by_cases e:j=i
  ·subst e;rw [Nat.beq_refl,if_pos rfl];exact hB
  ·rw [ZB e,if_neg e];rfl
 refine ⟨by omega,hlt,fun k1=>⟨⟨ha,hb⟩,t,⟨rfl,⟨rfl,fun _ _=>rfl⟩,rfl,fun _ _=>rfl⟩,⟨ht,Z60 ha hb,hc⟩,t,⟨rfl,⟨rfl,fun _ _=>rfl⟩,rfl,fun _ _=>rfl⟩,⟨ht,Z61 ha hb,hc⟩,hlt,hlt,hwr,Yf fun j hj=>hU2 _ _ j ?_ hj,hO _,hZ⟩,fun k1=>⟨fun k2=>⟨hwr,Yf fun j hj=> ?_,hO _,hZ⟩,fun k2=>⟨t,⟨rfl,⟨rfl,fun _ _=>rfl⟩,rfl,fun _ _=>rfl⟩,⟨ht,ha,hc⟩,hlt,hwr,Yf fun j hj=>hU _ j ?_ hj,hO _,hZ⟩⟩⟩
 ·have k1:(t.ins i).way=1:=by simpa using k1
  unfold Z0Q
  rw [if_pos k1,<-htl,<-hth]
  simp only [Nat.beq_refl]
  rfl
 ·have k1:¬(t.ins i).way=1:=by simpa using k1
  have k2:(t.ins i).way=4:=by simpa using k2
  rw [hG1 j hj]
  split
  ·rename_i e
   subst e
   unfold Z0Q
   rw [if_neg k1,if_pos k2,<-e1];rfl
  ·rfl
 ·have k1:¬(t.ins i).way=1:=by simpa using k1
  have k2:¬(t.ins i).way=4:=by simpa using k2
  unfold Z0Q
  rw [if_neg k1,if_neg k2,<-hta]
  rfl
def Z3Y (Tg:List Int->TxS->List Int) (t:TxS) (a b:List Int) (i j:Nat):InS:=if j<i then Z0Q (Tg (loH a b) t) (Tg (hiH a b) t) (Tg a t) (t.ins j) else t.ins j
def Z7m (Tg:List Int->TxS->List Int) (t:TxS) (a b:List Int):TxS:=⟨t.num,t.N,fun j=>Z0Q (Tg (loH a b) t) (Tg (hiH a b) t) (Tg a t) (t.ins j),t.M,t.outs⟩
structure Zhk (A:List Int->Int×Int) (Tg:List Int->TxS->List Int) (t:TxS) (a b:List Int) (G:Nat->Nat->InS):Prop where
 ht:t.Ok
 hN:t.N<=24
 hc:Yj A t=true
 ha:a.length=32
 hb:b.length=32
 hG:G=Z3Y Tg t a b
noncomputable def Zev (A:List Int->Int×Int) (Tg:List Int->TxS->List Int) (t:TxS) (a b:List Int) (G:Nat->Nat->InS):Zh:=((((Zeu A Tg).withP 89 (ckS A)).withF 91 ZjN).withF 92 ZjO).withL 43 0 (goM 0 (Zhj t a b t.ins 0) (Zhk A Tg t a b G) (YB 0 t.N 9 (fun i=>i<t.N) (fun i=>i=t.N) (fun _=>False) (fun _=>False) (fun i=>ZbO t (G i)) (fun i=>ZbO t (G i)) (fun i=>ZbO t (G i))))
theorem Z7n (t:TxS) (a b:List Int) (G:Nat->Nat->InS):(Zev ZJ ZO t a b G).Ok:=by
 have h0:((((Zeu ZJ ZO).withP 89 (ckS ZJ)).withF 91 ZjN).withF 92 ZjO).Ok:=Zh.withF_ok (Zh.withF_ok (Zh.withP_ok Zad Zdm) Zhh) Zhi
 refine Zh.withL_join (H:=Zeu ZJ ZO) h0 rfl ?_
 exact Zh.withGoM (N:=20) (S:=fun i=>Zhj t a b (Z3Y ZO t a b i) i) Zad (by kernel_rfl) fun hC=>by
  obtain ⟨c1,c2,c3,c4,c5,c6⟩:=hC
  subst c6
  refine ⟨?_,fun i hi _=>Zmd ZJ ZO t a b _ _ _ _ _ i _ _ c1 c2 c3 c4 c5 rfl rfl rfl hi (fun j hj=>if_neg (by omega)) (fun hlt j hj=> ?_) (fun h=>⟨h,h⟩) (fun h=>h)⟩
  ·have e:Z3Y ZO t a b 0=t.ins:=funext fun j=>if_neg (Nat.not_lt_zero j)
   rw [e]
  ·unfold Z3Y
   by_cases e:j=i
   ·subst e;rw [if_pos (Nat.lt_succ_self _),if_pos rfl]
   ·rw [if_neg e]
    by_cases h:j<i
    ·rw [if_pos h,if_pos (by omega)]
    ·rw [if_neg h,if_neg (by omega)]
theorem Zme (A:List Int->Int×Int) (Tg:List Int->TxS->List Int) (t:TxS) (a b:List Int) (G:Nat->Nat->InS) (ht:t.Ok) (hb:Yj A t=false):
  evF (Zev A Tg t a b G) 20 43 [.agg t.c,.agg [.arr .u8 32 a],.agg [.arr .u8 32 b]] ⟨0,[]⟩ (ZL 0 (.ret (.tuple [.agg txZ,.int .i64 2])) 0 []):=by
 refine @Eq.mpr _ (let q1:=t.num;let q2:=t.N;let q3:=t.M;let q4:=decide (q3=q3);let q5:=Zj t.outs;let q6:=q5=q5;let q7:=decide (q1=q1);let q8:=decide (q2=q2);let q9:=Zk t.ins;let q10:=[(6,5),(5,4),(4,3),(3,0),(2,2),(1,1),(0,6)];
 ∃(t_1:TxS),
 (t_1.num=q1/\((q2=q2/\t_1.N=q2)/\∀(i:Nat),i<q2->q9 i=InS.c (t_1.ins i))/\(q3=q3/\t_1.M=q3)/\∀(i:Nat),i<q3->q5 i=ZK.c (t_1.outs i))/\
 TxS.Ok t_1/\
 Z0 (Yj A t_1)
 (∃(N:Nat),
 let q21:=decide (N=q2);
 ∃(g:Nat->InS),
 ((q2=q2/\N=q2)/\∀(i:Nat),i<q2->q9 i=InS.c (g i))/\
 N<1000/\
 Z0 q4
 (q6/\
 Z0 q4
 (Z0 q7
 (∃(N_1:Nat),
 let q23:=decide (N_1=q3);
 ∃(g_1:Nat->ZK),((q3=q3/\N_1=q3)/\∀(i:Nat),i<q3->q5 i=ZK.c (g_1 i))/\N_1<1000/\Z0 q7 (Z0 (decide ((↑N:Int)=(↑q2:Int))) (Z0 q7 (Z0 q21 (Z0 (decide (q2<=N)) (Z0 q23 (Z0 (decide (q3<=N_1)) (a=a/\b=b/\Z0 q7 (Z0 q8 (q9=q9/\Z0 q8 (Z0 q4 (q6/\Z0 q4 (Z0 q21 (Zr 0 q10 q2 q9 (Zk g)/\Z0 q23 (Zr 0 q10 q3 q5 (Zj g_1)/\Zhk A Tg t a b G/\∀(i:Nat),i<=q2->(∀(j:Nat),j<i->(fun (i:Nat)=>i<q2) j)->(i=q2->Z0 (decide (q1=0)) False False)/\(False->False)/\(False->False)) False) False) False) False) False) False) False) False) False) False) False) False) False) False)
 False)
 False)
 False)
 True) (by kernel_rfl) ?_
 conv=>zeta
 try simp only [Z8]
 try simp only [Ze]
 try simp only [Za]
 try simp only [Zf]
 try simp only [Zg]
 try simp only [Z9]
 try simp only [Y_s]
 exact ⟨t,⟨rfl,⟨rfl,fun _ _=>rfl⟩,rfl,fun _ _=>rfl⟩,ht,fun k=>(by rw [hb] at k;cases k),fun _=>trivial⟩
theorem Zmf (A:List Int->Int×Int) (Tg:List Int->TxS->List Int) (t:TxS) (a b:List Int) (G:Nat->Nat->InS) (g:Nat->InS) (hC:Zhk A Tg t a b G) (hM:t.M<=24) (hg:g=G t.N):
  evF (Zev A Tg t a b G) 20 43 [.agg t.c,.agg [.arr .u8 32 a],.agg [.arr .u8 32 b]] ⟨0,[]⟩ (ZL 0 (.ret (.tuple [.agg [.int .i64 t.num,.nslice ⟨0,0,130,0,0⟩ 130 t.N t.N,.nslice ⟨1,0,132,0,0⟩ 132 t.M t.M],.int .i64 0])) 2 [(0,.rows 130 t.N (Zk g)),(1,.rows 132 t.M (Zj t.outs))]):=by
 refine @Eq.mpr _ (let q1:=t.num;let q2:=t.N;let q3:=t.M;let q4:=decide (q3=q3);let q5:=Zj t.outs;let q6:=q5=q5;let q7:=decide (q1=q1);let q8:=decide (q2=q2);let q9:=Zk t.ins;let q10:=[(6,5),(5,4),(4,3),(3,0),(2,2),(1,1),(0,6)];let q11:=[(1,3),(0,2)];let q12:=decide (q2=0);let q13:=decide (q3=0);
 ∃(t_1:TxS),
 (t_1.num=q1/\((q2=q2/\t_1.N=q2)/\∀(i:Nat),i<q2->q9 i=InS.c (t_1.ins i))/\(q3=q3/\t_1.M=q3)/\∀(i:Nat),i<q3->q5 i=ZK.c (t_1.outs i))/\
 TxS.Ok t_1/\
 Z0 (Yj A t_1)
 (∃(N:Nat),
 let q27:=decide (N=q2);
 ∃(g_1:Nat->InS),
 ((q2=q2/\N=q2)/\∀(i:Nat),i<q2->q9 i=InS.c (g_1 i))/\
 N<1000/\
 Z0 q4
 (q6/\
 Z0 q4
 (Z0 q7
 (∃(N_1:Nat),
 let q29:=decide (N_1=q3);
 ∃(g_2:Nat->ZK),((q3=q3/\N_1=q3)/\∀(i:Nat),i<q3->q5 i=ZK.c (g_2 i))/\N_1<1000/\Z0 q7 (Z0 (decide ((↑N:Int)=(↑q2:Int))) (Z0 q7 (Z0 q27 (Z0 (decide (q2<=N)) (Z0 q29 (Z0 (decide (q3<=N_1)) (a=a/\b=b/\Z0 q7 (Z0 q8 (q9=q9/\Z0 q8 (Z0 q4 (q6/\Z0 q4 (Z0 q27 (Zr 0 q10 q2 q9 (Zk g_1)/\Z0 q29 (Zr 0 q10 q3 q5 (Zj g_2)/\Zhk A Tg t a b G/\∀(i:Nat),i<=q2->(∀(j:Nat),j<i->(fun (i:Nat)=>i<q2) j)->(i=q2->Z0 q7 (Z0 q8 (Z0 (decide (q2<=q2)) (Z0 q4 (Z0 (decide (q3<=q3)) (Z0 q8 (Zr 0 q11 q2 (Zk g) (Zk (G i))/\Z0 q4 (Zr 0 q11 q3 q5 q5/\True) False) False) False) False) False) False) False)/\(False->False)/\(False->False)) False) False) False) False) False) False) False) False) False) False) False) False) False) False)
 False)
 False)
 False)
 (Z0 (decide (0=q1)) (Z0 q12 (Z0 q12 (Z0 q13 (Z0 q13 False False) False) False) False) False)) (by kernel_rfl) ?_
 conv=>zeta
 try simp only [Z8]
 try simp only [Ze]
 try simp only [Za]
 try simp only [Zf]
 try simp only [Zg]
 try simp only [Z9]
 try simp only [Y_s]
 have hN:=hC.hN
 refine ⟨t,⟨rfl,⟨rfl,fun _ _=>rfl⟩,rfl,fun _ _=>rfl⟩,hC.ht,fun _=>⟨t.N,t.ins,⟨rfl,fun _ _=>rfl⟩,by omega,t.M,t.outs,⟨rfl,fun _ _=>rfl⟩,by omega,rfl,rfl,Nat.le_refl _,rfl,Nat.le_refl _,rfl,Yf fun _ _=>rfl,rfl,ZP fun _ _=>rfl,hC,fun i hi _=>⟨fun he=>⟨Yf fun _ _=>by rw [he,hg];rfl,ZP fun _ _=>rfl⟩,fun h=>h,fun h=>h⟩⟩,fun k=> ?_⟩
 rw [hC.hc] at k;cases k
def Zi8 (A:List Int->Int×Int) (Tg:List Int->TxS->List Int):ZR:=fun args h K=>ZH none h true 20 args fun a=>match a with
 | [.agg l,.agg [.arr .u8 32 a],.agg [.arr .u8 32 b]]=>∃t,Z0d l t/\(t.Ok/\a.length=32/\b.length=32)/\(Yj A t=false->K (.ret (.tuple [.agg txZ,.int .i64 2])) h)/\
  (Yj A t=true->K (.ret (.tuple [.agg [.int .i64 t.num,.nslice ⟨h.next,0,130,0,0⟩ 130 t.N t.N,.nslice ⟨h.next+1,0,132,0,0⟩ 132 t.M t.M],.int .i64 0])) ⟨h.next+2,(h.next,.rows 130 t.N (Zk (Z3Y Tg t a b t.N)))::(h.next+1,.rows 132 t.M (Zj t.outs))::h.bs⟩)
 | _=>False
theorem Zew (args:List AV) (h:Z6) (K:KO) (hl:Zi8 ZJ ZO args h K):Zi PP 43 args h K:=by
 refine Zy.fsumm (d:=20) (Zm _ _ _ _ _ hl fun a ha=> ?_)
 split at ha
 ·obtain ⟨t,h1,⟨h2,h3,h4⟩,k1,k2⟩:=ha
  cases hc:Yj ZJ t with
  | false=>exact ⟨_,_,_,_,(Zy.evM (Z7n t _ _ (fun _=>t.ins)) (Zme _ _ t _ _ _ h2 hc)).conv (fun E r hr=>hr.head (fun _ hc=>h1.rel hc) (fun _ hc=>hc)),rfl,trivial,k1 hc⟩
  | true=>
   have hf:=Xr h2 hc
   exact ⟨_,_,_,_,(Zy.evM (Z7n t _ _ _) (Zmf _ _ t _ _ _ _ ⟨h2,hf.n,hc,h3,h4,rfl⟩ hf.m rfl)).conv (fun E r hr=>hr.head (fun _ hc=>h1.rel hc) (fun _ hc=>hc)),rfl,⟨by decide,.rows _ _ _ (fun i _=>(Z3Y ZO t _ _ t.N i).plainC),by decide,.rows _ _ _ (fun i _=>(t.outs i).plainC),trivial⟩,k2 hc⟩
 ·exact ha.elim
def Zo8 (t:TxS) (a lo hi:List Int) (G:Nat->InS) (i:Nat):Z6:=⟨8,[(0,.flat t.c),(1,.flat [.arr .u8 32 lo]),(2,.flat [.arr .u8 32 hi]),(3,.flat [.int .i64 t.num,.nslice ⟨6,0,130,0,0⟩ 130 i i,.nslice ⟨7,0,132,0,0⟩ 132 t.M t.M]),(4,.flat [.arr .u8 32 a]),(5,.flat txZ),(6,.rows 130 i (Zk G)),(7,.rows 132 t.M (Zj t.outs))]⟩
def Zo9:Y1:=[(3,.ptr (some ⟨0,0,0,0,0⟩)),(8,.ptr (some ⟨1,0,0,0,0⟩)),(9,.ptr (some ⟨2,0,0,0,0⟩)),(10,.ptr (some ⟨3,0,0,0,0⟩)),(4,.ptr (some ⟨4,0,0,0,0⟩)),(6,.ptr (some ⟨5,0,0,0,0⟩))]
def Zhl (t:TxS) (a lo hi:List Int) (G:Nat->InS) (i:Nat):St:=⟨69,(11,.int .i64 i)::Zo9,Zo8 t a lo hi G i,[]⟩
def ZbP (t:TxS) (G:Nat->InS) (i:Nat):St:=⟨69,[(10,.ptr (some ⟨0,0,0,0,0⟩)),(6,.ptr (some ⟨1,0,0,0,0⟩))],⟨4,[(0,.flat [.int .i64 t.num,.nslice ⟨2,0,130,0,0⟩ 130 i i,.nslice ⟨3,0,132,0,0⟩ 132 t.M t.M]),(1,.flat txZ),(2,.rows 130 i (Zk G)),(3,.rows 132 t.M (Zj t.outs))]⟩,[]⟩
noncomputable def Zex (Tg:List Int->TxS->List Int):Zh:=G0.withP 62 (Z5R Tg)
theorem Zae:(Zex Q1).Ok:=Zh.withP_ok Zp Za3
theorem Zmg (G:Nat->InS) (x:InS) {i j:Nat} (hj:j<i+1):ZE i (Zk G) (ZT x.c 0 130) j=(if j=i then x else G j).c:=by
 by_cases e:j=i
 ·subst e;rw [if_pos rfl,Vh (Nat.le_refl _),Nat.sub_self];rfl
 ·rw [if_neg e,Z24 (by omega)];rfl
theorem Zmh (Tg:List Int->TxS->List Int) (t:TxS) (a lo hj tl th ta:List Int) (G G1:Nat->InS) (i:Nat) (Z1 Z2:Prop) (ht:t.Fine) (ha:a.length=32) (hlo:lo.length=32) (hhj:hj.length=32) (htl:tl=Tg lo t) (hth:th=Tg hj t) (hta:ta=Tg a t) (hi:i<=t.N) (hG1:i<t.N->∀j,j<i+1->G1 j=if j=i then Z0Q tl th ta (t.ins i) else G j) (h1:i<t.N->Z1) (h2:i=t.N->Z2):
  ZM (Zex Tg) 20 120 0 0 (Zhl t a lo hj G i) (rdM 0 0 9 (Zhl t a lo hj G1 (i+1)) (ZbP t G i) (ZbP t G i) (ZbP t G i) Z1 Z2 False False):=by
 refine @Eq.mpr _ (let q1:=t.N;let q2:=t.ins (Int.toNat (↑i:Int));let q3:=q2.way;let q4:=t.num;let q5:=t.M;let q6:=decide (i=i);let q7:=i+1;let q8:=decide (q7*144<=140737488355328);let q9:=decide (wrap i64 ((↑i:Int)+1)=(↑q7:Int));let q10:=decide (q4=q4);let q11:=decide (q1=q1);let q12:=Zk t.ins;let q13:=q12=q12;let q14:=decide (q5=q5);let q15:=Zj t.outs;let q16:=q15=q15;let q17:=decide (q7=q7);let q18:=decide (q7<=q7);let q19:=decide (q5<=q5);let q20:=[(7,7),(6,10),(5,5),(4,4),(3,3),(2,2),(1,1),(0,0)];let q21:=Zk G1;let q22:=Zk G;let q23:=AV.arr u8 32 q2.name;let q24:=AV.int i64 q2.index;let q25:=AV.int i64 q3;let q26:=[AV.arr u8 32 q2.secret];let q27:=Z0 q14 (Zr 0 q20 q5 q15 q15/\Z1) False;let q28:=AV.arr u8 32 q2.also::q26;let q29:=[(3,7),(2,6),(1,5),(0,3)];
 Z0 (decide ((↑i:Int)<(↑q1:Int)))
 (Z0 (decide (0<=(↑i:Int)/\(↑i:Int)<(↑q1:Int)))
 (Z0 (q3==1) (∃(t:TxS),(t.num=q4/\((q1=q1/\t.N=q1)/\∀(i:Nat),i<q1->q12 i=InS.c (t.ins i))/\(q5=q5/\t.M=q5)/\∀(i:Nat),i<q5->q15 i=ZK.c (t.outs i))/\(TxS.Fine t/\List.length lo=32)/\∃(t_1:TxS),(t_1.num=q4/\((q1=q1/\t_1.N=q1)/\∀(i:Nat),i<q1->q12 i=InS.c (t_1.ins i))/\(q5=q5/\t_1.M=q5)/\∀(i:Nat),i<q5->q15 i=ZK.c (t_1.outs i))/\(TxS.Fine t_1/\List.length hj=32)/\Z0 q6 (Z0 q8 (Z0 q9 (Z0 q10 (Z0 q11 (q13/\Z0 q11 (Z0 q14 (q16/\Z0 q14 (lo=lo/\hj=hj/\Z0 q10 (Z0 q17 (Z0 q18 (Z0 q14 (Z0 q19 (a=a/\Z0 q17 (Zr 0 q20 q7 q21 (ZE i q22 (ZT (q23::q24::q25::AV.arr u8 32 (Tg lo t)::AV.arr u8 32 (Tg hj t_1)::q26) 0 130))/\q27) False) False) False) False) False) False) False) False) False) False) False) False) False) False)
 (Z0 (q3==4) (Z0 q6 (Z0 q8 (Z0 q9 (Z0 q10 (Z0 q11 (q13/\Z0 q11 (Z0 q14 (q16/\Z0 q14 (lo=lo/\hj=hj/\Z0 q10 (Z0 q17 (Z0 q18 (Z0 q14 (Z0 q19 (a=a/\Z0 q17 (Zr 0 q20 q7 q21 (ZE i q22 (ZT (q23::q24::q25::AV.arr u8 32 q2.tag::q28) 0 130))/\q27) False) False) False) False) False) False) False) False) False) False) False) False) False) False)
 (∃(t:TxS),(t.num=q4/\((q1=q1/\t.N=q1)/\∀(i:Nat),i<q1->q12 i=InS.c (t.ins i))/\(q5=q5/\t.M=q5)/\∀(i:Nat),i<q5->q15 i=ZK.c (t.outs i))/\(TxS.Fine t/\List.length a=32)/\Z0 q6 (Z0 q8 (Z0 q9 (Z0 q10 (Z0 q11 (q13/\Z0 q11 (Z0 q14 (q16/\Z0 q14 (lo=lo/\hj=hj/\Z0 q10 (Z0 q17 (Z0 q18 (Z0 q14 (Z0 q19 (a=a/\Z0 q17 (Zr 0 q20 q7 q21 (ZE i q22 (ZT (q23::q24::q25::AV.arr u8 32 (Tg a t)::q28) 0 130))/\q27) False) False) False) False) False) False) False) False) False) False) False) False) False) False)))
 False)
 (Z0 q10 (Z0 q6 (Z0 (decide (i<=i)) (Z0 q14 (Z0 q19 (Z0 q6 (Zr 0 q29 i q22 q22/\Z0 q14 (Zr 0 q29 q5 q15 q15/\Z2) False) False) False) False) False) False) False)) (by kernel_rfl) ?_
 conv=>zeta
 try simp only [Z8]
 try simp only [Ze]
 try simp only [Za]
 try simp only [Zf]
 try simp only [Zg]
 try simp only [Z9]
 try simp only [Y_s]
 refine ⟨fun hlt'=> ?_,fun hge=>⟨Yf fun _ _=>rfl,ZP fun _ _=>rfl,h2 (by omega)⟩⟩
 have hlt:i<t.N:=by omega
 have hN:=ht.n
 have hwr:i64.wrap ((i:Int)+1)=((i+1:Nat):Int):=by rw [w64 (by omega)];omega
 have hG1:=hG1 hlt
 have hZ:=h1 hlt
 have hO:∀τ,Zr 0 τ t.M (Zj t.outs) (Zj t.outs):=fun τ=>ZP fun _ _=>rfl
 have hI:∀(τ:Ren) (X:List AV),X=(Z0Q tl th ta (t.ins i)).c->Zr 0 τ (i+1) (Zk G1) (ZE i (Zk G) (ZT X 0 130)):=fun τ X hX=>Yf fun j hj=>by
  rw [hX,Zmg G _ hj,hG1 j hj]
 refine ⟨by omega,fun k1=>⟨t,⟨rfl,⟨rfl,fun _ _=>rfl⟩,rfl,fun _ _=>rfl⟩,⟨ht,hlo⟩,t,⟨rfl,⟨rfl,fun _ _=>rfl⟩,rfl,fun _ _=>rfl⟩,⟨ht,hhj⟩,by omega,hwr,hI _ _ ?_,hO _,hZ⟩,fun k1=>⟨fun k2=>⟨by omega,hwr,hI _ _ ?_,hO _,hZ⟩,fun k2=>⟨t,⟨rfl,⟨rfl,fun _ _=>rfl⟩,rfl,fun _ _=>rfl⟩,⟨ht,ha⟩,by omega,hwr,hI _ _ ?_,hO _,hZ⟩⟩⟩
 ·have k1:(t.ins i).way=1:=by simpa using k1
  unfold Z0Q
  rw [if_pos k1,<-htl,<-hth];rfl
 ·have k1:¬(t.ins i).way=1:=by simpa using k1
  have k2:(t.ins i).way=4:=by simpa using k2
  unfold Z0Q
  rw [if_neg k1,if_pos k2];rfl
 ·have k1:¬(t.ins i).way=1:=by simpa using k1
  have k2:¬(t.ins i).way=4:=by simpa using k2
  unfold Z0Q
  rw [if_neg k1,if_neg k2,<-hta];rfl
structure Zhm (Tg:List Int->TxS->List Int) (t:TxS) (a b lo hj:List Int) (G:Nat->InS):Prop where
 ht:t.Fine
 ha:a.length=32
 hb:b.length=32
 hlo:lo=loH a b
 hhj:hj=hiH a b
 hG:G=(Z7m Tg t a b).ins
noncomputable def Zey (A:List Int->Int×Int) (Tg:List Int->TxS->List Int) (t:TxS) (a b lo hj:List Int) (G:Nat->InS):Zh:=(((Zex Tg).withP 203 (Z8D A)).withP 204 Zee).withL 120 0 (goM 0 (Zhl t a lo hj G 0) (Zhm Tg t a b lo hj G) (YB 0 t.N 9 (fun i=>i<t.N) (fun i=>i=t.N) (fun _=>False) (fun _=>False) (fun i=>ZbP t G i) (fun i=>ZbP t G i) (fun i=>ZbP t G i)))
theorem Z7o (t:TxS) (a b lo hj:List Int) (G:Nat->InS):(Zey ZJ Q1 t a b lo hj G).Ok:=by
 have h0:(((Zex Q1).withP 203 (Z8D ZJ)).withP 204 Zee).Ok:=Zh.withP_ok (Zh.withP_ok Zae Zbs) Za4
 refine Zh.withL_join (H:=Zex Q1) h0 rfl ?_
 exact Zh.withGoM (N:=20) (S:=fun i=>Zhl t a lo hj G i) Zae (by kernel_rfl) fun hC=>⟨rfl,fun i hi _=>by
  obtain ⟨c1,c2,c3,c4,c5,c6⟩:=hC
  subst c4 c5
  refine Zmh Q1 t a _ _ _ _ _ G _ i _ _ c1 c2 (Z60 c2 c3) (Z61 c2 c3) rfl rfl rfl hi (fun hlt j hj=> ?_) (fun h=>⟨h,h⟩) (fun h=>h)
  by_cases e:j=i
  ·rw [if_pos e,e,c6];rfl
  ·rw [if_neg e]⟩
theorem Zmi (A:List Int->Int×Int) (Tg:List Int->TxS->List Int) (t:TxS) (a b lo hj:List Int) (G:Nat->InS) (ht:t.Ok) (hB:TxB t) (hb:Yj A t=false):
  evF (Zey A Tg t a b lo hj G) 20 120 [.agg t.c,.agg [.arr .u8 32 a],.agg [.arr .u8 32 b]] ⟨0,[]⟩ (ZL 0 (.ret (.tuple [.agg txZ,.int .i64 2])) 0 []):=by
 refine @Eq.mpr _ (let q1:=t.num;let q2:=t.N;let q3:=t.M;let q4:=decide (q3=q3);let q5:=Zj t.outs;let q6:=q5=q5;let q7:=decide (q1=q1);let q8:=0+q3;let q9:=decide (q8*160<=140737488355328);let q10:=decide (q2=q2);let q11:=Zk t.ins;let q12:=q11=q11;let q13:=decide (q8=q3);let q14:=Z0 q7 (Z0 q13 (Z0 (decide (q3<=q8)) (a=a/\Z0 q13 (Zr 0 [(7,6),(5,3),(4,1),(3,7),(2,5),(1,4),(0,0)] q3 q5 (ZE 0 (fun (x:Nat)=>[]) q5)/\Zhm Tg t a b lo hj G/\∀(i:Nat),i<=q2->(∀(j:Nat),j<i->(fun (i:Nat)=>i<q2) j)->(i=q2->Z0 (decide (q1=0)) False False)/\(False->False)/\(False->False)) False) False) False) False;
 ∃(t:TxS),(t.num=q1/\((q2=q2/\t.N=q2)/\∀(i:Nat),i<q2->q11 i=InS.c (t.ins i))/\(q3=q3/\t.M=q3)/\∀(i:Nat),i<q3->q5 i=ZK.c (t.outs i))/\TxS.Ok t/\TxB t/\Z0 (!Yj A t) True (b=b/\b=b/\b=b/\(List.length a=32/\List.length b=32)/\Bytes a/\Bytes b/\Z0 (decide (X4 a b>0)) (a=a/\Z0 q4 (q6/\Z0 q4 (Z0 q7 (Z0 q9 (Z0 q7 (Z0 q7 (Z0 q10 (q12/\Z0 q10 (Z0 q4 (q6/\Z0 q4 (b=lo/\a=hj/\q14) False) False) False) False) False) False) False) False) False) False) (Z0 q4 (q6/\Z0 q4 (Z0 q7 (Z0 q9 (Z0 q7 (Z0 q7 (Z0 q10 (q12/\Z0 q10 (Z0 q4 (q6/\Z0 q4 (a=lo/\b=hj/\q14) False) False) False) False) False) False) False) False) False) False))) (by kernel_rfl) ?_
 conv=>zeta
 try simp only [Z8]
 try simp only [Ze]
 try simp only [Za]
 try simp only [Zf]
 try simp only [Zg]
 try simp only [Z9]
 try simp only [Y_s]
 exact ⟨t,⟨rfl,⟨rfl,fun _ _=>rfl⟩,rfl,fun _ _=>rfl⟩,ht,hB,fun _=>trivial,fun k=>by rw [hb] at k;cases k⟩
theorem Zmj (A:List Int->Int×Int) (Tg:List Int->TxS->List Int) (t:TxS) (a b lo hj:List Int) (G:Nat->InS) (hC:Zhm Tg t a b lo hj G) (ht:t.Ok) (hB:TxB t) (hc:Yj A t=true) (hba:Bytes a) (hbb:Bytes b):
  evF (Zey A Tg t a b lo hj G) 20 120 [.agg t.c,.agg [.arr .u8 32 a],.agg [.arr .u8 32 b]] ⟨0,[]⟩ (ZL 0 (.ret (.tuple [.agg [.int .i64 t.num,.nslice ⟨0,0,130,0,0⟩ 130 t.N t.N,.nslice ⟨1,0,132,0,0⟩ 132 t.M t.M],.int .i64 0])) 2 [(0,.rows 130 t.N (Zk G)),(1,.rows 132 t.M (Zj t.outs))]):=by
 refine @Eq.mpr _ (let q1:=t.num;let q2:=t.N;let q3:=t.M;let q4:=decide (q2=0);let q5:=decide (q3=0);let q6:=decide (q3=q3);let q7:=Zj t.outs;let q8:=q7=q7;let q9:=decide (q1=q1);let q10:=0+q3;let q11:=decide (q10*160<=140737488355328);let q12:=decide (q2=q2);let q13:=Zk t.ins;let q14:=q13=q13;let q15:=decide (q10=q3);let q16:=[(1,3),(0,2)];let q17:=Z0 q9 (Z0 q15 (Z0 (decide (q3<=q10)) (a=a/\Z0 q15 (Zr 0 [(7,6),(5,3),(4,1),(3,7),(2,5),(1,4),(0,0)] q3 q7 (ZE 0 (fun (x:Nat)=>[]) q7)/\Zhm Tg t a b lo hj G/\∀(i:Nat),i<=q2->(∀(j:Nat),j<i->(fun (i:Nat)=>i<q2) j)->(i=q2->Z0 q9 (Z0 (decide (i=q2)) (Z0 (decide (q2<=i)) (Z0 q6 (Z0 (decide (q3<=q3)) (Z0 (decide (i=q2)) (Zr 0 q16 q2 (Zk G) (Zk G)/\Z0 q6 (Zr 0 q16 q3 q7 q7/\True) False) False) False) False) False) False) False)/\(False->False)/\(False->False)) False) False) False) False;
 ∃(t:TxS),(t.num=q1/\((q2=q2/\t.N=q2)/\∀(i:Nat),i<q2->q13 i=InS.c (t.ins i))/\(q3=q3/\t.M=q3)/\∀(i:Nat),i<q3->q7 i=ZK.c (t.outs i))/\TxS.Ok t/\TxB t/\Z0 (!Yj A t) (Z0 (decide (0=q1)) (Z0 q4 (Z0 q4 (Z0 q5 (Z0 q5 False False) False) False) False) False) (b=b/\b=b/\b=b/\(List.length a=32/\List.length b=32)/\Bytes a/\Bytes b/\Z0 (decide (X4 a b>0)) (a=a/\Z0 q6 (q8/\Z0 q6 (Z0 q9 (Z0 q11 (Z0 q9 (Z0 q9 (Z0 q12 (q14/\Z0 q12 (Z0 q6 (q8/\Z0 q6 (b=lo/\a=hj/\q17) False) False) False) False) False) False) False) False) False) False) (Z0 q6 (q8/\Z0 q6 (Z0 q9 (Z0 q11 (Z0 q9 (Z0 q9 (Z0 q12 (q14/\Z0 q12 (Z0 q6 (q8/\Z0 q6 (a=lo/\b=hj/\q17) False) False) False) False) False) False) False) False) False) False))) (by kernel_rfl) ?_
 conv=>zeta
 try simp only [Z8]
 try simp only [Ze]
 try simp only [Za]
 try simp only [Zf]
 try simp only [Zg]
 try simp only [Z9]
 try simp only [Y_s]
 have hM:=hC.ht.m
 have hlo:=hC.hlo
 have hhj:=hC.hhj
 unfold loH at hlo
 unfold hiH at hhj
 have hO:∀τ,Zr 0 τ t.M (Zj t.outs) (ZE 0 (fun _=>[]) (Zj t.outs)):=fun τ=>ZP fun j _=>by rw [Vh (Nat.zero_le _)];rfl
 refine ⟨t,⟨rfl,⟨rfl,fun _ _=>rfl⟩,rfl,fun _ _=>rfl⟩,ht,hB,fun k=> ?_,fun _=>⟨⟨hC.ha,hC.hb⟩,hba,hbb,fun k=> ?_,fun k=> ?_⟩⟩
 ·rw [hc] at k;cases k
 ·rw [if_pos k] at hlo hhj
  exact ⟨by omega,hlo.symm,hhj.symm,hO _,hC,fun i hi _=>⟨fun he=>⟨he,by omega,he,Yf fun _ _=>rfl,ZP fun _ _=>rfl⟩,fun h=>h,fun h=>h⟩⟩
 ·rw [if_neg k] at hlo hhj
  exact ⟨by omega,hlo.symm,hhj.symm,hO _,hC,fun i hi _=>⟨fun he=>⟨he,by omega,he,Yf fun _ _=>rfl,ZP fun _ _=>rfl⟩,fun h=>h,fun h=>h⟩⟩
theorem Zhn {t:TxS} {a b:List Int} (hf:t.Fine) (hA:QL t) (ha:a.length=32) (hb:b.length=32):Z7m Q1 t a b=Z7m ZO t a b:=by
 unfold Z7m
 rw [Z2b hf hA ha,Z2b hf hA (Z60 ha hb),Z2b hf hA (Z61 ha hb)]
def Zi9 (A:List Int->Int×Int) (Tg:List Int->TxS->List Int):ZR:=fun args h K=>ZH none h true 20 args fun a=>match a with
 | [.agg l,.agg [.arr .u8 32 a],.agg [.arr .u8 32 b]]=>∃t,Z0d l t/\(t.Ok/\QL t/\(a.length=32/\b.length=32)/\Bytes a/\Bytes b)/\(Yj A t=false->K (.ret (.tuple [.agg txZ,.int .i64 2])) h)/\
  (Yj A t=true->K (.ret (.tuple [.agg [.int .i64 t.num,.nslice ⟨h.next,0,130,0,0⟩ 130 t.N t.N,.nslice ⟨h.next+1,0,132,0,0⟩ 132 t.M t.M],.int .i64 0])) ⟨h.next+2,(h.next,.rows 130 t.N (Zk (Z7m Tg t a b).ins))::(h.next+1,.rows 132 t.M (Zj t.outs))::h.bs⟩)
 | _=>False
theorem Zez (args:List AV) (h:Z6) (K:KO) (hl:Zi9 ZJ ZO args h K):Zi PP 120 args h K:=by
 refine Zy.fsumm (d:=20) (Zm _ _ _ _ _ hl fun a ha=> ?_)
 split at ha
 ·rename_i l a b
  obtain ⟨t,h1,⟨h2,h3,⟨h4,h5⟩,h6,h7⟩,k1,k2⟩:=ha
  cases hc:Yj ZJ t with
  | false=>exact ⟨_,_,_,_,(Zy.evM (Z7o t a b (loH a b) (hiH a b) t.ins) (Zmi _ _ t _ _ _ _ _ h2 h3.b hc)).conv (fun E r hr=>hr.head (fun _ hc=>h1.rel hc) (fun _ hc=>hc)),rfl,trivial,k1 hc⟩
  | true=>
   have hf:=Xr h2 hc
   refine ⟨_,_,_,_,(Zy.evM (Z7o t a b (loH a b) (hiH a b) _) (Zmj _ _ t _ _ _ _ _ ⟨hf,h4,h5,rfl,rfl,rfl⟩ h2 h3.b hc h6 h7)).conv (fun E r hr=>hr.head (fun _ hc=>h1.rel hc) (fun _ hc=>hc)),rfl,⟨by decide,.rows _ _ _ (fun i _=>((Z7m Q1 t a b).ins i).plainC),by decide,.rows _ _ _ (fun i _=>(t.outs i).plainC),trivial⟩, ?_⟩
   rw [Zhn hf h3 h4 h5]
   exact k2 hc
 ·exact ha.elim
theorem Spec.evK {G:Zh} (hG:G.Ok) {n:Nat} {f:FuncId} {args:List AV} {h0:Z6} {o:Out} {nx:Nat} {bs:List (Nat×Blk)} {K:KO} (h:evF G n f args h0 K) (hk:∀o' h',K o' h'->ZL h0.next o nx bs o' h'):Spec G.P f args h0 o nx bs:=by
 intro E w rs he hl
 refine (YJ hG h E w rs he hl).mono ?_
 rintro e w' ⟨E',o',h',hK0,hev,hor⟩
 have hK:=hk _ _ hK0
 unfold ZL at hK
 cases o with
 | ret v=>
  cases hor with
  | ret u r hr=>
   obtain ⟨E₂,h1,h2⟩:=Z23 rfl hK he hev hr
   exact ⟨E₂,h1,.ret _ _ h2⟩
  | panic u r hr=>exact hK.elim
 | panic v=>
  cases hor with
  | panic u r hr=>
   obtain ⟨E₂,h1,h2⟩:=Z23 rfl hK he hev hr
   exact ⟨E₂,h1,.panic _ _ h2⟩
  | ret u r hr=>exact hK.elim
def wrH (N:Nat) (xs:List Int):Z6:=⟨2,[(0,.flat [.nslice ⟨1,0,0,0,0⟩ 1 N N,.bool true]),(1,.ints .u8 xs)]⟩
theorem Zoa (hh:List Int) (hq:hh.length=32):
  evF G0 20 55 [.ptr (some ⟨0,0,0,0,0⟩),.vrows 32 1 (fun _=>[.arr .u8 32 hh]) 1] ⟨1,[(0,.flat [.nilslice,.bool true])]⟩ (ZL 1 (.ret (.int .i64 0)) 2 [(0,.flat [.nslice ⟨1,0,0,0,0⟩ 1 32 32,.bool true]),(1,.ints .u8 hh)]):=by
 refine @Eq.mpr _ (let q1:=[]++hh;let q2:=List.length q1;
 Z0 (decide (u8=u8/\List.length hh=32)) (Z0 (decide (q2*1<=140737488355328)) (Z0 (decide (q2=32)) (Z0 (decide (32<=q2)) (q1=hh/\True) False) False) False) False) (by kernel_rfl) ?_
 conv=>zeta
 try simp only [Z8]
 try simp only [Ze]
 try simp only [Za]
 try simp only [Zf]
 try simp only [Zg]
 try simp only [Z9]
 try simp only [Y_s]
 simp only [List.nil_append]
 repeat' apply And.intro
 all_goals first|trivial|omega|rfl|assumption
theorem Zob (xs ys:List Int) (N L:Nat) (b:Bool) (hN:xs.length=N) (hB:N<80000000000000) (hy:ys=xs++[cond b 1 0]) (hL:L=ys.length):
  evF G0 20 56 [.ptr (some ⟨0,0,0,0,0⟩),.vrows 1 1 (fun _=>[.bool b]) 1] (wrH N xs) (ZL 2 (.ret (.int .i64 0)) 3 [(0,.flat [.nslice ⟨2,0,0,0,0⟩ 1 L L,.bool true]),(2,.ints .u8 ys)]):=by
 refine @Eq.mpr _ (let q1:=decide (u8=u8/\List.length xs=N);let q2:=xs++[(1:Int)];let q3:=List.length q2;let q4:=xs++[(0:Int)];let q5:=List.length q4;
 Z0 b (Z0 q1 (Z0 (decide (q3*1<=140737488355328)) (Z0 (decide (q3=L)) (Z0 (decide (L<=q3)) (q2=ys/\True) False) False) False) False) (Z0 q1 (Z0 (decide (q5*1<=140737488355328)) (Z0 (decide (q5=L)) (Z0 (decide (L<=q5)) (q4=ys/\True) False) False) False) False)) (by kernel_rfl) ?_
 conv=>zeta
 try simp only [Z8]
 try simp only [Ze]
 try simp only [Za]
 try simp only [Zf]
 try simp only [Zg]
 try simp only [Z9]
 try simp only [Y_s]
 subst hN hy hL
 refine ⟨fun h=> ?_,fun h=> ?_⟩
 all_goals subst h
 all_goals repeat' apply And.intro
 all_goals first|omega|rfl|(simp only [List.length_append,List.length_cons,List.length_nil]<;>omega)
def ZeA (h:Z6) (w b:Nat) (ys:List Int):Z6:=⟨h.next+1,(w,.flat [.nslice ⟨h.next,0,0,0,0⟩ 1 ys.length ys.length,.bool true])::(h.next,.ints .u8 ys)::Y9 (Y9 h.bs w) b⟩
def ZjP (W:Int->List Int) (T:Int) (B:Nat):ZR:=fun args h K=>match args with
 | [.ptr (some ⟨w,0,0,0,0⟩),_]=>match h.get w with
  |some (.flat [.nslice ⟨b,0,0,0,0⟩ 1 _ _,.bool true])=>frA [w,b] h 20 args fun Bs a=>match Bs,a with
   | [.flat [.nslice ⟨1,0,0,0,0⟩ 1 N M,.bool true],.ints .u8 xs],[.ptr (some ⟨0,0,0,0,0⟩),.vints .i64 [x] 1]=>
    Zt (xs.length=N/\M=N/\N<B/\0<=x/\x<=T) (K (.ret (.int .i64 0)) (ZeA h w b (xs++W x)))
   | _,_=>False
  | _=>False
 | _=>False
theorem Zho (args:List AV) (h:Z6) (K:KO) (hl:ZjP Zs 4611686018427387904 80000000000000 args h K):Zi PP 54 args h K:=by
 unfold ZjP at hl
 split at hl
 ·split at hl
  ·refine Spec.fsumm hl fun Bs a hlen hK0=> ?_
   split at hK0
   ·obtain ⟨⟨h1,rfl,h2,k0⟩,hK⟩:=Zb hK0
    exact ⟨_,_,_,_,_,.evM Z0J (Zdv _ _ _ _ _ _ _ _ rfl h1 (by omega) k0 rfl rfl),by simp,.ret _ _ rfl,.cons _ _ _ _ _ _ rfl (.flat _ _ rfl) (.cons _ _ _ _ _ _ rfl (.ints _ _) .nil),hK⟩
   ·exact hK0.elim
  ·exact hl.elim
 ·exact hl.elim
def ZjQ (B:Nat):ZR:=fun args h K=>match args with
 | [.ptr (some ⟨w,0,0,0,0⟩),_]=>match h.get w with
  |some (.flat [.nslice ⟨b,0,0,0,0⟩ 1 _ _,.bool true])=>frA [w,b] h 20 args fun Bs a=>match Bs,a with
   | [.flat [.nslice ⟨1,0,0,0,0⟩ 1 N M,.bool true],.ints .u8 xs],[.ptr (some ⟨0,0,0,0,0⟩),.vrows 32 1 f 1]=>match f 0 with
    | [.arr .u8 32 hh]=>Zt (xs.length=N/\M=N/\N<B/\hh.length=32) (K (.ret (.int .i64 0)) (ZeA h w b (xs++hh)))
    | _=>False
   | _,_=>False
  | some (.flat [.nilslice,.bool true])=>frA [w] h 20 args fun Bs a=>match Bs,a with
   | [.flat [.nilslice,.bool true]],[.ptr (some ⟨0,0,0,0,0⟩),.vrows 32 1 f 1]=>match f 0 with
    | [.arr .u8 32 hh]=>Zt (hh.length=32) (K (.ret (.int .i64 0)) ⟨h.next+1,(w,.flat [.nslice ⟨h.next,0,0,0,0⟩ 1 32 32,.bool true])::(h.next,.ints .u8 hh)::Y9 h.bs w⟩)
    | _=>False
   | _,_=>False
  | _=>False
 | _=>False
theorem Zhp (args:List AV) (h:Z6) (K:KO) (hl:ZjQ 80000000000000 args h K):Zi PP 55 args h K:=by
 unfold ZjQ at hl
 split at hl
 ·split at hl
  ·refine Spec.fsumm hl fun Bs a hlen hK0=> ?_
   split at hK0
   ·split at hK0
    case h_2=>exact hK0.elim
    rename_i hh hf
    obtain ⟨⟨h1,rfl,h2,h3⟩,hK⟩:=Zb hK0
    refine ⟨_,_,_,_,_,(Spec.evM Zp (Z9O _ hh _ _ _ _ h1 (by omega) h3 rfl rfl)).conv fun E r hr=>hr.head (fun _ hc=>hc) fun _ hc=>hc.head (fun _ hc=>hc.rowsC ?_) fun _ hc=>hc,by simp,.ret _ _ rfl,.cons _ _ _ _ _ _ rfl (.flat _ _ rfl) (.cons _ _ _ _ _ _ rfl (.ints _ _) .nil),hK⟩
    intro i hi
    have:i=0:=by omega
    subst this
    exact hf
   ·exact hK0.elim
  ·refine Spec.fsumm hl fun Bs a hlen hK0=> ?_
   split at hK0
   ·split at hK0
    case h_2=>exact hK0.elim
    rename_i hh hf
    obtain ⟨h3,hK⟩:=Zb hK0
    refine ⟨_,_,_,_,_,(Spec.evM Zp (Zoa hh h3)).conv fun E r hr=>hr.head (fun _ hc=>hc) fun _ hc=>hc.head (fun _ hc=>hc.rowsC ?_) fun _ hc=>hc,by simp,.ret _ _ rfl,.cons _ _ _ _ _ _ rfl (.flat _ _ rfl) (.cons _ _ _ _ _ _ rfl (.ints _ _) .nil),hK⟩
    intro i hi
    have:i=0:=by omega
    subst this
    exact hf
   ·exact hK0.elim
  ·exact hl.elim
 ·exact hl.elim
def wtG (B:Nat):ZR:=fun args h K=>match args with
 | [.ptr (some ⟨w,0,0,0,0⟩),_]=>match h.get w with
  |some (.flat [.nslice ⟨b,0,0,0,0⟩ 1 _ _,.bool true])=>frA [w,b] h 20 args fun Bs a=>match Bs,a with
   | [.flat [.nslice ⟨1,0,0,0,0⟩ 1 N M,.bool true],.ints .u8 xs],[.ptr (some ⟨0,0,0,0,0⟩),.vrows 1 1 f 1]=>match f 0 with
    | [.bool t]=>Zt (xs.length=N/\M=N/\N<B) (K (.ret (.int .i64 0)) (ZeA h w b (xs++[cond t 1 0])))
    | _=>False
   | _,_=>False
  | _=>False
 | _=>False
theorem ZjR (args:List AV) (h:Z6) (K:KO) (hl:wtG 80000000000000 args h K):Zi PP 56 args h K:=by
 unfold wtG at hl
 split at hl
 ·split at hl
  ·refine Spec.fsumm hl fun Bs a hlen hK0=> ?_
   split at hK0
   ·split at hK0
    case h_2=>exact hK0.elim
    rename_i t hf
    obtain ⟨⟨h1,rfl,h2⟩,hK⟩:=Zb hK0
    refine ⟨_,_,_,_,_,(Spec.evM Zp (Zob _ _ _ _ t h1 h2 rfl rfl)).conv fun E r hr=>hr.head (fun _ hc=>hc) fun _ hc=>hc.head (fun _ hc=>hc.rowsC ?_) fun _ hc=>hc,by simp,.ret _ _ rfl,.cons _ _ _ _ _ _ rfl (.flat _ _ rfl) (.cons _ _ _ _ _ _ rfl (.ints _ _) .nil),hK⟩
    intro i hi
    have:i=0:=by omega
    subst this
    exact hf
   ·exact hK0.elim
  ·exact hl.elim
 ·exact hl.elim
structure ClS where
 t:Zo
 side:Int
 a0:Int
 a1:Int
 least:Int
 most:Int
 offers:Bool
 last:Int
 agrees:Bool
 fee:Int
def ClS.c (k:ClS):List AV:=k.t.c++[.int .i64 k.side,.arr .i64 2 [k.a0,k.a1],.int .i64 k.least,.int .i64 k.most,.bool k.offers,.int .i64 k.last,.bool k.agrees,.int .i64 k.fee]
def nP:AV:=.ptr none
def ptA (x o i:Nat):AV:=.ptr (some ⟨x,0,0,o,i⟩)
def Zmk (x y:Nat):List (List AV):=[[nP,ptA x 0 0,nP],[ptA x 32 0,nP,nP],[ptA x 33 0,nP,nP],[ptA x 34 0,nP,nP],[ptA x 35 0,nP,nP],[ptA x 36 0,nP,nP],[nP,ptA x 37 0,nP],[nP,ptA x 69 0,nP],
 [ptA y 0 0,nP,nP],[ptA x 102 0,nP,nP],[ptA x 102 1,nP,nP],[ptA x 104 0,nP,nP],[ptA x 105 0,nP,nP],[nP,nP,ptA x 106 0],[ptA x 107 0,nP,nP],[nP,nP,ptA x 108 0],[ptA x 109 0,nP,nP]]
def PF (x y i:Nat):List AV:=(Zmk x y).getD i []
def clH (k:ClS) (s:Int):List (Nat×Blk):=[(0,.flat (k.c++[.bool true])),(1,.flat [.int .i64 s])]
theorem Zoc (k:ClS) (s:Int):
  evF G0 20 53 [.ptr (some ⟨0,0,0,0,0⟩),.ptr (some ⟨1,0,0,0,0⟩)] ⟨2,clH k s⟩ (ZL 2 (.ret (.func (.func 115) [] [.ptr (some ⟨2,0,0,0,0⟩)])) 4 (clH k s++[(2,.flat [.nslice ⟨3,0,3,0,0⟩ 3 17 17]),(3,.rows 3 17 (PF 0 1))])):=by
 refine @Eq.mpr _ ((k.t.fund=k.t.fund/\
 Z0 (decide (k.t.index=k.t.index))
 (Z0 (decide (k.t.cap=k.t.cap))
 (Z0 (decide (k.t.dust=k.t.dust))
 (Z0 (decide (k.t.fee=k.t.fee))
 (Z0 (decide (k.t.delay=k.t.delay))
 (k.t.k0=k.t.k0/\
 k.t.k1=k.t.k1/\
 Z0 (decide (k.side=k.side))
 ([k.a0,k.a1]=[k.a0,k.a1]/\
 Z0 (decide (k.least=k.least))
 (Z0 (decide (k.most=k.most))
 (Z0 (decide (k.offers=k.offers))
 (Z0 (decide (k.last=k.last))
 (Z0 (decide (k.agrees=k.agrees))
 (Z0 (decide (k.fee=k.fee))
 (Z0 (decide (s=s))
 (Zr 2 [(3,31),(2,15)] 17 (PF 0 1)
 (ZE 13
 (ZE 8 (ZE 6 (ZE 1 (ZT [AV.ptr none,AV.ptr (some (Zx.mk 0 0 0 0 0)),AV.ptr none] 0 3) (Yb 0 (ZE 4 (ZE 3 (ZE 2 (ZE 1 (ZE 0 (fun (x:Nat)=>[]) (ZT [AV.ptr (some (Zx.mk 0 0 0 32 0)),AV.ptr none,AV.ptr none] 0 3)) (ZT [AV.ptr (some (Zx.mk 0 0 0 33 0)),AV.ptr none,AV.ptr none] 0 3)) (ZT [AV.ptr (some (Zx.mk 0 0 0 34 0)),AV.ptr none,AV.ptr none] 0 3)) (ZT [AV.ptr (some (Zx.mk 0 0 0 35 0)),AV.ptr none,AV.ptr none] 0 3)) (ZT [AV.ptr (some (Zx.mk 0 0 0 36 0)),AV.ptr none,AV.ptr none] 0 3)))) (ZT [AV.ptr none,AV.ptr (some (Zx.mk 0 0 0 37 0)),AV.ptr none,AV.ptr none,AV.ptr (some (Zx.mk 0 0 0 69 0)),AV.ptr none] 0 3))
 (Yb 0 (ZE 4 (ZE 3 (ZE 2 (ZE 1 (ZE 0 (fun (x:Nat)=>[]) (ZT [AV.ptr (some (Zx.mk 1 0 0 0 0)),AV.ptr none,AV.ptr none] 0 3)) (ZT [AV.ptr (some (Zx.mk 0 0 0 102 0)),AV.ptr none,AV.ptr none] 0 3)) (ZT [AV.ptr (some (Zx.mk 0 0 0 102 1)),AV.ptr none,AV.ptr none] 0 3)) (ZT [AV.ptr (some (Zx.mk 0 0 0 104 0)),AV.ptr none,AV.ptr none] 0 3)) (ZT [AV.ptr (some (Zx.mk 0 0 0 105 0)),AV.ptr none,AV.ptr none] 0 3))))
 (ZT [AV.ptr none,AV.ptr none,AV.ptr (some (Zx.mk 0 0 0 106 0)),AV.ptr (some (Zx.mk 0 0 0 107 0)),AV.ptr none,AV.ptr none,AV.ptr none,AV.ptr none,AV.ptr (some (Zx.mk 0 0 0 108 0)),AV.ptr (some (Zx.mk 0 0 0 109 0)),AV.ptr none,AV.ptr none] 0 3))/\
 True)
 False)
 False)
 False)
 False)
 False)
 False)
 False)
 False)
 False)
 False)
 False)
 False)
 False)/\
 (k.t.fund=k.t.fund/\
 Z0 (decide (k.t.index=k.t.index))
 (Z0 (decide (k.t.cap=k.t.cap))
 (Z0 (decide (k.t.dust=k.t.dust))
 (Z0 (decide (k.t.fee=k.t.fee))
 (Z0 (decide (k.t.delay=k.t.delay))
 (k.t.k0=k.t.k0/\
 k.t.k1=k.t.k1/\
 Z0 (decide (k.side=k.side))
 ([k.a0,k.a1]=[k.a0,k.a1]/\
 Z0 (decide (k.least=k.least))
 (Z0 (decide (k.most=k.most))
 (Z0 (decide (k.offers=k.offers))
 (Z0 (decide (k.last=k.last))
 (Z0 (decide (k.agrees=k.agrees))
 (Z0 (decide (k.fee=k.fee))
 (Z0 (decide (s=s))
 (Zr 2 [(3,31),(2,15)] 17 (PF 0 1)
 (ZE 13
 (ZE 8 (ZE 6 (ZE 1 (ZT [AV.ptr none,AV.ptr (some (Zx.mk 0 0 0 0 0)),AV.ptr none] 0 3) (Yb 0 (ZE 4 (ZE 3 (ZE 2 (ZE 1 (ZE 0 (fun (x:Nat)=>[]) (ZT [AV.ptr (some (Zx.mk 0 0 0 32 0)),AV.ptr none,AV.ptr none] 0 3)) (ZT [AV.ptr (some (Zx.mk 0 0 0 33 0)),AV.ptr none,AV.ptr none] 0 3)) (ZT [AV.ptr (some (Zx.mk 0 0 0 34 0)),AV.ptr none,AV.ptr none] 0 3)) (ZT [AV.ptr (some (Zx.mk 0 0 0 35 0)),AV.ptr none,AV.ptr none] 0 3)) (ZT [AV.ptr (some (Zx.mk 0 0 0 36 0)),AV.ptr none,AV.ptr none] 0 3)))) (ZT [AV.ptr none,AV.ptr (some (Zx.mk 0 0 0 37 0)),AV.ptr none,AV.ptr none,AV.ptr (some (Zx.mk 0 0 0 69 0)),AV.ptr none] 0 3))
 (Yb 0 (ZE 4 (ZE 3 (ZE 2 (ZE 1 (ZE 0 (fun (x:Nat)=>[]) (ZT [AV.ptr (some (Zx.mk 1 0 0 0 0)),AV.ptr none,AV.ptr none] 0 3)) (ZT [AV.ptr (some (Zx.mk 0 0 0 102 0)),AV.ptr none,AV.ptr none] 0 3)) (ZT [AV.ptr (some (Zx.mk 0 0 0 102 1)),AV.ptr none,AV.ptr none] 0 3)) (ZT [AV.ptr (some (Zx.mk 0 0 0 104 0)),AV.ptr none,AV.ptr none] 0 3)) (ZT [AV.ptr (some (Zx.mk 0 0 0 105 0)),AV.ptr none,AV.ptr none] 0 3))))
 (ZT [AV.ptr none,AV.ptr none,AV.ptr (some (Zx.mk 0 0 0 106 0)),AV.ptr (some (Zx.mk 0 0 0 107 0)),AV.ptr none,AV.ptr none,AV.ptr none,AV.ptr none,AV.ptr (some (Zx.mk 0 0 0 108 0)),AV.ptr (some (Zx.mk 0 0 0 109 0)),AV.ptr none,AV.ptr none] 0 3))/\
 True)
 False)
 False)
 False)
 False)
 False)
 False)
 False)
 False)
 False)
 False)
 False)
 False)
 False)/\
 k.t.fund=k.t.fund/\
 Z0 (decide (k.t.index=k.t.index))
 (Z0 (decide (k.t.cap=k.t.cap))
 (Z0 (decide (k.t.dust=k.t.dust))
 (Z0 (decide (k.t.fee=k.t.fee))
 (Z0 (decide (k.t.delay=k.t.delay))
 (k.t.k0=k.t.k0/\
 k.t.k1=k.t.k1/\
 Z0 (decide (k.side=k.side))
 ([k.a0,k.a1]=[k.a0,k.a1]/\
 Z0 (decide (k.least=k.least))
 (Z0 (decide (k.most=k.most))
 (Z0 (decide (k.offers=k.offers))
 (Z0 (decide (k.last=k.last))
 (Z0 (decide (k.agrees=k.agrees))
 (Z0 (decide (k.fee=k.fee))
 (Z0 (decide (s=s))
 (Zr 2 [(3,31),(2,15)] 17 (PF 0 1)
 (ZE 13
 (ZE 8 (ZE 6 (ZE 1 (ZT [AV.ptr none,AV.ptr (some (Zx.mk 0 0 0 0 0)),AV.ptr none] 0 3) (Yb 0 (ZE 4 (ZE 3 (ZE 2 (ZE 1 (ZE 0 (fun (x:Nat)=>[]) (ZT [AV.ptr (some (Zx.mk 0 0 0 32 0)),AV.ptr none,AV.ptr none] 0 3)) (ZT [AV.ptr (some (Zx.mk 0 0 0 33 0)),AV.ptr none,AV.ptr none] 0 3)) (ZT [AV.ptr (some (Zx.mk 0 0 0 34 0)),AV.ptr none,AV.ptr none] 0 3)) (ZT [AV.ptr (some (Zx.mk 0 0 0 35 0)),AV.ptr none,AV.ptr none] 0 3)) (ZT [AV.ptr (some (Zx.mk 0 0 0 36 0)),AV.ptr none,AV.ptr none] 0 3)))) (ZT [AV.ptr none,AV.ptr (some (Zx.mk 0 0 0 37 0)),AV.ptr none,AV.ptr none,AV.ptr (some (Zx.mk 0 0 0 69 0)),AV.ptr none] 0 3))
 (Yb 0 (ZE 4 (ZE 3 (ZE 2 (ZE 1 (ZE 0 (fun (x:Nat)=>[]) (ZT [AV.ptr (some (Zx.mk 1 0 0 0 0)),AV.ptr none,AV.ptr none] 0 3)) (ZT [AV.ptr (some (Zx.mk 0 0 0 102 0)),AV.ptr none,AV.ptr none] 0 3)) (ZT [AV.ptr (some (Zx.mk 0 0 0 102 1)),AV.ptr none,AV.ptr none] 0 3)) (ZT [AV.ptr (some (Zx.mk 0 0 0 104 0)),AV.ptr none,AV.ptr none] 0 3)) (ZT [AV.ptr (some (Zx.mk 0 0 0 105 0)),AV.ptr none,AV.ptr none] 0 3))))
 (ZT [AV.ptr none,AV.ptr none,AV.ptr (some (Zx.mk 0 0 0 106 0)),AV.ptr (some (Zx.mk 0 0 0 107 0)),AV.ptr none,AV.ptr none,AV.ptr none,AV.ptr none,AV.ptr (some (Zx.mk 0 0 0 108 0)),AV.ptr (some (Zx.mk 0 0 0 109 0)),AV.ptr none,AV.ptr none] 0 3))/\
 True)
 False)
 False)
 False)
 False)
 False)
 False)
 False)
 False)
 False)
 False)
 False)
 False)
 False) (by kernel_rfl) ?_
 try simp only [Z8]
 try simp only [Ze]
 try simp only [Za]
 try simp only [Zf]
 try simp only [Zg]
 try simp only [Z9]
 try simp only [Y_s]
 repeat' apply And.intro
 all_goals first
  | rfl
  | trivial
  | exact .mk fun i hi=>by
      have h17:i=0\/i=1\/i=2\/i=3\/i=4\/i=5\/i=6\/i=7\/i=8\/i=9\/i=10\/i=11\/i=12\/i=13\/i=14\/i=15\/i=16:=by omega
      rcases h17 with h|h|h|h|h|h|h|h|h|h|h|h|h|h|h|h|h<;>subst h<;>(refine Eq.mpr (?_:_=True) trivial;kernel_rfl)
def Z3H:ZR:=fun args h K=>match args with
 | [.ptr (some ⟨x,0,0,0,0⟩),.ptr (some ⟨y,0,0,0,0⟩)]=>frA [x,y] h 20 args fun Bs a=>match Bs,a with
  | [.flat cs,.flat [.int .i64 s]],[.ptr (some ⟨0,0,0,0,0⟩),.ptr (some ⟨1,0,0,0,0⟩)]=>∃k:ClS,cs=k.c++[.bool true]/\
   K (.ret (.func (.func 115) [] [.ptr (some ⟨h.next,0,0,0,0⟩)])) ⟨h.next+2,(x,.flat (k.c++[.bool true]))::(y,.flat [.int .i64 s])::(h.next,.flat [.nslice ⟨h.next+1,0,3,0,0⟩ 3 17 17])::(h.next+1,.rows 3 17 (PF x y))::Y9 (Y9 h.bs x) y⟩
  | _,_=>False
 | _=>False
theorem Zml (x y d i:Nat) (hi:i<17):mvC [x,y] d (PF 0 1 i)=some (PF x y i):=by
 have h17:i=0\/i=1\/i=2\/i=3\/i=4\/i=5\/i=6\/i=7\/i=8\/i=9\/i=10\/i=11\/i=12\/i=13\/i=14\/i=15\/i=16:=by omega
 rcases h17 with h|h|h|h|h|h|h|h|h|h|h|h|h|h|h|h|h<;>subst h<;>rfl
theorem Z4Z (args:List AV) (h:Z6) (K:KO) (hl:Z3H args h K):Zi PP 53 args h K:=by
 unfold Z3H at hl
 split at hl
 ·refine Spec.fsumm hl fun Bs a hlen hK0=> ?_
  split at hK0
  ·rename_i cs s
   obtain ⟨k,rfl,hK⟩:=hK0
   exact ⟨_,_,_,_,_,.evM Zp (Zoc k s),by simp,.ret _ _ rfl,.cons _ _ _ _ _ _ rfl (.flat _ _ rfl) (.cons _ _ _ _ _ _ rfl (.flat _ _ rfl) (.cons _ _ _ _ _ _ rfl (.flat _ _ rfl) (.cons _ _ _ _ _ _ rfl (.rowsM _ _ _ _ fun i hi=>Zml _ _ _ i hi) .nil))),hK⟩
  ·exact hK0.elim
 ·exact hl.elim
def tru (b:Bool):List Int:=[cond b 1 0]
def XX (W:Int->List Int) (k:ClS):List Int:=k.t.fund++W k.t.index++W k.t.cap++W k.t.dust++W k.t.fee++W k.t.delay++k.t.k0++k.t.k1++W k.side++W k.a0++W k.a1++W k.least++W k.most++tru k.offers++W k.last++tru k.agrees++W k.fee
noncomputable def Zmm (W:Int->List Int) (T:Int) (B:Nat):Zh:=((((G0.withF 53 Z3H).withF 54 (ZjP W T B)).withF 55 (ZjQ B)).withF 56 (wtG B)).withF 119 Z0I
theorem Zhq:(Zmm Zs 4611686018427387904 80000000000000).Ok:=Zh.withF_ok (Zh.withF_ok (Zh.withF_ok (Zh.withF_ok (Zh.withF_ok Zp Z4Z) Zho) Zhp) ZjR) Z0e
structure ZeB (T:Int) (k:ClS):Prop where
 ix:0<=k.t.index/\k.t.index<=T
 ca:0<=k.t.cap/\k.t.cap<=T
 du:0<=k.t.dust/\k.t.dust<=T
 fe:0<=k.t.fee/\k.t.fee<=T
 de:0<=k.t.delay/\k.t.delay<=T
 sd:0<=k.side/\k.side<=T
 a0:0<=k.a0/\k.a0<=T
 a1:0<=k.a1/\k.a1<=T
 le:0<=k.least/\k.least<=T
 mo:0<=k.most/\k.most<=T
 la:0<=k.last/\k.last<=T
 fee:0<=k.fee/\k.fee<=T
theorem Zmn (W:Int->List Int) (T:Int) (B n:Nat) (k:ClS) (ys:List Int) (hk:ZeB T k) (hf:k.t.fund.length=32) (h0:k.t.k0.length=32) (h1:k.t.k1.length=32) (hy:ys=XX W k) (hn:n=ys.length) (h9:∀v,(W v).length<=9) (hB:1000<B) (hB2:B<90000000000000):
  evF (Zmm W T B) 20 21 [.ptr (some ⟨0,0,0,0,0⟩)] ⟨1,[(0,.flat (k.c++[.bool true]))]⟩ (ZL 1 (.ret (.nslice ⟨1,0,0,0,0⟩ 1 n n)) 2 [(0,.flat (k.c++[.bool true])),(1,.ints .u8 ys)]):=by
 refine @Eq.mpr _ (let q1:=k.side;let q2:=decide (q1=q1);let q3:=k.t;let q4:=q3.fund;let q5:=q3.index;let q6:=q3.cap;let q7:=q3.dust;let q8:=q3.fee;let q9:=q3.delay;let q10:=q3.k0;let q11:=q3.k1;let q12:=[k.a0,k.a1];let q13:=[AV.bool true];
 Z0 q2
 (Z0 q2
 (Z0 q2
 (Z0 q2
 (∃(k_1:ClS),
 let q27:=k_1.t;let q28:=q27.fund;let q29:=q27.index;let q30:=q27.cap;let q31:=q27.dust;let q32:=q27.fee;let q33:=q27.delay;let q34:=q27.k0;let q35:=q27.k1;let q36:=k_1.a0;let q37:=k_1.a1;let q38:=[q36,q37];let q39:=k_1.least;let q40:=k_1.most;let q41:=k_1.offers;let q42:=k_1.last;let q43:=k_1.agrees;let q44:=k_1.fee;let q45:=q28++W q29;let q46:=List.length q45;let q47:=q45++W q30;let q48:=List.length q47;let q49:=q47++W q31;let q50:=List.length q49;let q51:=q49++W q32;let q52:=List.length q51;let q53:=q51++W q33;let q54:=List.length q53;let q55:=q53++q34;let q56:=List.length q55;let q57:=q55++q35;let q58:=List.length q57;let q59:=q57++W q1;let q60:=List.length q59;let q61:=q59++W q36;let q62:=List.length q61;let q63:=q61++W q37;let q64:=List.length q63;let q65:=q63++W q39;let q66:=List.length q65;let q67:=q65++W q40;let q68:=List.length q67;let q69:=q67++[bif q41 then 1 else 0];let q70:=List.length q69;let q71:=q69++W q42;let q72:=List.length q71;let q73:=q71++[bif q43 then 1 else 0];let q74:=List.length q73;let q75:=q73++W q44;let q76:=List.length q75;let q77:=List.take q76 (ZW 0 q75);
 AV.arr u8 32 q4::AV.int i64 q5::AV.int i64 q6::AV.int i64 q7::AV.int i64 q8::AV.int i64 q9::AV.arr u8 32 q10::AV.arr u8 32 q11::AV.int i64 q1::AV.arr i64 2 q12::AV.int i64 k.least::AV.int i64 k.most::AV.bool k.offers::AV.int i64 k.last::AV.bool k.agrees::AV.int i64 k.fee::q13=AV.arr u8 32 q28::AV.int i64 q29::AV.int i64 q30::AV.int i64 q31::AV.int i64 q32::AV.int i64 q33::AV.arr u8 32 q34::AV.arr u8 32 q35::AV.int i64 k_1.side::AV.arr i64 2 q38::AV.int i64 q39::AV.int i64 q40::AV.bool q41::AV.int i64 q42::AV.bool q43::AV.int i64 q44::q13/\
 Z0 (decide (List.length q28=32))
 (Z0 (decide (List.length q28=32/\(32:Nat)=32/\32<B/\0<=q29/\q29<=T))
 (Z0 (decide (q46=q46/\q46=q46/\q46<B/\0<=q30/\q30<=T))
 (Z0 (decide (q48=q48/\q48=q48/\q48<B/\0<=q31/\q31<=T))
 (Z0 (decide (q50=q50/\q50=q50/\q50<B/\0<=q32/\q32<=T))
 (Z0 (decide (q52=q52/\q52=q52/\q52<B/\0<=q33/\q33<=T))
 (Z0 (decide (q54=q54/\q54=q54/\q54<B/\List.length q34=32))
 (Z0 (decide (q56=q56/\q56=q56/\q56<B/\List.length q35=32))
 (Z0 (decide (q58=q58/\q58=q58/\q58<B/\0<=q1/\q1<=T))
 (Z0 (decide (q60=q60/\q60=q60/\q60<B/\0<=q36/\q36<=T))
 (Z0 (decide (q62=q62/\q62=q62/\q62<B/\0<=q37/\q37<=T))
 (Z0 (decide (q64=q64/\q64=q64/\q64<B/\0<=q39/\q39<=T))
 (Z0 (decide (q66=q66/\q66=q66/\q66<B/\0<=q40/\q40<=T)) (Z0 (decide (q68=q68/\q68=q68/\q68<B)) (Z0 (decide (q70=q70/\q70=q70/\q70<B/\0<=q42/\q42<=T)) (Z0 (decide (q72=q72/\q72=q72/\q72<B)) (Z0 (decide (q74=q74/\q74=q74/\q74<B/\0<=q44/\q44<=T)) (Z0 (decide (0+q76<=q76)) (Z0 (decide (List.length q77=q76/\q76<90000000000000)) (Z0 (decide (q76=n)) (Z0 (decide (n<=q76)) (q28=q4/\Z0 (decide (q29=q5)) (Z0 (decide (q30=q6)) (Z0 (decide (q31=q7)) (Z0 (decide (q32=q8)) (Z0 (decide (q33=q9)) (q34=q10/\q35=q11/\Z0 (decide (k_1.side=q1)) (q38=q12/\Z0 (decide (q39=k.least)) (Z0 (decide (q40=k.most)) (Z0 (decide (q41=k.offers)) (Z0 (decide (q42=k.last)) (Z0 (decide (q43=k.agrees)) (Z0 (decide (q44=k.fee)) (q77=ys/\True) False) False) False) False) False) False) False) False) False) False) False) False) False) False) False) False) False) False) False) False)
 False)
 False)
 False)
 False)
 False)
 False)
 False)
 False)
 False)
 False)
 False)
 False)
 False)
 False)
 False)
 False)
 False) (by kernel_rfl) ?_
 conv=>zeta
 try simp only [Z8]
 try simp only [Ze]
 try simp only [Za]
 try simp only [Zf]
 try simp only [Zg]
 try simp only [Z9]
 try simp only [Y_s]
 obtain ⟨⟨a1,b1⟩,⟨a2,b2⟩,⟨a3,b3⟩,⟨a4,b4⟩,⟨a5,b5⟩,⟨a6,b6⟩,⟨a7,b7⟩,⟨a8,b8⟩,⟨a9,b9⟩,⟨a10,b10⟩,⟨a11,b11⟩,⟨a12,b12⟩⟩:=hk
 have l1:=h9 k.t.index
 have l2:=h9 k.t.cap
 have l3:=h9 k.t.dust
 have l4:=h9 k.t.fee
 have l5:=h9 k.t.delay
 have l6:=h9 k.side
 have l7:=h9 k.a0
 have l8:=h9 k.a1
 have l9:=h9 k.least
 have l10:=h9 k.most
 have l11:=h9 k.last
 have l12:=h9 k.fee
 have hz:∀l:List Int,List.take l.length (ZW 0 l)=l:=fun l=>by rw [Y4,List.drop_zero,List.take_length]
 simp only [hz]
 subst hy hn
 repeat' first
  | with_reducible rfl
  | exact True.intro
  | with_reducible assumption
  | with_reducible refine And.intro ?_ ?_
  | with_reducible refine Exists.intro k ?_
 all_goals first
  | ((try simp only [List.length_append,List.length_cons,List.length_nil,hf,h0,h1]);omega)
  | rfl
  | (show List.length (XX W k)<=_;exact Nat.le_refl _)
def Z1I (n c:Int):Int:=bOr .i64 (ZF .i64 n 8) c
theorem ZjS:ZF .i64 0 8=0:=by decide
def goN:Nat->List Int->Nat->Int->Option Int
 | 0,_,_,n=>some n
 | m+1,xs,k,n=>if n>36028797018963968 then none else goN m xs (k+1) (Z1I n (i64.wrap (xs.getD k 0)))
def X0 (c:Int):Nat:=if c=253 then 2 else if c=254 then 4 else if c=255 then 8 else 0
@[irreducible] def ZU (W:Int->List Int) (xs:List Int):Int×Int:=
 if xs.length=0 then (0,0)
 else if X0 (xs.getD 0 0)=0 then (i64.wrap (xs.getD 0 0),1)
 else if xs.length<=X0 (xs.getD 0 0) then (0,0)
 else match goN (X0 (xs.getD 0 0)) (xs.drop 1) 0 0 with
  | none=>(0, -1)
  | some n=>if n>4611686018427387904 then (0, -1) else if (W n).length=1+X0 (xs.getD 0 0) then (n,1+X0 (xs.getD 0 0)) else (0, -1)
theorem Ug {W:Int->List Int} {xs:List Int} (h:xs.length=0):ZU W xs=(0,0):=by unfold ZU;rw [if_pos h]
theorem Uh {W:Int->List Int} {xs:List Int} (h:xs.length≠0) (hm:X0 (xs.getD 0 0)=0):ZU W xs=(i64.wrap (xs.getD 0 0),1):=by unfold ZU;rw [if_neg h,if_pos hm]
theorem X1 {W:Int->List Int} {xs:List Int} {m:Nat} (h:xs.length≠0) (hm:X0 (xs.getD 0 0)=m) (hm0:m≠0) (hl:xs.length<=m):ZU W xs=(0,0):=by unfold ZU;rw [if_neg h,if_neg (by omega),if_pos (by omega)]
theorem VV {W:Int->List Int} {xs:List Int} {m:Nat} (h:xs.length≠0) (hm:X0 (xs.getD 0 0)=m) (hm0:m≠0) (hl:m<xs.length):ZU W xs=match goN m (xs.drop 1) 0 0 with
  | none=>(0, -1)
  | some n=>if n>4611686018427387904 then (0, -1) else if (W n).length=1+m then (n,1+m) else (0, -1):=by
 unfold ZU;rw [if_neg h,if_neg (by omega),if_neg (by omega),hm]
theorem ZeC {c:Int} (h:c=253):X0 c=2:=by unfold X0;rw [if_pos h]
theorem ZeD {c:Int} (h:¬c=253) (h2:c=254):X0 c=4:=by unfold X0;rw [if_neg h,if_pos h2]
theorem ZeE {c:Int} (h:¬c=253) (h2:¬c=254) (h3:c=255):X0 c=8:=by unfold X0;rw [if_neg h,if_neg h2,if_pos h3]
theorem Zia {c:Int} (h:¬c=253) (h2:¬c=254) (h3:¬c=255):X0 c=0:=by unfold X0;rw [if_neg h,if_neg h2,if_neg h3]
theorem ZjT:¬((0:Int)>36028797018963968):=by decide
theorem Zhr (W:Int->List Int) (xs:List Int) (N:Nat) (F:Int×Int) (hN:xs.length=N) (hF:F=ZU W xs):
  evF (Zdu W) 20 271 [.vints .u8 xs N] ⟨0,[]⟩ (ZL 0 (.ret (.tuple [.int .i64 F.1,.int .i64 F.2])) 0 []):=by
 refine @Eq.mpr _ (let q1:=decide (0=F.fst);let q2:=Z0 q1 (Z0 (decide (0=F.snd)) True False) False;let q3:=decide ((0:Int)<=0/\0<(↑N:Int));let q4:=List.getD xs 0 0;let q5:=decide (N<=List.length xs);let q6:=(↑(List.length xs):Int);let q7:=V4 (some 1) xs;let q8:=bOr i64 0 (wrap i64 (List.getD q7 0 0));let q9:=decide (q8>36028797018963968);let q10:=Z0 q1 (Z0 (decide (-1=F.snd)) True False) False;let q11:=bOr i64 (ZF i64 q8 8) (wrap i64 (List.getD q7 1 0));let q12:=decide (q11>36028797018963968);let q13:=bOr i64 (ZF i64 q11 8) (wrap i64 (List.getD q7 2 0));let q14:=decide (q13>36028797018963968);let q15:=bOr i64 (ZF i64 q13 8) (wrap i64 (List.getD q7 3 0));let q16:=bOr i64 (ZF i64 q15 8) (wrap i64 (List.getD q7 4 0));let q17:=bOr i64 (ZF i64 q16 8) (wrap i64 (List.getD q7 5 0));let q18:=bOr i64 (ZF i64 q17 8) (wrap i64 (List.getD q7 6 0));let q19:=bOr i64 (ZF i64 q18 8) (wrap i64 (List.getD q7 7 0));
 Z0 ((↑N:Int)==0) q2
 (Z0 q3
 (Z0 (decide (q4=253)) (Z0 (decide ((↑N:Int)<=2)) q2 (Z0 q5 (Z0 (decide ((0:Int)<=1/\(1:Int)<=3/\3<=q6)) (Z0 q9 q10 (Z0 (decide (q11>4611686018427387904)) q10 (Z0 ((↑(List.length (W q11)):Int) !=3) q10 (Z0 (decide (q11=F.fst)) (Z0 (decide (3=F.snd)) True False) False)))) False) False))
 (Z0 (decide (q4=254)) (Z0 (decide ((↑N:Int)<=4)) q2 (Z0 q5 (Z0 (decide ((0:Int)<=1/\(1:Int)<=5/\5<=q6)) (Z0 q9 q10 (Z0 q12 q10 (Z0 q14 q10 (Z0 (decide (q15>4611686018427387904)) q10 (Z0 ((↑(List.length (W q15)):Int) !=5) q10 (Z0 (decide (q15=F.fst)) (Z0 (decide (5=F.snd)) True False) False)))))) False) False))
 (Z0 (decide (q4=255)) (Z0 (decide ((↑N:Int)<=8)) q2 (Z0 q5 (Z0 (decide ((0:Int)<=1/\(1:Int)<=9/\9<=q6)) (Z0 q9 q10 (Z0 q12 q10 (Z0 q14 q10 (Z0 (decide (q15>36028797018963968)) q10 (Z0 (decide (q16>36028797018963968)) q10 (Z0 (decide (q17>36028797018963968)) q10 (Z0 (decide (q18>36028797018963968)) q10 (Z0 (decide (q19>4611686018427387904)) q10 (Z0 ((↑(List.length (W q19)):Int) !=9) q10 (Z0 (decide (q19=F.fst)) (Z0 (decide (9=F.snd)) True False) False)))))))))) False) False)) (Z0 q3 (Z0 (decide (wrap i64 q4=F.fst)) (Z0 (decide (1=F.snd)) True False) False) False))))
 False)) (by kernel_rfl) ?_
 conv=>zeta
 try simp only [Z8]
 try simp only [Ze]
 try simp only [Za]
 try simp only [Zf]
 try simp only [Zg]
 try simp only [Z9]
 try simp only [Y_s]
 subst hN
 refine ⟨fun h0=> ?_,fun h0=> ?_⟩
 ·rw [hF,Ug (by simp at h0;simp [h0])];exact ⟨rfl,rfl⟩
 have h0:xs.length≠0:=by simp at h0;intro h;rw [List.length_eq_zero_iff] at h;exact h0 h
 have ed:V4 (some 1) xs=xs.drop 1:=rfl
 rw [ed]
 refine ⟨by omega,fun c1=>⟨fun l1=> ?_,fun l1=>⟨by omega, ?_⟩⟩,fun c1=>⟨fun c2=>⟨fun l1=> ?_,fun l1=>⟨by omega, ?_⟩⟩,fun c2=>⟨fun c3=>⟨fun l1=> ?_,fun l1=>⟨by omega, ?_⟩⟩,fun c3=> ?_⟩⟩⟩
 ·rw [hF,X1 h0 (ZeC c1) (by decide) (by omega)];exact ⟨rfl,rfl⟩
 ·rw [hF,VV h0 (ZeC c1) (by decide) (by omega)]
  simp only [goN,Z1I,ZjS,ZjT,if_false,Nat.zero_add,Nat.reduceAdd]
  repeat' (first|(refine And.intro ?_ ?_)|intro _)
  all_goals first|omega|(simp only [*,if_true,if_false];done)|(simp only [*,if_true,if_false];rfl)|skip
  all_goals rename_i hb
  all_goals first|rw [bne_iff_ne] at hb|rw [bne_eq_false_iff_eq] at hb
  all_goals simp only [*,if_false]
  all_goals first|rfl|(split<;>first|rfl|omega)
 ·rw [hF,X1 h0 (ZeD c1 c2) (by decide) (by omega)];exact ⟨rfl,rfl⟩
 ·rw [hF,VV h0 (ZeD c1 c2) (by decide) (by omega)]
  simp only [goN,Z1I,ZjS,ZjT,if_false,Nat.zero_add,Nat.reduceAdd]
  repeat' (first|(refine And.intro ?_ ?_)|intro _)
  all_goals first|omega|(simp only [*,if_true,if_false];done)|(simp only [*,if_true,if_false];rfl)|skip
  all_goals rename_i hb
  all_goals first|rw [bne_iff_ne] at hb|rw [bne_eq_false_iff_eq] at hb
  all_goals simp only [*,if_false]
  all_goals first|rfl|(split<;>first|rfl|omega)
 ·rw [hF,X1 h0 (ZeE c1 c2 c3) (by decide) (by omega)];exact ⟨rfl,rfl⟩
 ·rw [hF,VV h0 (ZeE c1 c2 c3) (by decide) (by omega)]
  simp only [goN,Z1I,ZjS,ZjT,if_false,Nat.zero_add,Nat.reduceAdd]
  repeat' (first|(refine And.intro ?_ ?_)|intro _)
  all_goals first|omega|(simp only [*,if_true,if_false];done)|(simp only [*,if_true,if_false];rfl)|skip
  all_goals rename_i hb
  all_goals first|rw [bne_iff_ne] at hb|rw [bne_eq_false_iff_eq] at hb
  all_goals simp only [*,if_false]
  all_goals first|rfl|(split<;>first|rfl|omega)
 ·rw [hF,Uh h0 (Zia c1 c2 c3)];exact ⟨by omega,rfl,rfl⟩
def ZeF (F:List Int->Int×Int):ZG:=fun args h K=>ZH none h true 20 args fun a=>match a with
 | [.vints .u8 xs n]=>Zt (xs.length=n) (K (.tuple [.int .i64 (F xs).1,.int .i64 (F xs).2]))
 | _=>False
theorem ZbQ (args:List AV) (h:Z6) (K:AV->Prop) (hl:ZeF (ZU Zs) args h K):Zi PP 271 args h fun o h'=>∃v,o=.ret v/\h'=h/\K v:=by
 refine Zy.psumm (d:=20) (Zm _ _ _ _ _ hl fun a ha=> ?_)
 split at ha
 ·obtain ⟨h1,hK⟩:=Zb ha
  exact ⟨_,.evM Z0J (Zhr _ _ _ _ h1 rfl),fun _=>rfl,hK⟩
 ·exact ha.elim
noncomputable def E23 (F:List Int->Int×Int):Zh:=G0.withP 271 (ZeF F)
theorem ZeG:(E23 (ZU Zs)).Ok:=Zh.withP_ok Zp ZbQ
theorem Zod (xs:List Int) (o n:Nat) (h2:n=0):
  evF G0 20 66 [.ptr (some ⟨0,0,0,0,0⟩)] ⟨2,[(0,.flat [.nslice ⟨1,0,0,0,o⟩ 1 n n,.bool true,.bool false]),(1,.ints .u8 xs)]⟩ (ZL 2 (.ret (.int .i64 0)) 2 [(0,.flat [.nslice ⟨1,0,0,0,o⟩ 1 n n,.bool true,.bool false]),(1,.ints .u8 xs)]):=by
 refine @Eq.mpr _ (Z0 (!(↑n:Int)==0) False (Z0 (decide (o=o)) (Z0 (decide (n=n)) (Z0 (decide (n<=n)) (xs=xs/\True) False) False) False)) (by kernel_rfl) ?_
 try simp only [Z8]
 try simp only [Ze]
 try simp only [Za]
 try simp only [Zf]
 try simp only [Zg]
 try simp only [Z9]
 try simp only [Y_s]
 subst h2
 simp
theorem Zoe (xs:List Int) (o n:Nat) (h2:n≠0):
  evF G0 20 66 [.ptr (some ⟨0,0,0,0,0⟩)] ⟨2,[(0,.flat [.nslice ⟨1,0,0,0,o⟩ 1 n n,.bool true,.bool false]),(1,.ints .u8 xs)]⟩ (ZL 2 (.ret (.int .i64 140)) 2 [(0,.flat [.nslice ⟨1,0,0,0,o⟩ 1 n n,.bool true,.bool true]),(1,.ints .u8 xs)]):=by
 refine @Eq.mpr _ (Z0 (!(↑n:Int)==0) (Z0 (decide (o=o)) (Z0 (decide (n=n)) (Z0 (decide (n<=n)) (xs=xs/\True) False) False) False) False) (by kernel_rfl) ?_
 try simp only [Z8]
 try simp only [Ze]
 try simp only [Za]
 try simp only [Zf]
 try simp only [Zg]
 try simp only [Z9]
 try simp only [Y_s]
 simp
 omega
theorem Z1m (W:Int->List Int) (xs:List Int):(ZU W xs).2<=xs.length:=by
 by_cases h0:xs.length=0
 ·rw [Ug h0];exact Int.natCast_nonneg _
 by_cases hm:X0 (xs.getD 0 0)=0
 ·rw [Uh h0 hm];show (1:Int)<=_;omega
 by_cases hl:xs.length<=X0 (xs.getD 0 0)
 ·rw [X1 h0 rfl hm hl];exact Int.natCast_nonneg _
 rw [VV h0 rfl hm (by omega)]
 split
 ·show (-1:Int)<=_;omega
 ·split
  ·show (-1:Int)<=_;omega
  ·split
   ·show (1:Int)+X0 (xs.getD 0 0)<=_;omega
   ·show (-1:Int)<=_;omega
def rdN (F:List Int->Int×Int) (xs:List Int) (o:Nat) (most:Int):Option (Int×Nat):=
 if 0<(F (xs.drop o)).2/\(F (xs.drop o)).1<=most then some ((F (xs.drop o)).1,o+(F (xs.drop o)).2.toNat) else none
def rdH (xs:List Int) (o:Nat):Option (List Int×Nat):=if o+32<=xs.length then some ((xs.drop o).take 32,o+32) else none
def Zaf:ZR:=fun args h K=>match args with
 | [.ptr (some ⟨r,0,0,0,0⟩)]=>match h.get r with
  |some (.flat [.nslice ⟨b,0,0,0,_⟩ 1 _ _,.bool true,.bool false])=>frA [r,b] h 20 args fun Bs a=>match Bs,a with
   | [.flat [.nslice ⟨1,0,0,0,o⟩ 1 n n2,.bool true,.bool false],.ints .u8 xs],[.ptr (some ⟨0,0,0,0,0⟩)]=>
    Zt (n2=n) (Z0 (decide (n=0))
     (K (.ret (.int .i64 0)) ⟨h.next,(r,.flat [.nslice ⟨b,0,0,0,o⟩ 1 n n,.bool true,.bool false])::(b,.ints .u8 xs)::Y9 (Y9 h.bs r) b⟩)
     (K (.ret (.int .i64 140)) ⟨h.next,(r,.flat [.nslice ⟨b,0,0,0,o⟩ 1 n n,.bool true,.bool true])::(b,.ints .u8 xs)::Y9 (Y9 h.bs r) b⟩))
   | _,_=>False
  | _=>False
 | _=>False
theorem ZeH (args:List AV) (h:Z6) (K:KO) (hl:Zaf args h K):Zi PP 66 args h K:=by
 unfold Zaf at hl
 split at hl
 ·split at hl
  ·refine Spec.fsumm hl fun Bs a hlen hK0=> ?_
   split at hK0
   ·rename_i o n n2 xs
    obtain ⟨rfl,hK⟩:=Zb hK0
    rw [Za] at hK
    by_cases hc:n2=0
    ·exact ⟨_,_,_,_,_,.evM Zp (Zod xs o _ hc),by simp,.ret _ _ rfl,.cons _ _ _ _ _ _ rfl (.flat _ _ rfl) (.cons _ _ _ _ _ _ rfl (.ints _ _) .nil),hK.1 hc⟩
    ·exact ⟨_,_,_,_,_,.evM Zp (Zoe xs o _ hc),by simp,.ret _ _ rfl,.cons _ _ _ _ _ _ rfl (.flat _ _ rfl) (.cons _ _ _ _ _ _ rfl (.ints _ _) .nil),hK.2 hc⟩
   ·exact hK0.elim
  ·exact hl.elim
 ·exact hl.elim
def rdT (xs:List Int) (o:Nat):Option (Bool×Nat):=if o<xs.length/\xs.getD o 0<=1 then some (xs.getD o 0==1,o+1) else none
theorem Zof (xs:List Int) (o n o' n':Nat) (b:Bool) (hn:o+n=xs.length) (h0:0<n) (h1:xs.getD o 0<=1) (hb:b=(xs.getD o 0==1)) (ho:o'=o+1) (hn':n'=n-1):
  evF G0 20 130 [.ptr (some ⟨0,0,0,0,0⟩)] ⟨2,[(0,.flat [.nslice ⟨1,0,0,0,o⟩ 1 n n,.bool true,.bool false]),(1,.ints .u8 xs)]⟩ (ZL 2 (.ret (.tuple [.bool b,.int .i64 0])) 2 [(0,.flat [.nslice ⟨1,0,0,0,o'⟩ 1 n' n',.bool true,.bool false]),(1,.ints .u8 xs)]):=by
 refine @Eq.mpr _ (let q1:=Z0 (decide (false=b)) False False;let q2:=decide (n<=n);let q3:=decide ((0:Int)<=1/\1<=(↑n:Int));let q4:=o+0+0;let q5:=List.getD xs q4 0;let q6:=XA n (some 1);
 Z0 (!decide (1<=(↑n:Int))) q1 (Z0 q2 (Z0 q3 (Z0 q2 (Z0 q3 (Z0 (decide (q4<List.length xs)) (Z0 (!decide (q5<=1)) q1 (Z0 (decide ((q5==1)=b)) (Z0 (decide (o+1=o')) (Z0 (decide (q6=n')) (Z0 (decide (n'<=q6)) (xs=xs/\True) False) False) False) False)) False) False) False) False) False)) (by kernel_rfl) ?_
 conv=>zeta
 try simp only [Z8]
 try simp only [Ze]
 try simp only [Za]
 try simp only [Zf]
 try simp only [Zg]
 try simp only [Z9]
 try simp only [Y_s]
 subst hb ho hn'
 have e:XA n (some 1)=n-1:=rfl
 rw [e]
 refine ⟨fun h=>absurd h (by simp;omega),fun _=>⟨by omega,by omega,by omega,fun h=>absurd h (by rw [decide_eq_true (show xs.getD (o+0+0) 0<=1 from h1)];decide),fun _=>by simp⟩⟩
theorem Zog (xs:List Int) (o n:Nat) (hn:o+n=xs.length) (h1:0<n->1<xs.getD o 0):
  evF G0 20 130 [.ptr (some ⟨0,0,0,0,0⟩)] ⟨2,[(0,.flat [.nslice ⟨1,0,0,0,o⟩ 1 n n,.bool true,.bool false]),(1,.ints .u8 xs)]⟩ (ZL 2 (.ret (.tuple [.bool false,.int .i64 140])) 2 [(0,.flat [.nslice ⟨1,0,0,0,o⟩ 1 n n,.bool true,.bool true]),(1,.ints .u8 xs)]):=by
 refine @Eq.mpr _ (let q1:=decide (n<=n);let q2:=Z0 (decide (o=o)) (Z0 (decide (n=n)) (Z0 q1 (xs=xs/\True) False) False) False;let q3:=decide ((0:Int)<=1/\1<=(↑n:Int));let q4:=o+0+0;let q5:=List.getD xs q4 0;
 Z0 (!decide (1<=(↑n:Int))) q2 (Z0 q1 (Z0 q3 (Z0 q1 (Z0 q3 (Z0 (decide (q4<List.length xs)) (Z0 (!decide (q5<=1)) q2 (Z0 (decide ((q5==1)=false)) False False)) False) False) False) False) False)) (by kernel_rfl) ?_
 conv=>zeta
 try simp only [Z8]
 try simp only [Ze]
 try simp only [Za]
 try simp only [Zf]
 try simp only [Zg]
 try simp only [Z9]
 try simp only [Y_s]
 refine ⟨fun _=>by simp,fun h=>⟨by simp at h;omega,by simp at h;omega,by simp at h;omega,fun _=>by simp,fun h2=> ?_⟩⟩
 have:=h1 (by simp at h;omega)
 have h3:decide (xs.getD o 0<=1)=true:=by
  revert h2
  show (!decide (xs.getD o 0<=1))=false->_
  cases decide (xs.getD o 0<=1)<;>decide
 have h3:=of_decide_eq_true h3
 omega
def Zag:ZR:=fun args h K=>match args with
 | [.ptr (some ⟨r,0,0,0,0⟩)]=>match h.get r with
  |some (.flat [.nslice ⟨b,0,0,0,_⟩ 1 _ _,.bool true,.bool false])=>frA [r,b] h 20 args fun Bs a=>match Bs,a with
   | [.flat [.nslice ⟨1,0,0,0,o⟩ 1 n n2,.bool true,.bool false],.ints .u8 xs],[.ptr (some ⟨0,0,0,0,0⟩)]=>
    Zt (n=xs.length-o/\o<=xs.length/\n2=xs.length-o) ((∀v o',rdT xs o=some (v,o')->(o<=o'/\o'<=xs.length)->
     K (.ret (.tuple [.bool v,.int .i64 0])) ⟨h.next,(r,.flat [.nslice ⟨b,0,0,0,o'⟩ 1 (xs.length-o') (xs.length-o'),.bool true,.bool false])::(b,.ints .u8 xs)::Y9 (Y9 h.bs r) b⟩)/\
     (rdT xs o=none->K (.ret (.tuple [.bool false,.int .i64 140])) ⟨h.next,(r,.flat [.nslice ⟨b,0,0,0,o⟩ 1 (xs.length-o) (xs.length-o),.bool true,.bool true])::(b,.ints .u8 xs)::Y9 (Y9 h.bs r) b⟩))
   | _,_=>False
  | _=>False
 | _=>False
theorem ZeI (args:List AV) (h:Z6) (K:KO) (hl:Zag args h K):Zi PP 130 args h K:=by
 unfold Zag at hl
 split at hl
 ·split at hl
  ·refine Spec.fsumm hl fun Bs a hlen hK0=> ?_
   split at hK0
   ·rename_i o n n2 xs
    obtain ⟨⟨rfl,h1,rfl⟩,hK,hK'⟩:=Zb hK0
    by_cases hc:o<xs.length/\xs.getD o 0<=1
    ·exact ⟨_,_,_,_,_,.evM Zp (Zof xs o (xs.length-o) (o+1) (xs.length-(o+1)) _ (by omega) (by omega) hc.2 rfl rfl (by omega)),by simp,.ret _ _ rfl,.cons _ _ _ _ _ _ rfl (.flat _ _ rfl) (.cons _ _ _ _ _ _ rfl (.ints _ _) .nil),hK _ (o+1) (by unfold rdT;rw [if_pos hc]) ⟨by omega,by omega⟩⟩
    ·exact ⟨_,_,_,_,_,.evM Zp (Zog xs o _ (by omega) (fun h=>by omega)),by simp,.ret _ _ rfl,.cons _ _ _ _ _ _ rfl (.flat _ _ rfl) (.cons _ _ _ _ _ _ rfl (.ints _ _) .nil),hK' (by unfold rdT;rw [if_neg hc])⟩
   ·exact hK0.elim
  ·exact hl.elim
 ·exact hl.elim
theorem Zmo (F:List Int->Int×Int) (xs:List Int) (o n o' n':Nat) (most v:Int) (hn:o+n=xs.length) (hm:0<=most) (h2:0<(F (xs.drop o)).2/\(F (xs.drop o)).2<=n) (h1:(F (xs.drop o)).1<=most) (hv:(F (xs.drop o)).1=v) (ho:o'=o+(F (xs.drop o)).2.toNat) (hn':n'=n-(F (xs.drop o)).2.toNat):
  evF (E23 F) 20 128 [.ptr (some ⟨0,0,0,0,0⟩),.int .i64 most] ⟨2,[(0,.flat [.nslice ⟨1,0,0,0,o⟩ 1 n n,.bool true,.bool false]),(1,.ints .u8 xs)]⟩ (ZL 2 (.ret (.tuple [.int .i64 v,.int .i64 0])) 2 [(0,.flat [.nslice ⟨1,0,0,0,o'⟩ 1 n' n',.bool true,.bool false]),(1,.ints .u8 xs)]):=by
 refine @Eq.mpr _ (let q1:=Z0 (decide (0=v)) False False;let q2:=Zx.tot (Zx.mk 1 0 0 0 o);let q3:=List.take n (ZW q2 xs);let q4:=F q3;let q5:=q4.snd;let q6:=q4.fst;let q7:=decide (n<=n);let q8:=decide (0<=q5/\q5<= ↑n);let q9:=some (Int.toNat q5);let q10:=XA n q9;
 Z0 (decide (most<0)) q1 (Z0 (decide (q2+n<=List.length xs)) (Z0 (decide (List.length q3=n)) (Z0 (decide (q5>0)) (Z0 (!decide (q6<=most)) q1 (Z0 (!decide (q5<= ↑n)) q1 (Z0 q7 (Z0 q8 (Z0 q7 (Z0 q8 (Z0 (decide (q6=v)) (Z0 (decide (o+Ya q9=o')) (Z0 (decide (q10=n')) (Z0 (decide (n'<=q10)) (xs=xs/\True) False) False) False) False) False) False) False) False))) q1) False) False)) (by kernel_rfl) ?_
 conv=>zeta
 try simp only [Z8]
 try simp only [Ze]
 try simp only [Za]
 try simp only [Zf]
 try simp only [Zg]
 try simp only [Z9]
 try simp only [Y_s]
 have ht:(Zx.mk 1 0 0 0 o).tot=o:=by simp [Zx.tot]
 have hd:List.take n (ZW o xs)=xs.drop o:=by rw [Y4,List.take_of_length_le (by rw [List.length_drop];omega)]
 have hl:(xs.drop o).length=n:=by rw [List.length_drop];omega
 simp only [ht,hd,hl]
 subst hv ho hn'
 generalize F (xs.drop o)=p at*
 have e1:(!decide (p.1<=most))=false:=by simp [h1]
 have e2:(!decide (p.2<=(n:Int)))=false:=by simp [h2.2]
 have e3:Ya (some p.2.toNat)=p.2.toNat:=rfl
 have e4:XA n (some p.2.toNat)=n-p.2.toNat:=rfl
 simp only [e1,e2,e3,e4]
 repeat' (first|(refine And.intro ?_ ?_)|intro _)
 all_goals first|omega|rfl|trivial|(exfalso;omega)|(rename_i h;simp at h;done)|(rename_i h;simp at h;omega)|(rename_i h _;simp at h;omega)
theorem Zmp (F:List Int->Int×Int) (xs:List Int) (o n:Nat) (most:Int) (hn:o+n=xs.length) (hm:0<=most) (h2:0<(F (xs.drop o)).2->most<(F (xs.drop o)).1):
  evF (E23 F) 20 128 [.ptr (some ⟨0,0,0,0,0⟩),.int .i64 most] ⟨2,[(0,.flat [.nslice ⟨1,0,0,0,o⟩ 1 n n,.bool true,.bool false]),(1,.ints .u8 xs)]⟩ (ZL 2 (.ret (.tuple [.int .i64 0,.int .i64 140])) 2 [(0,.flat [.nslice ⟨1,0,0,0,o⟩ 1 n n,.bool true,.bool true]),(1,.ints .u8 xs)]):=by
 refine @Eq.mpr _ (let q1:=Zx.tot (Zx.mk 1 0 0 0 o);let q2:=List.take n (ZW q1 xs);let q3:=F q2;let q4:=q3.snd;let q5:=q3.fst;let q6:=decide (n<=n);let q7:=Z0 (decide (o=o)) (Z0 (decide (n=n)) (Z0 q6 (xs=xs/\True) False) False) False;let q8:=decide (0<=q4/\q4<= ↑n);
 Z0 (decide (most<0)) False (Z0 (decide (q1+n<=List.length xs)) (Z0 (decide (List.length q2=n)) (Z0 (decide (q4>0)) (Z0 (!decide (q5<=most)) q7 (Z0 (!decide (q4<= ↑n)) q7 (Z0 q6 (Z0 q8 (Z0 q6 (Z0 q8 (Z0 (decide (q5=0)) False False) False) False) False) False))) q7) False) False)) (by kernel_rfl) ?_
 conv=>zeta
 try simp only [Z8]
 try simp only [Ze]
 try simp only [Za]
 try simp only [Zf]
 try simp only [Zg]
 try simp only [Z9]
 try simp only [Y_s]
 have ht:(Zx.mk 1 0 0 0 o).tot=o:=by simp [Zx.tot]
 have hd:List.take n (ZW o xs)=xs.drop o:=by rw [Y4,List.take_of_length_le (by rw [List.length_drop];omega)]
 have hl:(xs.drop o).length=n:=by rw [List.length_drop];omega
 simp only [ht,hd,hl]
 generalize F (xs.drop o)=p at*
 repeat' (first|(refine And.intro ?_ ?_)|intro _)
 all_goals first|omega|rfl|trivial|(exfalso;omega)|(rename_i h;simp at h;done)|(rename_i h;simp at h;omega)|(rename_i h _;simp at h;omega)
theorem Zmq (xs hh:List Int) (o n o' n':Nat) (hn:o+n=xs.length) (h2:32<=n) (hh':hh=(xs.drop o).take 32) (ho:o'=o+32) (hn':n'=n-32):
  evF G0 20 129 [.ptr (some ⟨0,0,0,0,0⟩)] ⟨2,[(0,.flat [.nslice ⟨1,0,0,0,o⟩ 1 n n,.bool true,.bool false]),(1,.ints .u8 xs)]⟩ (ZL 2 (.ret (.tuple [.agg [.arr .u8 32 hh],.int .i64 0])) 2 [(0,.flat [.nslice ⟨1,0,0,0,o'⟩ 1 n' n',.bool true,.bool false]),(1,.ints .u8 xs)]):=by
 refine @Eq.mpr _ (let q1:=decide (n<=n);let q2:=decide ((0:Int)<=32/\32<=(↑n:Int));let q3:=Zx.tot (Zx.mk 1 0 0 0 (o+0));let q4:=XA n (some 32);
 Z0 (!decide (32<=(↑n:Int))) (Z5=hh/\False) (Z0 q1 (Z0 q2 (Z0 q1 (Z0 q2 (Z0 (decide (u8=u8/\q3+32<=List.length xs)) (spl Z5 0 (List.take 32 (List.take 32 (ZW q3 xs)))=hh/\Z0 (decide (o+32=o')) (Z0 (decide (q4=n')) (Z0 (decide (n'<=q4)) (xs=xs/\True) False) False) False) False) False) False) False) False)) (by kernel_rfl) ?_
 conv=>zeta
 try simp only [Z8]
 try simp only [Ze]
 try simp only [Za]
 try simp only [Zf]
 try simp only [Zg]
 try simp only [Z9]
 try simp only [Y_s]
 have ht:(Zx.mk 1 0 0 0 (o+0)).tot=o:=by simp [Zx.tot]
 have e4:XA n (some 32)=n-32:=rfl
 have hl:((xs.drop o).take 32).length=32:=by rw [List.length_take,List.length_drop];omega
 have hd:List.take 32 (List.take 32 (ZW o xs))=(xs.drop o).take 32:=by rw [Y4,List.take_take];rfl
 have hs:spl Z5 0 ((xs.drop o).take 32)=(xs.drop o).take 32:=by
  unfold spl
  rw [List.take_zero,List.nil_append,hl]
  simp [Z5]
 simp only [ht,e4,hd,hs]
 subst hh' ho hn'
 repeat' (first|(refine And.intro ?_ ?_)|intro _)
 all_goals first|omega|rfl|trivial|(exfalso;omega)|(rename_i h;simp at h;done)|(rename_i h;simp at h;omega)|(rename_i h _;simp at h;omega)
theorem Zmr (xs:List Int) (o n:Nat) (hn:o+n=xs.length) (h2:n<32):
  evF G0 20 129 [.ptr (some ⟨0,0,0,0,0⟩)] ⟨2,[(0,.flat [.nslice ⟨1,0,0,0,o⟩ 1 n n,.bool true,.bool false]),(1,.ints .u8 xs)]⟩ (ZL 2 (.ret (.tuple [.agg [.arr .u8 32 Z5],.int .i64 140])) 2 [(0,.flat [.nslice ⟨1,0,0,0,o⟩ 1 n n,.bool true,.bool true]),(1,.ints .u8 xs)]):=by
 refine @Eq.mpr _ (let q1:=decide (n<=n);let q2:=decide ((0:Int)<=32/\32<=(↑n:Int));let q3:=Zx.tot (Zx.mk 1 0 0 0 (o+0));
 Z0 (!decide (32<=(↑n:Int))) (Z5=Z5/\Z0 (decide (o=o)) (Z0 (decide (n=n)) (Z0 q1 (xs=xs/\True) False) False) False) (Z0 q1 (Z0 q2 (Z0 q1 (Z0 q2 (Z0 (decide (u8=u8/\q3+32<=List.length xs)) (spl Z5 0 (List.take 32 (List.take 32 (ZW q3 xs)))=Z5/\False) False) False) False) False) False)) (by kernel_rfl) ?_
 conv=>zeta
 try simp only [Z8]
 try simp only [Ze]
 try simp only [Za]
 try simp only [Zf]
 try simp only [Zg]
 try simp only [Z9]
 try simp only [Y_s]
 refine ⟨fun _=>trivial,fun h=> ?_⟩
 simp at h
 omega
def Zah (F:List Int->Int×Int):ZR:=fun args h K=>match args with
 | [.ptr (some ⟨r,0,0,0,0⟩),.int .i64 _]=>match h.get r with
  |some (.flat [.nslice ⟨b,0,0,0,_⟩ 1 _ _,.bool true,.bool false])=>frA [r,b] h 20 args fun Bs a=>match Bs,a with
   | [.flat [.nslice ⟨1,0,0,0,o⟩ 1 n n2,.bool true,.bool false],.ints .u8 xs],[.ptr (some ⟨0,0,0,0,0⟩),.int .i64 most]=>
    Zt (n=xs.length-o/\o<=xs.length/\n2=xs.length-o/\0<=most) ((∀v o',rdN F xs o most=some (v,o')->(o<=o'/\o'<=xs.length/\v<=most)->
     K (.ret (.tuple [.int .i64 v,.int .i64 0])) ⟨h.next,(r,.flat [.nslice ⟨b,0,0,0,o'⟩ 1 (xs.length-o') (xs.length-o'),.bool true,.bool false])::(b,.ints .u8 xs)::Y9 (Y9 h.bs r) b⟩)/\
     (rdN F xs o most=none->K (.ret (.tuple [.int .i64 0,.int .i64 140])) ⟨h.next,(r,.flat [.nslice ⟨b,0,0,0,o⟩ 1 (xs.length-o) (xs.length-o),.bool true,.bool true])::(b,.ints .u8 xs)::Y9 (Y9 h.bs r) b⟩))
   | _,_=>False
  | _=>False
 | _=>False
theorem ZeJ (args:List AV) (h:Z6) (K:KO) (hl:Zah (ZU Zs) args h K):Zi PP 128 args h K:=by
 unfold Zah at hl
 split at hl
 ·split at hl
  ·refine Spec.fsumm hl fun Bs a hlen hK0=> ?_
   split at hK0
   ·rename_i o n n2 xs most
    obtain ⟨⟨rfl,h1,rfl,h3⟩,hK,hK'⟩:=Zb hK0
    have hle:=Z1m Zs (xs.drop o)
    rw [List.length_drop] at hle
    by_cases hc:0<(ZU Zs (xs.drop o)).2/\(ZU Zs (xs.drop o)).1<=most
    ·have f1:o<=o+(ZU Zs (xs.drop o)).2.toNat/\o+(ZU Zs (xs.drop o)).2.toNat<=xs.length/\(ZU Zs (xs.drop o)).1<=most:=⟨by omega,by omega,hc.2⟩
     exact ⟨_,_,_,_,_,.evM ZeG (Zmo _ xs o (xs.length-o) (o+(ZU Zs (xs.drop o)).2.toNat) (xs.length-(o+(ZU Zs (xs.drop o)).2.toNat)) most _ (by omega) h3 ⟨hc.1,by omega⟩ hc.2 rfl rfl (by omega)),by simp,.ret _ _ rfl,.cons _ _ _ _ _ _ rfl (.flat _ _ rfl) (.cons _ _ _ _ _ _ rfl (.ints _ _) .nil),hK _ _ (by unfold rdN;rw [if_pos hc]) f1⟩
    ·exact ⟨_,_,_,_,_,.evM ZeG (Zmp _ xs o _ most (by omega) h3 (fun h=>by omega)),by simp,.ret _ _ rfl,.cons _ _ _ _ _ _ rfl (.flat _ _ rfl) (.cons _ _ _ _ _ _ rfl (.ints _ _) .nil),hK' (by unfold rdN;rw [if_neg hc])⟩
   ·exact hK0.elim
  ·exact hl.elim
 ·exact hl.elim
def Z62:ZR:=fun args h K=>match args with
 | [.ptr (some ⟨r,0,0,0,0⟩)]=>match h.get r with
  |some (.flat [.nslice ⟨b,0,0,0,_⟩ 1 _ _,.bool true,.bool false])=>frA [r,b] h 20 args fun Bs a=>match Bs,a with
   | [.flat [.nslice ⟨1,0,0,0,o⟩ 1 n n2,.bool true,.bool false],.ints .u8 xs],[.ptr (some ⟨0,0,0,0,0⟩)]=>
    Zt (n=xs.length-o/\o<=xs.length/\n2=xs.length-o) ((∀hh o',rdH xs o=some (hh,o')->(o<=o'/\o'<=xs.length/\hh.length=32)->
     K (.ret (.tuple [.agg [.arr .u8 32 hh],.int .i64 0])) ⟨h.next,(r,.flat [.nslice ⟨b,0,0,0,o'⟩ 1 (xs.length-o') (xs.length-o'),.bool true,.bool false])::(b,.ints .u8 xs)::Y9 (Y9 h.bs r) b⟩)/\
     (rdH xs o=none->K (.ret (.tuple [.agg [.arr .u8 32 Z5],.int .i64 140])) ⟨h.next,(r,.flat [.nslice ⟨b,0,0,0,o⟩ 1 (xs.length-o) (xs.length-o),.bool true,.bool true])::(b,.ints .u8 xs)::Y9 (Y9 h.bs r) b⟩))
   | _,_=>False
  | _=>False
 | _=>False
theorem ZbR (args:List AV) (h:Z6) (K:KO) (hl:Z62 args h K):Zi PP 129 args h K:=by
 unfold Z62 at hl
 split at hl
 ·split at hl
  ·refine Spec.fsumm hl fun Bs a hlen hK0=> ?_
   split at hK0
   ·rename_i o n n2 xs
    obtain ⟨⟨rfl,h1,rfl⟩,hK,hK'⟩:=Zb hK0
    by_cases hc:o+32<=xs.length
    ·have f1:o<=o+32/\o+32<=xs.length/\((xs.drop o).take 32).length=32:=⟨by omega,hc,by rw [List.length_take,List.length_drop];omega⟩
     exact ⟨_,_,_,_,_,.evM Zp (Zmq xs _ o (xs.length-o) (o+32) (xs.length-(o+32)) (by omega) (by omega) rfl rfl (by omega)),by simp,.ret _ _ rfl,.cons _ _ _ _ _ _ rfl (.flat _ _ rfl) (.cons _ _ _ _ _ _ rfl (.ints _ _) .nil),hK _ _ (by unfold rdH;rw [if_pos hc]) f1⟩
    ·exact ⟨_,_,_,_,_,.evM Zp (Zmr xs o _ (by omega) (by omega)),by simp,.ret _ _ rfl,.cons _ _ _ _ _ _ rfl (.flat _ _ rfl) (.cons _ _ _ _ _ _ rfl (.ints _ _) .nil),hK' (by unfold rdH;rw [if_neg hc])⟩
   ·exact hK0.elim
  ·exact hl.elim
 ·exact hl.elim
theorem ZeK {n c:Int} (h0:0<=n) (h1:n<36028797018963968) (h2:0<=c) (h3:c<=255):Z1I n c=256*n+c:=by
 unfold Z1I bOr ZF
 have e1:(n*2^(min (8:Int).toNat i64.bits))=n*256:=by simp [IntKind.bits]
 rw [e1,w64 (x:=n*256) (by omega)]
 obtain ⟨a,rfl⟩:=Int.eq_ofNat_of_zero_le h0
 obtain ⟨b,rfl⟩:=Int.eq_ofNat_of_zero_le h2
 have e2:((BitVec.ofInt i64.bits ((a:Int)*256))|||(BitVec.ofInt i64.bits (b:Int))).toNat=256*a+b:=by
  have ea:BitVec.ofInt 64 ((a:Int)*256)=BitVec.ofNat 64 (a*256):=by
   rw [<-BitVec.ofInt_natCast];rfl
  have eb:BitVec.ofInt 64 (b:Int)=BitVec.ofNat 64 b:=BitVec.ofInt_natCast 64 b
  show (BitVec.ofInt 64 ((a:Int)*256)|||BitVec.ofInt 64 (b:Int)).toNat=_
  rw [ea,eb,BitVec.toNat_or,BitVec.toNat_ofNat,BitVec.toNat_ofNat,Nat.mod_eq_of_lt (by omega),Nat.mod_eq_of_lt (by omega)]
  have:=Nat.shiftLeft_add_eq_or_of_lt (a:=a) (b:=b) (i:=8) (by omega)
  rw [Nat.shiftLeft_eq] at this
  rw [<-this];omega
 rw [e2,w64 (by omega)]
 omega
theorem Z8Y {c:Int} (h2:0<=c) (h3:c<=255):Z1I 36028797018963968 c<0:=by
 have h:∀b:Fin 256,Z1I 36028797018963968 (b.val:Int)<0:=by decide+kernel
 have:=h ⟨c.toNat,by omega⟩
 have e:((c.toNat:Nat):Int)=c:=Int.toNat_of_nonneg h2
 rw [show ((⟨c.toNat,by omega⟩:Fin 256).val:Int)=c from e] at this
 exact this
theorem Z2c:∀(m:Nat) (xs:List Int) (k:Nat) (n:Int),Bytes xs->0<=n->n*256^m<=V2 m xs k n
 | 0,xs,k,n,hb,hn=>by simp [V2]
 | m+1,xs,k,n,hb,hn=>by
  have hc:=hb.h k
  have:=Z2c m xs (k+1) (256*n+xs.getD k 0) hb (by omega)
  unfold V2
  refine Int.le_trans ?_ this
  rw [Int.pow_succ,Int.mul_comm (256^m) 256,<-Int.mul_assoc]
  exact Int.mul_le_mul_of_nonneg_right (by omega) (Int.le_of_lt (Int.pow_pos (by decide)))
theorem ZeL {a b:Nat} (h:a<=b):(256:Int)^a<=256^b:=by
 have h1:=Nat.pow_le_pow_right (n:=256) (by decide) h
 have h2:((256^a:Nat):Int)<=((256^b:Nat):Int):=Int.ofNat_le.2 h1
 rw [Int.natCast_pow,Int.natCast_pow] at h2
 exact h2
theorem Zms (m:Nat):(1:Int)<=256^m:=Int.pow_pos (by decide)
theorem Zai:∀(m:Nat) (xs:List Int) (k:Nat) (n:Int),Bytes xs->0<=n->m<=8->n<256^(8-m)->
  (goN m xs k n=none/\V2 m xs k n>4611686018427387904)\/(∃v,goN m xs k n=some v/\((v=V2 m xs k n/\0<=v)\/(v<0/\V2 m xs k n>4611686018427387904)))
 | 0,xs,k,n,hb,hn,hm,hl=>.inr ⟨n,rfl,.inl ⟨rfl,hn⟩⟩
 | m+1,xs,k,n,hb,hn,hm,hl=>by
  have hc:=hb.h k
  have hge:=Z2c (m+1) xs k n hb hn
  by_cases h1:n>36028797018963968
  ·left
   refine ⟨by unfold goN;rw [if_pos h1], ?_⟩
   have:=Zms m
   rw [Int.pow_succ] at hge
   have h2:n*(1*256)<=n*(256^m*256):=Int.mul_le_mul_of_nonneg_left (Int.mul_le_mul_of_nonneg_right this (by decide)) hn
   omega
  ·unfold goN V2
   rw [if_neg h1]
   have hw:i64.wrap (xs.getD k 0)=xs.getD k 0:=w64 (by omega)
   rw [hw]
   by_cases h2:n=36028797018963968
   ·subst h2
    have hm0:m=0:=by
     have hq:(36028797018963968:Int)=256^6*128:=by decide
     rcases Nat.eq_zero_or_pos m with h|h
     ·exact h
     ·exfalso
      have hle:(256:Int)^(8-(m+1))<=256^6:=ZeL (by omega)
      have:(256:Int)^6=281474976710656:=by decide
      omega
    subst hm0
    right
    refine ⟨_,rfl,.inr ⟨Z8Y hc.1 hc.2, ?_⟩⟩
    show 256*36028797018963968+xs.getD k 0>_
    omega
   ·rw [ZeK hn (by omega) hc.1 hc.2]
    refine Zai m xs (k+1) _ hb (by omega) (by omega) ?_
    have e:8-m=(8-(m+1))+1:=by omega
    rw [e,Int.pow_succ]
    omega
theorem Z50 {xs:List Int} (hb:Bytes xs) {m:Nat} (h:xs.length≠0) (hm:X0 (xs.getD 0 0)=m) (hm0:m≠0) (h8:m<=8) (hl:m<xs.length):
  ZU Zs xs=if V2 m xs 1 0>4611686018427387904 then ((0:Int),(-1:Int)) else if (Zs (V2 m xs 1 0)).length=1+m then (V2 m xs 1 0,1+(m:Int)) else ((0:Int),(-1:Int)):=by
 rw [VV h hm hm0 hl]
 have hv:∀(m k:Nat) (n:Int),V2 m (xs.drop 1) k n=V2 m xs (k+1) n:=by
  intro m
  induction m with
  | zero=>intro k n;rfl
  | succ m ih=>
   intro k n
   unfold V2
   rw [ih]
   congr 2
   rw [List.getD_eq_getElem?_getD,List.getD_eq_getElem?_getD,List.getElem?_drop,Nat.add_comm]
 have hv:=hv m 0 0
 rcases Zai m (xs.drop 1) 0 0 (hb.drop 1) (by decide) h8 (Zms _) with ⟨h1,h2⟩|⟨v,h1,h2⟩
 ·rw [h1,if_pos (by rw [<-hv];exact h2)]
 ·rw [h1]
  rcases h2 with ⟨rfl,h0⟩|⟨h0,h2⟩
  ·rw [hv]
  ·show (if v>4611686018427387904 then ((0:Int),(-1:Int)) else if (Zs v).length=1+m then (v,1+(m:Int)) else (0, -1))=_
   rw [if_neg (by omega),if_neg,if_pos (by rw [<-hv];exact h2)]
   rw [Z9N (by omega)]
   simp
   omega
theorem Z3I {n c:Int} (h0:0<=n) (h1:n<72057594037927936) (h2:0<=c/\c<=255):u64.wrap (u64.wrap (256*n)+u64.wrap c)=256*n+c:=by
 rw [ZdH (x:=c) (by omega),ZdH (x:=256*n) (by omega),ZdH (by omega)]
theorem ZjU {c:Int} (h2:0<=c/\c<=255):u64.wrap (0+u64.wrap c)=256*0+c:=by
 rw [ZdH (x:=c) (by omega),ZdH (by omega)];omega
theorem Wc {xs:List Int} {F:Int×Int} (hb:Bytes xs) {m:Nat} {M:Int} (hF:F=ZU Zs xs) (hM:M=1+m) (h:xs.length≠0) (hm:X0 (xs.getD 0 0)=m) (hm0:m≠0) (h8:m<=8) (hl:m<xs.length):
  (V2 m xs 1 0>4611686018427387904->0=F.1/\ -1=F.2)/\(¬V2 m xs 1 0>4611686018427387904->0<=i64.wrap (V2 m xs 1 0)/\
   ((((Zs (i64.wrap (V2 m xs 1 0))).length:Int) !=M)=true->0=F.1/\ -1=F.2)/\((((Zs (i64.wrap (V2 m xs 1 0))).length:Int) !=M)=false->i64.wrap (V2 m xs 1 0)=F.1/\M=F.2)):=by
 have he:=Z50 hb h hm hm0 h8 hl
 have hge:=Z2c m xs 1 0 hb (by decide)
 rw [Int.zero_mul] at hge
 generalize V2 m xs 1 0=V at*
 subst hM
 rw [hF,he]
 refine ⟨fun h1=>by rw [if_pos h1];exact ⟨rfl,rfl⟩,fun h1=> ?_⟩
 rw [w64 (x:=V) (by omega)]
 refine ⟨hge,fun h2=> ?_,fun h2=> ?_⟩
 ·rw [bne_iff_ne] at h2
  rw [if_neg h1,if_neg (by omega)]
  exact ⟨rfl,rfl⟩
 ·rw [bne_eq_false_iff_eq] at h2
  rw [if_neg h1,if_pos (by omega)]
  exact ⟨rfl,rfl⟩
theorem ZeM (W:Int->List Int) (xs:List Int) (N:Nat) (F:Int×Int) (hN:xs.length=N) (hW:W=Zs) (hb:Bytes xs) (hF:F=ZU Zs xs):
  evF (E30 W) 20 222 [.vints .u8 xs N] ⟨0,[]⟩ (ZL 0 (.ret (.tuple [.int .i64 F.1,.int .i64 F.2])) 0 []):=by
 refine @Eq.mpr _ (let q1:=decide (0=F.fst);let q2:=Z0 q1 (Z0 (decide (0=F.snd)) True False) False;let q3:=decide ((0:Int)<=0/\0<(↑N:Int));let q4:=List.getD xs 0 0;let q5:=q4==255;let q6:=decide ((0:Int)<=1/\1<(↑N:Int));let q7:=decide ((0:Int)<=2/\2<(↑N:Int));let q8:=decide ((0:Int)<=3/\3<(↑N:Int));let q9:=decide ((0:Int)<=4/\4<(↑N:Int));let q10:=wrap u64 (wrap u64 (256*wrap u64 (0+wrap u64 (List.getD xs 1 0)))+wrap u64 (List.getD xs 2 0));let q11:=wrap u64 (wrap u64 (256*wrap u64 (wrap u64 (256*q10)+wrap u64 (List.getD xs 3 0)))+wrap u64 (List.getD xs 4 0));let q12:=wrap u64 (wrap u64 (256*wrap u64 (wrap u64 (256*wrap u64 (wrap u64 (256*wrap u64 (wrap u64 (256*q11)+wrap u64 (List.getD xs 5 0)))+wrap u64 (List.getD xs 6 0)))+wrap u64 (List.getD xs 7 0)))+wrap u64 (List.getD xs 8 0));let q13:=Z0 q1 (Z0 (decide (-1=F.snd)) True False) False;let q14:=wrap i64 q12;let q15:=Z0 (decide ((↑N:Int)<9)) q2 (Z0 q6 (Z0 q7 (Z0 q8 (Z0 q9 (Z0 (decide ((0:Int)<=5/\5<(↑N:Int))) (Z0 (decide ((0:Int)<=6/\6<(↑N:Int))) (Z0 (decide ((0:Int)<=7/\7<(↑N:Int))) (Z0 (decide ((0:Int)<=8/\8<(↑N:Int))) (Z0 (decide (q12>4611686018427387904)) q13 (Z0 (decide (0<=q14)) (Z0 ((↑(List.length (W q14)):Int) !=9) q13 (Z0 (decide (q14=F.fst)) (Z0 (decide (9=F.snd)) True False) False)) False)) False) False) False) False) False) False) False) False);let q16:=wrap i64 q11;let q17:=wrap i64 q10;
 Z0 ((↑N:Int)==0) q2 (Z0 q3 (Z0 (decide (q4<253)) (Z0 q3 (Z0 (decide (wrap i64 q4=F.fst)) (Z0 (decide (1=F.snd)) True False) False) False) (Z0 q3 (Z0 (q4==254) (Z0 q3 (Z0 q5 q15 (Z0 (decide ((↑N:Int)<5)) q2 (Z0 q6 (Z0 q7 (Z0 q8 (Z0 q9 (Z0 (decide (q11>4611686018427387904)) q13 (Z0 (decide (0<=q16)) (Z0 ((↑(List.length (W q16)):Int) !=5) q13 (Z0 (decide (q16=F.fst)) (Z0 (decide (5=F.snd)) True False) False)) False)) False) False) False) False))) False) (Z0 q3 (Z0 q5 q15 (Z0 (decide ((↑N:Int)<3)) q2 (Z0 q6 (Z0 q7 (Z0 (decide (q10>4611686018427387904)) q13 (Z0 (decide (0<=q17)) (Z0 ((↑(List.length (W q17)):Int) !=3) q13 (Z0 (decide (q17=F.fst)) (Z0 (decide (3=F.snd)) True False) False)) False)) False) False))) False)) False)) False)) (by kernel_rfl) ?_
 conv=>zeta
 try simp only [Z8]
 try simp only [Ze]
 try simp only [Za]
 try simp only [Zf]
 try simp only [Zg]
 try simp only [Z9]
 try simp only [Y_s]
 subst hN hW
 refine ⟨fun h0=> ?_,fun h0=> ?_⟩
 ·rw [hF,Ug (by simp at h0;simp [h0])];exact ⟨rfl,rfl⟩
 have h0:xs.length≠0:=by simp at h0;intro h;rw [List.length_eq_zero_iff] at h;exact h0 h
 have c0:=hb.h 0
 have c1:=hb.h 1
 have c2:=hb.h 2
 have c3:=hb.h 3
 have c4:=hb.h 4
 have c5:=hb.h 5
 have c6:=hb.h 6
 have c7:=hb.h 7
 have c8:=hb.h 8
 have e1:=ZjU c1
 have e2:=Z3I (n:=256*0+xs.getD 1 0) (by omega) (by omega) c2
 have e3:=Z3I (n:=256*(256*0+xs.getD 1 0)+xs.getD 2 0) (by omega) (by omega) c3
 have e4:=Z3I (n:=256*(256*(256*0+xs.getD 1 0)+xs.getD 2 0)+xs.getD 3 0) (by omega) (by omega) c4
 have e5:=Z3I (n:=256*(256*(256*(256*0+xs.getD 1 0)+xs.getD 2 0)+xs.getD 3 0)+xs.getD 4 0) (by omega) (by omega) c5
 have e6:=Z3I (n:=256*(256*(256*(256*(256*0+xs.getD 1 0)+xs.getD 2 0)+xs.getD 3 0)+xs.getD 4 0)+xs.getD 5 0) (by omega) (by omega) c6
 have e7:=Z3I (n:=256*(256*(256*(256*(256*(256*0+xs.getD 1 0)+xs.getD 2 0)+xs.getD 3 0)+xs.getD 4 0)+xs.getD 5 0)+xs.getD 6 0) (by omega) (by omega) c7
 have e8:=Z3I (n:=256*(256*(256*(256*(256*(256*(256*0+xs.getD 1 0)+xs.getD 2 0)+xs.getD 3 0)+xs.getD 4 0)+xs.getD 5 0)+xs.getD 6 0)+xs.getD 7 0) (by omega) (by omega) c8
 rw [e1,e2,e3,e4,e5,e6,e7,e8]
 have hl0:(0:Int)<=0/\(0:Int)<(xs.length:Int):=by omega
 refine ⟨hl0,fun a1=>⟨hl0, ?_⟩,fun a1=>⟨hl0,fun a2=>⟨hl0,fun a3=> ?_,fun a3=> ?_⟩,fun a2=>⟨hl0,fun a3=> ?_,fun a3=> ?_⟩⟩⟩
 ·rw [hF,Uh h0 (Zia (by omega) (by omega) (by omega))];exact ⟨rfl,rfl⟩
 ·simp at a2 a3;omega
 ·have a2:xs.getD 0 0=254:=by simpa using a2
  have hm:=ZeD (by omega) a2
  refine ⟨fun l=> ?_,fun l=> ?_⟩
  ·rw [hF,X1 h0 hm (by decide) (by omega)];exact ⟨rfl,rfl⟩
  ·and_intros
   all_goals first|omega|skip
   all_goals first|exact (Wc hb hF rfl h0 hm (by decide) (by decide) (by omega)).1|exact (Wc hb hF rfl h0 hm (by decide) (by decide) (by omega)).2
 ·have a3:xs.getD 0 0=255:=by simpa using a3
  have hm:=ZeE (by omega) (by omega) a3
  refine ⟨fun l=> ?_,fun l=> ?_⟩
  ·rw [hF,X1 h0 hm (by decide) (by omega)];exact ⟨rfl,rfl⟩
  ·and_intros
   all_goals first|omega|skip
   all_goals first|exact (Wc hb hF rfl h0 hm (by decide) (by decide) (by omega)).1|exact (Wc hb hF rfl h0 hm (by decide) (by decide) (by omega)).2
 ·have a2:xs.getD 0 0≠254:=by simpa using a2
  have a3:xs.getD 0 0≠255:=by simpa using a3
  have hm:=ZeC (c:=xs.getD 0 0) (by omega)
  refine ⟨fun l=> ?_,fun l=> ?_⟩
  ·rw [hF,X1 h0 hm (by decide) (by omega)];exact ⟨rfl,rfl⟩
  ·and_intros
   all_goals first|omega|skip
   all_goals first|exact (Wc hb hF rfl h0 hm (by decide) (by decide) (by omega)).1|exact (Wc hb hF rfl h0 hm (by decide) (by decide) (by omega)).2
def Zaj (F:List Int->Int×Int):ZG:=fun args h K=>ZH none h true 20 args fun a=>match a with
 | [.vints .u8 xs n]=>(xs.length=n/\Bytes xs)/\K (.tuple [.int .i64 (F xs).1,.int .i64 (F xs).2])
 | _=>False
theorem Z8Z (args:List AV) (h:Z6) (K:AV->Prop) (hl:Zaj (ZU Zs) args h K):Zi PP 222 args h fun o h'=>∃v,o=.ret v/\h'=h/\K v:=by
 refine Zy.psumm (d:=20) (Zm _ _ _ _ _ hl fun a ha=> ?_)
 split at ha
 ·obtain ⟨⟨h1,h2⟩,hK⟩:=ha
  exact ⟨_,.evM Zj9 (ZeM _ _ _ _ h1 rfl h2 rfl),fun _=>rfl,hK⟩
 ·exact ha.elim
theorem Vz {F:List Int->Int×Int} {xs:List Int} {o p:Nat} {m m' v:Int} (h:rdN F xs o m=some (v,p)) (hm:v<=m'):rdN F xs o m'=some (v,p):=by
 unfold rdN at h⊢
 split at h
 ·rename_i hc
  simp only [Option.some.injEq,Prod.mk.injEq] at h
  rw [if_pos ⟨hc.1,by rw [h.1];exact hm⟩,h.1,h.2]
 ·cases h
theorem Q4 {F:List Int->Int×Int} {xs:List Int} {o p:Nat} {m v:Int} (h:rdN F xs o m=some (v,p)):v<=m:=by
 unfold rdN at h
 split at h
 ·rename_i hc
  simp only [Option.some.injEq,Prod.mk.injEq] at h
  rw [<-h.1];exact hc.2
 ·cases h
def amM (l:List Zc):Int:=(l.map fun m=>m.o.amount).sum
theorem Z3J (l:List Zc):(ZZ l).Perm l:=by
 have:=Uf (lt:=ltM) (l:=l) (acc:=[])
 rwa [List.nil_append] at this
theorem ZeN {l m:List Int} (h:l.Perm m):l.sum=m.sum:=by
 induction h with
 | nil=>rfl
 | cons x _ ih=>simp [ih]
 | swap x y l=>simp;omega
 | trans _ _ h1 h2=>exact h1.trans h2
theorem ZeO (l:List Zc):amM (ZZ l)=amM l:=by
 unfold amM
 exact ZeN ((Z3J l).map _)
theorem ZbS (L:List Zc):amL (Y3 L) L.length=L.map fun m=>m.o.amount:=by
 unfold amL Y3
 refine List.ext_getElem (by simp) fun k h1 h2=> ?_
 simp at h1 h2
 simp [List.getD_eq_getElem?_getD,h1]
theorem ZbT {t:TxS} (h1:0<=t.num/\t.num<=2147483647) (h2:1<=t.N/\t.N<=24) (h3:1<=t.M/\t.M<=24) (h4:∀i,i<t.N->Y8 (t.ins i)=true) (h5:∀i j,i<t.N->j<i->(t.ins j).index≠(t.ins i).index) (h6:∀i,i<t.M->ZI (t.outs i)=true) (h7:Vx t t.M<=1125899906842624):Yj ZJ t=true:=by
 rw [<-Z4J]
 unfold XB
 simp only [Bool.and_eq_true,decide_eq_true_eq,List.all_eq_true,List.mem_range]
 refine ⟨⟨⟨⟨⟨h1,h2⟩,h3⟩,fun i hi=> ?_⟩,h6⟩,h7⟩
 unfold okI
 rw [h4 i hi,Bool.true_and]
 simp only [Bool.not_eq_true',List.any_eq_false,List.mem_range]
 intro j hj hs
 exact h5 i j hi hj (Z0f.1 hs).2
structure Zo.All (t:Zo):Prop where
 ok:t.Ok
 fl:t.fund.length=32
 fb:Bytes t.fund
def txC (t:Zo) (a b fee:Int):TxS:=⟨2147483647,1,fun _=>Z0h t,(ZZ (clL t a b fee)).length,Y3 (ZZ (clL t a b fee))⟩
def Y0 (t:Zo) (a b fee:Int):Int:=if clB ZJ t a b fee=true then (if (clL t a b fee).length=0 then 180 else 0) else 2
theorem Z90 {t:Zo} {a b fee:Int} (h:Y0 t a b fee=0):clB ZJ t a b fee=true/\(clL t a b fee).length≠0:=by
 unfold Y0 at h
 split at h
 ·rename_i h1
  split at h
  ·cases h
  ·exact ⟨h1,by assumption⟩
 ·cases h
theorem Zak {t:Zo} {a b fee:Int} (h1:clB ZJ t a b fee=true) (h2:(clL t a b fee).length≠0):Y0 t a b fee=0:=by
 unfold Y0;rw [if_pos h1,if_neg h2]
theorem Vo {t:Zo} (h:Yr t=true):(0<=t.index/\t.index<=23)/\(1000<=t.cap/\t.cap<=1125899906842624)/\(1<=t.dust/\t.dust<=500)/\(0<=t.fee/\t.fee<=400)/\(1<=t.delay/\t.delay<=1000)/\t.k0≠t.k1:=by
 unfold Yr at h
 simp only [Bool.and_eq_true,decide_eq_true_eq,bne_iff_ne,ne_eq] at h
 obtain ⟨⟨⟨⟨⟨h1,h2⟩,h3⟩,h4⟩,h5⟩,h6⟩:=h
 exact ⟨h1,h2,h3,h4,h5,h6⟩
theorem Z63 {t:Zo} {a b fee:Int} {m:Zc} (h:m∈clL t a b fee):(t.dust<=a-fee/\m=⟨⟨1,a-fee,t.k0,Z5,Z5,Z5,0,0⟩,0,0⟩)\/(t.dust<=b/\m=⟨⟨1,b,t.k1,Z5,Z5,Z5,0,0⟩,1,0⟩):=by
 unfold clL at h
 rw [List.mem_append] at h
 rcases h with h|h<;>split at h<;>simp at h
 ·exact .inl ⟨by assumption,h⟩
 ·exact .inr ⟨by assumption,h⟩
theorem Z2d {t:Zo} {a b fee:Int}:(clL t a b fee).length<=2:=by
 unfold clL
 rw [List.length_append]
 split<;>split<;>simp
theorem Zhs {t:Zo} {a b fee:Int} (h:clB ZJ t a b fee=true):amM (clL t a b fee)<=t.cap:=by
 obtain ⟨k1,⟨⟨k2,_⟩,⟨k3,_⟩⟩,k4,k5⟩:=Wb.1 h
 unfold clL amM
 split<;>split<;>simp<;>omega
theorem ZeP {L:List Zc} {i:Nat} (h:i<L.length):∃m∈L,Y3 L i=m.o:=⟨L[i],List.getElem_mem h,by
 show (L.getD i Yk).o=_
 rw [List.getD_eq_getElem?_getD,List.getElem?_eq_getElem h];rfl⟩
theorem Z64 {t:Zo} {a b fee:Int} {i:Nat} (h:i<(txC t a b fee).M):∃m∈clL t a b fee,(txC t a b fee).outs i=m.o:=by
 obtain ⟨m,hm,e⟩:=ZeP (L:=ZZ (clL t a b fee)) h
 exact ⟨m,(Z3J _).mem_iff.1 hm,e⟩
theorem VA {t:Zo} {a b fee:Int} (ht:t.Ok) (hf:t.fund.length=32):(txC t a b fee).Ok:=by
 have hl:(ZZ (clL t a b fee)).length<=2:=by rw [YY];exact Z2d
 refine ⟨by show (1:Nat)<_;decide,by show (ZZ _).length<_;omega,fun i _=>⟨hf,rfl,rfl,rfl⟩,fun i hi=> ?_⟩
 obtain ⟨m,hm,e⟩:=Z64 hi
 rw [e]
 rcases Z63 hm with ⟨_,rfl⟩|⟨_,rfl⟩
 ·exact ⟨ht.k0,rfl,rfl,rfl⟩
 ·exact ⟨ht.k1,rfl,rfl,rfl⟩
theorem Zal {t:Zo} {a b fee:Int} (ht:t.All):QL (txC t a b fee):=by
 refine ⟨fun i _=>⟨ht.fb,Yl,Yl,Yl⟩,fun i hi=> ?_⟩
 obtain ⟨m,hm,e⟩:=Z64 hi
 rw [e]
 rcases Z63 hm with ⟨_,rfl⟩|⟨_,rfl⟩
 ·exact ⟨ht.ok.b0,Yl,Yl,Yl⟩
 ·exact ⟨ht.ok.b1,Yl,Yl,Yl⟩
theorem Ui {t:Zo} {a b fee:Int} (h:Y0 t a b fee=0):Yj ZJ (txC t a b fee)=true:=by
 obtain ⟨hb,hn⟩:=Z90 h
 obtain ⟨kt,⟨⟨k2,k2'⟩,⟨k3,k3'⟩⟩,k4,k5⟩:=Wb.1 hb
 have kd:=Vo kt
 have hl:(ZZ (clL t a b fee)).length=(clL t a b fee).length:=YY
 have hl2:=Z2d (t:=t) (a:=a) (b:=b) (fee:=fee)
 refine ZbT ⟨by show (0:Int)<=2147483647;decide,by show (2147483647:Int)<=2147483647;decide⟩ ⟨Nat.le_refl _,by show (1:Nat)<=24;decide⟩ ⟨by show 1<=(ZZ (clL t a b fee)).length;omega,by show (ZZ (clL t a b fee)).length<=24;omega⟩ (fun i hi=> ?_) (fun i j hi hj=> ?_) (fun i hi=> ?_) ?_
 ·show Y8 (Z0h t)=true
  unfold Y8 Z0h
  simp
  omega
 ·have hi:i<1:=hi
  omega
 ·obtain ⟨m,hm,e⟩:=Z64 hi
  rw [e]
  rcases Z63 hm with ⟨_,rfl⟩|⟨_,rfl⟩
  ·unfold ZI;simp;omega
  ·unfold ZI;simp;omega
 ·show (amL (Y3 (ZZ (clL t a b fee))) (ZZ (clL t a b fee)).length).sum<=_
  rw [ZbS]
  have e:amM (ZZ (clL t a b fee))=((ZZ (clL t a b fee)).map fun m=>m.o.amount).sum:=rfl
  have:=Zhs hb
  rw [<-e,ZeO]
  omega
def Z91 (t:Zo) (side:Int):List Int:=if side=0 then t.k0 else t.k1
theorem ZeQ {t:Zo} (ht:t.Ok) (s:Int):(Z91 t s).length=32:=by unfold Z91;split;exact ht.k0;exact ht.k1
def Z51 (n least most:Int):Int:=max least (min most n)
structure Z65 (k:ClS):Prop where
 t:Yr k.t=true
 side:k.side=0\/k.side=1
 a0:0<=k.a0
 a1:0<=k.a1
 sum:k.a0+k.a1=k.t.cap
 lo:0<=k.least
 lm:k.least<=k.most
 hi:k.most<=k.a0
structure YD (k:ClS):Prop where
 made:Z65 k
 off:k.offers=true->k.least<=k.last/\k.last<=k.most
 nof:k.offers=false->k.last=0
 agr:k.agrees=true->k.offers=true/\k.fee=k.last/\Y0 k.t k.a0 k.a1 k.fee=0
 nag:k.agrees=false->k.fee=0
theorem YD.fee_le {k:ClS} (h:YD k):(0<=k.last/\k.last<=k.a0)/\(0<=k.fee/\k.fee<=k.a0):=by
 obtain ⟨⟨h1,h2,h3,h4,h5,h6,h7,h8⟩,ho,hn,ha,hg⟩:=h
 have q1:0<=k.last/\k.last<=k.a0:=by
  cases e:k.offers
  ·have:=hn e;omega
  ·have:=ho e;omega
 refine ⟨q1, ?_⟩
 cases e:k.agrees
 ·have:=hg e;omega
 ·have:=ha e;omega
theorem YD.num {k:ClS} (h:YD k):ZeB 4611686018427387904 k:=by
 have hf:=h.fee_le
 obtain ⟨h1,h2,h3,h4,h5,h6,h7,h8⟩:=h.made
 have hd:=Vo h1
 refine ⟨?_, ?_, ?_, ?_, ?_, ?_, ?_, ?_, ?_, ?_, ?_, ?_⟩<;>omega
theorem Zy.evV {G:Zh} (hG:G.Ok) {n:Nat} {f:FuncId} {args:List AV} {v:AV} (h:evF G n f args ⟨0,[]⟩ (XI fun u=>u=v)):Zy G.P f args v 0 []:=by
 intro E w rs he hr
 refine (YJ hG h E w rs he hr).mono ?_
 rintro e w' ⟨E₁,o,h',hK0,hev,hor⟩
 cases hor with
 | panic u r hr=>exact hK0.elim
 | ret u r hr=>
  unfold XI at hK0
  simp only at hK0
  split at hK0
  ·rename_i hu
   subst hK0
   refine ⟨E,r,rfl,⟨.refl E,⟨he.fresh,fun x B hx=>by simp [Z6.get,ZV] at hx,fun x B hx=>by simp [Z6.get,ZV] at hx,fun x y B B' b N N' hx=>by simp [Z6.get,ZV] at hx,fun a c hi=>hev.emb.imm a c (hev.le.imm a c hi),fun a c x B N _ hx=>by simp [Z6.get,ZV] at hx⟩,hev.size,hev.os,hev.tape,hev.output,hev.keep,fun b hb=> ?_,fun _ _ h=>h⟩,Zl.vplain (E:=E₁) (E':=E) (fun a c hi=>hev.imm a c hi) _ _ hu hr⟩
   obtain ⟨x,B,N,hx,_⟩:=hb
   simp [Z6.get,ZV] at hx
  ·exact hK0.elim
def Yg (A:List Int->Int×Int) (k:ClS):Bool:=Yr k.t&&decide (0<=k.side/\k.side<=1)&&decide ((A [k.a0,k.a1]).2=0)&&decide ((A [k.a0,k.a1]).1=k.t.cap)&&decide (0<=k.least/\k.least<=k.most)&&decide (k.most<=k.a0)
theorem YZ {k:ClS}:Yg ZJ k=true↔Z65 k:=by
 unfold Yg
 simp only [Bool.and_eq_true,decide_eq_true_eq]
 constructor
 ·rintro ⟨⟨⟨⟨⟨h1,h2⟩,h3⟩,h4⟩,h5⟩,h6⟩
  have:=Wb.1 (Qp.2 ⟨h1,h3,h4,(⟨Int.le_refl 0,by omega⟩:(0:Int)<=0/\0<=k.a0)⟩)
  exact ⟨h1,by omega,this.2.1.1.1,this.2.1.2.1,this.2.2.1,h5.1,h5.2,h6⟩
 ·rintro ⟨h1,h2,h3,h4,h5,h6,h7,h8⟩
  have hd:=Vo h1
  have:=Qp.1 (Wb.2 ⟨h1,⟨⟨h3,by omega⟩,h4,by omega⟩,h5,(⟨Int.le_refl 0,h3⟩:(0:Int)<=0/\0<=k.a0)⟩)
  exact ⟨⟨⟨⟨⟨h1,by omega⟩,this.2.1⟩,this.2.2.1⟩,⟨h6,h7⟩⟩,h8⟩
noncomputable def Zmt (A:List Int->Int×Int):Zh:=(G0.withP 44 Z7g).withP 74 (Z9M A)
theorem Zht:(Zmt ZJ).Ok:=Zh.withP_ok (Zh.withP_ok Zp Z3C) Z3j
theorem Zmu (A:List Int->Int×Int) (k:ClS) (b:Bool) (ht:k.t.Ok) (hb:b=Yg A k):
  evF (Zmt A) 20 30 [.agg k.c] ⟨0,[]⟩ (XI fun v=>v=.bool b):=by
 refine @Eq.mpr _ (let q1:=k.t;let q2:=q1.cap;let q3:=Zo.mk q1.fund q1.index q2 q1.dust q1.fee q1.delay q1.k0 q1.k1;let q4:=A [k.a0,k.a1];let q5:=AV.bool false=AV.bool b;
 Zo.Ok q3/\Z0 ((if Yr q3=true then (0:Int) else (2:Int))==(0:Int)) (Z0 (decide ((0:Int)<=k.side)) (Z0 (decide (k.side<=(1:Int))) (Z0 (q4.snd==(0:Int)) (Z0 (q4.fst==q2) (Z0 (decide ((0:Int)<=k.least)) (Z0 (decide (k.least<=k.most)) (AV.bool (decide (k.most<=k.a0))=AV.bool b) q5) q5) q5) q5) q5) q5) q5) (by kernel_rfl) ?_
 conv=>zeta
 try simp only [Z8]
 try simp only [Ze]
 try simp only [Za]
 try simp only [Zf]
 try simp only [Zg]
 try simp only [Z9]
 try simp only [Y_s]
 have e0:Zo.mk k.t.fund k.t.index k.t.cap k.t.dust k.t.fee k.t.delay k.t.k0 k.t.k1=k.t:=rfl
 simp only [e0]
 subst hb
 refine ⟨ht, ?_⟩
 unfold Yg
 cases Yr k.t<;>by_cases c1:0<=k.side<;>by_cases c2:k.side<=1<;>by_cases c3:(A [k.a0,k.a1]).2=0<;>by_cases c4:(A [k.a0,k.a1]).1=k.t.cap<;>by_cases c5:0<=k.least<;>by_cases c6:k.least<=k.most<;>simp [c1,c2,c3,c4,c5,c6]
theorem Zmv (A:List Int->Int×Int) (k:ClS) (b:Bool) (hA:A=ZJ) (ht:k.t.Ok) (hb:b=Yg A k):
  evF (G0.withP 112 Z5T) 20 51 [.agg k.c] ⟨0,[]⟩ (XI fun v=>v=.bool b):=by
 refine @Eq.mpr _ (let q1:=k.t;let q2:=q1.cap;let q3:=Zo.mk q1.fund q1.index q2 q1.dust q1.fee q1.delay q1.k0 q1.k1;let q4:=k.a0;let q5:=k.a1;let q6:=AV.bool false=AV.bool b;let q7:=Z0 (decide (q4>=0)) (Z0 (decide (q4<=1125899906842624)) (Z0 (decide (q5>=0)) (Z0 (decide (q5<=1125899906842624)) (Z0 (wrap i64 (q4+q5)==q2) (Z0 (decide (k.least>=0)) (Z0 (decide (k.least<=k.most)) (AV.bool (decide (k.most<=q4))=AV.bool b) q6) q6) q6) q6) q6) q6) q6;
 Zo.Ok q3/\Z0 (Yr q3) (Z0 (k.side==0) q7 (Z0 (k.side==1) q7 q6)) q6) (by kernel_rfl) ?_
 conv=>zeta
 try simp only [Z8]
 try simp only [Ze]
 try simp only [Za]
 try simp only [Zf]
 try simp only [Zg]
 try simp only [Z9]
 try simp only [Y_s]
 have e0:Zo.mk k.t.fund k.t.index k.t.cap k.t.dust k.t.fee k.t.delay k.t.k0 k.t.k1=k.t:=rfl
 simp only [e0]
 subst hA hb
 refine ⟨ht, ?_⟩
 cases hb:Yg ZJ k with
 | true=>
  obtain ⟨m1,m2,m3,m4,m5,m6,m7,m8⟩:=YZ.1 hb
  have hd:=Vo m1
  have hw:i64.wrap (k.a0+k.a1)=k.t.cap:=by rw [w64 (by omega)];exact m5
  have q1:k.a0<=1125899906842624:=by omega
  have q2:k.a1<=1125899906842624:=by omega
  rcases m2 with m2|m2<;>simp [m1,m2,m3,m4,m6,m7,m8,hw,q1,q2]
 | false=>
  have hn:¬Z65 k:=fun h=>by rw [YZ.2 h] at hb;cases hb
  repeat' (first|(refine And.intro ?_ ?_)|intro _)
  all_goals first|rfl|skip
  all_goals
   congr 1
   refine decide_eq_false fun h=>hn ?_
   have hw:0<=k.a0->k.a0<=1125899906842624->0<=k.a1->k.a1<=1125899906842624->i64.wrap (k.a0+k.a1)=k.a0+k.a1:=fun _ _ _ _=>w64 (by omega)
   simp only [beq_iff_eq] at*
   exact ⟨by assumption,by omega,by omega,by omega,by omega,by omega,by omega,by omega⟩
noncomputable def E32 (F:List Int->Int×Int):Zh:=G0.withP 222 (Zaj F)
theorem Z92:(E32 (ZU Zs)).Ok:=Zh.withP_ok Zp Z8Z
def Zhu (Q:List Int->Nat->Bool->Int->Prop):AV->Prop:=fun u=>match u with
 | .tuple [.agg [.vints .u8 ys n,.bool b],.int .i64 v]=>Q ys n b v
 | _=>False
def Zam (Q:List Int->Nat->Bool->List Int->Prop):AV->Prop:=fun u=>match u with
 | .tuple [.agg [.vints .u8 ys n,.bool b],.agg [.arr .u8 32 h]]=>Q ys n b h
 | _=>False
theorem Zmw (F:List Int->Int×Int) (ys:List Int) (n:Nat) (most:Int) (Q:List Int->Nat->Bool->Int->Prop) (hn:ys.length=n) (hb:Bytes ys) (hm:0<=most) (hF:∀ys,(F ys).2<=ys.length) (h1:0<(F ys).2/\(F ys).1<=most->Q (ys.drop (F ys).2.toNat) (n-(F ys).2.toNat) false (F ys).1) (h2:¬(0<(F ys).2/\(F ys).1<=most)->Q ys n true 0):
  evF (E32 F) 20 68 [.agg [.vints .u8 ys n,.bool false],.int .i64 most] ⟨0,[]⟩ (XI (Zhu Q)):=by
 refine @Eq.mpr _ (let q1:=(F ys).snd;let q2:=some (Int.toNat q1);
 Z0 (decide (most<0)) (Q ys n false 0) ((List.length ys=n/\Bytes ys)/\Z0 (decide (q1<=0)) (Q ys n true 0) (Z0 (decide ((F ys).fst>most)) (Q ys n true 0) (Z0 (decide (n<=List.length ys)) (Z0 (decide (0<=q1/\q1<= ↑n)) (Q (V4 q2 ys) (XA n q2) false (F ys).fst) False) False)))) (by kernel_rfl) ?_
 conv=>zeta
 try simp only [Z8]
 try simp only [Ze]
 try simp only [Za]
 try simp only [Zf]
 try simp only [Zg]
 try simp only [Z9]
 try simp only [Y_s]
 have hle:=hF ys
 refine ⟨fun h=>(by omega),fun _=>⟨⟨hn,hb⟩,fun h=>h2 (by omega),fun h=>⟨fun h3=>h2 (by omega),fun h3=>⟨by omega,⟨by omega,by omega⟩,h1 ⟨by omega,by omega⟩⟩⟩⟩⟩
theorem Zmx (F:List Int->Int×Int) (ys:List Int) (n:Nat) (most:Int) (Q:List Int->Nat->Bool->Int->Prop) (h2:Q ys n true 0):
  evF (E32 F) 20 68 [.agg [.vints .u8 ys n,.bool true],.int .i64 most] ⟨0,[]⟩ (XI (Zhu Q)):=by
 refine @Eq.mpr _ (Q ys n true 0) (by kernel_rfl) ?_
 exact h2
theorem Zmy (ys:List Int) (n:Nat) (Q:List Int->Nat->Bool->List Int->Prop) (hn:ys.length=n) (h1:32<=n->Q (ys.drop 32) (n-32) false (ys.take 32)) (h2:n<32->Q ys n true Z5):
  evF G0 20 67 [.agg [.vints .u8 ys n,.bool false]] ⟨0,[]⟩ (XI (Zam Q)):=by
 refine @Eq.mpr _ (let q1:=decide (n<=List.length ys);let q2:=decide ((0:Int)<=32/\32<=(↑(List.length ys):Int));let q3:=V4 none ys;let q4:=spl Z5 0 (List.take 32 (List.take 32 q3));let q5:=q4=q4;
 Z0 (decide (32>(↑n:Int))) (Z5=Z5/\Q ys n true Z5) (Z0 q1 (Z0 (decide ((0:Int)<=32/\32<=(↑n:Int))) (Z0 q1 (Z0 q2 (Z0 q1 (Z0 q2 (q3=q3/\ys=ys/\Z0 (decide (n=n)) (q5/\q5/\Q (V4 (some 32) ys) (XA n (some 32)) false q4) False) False) False) False) False) False) False)) (by kernel_rfl) ?_
 conv=>zeta
 try simp only [Z8]
 try simp only [Ze]
 try simp only [Za]
 try simp only [Zf]
 try simp only [Zg]
 try simp only [Z9]
 try simp only [Y_s]
 subst hn
 refine ⟨fun h=>h2 (by omega),fun h=> ?_⟩
 have hl:(ys.take 32).length=32:=by rw [List.length_take];omega
 have hd:List.take 32 (List.take 32 (V4 none ys))=ys.take 32:=by rw [show V4 none ys=ys from rfl,List.take_take];rfl
 have hs:spl Z5 0 (ys.take 32)=ys.take 32:=by
  unfold spl
  rw [List.take_zero,List.nil_append,hl]
  simp [Z5]
 rw [hd,hs]
 have:=h1 (by omega)
 and_intros<;>first|trivial|rfl|omega|exact this
theorem Zmz (ys:List Int) (n:Nat) (Q:List Int->Nat->Bool->List Int->Prop) (h2:Q ys n true Z5):
  evF G0 20 67 [.agg [.vints .u8 ys n,.bool true]] ⟨0,[]⟩ (XI (Zam Q)):=by
 refine @Eq.mpr _ (Z5=Z5/\Q ys n true Z5) (by kernel_rfl) ?_
 exact ⟨rfl,h2⟩
def ZeR (v:Int) (K:Int->Prop):Nat->Prop
 | 0=>v=0->K 0
 | m+1=>ZeR v K m/\(v=((m+1:Nat):Int)->K ((m+1:Nat):Int))
theorem Z7p {v:Int} {K:Int->Prop}:∀{m:Nat},ZeR v K m->0<=v->v<=m->K v
 | 0,h,h0,h1=>by
  have:v=0:=by omega
  subst this
  exact h rfl
 | m+1,h,h0,h1=>by
  by_cases hv:v=((m+1:Nat):Int)
  ·subst hv;exact h.2 rfl
  ·exact Z7p h.1 h0 (by omega)
theorem Z93 {xs:List Int} (hb:Bytes xs):0<=(ZU Zs xs).1:=by
 by_cases h0:xs.length=0
 ·rw [Ug h0];exact Int.le_refl 0
 by_cases hm:X0 (xs.getD 0 0)=0
 ·rw [Uh h0 hm]
  have:=hb.h 0
  show 0<=i64.wrap _
  rw [w64 (by omega)];omega
 by_cases hl:xs.length<=X0 (xs.getD 0 0)
 ·rw [X1 h0 rfl hm hl];exact Int.le_refl 0
 have h8:X0 (xs.getD 0 0)<=8:=by unfold X0;split<;>(try split)<;>(try split)<;>omega
 rw [Z50 hb h0 rfl hm h8 (by omega)]
 have hge:=Z2c (X0 (xs.getD 0 0)) xs 1 0 hb (by decide)
 split
 ·exact Int.le_refl 0
 ·split
  ·show 0<=V2 _ _ _ _;omega
  ·exact Int.le_refl 0
def small (most:Int) (v:Int) (K:Int->Prop):Prop:=match decide (0<=most/\most<=6) with
 | true=>ZeR v K most.toNat
 | false=>K v
theorem ZeS {most v:Int} {K:Int->Prop} (h:small most v K) (h0:0<=v) (h1:v<=most):K v:=by
 unfold small at h
 split at h
 ·rename_i hd
  have:=of_decide_eq_true hd
  exact Z7p h h0 (by omega)
 ·exact h
def Zib (F:List Int->Int×Int):ZG:=fun args _ K=>match args with
 | [.agg [.top,.bool true],.int .i64 _]=>K (.tuple [.agg [.top,.bool true],.int .i64 0])
 | [.agg [.vints .u8 ys n,.bool b],.int .i64 most]=>match b with
  | true=>K (.tuple [.agg [.vints .u8 ys n,.bool true],.int .i64 0])
  | false=>∃xs o,ys=xs.drop o/\(n=xs.length-o/\o<=xs.length/\Bytes xs/\0<=most)/\
   (∀v p,rdN F xs o most=some (v,p)->(o<=p/\p<=xs.length/\0<=v/\v<=most)->small most v fun v=>K (.tuple [.agg [.vints .u8 (xs.drop p) (xs.length-p),.bool false],.int .i64 v]))/\
   (rdN F xs o most=none->K (.tuple [.agg [.vints .u8 (xs.drop o) (xs.length-o),.bool true],.int .i64 0]))
 | _=>False
theorem Zan {Q:List Int->Nat->Bool->Int->Prop} {u:AV} (h:Zhu Q u):∃ys n b v,u=.tuple [.agg [.vints .u8 ys n,.bool b],.int .i64 v]/\Q ys n b v:=by
 unfold Zhu at h
 split at h
 ·exact ⟨_,_,_,_,rfl,h⟩
 ·exact h.elim
theorem Z7q {Q:List Int->Nat->Bool->List Int->Prop} {u:AV} (h:Zam Q u):∃ys n b v,u=.tuple [.agg [.vints .u8 ys n,.bool b],.agg [.arr .u8 32 v]]/\Q ys n b v:=by
 unfold Zam at h
 split at h
 ·exact ⟨_,_,_,_,rfl,h⟩
 ·exact h.elim
def ZeT (Q:Int->Prop):AV->Prop:=fun u=>match u with
 | .tuple [.agg [.top,.bool true],.int .i64 v]=>Q v
 | _=>False
theorem ZeU {Q:Int->Prop} {u:AV} (h:ZeT Q u):∃v,u=.tuple [.agg [.top,.bool true],.int .i64 v]/\Q v:=by
 unfold ZeT at h
 split at h
 ·exact ⟨_,rfl,h⟩
 ·exact h.elim
theorem ZmA (F:List Int->Int×Int) (most:Int) (Q:Int->Prop) (h2:Q 0):
  evF (E32 F) 20 68 [.agg [.top,.bool true],.int .i64 most] ⟨0,[]⟩ (XI (ZeT Q)):=by
 refine @Eq.mpr _ (Q 0) (by kernel_rfl) ?_
 exact h2
theorem Z7r (args:List AV) (h:Z6) (K:AV->Prop) (hl:Zib (ZU Zs) args h K):Zi PP 68 args h fun o h'=>∃v,o=.ret v/\h'=h/\K v:=by
 unfold Zib at hl
 split at hl
 ·exact Yu Z92 rfl (ZmA _ _ (fun v=>K (.tuple [.agg [.top,.bool true],.int .i64 v])) hl) (fun u hu=>by obtain ⟨_,rfl,hq⟩:=ZeU hu;exact hq)
 ·rename_i ys n b most
  split at hl
  ·exact Yu Z92 rfl (Zmx _ ys n most (fun ys n b v=>K (.tuple [.agg [.vints .u8 ys n,.bool b],.int .i64 v])) hl) (fun u hu=>by obtain ⟨_,_,_,_,rfl,hq⟩:=Zan hu;exact hq)
  ·obtain ⟨xs,o,rfl,⟨rfl,h1,h2,h3⟩,hK,hK'⟩:=hl
   refine Yu Z92 rfl (Zmw _ (xs.drop o) (xs.length-o) most (fun ys n b v=>K (.tuple [.agg [.vints .u8 ys n,.bool b],.int .i64 v])) (List.length_drop ..) (h2.drop o) h3 (fun _=>Z1m _ _) (fun hc=> ?_) (fun hc=>hK' (by unfold rdN;rw [if_neg hc]))) (fun u hu=>by obtain ⟨_,_,_,_,rfl,hq⟩:=Zan hu;exact hq)
   have hle:=Z1m Zs (xs.drop o)
   rw [List.length_drop] at hle
   have f1:o<=o+(ZU Zs (xs.drop o)).2.toNat/\o+(ZU Zs (xs.drop o)).2.toNat<=xs.length/\0<=(ZU Zs (xs.drop o)).1/\(ZU Zs (xs.drop o)).1<=most:=⟨by omega,by omega,Z93 (h2.drop o),hc.2⟩
   have:=ZeS (hK _ _ (by unfold rdN;rw [if_pos hc]) f1) f1.2.2.1 f1.2.2.2
   rw [List.drop_drop]
   rw [show xs.length-o-(ZU Zs (xs.drop o)).2.toNat=xs.length-(o+(ZU Zs (xs.drop o)).2.toNat) by omega]
   exact this
 ·exact hl.elim
def ZeV:ZG:=fun args _ K=>match args with
 | [.agg [.vints .u8 ys n,.bool b]]=>match b with
  | true=>K (.tuple [.agg [.vints .u8 ys n,.bool true],.agg [.arr .u8 32 Z5]])
  | false=>∃xs o,ys=xs.drop o/\(n=xs.length-o/\o<=xs.length)/\
   (∀v p,rdH xs o=some (v,p)->(o<=p/\p<=xs.length/\v.length=32)->K (.tuple [.agg [.vints .u8 (xs.drop p) (xs.length-p),.bool false],.agg [.arr .u8 32 v]]))/\
   (rdH xs o=none->K (.tuple [.agg [.vints .u8 (xs.drop o) (xs.length-o),.bool true],.agg [.arr .u8 32 Z5]]))
 | _=>False
theorem Z52 (args:List AV) (h:Z6) (K:AV->Prop) (hl:ZeV args h K):Zi PP 67 args h fun o h'=>∃v,o=.ret v/\h'=h/\K v:=by
 unfold ZeV at hl
 split at hl
 ·rename_i ys n b
  split at hl
  ·exact Yu Zp rfl (Zmz ys n (fun ys n b v=>K (.tuple [.agg [.vints .u8 ys n,.bool b],.agg [.arr .u8 32 v]])) hl) (fun u hu=>by obtain ⟨_,_,_,_,rfl,hq⟩:=Z7q hu;exact hq)
  ·obtain ⟨xs,o,rfl,⟨rfl,h1⟩,hK,hK'⟩:=hl
   refine Yu Zp rfl (Zmy (xs.drop o) (xs.length-o) (fun ys n b v=>K (.tuple [.agg [.vints .u8 ys n,.bool b],.agg [.arr .u8 32 v]])) (List.length_drop ..) (fun hc=> ?_) (fun hc=>hK' (by unfold rdH;rw [if_neg (by omega)]))) (fun u hu=>by obtain ⟨_,_,_,_,rfl,hq⟩:=Z7q hu;exact hq)
   have f1:o<=o+32/\o+32<=xs.length/\((xs.drop o).take 32).length=32:=⟨by omega,by omega,by rw [List.length_take,List.length_drop];omega⟩
   have:=hK _ _ (by unfold rdH;rw [if_pos (by omega)]) f1
   rw [List.drop_drop]
   rw [show xs.length-o-32=xs.length-(o+32) by omega]
   exact this
 ·exact hl.elim
structure RS where
 o:Nat
 bad:Bool
def YE (F:List Int->Int×Int) (xs:List Int) (s:RS) (most:Int):Int×RS:=match s.bad with
 | true=>(0,s)
 | false=>match rdN F xs s.o most with
  | some (v,p)=>(v,⟨p,false⟩)
  | none=>(0,⟨s.o,true⟩)
def XY (xs:List Int) (s:RS):List Int×RS:=match s.bad with
 | true=>(Z5,s)
 | false=>match rdH xs s.o with
  | some (v,p)=>(v,⟨p,false⟩)
  | none=>(Z5,⟨s.o,true⟩)
def ZeW (F:List Int->Int×Int):ZG:=fun args _ K=>match args with
 | [.agg [.vints .u8 ys n,.bool b],.int .i64 most]=>∃xs s,ys=List.drop (RS.o s) xs/\(n=xs.length-s.o/\b=s.bad/\s.o<=xs.length/\Bytes xs/\0<=most)/\
   ∀v t,YE F xs s most=(v,t)->t.o<=xs.length->K (.tuple [.agg [.vints .u8 (xs.drop t.o) (xs.length-t.o),.bool t.bad],.int .i64 v])
 | _=>False
def Z94:ZG:=fun args _ K=>match args with
 | [.agg [.vints .u8 ys n,.bool b]]=>∃xs s,ys=List.drop (RS.o s) xs/\(n=xs.length-s.o/\b=s.bad/\s.o<=xs.length)/\
   ∀v t,XY xs s=(v,t)->t.o<=xs.length->K (.tuple [.agg [.vints .u8 (xs.drop t.o) (xs.length-t.o),.bool t.bad],.agg [.arr .u8 32 v]])
 | _=>False
theorem ZbU {most v:Int} {K:Int->Prop} (h:K v):small most v K:=by
 unfold small
 split
 ·rename_i hd
  generalize most.toNat=m
  induction m with
  | zero=>exact fun e=>e▸h
  | succ m ih=>exact ⟨ih,fun e=>e▸h⟩
 ·exact h
theorem ZeX (args:List AV) (h:Z6) (K:AV->Prop) (hl:ZeW (ZU Zs) args h K):Zi PP 68 args h fun o h'=>∃v,o=.ret v/\h'=h/\K v:=by
 unfold ZeW at hl
 split at hl
 ·obtain ⟨xs,⟨o,c⟩,rfl,⟨rfl,e,h1,h2,h3⟩,hK⟩:=hl
  unfold YE at hK
  cases c with
  | true=>subst e;exact Z7r _ h K (hK _ _ rfl h1)
  | false=>
   subst e
   refine Z7r _ h K ⟨xs,o,rfl,⟨rfl,h1,h2,h3⟩,fun v p he hb=>ZbU (hK v ⟨p,false⟩ (by simp only [he]) hb.2.1),fun he=>hK 0 ⟨o,true⟩ (by simp only [he]) h1⟩
 ·exact hl.elim
theorem ZbV (args:List AV) (h:Z6) (K:AV->Prop) (hl:Z94 args h K):Zi PP 67 args h fun o h'=>∃v,o=.ret v/\h'=h/\K v:=by
 unfold Z94 at hl
 split at hl
 ·obtain ⟨xs,⟨o,c⟩,rfl,⟨rfl,e,h1⟩,hK⟩:=hl
  unfold XY at hK
  cases c with
  | true=>subst e;exact Z52 _ h K (hK _ _ rfl h1)
  | false=>
   subst e
   refine Z52 _ h K ⟨xs,o,rfl,⟨rfl,h1⟩,fun v p he hb=>hK v ⟨p,false⟩ (by simp only [he]) hb.2.1,fun he=>hK Z5 ⟨o,true⟩ (by simp only [he]) h1⟩
 ·exact hl.elim
def Uq (xs:List Int) (s:RS):Bool×RS:=match s.bad with
 | true=>(false,s)
 | false=>match rdT xs s.o with
  | some (v,p)=>(v,⟨p,false⟩)
  | none=>(false,⟨s.o,true⟩)
def Zhv (Q:List Int->Nat->Bool->Bool->Prop):AV->Prop:=fun u=>match u with
 | .tuple [.agg [.vints .u8 ys n,.bool b],.bool v]=>Q ys n b v
 | _=>False
theorem Zao {Q:List Int->Nat->Bool->Bool->Prop} {u:AV} (h:Zhv Q u):∃ys n b v,u=.tuple [.agg [.vints .u8 ys n,.bool b],.bool v]/\Q ys n b v:=by
 unfold Zhv at h
 split at h
 ·exact ⟨_,_,_,_,rfl,h⟩
 ·exact h.elim
theorem ZmB (ys:List Int) (n:Nat) (Q:List Int->Nat->Bool->Bool->Prop) (hn:ys.length=n) (h1:0<n->ys.getD 0 0<=1->Q (ys.drop 1) (n-1) false (ys.getD 0 0==1)) (h2:¬(0<n/\ys.getD 0 0<=1)->Q ys n true false):
  evF G0 20 69 [.agg [.vints .u8 ys n,.bool false]] ⟨0,[]⟩ (XI (Zhv Q)):=by
 refine @Eq.mpr _ (let q1:=decide (n<=List.length ys);let q2:=decide ((0:Int)<=1/\1<=(↑(List.length ys):Int));let q3:=V4 none ys;let q4:=List.getD q3 0 0;
 Z0 (decide (1>(↑n:Int))) (Q ys n true false) (Z0 q1 (Z0 (decide ((0:Int)<=1/\1<=(↑n:Int))) (Z0 q1 (Z0 q2 (Z0 q1 (Z0 q2 (q3=q3/\ys=ys/\Z0 (decide (n=n)) (Z0 (decide (q4>1)) (Q ys n true false) (Z0 (decide (q4=q4)) (Q (V4 (some 1) ys) (XA n (some 1)) false (q4==1)) False)) False) False) False) False) False) False) False)) (by kernel_rfl) ?_
 conv=>zeta
 try simp only [Z8]
 try simp only [Ze]
 try simp only [Za]
 try simp only [Zf]
 try simp only [Zg]
 try simp only [Z9]
 try simp only [Y_s]
 subst hn
 refine ⟨fun h=>h2 (by omega),fun h=>⟨Nat.le_refl _,by omega,Nat.le_refl _,by omega,Nat.le_refl _,by omega,fun h3=>h2 fun hc=> ?_,fun h3=>h1 (by omega) ?_⟩⟩
 ·have h3:ys.getD 0 0>1:=h3
  omega
 ·have h3:¬ys.getD 0 0>1:=h3
  omega
theorem ZmC (ys:List Int) (n:Nat) (Q:List Int->Nat->Bool->Bool->Prop) (h2:Q ys n true false):
  evF G0 20 69 [.agg [.vints .u8 ys n,.bool true]] ⟨0,[]⟩ (XI (Zhv Q)):=by
 refine @Eq.mpr _ (Q ys n true false) (by kernel_rfl) ?_
 exact h2
def Zic:ZG:=fun args _ K=>match args with
 | [.agg [.vints .u8 ys n,.bool b]]=>∃xs s,ys=List.drop (RS.o s) xs/\(n=xs.length-s.o/\b=s.bad/\s.o<=xs.length)/\
   ∀v t,Uq xs s=(v,t)->t.o<=xs.length->K (.tuple [.agg [.vints .u8 (xs.drop t.o) (xs.length-t.o),.bool t.bad],.bool v])
 | _=>False
theorem ZeY (args:List AV) (h:Z6) (K:AV->Prop) (hl:Zic args h K):Zi PP 69 args h fun o h'=>∃v,o=.ret v/\h'=h/\K v:=by
 unfold Zic at hl
 split at hl
 ·obtain ⟨xs,⟨o,c⟩,rfl,⟨rfl,e,h1⟩,hK⟩:=hl
  unfold Uq at hK
  dsimp only at hK h1
  cases c with
  | true=>subst e;exact Yu Zp rfl (ZmC _ _ (fun ys n b v=>K (.tuple [.agg [.vints .u8 ys n,.bool b],.bool v])) (hK _ _ rfl h1)) (fun u hu=>by obtain ⟨_,_,_,_,rfl,hq⟩:=Zao hu;exact hq)
  | false=>
   subst e
   have hg:(xs.drop o).getD 0 0=xs.getD o 0:=by rw [List.getD_eq_getElem?_getD,List.getD_eq_getElem?_getD,List.getElem?_drop,Nat.add_zero]
   refine Yu Zp rfl (ZmB (xs.drop o) (xs.length-o) (fun ys n b v=>K (.tuple [.agg [.vints .u8 ys n,.bool b],.bool v])) (List.length_drop ..) (fun h0 hc=> ?_) (fun hc=> ?_)) (fun u hu=>by obtain ⟨_,_,_,_,rfl,hq⟩:=Zao hu;exact hq)
   ·rw [hg] at hc⊢
    have:=hK (xs.getD o 0==1) ⟨o+1,false⟩ (by simp only [rdT,if_pos (show o<xs.length/\xs.getD o 0<=1 from ⟨by omega,hc⟩)]) (by show o+1<=xs.length;omega)
    rw [List.drop_drop]
    rw [show xs.length-o-1=xs.length-(o+1) by omega]
    exact this
   ·rw [hg] at hc
    exact hK false ⟨o,true⟩ (by simp only [rdT,if_neg (show ¬(o<xs.length/\xs.getD o 0<=1) from fun h=>hc ⟨by omega,h.2⟩)]) h1
 ·exact hl.elim
theorem Z2e {F:List Int->Int×Int} {xs:List Int} {s t:RS} {m v:Int} (hm:0<=m) (h:YE F xs s m=(v,t)):v<=m:=by
 unfold YE at h
 split at h
 ·cases h;exact hm
 ·split at h
  ·rename_i hr
   cases h
   unfold rdN at hr
   split at hr
   ·rename_i hc;cases hr;exact hc.2
   ·cases hr
  ·cases h;exact hm
theorem Bytes.takeB {xs:List Int} (h:Bytes xs) (n:Nat):Bytes (xs.take n):=⟨fun i=>by
 by_cases hi:i<n
 ·have:=h.h i
  rwa [List.getD_eq_getElem?_getD,List.getElem?_take_of_lt hi,<-List.getD_eq_getElem?_getD]
 ·rw [List.getD_eq_getElem?_getD,List.getElem?_eq_none (by rw [List.length_take];omega)]
  exact ⟨Int.le_refl 0,by decide⟩⟩
def XC (F:List Int->Int×Int) (xs:List Int):Option (ClS×Nat):=
 (rdH xs 0).bind fun v0=>
 (rdN F xs v0.2 1125899906842624).bind fun v1=>
 (rdN F xs v1.2 1125899906842624).bind fun v2=>
 (rdN F xs v2.2 1125899906842624).bind fun v3=>
 (rdN F xs v3.2 1125899906842624).bind fun v4=>
 (rdN F xs v4.2 1125899906842624).bind fun v5=>
 (rdH xs v5.2).bind fun v6=>
 (rdH xs v6.2).bind fun v7=>
 (rdN F xs v7.2 1125899906842624).bind fun v8=>
 (rdN F xs v8.2 1125899906842624).bind fun v9=>
 (rdN F xs v9.2 1125899906842624).bind fun v10=>
 (rdN F xs v10.2 1125899906842624).bind fun v11=>
 (rdN F xs v11.2 1125899906842624).bind fun v12=>
 (rdT xs v12.2).bind fun v13=>
 (rdN F xs v13.2 1125899906842624).bind fun v14=>
 (rdT xs v14.2).bind fun v15=>
 (rdN F xs v15.2 1125899906842624).bind fun v16=>
 some (⟨⟨v0.1,v1.1,v2.1,v3.1,v4.1,v5.1,v6.1,v7.1⟩,v8.1,v9.1,v10.1,v11.1,v12.1,v13.1,v14.1,v15.1,v16.1⟩,v16.2)
theorem Z7s {F:List Int->Int×Int} {xs:List Int} {k:ClS} {p:Nat} (h:XC F xs=some (k,p)):∃o0 o1 o2 o3 o4 o5 o6 o7 o8 o9 o10 o11 o12 o13 o14 o15 o16,rdH xs 0=some (k.t.fund,o0)/\rdN F xs o0 1125899906842624=some (k.t.index,o1)/\rdN F xs o1 1125899906842624=some (k.t.cap,o2)/\rdN F xs o2 1125899906842624=some (k.t.dust,o3)/\rdN F xs o3 1125899906842624=some (k.t.fee,o4)/\rdN F xs o4 1125899906842624=some (k.t.delay,o5)/\rdH xs o5=some (k.t.k0,o6)/\rdH xs o6=some (k.t.k1,o7)/\rdN F xs o7 1125899906842624=some (k.side,o8)/\rdN F xs o8 1125899906842624=some (k.a0,o9)/\rdN F xs o9 1125899906842624=some (k.a1,o10)/\rdN F xs o10 1125899906842624=some (k.least,o11)/\rdN F xs o11 1125899906842624=some (k.most,o12)/\rdT xs o12=some (k.offers,o13)/\rdN F xs o13 1125899906842624=some (k.last,o14)/\rdT xs o14=some (k.agrees,o15)/\rdN F xs o15 1125899906842624=some (k.fee,o16)/\o16=p:=by
 unfold XC at h
 simp only [Option.bind_eq_some_iff] at h
 obtain ⟨⟨v0,o0⟩,h0,⟨v1,o1⟩,h1,⟨v2,o2⟩,h2,⟨v3,o3⟩,h3,⟨v4,o4⟩,h4,⟨v5,o5⟩,h5,⟨v6,o6⟩,h6,⟨v7,o7⟩,h7,⟨v8,o8⟩,h8,⟨v9,o9⟩,h9,⟨v10,o10⟩,h10,⟨v11,o11⟩,h11,⟨v12,o12⟩,h12,⟨v13,o13⟩,h13,⟨v14,o14⟩,h14,⟨v15,o15⟩,h15,⟨v16,o16⟩,h16,he⟩:=h
 cases he
 exact ⟨o0,o1,o2,o3,o4,o5,o6,o7,o8,o9,o10,o11,o12,o13,o14,o15,o16,h0,h1,h2,h3,h4,h5,h6,h7,h8,h9,h10,h11,h12,h13,h14,h15,h16,rfl⟩
def XZ (F:List Int->Int×Int) (xs:List Int):ClS×RS:=
 let v0:=XY xs ⟨0,false⟩
 let v1:=YE F xs v0.2 23
 let v2:=YE F xs v1.2 1125899906842624
 let v3:=YE F xs v2.2 500
 let v4:=YE F xs v3.2 400
 let v5:=YE F xs v4.2 1000
 let v6:=XY xs v5.2
 let v7:=XY xs v6.2
 let v8:=YE F xs v7.2 1
 let v9:=YE F xs v8.2 1125899906842624
 let v10:=YE F xs v9.2 1125899906842624
 let v11:=YE F xs v10.2 1125899906842624
 let v12:=YE F xs v11.2 1125899906842624
 let v13:=Uq xs v12.2
 let v14:=YE F xs v13.2 1125899906842624
 let v15:=Uq xs v14.2
 let v16:=YE F xs v15.2 1125899906842624
 (⟨⟨v0.1,v1.1,v2.1,v3.1,v4.1,v5.1,v6.1,v7.1⟩,v8.1,v9.1,v10.1,v11.1,v12.1,v13.1,v14.1,v15.1,v16.1⟩,v16.2)
theorem YO {F:List Int->Int×Int} {xs:List Int} {s t:RS} {m v:Int} (h:YE F xs s m=(v,t)) (hb:t.bad=false):s.bad=false/\rdN F xs s.o m=some (v,t.o):=by
 unfold YE at h
 split at h
 ·rename_i hs;cases h;rw [hs] at hb;cases hb
 ·rename_i hs
  split at h
  ·rename_i hr;cases h;exact ⟨hs,hr⟩
  ·cases h;cases hb
theorem Z0j {xs:List Int} {s t:RS} {v:List Int} (h:XY xs s=(v,t)) (hb:t.bad=false):s.bad=false/\rdH xs s.o=some (v,t.o):=by
 unfold XY at h
 split at h
 ·rename_i hs;cases h;rw [hs] at hb;cases hb
 ·rename_i hs
  split at h
  ·rename_i hr;cases h;exact ⟨hs,hr⟩
  ·cases h;cases hb
theorem Z53 {xs:List Int} {s t:RS} {v:Bool} (h:Uq xs s=(v,t)) (hb:t.bad=false):s.bad=false/\rdT xs s.o=some (v,t.o):=by
 unfold Uq at h
 split at h
 ·rename_i hs;cases h;rw [hs] at hb;cases hb
 ·rename_i hs
  split at h
  ·rename_i hr;cases h;exact ⟨hs,hr⟩
  ·cases h;cases hb
theorem Xy {F:List Int->Int×Int} {xs:List Int} {o p:Nat} {m v:Int} (h:rdN F xs o m=some (v,p)):YE F xs ⟨o,false⟩ m=(v,⟨p,false⟩):=by
 unfold YE;simp only [h]
theorem Z3K {xs v:List Int} {o p:Nat} (h:rdH xs o=some (v,p)):XY xs ⟨o,false⟩=(v,⟨p,false⟩):=by
 unfold XY;simp only [h]
theorem Zap {xs:List Int} {v:Bool} {o p:Nat} (h:rdT xs o=some (v,p)):Uq xs ⟨o,false⟩=(v,⟨p,false⟩):=by
 unfold Uq;simp only [h]
theorem ZbW {F:List Int->Int×Int} {xs:List Int} {k:ClS} {t:RS} (h:XZ F xs=(k,t)) (hb:t.bad=false):XC F xs=some (k,t.o):=by
 rcases e0:XY xs ⟨0,false⟩ with ⟨v0,t0⟩
 rcases e1:YE F xs t0 23 with ⟨v1,t1⟩
 rcases e2:YE F xs t1 1125899906842624 with ⟨v2,t2⟩
 rcases e3:YE F xs t2 500 with ⟨v3,t3⟩
 rcases e4:YE F xs t3 400 with ⟨v4,t4⟩
 rcases e5:YE F xs t4 1000 with ⟨v5,t5⟩
 rcases e6:XY xs t5 with ⟨v6,t6⟩
 rcases e7:XY xs t6 with ⟨v7,t7⟩
 rcases e8:YE F xs t7 1 with ⟨v8,t8⟩
 rcases e9:YE F xs t8 1125899906842624 with ⟨v9,t9⟩
 rcases e10:YE F xs t9 1125899906842624 with ⟨v10,t10⟩
 rcases e11:YE F xs t10 1125899906842624 with ⟨v11,t11⟩
 rcases e12:YE F xs t11 1125899906842624 with ⟨v12,t12⟩
 rcases e13:Uq xs t12 with ⟨v13,t13⟩
 rcases e14:YE F xs t13 1125899906842624 with ⟨v14,t14⟩
 rcases e15:Uq xs t14 with ⟨v15,t15⟩
 rcases e16:YE F xs t15 1125899906842624 with ⟨v16,t16⟩
 unfold XZ at h
 simp only [e0,e1,e2,e3,e4,e5,e6,e7,e8,e9,e10,e11,e12,e13,e14,e15,e16] at h
 cases h
 have c16:=hb
 obtain ⟨c15,r16⟩:=YO e16 c16
 obtain ⟨c14,r15⟩:=Z53 e15 c15
 obtain ⟨c13,r14⟩:=YO e14 c14
 obtain ⟨c12,r13⟩:=Z53 e13 c13
 obtain ⟨c11,r12⟩:=YO e12 c12
 obtain ⟨c10,r11⟩:=YO e11 c11
 obtain ⟨c9,r10⟩:=YO e10 c10
 obtain ⟨c8,r9⟩:=YO e9 c9
 obtain ⟨c7,r8⟩:=YO e8 c8
 obtain ⟨c6,r7⟩:=Z0j e7 c7
 obtain ⟨c5,r6⟩:=Z0j e6 c6
 obtain ⟨c4,r5⟩:=YO e5 c5
 obtain ⟨c3,r4⟩:=YO e4 c4
 obtain ⟨c2,r3⟩:=YO e3 c3
 obtain ⟨c1,r2⟩:=YO e2 c2
 obtain ⟨c0,r1⟩:=YO e1 c1
 obtain ⟨_,r0⟩:=Z0j e0 c0
 have r1:=Vz (m':=1125899906842624) r1 (Int.le_trans (Q4 r1) (by decide))
 have r3:=Vz (m':=1125899906842624) r3 (Int.le_trans (Q4 r3) (by decide))
 have r4:=Vz (m':=1125899906842624) r4 (Int.le_trans (Q4 r4) (by decide))
 have r5:=Vz (m':=1125899906842624) r5 (Int.le_trans (Q4 r5) (by decide))
 have r8:=Vz (m':=1125899906842624) r8 (Int.le_trans (Q4 r8) (by decide))
 unfold XC
 simp only [Option.bind_some,r0,r1,r2,r3,r4,r5,r6,r7,r8,r9,r10,r11,r12,r13,r14,r15,r16]
theorem Zhw {F:List Int->Int×Int} {xs:List Int} {k:ClS} {p:Nat} (h:XC F xs=some (k,p)) (hm:Z65 k):XZ F xs=(k,⟨p,false⟩):=by
 obtain ⟨o0,o1,o2,o3,o4,o5,o6,o7,o8,o9,o10,o11,o12,o13,o14,o15,o16,r0,r1,r2,r3,r4,r5,r6,r7,r8,r9,r10,r11,r12,r13,r14,r15,r16,rfl⟩:=Z7s h
 have hd:=Vo hm.t
 have hs:=hm.side
 have f0:=Z3K r0
 have f1:=Xy (Vz (m':=23) r1 (by omega))
 have f2:=Xy r2
 have f3:=Xy (Vz (m':=500) r3 (by omega))
 have f4:=Xy (Vz (m':=400) r4 (by omega))
 have f5:=Xy (Vz (m':=1000) r5 (by omega))
 have f6:=Z3K r6
 have f7:=Z3K r7
 have f8:=Xy (Vz (m':=1) r8 (by omega))
 have f9:=Xy r9
 have f10:=Xy r10
 have f11:=Xy r11
 have f12:=Xy r12
 have f13:=Zap r13
 have f14:=Xy r14
 have f15:=Zap r15
 have f16:=Xy r16
 unfold XZ
 simp only [f0,f1,f2,f3,f4,f5,f6,f7,f8,f9,f10,f11,f12,f13,f14,f15,f16]
theorem Z66 {xs v:List Int} {o p:Nat} (hb:Bytes xs) (h:rdH xs o=some (v,p)):v.length=32/\Bytes v:=by
 unfold rdH at h
 split at h
 ·cases h
  exact ⟨by rw [List.length_take,List.length_drop];omega,(hb.drop o).takeB 32⟩
 ·cases h
theorem Z7t {xs:List Int} {k:ClS} {p:Nat} (hb:Bytes xs) (h:XC (ZU Zs) xs=some (k,p)):k.t.All:=by
 obtain ⟨o0,o1,o2,o3,o4,o5,o6,o7,o8,o9,o10,o11,o12,o13,o14,o15,o16,r0,r1,r2,r3,r4,r5,r6,r7,r8,r9,r10,r11,r12,r13,r14,r15,r16,he⟩:=Z7s h
 have a:=Z66 hb r0
 have b:=Z66 hb r6
 have c:=Z66 hb r7
 exact ⟨⟨b.1,c.1,b.2,c.2⟩,a.1,a.2⟩
inductive XJ (cs:List AV) (k:ClS):Prop
 | mk:cs=k.c->XJ cs k
def ZbX (A:List Int->Int×Int):ZG:=fun args h K=>ZH none h true 20 args fun a=>match a with
 | [.agg cs]=>∃k,XJ cs k/\k.t.Ok/\K (.bool (Yg A k))
 | _=>False
theorem Zaq (args:List AV) (h:Z6) (K:AV->Prop) (hl:ZbX ZJ args h K):Zi PP 30 args h fun o h'=>∃v,o=.ret v/\h'=h/\K v:=by
 refine Zy.psumm (d:=20) (Zm _ _ _ _ _ hl fun a ha=> ?_)
 split at ha
 ·obtain ⟨k,⟨rfl⟩,ht,hK⟩:=ha
  exact ⟨_,Zy.evV Zht (Zmu _ k _ ht rfl),fun _=>rfl,hK⟩
 ·exact ha.elim
theorem Zhx (args:List AV) (h:Z6) (K:AV->Prop) (hl:ZbX ZJ args h K):Zi PP 51 args h fun o h'=>∃v,o=.ret v/\h'=h/\K v:=by
 refine Zy.psumm (d:=20) (Zm _ _ _ _ _ hl fun a ha=> ?_)
 split at ha
 ·obtain ⟨k,⟨rfl⟩,ht,hK⟩:=ha
  exact ⟨_,Zy.evV (Zh.withP_ok Zp Z4T) (Zmv _ k _ rfl ht rfl),fun _=>rfl,hK⟩
 ·exact ha.elim
theorem ZmD (A:List Int->Int×Int) (k:ClS) (fee e:Int) (hA:A=ZJ) (ht:k.t.Ok) (ha:k.a0<9223372036854775808) (he:e=Y0 k.t k.a0 k.a1 fee):
  evF (G0.withF 42 (clF A)) 20 38 [.agg k.c,.int .i64 fee] ⟨0,[]⟩ (ZL 0 (.ret (.tuple [.top,.int .i64 e])) 0 []):=by
 refine @Eq.mpr _ (let q1:=k.t;let q2:=Zo.mk q1.fund q1.index q1.cap q1.dust q1.fee q1.delay q1.k0 q1.k1;
 Zo.Ok q2/\
 ∃(a:Int),
 ∃(b:Int),
 let q5:=clB A q2 a b fee;let q6:=clL q2 a b fee;
 [k.a0,k.a1]=[a,b]/\a<9223372036854775808/\(q5=false->Z0 (decide (2=e)) True False)/\(q5=true->(List.length q6=0->Z0 (decide (180=e)) True False)/\∀(n:Nat) (L:List Zc),L=ZZ q6->n=List.length L->n≠0->Z0 (decide (0=e)) True False)) (by kernel_rfl) ?_
 conv=>zeta
 try simp only [Z8]
 try simp only [Ze]
 try simp only [Za]
 try simp only [Zf]
 try simp only [Zg]
 try simp only [Z9]
 try simp only [Y_s]
 subst hA he
 refine ⟨ht,k.a0,k.a1,rfl,ha,fun h=> ?_,fun h=>⟨fun h2=> ?_,fun n L hL hn hn0=> ?_⟩⟩
 ·have h:clB ZJ k.t k.a0 k.a1 fee=false:=h
  unfold Y0
  rw [h];rfl
 ·unfold Y0
  rw [if_pos h,if_pos h2]
 ·refine (Zak h ?_).symm
  subst hn hL
  rw [YY] at hn0
  exact hn0
def ZmE:ZR:=fun args h K=>ZH none h true 20 args fun a=>match a with
 | [.agg cs,.int .i64 fee]=>∃k,XJ cs k/\(k.t.Ok/\k.a0<9223372036854775808)/\K (.ret (.tuple [.top,.int .i64 (Y0 k.t k.a0 k.a1 fee)])) h
 | _=>False
theorem Zhy (args:List AV) (h:Z6) (K:KO) (hl:ZmE args h K):Zi PP 38 args h K:=by
 refine Zy.fsumm (d:=20) (Zm _ _ _ _ _ hl fun a ha=> ?_)
 split at ha
 ·obtain ⟨k,⟨rfl⟩,⟨ht,ha⟩,hK⟩:=ha
  exact ⟨_,_,_,_,.evM (Zh.withF_ok Zp Z8W) (ZmD _ k _ _ rfl ht ha rfl),rfl,trivial,hK⟩
 ·exact ha.elim
def clK (ok:Bool) (k:ClS):KO:=fun o h=>match o with
 | .ret (.tuple [.ptr none,.int .i64 _])=>Z0 ok False (ZL 0 (.ret (.tuple [.ptr none,.int .i64 253])) 0 [] o h)
 | .ret (.tuple [.ptr (some _),.int .i64 _])=>Z0 ok (ZL 0 (.ret (.tuple [.ptr (some ⟨0,0,0,0,0⟩),.int .i64 0])) 1 [(0,.flat (k.c++[.bool true]))] o h) False
 | _=>False
def Xc (Tg:List Int->TxS->List Int) (k:ClS) (fee sd:Int):List Int:=if Y0 k.t k.a0 k.a1 fee=0 then Tg (Z91 k.t sd) (txC k.t k.a0 k.a1 fee) else Z5
theorem Z0R {Tg:List Int->TxS->List Int} {k:ClS} {fee sd:Int} (h:Y0 k.t k.a0 k.a1 fee=0):Xc Tg k fee sd=Tg (Z91 k.t sd) (txC k.t k.a0 k.a1 fee):=if_pos h
theorem Z2f {Tg:List Int->TxS->List Int} {k:ClS} {fee sd:Int} (h:Y0 k.t k.a0 k.a1 fee≠0):Xc Tg k fee sd=Z5:=if_neg h
theorem Z1n {k:ClS} {fee:Int} (h:clB ZJ k.t k.a0 k.a1 fee=false):Y0 k.t k.a0 k.a1 fee=2:=by unfold Y0;rw [h];rfl
theorem VW {k:ClS} {fee:Int} (h:clB ZJ k.t k.a0 k.a1 fee=true) (h2:(clL k.t k.a0 k.a1 fee).length=0):Y0 k.t k.a0 k.a1 fee=180:=by unfold Y0;rw [if_pos h,if_pos h2]
theorem VX {k:ClS} {fee:Int} {n:Nat} {L:List Zc} (h:clB ZJ k.t k.a0 k.a1 fee=true) (hL:L=ZZ (clL k.t k.a0 k.a1 fee)) (hn:n=L.length) (h0:n≠0):Y0 k.t k.a0 k.a1 fee=0:=Zak h (by subst hn hL;rw [YY] at h0;exact h0)
theorem Q5 (t:Zo) (i:Nat) (hi:i<1):ZT [AV.arr u8 32 t.fund,AV.int i64 t.index,AV.int i64 1,AV.arr u8 32 Z5,AV.arr u8 32 Z5,AV.arr u8 32 Z5] 0 130 i=InS.c (Z0h t):=by
 have:i=0:=by omega
 subst this;rfl
noncomputable def ZjV (A:List Int->Int×Int) (Tg:List Int->TxS->List Int):Zh:=(G0.withF 61 (clF A)).withP 62 (Z5R Tg)
theorem Zar:(ZjV ZJ Q1).Ok:=Zh.withP_ok (Zh.withF_ok Zp Zac) Za3
theorem ZmF (A:List Int->Int×Int) (Tg:List Int->TxS->List Int) (k:ClS) (fee e:Int) (h:List Int) (hA:A=ZJ) (ht:k.t.All) (ha:k.a0<9223372036854775808) (he:e=Y0 k.t k.a0 k.a1 fee) (hh:h=Xc Tg k fee 0):
  evF (ZjV A Tg) 20 70 [.agg k.c,.int .i64 fee,.int .i64 0] ⟨0,[]⟩ (ZL 0 (.ret (.tuple [.agg [.arr .u8 32 h],.int .i64 e])) 0 []):=by
 refine @Eq.mpr _ (let q1:=k.t;let q2:=q1.fund;let q3:=q1.index;let q4:=q1.k0;let q5:=Zo.mk q2 q3 q1.cap q1.dust q1.fee q1.delay q4 q1.k1;let q6:=InS.mk q2 q3 1 Z5 Z5 Z5;
 Zo.Ok q5/\
 ∃(a:Int),
 ∃(b:Int),
 let q13:=clB A q5 a b fee;let q14:=clL q5 a b fee;
 [k.a0,k.a1]=[a,b]/\
 a<9223372036854775808/\
 (q13=false->Z5=h/\Z0 (decide (2=e)) True False)/\
 (q13=true->
 (List.length q14=0->Z5=h/\Z0 (decide (180=e)) True False)/\
 ∀(n:Nat) (L:List Zc),
 L=ZZ q14->
 n=List.length L->
 n≠0->
 Z0 (decide (0+n<=n))
 ((∀(i:Nat),i<n->true=true)/\
 ∃(t:TxS),
 (t.num=2147483647/\
 (((1:Nat)=1/\t.N=1)/\∀(i:Nat),i<1->ZT [AV.arr u8 32 q6.name,AV.int i64 q6.index,AV.int i64 q6.way,AV.arr u8 32 q6.tag,AV.arr u8 32 q6.also,AV.arr u8 32 q6.secret] 0 130 i=InS.c (t.ins i))/\
 (n=n/\t.M=n)/\
 ∀(i:Nat),
 let q17:=Y3 L i;
 i<n->[AV.int i64 q17.kind,AV.int i64 q17.amount,AV.arr u8 32 q17.owner,AV.arr u8 32 q17.other,AV.arr u8 32 q17.point,AV.arr u8 32 q17.hash,AV.int i64 q17.delay,AV.int i64 q17.expiry]=ZK.c (t.outs i))/\
 (TxS.Fine t/\List.length q4=32)/\Tg q4 t=h/\Z0 (decide (0=e)) True False)
 False)) (by kernel_rfl) ?_
 conv=>zeta
 try simp only [Z8]
 try simp only [Ze]
 try simp only [Za]
 try simp only [Zf]
 try simp only [Zg]
 try simp only [Z9]
 try simp only [Y_s]
 subst hA he hh
 refine ⟨ht.ok,k.a0,k.a1,rfl,ha,fun h1=> ?_,fun h1=>⟨fun h2=> ?_,fun n L hL hn hn0=> ?_⟩⟩
 ·have e:=Z1n h1
  exact ⟨(Z2f (by rw [e];decide)).symm,e.symm⟩
 ·have e:=VW h1 h2
  exact ⟨(Z2f (by rw [e];decide)).symm,e.symm⟩
 ·have e:=VX h1 hL hn hn0
  subst hn hL
  exact ⟨fun _ _=>trivial,txC k.t k.a0 k.a1 fee,⟨rfl,⟨rfl,fun i hi=>Q5 _ i hi⟩,rfl,fun _ _=>rfl⟩,⟨Xr (VA ht.ok ht.fl) (Ui e),ht.ok.k0⟩,(Z0R (Tg:=Tg) (sd:=0) e).symm,e.symm⟩
theorem ZmG (A:List Int->Int×Int) (Tg:List Int->TxS->List Int) (k:ClS) (fee e:Int) (h:List Int) (hA:A=ZJ) (ht:k.t.All) (ha:k.a0<9223372036854775808) (he:e=Y0 k.t k.a0 k.a1 fee) (hh:h=Xc Tg k fee 1):
  evF (ZjV A Tg) 20 70 [.agg k.c,.int .i64 fee,.int .i64 1] ⟨0,[]⟩ (ZL 0 (.ret (.tuple [.agg [.arr .u8 32 h],.int .i64 e])) 0 []):=by
 refine @Eq.mpr _ (let q1:=k.t;let q2:=q1.fund;let q3:=q1.index;let q4:=q1.k1;let q5:=Zo.mk q2 q3 q1.cap q1.dust q1.fee q1.delay q1.k0 q4;let q6:=InS.mk q2 q3 1 Z5 Z5 Z5;
 Zo.Ok q5/\
 ∃(a:Int),
 ∃(b:Int),
 let q13:=clB A q5 a b fee;let q14:=clL q5 a b fee;
 [k.a0,k.a1]=[a,b]/\
 a<9223372036854775808/\
 (q13=false->Z5=h/\Z0 (decide (2=e)) True False)/\
 (q13=true->
 (List.length q14=0->Z5=h/\Z0 (decide (180=e)) True False)/\
 ∀(n:Nat) (L:List Zc),
 L=ZZ q14->
 n=List.length L->
 n≠0->
 Z0 (decide (0+n<=n))
 ((∀(i:Nat),i<n->true=true)/\
 ∃(t:TxS),
 (t.num=2147483647/\
 (((1:Nat)=1/\t.N=1)/\∀(i:Nat),i<1->ZT [AV.arr u8 32 q6.name,AV.int i64 q6.index,AV.int i64 q6.way,AV.arr u8 32 q6.tag,AV.arr u8 32 q6.also,AV.arr u8 32 q6.secret] 0 130 i=InS.c (t.ins i))/\
 (n=n/\t.M=n)/\
 ∀(i:Nat),
 let q17:=Y3 L i;
 i<n->[AV.int i64 q17.kind,AV.int i64 q17.amount,AV.arr u8 32 q17.owner,AV.arr u8 32 q17.other,AV.arr u8 32 q17.point,AV.arr u8 32 q17.hash,AV.int i64 q17.delay,AV.int i64 q17.expiry]=ZK.c (t.outs i))/\
 (TxS.Fine t/\List.length q4=32)/\Tg q4 t=h/\Z0 (decide (0=e)) True False)
 False)) (by kernel_rfl) ?_
 conv=>zeta
 try simp only [Z8]
 try simp only [Ze]
 try simp only [Za]
 try simp only [Zf]
 try simp only [Zg]
 try simp only [Z9]
 try simp only [Y_s]
 subst hA he hh
 refine ⟨ht.ok,k.a0,k.a1,rfl,ha,fun h1=> ?_,fun h1=>⟨fun h2=> ?_,fun n L hL hn hn0=> ?_⟩⟩
 ·have e:=Z1n h1
  exact ⟨(Z2f (by rw [e];decide)).symm,e.symm⟩
 ·have e:=VW h1 h2
  exact ⟨(Z2f (by rw [e];decide)).symm,e.symm⟩
 ·have e:=VX h1 hL hn hn0
  subst hn hL
  exact ⟨fun _ _=>trivial,txC k.t k.a0 k.a1 fee,⟨rfl,⟨rfl,fun i hi=>Q5 _ i hi⟩,rfl,fun _ _=>rfl⟩,⟨Xr (VA ht.ok ht.fl) (Ui e),ht.ok.k1⟩,(Z0R (Tg:=Tg) (sd:=1) e).symm,e.symm⟩
theorem Zhz {k:ClS} {fee sd:Int} (ht:k.t.All):Xc Q1 k fee sd=Xc ZO k fee sd:=by
 unfold Xc
 split
 ·rename_i h
  exact Z2b (Xr (VA ht.ok ht.fl) (Ui h)) (Zal ht) (ZeQ ht.ok _)
 ·rfl
def Zid (Tg:List Int->TxS->List Int):ZG:=fun args h K=>ZH none h true 20 args fun a=>match a with
 | [.agg cs,.int .i64 fee,.int .i64 sd]=>∃k,XJ cs k/\(k.t.All/\k.a0<9223372036854775808/\(sd=0\/sd=1))/\K (.tuple [.agg [.arr .u8 32 (Xc Tg k fee sd)],.int .i64 (Y0 k.t k.a0 k.a1 fee)])
 | _=>False
theorem ZeZ (args:List AV) (h:Z6) (K:AV->Prop) (hl:Zid ZO args h K):Zi PP 70 args h fun o h'=>∃v,o=.ret v/\h'=h/\K v:=by
 refine Zy.psumm (d:=20) (Zm _ _ _ _ _ hl fun a ha=> ?_)
 split at ha
 ·obtain ⟨k,⟨rfl⟩,⟨ht,ha,hs⟩,hK⟩:=ha
  rw [<-Zhz ht] at hK
  rcases hs with rfl|rfl
  ·exact ⟨_,.evM Zar (ZmF _ Q1 k _ _ _ rfl ht ha rfl rfl),fun _=>rfl,hK⟩
  ·exact ⟨_,.evM Zar (ZmG _ Q1 k _ _ _ rfl ht ha rfl rfl),fun _=>rfl,hK⟩
 ·exact ha.elim
def clZ:ClS:=⟨⟨Z5,0,0,0,0,0,Z5,Z5⟩,0,0,0,0,0,false,0,false,0⟩
def Zf0 (ok:Bool) (k:ClS):KO:=fun o h=>match o with
 | .ret (.tuple [.agg _,.int .i64 e])=>match decide (e=0) with
  | true=>Z0 ok (ZL 0 (.ret (.tuple [.agg k.c,.int .i64 0])) 0 [] o h) False
  | false=>Z0 ok False (ZL 0 (.ret (.tuple [.agg clZ.c,.int .i64 253])) 0 [] o h)
 | _=>False
theorem Zas:∀(n a b:Nat),a<2^n->b<2^n->2*(a&&&b)+(a^^^b)=a+b
 | 0,a,b,ha,hb=>by
  have:a=0:=by simpa using ha
  have:b=0:=by simpa using hb
  subst_vars;rfl
 | n+1,a,b,ha,hb=>by
  have ih:=Zas n (a/2) (b/2) (by rw [Nat.pow_succ] at ha;omega) (by rw [Nat.pow_succ] at hb;omega)
  have h1:(a&&&b)/2=(a/2)&&&(b/2):=Nat.and_div_two
  have h2:(a^^^b)/2=(a/2)^^^(b/2):=Nat.xor_div_two
  rw [<-h1,<-h2] at ih
  have h3:(a^^^b)%2^1=(a%2^1)^^^(b%2^1):=Nat.xor_mod_two_pow
  rw [Nat.pow_one] at h3
  have h6:(a%2)^^^(b%2)=(a%2+b%2)%2:=by
   rcases Nat.mod_two_eq_zero_or_one a with e|e<;>rcases Nat.mod_two_eq_zero_or_one b with f|f<;>rw [e,f]<;>rfl
  rw [h6] at h3
  have h4:(a&&&b)%2=1↔a%2=1/\b%2=1:=Nat.and_mod_two_eq_one
  have h5:(a&&&b)%2<2:=Nat.mod_lt _ (by decide)
  omega
theorem ZjW {a b:Int} (ha:0<=a/\a<=1125899906842624) (hb:0<=b/\b<=1125899906842624):i64.wrap (Uw .i64 a b+Zu .i64 (Ym .i64 a b) 1)=(a+b).tdiv 2:=by
 obtain ⟨x,rfl⟩:=Int.eq_ofNat_of_zero_le ha.1
 obtain ⟨y,rfl⟩:=Int.eq_ofNat_of_zero_le hb.1
 have hx:x<2^51:=by have:=ha.2;omega
 have hy:y<2^51:=by have:=hb.2;omega
 have hm:=Zas 51 x y hx hy
 have hand:x&&&y<2^51:=Nat.and_lt_two_pow x hy
 have hxor:x^^^y<2^51:=Nat.xor_lt_two_pow hx hy
 have e1:Uw .i64 (x:Int) (y:Int)=((x&&&y:Nat):Int):=by
  unfold Uw
  show i64.wrap (((BitVec.ofInt 64 (x:Int)&&&BitVec.ofInt 64 (y:Int)).toNat:Nat):Int)=_
  rw [BitVec.ofInt_natCast,BitVec.ofInt_natCast,BitVec.toNat_and,BitVec.toNat_ofNat,BitVec.toNat_ofNat,Nat.mod_eq_of_lt (by omega),Nat.mod_eq_of_lt (by omega)]
  rw [w64 (by omega)]
 have e2:Ym .i64 (x:Int) (y:Int)=((x^^^y:Nat):Int):=by
  unfold Ym
  show i64.wrap (((BitVec.ofInt 64 (x:Int)^^^BitVec.ofInt 64 (y:Int)).toNat:Nat):Int)=_
  rw [BitVec.ofInt_natCast,BitVec.ofInt_natCast,BitVec.toNat_xor,BitVec.toNat_ofNat,BitVec.toNat_ofNat,Nat.mod_eq_of_lt (by omega),Nat.mod_eq_of_lt (by omega)]
  rw [w64 (by omega)]
 have e3:Zu .i64 ((x^^^y:Nat):Int) 1=((x^^^y:Nat):Int)/2:=by
  unfold Zu
  show Int.fdiv _ (2^1)=_
  rw [Int.fdiv_eq_ediv_of_nonneg _ (by decide)]
  rfl
 rw [e1,e2,e3,Int.tdiv_eq_ediv_of_nonneg (by omega),w64 (by omega)]
 omega
def Qx (a b:Int):Int:=(a+b).tdiv 2
theorem ZhA {a b m:Int} (ha:0<=a/\a<=m) (hb:0<=b/\b<=m):0<=Qx a b/\Qx a b<=m:=by
 unfold Qx
 rw [Int.tdiv_eq_ediv_of_nonneg (by omega)]
 omega
theorem ZmH (M:Int->Int->Int) (a b:Int) (hM:M=Qx) (ha:0<=a/\a<=1125899906842624) (hb:0<=b/\b<=1125899906842624):
  evF G0 30 84 [.int .i64 a,.int .i64 b] ⟨0,[]⟩ (XI fun v=>v=.tuple [.int .i64 (M a b),.int .i64 0]):=by
 refine @Eq.mpr _ (let q1:=wrap i64 (Uw i64 a b+Zu i64 (Ym i64 a b) 1);let q2:=AV.int i64 (wrap i64 (q1*0));let q3:=[AV.int i64 2];let q4:=[AV.int i64 0];let q5:=AV.tuple (AV.int i64 (M a b)::q4);let q6:=AV.tuple (q2::q3)=q5;let q7:=AV.tuple (q2::q4)=q5;let q8:=AV.int i64 (wrap i64 (q1*1));let q9:=AV.tuple (q8::q3)=q5;
 Z0 (decide (a<0)) (Z0 (decide (a<0)) q6 (Z0 (decide (a>1125899906842624)) q6 (Z0 (decide (b<0)) q6 (Z0 (decide (b>1125899906842624)) q6 q7)))) (Z0 (decide (a>1125899906842624)) (Z0 (decide (a<0)) q6 (Z0 (decide (a>1125899906842624)) q6 (Z0 (decide (b<0)) q6 (Z0 (decide (b>1125899906842624)) q6 q7)))) (Z0 (decide (b<0)) (Z0 (decide (a<0)) q6 (Z0 (decide (a>1125899906842624)) q6 (Z0 (decide (b<0)) q6 (Z0 (decide (b>1125899906842624)) q6 q7)))) (Z0 (decide (b>1125899906842624)) (Z0 (decide (a<0)) q6 (Z0 (decide (a>1125899906842624)) q6 (Z0 (decide (b<0)) q6 (Z0 (decide (b>1125899906842624)) q6 q7)))) (Z0 (decide (a<0)) q9 (Z0 (decide (a>1125899906842624)) q9 (Z0 (decide (b<0)) q9 (Z0 (decide (b>1125899906842624)) q9 (AV.tuple (q8::q4)=q5))))))))) (by kernel_rfl) ?_
 conv=>zeta
 try simp only [Z8]
 try simp only [Ze]
 try simp only [Za]
 try simp only [Zf]
 try simp only [Zg]
 try simp only [Z9]
 try simp only [Y_s]
 subst hM
 have hm:=ZjW ha hb
 have hq:0<=Qx a b/\Qx a b<=1125899906842624:=ZhA ha hb
 have hw:i64.wrap (Qx a b)=Qx a b:=w64 (by omega)
 have hm:i64.wrap (Uw i64 a b+Zu i64 (Ym i64 a b) 1)=Qx a b:=hm
 simp only [hm,Int.mul_one,hw]
 repeat' (first|(refine And.intro ?_ ?_)|intro _)
 all_goals first|exact True.intro|rfl|(exfalso;omega)
def ZjX (M:Int->Int->Int):ZG:=fun args _ K=>match args with
 | [.int .i64 a,.int .i64 b]=>((0<=a/\a<=1125899906842624)/\(0<=b/\b<=1125899906842624))/\K (.tuple [.int .i64 (M a b),.int .i64 0])
 | _=>False
theorem ZhB (args:List AV) (h:Z6) (K:AV->Prop) (hl:ZjX Qx args h K):Zi PP 84 args h fun o h'=>∃v,o=.ret v/\h'=h/\K v:=by
 unfold ZjX at hl
 split at hl
 ·obtain ⟨⟨h1,h2⟩,hK⟩:=hl
  exact Yu Zp rfl (ZmH _ _ _ rfl h1 h2) (fun u hu=>hu▸hK)
 ·exact hl.elim
def Xt (M:Int->Int->Int) (k:ClS) (x:Int):Int:=Z51 (match k.offers with|true=>M k.last x|false=>x) k.least k.most
theorem Zoh (M:Int->Int->Int) (k:ClS) (x r:Int) (hl:0<=k.last/\k.last<=1125899906842624) (hx:0<=x/\x<=1125899906842624) (hr:r=Xt M k x):
  evF (G0.withP 84 (ZjX M)) 20 41 [.agg k.c,.int .i64 x] ⟨0,[]⟩ (XI fun v=>v=.int .i64 r):=by
 refine @Eq.mpr _ (let q1:=k.last;let q2:=M q1 x;let q3:=k.most;let q4:=if q2<q3 then q2 else q3;let q5:=k.least;let q6:=if x<q3 then x else q3;
 Z0 k.offers (((0<=q1/\q1<=1125899906842624)/\0<=x/\x<=1125899906842624)/\AV.int i64 (if q4>q5 then q4 else q5)=AV.int i64 r) (AV.int i64 (if q6>q5 then q6 else q5)=AV.int i64 r)) (by kernel_rfl) ?_
 conv=>zeta
 try simp only [Z8]
 try simp only [Ze]
 try simp only [Za]
 try simp only [Zf]
 try simp only [Zg]
 try simp only [Z9]
 try simp only [Y_s]
 subst hr
 have hz:∀y:Int,(if (if y<k.most then y else k.most)>k.least then (if y<k.most then y else k.most) else k.least)=Z51 y k.least k.most:=fun y=>by
  unfold Z51
  rw [Int.max_def,Int.min_def]
  split<;>split<;>(try split)<;>(try split)<;>omega
 simp only [hz]
 unfold Xt
 cases k.offers
 ·exact ⟨(fun h=>nomatch h),fun _=>rfl⟩
 ·exact ⟨fun _=>⟨⟨hl,hx⟩,rfl⟩,(fun h=>nomatch h)⟩
def nxS (M:Int->Int->Int):ZG:=fun args h K=>ZH none h true 20 args fun a=>match a with
 | [.agg cs,.int .i64 x]=>∃k,XJ cs k/\((0<=k.last/\k.last<=1125899906842624)/\(0<=x/\x<=1125899906842624))/\K (.int .i64 (Xt M k x))
 | _=>False
theorem ZjY (args:List AV) (h:Z6) (K:AV->Prop) (hl:nxS Qx args h K):Zi PP 41 args h fun o h'=>∃v,o=.ret v/\h'=h/\K v:=by
 refine Zy.psumm (d:=20) (Zm _ _ _ _ _ hl fun a ha=> ?_)
 split at ha
 ·obtain ⟨k,⟨rfl⟩,⟨h1,h2⟩,hK⟩:=ha
  exact ⟨_,Zy.evV (Zh.withP_ok Zp ZhB) (Zoh _ k _ _ h1 h2 rfl),fun _=>rfl,hK⟩
 ·exact ha.elim
theorem Zoi (n a b:Int) (r:Bool) (hr:r=decide (a<=n/\n<=b)):
  evF G0 20 40 [.int .i64 n,.int .i64 a,.int .i64 b] ⟨0,[]⟩ (XI (fun v=>v=.bool r)):=by
 refine @Eq.mpr _ (Z0 (decide (a<=n)) (AV.bool (decide (n<=b))=AV.bool r) (AV.bool false=AV.bool r)) (by kernel_rfl) ?_
 simp only [Z7e]
 subst hr
 by_cases h1:a<=n<;>by_cases h2:n<=b<;>simp [h1,h2]
theorem Zf1 (args:List AV) (h:Z6) (K:AV->Prop) (hl:inQ args h K):Zi PP 40 args h fun o h'=>∃v,o=.ret v/\h'=h/\K v:=by
 unfold inQ at hl
 split at hl
 ·exact Yu Zp rfl (Zoi _ _ _ _ rfl) (fun u hu=>hu▸hl)
 ·exact hl.elim
structure ZA where
 kind:Int
 t:Zo
 reserve:Int
 amount:Int
 point:List Int
 nxt:List Int
 key:List Int
 hash:List Int
 tag:List Int
 secret:List Int
 id:Int
 number:Int
 index:Int
 expiry:Int
 code:Int
 route:ByteArray
def ZA.r (s:ZA):List AV:=[.arr .u8 32 s.t.fund,.int .i64 s.t.index,.int .i64 s.t.cap,.int .i64 s.t.dust,.int .i64 s.t.fee,.int .i64 s.t.delay,.arr .u8 32 s.t.k0,.arr .u8 32 s.t.k1,.int .i64 s.reserve,.int .i64 s.amount,.arr .u8 32 s.point,.arr .u8 32 s.nxt,.arr .u8 32 s.key,.arr .u8 32 s.hash,.arr .u8 32 s.tag,.arr .u8 32 s.secret,.int .i64 s.id,.int .i64 s.number,.int .i64 s.index,.int .i64 s.expiry,.int .i64 s.code,.str s.route]
def ZA.c (s:ZA):List AV:=.int .i64 s.kind::s.r
structure ZA.Len (s:ZA):Prop where
 h0:s.t.fund.length=32
 h1:s.t.k0.length=32
 h2:s.t.k1.length=32
 h3:s.point.length=32
 h4:s.nxt.length=32
 h5:s.key.length=32
 h6:s.hash.length=32
 h7:s.tag.length=32
 h8:s.secret.length=32
 hb:Bytes s.t.k0
def okF (m:List Nat) (i:Nat) (z:Bool):Bool:=Z85 i m||z
def ZmI (m:List Nat) (s:ZA):Bool:=
 true&&(okF m 0 (s.t.fund==Z5)&&(okF m 1 (s.t.index==0)&&(okF m 2 (s.t.cap==0)&&(okF m 3 (s.t.dust==0)&&(okF m 4 (s.t.fee==0)&&(okF m 5 (s.t.delay==0)&&(okF m 6 (s.t.k0==Z5)&&okF m 7 (s.t.k1==Z5))))))))&&(okF m 8 (s.reserve==0)&&(okF m 9 (s.amount==0)&&(okF m 10 (s.point==Z5)&&(okF m 11 (s.nxt==Z5)&&(okF m 12 (s.key==Z5)&&(okF m 13 (s.hash==Z5)&&(okF m 14 (s.tag==Z5)&&(okF m 15 (s.secret==Z5)&&(okF m 16 (s.id==0)&&(okF m 17 (s.number==0)&&(okF m 18 (s.index==0)&&(okF m 19 (s.expiry==0)&&(okF m 20 (s.code==0)&&okF m 21 (ByteArray.toList s.route==ByteArray.toList ByteArray.empty))))))))))))))
def nmd:Int->List Nat
 | 1=>[2,3,4,5,6,8,9,10,11]
 | 2=>[12,10,11]
 | 3=>[13,18,14]
 | 4=>[14]
 | 5=>[]
 | 6=>[16,9,13,19,21]
 | 7=>[16,15]
 | 8=>[16,20]
 | 9=>[17,14]
 | 10=>[17,15,11]
 | 11=>[17,16]
 | 12=>[]
 | 13=>[9,14]
 | 14=>[20]
 | _=>[]
structure ZjZ (s:ZA):Prop where
 a:0<=s.id
 b:s.id<=2147483647
 c:0<=s.number
 d:s.number<=2147483647
 e:0<=s.index
 f:s.index<=2147483647
 g:0<=s.expiry
 h:s.expiry<=2147483647
 i:0<=s.amount
 j:s.amount<=1125899906842624
def Q6 (t:Zo):Zo:={ t with k1:=t.k0.set 0 (wrap .u8 (t.k0.getD 0 0+1))}
structure Z95 (s:ZA):Prop where
 t:Yr (Q6 s.t)=true
 lo:0<=s.reserve
 hi:s.reserve<=s.t.cap.tdiv 10
 am:s.amount<=s.t.cap-s.t.fee-s.reserve
def kindOk (s:ZA):Int->Prop
 | 1=>Z95 s
 | 2=>True
 | 3=>s.index<24
 | 4=>True
 | 5=>True
 | 6=>0<s.amount/\0<s.expiry/\s.route.size<=512
 | 7=>True
 | 8=>1<=s.code/\s.code<=999
 | 9=>True
 | 10=>True
 | 11=>True
 | 12=>True
 | 13=>True
 | 14=>1<=s.code/\s.code<=999
 | _=>False
structure ZS (s:ZA) (k:Int):Prop where
 w:ZjZ s
 r:ZmI (nmd k) s=true
 k:kindOk s k
def chK (ok:Bool):KO:=fun o _=>match o with
 | .ret (.int .i64 0)=>ok=true
 | .ret (.int .i64 2)=>ok=false
 | _=>False
noncomputable def Z0k:Zh:=G0.withP 44 Z7g
end Go.Tk
end
