/- U: part 7 of an engine (a symbolic evaluator, proved against the model) and of the walk by it. -/
import Derived.Test.YtdfjhgjefkkkbaaGreatU6
import Derived.Test.YtdfjhgjefkkkbaaGreatRows
import Derived.ChangeOld
set_option linter.unusedVariables false
set_option linter.unusedSimpArgs false
set_option maxRecDepth 100000
set_option maxHeartbeats 0
section
namespace Go.Tk
open IntKind (i64 u8 u32 u64 wrap)
def sdN (kd am:Int) (tg:List Int):ZA:=⟨kd,⟨Z5,0,0,0,0,0,Z5,Z5⟩,0,am,Z5,Z5,Z5,Z5,tg,Z5,0,0,0,0,0,ByteArray.empty⟩
def clO (k:ClS) (of:Bool) (la:Int) (ag:Bool) (fe:Int):ClS:=⟨k.t,k.side,k.a0,k.a1,k.least,k.most,of,la,ag,fe⟩
def clD (k:ClS) (s:Int):ClS:=⟨k.t,s,k.a0,k.a1,k.least,k.most,k.offers,k.last,k.agrees,k.fee⟩
theorem VY {k:ClS} {s:Int} (h:k.side=s):clD k s=k:=by subst h;rfl
noncomputable def Zf2 (A:List Int->Int×Int) (Tg:List Int->TxS->List Int):Zh:=(G0.withF 42 (clF A)).withP 83 (Z8X A Tg)
theorem Qq:(Zf2 ZJ ZO).Ok:=Zh.withP_ok (Zh.withF_ok Zp Z8W) Z4Y
structure OfR (Tg:List Int->TxS->List Int) (k:ClS) (s fee e kd am la:Int) (tg:List Int) (of:Bool):Prop where
 he:e=Y0 k.t k.a0 k.a1 fee
 go:e=0->kd=13/\am=fee/\tg=Tg (Z91 k.t s) (txC k.t k.a0 k.a1 fee)/\of=true/\la=fee
 no:e≠0->kd=0/\am=0/\tg=Z5/\of=k.offers/\la=k.last
theorem Zie (A:List Int->Int×Int) (Tg:List Int->TxS->List Int) (k:ClS) (fee e kd am la:Int) (tg:List Int) (of:Bool) (hA:A=ZJ) (ht:k.t.All) (ha:k.a0<9223372036854775808) (hr:OfR Tg k 0 fee e kd am la tg of):
  evF (Zf2 A Tg) 20 32 [.ptr (some ⟨0,0,0,0,0⟩),.int .i64 fee] ⟨1,[(0,.flat ((clD k 0).c++[.bool true]))]⟩ (ZL 1 (.ret (.tuple [.agg (sdN kd am tg).c,.int .i64 e])) 1 [(0,.flat ((clO (clD k 0) of la k.agrees k.fee).c++[.bool true]))]):=by
 refine @Eq.mpr _ (let q1:=clD k 0;let q2:=q1.t;let q3:=q2.fund;let q4:=q2.index;let q5:=q2.cap;let q6:=q2.dust;let q7:=q2.fee;let q8:=q2.delay;let q9:=q2.k0;let q10:=q2.k1;let q11:=Zo.mk q3 q4 q5 q6 q7 q8 q9 q10;let q12:=[q1.a0,q1.a1];let q13:=sdN kd am tg;let q14:=q13.kind;let q15:=decide (0=q14);let q16:=q13.t;let q17:=Z5=q16.fund;let q18:=Z5=q16.k0;let q19:=Z5=q16.k1;let q20:=q13.amount;let q21:=decide (0=q20);let q22:=Z5=q13.point;let q23:=Z5=q13.nxt;let q24:=Z5=q13.key;let q25:=Z5=q13.hash;let q26:=q13.tag;let q27:=Z5=q26;let q28:=Z5=q13.secret;let q29:=ByteArray.empty=q13.route;let q30:=clO q1 of la k.agrees k.fee;let q31:=q30.t;let q32:=q3=q31.fund;let q33:=decide (q4=q31.index);let q34:=decide (q5=q31.cap);let q35:=decide (q6=q31.dust);let q36:=decide (q7=q31.fee);let q37:=decide (q8=q31.delay);let q38:=q9=q31.k0;let q39:=q10=q31.k1;let q40:=q12=[q30.a0,q30.a1];let q41:=decide (q1.least=q30.least);let q42:=decide (q1.most=q30.most);let q43:=q30.offers;let q44:=q30.last;let q45:=Z0 (decide (q1.agrees=q30.agrees)) (Z0 (decide (q1.fee=q30.fee)) True False) False;let q46:=q32/\Z0 q33 (Z0 q34 (Z0 q35 (Z0 q36 (Z0 q37 (q38/\q39/\q40/\Z0 q41 (Z0 q42 (Z0 (decide (q1.offers=q43)) (Z0 (decide (q1.last=q44)) q45 False) False) False) False) False) False) False) False) False;let q47:=InS.mk q3 q4 1 Z5 Z5 Z5;
 Zo.Ok q11/\
 ∃(a:Int),
 ∃(b:Int),
 let q95:=clB A q11 a b fee;let q96:=clL q11 a b fee;
 q12=[a,b]/\
 a<9223372036854775808/\
 (q95=false->Z0 q15 (q17/\q18/\q19/\Z0 q21 (q22/\q23/\q24/\q25/\q27/\q28/\q29/\Z0 (decide (2=e)) q46 False) False) False)/\
 (q95=true->
 (List.length q96=0->Z0 q15 (q17/\q18/\q19/\Z0 q21 (q22/\q23/\q24/\q25/\q27/\q28/\q29/\Z0 (decide (180=e)) q46 False) False) False)/\
 ∀(n:Nat) (L:List Zc),
 L=ZZ q96->
 n=List.length L->
 n≠0->
 Z0 (decide (0+n<=n))
 ((∀(i:Nat),i<n->true=true)/\
 ∃(t:TxS),
 (t.num=2147483647/\
 (((1:Nat)=1/\t.N=1)/\∀(i:Nat),i<1->ZT [AV.arr u8 32 q47.name,AV.int i64 q47.index,AV.int i64 q47.way,AV.arr u8 32 q47.tag,AV.arr u8 32 q47.also,AV.arr u8 32 q47.secret] 0 130 i=InS.c (t.ins i))/\
 (n=n/\t.M=n)/\
 ∀(i:Nat),
 let q99:=Y3 L i;
 i<n->[AV.int i64 q99.kind,AV.int i64 q99.amount,AV.arr u8 32 q99.owner,AV.arr u8 32 q99.other,AV.arr u8 32 q99.point,AV.arr u8 32 q99.hash,AV.int i64 q99.delay,AV.int i64 q99.expiry]=ZK.c (t.outs i))/\
 (TxS.Ok t/\List.length q9=32/\Yj A t=true)/\Z0 (decide (13=q14)) (q17/\q18/\q19/\Z0 (decide (fee=q20)) (q22/\q23/\q24/\q25/\Tg q9 t=q26/\q28/\q29/\Z0 (decide (0=e)) (q32/\Z0 q33 (Z0 q34 (Z0 q35 (Z0 q36 (Z0 q37 (q38/\q39/\q40/\Z0 q41 (Z0 q42 (Z0 (decide (true=q43)) (Z0 (decide (fee=q44)) q45 False) False) False) False) False) False) False) False) False) False) False) False)
 False)) (by kernel_rfl) ?_
 conv=>zeta
 try simp only [Z8]
 try simp only [Ze]
 try simp only [Za]
 try simp only [Zf]
 try simp only [Zg]
 try simp only [Z9]
 try simp only [Y_s]
 subst hA
 obtain ⟨he,go,no⟩:=hr
 refine ⟨ht.ok,k.a0,k.a1,rfl,ha,fun h1=> ?_,fun h1=>⟨fun h2=> ?_,fun n L hL hn hn0=> ?_⟩⟩
 ·have e2:e=2:=he.trans (Z1n (k:=k) h1)
  obtain ⟨rfl,rfl,rfl,rfl,rfl⟩:=no (by rw [e2];decide)
  and_intros<;>first|rfl|exact e2.symm
 ·have e2:e=180:=he.trans (VW (k:=k) h1 h2)
  obtain ⟨rfl,rfl,rfl,rfl,rfl⟩:=no (by rw [e2];decide)
  and_intros<;>first|rfl|exact e2.symm
 ·have e1:=VX (k:=k) h1 hL hn hn0
  have e2:e=0:=he.trans e1
  obtain ⟨rfl,rfl,rfl,rfl,rfl⟩:=go e2
  subst hn hL
  refine ⟨fun _ _=>trivial,txC k.t k.a0 k.a1 _,⟨rfl,⟨rfl,fun i hi=>Q5 _ i hi⟩,rfl,fun _ _=>rfl⟩,⟨VA ht.ok ht.fl,ht.ok.k0,Ui e1⟩, ?_⟩
  and_intros<;>first|rfl|exact e2.symm
theorem Zif (A:List Int->Int×Int) (Tg:List Int->TxS->List Int) (k:ClS) (fee e kd am la:Int) (tg:List Int) (of:Bool) (hA:A=ZJ) (ht:k.t.All) (ha:k.a0<9223372036854775808) (hr:OfR Tg k 1 fee e kd am la tg of):
  evF (Zf2 A Tg) 20 32 [.ptr (some ⟨0,0,0,0,0⟩),.int .i64 fee] ⟨1,[(0,.flat ((clD k 1).c++[.bool true]))]⟩ (ZL 1 (.ret (.tuple [.agg (sdN kd am tg).c,.int .i64 e])) 1 [(0,.flat ((clO (clD k 1) of la k.agrees k.fee).c++[.bool true]))]):=by
 refine @Eq.mpr _ (let q1:=clD k 1;let q2:=q1.t;let q3:=q2.fund;let q4:=q2.index;let q5:=q2.cap;let q6:=q2.dust;let q7:=q2.fee;let q8:=q2.delay;let q9:=q2.k0;let q10:=q2.k1;let q11:=Zo.mk q3 q4 q5 q6 q7 q8 q9 q10;let q12:=[q1.a0,q1.a1];let q13:=sdN kd am tg;let q14:=q13.kind;let q15:=decide (0=q14);let q16:=q13.t;let q17:=Z5=q16.fund;let q18:=Z5=q16.k0;let q19:=Z5=q16.k1;let q20:=q13.amount;let q21:=decide (0=q20);let q22:=Z5=q13.point;let q23:=Z5=q13.nxt;let q24:=Z5=q13.key;let q25:=Z5=q13.hash;let q26:=q13.tag;let q27:=Z5=q26;let q28:=Z5=q13.secret;let q29:=ByteArray.empty=q13.route;let q30:=clO q1 of la k.agrees k.fee;let q31:=q30.t;let q32:=q3=q31.fund;let q33:=decide (q4=q31.index);let q34:=decide (q5=q31.cap);let q35:=decide (q6=q31.dust);let q36:=decide (q7=q31.fee);let q37:=decide (q8=q31.delay);let q38:=q9=q31.k0;let q39:=q10=q31.k1;let q40:=q12=[q30.a0,q30.a1];let q41:=decide (q1.least=q30.least);let q42:=decide (q1.most=q30.most);let q43:=q30.offers;let q44:=q30.last;let q45:=Z0 (decide (q1.agrees=q30.agrees)) (Z0 (decide (q1.fee=q30.fee)) True False) False;let q46:=q32/\Z0 q33 (Z0 q34 (Z0 q35 (Z0 q36 (Z0 q37 (q38/\q39/\q40/\Z0 q41 (Z0 q42 (Z0 (decide (q1.offers=q43)) (Z0 (decide (q1.last=q44)) q45 False) False) False) False) False) False) False) False) False;let q47:=InS.mk q3 q4 1 Z5 Z5 Z5;
 Zo.Ok q11/\
 ∃(a:Int),
 ∃(b:Int),
 let q95:=clB A q11 a b fee;let q96:=clL q11 a b fee;
 q12=[a,b]/\
 a<9223372036854775808/\
 (q95=false->Z0 q15 (q17/\q18/\q19/\Z0 q21 (q22/\q23/\q24/\q25/\q27/\q28/\q29/\Z0 (decide (2=e)) q46 False) False) False)/\
 (q95=true->
 (List.length q96=0->Z0 q15 (q17/\q18/\q19/\Z0 q21 (q22/\q23/\q24/\q25/\q27/\q28/\q29/\Z0 (decide (180=e)) q46 False) False) False)/\
 ∀(n:Nat) (L:List Zc),
 L=ZZ q96->
 n=List.length L->
 n≠0->
 Z0 (decide (0+n<=n))
 ((∀(i:Nat),i<n->true=true)/\
 ∃(t:TxS),
 (t.num=2147483647/\
 (((1:Nat)=1/\t.N=1)/\∀(i:Nat),i<1->ZT [AV.arr u8 32 q47.name,AV.int i64 q47.index,AV.int i64 q47.way,AV.arr u8 32 q47.tag,AV.arr u8 32 q47.also,AV.arr u8 32 q47.secret] 0 130 i=InS.c (t.ins i))/\
 (n=n/\t.M=n)/\
 ∀(i:Nat),
 let q99:=Y3 L i;
 i<n->[AV.int i64 q99.kind,AV.int i64 q99.amount,AV.arr u8 32 q99.owner,AV.arr u8 32 q99.other,AV.arr u8 32 q99.point,AV.arr u8 32 q99.hash,AV.int i64 q99.delay,AV.int i64 q99.expiry]=ZK.c (t.outs i))/\
 (TxS.Ok t/\List.length q10=32/\Yj A t=true)/\Z0 (decide (13=q14)) (q17/\q18/\q19/\Z0 (decide (fee=q20)) (q22/\q23/\q24/\q25/\Tg q10 t=q26/\q28/\q29/\Z0 (decide (0=e)) (q32/\Z0 q33 (Z0 q34 (Z0 q35 (Z0 q36 (Z0 q37 (q38/\q39/\q40/\Z0 q41 (Z0 q42 (Z0 (decide (true=q43)) (Z0 (decide (fee=q44)) q45 False) False) False) False) False) False) False) False) False) False) False) False)
 False)) (by kernel_rfl) ?_
 conv=>zeta
 try simp only [Z8]
 try simp only [Ze]
 try simp only [Za]
 try simp only [Zf]
 try simp only [Zg]
 try simp only [Z9]
 try simp only [Y_s]
 subst hA
 obtain ⟨he,go,no⟩:=hr
 refine ⟨ht.ok,k.a0,k.a1,rfl,ha,fun h1=> ?_,fun h1=>⟨fun h2=> ?_,fun n L hL hn hn0=> ?_⟩⟩
 ·have e2:e=2:=he.trans (Z1n (k:=k) h1)
  obtain ⟨rfl,rfl,rfl,rfl,rfl⟩:=no (by rw [e2];decide)
  and_intros<;>first|rfl|exact e2.symm
 ·have e2:e=180:=he.trans (VW (k:=k) h1 h2)
  obtain ⟨rfl,rfl,rfl,rfl,rfl⟩:=no (by rw [e2];decide)
  and_intros<;>first|rfl|exact e2.symm
 ·have e1:=VX (k:=k) h1 hL hn hn0
  have e2:e=0:=he.trans e1
  obtain ⟨rfl,rfl,rfl,rfl,rfl⟩:=go e2
  subst hn hL
  refine ⟨fun _ _=>trivial,txC k.t k.a0 k.a1 _,⟨rfl,⟨rfl,fun i hi=>Q5 _ i hi⟩,rfl,fun _ _=>rfl⟩,⟨VA ht.ok ht.fl,ht.ok.k1,Ui e1⟩, ?_⟩
  and_intros<;>first|rfl|exact e2.symm
inductive Wd (cs:List AV) (k:ClS):Prop
 | mk:cs=k.c++[.bool true]->Wd cs k
structure VB (k:ClS):Prop where
 t:k.t.All
 a:k.a0<9223372036854775808
 s:k.side=0\/k.side=1
theorem Zf3 {k:ClS} (hk:VB k) (fee:Int):(Y0 k.t k.a0 k.a1 fee=0->Spec PP 32 [.ptr (some ⟨0,0,0,0,0⟩),.int .i64 fee] ⟨1,[(0,.flat (k.c++[.bool true]))]⟩ (.ret (.tuple [.agg (sdN 13 fee (Xc ZO k fee k.side)).c,.int .i64 0])) 1 [(0,.flat ((clO k true fee k.agrees k.fee).c++[.bool true]))])/\
  (Y0 k.t k.a0 k.a1 fee≠0->Spec PP 32 [.ptr (some ⟨0,0,0,0,0⟩),.int .i64 fee] ⟨1,[(0,.flat (k.c++[.bool true]))]⟩ (.ret (.tuple [.agg (sdN 0 0 Z5).c,.int .i64 (Y0 k.t k.a0 k.a1 fee)])) 1 [(0,.flat (k.c++[.bool true]))]):=by
 obtain ⟨ht,ha,hs⟩:=hk
 refine ⟨fun he=> ?_,fun he=> ?_⟩
 ·rw [Z0R he]
  rcases hs with hs|hs
  ·have hv:=Zie ZJ ZO k fee 0 13 fee fee (ZO (Z91 k.t 0) (txC k.t k.a0 k.a1 fee)) true rfl ht ha ⟨he.symm,fun _=>⟨rfl,rfl,rfl,rfl,rfl⟩,fun h=>absurd rfl h⟩
   rw [VY hs] at hv
   rw [hs]
   exact .evM Qq hv
  ·have hv:=Zif ZJ ZO k fee 0 13 fee fee (ZO (Z91 k.t 1) (txC k.t k.a0 k.a1 fee)) true rfl ht ha ⟨he.symm,fun _=>⟨rfl,rfl,rfl,rfl,rfl⟩,fun h=>absurd rfl h⟩
   rw [VY hs] at hv
   rw [hs]
   exact .evM Qq hv
 ·rcases hs with hs|hs
  ·have hv:=Zie ZJ ZO k fee (Y0 k.t k.a0 k.a1 fee) 0 0 k.last Z5 k.offers rfl ht ha ⟨rfl,fun h=>absurd h he,fun _=>⟨rfl,rfl,rfl,rfl,rfl⟩⟩
   rw [VY hs] at hv
   exact .evM Qq hv
  ·have hv:=Zif ZJ ZO k fee (Y0 k.t k.a0 k.a1 fee) 0 0 k.last Z5 k.offers rfl ht ha ⟨rfl,fun h=>absurd h he,fun _=>⟨rfl,rfl,rfl,rfl,rfl⟩⟩
   rw [VY hs] at hv
   exact .evM Qq hv
inductive Z1V (cs:List AV) (s:ZA):Prop
 | mk:cs=s.c->Z1V cs s
open Classical in
noncomputable def Z3Z (s:ZA):Bool:=decide (ZS s s.kind)
theorem Z0S {s:ZA}:Z3Z s=true↔ZS s s.kind:=by unfold Z3Z;simp
def ZhC (SB:ZA->Bool):ZG:=fun args _ K=>match args with
 | [.agg cs]=>∃s,Z1V cs s/\s.Len/\(SB s=true->K (.int .i64 0))/\(SB s=false->K (.int .i64 2))
 | _=>False
structure HR where
 e:Int
 kd:Int
 am:Int
 tg:List Int
 sy:Bool
 of:Bool
 la:Int
 ag:Bool
 fe:Int
def noR (k:ClS) (e:Int):HR:=⟨e,0,0,Z5,false,k.offers,k.last,k.agrees,k.fee⟩
def Wo (SB:ZA->Bool) (M:Int->Int->Int) (Tg:List Int->TxS->List Int) (k:ClS) (s:ZA):HR:=
 if SB s=false then noR k 2 else if s.kind≠13 then noR k 210 else if k.agrees=true then noR k 250
 else if Y0 k.t k.a0 k.a1 s.amount≠0 then noR k (Y0 k.t k.a0 k.a1 s.amount)
 else if Xc Tg k s.amount (1-k.side)≠s.tag then noR k 221
 else if k.offers=true/\k.last=s.amount then ⟨0,0,0,Z5,false,k.offers,k.last,true,s.amount⟩
 else if k.least<=s.amount/\s.amount<=k.most then ⟨0,13,s.amount,Xc Tg k s.amount k.side,true,true,s.amount,true,s.amount⟩
 else if k.offers=true/\Xt M k s.amount=k.last then noR k 252
 else if Y0 k.t k.a0 k.a1 (Xt M k s.amount)≠0 then noR k (Y0 k.t k.a0 k.a1 (Xt M k s.amount))
 else ⟨0,13,Xt M k s.amount,Xc Tg k (Xt M k s.amount) k.side,true,true,Xt M k s.amount,k.agrees,k.fee⟩
def h2E (Tg:List Int->TxS->List Int) (k:ClS) (s:ZA):Int:=if Y0 k.t k.a0 k.a1 s.amount=0 then (if Xc Tg k s.amount (1-k.side)=s.tag then 0 else 221) else Y0 k.t k.a0 k.a1 s.amount
theorem Z1o {Tg:List Int->TxS->List Int} {k:ClS} {s:ZA} {m:Int} (h:Y0 k.t k.a0 k.a1 s.amount=m) (hm:m≠0):h2E Tg k s=m:=by
 unfold h2E
 rw [h,if_neg hm]
theorem Z96 {Tg:List Int->TxS->List Int} {k:ClS} {s:ZA} (h:Y0 k.t k.a0 k.a1 s.amount=0):h2E Tg k s=if Xc Tg k s.amount (1-k.side)=s.tag then 0 else 221:=by
 unfold h2E
 rw [if_pos h]
theorem Zoj (A:List Int->Int×Int) (Tg:List Int->TxS->List Int) (k:ClS) (s:ZA) (e:Int) (hA:A=ZJ) (ht:k.t.All) (ha:k.a0<9223372036854775808) (hl:s.Len) (hT:∀a t,(Tg a t).length=32) (he:e=h2E Tg (clD k 0) s):
  evF (Zf2 A Tg) 20 37 [.ptr (some ⟨1,0,0,0,0⟩),.ptr (some ⟨2,0,0,0,0⟩)] ⟨3,[(0,.flat ((clD k 0).c++[.bool true])),(1,.flat [.ptr (some ⟨0,0,0,0,0⟩)]),(2,.flat s.c)]⟩ (ZL 3 (.ret (.int .i64 e)) 3 [(0,.flat ((clD k 0).c++[.bool true])),(1,.flat [.ptr (some ⟨0,0,0,0,0⟩)]),(2,.flat s.c)]):=by
 refine @Eq.mpr _ (let q1:=clD k 0;let q2:=q1.t;let q3:=q2.fund;let q4:=q2.index;let q5:=q2.cap;let q6:=q2.dust;let q7:=q2.fee;let q8:=q2.delay;let q9:=q2.k0;let q10:=q2.k1;let q11:=Zo.mk q3 q4 q5 q6 q7 q8 q9 q10;let q12:=[q1.a0,q1.a1];let q13:=s.amount;let q14:=q1.least;let q15:=q1.most;let q16:=q1.offers;let q17:=q1.last;let q18:=q1.agrees;let q19:=q1.fee;let q20:=s.t;let q21:=q20.fund;let q22:=q20.index;let q23:=q20.cap;let q24:=q20.dust;let q25:=q20.fee;let q26:=q20.delay;let q27:=q20.k0;let q28:=q20.k1;let q29:=s.reserve;let q30:=s.tag;let q31:=q30=q30;let q32:=( q3=q3/\
 Z0 (decide (q4=q4))
 (Z0 (decide (q5=q5))
 (Z0 (decide (q6=q6)) (Z0 (decide (q7=q7)) (Z0 (decide (q8=q8)) (q9=q9/\q10=q10/\q12=q12/\Z0 (decide (q14=q14)) (Z0 (decide (q15=q15)) (Z0 (decide (q16=q16)) (Z0 (decide (q17=q17)) (Z0 (decide (q18=q18)) (Z0 (decide (q19=q19)) (Z0 (decide (s.kind=s.kind)) (q21=q21/\Z0 (decide (q22=q22)) (Z0 (decide (q23=q23)) (Z0 (decide (q24=q24)) (Z0 (decide (q25=q25)) (Z0 (decide (q26=q26)) (q27=q27/\q28=q28/\Z0 (decide (q29=q29)) (Z0 (decide (q13=q13)) (s.point=s.point/\s.nxt=s.nxt/\s.key=s.key/\s.hash=s.hash/\q31/\s.secret=s.secret/\Z0 (decide (s.id=s.id)) (Z0 (decide (s.number=s.number)) (Z0 (decide (s.index=s.index)) (Z0 (decide (s.expiry=s.expiry)) (Z0 (decide (s.code=s.code)) (s.route=s.route/\True) False) False) False) False) False) False) False) False) False) False) False) False) False) False) False) False) False) False) False) False) False) False) False)
 False);let q33:=InS.mk q3 q4 1 Z5 Z5 Z5;
 Zo.Ok q11/\
 ∃(a:Int),
 ∃(b:Int),
 let q67:=clB A q11 a b q13;let q68:=clL q11 a b q13;
 q12=[a,b]/\
 a<9223372036854775808/\
 (q67=false->Z0 (decide (2=e)) q32 False)/\
 (q67=true->
 (List.length q68=0->Z0 (decide (180=e)) q32 False)/\
 ∀(n:Nat) (L:List Zc),
 L=ZZ q68->
 n=List.length L->
 n≠0->
 Z0 (decide (0+n<=n))
 ((∀(i:Nat),i<n->true=true)/\
 ∃(t:TxS),
 (t.num=2147483647/\
 (((1:Nat)=1/\t.N=1)/\∀(i:Nat),i<1->ZT [AV.arr u8 32 q33.name,AV.int i64 q33.index,AV.int i64 q33.way,AV.arr u8 32 q33.tag,AV.arr u8 32 q33.also,AV.arr u8 32 q33.secret] 0 130 i=InS.c (t.ins i))/\
 (n=n/\t.M=n)/\
 ∀(i:Nat),
 let q71:=Y3 L i;
 i<n->[AV.int i64 q71.kind,AV.int i64 q71.amount,AV.arr u8 32 q71.owner,AV.arr u8 32 q71.other,AV.arr u8 32 q71.point,AV.arr u8 32 q71.hash,AV.int i64 q71.delay,AV.int i64 q71.expiry]=ZK.c (t.outs i))/\
 (TxS.Ok t/\List.length q10=32/\Yj A t=true)/\q31/\Z0 (decide (List.length (Tg q10 t)=32/\List.length q30=32)) (Z0 (Tg q10 t==q30) (Z0 (decide (0=e)) q32 False) (Z0 (decide (221=e)) q32 False)) False)
 False)) (by kernel_rfl) ?_
 conv=>zeta
 try simp only [Z8]
 try simp only [Ze]
 try simp only [Za]
 try simp only [Zf]
 try simp only [Zg]
 try simp only [Z9]
 try simp only [Y_s]
 subst hA
 have hg:=fun (m:Int) (hm:h2E Tg (clD k 0) s=m)=>he.trans hm
 refine ⟨ht.ok,k.a0,k.a1,rfl,ha,fun h1=> ?_,fun h1=>⟨fun h2=> ?_,fun n L hL hn hn0=> ?_⟩⟩
 ·have e1:=Z1n (k:=k) h1
  have e2:=hg 2 (Z1o (k:=clD k 0) e1 (by decide))
  and_intros<;>first|rfl|exact e2.symm
 ·have e1:=VW (k:=k) h1 h2
  have e2:=hg 180 (Z1o (k:=clD k 0) e1 (by decide))
  and_intros<;>first|rfl|exact e2.symm
 ·have e1:=VX (k:=k) h1 hL hn hn0
  subst hn hL
  have hv:Xc Tg (clD k 0) s.amount (1-(clD k 0).side)=Tg k.t.k1 (txC k.t k.a0 k.a1 s.amount):=Z0R (k:=k) (sd:=1) e1
  refine ⟨fun _ _=>trivial,txC k.t k.a0 k.a1 s.amount,⟨rfl,⟨rfl,fun i hi=>Q5 _ i hi⟩,rfl,fun _ _=>rfl⟩,⟨VA ht.ok ht.fl,ht.ok.k1,Ui e1⟩, ?_⟩
  have e2:=he.trans (Z96 (Tg:=Tg) (k:=clD k 0) e1)
  rw [hv] at e2
  refine ⟨⟨hT _ _,hl.h7⟩,fun h=> ?_,fun h=> ?_⟩
  ·have h:Tg k.t.k1 (txC k.t k.a0 k.a1 s.amount)=s.tag:=beq_iff_eq.1 h
   rw [if_pos h] at e2
   and_intros<;>first|rfl|exact e2.symm
  ·have h:¬Tg k.t.k1 (txC k.t k.a0 k.a1 s.amount)=s.tag:=beq_eq_false_iff_ne.1 h
   rw [if_neg h] at e2
   and_intros<;>first|rfl|exact e2.symm
theorem Zok (A:List Int->Int×Int) (Tg:List Int->TxS->List Int) (k:ClS) (s:ZA) (e:Int) (hA:A=ZJ) (ht:k.t.All) (ha:k.a0<9223372036854775808) (hl:s.Len) (hT:∀a t,(Tg a t).length=32) (he:e=h2E Tg (clD k 1) s):
  evF (Zf2 A Tg) 20 37 [.ptr (some ⟨1,0,0,0,0⟩),.ptr (some ⟨2,0,0,0,0⟩)] ⟨3,[(0,.flat ((clD k 1).c++[.bool true])),(1,.flat [.ptr (some ⟨0,0,0,0,0⟩)]),(2,.flat s.c)]⟩ (ZL 3 (.ret (.int .i64 e)) 3 [(0,.flat ((clD k 1).c++[.bool true])),(1,.flat [.ptr (some ⟨0,0,0,0,0⟩)]),(2,.flat s.c)]):=by
 refine @Eq.mpr _ (let q1:=clD k 1;let q2:=q1.t;let q3:=q2.fund;let q4:=q2.index;let q5:=q2.cap;let q6:=q2.dust;let q7:=q2.fee;let q8:=q2.delay;let q9:=q2.k0;let q10:=q2.k1;let q11:=Zo.mk q3 q4 q5 q6 q7 q8 q9 q10;let q12:=[q1.a0,q1.a1];let q13:=s.amount;let q14:=q1.least;let q15:=q1.most;let q16:=q1.offers;let q17:=q1.last;let q18:=q1.agrees;let q19:=q1.fee;let q20:=s.t;let q21:=q20.fund;let q22:=q20.index;let q23:=q20.cap;let q24:=q20.dust;let q25:=q20.fee;let q26:=q20.delay;let q27:=q20.k0;let q28:=q20.k1;let q29:=s.reserve;let q30:=s.tag;let q31:=q30=q30;let q32:=( q3=q3/\
 Z0 (decide (q4=q4))
 (Z0 (decide (q5=q5))
 (Z0 (decide (q6=q6)) (Z0 (decide (q7=q7)) (Z0 (decide (q8=q8)) (q9=q9/\q10=q10/\q12=q12/\Z0 (decide (q14=q14)) (Z0 (decide (q15=q15)) (Z0 (decide (q16=q16)) (Z0 (decide (q17=q17)) (Z0 (decide (q18=q18)) (Z0 (decide (q19=q19)) (Z0 (decide (s.kind=s.kind)) (q21=q21/\Z0 (decide (q22=q22)) (Z0 (decide (q23=q23)) (Z0 (decide (q24=q24)) (Z0 (decide (q25=q25)) (Z0 (decide (q26=q26)) (q27=q27/\q28=q28/\Z0 (decide (q29=q29)) (Z0 (decide (q13=q13)) (s.point=s.point/\s.nxt=s.nxt/\s.key=s.key/\s.hash=s.hash/\q31/\s.secret=s.secret/\Z0 (decide (s.id=s.id)) (Z0 (decide (s.number=s.number)) (Z0 (decide (s.index=s.index)) (Z0 (decide (s.expiry=s.expiry)) (Z0 (decide (s.code=s.code)) (s.route=s.route/\True) False) False) False) False) False) False) False) False) False) False) False) False) False) False) False) False) False) False) False) False) False) False) False)
 False);let q33:=InS.mk q3 q4 1 Z5 Z5 Z5;
 Zo.Ok q11/\
 ∃(a:Int),
 ∃(b:Int),
 let q67:=clB A q11 a b q13;let q68:=clL q11 a b q13;
 q12=[a,b]/\
 a<9223372036854775808/\
 (q67=false->Z0 (decide (2=e)) q32 False)/\
 (q67=true->
 (List.length q68=0->Z0 (decide (180=e)) q32 False)/\
 ∀(n:Nat) (L:List Zc),
 L=ZZ q68->
 n=List.length L->
 n≠0->
 Z0 (decide (0+n<=n))
 ((∀(i:Nat),i<n->true=true)/\
 ∃(t:TxS),
 (t.num=2147483647/\
 (((1:Nat)=1/\t.N=1)/\∀(i:Nat),i<1->ZT [AV.arr u8 32 q33.name,AV.int i64 q33.index,AV.int i64 q33.way,AV.arr u8 32 q33.tag,AV.arr u8 32 q33.also,AV.arr u8 32 q33.secret] 0 130 i=InS.c (t.ins i))/\
 (n=n/\t.M=n)/\
 ∀(i:Nat),
 let q71:=Y3 L i;
 i<n->[AV.int i64 q71.kind,AV.int i64 q71.amount,AV.arr u8 32 q71.owner,AV.arr u8 32 q71.other,AV.arr u8 32 q71.point,AV.arr u8 32 q71.hash,AV.int i64 q71.delay,AV.int i64 q71.expiry]=ZK.c (t.outs i))/\
 (TxS.Ok t/\List.length q9=32/\Yj A t=true)/\q31/\Z0 (decide (List.length (Tg q9 t)=32/\List.length q30=32)) (Z0 (Tg q9 t==q30) (Z0 (decide (0=e)) q32 False) (Z0 (decide (221=e)) q32 False)) False)
 False)) (by kernel_rfl) ?_
 conv=>zeta
 try simp only [Z8]
 try simp only [Ze]
 try simp only [Za]
 try simp only [Zf]
 try simp only [Zg]
 try simp only [Z9]
 try simp only [Y_s]
 subst hA
 have hg:=fun (m:Int) (hm:h2E Tg (clD k 1) s=m)=>he.trans hm
 refine ⟨ht.ok,k.a0,k.a1,rfl,ha,fun h1=> ?_,fun h1=>⟨fun h2=> ?_,fun n L hL hn hn0=> ?_⟩⟩
 ·have e1:=Z1n (k:=k) h1
  have e2:=hg 2 (Z1o (k:=clD k 1) e1 (by decide))
  and_intros<;>first|rfl|exact e2.symm
 ·have e1:=VW (k:=k) h1 h2
  have e2:=hg 180 (Z1o (k:=clD k 1) e1 (by decide))
  and_intros<;>first|rfl|exact e2.symm
 ·have e1:=VX (k:=k) h1 hL hn hn0
  subst hn hL
  have hv:Xc Tg (clD k 1) s.amount (1-(clD k 1).side)=Tg k.t.k0 (txC k.t k.a0 k.a1 s.amount):=Z0R (k:=k) (sd:=0) e1
  refine ⟨fun _ _=>trivial,txC k.t k.a0 k.a1 s.amount,⟨rfl,⟨rfl,fun i hi=>Q5 _ i hi⟩,rfl,fun _ _=>rfl⟩,⟨VA ht.ok ht.fl,ht.ok.k0,Ui e1⟩, ?_⟩
  have e2:=he.trans (Z96 (Tg:=Tg) (k:=clD k 1) e1)
  rw [hv] at e2
  refine ⟨⟨hT _ _,hl.h7⟩,fun h=> ?_,fun h=> ?_⟩
  ·have h:Tg k.t.k0 (txC k.t k.a0 k.a1 s.amount)=s.tag:=beq_iff_eq.1 h
   rw [if_pos h] at e2
   and_intros<;>first|rfl|exact e2.symm
  ·have h:¬Tg k.t.k0 (txC k.t k.a0 k.a1 s.amount)=s.tag:=beq_eq_false_iff_ne.1 h
   rw [if_neg h] at e2
   and_intros<;>first|rfl|exact e2.symm
def h2S (Tg:List Int->TxS->List Int):ZR:=fun args h K=>match args with
 | [.ptr (some ⟨a,0,0,0,0⟩),.ptr (some ⟨b,0,0,0,0⟩)]=>match h.get a with
  | some (.flat [.ptr (some ⟨x,0,0,0,0⟩)])=>frA [x,a,b] h 40 args fun Bs aa=>match Bs,aa with
   | [.flat cs,.flat [.ptr (some ⟨0,0,0,0,0⟩)],.flat ss],[.ptr (some ⟨1,0,0,0,0⟩),.ptr (some ⟨2,0,0,0,0⟩)]=>∃k s,Wd cs k/\Z1V ss s/\VB k/\s.Len/\
    (Y0 k.t k.a0 k.a1 s.amount=2->K (.ret (.int .i64 2)) ⟨h.next,(x,.flat cs)::(a,.flat [.ptr (some ⟨x,0,0,0,0⟩)])::(b,.flat ss)::Y9 (Y9 (Y9 h.bs x) a) b⟩)/\
    (Y0 k.t k.a0 k.a1 s.amount=180->K (.ret (.int .i64 180)) ⟨h.next,(x,.flat cs)::(a,.flat [.ptr (some ⟨x,0,0,0,0⟩)])::(b,.flat ss)::Y9 (Y9 (Y9 h.bs x) a) b⟩)/\
    (Y0 k.t k.a0 k.a1 s.amount=0->(Xc Tg k s.amount (1-k.side)≠s.tag->K (.ret (.int .i64 221)) ⟨h.next,(x,.flat cs)::(a,.flat [.ptr (some ⟨x,0,0,0,0⟩)])::(b,.flat ss)::Y9 (Y9 (Y9 h.bs x) a) b⟩)/\
     (Xc Tg k s.amount (1-k.side)=s.tag->K (.ret (.int .i64 0)) ⟨h.next,(x,.flat cs)::(a,.flat [.ptr (some ⟨x,0,0,0,0⟩)])::(b,.flat ss)::Y9 (Y9 (Y9 h.bs x) a) b⟩))
   | _,_=>False
  | _=>False
 | _=>False
theorem Zat (t:Zo) (a b fee:Int):Y0 t a b fee=2\/Y0 t a b fee=180\/Y0 t a b fee=0:=by
 unfold Y0
 split
 ·split
  ·exact .inr (.inl rfl)
  ·exact .inr (.inr rfl)
 ·exact .inl rfl
theorem ZhD {k:ClS} {s:ZA} (hk:VB k) (hl:s.Len):Spec PP 37 [.ptr (some ⟨1,0,0,0,0⟩),.ptr (some ⟨2,0,0,0,0⟩)] ⟨3,[(0,.flat (k.c++[.bool true])),(1,.flat [.ptr (some ⟨0,0,0,0,0⟩)]),(2,.flat s.c)]⟩ (.ret (.int .i64 (h2E ZO k s))) 3 [(0,.flat (k.c++[.bool true])),(1,.flat [.ptr (some ⟨0,0,0,0,0⟩)]),(2,.flat s.c)]:=by
 obtain ⟨ht,ha,hs|hs⟩:=hk
 ·have hv:=Zoj ZJ ZO k s _ rfl ht ha hl Qn rfl
  rw [VY hs] at hv
  exact .evM Qq hv
 ·have hv:=Zok ZJ ZO k s _ rfl ht ha hl Qn rfl
  rw [VY hs] at hv
  exact .evM Qq hv
theorem Zk0 (args:List AV) (h:Z6) (K:KO) (hl:h2S ZO args h K):Zi PP 37 args h K:=by
 unfold h2S at hl
 split at hl
 ·split at hl
  ·refine Spec.fsumm hl fun Bs a hlen hK0=> ?_
   split at hK0
   ·obtain ⟨k,s,⟨rfl⟩,⟨rfl⟩,hk,hs,k1,k2,k3⟩:=hK0
    refine ⟨_,_,_,_,_,ZhD hk hs,by simp,.ret _ _ rfl,.cons _ _ _ _ _ _ rfl (.flat _ _ rfl) (.cons _ _ _ _ _ _ rfl (.flat _ _ rfl) (.cons _ _ _ _ _ _ rfl (.flat _ _ rfl) .nil)), ?_⟩
    rcases Zat k.t k.a0 k.a1 s.amount with e|e|e
    ·rw [Z1o e (by decide)];exact k1 e
    ·rw [Z1o e (by decide)];exact k2 e
    ·rw [Z96 e]
     split
     ·exact (k3 e).2 (by assumption)
     ·exact (k3 e).1 (by assumption)
   ·exact hK0.elim
  ·exact hl.elim
 ·exact hl.elim
def sdC (kd am:Int) (tg:List Int):List AV:=[.int .i64 kd,.arr .u8 32 Z5,.int .i64 0,.int .i64 0,.int .i64 0,.int .i64 0,.int .i64 0,.arr .u8 32 Z5,.arr .u8 32 Z5,.int .i64 0,.int .i64 am,.arr .u8 32 Z5,.arr .u8 32 Z5,.arr .u8 32 Z5,.arr .u8 32 Z5,.arr .u8 32 tg,.arr .u8 32 Z5,.int .i64 0,.int .i64 0,.int .i64 0,.int .i64 0,.int .i64 0,.str ByteArray.empty]
def ZmJ (cs:List AV) (fee:Int):List AV:=match cs with
 | [a,b,c,d,e,f,g,h,i,j,k,l,_,_,o,p,q]=>[a,b,c,d,e,f,g,h,i,j,k,l,.bool true,.int .i64 fee,o,p,q]
 | _=>[]
def ZhE (Tg:List Int->TxS->List Int):ZR:=fun args h K=>match args with
 | [.ptr (some ⟨x,0,0,0,0⟩),_]=>frA [x] h 20 args fun Bs a=>match Bs,a with
  | [.flat cs],[.ptr (some ⟨0,0,0,0,0⟩),.int .i64 fee]=>∃k,Wd cs k/\VB k/\
   (Y0 k.t k.a0 k.a1 fee=0->K (.ret (.tuple [.agg (sdC 13 fee (Xc Tg k fee k.side)),.int .i64 0])) ⟨h.next,(x,.flat (ZmJ cs fee))::Y9 h.bs x⟩)/\
   (Y0 k.t k.a0 k.a1 fee=2->K (.ret (.tuple [.agg (sdC 0 0 Z5),.int .i64 2])) ⟨h.next,(x,.flat cs)::Y9 h.bs x⟩)/\
   (Y0 k.t k.a0 k.a1 fee=180->K (.ret (.tuple [.agg (sdC 0 0 Z5),.int .i64 180])) ⟨h.next,(x,.flat cs)::Y9 h.bs x⟩)
  | _,_=>False
 | _=>False
theorem Zau (args:List AV) (h:Z6) (K:KO) (hl:ZhE ZO args h K):Zi PP 32 args h K:=by
 unfold ZhE at hl
 split at hl
 ·refine Spec.fsumm hl fun Bs a hlen hK0=> ?_
  split at hK0
  ·rename_i cs fee
   obtain ⟨k,⟨rfl⟩,hk,h1,h2,h3⟩:=hK0
   have hs:=Zf3 hk fee
   rcases Zat k.t k.a0 k.a1 fee with e|e|e
   ·exact ⟨_,_,_,_,_,(hs.2 (by rw [e];decide)),by simp,.ret _ _ rfl,.cons _ _ _ _ _ _ rfl (.flat _ _ rfl) .nil,e▸h2 e⟩
   ·exact ⟨_,_,_,_,_,(hs.2 (by rw [e];decide)),by simp,.ret _ _ rfl,.cons _ _ _ _ _ _ rfl (.flat _ _ rfl) .nil,e▸h3 e⟩
   ·exact ⟨_,_,_,_,_,hs.1 e,by simp,.ret _ _ rfl,.cons _ _ _ _ _ _ rfl (.flat _ _ rfl) .nil,h1 e⟩
  ·exact hK0.elim
 ·exact hl.elim
def clP (k:ClS) (s:Int) (o g:Bool):ClS:=⟨k.t,s,k.a0,k.a1,k.least,k.most,o,k.last,g,k.fee⟩
def clT (k:ClS) (sd:Int) (o:Bool) (la:Int) (g:Bool) (fe:Int):List AV:=[.arr .u8 32 k.t.fund,.int .i64 k.t.index,.int .i64 k.t.cap,.int .i64 k.t.dust,.int .i64 k.t.fee,.int .i64 k.t.delay,.arr .u8 32 k.t.k0,.arr .u8 32 k.t.k1,.int .i64 sd,.arr .i64 2 [k.a0,k.a1],.int .i64 k.least,.int .i64 k.most,.bool o,.int .i64 la,.bool g,.int .i64 fe,.bool true]
theorem ndT {P:Prop} [Decidable P] (h:(!decide P)=true):¬P:=by simpa using h
theorem ndF {P:Prop} [Decidable P] (h:(!decide P)=false):P:=by simpa using h
structure HdC (SB:ZA->Bool) (k:ClS) (s:ZA):Prop where
 S:SB s=true
 K:s.kind=13
 A:k.agrees=false
structure HtC (SB:ZA->Bool) (Tg:List Int->TxS->List Int) (k:ClS) (s:ZA):Prop where
 h:HdC SB k s
 E:Y0 k.t k.a0 k.a1 s.amount=0
 T:Xc Tg k s.amount (1-k.side)=s.tag
theorem Z67 {SB:ZA->Bool} {M:Int->Int->Int} {Tg:List Int->TxS->List Int} {k:ClS} {s:ZA} (h:SB s=false):Wo SB M Tg k s=noR k 2:=by unfold Wo;rw [if_pos h]
theorem Z2g {SB:ZA->Bool} {M:Int->Int->Int} {Tg:List Int->TxS->List Int} {k:ClS} {s:ZA} (h:SB s=true) (h2:s.kind≠13):Wo SB M Tg k s=noR k 210:=by
 unfold Wo;rw [if_neg (by rw [h];decide),if_pos h2]
theorem ZhF {SB:ZA->Bool} {M:Int->Int->Int} {Tg:List Int->TxS->List Int} {k:ClS} {s:ZA} (h:SB s=true) (h2:s.kind=13) (h3:k.agrees=true):Wo SB M Tg k s=noR k 250:=by
 unfold Wo;rw [if_neg (by rw [h];decide),if_neg (fun h=>h h2),if_pos h3]
theorem Z2h {SB:ZA->Bool} {M:Int->Int->Int} {Tg:List Int->TxS->List Int} {k:ClS} {s:ZA} {m:Int} (h:HdC SB k s) (he:Y0 k.t k.a0 k.a1 s.amount=m) (hm:m≠0):Wo SB M Tg k s=noR k m:=by
 unfold Wo;rw [if_neg (by rw [h.S];decide),if_neg (fun q=>q h.K),if_neg (by rw [h.A];decide),if_pos (by rw [he];exact hm),he]
theorem Z68 {SB:ZA->Bool} {M:Int->Int->Int} {Tg:List Int->TxS->List Int} {k:ClS} {s:ZA} (h:HdC SB k s) (he:Y0 k.t k.a0 k.a1 s.amount=0) (ht:Xc Tg k s.amount (1-k.side)≠s.tag):Wo SB M Tg k s=noR k 221:=by
 unfold Wo;rw [if_neg (by rw [h.S];decide),if_neg (fun q=>q h.K),if_neg (by rw [h.A];decide),if_neg (fun q=>q he),if_pos ht]
theorem Zav {SB:ZA->Bool} {M:Int->Int->Int} {Tg:List Int->TxS->List Int} {k:ClS} {s:ZA} (h:HtC SB Tg k s):Wo SB M Tg k s=if k.offers=true/\k.last=s.amount then ⟨0,0,0,Z5,false,k.offers,k.last,true,s.amount⟩
  else if k.least<=s.amount/\s.amount<=k.most then ⟨0,13,s.amount,Xc Tg k s.amount k.side,true,true,s.amount,true,s.amount⟩
  else if k.offers=true/\Xt M k s.amount=k.last then noR k 252
  else if Y0 k.t k.a0 k.a1 (Xt M k s.amount)≠0 then noR k (Y0 k.t k.a0 k.a1 (Xt M k s.amount))
  else ⟨0,13,Xt M k s.amount,Xc Tg k (Xt M k s.amount) k.side,true,true,Xt M k s.amount,k.agrees,k.fee⟩:=by
 obtain ⟨h,he,ht⟩:=h
 unfold Wo;rw [if_neg (by rw [h.S];decide),if_neg (fun q=>q h.K),if_neg (by rw [h.A];decide),if_neg (fun q=>q he),if_neg (fun q=>q ht)]
theorem Zf4 {n a b:Int} (h:a<=b):a<=Z51 n a b/\Z51 n a b<=b:=by unfold Z51;omega
theorem Z7u {M:Int->Int->Int} {k:ClS} {x:Int} (h:k.least<=k.most):k.least<=Xt M k x/\Xt M k x<=k.most:=Zf4 h
noncomputable def ZhG (SB:ZA->Bool) (M:Int->Int->Int) (Tg:List Int->TxS->List Int):Zh:=((((G0.withP 35 (ZhC SB)).withF 37 (h2S Tg)).withF 32 (ZhE Tg)).withP 40 inQ).withP 41 (nxS M)
theorem Zol (SB:ZA->Bool) (M:Int->Int->Int) (Tg:List Int->TxS->List Int) (k:ClS) (s:ZA) (sd e kd am:Int) (tg:List Int) (sy of:Bool) (la:Int) (ag:Bool) (fe:Int) (hk:YD (clP k sd false false)) (ht:k.t.All) (hl:s.Len) (hSB:SB s=true->0<=s.amount/\s.amount<=1125899906842624) (hR:Wo SB M Tg (clP k sd false false) s=⟨e,kd,am,tg,sy,of,la,ag,fe⟩):
  evF (ZhG SB M Tg) 20 13 [.ptr (some ⟨0,0,0,0,0⟩),.agg s.c] ⟨1,[(0,.flat (clT k sd false k.last false k.fee))]⟩ (ZL 1 (.ret (.tuple [.agg (sdC kd am tg),.bool sy,.int .i64 e])) 1 [(0,.flat (clT k sd of la ag fe))]):=by
 refine @Eq.mpr _ (let q1:=s.t;let q2:=s.amount;let q3:=k.t;let q4:=q3.fund;let q5:=AV.arr u8 32 q4;let q6:=q3.index;let q7:=AV.int i64 q6;let q8:=q3.cap;let q9:=AV.int i64 q8;let q10:=q3.dust;let q11:=AV.int i64 q10;let q12:=q3.fee;let q13:=AV.int i64 q12;let q14:=q3.delay;let q15:=AV.int i64 q14;let q16:=q3.k0;let q17:=AV.arr u8 32 q16;let q18:=q3.k1;let q19:=AV.arr u8 32 q18;let q20:=[k.a0,k.a1];let q21:=AV.arr i64 2 q20;let q22:=k.least;let q23:=AV.int i64 q22;let q24:=k.most;let q25:=AV.int i64 q24;let q26:=AV.bool false;let q27:=AV.int i64 k.last;let q28:=AV.int i64 k.fee;let q29:=[q5,q7,q9,q11,q13,q15,q17,q19,AV.int i64 sd,q21,q23,q25,q26,q27,q26,q28,AV.bool true];let q30:=decide (0=kd);let q31:=decide (0=am);let q32:=decide (false=sy);let q33:=q4=q4;let q34:=decide (q6=q6);let q35:=decide (q8=q8);let q36:=decide (q10=q10);let q37:=decide (q12=q12);let q38:=decide (q14=q14);let q39:=q16=q16;let q40:=q18=q18;let q41:=decide (sd=sd);let q42:=q20=q20;let q43:=decide (q22=q22);let q44:=decide (q24=q24);let q45:=Z0 (decide (false=ag)) (Z0 (decide (k.fee=fe)) True False) False;let q46:=q33/\Z0 q34 (Z0 q35 (Z0 q36 (Z0 q37 (Z0 q38 (q39/\q40/\Z0 q41 (q42/\Z0 q43 (Z0 q44 (Z0 (decide (false=of)) (Z0 (decide (k.last=la)) q45 False) False) False) False) False) False) False) False) False) False;let q47:=Z0 q30 (Z5=Z5/\Z5=Z5/\Z5=Z5/\Z0 q31 (Z5=Z5/\Z5=Z5/\Z5=Z5/\Z5=Z5/\Z5=tg/\Z5=Z5/\ByteArray.empty=ByteArray.empty/\Z0 q32 (Z0 (decide (2=e)) q46 False) False) False) False;let q48:=Z0 q30 (Z5=Z5/\Z5=Z5/\Z5=Z5/\Z0 q31 (Z5=Z5/\Z5=Z5/\Z5=Z5/\Z5=Z5/\Z5=tg/\Z5=Z5/\ByteArray.empty=ByteArray.empty/\Z0 q32 (Z0 (decide (180=e)) q46 False) False) False) False;let q49:=decide (13=kd);let q50:=decide (true=sy);let q51:=decide (0=e);let q52:=decide (true=of);let q53:=decide (true=ag);let q54:=decide (q2=am);let q55:=decide (q2=la);
 ∃(s_1:ZA),
 let q111:=[AV.int i64 s.kind,AV.arr u8 32 q1.fund,AV.int i64 q1.index,AV.int i64 q1.cap,AV.int i64 q1.dust,AV.int i64 q1.fee,AV.int i64 q1.delay,AV.arr u8 32 q1.k0,AV.arr u8 32 q1.k1,AV.int i64 s.reserve,AV.int i64 q2,AV.arr u8 32 s.point,AV.arr u8 32 s.nxt,AV.arr u8 32 s.key,AV.arr u8 32 s.hash,AV.arr u8 32 s.tag,AV.arr u8 32 s.secret,AV.int i64 s.id,AV.int i64 s.number,AV.int i64 s.index,AV.int i64 s.expiry,AV.int i64 s.code,AV.str s.route];
 Z1V q111 s_1/\
 ZA.Len s_1/\
 (SB s_1=true->
 Z0 (s.kind==13)
 (∃(k:ClS),
 ∃(s:ZA),
 let q113:=Y0 k.t k.a0 k.a1 s.amount;let q114:=Xc Tg k s.amount (1-k.side);
 Wd q29 k/\
 Z1V q111 s/\
 VB k/\
 ZA.Len s/\
 (q113=2->q47)/\
 (q113=180->q48)/\
 (q113=0->
 (q114≠s.tag->Z0 q30 (Z5=Z5/\Z5=Z5/\Z5=Z5/\Z0 q31 (Z5=Z5/\Z5=Z5/\Z5=Z5/\Z5=Z5/\Z5=tg/\Z5=Z5/\ByteArray.empty=ByteArray.empty/\Z0 q32 (Z0 (decide (221=e)) q46 False) False) False) False)/\
 (q114=s.tag->
 Z0 (!decide (q22<=q2/\q2<=q24))
 (∃(k:ClS),
 let q117:=Xt M k q2;let q118:=decide (q117=am);let q119:=decide (q117=la);
 XJ [q5,q7,q9,q11,q13,q15,q17,q19,AV.int i64 sd,q21,q23,q25,q26,q27,q26,q28] k/\
 ((0<=k.last/\k.last<=1125899906842624)/\0<=q2/\q2<=1125899906842624)/\
 ∃(k:ClS),
 let q123:=Y0 k.t k.a0 k.a1 q117;let q124:=Xc Tg k q117 k.side=tg;
 Wd q29 k/\
 VB k/\
 (q123=0->Z0 (q117==q2) (Z0 q49 (Z5=Z5/\Z5=Z5/\Z5=Z5/\Z0 q118 (Z5=Z5/\Z5=Z5/\Z5=Z5/\Z5=Z5/\q124/\Z5=Z5/\ByteArray.empty=ByteArray.empty/\Z0 q50 (Z0 q51 (q33/\Z0 q34 (Z0 q35 (Z0 q36 (Z0 q37 (Z0 q38 (q39/\q40/\Z0 q41 (q42/\Z0 q43 (Z0 q44 (Z0 q52 (Z0 q119 (Z0 q53 (Z0 (decide (q117=fe)) True False) False) False) False) False) False) False) False) False) False) False) False) False) False) False) False) (Z0 q49 (Z5=Z5/\Z5=Z5/\Z5=Z5/\Z0 q118 (Z5=Z5/\Z5=Z5/\Z5=Z5/\Z5=Z5/\q124/\Z5=Z5/\ByteArray.empty=ByteArray.empty/\Z0 q50 (Z0 q51 (q33/\Z0 q34 (Z0 q35 (Z0 q36 (Z0 q37 (Z0 q38 (q39/\q40/\Z0 q41 (q42/\Z0 q43 (Z0 q44 (Z0 q52 (Z0 q119 q45 False) False) False) False) False) False) False) False) False) False) False) False) False) False))/\
 (q123=2->q47)/\(q123=180->q48))
 (∃(k:ClS),
 let q117:=Y0 k.t k.a0 k.a1 q2;let q118:=Xc Tg k q2 k.side=tg;
 Wd q29 k/\
 VB k/\
 (q117=0->Z0 (q2==q2) (Z0 q49 (Z5=Z5/\Z5=Z5/\Z5=Z5/\Z0 q54 (Z5=Z5/\Z5=Z5/\Z5=Z5/\Z5=Z5/\q118/\Z5=Z5/\ByteArray.empty=ByteArray.empty/\Z0 q50 (Z0 q51 (q33/\Z0 q34 (Z0 q35 (Z0 q36 (Z0 q37 (Z0 q38 (q39/\q40/\Z0 q41 (q42/\Z0 q43 (Z0 q44 (Z0 q52 (Z0 q55 (Z0 q53 (Z0 (decide (q2=fe)) True False) False) False) False) False) False) False) False) False) False) False) False) False) False) False) False) (Z0 q49 (Z5=Z5/\Z5=Z5/\Z5=Z5/\Z0 q54 (Z5=Z5/\Z5=Z5/\Z5=Z5/\Z5=Z5/\q118/\Z5=Z5/\ByteArray.empty=ByteArray.empty/\Z0 q50 (Z0 q51 (q33/\Z0 q34 (Z0 q35 (Z0 q36 (Z0 q37 (Z0 q38 (q39/\q40/\Z0 q41 (q42/\Z0 q43 (Z0 q44 (Z0 q52 (Z0 q55 q45 False) False) False) False) False) False) False) False) False) False) False) False) False) False))/\
 (q117=2->q47)/\(q117=180->q48)))))
 (Z0 q30 (Z5=Z5/\Z5=Z5/\Z5=Z5/\Z0 q31 (Z5=Z5/\Z5=Z5/\Z5=Z5/\Z5=Z5/\Z5=tg/\Z5=Z5/\ByteArray.empty=ByteArray.empty/\Z0 q32 (Z0 (decide (210=e)) q46 False) False) False) False))/\
 (SB s_1=false->q47)) (by kernel_rfl) ?_
 conv=>zeta
 try simp only [Z8]
 try simp only [Ze]
 try simp only [Za]
 try simp only [Zf]
 try simp only [Zg]
 try simp only [Z9]
 try simp only [Y_s]
 have hm:=hk.made
 have hd:=Vo hm.t
 have hfe:=hk.fee_le
 have q3:=hm.a1
 have q4:=hm.sum
 have q5:=hm.lm
 have hlast:0<=(clP k sd false false).last/\(clP k sd false false).last<=1125899906842624:=by omega
 have hOff:VB (clP k sd false false):=⟨ht,by omega,hm.side⟩
 have hnx:=fun x=>Z7u (M:=M) (x:=x) hm.lm
 refine ⟨s,⟨rfl⟩,hl,fun hS=>⟨fun hK=> ?_,fun hK=> ?_⟩,fun hS=> ?_⟩
 rotate_left
 ·cases hR.symm.trans (Z2g hS (beq_eq_false_iff_ne.1 hK))
  and_intros<;>rfl
 ·cases hR.symm.trans (Z67 hS)
  and_intros<;>rfl
 have hd:HdC SB (clP k sd false false) s:=⟨hS,beq_iff_eq.1 hK,rfl⟩
 refine ⟨(clP k sd false false),s,⟨rfl⟩,⟨rfl⟩,hOff,hl,fun hE=> ?_,fun hE=> ?_,fun hE=>⟨fun hT=> ?_,fun hT=> ?_⟩⟩
 ·cases hR.symm.trans (Z2h hd hE (by decide))
  and_intros<;>rfl
 ·cases hR.symm.trans (Z2h hd hE (by decide))
  and_intros<;>rfl
 ·cases hR.symm.trans (Z68 hd hE hT)
  and_intros<;>rfl
 have hx:=hR.symm.trans (Zav ⟨hd,hE,hT⟩)
 have hno:¬((clP k sd false false).offers=true/\(clP k sd false false).last=s.amount):=fun h=>nomatch h.1
 refine ⟨fun hi=> ?_,fun hi=> ?_⟩
 ·have hi:¬((clP k sd false false).least<=s.amount/\s.amount<=(clP k sd false false).most):=ndT hi
  rw [if_neg hno,if_neg hi] at hx
  have hq2:¬((clP k sd false false).offers=true/\Xt M (clP k sd false false) s.amount=(clP k sd false false).last):=fun h=>nomatch h.1
  refine ⟨(clP k sd false false),⟨rfl⟩,⟨hlast,hSB hS⟩,(clP k sd false false),⟨rfl⟩,hOff,fun hN=>⟨fun hq=> ?_,fun _=> ?_⟩,fun hN=> ?_,fun hN=> ?_⟩
  ·have:=hnx s.amount
   rw [beq_iff_eq.1 hq] at this
   exact absurd this hi
  ·rw [if_neg hq2,if_neg (fun q=>q hN)] at hx
   cases hx
   and_intros<;>rfl
  ·rw [if_neg hq2,if_pos (by rw [hN];decide),hN] at hx
   cases hx
   and_intros<;>rfl
  ·rw [if_neg hq2,if_pos (by rw [hN];decide),hN] at hx
   cases hx
   and_intros<;>rfl
 ·have hi:(clP k sd false false).least<=s.amount/\s.amount<=(clP k sd false false).most:=ndF hi
  rw [if_neg hno,if_pos hi] at hx
  refine ⟨(clP k sd false false),⟨rfl⟩,hOff,fun hN=>⟨fun _=> ?_,fun hq=> ?_⟩,fun hN=> ?_,fun hN=> ?_⟩
  ·cases hx
   and_intros<;>rfl
  ·exact absurd rfl (beq_eq_false_iff_ne.1 hq)
  ·exact absurd (hE.symm.trans hN) (by decide)
  ·exact absurd (hE.symm.trans hN) (by decide)
theorem Zom (SB:ZA->Bool) (M:Int->Int->Int) (Tg:List Int->TxS->List Int) (k:ClS) (s:ZA) (sd e kd am:Int) (tg:List Int) (sy of:Bool) (la:Int) (ag:Bool) (fe:Int) (hk:YD (clP k sd true false)) (ht:k.t.All) (hl:s.Len) (hSB:SB s=true->0<=s.amount/\s.amount<=1125899906842624) (hR:Wo SB M Tg (clP k sd true false) s=⟨e,kd,am,tg,sy,of,la,ag,fe⟩):
  evF (ZhG SB M Tg) 20 13 [.ptr (some ⟨0,0,0,0,0⟩),.agg s.c] ⟨1,[(0,.flat (clT k sd true k.last false k.fee))]⟩ (ZL 1 (.ret (.tuple [.agg (sdC kd am tg),.bool sy,.int .i64 e])) 1 [(0,.flat (clT k sd of la ag fe))]):=by
 refine @Eq.mpr _ (let q1:=s.t;let q2:=s.amount;let q3:=k.t;let q4:=q3.fund;let q5:=AV.arr u8 32 q4;let q6:=q3.index;let q7:=AV.int i64 q6;let q8:=q3.cap;let q9:=AV.int i64 q8;let q10:=q3.dust;let q11:=AV.int i64 q10;let q12:=q3.fee;let q13:=AV.int i64 q12;let q14:=q3.delay;let q15:=AV.int i64 q14;let q16:=q3.k0;let q17:=AV.arr u8 32 q16;let q18:=q3.k1;let q19:=AV.arr u8 32 q18;let q20:=[k.a0,k.a1];let q21:=AV.arr i64 2 q20;let q22:=k.least;let q23:=AV.int i64 q22;let q24:=k.most;let q25:=AV.int i64 q24;let q26:=AV.bool true;let q27:=k.last;let q28:=AV.int i64 q27;let q29:=AV.int i64 k.fee;let q30:=[q5,q7,q9,q11,q13,q15,q17,q19,AV.int i64 sd,q21,q23,q25,q26,q28,AV.bool false,q29,q26];let q31:=decide (0=kd);let q32:=decide (0=am);let q33:=decide (false=sy);let q34:=q4=q4;let q35:=decide (q6=q6);let q36:=decide (q8=q8);let q37:=decide (q10=q10);let q38:=decide (q12=q12);let q39:=decide (q14=q14);let q40:=q16=q16;let q41:=q18=q18;let q42:=decide (sd=sd);let q43:=q20=q20;let q44:=decide (q22=q22);let q45:=decide (q24=q24);let q46:=decide (true=of);let q47:=decide (q27=la);let q48:=Z0 (decide (false=ag)) (Z0 (decide (k.fee=fe)) True False) False;let q49:=q34/\Z0 q35 (Z0 q36 (Z0 q37 (Z0 q38 (Z0 q39 (q40/\q41/\Z0 q42 (q43/\Z0 q44 (Z0 q45 (Z0 q46 (Z0 q47 q48 False) False) False) False) False) False) False) False) False) False;let q50:=Z0 q31 (Z5=Z5/\Z5=Z5/\Z5=Z5/\Z0 q32 (Z5=Z5/\Z5=Z5/\Z5=Z5/\Z5=Z5/\Z5=tg/\Z5=Z5/\ByteArray.empty=ByteArray.empty/\Z0 q33 (Z0 (decide (2=e)) q49 False) False) False) False;let q51:=Z0 q31 (Z5=Z5/\Z5=Z5/\Z5=Z5/\Z0 q32 (Z5=Z5/\Z5=Z5/\Z5=Z5/\Z5=Z5/\Z5=tg/\Z5=Z5/\ByteArray.empty=ByteArray.empty/\Z0 q33 (Z0 (decide (180=e)) q49 False) False) False) False;let q52:=decide (0=e);let q53:=decide (true=ag);let q54:=Z0 q53 (Z0 (decide (q2=fe)) True False) False;let q55:=decide (13=kd);let q56:=decide (true=sy);let q57:=decide (q2=am);let q58:=decide (q2=la);
 ∃(s_1:ZA),
 let q117:=[AV.int i64 s.kind,AV.arr u8 32 q1.fund,AV.int i64 q1.index,AV.int i64 q1.cap,AV.int i64 q1.dust,AV.int i64 q1.fee,AV.int i64 q1.delay,AV.arr u8 32 q1.k0,AV.arr u8 32 q1.k1,AV.int i64 s.reserve,AV.int i64 q2,AV.arr u8 32 s.point,AV.arr u8 32 s.nxt,AV.arr u8 32 s.key,AV.arr u8 32 s.hash,AV.arr u8 32 s.tag,AV.arr u8 32 s.secret,AV.int i64 s.id,AV.int i64 s.number,AV.int i64 s.index,AV.int i64 s.expiry,AV.int i64 s.code,AV.str s.route];
 Z1V q117 s_1/\
 ZA.Len s_1/\
 (SB s_1=true->
 Z0 (s.kind==13)
 (∃(k:ClS),
 ∃(s:ZA),
 let q119:=Y0 k.t k.a0 k.a1 s.amount;let q120:=Xc Tg k s.amount (1-k.side);
 Wd q30 k/\
 Z1V q117 s/\
 VB k/\
 ZA.Len s/\
 (q119=2->q50)/\
 (q119=180->q51)/\
 (q119=0->
 (q120≠s.tag->Z0 q31 (Z5=Z5/\Z5=Z5/\Z5=Z5/\Z0 q32 (Z5=Z5/\Z5=Z5/\Z5=Z5/\Z5=Z5/\Z5=tg/\Z5=Z5/\ByteArray.empty=ByteArray.empty/\Z0 q33 (Z0 (decide (221=e)) q49 False) False) False) False)/\
 (q120=s.tag->
 Z0 (q27==q2) (Z0 q31 (Z5=Z5/\Z5=Z5/\Z5=Z5/\Z0 q32 (Z5=Z5/\Z5=Z5/\Z5=Z5/\Z5=Z5/\Z5=tg/\Z5=Z5/\ByteArray.empty=ByteArray.empty/\Z0 q33 (Z0 q52 (q34/\Z0 q35 (Z0 q36 (Z0 q37 (Z0 q38 (Z0 q39 (q40/\q41/\Z0 q42 (q43/\Z0 q44 (Z0 q45 (Z0 q46 (Z0 q47 q54 False) False) False) False) False) False) False) False) False) False) False) False) False) False)
 (Z0 (!decide (q22<=q2/\q2<=q24))
 (∃(k:ClS),
 let q123:=Xt M k q2;let q124:=decide (q123=am);let q125:=decide (q123=la);
 XJ [q5,q7,q9,q11,q13,q15,q17,q19,AV.int i64 sd,q21,q23,q25,q26,q28,AV.bool false,q29] k/\
 ((0<=k.last/\k.last<=1125899906842624)/\0<=q2/\q2<=1125899906842624)/\
 Z0 (q123==q27) (Z0 q31 (Z5=Z5/\Z5=Z5/\Z5=Z5/\Z0 q32 (Z5=Z5/\Z5=Z5/\Z5=Z5/\Z5=Z5/\Z5=tg/\Z5=Z5/\ByteArray.empty=ByteArray.empty/\Z0 q33 (Z0 (decide (252=e)) q49 False) False) False) False)
 (∃(k:ClS),
 let q129:=Y0 k.t k.a0 k.a1 q123;let q130:=Xc Tg k q123 k.side=tg;
 Wd q30 k/\
 VB k/\
 (q129=0->Z0 (q123==q2) (Z0 q55 (Z5=Z5/\Z5=Z5/\Z5=Z5/\Z0 q124 (Z5=Z5/\Z5=Z5/\Z5=Z5/\Z5=Z5/\q130/\Z5=Z5/\ByteArray.empty=ByteArray.empty/\Z0 q56 (Z0 q52 (q34/\Z0 q35 (Z0 q36 (Z0 q37 (Z0 q38 (Z0 q39 (q40/\q41/\Z0 q42 (q43/\Z0 q44 (Z0 q45 (Z0 q46 (Z0 q125 (Z0 q53 (Z0 (decide (q123=fe)) True False) False) False) False) False) False) False) False) False) False) False) False) False) False) False) False) (Z0 q55 (Z5=Z5/\Z5=Z5/\Z5=Z5/\Z0 q124 (Z5=Z5/\Z5=Z5/\Z5=Z5/\Z5=Z5/\q130/\Z5=Z5/\ByteArray.empty=ByteArray.empty/\Z0 q56 (Z0 q52 (q34/\Z0 q35 (Z0 q36 (Z0 q37 (Z0 q38 (Z0 q39 (q40/\q41/\Z0 q42 (q43/\Z0 q44 (Z0 q45 (Z0 q46 (Z0 q125 q48 False) False) False) False) False) False) False) False) False) False) False) False) False) False))/\
 (q129=2->q50)/\(q129=180->q51)))
 (∃(k:ClS),
 let q123:=Y0 k.t k.a0 k.a1 q2;let q124:=Xc Tg k q2 k.side=tg;
 Wd q30 k/\
 VB k/\(q123=0->Z0 (q2==q2) (Z0 q55 (Z5=Z5/\Z5=Z5/\Z5=Z5/\Z0 q57 (Z5=Z5/\Z5=Z5/\Z5=Z5/\Z5=Z5/\q124/\Z5=Z5/\ByteArray.empty=ByteArray.empty/\Z0 q56 (Z0 q52 (q34/\Z0 q35 (Z0 q36 (Z0 q37 (Z0 q38 (Z0 q39 (q40/\q41/\Z0 q42 (q43/\Z0 q44 (Z0 q45 (Z0 q46 (Z0 q58 q54 False) False) False) False) False) False) False) False) False) False) False) False) False) False) (Z0 q55 (Z5=Z5/\Z5=Z5/\Z5=Z5/\Z0 q57 (Z5=Z5/\Z5=Z5/\Z5=Z5/\Z5=Z5/\q124/\Z5=Z5/\ByteArray.empty=ByteArray.empty/\Z0 q56 (Z0 q52 (q34/\Z0 q35 (Z0 q36 (Z0 q37 (Z0 q38 (Z0 q39 (q40/\q41/\Z0 q42 (q43/\Z0 q44 (Z0 q45 (Z0 q46 (Z0 q58 q48 False) False) False) False) False) False) False) False) False) False) False) False) False) False))/\(q123=2->q50)/\(q123=180->q51))))))
 (Z0 q31 (Z5=Z5/\Z5=Z5/\Z5=Z5/\Z0 q32 (Z5=Z5/\Z5=Z5/\Z5=Z5/\Z5=Z5/\Z5=tg/\Z5=Z5/\ByteArray.empty=ByteArray.empty/\Z0 q33 (Z0 (decide (210=e)) q49 False) False) False) False))/\
 (SB s_1=false->q50)) (by kernel_rfl) ?_
 conv=>zeta
 try simp only [Z8]
 try simp only [Ze]
 try simp only [Za]
 try simp only [Zf]
 try simp only [Zg]
 try simp only [Z9]
 try simp only [Y_s]
 have hm:=hk.made
 have hd:=Vo hm.t
 have hfe:=hk.fee_le
 have q3:=hm.a1
 have q4:=hm.sum
 have q5:=hm.lm
 have hlast:0<=(clP k sd true false).last/\(clP k sd true false).last<=1125899906842624:=by omega
 have hOff:VB (clP k sd true false):=⟨ht,by omega,hm.side⟩
 have hnx:=fun x=>Z7u (M:=M) (x:=x) hm.lm
 refine ⟨s,⟨rfl⟩,hl,fun hS=>⟨fun hK=> ?_,fun hK=> ?_⟩,fun hS=> ?_⟩
 rotate_left
 ·cases hR.symm.trans (Z2g hS (beq_eq_false_iff_ne.1 hK))
  and_intros<;>rfl
 ·cases hR.symm.trans (Z67 hS)
  and_intros<;>rfl
 have hd:HdC SB (clP k sd true false) s:=⟨hS,beq_iff_eq.1 hK,rfl⟩
 refine ⟨(clP k sd true false),s,⟨rfl⟩,⟨rfl⟩,hOff,hl,fun hE=> ?_,fun hE=> ?_,fun hE=>⟨fun hT=> ?_,fun hT=> ?_⟩⟩
 ·cases hR.symm.trans (Z2h hd hE (by decide))
  and_intros<;>rfl
 ·cases hR.symm.trans (Z2h hd hE (by decide))
  and_intros<;>rfl
 ·cases hR.symm.trans (Z68 hd hE hT)
  and_intros<;>rfl
 have hx:=hR.symm.trans (Zav ⟨hd,hE,hT⟩)
 refine ⟨fun hlt=> ?_,fun hlt=> ?_⟩
 ·rw [if_pos (⟨rfl,beq_iff_eq.1 hlt⟩:(clP k sd true false).offers=true/\(clP k sd true false).last=s.amount)] at hx
  cases hx
  and_intros<;>rfl
 have hno:¬((clP k sd true false).offers=true/\(clP k sd true false).last=s.amount):=fun h=>beq_eq_false_iff_ne.1 hlt h.2
 refine ⟨fun hi=> ?_,fun hi=> ?_⟩
 ·have hi:¬((clP k sd true false).least<=s.amount/\s.amount<=(clP k sd true false).most):=ndT hi
  rw [if_neg hno,if_neg hi] at hx
  refine ⟨(clP k sd true false),⟨rfl⟩,⟨hlast,hSB hS⟩,fun ha=> ?_,fun ha=> ?_⟩
  ·rw [if_pos (⟨rfl,beq_iff_eq.1 ha⟩:(clP k sd true false).offers=true/\Xt M (clP k sd true false) s.amount=(clP k sd true false).last)] at hx
   cases hx
   and_intros<;>rfl
  have hq2:¬((clP k sd true false).offers=true/\Xt M (clP k sd true false) s.amount=(clP k sd true false).last):=fun h=>beq_eq_false_iff_ne.1 ha h.2
  refine ⟨(clP k sd true false),⟨rfl⟩,hOff,fun hN=>⟨fun hq=> ?_,fun _=> ?_⟩,fun hN=> ?_,fun hN=> ?_⟩
  ·have:=hnx s.amount
   rw [beq_iff_eq.1 hq] at this
   exact absurd this hi
  ·rw [if_neg hq2,if_neg (fun q=>q hN)] at hx
   cases hx
   and_intros<;>rfl
  ·rw [if_neg hq2,if_pos (by rw [hN];decide),hN] at hx
   cases hx
   and_intros<;>rfl
  ·rw [if_neg hq2,if_pos (by rw [hN];decide),hN] at hx
   cases hx
   and_intros<;>rfl
 ·have hi:(clP k sd true false).least<=s.amount/\s.amount<=(clP k sd true false).most:=ndF hi
  rw [if_neg hno,if_pos hi] at hx
  refine ⟨(clP k sd true false),⟨rfl⟩,hOff,fun hN=>⟨fun _=> ?_,fun hq=> ?_⟩,fun hN=> ?_,fun hN=> ?_⟩
  ·cases hx
   and_intros<;>rfl
  ·exact absurd rfl (beq_eq_false_iff_ne.1 hq)
  ·exact absurd (hE.symm.trans hN) (by decide)
  ·exact absurd (hE.symm.trans hN) (by decide)
theorem Zon (SB:ZA->Bool) (M:Int->Int->Int) (Tg:List Int->TxS->List Int) (k:ClS) (s:ZA) (sd e kd am:Int) (of0:Bool) (tg:List Int) (sy of:Bool) (la:Int) (ag:Bool) (fe:Int) (hl:s.Len) (hR:Wo SB M Tg (clP k sd of0 true) s=⟨e,kd,am,tg,sy,of,la,ag,fe⟩):
  evF (ZhG SB M Tg) 20 13 [.ptr (some ⟨0,0,0,0,0⟩),.agg s.c] ⟨1,[(0,.flat (clT k sd of0 k.last true k.fee))]⟩ (ZL 1 (.ret (.tuple [.agg (sdC kd am tg),.bool sy,.int .i64 e])) 1 [(0,.flat (clT k sd of la ag fe))]):=by
 refine @Eq.mpr _ (let q1:=s.t;let q2:=decide (0=kd);let q3:=decide (0=am);let q4:=decide (false=sy);let q5:=k.t;let q6:=q5.fund;let q7:=q5.index;let q8:=q5.cap;let q9:=q5.dust;let q10:=q5.fee;let q11:=q5.delay;let q12:=q5.k0;let q13:=q5.k1;let q14:=[k.a0,k.a1];let q15:=q6=q6/\Z0 (decide (q7=q7)) (Z0 (decide (q8=q8)) (Z0 (decide (q9=q9)) (Z0 (decide (q10=q10)) (Z0 (decide (q11=q11)) (q12=q12/\q13=q13/\Z0 (decide (sd=sd)) (q14=q14/\Z0 (decide (k.least=k.least)) (Z0 (decide (k.most=k.most)) (Z0 (decide (of0=of)) (Z0 (decide (k.last=la)) (Z0 (decide (true=ag)) (Z0 (decide (k.fee=fe)) True False) False) False) False) False) False) False) False) False) False) False) False;
 ∃(s_1:ZA),
 Z1V [AV.int i64 s.kind,AV.arr u8 32 q1.fund,AV.int i64 q1.index,AV.int i64 q1.cap,AV.int i64 q1.dust,AV.int i64 q1.fee,AV.int i64 q1.delay,AV.arr u8 32 q1.k0,AV.arr u8 32 q1.k1,AV.int i64 s.reserve,AV.int i64 s.amount,AV.arr u8 32 s.point,AV.arr u8 32 s.nxt,AV.arr u8 32 s.key,AV.arr u8 32 s.hash,AV.arr u8 32 s.tag,AV.arr u8 32 s.secret,AV.int i64 s.id,AV.int i64 s.number,AV.int i64 s.index,AV.int i64 s.expiry,AV.int i64 s.code,AV.str s.route] s_1/\
 ZA.Len s_1/\(SB s_1=true->Z0 (s.kind==13) (Z0 q2 (Z5=Z5/\Z5=Z5/\Z5=Z5/\Z0 q3 (Z5=Z5/\Z5=Z5/\Z5=Z5/\Z5=Z5/\Z5=tg/\Z5=Z5/\ByteArray.empty=ByteArray.empty/\Z0 q4 (Z0 (decide (250=e)) q15 False) False) False) False) (Z0 q2 (Z5=Z5/\Z5=Z5/\Z5=Z5/\Z0 q3 (Z5=Z5/\Z5=Z5/\Z5=Z5/\Z5=Z5/\Z5=tg/\Z5=Z5/\ByteArray.empty=ByteArray.empty/\Z0 q4 (Z0 (decide (210=e)) q15 False) False) False) False))/\(SB s_1=false->Z0 q2 (Z5=Z5/\Z5=Z5/\Z5=Z5/\Z0 q3 (Z5=Z5/\Z5=Z5/\Z5=Z5/\Z5=Z5/\Z5=tg/\Z5=Z5/\ByteArray.empty=ByteArray.empty/\Z0 q4 (Z0 (decide (2=e)) q15 False) False) False) False)) (by kernel_rfl) ?_
 conv=>zeta
 try simp only [Z8]
 try simp only [Ze]
 try simp only [Za]
 try simp only [Zf]
 try simp only [Zg]
 try simp only [Z9]
 try simp only [Y_s]
 refine ⟨s,⟨rfl⟩,hl,fun hS=>⟨fun hK=> ?_,fun hK=> ?_⟩,fun hS=> ?_⟩
 ·cases hR.symm.trans (ZhF hS (beq_iff_eq.1 hK) rfl)
  and_intros<;>rfl
 ·cases hR.symm.trans (Z2g hS (beq_eq_false_iff_ne.1 hK))
  and_intros<;>rfl
 ·cases hR.symm.trans (Z67 hS)
  and_intros<;>rfl
theorem Z54 {SB:ZA->Bool} {k:ClS} {s:ZA} (hc:∀args h K,ZhC SB args h K->Zi PP 35 args h fun o h'=>∃v,o=.ret v/\h'=h/\K v) (hk:YD k) (ht:k.t.All) (hl:s.Len) (hSB:SB s=true->0<=s.amount/\s.amount<=1125899906842624) {r:HR} (hR:Wo SB Qx ZO k s=r):
  Spec PP 13 [.ptr (some ⟨0,0,0,0,0⟩),.agg s.c] ⟨1,[(0,.flat (clT k k.side k.offers k.last k.agrees k.fee))]⟩ (.ret (.tuple [.agg (sdC r.kd r.am r.tg),.bool r.sy,.int .i64 r.e])) 1 [(0,.flat (clT k k.side r.of r.la r.ag r.fe))]:=by
 have hE:(ZhG SB Qx ZO).Ok:=Zh.withP_ok (Zh.withP_ok (Zh.withF_ok (Zh.withF_ok (Zh.withP_ok Zp hc) Zk0) Zau) Zf1) ZjY
 obtain ⟨e,kd,am,tg,sy,of,la,ag,fe⟩:=r
 obtain ⟨t,sd,a0,a1,le,mo,o0,l0,g0,f0⟩:=k
 cases g0 with
 | true=>exact .evM hE (Zon SB Qx ZO ⟨t,sd,a0,a1,le,mo,o0,l0,true,f0⟩ s sd e kd am o0 tg sy of la ag fe hl hR)
 | false=>cases o0 with
  | true=>exact .evM hE (Zom SB Qx ZO ⟨t,sd,a0,a1,le,mo,true,l0,false,f0⟩ s sd e kd am tg sy of la ag fe hk ht hl hSB hR)
  | false=>exact .evM hE (Zol SB Qx ZO ⟨t,sd,a0,a1,le,mo,false,l0,false,f0⟩ s sd e kd am tg sy of la ag fe hk ht hl hSB hR)
def clU (k:ClS) (sd:Int) (o:Bool) (la:Int) (g:Bool) (fe:Int):List AV:=[.arr .u8 32 k.t.fund,.int .i64 k.t.index,.int .i64 k.t.cap,.int .i64 k.t.dust,.int .i64 k.t.fee,.int .i64 k.t.delay,.arr .u8 32 k.t.k0,.arr .u8 32 k.t.k1,.int .i64 sd,.arr .i64 2 [k.a0,k.a1],.int .i64 k.least,.int .i64 k.most,.bool o,.int .i64 la,.bool g,.int .i64 fe]
def slB (b n:Nat):AV:=.nslice ⟨b,0,0,0,0⟩ 1 n n
noncomputable def ZmK (W:Int->List Int):Zh:=G0.withF 137 (Z71 W)
theorem ZhH:(ZmK Zs).Ok:=Zh.withF_ok Zp Z3o
theorem ZmL (W:Int->List Int) (xs ys:List Int) (N L:Nat) (n:Int) (hN:xs.length=N) (hB:N<80000000000000) (hW:W=Zs) (hn:0<=n) (hy:ys=xs++W n) (hL:L=ys.length):
  evF (ZmK W) 20 72 [slB 0 N,.int .i64 n] ⟨1,[(0,.ints .u8 xs)]⟩ (ZL 1 (.ret (slB 1 L)) 2 [(1,.ints .u8 ys)]):=by
 refine @Eq.mpr _ (let q1:=List.length (W n);let q2:=xs++List.take q1 (ZW 0 (W n));let q3:=List.length q2;
 Z0 (decide (0<=n)) (Z0 (decide (u8=u8/\0+q1<=q1)) (Z0 (decide (u8=u8/\List.length xs=N)) (Z0 (decide (q3*1<=140737488355328)) (Z0 (decide (q3=L)) (Z0 (decide (L<=q3)) (q2=ys/\True) False) False) False) False) False) False) (by kernel_rfl) ?_
 conv=>zeta
 try simp only [Z8]
 try simp only [Ze]
 try simp only [Za]
 try simp only [Zf]
 try simp only [Zg]
 try simp only [Z9]
 try simp only [Y_s]
 subst hW hN hy hL
 have e:List.take (Zs n).length (ZW 0 (Zs n))=Zs n:=by rw [Y4,List.drop_zero,List.take_length]
 have:=ZN n
 rw [e]
 simp only [List.length_append]
 repeat' apply And.intro
 all_goals first|trivial|omega|rfl
theorem ZmM (xs hh ys:List Int) (N L:Nat) (hN:xs.length=N) (hB:N<80000000000000) (hl:hh.length=32) (hy:ys=xs++hh) (hL:L=ys.length):
  evF G0 20 71 [slB 0 N,.agg [.arr .u8 32 hh]] ⟨1,[(0,.ints .u8 xs)]⟩ (ZL 1 (.ret (slB 1 L)) 2 [(1,.ints .u8 ys)]):=by
 refine @Eq.mpr _ (let q1:=xs++hh;let q2:=List.length q1;
 Z0 (decide (u8=u8/\List.length hh=32)) (Z0 (decide (u8=u8/\List.length xs=N)) (Z0 (decide (q2*1<=140737488355328)) (Z0 (decide (q2=L)) (Z0 (decide (L<=q2)) (q1=ys/\True) False) False) False) False) False) (by kernel_rfl) ?_
 conv=>zeta
 try simp only [Z8]
 try simp only [Ze]
 try simp only [Za]
 try simp only [Zf]
 try simp only [Zg]
 try simp only [Z9]
 try simp only [Y_s]
 subst hN hy hL
 simp only [List.length_append]
 repeat' apply And.intro
 all_goals first|trivial|omega|rfl
theorem ZmN (hh:List Int) (hl:hh.length=32):
  evF G0 20 71 [.nilslice,.agg [.arr .u8 32 hh]] ⟨0,[]⟩ (ZL 0 (.ret (slB 0 32)) 1 [(0,.ints .u8 hh)]):=by
 refine @Eq.mpr _ (let q1:=[]++hh;let q2:=List.length q1;
 Z0 (decide (u8=u8/\List.length hh=32)) (Z0 (decide (q2*1<=140737488355328)) (Z0 (decide (q2=32)) (Z0 (decide (32<=q2)) (q1=hh/\True) False) False) False) False) (by kernel_rfl) ?_
 conv=>zeta
 try simp only [Z8]
 try simp only [Ze]
 try simp only [Za]
 try simp only [Zf]
 try simp only [Zg]
 try simp only [Z9]
 try simp only [Y_s]
 simp only [List.nil_append]
 repeat' apply And.intro
 all_goals first|trivial|omega|rfl
def ZmO (h:Z6) (b:Nat) (ys:List Int):Z6:=⟨h.next+1,(h.next,.ints .u8 ys)::Y9 h.bs b⟩
def Zk1 (W:Int->List Int) (B:Nat):ZR:=fun args h K=>match args with
 | [.nslice ⟨b,0,0,0,0⟩ 1 _ _,_]=>frA [b] h 20 args fun Bs a=>match Bs,a with
  | [.ints .u8 xs],[.nslice ⟨0,0,0,0,0⟩ 1 N M,.int .i64 n]=>Zt (xs.length=N/\M=N/\N<B/\0<=n) (K (.ret (slB h.next (xs++W n).length)) (ZmO h b (xs++W n)))
  | _,_=>False
 | _=>False
theorem ZhI (args:List AV) (h:Z6) (K:KO) (hl:Zk1 Zs 80000000000000 args h K):Zi PP 72 args h K:=by
 unfold Zk1 at hl
 split at hl
 ·refine Spec.fsumm hl fun Bs a hlen hK0=> ?_
  split at hK0
  ·obtain ⟨⟨h1,rfl,h2,h3⟩,hK⟩:=Zb hK0
   exact ⟨_,_,_,_,_,.evM ZhH (ZmL _ _ _ _ _ _ h1 h2 rfl h3 rfl rfl),by simp,.ret _ _ rfl,.cons _ _ _ _ _ _ rfl (.ints _ _) .nil,hK⟩
  ·exact hK0.elim
 ·exact hl.elim
def Zf5 (B:Nat):ZR:=fun args h K=>match args with
 | [.nslice ⟨b,0,0,0,0⟩ 1 _ _,_]=>frA [b] h 20 args fun Bs a=>match Bs,a with
  | [.ints .u8 xs],[.nslice ⟨0,0,0,0,0⟩ 1 N M,.agg [.arr .u8 32 hh]]=>Zt (xs.length=N/\M=N/\N<B/\hh.length=32) (K (.ret (slB h.next (xs++hh).length)) (ZmO h b (xs++hh)))
  | _,_=>False
 | [.nilslice,_]=>frA [] h 20 args fun Bs a=>match Bs,a with
  | [],[.nilslice,.agg [.arr .u8 32 hh]]=>Zt (hh.length=32) (K (.ret (slB h.next 32)) ⟨h.next+1,(h.next,.ints .u8 hh)::h.bs⟩)
  | _,_=>False
 | _=>False
theorem Zf6 (args:List AV) (h:Z6) (K:KO) (hl:Zf5 80000000000000 args h K):Zi PP 71 args h K:=by
 unfold Zf5 at hl
 split at hl
 ·refine Spec.fsumm hl fun Bs a hlen hK0=> ?_
  split at hK0
  ·obtain ⟨⟨h1,rfl,h2,h3⟩,hK⟩:=Zb hK0
   exact ⟨_,_,_,_,_,.evM Zp (ZmM _ _ _ _ _ h1 h2 h3 rfl rfl),by simp,.ret _ _ rfl,.cons _ _ _ _ _ _ rfl (.ints _ _) .nil,hK⟩
  ·exact hK0.elim
 ·refine Spec.fsumm hl fun Bs a hlen hK0=> ?_
  split at hK0
  ·obtain ⟨h3,hK⟩:=Zb hK0
   exact ⟨_,_,_,_,_,.evM Zp (ZmN _ h3),Nat.zero_le _,.ret _ _ rfl,.cons _ _ _ _ _ _ rfl (.ints _ _) .nil,hK⟩
  ·exact hK0.elim
 ·exact hl.elim
theorem ZmP (b:Bool) (ys:List Int) (hy:ys=[cond b 1 0]):
  evF G0 20 73 [.bool b] ⟨0,[]⟩ (ZL 0 (.ret (slB 0 1)) 1 [(0,.ints .u8 ys)]):=by
 refine @Eq.mpr _ (Z0 b ([(1:Int)]=ys/\True) ([(0:Int)]=ys/\True)) (by kernel_rfl) ?_
 try simp only [Z8]
 try simp only [Ze]
 try simp only [Za]
 try simp only [Zf]
 try simp only [Zg]
 try simp only [Z9]
 try simp only [Y_s]
 subst hy
 cases b<;>simp
def Z97:ZR:=fun args h K=>match args with
 | [.bool b]=>K (.ret (slB h.next 1)) ⟨h.next+1,(h.next,.ints .u8 [cond b 1 0])::h.bs⟩
 | _=>False
theorem ZbY (args:List AV) (h:Z6) (K:KO) (hl:Z97 args h K):Zi PP 73 args h K:=by
 unfold Z97 at hl
 split at hl
 ·exact (Zy.evM Zp (ZmP _ _ rfl)).calls (fun E w rs he hr=>by
   cases hr with
   | cons v r vs rs h1 h2=>cases h2;exact .cons _ _ _ _ (h1.plain rfl) .nil) rfl ⟨Nat.one_pos,.ints _ _,trivial⟩ hl
 ·exact hl.elim
noncomputable def Zig (W:Int->List Int) (B:Nat):Zh:=((G0.withF 72 (Zk1 W B)).withF 71 (Zf5 B)).withF 73 Z97
theorem Zf7:(Zig Zs 80000000000000).Ok:=Zh.withF_ok (Zh.withF_ok (Zh.withF_ok Zp ZhI) Zf6) ZbY
structure RwC (k:ClS):Prop where
 n:ZeB 4611686018427387904 k
 f:k.t.fund.length=32
 h0:k.t.k0.length=32
 h1:k.t.k1.length=32
theorem ZmQ (W:Int->List Int) (B n:Nat) (k:ClS) (ys:List Int) (hk:RwC k) (hy:ys=XX W k) (hn:n=ys.length) (h9:∀v,(W v).length<=9) (hB:1000<B) (hB2:B<90000000000000):
  evF (Zig W B) 20 28 [.agg (clU k k.side k.offers k.last k.agrees k.fee)] ⟨0,[]⟩ (ZL 0 (.ret (slB 0 n)) 1 [(0,.ints .u8 ys)]):=by
 refine @Eq.mpr _ (let q1:=k.t;let q2:=q1.fund;let q3:=q1.k1;let q4:=q3=q3;let q5:=q1.k0;let q6:=q5=q5;let q7:=q1.delay;let q8:=decide (q7=q7);let q9:=q1.fee;let q10:=decide (q9=q9);let q11:=q1.dust;let q12:=decide (q11=q11);let q13:=q1.cap;let q14:=decide (q13=q13);let q15:=q1.index;let q16:=q2++W q15;let q17:=List.length q16;let q18:=q16++W q13;let q19:=List.length q18;let q20:=q18++W q11;let q21:=List.length q20;let q22:=q20++W q9;let q23:=List.length q22;let q24:=q22++W q7;let q25:=List.length q24;let q26:=q24++q5;let q27:=List.length q26;let q28:=q26++q3;let q29:=List.length q28;let q30:=k.most;let q31:=decide (q30=q30);let q32:=k.least;let q33:=decide (q32=q32);let q34:=k.a1;let q35:=decide (q34=q34);let q36:=k.a0;let q37:=q28++W k.side;let q38:=List.length q37;let q39:=q37++W q36;let q40:=List.length q39;let q41:=q39++W q34;let q42:=List.length q41;let q43:=q41++W q32;let q44:=List.length q43;let q45:=k.last;let q46:=decide (q45=q45);let q47:=q43++W q30;let q48:=List.length q47;let q49:=q47++[bif k.offers then 1 else 0];let q50:=List.length q49;let q51:=k.fee;let q52:=decide (q51=q51);let q53:=q49++W q45;let q54:=List.length q53;let q55:=q53++[bif k.agrees then 1 else 0];let q56:=List.length q55;let q57:=q55++W q51;let q58:=List.length q57;
 Z0 (decide (List.length q2=32))
 (q4/\
 q6/\
 Z0 q8
 (Z0 q10
 (Z0 q12
 (Z0 q14
 (Z0 (decide (q15=q15))
 (Z0 (decide (List.length q2=32/\(32:Nat)=32/\32<B/\0<=q15))
 (q4/\
 q6/\
 Z0 q8
 (Z0 q10
 (Z0 q12
 (Z0 q14
 (Z0 (decide (q17=q17/\q17=q17/\q17<B/\0<=q13))
 (q4/\
 q6/\
 Z0 q8
 (Z0 q10
 (Z0 q12
 (Z0 (decide (q19=q19/\q19=q19/\q19<B/\0<=q11))
 (q4/\
 q6/\
 Z0 q8
 (Z0 q10
 (Z0 (decide (q21=q21/\q21=q21/\q21<B/\0<=q9))
 (q4/\
 q6/\
 Z0 q8
 (Z0 (decide (q23=q23/\q23=q23/\q23<B/\0<=q7))
 (q4/\
 q6/\
 Z0 (decide (q25=q25/\q25=q25/\q25<B/\List.length q5=32))
 (q4/\
 Z0 (decide (q27=q27/\q27=q27/\q27<B/\List.length q3=32))
 (Z0 (decide (q29=q29/\q29=q29/\q29<B/\0<=k.side))
 (Z0 q31 (Z0 q33 (Z0 q35 (Z0 (decide (q36=q36)) (Z0 (decide (q38=q38/\q38=q38/\q38<B/\0<=q36)) (Z0 q31 (Z0 q33 (Z0 q35 (Z0 (decide (q40=q40/\q40=q40/\q40<B/\0<=q34)) (Z0 q31 (Z0 q33 (Z0 (decide (q42=q42/\q42=q42/\q42<B/\0<=q32)) (Z0 q31 (Z0 (decide (q44=q44/\q44=q44/\q44<B/\0<=q30)) (Z0 q46 (Z0 (decide (u8=u8/\q48=q48)) (Z0 (decide (q50*1<=140737488355328)) (Z0 q46 (Z0 (decide (q50=q50/\q50=q50/\q50<B/\0<=q45)) (Z0 q52 (Z0 (decide (u8=u8/\q54=q54)) (Z0 (decide (q56*1<=140737488355328)) (Z0 q52 (Z0 (decide (q56=q56/\q56=q56/\q56<B/\0<=q51)) (Z0 (decide (q58=n)) (Z0 (decide (n<=q58)) (q57=ys/\True) False) False) False) False) False) False) False) False) False) False) False) False) False) False) False) False) False) False) False) False) False) False) False) False) False) False) False)
 False)
 False)
 False)
 False)
 False)
 False)
 False)
 False)
 False)
 False)
 False)
 False)
 False)
 False)
 False)
 False)
 False)
 False)
 False)
 False)
 False)
 False)
 False) (by kernel_rfl) ?_
 conv=>zeta
 try simp only [Z8]
 try simp only [Ze]
 try simp only [Za]
 try simp only [Zf]
 try simp only [Zg]
 try simp only [Z9]
 try simp only [Y_s]
 obtain ⟨⟨⟨a1,b1⟩,⟨a2,b2⟩,⟨a3,b3⟩,⟨a4,b4⟩,⟨a5,b5⟩,⟨a6,b6⟩,⟨a7,b7⟩,⟨a8,b8⟩,⟨a9,b9⟩,⟨a10,b10⟩,⟨a11,b11⟩,⟨a12,b12⟩⟩,hf,h0,h1⟩:=hk
 have l1:=h9 k.t.index
 have l2:=h9 k.t.cap
 have l3:=h9 k.t.dust
 have l4:=h9 k.t.fee
 have l5:=h9 k.t.delay
 have l6:=h9 k.side
 have l7:=h9 k.a0
 have l8:=h9 k.a1
 have l9:=h9 k.least
 have l10:=h9 k.most
 have l11:=h9 k.last
 have l12:=h9 k.fee
 subst hy hn
 repeat' first
  | with_reducible rfl
  | exact True.intro
  | with_reducible assumption
  | with_reducible refine And.intro ?_ ?_
 all_goals first
  | ((try simp only [List.length_append,List.length_cons,List.length_nil,hf,h0,h1]);omega)
  | rfl
  | (show List.length (XX W k)<=_;exact Nat.le_refl _)
theorem Zaw (v:Int):(Zs v).length<=9:=(ZN v).2
def Zf8 (W:Int->List Int):ZR:=fun args h K=>match args with
 | [.ptr (some ⟨x,0,0,0,0⟩)]=>frA [x] h 40 args fun Bs a=>match Bs,a with
  | [.flat cs],[.ptr (some ⟨0,0,0,0,0⟩)]=>∃k,Wd cs k/\RwC k/\K (.ret (.nslice ⟨h.next,0,0,0,0⟩ 1 (XX W k).length (XX W k).length)) ⟨h.next+1,(x,.flat cs)::(h.next,.ints .u8 (XX W k))::Y9 h.bs x⟩
  | _,_=>False
 | _=>False
theorem Zf9 (args:List AV) (h:Z6) (K:KO) (hl:Zf8 Zs args h K):Zi PP 21 args h K:=by
 unfold Zf8 at hl
 split at hl
 ·refine Spec.fsumm hl fun Bs a hlen hK0=> ?_
  split at hK0
  ·obtain ⟨k,⟨rfl⟩,⟨h1,h2,h3,h4⟩,hK⟩:=hK0
   exact ⟨_,_,_,_,_,.evM Zhq (Zmn Zs _ _ _ k _ h1 h2 h3 h4 rfl rfl Zaw (by decide) (by decide)),by simp,.ret _ _ rfl,.cons _ _ _ _ _ _ rfl (.flat _ _ rfl) (.cons _ _ _ _ _ _ rfl (.ints _ _) .nil),hK⟩
  ·exact hK0.elim
 ·exact hl.elim
def Zih (W:Int->List Int):ZR:=fun args h K=>ZH none h true 40 args fun a=>match a with
 | [.agg cs]=>∃k,XJ cs k/\RwC k/\K (.ret (.nslice ⟨h.next,0,0,0,0⟩ 1 (XX W k).length (XX W k).length)) ⟨h.next+1,(h.next,.ints .u8 (XX W k))::h.bs⟩
 | _=>False
theorem Zfa (args:List AV) (h:Z6) (K:KO) (hl:Zih Zs args h K):Zi PP 28 args h K:=by
 refine Zy.fsumm (d:=40) (Zm _ _ _ _ _ hl fun a ha=> ?_)
 split at ha
 ·obtain ⟨k,⟨rfl⟩,h1,hK⟩:=ha
  exact ⟨_,_,_,_,.evM Zf7 (ZmQ Zs _ _ k _ h1 rfl rfl Zaw (by decide) (by decide)),rfl,⟨Nat.one_pos,.ints _ _,trivial⟩,hK⟩
 ·exact ha.elim
def k0C (t:Zo) (sd a b lo hi:Int):ClS:=⟨t,sd,a,b,lo,hi,false,0,false,0⟩
noncomputable def Zk2 (A:List Int->Int×Int):Zh:=G0.withP 30 (ZbX A)
theorem Zoo (A:List Int->Int×Int) (t:Zo) (sd a b lo hi:Int) (ht:t.Ok) (hm:Yg A (k0C t sd a b lo hi)=true):
  evF (Zk2 A) 20 9 [.agg t.c,.int .i64 sd,.agg [.arr .i64 2 [a,b]],.int .i64 lo,.int .i64 hi] ⟨0,[]⟩ (clK true (k0C t sd a b lo hi)):=by
 refine @Eq.mpr _ (let q1:=[a,b];let q2:=k0C t sd a b lo hi;let q3:=q2.t;
 ∃(k:ClS),XJ [AV.arr u8 32 t.fund,AV.int i64 t.index,AV.int i64 t.cap,AV.int i64 t.dust,AV.int i64 t.fee,AV.int i64 t.delay,AV.arr u8 32 t.k0,AV.arr u8 32 t.k1,AV.int i64 sd,AV.arr i64 2 q1,AV.int i64 lo,AV.int i64 hi,AV.bool false,AV.int i64 0,AV.bool false,AV.int i64 0] k/\Zo.Ok k.t/\Z0 (!Yg A k) False (t.fund=q3.fund/\Z0 (decide (t.index=q3.index)) (Z0 (decide (t.cap=q3.cap)) (Z0 (decide (t.dust=q3.dust)) (Z0 (decide (t.fee=q3.fee)) (Z0 (decide (t.delay=q3.delay)) (t.k0=q3.k0/\t.k1=q3.k1/\Z0 (decide (sd=q2.side)) (q1=[q2.a0,q2.a1]/\Z0 (decide (lo=q2.least)) (Z0 (decide (hi=q2.most)) True False) False) False) False) False) False) False) False)) (by kernel_rfl) ?_
 conv=>zeta
 try simp only [Z8]
 try simp only [Ze]
 try simp only [Za]
 try simp only [Zf]
 try simp only [Zg]
 try simp only [Z9]
 try simp only [Y_s]
 refine ⟨k0C t sd a b lo hi,⟨rfl⟩,ht,by rw [hm];rfl, ?_⟩
 and_intros<;>rfl
theorem Zop (A:List Int->Int×Int) (t:Zo) (sd a b lo hi:Int) (ht:t.Ok) (hm:Yg A (k0C t sd a b lo hi)=false):
  evF (Zk2 A) 20 9 [.agg t.c,.int .i64 sd,.agg [.arr .i64 2 [a,b]],.int .i64 lo,.int .i64 hi] ⟨0,[]⟩ (ZL 0 (.ret (.tuple [.ptr none,.int .i64 2])) 0 []):=by
 refine @Eq.mpr _ (∃(k:ClS),XJ [AV.arr u8 32 t.fund,AV.int i64 t.index,AV.int i64 t.cap,AV.int i64 t.dust,AV.int i64 t.fee,AV.int i64 t.delay,AV.arr u8 32 t.k0,AV.arr u8 32 t.k1,AV.int i64 sd,AV.arr i64 2 [a,b],AV.int i64 lo,AV.int i64 hi,AV.bool false,AV.int i64 0,AV.bool false,AV.int i64 0] k/\Zo.Ok k.t/\Z0 (!Yg A k) True False) (by kernel_rfl) ?_
 try simp only [Z8]
 try simp only [Ze]
 try simp only [Za]
 try simp only [Zf]
 try simp only [Zg]
 try simp only [Z9]
 try simp only [Y_s]
 refine ⟨k0C t sd a b lo hi,⟨rfl⟩,ht, ?_⟩
 rw [hm];rfl
inductive ZbZ (cs:List AV) (t:Zo):Prop
 | mk:cs=t.c->ZbZ cs t
def ZmR (A:List Int->Int×Int):ZR:=fun args h K=>ZH none h true 40 args fun x=>match x with
 | [.agg cs,.int .i64 sd,.agg [.arr .i64 2 ab],.int .i64 lo,.int .i64 hi]=>∃t a b,ZbZ cs t/\ab=[a,b]/\t.Ok/\
  (Yg A (k0C t sd a b lo hi)=true->K (.ret (.tuple [.ptr (some ⟨h.next,0,0,0,0⟩),.int .i64 0])) ⟨h.next+1,(h.next,.flat (clT (k0C t sd a b lo hi) sd false 0 false 0))::h.bs⟩)/\
  (Yg A (k0C t sd a b lo hi)=false->K (.ret (.tuple [.ptr none,.int .i64 2])) h)
 | _=>False
theorem ZmS {k:ClS} {o:Out} {h:Z6} (hk:clK true k o h):ZL 0 (.ret (.tuple [.ptr (some ⟨0,0,0,0,0⟩),.int .i64 0])) 1 [(0,.flat (k.c++[.bool true]))] o h:=by
 unfold clK at hk
 split at hk
 ·exact hk.elim
 ·exact hk
 ·exact hk.elim
theorem Zax:(Zk2 ZJ).Ok:=Zh.withP_ok Zp Zaq
theorem Zfb (args:List AV) (h:Z6) (K:KO) (hl:ZmR ZJ args h K):Zi PP 9 args h K:=by
 refine Zy.fsumm (d:=40) (Zm _ _ _ _ _ hl fun a ha=> ?_)
 split at ha
 ·rename_i cs sd ab lo hi
  obtain ⟨t,a,b,⟨rfl⟩,rfl,ht,h1,h0⟩:=ha
  cases hm:Yg ZJ (k0C t sd a b lo hi) with
  | true=>exact ⟨_,_,_,_,Spec.pure (Spec.evK Zax (Zoo _ t sd a b lo hi ht hm) fun o' h' hk=>ZmS hk),rfl,⟨Nat.one_pos,.flat _ rfl,trivial⟩,h1 hm⟩
  | false=>exact ⟨_,_,_,_,.evM Zax (Zop _ t sd a b lo hi ht hm),rfl,trivial,h0 hm⟩
 ·exact ha.elim
def Z69 (Tg:List Int->TxS->List Int) (k:ClS):HR:=
 if k.agrees=true then noR k 250 else if k.side≠0\/k.offers=true then noR k 251
 else if Y0 k.t k.a0 k.a1 k.least≠0 then noR k (Y0 k.t k.a0 k.a1 k.least)
 else ⟨0,13,k.least,Xc Tg k k.least k.side,true,true,k.least,k.agrees,k.fee⟩
theorem Zk3 {Tg:List Int->TxS->List Int} {k:ClS} (h:k.agrees=true):Z69 Tg k=noR k 250:=by unfold Z69;rw [if_pos h]
theorem Z98 {Tg:List Int->TxS->List Int} {k:ClS} (h:k.agrees=false) (h2:k.side≠0\/k.offers=true):Z69 Tg k=noR k 251:=by unfold Z69;rw [if_neg (by rw [h];decide),if_pos h2]
theorem Zfc {Tg:List Int->TxS->List Int} {k:ClS} {m:Int} (h:k.agrees=false) (h2:¬(k.side≠0\/k.offers=true)) (he:Y0 k.t k.a0 k.a1 k.least=m) (hm:m≠0):Z69 Tg k=noR k m:=by
 unfold Z69;rw [if_neg (by rw [h];decide),if_neg h2,if_pos (by rw [he];exact hm),he]
theorem Zfd {Tg:List Int->TxS->List Int} {k:ClS} (h:k.agrees=false) (h2:¬(k.side≠0\/k.offers=true)) (he:Y0 k.t k.a0 k.a1 k.least=0):Z69 Tg k=⟨0,13,k.least,Xc Tg k k.least k.side,true,true,k.least,k.agrees,k.fee⟩:=by
 unfold Z69;rw [if_neg (by rw [h];decide),if_neg h2,if_neg (fun q=>q he)]
theorem ZmT (Tg:List Int->TxS->List Int) (k:ClS) (e kd am:Int) (tg:List Int) (sy of:Bool) (la:Int) (ag:Bool) (fe:Int) (hk:VB k) (hR:Z69 Tg k=⟨e,kd,am,tg,sy,of,la,ag,fe⟩):
  evF (G0.withF 32 (ZhE Tg)) 20 12 [.ptr (some ⟨0,0,0,0,0⟩)] ⟨1,[(0,.flat (clT k k.side k.offers k.last k.agrees k.fee))]⟩ (ZL 1 (.ret (.tuple [.agg (sdC kd am tg),.int .i64 e])) 1 [(0,.flat (clT k k.side of la ag fe))]):=by
 refine @Eq.mpr _ (let q1:=k.agrees;let q2:=decide (0=kd);let q3:=decide (0=am);let q4:=k.t;let q5:=q4.fund;let q6:=q5=q5;let q7:=q4.index;let q8:=decide (q7=q7);let q9:=q4.cap;let q10:=decide (q9=q9);let q11:=q4.dust;let q12:=decide (q11=q11);let q13:=q4.fee;let q14:=decide (q13=q13);let q15:=q4.delay;let q16:=decide (q15=q15);let q17:=q4.k0;let q18:=q17=q17;let q19:=q4.k1;let q20:=q19=q19;let q21:=k.side;let q22:=decide (q21=q21);let q23:=[k.a0,k.a1];let q24:=q23=q23;let q25:=k.least;let q26:=decide (q25=q25);let q27:=k.most;let q28:=decide (q27=q27);let q29:=k.offers;let q30:=Z0 (decide (q1=ag)) (Z0 (decide (k.fee=fe)) True False) False;let q31:=q6/\Z0 q8 (Z0 q10 (Z0 q12 (Z0 q14 (Z0 q16 (q18/\q20/\Z0 q22 (q24/\Z0 q26 (Z0 q28 (Z0 (decide (q29=of)) (Z0 (decide (k.last=la)) q30 False) False) False) False) False) False) False) False) False) False;let q32:=Z0 q2 (Z5=Z5/\Z5=Z5/\Z5=Z5/\Z0 q3 (Z5=Z5/\Z5=Z5/\Z5=Z5/\Z5=Z5/\Z5=tg/\Z5=Z5/\ByteArray.empty=ByteArray.empty/\Z0 (decide (251=e)) q31 False) False) False;
 Z0 q1 (Z0 q2 (Z5=Z5/\Z5=Z5/\Z5=Z5/\Z0 q3 (Z5=Z5/\Z5=Z5/\Z5=Z5/\Z5=Z5/\Z5=tg/\Z5=Z5/\ByteArray.empty=ByteArray.empty/\Z0 (decide (250=e)) q31 False) False) False)
 (Z0 (q21 !=0) q32
 (Z0 q29 q32
 (∃(k_1:ClS),
 let q65:=Y0 k_1.t k_1.a0 k_1.a1 q25;
 Wd [AV.arr u8 32 q5,AV.int i64 q7,AV.int i64 q9,AV.int i64 q11,AV.int i64 q13,AV.int i64 q15,AV.arr u8 32 q17,AV.arr u8 32 q19,AV.int i64 q21,AV.arr i64 2 q23,AV.int i64 q25,AV.int i64 q27,AV.bool q29,AV.int i64 k.last,AV.bool q1,AV.int i64 k.fee,AV.bool true] k_1/\
 VB k_1/\
 (q65=0->Z0 (decide (13=kd)) (Z5=Z5/\Z5=Z5/\Z5=Z5/\Z0 (decide (q25=am)) (Z5=Z5/\Z5=Z5/\Z5=Z5/\Z5=Z5/\Xc Tg k_1 q25 k_1.side=tg/\Z5=Z5/\ByteArray.empty=ByteArray.empty/\Z0 (decide (0=e)) (q6/\Z0 q8 (Z0 q10 (Z0 q12 (Z0 q14 (Z0 q16 (q18/\q20/\Z0 q22 (q24/\Z0 q26 (Z0 q28 (Z0 (decide (true=of)) (Z0 (decide (q25=la)) q30 False) False) False) False) False) False) False) False) False) False) False) False) False)/\
 (q65=2->Z0 q2 (Z5=Z5/\Z5=Z5/\Z5=Z5/\Z0 q3 (Z5=Z5/\Z5=Z5/\Z5=Z5/\Z5=Z5/\Z5=tg/\Z5=Z5/\ByteArray.empty=ByteArray.empty/\Z0 (decide (2=e)) q31 False) False) False)/\(q65=180->Z0 q2 (Z5=Z5/\Z5=Z5/\Z5=Z5/\Z0 q3 (Z5=Z5/\Z5=Z5/\Z5=Z5/\Z5=Z5/\Z5=tg/\Z5=Z5/\ByteArray.empty=ByteArray.empty/\Z0 (decide (180=e)) q31 False) False) False))))) (by kernel_rfl) ?_
 conv=>zeta
 try simp only [Z8]
 try simp only [Ze]
 try simp only [Za]
 try simp only [Zf]
 try simp only [Zg]
 try simp only [Z9]
 try simp only [Y_s]
 refine ⟨fun hg=> ?_,fun hg=>⟨fun hs=> ?_,fun hs=>⟨fun ho=> ?_,fun ho=> ?_⟩⟩⟩
 ·cases hR.symm.trans (Zk3 hg)
  and_intros<;>rfl
 ·cases hR.symm.trans (Z98 hg (.inl (bne_iff_ne.1 hs)))
  and_intros<;>rfl
 ·cases hR.symm.trans (Z98 hg (.inr ho))
  and_intros<;>rfl
 have hq:¬(k.side≠0\/k.offers=true):=by
  rintro (h|h)
  ·exact h (bne_eq_false_iff_eq.1 hs)
  ·rw [ho] at h;cases h
 refine ⟨k,⟨rfl⟩,hk,fun hE=> ?_,fun hE=> ?_,fun hE=> ?_⟩
 ·cases hR.symm.trans (Zfd hg hq hE)
  and_intros<;>rfl
 ·cases hR.symm.trans (Zfc hg hq hE (by decide))
  and_intros<;>rfl
 ·cases hR.symm.trans (Zfc hg hq hE (by decide))
  and_intros<;>rfl
noncomputable def Zk4 (A:List Int->Int×Int) (Tg:List Int->TxS->List Int):Zh:=(G0.withF 42 (clF A)).withF 43 (Zi8 A Tg)
noncomputable def Zfe (A:List Int->Int×Int) (Tg:List Int->TxS->List Int):Zh:=(G0.withF 61 (clF A)).withF 120 (Zi9 A Tg)
def ctG (Tg:List Int->TxS->List Int) (k:ClS):Nat->InS:=Z3Y Tg (txC k.t k.a0 k.a1 k.fee) k.t.k0 k.t.k1 1
def txV (b n:Nat):AV:=.agg [.int .i64 2147483647,.nslice ⟨b,0,130,0,0⟩ 130 1 1,.nslice ⟨b+1,0,132,0,0⟩ 132 n n]
theorem ZmU (A:List Int->Int×Int) (Tg:List Int->TxS->List Int) (k:ClS) (n:Nat) (L:List Zc) (g:Nat->InS) (hA:A=ZJ) (ht:k.t.All) (hE:Y0 k.t k.a0 k.a1 k.fee=0) (ha:k.a0<9223372036854775808) (hL:L=ZZ (clL k.t k.a0 k.a1 k.fee)) (hn:n=L.length) (hg:g=ctG Tg k):
  evF (Zk4 A Tg) 20 15 [.ptr (some ⟨0,0,0,0,0⟩)] ⟨1,[(0,.flat (clT k k.side k.offers k.last true k.fee))]⟩ (ZL 1 (.ret (.tuple [txV 1 n,.int .i64 0])) 3 [(0,.flat (clT k k.side k.offers k.last true k.fee)),(1,.rows 130 1 (Zk g)),(2,.rows 132 n (Zj (Y3 L)))]):=by
 refine @Eq.mpr _ (let q1:=k.t;let q2:=q1.fund;let q3:=q1.index;let q4:=q1.cap;let q5:=q1.dust;let q6:=q1.fee;let q7:=q1.delay;let q8:=q1.k0;let q9:=q1.k1;let q10:=Zo.mk q2 q3 q4 q5 q6 q7 q8 q9;let q11:=[k.a0,k.a1];let q12:=k.fee;let q13:=InS.mk q2 q3 1 Z5 Z5 Z5;let q14:=[(2,6),(1,5)];
 Zo.Ok q10/\
 ∃(a:Int),
 ∃(b:Int),
 let q29:=clB A q10 a b q12;let q30:=clL q10 a b q12;
 q11=[a,b]/\
 a<9223372036854775808/\
 (q29=false->False)/\
 (q29=true->
 (List.length q30=0->False)/\
 ∀(n_1:Nat) (L_1:List Zc),
 L_1=ZZ q30->
 n_1=List.length L_1->
 n_1≠0->
 Z0 (decide (0+n_1<=n_1))
 ((∀(i:Nat),i<n_1->true=true)/\
 ∃(t:TxS),
 let q33:=t.N;let q34:=t.M;let q35:=decide (q33=1);let q36:=decide (q34=n);
 (t.num=2147483647/\
 (((1:Nat)=1/\q33=1)/\∀(i:Nat),i<1->ZT [AV.arr u8 32 q13.name,AV.int i64 q13.index,AV.int i64 q13.way,AV.arr u8 32 q13.tag,AV.arr u8 32 q13.also,AV.arr u8 32 q13.secret] 0 130 i=InS.c (t.ins i))/\
 (n_1=n_1/\q34=n_1)/\
 ∀(i:Nat),
 let q41:=Y3 L_1 i;
 i<n_1->[AV.int i64 q41.kind,AV.int i64 q41.amount,AV.arr u8 32 q41.owner,AV.arr u8 32 q41.other,AV.arr u8 32 q41.point,AV.arr u8 32 q41.hash,AV.int i64 q41.delay,AV.int i64 q41.expiry]=ZK.c (t.outs i))/\
 (TxS.Ok t/\List.length q8=32/\List.length q9=32)/\(Yj A t=false->False)/\(Yj A t=true->Z0 (decide (t.num=2147483647)) (Z0 q35 (Z0 (decide (1<=q33)) (Z0 q36 (Z0 (decide (n<=q34)) (q2=q2/\Z0 (decide (q3=q3)) (Z0 (decide (q4=q4)) (Z0 (decide (q5=q5)) (Z0 (decide (q6=q6)) (Z0 (decide (q7=q7)) (q8=q8/\q9=q9/\Z0 (decide (k.side=k.side)) (q11=q11/\Z0 (decide (k.least=k.least)) (Z0 (decide (k.most=k.most)) (Z0 (decide (k.offers=k.offers)) (Z0 (decide (k.last=k.last)) (Z0 (decide (q12=q12)) (Z0 q35 (Zr 1 q14 1 (Zk g) (Zk (Z3Y Tg t q8 q9 q33))/\Z0 q36 (Zr 1 q14 n (Zj (Y3 L)) (Zj t.outs)/\True) False) False) False) False) False) False) False) False) False) False) False) False) False) False) False) False) False) False))
 False)) (by kernel_rfl) ?_
 conv=>zeta
 try simp only [Z8]
 try simp only [Ze]
 try simp only [Za]
 try simp only [Zf]
 try simp only [Zg]
 try simp only [Z9]
 try simp only [Y_s]
 subst hA
 obtain ⟨hb,hz⟩:=Z90 hE
 have hb:clB ZJ k.t k.a0 k.a1 k.fee=true:=hb
 have hck:=Ui hE
 refine ⟨ht.ok,k.a0,k.a1,rfl,ha,fun h=>absurd (hb.symm.trans h) (by decide),fun _=>⟨fun h=>absurd h hz,fun n1 L1 hL1 hn1 hn0=>⟨fun _ _=>trivial,txC k.t k.a0 k.a1 k.fee,⟨rfl,⟨rfl,fun i hi=>Q5 _ i hi⟩, ?_,fun i _=> ?_⟩,⟨VA ht.ok ht.fl,ht.ok.k0,ht.ok.k1⟩,fun h=>absurd (hck.symm.trans h) (by decide),fun _=> ?_⟩⟩⟩
 ·subst hn1 hL1;rfl
 ·subst hL1;rfl
 ·subst hn hL hg
  exact ⟨rfl,rfl,Nat.le_refl _,rfl,Nat.le_refl _,rfl,Yf fun _ _=>rfl,rfl,ZP fun _ _=>rfl⟩
theorem ZmV (A:List Int->Int×Int) (Tg:List Int->TxS->List Int) (k:ClS):
  evF (Zk4 A Tg) 20 15 [.ptr (some ⟨0,0,0,0,0⟩)] ⟨1,[(0,.flat (clT k k.side k.offers k.last false k.fee))]⟩ (ZL 1 (.ret (.tuple [.agg txZ,.int .i64 5])) 1 [(0,.flat (clT k k.side k.offers k.last false k.fee))]):=by
 refine @Eq.mpr _ (let q1:=k.t;let q2:=q1.fund;let q3:=q1.index;let q4:=q1.cap;let q5:=q1.dust;let q6:=q1.fee;let q7:=q1.delay;let q8:=q1.k0;let q9:=q1.k1;let q10:=[k.a0,k.a1];
 q2=q2/\Z0 (decide (q3=q3)) (Z0 (decide (q4=q4)) (Z0 (decide (q5=q5)) (Z0 (decide (q6=q6)) (Z0 (decide (q7=q7)) (q8=q8/\q9=q9/\Z0 (decide (k.side=k.side)) (q10=q10/\Z0 (decide (k.least=k.least)) (Z0 (decide (k.most=k.most)) (Z0 (decide (k.offers=k.offers)) (Z0 (decide (k.last=k.last)) (Z0 (decide (k.fee=k.fee)) True False) False) False) False) False) False) False) False) False) False) False) (by kernel_rfl) ?_
 conv=>zeta
 try simp only [Z8]
 try simp only [Ze]
 try simp only [Za]
 try simp only [Zf]
 try simp only [Zg]
 try simp only [Z9]
 try simp only [Y_s]
theorem ZmW (A:List Int->Int×Int) (Tg:List Int->TxS->List Int) (k:ClS) (n:Nat) (L:List Zc) (g:Nat->InS) (hA:A=ZJ) (ht:k.t.All) (hE:Y0 k.t k.a0 k.a1 k.fee=0) (ha:k.a0<9223372036854775808) (hL:L=ZZ (clL k.t k.a0 k.a1 k.fee)) (hn:n=L.length) (hg:g=ctG Tg k):
  evF (Zfe A Tg) 20 58 [.agg (clU k k.side k.offers k.last true k.fee)] ⟨0,[]⟩ (ZL 0 (.ret (.tuple [txV 0 n,.int .i64 0])) 2 [(0,.rows 130 1 (Zk g)),(1,.rows 132 n (Zj (Y3 L)))]):=by
 refine @Eq.mpr _ (let q1:=k.t;let q2:=q1.fund;let q3:=q1.index;let q4:=q1.k0;let q5:=q1.k1;let q6:=Zo.mk q2 q3 q1.cap q1.dust q1.fee q1.delay q4 q5;let q7:=k.fee;let q8:=[(1,4),(0,3)];let q9:=Zj (Y3 L);let q10:=∃(t:TxS),(t.num=0/\t.N=0/\t.M=0)/\(TxS.Ok t/\QL t/\(List.length q4=32/\List.length q5=32)/\Bytes q4/\Bytes q5)/\(Yj A t=false->False)/\(Yj A t=true->Z0 (decide (t.num=2147483647)) (Z0 (decide (t.N=1)) (Z0 (decide (1<=t.N)) (Z0 (decide (t.M=n)) (Z0 (decide (n<=t.M)) (Z0 (decide (t.N=1)) (Zr 0 q8 1 (Zk g) (Zk (Z7m Tg t q4 q5).ins)/\Z0 (decide (t.M=n)) (Zr 0 q8 n q9 (Zj t.outs)/\True) False) False) False) False) False) False) False);let q11:=InS.mk q2 q3 1 Z5 Z5 Z5;let q12:=[(1,6),(0,5)];
 Zo.Ok q6/\
 ∃(a:Int),
 ∃(b:Int),
 let q25:=clB A q6 a b q7;let q26:=clL q6 a b q7;
 [k.a0,k.a1]=[a,b]/\
 a<9223372036854775808/\
 (q25=false->q10)/\
 (q25=true->
 (List.length q26=0->q10)/\
 ∀(n_1:Nat) (L:List Zc),
 L=ZZ q26->
 n_1=List.length L->
 n_1≠0->
 Z0 (decide (0+n_1<=n_1))
 ((∀(i:Nat),i<n_1->true=true)/\
 ∃(t:TxS),
 let q29:=t.M;let q30:=decide (t.N=1);let q31:=decide (q29=n);
 (t.num=2147483647/\
 (((1:Nat)=1/\t.N=1)/\∀(i:Nat),i<1->ZT [AV.arr u8 32 q11.name,AV.int i64 q11.index,AV.int i64 q11.way,AV.arr u8 32 q11.tag,AV.arr u8 32 q11.also,AV.arr u8 32 q11.secret] 0 130 i=InS.c (t.ins i))/\
 (n_1=n_1/\q29=n_1)/\
 ∀(i:Nat),
 let q35:=Y3 L i;
 i<n_1->[AV.int i64 q35.kind,AV.int i64 q35.amount,AV.arr u8 32 q35.owner,AV.arr u8 32 q35.other,AV.arr u8 32 q35.point,AV.arr u8 32 q35.hash,AV.int i64 q35.delay,AV.int i64 q35.expiry]=ZK.c (t.outs i))/\
 (TxS.Ok t/\QL t/\(List.length q4=32/\List.length q5=32)/\Bytes q4/\Bytes q5)/\(Yj A t=false->False)/\(Yj A t=true->Z0 (decide (t.num=2147483647)) (Z0 q30 (Z0 (decide (1<=t.N)) (Z0 q31 (Z0 (decide (n<=q29)) (Z0 q30 (Zr 0 q12 1 (Zk g) (Zk (Z7m Tg t q4 q5).ins)/\Z0 q31 (Zr 0 q12 n q9 (Zj t.outs)/\True) False) False) False) False) False) False) False))
 False)) (by kernel_rfl) ?_
 conv=>zeta
 try simp only [Z8]
 try simp only [Ze]
 try simp only [Za]
 try simp only [Zf]
 try simp only [Zg]
 try simp only [Z9]
 try simp only [Y_s]
 subst hA
 obtain ⟨hb,hz⟩:=Z90 hE
 have hb:clB ZJ k.t k.a0 k.a1 k.fee=true:=hb
 have hck:=Ui hE
 refine ⟨ht.ok,k.a0,k.a1,rfl,ha,(fun h=>absurd (hb.symm.trans h) (by decide)),fun _=>⟨(fun h=>absurd h hz),fun n1 L1 hL1 hn1 hn0=>⟨fun _ _=>trivial,txC k.t k.a0 k.a1 k.fee,⟨rfl,⟨rfl,fun i hi=>Q5 _ i hi⟩, ?_,fun i _=> ?_⟩,⟨VA ht.ok ht.fl,Zal ht,⟨ht.ok.k0,ht.ok.k1⟩,ht.ok.b0,ht.ok.b1⟩,fun h=>absurd (hck.symm.trans h) (by decide),fun _=> ?_⟩⟩⟩
 ·subst hn1 hL1;rfl
 ·subst hL1;rfl
 ·subst hn hL hg
  exact ⟨rfl,rfl,Nat.le_refl _,rfl,Nat.le_refl _,rfl,Yf fun i hi=>congrArg InS.c (if_pos hi).symm,rfl,ZP fun _ _=>rfl⟩
theorem ZmX (A:List Int->Int×Int) (Tg:List Int->TxS->List Int) (k:ClS):
  evF (Zfe A Tg) 20 58 [.agg (clU k k.side k.offers k.last false k.fee)] ⟨0,[]⟩ (ZL 0 (.ret (.tuple [.agg txZ,.int .i64 5])) 0 []):=by
 refine @Eq.mpr _ (True) (by kernel_rfl) ?_
 trivial
structure TxK (k:ClS):Prop where
 t:k.t.All
 a:k.a0<9223372036854775808
def Zff (cs:List AV) (i:Nat):AV:=cs.getD i .top
def ZhJ (Tg:List Int->TxS->List Int):ZR:=fun args h K=>match args with
 | [.ptr (some ⟨x,0,0,0,0⟩)]=>frA [x] h 40 args fun Bs a=>match Bs,a with
  | [.flat cs],[.ptr (some ⟨0,0,0,0,0⟩)]=>∃k,Wd cs k/\TxK k/\(match Zff cs 14 with
   | .bool true=>Y0 k.t k.a0 k.a1 k.fee=0/\∀n L,L=ZZ (clL k.t k.a0 k.a1 k.fee)->n=L.length->n<=2->K (.ret (.tuple [txV h.next n,.int .i64 0])) ⟨h.next+2,(x,.flat cs)::(h.next,.rows 130 1 (Zk (ctG Tg k)))::(h.next+1,.rows 132 n (Zj (Y3 L)))::Y9 h.bs x⟩
   | .bool false=>K (.ret (.tuple [.agg txZ,.int .i64 5])) ⟨h.next,(x,.flat cs)::Y9 h.bs x⟩
   | _=>False)
  | _,_=>False
 | _=>False
theorem Zay (args:List AV) (h:Z6) (K:KO) (hl:ZhJ ZO args h K):Zi PP 15 args h K:=by
 have hE:(Zk4 ZJ ZO).Ok:=Zh.withF_ok (Zh.withF_ok Zp Z8W) Zew
 unfold ZhJ at hl
 split at hl
 ·refine Spec.fsumm hl fun Bs a hlen hK0=> ?_
  split at hK0
  ·obtain ⟨k,⟨rfl⟩,⟨ht,ha⟩,hm⟩:=hK0
   obtain ⟨t,sd,a0,a1,le,mo,o0,l0,g0,f0⟩:=k
   cases g0 with
   | true=>
    obtain ⟨he,hK⟩:Y0 t a0 a1 f0=0/\_:=hm
    have h2:(ZZ (clL t a0 a1 f0)).length<=2:=by rw [YY];exact Z2d
    exact ⟨_,_,_,_,_,.evM hE (ZmU _ ZO ⟨t,sd,a0,a1,le,mo,o0,l0,true,f0⟩ _ _ _ rfl ht he ha rfl rfl rfl),by simp,.ret _ _ rfl,.cons _ _ _ _ _ _ rfl (.flat _ _ rfl) (.cons _ _ _ _ _ _ rfl (.rows _ _ _ (fun _ _=>rfl)) (.cons _ _ _ _ _ _ rfl (.rows _ _ _ (fun _ _=>rfl)) .nil)),hK _ _ rfl rfl h2⟩
   | false=>exact ⟨_,_,_,_,_,.evM hE (ZmV _ ZO ⟨t,sd,a0,a1,le,mo,o0,l0,false,f0⟩),by simp,.ret _ _ rfl,.cons _ _ _ _ _ _ rfl (.flat _ _ rfl) .nil,hm⟩
  ·exact hK0.elim
 ·exact hl.elim
def ZmY (Tg:List Int->TxS->List Int):ZR:=fun args h K=>ZH none h true 40 args fun x=>match x with
 | [.agg cs]=>∃k,XJ cs k/\TxK k/\(match Zff cs 14 with
   | .bool true=>Y0 k.t k.a0 k.a1 k.fee=0/\∀n L,L=ZZ (clL k.t k.a0 k.a1 k.fee)->n=L.length->n<=2->K (.ret (.tuple [txV h.next n,.int .i64 0])) ⟨h.next+2,(h.next,.rows 130 1 (Zk (ctG Tg k)))::(h.next+1,.rows 132 n (Zj (Y3 L)))::h.bs⟩
   | .bool false=>K (.ret (.tuple [.agg txZ,.int .i64 5])) h
   | _=>False)
 | _=>False
theorem ZhK (args:List AV) (h:Z6) (K:KO) (hl:ZmY ZO args h K):Zi PP 58 args h K:=by
 have hE:(Zfe ZJ ZO).Ok:=Zh.withF_ok (Zh.withF_ok Zp Zac) Zez
 refine Zy.fsumm (d:=40) (Zm _ _ _ _ _ hl fun a ha=> ?_)
 split at ha
 ·obtain ⟨k,⟨rfl⟩,⟨ht,ha⟩,hm⟩:=ha
  obtain ⟨t,sd,a0,a1,le,mo,o0,l0,g0,f0⟩:=k
  cases g0 with
  | true=>
   obtain ⟨he,hK⟩:Y0 t a0 a1 f0=0/\_:=hm
   have h2:(ZZ (clL t a0 a1 f0)).length<=2:=by rw [YY];exact Z2d
   exact ⟨_,_,_,_,.evM hE (ZmW _ ZO ⟨t,sd,a0,a1,le,mo,o0,l0,true,f0⟩ _ _ _ rfl ht he ha rfl rfl rfl),rfl,⟨by decide,.rows _ _ _ (fun i _=>(ctG ZO _ i).plainC),by decide,.rows _ _ _ (fun i _=>(Y3 _ i).plainC),trivial⟩,hK _ _ rfl rfl h2⟩
  | false=>exact ⟨_,_,_,_,.evM hE (ZmX _ ZO ⟨t,sd,a0,a1,le,mo,o0,l0,false,f0⟩),rfl,trivial,hm⟩
 ·exact ha.elim
theorem Zc0 {xs:List Int} (h:Bytes xs) (i:Nat) {v:Int} (hv:0<=v/\v<=255):Bytes (xs.set i v):=⟨fun k=>by
 have hx:=h.h k
 rw [List.getD_eq_getElem?_getD] at hx⊢
 rw [List.getElem?_set]
 split
 ·split
  ·exact hv
  ·exact ⟨Int.le_refl 0,by decide⟩
 ·exact hx⟩
theorem ZmZ (s:ZA) (ok:Bool) (hl:s.Len) (hok:ok=true↔ZS s 1):
  evF Z0k 40 35 [.agg (.int .i64 1::s.r)] ⟨0,[]⟩ (chK ok):=by
 refine @Eq.mpr _ (let q1:=s.id;let q2:=s.t;let q3:=q2.fund;let q4:=decide (List.length q3=(32:Nat)/\(32:Nat)=(32:Nat));let q5:=q2.k1;let q6:=decide (List.length q5=(32:Nat)/\(32:Nat)=(32:Nat));let q7:=decide (List.length s.key=(32:Nat)/\(32:Nat)=(32:Nat));let q8:=decide (List.length s.hash=(32:Nat)/\(32:Nat)=(32:Nat));let q9:=decide (List.length s.tag=(32:Nat)/\(32:Nat)=(32:Nat));let q10:=decide (List.length s.secret=(32:Nat)/\(32:Nat)=(32:Nat));let q11:=q2.index;let q12:=s.number;let q13:=s.index;let q14:=s.expiry;let q15:= !(true&&(q3==Z5&&(q11==(0:Int)&&(true&&(true&&(true&&(true&&(true&&q5==Z5))))))&&(true&&(true&&(true&&(true&&(s.key==Z5&&(s.hash==Z5&&(s.tag==Z5&&(s.secret==Z5&&(q1==(0:Int)&&(q12==(0:Int)&&(q13==(0:Int)&&(q14==(0:Int)&&(s.code==(0:Int)&&ByteArray.toList s.route==ByteArray.toList ByteArray.empty)))))))))))))));let q16:=Z0 q4 (Z0 q6 (Z0 q7 (Z0 q8 (Z0 q9 (Z0 q10 (Z0 q15 (ok=false) (ok=false)) False) False) False) False) False) False;let q17:=s.amount;let q18:=q2.k0;let q19:=q2.cap;let q20:=q2.fee;let q21:=Zo.mk q3 q11 q19 q2.dust q20 q2.delay q18 (List.set q18 (0:Nat) (wrap u8 (List.getD q18 (0:Nat) (0:Int)+(1:Int))));let q22:=s.reserve;
 Z0 (decide ((0:Int)<=q1))
 (Z0 (!decide (q1<=(2147483647:Int))) q16 (Z0 (decide ((0:Int)<=q12)) (Z0 (!decide (q12<=(2147483647:Int))) q16 (Z0 (decide ((0:Int)<=q13)) (Z0 (!decide (q13<=(2147483647:Int))) q16 (Z0 (decide ((0:Int)<=q14)) (Z0 (!decide (q14<=(2147483647:Int))) q16 (Z0 q4 (Z0 q6 (Z0 q7 (Z0 q8 (Z0 q9 (Z0 q10 (Z0 q15 (ok=false) (Z0 (decide (q17<(0:Int))) (ok=false) (Z0 (decide (q17>(1125899906842624:Int))) (ok=false) (Z0 (decide (u8=u8/\(0:Nat)<(32:Nat)/\(0:Nat)<List.length q18)) (Zo.Ok q21/\Z0 ((if Yr q21=true then (0:Int) else (2:Int))==(0:Int)) (Z0 (decide ((0:Int)<=q22)) (Z0 (decide (q22<=wrap i64 (Int.tdiv q19 (10:Int)))) (Z0 (!decide (q17<=wrap i64 (wrap i64 (q19-q20)-q22))) (ok=false) (ok=true)) (ok=false)) (ok=false)) (ok=false)) False)))) False) False) False) False) False) False)) q16)) q16)) q16)) q16) (by kernel_rfl) ?_
 conv=>zeta
 try simp only [Z8]
 try simp only [Ze]
 try simp only [Za]
 try simp only [Zf]
 try simp only [Zg]
 try simp only [Z9]
 try simp only [Y_s]
 obtain ⟨h0,h1,h2,h3,h4,h5,h6,h7,h8,hb⟩:=hl
 simp only [h0,h1,h2,h3,h4,h5,h6,h7,h8,and_self,decide_true,true_and,forall_const,Bool.not_eq_true',Bool.not_eq_false',decide_eq_true_eq,decide_eq_false_iff_not,Int.not_le,Int.not_lt,reduceCtorEq,false_implies,and_true]
 have hte:((if Yr (Q6 s.t)=true then (0:Int) else 2)==0)=Yr (Q6 s.t):=by cases Yr (Q6 s.t)<;>rfl
 have hOk:(Q6 s.t).Ok:=⟨h1,by show (List.set _ _ _).length=32;rw [List.length_set];exact h1,hb,Zc0 hb 0 (Zjh _)⟩
 have hd:Yr (Q6 s.t)=true->(1000<=s.t.cap/\s.t.cap<=1125899906842624)/\(0<=s.t.fee/\s.t.fee<=400):=fun h=>by
  unfold Yr Q6 at h
  simp only [Bool.and_eq_true,decide_eq_true_eq] at h
  obtain ⟨⟨⟨⟨⟨_,g2⟩,_⟩,g4⟩,_⟩,_⟩:=h
  exact ⟨g2,g4⟩
 have htd:Yr (Q6 s.t)=true->0<=s.t.cap.tdiv 10/\s.t.cap.tdiv 10<=s.t.cap:=fun h=>by
  have:=hd h
  rw [Int.tdiv_eq_ediv_of_nonneg (by omega)]
  omega
 have hw1:Yr (Q6 s.t)=true->i64.wrap (s.t.cap.tdiv 10)=s.t.cap.tdiv 10:=fun h=>by
  have:=hd h
  have:=htd h
  exact w64 (by omega)
 have hw2:Yr (Q6 s.t)=true->0<=s.reserve->s.reserve<=s.t.cap.tdiv 10->i64.wrap (i64.wrap (s.t.cap-s.t.fee)-s.reserve)=s.t.cap-s.t.fee-s.reserve:=fun h g1 g2=>by
  have:=hd h
  have:=htd h
  rw [w64 (x:=s.t.cap-s.t.fee) (by omega)]
  exact w64 (by omega)
 change _ at hOk
 cases ok with
 | true=>
  obtain ⟨⟨w0,w1,w2,w3,w4,w5,w6,w7,w8,w9⟩,hr,hk⟩:=hok.1 rfl
  have hk:Z95 s:=hk
  obtain ⟨k1,k2,k3,k4⟩:=hk
  have e1:=hw1 k1
  have e2:=hw2 k1 k2 k3
  repeat' first
   | exact hOk
   | trivial
   | apply And.intro
   | intro
  all_goals first
   | omega
   | (exfalso;omega)
   | (rename_i hq;exact absurd (hr.symm.trans hq) (by decide))
   | (rename_i hq _;exact absurd (hr.symm.trans hq) (by decide))
   | (rename_i hq _ _;exact absurd (hr.symm.trans hq) (by decide))
   | (rename_i hq;exact absurd ((hte.trans k1).symm.trans hq) (by decide))
 | false=>
  have hn:¬ZS s 1:=fun h=>absurd (hok.2 h) (by decide)
  repeat' first
   | exact hOk
   | trivial
   | apply And.intro
   | intro
  rename_i hq1 hq2 hq3 hq4
  have k1:Yr (Q6 s.t)=true:=hte.symm.trans hq1
  have e1:=hw1 k1
  rw [e1] at hq3
  have e2:=hw2 k1 hq2 hq3
  rw [e2] at hq4
  exact absurd (ZS.mk ⟨by omega,by omega,by omega,by omega,by omega,by omega,by omega,by omega,by omega,by omega⟩ (by assumption) (show kindOk s 1 from Z95.mk k1 hq2 hq3 hq4)) hn
theorem Zn0 (s:ZA) (ok:Bool) (hl:s.Len) (hok:ok=true↔ZS s 2):
  evF Z0k 40 35 [.agg (.int .i64 2::s.r)] ⟨0,[]⟩ (chK ok):=by
 refine @Eq.mpr _ (let q1:=s.id;let q2:=s.t;let q3:=q2.fund;let q4:=decide (List.length q3=32/\(32:Nat)=32);let q5:=q2.k0;let q6:=decide (List.length q5=32/\(32:Nat)=32);let q7:=q2.k1;let q8:=decide (List.length q7=32/\(32:Nat)=32);let q9:=decide (List.length s.hash=32/\(32:Nat)=32);let q10:=decide (List.length s.tag=32/\(32:Nat)=32);let q11:=decide (List.length s.secret=32/\(32:Nat)=32);let q12:=s.amount;let q13:=s.number;let q14:=s.index;let q15:=s.expiry;let q16:= !(true&&(q3==Z5&&(q2.index==0&&(q2.cap==0&&(q2.dust==0&&(q2.fee==0&&(q2.delay==0&&(q5==Z5&&q7==Z5))))))&&(s.reserve==0&&(q12==0&&(true&&(true&&(true&&(s.hash==Z5&&(s.tag==Z5&&(s.secret==Z5&&(q1==0&&(q13==0&&(q14==0&&(q15==0&&(s.code==0&&ByteArray.toList s.route==ByteArray.toList ByteArray.empty)))))))))))))));let q17:=Z0 q4 (Z0 q6 (Z0 q8 (Z0 q9 (Z0 q10 (Z0 q11 (Z0 q16 (ok=false) (ok=false)) False) False) False) False) False) False;
 Z0 (decide (0<=q1)) (Z0 (!decide (q1<=2147483647)) q17 (Z0 (decide (0<=q13)) (Z0 (!decide (q13<=2147483647)) q17 (Z0 (decide (0<=q14)) (Z0 (!decide (q14<=2147483647)) q17 (Z0 (decide (0<=q15)) (Z0 (!decide (q15<=2147483647)) q17 (Z0 q4 (Z0 q6 (Z0 q8 (Z0 q9 (Z0 q10 (Z0 q11 (Z0 q16 (ok=false) (Z0 (decide (q12<0)) (ok=false) (Z0 (decide (q12>1125899906842624)) (ok=false) (ok=true)))) False) False) False) False) False) False)) q17)) q17)) q17)) q17) (by kernel_rfl) ?_
 conv=>zeta
 try simp only [Z8]
 try simp only [Ze]
 try simp only [Za]
 try simp only [Zf]
 try simp only [Zg]
 try simp only [Z9]
 try simp only [Y_s]
 obtain ⟨h0,h1,h2,h3,h4,h5,h6,h7,h8,hb⟩:=hl
 simp only [h0,h1,h2,h3,h4,h5,h6,h7,h8,and_self,decide_true,true_and,forall_const,Bool.not_eq_true',Bool.not_eq_false',decide_eq_true_eq,decide_eq_false_iff_not,Int.not_le,Int.not_lt,reduceCtorEq,false_implies,and_true]
 cases ok with
 | true=>
  obtain ⟨⟨w0,w1,w2,w3,w4,w5,w6,w7,w8,w9⟩,hr,hk⟩:=hok.1 rfl
  have hk':=hk
  simp only [kindOk] at hk
  repeat' first
   | trivial
   | apply And.intro
   | intro
  all_goals first
   | omega
   | (exfalso;omega)
   | (rename_i hq;exact absurd (hr.symm.trans hq) (by decide))
   | (rename_i hq _;exact absurd (hr.symm.trans hq) (by decide))
   | (rename_i hq _ _;exact absurd (hr.symm.trans hq) (by decide))
 | false=>
  have hn:¬ZS s 2:=fun h=>absurd (hok.2 h) (by decide)
  repeat' first
   | trivial
   | apply And.intro
   | intro
  all_goals first
   | exact absurd (ZS.mk ⟨by omega,by omega,by omega,by omega,by omega,by omega,by omega,by omega,by omega,by omega⟩ (by assumption) (by simp only [kindOk]<;>omega)) hn
   | exact absurd (ZS.mk ⟨by omega,by omega,by omega,by omega,by omega,by omega,by omega,by omega,by omega,by omega⟩ (by assumption) trivial) hn
theorem Zn1 (s:ZA) (ok:Bool) (hl:s.Len) (hok:ok=true↔ZS s 3):
  evF Z0k 40 35 [.agg (.int .i64 3::s.r)] ⟨0,[]⟩ (chK ok):=by
 refine @Eq.mpr _ (let q1:=s.id;let q2:=s.t;let q3:=q2.fund;let q4:=decide (List.length q3=32/\(32:Nat)=32);let q5:=q2.k0;let q6:=decide (List.length q5=32/\(32:Nat)=32);let q7:=q2.k1;let q8:=decide (List.length q7=32/\(32:Nat)=32);let q9:=decide (List.length s.point=32/\(32:Nat)=32);let q10:=decide (List.length s.nxt=32/\(32:Nat)=32);let q11:=decide (List.length s.key=32/\(32:Nat)=32);let q12:=decide (List.length s.secret=32/\(32:Nat)=32);let q13:=s.amount;let q14:=s.number;let q15:=s.expiry;let q16:= !(true&&(q3==Z5&&(q2.index==0&&(q2.cap==0&&(q2.dust==0&&(q2.fee==0&&(q2.delay==0&&(q5==Z5&&q7==Z5))))))&&(s.reserve==0&&(q13==0&&(s.point==Z5&&(s.nxt==Z5&&(s.key==Z5&&(true&&(true&&(s.secret==Z5&&(q1==0&&(q14==0&&(true&&(q15==0&&(s.code==0&&ByteArray.toList s.route==ByteArray.toList ByteArray.empty)))))))))))))));let q17:=Z0 q4 (Z0 q6 (Z0 q8 (Z0 q9 (Z0 q10 (Z0 q11 (Z0 q12 (Z0 q16 (ok=false) (ok=false)) False) False) False) False) False) False) False;let q18:=s.index;
 Z0 (decide (0<=q1)) (Z0 (!decide (q1<=2147483647)) q17 (Z0 (decide (0<=q14)) (Z0 (!decide (q14<=2147483647)) q17 (Z0 (decide (0<=q18)) (Z0 (!decide (q18<=2147483647)) q17 (Z0 (decide (0<=q15)) (Z0 (!decide (q15<=2147483647)) q17 (Z0 q4 (Z0 q6 (Z0 q8 (Z0 q9 (Z0 q10 (Z0 q11 (Z0 q12 (Z0 q16 (ok=false) (Z0 (decide (q13<0)) (ok=false) (Z0 (decide (q13>1125899906842624)) (ok=false) (Z0 (!decide (q18<24)) (ok=false) (ok=true))))) False) False) False) False) False) False) False)) q17)) q17)) q17)) q17) (by kernel_rfl) ?_
 conv=>zeta
 try simp only [Z8]
 try simp only [Ze]
 try simp only [Za]
 try simp only [Zf]
 try simp only [Zg]
 try simp only [Z9]
 try simp only [Y_s]
 obtain ⟨h0,h1,h2,h3,h4,h5,h6,h7,h8,hb⟩:=hl
 simp only [h0,h1,h2,h3,h4,h5,h6,h7,h8,and_self,decide_true,true_and,forall_const,Bool.not_eq_true',Bool.not_eq_false',decide_eq_true_eq,decide_eq_false_iff_not,Int.not_le,Int.not_lt,reduceCtorEq,false_implies,and_true]
 cases ok with
 | true=>
  obtain ⟨⟨w0,w1,w2,w3,w4,w5,w6,w7,w8,w9⟩,hr,hk⟩:=hok.1 rfl
  have hk':=hk
  simp only [kindOk] at hk
  repeat' first
   | trivial
   | apply And.intro
   | intro
  all_goals first
   | omega
   | (exfalso;omega)
   | (rename_i hq;exact absurd (hr.symm.trans hq) (by decide))
   | (rename_i hq _;exact absurd (hr.symm.trans hq) (by decide))
   | (rename_i hq _ _;exact absurd (hr.symm.trans hq) (by decide))
 | false=>
  have hn:¬ZS s 3:=fun h=>absurd (hok.2 h) (by decide)
  repeat' first
   | trivial
   | apply And.intro
   | intro
  all_goals first
   | exact absurd (ZS.mk ⟨by omega,by omega,by omega,by omega,by omega,by omega,by omega,by omega,by omega,by omega⟩ (by assumption) (by simp only [kindOk]<;>omega)) hn
   | exact absurd (ZS.mk ⟨by omega,by omega,by omega,by omega,by omega,by omega,by omega,by omega,by omega,by omega⟩ (by assumption) trivial) hn
theorem Zn2 (s:ZA) (ok:Bool) (hl:s.Len) (hok:ok=true↔ZS s 4):
  evF Z0k 40 35 [.agg (.int .i64 4::s.r)] ⟨0,[]⟩ (chK ok):=by
 refine @Eq.mpr _ (let q1:=s.id;let q2:=s.t;let q3:=q2.fund;let q4:=decide (List.length q3=32/\(32:Nat)=32);let q5:=q2.k0;let q6:=decide (List.length q5=32/\(32:Nat)=32);let q7:=q2.k1;let q8:=decide (List.length q7=32/\(32:Nat)=32);let q9:=decide (List.length s.point=32/\(32:Nat)=32);let q10:=decide (List.length s.nxt=32/\(32:Nat)=32);let q11:=decide (List.length s.key=32/\(32:Nat)=32);let q12:=decide (List.length s.hash=32/\(32:Nat)=32);let q13:=decide (List.length s.secret=32/\(32:Nat)=32);let q14:=s.amount;let q15:=s.number;let q16:=s.index;let q17:=s.expiry;let q18:= !(true&&(q3==Z5&&(q2.index==0&&(q2.cap==0&&(q2.dust==0&&(q2.fee==0&&(q2.delay==0&&(q5==Z5&&q7==Z5))))))&&(s.reserve==0&&(q14==0&&(s.point==Z5&&(s.nxt==Z5&&(s.key==Z5&&(s.hash==Z5&&(true&&(s.secret==Z5&&(q1==0&&(q15==0&&(q16==0&&(q17==0&&(s.code==0&&ByteArray.toList s.route==ByteArray.toList ByteArray.empty)))))))))))))));let q19:=Z0 q4 (Z0 q6 (Z0 q8 (Z0 q9 (Z0 q10 (Z0 q11 (Z0 q12 (Z0 q13 (Z0 q18 (ok=false) (ok=false)) False) False) False) False) False) False) False) False;
 Z0 (decide (0<=q1)) (Z0 (!decide (q1<=2147483647)) q19 (Z0 (decide (0<=q15)) (Z0 (!decide (q15<=2147483647)) q19 (Z0 (decide (0<=q16)) (Z0 (!decide (q16<=2147483647)) q19 (Z0 (decide (0<=q17)) (Z0 (!decide (q17<=2147483647)) q19 (Z0 q4 (Z0 q6 (Z0 q8 (Z0 q9 (Z0 q10 (Z0 q11 (Z0 q12 (Z0 q13 (Z0 q18 (ok=false) (Z0 (decide (q14<0)) (ok=false) (Z0 (decide (q14>1125899906842624)) (ok=false) (ok=true)))) False) False) False) False) False) False) False) False)) q19)) q19)) q19)) q19) (by kernel_rfl) ?_
 conv=>zeta
 try simp only [Z8]
 try simp only [Ze]
 try simp only [Za]
 try simp only [Zf]
 try simp only [Zg]
 try simp only [Z9]
 try simp only [Y_s]
 obtain ⟨h0,h1,h2,h3,h4,h5,h6,h7,h8,hb⟩:=hl
 simp only [h0,h1,h2,h3,h4,h5,h6,h7,h8,and_self,decide_true,true_and,forall_const,Bool.not_eq_true',Bool.not_eq_false',decide_eq_true_eq,decide_eq_false_iff_not,Int.not_le,Int.not_lt,reduceCtorEq,false_implies,and_true]
 cases ok with
 | true=>
  obtain ⟨⟨w0,w1,w2,w3,w4,w5,w6,w7,w8,w9⟩,hr,hk⟩:=hok.1 rfl
  have hk':=hk
  simp only [kindOk] at hk
  repeat' first
   | trivial
   | apply And.intro
   | intro
  all_goals first
   | omega
   | (exfalso;omega)
   | (rename_i hq;exact absurd (hr.symm.trans hq) (by decide))
   | (rename_i hq _;exact absurd (hr.symm.trans hq) (by decide))
   | (rename_i hq _ _;exact absurd (hr.symm.trans hq) (by decide))
 | false=>
  have hn:¬ZS s 4:=fun h=>absurd (hok.2 h) (by decide)
  repeat' first
   | trivial
   | apply And.intro
   | intro
  all_goals first
   | exact absurd (ZS.mk ⟨by omega,by omega,by omega,by omega,by omega,by omega,by omega,by omega,by omega,by omega⟩ (by assumption) (by simp only [kindOk]<;>omega)) hn
   | exact absurd (ZS.mk ⟨by omega,by omega,by omega,by omega,by omega,by omega,by omega,by omega,by omega,by omega⟩ (by assumption) trivial) hn
theorem Zn3 (s:ZA) (ok:Bool) (hl:s.Len) (hok:ok=true↔ZS s 5):
  evF Z0k 40 35 [.agg (.int .i64 5::s.r)] ⟨0,[]⟩ (chK ok):=by
 refine @Eq.mpr _ (let q1:=s.id;let q2:=s.t;let q3:=q2.fund;let q4:=decide (List.length q3=32/\(32:Nat)=32);let q5:=q2.k0;let q6:=decide (List.length q5=32/\(32:Nat)=32);let q7:=q2.k1;let q8:=decide (List.length q7=32/\(32:Nat)=32);let q9:=decide (List.length s.point=32/\(32:Nat)=32);let q10:=decide (List.length s.nxt=32/\(32:Nat)=32);let q11:=decide (List.length s.key=32/\(32:Nat)=32);let q12:=decide (List.length s.hash=32/\(32:Nat)=32);let q13:=decide (List.length s.tag=32/\(32:Nat)=32);let q14:=decide (List.length s.secret=32/\(32:Nat)=32);let q15:=s.amount;let q16:=s.number;let q17:=s.index;let q18:=s.expiry;let q19:= !(true&&(q3==Z5&&(q2.index==0&&(q2.cap==0&&(q2.dust==0&&(q2.fee==0&&(q2.delay==0&&(q5==Z5&&q7==Z5))))))&&(s.reserve==0&&(q15==0&&(s.point==Z5&&(s.nxt==Z5&&(s.key==Z5&&(s.hash==Z5&&(s.tag==Z5&&(s.secret==Z5&&(q1==0&&(q16==0&&(q17==0&&(q18==0&&(s.code==0&&ByteArray.toList s.route==ByteArray.toList ByteArray.empty)))))))))))))));let q20:=Z0 q4 (Z0 q6 (Z0 q8 (Z0 q9 (Z0 q10 (Z0 q11 (Z0 q12 (Z0 q13 (Z0 q14 (Z0 q19 (ok=false) (ok=false)) False) False) False) False) False) False) False) False) False;
 Z0 (decide (0<=q1)) (Z0 (!decide (q1<=2147483647)) q20 (Z0 (decide (0<=q16)) (Z0 (!decide (q16<=2147483647)) q20 (Z0 (decide (0<=q17)) (Z0 (!decide (q17<=2147483647)) q20 (Z0 (decide (0<=q18)) (Z0 (!decide (q18<=2147483647)) q20 (Z0 q4 (Z0 q6 (Z0 q8 (Z0 q9 (Z0 q10 (Z0 q11 (Z0 q12 (Z0 q13 (Z0 q14 (Z0 q19 (ok=false) (Z0 (decide (q15<0)) (ok=false) (Z0 (decide (q15>1125899906842624)) (ok=false) (ok=true)))) False) False) False) False) False) False) False) False) False)) q20)) q20)) q20)) q20) (by kernel_rfl) ?_
 conv=>zeta
 try simp only [Z8]
 try simp only [Ze]
 try simp only [Za]
 try simp only [Zf]
 try simp only [Zg]
 try simp only [Z9]
 try simp only [Y_s]
 obtain ⟨h0,h1,h2,h3,h4,h5,h6,h7,h8,hb⟩:=hl
 simp only [h0,h1,h2,h3,h4,h5,h6,h7,h8,and_self,decide_true,true_and,forall_const,Bool.not_eq_true',Bool.not_eq_false',decide_eq_true_eq,decide_eq_false_iff_not,Int.not_le,Int.not_lt,reduceCtorEq,false_implies,and_true]
 cases ok with
 | true=>
  obtain ⟨⟨w0,w1,w2,w3,w4,w5,w6,w7,w8,w9⟩,hr,hk⟩:=hok.1 rfl
  have hk':=hk
  simp only [kindOk] at hk
  repeat' first
   | trivial
   | apply And.intro
   | intro
  all_goals first
   | omega
   | (exfalso;omega)
   | (rename_i hq;exact absurd (hr.symm.trans hq) (by decide))
   | (rename_i hq _;exact absurd (hr.symm.trans hq) (by decide))
   | (rename_i hq _ _;exact absurd (hr.symm.trans hq) (by decide))
 | false=>
  have hn:¬ZS s 5:=fun h=>absurd (hok.2 h) (by decide)
  repeat' first
   | trivial
   | apply And.intro
   | intro
  all_goals first
   | exact absurd (ZS.mk ⟨by omega,by omega,by omega,by omega,by omega,by omega,by omega,by omega,by omega,by omega⟩ (by assumption) (by simp only [kindOk]<;>omega)) hn
   | exact absurd (ZS.mk ⟨by omega,by omega,by omega,by omega,by omega,by omega,by omega,by omega,by omega,by omega⟩ (by assumption) trivial) hn
theorem Zn4 (s:ZA) (ok:Bool) (hl:s.Len) (hok:ok=true↔ZS s 6):
  evF Z0k 40 35 [.agg (.int .i64 6::s.r)] ⟨0,[]⟩ (chK ok):=by
 refine @Eq.mpr _ (let q1:=s.t;let q2:=q1.fund;let q3:=decide (List.length q2=32/\(32:Nat)=32);let q4:=q1.k0;let q5:=decide (List.length q4=32/\(32:Nat)=32);let q6:=q1.k1;let q7:=decide (List.length q6=32/\(32:Nat)=32);let q8:=decide (List.length s.point=32/\(32:Nat)=32);let q9:=decide (List.length s.nxt=32/\(32:Nat)=32);let q10:=decide (List.length s.key=32/\(32:Nat)=32);let q11:=decide (List.length s.tag=32/\(32:Nat)=32);let q12:=decide (List.length s.secret=32/\(32:Nat)=32);let q13:=s.number;let q14:=s.index;let q15:= !(true&&(q2==Z5&&(q1.index==0&&(q1.cap==0&&(q1.dust==0&&(q1.fee==0&&(q1.delay==0&&(q4==Z5&&q6==Z5))))))&&(s.reserve==0&&(true&&(s.point==Z5&&(s.nxt==Z5&&(s.key==Z5&&(true&&(s.tag==Z5&&(s.secret==Z5&&(true&&(q13==0&&(q14==0&&(true&&(s.code==0&&true)))))))))))))));let q16:=Z0 q3 (Z0 q5 (Z0 q7 (Z0 q8 (Z0 q9 (Z0 q10 (Z0 q11 (Z0 q12 (Z0 q15 (ok=false) (ok=false)) False) False) False) False) False) False) False) False;let q17:=s.expiry;let q18:=s.amount;
 Z0 (decide (0<=s.id)) (Z0 (!decide (s.id<=2147483647)) q16 (Z0 (decide (0<=q13)) (Z0 (!decide (q13<=2147483647)) q16 (Z0 (decide (0<=q14)) (Z0 (!decide (q14<=2147483647)) q16 (Z0 (decide (0<=q17)) (Z0 (!decide (q17<=2147483647)) q16 (Z0 q3 (Z0 q5 (Z0 q7 (Z0 q8 (Z0 q9 (Z0 q10 (Z0 q11 (Z0 q12 (Z0 q15 (ok=false) (Z0 (decide (q18<0)) (ok=false) (Z0 (decide (q18>1125899906842624)) (ok=false) (Z0 (decide (q18>0)) (Z0 (decide (q17>0)) (Z0 (!decide ((↑(ByteArray.size s.route):Int)<=512)) (ok=false) (ok=true)) (ok=false)) (ok=false))))) False) False) False) False) False) False) False) False)) q16)) q16)) q16)) q16) (by kernel_rfl) ?_
 conv=>zeta
 try simp only [Z8]
 try simp only [Ze]
 try simp only [Za]
 try simp only [Zf]
 try simp only [Zg]
 try simp only [Z9]
 try simp only [Y_s]
 obtain ⟨h0,h1,h2,h3,h4,h5,h6,h7,h8,hb⟩:=hl
 simp only [h0,h1,h2,h3,h4,h5,h6,h7,h8,and_self,decide_true,true_and,forall_const,Bool.not_eq_true',Bool.not_eq_false',decide_eq_true_eq,decide_eq_false_iff_not,Int.not_le,Int.not_lt,reduceCtorEq,false_implies,and_true]
 cases ok with
 | true=>
  obtain ⟨⟨w0,w1,w2,w3,w4,w5,w6,w7,w8,w9⟩,hr,hk⟩:=hok.1 rfl
  have hk':=hk
  simp only [kindOk] at hk
  repeat' first
   | trivial
   | apply And.intro
   | intro
  all_goals first
   | omega
   | (exfalso;omega)
   | (rename_i hq;exact absurd (hr.symm.trans hq) (by decide))
   | (rename_i hq _;exact absurd (hr.symm.trans hq) (by decide))
   | (rename_i hq _ _;exact absurd (hr.symm.trans hq) (by decide))
 | false=>
  have hn:¬ZS s 6:=fun h=>absurd (hok.2 h) (by decide)
  repeat' first
   | trivial
   | apply And.intro
   | intro
  all_goals first
   | exact absurd (ZS.mk ⟨by omega,by omega,by omega,by omega,by omega,by omega,by omega,by omega,by omega,by omega⟩ (by assumption) (by simp only [kindOk]<;>omega)) hn
   | exact absurd (ZS.mk ⟨by omega,by omega,by omega,by omega,by omega,by omega,by omega,by omega,by omega,by omega⟩ (by assumption) trivial) hn
theorem Zn5 (s:ZA) (ok:Bool) (hl:s.Len) (hok:ok=true↔ZS s 7):
  evF Z0k 40 35 [.agg (.int .i64 7::s.r)] ⟨0,[]⟩ (chK ok):=by
 refine @Eq.mpr _ (let q1:=s.t;let q2:=q1.fund;let q3:=decide (List.length q2=32/\(32:Nat)=32);let q4:=q1.k0;let q5:=decide (List.length q4=32/\(32:Nat)=32);let q6:=q1.k1;let q7:=decide (List.length q6=32/\(32:Nat)=32);let q8:=decide (List.length s.point=32/\(32:Nat)=32);let q9:=decide (List.length s.nxt=32/\(32:Nat)=32);let q10:=decide (List.length s.key=32/\(32:Nat)=32);let q11:=decide (List.length s.hash=32/\(32:Nat)=32);let q12:=decide (List.length s.tag=32/\(32:Nat)=32);let q13:=s.amount;let q14:=s.number;let q15:=s.index;let q16:=s.expiry;let q17:= !(true&&(q2==Z5&&(q1.index==0&&(q1.cap==0&&(q1.dust==0&&(q1.fee==0&&(q1.delay==0&&(q4==Z5&&q6==Z5))))))&&(s.reserve==0&&(q13==0&&(s.point==Z5&&(s.nxt==Z5&&(s.key==Z5&&(s.hash==Z5&&(s.tag==Z5&&(true&&(true&&(q14==0&&(q15==0&&(q16==0&&(s.code==0&&ByteArray.toList s.route==ByteArray.toList ByteArray.empty)))))))))))))));let q18:=Z0 q3 (Z0 q5 (Z0 q7 (Z0 q8 (Z0 q9 (Z0 q10 (Z0 q11 (Z0 q12 (Z0 q17 (ok=false) (ok=false)) False) False) False) False) False) False) False) False;
 Z0 (decide (0<=s.id)) (Z0 (!decide (s.id<=2147483647)) q18 (Z0 (decide (0<=q14)) (Z0 (!decide (q14<=2147483647)) q18 (Z0 (decide (0<=q15)) (Z0 (!decide (q15<=2147483647)) q18 (Z0 (decide (0<=q16)) (Z0 (!decide (q16<=2147483647)) q18 (Z0 q3 (Z0 q5 (Z0 q7 (Z0 q8 (Z0 q9 (Z0 q10 (Z0 q11 (Z0 q12 (Z0 q17 (ok=false) (Z0 (decide (q13<0)) (ok=false) (Z0 (decide (q13>1125899906842624)) (ok=false) (ok=true)))) False) False) False) False) False) False) False) False)) q18)) q18)) q18)) q18) (by kernel_rfl) ?_
 conv=>zeta
 try simp only [Z8]
 try simp only [Ze]
 try simp only [Za]
 try simp only [Zf]
 try simp only [Zg]
 try simp only [Z9]
 try simp only [Y_s]
 obtain ⟨h0,h1,h2,h3,h4,h5,h6,h7,h8,hb⟩:=hl
 simp only [h0,h1,h2,h3,h4,h5,h6,h7,h8,and_self,decide_true,true_and,forall_const,Bool.not_eq_true',Bool.not_eq_false',decide_eq_true_eq,decide_eq_false_iff_not,Int.not_le,Int.not_lt,reduceCtorEq,false_implies,and_true]
 cases ok with
 | true=>
  obtain ⟨⟨w0,w1,w2,w3,w4,w5,w6,w7,w8,w9⟩,hr,hk⟩:=hok.1 rfl
  have hk':=hk
  simp only [kindOk] at hk
  repeat' first
   | trivial
   | apply And.intro
   | intro
  all_goals first
   | omega
   | (exfalso;omega)
   | (rename_i hq;exact absurd (hr.symm.trans hq) (by decide))
   | (rename_i hq _;exact absurd (hr.symm.trans hq) (by decide))
   | (rename_i hq _ _;exact absurd (hr.symm.trans hq) (by decide))
 | false=>
  have hn:¬ZS s 7:=fun h=>absurd (hok.2 h) (by decide)
  repeat' first
   | trivial
   | apply And.intro
   | intro
  all_goals first
   | exact absurd (ZS.mk ⟨by omega,by omega,by omega,by omega,by omega,by omega,by omega,by omega,by omega,by omega⟩ (by assumption) (by simp only [kindOk]<;>omega)) hn
   | exact absurd (ZS.mk ⟨by omega,by omega,by omega,by omega,by omega,by omega,by omega,by omega,by omega,by omega⟩ (by assumption) trivial) hn
theorem Zn6 (s:ZA) (ok:Bool) (hl:s.Len) (hok:ok=true↔ZS s 8):
  evF Z0k 40 35 [.agg (.int .i64 8::s.r)] ⟨0,[]⟩ (chK ok):=by
 refine @Eq.mpr _ (let q1:=s.t;let q2:=q1.fund;let q3:=decide (List.length q2=32/\(32:Nat)=32);let q4:=q1.k0;let q5:=decide (List.length q4=32/\(32:Nat)=32);let q6:=q1.k1;let q7:=decide (List.length q6=32/\(32:Nat)=32);let q8:=decide (List.length s.point=32/\(32:Nat)=32);let q9:=decide (List.length s.nxt=32/\(32:Nat)=32);let q10:=decide (List.length s.key=32/\(32:Nat)=32);let q11:=decide (List.length s.hash=32/\(32:Nat)=32);let q12:=decide (List.length s.tag=32/\(32:Nat)=32);let q13:=decide (List.length s.secret=32/\(32:Nat)=32);let q14:=s.amount;let q15:=s.number;let q16:=s.index;let q17:=s.expiry;let q18:= !(true&&(q2==Z5&&(q1.index==0&&(q1.cap==0&&(q1.dust==0&&(q1.fee==0&&(q1.delay==0&&(q4==Z5&&q6==Z5))))))&&(s.reserve==0&&(q14==0&&(s.point==Z5&&(s.nxt==Z5&&(s.key==Z5&&(s.hash==Z5&&(s.tag==Z5&&(s.secret==Z5&&(true&&(q15==0&&(q16==0&&(q17==0&&(true&&ByteArray.toList s.route==ByteArray.toList ByteArray.empty)))))))))))))));let q19:=Z0 q3 (Z0 q5 (Z0 q7 (Z0 q8 (Z0 q9 (Z0 q10 (Z0 q11 (Z0 q12 (Z0 q13 (Z0 q18 (ok=false) (ok=false)) False) False) False) False) False) False) False) False) False;
 Z0 (decide (0<=s.id)) (Z0 (!decide (s.id<=2147483647)) q19 (Z0 (decide (0<=q15)) (Z0 (!decide (q15<=2147483647)) q19 (Z0 (decide (0<=q16)) (Z0 (!decide (q16<=2147483647)) q19 (Z0 (decide (0<=q17)) (Z0 (!decide (q17<=2147483647)) q19 (Z0 q3 (Z0 q5 (Z0 q7 (Z0 q8 (Z0 q9 (Z0 q10 (Z0 q11 (Z0 q12 (Z0 q13 (Z0 q18 (ok=false) (Z0 (decide (q14<0)) (ok=false) (Z0 (decide (q14>1125899906842624)) (ok=false) (Z0 (decide (1<=s.code)) (Z0 (!decide (s.code<=999)) (ok=false) (ok=true)) (ok=false))))) False) False) False) False) False) False) False) False) False)) q19)) q19)) q19)) q19) (by kernel_rfl) ?_
 conv=>zeta
 try simp only [Z8]
 try simp only [Ze]
 try simp only [Za]
 try simp only [Zf]
 try simp only [Zg]
 try simp only [Z9]
 try simp only [Y_s]
 obtain ⟨h0,h1,h2,h3,h4,h5,h6,h7,h8,hb⟩:=hl
 simp only [h0,h1,h2,h3,h4,h5,h6,h7,h8,and_self,decide_true,true_and,forall_const,Bool.not_eq_true',Bool.not_eq_false',decide_eq_true_eq,decide_eq_false_iff_not,Int.not_le,Int.not_lt,reduceCtorEq,false_implies,and_true]
 cases ok with
 | true=>
  obtain ⟨⟨w0,w1,w2,w3,w4,w5,w6,w7,w8,w9⟩,hr,hk⟩:=hok.1 rfl
  have hk':=hk
  simp only [kindOk] at hk
  repeat' first
   | trivial
   | apply And.intro
   | intro
  all_goals first
   | omega
   | (exfalso;omega)
   | (rename_i hq;exact absurd (hr.symm.trans hq) (by decide))
   | (rename_i hq _;exact absurd (hr.symm.trans hq) (by decide))
   | (rename_i hq _ _;exact absurd (hr.symm.trans hq) (by decide))
 | false=>
  have hn:¬ZS s 8:=fun h=>absurd (hok.2 h) (by decide)
  repeat' first
   | trivial
   | apply And.intro
   | intro
  all_goals first
   | exact absurd (ZS.mk ⟨by omega,by omega,by omega,by omega,by omega,by omega,by omega,by omega,by omega,by omega⟩ (by assumption) (by simp only [kindOk]<;>omega)) hn
   | exact absurd (ZS.mk ⟨by omega,by omega,by omega,by omega,by omega,by omega,by omega,by omega,by omega,by omega⟩ (by assumption) trivial) hn
theorem Zn7 (s:ZA) (ok:Bool) (hl:s.Len) (hok:ok=true↔ZS s 9):
  evF Z0k 40 35 [.agg (.int .i64 9::s.r)] ⟨0,[]⟩ (chK ok):=by
 refine @Eq.mpr _ (let q1:=s.id;let q2:=s.t;let q3:=q2.fund;let q4:=decide (List.length q3=32/\(32:Nat)=32);let q5:=q2.k0;let q6:=decide (List.length q5=32/\(32:Nat)=32);let q7:=q2.k1;let q8:=decide (List.length q7=32/\(32:Nat)=32);let q9:=decide (List.length s.point=32/\(32:Nat)=32);let q10:=decide (List.length s.nxt=32/\(32:Nat)=32);let q11:=decide (List.length s.key=32/\(32:Nat)=32);let q12:=decide (List.length s.hash=32/\(32:Nat)=32);let q13:=decide (List.length s.secret=32/\(32:Nat)=32);let q14:=s.amount;let q15:=s.index;let q16:=s.expiry;let q17:= !(true&&(q3==Z5&&(q2.index==0&&(q2.cap==0&&(q2.dust==0&&(q2.fee==0&&(q2.delay==0&&(q5==Z5&&q7==Z5))))))&&(s.reserve==0&&(q14==0&&(s.point==Z5&&(s.nxt==Z5&&(s.key==Z5&&(s.hash==Z5&&(true&&(s.secret==Z5&&(q1==0&&(true&&(q15==0&&(q16==0&&(s.code==0&&ByteArray.toList s.route==ByteArray.toList ByteArray.empty)))))))))))))));let q18:=Z0 q4 (Z0 q6 (Z0 q8 (Z0 q9 (Z0 q10 (Z0 q11 (Z0 q12 (Z0 q13 (Z0 q17 (ok=false) (ok=false)) False) False) False) False) False) False) False) False;
 Z0 (decide (0<=q1)) (Z0 (!decide (q1<=2147483647)) q18 (Z0 (decide (0<=s.number)) (Z0 (!decide (s.number<=2147483647)) q18 (Z0 (decide (0<=q15)) (Z0 (!decide (q15<=2147483647)) q18 (Z0 (decide (0<=q16)) (Z0 (!decide (q16<=2147483647)) q18 (Z0 q4 (Z0 q6 (Z0 q8 (Z0 q9 (Z0 q10 (Z0 q11 (Z0 q12 (Z0 q13 (Z0 q17 (ok=false) (Z0 (decide (q14<0)) (ok=false) (Z0 (decide (q14>1125899906842624)) (ok=false) (ok=true)))) False) False) False) False) False) False) False) False)) q18)) q18)) q18)) q18) (by kernel_rfl) ?_
 conv=>zeta
 try simp only [Z8]
 try simp only [Ze]
 try simp only [Za]
 try simp only [Zf]
 try simp only [Zg]
 try simp only [Z9]
 try simp only [Y_s]
 obtain ⟨h0,h1,h2,h3,h4,h5,h6,h7,h8,hb⟩:=hl
 simp only [h0,h1,h2,h3,h4,h5,h6,h7,h8,and_self,decide_true,true_and,forall_const,Bool.not_eq_true',Bool.not_eq_false',decide_eq_true_eq,decide_eq_false_iff_not,Int.not_le,Int.not_lt,reduceCtorEq,false_implies,and_true]
 cases ok with
 | true=>
  obtain ⟨⟨w0,w1,w2,w3,w4,w5,w6,w7,w8,w9⟩,hr,hk⟩:=hok.1 rfl
  have hk':=hk
  simp only [kindOk] at hk
  repeat' first
   | trivial
   | apply And.intro
   | intro
  all_goals first
   | omega
   | (exfalso;omega)
   | (rename_i hq;exact absurd (hr.symm.trans hq) (by decide))
   | (rename_i hq _;exact absurd (hr.symm.trans hq) (by decide))
   | (rename_i hq _ _;exact absurd (hr.symm.trans hq) (by decide))
 | false=>
  have hn:¬ZS s 9:=fun h=>absurd (hok.2 h) (by decide)
  repeat' first
   | trivial
   | apply And.intro
   | intro
  all_goals first
   | exact absurd (ZS.mk ⟨by omega,by omega,by omega,by omega,by omega,by omega,by omega,by omega,by omega,by omega⟩ (by assumption) (by simp only [kindOk]<;>omega)) hn
   | exact absurd (ZS.mk ⟨by omega,by omega,by omega,by omega,by omega,by omega,by omega,by omega,by omega,by omega⟩ (by assumption) trivial) hn
theorem Zk5 (s:ZA) (ok:Bool) (hl:s.Len) (hok:ok=true↔ZS s 10):
  evF Z0k 40 35 [.agg (.int .i64 10::s.r)] ⟨0,[]⟩ (chK ok):=by
 refine @Eq.mpr _ (let q1:=s.id;let q2:=s.t;let q3:=q2.fund;let q4:=decide (List.length q3=32/\(32:Nat)=32);let q5:=q2.k0;let q6:=decide (List.length q5=32/\(32:Nat)=32);let q7:=q2.k1;let q8:=decide (List.length q7=32/\(32:Nat)=32);let q9:=decide (List.length s.point=32/\(32:Nat)=32);let q10:=decide (List.length s.key=32/\(32:Nat)=32);let q11:=decide (List.length s.hash=32/\(32:Nat)=32);let q12:=decide (List.length s.tag=32/\(32:Nat)=32);let q13:=s.amount;let q14:=s.index;let q15:=s.expiry;let q16:= !(true&&(q3==Z5&&(q2.index==0&&(q2.cap==0&&(q2.dust==0&&(q2.fee==0&&(q2.delay==0&&(q5==Z5&&q7==Z5))))))&&(s.reserve==0&&(q13==0&&(s.point==Z5&&(true&&(s.key==Z5&&(s.hash==Z5&&(s.tag==Z5&&(true&&(q1==0&&(true&&(q14==0&&(q15==0&&(s.code==0&&ByteArray.toList s.route==ByteArray.toList ByteArray.empty)))))))))))))));let q17:=Z0 q4 (Z0 q6 (Z0 q8 (Z0 q9 (Z0 q10 (Z0 q11 (Z0 q12 (Z0 q16 (ok=false) (ok=false)) False) False) False) False) False) False) False;
 Z0 (decide (0<=q1)) (Z0 (!decide (q1<=2147483647)) q17 (Z0 (decide (0<=s.number)) (Z0 (!decide (s.number<=2147483647)) q17 (Z0 (decide (0<=q14)) (Z0 (!decide (q14<=2147483647)) q17 (Z0 (decide (0<=q15)) (Z0 (!decide (q15<=2147483647)) q17 (Z0 q4 (Z0 q6 (Z0 q8 (Z0 q9 (Z0 q10 (Z0 q11 (Z0 q12 (Z0 q16 (ok=false) (Z0 (decide (q13<0)) (ok=false) (Z0 (decide (q13>1125899906842624)) (ok=false) (ok=true)))) False) False) False) False) False) False) False)) q17)) q17)) q17)) q17) (by kernel_rfl) ?_
 conv=>zeta
 try simp only [Z8]
 try simp only [Ze]
 try simp only [Za]
 try simp only [Zf]
 try simp only [Zg]
 try simp only [Z9]
 try simp only [Y_s]
 obtain ⟨h0,h1,h2,h3,h4,h5,h6,h7,h8,hb⟩:=hl
 simp only [h0,h1,h2,h3,h4,h5,h6,h7,h8,and_self,decide_true,true_and,forall_const,Bool.not_eq_true',Bool.not_eq_false',decide_eq_true_eq,decide_eq_false_iff_not,Int.not_le,Int.not_lt,reduceCtorEq,false_implies,and_true]
 cases ok with
 | true=>
  obtain ⟨⟨w0,w1,w2,w3,w4,w5,w6,w7,w8,w9⟩,hr,hk⟩:=hok.1 rfl
  have hk':=hk
  simp only [kindOk] at hk
  repeat' first
   | trivial
   | apply And.intro
   | intro
  all_goals first
   | omega
   | (exfalso;omega)
   | (rename_i hq;exact absurd (hr.symm.trans hq) (by decide))
   | (rename_i hq _;exact absurd (hr.symm.trans hq) (by decide))
   | (rename_i hq _ _;exact absurd (hr.symm.trans hq) (by decide))
 | false=>
  have hn:¬ZS s 10:=fun h=>absurd (hok.2 h) (by decide)
  repeat' first
   | trivial
   | apply And.intro
   | intro
  all_goals first
   | exact absurd (ZS.mk ⟨by omega,by omega,by omega,by omega,by omega,by omega,by omega,by omega,by omega,by omega⟩ (by assumption) (by simp only [kindOk]<;>omega)) hn
   | exact absurd (ZS.mk ⟨by omega,by omega,by omega,by omega,by omega,by omega,by omega,by omega,by omega,by omega⟩ (by assumption) trivial) hn
theorem Zk6 (s:ZA) (ok:Bool) (hl:s.Len) (hok:ok=true↔ZS s 11):
  evF Z0k 40 35 [.agg (.int .i64 11::s.r)] ⟨0,[]⟩ (chK ok):=by
 refine @Eq.mpr _ (let q1:=s.t;let q2:=q1.fund;let q3:=decide (List.length q2=32/\(32:Nat)=32);let q4:=q1.k0;let q5:=decide (List.length q4=32/\(32:Nat)=32);let q6:=q1.k1;let q7:=decide (List.length q6=32/\(32:Nat)=32);let q8:=decide (List.length s.point=32/\(32:Nat)=32);let q9:=decide (List.length s.nxt=32/\(32:Nat)=32);let q10:=decide (List.length s.key=32/\(32:Nat)=32);let q11:=decide (List.length s.hash=32/\(32:Nat)=32);let q12:=decide (List.length s.tag=32/\(32:Nat)=32);let q13:=decide (List.length s.secret=32/\(32:Nat)=32);let q14:=s.amount;let q15:=s.index;let q16:=s.expiry;let q17:= !(true&&(q2==Z5&&(q1.index==0&&(q1.cap==0&&(q1.dust==0&&(q1.fee==0&&(q1.delay==0&&(q4==Z5&&q6==Z5))))))&&(s.reserve==0&&(q14==0&&(s.point==Z5&&(s.nxt==Z5&&(s.key==Z5&&(s.hash==Z5&&(s.tag==Z5&&(s.secret==Z5&&(true&&(true&&(q15==0&&(q16==0&&(s.code==0&&ByteArray.toList s.route==ByteArray.toList ByteArray.empty)))))))))))))));let q18:=Z0 q3 (Z0 q5 (Z0 q7 (Z0 q8 (Z0 q9 (Z0 q10 (Z0 q11 (Z0 q12 (Z0 q13 (Z0 q17 (ok=false) (ok=false)) False) False) False) False) False) False) False) False) False;
 Z0 (decide (0<=s.id)) (Z0 (!decide (s.id<=2147483647)) q18 (Z0 (decide (0<=s.number)) (Z0 (!decide (s.number<=2147483647)) q18 (Z0 (decide (0<=q15)) (Z0 (!decide (q15<=2147483647)) q18 (Z0 (decide (0<=q16)) (Z0 (!decide (q16<=2147483647)) q18 (Z0 q3 (Z0 q5 (Z0 q7 (Z0 q8 (Z0 q9 (Z0 q10 (Z0 q11 (Z0 q12 (Z0 q13 (Z0 q17 (ok=false) (Z0 (decide (q14<0)) (ok=false) (Z0 (decide (q14>1125899906842624)) (ok=false) (ok=true)))) False) False) False) False) False) False) False) False) False)) q18)) q18)) q18)) q18) (by kernel_rfl) ?_
 conv=>zeta
 try simp only [Z8]
 try simp only [Ze]
 try simp only [Za]
 try simp only [Zf]
 try simp only [Zg]
 try simp only [Z9]
 try simp only [Y_s]
 obtain ⟨h0,h1,h2,h3,h4,h5,h6,h7,h8,hb⟩:=hl
 simp only [h0,h1,h2,h3,h4,h5,h6,h7,h8,and_self,decide_true,true_and,forall_const,Bool.not_eq_true',Bool.not_eq_false',decide_eq_true_eq,decide_eq_false_iff_not,Int.not_le,Int.not_lt,reduceCtorEq,false_implies,and_true]
 cases ok with
 | true=>
  obtain ⟨⟨w0,w1,w2,w3,w4,w5,w6,w7,w8,w9⟩,hr,hk⟩:=hok.1 rfl
  have hk':=hk
  simp only [kindOk] at hk
  repeat' first
   | trivial
   | apply And.intro
   | intro
  all_goals first
   | omega
   | (exfalso;omega)
   | (rename_i hq;exact absurd (hr.symm.trans hq) (by decide))
   | (rename_i hq _;exact absurd (hr.symm.trans hq) (by decide))
   | (rename_i hq _ _;exact absurd (hr.symm.trans hq) (by decide))
 | false=>
  have hn:¬ZS s 11:=fun h=>absurd (hok.2 h) (by decide)
  repeat' first
   | trivial
   | apply And.intro
   | intro
  all_goals first
   | exact absurd (ZS.mk ⟨by omega,by omega,by omega,by omega,by omega,by omega,by omega,by omega,by omega,by omega⟩ (by assumption) (by simp only [kindOk]<;>omega)) hn
   | exact absurd (ZS.mk ⟨by omega,by omega,by omega,by omega,by omega,by omega,by omega,by omega,by omega,by omega⟩ (by assumption) trivial) hn
theorem Zk7 (s:ZA) (ok:Bool) (hl:s.Len) (hok:ok=true↔ZS s 12):
  evF Z0k 40 35 [.agg (.int .i64 12::s.r)] ⟨0,[]⟩ (chK ok):=by
 refine @Eq.mpr _ (let q1:=s.id;let q2:=s.t;let q3:=q2.fund;let q4:=decide (List.length q3=32/\(32:Nat)=32);let q5:=q2.k0;let q6:=decide (List.length q5=32/\(32:Nat)=32);let q7:=q2.k1;let q8:=decide (List.length q7=32/\(32:Nat)=32);let q9:=decide (List.length s.point=32/\(32:Nat)=32);let q10:=decide (List.length s.nxt=32/\(32:Nat)=32);let q11:=decide (List.length s.key=32/\(32:Nat)=32);let q12:=decide (List.length s.hash=32/\(32:Nat)=32);let q13:=decide (List.length s.tag=32/\(32:Nat)=32);let q14:=decide (List.length s.secret=32/\(32:Nat)=32);let q15:=s.amount;let q16:=s.number;let q17:=s.index;let q18:=s.expiry;let q19:= !(true&&(q3==Z5&&(q2.index==0&&(q2.cap==0&&(q2.dust==0&&(q2.fee==0&&(q2.delay==0&&(q5==Z5&&q7==Z5))))))&&(s.reserve==0&&(q15==0&&(s.point==Z5&&(s.nxt==Z5&&(s.key==Z5&&(s.hash==Z5&&(s.tag==Z5&&(s.secret==Z5&&(q1==0&&(q16==0&&(q17==0&&(q18==0&&(s.code==0&&ByteArray.toList s.route==ByteArray.toList ByteArray.empty)))))))))))))));let q20:=Z0 q4 (Z0 q6 (Z0 q8 (Z0 q9 (Z0 q10 (Z0 q11 (Z0 q12 (Z0 q13 (Z0 q14 (Z0 q19 (ok=false) (ok=false)) False) False) False) False) False) False) False) False) False;
 Z0 (decide (0<=q1)) (Z0 (!decide (q1<=2147483647)) q20 (Z0 (decide (0<=q16)) (Z0 (!decide (q16<=2147483647)) q20 (Z0 (decide (0<=q17)) (Z0 (!decide (q17<=2147483647)) q20 (Z0 (decide (0<=q18)) (Z0 (!decide (q18<=2147483647)) q20 (Z0 q4 (Z0 q6 (Z0 q8 (Z0 q9 (Z0 q10 (Z0 q11 (Z0 q12 (Z0 q13 (Z0 q14 (Z0 q19 (ok=false) (Z0 (decide (q15<0)) (ok=false) (Z0 (decide (q15>1125899906842624)) (ok=false) (ok=true)))) False) False) False) False) False) False) False) False) False)) q20)) q20)) q20)) q20) (by kernel_rfl) ?_
 conv=>zeta
 try simp only [Z8]
 try simp only [Ze]
 try simp only [Za]
 try simp only [Zf]
 try simp only [Zg]
 try simp only [Z9]
 try simp only [Y_s]
 obtain ⟨h0,h1,h2,h3,h4,h5,h6,h7,h8,hb⟩:=hl
 simp only [h0,h1,h2,h3,h4,h5,h6,h7,h8,and_self,decide_true,true_and,forall_const,Bool.not_eq_true',Bool.not_eq_false',decide_eq_true_eq,decide_eq_false_iff_not,Int.not_le,Int.not_lt,reduceCtorEq,false_implies,and_true]
 cases ok with
 | true=>
  obtain ⟨⟨w0,w1,w2,w3,w4,w5,w6,w7,w8,w9⟩,hr,hk⟩:=hok.1 rfl
  have hk':=hk
  simp only [kindOk] at hk
  repeat' first
   | trivial
   | apply And.intro
   | intro
  all_goals first
   | omega
   | (exfalso;omega)
   | (rename_i hq;exact absurd (hr.symm.trans hq) (by decide))
   | (rename_i hq _;exact absurd (hr.symm.trans hq) (by decide))
   | (rename_i hq _ _;exact absurd (hr.symm.trans hq) (by decide))
 | false=>
  have hn:¬ZS s 12:=fun h=>absurd (hok.2 h) (by decide)
  repeat' first
   | trivial
   | apply And.intro
   | intro
  all_goals first
   | exact absurd (ZS.mk ⟨by omega,by omega,by omega,by omega,by omega,by omega,by omega,by omega,by omega,by omega⟩ (by assumption) (by simp only [kindOk]<;>omega)) hn
   | exact absurd (ZS.mk ⟨by omega,by omega,by omega,by omega,by omega,by omega,by omega,by omega,by omega,by omega⟩ (by assumption) trivial) hn
theorem Zn8 (s:ZA) (ok:Bool) (hl:s.Len) (hok:ok=true↔ZS s 13):
  evF Z0k 40 35 [.agg (.int .i64 13::s.r)] ⟨0,[]⟩ (chK ok):=by
 refine @Eq.mpr _ (let q1:=s.id;let q2:=s.t;let q3:=q2.fund;let q4:=decide (List.length q3=32/\(32:Nat)=32);let q5:=q2.k0;let q6:=decide (List.length q5=32/\(32:Nat)=32);let q7:=q2.k1;let q8:=decide (List.length q7=32/\(32:Nat)=32);let q9:=decide (List.length s.point=32/\(32:Nat)=32);let q10:=decide (List.length s.nxt=32/\(32:Nat)=32);let q11:=decide (List.length s.key=32/\(32:Nat)=32);let q12:=decide (List.length s.hash=32/\(32:Nat)=32);let q13:=decide (List.length s.secret=32/\(32:Nat)=32);let q14:=s.number;let q15:=s.index;let q16:=s.expiry;let q17:= !(true&&(q3==Z5&&(q2.index==0&&(q2.cap==0&&(q2.dust==0&&(q2.fee==0&&(q2.delay==0&&(q5==Z5&&q7==Z5))))))&&(s.reserve==0&&(true&&(s.point==Z5&&(s.nxt==Z5&&(s.key==Z5&&(s.hash==Z5&&(true&&(s.secret==Z5&&(q1==0&&(q14==0&&(q15==0&&(q16==0&&(s.code==0&&ByteArray.toList s.route==ByteArray.toList ByteArray.empty)))))))))))))));let q18:=Z0 q4 (Z0 q6 (Z0 q8 (Z0 q9 (Z0 q10 (Z0 q11 (Z0 q12 (Z0 q13 (Z0 q17 (ok=false) (ok=false)) False) False) False) False) False) False) False) False;
 Z0 (decide (0<=q1)) (Z0 (!decide (q1<=2147483647)) q18 (Z0 (decide (0<=q14)) (Z0 (!decide (q14<=2147483647)) q18 (Z0 (decide (0<=q15)) (Z0 (!decide (q15<=2147483647)) q18 (Z0 (decide (0<=q16)) (Z0 (!decide (q16<=2147483647)) q18 (Z0 q4 (Z0 q6 (Z0 q8 (Z0 q9 (Z0 q10 (Z0 q11 (Z0 q12 (Z0 q13 (Z0 q17 (ok=false) (Z0 (decide (s.amount<0)) (ok=false) (Z0 (decide (s.amount>1125899906842624)) (ok=false) (ok=true)))) False) False) False) False) False) False) False) False)) q18)) q18)) q18)) q18) (by kernel_rfl) ?_
 conv=>zeta
 try simp only [Z8]
 try simp only [Ze]
 try simp only [Za]
 try simp only [Zf]
 try simp only [Zg]
 try simp only [Z9]
 try simp only [Y_s]
 obtain ⟨h0,h1,h2,h3,h4,h5,h6,h7,h8,hb⟩:=hl
 simp only [h0,h1,h2,h3,h4,h5,h6,h7,h8,and_self,decide_true,true_and,forall_const,Bool.not_eq_true',Bool.not_eq_false',decide_eq_true_eq,decide_eq_false_iff_not,Int.not_le,Int.not_lt,reduceCtorEq,false_implies,and_true]
 cases ok with
 | true=>
  obtain ⟨⟨w0,w1,w2,w3,w4,w5,w6,w7,w8,w9⟩,hr,hk⟩:=hok.1 rfl
  have hk':=hk
  simp only [kindOk] at hk
  repeat' first
   | trivial
   | apply And.intro
   | intro
  all_goals first
   | omega
   | (exfalso;omega)
   | (rename_i hq;exact absurd (hr.symm.trans hq) (by decide))
   | (rename_i hq _;exact absurd (hr.symm.trans hq) (by decide))
   | (rename_i hq _ _;exact absurd (hr.symm.trans hq) (by decide))
 | false=>
  have hn:¬ZS s 13:=fun h=>absurd (hok.2 h) (by decide)
  repeat' first
   | trivial
   | apply And.intro
   | intro
  all_goals first
   | exact absurd (ZS.mk ⟨by omega,by omega,by omega,by omega,by omega,by omega,by omega,by omega,by omega,by omega⟩ (by assumption) (by simp only [kindOk]<;>omega)) hn
   | exact absurd (ZS.mk ⟨by omega,by omega,by omega,by omega,by omega,by omega,by omega,by omega,by omega,by omega⟩ (by assumption) trivial) hn
theorem Zn9 (s:ZA) (ok:Bool) (hl:s.Len) (hok:ok=true↔ZS s 14):
  evF Z0k 40 35 [.agg (.int .i64 14::s.r)] ⟨0,[]⟩ (chK ok):=by
 refine @Eq.mpr _ (let q1:=s.id;let q2:=s.t;let q3:=q2.fund;let q4:=decide (List.length q3=32/\(32:Nat)=32);let q5:=q2.k0;let q6:=decide (List.length q5=32/\(32:Nat)=32);let q7:=q2.k1;let q8:=decide (List.length q7=32/\(32:Nat)=32);let q9:=decide (List.length s.point=32/\(32:Nat)=32);let q10:=decide (List.length s.nxt=32/\(32:Nat)=32);let q11:=decide (List.length s.key=32/\(32:Nat)=32);let q12:=decide (List.length s.hash=32/\(32:Nat)=32);let q13:=decide (List.length s.tag=32/\(32:Nat)=32);let q14:=decide (List.length s.secret=32/\(32:Nat)=32);let q15:=s.amount;let q16:=s.number;let q17:=s.index;let q18:=s.expiry;let q19:= !(true&&(q3==Z5&&(q2.index==0&&(q2.cap==0&&(q2.dust==0&&(q2.fee==0&&(q2.delay==0&&(q5==Z5&&q7==Z5))))))&&(s.reserve==0&&(q15==0&&(s.point==Z5&&(s.nxt==Z5&&(s.key==Z5&&(s.hash==Z5&&(s.tag==Z5&&(s.secret==Z5&&(q1==0&&(q16==0&&(q17==0&&(q18==0&&(true&&ByteArray.toList s.route==ByteArray.toList ByteArray.empty)))))))))))))));let q20:=Z0 q4 (Z0 q6 (Z0 q8 (Z0 q9 (Z0 q10 (Z0 q11 (Z0 q12 (Z0 q13 (Z0 q14 (Z0 q19 (ok=false) (ok=false)) False) False) False) False) False) False) False) False) False;
 Z0 (decide (0<=q1)) (Z0 (!decide (q1<=2147483647)) q20 (Z0 (decide (0<=q16)) (Z0 (!decide (q16<=2147483647)) q20 (Z0 (decide (0<=q17)) (Z0 (!decide (q17<=2147483647)) q20 (Z0 (decide (0<=q18)) (Z0 (!decide (q18<=2147483647)) q20 (Z0 q4 (Z0 q6 (Z0 q8 (Z0 q9 (Z0 q10 (Z0 q11 (Z0 q12 (Z0 q13 (Z0 q14 (Z0 q19 (ok=false) (Z0 (decide (q15<0)) (ok=false) (Z0 (decide (q15>1125899906842624)) (ok=false) (Z0 (decide (1<=s.code)) (Z0 (!decide (s.code<=999)) (ok=false) (ok=true)) (ok=false))))) False) False) False) False) False) False) False) False) False)) q20)) q20)) q20)) q20) (by kernel_rfl) ?_
 conv=>zeta
 try simp only [Z8]
 try simp only [Ze]
 try simp only [Za]
 try simp only [Zf]
 try simp only [Zg]
 try simp only [Z9]
 try simp only [Y_s]
 obtain ⟨h0,h1,h2,h3,h4,h5,h6,h7,h8,hb⟩:=hl
 simp only [h0,h1,h2,h3,h4,h5,h6,h7,h8,and_self,decide_true,true_and,forall_const,Bool.not_eq_true',Bool.not_eq_false',decide_eq_true_eq,decide_eq_false_iff_not,Int.not_le,Int.not_lt,reduceCtorEq,false_implies,and_true]
 cases ok with
 | true=>
  obtain ⟨⟨w0,w1,w2,w3,w4,w5,w6,w7,w8,w9⟩,hr,hk⟩:=hok.1 rfl
  have hk':=hk
  simp only [kindOk] at hk
  repeat' first
   | trivial
   | apply And.intro
   | intro
  all_goals first
   | omega
   | (exfalso;omega)
   | (rename_i hq;exact absurd (hr.symm.trans hq) (by decide))
   | (rename_i hq _;exact absurd (hr.symm.trans hq) (by decide))
   | (rename_i hq _ _;exact absurd (hr.symm.trans hq) (by decide))
 | false=>
  have hn:¬ZS s 14:=fun h=>absurd (hok.2 h) (by decide)
  repeat' first
   | trivial
   | apply And.intro
   | intro
  all_goals first
   | exact absurd (ZS.mk ⟨by omega,by omega,by omega,by omega,by omega,by omega,by omega,by omega,by omega,by omega⟩ (by assumption) (by simp only [kindOk]<;>omega)) hn
   | exact absurd (ZS.mk ⟨by omega,by omega,by omega,by omega,by omega,by omega,by omega,by omega,by omega,by omega⟩ (by assumption) trivial) hn
def noQ:ZR:=fun _ _ _=>False
theorem Z99 {f:FuncId} (args:List AV) (h:Z6) (K:KO) (hl:noQ args h K):Zi PP f args h K:=hl.elim
noncomputable def Zna:Zh:=((G0.withF 227 noQ).withF 230 noQ).withF 235 noQ
theorem Zoq (s:ZA) (k:Int) (hl:s.Len) (hk:k<1\/14<k):
  evF Zna 40 35 [.agg (.int .i64 k::s.r)] ⟨0,[]⟩ (chK false):=by
 refine @Eq.mpr _ (let q1:=s.id;let q2:=s.t;let q3:=q2.fund;let q4:=decide (List.length q3=32/\(32:Nat)=32);let q5:=q2.k0;let q6:=decide (List.length q5=32/\(32:Nat)=32);let q7:=q2.k1;let q8:=decide (List.length q7=32/\(32:Nat)=32);let q9:=decide (List.length s.point=32/\(32:Nat)=32);let q10:=decide (List.length s.nxt=32/\(32:Nat)=32);let q11:=decide (List.length s.key=32/\(32:Nat)=32);let q12:=decide (List.length s.hash=32/\(32:Nat)=32);let q13:=decide (List.length s.tag=32/\(32:Nat)=32);let q14:=decide (List.length s.secret=32/\(32:Nat)=32);let q15:=s.amount;let q16:=s.number;let q17:=s.index;let q18:=s.expiry;let q19:= !(k==k&&(q3==Z5&&(q2.index==0&&(q2.cap==0&&(q2.dust==0&&(q2.fee==0&&(q2.delay==0&&(q5==Z5&&q7==Z5))))))&&(s.reserve==0&&(q15==0&&(s.point==Z5&&(s.nxt==Z5&&(s.key==Z5&&(s.hash==Z5&&(s.tag==Z5&&(s.secret==Z5&&(q1==0&&(q16==0&&(q17==0&&(q18==0&&(s.code==0&&ByteArray.toList s.route==ByteArray.toList ByteArray.empty)))))))))))))));let q20:=Z0 q4 (Z0 q6 (Z0 q8 (Z0 q9 (Z0 q10 (Z0 q11 (Z0 q12 (Z0 q13 (Z0 q14 (Z0 q19 (false=false) (false=false)) False) False) False) False) False) False) False) False) False;
 Z0 (decide (k=k))
 (Z0 (decide (k=1)) False
 (Z0 (decide (k=2)) False
 (Z0 (decide (k=3)) False
 (Z0 (decide (k=4)) False
 (Z0 (decide (k=5)) (Z0 (decide (0<=q1)) (Z0 (!decide (q1<=2147483647)) q20 (Z0 (decide (0<=q16)) (Z0 (!decide (q16<=2147483647)) q20 (Z0 (decide (0<=q17)) (Z0 (!decide (q17<=2147483647)) q20 (Z0 (decide (0<=q18)) (Z0 (!decide (q18<=2147483647)) q20 (Z0 q4 (Z0 q6 (Z0 q8 (Z0 q9 (Z0 q10 (Z0 q11 (Z0 q12 (Z0 q13 (Z0 q14 (Z0 q19 (false=false) (Z0 (decide (q15<0)) (false=false) (Z0 (decide (q15>1125899906842624)) (false=false) (false=true)))) False) False) False) False) False) False) False) False) False)) q20)) q20)) q20)) q20)
 (Z0 (decide (k=6)) False
 (Z0 (decide (k=7)) False
 (Z0 (decide (k=8)) False
 (Z0 (decide (k=9)) False
 (Z0 (decide (k=10)) False
 (Z0 (decide (k=11)) False
 (Z0 (decide (k=12)) (Z0 (decide (0<=q1)) (Z0 (!decide (q1<=2147483647)) q20 (Z0 (decide (0<=q16)) (Z0 (!decide (q16<=2147483647)) q20 (Z0 (decide (0<=q17)) (Z0 (!decide (q17<=2147483647)) q20 (Z0 (decide (0<=q18)) (Z0 (!decide (q18<=2147483647)) q20 (Z0 q4 (Z0 q6 (Z0 q8 (Z0 q9 (Z0 q10 (Z0 q11 (Z0 q12 (Z0 q13 (Z0 q14 (Z0 q19 (false=false) (Z0 (decide (q15<0)) (false=false) (Z0 (decide (q15>1125899906842624)) (false=false) (false=true)))) False) False) False) False) False) False) False) False) False)) q20)) q20)) q20)) q20)
 (Z0 (decide (k=13)) False (Z0 (decide (k=14)) False (Z0 (decide (0<=q1)) (Z0 (!decide (q1<=2147483647)) (false=false) (Z0 (decide (0<=q16)) (Z0 (!decide (q16<=2147483647)) (false=false) (Z0 (decide (0<=q17)) (Z0 (!decide (q17<=2147483647)) (false=false) (Z0 (decide (0<=q18)) (Z0 (!decide (q18<=2147483647)) (false=false) (false=false)) (false=false))) (false=false))) (false=false))) (false=false))))))))))))))))
 False) (by kernel_rfl) ?_
 conv=>zeta
 try simp only [Z8]
 try simp only [Ze]
 try simp only [Za]
 try simp only [Zf]
 try simp only [Zg]
 try simp only [Z9]
 try simp only [Y_s]
 obtain ⟨h0,h1,h2,h3,h4,h5,h6,h7,h8,hb⟩:=hl
 simp only [h0,h1,h2,h3,h4,h5,h6,h7,h8,and_self,decide_true,true_and,forall_const,Bool.not_eq_true',Bool.not_eq_false',decide_eq_true_eq,decide_eq_false_iff_not,Int.not_le,Int.not_lt,reduceCtorEq,false_implies,and_true]
 repeat' first
  | trivial
  | apply And.intro
  | intro
 all_goals first
  | omega
  | (exfalso;omega)
theorem Zi.k {P:Program} {f:FuncId} {args:List AV} {h:Z6} {K K':KO} (hc:Zi P f args h K) (hk:∀o h,K o h->K' o h):Zi P f args h K':=fun E w rs he hl=>
 (hc E w rs he hl).mono (by
  rintro e w' ⟨E1,o,h',h1,h2,h3⟩
  exact ⟨E1,o,h',hk _ _ h1,h2,h3⟩)
theorem Znb {ok:Bool} {o:Out} {h:Z6} (hk:chK ok o h):XI (fun v=>v=.int .i64 (if ok=true then 0 else 2)) o h:=by
 unfold chK at hk
 split at hk
 ·subst hk;rfl
 ·subst hk;rfl
 ·exact hk.elim
theorem Xe:Z0k.Ok:=Zh.withP_ok Zp Z3C
theorem ZhL:Zna.Ok:=Zh.withF_ok (Zh.withF_ok (Zh.withF_ok Zp (Z99 (f:=227))) (Z99 (f:=230))) (Z99 (f:=235))
theorem Z9a {s:ZA} {k:Int} (hk:k<1\/14<k):¬ZS s k:=fun h=>by
 have hq:=h.k
 unfold kindOk at hq
 split at hq<;>first|omega|exact hq
theorem Znc {s:ZA} (hs:s.Len) {ok:Bool} (hok:ok=true↔ZS s s.kind):Zi PP 35 [.agg s.c] ⟨0,[]⟩ (chK ok):=by
 unfold ZA.c
 have h15:s.kind=1\/s.kind=2\/s.kind=3\/s.kind=4\/s.kind=5\/s.kind=6\/s.kind=7\/s.kind=8\/s.kind=9\/s.kind=10\/s.kind=11\/s.kind=12\/s.kind=13\/s.kind=14\/(s.kind<1\/14<s.kind):=by omega
 rcases h15 with h|h|h|h|h|h|h|h|h|h|h|h|h|h|h
 ·rw [h] at hok⊢;exact YJ Xe (ZmZ s ok hs hok)
 ·rw [h] at hok⊢;exact YJ Xe (Zn0 s ok hs hok)
 ·rw [h] at hok⊢;exact YJ Xe (Zn1 s ok hs hok)
 ·rw [h] at hok⊢;exact YJ Xe (Zn2 s ok hs hok)
 ·rw [h] at hok⊢;exact YJ Xe (Zn3 s ok hs hok)
 ·rw [h] at hok⊢;exact YJ Xe (Zn4 s ok hs hok)
 ·rw [h] at hok⊢;exact YJ Xe (Zn5 s ok hs hok)
 ·rw [h] at hok⊢;exact YJ Xe (Zn6 s ok hs hok)
 ·rw [h] at hok⊢;exact YJ Xe (Zn7 s ok hs hok)
 ·rw [h] at hok⊢;exact YJ Xe (Zk5 s ok hs hok)
 ·rw [h] at hok⊢;exact YJ Xe (Zk6 s ok hs hok)
 ·rw [h] at hok⊢;exact YJ Xe (Zk7 s ok hs hok)
 ·rw [h] at hok⊢;exact YJ Xe (Zn8 s ok hs hok)
 ·rw [h] at hok⊢;exact YJ Xe (Zn9 s ok hs hok)
 ·have e:ok=false:=Bool.eq_false_iff.2 fun e=>Z9a h (hok.1 e)
  subst e
  exact YJ ZhL (Zoq s s.kind hs h)
theorem Zfg (args:List AV) (h:Z6) (K:AV->Prop) (hl:ZhC Z3Z args h K):Zi PP 35 args h fun o h'=>∃v,o=.ret v/\h'=h/\K v:=by
 unfold ZhC at hl
 split at hl
 ·obtain ⟨s,⟨rfl⟩,hs,h1,h0⟩:=hl
  refine Z3n rfl ((Znc hs Z0S).k fun o h hk=>Znb hk) fun u hu=> ?_
  subst hu
  cases hq:Z3Z s with
  | true=>exact h1 hq
  | false=>exact h0 hq
 ·exact hl.elim
def Zoz (SB:ZA->Bool) (M:Int->Int->Int) (Tg:List Int->TxS->List Int):ZR:=fun args h K=>match args with
 | [.ptr (some ⟨x,0,0,0,0⟩),_]=>frA [x] h 60 args fun Bs a=>match Bs,a with
  | [.flat cs],[.ptr (some ⟨0,0,0,0,0⟩),.agg ss]=>∃k s,Wd cs k/\Z1V ss s/\(YD k/\k.t.All)/\s.Len/\
   ∀r,r=Wo SB M Tg k s->K (.ret (.tuple [.agg (sdC r.kd r.am r.tg),.bool r.sy,.int .i64 r.e])) ⟨h.next,(x,.flat (clT k k.side r.of r.la r.ag r.fe))::Y9 h.bs x⟩
  | _,_=>False
 | _=>False
theorem Zaz {s:ZA} (h:Z3Z s=true):0<=s.amount/\s.amount<=1125899906842624:=by
 have:=(Z0S.1 h).w
 exact ⟨this.i,this.j⟩
def Zii (n:Int):List Int:=n::List.replicate 31 0
def Z40:Zo:=⟨Z5,0,1000,10,5,3,Zii 1,Zii 2⟩
def Znd (A:List Int->Int×Int):ZR:=fun args h K=>ZH none h true 40 args fun x=>match x with
 | [.agg cs,.int .i64 sd,.agg [.arr .i64 2 ab],.int .i64 lo,.int .i64 hi]=>∃t a b,ZbZ cs t/\ab=[a,b]/\t.Ok/\(match decide (lo<=hi) with
  | true=>Yg A (k0C t sd a b lo hi)=true/\K (.ret (.tuple [.ptr (some ⟨h.next,0,0,0,0⟩),.int .i64 0])) ⟨h.next+1,(h.next,.flat (clT (k0C t sd a b lo hi) sd false 0 false 0))::h.bs⟩
  | false=>Yg A (k0C t sd a b lo hi)=false/\K (.ret (.tuple [.ptr none,.int .i64 2])) h)
 | _=>False
theorem ZhM (args:List AV) (h:Z6) (K:KO) (hl:Znd ZJ args h K):Zi PP 9 args h K:=Zfb args h K (Zm _ _ _ _ _ hl fun a ha=>by
 split at ha
 ·obtain ⟨t,a,b,h1,h2,h3,hm⟩:=ha
  refine ⟨t,a,b,h1,h2,h3,fun hq=> ?_,fun hq=> ?_⟩
  ·split at hm
   ·exact hm.2
   ·exact absurd (hq.symm.trans hm.1) (by decide)
  ·split at hm
   ·exact absurd (hq.symm.trans hm.1) (by decide)
   ·exact hm.2
 ·exact ha.elim)
def Zk8 (Tg:List Int->TxS->List Int):ZR:=fun args h K=>match args with
 | [.ptr (some ⟨x,0,0,0,0⟩)]=>frA [x] h 40 args fun Bs a=>match Bs,a with
  | [.flat cs],[.ptr (some ⟨0,0,0,0,0⟩)]=>∃k,Wd cs k/\VB k/\k.agrees=false/\(match Zff cs 8,Zff cs 12 with
   | .int .i64 0,.bool false=>Y0 k.t k.a0 k.a1 k.least=0/\K (.ret (.tuple [.agg (sdC 13 k.least (Xc Tg k k.least k.side)),.int .i64 0])) ⟨h.next,(x,.flat (ZmJ cs k.least))::Y9 h.bs x⟩
   | .int .i64 _,.bool _=>(k.side≠0\/k.offers=true)/\K (.ret (.tuple [.agg (sdC 0 0 Z5),.int .i64 251])) ⟨h.next,(x,.flat cs)::Y9 h.bs x⟩
   | _,_=>False)
  | _,_=>False
 | _=>False
theorem ZhN (args:List AV) (h:Z6) (K:KO) (hl:Zk8 ZO args h K):Zi PP 12 args h K:=by
 have hE:=Zh.withF_ok (f:=32) Zp Zau
 unfold Zk8 at hl
 split at hl
 ·refine Spec.fsumm hl fun Bs a hlen hK0=> ?_
  split at hK0
  ·obtain ⟨k,⟨rfl⟩,hk,hg,hm⟩:=hK0
   obtain ⟨t,sd,a0,a1,le,mo,o0,l0,g0,f0⟩:=k
   have hg:g0=false:=hg
   subst hg
   split at hm
   ·rename_i h8 h12
    obtain ⟨hE0,hK⟩:=hm
    have e1:sd=0:=by cases h8;rfl
    have e2:o0=false:=by cases h12;rfl
    subst e1 e2
    exact ⟨_,_,_,_,_,.evM hE (ZmT ZO ⟨t,0,a0,a1,le,mo,false,l0,false,f0⟩ _ _ _ _ _ _ _ _ _ hk (Zfd rfl (by simp) hE0)),by simp,.ret _ _ rfl,.cons _ _ _ _ _ _ rfl (.flat _ _ rfl) .nil,hK⟩
   ·obtain ⟨hso,hK⟩:=hm
    exact ⟨_,_,_,_,_,.evM hE (ZmT ZO ⟨t,sd,a0,a1,le,mo,o0,l0,false,f0⟩ _ _ _ _ _ _ _ _ _ hk (Z98 rfl hso)),by simp,.ret _ _ rfl,.cons _ _ _ _ _ _ rfl (.flat _ _ rfl) .nil,hK⟩
   ·exact hm.elim
  ·exact hK0.elim
 ·exact hl.elim
def Zfh (SB:ZA->Bool) (Tg:List Int->TxS->List Int):ZR:=fun args h K=>match args with
 | [.ptr (some ⟨x,0,0,0,0⟩),_]=>frA [x] h 60 args fun Bs a=>match Bs,a with
  | [.flat cs],[.ptr (some ⟨0,0,0,0,0⟩),.agg ss]=>∃k s,Wd cs k/\Z1V ss s/\(YD k/\k.t.All/\k.agrees=false)/\(s.Len/\SB s=true)/\(match Zff ss 0 with
   | .int .i64 12=>K (.ret (.tuple [.agg (sdC 0 0 Z5),.bool false,.int .i64 210])) ⟨h.next,(x,.flat cs)::Y9 h.bs x⟩
   | .int .i64 13=>(Y0 k.t k.a0 k.a1 s.amount=0/\Xc Tg k s.amount (1-k.side)≠s.tag)/\K (.ret (.tuple [.agg (sdC 0 0 Z5),.bool false,.int .i64 221])) ⟨h.next,(x,.flat cs)::Y9 h.bs x⟩
   | _=>False)
  | _,_=>False
 | _=>False
theorem Zfi (args:List AV) (h:Z6) (K:KO) (hl:Zfh Z3Z ZO args h K):Zi PP 13 args h K:=by
 unfold Zfh at hl
 split at hl
 ·refine Spec.fsumm hl fun Bs a hlen hK0=> ?_
  split at hK0
  ·obtain ⟨k,s,⟨rfl⟩,⟨rfl⟩,⟨hk,ht,hg⟩,⟨hs,hS⟩,hm⟩:=hK0
   split at hm
   ·rename_i h0
    have e:s.kind=12:=by
     have h:AV.int .i64 s.kind=AV.int .i64 12:=h0
     injection h
    exact ⟨_,_,_,_,_,Z54 Zfg hk ht hs Zaz (Z2g hS (by rw [e];decide)),by simp,.ret _ _ rfl,.cons _ _ _ _ _ _ rfl (.flat _ _ rfl) .nil,hm⟩
   ·rename_i h0
    have e:s.kind=13:=by
     have h:AV.int .i64 s.kind=AV.int .i64 13:=h0
     injection h
    exact ⟨_,_,_,_,_,Z54 Zfg hk ht hs Zaz (Z68 ⟨hS,e,hg⟩ hm.1.1 hm.1.2),by simp,.ret _ _ rfl,.cons _ _ _ _ _ _ rfl (.flat _ _ rfl) .nil,hm.2⟩
   ·exact hm.elim
  ·exact hK0.elim
 ·exact hl.elim
noncomputable def Zne (A:List Int->Int×Int) (SB:ZA->Bool) (Tg:List Int->TxS->List Int):Zh:=(((G0.withF 9 (Znd A)).withF 12 (Zk8 Tg)).withF 13 (Zfh SB Tg)).withF 15 (ZhJ Tg)
theorem ZhO:(Zne ZJ Z3Z ZO).Ok:=Zh.withF_ok (Zh.withF_ok (Zh.withF_ok (Zh.withF_ok Zp ZhM) ZhN) Zfi) Zay
theorem Z1p {xs:List Int} (h:∀x∈xs,0<=x/\x<=255):Bytes xs:=⟨fun i=>by
 rw [List.getD_eq_getElem?_getD]
 rcases Nat.lt_or_ge i xs.length with q|q
 ·rw [List.getElem?_eq_getElem q];exact h _ (List.getElem_mem q)
 ·rw [List.getElem?_eq_none q];exact ⟨by decide,by decide⟩⟩
theorem Z0T:Z40.All:=⟨⟨rfl,rfl,Z1p (by decide),Z1p (by decide)⟩,rfl,Z1p (by decide)⟩
def kA:ClS:=k0C Z40 1 600 400 0 9
def kB:ClS:=k0C Z40 0 600 400 3 9
def kC:ClS:=clO kB true 3 false 0
theorem Z9b:VB kA:=⟨Z0T,by decide,.inr rfl⟩
theorem Zk9:VB kB:=⟨Z0T,by decide,.inl rfl⟩
theorem Z9c:VB kC:=⟨Z0T,by decide,.inl rfl⟩
theorem Zfj:YD kC:=⟨⟨by kernel_rfl,.inl rfl,by decide,by decide,rfl,by decide,by decide,by decide⟩,fun _=>⟨by decide,by decide⟩,(fun h=>nomatch h),(fun h=>nomatch h),fun _=>rfl⟩
theorem ZaA {kd am:Int} {tg:List Int} (h:tg.length=32):(sdN kd am tg).Len:=⟨rfl,rfl,rfl,rfl,rfl,rfl,rfl,h,rfl,Yl⟩
theorem Znf:Z3Z (sdN 12 0 Z5)=true:=Z0S.2 ⟨⟨by decide,by decide,by decide,by decide,by decide,by decide,by decide,by decide,by decide,by decide⟩,by kernel_rfl,trivial⟩
theorem Zng:Z3Z (sdN 13 3 Z5)=true:=Z0S.2 ⟨⟨by decide,by decide,by decide,by decide,by decide,by decide,by decide,by decide,by decide,by decide⟩,by kernel_rfl,trivial⟩
theorem Znh:Xc ZO kC 3 1≠Z5:=fun h=>by
 have e:(Xc ZO kC 3 1==Z5)=false:=by kernel_rfl
 rw [h] at e
 exact absurd e (by decide)
theorem Zfk:Y0 Z40 600 400 3=0:=by kernel_rfl
theorem Zor:Yg ZJ (k0C Z40 1 600 400 0 9)=true:=by kernel_rfl
theorem Zos:Yg ZJ (k0C Z40 0 600 400 3 9)=true:=by kernel_rfl
theorem Zot:Yg ZJ (k0C Z40 0 600 400 5 4)=false:=by kernel_rfl
theorem Zni (A:List Int->Int×Int) (SB:ZA->Bool) (Tg:List Int->TxS->List Int) (hA:A=ZJ) (hSB:SB=Z3Z) (hT:Tg=ZO):
  evF (Zne A SB Tg) 40 11 [] ⟨0,[]⟩ (XI fun v=>v=.bool true):=by
 refine @Eq.mpr _ (let q1:=[(600:Int),400];let q2:=q1=q1;let q3:=AV.arr u8 32 Z5;let q4:=AV.int i64 0;let q5:=[(0:Int),0,0,0,0,0,0,0,0,0,0,0,0,0,0,0,0,0,0,0,0,0,0,0,0,0,0,0,0,0,0];let q6:=AV.bool false;let q7:=AV.bool true;let q8:=[q6,q4,q7];let q9:=q6::q4::q8;let q10:=[q3,q3,q3,q3,q3,q3,q4,q4,q4,q4,q4,AV.str ByteArray.empty];
 q2/\
 ∃(t:Zo),
 let q21:=[q3,q4,AV.int i64 1000,AV.int i64 10,AV.int i64 5,AV.int i64 3,AV.arr u8 32 ((1:Int)::q5),AV.arr u8 32 ((2:Int)::q5)];
 ∃(a:Int),
 ∃(b:Int),
 let q23:=k0C t 1 a b 0 9;let q24:=q23.t;
 ZbZ q21 t/\
 q1=[a,b]/\
 Zo.Ok t/\
 Yg A q23=true/\
 ∃(k:ClS),
 let q27:=AV.arr u8 32 q24.fund::AV.int i64 q24.index::AV.int i64 q24.cap::AV.int i64 q24.dust::AV.int i64 q24.fee::AV.int i64 q24.delay::AV.arr u8 32 q24.k0::AV.arr u8 32 q24.k1::AV.int i64 1::AV.arr i64 2 [q23.a0,q23.a1]::AV.int i64 q23.least::AV.int i64 q23.most::q9;
 Wd q27 k/\
 VB k/\
 k.agrees=false/\
 (k.side≠0\/k.offers=true)/\
 ∃(k:ClS),
 Wd q27 k/\
 TxK k/\
 q2/\
 ∃(t:Zo),
 ∃(a:Int),
 ∃(b:Int),
 ZbZ q21 t/\
 q1=[a,b]/\
 Zo.Ok t/\
 Yg A (k0C t 0 a b 5 4)=false/\
 q2/\
 ∃(t:Zo),
 ∃(a:Int),
 ∃(b:Int),
 let q29:=k0C t 0 a b 3 9;let q30:=q29.t;let q31:=AV.arr u8 32 q30.fund;let q32:=AV.int i64 q30.index;let q33:=AV.int i64 q30.cap;let q34:=AV.int i64 q30.dust;let q35:=AV.int i64 q30.fee;let q36:=AV.int i64 q30.delay;let q37:=AV.arr u8 32 q30.k0;let q38:=AV.arr u8 32 q30.k1;let q39:=AV.arr i64 2 [q29.a0,q29.a1];let q40:=AV.int i64 q29.least;let q41:=AV.int i64 q29.most;
 ZbZ q21 t/\
 q1=[a,b]/\
 Zo.Ok t/\
 Yg A q29=true/\
 ∃(k:ClS),
 let q55:=k.least;let q56:=q31::q32::q33::q34::q35::q36::q37::q38::q4::q39::q40::q41::q7::AV.int i64 q55::q8;
 Wd (q31::q32::q33::q34::q35::q36::q37::q38::q4::q39::q40::q41::q9) k/\VB k/\k.agrees=false/\Y0 k.t k.a0 k.a1 q55=0/\∃(k:ClS),Wd q56 k/\VB k/\k.agrees=false/\(k.side≠0\/k.offers=true)/\∃(k:ClS),∃(s:ZA),Wd q56 k/\Z1V (AV.int i64 12::q3::q4::q4::q4::q4::q4::q3::q3::q4::q4::q10) s/\(YD k/\Zo.All k.t/\k.agrees=false)/\(ZA.Len s/\SB s=true)/\∃(k:ClS),∃(s:ZA),Wd q56 k/\Z1V (AV.int i64 13::q3::q4::q4::q4::q4::q4::q3::q3::q4::AV.int i64 3::q10) s/\(YD k/\Zo.All k.t/\k.agrees=false)/\(ZA.Len s/\SB s=true)/\(Y0 k.t k.a0 k.a1 s.amount=0/\Xc Tg k s.amount (1-k.side)≠s.tag)/\Z0 (q55==3) (q7=q7) (q6=q7)) (by kernel_rfl) ?_
 conv=>zeta
 try simp only [Z8]
 try simp only [Ze]
 try simp only [Za]
 try simp only [Zf]
 try simp only [Zg]
 try simp only [Z9]
 try simp only [Y_s]
 subst hA hSB hT
 have hok:=Z0T.ok
 refine ⟨Z40,600,400,⟨rfl⟩,rfl,hok,Zor,kA,⟨rfl⟩,Z9b,rfl,.inl (by decide),kA,⟨rfl⟩,⟨Z9b.t,Z9b.a⟩,Z40,600,400,⟨rfl⟩,rfl,hok,Zot,Z40,600,400,⟨rfl⟩,rfl,hok,Zos,kB,⟨rfl⟩,Zk9,rfl,Zfk,kC,⟨rfl⟩,Z9c,rfl,.inr rfl,kC,sdN 12 0 Z5,⟨rfl⟩,⟨rfl⟩,⟨Zfj,Z9c.t,rfl⟩,⟨ZaA rfl,Znf⟩,kC,sdN 13 3 Z5,⟨rfl⟩,⟨rfl⟩,⟨Zfj,Z9c.t,rfl⟩,⟨ZaA rfl,Zng⟩,⟨Zfk,Znh⟩,fun _=>trivial,fun h=> ?_⟩
 exact absurd (show (kB.least==3)=true from rfl) (by rw [h];decide)
def Zfl:ZG:=fun args _ K=>match args with
 | []=>K (.bool true)
 | _=>False
theorem ZhP (args:List AV) (h:Z6) (K:AV->Prop) (hl:Zfl args h K):Zi PP 11 args h fun o h'=>∃v,o=.ret v/\h'=h/\K v:=by
 unfold Zfl at hl
 split at hl
 ·exact Yu ZhO rfl (Zni _ _ _ rfl rfl rfl) (fun u hu=>hu▸hl)
 ·exact hl.elim
def Z6a:List AV->(List AV->Prop)->Prop
 | [],k=>k []
 | c::r,k=>Z6a r fun r'=>k (c::r')
theorem Z55:∀(l:List AV) (k:List AV->Prop),Z6a l k=k l
 | [],_=>rfl
 | c::r,k=>by unfold Z6a;rw [Z55 r]
def Z9d (B:Blk) (k:Blk->Prop):Prop:=match B with
 | .flat cs=>Z6a cs fun cs'=>k (.flat cs')
 | _=>k B
theorem Zc1 (B:Blk) (k:Blk->Prop):Z9d B k=k B:=by
 unfold Z9d
 split
 ·rw [Z55]
 ·rfl
def Z3L:List (Nat×Blk)->(List (Nat×Blk)->Prop)->Prop
 | [],k=>k []
 | (y,B)::r,k=>Z9d B fun B'=>Z3L r fun r'=>k ((y,B')::r')
theorem Z1q:∀(l:List (Nat×Blk)) (k:List (Nat×Blk)->Prop),Z3L l k=k l
 | [],_=>rfl
 | (y,B)::r,k=>by unfold Z3L;rw [Zc1,Z1q r]
def nfK (K:KO):KO:=fun o h=>Z3L h.bs fun bs=>K o ⟨h.next,bs⟩
theorem Zka (K:KO):nfK K=K:=by
 funext o h
 unfold nfK
 rw [Z1q]
def nfF (S:ZR):ZR:=fun args h K=>S args h (nfK K)
theorem Z6b {P:Program} {f:FuncId} {S:ZR} (hS:∀args h K,S args h K->Zi P f args h K) (args:List AV) (h:Z6) (K:KO) (hl:nfF S args h K):Zi P f args h K:=by
 unfold nfF at hl
 rw [Zka] at hl
 exact hS _ _ _ hl
theorem Zh.withJE {G:Zh} (hG:G.Ok) {f:FuncId} {id N:Nat} {S:Nat->St->KE->Prop} (h1:Z5I G.P f id=true)
  (h:∀k s X,S k s X->∃(S0 S1:St),UN k s S0/\Z9Q G N f id k S0 (jnM k S1)/\X .normal S1):(G.withL f id S).Ok where
 draw:=hG.draw
 psumm:=hG.psumm
 fsumm:=hG.fsumm
 lsumm:=fun f' id' S' fn c body hS hf hb hm k' s X hs=>by
  simp only [Zh.withL] at hS
  split at hS
  ·rename_i hq
   rw [Bool.and_eq_true] at hq
   have e1:=Nat.eq_of_beq_eq_true hq.1
   have e2:=Nat.eq_of_beq_eq_true hq.2
   subst e1 e2
   cases hS
   have hc:=Zbp h1 hf hb hm
   obtain ⟨S0,S1,hw,hE,hX⟩:=h _ _ _ hs
   unfold Z9Q at hE
   rw [<-hc] at hE
   have hkN:=Z0v hG N f' none
   refine Yy.weak ?_ hw
   refine Yy.join (Z2X (k:=k') (ro:=none) hG hkN.1 (fun _=>rfl) (fun _=>rfl) (fun _=>⟨fn,body,by rw [hkN.2.1];exact hf,hb,fun b hbm=>UO body id' _ hm b hbm⟩) hE) ?_
   intro e s' hY
   unfold jnM at hY
   split at hY
   ·obtain ⟨_,hw'⟩:=V0 hY
    exact ⟨_,rfl,hw',hX⟩
   ·exact hY.elim
  ·exact hG.lsumm f' id' S' fn c body hS hf hb hm k' s X hs
def rjH (k:ClS) (xs:List Int) (p:Nat):Z6:=⟨7,[(0,.flat (k.c++[.bool true])),(1,.flat [.ptr (some ⟨2,0,0,0,0⟩)]),(2,.flat [.nslice ⟨3,0,0,0,p⟩ 1 (xs.length-p) (xs.length-p),.bool true,.bool false]),(3,.ints .u8 xs),(4,.flat [.ptr none]),(5,.flat [.int .i64 0]),(6,.defd)]⟩
def rjT (l:Y1):Y1:=l++[(4,.ptr (some ⟨0,0,0,0,0⟩)),(5,.ptr (some ⟨1,0,0,0,0⟩)),(2,.ptr (some ⟨4,0,0,0,0⟩)),(3,.ptr (some ⟨5,0,0,0,0⟩))]
def rj0 (k:ClS) (b:Bool) (xs:List Int) (p:Nat):St:=⟨145,rjT [(56,.bool !k.offers),(8,.bool b)],rjH k xs p,[.mark 6]⟩
def rj1 (k:ClS) (b:Bool) (xs:List Int) (p:Nat):St:=⟨145,rjT [(8,.bool b)],rjH k xs p,[.mark 6]⟩
def Z6c (k:ClS) (b:Bool):Bool:=match k.offers with
 | true=>b
 | false=>k.last==0
theorem Zou (k:ClS) (b c:Bool) (xs:List Int) (p:Nat) (hc:c=Z6c k b):
  Z9Q G0 20 26 100056 0 (rj0 k b xs p) (jnM 0 (rj1 k c xs p)):=by
 refine @Eq.mpr _ (let q1:=k.offers;let q2:=k.last;let q3:=k.t;let q4:=q3.fund;let q5:=q3.index;let q6:=q3.cap;let q7:=q3.dust;let q8:=q3.fee;let q9:=q3.delay;let q10:=q3.k0;let q11:=q3.k1;let q12:=[k.a0,k.a1];let q13:=List.length xs-p;let q14:=q4=q4/\Z0 (decide (q5=q5)) (Z0 (decide (q6=q6)) (Z0 (decide (q7=q7)) (Z0 (decide (q8=q8)) (Z0 (decide (q9=q9)) (q10=q10/\q11=q11/\Z0 (decide (k.side=k.side)) (q12=q12/\Z0 (decide (k.least=k.least)) (Z0 (decide (k.most=k.most)) (Z0 (decide (q1=q1)) (Z0 (decide (q2=q2)) (Z0 (decide (k.agrees=k.agrees)) (Z0 (decide (k.fee=k.fee)) (Z0 (decide (p=p)) (Z0 (decide (q13=q13)) (Z0 (decide (q13<=q13)) (xs=xs/\True) False) False) False) False) False) False) False) False) False) False) False) False) False) False) False;
 Z0 (!q1) (Z0 (decide ((q2==0)=c)) q14 False) (Z0 (decide (b=c)) q14 False)) (by kernel_rfl) ?_
 conv=>zeta
 try simp only [Z8]
 try simp only [Ze]
 try simp only [Za]
 try simp only [Zf]
 try simp only [Zg]
 try simp only [Z9]
 try simp only [Y_s]
 subst hc
 unfold Z6c
 cases k.offers
 ·refine ⟨fun _=> ?_,fun h=>nomatch h⟩
  and_intros<;>rfl
 ·refine ⟨(fun h=>nomatch h),fun _=> ?_⟩
  and_intros<;>rfl
def rj2 (k:ClS) (b:Bool) (xs:List Int) (p:Nat):St:=rj1 k (Z6c k b) xs p
def jL4 (S0 S1:ClS->Bool->List Int->Nat->St):Nat->St->KE->Prop:=fun k s X=>match Nat.beq k 0 with
 | true=>∃(kk:ClS) (b:Bool) (xs:List Int) (p:Nat),QJ 0 (S0 kk b xs p) s (X .normal (S1 kk b xs p))
 | false=>False
theorem Zkb {G:Zh} (hG:G.Ok) {f:FuncId} {id N:Nat} {S0 S1:ClS->Bool->List Int->Nat->St} (h1:Z5I G.P f id=true) (h:∀kk b xs p,Z9Q G N f id 0 (S0 kk b xs p) (jnM 0 (S1 kk b xs p))):(G.withL f id (jL4 S0 S1)).Ok:=
 Zh.withJE hG h1 fun k s X hs=>by
  unfold jL4 at hs
  split at hs
  ·rename_i hk
   have:=Nat.eq_of_beq_eq_true hk
   subst this
   obtain ⟨kk,b,xs,p,hs⟩:=hs
   obtain ⟨hX,hw⟩:=V0 hs
   exact ⟨_,_,hw,h kk b xs p,hX⟩
  ·exact hs.elim
theorem ZhQ (G:Zh) (f:FuncId) (S:ZG):(G.withP f S).P=G.P:=rfl
theorem ZhR (G:Zh) (f:FuncId) (S:ZR):(G.withF f S).P=G.P:=rfl
theorem Zfm:((((((((G0.withF 53 (nfF Z3H)).withF 128 (nfF (Zah (ZU Zs)))).withF 129 (nfF Z62)).withF 130 (nfF Zag)).withF 66 Zaf).withF 119 Z0I).withP 30 (ZbX ZJ)).withP 40 inQ).Ok:=Zh.withP_ok (Zh.withP_ok (Zh.withF_ok (Zh.withF_ok (Zh.withF_ok (Zh.withF_ok (Zh.withF_ok (Zh.withF_ok Zp (Z6b Z4Z)) (Z6b ZeJ)) (Z6b ZbR)) (Z6b ZeI)) ZeH) Z0e) Zaq) Zf1
noncomputable def Znj (F:List Int->Int×Int) (A:List Int->Int×Int):Zh:=(((((((((G0.withF 53 (nfF Z3H)).withF 128 (nfF (Zah F))).withF 129 (nfF Z62)).withF 130 (nfF Zag)).withF 66 Zaf).withF 119 Z0I).withP 30 (ZbX A)).withP 40 inQ).withF 38 ZmE).withL 26 100056 (jL4 rj0 rj2)
theorem ZaB:(Znj (ZU Zs) ZJ).Ok:=Zh.withL_join (H:=G0) (Zh.withF_ok Zfm Zhy) (by simp only [ZhQ,ZhR]) (Zkb (N:=20) Zp (by kernel_rfl) fun kk b xs p=>Zou kk b _ xs p rfl)
theorem Z2i {k:ClS} (h:YD k):Z6c k (decide (k.least<=k.last/\k.last<=k.most))=true:=by
 unfold Z6c
 split
 ·rename_i ho;exact decide_eq_true (h.off ho)
 ·rename_i ho;rw [h.nof ho];rfl
theorem VZ {k:ClS} (hm:Yg ZJ k=true) (ho:Z6c k (decide (k.least<=k.last/\k.last<=k.most))=true) (ha:k.agrees=true->k.offers=true/\k.fee=k.last/\Y0 k.t k.a0 k.a1 k.fee=0) (hn:k.agrees=false->k.fee=0):YD k:=by
 refine ⟨YZ.1 hm,fun h=> ?_,fun h=> ?_,ha,hn⟩
 ·unfold Z6c at ho
  rw [h] at ho
  exact of_decide_eq_true ho
 ·unfold Z6c at ho
  rw [h] at ho
  exact beq_iff_eq.1 ho
theorem nT {b:Bool} (h:(!b)=true):b=false:=by simpa using h
theorem nF {b:Bool} (h:(!b)=false):b=true:=by simpa using h
theorem Zij (F:List Int->Int×Int) (A:List Int->Int×Int) (xs:List Int) (N:Nat) (k:ClS) (ok:Bool) (hN:xs.length=N) (hB:N<90000000000000) (hb:Bytes xs) (hF:F=ZU Zs) (hA:A=ZJ) (hok:ok=true->XC F xs=some (k,N)/\YD k) (hno:ok=false->∀k,XC F xs=some (k,N)->¬YD k):
  evF (Znj F A) 40 26 [.vints .u8 xs N] ⟨0,[]⟩ (clK ok k):=by
 refine @Eq.mpr _ (let q1:=List.length xs;let q2:=AV.arr u8 32 Z5;let q3:=AV.int i64 0;let q4:=[AV.bool true];let q5:=Z0 ok False True;let q6:=k.t;
 Z0 (decide (q1=N/\N<90000000000000))
 (∃(k_1:ClS),
 let q13:=k_1.t;
 q2::q3::q3::q3::q3::q3::q2::q2::q3::AV.arr i64 2 [(0:Int),0]::q3::q3::AV.bool false::q3::AV.bool false::q3::q4=AV.arr u8 32 q13.fund::AV.int i64 q13.index::AV.int i64 q13.cap::AV.int i64 q13.dust::AV.int i64 q13.fee::AV.int i64 q13.delay::AV.arr u8 32 q13.k0::AV.arr u8 32 q13.k1::AV.int i64 k_1.side::AV.arr i64 2 [k_1.a0,k_1.a1]::AV.int i64 k_1.least::AV.int i64 k_1.most::AV.bool k_1.offers::AV.int i64 k_1.last::AV.bool k_1.agrees::AV.int i64 k_1.fee::q4/\
 Z0 (decide (N=q1-0/\0<=q1/\N=q1-0))
 ((∀(hh:List Int) (o':Nat),
 let q15:=rdN F xs o' 1125899906842624;
 rdH xs 0=some (hh,o')->
 0<=o'/\o'<=q1/\List.length hh=32->
 Z0 (decide (q1-o'=q1-o'/\o'<=q1/\q1-o'=q1-o'/\(0:Int)<=1125899906842624))
 ((∀(v:Int) (o'_1:Nat),
 let q17:=rdN F xs o'_1 1125899906842624;
 q15=some (v,o'_1)->
 o'<=o'_1/\o'_1<=q1/\v<=1125899906842624->
 Z0 (decide (q1-o'_1=q1-o'_1/\o'_1<=q1/\q1-o'_1=q1-o'_1/\(0:Int)<=1125899906842624))
 ((∀(v_1:Int) (o':Nat),
 let q19:=rdN F xs o' 1125899906842624;
 q17=some (v_1,o')->
 o'_1<=o'/\o'<=q1/\v_1<=1125899906842624->
 Z0 (decide (q1-o'=q1-o'/\o'<=q1/\q1-o'=q1-o'/\(0:Int)<=1125899906842624))
 ((∀(v_2:Int) (o'_2:Nat),
 let q21:=rdN F xs o'_2 1125899906842624;
 q19=some (v_2,o'_2)->
 o'<=o'_2/\o'_2<=q1/\v_2<=1125899906842624->
 Z0 (decide (q1-o'_2=q1-o'_2/\o'_2<=q1/\q1-o'_2=q1-o'_2/\(0:Int)<=1125899906842624))
 ((∀(v_3:Int) (o':Nat),
 let q23:=rdN F xs o' 1125899906842624;
 q21=some (v_3,o')->
 o'_2<=o'/\o'<=q1/\v_3<=1125899906842624->
 Z0 (decide (q1-o'=q1-o'/\o'<=q1/\q1-o'=q1-o'/\(0:Int)<=1125899906842624))
 ((∀(v_4:Int) (o'_3:Nat),
 q23=some (v_4,o'_3)->
 o'<=o'_3/\o'_3<=q1/\v_4<=1125899906842624->
 Z0 (decide (q1-o'_3=q1-o'_3/\o'_3<=q1/\q1-o'_3=q1-o'_3))
 ((∀(hh_1:List Int) (o':Nat),
 rdH xs o'_3=some (hh_1,o')->
 o'_3<=o'/\o'<=q1/\List.length hh_1=32->
 Z0 (decide (q1-o'=q1-o'/\o'<=q1/\q1-o'=q1-o'))
 ((∀(hh_2:List Int) (o'_4:Nat),
 let q25:=rdN F xs o'_4 1125899906842624;
 rdH xs o'=some (hh_2,o'_4)->
 o'<=o'_4/\o'_4<=q1/\List.length hh_2=32->
 Z0 (decide (q1-o'_4=q1-o'_4/\o'_4<=q1/\q1-o'_4=q1-o'_4/\(0:Int)<=1125899906842624))
 ((∀(v_5:Int) (o':Nat),
 let q27:=rdN F xs o' 1125899906842624;
 q25=some (v_5,o')->
 o'_4<=o'/\o'<=q1/\v_5<=1125899906842624->
 Z0 (decide (q1-o'=q1-o'/\o'<=q1/\q1-o'=q1-o'/\(0:Int)<=1125899906842624))
 ((∀(v_6:Int) (o'_5:Nat),
 let q29:=rdN F xs o'_5 1125899906842624;
 q27=some (v_6,o'_5)->
 o'<=o'_5/\o'_5<=q1/\v_6<=1125899906842624->
 Z0 (decide (q1-o'_5=q1-o'_5/\o'_5<=q1/\q1-o'_5=q1-o'_5/\(0:Int)<=1125899906842624))
 ((∀(v_7:Int) (o':Nat),
 let q31:=rdN F xs o' 1125899906842624;
 q29=some (v_7,o')->
 o'_5<=o'/\o'<=q1/\v_7<=1125899906842624->
 Z0 (decide (q1-o'=q1-o'/\o'<=q1/\q1-o'=q1-o'/\(0:Int)<=1125899906842624))
 ((∀(v_8:Int) (o'_6:Nat),
 let q33:=rdN F xs o'_6 1125899906842624;
 q31=some (v_8,o'_6)->
 o'<=o'_6/\o'_6<=q1/\v_8<=1125899906842624->
 Z0 (decide (q1-o'_6=q1-o'_6/\o'_6<=q1/\q1-o'_6=q1-o'_6/\(0:Int)<=1125899906842624))
 ((∀(v_9:Int) (o':Nat),
 q33=some (v_9,o')->
 o'_6<=o'/\o'<=q1/\v_9<=1125899906842624->
 Z0 (decide (q1-o'=q1-o'/\o'<=q1/\q1-o'=q1-o'))
 ((∀(v_10:Bool) (o'_7:Nat),
 let q35:=rdN F xs o'_7 1125899906842624;
 rdT xs o'=some (v_10,o'_7)->
 o'<=o'_7/\o'_7<=q1->
 Z0 (decide (q1-o'_7=q1-o'_7/\o'_7<=q1/\q1-o'_7=q1-o'_7/\(0:Int)<=1125899906842624))
 ((∀(v_11:Int) (o':Nat),
 q35=some (v_11,o')->
 o'_7<=o'/\o'<=q1/\v_11<=1125899906842624->
 Z0 (decide (q1-o'=q1-o'/\o'<=q1/\q1-o'=q1-o'))
 ((∀(v_12:Bool) (o'_8:Nat),
 let q37:=rdN F xs o'_8 1125899906842624;
 rdT xs o'=some (v_12,o'_8)->
 o'<=o'_8/\o'_8<=q1->
 Z0 (decide (q1-o'_8=q1-o'_8/\o'_8<=q1/\q1-o'_8=q1-o'_8/\(0:Int)<=1125899906842624))
 ((∀(v_13:Int) (o':Nat),
 q37=some (v_13,o')->
 o'_8<=o'/\o'<=q1/\v_13<=1125899906842624->
 ∃(kk:ClS),
 let q39:=kk.offers;let q40:=kk.t;let q41:=q40.fund;let q42:=q40.index;let q43:=q40.cap;let q44:=q40.dust;let q45:=q40.fee;let q46:=q40.delay;let q47:=q40.k0;let q48:=q40.k1;let q49:=kk.side;let q50:=[kk.a0,kk.a1];let q51:=kk.least;let q52:=kk.most;let q53:=kk.last;let q54:=kk.agrees;let q55:=kk.fee;let q56:= !q54;let q57:=Z0 ok (q41=q6.fund/\Z0 (decide (q42=q6.index)) (Z0 (decide (q43=q6.cap)) (Z0 (decide (q44=q6.dust)) (Z0 (decide (q45=q6.fee)) (Z0 (decide (q46=q6.delay)) (q47=q6.k0/\q48=q6.k1/\Z0 (decide (q49=k.side)) (q50=[k.a0,k.a1]/\Z0 (decide (q51=k.least)) (Z0 (decide (q52=k.most)) (Z0 (decide (q39=k.offers)) (Z0 (decide (q53=k.last)) (Z0 (decide (q54=k.agrees)) (Z0 (decide (q55=k.fee)) True False) False) False) False) False) False) False) False) False) False) False) False) False;
 ∃(b:Bool),
 let q77:= !Z6c kk b;
 ∃(xs_1:List Int),
 ∃(p:Nat),
 let q79:=List.length xs_1-p;let q80:=decide (q79=q79);let q81:=decide (q79=0);let q82:=(∃(k:ClS),
 XJ [AV.arr u8 32 q41,AV.int i64 q42,AV.int i64 q43,AV.int i64 q44,AV.int i64 q45,AV.int i64 q46,AV.arr u8 32 q47,AV.arr u8 32 q48,AV.int i64 q49,AV.arr i64 2 q50,AV.int i64 q51,AV.int i64 q52,AV.bool q39,AV.int i64 q53,AV.bool q54,AV.int i64 q55] k/\(Zo.Ok k.t/\k.a0<9223372036854775808)/\Z0 q80 (Z0 q81 (∃(k_2:ClS),XJ [AV.arr u8 32 q41,AV.int i64 q42,AV.int i64 q43,AV.int i64 q44,AV.int i64 q45,AV.int i64 q46,AV.arr u8 32 q47,AV.arr u8 32 q48,AV.int i64 q49,AV.arr i64 2 q50,AV.int i64 q51,AV.int i64 q52,AV.bool q39,AV.int i64 q53,AV.bool q54,AV.int i64 q55] k_2/\Zo.Ok k_2.t/\Z0 (!Yg A k_2) q5 (Z0 q77 q5 (Z0 (!q55==0) q5 (Z0 q54 (Z0 (Y0 k.t k.a0 k.a1 q55 !=0) q5 q57) q57)))) q5) False);
 Z0 (decide ((!v_10)= !q39))
 (Z0 (decide (decide (v_8<=v_11/\v_11<=v_9)=b))
 (hh=q41/\
 Z0 (decide (v=q42))
 (Z0 (decide (v_1=q43))
 (Z0 (decide (v_2=q44))
 (Z0 (decide (v_3=q45))
 (Z0 (decide (v_4=q46))
 (hh_1=q47/\
 hh_2=q48/\
 Z0 (decide (v_5=q49))
 ([v_6,v_7]=q50/\
 Z0 (decide (v_8=q51))
 (Z0 (decide (v_9=q52))
 (Z0 (decide (v_10=q39))
 (Z0 (decide (v_11=q53))
 (Z0 (decide (v_12=q54))
 (Z0 (decide (v_13=q55))
 (Z0 (decide (o'=p))
 (Z0 (decide (q1-o'=q79))
 (Z0 (decide (q79<=q1-o'))
 (xs=xs_1/\
 Z0 q39
 (Z0 q56 q82
 (∃(k:ClS),
 let q87:=[AV.arr u8 32 q41,AV.int i64 q42,AV.int i64 q43,AV.int i64 q44,AV.int i64 q45,AV.int i64 q46,AV.arr u8 32 q47,AV.arr u8 32 q48,AV.int i64 q49,AV.arr i64 2 q50,AV.int i64 q51,AV.int i64 q52,AV.bool q39,AV.int i64 q53,AV.bool q54,AV.int i64 q55];
 XJ q87 k/\(Zo.Ok k.t/\k.a0<9223372036854775808)/\Z0 q80 (Z0 q81 (∃(k_2:ClS),XJ q87 k_2/\Zo.Ok k_2.t/\Z0 (!Yg A k_2) q5 (Z0 q77 q5 (Z0 (!q55==q53) q5 (Z0 q54 (Z0 (Y0 k.t k.a0 k.a1 q55 !=0) q5 q57) q57)))) q5) False))
 (Z0 q56 q82
 (∃(k:ClS),
 let q87:=[AV.arr u8 32 q41,AV.int i64 q42,AV.int i64 q43,AV.int i64 q44,AV.int i64 q45,AV.int i64 q46,AV.arr u8 32 q47,AV.arr u8 32 q48,AV.int i64 q49,AV.arr i64 2 q50,AV.int i64 q51,AV.int i64 q52,AV.bool q39,AV.int i64 q53,AV.bool q54,AV.int i64 q55];
 XJ q87 k/\(Zo.Ok k.t/\k.a0<9223372036854775808)/\Z0 q80 (Z0 q81 (∃(k:ClS),XJ q87 k/\Zo.Ok k.t/\Z0 (!Yg A k) q5 (Z0 q77 q5 q5)) q5) False)))
 False)
 False)
 False)
 False)
 False)
 False)
 False)
 False)
 False)
 False)
 False)
 False)
 False)
 False)
 False)
 False)
 False)/\
 (q37=none->q5))
 False)/\
 (rdT xs o'=none->q5))
 False)/\
 (q35=none->q5))
 False)/\
 (rdT xs o'=none->q5))
 False)/\
 (q33=none->q5))
 False)/\
 (q31=none->q5))
 False)/\
 (q29=none->q5))
 False)/\
 (q27=none->q5))
 False)/\
 (q25=none->q5))
 False)/\
 (rdH xs o'=none->q5))
 False)/\
 (rdH xs o'_3=none->q5))
 False)/\
 (q23=none->q5))
 False)/\
 (q21=none->q5))
 False)/\
 (q19=none->q5))
 False)/\
 (q17=none->q5))
 False)/\
 (q15=none->q5))
 False)/\
 (rdH xs 0=none->q5))
 False)
 False) (by kernel_rfl) ?_
 conv=>zeta
 try simp only [Z8]
 try simp only [Ze]
 try simp only [Za]
 try simp only [Zf]
 try simp only [Zg]
 try simp only [Z9]
 try simp only [Y_s]
 subst hN
 have bad:XC F xs=none->ok=false:=fun h=>Bool.eq_false_iff.2 fun e=>by rw [(hok e).1] at h;cases h
 refine ⟨⟨rfl,hB⟩,clZ,rfl, ?_⟩
 refine ⟨by omega,fun v0 o0 e0 b0=> ?_,fun e0=>bad (by simp [XC,e0])⟩
 refine ⟨by omega,fun v1 o1 e1 b1=> ?_,fun e1=>bad (by simp [XC,e0,e1])⟩
 refine ⟨by omega,fun v2 o2 e2 b2=> ?_,fun e2=>bad (by simp [XC,e0,e1,e2])⟩
 refine ⟨by omega,fun v3 o3 e3 b3=> ?_,fun e3=>bad (by simp [XC,e0,e1,e2,e3])⟩
 refine ⟨by omega,fun v4 o4 e4 b4=> ?_,fun e4=>bad (by simp [XC,e0,e1,e2,e3,e4])⟩
 refine ⟨by omega,fun v5 o5 e5 b5=> ?_,fun e5=>bad (by simp [XC,e0,e1,e2,e3,e4,e5])⟩
 refine ⟨by omega,fun v6 o6 e6 b6=> ?_,fun e6=>bad (by simp [XC,e0,e1,e2,e3,e4,e5,e6])⟩
 refine ⟨by omega,fun v7 o7 e7 b7=> ?_,fun e7=>bad (by simp [XC,e0,e1,e2,e3,e4,e5,e6,e7])⟩
 refine ⟨by omega,fun v8 o8 e8 b8=> ?_,fun e8=>bad (by simp [XC,e0,e1,e2,e3,e4,e5,e6,e7,e8])⟩
 refine ⟨by omega,fun v9 o9 e9 b9=> ?_,fun e9=>bad (by simp [XC,e0,e1,e2,e3,e4,e5,e6,e7,e8,e9])⟩
 refine ⟨by omega,fun v10 o10 e10 b10=> ?_,fun e10=>bad (by simp [XC,e0,e1,e2,e3,e4,e5,e6,e7,e8,e9,e10])⟩
 refine ⟨by omega,fun v11 o11 e11 b11=> ?_,fun e11=>bad (by simp [XC,e0,e1,e2,e3,e4,e5,e6,e7,e8,e9,e10,e11])⟩
 refine ⟨by omega,fun v12 o12 e12 b12=> ?_,fun e12=>bad (by simp [XC,e0,e1,e2,e3,e4,e5,e6,e7,e8,e9,e10,e11,e12])⟩
 refine ⟨by omega,fun v13 o13 e13 b13=> ?_,fun e13=>bad (by simp [XC,e0,e1,e2,e3,e4,e5,e6,e7,e8,e9,e10,e11,e12,e13])⟩
 refine ⟨by omega,fun v14 o14 e14 b14=> ?_,fun e14=>bad (by simp [XC,e0,e1,e2,e3,e4,e5,e6,e7,e8,e9,e10,e11,e12,e13,e14])⟩
 refine ⟨by omega,fun v15 o15 e15 b15=> ?_,fun e15=>bad (by simp [XC,e0,e1,e2,e3,e4,e5,e6,e7,e8,e9,e10,e11,e12,e13,e14,e15])⟩
 refine ⟨by omega,fun v16 o16 e16 b16=> ?_,fun e16=>bad (by simp [XC,e0,e1,e2,e3,e4,e5,e6,e7,e8,e9,e10,e11,e12,e13,e14,e15,e16])⟩
 have hr:XC F xs=some ((⟨⟨v0,v1,v2,v3,v4,v5,v6,v7⟩,v8,v9,v10,v11,v12,v13,v14,v15,v16⟩:ClS),o16):=by
  simp only [XC,Option.bind_some,e0,e1,e2,e3,e4,e5,e6,e7,e8,e9,e10,e11,e12,e13,e14,e15,e16]
 have hAll:(⟨⟨v0,v1,v2,v3,v4,v5,v6,v7⟩,v8,v9,v10,v11,v12,v13,v14,v15,v16⟩:ClS).t.All:=Z7t hb (hF▸hr)
 have hbad:¬(o16=xs.length/\YD (⟨⟨v0,v1,v2,v3,v4,v5,v6,v7⟩,v8,v9,v10,v11,v12,v13,v14,v15,v16⟩:ClS))->ok=false:=fun h=>Bool.eq_false_iff.2 fun e=>by
  obtain ⟨h1,h2⟩:=hok e
  rw [hr] at h1
  cases h1
  exact h ⟨rfl,h2⟩
 have hgood:o16=xs.length->YD (⟨⟨v0,v1,v2,v3,v4,v5,v6,v7⟩,v8,v9,v10,v11,v12,v13,v14,v15,v16⟩:ClS)->ok=true/\k=(⟨⟨v0,v1,v2,v3,v4,v5,v6,v7⟩,v8,v9,v10,v11,v12,v13,v14,v15,v16⟩:ClS):=fun hp hI=>by
  cases hq:ok with
  | true=>
   obtain ⟨h1,h2⟩:=hok hq
   rw [hr] at h1
   cases h1
   exact ⟨rfl,rfl⟩
  | false=>exact absurd hI (hno hq _ (hp▸hr))
 have ha0:v9<9223372036854775808:=by omega
 have hmB:∀{b:Bool},Yg A (⟨⟨v0,v1,v2,v3,v4,v5,v6,v7⟩,v8,v9,v10,v11,v12,v13,v14,v15,v16⟩:ClS)=b->Yg ZJ (⟨⟨v0,v1,v2,v3,v4,v5,v6,v7⟩,v8,v9,v10,v11,v12,v13,v14,v15,v16⟩:ClS)=b:=fun h=>hA▸h
 refine ⟨(⟨⟨v0,v1,v2,v3,v4,v5,v6,v7⟩,v8,v9,v10,v11,v12,v13,v14,v15,v16⟩:ClS),decide (v11<=v14/\v14<=v12),xs,o16, ?_⟩
 repeat' first
  | with_reducible rfl
  | exact Nat.le_refl _
  | with_reducible refine And.intro ?_ ?_
 ·intro hof
  refine ⟨fun hag=> ?_,fun hag=> ?_⟩
  ·refine ⟨(⟨⟨v0,v1,v2,v3,v4,v5,v6,v7⟩,v8,v9,v10,v11,v12,v13,v14,v15,v16⟩:ClS),⟨rfl⟩,⟨hAll.ok,ha0⟩,fun hp=>⟨(⟨⟨v0,v1,v2,v3,v4,v5,v6,v7⟩,v8,v9,v10,v11,v12,v13,v14,v15,v16⟩:ClS),⟨rfl⟩,hAll.ok,fun hm=>hbad ?_,fun hm=>⟨fun ho=>hbad ?_,fun ho=>⟨fun hf=>hbad ?_,fun hf=>⟨fun hg=>⟨fun ht=>hbad ?_,fun ht=> ?_⟩,fun hg=> ?_⟩⟩⟩⟩,fun hp=>hbad ?_⟩
   ·rintro ⟨_,hI⟩
    exact absurd ((YZ.2 hI.made).symm.trans (hmB (nT hm))) (by decide)
   ·rintro ⟨_,hI⟩
    exact absurd ((Z2i hI).symm.trans (nT ho)) (by decide)
   ·rintro ⟨_,hI⟩
    exact beq_eq_false_iff_ne.1 (nT hf) (hI.nag (nT hag))
   ·rintro ⟨_,hI⟩
    exact bne_iff_ne.1 ht (hI.agr hg).2.2
   ·exact absurd ((nT hag).symm.trans hg) (by decide)
   ·obtain ⟨q1,q2⟩:=hgood (by omega) (VZ (hmB (nF hm)) (nF ho) (fun h=>absurd (hg.symm.trans h) (by decide)) (fun _=>beq_iff_eq.1 (nF hf)))
    subst q2
    and_intros<;>first|exact q1|rfl
   ·rintro ⟨h,_⟩
    omega
  ·refine ⟨(⟨⟨v0,v1,v2,v3,v4,v5,v6,v7⟩,v8,v9,v10,v11,v12,v13,v14,v15,v16⟩:ClS),⟨rfl⟩,⟨hAll.ok,ha0⟩,fun hp=>⟨(⟨⟨v0,v1,v2,v3,v4,v5,v6,v7⟩,v8,v9,v10,v11,v12,v13,v14,v15,v16⟩:ClS),⟨rfl⟩,hAll.ok,fun hm=>hbad ?_,fun hm=>⟨fun ho=>hbad ?_,fun ho=>⟨fun hf=>hbad ?_,fun hf=>⟨fun hg=>⟨fun ht=>hbad ?_,fun ht=> ?_⟩,fun hg=> ?_⟩⟩⟩⟩,fun hp=>hbad ?_⟩
   ·rintro ⟨_,hI⟩
    exact absurd ((YZ.2 hI.made).symm.trans (hmB (nT hm))) (by decide)
   ·rintro ⟨_,hI⟩
    exact absurd ((Z2i hI).symm.trans (nT ho)) (by decide)
   ·rintro ⟨_,hI⟩
    exact beq_eq_false_iff_ne.1 (nT hf) (hI.agr (nF hag)).2.1
   ·rintro ⟨_,hI⟩
    exact bne_iff_ne.1 ht (hI.agr hg).2.2
   ·obtain ⟨q1,q2⟩:=hgood (by omega) (VZ (hmB (nF hm)) (nF ho) (fun _=>⟨hof,beq_iff_eq.1 (nF hf),bne_eq_false_iff_eq.1 ht⟩) (fun h=>absurd (hg.symm.trans h) (by decide)))
    subst q2
    and_intros<;>first|exact q1|rfl
   ·exact absurd ((nF hag).symm.trans hg) (by decide)
   ·rintro ⟨h,_⟩
    omega
 ·intro hof
  refine ⟨fun hag=> ?_,fun hag=> ?_⟩
  ·refine ⟨(⟨⟨v0,v1,v2,v3,v4,v5,v6,v7⟩,v8,v9,v10,v11,v12,v13,v14,v15,v16⟩:ClS),⟨rfl⟩,⟨hAll.ok,ha0⟩,fun hp=>⟨(⟨⟨v0,v1,v2,v3,v4,v5,v6,v7⟩,v8,v9,v10,v11,v12,v13,v14,v15,v16⟩:ClS),⟨rfl⟩,hAll.ok,fun hm=>hbad ?_,fun hm=>⟨fun ho=>hbad ?_,fun ho=>⟨fun hf=>hbad ?_,fun hf=>⟨fun hg=>⟨fun ht=>hbad ?_,fun ht=> ?_⟩,fun hg=> ?_⟩⟩⟩⟩,fun hp=>hbad ?_⟩
   ·rintro ⟨_,hI⟩
    exact absurd ((YZ.2 hI.made).symm.trans (hmB (nT hm))) (by decide)
   ·rintro ⟨_,hI⟩
    exact absurd ((Z2i hI).symm.trans (nT ho)) (by decide)
   ·rintro ⟨_,hI⟩
    exact beq_eq_false_iff_ne.1 (nT hf) (hI.nag (nT hag))
   ·rintro ⟨_,hI⟩
    exact bne_iff_ne.1 ht (hI.agr hg).2.2
   ·exact absurd ((nT hag).symm.trans hg) (by decide)
   ·obtain ⟨q1,q2⟩:=hgood (by omega) (VZ (hmB (nF hm)) (nF ho) (fun h=>absurd (hg.symm.trans h) (by decide)) (fun _=>beq_iff_eq.1 (nF hf)))
    subst q2
    and_intros<;>first|exact q1|rfl
   ·rintro ⟨h,_⟩
    omega
  ·refine ⟨(⟨⟨v0,v1,v2,v3,v4,v5,v6,v7⟩,v8,v9,v10,v11,v12,v13,v14,v15,v16⟩:ClS),⟨rfl⟩,⟨hAll.ok,ha0⟩,fun hp=>⟨(⟨⟨v0,v1,v2,v3,v4,v5,v6,v7⟩,v8,v9,v10,v11,v12,v13,v14,v15,v16⟩:ClS),⟨rfl⟩,hAll.ok,fun hm=>hbad ?_,fun hm=>⟨fun ho=>hbad ?_,fun ho=>hbad ?_⟩⟩,fun hp=>hbad ?_⟩
   ·rintro ⟨_,hI⟩
    exact absurd ((YZ.2 hI.made).symm.trans (hmB (nT hm))) (by decide)
   ·rintro ⟨_,hI⟩
    exact absurd ((Z2i hI).symm.trans (nT ho)) (by decide)
   ·rintro ⟨_,hI⟩
    exact absurd ((hI.agr (nF hag)).1.symm.trans hof) (by decide)
   ·rintro ⟨h,_⟩
    omega
inductive Q7 (xs:List Int):Option ClS->Prop
 | some (k:ClS):XC (ZU Zs) xs=some (k,xs.length)->YD k->Q7 xs (some k)
 | none:(∀k,XC (ZU Zs) xs=some (k,xs.length)->¬YD k)->Q7 xs none
def Z9e (R:Option ClS):ZR:=fun args h K=>frA [] h 20 args fun Bs a=>match Bs,a with
 | [],[.vints .u8 xs N]=>(xs.length=N/\N<90000000000000/\Bytes xs)/\Q7 xs R/\(match R with
  | some k=>K (.ret (.tuple [.ptr (some ⟨h.next,0,0,0,0⟩),.int .i64 0])) ⟨h.next+1,(h.next,.flat (k.c++[.bool true]))::h.bs⟩
  | none=>K (.ret (.tuple [.ptr none,.int .i64 253])) h)
 | _,_=>False
theorem Zkc {k:ClS} {o:Out} {h:Z6} (hk:clK true k o h):ZL 0 (.ret (.tuple [.ptr (some ⟨0,0,0,0,0⟩),.int .i64 0])) 1 [(0,.flat (k.c++[.bool true]))] o h:=by
 unfold clK at hk
 split at hk
 ·exact hk.elim
 ·exact hk
 ·exact hk.elim
theorem Zkd {k:ClS} {o:Out} {h:Z6} (hk:clK false k o h):ZL 0 (.ret (.tuple [.ptr none,.int .i64 253])) 0 [] o h:=by
 unfold clK at hk
 split at hk
 ·exact hk
 ·exact hk.elim
 ·exact hk.elim
theorem Zc2 {R:Option ClS} (args:List AV) (h:Z6) (K:KO) (hl:Z9e R args h K):Zi PP 26 args h K:=by
 unfold Z9e at hl
 refine Spec.fsumm hl fun Bs a hlen hK0=> ?_
 split at hK0
 ·obtain ⟨⟨rfl,h2,h3⟩,hR,hK⟩:=hK0
  rename_i xs
  cases hR with
  | some k hr hI=>exact ⟨_,_,_,_,_,Spec.evK ZaB (Zij _ _ xs _ k true rfl h2 h3 rfl rfl (fun _=>⟨hr,hI⟩) (fun h=>nomatch h)) (fun o' h' hk=>Zkc hk),Nat.zero_le _,.ret _ _ rfl,.cons _ _ _ _ _ _ rfl (.flat _ _ rfl) .nil,hK⟩
  | none hn=>exact ⟨_,_,_,_,_,Spec.evK ZaB (Zij _ _ xs _ clZ false rfl h2 h3 rfl rfl (fun h=>nomatch h) (fun _=>hn)) (fun o' h' hk=>Zkd hk),Nat.zero_le _,.ret _ _ rfl,.nil,hK⟩
 ·exact hK0.elim
theorem Zke (xs:List Int):∃R,Q7 xs R:=by
 by_cases h:∃k,XC (ZU Zs) xs=some (k,xs.length)/\YD k
 ·obtain ⟨k,h1,h2⟩:=h
  exact ⟨_,.some k h1 h2⟩
 ·exact ⟨_,.none fun k h1 h2=>h ⟨k,h1,h2⟩⟩
def Zfn:ZG:=fun args _ K=>match args with
 | [.agg [.vints .u8 ys n,.bool b]]=>∃xs s,ys=List.drop (RS.o s) xs/\(n=xs.length-s.o/\b=s.bad/\s.o<=xs.length)/\
   (∀t,Uq xs s=(true,t)->t.o<=xs.length->K (.tuple [.agg [.vints .u8 (xs.drop t.o) (xs.length-t.o),.bool t.bad],.bool true]))/\
   ∀t,Uq xs s=(false,t)->t.o<=xs.length->K (.tuple [.agg [.vints .u8 (xs.drop t.o) (xs.length-t.o),.bool t.bad],.bool false])
 | _=>False
theorem Zfo (args:List AV) (h:Z6) (K:AV->Prop) (hl:Zfn args h K):Zi PP 69 args h fun o h'=>∃v,o=.ret v/\h'=h/\K v:=by
 unfold Zfn at hl
 split at hl
 ·obtain ⟨xs,s,h1,h2,hT,hF⟩:=hl
  refine ZeY _ h K ⟨xs,s,h1,h2,fun v t hv ht=> ?_⟩
  cases v with
  | true=>exact hT t hv ht
  | false=>exact hF t hv ht
 ·exact hl.elim
def pF (S:ZG):ZR:=fun args h K=>S args h fun v=>Z3L h.bs fun bs=>K (.ret v) ⟨h.next,bs⟩
theorem Zfp {P:Program} {f:FuncId} {S:ZG} (hS:∀args h K,S args h K->Zi P f args h fun o h'=>∃v,o=.ret v/\h'=h/\K v) (args:List AV) (h:Z6) (K:KO) (hl:pF S args h K):Zi P f args h K:=by
 unfold pF at hl
 refine (hS _ _ _ hl).k fun o h' hk=> ?_
 obtain ⟨v,rfl,rfl,hk⟩:=hk
 rw [Z1q] at hk
 exact hk
noncomputable def Znk (F:List Int->Int×Int) (A:List Int->Int×Int) (Tg:List Int->TxS->List Int):Zh:=((((G0.withF 68 (pF (ZeW F))).withF 67 (pF Z94)).withF 69 (pF Zfn)).withP 51 (ZbX A)).withP 70 (Zid Tg)
theorem ZaC:(Znk (ZU Zs) ZJ ZO).Ok:=Zh.withP_ok (Zh.withP_ok (Zh.withF_ok (Zh.withF_ok (Zh.withF_ok Zp (Zfp ZeX)) (Zfp ZbV)) (Zfp Zfo)) Zhx) ZeZ
theorem X8 {xs:List Int} (hb:Bytes xs) (s:RS):(XY xs s).1.length=32/\Bytes (XY xs s).1:=by
 unfold XY
 split
 ·exact ⟨rfl,Yl⟩
 ·split
  ·rename_i hr;exact Z66 hb hr
  ·exact ⟨rfl,Yl⟩
theorem Zik (F:List Int->Int×Int) (A:List Int->Int×Int) (Tg:List Int->TxS->List Int) (xs:List Int) (N:Nat) (k:ClS) (ok:Bool) (hN:xs.length=N) (hb:Bytes xs) (hF:F=ZU Zs) (hA:A=ZJ) (hok:ok=true->XZ F xs=(k,⟨N,false⟩)/\YD k) (hno:ok=false->∀k,XZ F xs=(k,⟨N,false⟩)->¬YD k):
  evF (Znk F A Tg) 40 27 [.vints .u8 xs N] ⟨0,[]⟩ (Zf0 ok k):=by
 refine @Eq.mpr _ (let q1:=clZ.t;let q2:=Z0 ok False (Z5=q1.fund/\Z5=q1.k0/\Z5=q1.k1/\[(0:Int),0]=[clZ.a0,clZ.a1]/\True);let q3:=AV.bool true;let q4:=k.t;let q5:=decide (true=k.offers);let q6:=AV.bool false;
 ∃(xs_1:List Int),
 let q13:=List.length xs_1;
 ∃(s:RS),
 let q15:=s.o;
 xs=List.drop q15 xs_1/\
 (N=q13-q15/\false=s.bad/\q15<=q13)/\
 ∀(v:List Int),
 let q17:=AV.arr u8 32 v;let q18:=v=q4.fund;
 ∀(t:RS),
 let q21:=t.o;
 XY xs_1 s=(v,t)->
 q21<=q13->
 ∃(xs:List Int),
 let q23:=List.length xs;
 ∃(s:RS),
 let q25:=s.o;
 List.drop q21 xs_1=List.drop q25 xs/\
 (q13-q21=q23-q25/\t.bad=s.bad/\q25<=q23/\Bytes xs/\(0:Int)<=23)/\
 ∀(v:Int),
 let q27:=AV.int i64 v;let q28:=decide (v=q4.index);
 ∀(t:RS),
 let q31:=t.o;
 YE F xs s 23=(v,t)->
 q31<=q23->
 ∃(xs_2:List Int),
 let q33:=List.length xs_2;
 ∃(s:RS),
 let q35:=s.o;
 List.drop q31 xs=List.drop q35 xs_2/\
 (q23-q31=q33-q35/\t.bad=s.bad/\q35<=q33/\Bytes xs_2/\(0:Int)<=1125899906842624)/\
 ∀(v:Int),
 let q37:=AV.int i64 v;let q38:=decide (v=q4.cap);
 ∀(t:RS),
 let q41:=t.o;
 YE F xs_2 s 1125899906842624=(v,t)->
 q41<=q33->
 ∃(xs:List Int),
 let q43:=List.length xs;
 ∃(s:RS),
 let q45:=s.o;
 List.drop q41 xs_2=List.drop q45 xs/\
 (q33-q41=q43-q45/\t.bad=s.bad/\q45<=q43/\Bytes xs/\(0:Int)<=500)/\
 ∀(v:Int),
 let q47:=AV.int i64 v;let q48:=decide (v=q4.dust);
 ∀(t:RS),
 let q51:=t.o;
 YE F xs s 500=(v,t)->
 q51<=q43->
 ∃(xs_3:List Int),
 let q53:=List.length xs_3;
 ∃(s:RS),
 let q55:=s.o;
 List.drop q51 xs=List.drop q55 xs_3/\
 (q43-q51=q53-q55/\t.bad=s.bad/\q55<=q53/\Bytes xs_3/\(0:Int)<=400)/\
 ∀(v:Int),
 let q57:=AV.int i64 v;let q58:=decide (v=q4.fee);
 ∀(t:RS),
 let q61:=t.o;
 YE F xs_3 s 400=(v,t)->
 q61<=q53->
 ∃(xs:List Int),
 let q63:=List.length xs;
 ∃(s:RS),
 let q65:=s.o;
 List.drop q61 xs_3=List.drop q65 xs/\
 (q53-q61=q63-q65/\t.bad=s.bad/\q65<=q63/\Bytes xs/\(0:Int)<=1000)/\
 ∀(v:Int),
 let q67:=AV.int i64 v;let q68:=decide (v=q4.delay);
 ∀(t:RS),
 let q71:=t.o;
 YE F xs s 1000=(v,t)->
 q71<=q63->
 ∃(xs_4:List Int),
 let q73:=List.length xs_4;
 ∃(s:RS),
 let q75:=s.o;
 List.drop q71 xs=List.drop q75 xs_4/\
 (q63-q71=q73-q75/\t.bad=s.bad/\q75<=q73)/\
 ∀(v:List Int),
 let q77:=AV.arr u8 32 v;let q78:=v=q4.k0;
 ∀(t:RS),
 let q81:=t.o;
 XY xs_4 s=(v,t)->
 q81<=q73->
 ∃(xs:List Int),
 let q83:=List.length xs;
 ∃(s:RS),
 let q85:=s.o;
 List.drop q81 xs_4=List.drop q85 xs/\
 (q73-q81=q83-q85/\t.bad=s.bad/\q85<=q83)/\
 ∀(v:List Int),
 let q87:=AV.arr u8 32 v;let q88:=v=q4.k1;
 ∀(t:RS),
 let q91:=t.o;
 XY xs s=(v,t)->
 q91<=q83->
 ∃(xs_5:List Int),
 let q93:=List.length xs_5;
 ∃(s:RS),
 let q95:=s.o;
 List.drop q91 xs=List.drop q95 xs_5/\
 (q83-q91=q93-q95/\t.bad=s.bad/\q95<=q93/\Bytes xs_5/\(0:Int)<=1)/\
 ∀(v:Int),
 let q97:=AV.int i64 v;let q98:=decide (v=k.side);
 ∀(t:RS),
 let q101:=t.o;
 YE F xs_5 s 1=(v,t)->
 q101<=q93->
 ∃(xs:List Int),
 let q103:=List.length xs;
 ∃(s:RS),
 let q105:=s.o;
 List.drop q101 xs_5=List.drop q105 xs/\
 (q93-q101=q103-q105/\t.bad=s.bad/\q105<=q103/\Bytes xs/\(0:Int)<=1125899906842624)/\
 ∀(v:Int) (t:RS),
 let q107:=t.o;
 YE F xs s 1125899906842624=(v,t)->
 q107<=q103->
 ∃(xs_6:List Int),
 let q109:=List.length xs_6;
 ∃(s:RS),
 let q111:=s.o;
 List.drop q107 xs=List.drop q111 xs_6/\
 (q103-q107=q109-q111/\t.bad=s.bad/\q111<=q109/\Bytes xs_6/\(0:Int)<=1125899906842624)/\
 ∀(v_1:Int),
 let q113:=[v,v_1];let q114:=AV.arr i64 2 q113;let q115:=q113=[k.a0,k.a1];
 ∀(t:RS),
 let q119:=t.o;
 YE F xs_6 s 1125899906842624=(v_1,t)->
 q119<=q109->
 ∃(xs:List Int),
 let q121:=List.length xs;
 ∃(s:RS),
 let q123:=s.o;
 List.drop q119 xs_6=List.drop q123 xs/\
 (q109-q119=q121-q123/\t.bad=s.bad/\q123<=q121/\Bytes xs/\(0:Int)<=1125899906842624)/\
 ∀(v:Int),
 let q125:=AV.int i64 v;let q126:=decide (v=k.least);
 ∀(t:RS),
 let q129:=t.o;
 YE F xs s 1125899906842624=(v,t)->
 q129<=q121->
 ∃(xs_7:List Int),
 let q131:=List.length xs_7;
 ∃(s:RS),
 let q133:=s.o;
 List.drop q129 xs=List.drop q133 xs_7/\
 (q121-q129=q131-q133/\t.bad=s.bad/\q133<=q131/\Bytes xs_7/\(0:Int)<=1125899906842624)/\
 ∀(v_2:Int),
 let q135:=AV.int i64 v_2;let q136:=decide (v_2=k.most);
 ∀(t:RS),
 let q139:=t.o;
 YE F xs_7 s 1125899906842624=(v_2,t)->
 q139<=q131->
 ∃(xs:List Int),
 let q141:=List.length xs;
 ∃(s:RS),
 let q143:=s.o;
 List.drop q139 xs_7=List.drop q143 xs/\
 (q131-q139=q141-q143/\t.bad=s.bad/\q143<=q141)/\
 (∀(t:RS),
 let q145:=t.o;
 Uq xs s=(true,t)->
 q145<=q141->
 ∃(xs_8:List Int),
 let q147:=List.length xs_8;
 ∃(s:RS),
 let q149:=s.o;
 List.drop q145 xs=List.drop q149 xs_8/\
 (q141-q145=q147-q149/\t.bad=s.bad/\q149<=q147/\Bytes xs_8/\(0:Int)<=1125899906842624)/\
 ∀(v_3:Int),
 let q151:=AV.int i64 v_3;let q152:=decide (v_3<v);let q153:=decide (v_3>v_2);let q154:=decide (v_3=k.last);
 ∀(t:RS),
 let q159:=t.o;
 YE F xs_8 s 1125899906842624=(v_3,t)->
 q159<=q147->
 ∃(xs:List Int),
 let q161:=List.length xs;
 ∃(s:RS),
 let q163:=s.o;
 List.drop q159 xs_8=List.drop q163 xs/\
 (q147-q159=q161-q163/\t.bad=s.bad/\q163<=q161)/\
 (∀(t:RS),
 let q165:=t.o;
 Uq xs s=(true,t)->
 q165<=q161->
 ∃(xs_9:List Int),
 let q167:=List.length xs_9;
 ∃(s:RS),
 let q169:=s.o;
 List.drop q165 xs=List.drop q169 xs_9/\
 (q161-q165=q167-q169/\t.bad=s.bad/\q169<=q167/\Bytes xs_9/\(0:Int)<=1125899906842624)/\
 ∀(v:Int) (t:RS),
 YE F xs_9 s 1125899906842624=(v,t)->
 t.o<=q167->
 Z0 t.bad q2
 (Z0 (decide ((↑(q167-t.o):Int)>0)) q2
 (∃(k_1:ClS),
 let q171:=[q17,q27,q37,q47,q57,q67,q77,q87,q97,q114,q125,q135,q3,q151,q3,AV.int i64 v];
 XJ q171 k_1/\Zo.Ok k_1.t/\Z0 (!Yg A k_1) q2 (Z0 q152 q2 (Z0 q153 q2 (Z0 (v !=v_3) q2 (∃(k_2:ClS),XJ q171 k_2/\(Zo.All k_2.t/\k_2.a0<9223372036854775808/\((0:Int)=0\/(0:Int)=1))/\Z0 (Y0 k_2.t k_2.a0 k_2.a1 v !=0) q2 (Z0 ok (q18/\Z0 q28 (Z0 q38 (Z0 q48 (Z0 q58 (Z0 q68 (q78/\q88/\Z0 q98 (q115/\Z0 q126 (Z0 q136 (Z0 q5 (Z0 q154 (Z0 (decide (true=k.agrees)) (Z0 (decide (v=k.fee)) True False) False) False) False) False) False) False) False) False) False) False) False) False))))))))/\
 ∀(t:RS),
 let q165:=t.o;
 Uq xs s=(false,t)->
 q165<=q161->
 ∃(xs_9:List Int),
 let q167:=List.length xs_9;
 ∃(s:RS),
 let q169:=s.o;
 List.drop q165 xs=List.drop q169 xs_9/\
 (q161-q165=q167-q169/\t.bad=s.bad/\q169<=q167/\Bytes xs_9/\(0:Int)<=1125899906842624)/\
 ∀(v:Int) (t:RS),
 YE F xs_9 s 1125899906842624=(v,t)->
 t.o<=q167->
 Z0 t.bad q2
 (Z0 (decide ((↑(q167-t.o):Int)>0)) q2
 (∃(k_1:ClS),
 let q171:=[q17,q27,q37,q47,q57,q67,q77,q87,q97,q114,q125,q135,q3,q151,q6,AV.int i64 v];
 XJ q171 k_1/\Zo.Ok k_1.t/\Z0 (!Yg A k_1) q2 (Z0 q152 q2 (Z0 q153 q2 (Z0 (v !=0) q2 (∃(k_2:ClS),XJ q171 k_2/\(Zo.All k_2.t/\k_2.a0<9223372036854775808/\((0:Int)=0\/(0:Int)=1))/\Z0 ok (q18/\Z0 q28 (Z0 q38 (Z0 q48 (Z0 q58 (Z0 q68 (q78/\q88/\Z0 q98 (q115/\Z0 q126 (Z0 q136 (Z0 q5 (Z0 q154 (Z0 (decide (false=k.agrees)) (Z0 (decide (v=k.fee)) True False) False) False) False) False) False) False) False) False) False) False) False) False)))))))/\
 ∀(t:RS),
 let q145:=t.o;
 Uq xs s=(false,t)->
 q145<=q141->
 ∃(xs_8:List Int),
 let q147:=List.length xs_8;
 ∃(s:RS),
 let q149:=s.o;
 List.drop q145 xs=List.drop q149 xs_8/\
 (q141-q145=q147-q149/\t.bad=s.bad/\q149<=q147/\Bytes xs_8/\(0:Int)<=1125899906842624)/\
 ∀(v:Int),
 let q151:=AV.int i64 v;
 ∀(t:RS),
 let q153:=t.o;
 YE F xs_8 s 1125899906842624=(v,t)->
 q153<=q147->
 ∃(xs:List Int),
 let q155:=List.length xs;
 ∃(s:RS),
 let q157:=s.o;
 List.drop q153 xs_8=List.drop q157 xs/\
 (q147-q153=q155-q157/\t.bad=s.bad/\q157<=q155)/\
 (∀(t:RS),
 let q159:=t.o;
 Uq xs s=(true,t)->
 q159<=q155->
 ∃(xs_9:List Int),
 let q161:=List.length xs_9;
 ∃(s:RS),
 let q163:=s.o;
 List.drop q159 xs=List.drop q163 xs_9/\(q155-q159=q161-q163/\t.bad=s.bad/\q163<=q161/\Bytes xs_9/\(0:Int)<=1125899906842624)/\∀(v_3:Int) (t:RS),YE F xs_9 s 1125899906842624=(v_3,t)->t.o<=q161->Z0 t.bad q2 (Z0 (decide ((↑(q161-t.o):Int)>0)) q2 (∃(k:ClS),XJ [q17,q27,q37,q47,q57,q67,q77,q87,q97,q114,q125,q135,q6,q151,q3,AV.int i64 v_3] k/\Zo.Ok k.t/\Z0 (!Yg A k) q2 (Z0 (v !=0) q2 q2))))/\
 ∀(t:RS),
 let q159:=t.o;
 Uq xs s=(false,t)->
 q159<=q155->
 ∃(xs_9:List Int),
 let q161:=List.length xs_9;
 ∃(s:RS),
 let q163:=s.o;
 List.drop q159 xs=List.drop q163 xs_9/\
 (q155-q159=q161-q163/\t.bad=s.bad/\q163<=q161/\Bytes xs_9/\(0:Int)<=1125899906842624)/\
 ∀(v_3:Int) (t:RS),
 YE F xs_9 s 1125899906842624=(v_3,t)->
 t.o<=q161->
 Z0 t.bad q2
 (Z0 (decide ((↑(q161-t.o):Int)>0)) q2
 (∃(k_1:ClS),
 let q165:=[q17,q27,q37,q47,q57,q67,q77,q87,q97,q114,q125,q135,q6,q151,q6,AV.int i64 v_3];
 XJ q165 k_1/\Zo.Ok k_1.t/\Z0 (!Yg A k_1) q2 (Z0 (v !=0) q2 (Z0 (v_3 !=0) q2 (∃(k_2:ClS),XJ q165 k_2/\(Zo.All k_2.t/\k_2.a0<9223372036854775808/\((0:Int)=0\/(0:Int)=1))/\Z0 ok (q18/\Z0 q28 (Z0 q38 (Z0 q48 (Z0 q58 (Z0 q68 (q78/\q88/\Z0 q98 (q115/\Z0 q126 (Z0 q136 (Z0 (decide (false=k.offers)) (Z0 (decide (v=k.last)) (Z0 (decide (false=k.agrees)) (Z0 (decide (v_3=k.fee)) True False) False) False) False) False) False) False) False) False) False) False) False) False)))))) (by kernel_rfl) ?_
 conv=>zeta
 try simp only [Z8]
 try simp only [Ze]
 try simp only [Za]
 try simp only [Zf]
 try simp only [Zg]
 try simp only [Z9]
 try simp only [Y_s]
 subst hN
 refine ⟨xs,⟨0,false⟩,rfl,⟨rfl,rfl,Nat.zero_le _⟩,fun v0 t0 e0 b0=> ?_⟩
 refine ⟨xs,t0,rfl,⟨rfl,rfl,b0,hb,by decide⟩,fun v1 t1 e1 b1=> ?_⟩
 refine ⟨xs,t1,rfl,⟨rfl,rfl,b1,hb,by decide⟩,fun v2 t2 e2 b2=> ?_⟩
 refine ⟨xs,t2,rfl,⟨rfl,rfl,b2,hb,by decide⟩,fun v3 t3 e3 b3=> ?_⟩
 refine ⟨xs,t3,rfl,⟨rfl,rfl,b3,hb,by decide⟩,fun v4 t4 e4 b4=> ?_⟩
 refine ⟨xs,t4,rfl,⟨rfl,rfl,b4,hb,by decide⟩,fun v5 t5 e5 b5=> ?_⟩
 refine ⟨xs,t5,rfl,⟨rfl,rfl,b5⟩,fun v6 t6 e6 b6=> ?_⟩
 refine ⟨xs,t6,rfl,⟨rfl,rfl,b6⟩,fun v7 t7 e7 b7=> ?_⟩
 refine ⟨xs,t7,rfl,⟨rfl,rfl,b7,hb,by decide⟩,fun v8 t8 e8 b8=> ?_⟩
 refine ⟨xs,t8,rfl,⟨rfl,rfl,b8,hb,by decide⟩,fun v9 t9 e9 b9=> ?_⟩
 refine ⟨xs,t9,rfl,⟨rfl,rfl,b9,hb,by decide⟩,fun v10 t10 e10 b10=> ?_⟩
 refine ⟨xs,t10,rfl,⟨rfl,rfl,b10,hb,by decide⟩,fun v11 t11 e11 b11=> ?_⟩
 refine ⟨xs,t11,rfl,⟨rfl,rfl,b11,hb,by decide⟩,fun v12 t12 e12 b12=> ?_⟩
 refine ⟨xs,t12,rfl,⟨rfl,rfl,b12⟩,fun t13 e13 b13=> ?_,fun t13 e13 b13=> ?_⟩
 ·refine ⟨xs,t13,rfl,⟨rfl,rfl,b13,hb,by decide⟩,fun v14 t14 e14 b14=> ?_⟩
  refine ⟨xs,t14,rfl,⟨rfl,rfl,b14⟩,fun t15 e15 b15=> ?_,fun t15 e15 b15=> ?_⟩
  ·refine ⟨xs,t15,rfl,⟨rfl,rfl,b15,hb,by decide⟩,fun v16 t16 e16 b16=> ?_⟩
   have hr:XZ F xs=((⟨⟨v0,v1,v2,v3,v4,v5,v6,v7⟩,v8,v9,v10,v11,v12,true,v14,true,v16⟩:ClS),t16):=by
    unfold XZ
    simp only [e0,e1,e2,e3,e4,e5,e6,e7,e8,e9,e10,e11,e12,e13,e14,e15,e16]
   have c0:=X8 hb ⟨0,false⟩
   have c6:=X8 hb t5
   have c7:=X8 hb t6
   rw [e0] at c0
   rw [e6] at c6
   rw [e7] at c7
   have hAll:Zo.All (⟨⟨v0,v1,v2,v3,v4,v5,v6,v7⟩,v8,v9,v10,v11,v12,true,v14,true,v16⟩:ClS).t:=⟨⟨c6.1,c7.1,c6.2,c7.2⟩,c0.1,c0.2⟩
   have hbad:¬(t16.bad=false/\t16.o=xs.length/\YD (⟨⟨v0,v1,v2,v3,v4,v5,v6,v7⟩,v8,v9,v10,v11,v12,true,v14,true,v16⟩:ClS))->ok=false:=fun h=>Bool.eq_false_iff.2 fun e=>by
    obtain ⟨h1,h2⟩:=hok e
    rw [hr] at h1
    cases h1
    exact h ⟨rfl,rfl,h2⟩
   have hgood:t16.bad=false->t16.o=xs.length->YD (⟨⟨v0,v1,v2,v3,v4,v5,v6,v7⟩,v8,v9,v10,v11,v12,true,v14,true,v16⟩:ClS)->ok=true/\k=(⟨⟨v0,v1,v2,v3,v4,v5,v6,v7⟩,v8,v9,v10,v11,v12,true,v14,true,v16⟩:ClS):=fun h1 h2 hI=>by
    have hr2:XZ F xs=((⟨⟨v0,v1,v2,v3,v4,v5,v6,v7⟩,v8,v9,v10,v11,v12,true,v14,true,v16⟩:ClS),⟨xs.length,false⟩):=by rw [hr,<-h1,<-h2]
    cases hq:ok with
    | true=>
     obtain ⟨h3,h4⟩:=hok hq
     rw [hr2] at h3
     cases h3
     exact ⟨rfl,rfl⟩
    | false=>exact absurd hI (hno hq _ hr2)
   have ha9:v9<=1125899906842624:=Z2e (by decide) e9
   have ha0:(⟨⟨v0,v1,v2,v3,v4,v5,v6,v7⟩,v8,v9,v10,v11,v12,true,v14,true,v16⟩:ClS).a0<9223372036854775808:=by show v9<_;omega
   have hmB:∀{b:Bool},Yg A (⟨⟨v0,v1,v2,v3,v4,v5,v6,v7⟩,v8,v9,v10,v11,v12,true,v14,true,v16⟩:ClS)=b->Yg ZJ (⟨⟨v0,v1,v2,v3,v4,v5,v6,v7⟩,v8,v9,v10,v11,v12,true,v14,true,v16⟩:ClS)=b:=fun h=>hA▸h
   have Q2:ok=false->ok=false/\Z5=clZ.t.fund/\Z5=clZ.t.k0/\Z5=clZ.t.k1/\[(0:Int),0]=[clZ.a0,clZ.a1]:=fun h=>⟨h,rfl,rfl,rfl,rfl⟩
   refine ⟨fun hz=>Q2 (hbad fun h=> ?_),fun hz=>⟨fun hl=>Q2 (hbad fun h=> ?_),fun hl=>⟨(⟨⟨v0,v1,v2,v3,v4,v5,v6,v7⟩,v8,v9,v10,v11,v12,true,v14,true,v16⟩:ClS),⟨rfl⟩,hAll.ok,fun hm=>Q2 (hbad fun h=> ?_),fun hm=> ?_⟩⟩⟩
   ·exact absurd (hz.symm.trans h.1) (by decide)
   ·have:=h.2.1
    omega
   ·exact absurd ((YZ.2 h.2.2.made).symm.trans (hmB (nT hm))) (by decide)
   have hlen:t16.o=xs.length:=by omega
   refine ⟨fun h1=>Q2 (hbad fun h=> ?_),fun h1=>⟨fun h2=>Q2 (hbad fun h=> ?_),fun h2=>⟨fun h3=>Q2 (hbad fun h=> ?_),fun h3=>⟨(⟨⟨v0,v1,v2,v3,v4,v5,v6,v7⟩,v8,v9,v10,v11,v12,true,v14,true,v16⟩:ClS),⟨rfl⟩,⟨hAll,ha0,.inl True.intro⟩,fun h4=>Q2 (hbad fun h=> ?_),fun h4=> ?_⟩⟩⟩⟩
   ·have h5:v11<=v14:=(h.2.2.off rfl).1
    omega
   ·have h5:v14<=v12:=(h.2.2.off rfl).2
    omega
   ·exact bne_iff_ne.1 h3 (h.2.2.agr rfl).2.1
   ·exact bne_iff_ne.1 h4 (h.2.2.agr rfl).2.2
   ·obtain ⟨q1,q2⟩:=hgood hz hlen (VZ (hmB (nF hm)) (decide_eq_true (show v11<=v14/\v14<=v12 by omega)) (fun _=>⟨rfl,bne_eq_false_iff_eq.1 h3,bne_eq_false_iff_eq.1 h4⟩) (fun h=>nomatch h))
    subst q2
    and_intros<;>first|exact q1|rfl
  ·refine ⟨xs,t15,rfl,⟨rfl,rfl,b15,hb,by decide⟩,fun v16 t16 e16 b16=> ?_⟩
   have hr:XZ F xs=((⟨⟨v0,v1,v2,v3,v4,v5,v6,v7⟩,v8,v9,v10,v11,v12,true,v14,false,v16⟩:ClS),t16):=by
    unfold XZ
    simp only [e0,e1,e2,e3,e4,e5,e6,e7,e8,e9,e10,e11,e12,e13,e14,e15,e16]
   have c0:=X8 hb ⟨0,false⟩
   have c6:=X8 hb t5
   have c7:=X8 hb t6
   rw [e0] at c0
   rw [e6] at c6
   rw [e7] at c7
   have hAll:Zo.All (⟨⟨v0,v1,v2,v3,v4,v5,v6,v7⟩,v8,v9,v10,v11,v12,true,v14,false,v16⟩:ClS).t:=⟨⟨c6.1,c7.1,c6.2,c7.2⟩,c0.1,c0.2⟩
   have hbad:¬(t16.bad=false/\t16.o=xs.length/\YD (⟨⟨v0,v1,v2,v3,v4,v5,v6,v7⟩,v8,v9,v10,v11,v12,true,v14,false,v16⟩:ClS))->ok=false:=fun h=>Bool.eq_false_iff.2 fun e=>by
    obtain ⟨h1,h2⟩:=hok e
    rw [hr] at h1
    cases h1
    exact h ⟨rfl,rfl,h2⟩
   have hgood:t16.bad=false->t16.o=xs.length->YD (⟨⟨v0,v1,v2,v3,v4,v5,v6,v7⟩,v8,v9,v10,v11,v12,true,v14,false,v16⟩:ClS)->ok=true/\k=(⟨⟨v0,v1,v2,v3,v4,v5,v6,v7⟩,v8,v9,v10,v11,v12,true,v14,false,v16⟩:ClS):=fun h1 h2 hI=>by
    have hr2:XZ F xs=((⟨⟨v0,v1,v2,v3,v4,v5,v6,v7⟩,v8,v9,v10,v11,v12,true,v14,false,v16⟩:ClS),⟨xs.length,false⟩):=by rw [hr,<-h1,<-h2]
    cases hq:ok with
    | true=>
     obtain ⟨h3,h4⟩:=hok hq
     rw [hr2] at h3
     cases h3
     exact ⟨rfl,rfl⟩
    | false=>exact absurd hI (hno hq _ hr2)
   have ha9:v9<=1125899906842624:=Z2e (by decide) e9
   have ha0:(⟨⟨v0,v1,v2,v3,v4,v5,v6,v7⟩,v8,v9,v10,v11,v12,true,v14,false,v16⟩:ClS).a0<9223372036854775808:=by show v9<_;omega
   have hmB:∀{b:Bool},Yg A (⟨⟨v0,v1,v2,v3,v4,v5,v6,v7⟩,v8,v9,v10,v11,v12,true,v14,false,v16⟩:ClS)=b->Yg ZJ (⟨⟨v0,v1,v2,v3,v4,v5,v6,v7⟩,v8,v9,v10,v11,v12,true,v14,false,v16⟩:ClS)=b:=fun h=>hA▸h
   have Q2:ok=false->ok=false/\Z5=clZ.t.fund/\Z5=clZ.t.k0/\Z5=clZ.t.k1/\[(0:Int),0]=[clZ.a0,clZ.a1]:=fun h=>⟨h,rfl,rfl,rfl,rfl⟩
   refine ⟨fun hz=>Q2 (hbad fun h=> ?_),fun hz=>⟨fun hl=>Q2 (hbad fun h=> ?_),fun hl=>⟨(⟨⟨v0,v1,v2,v3,v4,v5,v6,v7⟩,v8,v9,v10,v11,v12,true,v14,false,v16⟩:ClS),⟨rfl⟩,hAll.ok,fun hm=>Q2 (hbad fun h=> ?_),fun hm=> ?_⟩⟩⟩
   ·exact absurd (hz.symm.trans h.1) (by decide)
   ·have:=h.2.1
    omega
   ·exact absurd ((YZ.2 h.2.2.made).symm.trans (hmB (nT hm))) (by decide)
   have hlen:t16.o=xs.length:=by omega
   refine ⟨fun h1=>Q2 (hbad fun h=> ?_),fun h1=>⟨fun h2=>Q2 (hbad fun h=> ?_),fun h2=>⟨fun h3=>Q2 (hbad fun h=> ?_),fun h3=>⟨(⟨⟨v0,v1,v2,v3,v4,v5,v6,v7⟩,v8,v9,v10,v11,v12,true,v14,false,v16⟩:ClS),⟨rfl⟩,⟨hAll,ha0,.inl True.intro⟩, ?_⟩⟩⟩⟩
   ·have h5:v11<=v14:=(h.2.2.off rfl).1
    omega
   ·have h5:v14<=v12:=(h.2.2.off rfl).2
    omega
   ·exact bne_iff_ne.1 h3 (h.2.2.nag rfl)
   ·obtain ⟨q1,q2⟩:=hgood hz hlen (VZ (hmB (nF hm)) (decide_eq_true (show v11<=v14/\v14<=v12 by omega)) (fun h=>nomatch h) (fun _=>bne_eq_false_iff_eq.1 h3))
    subst q2
    and_intros<;>first|exact q1|rfl
 ·refine ⟨xs,t13,rfl,⟨rfl,rfl,b13,hb,by decide⟩,fun v14 t14 e14 b14=> ?_⟩
  refine ⟨xs,t14,rfl,⟨rfl,rfl,b14⟩,fun t15 e15 b15=> ?_,fun t15 e15 b15=> ?_⟩
  ·refine ⟨xs,t15,rfl,⟨rfl,rfl,b15,hb,by decide⟩,fun v16 t16 e16 b16=> ?_⟩
   have hr:XZ F xs=((⟨⟨v0,v1,v2,v3,v4,v5,v6,v7⟩,v8,v9,v10,v11,v12,false,v14,true,v16⟩:ClS),t16):=by
    unfold XZ
    simp only [e0,e1,e2,e3,e4,e5,e6,e7,e8,e9,e10,e11,e12,e13,e14,e15,e16]
   have c0:=X8 hb ⟨0,false⟩
   have c6:=X8 hb t5
   have c7:=X8 hb t6
   rw [e0] at c0
   rw [e6] at c6
   rw [e7] at c7
   have hAll:Zo.All (⟨⟨v0,v1,v2,v3,v4,v5,v6,v7⟩,v8,v9,v10,v11,v12,false,v14,true,v16⟩:ClS).t:=⟨⟨c6.1,c7.1,c6.2,c7.2⟩,c0.1,c0.2⟩
   have hbad:¬(t16.bad=false/\t16.o=xs.length/\YD (⟨⟨v0,v1,v2,v3,v4,v5,v6,v7⟩,v8,v9,v10,v11,v12,false,v14,true,v16⟩:ClS))->ok=false:=fun h=>Bool.eq_false_iff.2 fun e=>by
    obtain ⟨h1,h2⟩:=hok e
    rw [hr] at h1
    cases h1
    exact h ⟨rfl,rfl,h2⟩
   have hgood:t16.bad=false->t16.o=xs.length->YD (⟨⟨v0,v1,v2,v3,v4,v5,v6,v7⟩,v8,v9,v10,v11,v12,false,v14,true,v16⟩:ClS)->ok=true/\k=(⟨⟨v0,v1,v2,v3,v4,v5,v6,v7⟩,v8,v9,v10,v11,v12,false,v14,true,v16⟩:ClS):=fun h1 h2 hI=>by
    have hr2:XZ F xs=((⟨⟨v0,v1,v2,v3,v4,v5,v6,v7⟩,v8,v9,v10,v11,v12,false,v14,true,v16⟩:ClS),⟨xs.length,false⟩):=by rw [hr,<-h1,<-h2]
    cases hq:ok with
    | true=>
     obtain ⟨h3,h4⟩:=hok hq
     rw [hr2] at h3
     cases h3
     exact ⟨rfl,rfl⟩
    | false=>exact absurd hI (hno hq _ hr2)
   have ha9:v9<=1125899906842624:=Z2e (by decide) e9
   have ha0:(⟨⟨v0,v1,v2,v3,v4,v5,v6,v7⟩,v8,v9,v10,v11,v12,false,v14,true,v16⟩:ClS).a0<9223372036854775808:=by show v9<_;omega
   have hmB:∀{b:Bool},Yg A (⟨⟨v0,v1,v2,v3,v4,v5,v6,v7⟩,v8,v9,v10,v11,v12,false,v14,true,v16⟩:ClS)=b->Yg ZJ (⟨⟨v0,v1,v2,v3,v4,v5,v6,v7⟩,v8,v9,v10,v11,v12,false,v14,true,v16⟩:ClS)=b:=fun h=>hA▸h
   have Q2:ok=false->ok=false/\Z5=clZ.t.fund/\Z5=clZ.t.k0/\Z5=clZ.t.k1/\[(0:Int),0]=[clZ.a0,clZ.a1]:=fun h=>⟨h,rfl,rfl,rfl,rfl⟩
   refine ⟨fun hz=>Q2 (hbad fun h=> ?_),fun hz=>⟨fun hl=>Q2 (hbad fun h=> ?_),fun hl=>⟨(⟨⟨v0,v1,v2,v3,v4,v5,v6,v7⟩,v8,v9,v10,v11,v12,false,v14,true,v16⟩:ClS),⟨rfl⟩,hAll.ok,fun hm=>Q2 (hbad fun h=> ?_),fun hm=> ?_⟩⟩⟩
   ·exact absurd (hz.symm.trans h.1) (by decide)
   ·have:=h.2.1
    omega
   ·exact absurd ((YZ.2 h.2.2.made).symm.trans (hmB (nT hm))) (by decide)
   have hlen:t16.o=xs.length:=by omega
   refine ⟨fun h1=>Q2 (hbad fun h=> ?_),fun h1=>Q2 (hbad fun h=> ?_)⟩
   ·exact nomatch (h.2.2.agr rfl).1
   ·exact nomatch (h.2.2.agr rfl).1
  ·refine ⟨xs,t15,rfl,⟨rfl,rfl,b15,hb,by decide⟩,fun v16 t16 e16 b16=> ?_⟩
   have hr:XZ F xs=((⟨⟨v0,v1,v2,v3,v4,v5,v6,v7⟩,v8,v9,v10,v11,v12,false,v14,false,v16⟩:ClS),t16):=by
    unfold XZ
    simp only [e0,e1,e2,e3,e4,e5,e6,e7,e8,e9,e10,e11,e12,e13,e14,e15,e16]
   have c0:=X8 hb ⟨0,false⟩
   have c6:=X8 hb t5
   have c7:=X8 hb t6
   rw [e0] at c0
   rw [e6] at c6
   rw [e7] at c7
   have hAll:Zo.All (⟨⟨v0,v1,v2,v3,v4,v5,v6,v7⟩,v8,v9,v10,v11,v12,false,v14,false,v16⟩:ClS).t:=⟨⟨c6.1,c7.1,c6.2,c7.2⟩,c0.1,c0.2⟩
   have hbad:¬(t16.bad=false/\t16.o=xs.length/\YD (⟨⟨v0,v1,v2,v3,v4,v5,v6,v7⟩,v8,v9,v10,v11,v12,false,v14,false,v16⟩:ClS))->ok=false:=fun h=>Bool.eq_false_iff.2 fun e=>by
    obtain ⟨h1,h2⟩:=hok e
    rw [hr] at h1
    cases h1
    exact h ⟨rfl,rfl,h2⟩
   have hgood:t16.bad=false->t16.o=xs.length->YD (⟨⟨v0,v1,v2,v3,v4,v5,v6,v7⟩,v8,v9,v10,v11,v12,false,v14,false,v16⟩:ClS)->ok=true/\k=(⟨⟨v0,v1,v2,v3,v4,v5,v6,v7⟩,v8,v9,v10,v11,v12,false,v14,false,v16⟩:ClS):=fun h1 h2 hI=>by
    have hr2:XZ F xs=((⟨⟨v0,v1,v2,v3,v4,v5,v6,v7⟩,v8,v9,v10,v11,v12,false,v14,false,v16⟩:ClS),⟨xs.length,false⟩):=by rw [hr,<-h1,<-h2]
    cases hq:ok with
    | true=>
     obtain ⟨h3,h4⟩:=hok hq
     rw [hr2] at h3
     cases h3
     exact ⟨rfl,rfl⟩
    | false=>exact absurd hI (hno hq _ hr2)
   have ha9:v9<=1125899906842624:=Z2e (by decide) e9
   have ha0:(⟨⟨v0,v1,v2,v3,v4,v5,v6,v7⟩,v8,v9,v10,v11,v12,false,v14,false,v16⟩:ClS).a0<9223372036854775808:=by show v9<_;omega
   have hmB:∀{b:Bool},Yg A (⟨⟨v0,v1,v2,v3,v4,v5,v6,v7⟩,v8,v9,v10,v11,v12,false,v14,false,v16⟩:ClS)=b->Yg ZJ (⟨⟨v0,v1,v2,v3,v4,v5,v6,v7⟩,v8,v9,v10,v11,v12,false,v14,false,v16⟩:ClS)=b:=fun h=>hA▸h
   have Q2:ok=false->ok=false/\Z5=clZ.t.fund/\Z5=clZ.t.k0/\Z5=clZ.t.k1/\[(0:Int),0]=[clZ.a0,clZ.a1]:=fun h=>⟨h,rfl,rfl,rfl,rfl⟩
   refine ⟨fun hz=>Q2 (hbad fun h=> ?_),fun hz=>⟨fun hl=>Q2 (hbad fun h=> ?_),fun hl=>⟨(⟨⟨v0,v1,v2,v3,v4,v5,v6,v7⟩,v8,v9,v10,v11,v12,false,v14,false,v16⟩:ClS),⟨rfl⟩,hAll.ok,fun hm=>Q2 (hbad fun h=> ?_),fun hm=> ?_⟩⟩⟩
   ·exact absurd (hz.symm.trans h.1) (by decide)
   ·have:=h.2.1
    omega
   ·exact absurd ((YZ.2 h.2.2.made).symm.trans (hmB (nT hm))) (by decide)
   have hlen:t16.o=xs.length:=by omega
   refine ⟨fun h1=>Q2 (hbad fun h=> ?_),fun h1=>⟨fun h2=>Q2 (hbad fun h=> ?_),fun h2=>⟨(⟨⟨v0,v1,v2,v3,v4,v5,v6,v7⟩,v8,v9,v10,v11,v12,false,v14,false,v16⟩:ClS),⟨rfl⟩,⟨hAll,ha0,.inl True.intro⟩, ?_⟩⟩⟩
   ·exact bne_iff_ne.1 h1 (h.2.2.nof rfl)
   ·exact bne_iff_ne.1 h2 (h.2.2.nag rfl)
   ·obtain ⟨q1,q2⟩:=hgood hz hlen (VZ (hmB (nF hm)) (beq_iff_eq.2 (bne_eq_false_iff_eq.1 h1)) (fun h=>nomatch h) (fun _=>bne_eq_false_iff_eq.1 h2))
    subst q2
    and_intros<;>first|exact q1|rfl
def ZaD (R:Option ClS):ZG:=fun args h K=>ZH none h true 20 args fun a=>match a with
 | [.vints .u8 xs N]=>(xs.length=N/\Bytes xs)/\Q7 xs R/\(match R with
  | some k=>K (.tuple [.agg k.c,.int .i64 0])
  | none=>K (.tuple [.agg clZ.c,.int .i64 253]))
 | _=>False
theorem Zkf {k:ClS} {o:Out} {h:Z6} (hk:Zf0 true k o h):ZL 0 (.ret (.tuple [.agg k.c,.int .i64 0])) 0 [] o h:=by
 unfold Zf0 at hk
 split at hk
 ·split at hk
  ·exact hk
  ·exact hk.elim
 ·exact hk.elim
theorem Zkg {k:ClS} {o:Out} {h:Z6} (hk:Zf0 false k o h):ZL 0 (.ret (.tuple [.agg clZ.c,.int .i64 253])) 0 [] o h:=by
 unfold Zf0 at hk
 split at hk
 ·split at hk
  ·exact hk.elim
  ·exact hk
 ·exact hk.elim
theorem Z9f {R:Option ClS} (args:List AV) (h:Z6) (K:AV->Prop) (hl:ZaD R args h K):Zi PP 27 args h fun o h'=>∃v,o=.ret v/\h'=h/\K v:=by
 refine Zy.psumm (d:=20) (Zm _ _ _ _ _ hl fun a ha=> ?_)
 split at ha
 ·obtain ⟨⟨rfl,hb⟩,hR,hK⟩:=ha
  rename_i xs
  cases hR with
  | some k hr hI=>exact ⟨_,Spec.pure (Spec.evK ZaC (Zik _ _ _ xs _ k true rfl hb rfl rfl (fun _=>⟨Zhw hr hI.made,hI⟩) (fun h=>nomatch h)) (fun o' h' hk=>Zkf hk)),fun _=>rfl,hK⟩
  | none hn=>exact ⟨_,Spec.pure (Spec.evK ZaC (Zik _ _ _ xs _ clZ false rfl hb rfl rfl (fun h=>nomatch h) (fun _ k hk=>hn k (ZbW hk rfl))) (fun o' h' hk=>Zkg hk)),fun _=>rfl,hK⟩
 ·exact ha.elim
noncomputable def Zkh (W:Int->List Int) (Tg:List Int->TxS->List Int) (F:TxS->TxS->Bool):Zh:=((((G0.withF 15 (ZhJ Tg)).withF 58 (ZmY Tg)).withP 59 (ZdD F)).withF 21 (Zf8 W)).withF 28 (Zih W)
theorem ZaE:(Zkh Zs ZO Vk).Ok:=Zh.withF_ok (Zh.withF_ok (Zh.withP_ok (Zh.withF_ok (Zh.withF_ok Zp Zay) ZhK) ZdK) Zf9) Zfa
theorem Z56 (t:TxS):Vk t t=true:=by
 unfold Vk Z8y Zbo
 simp [Z1R,Ul]
def ctT (Tg:List Int->TxS->List Int) (k:ClS) (n:Nat) (L:List Zc):TxS:=⟨2147483647,1,ctG Tg k,n,Y3 L⟩
theorem Zki {Tg:List Int->TxS->List Int} {k:ClS} {n:Nat} {L:List Zc} (hT:∀a t,(Tg a t).length=32) (ht:k.t.All) (hL:L=ZZ (clL k.t k.a0 k.a1 k.fee)) (hn:n=L.length):(ctT Tg k n L).Ok:=by
 have h0:=VA (a:=k.a0) (b:=k.a1) (fee:=k.fee) ht.ok ht.fl
 subst hn hL
 refine ⟨by show (1:Nat)<_;decide,h0.m,fun i hi=> ?_,h0.outs⟩
 have hi:i<1:=hi
 show (Z3Y Tg _ _ _ 1 i).Ok
 unfold Z3Y
 rw [if_pos hi]
 unfold Z0Q
 rw [if_pos (show ((txC k.t k.a0 k.a1 k.fee).ins i).way=1 from rfl)]
 exact ⟨ht.fl,hT _ _,hT _ _,rfl⟩
theorem Z9g:(TxS.mk 0 0 (fun _=>⟨[],0,0,[],[],[]⟩) 0 (fun _=>⟨0,0,[],[],[],[],0,0⟩)).Ok:=⟨by decide,by decide,fun i hi=>absurd hi (Nat.not_lt_zero i),fun i hi=>absurd hi (Nat.not_lt_zero i)⟩
theorem Zov (W:Int->List Int) (Tg:List Int->TxS->List Int) (F:TxS->TxS->Bool) (k:ClS) (hk:TxK k) (hr:RwC k) (h9:∀v,(W v).length<=9) (hE:Y0 k.t k.a0 k.a1 k.fee=0) (hT:∀a t,(Tg a t).length=32) (hF:∀t,t.Ok->F t t=true):
  evF (Zkh W Tg F) 20 24 [.ptr (some ⟨0,0,0,0,0⟩),.agg (clU k k.side k.offers k.last true k.fee)] ⟨1,[(0,.flat (clT k k.side k.offers k.last true k.fee))]⟩ (ZL 1 (.ret (.bool true)) 1 [(0,.flat (clT k k.side k.offers k.last true k.fee))]):=by
 refine @Eq.mpr _ (let q1:=k.t;let q2:=q1.fund;let q3:=AV.arr u8 32 q2;let q4:=q1.index;let q5:=AV.int i64 q4;let q6:=q1.cap;let q7:=AV.int i64 q6;let q8:=q1.dust;let q9:=AV.int i64 q8;let q10:=q1.fee;let q11:=AV.int i64 q10;let q12:=q1.delay;let q13:=AV.int i64 q12;let q14:=q1.k0;let q15:=AV.arr u8 32 q14;let q16:=q1.k1;let q17:=AV.arr u8 32 q16;let q18:=k.side;let q19:=AV.int i64 q18;let q20:=[k.a0,k.a1];let q21:=AV.arr i64 2 q20;let q22:=k.least;let q23:=AV.int i64 q22;let q24:=k.most;let q25:=AV.int i64 q24;let q26:=k.offers;let q27:=AV.bool q26;let q28:=k.last;let q29:=AV.int i64 q28;let q30:=AV.bool true;let q31:=k.fee;let q32:=AV.int i64 q31;let q33:=q2=q2;let q34:=decide (q4=q4);let q35:=decide (q6=q6);let q36:=decide (q8=q8);let q37:=decide (q10=q10);let q38:=decide (q12=q12);let q39:=q14=q14;let q40:=q16=q16;let q41:=decide (q18=q18);let q42:=q20=q20;let q43:=decide (q22=q22);let q44:=decide (q24=q24);let q45:=decide (q26=q26);let q46:=decide (q28=q28);let q47:=decide (q31=q31);
 ∃(k_1:ClS),
 let q95:=[q3,q5,q7,q9,q11,q13,q15,q17,q19,q21,q23,q25,q27,q29,q30,q32,q30];
 Wd q95 k_1/\
 TxK k_1/\
 Y0 k_1.t k_1.a0 k_1.a1 k_1.fee=0/\
 ∀(n:Nat) (L:List Zc),
 L=ZZ (clL k_1.t k_1.a0 k_1.a1 k_1.fee)->
 n=List.length L->
 n<=2->
 ∃(k_2:ClS),
 let q97:=[q3,q5,q7,q9,q11,q13,q15,q17,q19,q21,q23,q25,q27,q29,q30,q32];
 XJ q97 k_2/\
 TxK k_2/\
 Y0 k_2.t k_2.a0 k_2.a1 k_2.fee=0/\
 ∀(n_1:Nat) (L_1:List Zc),
 L_1=ZZ (clL k_2.t k_2.a0 k_2.a1 k_2.fee)->
 n_1=List.length L_1->
 n_1<=2->
 q33/\
 Z0 q34
 (Z0 q35
 (Z0 q36
 (Z0 q37
 (Z0 q38
 (q39/\
 q40/\
 Z0 q41
 (q42/\
 Z0 q43
 (Z0 q44
 (Z0 q45
 (Z0 q46
 (Z0 q47
 (Z0 (decide (List.length q2=32/\List.length q2=32))
 (Z0 (decide (List.length q14=32/\List.length q14=32))
 (Z0 (decide (List.length q16=32/\List.length q16=32))
 (Z0 (q2==q2&&(q4==q4&&(q6==q6&&(q8==q8&&(q10==q10&&(q12==q12&&(q14==q14&&q16==q16))))))&&(q18==q18&&(q20==q20&&(q22==q22&&(q24==q24&&(q26==q26&&(q28==q28&&(true&&q31==q31))))))))
 ((∀(i:Nat),i<1->true=true)/\
 Z0 (decide (0+n<=n))
 ((∀(i:Nat),i<n->true=true)/\
 (∀(i:Nat),i<1->true=true)/\
 Z0 (decide (0+n_1<=n_1))
 ((∀(i:Nat),i<n_1->true=true)/\
 ∃(a:TxS),
 ∃(b:TxS),
 (a.num=2147483647/\
 (((1:Nat)=1/\a.N=1)/\
 ∀(i:Nat),
 let q99:=ctG Tg k_1 i;
 i<1->[AV.arr u8 32 q99.name,AV.int i64 q99.index,AV.int i64 q99.way,AV.arr u8 32 q99.tag,AV.arr u8 32 q99.also,AV.arr u8 32 q99.secret]=InS.c (a.ins i))/\
 (n=n/\a.M=n)/\
 ∀(i:Nat),
 let q99:=Y3 L i;
 i<n->[AV.int i64 q99.kind,AV.int i64 q99.amount,AV.arr u8 32 q99.owner,AV.arr u8 32 q99.other,AV.arr u8 32 q99.point,AV.arr u8 32 q99.hash,AV.int i64 q99.delay,AV.int i64 q99.expiry]=ZK.c (a.outs i))/\
 (b.num=2147483647/\
 (((1:Nat)=1/\b.N=1)/\
 ∀(i:Nat),
 let q99:=ctG Tg k_2 i;
 i<1->[AV.arr u8 32 q99.name,AV.int i64 q99.index,AV.int i64 q99.way,AV.arr u8 32 q99.tag,AV.arr u8 32 q99.also,AV.arr u8 32 q99.secret]=InS.c (b.ins i))/\
 (n_1=n_1/\b.M=n_1)/\
 ∀(i:Nat),
 let q99:=Y3 L_1 i;
 i<n_1->[AV.int i64 q99.kind,AV.int i64 q99.amount,AV.arr u8 32 q99.owner,AV.arr u8 32 q99.other,AV.arr u8 32 q99.point,AV.arr u8 32 q99.hash,AV.int i64 q99.delay,AV.int i64 q99.expiry]=ZK.c (b.outs i))/\
 (TxS.Ok a/\TxS.Ok b)/\
 Z0 (F a b)
 (∃(k_3:ClS),
 let q99:=List.length (XX W k_3);let q100:=decide (u8=u8/\0+q99<=q99);let q101:=strOf (List.take q99 (ZW 0 (XX W k_3)));
 Wd q95 k_3/\
 RwC k_3/\
 q33/\
 Z0 q34
 (Z0 q35
 (Z0 q36
 (Z0 q37
 (Z0 q38
 (q39/\
 q40/\
 Z0 q41
 (q42/\
 Z0 q43
 (Z0 q44
 (Z0 q45
 (Z0 q46
 (Z0 q47
 (Z0 q100
 (∃(k_4:ClS),
 let q105:=List.length (XX W k_4);
 XJ q97 k_4/\RwC k_4/\Z0 q100 (q101=q101/\Z0 (decide (u8=u8/\0+q105<=q105)) (Z0 (decide ((ByteArray.toList q101==ByteArray.toList (strOf (List.take q105 (ZW 0 (XX W k_4)))))=true)) (q33/\Z0 q34 (Z0 q35 (Z0 q36 (Z0 q37 (Z0 q38 (q39/\q40/\Z0 q41 (q42/\Z0 q43 (Z0 q44 (Z0 q45 (Z0 q46 (Z0 q47 True False) False) False) False) False) False) False) False) False) False) False) False) False) False)
 False)
 False)
 False)
 False)
 False)
 False)
 False)
 False)
 False)
 False)
 False)
 False)
 False)
 False)
 False)
 False)
 False)
 False)
 False)
 False)
 False)
 False)
 False)
 False)
 False)
 False)
 False)
 False)
 False)
 False) (by kernel_rfl) ?_
 conv=>zeta
 try simp only [Z8]
 try simp only [Ze]
 try simp only [Za]
 try simp only [Zf]
 try simp only [Zg]
 try simp only [Z9]
 try simp only [Y_s]
 have h0:=hk.t.ok
 refine ⟨(clP k k.side k.offers true),⟨rfl⟩,⟨hk.t,hk.a⟩,hE,fun n L hL hn hn2=>⟨(clP k k.side k.offers true),⟨rfl⟩,⟨hk.t,hk.a⟩,hE,fun n' L' hL' hn' _=> ?_⟩⟩
 have hk1:(ctT Tg (clP k k.side k.offers true) n L).Ok:=Zki (k:=(clP k k.side k.offers true)) hT hk.t hL hn
 have e1:L'=L:=hL'.trans hL.symm
 have e2:n'=n:=by rw [hn,hn',e1]
 subst e1 e2
 refine ⟨⟨hk.t.fl,hk.t.fl⟩,⟨h0.k0,h0.k0⟩,⟨h0.k1,h0.k1⟩,by simp,fun _ _=>trivial,fun _ _=>trivial,fun _ _=>trivial,fun _ _=>trivial,ctT Tg (clP k k.side k.offers true) n' L',ctT Tg (clP k k.side k.offers true) n' L',⟨rfl,⟨rfl,fun _ _=>rfl⟩,rfl,fun _ _=>rfl⟩,⟨rfl,⟨rfl,fun _ _=>rfl⟩,rfl,fun _ _=>rfl⟩,⟨hk1,hk1⟩,hF _ hk1,(clP k k.side k.offers true),⟨rfl⟩,⟨⟨hr.n.ix,hr.n.ca,hr.n.du,hr.n.fe,hr.n.de,hr.n.sd,hr.n.a0,hr.n.a1,hr.n.le,hr.n.mo,hr.n.la,hr.n.fee⟩,hr.f,hr.h0,hr.h1⟩,(clP k k.side k.offers true),⟨rfl⟩,⟨⟨hr.n.ix,hr.n.ca,hr.n.du,hr.n.fe,hr.n.de,hr.n.sd,hr.n.a0,hr.n.a1,hr.n.le,hr.n.mo,hr.n.la,hr.n.fee⟩,hr.f,hr.h0,hr.h1⟩, ?_⟩
 exact beq_self_eq_true _
theorem Zow (W:Int->List Int) (Tg:List Int->TxS->List Int) (F:TxS->TxS->Bool) (k:ClS) (hk:TxK k) (hr:RwC k) (h9:∀v,(W v).length<=9) (hT:∀a t,(Tg a t).length=32) (hF:∀t,t.Ok->F t t=true):
  evF (Zkh W Tg F) 20 24 [.ptr (some ⟨0,0,0,0,0⟩),.agg (clU k k.side k.offers k.last false k.fee)] ⟨1,[(0,.flat (clT k k.side k.offers k.last false k.fee))]⟩ (ZL 1 (.ret (.bool true)) 1 [(0,.flat (clT k k.side k.offers k.last false k.fee))]):=by
 refine @Eq.mpr _ (let q1:=k.t;let q2:=q1.fund;let q3:=AV.arr u8 32 q2;let q4:=q1.index;let q5:=AV.int i64 q4;let q6:=q1.cap;let q7:=AV.int i64 q6;let q8:=q1.dust;let q9:=AV.int i64 q8;let q10:=q1.fee;let q11:=AV.int i64 q10;let q12:=q1.delay;let q13:=AV.int i64 q12;let q14:=q1.k0;let q15:=AV.arr u8 32 q14;let q16:=q1.k1;let q17:=AV.arr u8 32 q16;let q18:=k.side;let q19:=AV.int i64 q18;let q20:=[k.a0,k.a1];let q21:=AV.arr i64 2 q20;let q22:=k.least;let q23:=AV.int i64 q22;let q24:=k.most;let q25:=AV.int i64 q24;let q26:=k.offers;let q27:=AV.bool q26;let q28:=k.last;let q29:=AV.int i64 q28;let q30:=k.fee;let q31:=AV.int i64 q30;let q32:=q2=q2;let q33:=decide (q4=q4);let q34:=decide (q6=q6);let q35:=decide (q8=q8);let q36:=decide (q10=q10);let q37:=decide (q12=q12);let q38:=q14=q14;let q39:=q16=q16;let q40:=decide (q18=q18);let q41:=q20=q20;let q42:=decide (q22=q22);let q43:=decide (q24=q24);let q44:=decide (q26=q26);let q45:=decide (q28=q28);let q46:=decide (q30=q30);
 ∃(k_1:ClS),
 let q93:=[q3,q5,q7,q9,q11,q13,q15,q17,q19,q21,q23,q25,q27,q29,AV.bool false,q31,AV.bool true];
 Wd q93 k_1/\
 TxK k_1/\
 ∃(k_2:ClS),
 let q95:=[q3,q5,q7,q9,q11,q13,q15,q17,q19,q21,q23,q25,q27,q29,AV.bool false,q31];
 XJ q95 k_2/\
 TxK k_2/\
 q32/\
 Z0 q33
 (Z0 q34
 (Z0 q35
 (Z0 q36
 (Z0 q37
 (q38/\
 q39/\
 Z0 q40
 (q41/\
 Z0 q42
 (Z0 q43
 (Z0 q44
 (Z0 q45
 (Z0 q46
 (Z0 (decide (List.length q2=32/\List.length q2=32))
 (Z0 (decide (List.length q14=32/\List.length q14=32))
 (Z0 (decide (List.length q16=32/\List.length q16=32))
 (Z0 (q2==q2&&(q4==q4&&(q6==q6&&(q8==q8&&(q10==q10&&(q12==q12&&(q14==q14&&q16==q16))))))&&(q18==q18&&(q20==q20&&(q22==q22&&(q24==q24&&(q26==q26&&(q28==q28&&(true&&q30==q30))))))))
 (∃(a:TxS),
 ∃(b:TxS),
 (a.num=0/\a.N=0/\a.M=0)/\
 (b.num=0/\b.N=0/\b.M=0)/\
 (TxS.Ok a/\TxS.Ok b)/\
 Z0 (F a b)
 (∃(k_3:ClS),
 let q97:=List.length (XX W k_3);let q98:=decide (u8=u8/\0+q97<=q97);let q99:=strOf (List.take q97 (ZW 0 (XX W k_3)));
 Wd q93 k_3/\
 RwC k_3/\
 q32/\
 Z0 q33
 (Z0 q34
 (Z0 q35
 (Z0 q36
 (Z0 q37
 (q38/\
 q39/\
 Z0 q40
 (q41/\
 Z0 q42
 (Z0 q43
 (Z0 q44
 (Z0 q45
 (Z0 q46
 (Z0 q98
 (∃(k_4:ClS),
 let q103:=List.length (XX W k_4);
 XJ q95 k_4/\RwC k_4/\Z0 q98 (q99=q99/\Z0 (decide (u8=u8/\0+q103<=q103)) (Z0 (decide ((ByteArray.toList q99==ByteArray.toList (strOf (List.take q103 (ZW 0 (XX W k_4)))))=true)) (q32/\Z0 q33 (Z0 q34 (Z0 q35 (Z0 q36 (Z0 q37 (q38/\q39/\Z0 q40 (q41/\Z0 q42 (Z0 q43 (Z0 q44 (Z0 q45 (Z0 q46 True False) False) False) False) False) False) False) False) False) False) False) False) False) False)
 False)
 False)
 False)
 False)
 False)
 False)
 False)
 False)
 False)
 False)
 False)
 False)
 False)
 False)
 False)
 False)
 False)
 False)
 False)
 False)
 False)
 False)
 False)
 False)
 False)
 False)
 False)
 False) (by kernel_rfl) ?_
 conv=>zeta
 try simp only [Z8]
 try simp only [Ze]
 try simp only [Za]
 try simp only [Zf]
 try simp only [Zg]
 try simp only [Z9]
 try simp only [Y_s]
 have h0:=hk.t.ok
 refine ⟨(clP k k.side k.offers false),⟨rfl⟩,⟨hk.t,hk.a⟩,(clP k k.side k.offers false),⟨rfl⟩,⟨hk.t,hk.a⟩,⟨hk.t.fl,hk.t.fl⟩,⟨h0.k0,h0.k0⟩,⟨h0.k1,h0.k1⟩,by simp,_,_,⟨rfl,rfl,rfl⟩,⟨rfl,rfl,rfl⟩,⟨Z9g,Z9g⟩,hF _ Z9g,(clP k k.side k.offers false),⟨rfl⟩,⟨⟨hr.n.ix,hr.n.ca,hr.n.du,hr.n.fe,hr.n.de,hr.n.sd,hr.n.a0,hr.n.a1,hr.n.le,hr.n.mo,hr.n.la,hr.n.fee⟩,hr.f,hr.h0,hr.h1⟩,(clP k k.side k.offers false),⟨rfl⟩,⟨⟨hr.n.ix,hr.n.ca,hr.n.du,hr.n.fe,hr.n.de,hr.n.sd,hr.n.a0,hr.n.a1,hr.n.le,hr.n.mo,hr.n.la,hr.n.fee⟩,hr.f,hr.h0,hr.h1⟩, ?_⟩
 exact beq_self_eq_true _
structure Z41 (k:ClS):Prop where
 i:YD k
 t:k.t.All
theorem Z41.a {k:ClS} (h:Z41 k):k.a0<9223372036854775808:=by
 have:=Vo h.i.made.t
 have:=h.i.made.a1
 have:=h.i.made.sum
 omega
theorem Z41.x {k:ClS} (h:Z41 k):TxK k:=⟨h.t,h.a⟩
theorem Z41.r {k:ClS} (h:Z41 k):RwC k:=⟨h.i.num,h.t.fl,h.t.ok.k0,h.t.ok.k1⟩
theorem ZhS {k:ClS} (h:Z41 k):Spec PP 24 [.ptr (some ⟨0,0,0,0,0⟩),.agg (clU k k.side k.offers k.last k.agrees k.fee)] ⟨1,[(0,.flat (clT k k.side k.offers k.last k.agrees k.fee))]⟩ (.ret (.bool true)) 1 [(0,.flat (clT k k.side k.offers k.last k.agrees k.fee))]:=by
 have hx:=h.x
 have hr:=h.r
 have ha:=h.i.agr
 obtain ⟨t,sd,a0,a1,le,mo,o0,l0,g0,f0⟩:=k
 cases g0 with
 | true=>exact .evM ZaE (Zov Zs ZO Vk ⟨t,sd,a0,a1,le,mo,o0,l0,true,f0⟩ hx hr Zaw (ha rfl).2.2 Qn fun t _=>Z56 t)
 | false=>exact .evM ZaE (Zow Zs ZO Vk ⟨t,sd,a0,a1,le,mo,o0,l0,false,f0⟩ hx hr Zaw Qn fun t _=>Z56 t)
def Zfq:ZR:=fun args h K=>match args with
 | [.ptr (some ⟨x,0,0,0,0⟩),_]=>frA [x] h 40 args fun Bs a=>match Bs,a with
  | [.flat cs],[.ptr (some ⟨0,0,0,0,0⟩),.agg ds]=>∃k,Wd cs k/\XJ ds k/\Z41 k/\K (.ret (.bool true)) ⟨h.next,(x,.flat cs)::Y9 h.bs x⟩
  | _,_=>False
 | _=>False
theorem Zfr (args:List AV) (h:Z6) (K:KO) (hl:Zfq args h K):Zi PP 24 args h K:=by
 unfold Zfq at hl
 split at hl
 ·refine Spec.fsumm hl fun Bs a hlen hK0=> ?_
  split at hK0
  ·obtain ⟨k,⟨rfl⟩,⟨rfl⟩,hk,hK⟩:=hK0
   exact ⟨_,_,_,_,_,ZhS hk,by simp,.ret _ _ rfl,.cons _ _ _ _ _ _ rfl (.flat _ _ rfl) .nil,hK⟩
  ·exact hK0.elim
 ·exact hl.elim
noncomputable def Zkj (R:Option ClS):Zh:=(((G0.withP 11 Zfl).withF 26 (Z9e R)).withP 27 (ZaD R)).withF 24 Zfq
theorem ZaF (R:Option ClS):(Zkj R).Ok:=Zh.withF_ok (Zh.withP_ok (Zh.withF_ok (Zh.withP_ok Zp ZhP) Zc2) Z9f) Zfr
theorem Znl (xs:List Int) (N:Nat) (hN:xs.length=N) (hb:Bytes xs) (hR:Q7 xs none):
  evF (Zkj none) 20 6 [.vints .u8 xs N] ⟨0,[]⟩ (XI fun v=>v=.bool true):=by
 refine @Eq.mpr _ (let q1:=AV.bool true;let q2:=q1=q1;let q3:=[]++List.take N xs;let q4:=List.length q3;let q5:=q3++[(77:Int)];let q6:=List.length q5;let q7:=XA (Int.toNat (↑N:Int)) none;let q8:=List.take q7 (ZW 0 q5);let q9:=AV.bool false=q1;let q10:=XA q6 none;let q11:=wrap i64 ((↑N:Int)+1);let q12:=0+Int.toNat (↑N:Int);
 Z0 (decide ((↑N:Int)>400)) q2 (Z0 (decide (q4*1<=140737488355328)) (Z0 (decide (u8=u8/\q4=q4)) (Z0 (decide (q6*1<=140737488355328)) (Z0 (decide (q6<=q6)) (Z0 (decide (0<=(↑N:Int)/\(↑N:Int)<=(↑q6:Int))) (Z0 (decide (0+q7<=q6)) ((List.length q8=q7/\q7<90000000000000/\Bytes q8)/\Q7 q8 none/\(List.length xs=N/\Bytes xs)/\Q7 xs none/\Z0 (decide (u8=u8/\0+q7<=q6)) (Z0 (!ByteArray.toList (strOf q8)==ByteArray.toList (strOf (List.take N xs))) q9 (Z0 (decide (q7<=q10)) (Z0 (decide (0<=q11/\q11<=(↑q10:Int))) (Z0 (decide (0<=(↑N:Int)/\(↑N:Int)<(↑(XA (Int.toNat q11) none):Int))) (Z0 (decide (q12<q6)) (Z0 (List.getD q5 q12 0 !=77) q9 q2) False) False) False) False)) False) False) False) False) False) False) False)) (by kernel_rfl) ?_
 conv=>zeta
 try simp only [Z8]
 try simp only [Ze]
 try simp only [Za]
 try simp only [Zf]
 try simp only [Zg]
 try simp only [Z9]
 try simp only [Y_s]
 subst hN
 refine ⟨fun _=>trivial,fun hn=> ?_⟩
 have e7:∀n,XA n none=n:=fun n=>rfl
 have e8:List.take xs.length (ZW 0 (xs++[77]))=xs:=by rw [Y4,List.drop_zero,List.take_left]
 have el:(xs++[(77:Int)]).length=xs.length+1:=by simp
 have e77:(xs++[(77:Int)]).getD xs.length 0=77:=by simp
 have ew:i64.wrap ((xs.length:Int)+1)=((xs.length+1:Nat):Int):=by rw [w64 (by omega)];omega
 have et:((xs.length:Int)).toNat=xs.length:=Int.toNat_natCast _
 have et1:(((xs.length+1:Nat):Int)).toNat=xs.length+1:=Int.toNat_natCast _
 have e9:xs.take xs.length=xs:=List.take_length
 simp only [e9,List.nil_append,et,e7,el,e8,ew,et1,e77,Nat.zero_add]
 repeat' first
  | omega
  | exact hb
  | exact hR
  | rfl
  | trivial
  | (intro h;exfalso;simp at h;done)
  | intro _
  | apply And.intro
theorem Znm (xs:List Int) (N:Nat) (k:ClS) (hN:xs.length=N) (hb:Bytes xs) (hR:Q7 xs (some k)) (hk:Z41 k):
  evF (Zkj (some k)) 20 6 [.vints .u8 xs N] ⟨0,[]⟩ (XI fun v=>v=.bool true):=by
 refine @Eq.mpr _ (let q1:=AV.bool true;let q2:=q1=q1;let q3:=[]++List.take N xs;let q4:=List.length q3;let q5:=q3++[(77:Int)];let q6:=List.length q5;let q7:=XA (Int.toNat (↑N:Int)) none;let q8:=List.take q7 (ZW 0 q5);let q9:=AV.bool false=q1;let q10:=XA q6 none;let q11:=wrap i64 ((↑N:Int)+1);let q12:=0+Int.toNat (↑N:Int);let q13:=k.t;let q14:=AV.arr u8 32 q13.fund;let q15:=AV.int i64 q13.index;let q16:=AV.int i64 q13.cap;let q17:=AV.int i64 q13.dust;let q18:=AV.int i64 q13.fee;let q19:=AV.int i64 q13.delay;let q20:=AV.arr u8 32 q13.k0;let q21:=AV.arr u8 32 q13.k1;let q22:=AV.int i64 k.side;let q23:=AV.arr i64 2 [k.a0,k.a1];let q24:=AV.int i64 k.least;let q25:=AV.int i64 k.most;let q26:=AV.bool k.offers;let q27:=AV.int i64 k.last;let q28:=AV.bool k.agrees;let q29:=AV.int i64 k.fee;
 Z0 (decide ((↑N:Int)>400)) q2
 (Z0 (decide (q4*1<=140737488355328))
 (Z0 (decide (u8=u8/\q4=q4)) (Z0 (decide (q6*1<=140737488355328)) (Z0 (decide (q6<=q6)) (Z0 (decide (0<=(↑N:Int)/\(↑N:Int)<=(↑q6:Int))) (Z0 (decide (0+q7<=q6)) ((List.length q8=q7/\q7<90000000000000/\Bytes q8)/\Q7 q8 (some k)/\(List.length xs=N/\Bytes xs)/\Q7 xs (some k)/\Z0 (decide (u8=u8/\0+q7<=q6)) (Z0 (!ByteArray.toList (strOf q8)==ByteArray.toList (strOf (List.take N xs))) q9 (Z0 (decide (q7<=q10)) (Z0 (decide (0<=q11/\q11<=(↑q10:Int))) (Z0 (decide (0<=(↑N:Int)/\(↑N:Int)<(↑(XA (Int.toNat q11) none):Int))) (Z0 (decide (q12<q6)) (Z0 (List.getD q5 q12 0 !=77) q9 (∃(k:ClS),Wd [q14,q15,q16,q17,q18,q19,q20,q21,q22,q23,q24,q25,q26,q27,q28,q29,q1] k/\XJ [q14,q15,q16,q17,q18,q19,q20,q21,q22,q23,q24,q25,q26,q27,q28,q29] k/\Z41 k/\q2)) False) False) False) False)) False) False) False) False) False) False) False)) (by kernel_rfl) ?_
 conv=>zeta
 try simp only [Z8]
 try simp only [Ze]
 try simp only [Za]
 try simp only [Zf]
 try simp only [Zg]
 try simp only [Z9]
 try simp only [Y_s]
 subst hN
 refine ⟨fun _=>trivial,fun hn=> ?_⟩
 have e7:∀n,XA n none=n:=fun n=>rfl
 have e8:List.take xs.length (ZW 0 (xs++[77]))=xs:=by rw [Y4,List.drop_zero,List.take_left]
 have el:(xs++[(77:Int)]).length=xs.length+1:=by simp
 have e77:(xs++[(77:Int)]).getD xs.length 0=77:=by simp
 have ew:i64.wrap ((xs.length:Int)+1)=((xs.length+1:Nat):Int):=by rw [w64 (by omega)];omega
 have et:((xs.length:Int)).toNat=xs.length:=Int.toNat_natCast _
 have et1:(((xs.length+1:Nat):Int)).toNat=xs.length+1:=Int.toNat_natCast _
 have e9:xs.take xs.length=xs:=List.take_length
 simp only [e9,List.nil_append,et,e7,el,e8,ew,et1,e77,Nat.zero_add]
 repeat' first
  | omega
  | exact hb
  | exact hR
  | rfl
  | trivial
  | (intro h;exfalso;simp at h;done)
  | intro _
  | apply And.intro
  | exact ⟨k,.a rfl,.a rfl,hk⟩
  | exact ⟨k,⟨rfl⟩,⟨rfl⟩,hk⟩
end Go.Tk
end
section
namespace Go.Tk
open IntKind (i64 u8 u32 u64 wrap)
theorem Z9h {a:AV} (h:Z70 false [.ints .u8] a):∃(xs:List Int) (n:Nat),a=.vints .u8 xs n/\xs.length=n/\Bytes xs:=by
 cases h with|one _ _ h=>
 cases h
 rename_i xs n w l m
 exact ⟨xs,n,rfl,w,ZdO w m⟩
theorem closereads_walk {us:List AV} (h:Z4F [(false,[.ints .u8])] us):Zi PP 6 us ⟨0,[]⟩ fun o h'=>∃v,o=.ret v/\h'=⟨0,[]⟩/\v=.bool true:=by
 cases h with|cons _ _ a _ _ h1 h=>
 cases h
 obtain ⟨xs,n,rfl,hn,hb⟩:=Z9h h1
 obtain ⟨R,hR⟩:=Zke xs
 cases R with
 | some k=>
  have hR':=hR
  cases hR' with
  | some _ h1 hI=>
   have ht:=Z7t hb h1
   exact Yu (h:=⟨0,[]⟩) (ZaF (some k)) rfl (Znm xs n k hn hb hR ⟨hI,ht⟩) (fun u hu=>hu)
 | none=>exact Yu (h:=⟨0,[]⟩) (ZaF none) rfl (Znl xs n hn hb hR) (fun u hu=>hu)
end Go.Tk
namespace Go.Proofs.YtdfjhgjefkkkbaaGreat.closeReads
open Go.ChangeShapes Go.WideShapes Go.ChangeAt Go.RowKit
theorem own:ownKnob Tryz.prog.godebug=none:=by kernel_rfl
theorem laidOut:laidOutB Tryz.prog=true:=by kernel_rfl
theorem lifted (os:Os) (started:os.Started) (H:Type) (enc:TypeId×Value->H):
  ReturnsInHanded {} Tryz.checked os 6 .any (Rows.closeReadsSpec.pre6 enc Tryz.prog Tryz.f6 Rows.closeReadsRow.domain false) (Rows.closeReadsSpec.post enc Tryz.prog Tryz.f6 false true false false):=
 Go.Tk.lifted_gen (C:=Tryz.checked) (m:=8) (τs:=[(false,[.ints .u8])]) own laidOut started (by kernel_rfl) Tryz.func6
  (ChangeSpec.witness6 (enc:=enc) (C:=Tryz.checked) false ⟨#[], #[.slice none 0 0],[]⟩ 8 (by kernel_rfl) (by kernel_rfl) (by kernel_rfl) (by kernel_rfl))
  rfl (tb:=4) rfl Tryz.underlying4 (by kernel_rfl) (by kernel_rfl) (fun ds h=>by
   match ds,h with
   | [a],_=>rfl) fun us h=>Go.Tk.closereads_walk h
theorem Zkk:Tryz.pinned.checked.prog.funcNamed Rows.closeReadsRow.func=some 6:=by kernel_rfl
theorem closed:joinedFacts Tryz.pinned.checked.prog 6 Tryz.f6 Rows.closeReadsSpec Rows.closeReadsRow=true:=by
 unfold joinedFacts
 repeat' with_reducible refine Go.Tk.and_mk ?_ ?_
 all_goals as_aux_lemma=>kernel_rfl
theorem over:Rows.closeReadsRow.holds Tryz.pinned (OpenSpec.ofChange Rows.closeReadsSpec):=
 OpenClaim.holds_of_wide 6 Tryz.f6 rfl rfl rfl rfl rfl rfl rfl ⟨rfl,rfl,rfl,rfl,rfl⟩ rfl rfl rfl rfl rfl Zkk Tryz.func6 closed
  (of_decide_eq_true (by kernel_rfl)) (by unfold Func.isWrapper;first|(rw [if_pos (by decide+kernel)];kernel_rfl)|(rw [if_neg (by decide+kernel)];exact ⟨rfl,rfl⟩))
  (fun os started H enc _=>lifted os started H enc)
theorem proved:Rows.CloseReadsSaid:=over
end Go.Proofs.YtdfjhgjefkkkbaaGreat.closeReads
end
