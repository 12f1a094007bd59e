/- P: part 5 of an engine (a symbolic evaluator, proved against the model) and of the walk by it. -/
import Derived.Test.YtdfjhgjefkkkbaaGreatP4
set_option linter.unusedVariables false
set_option linter.unusedSimpArgs false
set_option maxRecDepth 100000
set_option maxHeartbeats 0
section
namespace Go.Tk
open IntKind (i64 u8 u32 u64 wrap)
variable {bl ms xs ys:List Int} {B:Nat} {H:List Int->List Int} {T2:List Int->List Int->List Int}
theorem ZkJ (x:InS) (b:Bool) (hx:x.Ok) (hb:b=Y3 x):
  evF G0 20 263 [.agg x.c] ⟨0,[]⟩ (XR (fun v=>v=.bool b)):=by
 refine @Eq.mpr _ (let q1:=x.way;let q2:=q1==1;let q3:=q1==4;let q4:=decide (q1>=1);let q5:=decide (q1<=6);let q6:=x.name;let q7:=decide (List.length q6=32/\List.length q6=32);let q8:=x.tag;let q9:=decide (List.length q8=32/\List.length q8=32);let q10:=x.also;let q11:=decide (List.length q10=32/\List.length q10=32);let q12:=x.secret;let q13:=decide (List.length q12=32/\List.length q12=32);let q14:=q6==q6;let q15:=x.index;let q16:=q15==q15;let q17:=q1==q1;let q18:=q8==q8;let q19:=q10==q10;let q20:=q12==q12;let q21:=q19&&q20;let q22:=AV.bool false=AV.bool b;let q23:=Z7 (decide (q15>=0)) (AV.bool (decide (q15<24))=AV.bool b) q22;let q24:=Z7 q4 (Z7 q5 (Z7 q7 (Z7 q9 (Z7 q11 (Z7 q13 (Z7 (q14&&(q16&&(q17&&(q18&&q21)))) q23 q22) False) False) False) False) q22) q22;let q25:=q1==5;let q26:=decide (List.length q12=32/\(32:Nat)=32);let q27:=q12==Z5;let q28:=q19&&q27;let q29:=decide (List.length q10=32/\(32:Nat)=32);let q30:=q10==Z5;let q31:=q30&&q20;let q32:=Z7 q4 (Z7 q5 (Z7 q7 (Z7 q9 (Z7 q29 (Z7 q13 (Z7 (q14&&(q16&&(q17&&(q18&&q31)))) q23 q22) False) False) False) False) q22) q22;let q33:=q30&&q27;let q34:=decide (List.length q8=32/\(32:Nat)=32);let q35:=q8==Z5;let q36:=Z7 q4 (Z7 q5 (Z7 q7 (Z7 q34 (Z7 q11 (Z7 q13 (Z7 (q14&&(q16&&(q17&&(q35&&q21)))) q23 q22) False) False) False) False) q22) q22;let q37:=Z7 q4 (Z7 q5 (Z7 q7 (Z7 q34 (Z7 q29 (Z7 q13 (Z7 (q14&&(q16&&(q17&&(q35&&q31)))) q23 q22) False) False) False) False) q22) q22;
 Z7 (q1 !=4) (Z7 q2 (Z7 q3 q24 (Z7 q25 q24 (Z7 q4 (Z7 q5 (Z7 q7 (Z7 q9 (Z7 q11 (Z7 q26 (Z7 (q14&&(q16&&(q17&&(q18&&q28)))) q23 q22) False) False) False) False) q22) q22))) (Z7 q3 q32 (Z7 q25 q32 (Z7 q4 (Z7 q5 (Z7 q7 (Z7 q9 (Z7 q29 (Z7 q26 (Z7 (q14&&(q16&&(q17&&(q18&&q33)))) q23 q22) False) False) False) False) q22) q22)))) (Z7 q2 (Z7 q3 q36 (Z7 q25 q36 (Z7 q4 (Z7 q5 (Z7 q7 (Z7 q34 (Z7 q11 (Z7 q26 (Z7 (q14&&(q16&&(q17&&(q35&&q28)))) q23 q22) False) False) False) False) q22) q22))) (Z7 q3 q37 (Z7 q25 q37 (Z7 q4 (Z7 q5 (Z7 q7 (Z7 q34 (Z7 q29 (Z7 q26 (Z7 (q14&&(q16&&(q17&&(q35&&q33)))) q23 q22) False) False) False) False) q22) q22))))) (by kernel_rfl) ?_
 conv=>zeta
 obtain ⟨h1,h2,h3,h4⟩:=hx
 subst hb
 have hz:[(0:Int),0,0,0,0,0,0,0,0,0,0,0,0,0,0,0,0,0,0,0,0,0,0,0,0,0,0,0,0,0,0,0]=Z5:=rfl
 simp only [hz,Z0A]
 unfold Y3
 generalize (x.secret==Z5)=bs
 generalize (x.also==Z5)=ba
 generalize (x.tag==Z5)=bt
 by_cases w1:x.way=1
 ·cases bs<;>simp [w1,h1,h2,h3,h4]<;>first|omega|grind
 by_cases w2:x.way=2
 ·cases bs<;>cases ba<;>simp [w2,h1,h2,h3,h4]<;>first|omega|grind
 by_cases w3:x.way=3
 ·cases bs<;>cases ba<;>simp [w3,h1,h2,h3,h4]<;>first|omega|grind
 by_cases w4:x.way=4
 ·cases bt<;>cases ba<;>simp [w4,h1,h2,h3,h4]<;>first|omega|grind
 by_cases w5:x.way=5
 ·cases ba<;>simp [w5,h1,h2,h3,h4]<;>first|omega|grind
 by_cases w6:x.way=6
 ·cases bs<;>cases ba<;>simp [w6,h1,h2,h3,h4]<;>first|omega|grind
 cases bs<;>cases ba<;>simp [w1,w2,w3,w4,w5,w6,h1,h2,h3,h4]<;>first|omega|grind
theorem Z25 {a b:Int} (ha:0<=a/\a<256) (hb:0<=b/\b<256):(WU a=WU b↔a=b)/\(WU a<WU b↔a<b):=by
 unfold WU
 rw [<-UInt8.toNat_inj,UInt8.lt_iff_toNat_lt]
 simp only [UInt8.toNat_ofNat']
 omega
theorem Bytes.getD (h:Bytes xs) (i:Nat):0<=xs.getD i 0/\xs.getD i 0<256:=by
 have:=h.h i
 omega
theorem Zit {x y:List Int} {b:Bool} {i:Nat} {P:Prop} (hx:i<x.length) (hy:i<y.length) (bx:Bytes x) (yb:Bytes y) (hb:b=decide (X2 (x.drop i) (y.drop i)>0)) (hP:b=decide (X2 (x.drop (i+1)) (y.drop (i+1))>0)->P):
  Z7 (x.getD i 0 !=y.getD i 0) (AV.bool (decide (x.getD i 0>y.getD i 0))=AV.bool b) P:=by
 have e1:x.drop i=x.getD i 0::x.drop (i+1):=by rw [JU hx];simp [J2,hx]
 have e2:y.drop i=y.getD i 0::y.drop (i+1):=by rw [JU hy];simp [J2,hy]
 rw [e1,e2] at hb
 have k1:=Z25 (bx.getD i) (yb.getD i)
 have k2:=Z25 (yb.getD i) (bx.getD i)
 generalize x.getD i 0=u at*
 generalize y.getD i 0=v at*
 simp only [X2,K8,Lib.compareBytes,k1.2,k2.2] at hb
 rw [Z0A]
 constructor
 ·intro h
  have h:u≠v:=by simpa using h
  rw [hb]
  by_cases h1:u<v
  ·simp [h1];omega
  ·have:v<u:=by omega
   simp [this,h1]
 ·intro h
  have h:u=v:=by simpa using h
  subst h
  simp only [Int.lt_irrefl,if_false] at hb
  exact hP hb
theorem ZkK (x y:List Int) (b:Bool) (hx:x.length=32) (hy:y.length=32) (bx:Bytes x) (yb:Bytes y) (hb:b=decide (X2 (x.drop 0) (y.drop 0)>0)):
  evF G0 20 286 [.agg [.arr .u8 32 x],.agg [.arr .u8 32 y]] ⟨0,[]⟩ (XR (fun v=>v=.bool b)):=by
 refine @Eq.mpr _ (let q1:=AV.bool b;
 Z7 (List.getD x 0 0 !=List.getD y 0 0) (AV.bool (decide (List.getD x 0 0>List.getD y 0 0))=q1)
 (Z7 (List.getD x 1 0 !=List.getD y 1 0) (AV.bool (decide (List.getD x 1 0>List.getD y 1 0))=q1)
 (Z7 (List.getD x 2 0 !=List.getD y 2 0) (AV.bool (decide (List.getD x 2 0>List.getD y 2 0))=q1)
 (Z7 (List.getD x 3 0 !=List.getD y 3 0) (AV.bool (decide (List.getD x 3 0>List.getD y 3 0))=q1)
 (Z7 (List.getD x 4 0 !=List.getD y 4 0) (AV.bool (decide (List.getD x 4 0>List.getD y 4 0))=q1)
 (Z7 (List.getD x 5 0 !=List.getD y 5 0) (AV.bool (decide (List.getD x 5 0>List.getD y 5 0))=q1)
 (Z7 (List.getD x 6 0 !=List.getD y 6 0) (AV.bool (decide (List.getD x 6 0>List.getD y 6 0))=q1)
 (Z7 (List.getD x 7 0 !=List.getD y 7 0) (AV.bool (decide (List.getD x 7 0>List.getD y 7 0))=q1)
 (Z7 (List.getD x 8 0 !=List.getD y 8 0) (AV.bool (decide (List.getD x 8 0>List.getD y 8 0))=q1)
 (Z7 (List.getD x 9 0 !=List.getD y 9 0) (AV.bool (decide (List.getD x 9 0>List.getD y 9 0))=q1)
 (Z7 (List.getD x 10 0 !=List.getD y 10 0) (AV.bool (decide (List.getD x 10 0>List.getD y 10 0))=q1)
 (Z7 (List.getD x 11 0 !=List.getD y 11 0) (AV.bool (decide (List.getD x 11 0>List.getD y 11 0))=q1)
 (Z7 (List.getD x 12 0 !=List.getD y 12 0) (AV.bool (decide (List.getD x 12 0>List.getD y 12 0))=q1)
 (Z7 (List.getD x 13 0 !=List.getD y 13 0) (AV.bool (decide (List.getD x 13 0>List.getD y 13 0))=q1)
 (Z7 (List.getD x 14 0 !=List.getD y 14 0) (AV.bool (decide (List.getD x 14 0>List.getD y 14 0))=q1)
 (Z7 (List.getD x 15 0 !=List.getD y 15 0) (AV.bool (decide (List.getD x 15 0>List.getD y 15 0))=q1)
 (Z7 (List.getD x 16 0 !=List.getD y 16 0) (AV.bool (decide (List.getD x 16 0>List.getD y 16 0))=q1)
 (Z7 (List.getD x 17 0 !=List.getD y 17 0) (AV.bool (decide (List.getD x 17 0>List.getD y 17 0))=q1)
 (Z7 (List.getD x 18 0 !=List.getD y 18 0) (AV.bool (decide (List.getD x 18 0>List.getD y 18 0))=q1)
 (Z7 (List.getD x 19 0 !=List.getD y 19 0) (AV.bool (decide (List.getD x 19 0>List.getD y 19 0))=q1)
 (Z7 (List.getD x 20 0 !=List.getD y 20 0) (AV.bool (decide (List.getD x 20 0>List.getD y 20 0))=q1)
 (Z7 (List.getD x 21 0 !=List.getD y 21 0) (AV.bool (decide (List.getD x 21 0>List.getD y 21 0))=q1)
 (Z7 (List.getD x 22 0 !=List.getD y 22 0) (AV.bool (decide (List.getD x 22 0>List.getD y 22 0))=q1)
 (Z7 (List.getD x 23 0 !=List.getD y 23 0) (AV.bool (decide (List.getD x 23 0>List.getD y 23 0))=q1)
 (Z7 (List.getD x 24 0 !=List.getD y 24 0) (AV.bool (decide (List.getD x 24 0>List.getD y 24 0))=q1) (Z7 (List.getD x 25 0 !=List.getD y 25 0) (AV.bool (decide (List.getD x 25 0>List.getD y 25 0))=q1) (Z7 (List.getD x 26 0 !=List.getD y 26 0) (AV.bool (decide (List.getD x 26 0>List.getD y 26 0))=q1) (Z7 (List.getD x 27 0 !=List.getD y 27 0) (AV.bool (decide (List.getD x 27 0>List.getD y 27 0))=q1) (Z7 (List.getD x 28 0 !=List.getD y 28 0) (AV.bool (decide (List.getD x 28 0>List.getD y 28 0))=q1) (Z7 (List.getD x 29 0 !=List.getD y 29 0) (AV.bool (decide (List.getD x 29 0>List.getD y 29 0))=q1) (Z7 (List.getD x 30 0 !=List.getD y 30 0) (AV.bool (decide (List.getD x 30 0>List.getD y 30 0))=q1) (Z7 (List.getD x 31 0 !=List.getD y 31 0) (AV.bool (decide (List.getD x 31 0>List.getD y 31 0))=q1) (AV.bool false=q1))))))))))))))))))))))))))))))))) (by kernel_rfl) ?_
 conv=>zeta
 iterate 32 refine Zit (by omega) (by omega) bx yb hb fun hb=> ?_
 rw [K3 (by omega),K3 (by omega)] at hb
 have h0:X2 [] []=0:=rfl
 simp [hb,h0,Z7]
theorem ZfJ (args:List AV) (h:Z8) (K:AV->Prop) (hl:inS Y3 args h K):Ze PP 263 args h fun o h'=>∃v,o=.ret v/\h'=h/\K v:=by
 unfold inS at hl
 split at hl
 ·rename_i n i w t a s
  obtain ⟨⟨h1,h2,h3,h4⟩,hK⟩:=Zb hl
  exact X3 Zm rfl (ZkJ ⟨n,i,w,t,a,s⟩ _ ⟨h1,h2,h3,h4⟩ rfl) (fun u hu=>hu▸hK)
 ·exact hl.elim
def Ziu:ZH:=fun args _ K=>match args with
 | [.agg [.arr .u8 32 x],.agg [.arr .u8 32 y]]=>(x.length=32/\y.length=32)/\Bytes x/\Bytes y/\K (.bool (decide (X2 x y>0)))
 | _=>False
noncomputable def ZkL:Zd:=G0.withP 286 Ziu
theorem Ziv (o:ZE) (b:Bool) (ho:o.Ok) (b1:Bytes o.owner) (b2:Bytes o.other) (hb:b=ZD o):
  evF ZkL 20 264 [.agg o.c] ⟨0,[]⟩ (XR (fun v=>v=.bool b)):=by
 refine @Eq.mpr _ (let q1:=o.kind;let q2:=q1==2;let q3:=decide (q1>=3);let q4:=o.delay;let q5:=decide (q4=q4);let q6:=decide (q1>=4);let q7:=o.expiry;let q8:=decide (q7=q7);let q9:=decide (q1>=1);let q10:=decide (q1<=5);let q11:=o.owner;let q12:=decide (List.length q11=32/\List.length q11=32);let q13:=o.other;let q14:=decide (List.length q13=32/\List.length q13=32);let q15:=o.point;let q16:=decide (List.length q15=32/\List.length q15=32);let q17:=o.hash;let q18:=decide (List.length q17=32/\List.length q17=32);let q19:=q1==q1;let q20:=o.amount;let q21:=q20==q20;let q22:=q11==q11;let q23:=q13==q13;let q24:=q15==q15;let q25:=q17==q17;let q26:=q4==q4;let q27:=q7==q7;let q28:=q24&&(q25&&(q26&&q27));let q29:=AV.bool b;let q30:=AV.bool false=q29;let q31:=Z7 (decide (q20>0)) (Z7 (decide (q20>=0)) (Z7 (decide (q20<=1125899906842624)) (Z7 (decide (q4>=0)) (Z7 (decide (q4<=2147483647)) (Z7 (decide (q7>=0)) (Z7 (decide (q7<=2147483647)) (Z7 q2 ((List.length q11=32/\List.length q13=32)/\Bytes q11/\Bytes q13/\(AV.bool !decide (X2 q11 q13>0))=q29) (AV.bool true=q29)) q30) q30) q30) q30) q30) q30) q30;let q32:=decide (List.length q17=32/\(32:Nat)=32);let q33:=q17==Z5;let q34:=q7==0;let q35:=q24&&(q33&&(q26&&q34));let q36:=decide (List.length q15=32/\(32:Nat)=32);let q37:=q15==Z5;let q38:=q4==0;let q39:=q37&&(q25&&(q38&&q27));let q40:=q37&&(q33&&(q38&&q34));let q41:=Z7 q3 (Z7 q5 (Z7 q6 (Z7 q8 (Z7 q9 (Z7 q10 (Z7 q12 (Z7 q14 (Z7 q16 (Z7 q18 (Z7 (q19&&(q21&&(q22&&(q23&&q28)))) q31 q30) False) False) False) False) q30) q30) False) (Z7 q9 (Z7 q10 (Z7 q12 (Z7 q14 (Z7 q16 (Z7 q32 (Z7 (q19&&(q21&&(q22&&(q23&&q35)))) q31 q30) False) False) False) False) q30) q30)) False) (Z7 q6 (Z7 q8 (Z7 q9 (Z7 q10 (Z7 q12 (Z7 q14 (Z7 q36 (Z7 q18 (Z7 (q19&&(q21&&(q22&&(q23&&q39)))) q31 q30) False) False) False) False) q30) q30) False) (Z7 q9 (Z7 q10 (Z7 q12 (Z7 q14 (Z7 q36 (Z7 q32 (Z7 (q19&&(q21&&(q22&&(q23&&q40)))) q31 q30) False) False) False) False) q30) q30));let q42:=decide (List.length q13=32/\(32:Nat)=32);let q43:=q13==Z5;
 Z7 q2 q41 (Z7 (q1==4) q41 (Z7 (q1==5) q41 (Z7 q3 (Z7 q5 (Z7 q6 (Z7 q8 (Z7 q9 (Z7 q10 (Z7 q12 (Z7 q42 (Z7 q16 (Z7 q18 (Z7 (q19&&(q21&&(q22&&(q43&&q28)))) q31 q30) False) False) False) False) q30) q30) False) (Z7 q9 (Z7 q10 (Z7 q12 (Z7 q42 (Z7 q16 (Z7 q32 (Z7 (q19&&(q21&&(q22&&(q43&&q35)))) q31 q30) False) False) False) False) q30) q30)) False) (Z7 q6 (Z7 q8 (Z7 q9 (Z7 q10 (Z7 q12 (Z7 q42 (Z7 q36 (Z7 q18 (Z7 (q19&&(q21&&(q22&&(q43&&q39)))) q31 q30) False) False) False) False) q30) q30) False) (Z7 q9 (Z7 q10 (Z7 q12 (Z7 q42 (Z7 q36 (Z7 q32 (Z7 (q19&&(q21&&(q22&&(q43&&q40)))) q31 q30) False) False) False) False) q30) q30)))))) (by kernel_rfl) ?_
 conv=>zeta
 obtain ⟨h1,h2,h3,h4⟩:=ho
 subst hb
 have hz:[(0:Int),0,0,0,0,0,0,0,0,0,0,0,0,0,0,0,0,0,0,0,0,0,0,0,0,0,0,0,0,0,0,0]=Z5:=rfl
 simp only [hz,Z0A,WC]
 unfold ZD
 generalize (o.other==Z5)=bo
 generalize (o.point==Z5)=bp
 generalize (o.hash==Z5)=bh
 generalize X2 o.owner o.other=cc
 by_cases k1:o.kind=1
 ·cases bo<;>cases bp<;>cases bh<;>simp [k1,h1,h2,h3,h4,b1,b2]<;>first|omega|grind
 by_cases k2:o.kind=2
 ·cases bp<;>cases bh<;>simp [k2,h1,h2,h3,h4,b1,b2]<;>first|omega|grind
 by_cases k3:o.kind=3
 ·cases bo<;>cases bh<;>simp [k3,h1,h2,h3,h4,b1,b2]<;>first|omega|grind
 by_cases k4:o.kind=4
 ·simp [k4,h1,h2,h3,h4,b1,b2]<;>first|omega|grind
 by_cases k5:o.kind=5
 ·simp [k5,h1,h2,h3,h4,b1,b2]<;>first|omega|grind
 cases bo<;>cases bp<;>cases bh<;>simp [k1,k2,k3,k4,k5,h1,h2,h3,h4,b1,b2]<;>first|omega|grind
theorem Zd8 (args:List AV) (h:Z8) (K:AV->Prop) (hl:Ziu args h K):Ze PP 286 args h fun o h'=>∃v,o=.ret v/\h'=h/\K v:=by
 unfold Ziu at hl
 split at hl
 ·obtain ⟨⟨h1,h2⟩,b1,b2,hK⟩:=hl
  exact X3 Zm rfl (ZkK _ _ _ h1 h2 b1 b2 rfl) (fun u hu=>hu▸hK)
 ·exact hl.elim
theorem ZfK:ZkL.Ok:=Zd.withP_ok Zm Zd8
def Z8u (R:ZE->Bool):ZH:=fun args _ K=>match args with
 | [.agg [.int .i64 kd,.int .i64 am,.arr .u8 32 ow,.arr .u8 32 ot,.arr .u8 32 po,.arr .u8 32 ha,.int .i64 de,.int .i64 ex]]=>Z6 (ow.length=32/\ot.length=32/\po.length=32/\ha.length=32) ((Bytes ow/\Bytes ot)/\K (.bool (R ⟨kd,am,ow,ot,po,ha,de,ex⟩)))
 | _=>False
theorem Zd9 (args:List AV) (h:Z8) (K:AV->Prop) (hl:Z8u ZD args h K):Ze PP 264 args h fun o h'=>∃v,o=.ret v/\h'=h/\K v:=by
 unfold Z8u at hl
 split at hl
 ·rename_i kd am ow ot po ha de ex
  obtain ⟨⟨h1,h2,h3,h4⟩,⟨b1,b2⟩,hK⟩:=Zb hl
  exact X3 ZfK rfl (Ziv ⟨kd,am,ow,ot,po,ha,de,ex⟩ _ ⟨h1,h2,h3,h4⟩ b1 b2 rfl) (fun u hu=>hu▸hK)
 ·exact hl.elim
noncomputable def E35:Zd:=(G0.withP 263 (inS Y3)).withP 264 (Z8u ZD)
theorem Z8v:E35.Ok:=Zd.withP_ok (Zd.withP_ok Zm ZfJ) Zd9
def Ziw {ι:Type} (S:ι->Nat->St->KE->Prop):Nat->St->KE->Prop:=fun k s X=>∃i,S i k s X
theorem Zd.withL_ex {ι:Type} {G:Zd} (hG:G.Ok) {f:FuncId} {id:Nat} {S:ι->Nat->St->KE->Prop} (h1:∀i,(G.withL f id (S i)).Ok):(G.withL f id (Ziw S)).Ok where
 draw:=hG.draw
 psumm:=hG.psumm
 fsumm:=hG.fsumm
 lsumm:=fun f' id' S' fn c body hS hf hb hm k s X hs=>by
  have hS0:=hS
  simp only [Zd.withL] at hS
  split at hS
  ·rename_i hq
   cases hS
   obtain ⟨i,hs⟩:=hs
   have a1:=(h1 i).lsumm f' id' (S i) fn c body
   simp only [Zd.withL,hq] at a1
   exact a1 trivial hf hb hm k s X hs
  ·exact hG.lsumm f' id' S' fn c body hS hf hb hm k s X hs
def rgH (t:TxS):Z8:=⟨1,[(0,.flat t.c)]⟩
def rgP:AV:=.ptr (some ⟨0,0,0,0,0⟩)
def ZaU (t:TxS) (i:Nat):St:=⟨106,[(3,.int .i64 i),(1,rgP)],rgH t,[]⟩
def Zix (t:TxS) (i k:Nat):St:=⟨106,[(4,.int .i64 k),(3,.int .i64 i),(1,rgP)],rgH t,[]⟩
def rgR (t:TxS):St:=⟨106,[(2,.bool false),(1,rgP)],rgH t,[]⟩
def ZkM (t:TxS):St:=⟨106,[(1,rgP)],rgH t,[]⟩
def Z8w (t:TxS) (i:Nat) (n:Int):St:=⟨106,[(6,.int .i64 i),(5,.int .i64 n),(1,rgP)],rgH t,[]⟩
def ZkN (t:TxS) (n:Int):St:=⟨106,[(5,.int .i64 n),(1,rgP)],rgH t,[]⟩
theorem ZmX (t:TxS) (i k:Nat) (Z1 Z2 Z3:Prop) (hi:i<t.N) (hN:t.N<=24) (hk:k<=i) (ht:t.Ok) (h1:k<i->sameAt t.ins (t.ins i) k=false->Z1) (h2:k=i->Z2) (h3:k<i->sameAt t.ins (t.ins i) k=true->Z3):
  ZC E35 20 203 2 0 (Zix t i k) (rdM 0 2 9 (Zix t i (k+1)) (ZaU t i) (rgR t) (rgR t) Z1 Z2 Z3 False):=by
 refine @Eq.mpr _ (let q1:=t.N;let q2:=(↑q1:Int);let q3:=decide (0<=(↑k:Int)/\(↑k:Int)<q2);let q4:=decide (0<=(↑i:Int)/\(↑i:Int)<q2);let q5:=t.ins (Int.toNat (↑k:Int));let q6:=q5.name;let q7:=t.ins (Int.toNat (↑i:Int));let q8:=q7.name;let q9:=decide (t.num=t.num);let q10:=decide (q1=q1);let q11:=Zg t.ins;let q12:=q11=q11;let q13:=decide (t.M=t.M);let q14:=Zf t.outs;let q15:=q14=q14;let q16:=decide ((↑i:Int)=(↑i:Int));let q17:=Z6 (wrap i64 ((↑k:Int)+1)=(↑(k+1):Int)) (Z0 q16 (Z0 q9 (Z0 q10 (q12/\Z0 q10 (Z0 q13 (q15/\Z0 q13 Z1))))));
 Z7 (decide ((↑k:Int)<(↑i:Int))) (Z0 q3 (Z0 q4 (Z6 (List.length q6=32/\List.length q8=32) (Z7 (q6==q8) (Z0 q3 (Z0 q4 (Z7 (q5.index==q7.index) (Z0 q9 (Z0 q10 (q12/\Z0 q10 (Z0 q13 (q15/\Z0 q13 Z3))))) q17))) q17)))) (Z0 q16 (Z0 q9 (Z0 q10 (q12/\Z0 q10 (Z0 q13 (q15/\Z0 q13 Z2))))))) (by kernel_rfl) ?_
 conv=>zeta
 try simp only [vcA]
 try simp only [vcB]
 try simp only [vcC]
 have e1:=(ht.ins i hi).name
 have e2:k<t.N->(t.ins k).name.length=32:=fun h=>(ht.ins k h).name
 have hw:i64.wrap ((k:Int)+1)=((k+1:Nat):Int):=w64 (by omega)
 rw [hw]
 unfold sameAt US at h1 h3
 refine ⟨fun hlt=> ?_,fun hge=> ?_⟩
 ·have hlt:k<i:=by omega
  have h1:=h1 hlt
  have h3:=h3 hlt
  have e2:=e2 (by omega)
  refine ⟨by omega,by omega,⟨e2,e1⟩,fun q1=>⟨by omega,by omega,fun q2=>h3 (by rw [q1,q2];rfl),fun q2=>⟨rfl,h1 (by rw [q2,Ko])⟩⟩,fun q1=>⟨rfl,h1 (by rw [q1,KC])⟩⟩
 ·simp [h2 (by omega)]
theorem ZmY (t:TxS) (i:Nat) (n:Int) (Z1 Z2 Z3:Prop) (hM:t.M<=24) (hi:i<=t.M) (ht:t.Ok) (hn:0<=n/\n<=i*1125899906842624) (hB:i<t.M->Bytes (t.outs i).owner/\Bytes (t.outs i).other) (h1:i<t.M->ZD (t.outs i)=true->Z1) (h2:i=t.M->Z2) (h3:i<t.M->ZD (t.outs i)=false->Z3):
  ZC E35 20 203 4 0 (Z8w t i n) (rdM 0 4 9 (Z8w t (i+1) (n+(t.outs i).amount)) (ZkN t n) (rgR t) (rgR t) Z1 Z2 Z3 False):=by
 refine @Eq.mpr _ (let q1:=t.M;let q2:=decide (0<=(↑i:Int)/\(↑i:Int)<(↑q1:Int));let q3:=t.outs (Int.toNat (↑i:Int));let q4:=q3.owner;let q5:=q3.other;let q6:=q3.point;let q7:=q3.hash;let q8:=q3.amount;let q9:=decide (t.num=t.num);let q10:=decide (t.N=t.N);let q11:=Zg t.ins;let q12:=q11=q11;let q13:=decide (q1=q1);let q14:=Zf t.outs;let q15:=q14=q14;
 Z7 (decide ((↑i:Int)<(↑q1:Int))) (Z0 q2 (Z6 (List.length q4=32/\List.length q5=32/\List.length q6=32/\List.length q7=32) ((Bytes q4/\Bytes q5)/\Z7 (!ZD (ZE.mk q3.kind q8 q4 q5 q6 q7 q3.delay q3.expiry)) (Z0 q9 (Z0 q10 (q12/\Z0 q10 (Z0 q13 (q15/\Z0 q13 Z3))))) (Z0 q2 (Z6 (wrap i64 ((↑i:Int)+1)=(↑(i+1):Int)) (Z6 (wrap i64 (n+q8)=n+(t.outs i).amount) (Z0 q9 (Z0 q10 (q12/\Z0 q10 (Z0 q13 (q15/\Z0 q13 Z1))))))))))) (Z6 (n=n) (Z0 q9 (Z0 q10 (q12/\Z0 q10 (Z0 q13 (q15/\Z0 q13 Z2))))))) (by kernel_rfl) ?_
 conv=>zeta
 try simp only [vcA]
 try simp only [vcB]
 try simp only [vcC]
 have hw:i64.wrap ((i:Int)+1)=((i+1:Nat):Int):=w64 (by omega)
 rw [hw]
 refine ⟨fun hlt=> ?_,fun hge=> ?_⟩
 ·have hlt:i<t.M:=by omega
  obtain ⟨e1,e2,e3,e4⟩:=ht.outs i hlt
  obtain ⟨b1,b2⟩:=hB hlt
  have h1:=h1 hlt
  have h3:=h3 hlt
  have hw2:ZD (t.outs i)=true->i64.wrap (n+(t.outs i).amount)=n+(t.outs i).amount:=fun h=>by
   have:=(Xn h).2
   exact w64 (by omega)
  refine ⟨by omega,⟨e1,e2,e3,e4⟩,⟨b1,b2⟩,fun q=>h3 (by simpa using q),fun q=>⟨by omega,rfl,hw2 (by simpa using q),h1 (by simpa using q)⟩⟩
 ·simp [h2 (by omega)]
noncomputable def ZfL (t:TxS):Zd:=E35.withL 203 2 (Ziw fun i:Nat=>goM 0 (Zix t i 0) (i<t.N/\t.N<=24/\t.Ok) (Yu 2 i 9 (fun k=>sameAt t.ins (t.ins i) k=false) (fun k=>k=i) (fun k=>k<i/\sameAt t.ins (t.ins i) k=true) (fun _=>False) (fun _=>ZaU t i) (fun _=>rgR t) (fun _=>rgR t)))
theorem ZfM (t:TxS):(ZfL t).Ok:=
 Zd.withL_ex Z8v fun i=>Zd.withGoM (N:=20) Z8v (by kernel_rfl) fun hC=>⟨rfl,fun k hk hgo=>ZmX t i k _ _ _ hC.1 hC.2.1 hk hC.2.2 (fun h1 h2=>⟨h2,h1⟩) (fun h=>h) (fun h1 h2=>⟨h1,h2⟩)⟩
def okI (t:TxS) (i:Nat):Bool:=Y3 (t.ins i)&& !((List.range i).any (sameAt t.ins (t.ins i)))
theorem ZmZ (t:TxS) (i:Nat) (Z1 Z2 Z3:Prop) (hi:i<=t.N) (hN:t.N<=24) (ht:t.Ok) (h1:i<t.N->okI t i=true->Z1) (h2:i=t.N->Z2) (h3:i<t.N->okI t i=false->Z3):
  ZC (ZfL t) 20 203 0 0 (ZaU t i) (rdM 0 0 9 (ZaU t (i+1)) (ZkM t) (rgR t) (rgR t) Z1 Z2 Z3 False):=by
 refine @Eq.mpr _ (let q1:=t.N;let q2:=t.ins (Int.toNat (↑i:Int));let q3:=q2.name;let q4:=q2.tag;let q5:=q2.also;let q6:=q2.secret;let q7:=decide (t.num=t.num);let q8:=decide (q1=q1);let q9:=t.ins;let q10:=Zg q9;let q11:=q10=q10;let q12:=decide (t.M=t.M);let q13:=Zf t.outs;let q14:=q13=q13;let q15:=Z0 q7 (Z0 q8 (q11/\Z0 q8 (Z0 q12 (q14/\Z0 q12 Z3))));
 Z7 (decide ((↑i:Int)<(↑q1:Int))) (Z6 (0<=(↑i:Int)/\(↑i:Int)<(↑q1:Int)) (Z6 (List.length q3=32/\List.length q4=32/\List.length q5=32/\List.length q6=32) (Z7 (!Y3 (InS.mk q3 q2.index q2.way q4 q5 q6)) q15 (∃(i_1:Nat),Z6 ((↑i:Int)=(↑i_1:Int)) (Z0 q7 (Z0 q8 (q11/\Z0 q8 (Z0 q12 (q14/\Z0 q12 ((i_1<q1/\q1<=24/\TxS.Ok t)/\∀(i_2:Nat),i_2<=i_1->(∀(j:Nat),j<i_2->(fun (k:Nat)=>sameAt q9 (q9 i_1) k=false) j)->(i_2=i_1->Z6 (wrap i64 ((↑i_1:Int)+1)=(↑(i+1):Int)) (Z0 q7 (Z0 q8 (q11/\Z0 q8 (Z0 q12 (q14/\Z0 q12 Z1))))))/\(i_2<i_1/\sameAt q9 (q9 i_1) i_2=true->q15)/\(False->Z0 q7 (Z0 q8 (q11/\Z0 q8 (Z0 q12 (q14/\Z7 q12 False False))))))))))))))) (Z0 q7 (Z0 q8 (q11/\Z0 q8 (Z0 q12 (q14/\Z0 q12 Z2)))))) (by kernel_rfl) ?_
 conv=>zeta
 try simp only [vcA]
 try simp only [vcB]
 try simp only [vcC]
 unfold okI at h1 h3
 refine ⟨fun hlt=> ?_,fun hge=>h2 (by omega)⟩
 have hlt:i<t.N:=by omega
 obtain ⟨e1,e2,e3,e4⟩:=ht.ins i hlt
 have h1:=h1 hlt
 have h3:=h3 hlt
 refine ⟨by omega,⟨e1,e2,e3,e4⟩,fun q=>h3 ?_,fun q=>⟨i,rfl,⟨hlt,hN,ht⟩,fun m hm hgo=>⟨fun hq=>⟨w64 (by omega),h1 ?_⟩,fun hq=>h3 ?_,fun h=>h⟩⟩⟩
 ·have q:Y3 (t.ins i)=false:=by simpa using q
  rw [q,KC]
 ·subst hq
  have q:Y3 (t.ins m)=true:=by simpa using q
  rw [q,JO]
  simp only [J6,JY,Jz]
  intro j hj
  rw [hgo j hj]
  decide
 ·have:(List.range i).any (sameAt t.ins (t.ins i))=true:=by
   rw [List.any_eq_true]
   exact ⟨m,by simpa using hq.1,hq.2⟩
  rw [this,Kx,Ko]
def VA (t:TxS) (i:Nat):Int:=(amL t.outs i).sum
structure TxB (t:TxS):Prop where
 h:∀i,i<t.M->Bytes (t.outs i).owner/\Bytes (t.outs i).other
theorem Z5C {t:TxS}:∀i,(∀j,j<i->ZD (t.outs j)=true)->0<=VA t i/\VA t i<=i*1125899906842624
 | 0,_=>by simp [VA,amL]
 | i+1,h=>by
  have h1:=Z5C i (fun j hj=>h j (by omega))
  have h2:=(Xn (h i (by omega))).2.1
  have e:VA t (i+1)=VA t i+(t.outs i).amount:=by unfold VA;rw [Z3h];simp
  omega
theorem ZaV (t:TxS) (i:Nat):VA t (i+1)=VA t i+(t.outs i).amount:=by unfold VA;rw [Z3h];simp
def ZkO (t:TxS):Nat->St->KE->Prop:=goM 0 (ZaU t 0) (t.N<=24/\t.Ok) (Yu 0 t.N 9 (fun i=>okI t i=true) (fun i=>i=t.N) (fun i=>i<t.N/\okI t i=false) (fun _=>False) (fun _=>ZkM t) (fun _=>rgR t) (fun _=>rgR t))
def ZkP (t:TxS):Nat->St->KE->Prop:=goM 0 (Z8w t 0 0) (t.M<=24/\t.Ok/\TxB t) (Yu 4 t.M 9 (fun i=>ZD (t.outs i)=true) (fun i=>i=t.M) (fun i=>i<t.M/\ZD (t.outs i)=false) (fun _=>False) (fun i=>ZkN t (VA t i)) (fun _=>rgR t) (fun _=>rgR t))
noncomputable def ZkQ (t:TxS):Zd:=((ZfL t).withL 203 0 (ZkO t)).withL 203 4
 (ZkP t)
theorem ZfN (t:TxS):(ZkQ t).Ok:=by
 have h1:((ZfL t).withL 203 0 (ZkO t)).Ok:=
  Zd.withGoM (N:=20) (S:=ZaU t) (ZfM t) (by kernel_rfl) fun hC=>⟨rfl,fun i hi hgo=>ZmZ t i _ _ _ hi hC.1 hC.2 (fun h1 h2=>⟨h2,h1⟩) (fun h=>h) (fun h1 h2=>⟨h1,h2⟩)⟩
 have h2:(E35.withL 203 4 (ZkP t)).Ok:=by
  refine Zd.withGoM (N:=20) (S:=fun i=>Z8w t i (VA t i)) Z8v (by kernel_rfl) fun hC=>⟨by show Z8w t 0 (VA t 0)=_;unfold VA amL;rfl,fun i hi hgo=> ?_⟩
  show ZC E35 20 203 4 0 (Z8w t i (VA t i)) (rdM 0 4 9 (Z8w t (i+1) (VA t (i+1))) _ _ _ _ _ _ _)
  rw [ZaV]
  exact ZmY t i (VA t i) _ _ _ hC.1 hi hC.2.1 (Z5C i hgo) (fun h=>hC.2.2.h i h) (fun h1 h2=>⟨h2,h1⟩) (fun h=>h) (fun h1 h2=>⟨h1,h2⟩)
 exact Zd.withL_join (H:=E35) h1 rfl h2
def Xy (t:TxS):Bool:=decide (0<=t.num/\t.num<=2147483647)&&decide (1<=t.N/\t.N<=24)&&decide (1<=t.M/\t.M<=24)&&(List.range t.N).all (okI t)&&(List.range t.M).all (fun i=>ZD (t.outs i))&&decide (VA t t.M<=1125899906842624)
theorem Zn0 (t:TxS) (b:Bool) (ht:t.Ok) (hb:TxB t) (h:b=Xy t):
  evF (ZkQ t) 20 203 [.agg t.c] ⟨0,[]⟩ (Yq 0 [] (.bool b) 0 []):=by
 refine @Eq.mpr _ (let q1:=t.num;let q2:=Z6 (false=b) True;let q3:=t.N;let q4:=(↑q3:Int);let q5:=t.M;let q6:=(↑q5:Int);let q7:=decide (q1=q1);let q8:=decide (q3=q3);let q9:=Zg t.ins;let q10:=q9=q9;let q11:=decide (q5=q5);let q12:=Zf t.outs;let q13:=q12=q12;
 Z7 (decide (q1>=0)) (Z7 (!decide (q1<=2147483647)) q2 (Z7 (decide (q4<1)) q2 (Z7 (decide (q4>24)) q2 (Z7 (decide (q6<1)) q2 (Z7 (decide (q6>24)) q2 (Z0 q7 (Z0 q8 (q10/\Z0 q8 (Z0 q11 (q13/\Z0 q11 ((q3<=24/\TxS.Ok t)/\∀(i:Nat),i<=q3->(∀(j:Nat),j<i->(fun (i:Nat)=>okI t i=true) j)->(i=q3->Z0 q7 (Z0 q8 (q10/\Z0 q8 (Z0 q11 (q13/\Z0 q11 ((q5<=24/\TxS.Ok t/\TxB t)/\∀(i:Nat),i<=q5->(∀(j:Nat),j<i->(fun (i:Nat)=>ZD (t.outs i)=true) j)->(i=q5->Z7 (decide (VA t i>=0)) (Z6 (decide (VA t i<=1125899906842624)=b) True) q2)/\(i<q5/\ZD (t.outs i)=false->q2)/\(False->False)))))))/\(i<q3/\okI t i=false->q2)/\(False->False)))))))))))) q2) (by kernel_rfl) ?_
 conv=>zeta
 try simp only [vcA]
 try simp only [vcB]
 try simp only [vcC]
 subst h
 have hF:Xy t=false->false=Xy t:=fun h=>by rw [h]
 refine ⟨fun a1=>⟨fun a2=>hF ?_,fun a2=>⟨fun a3=>hF ?_,fun a3=>⟨fun a4=>hF ?_,fun a4=>⟨fun a5=>hF ?_,fun a5=>⟨fun a6=>hF ?_,fun a6=>⟨⟨by omega,ht⟩,fun i hi hgo=>⟨fun hq=>⟨⟨by omega,ht,hb⟩,fun m hm hgm=>⟨fun hr=>⟨fun a7=> ?_,fun a7=> ?_⟩,fun hr=>hF ?_,fun h=>h⟩⟩,fun hq=>hF ?_,fun h=>h⟩⟩⟩⟩⟩⟩⟩,fun a1=>hF ?_⟩
 ·unfold Xy;rw [decide_eq_false (p:=0<=t.num/\_) (by simp at a2;omega)];simp
 ·unfold Xy;rw [decide_eq_false (p:=1<=t.N/\_) (by omega)];simp
 ·unfold Xy;rw [decide_eq_false (p:=1<=t.N/\_) (by omega)];simp
 ·unfold Xy;rw [decide_eq_false (p:=1<=t.M/\_) (by omega)];simp
 ·unfold Xy;rw [decide_eq_false (p:=1<=t.M/\_) (by omega)];simp
 ·subst hq hr
  have e1:(List.range t.N).all (okI t)=true:=by
   rw [Ke];intro j hj;exact hgo j (by simpa using hj)
  have e2:(List.range t.M).all (fun i=>ZD (t.outs i))=true:=by
   rw [Ke];intro j hj;exact hgm j (by simpa using hj)
  unfold Xy
  rw [e1,e2,decide_eq_true (p:=0<=t.num/\_) (by simp at a2;omega),decide_eq_true (p:=1<=t.N/\_) (by omega),decide_eq_true (p:=1<=t.M/\_) (by omega)]
  simp
 ·exact absurd (Z5C m hgm).1 a7
 ·unfold Xy
  have:(List.range t.M).all (fun i=>ZD (t.outs i))=false:=by
   rw [List.all_eq_false];exact ⟨m,by simpa using hr.1,by simp [hr.2]⟩
  rw [this];simp
 ·unfold Xy
  have:(List.range t.N).all (okI t)=false:=by
   rw [List.all_eq_false];exact ⟨i,by simpa using hq.1,by simp [hq.2]⟩
  rw [this];simp
 ·unfold Xy;rw [decide_eq_false (p:=0<=t.num/\_) (by omega)];simp
theorem Z0a {g:Nat->InS} {x:InS} {j:Nat}:sameAt g x j=true↔(g j).name=x.name/\(g j).index=x.index:=by
 unfold sameAt US;simp
theorem Z3m {N:Nat} {g:Nat->InS} {i:Nat} (hi:i<N):UT N g (g i)=true↔∃j,j<N/\j≠i/\sameAt g (g i) j=true:=by
 have hself:sameAt g (g i) i=true:=Z0a.2 ⟨rfl,rfl⟩
 unfold UT
 rcases Vk (sameAt g (g i)) N with ⟨_,hn⟩|⟨f,hf,ef,pf,hb⟩
 ·rw [hn i hi] at hself;cases hself
 rcases Vk (sameAt (Z06 N g) (g i)) N with ⟨_,hn⟩|⟨l,hl,el,pl,hb'⟩
 ·have:=hn (N-1-i) (by omega)
  have e:sameAt (Z06 N g) (g i) (N-1-i)=sameAt g (g i) i:=by unfold sameAt Z06;congr 1;congr 1;omega
  rw [e,hself] at this;cases this
 have er:∀q,q<N->sameAt (Z06 N g) (g i) q=sameAt g (g i) (N-1-q):=fun q _=>rfl
 rw [er l hl] at pl
 rw [ef,el,bne_iff_ne]
 have hfi:f<=i:=by
  rcases J9 i f with h|h
  ·rw [hb i h] at hself;cases hself
  ·exact h
 have hli:i<=N-1-l:=by
  rcases J9 (N-1-i) l with h|h
  ·have:=hb' _ h
   rw [er _ (by omega),show N-1-(N-1-i)=i by omega,hself] at this;cases this
  ·omega
 constructor
 ·intro h
  rcases J9 f i with h1|h1
  ·exact ⟨f,hf,by omega,pf⟩
  ·exact ⟨N-1-l,by omega,by omega,pl⟩
 ·rintro ⟨j,hj,hne,pj⟩ h
  rcases J9 j f with h1|h1
  ·rw [hb j h1] at pj;cases pj
  ·have:=hb' (N-1-j) (by omega)
   rw [er _ (by omega),show N-1-(N-1-j)=j by omega,pj] at this;cases this
theorem Z4G {t:TxS} (h:∀j,j<t.M->ZD (t.outs j)=true):allIn 1125899906842624 (amL t.outs t.M)=true:=by
 unfold allIn
 rw [J6,JY]
 intro j hj
 have hj:j<t.M:=by simpa [Z0C] using hj
 have:=(Xn (h j hj)).2.1
 have e:(amL t.outs t.M).getD j 0=(t.outs j).amount:=by simp [amL,J2,hj]
 unfold Yy
 rw [e]
 unfold Uh
 simp
 omega
theorem Z4H (t:TxS):Xy t=Yf ZB t:=by
 rw [Bool.eq_iff_iff]
 unfold Xy Yf
 simp only [J3,decide_eq_true_eq,Ke,Jz,J6,JY,beq_iff_eq]
 constructor
 ·rintro ⟨⟨⟨⟨⟨h1,h2⟩,h3⟩,h4⟩,h5⟩,h6⟩
  refine ⟨⟨⟨⟨⟨h1,h2⟩,h3⟩,fun i hi=> ?_⟩,fun i hi=> ?_⟩, ?_⟩
  ·have h:=h4 i hi
   unfold okI at h
   simp only [J3,J6,JY,Jz] at h
   unfold YV Ua
   rw [h.1,Kx,Bool.false_or]
   intro hq
   obtain ⟨j,hj,hne,hs⟩:=(Z3m hi).1 hq
   rcases Nat.lt_or_gt_of_ne hne with h0|h0
   ·exact h.2 j h0 hs
   ·have h':=h4 j hj
    unfold okI at h'
    simp only [J3,J6,JY,Jz] at h'
    refine h'.2 i h0 ?_
    rw [Z0a] at hs⊢
    exact ⟨hs.1.symm,hs.2.symm⟩
  ·unfold Yx Z07
   rw [h5 i hi]
   decide
  ·unfold ZB
   unfold VA at h6;rw [if_pos (Z4G h5),if_pos h6]
 ·rintro ⟨⟨⟨⟨⟨h1,h2⟩,h3⟩,h4⟩,h5⟩,h6⟩
  have h5':∀j,j<t.M->ZD (t.outs j)=true:=fun j hj=>by
   have:=h5 j hj
   unfold Yx Z07 at this
   simpa using this
  refine ⟨⟨⟨⟨⟨h1,h2⟩,h3⟩,fun i hi=> ?_⟩,h5'⟩, ?_⟩
  ·have h:=h4 i hi
   unfold YV Ua at h
   simp only [JR,not_or,J6,Bool.not_eq_false,Bool.not_eq_true] at h
   unfold okI
   rw [h.1,JO]
   simp only [J6,JY,Jz]
   intro j hj hs
   have:=(Z3m hi).2 ⟨j,by omega,by omega,hs⟩
   rw [h.2] at this;cases this
  ·unfold ZB at h6
   rw [if_pos (Z4G h5')] at h6
   split at h6
   ·assumption
   ·cases h6
def Z8x (A:List Int->Int×Int):ZH:=fun args h K=>ZA none h true 20 args fun a=>match a with
 | [.agg l]=>∃t,Z08 l t/\t.Ok/\TxB t/\K (.bool (Yf A t))
 | _=>False
theorem ZaW (args:List AV) (h:Z8) (K:AV->Prop) (hl:Z8x ZB args h K):Ze PP 203 args h fun o h'=>∃v,o=.ret v/\h'=h/\K v:=by
 refine Zs.psumm (d:=20) (Zk _ _ _ _ _ hl fun a ha=> ?_)
 split at ha
 ·obtain ⟨t,h1,h2,h3,hK⟩:=ha
  refine ⟨_,(Zs.ev (ZfN t) (Zn0 t _ h2 h3 rfl)).conv fun E r hr=>hr.head (fun _ hc=>h1.rel hc) (fun _ hc=>hc),fun _=>rfl, ?_⟩
  rw [Z4H]
  exact hK
 ·exact ha.elim
def smH (a b:TxS):Z8:=⟨2,[(0,.flat a.c),(1,.flat b.c)]⟩
def smP (l:ZW):ZW:=l++[(2,.ptr (some ⟨0,0,0,0,0⟩)),(3,.ptr (some ⟨1,0,0,0,0⟩))]
def ZfO (a b:TxS) (i:Nat):St:=⟨66,smP [(5,.int .i64 i)],smH a b,[]⟩
def ZfP (a b:TxS) (i:Nat):St:=⟨66,smP [(6,.int .i64 i)],smH a b,[]⟩
def smE (a b:TxS):St:=⟨66,smP [],smH a b,[]⟩
def smR (a b:TxS):St:=⟨66,smP [(4,.bool false)],smH a b,[]⟩
theorem Zn1 (a b:TxS) (i:Nat) (Z1 Z2 Z3:Prop) (ha:a.Ok) (hb:b.Ok) (hN:a.N=b.N) (hi:i<=a.N) (h1:i<a.N->Z1N (a.ins i) (b.ins i)=true->Z1) (h2:i=a.N->Z2) (h3:i<a.N->Z1N (a.ins i) (b.ins i)=false->Z3):
  ZC G0 20 59 0 0 (ZfO a b i) (rdM 0 0 9 (ZfO a b (i+1)) (smE a b) (smR a b) (smR a b) Z1 Z2 Z3 False):=by
 refine @Eq.mpr _ (let q1:=a.N;let q2:=b.N;let q3:=a.ins (Int.toNat (↑i:Int));let q4:=q3.name;let q5:=b.ins (Int.toNat (↑i:Int));let q6:=q5.name;let q7:=q3.tag;let q8:=q5.tag;let q9:=q3.also;let q10:=q5.also;let q11:=q3.secret;let q12:=q5.secret;let q13:=decide (a.num=a.num);let q14:=decide (q1=q1);let q15:=Zg a.ins;let q16:=q15=q15;let q17:=decide (a.M=a.M);let q18:=Zf a.outs;let q19:=q18=q18;let q20:=decide (b.num=b.num);let q21:=decide (q2=q2);let q22:=Zg b.ins;let q23:=q22=q22;let q24:=decide (b.M=b.M);let q25:=Zf b.outs;let q26:=q25=q25;
 Z7 (decide ((↑i:Int)<(↑q1:Int))) (Z6 (0<=(↑i:Int)/\(↑i:Int)<(↑q1:Int)) (Z6 (0<=(↑i:Int)/\(↑i:Int)<(↑q2:Int)) (Z6 (List.length q4=32/\List.length q6=32) (Z6 (List.length q7=32/\List.length q8=32) (Z6 (List.length q9=32/\List.length q10=32) (Z6 (List.length q11=32/\List.length q12=32) (Z7 (!(q4==q6&&(q3.index==q5.index&&(q3.way==q5.way&&(q7==q8&&(q9==q10&&q11==q12)))))) (Z0 q13 (Z0 q14 (q16/\Z0 q14 (Z0 q17 (q19/\Z0 q17 (Z0 q20 (Z0 q21 (q23/\Z0 q21 (Z0 q24 (q26/\Z0 q24 Z3)))))))))) (Z6 (wrap i64 ((↑i:Int)+1)=(↑(i+1):Int)) (Z0 q13 (Z0 q14 (q16/\Z0 q14 (Z0 q17 (q19/\Z0 q17 (Z0 q20 (Z0 q21 (q23/\Z0 q21 (Z0 q24 (q26/\Z0 q24 Z1)))))))))))))))))) (Z0 q13 (Z0 q14 (q16/\Z0 q14 (Z0 q17 (q19/\Z0 q17 (Z0 q20 (Z0 q21 (q23/\Z0 q21 (Z0 q24 (q26/\Z0 q24 Z2))))))))))) (by kernel_rfl) ?_
 conv=>zeta
 try simp only [vcA]
 try simp only [vcB]
 try simp only [vcC]
 refine ⟨fun hlt=> ?_,fun hge=>h2 (by omega)⟩
 have hlt:i<a.N:=by omega
 have h1:=h1 hlt
 have h3:=h3 hlt
 obtain ⟨e1,e2,e3,e4⟩:=ha.ins i hlt
 obtain ⟨d1,d2,d3,d4⟩:=hb.ins i (by omega)
 have hN0:=ha.n
 refine ⟨by omega,by omega,⟨e1,d1⟩,⟨e2,d2⟩,⟨e3,d3⟩,⟨e4,d4⟩,fun q=>h3 ?_,fun q=>⟨w64 (by omega),h1 ?_⟩⟩
 ·unfold Z1N
  rw [J6] at q
  simp only [Bool.and_assoc]
  exact q
 ·unfold Z1N
  rw [Ja] at q
  simp only [Bool.and_assoc]
  exact q
theorem Zn2 (a b:TxS) (i:Nat) (Z1 Z2 Z3:Prop) (ha:a.Ok) (hb:b.Ok) (hN:a.M=b.M) (hi:i<=a.M) (h1:i<a.M->Ui (a.outs i) (b.outs i)=true->Z1) (h2:i=a.M->Z2) (h3:i<a.M->Ui (a.outs i) (b.outs i)=false->Z3):
  ZC G0 20 59 2 0 (ZfP a b i) (rdM 0 2 9 (ZfP a b (i+1)) (smE a b) (smR a b) (smR a b) Z1 Z2 Z3 False):=by
 refine @Eq.mpr _ (let q1:=a.M;let q2:=b.M;let q3:=a.outs (Int.toNat (↑i:Int));let q4:=q3.owner;let q5:=b.outs (Int.toNat (↑i:Int));let q6:=q5.owner;let q7:=q3.other;let q8:=q5.other;let q9:=q3.point;let q10:=q5.point;let q11:=q3.hash;let q12:=q5.hash;let q13:=decide (a.num=a.num);let q14:=decide (a.N=a.N);let q15:=Zg a.ins;let q16:=q15=q15;let q17:=decide (q1=q1);let q18:=Zf a.outs;let q19:=q18=q18;let q20:=decide (b.num=b.num);let q21:=decide (b.N=b.N);let q22:=Zg b.ins;let q23:=q22=q22;let q24:=decide (q2=q2);let q25:=Zf b.outs;let q26:=q25=q25;
 Z7 (decide ((↑i:Int)<(↑q1:Int))) (Z6 (0<=(↑i:Int)/\(↑i:Int)<(↑q1:Int)) (Z6 (0<=(↑i:Int)/\(↑i:Int)<(↑q2:Int)) (Z6 (List.length q4=32/\List.length q6=32) (Z6 (List.length q7=32/\List.length q8=32) (Z6 (List.length q9=32/\List.length q10=32) (Z6 (List.length q11=32/\List.length q12=32) (Z7 (!(q3.kind==q5.kind&&(q3.amount==q5.amount&&(q4==q6&&(q7==q8&&(q9==q10&&(q11==q12&&(q3.delay==q5.delay&&q3.expiry==q5.expiry)))))))) (Z0 q13 (Z0 q14 (q16/\Z0 q14 (Z0 q17 (q19/\Z0 q17 (Z0 q20 (Z0 q21 (q23/\Z0 q21 (Z0 q24 (q26/\Z0 q24 Z3)))))))))) (Z6 (wrap i64 ((↑i:Int)+1)=(↑(i+1):Int)) (Z0 q13 (Z0 q14 (q16/\Z0 q14 (Z0 q17 (q19/\Z0 q17 (Z0 q20 (Z0 q21 (q23/\Z0 q21 (Z0 q24 (q26/\Z0 q24 Z1)))))))))))))))))) (Z0 q13 (Z0 q14 (q16/\Z0 q14 (Z0 q17 (q19/\Z0 q17 (Z0 q20 (Z0 q21 (q23/\Z0 q21 (Z0 q24 (q26/\Z0 q24 Z2))))))))))) (by kernel_rfl) ?_
 conv=>zeta
 try simp only [vcA]
 try simp only [vcB]
 try simp only [vcC]
 refine ⟨fun hlt=> ?_,fun hge=>h2 (by omega)⟩
 have hlt:i<a.M:=by omega
 have h1:=h1 hlt
 have h3:=h3 hlt
 obtain ⟨e1,e2,e3,e4⟩:=ha.outs i hlt
 obtain ⟨d1,d2,d3,d4⟩:=hb.outs i (by omega)
 have hN0:=ha.m
 refine ⟨by omega,by omega,⟨e1,d1⟩,⟨e2,d2⟩,⟨e3,d3⟩,⟨e4,d4⟩,fun q=>h3 ?_,fun q=>⟨w64 (by omega),h1 ?_⟩⟩
 ·unfold Ui
  rw [J6] at q
  simp only [Bool.and_assoc]
  exact q
 ·unfold Ui
  rw [Ja] at q
  simp only [Bool.and_assoc]
  exact q
def ZkR (a b:TxS):Nat->St->KE->Prop:=goM 0 (ZfO a b 0) (a.Ok/\b.Ok/\a.N=b.N) (Yu 0 a.N 9 (fun i=>Z1N (a.ins i) (b.ins i)=true) (fun i=>i=a.N) (fun i=>i<a.N/\Z1N (a.ins i) (b.ins i)=false) (fun _=>False) (fun _=>smE a b) (fun _=>smR a b) (fun _=>smR a b))
def ZkS (a b:TxS):Nat->St->KE->Prop:=goM 0 (ZfP a b 0) (a.Ok/\b.Ok/\a.M=b.M) (Yu 2 a.M 9 (fun i=>Ui (a.outs i) (b.outs i)=true) (fun i=>i=a.M) (fun i=>i<a.M/\Ui (a.outs i) (b.outs i)=false) (fun _=>False) (fun _=>smE a b) (fun _=>smR a b) (fun _=>smR a b))
noncomputable def E40 (a b:TxS):Zd:=(G0.withL 59 0 (ZkR a b)).withL 59 2 (ZkS a b)
theorem Ziy (a b:TxS):(E40 a b).Ok:=by
 have h1:(G0.withL 59 0 (ZkR a b)).Ok:=Zd.withGoM (N:=20) (S:=ZfO a b) Zm (by kernel_rfl) fun hC=>⟨rfl,fun i hi hgo=>Zn1 a b i _ _ _ hC.1 hC.2.1 hC.2.2 hi (fun h1 h2=>⟨h2,h1⟩) (fun h=>h) (fun h1 h2=>⟨h1,h2⟩)⟩
 have h2:(G0.withL 59 2 (ZkS a b)).Ok:=Zd.withGoM (N:=20) (S:=ZfP a b) Zm (by kernel_rfl) fun hC=>⟨rfl,fun i hi hgo=>Zn2 a b i _ _ _ hC.1 hC.2.1 hC.2.2 hi (fun h1 h2=>⟨h2,h1⟩) (fun h=>h) (fun h1 h2=>⟨h1,h2⟩)⟩
 exact Zd.withL_join (H:=G0) h1 rfl h2
theorem Zn3 (a b:TxS) (F:Bool) (ha:a.Ok) (hb:b.Ok) (hF:F=Vm a b):
  evF (E40 a b) 20 59 [.agg a.c,.agg b.c] ⟨0,[]⟩ (Yq 0 [] (.bool F) 0 []):=by
 refine @Eq.mpr _ (let q1:=a.num;let q2:=b.num;let q3:=Z6 (false=F) True;let q4:=a.N;let q5:=b.N;let q6:=a.M;let q7:=b.M;let q8:=decide (q1=q1);let q9:=decide (q4=q4);let q10:=Zg a.ins;let q11:=q10=q10;let q12:=decide (q6=q6);let q13:=Zf a.outs;let q14:=q13=q13;let q15:=decide (q2=q2);let q16:=decide (q5=q5);let q17:=Zg b.ins;let q18:=q17=q17;let q19:=decide (q7=q7);let q20:=Zf b.outs;let q21:=q20=q20;
 Z7 (q1 !=q2) q3 (Z7 ((↑q4:Int) !=(↑q5:Int)) q3 (Z7 ((↑q6:Int) !=(↑q7:Int)) q3 (Z0 q8 (Z0 q9 (q11/\Z0 q9 (Z0 q12 (q14/\Z0 q12 (Z0 q15 (Z0 q16 (q18/\Z0 q16 (Z0 q19 (q21/\Z0 q19 ((TxS.Ok a/\TxS.Ok b/\q4=q5)/\∀(i:Nat),i<=q4->(∀(j:Nat),j<i->(fun (i:Nat)=>Z1N (a.ins i) (b.ins i)=true) j)->(i=q4->Z0 q8 (Z0 q9 (q11/\Z0 q9 (Z0 q12 (q14/\Z0 q12 (Z0 q15 (Z0 q16 (q18/\Z0 q16 (Z0 q19 (q21/\Z0 q19 ((TxS.Ok a/\TxS.Ok b/\q6=q7)/\∀(i:Nat),i<=q6->(∀(j:Nat),j<i->(fun (i:Nat)=>Ui (a.outs i) (b.outs i)=true) j)->(i=q6->Z6 (true=F) True)/\(i<q6/\Ui (a.outs i) (b.outs i)=false->q3)/\(False->False))))))))))))/\(i<q4/\Z1N (a.ins i) (b.ins i)=false->q3)/\(False->False))))))))))))))) (by kernel_rfl) ?_
 conv=>zeta
 try simp only [vcA]
 try simp only [vcB]
 try simp only [vcC]
 have hn:a.num≠b.num->false=Vm a b:=fun h=>by
  unfold Vm;rw [beq_eq_false_iff_ne.2 h];rfl
 have hi:Z8s a.N a.ins b.N b.ins=false->false=Vm a b:=fun h=>by
  unfold Vm;rw [h,KC,Ko]
 have ho:ZaT a.M a.outs b.M b.outs=false->false=Vm a b:=fun h=>by
  unfold Vm;rw [h,Ko,Ko]
 subst hF
 refine ⟨fun h=>hn (by simpa using h),fun h0=>⟨fun h=>hi ?_,fun h1=>⟨fun h=>ho ?_,fun h2=> ?_⟩⟩⟩
 ·have h:a.N≠b.N:=fun e=>by rw [e] at h;simp at h
  unfold Z8s;rw [decide_eq_false h,KC]
 ·have h:a.M≠b.M:=fun e=>by rw [e] at h;simp at h
  unfold ZaT;rw [decide_eq_false h,KC]
 have h0:a.num=b.num:=by simpa using h0
 have h1:a.N=b.N:=by
  have:(a.N:Int)=b.N:=by simpa using h1
  omega
 have h2:a.M=b.M:=by
  have:(a.M:Int)=b.M:=by simpa using h2
  omega
 refine ⟨⟨ha,hb,h1⟩,fun i hi' hgo=>⟨fun hx=>⟨⟨ha,hb,h2⟩,fun k hk hgo2=>⟨fun hx2=> ?_,fun hx2=>ho ?_,fun h=>h⟩⟩,fun hx=>hi ?_,fun h=>h⟩⟩
 ·subst hx hx2
  have e1:(List.range a.N).all (fun i=>Z1N (a.ins i) (b.ins i))=true:=by
   rw [Ke];intro j hj;exact hgo j (by simpa using hj)
  have e2:(List.range a.M).all (fun i=>Ui (a.outs i) (b.outs i))=true:=by
   rw [Ke];intro j hj;exact hgo2 j (by simpa using hj)
  unfold Vm Z8s ZaT
  rw [e1,e2,decide_eq_true h1,decide_eq_true h2,h0,beq_self_eq_true];rfl
 ·have e2:(List.range a.M).all (fun i=>Ui (a.outs i) (b.outs i))=false:=by
   rw [List.all_eq_false];exact ⟨k,by simpa using hx2.1,by simp [hx2.2]⟩
  unfold ZaT;rw [e2,Ko]
 ·have e1:(List.range a.N).all (fun i=>Z1N (a.ins i) (b.ins i))=false:=by
   rw [List.all_eq_false];exact ⟨i,by simpa using hx.1,by simp [hx.2]⟩
  unfold Z8s;rw [e1,Ko]
theorem Zda (args:List AV) (h:Z8) (K:AV->Prop) (hl:Zd4 Vm args h K):Ze PP 59 args h fun o h'=>∃v,o=.ret v/\h'=h/\K v:=by
 refine Zs.psumm (d:=20) (Zk _ _ _ _ _ hl fun a ha=> ?_)
 split at ha
 ·obtain ⟨a,b,h1,h2,⟨h3,h4⟩,hK⟩:=ha
  exact ⟨_,(Zs.ev (Ziy a b) (Zn3 a b _ h3 h4 rfl)).conv fun E r hr=>hr.head (fun _ hc=>h1.rel hc) (fun _ hc=>hc.head (fun _ hc=>h2.rel hc) (fun _ hc=>hc)),fun _=>rfl,hK⟩
 ·exact ha.elim
noncomputable def E44 (W:Int->List Int):Zd:=G0.withF 137 (Z9D W)
theorem Zdb:(E44 Zu).Ok:=Zd.withF_ok Zm Z6R
def rbS (t:TxS) (core:Bool) (i:Nat) (xs:List Int) (n:Nat):St:=⟨133,[(6,.int .i64 i),(2,.ptr (some ⟨0,0,0,0,0⟩)),(5,.nslice ⟨4,0,0,0,0⟩ 1 n n),(1,.bool core)],⟨5,[(4,.ints .u8 xs),(0,.flat t.c)]⟩,[]⟩
def rbR (t:TxS) (xs:List Int) (n:Nat):St:=⟨133,[(2,.ptr (some ⟨0,0,0,0,0⟩)),(5,.nslice ⟨4,0,0,0,0⟩ 1 n n)],⟨5,[(4,.ints .u8 xs),(0,.flat t.c)]⟩,[]⟩
def Zdc (t:TxS) (i:Nat) (xs:List Int) (n:Nat):St:=⟨133,[(9,.int .i64 i),(2,.ptr (some ⟨0,0,0,0,0⟩)),(5,.nslice ⟨4,0,0,0,0⟩ 1 n n)],⟨5,[(4,.ints .u8 xs),(0,.flat t.c)]⟩,[]⟩
theorem Vn (xs:List Int):List.take xs.length (Y0 0 xs)=xs:=by rw [Yk,Kn,JE]
theorem ZkT (W:Int->List Int) (t:TxS) (i:Nat) (xs ys:List Int) (n m:Nat) (Z1 Z2:Prop) (ht:t.Ok) (hi:i<=t.N) (hr:∀j,j<t.N->Y3 (t.ins j)=true) (hW:W=Zu) (hn:xs.length=n) (hs:n<10000000000000) (hy:ys=xs++inW W true (t.ins i)) (hm:ys.length=m) (h1:i<t.N->Z1) (h2:i=t.N->Z2):
  ZC (E44 W) 20 207 0 0 (rbS t true i xs n) (rdM 0 0 9 (rbS t true (i+1) ys m) (rbR t xs n) (rbR t xs n) (rbR t xs n) Z1 Z2 False False):=by
 refine @Eq.mpr _ (let q1:=t.N;let q2:=t.ins (Int.toNat (↑i:Int));let q3:=q2.name;let q4:=xs++q3;let q5:=List.length q4;let q6:=q2.index;let q7:=W q6;let q8:=List.length q7;let q9:=q4++List.take q8 (Y0 0 q7);let q10:=List.length q9;let q11:=decide (t.num=t.num);let q12:=decide (q1=q1);let q13:=Zg t.ins;let q14:=q13=q13;let q15:=decide (t.M=t.M);let q16:=Zf t.outs;let q17:=q16=q16;
 Z7 (decide ((↑i:Int)<(↑q1:Int))) (Z6 (0<=(↑i:Int)/\(↑i:Int)<(↑q1:Int)) (Z6 (u8=u8/\List.length q3=32) (Z6 (u8=u8/\List.length xs=n) (Z6 (q5*1<=140737488355328) (Z6 (q6=q6) (Z6 (0<=q6) (Z6 (u8=u8/\0+q8<=q8) (Z6 (u8=u8/\q5=q5) (Z6 (q10*1<=140737488355328) (Z6 (wrap i64 ((↑i:Int)+1)=(↑(i+1):Int)) (Z6 (q10=m) (Z6 (m<=q10) (q9=ys/\Z0 q11 (Z0 q12 (q14/\Z0 q12 (Z0 q15 (q17/\Z0 q15 Z1))))))))))))))))) (Z6 (n=n) (Z6 (n<=n) (xs=xs/\Z0 q11 (Z0 q12 (q14/\Z0 q12 (Z0 q15 (q17/\Z0 q15 Z2)))))))) (by kernel_rfl) ?_
 conv=>zeta
 try simp only [vcA]
 try simp only [vcB]
 try simp only [vcC]
 refine ⟨fun hlt=> ?_,fun hge=>h2 (by omega)⟩
 obtain ⟨⟨w1,w2⟩,w3,w4⟩:=Vl (hr i (by omega))
 obtain ⟨l1,l2,l3,l4⟩:=ht.ins i (by omega)
 have hw:=h1 (by omega)
 have hnn:=ht.n
 have hwr:i64.wrap ((i:Int)+1)=((i+1:Nat):Int):=w64 (by omega)
 have u1:=ZI (t.ins i).index
 have u2:=ZI (t.ins i).way
 subst hW
 rw [hwr]
 unfold inW at hy
 generalize t.ins i=x at*
 simp only [J7,Vn]
 repeat' (first|(refine Jc ?_ ?_)|intro _)
 all_goals (try simp only [beq_iff_eq,bne_iff_ne,ne_eq,beq_eq_false_iff_ne,bne_eq_false_iff_eq] at*)
 all_goals first|omega|assumption|trivial|skip
 all_goals first|(rw [hy];simp [*];done)|(rw [<-hm,hy];simp [*];try omega;done)|skip
theorem ZkU (W:Int->List Int) (t:TxS) (i:Nat) (xs ys:List Int) (n m:Nat) (Z1 Z2:Prop) (ht:t.Ok) (hi:i<=t.N) (hr:∀j,j<t.N->Y3 (t.ins j)=true) (hW:W=Zu) (hn:xs.length=n) (hs:n<10000000000000) (hy:ys=xs++inW W false (t.ins i)) (hm:ys.length=m) (h1:i<t.N->Z1) (h2:i=t.N->Z2):
  ZC (E44 W) 20 207 0 0 (rbS t false i xs n) (rdM 0 0 9 (rbS t false (i+1) ys m) (rbR t xs n) (rbR t xs n) (rbR t xs n) Z1 Z2 False False):=by
 refine @Eq.mpr _ (let q1:=t.N;let q2:=t.ins (Int.toNat (↑i:Int));let q3:=q2.name;let q4:=xs++q3;let q5:=List.length q4;let q6:=q2.index;let q7:=W q6;let q8:=List.length q7;let q9:=q4++List.take q8 (Y0 0 q7);let q10:=List.length q9;let q11:=q2.way;let q12:=W q11;let q13:=List.length q12;let q14:=q9++List.take q13 (Y0 0 q12);let q15:=List.length q14;let q16:=q2.tag;let q17:=decide (u8=u8/\q15=q15);let q18:=q14++q16;let q19:=List.length q18;let q20:=q11==1;let q21:=q2.also;let q22:=decide (u8=u8/\List.length q21=32);let q23:=decide (u8=u8/\q19=q19);let q24:=q18++q21;let q25:=List.length q24;let q26:=q11==4;let q27:=q2.secret;let q28:=decide (u8=u8/\List.length q27=32);let q29:=q24++q27;let q30:=List.length q29;let q31:=decide (wrap i64 ((↑i:Int)+1)=(↑(i+1):Int));let q32:=decide (t.num=t.num);let q33:=decide (q1=q1);let q34:=Zg t.ins;let q35:=q34=q34;let q36:=decide (t.M=t.M);let q37:=Zf t.outs;let q38:=q37=q37;let q39:=Z0 q32 (Z0 q33 (q35/\Z0 q33 (Z0 q36 (q38/\Z0 q36 Z1))));let q40:=Z0 q28 (Z6 (u8=u8/\q25=q25) (Z6 (q30*1<=140737488355328) (Z0 q31 (Z6 (q30=m) (Z6 (m<=q30) (q29=ys/\q39))))));let q41:=q11==5;let q42:=q18++q27;let q43:=List.length q42;let q44:=Z0 q28 (Z0 q23 (Z6 (q43*1<=140737488355328) (Z0 q31 (Z6 (q43=m) (Z6 (m<=q43) (q42=ys/\q39))))));let q45:=q14++q21;let q46:=List.length q45;let q47:=q45++q27;let q48:=List.length q47;let q49:=Z0 q28 (Z6 (u8=u8/\q46=q46) (Z6 (q48*1<=140737488355328) (Z0 q31 (Z6 (q48=m) (Z6 (m<=q48) (q47=ys/\q39))))));let q50:=q14++q27;let q51:=List.length q50;let q52:=Z0 q28 (Z0 q17 (Z6 (q51*1<=140737488355328) (Z0 q31 (Z6 (q51=m) (Z6 (m<=q51) (q50=ys/\q39))))));
 Z7 (decide ((↑i:Int)<(↑q1:Int))) (Z6 (0<=(↑i:Int)/\(↑i:Int)<(↑q1:Int)) (Z6 (u8=u8/\List.length q3=32) (Z6 (u8=u8/\List.length xs=n) (Z6 (q5*1<=140737488355328) (Z6 (q6=q6) (Z6 (0<=q6) (Z6 (u8=u8/\0+q8<=q8) (Z6 (u8=u8/\q5=q5) (Z6 (q10*1<=140737488355328) (Z6 (0<=q11) (Z6 (u8=u8/\0+q13<=q13) (Z6 (u8=u8/\q10=q10) (Z6 (q15*1<=140737488355328) (Z7 (q11 !=4) (Z6 (u8=u8/\List.length q16=32) (Z0 q17 (Z6 (q19*1<=140737488355328) (Z7 q20 (Z0 q22 (Z0 q23 (Z6 (q25*1<=140737488355328) (Z7 q26 q40 (Z7 q41 q40 (Z0 q31 (Z6 (q25=m) (Z6 (m<=q25) (q24=ys/\q39))))))))) (Z7 q26 q44 (Z7 q41 q44 (Z0 q31 (Z6 (q19=m) (Z6 (m<=q19) (q18=ys/\q39)))))))))) (Z7 q20 (Z0 q22 (Z0 q17 (Z6 (q46*1<=140737488355328) (Z7 q26 q49 (Z7 q41 q49 (Z0 q31 (Z6 (q46=m) (Z6 (m<=q46) (q45=ys/\q39))))))))) (Z7 q26 q52 (Z7 q41 q52 (Z0 q31 (Z6 (q15=m) (Z6 (m<=q15) (q14=ys/\q39))))))))))))))))))))) (Z6 (n=n) (Z6 (n<=n) (xs=xs/\Z0 q32 (Z0 q33 (q35/\Z0 q33 (Z0 q36 (q38/\Z0 q36 Z2)))))))) (by kernel_rfl) ?_
 conv=>zeta
 try simp only [vcA]
 try simp only [vcB]
 try simp only [vcC]
 refine ⟨fun hlt=> ?_,fun hge=>h2 (by omega)⟩
 obtain ⟨⟨w1,w2⟩,w3,w4⟩:=Vl (hr i (by omega))
 obtain ⟨l1,l2,l3,l4⟩:=ht.ins i (by omega)
 have hw:=h1 (by omega)
 have hnn:=ht.n
 have hwr:i64.wrap ((i:Int)+1)=((i+1:Nat):Int):=w64 (by omega)
 have u1:=ZI (t.ins i).index
 have u2:=ZI (t.ins i).way
 subst hW
 rw [hwr]
 unfold inW at hy
 generalize t.ins i=x at*
 simp only [J7,Vn]
 repeat' (first|(refine Jc ?_ ?_)|intro _)
 all_goals (try simp only [beq_iff_eq,bne_iff_ne,ne_eq,beq_eq_false_iff_ne,bne_eq_false_iff_eq] at*)
 all_goals first|omega|assumption|trivial|skip
 all_goals first|(rw [hy];simp [*];done)|(rw [<-hm,hy];simp [*];try omega;done)|skip
theorem ZkV (W:Int->List Int) (t:TxS) (i:Nat) (xs ys:List Int) (n m:Nat) (Z1 Z2:Prop) (ht:t.Ok) (hi:i<=t.M) (hr:∀j,j<t.M->ZD (t.outs j)=true) (hW:W=Zu) (hn:xs.length=n) (hs:n<10000000000000) (hy:ys=xs++Z3k W (t.outs i)) (hm:ys.length=m) (h1:i<t.M->Z1) (h2:i=t.M->Z2):
  ZC (E44 W) 20 207 2 0 (Zdc t i xs n) (rdM 0 2 9 (Zdc t (i+1) ys m) (rbR t xs n) (rbR t xs n) (rbR t xs n) Z1 Z2 False False):=by
 refine @Eq.mpr _ (let q1:=t.M;let q2:=t.outs (Int.toNat (↑i:Int));let q3:=q2.kind;let q4:=W q3;let q5:=List.length q4;let q6:=xs++List.take q5 (Y0 0 q4);let q7:=List.length q6;let q8:=q2.owner;let q9:=q8=q8;let q10:=q2.amount;let q11:=W q10;let q12:=List.length q11;let q13:=q6++List.take q12 (Y0 0 q11);let q14:=List.length q13;let q15:=q13++q8;let q16:=List.length q15;let q17:=q2.other;let q18:=decide (u8=u8/\List.length q17=32);let q19:=decide (u8=u8/\q16=q16);let q20:=q15++q17;let q21:=List.length q20;let q22:=decide (q21*1<=140737488355328);let q23:=decide (q3>=3);let q24:=q2.point;let q25:=decide (u8=u8/\List.length q24=32);let q26:=decide (u8=u8/\q21=q21);let q27:=q20++q24;let q28:=List.length q27;let q29:=decide (q28*1<=140737488355328);let q30:=decide (q3>=4);let q31:=q2.hash;let q32:=decide (u8=u8/\List.length q31=32);let q33:=decide (u8=u8/\q28=q28);let q34:=q27++q31;let q35:=List.length q34;let q36:=decide (q35*1<=140737488355328);let q37:=q2.delay;let q38:=decide (0<=q37);let q39:=W q37;let q40:=List.length q39;let q41:=decide (u8=u8/\q35=q35);let q42:=List.take q40 (Y0 0 q39);let q43:=q34++q42;let q44:=List.length q43;let q45:=q2.expiry;let q46:=decide (0<=q45);let q47:=W q45;let q48:=List.length q47;let q49:=List.take q48 (Y0 0 q47);let q50:=q43++q49;let q51:=List.length q50;let q52:=decide (wrap i64 ((↑i:Int)+1)=(↑(i+1):Int));let q53:=decide (t.num=t.num);let q54:=decide (t.N=t.N);let q55:=Zg t.ins;let q56:=q55=q55;let q57:=decide (q1=q1);let q58:=Zf t.outs;let q59:=q58=q58;let q60:=Z0 q53 (Z0 q54 (q56/\Z0 q54 (Z0 q57 (q59/\Z0 q57 Z1))));let q61:=q50=ys/\q60;let q62:=q43=ys/\q60;let q63:=q34++q49;let q64:=List.length q63;let q65:=q63=ys/\q60;let q66:=Z0 q52 (Z6 (q35=m) (Z6 (m<=q35) (q34=ys/\q60)));let q67:=q27++q42;let q68:=List.length q67;let q69:=q67++q49;let q70:=List.length q69;let q71:=q69=ys/\q60;let q72:=q67=ys/\q60;let q73:=q27++q49;let q74:=List.length q73;let q75:=q73=ys/\q60;let q76:=Z0 q52 (Z6 (q28=m) (Z6 (m<=q28) (q27=ys/\q60)));let q77:=q20++q31;let q78:=List.length q77;let q79:=decide (q78*1<=140737488355328);let q80:=decide (u8=u8/\q78=q78);let q81:=q77++q42;let q82:=List.length q81;let q83:=q81++q49;let q84:=List.length q83;let q85:=q83=ys/\q60;let q86:=q81=ys/\q60;let q87:=q77++q49;let q88:=List.length q87;let q89:=q87=ys/\q60;let q90:=Z0 q52 (Z6 (q78=m) (Z6 (m<=q78) (q77=ys/\q60)));let q91:=q20++q42;let q92:=List.length q91;let q93:=q91++q49;let q94:=List.length q93;let q95:=q93=ys/\q60;let q96:=q91=ys/\q60;let q97:=q20++q49;let q98:=List.length q97;let q99:=q97=ys/\q60;let q100:=Z0 q52 (Z6 (q21=m) (Z6 (m<=q21) (q20=ys/\q60)));let q101:=q15++q24;let q102:=List.length q101;let q103:=decide (u8=u8/\q102=q102);let q104:=q101++q31;let q105:=List.length q104;let q106:=decide (u8=u8/\q105=q105);let q107:=q104++q42;let q108:=List.length q107;let q109:=q107++q49;let q110:=List.length q109;let q111:=q104++q49;let q112:=List.length q111;let q113:=q101++q42;let q114:=List.length q113;let q115:=q113++q49;let q116:=List.length q115;let q117:=q101++q49;let q118:=List.length q117;let q119:=q15++q31;let q120:=List.length q119;let q121:=decide (u8=u8/\q120=q120);let q122:=q119++q42;let q123:=List.length q122;let q124:=q122++q49;let q125:=List.length q124;let q126:=q119++q49;let q127:=List.length q126;let q128:=q15++q42;let q129:=List.length q128;let q130:=q128++q49;let q131:=List.length q130;let q132:=q15++q49;let q133:=List.length q132;
 Z7 (decide ((↑i:Int)<(↑q1:Int))) (Z6 (0<=(↑i:Int)/\(↑i:Int)<(↑q1:Int)) (Z6 (0<=q3) (Z6 (u8=u8/\0+q5<=q5) (Z6 (u8=u8/\List.length xs=n) (Z6 (q7*1<=140737488355328) (q9/\
 Z6 (q10=q10) (Z6 (0<=q10) (Z6 (u8=u8/\0+q12<=q12) (Z6 (u8=u8/\q7=q7) (Z6 (q14*1<=140737488355328) (q9/\
 Z6 (u8=u8/\List.length q8=32) (Z6 (u8=u8/\q14=q14) (Z6 (q16*1<=140737488355328) (Z7 (q3==2) (Z0 q18 (Z0 q19 (Z0 q22 (Z7 q23 (Z0 q25 (Z0 q26 (Z0 q29 (Z7 q30 (Z0 q32 (Z0 q33 (Z0 q36 (Z7 q23 (Z0 q38 (Z6 (u8=u8/\0+q40<=q40) (Z0 q41 (Z6 (q44*1<=140737488355328) (Z7 q30 (Z0 q46 (Z6 (u8=u8/\0+q48<=q48) (Z6 (u8=u8/\q44=q44) (Z6 (q51*1<=140737488355328) (Z0 q52 (Z6 (q51=m) (Z6 (m<=q51) q61))))))) (Z0 q52 (Z6 (q44=m) (Z6 (m<=q44) q62)))))))) (Z7 q30 (Z0 q46 (Z6 (u8=u8/\0+q48<=q48) (Z0 q41 (Z6 (q64*1<=140737488355328) (Z0 q52 (Z6 (q64=m) (Z6 (m<=q64) q65))))))) q66))))) (Z7 q23 (Z0 q38 (Z6 (u8=u8/\0+q40<=q40) (Z0 q33 (Z6 (q68*1<=140737488355328) (Z7 q30 (Z0 q46 (Z6 (u8=u8/\0+q48<=q48) (Z6 (u8=u8/\q68=q68) (Z6 (q70*1<=140737488355328) (Z0 q52 (Z6 (q70=m) (Z6 (m<=q70) q71))))))) (Z0 q52 (Z6 (q68=m) (Z6 (m<=q68) q72)))))))) (Z7 q30 (Z0 q46 (Z6 (u8=u8/\0+q48<=q48) (Z0 q33 (Z6 (q74*1<=140737488355328) (Z0 q52 (Z6 (q74=m) (Z6 (m<=q74) q75))))))) q76)))))) (Z7 q30 (Z0 q32 (Z0 q26 (Z0 q79 (Z7 q23 (Z0 q38 (Z6 (u8=u8/\0+q40<=q40) (Z0 q80 (Z6 (q82*1<=140737488355328) (Z7 q30 (Z0 q46 (Z6 (u8=u8/\0+q48<=q48) (Z6 (u8=u8/\q82=q82) (Z6 (q84*1<=140737488355328) (Z0 q52 (Z6 (q84=m) (Z6 (m<=q84) q85))))))) (Z0 q52 (Z6 (q82=m) (Z6 (m<=q82) q86)))))))) (Z7 q30 (Z0 q46 (Z6 (u8=u8/\0+q48<=q48) (Z0 q80 (Z6 (q88*1<=140737488355328) (Z0 q52 (Z6 (q88=m) (Z6 (m<=q88) q89))))))) q90))))) (Z7 q23 (Z0 q38 (Z6 (u8=u8/\0+q40<=q40) (Z0 q26 (Z6 (q92*1<=140737488355328) (Z7 q30 (Z0 q46 (Z6 (u8=u8/\0+q48<=q48) (Z6 (u8=u8/\q92=q92) (Z6 (q94*1<=140737488355328) (Z0 q52 (Z6 (q94=m) (Z6 (m<=q94) q95))))))) (Z0 q52 (Z6 (q92=m) (Z6 (m<=q92) q96)))))))) (Z7 q30 (Z0 q46 (Z6 (u8=u8/\0+q48<=q48) (Z0 q26 (Z6 (q98*1<=140737488355328) (Z0 q52 (Z6 (q98=m) (Z6 (m<=q98) q99))))))) q100))))))) (Z7 (q3==4) (Z0 q18 (Z0 q19 (Z0 q22 (Z7 q23 (Z0 q25 (Z0 q26 (Z0 q29 (Z7 q30 (Z0 q32 (Z0 q33 (Z0 q36 (Z7 q23 (Z0 q38 (Z6 (u8=u8/\0+q40<=q40) (Z0 q41 (Z6 (q44*1<=140737488355328) (Z7 q30 (Z0 q46 (Z6 (u8=u8/\0+q48<=q48) (Z6 (u8=u8/\q44=q44) (Z6 (q51*1<=140737488355328) (Z0 q52 (Z6 (q51=m) (Z6 (m<=q51) q61))))))) (Z0 q52 (Z6 (q44=m) (Z6 (m<=q44) q62)))))))) (Z7 q30 (Z0 q46 (Z6 (u8=u8/\0+q48<=q48) (Z0 q41 (Z6 (q64*1<=140737488355328) (Z0 q52 (Z6 (q64=m) (Z6 (m<=q64) q65))))))) q66))))) (Z7 q23 (Z0 q38 (Z6 (u8=u8/\0+q40<=q40) (Z0 q33 (Z6 (q68*1<=140737488355328) (Z7 q30 (Z0 q46 (Z6 (u8=u8/\0+q48<=q48) (Z6 (u8=u8/\q68=q68) (Z6 (q70*1<=140737488355328) (Z0 q52 (Z6 (q70=m) (Z6 (m<=q70) q71))))))) (Z0 q52 (Z6 (q68=m) (Z6 (m<=q68) q72)))))))) (Z7 q30 (Z0 q46 (Z6 (u8=u8/\0+q48<=q48) (Z0 q33 (Z6 (q74*1<=140737488355328) (Z0 q52 (Z6 (q74=m) (Z6 (m<=q74) q75))))))) q76)))))) (Z7 q30 (Z0 q32 (Z0 q26 (Z0 q79 (Z7 q23 (Z0 q38 (Z6 (u8=u8/\0+q40<=q40) (Z0 q80 (Z6 (q82*1<=140737488355328) (Z7 q30 (Z0 q46 (Z6 (u8=u8/\0+q48<=q48) (Z6 (u8=u8/\q82=q82) (Z6 (q84*1<=140737488355328) (Z0 q52 (Z6 (q84=m) (Z6 (m<=q84) q85))))))) (Z0 q52 (Z6 (q82=m) (Z6 (m<=q82) q86)))))))) (Z7 q30 (Z0 q46 (Z6 (u8=u8/\0+q48<=q48) (Z0 q80 (Z6 (q88*1<=140737488355328) (Z0 q52 (Z6 (q88=m) (Z6 (m<=q88) q89))))))) q90))))) (Z7 q23 (Z0 q38 (Z6 (u8=u8/\0+q40<=q40) (Z0 q26 (Z6 (q92*1<=140737488355328) (Z7 q30 (Z0 q46 (Z6 (u8=u8/\0+q48<=q48) (Z6 (u8=u8/\q92=q92) (Z6 (q94*1<=140737488355328) (Z0 q52 (Z6 (q94=m) (Z6 (m<=q94) q95))))))) (Z0 q52 (Z6 (q92=m) (Z6 (m<=q92) q96)))))))) (Z7 q30 (Z0 q46 (Z6 (u8=u8/\0+q48<=q48) (Z0 q26 (Z6 (q98*1<=140737488355328) (Z0 q52 (Z6 (q98=m) (Z6 (m<=q98) q99))))))) q100))))))) (Z7 (q3==5) (Z0 q18 (Z0 q19 (Z0 q22 (Z7 q23 (Z0 q25 (Z0 q26 (Z0 q29 (Z7 q30 (Z0 q32 (Z0 q33 (Z0 q36 (Z7 q23 (Z0 q38 (Z6 (u8=u8/\0+q40<=q40) (Z0 q41 (Z6 (q44*1<=140737488355328) (Z7 q30 (Z0 q46 (Z6 (u8=u8/\0+q48<=q48) (Z6 (u8=u8/\q44=q44) (Z6 (q51*1<=140737488355328) (Z0 q52 (Z6 (q51=m) (Z6 (m<=q51) q61))))))) (Z0 q52 (Z6 (q44=m) (Z6 (m<=q44) q62)))))))) (Z7 q30 (Z0 q46 (Z6 (u8=u8/\0+q48<=q48) (Z0 q41 (Z6 (q64*1<=140737488355328) (Z0 q52 (Z6 (q64=m) (Z6 (m<=q64) q65))))))) q66))))) (Z7 q23 (Z0 q38 (Z6 (u8=u8/\0+q40<=q40) (Z0 q33 (Z6 (q68*1<=140737488355328) (Z7 q30 (Z0 q46 (Z6 (u8=u8/\0+q48<=q48) (Z6 (u8=u8/\q68=q68) (Z6 (q70*1<=140737488355328) (Z0 q52 (Z6 (q70=m) (Z6 (m<=q70) q71))))))) (Z0 q52 (Z6 (q68=m) (Z6 (m<=q68) q72)))))))) (Z7 q30 (Z0 q46 (Z6 (u8=u8/\0+q48<=q48) (Z0 q33 (Z6 (q74*1<=140737488355328) (Z0 q52 (Z6 (q74=m) (Z6 (m<=q74) q75))))))) q76)))))) (Z7 q30 (Z0 q32 (Z0 q26 (Z0 q79 (Z7 q23 (Z0 q38 (Z6 (u8=u8/\0+q40<=q40) (Z0 q80 (Z6 (q82*1<=140737488355328) (Z7 q30 (Z0 q46 (Z6 (u8=u8/\0+q48<=q48) (Z6 (u8=u8/\q82=q82) (Z6 (q84*1<=140737488355328) (Z0 q52 (Z6 (q84=m) (Z6 (m<=q84) q85))))))) (Z0 q52 (Z6 (q82=m) (Z6 (m<=q82) q86)))))))) (Z7 q30 (Z0 q46 (Z6 (u8=u8/\0+q48<=q48) (Z0 q80 (Z6 (q88*1<=140737488355328) (Z0 q52 (Z6 (q88=m) (Z6 (m<=q88) q89))))))) q90))))) (Z7 q23 (Z0 q38 (Z6 (u8=u8/\0+q40<=q40) (Z0 q26 (Z6 (q92*1<=140737488355328) (Z7 q30 (Z0 q46 (Z6 (u8=u8/\0+q48<=q48) (Z6 (u8=u8/\q92=q92) (Z6 (q94*1<=140737488355328) (Z0 q52 (Z6 (q94=m) (Z6 (m<=q94) q95))))))) (Z0 q52 (Z6 (q92=m) (Z6 (m<=q92) q96)))))))) (Z7 q30 (Z0 q46 (Z6 (u8=u8/\0+q48<=q48) (Z0 q26 (Z6 (q98*1<=140737488355328) (Z0 q52 (Z6 (q98=m) (Z6 (m<=q98) q99))))))) q100))))))) (Z7 q23 (Z0 q25 (Z0 q19 (Z6 (q102*1<=140737488355328) (Z7 q30 (Z0 q32 (Z0 q103 (Z6 (q105*1<=140737488355328) (Z7 q23 (Z0 q38 (Z6 (u8=u8/\0+q40<=q40) (Z0 q106 (Z6 (q108*1<=140737488355328) (Z7 q30 (Z0 q46 (Z6 (u8=u8/\0+q48<=q48) (Z6 (u8=u8/\q108=q108) (Z6 (q110*1<=140737488355328) (Z0 q52 (Z6 (q110=m) (Z6 (m<=q110) (q109=ys/\q60)))))))) (Z0 q52 (Z6 (q108=m) (Z6 (m<=q108) (q107=ys/\q60))))))))) (Z7 q30 (Z0 q46 (Z6 (u8=u8/\0+q48<=q48) (Z0 q106 (Z6 (q112*1<=140737488355328) (Z0 q52 (Z6 (q112=m) (Z6 (m<=q112) (q111=ys/\q60)))))))) (Z0 q52 (Z6 (q105=m) (Z6 (m<=q105) (q104=ys/\q60))))))))) (Z7 q23 (Z0 q38 (Z6 (u8=u8/\0+q40<=q40) (Z0 q103 (Z6 (q114*1<=140737488355328) (Z7 q30 (Z0 q46 (Z6 (u8=u8/\0+q48<=q48) (Z6 (u8=u8/\q114=q114) (Z6 (q116*1<=140737488355328) (Z0 q52 (Z6 (q116=m) (Z6 (m<=q116) (q115=ys/\q60)))))))) (Z0 q52 (Z6 (q114=m) (Z6 (m<=q114) (q113=ys/\q60))))))))) (Z7 q30 (Z0 q46 (Z6 (u8=u8/\0+q48<=q48) (Z0 q103 (Z6 (q118*1<=140737488355328) (Z0 q52 (Z6 (q118=m) (Z6 (m<=q118) (q117=ys/\q60)))))))) (Z0 q52 (Z6 (q102=m) (Z6 (m<=q102) (q101=ys/\q60)))))))))) (Z7 q30 (Z0 q32 (Z0 q19 (Z6 (q120*1<=140737488355328) (Z7 q23 (Z0 q38 (Z6 (u8=u8/\0+q40<=q40) (Z0 q121 (Z6 (q123*1<=140737488355328) (Z7 q30 (Z0 q46 (Z6 (u8=u8/\0+q48<=q48) (Z6 (u8=u8/\q123=q123) (Z6 (q125*1<=140737488355328) (Z0 q52 (Z6 (q125=m) (Z6 (m<=q125) (q124=ys/\q60)))))))) (Z0 q52 (Z6 (q123=m) (Z6 (m<=q123) (q122=ys/\q60))))))))) (Z7 q30 (Z0 q46 (Z6 (u8=u8/\0+q48<=q48) (Z0 q121 (Z6 (q127*1<=140737488355328) (Z0 q52 (Z6 (q127=m) (Z6 (m<=q127) (q126=ys/\q60)))))))) (Z0 q52 (Z6 (q120=m) (Z6 (m<=q120) (q119=ys/\q60))))))))) (Z7 q23 (Z0 q38 (Z6 (u8=u8/\0+q40<=q40) (Z0 q19 (Z6 (q129*1<=140737488355328) (Z7 q30 (Z0 q46 (Z6 (u8=u8/\0+q48<=q48) (Z6 (u8=u8/\q129=q129) (Z6 (q131*1<=140737488355328) (Z0 q52 (Z6 (q131=m) (Z6 (m<=q131) (q130=ys/\q60)))))))) (Z0 q52 (Z6 (q129=m) (Z6 (m<=q129) (q128=ys/\q60))))))))) (Z7 q30 (Z0 q46 (Z6 (u8=u8/\0+q48<=q48) (Z0 q19 (Z6 (q133*1<=140737488355328) (Z0 q52 (Z6 (q133=m) (Z6 (m<=q133) (q132=ys/\q60)))))))) (Z0 q52 (Z6 (q16=m) (Z6 (m<=q16) (q15=ys/\q60)))))))))))))))))))))))) (Z6 (n=n) (Z6 (n<=n) (xs=xs/\Z0 q53 (Z0 q54 (q56/\Z0 q54 (Z0 q57 (q59/\Z0 q57 Z2)))))))) (by kernel_rfl) ?_
 conv=>zeta
 try simp only [vcA]
 try simp only [vcB]
 try simp only [vcC]
 refine ⟨fun hlt=> ?_,fun hge=>h2 (by omega)⟩
 obtain ⟨⟨w1,w2⟩,⟨w3,w4⟩,⟨w5,w6⟩,w7,w8⟩:=Xn (hr i (by omega))
 obtain ⟨l1,l2,l3,l4⟩:=ht.outs i (by omega)
 have hw:=h1 (by omega)
 have hnn:=ht.m
 have hwr:i64.wrap ((i:Int)+1)=((i+1:Nat):Int):=w64 (by omega)
 have u1:=ZI (t.outs i).kind
 have u2:=ZI (t.outs i).amount
 have u3:=ZI (t.outs i).delay
 have u4:=ZI (t.outs i).expiry
 subst hW
 rw [hwr]
 unfold Z3k at hy
 generalize t.outs i=x at*
 simp only [J7,Vn]
 repeat' (first|(refine Jc ?_ ?_)|intro _)
 all_goals (try simp only [beq_iff_eq,bne_iff_ne,ne_eq,beq_eq_false_iff_ne,bne_eq_false_iff_eq] at*)
 all_goals first|omega|assumption|trivial|skip
 all_goals first|(rw [hy];simp [*];done)|(rw [<-hm,hy];simp [*];try omega;done)|skip
noncomputable def ZfQ (W:Int->List Int) (t:TxS) (core:Bool):Zd:=
 (E44 W).withL 207 0 (goM 0 (rbS t core 0 (YJ W t core 0) (YJ W t core 0).length) t.Fine (Yu 0 t.N 9 (fun i=>i<t.N) (fun i=>i=t.N) (fun _=>False) (fun _=>False) (fun i=>rbR t (YJ W t core i) (YJ W t core i).length) (fun i=>rbR t (YJ W t core i) (YJ W t core i).length) (fun i=>rbR t (YJ W t core i) (YJ W t core i).length)))
noncomputable def ZkW (W:Int->List Int) (t:TxS) (core:Bool):Zd:=
 (E44 W).withL 207 2 (goM 0 (Zdc t 0 (Yo W t core 0) (Yo W t core 0).length) t.Fine (Yu 2 t.M 9 (fun i=>i<t.M) (fun i=>i=t.M) (fun _=>False) (fun _=>False) (fun i=>rbR t (Yo W t core i) (Yo W t core i).length) (fun i=>rbR t (Yo W t core i) (Yo W t core i).length) (fun i=>rbR t (Yo W t core i) (Yo W t core i).length)))
theorem ZfR (t:TxS) (core:Bool):(ZfQ Zu t core).Ok:=by
 unfold ZfQ
 refine Zd.withGoM (N:=20) (S:=fun i=>rbS t core i (YJ Zu t core i) (YJ Zu t core i).length) Zdb (by kernel_rfl) fun hC=>⟨rfl,fun i hi hgo=> ?_⟩
 have h1:=VT hC core hi
 cases core
 ·exact ZkU Zu t i (YJ Zu t false i) (YJ Zu t false (i+1)) _ _ _ _ hC.ok hi hC.ins rfl rfl (by omega) (Qj _ _ _ _) rfl (fun h=>⟨h,h⟩) (fun h=>h)
 ·exact ZkT Zu t i (YJ Zu t true i) (YJ Zu t true (i+1)) _ _ _ _ hC.ok hi hC.ins rfl rfl (by omega) (Qj _ _ _ _) rfl (fun h=>⟨h,h⟩) (fun h=>h)
theorem ZfS (t:TxS) (core:Bool):(ZkW Zu t core).Ok:=by
 unfold ZkW
 refine Zd.withGoM (N:=20) (S:=fun i=>Zdc t i (Yo Zu t core i) (Yo Zu t core i).length) Zdb (by kernel_rfl) fun hC=>⟨rfl,fun i hi hgo=> ?_⟩
 have h1:=XN hC core hi
 exact ZkV Zu t i (Yo Zu t core i) (Yo Zu t core (i+1)) _ _ _ _ hC.ok hi hC.outs rfl rfl (by omega) (Z4C _ _ _ _) rfl (fun h=>⟨h,h⟩) (fun h=>h)
noncomputable def Ziz (W:Int->List Int) (t:TxS) (core:Bool):Zd:=
 (ZfQ W t core).withL 207 2 (goM 0 (Zdc t 0 (Yo W t core 0) (Yo W t core 0).length) t.Fine (Yu 2 t.M 9 (fun i=>i<t.M) (fun i=>i=t.M) (fun _=>False) (fun _=>False) (fun i=>rbR t (Yo W t core i) (Yo W t core i).length) (fun i=>rbR t (Yo W t core i) (Yo W t core i).length) (fun i=>rbR t (Yo W t core i) (Yo W t core i).length)))
theorem Zdd (W:Int->List Int) (t:TxS) (core:Bool) (ys:List Int) (L:Nat) (hW:W=Zu) (ht:t.Fine) (hy:ys=W4 W t core) (hL:L=ys.length):
  evF (Ziz W t core) 20 207 [.agg t.c,.bool core] ⟨0,[]⟩ (ZF 0 (.ret (.nslice ⟨0,0,0,0,0⟩ 1 L L)) 1 [(0,.ints .u8 ys)]):=by
 refine @Eq.mpr _ (let q1:=t.num;let q2:=List.length (W q1);let q3:=[]++List.take q2 (Y0 0 (W q1));let q4:=List.length q3;let q5:=t.N;let q6:=↑q5;let q7:=decide (q5=q5);let q8:=Zg t.ins;let q9:=q8=q8;let q10:=W q6;let q11:=List.length q10;let q12:=q3++List.take q11 (Y0 0 q10);let q13:=List.length q12;let q14:=YJ W t core 0;let q15:=List.length q14;let q16:=decide (q1=q1);let q17:=t.M;let q18:=decide (q17=q17);let q19:=Zf t.outs;let q20:=q19=q19;let q21:=W ↑q17;let q22:=List.length q21;let q23:=Yo W t core 0;let q24:=List.length q23;let q25:=(False->False)/\(False->False);
 Z6 (0<=q1) (Z6 (u8=u8/\0+q2<=q2) (Z6 (q4*1<=140737488355328) (Z6 (q6=q6) (Z0 q7 (q9/\
 Z0 q7 (Z6 (u8=u8/\0+q11<=q11) (Z6 (u8=u8/\q4=q4) (Z6 (q13*1<=140737488355328) (Z6 (q13=q15) (Z6 (q15<=q13) (Z6 (core=core) (q12=q14/\
 Z0 q16 (Z0 q7 (q9/\
 Z0 q7 (Z0 q18 (q20/\
 Z0 q18 (TxS.Fine t/\
 ∀(i:Nat),
 let q51:=YJ W t core i;let q52:=List.length q51;let q53:=q51++List.take q22 (Y0 0 q21);let q54:=List.length q53;
 i<=q5->
 (∀(j:Nat),j<i->(fun (i:Nat)=>i<q5) j)->
 (i=q5->
 Z6 (u8=u8/\0+q22<=q22) (Z6 (u8=u8/\q52=q52) (Z6 (q54*1<=140737488355328) (Z6 (q54=q24) (Z6 (q24<=q54) (q53=q23/\
 Z0 q16 (Z0 q7 (q9/\
 Z0 q7 (Z0 q18 (q20/\
 Z0 q18 (TxS.Fine t/\
 ∀(i:Nat),
 let q59:=Yo W t core i;let q60:=List.length q59;
 i<=q17->(∀(j:Nat),j<i->(fun (i:Nat)=>i<q17) j)->(i=q17->Z6 (q60=L) (Z6 (L<=q60) (q59=ys/\True)))/\q25)))))))))))/\
 q25)))))))))))))))))) (by kernel_rfl) ?_
 conv=>zeta
 try simp only [vcA]
 try simp only [vcB]
 try simp only [vcC]
 subst hW hy hL
 have e1:Zu t.num++Zu ↑t.N=YJ Zu t core 0:=by unfold YJ;simp [Qq]
 have e2:YJ Zu t core t.N++Zu ↑t.M=Yo Zu t core 0:=by unfold Yo;simp [Qq]
 have b1:=VT ht core (J4 t.N)
 have b2:=XN ht core (J4 t.M)
 have hN:=ht.n
 have hM:=ht.m
 have hq:=ht.num
 simp only [Vn,JZ,e1,K1]
 have b0:=VT ht core (JC t.N)
 have c0:=XN ht core (JC t.M)
 have d1:=ZI t.num
 refine ⟨hq.1,by omega,by omega,trivial,J4 _,trivial,ht,fun i hi _=>⟨fun he=> ?_,fun h=>h,fun h=>h⟩⟩
 subst he
 rw [e2]
 refine ⟨by omega,rfl,J4 _,rfl,ht,fun i hi _=>⟨fun he=> ?_,fun h=>h,fun h=>h⟩⟩
 subst he
 exact ⟨rfl,J4 _,rfl⟩
theorem ZfT (t:TxS) (core:Bool):(Ziz Zu t core).Ok:=by
 unfold Ziz
 exact Zd.withL_join (G:=ZfQ Zu t core) (H:=E44 Zu) (ZfR t core) rfl (ZfS t core)
theorem Z6S (t:TxS) (core:Bool) (ht:t.Fine):Zs PP 207 [.agg t.c,.bool core] (.nslice ⟨0,0,0,0,0⟩ 1 (W4 Zu t core).length (W4 Zu t core).length) 1 [(0,.ints .u8 (W4 Zu t core))]:=.evM (ZfT t core) (Zdd _ t core _ _ rfl ht rfl rfl)
theorem Z8y (args:List AV) (h:Z8) (K:KO) (hl:Zd2 (W4 Zu) args h K):Ze PP 207 args h K:=by
 refine Zs.fsumm (d:=20) (Zk _ _ _ _ _ hl fun a ha=> ?_)
 split at ha
 ·obtain ⟨t,h1,h2,hK⟩:=ha
  exact ⟨_,_,_,_,(Z6S t _ h2).conv fun E r hr=>hr.head (fun _ hc=>h1.rel hc) (fun _ hc=>hc),rfl,⟨JN,.ints _ _,trivial⟩,hK⟩
 ·exact ha.elim
theorem Z0D {n:Nat} (h:xs.length=n) (hw:∀i,i<n->(Lit.int .u8 (xs.getD i 0)).wf=true):Bytes xs:=⟨fun i=>by
 by_cases hi:i<n
 ·have:=hw i hi
  simp [Lit.wf] at this
  have m1:u8.min=0:=rfl
  have m2:u8.max=255:=rfl
  simp
  omega
 ·rw [J2,Jr (by omega)];simp⟩
structure InS.By (x:InS):Prop where
 name:Bytes x.name
 tag:Bytes x.tag
 also:Bytes x.also
 secret:Bytes x.secret
structure ZE.By (x:ZE):Prop where
 owner:Bytes x.owner
 other:Bytes x.other
 point:Bytes x.point
 hash:Bytes x.hash
structure QG (t:TxS):Prop where
 ins:∀i,i<t.N->(t.ins i).By
 outs:∀i,i<t.M->(t.outs i).By
theorem QG.b {t:TxS} (h:QG t):TxB t:=⟨fun i hi=>⟨(h.outs i hi).owner,(h.outs i hi).other⟩⟩
theorem pick {α:Type} [Inhabited α] {n:Nat} {p:Nat->α->Prop} (h:∀i,i<n->∃a,p i a):∃f:Nat->α,∀i,i<n->p i (f i):=
 ⟨fun i=>if hi:i<n then Classical.choose (h i hi) else default,fun i hi=>by
  simp only [hi,dite_true]
  exact Kt (h i hi)⟩
instance:Inhabited InS:=⟨inZ⟩
instance:Inhabited ZE:=⟨ZmW⟩
theorem Ze.conv {P:Program} {f:FuncId} {us bs:List AV} {h:Z8} {K:KO} (hc:Ze P f bs h K) (hr:∀E rs,Zz E us rs->Zz E bs rs):Ze P f us h K:=
 fun E w rs he hl=>hc E w rs he (hr E rs hl)
theorem Bytes.nil:Bytes []:=⟨fun i=>by simp⟩
theorem Bytes.cons {x:Int} (hx:0<=x/\x<=255) (h:Bytes xs):Bytes (x::xs):=⟨fun i=>by
 cases i with
 | zero=>simpa using hx
 | succ i=>have:=h.h i;simpa using this⟩
theorem Bytes.append (h:Bytes xs) (k:Bytes ys):Bytes (xs++ys):=⟨fun i=>by
 rw [J2,List.getElem?_append]
 split
 ·have:=h.h i;rwa [J2] at this
 ·have:=k.h (i-xs.length);rwa [J2] at this⟩
theorem Bytes.ite {p:Prop} [Decidable p] (h:Bytes xs) (k:Bytes ys):Bytes (if p then xs else ys):=by split<;>assumption
theorem ZfU (x:Int):0<=u8.wrap x/\u8.wrap x<=255:=by
 unfold wrap
 simp [IntKind.bits,IntKind.signed]
 omega
theorem X4 (n:Int):Bytes (Zu n):=by
 have hb:∀k,0<=b8 n k/\b8 n k<=255:=fun k=>ZfU _
 unfold Zu
 split
 ·exact .cons (ZfU _) .nil
 split
 ·exact .cons (by omega) (.cons (hb _) (.cons (hb _) .nil))
 split
 ·exact .cons (by omega) (.cons (hb _) (.cons (hb _) (.cons (hb _) (.cons (hb _) .nil))))
 ·exact .cons (by omega) (.cons (hb _) (.cons (hb _) (.cons (hb _) (.cons (hb _) (.cons (hb _) (.cons (hb _) (.cons (hb _) (.cons (hb _) .nil))))))))
theorem ZaX {x:InS} (h:x.By) (core:Bool):Bytes (inW Zu core x):=by
 unfold inW
 refine (h.name.append (X4 _)).append ?_
 cases core
 ·exact (X4 _).append (((Bytes.nil.ite h.tag).append (h.also.ite .nil)).append (h.secret.ite .nil))
 ·exact .nil
theorem Z8z {x:ZE} (h:x.By):Bytes (Z3k Zu x):=by
 unfold Z3k
 exact (((((((X4 _).append (X4 _)).append h.owner).append (h.other.ite .nil)).append (h.point.ite .nil)).append (h.hash.ite .nil)).append ((X4 _).ite .nil)).append ((X4 _).ite .nil)
theorem Z0b {f:Nat->List Int}:∀n,(∀i,i<n->Bytes (f i))->Bytes (Qq f n)
 | 0,_=>.nil
 | n+1,h=>(Z0b n fun i hi=>h i (by omega)).append (h n (by omega))
theorem Z8A {t:TxS} (h:QG t) (core:Bool):Bytes (W4 Zu t core):=by
 unfold W4 Yo YJ
 exact ((((X4 _).append (X4 _)).append (Z0b _ fun i hi=>ZaX (h.ins i hi) core)).append (X4 _)).append (Z0b _ fun i hi=>Z8z (h.outs i hi))
def Vo (a b c:Int):Nat->Int
 | 0=>0
 | i+1=>if 2<=u32.wrap (u32.wrap (Int.tmod (Zq .u32 a i) 2+Int.tmod (Zq .u32 b i) 2)+Int.tmod (Zq .u32 c i) 2) then u32.wrap (Vo a b c i+ZG .u32 1 i) else Vo a b c i
def VU (a b c:Int):Nat->Int
 | 0=>0
 | i+1=>u32.wrap (VU a b c i+ZG .u32 (if Int.tmod (Zq .u32 a i) 2=1 then Int.tmod (Zq .u32 b i) 2 else Int.tmod (Zq .u32 c i) 2) i)
def moS (a b c:Int) (o:Int) (i:Nat):St:=⟨33,[(8,.int .u64 i),(0,.int .u32 a),(1,.int .u32 b),(2,.int .u32 c),(7,.int .u32 o)],⟨0,[]⟩,[]⟩
def moR (o:Int):St:=⟨33,[(7,.int .u32 o)],⟨0,[]⟩,[]⟩
theorem Zhq {x:Int} (h:0<=x/\x<18446744073709551616):u64.wrap x=x:=by
 unfold wrap
 simp [IntKind.bits,IntKind.signed]
 omega
theorem ZiA (a b c o o':Int) (i:Nat) (Z1 Z2:Prop) (hi:i<=32) (ho:o'=if 2<=u32.wrap (u32.wrap (Int.tmod (Zq .u32 a i) 2+Int.tmod (Zq .u32 b i) 2)+Int.tmod (Zq .u32 c i) 2) then u32.wrap (o+ZG .u32 1 i) else o) (h1:i<32->Z1) (h2:i=32->Z2):
  ZC G0 20 291 0 0 (moS a b c o i) (rdM 0 0 9 (moS a b c o' (i+1)) (moR o) (moR o) (moR o) Z1 Z2 False False):=by
 refine @Eq.mpr _ (let q1:=decide (wrap u64 ((↑i:Int)+1)=(↑(i+1):Int));let q2:=decide (a=a);let q3:=decide (b=b);let q4:=decide (c=c);
 Z7 (decide ((↑i:Int)<32)) (Z7 (decide (wrap u32 (wrap u32 (Int.tmod (Zq u32 a (↑i:Int)) 2+Int.tmod (Zq u32 b (↑i:Int)) 2)+Int.tmod (Zq u32 c (↑i:Int)) 2)>=2)) (Z0 q1 (Z0 q2 (Z0 q3 (Z0 q4 (Z6 (wrap u32 (o+ZG u32 1 (↑i:Int))=o') Z1))))) (Z0 q1 (Z0 q2 (Z0 q3 (Z0 q4 (Z6 (o=o') Z1)))))) (Z6 (o=o) Z2)) (by kernel_rfl) ?_
 conv=>zeta
 try simp only [vcA]
 try simp only [vcB]
 try simp only [vcC]
 have hw:u64.wrap ((i:Int)+1)=((i+1:Nat):Int):=Zhq (by omega)
 refine ⟨fun hlt=>⟨fun hc=> ?_,fun hc=> ?_⟩,fun hge=>h2 (by omega)⟩
 ·rw [if_pos hc] at ho
  exact ⟨hw,ho.symm,h1 (by omega)⟩
 ·rw [if_neg hc] at ho
  exact ⟨hw,ho.symm,h1 (by omega)⟩
theorem ZiB (a b c o o':Int) (i:Nat) (Z1 Z2:Prop) (hi:i<=32) (ho:o'=u32.wrap (o+ZG .u32 (if Int.tmod (Zq .u32 a i) 2=1 then Int.tmod (Zq .u32 b i) 2 else Int.tmod (Zq .u32 c i) 2) i)) (h1:i<32->Z1) (h2:i=32->Z2):
  ZC G0 20 290 0 0 (moS a b c o i) (rdM 0 0 9 (moS a b c o' (i+1)) (moR o) (moR o) (moR o) Z1 Z2 False False):=by
 refine @Eq.mpr _ (let q1:=decide (wrap u64 ((↑i:Int)+1)=(↑(i+1):Int));let q2:=decide (a=a);let q3:=decide (b=b);let q4:=decide (c=c);
 Z7 (decide ((↑i:Int)<32)) (Z7 (Int.tmod (Zq u32 a (↑i:Int)) 2==1) (Z0 q1 (Z0 q2 (Z0 q3 (Z0 q4 (Z6 (wrap u32 (o+ZG u32 (Int.tmod (Zq u32 b (↑i:Int)) 2) (↑i:Int))=o') Z1))))) (Z0 q1 (Z0 q2 (Z0 q3 (Z0 q4 (Z6 (wrap u32 (o+ZG u32 (Int.tmod (Zq u32 c (↑i:Int)) 2) (↑i:Int))=o') Z1)))))) (Z6 (o=o) Z2)) (by kernel_rfl) ?_
 conv=>zeta
 try simp only [vcA]
 try simp only [vcB]
 try simp only [vcC]
 have hw:u64.wrap ((i:Int)+1)=((i+1:Nat):Int):=Zhq (by omega)
 refine ⟨fun hlt=>⟨fun hc=> ?_,fun hc=> ?_⟩,fun hge=>h2 (by omega)⟩
 ·rw [if_pos (by simpa using hc)] at ho
  exact ⟨hw,ho.symm,h1 (by omega)⟩
 ·rw [if_neg (by simpa using hc)] at ho
  exact ⟨hw,ho.symm,h1 (by omega)⟩
@[irreducible] def Xw (a b c:Int):Int:=Vo a b c 32
@[irreducible] def Xs (a b c:Int):Int:=VU a b c 32
noncomputable def ZiC (a b c:Int):Zd:=G0.withL 291 0 (goM 0 (moS a b c 0 0) True (Yu 0 32 9 (fun i=>i<32) (fun i=>i=32) (fun _=>False) (fun _=>False) (fun i=>moR (Vo a b c i)) (fun i=>moR (Vo a b c i)) (fun i=>moR (Vo a b c i))))
theorem ZfV (a b c:Int):(ZiC a b c).Ok:=by
 unfold ZiC
 refine Zd.withGoM (N:=20) (S:=fun i=>moS a b c (Vo a b c i) i) Zm (by kernel_rfl) fun hC=>⟨rfl,fun i hi hgo=> ?_⟩
 exact ZiA a b c (Vo a b c i) (Vo a b c (i+1)) i _ _ hi rfl (fun h=>⟨h,h⟩) (fun h=>h)
noncomputable def ZiD (a b c:Int):Zd:=G0.withL 290 0 (goM 0 (moS a b c 0 0) True (Yu 0 32 9 (fun i=>i<32) (fun i=>i=32) (fun _=>False) (fun _=>False) (fun i=>moR (VU a b c i)) (fun i=>moR (VU a b c i)) (fun i=>moR (VU a b c i))))
theorem ZfW (a b c:Int):(ZiD a b c).Ok:=by
 unfold ZiD
 refine Zd.withGoM (N:=20) (S:=fun i=>moS a b c (VU a b c i) i) Zm (by kernel_rfl) fun hC=>⟨rfl,fun i hi hgo=> ?_⟩
 exact ZiB a b c (VU a b c i) (VU a b c (i+1)) i _ _ hi rfl (fun h=>⟨h,h⟩) (fun h=>h)
theorem ZiE (a b c:Int) (o:Int) (ho:o=Vo a b c 32):
  evF (ZiC a b c) 20 291 [.int .u32 a,.int .u32 b,.int .u32 c] ⟨0,[]⟩ (Yq 0 [] (.int .u32 o) 0 []):=by
 refine @Eq.mpr _ (Z6 (a=a) (Z6 (b=b) (Z6 (c=c) (True/\∀(i:Nat),i<=32->(∀(j:Nat),j<i->(fun (i:Nat)=>i<32) j)->(i=32->Z6 (Vo a b c i=o) True)/\(False->False)/\(False->False))))) (by kernel_rfl) ?_
 try simp only [vcA]
 try simp only [vcB]
 try simp only [vcC]
 subst ho
 exact fun i hi _=>⟨fun he=>by subst he;rfl,fun h=>h,fun h=>h⟩
theorem ZiF (a b c:Int) (o:Int) (ho:o=VU a b c 32):
  evF (ZiD a b c) 20 290 [.int .u32 a,.int .u32 b,.int .u32 c] ⟨0,[]⟩ (Yq 0 [] (.int .u32 o) 0 []):=by
 refine @Eq.mpr _ (Z6 (a=a) (Z6 (b=b) (Z6 (c=c) (True/\∀(i:Nat),i<=32->(∀(j:Nat),j<i->(fun (i:Nat)=>i<32) j)->(i=32->Z6 (VU a b c i=o) True)/\(False->False)/\(False->False))))) (by kernel_rfl) ?_
 try simp only [vcA]
 try simp only [vcB]
 try simp only [vcC]
 subst ho
 exact fun i hi _=>⟨fun he=>by subst he;rfl,fun h=>h,fun h=>h⟩
def Z26 (F:Int->Int->Int->Int):ZH:=fun args _ K=>match args with
 | [.int .u32 a,.int .u32 b,.int .u32 c]=>K (.int .u32 (F a b c))
 | _=>False
theorem Z3n {f:FuncId} {F:Int->Int->Int->Int} (hp:∀a b c,Zs PP f [.int .u32 a,.int .u32 b,.int .u32 c] (.int .u32 (F a b c)) 0 []) (args:List AV) (h:Z8) (K:AV->Prop) (hl:Z26 F args h K):Ze PP f args h fun o h'=>∃v,o=.ret v/\h'=h/\K v:=by
 unfold Z26 at hl
 split at hl
 ·rename_i a b c
  refine UO (d:=20) (K0:=fun l=>l=[.int .u32 a,.int .u32 b,.int .u32 c]) ?_ fun l e=>⟨_,by rw [e];exact hp a b c,fun _=>rfl,hl⟩
  rfl
 ·exact hl.elim
def sg3 (a b c:Int) (w:Int):Int:=Yh .u32 (Yh .u32 (Z88 w (32-a)) (Z88 w (32-b))) (Z88 w (32-c))
def rg3 (a b n:Int) (w:Int):Int:=Yh .u32 (Yh .u32 (Z88 w (32-a)) (Z88 w (32-b))) (Zq .u32 w n)
def Z8B (bl:List Int) (t:Nat):Int:=u32.wrap (u32.wrap (u32.wrap (ZG .u32 (u32.wrap (bl.getD (4*t) 0)) 24+ZG .u32 (u32.wrap (bl.getD (4*t+1) 0)) 16)+ZG .u32 (u32.wrap (bl.getD (4*t+2) 0)) 8)+u32.wrap (bl.getD (4*t+3) 0))
def Zde (m:List Int) (t:Nat):Int:=u32.wrap (u32.wrap (u32.wrap (rg3 17 19 10 (m.getD (t-2) 0)+m.getD (t-7) 0)+rg3 7 18 3 (m.getD (t-15) 0))+m.getD (t-16) 0)
def Wi (bl:List Int):Nat->List Int
 | 0=>List.replicate 64 0
 | t+1=>(Wi bl t).set t (if t<16 then Z8B bl t else Zde (Wi bl t) t)
theorem Z3o (bl:List Int):∀t,(Wi bl t).length=64
 | 0=>rfl
 | t+1=>by simp [Wi,Z3o bl t]
def prS (st bl m:List Int) (i:Nat):St:=⟨146,[(6,.int .i64 i),(3,pt 1),(5,pt 3),(2,pt 0),(4,pt 2)],⟨4,[(3,.flat [.arr .u32 64 m]),(2,.flat [.arr .u32 8 [0,0,0,0,0,0,0,0]]),(1,.flat [.arr .u8 64 bl]),(0,.flat [.arr .u32 8 st])]⟩,[]⟩
theorem Zn4 (st bl m m':List Int) (i:Nat) (Z1 Z2:Prop) (hi:i<=64) (hm:m.length=64) (hm':m'=m.set i (if i<16 then Z8B bl i else Zde m i)) (h1:i<64->Z1) (h2:i=64->Z2):
  ZC G0 20 269 0 0 (prS st bl m i) (rdM 0 0 9 (prS st bl m' (i+1)) (prS st bl m i) (prS st bl m i) (prS st bl m i) Z1 Z2 False False):=by
 refine @Eq.mpr _ (let q1:=wrap i64 (4*(↑i:Int));let q2:=0+Int.toNat q1;let q3:=wrap i64 (q1+1);let q4:=0+Int.toNat q3;let q5:=wrap i64 (q1+2);let q6:=0+Int.toNat q5;let q7:=wrap i64 (q1+3);let q8:=0+Int.toNat q7;let q9:=decide (0<=(↑i:Int)/\(↑i:Int)<64);let q10:=0+Int.toNat (↑i:Int);let q11:=decide (u32=u32/\q10<64/\q10<List.length m);let q12:=decide (wrap i64 ((↑i:Int)+1)=(↑(i+1):Int));let q13:=[(0:Int),0,0,0,0,0,0,0];let q14:=q13=q13;let q15:=q14/\bl=bl/\st=st/\Z1;let q16:=wrap i64 ((↑i:Int)-2);let q17:=0+Int.toNat q16;let q18:=wrap i64 ((↑i:Int)-7);let q19:=0+Int.toNat q18;let q20:=decide (q19<64);let q21:=wrap i64 ((↑i:Int)-15);let q22:=0+Int.toNat q21;let q23:=decide (q22<64);let q24:=wrap i64 ((↑i:Int)-16);let q25:=0+Int.toNat q24;let q26:=decide (q25<64);let q27:=List.getD m q25 0;let q28:=decide (q27=q27);let q29:=List.getD m q22 0;let q30:=List.getD m q19 0;let q31:=decide (q30=q30);let q32:=List.getD m q17 0;
 Z7 (decide ((↑i:Int)<64)) (Z7 (decide ((↑i:Int)<16)) (Z6 (0<=q1/\q1<64) (Z6 (q2<64) (Z6 (0<=q3/\q3<64) (Z6 (q4<64) (Z6 (0<=q5/\q5<64) (Z6 (q6<64) (Z6 (0<=q7/\q7<64) (Z6 (q8<64) (Z0 q9 (Z0 q11 (Z0 q12 (List.set m q10 (wrap u32 (wrap u32 (wrap u32 (ZG u32 (wrap u32 (List.getD bl q2 0)) 24+ZG u32 (wrap u32 (List.getD bl q4 0)) 16)+ZG u32 (wrap u32 (List.getD bl q6 0)) 8)+wrap u32 (List.getD bl q8 0)))=m'/\q15)))))))))))) (Z6 (0<=q16/\q16<64) (Z6 (q17<64) (Z6 (0<=q18/\q18<64) (Z0 q20 (Z6 (0<=q21/\q21<64) (Z0 q23 (Z6 (0<=q24/\q24<64) (Z0 q26 (Z0 q26 (Z0 q28 (Z0 q23 (Z6 (q29=q29) (Z0 q20 (Z0 q31 (Z0 q26 (Z0 q28 (Z0 q20 (Z0 q31 (Z0 q9 (Z0 q11 (Z0 q12 (List.set m q10 (wrap u32 (wrap u32 (wrap u32 (Yh u32 (Yh u32 (bOr u32 (ZG u32 q32 15) (Zq u32 q32 17)) (bOr u32 (ZG u32 q32 13) (Zq u32 q32 19))) (Zq u32 q32 10)+q30)+Yh u32 (Yh u32 (bOr u32 (ZG u32 q29 25) (Zq u32 q29 7)) (bOr u32 (ZG u32 q29 14) (Zq u32 q29 18))) (Zq u32 q29 3))+q27))=m'/\q15))))))))))))))))))))))) (Z6 ((↑i:Int)=(↑i:Int)) (m=m/\q14/\bl=bl/\st=st/\Z2))) (by kernel_rfl) ?_
 conv=>zeta
 try simp only [vcA]
 try simp only [vcB]
 try simp only [vcC]
 have hw:i64.wrap ((i:Int)+1)=((i+1:Nat):Int):=w64 (by omega)
 refine ⟨fun hlt=>⟨fun h16=> ?_,fun h16=> ?_⟩,fun hge=>h2 (by omega)⟩
 ·have e0:i64.wrap (4*(i:Int))=((4*i:Nat):Int):=by rw [w64 (by omega)];omega
  have e1:i64.wrap (((4*i:Nat):Int)+1)=((4*i+1:Nat):Int):=by rw [w64 (by omega)];omega
  have e2:i64.wrap (((4*i:Nat):Int)+2)=((4*i+2:Nat):Int):=by rw [w64 (by omega)];omega
  have e3:i64.wrap (((4*i:Nat):Int)+3)=((4*i+3:Nat):Int):=by rw [w64 (by omega)];omega
  rw [if_pos (by omega)] at hm'
  simp only [e0,e1,e2,e3,hw,JW]
  repeat' (first|(refine Jc ?_ ?_)|intro _)
  all_goals first|omega|exact hm'.symm|exact h1 (by omega)|trivial
 ·have e0:i64.wrap ((i:Int)-2)=((i-2:Nat):Int):=by rw [w64 (by omega)];omega
  have e1:i64.wrap ((i:Int)-7)=((i-7:Nat):Int):=by rw [w64 (by omega)];omega
  have e2:i64.wrap ((i:Int)-15)=((i-15:Nat):Int):=by rw [w64 (by omega)];omega
  have e3:i64.wrap ((i:Int)-16)=((i-16:Nat):Int):=by rw [w64 (by omega)];omega
  rw [if_neg (by omega)] at hm'
  simp only [e0,e1,e2,e3,hw,JW]
  repeat' (first|(refine Jc ?_ ?_)|intro _)
  all_goals first|omega|exact hm'.symm|exact h1 (by omega)|trivial
noncomputable def ZiG (st bl:List Int):Zd:=G0.withL 269 0 (goM 0 (prS st bl (List.replicate 64 0) 0) True (Yu 0 64 9 (fun i=>i<64) (fun i=>i=64) (fun _=>False) (fun _=>False) (fun i=>prS st bl (Wi bl i) i) (fun i=>prS st bl (Wi bl i) i) (fun i=>prS st bl (Wi bl i) i)))
theorem ZfX (st bl:List Int):(ZiG st bl).Ok:=by
 unfold ZiG
 refine Zd.withGoM (N:=20) (S:=fun i=>prS st bl (Wi bl i) i) Zm (by kernel_rfl) fun hC=>⟨rfl,fun i hi hgo=> ?_⟩
 exact Zn4 st bl (Wi bl i) (Wi bl (i+1)) i _ _ hi (Z3o bl i) rfl (fun h=>⟨h,h⟩) (fun h=>h)
noncomputable def E54 (M P:Int->Int->Int->Int):Zd:=(G0.withP 291 (Z26 M)).withP 290 (Z26 P)
theorem ZiH:(E54 Xw Xs).Ok:=Zd.withP_ok (Zd.withP_ok Zm (Z3n fun a b c=>by unfold Xw;exact .ev (ZfV a b c) (ZiE a b c _ rfl))) (Z3n fun a b c=>by unfold Xs;exact .ev (ZfW a b c) (ZiF a b c _ rfl))
def Z1E (M P:Int->Int->Int->Int) (k m:Int) (x:List Int):List Int:=
 let one:=u32.wrap (u32.wrap (u32.wrap (u32.wrap (x.getD 7 0+sg3 6 11 25 (x.getD 4 0))+P (x.getD 4 0) (x.getD 5 0) (x.getD 6 0))+k)+m)
 [u32.wrap (one+u32.wrap (sg3 2 13 22 (x.getD 0 0)+M (x.getD 0 0) (x.getD 1 0) (x.getD 2 0))),x.getD 0 0,x.getD 1 0,x.getD 2 0,u32.wrap (x.getD 3 0+one),x.getD 4 0,x.getD 5 0,x.getD 6 0]
def UV (M P:Int->Int->Int->Int) (m st:List Int):Nat->List Int
 | 0=>st
 | t+1=>Z1E M P (Vy.getD t 0) (m.getD t 0) (UV M P m st t)
theorem ZaY (M P:Int->Int->Int->Int) (m st:List Int) (t:Nat):UV M P m st (t+1)=Z1E M P (Vy.getD t 0) (m.getD t 0) (UV M P m st t):=rfl
theorem ZaZ (M P:Int->Int->Int->Int) (m st:List Int):UV M P m st 0=st:=rfl
theorem Z0E {M P:Int->Int->Int->Int} {m st:List Int} (h:st.length=8):∀t,(UV M P m st t).length=8
 | 0=>h
 | _+1=>rfl
def prT (st k m x:List Int) (i:Nat):St:=⟨146,[(9,.int .i64 i),(8,pt 6),(7,pt 5),(5,pt 3),(2,pt 0),(4,pt 2)],⟨7,[(6,.flat [.arr .u32 8 x]),(5,.flat [.arr .u32 64 k]),(3,.flat [.arr .u32 64 m]),(2,.flat [.arr .u32 8 [0,0,0,0,0,0,0,0]]),(0,.flat [.arr .u32 8 st])]⟩,[]⟩
def prU (st x:List Int):St:=⟨146,[(8,pt 6),(2,pt 0),(4,pt 2)],⟨7,[(6,.flat [.arr .u32 8 x]),(2,.flat [.arr .u32 8 [0,0,0,0,0,0,0,0]]),(0,.flat [.arr .u32 8 st])]⟩,[]⟩
theorem Zn5 (M P:Int->Int->Int->Int) (st k m x':List Int) (x0 x1 x2 x3 x4 x5 x6 x7:Int) (i:Nat) (Z1 Z2:Prop) (hi:i<=64) (hx:x'=Z1E M P (k.getD i 0) (m.getD i 0) [x0,x1,x2,x3,x4,x5,x6,x7]) (h1:i<64->Z1) (h2:i=64->Z2):
  ZC (E54 M P) 20 269 2 0 (prT st k m [x0,x1,x2,x3,x4,x5,x6,x7] i) (rdM 0 2 9 (prT st k m x' (i+1)) (prU st [x0,x1,x2,x3,x4,x5,x6,x7]) (prU st [x0,x1,x2,x3,x4,x5,x6,x7]) (prU st [x0,x1,x2,x3,x4,x5,x6,x7]) Z1 Z2 False False):=by
 refine @Eq.mpr _ (let q1:=decide (0<=(↑i:Int)/\(↑i:Int)<64);let q2:=0+Int.toNat (↑i:Int);let q3:=decide (q2<64);let q4:=decide (q2<64);let q5:=List.getD m q2 0;let q6:=List.getD k q2 0;let q7:=wrap u32 (wrap u32 (wrap u32 (wrap u32 (x7+Yh u32 (Yh u32 (bOr u32 (ZG u32 x4 26) (Zq u32 x4 6)) (bOr u32 (ZG u32 x4 21) (Zq u32 x4 11))) (bOr u32 (ZG u32 x4 7) (Zq u32 x4 25)))+P x4 x5 x6)+q6)+q5);let q8:=[(0:Int),0,0,0,0,0,0,0];let q9:=q8=q8;let q10:=[x0,x1,x2,x3,x4,x5,x6,x7];
 Z7 (decide ((↑i:Int)<64)) (Z0 q1 (Z0 q3 (Z0 q1 (Z0 q4 (Z0 q4 (Z6 (q5=q5) (Z0 q3 (Z6 (q6=q6) (Z6 (x6=x6) (Z6 (x5=x5) (Z6 (x4=x4) (Z6 (x7=x7) (Z6 (x2=x2) (Z6 (x1=x1) (Z6 (x0=x0) (Z6 (wrap i64 ((↑i:Int)+1)=(↑(i+1):Int)) ([wrap u32 (q7+wrap u32 (Yh u32 (Yh u32 (bOr u32 (ZG u32 x0 30) (Zq u32 x0 2)) (bOr u32 (ZG u32 x0 19) (Zq u32 x0 13))) (bOr u32 (ZG u32 x0 10) (Zq u32 x0 22))+M x0 x1 x2)),x0,x1,x2,wrap u32 (x3+q7),x4,x5,x6]=x'/\k=k/\m=m/\q9/\st=st/\Z1))))))))))))))))) (q10=q10/\q9/\st=st/\Z2)) (by kernel_rfl) ?_
 conv=>zeta
 try simp only [vcA]
 try simp only [vcB]
 try simp only [vcC]
 have hw:i64.wrap ((i:Int)+1)=((i+1:Nat):Int):=w64 (by omega)
 refine ⟨fun hlt=> ?_,fun hge=>h2 (by omega)⟩
 rw [hw]
 repeat' (first|(refine Jc ?_ ?_)|intro _)
 all_goals first|omega|exact hx.symm|exact h1 (by omega)|trivial
def prV (st x:List Int) (i:Nat):St:=⟨146,[(12,.int .i64 i),(8,pt 6),(2,pt 0),(4,pt 2)],⟨7,[(6,.flat [.arr .u32 8 x]),(2,.flat [.arr .u32 8 [0,0,0,0,0,0,0,0]]),(0,.flat [.arr .u32 8 st])]⟩,[]⟩
def VB (st x:List Int):Nat->List Int
 | 0=>x
 | i+1=>(VB st x i).set i (u32.wrap ((VB st x i).getD i 0+st.getD i 0))
theorem Z3p {st x:List Int} (h:x.length=8):∀i,(VB st x i).length=8
 | 0=>h
 | i+1=>by simp [VB,Z3p h i]
theorem Zn6 (st x x':List Int) (i:Nat) (Z1 Z2:Prop) (hi:i<=8) (hl:x.length=8) (hs:st.length=8) (hx:x'=x.set i (u32.wrap (x.getD i 0+st.getD i 0))) (h1:i<8->Z1) (h2:i=8->Z2):
  ZC G0 20 269 4 0 (prV st x i) (rdM 0 4 9 (prV st x' (i+1)) (prU st x) (prU st x) (prU st x) Z1 Z2 False False):=by
 refine @Eq.mpr _ (let q1:=decide (0<=(↑i:Int)/\(↑i:Int)<8);let q2:=0+Int.toNat (↑i:Int);let q3:=[(0:Int),0,0,0,0,0,0,0];let q4:=q3=q3;
 Z7 (decide ((↑i:Int)<8)) (Z0 q1 (Z6 (q2<8) (Z0 q1 (Z6 (q2<8) (Z0 q1 (Z6 (u32=u32/\q2<8/\q2<List.length x) (Z6 (wrap i64 ((↑i:Int)+1)=(↑(i+1):Int)) (List.set x q2 (wrap u32 (List.getD x q2 0+List.getD st q2 0))=x'/\q4/\st=st/\Z1)))))))) (x=x/\q4/\st=st/\Z2)) (by kernel_rfl) ?_
 conv=>zeta
 try simp only [vcA]
 try simp only [vcB]
 try simp only [vcC]
 have hw:i64.wrap ((i:Int)+1)=((i+1:Nat):Int):=w64 (by omega)
 refine ⟨fun hlt=> ?_,fun hge=>h2 (by omega)⟩
 rw [hw]
 repeat' (first|(refine Jc ?_ ?_)|intro _)
 all_goals first|omega|exact hx.symm|exact h1 (by omega)|trivial
def ZiI (M P:Int->Int->Int->Int) (st m:List Int):Nat->St->KE->Prop:=goM 0 (prT st Vy m st 0) (st.length=8) (Yu 2 64 9 (fun i=>i<64) (fun i=>i=64) (fun _=>False) (fun _=>False) (fun i=>prU st (UV M P m st i)) (fun i=>prU st (UV M P m st i)) (fun i=>prU st (UV M P m st i)))
theorem ZfY (st m:List Int):((E54 Xw Xs).withL 269 2 (ZiI Xw Xs st m)).Ok:=by
 unfold ZiI
 refine Zd.withGoM (N:=20) (S:=fun i=>prT st Vy m (UV Xw Xs m st i) i) ZiH (by kernel_rfl) fun hC=>⟨rfl,fun i hi hgo=> ?_⟩
 obtain ⟨x0,x1,x2,x3,x4,x5,x6,x7,e⟩:=eight _ (Z0E (M:=Xw) (P:=Xs) (m:=m) hC i)
 show ZC _ 20 269 2 0 (prT st Vy m (UV Xw Xs m st i) i) (rdM 0 2 9 (prT st Vy m (Z1E Xw Xs (Vy.getD i 0) (m.getD i 0) (UV Xw Xs m st i)) (i+1)) _ _ _ _ _ _ _)
 rw [e]
 exact Zn5 Xw Xs st Vy m _ x0 x1 x2 x3 x4 x5 x6 x7 i _ _ hi rfl (fun h=>⟨h,h⟩) (fun h=>h)
def ZiJ (st x:List Int):Nat->St->KE->Prop:=goM 0 (prV st x 0) (st.length=8/\x.length=8) (Yu 4 8 9 (fun i=>i<8) (fun i=>i=8) (fun _=>False) (fun _=>False) (fun i=>prU st (VB st x i)) (fun i=>prU st (VB st x i)) (fun i=>prU st (VB st x i)))
theorem ZfZ (st x:List Int):(G0.withL 269 4 (ZiJ st x)).Ok:=by
 unfold ZiJ
 refine Zd.withGoM (N:=20) (S:=fun i=>prV st (VB st x i) i) Zm (by kernel_rfl) fun hC=>⟨rfl,fun i hi hgo=> ?_⟩
 exact Zn6 st (VB st x i) (VB st x (i+1)) i _ _ hi (Z3p hC.2 i) hC.1 rfl (fun h=>⟨h,h⟩) (fun h=>h)
noncomputable def ZiK (M P:Int->Int->Int->Int) (st bl m x:List Int):Zd:=((ZiG st bl).withL 269 2 (ZiI M P st m)).withL 269 4 (ZiJ st x)
theorem Zg0 (st bl m x:List Int):(ZiK Xw Xs st bl m x).Ok:=by
 unfold ZiK
 exact Zd.withL_join (H:=G0) (Zd.withL_join (H:=E54 Xw Xs) (ZfX st bl) rfl (ZfY st m)) rfl (ZfZ st x)
@[irreducible] def XO (st bl:List Int):List Int:=VB st (UV Xw Xs (Wi bl 64) st 64) 8
attribute [irreducible] Wi UV VB
theorem Zn7 (M P:Int->Int->Int->Int) (st bl m x r:List Int) (hst:st.length=8) (hm:m=Wi bl 64) (hx:x=UV M P m st 64) (hr:r=VB st x 8):
  evF (ZiK M P st bl m x) 20 269 [.agg [.arr .u32 8 st],.agg [.arr .u8 64 bl]] ⟨0,[]⟩ (Yq 0 [] (.agg [.arr .u32 8 r]) 0 []):=by
 refine @Eq.mpr _ ((0:Int)::(0:Int)::(0:Int)::(0:Int)::(0:Int)::(0:Int)::(0:Int)::(0:Int)::(0:Int)::(0:Int)::(0:Int)::(0:Int)::(0:Int)::(0:Int)::(0:Int)::(0:Int)::(0:Int)::(0:Int)::(0:Int)::(0:Int)::(0:Int)::(0:Int)::(0:Int)::(0:Int)::(0:Int)::(0:Int)::(0:Int)::(0:Int)::(0:Int)::(0:Int)::(0:Int)::(0:Int)::Z5=(0:Int)::(0:Int)::(0:Int)::(0:Int)::(0:Int)::(0:Int)::(0:Int)::(0:Int)::(0:Int)::(0:Int)::(0:Int)::(0:Int)::(0:Int)::(0:Int)::(0:Int)::(0:Int)::(0:Int)::(0:Int)::(0:Int)::(0:Int)::(0:Int)::(0:Int)::(0:Int)::(0:Int)::(0:Int)::(0:Int)::(0:Int)::(0:Int)::(0:Int)::(0:Int)::(0:Int)::(0:Int)::Z5/\
 [(0:Int),(0:Int),(0:Int),(0:Int),(0:Int),(0:Int),(0:Int),(0:Int)]=[(0:Int),(0:Int),(0:Int),(0:Int),(0:Int),(0:Int),(0:Int),(0:Int)]/\
 bl=bl/\
 st=st/\
 True/\
 ∀(i:Nat),
 i<=(64:Nat)->
 (∀(j:Nat),j<i->(fun (i:Nat)=>i<(64:Nat)) j)->
 (i=(64:Nat)->
 st=st/\
 [(1116352408:Int),(1899447441:Int),(3049323471:Int),(3921009573:Int),(961987163:Int),(1508970993:Int),(2453635748:Int),(2870763221:Int),(3624381080:Int),(310598401:Int),(607225278:Int),(1426881987:Int),(1925078388:Int),(2162078206:Int),(2614888103:Int),(3248222580:Int),(3835390401:Int),(4022224774:Int),(264347078:Int),(604807628:Int),(770255983:Int),(1249150122:Int),(1555081692:Int),(1996064986:Int),(2554220882:Int),(2821834349:Int),(2952996808:Int),(3210313671:Int),(3336571891:Int),(3584528711:Int),(113926993:Int),(338241895:Int),(666307205:Int),(773529912:Int),(1294757372:Int),(1396182291:Int),(1695183700:Int),(1986661051:Int),(2177026350:Int),(2456956037:Int),(2730485921:Int),(2820302411:Int),(3259730800:Int),(3345764771:Int),(3516065817:Int),(3600352804:Int),(4094571909:Int),(275423344:Int),(430227734:Int),(506948616:Int),
 (659060556:Int),(883997877:Int),(958139571:Int),(1322822218:Int),(1537002063:Int),(1747873779:Int),(1955562222:Int),(2024104815:Int),(2227730452:Int),(2361852424:Int),(2428436474:Int),(2756734187:Int),(3204031479:Int),(3329325298:Int)]=
 Vy/\
 Wi bl i=m/\
 [(0:Int),(0:Int),(0:Int),(0:Int),(0:Int),(0:Int),(0:Int),(0:Int)]=[(0:Int),(0:Int),(0:Int),(0:Int),(0:Int),(0:Int),(0:Int),(0:Int)]/\st=st/\List.length st=(8:Nat)/\∀(i:Nat),i<=(64:Nat)->(∀(j:Nat),j<i->(fun (i:Nat)=>i<(64:Nat)) j)->(i=(64:Nat)->UV M P m st i=x/\[(0:Int),(0:Int),(0:Int),(0:Int),(0:Int),(0:Int),(0:Int),(0:Int)]=[(0:Int),(0:Int),(0:Int),(0:Int),(0:Int),(0:Int),(0:Int),(0:Int)]/\st=st/\(List.length st=(8:Nat)/\List.length x=(8:Nat))/\∀(i:Nat),i<=(8:Nat)->(∀(j:Nat),j<i->(fun (i:Nat)=>i<(8:Nat)) j)->(i=(8:Nat)->VB st x i=r/\True)/\(False->[(0:Int),(0:Int),(0:Int),(0:Int),(0:Int),(0:Int),(0:Int),(0:Int)]=r/\True)/\(False->False))/\(False->[(0:Int),(0:Int),(0:Int),(0:Int),(0:Int),(0:Int),(0:Int),(0:Int)]=r/\True)/\(False->False))/\
 (False->[(0:Int),(0:Int),(0:Int),(0:Int),(0:Int),(0:Int),(0:Int),(0:Int)]=r/\True)/\(False->False)) (by kernel_rfl) ?_
 try simp only [vcA]
 try simp only [vcB]
 try simp only [vcC]
 subst hm
 have hl:x.length=8:=by rw [hx];exact Z0E hst _
 exact fun i _ _=>⟨fun he=>⟨by kernel_rfl,by rw [he],hst,fun j _ _=>⟨fun hj=>⟨by rw [hj,hx],⟨hst,hl⟩,fun q _ _=>⟨fun hq=>by rw [hq,hr],fun h=>h.elim,fun h=>h⟩⟩,fun h=>h.elim,fun h=>h⟩⟩,fun h=>h.elim,fun h=>h⟩
theorem Z6T (st bl:List Int) (h:st.length=8):Zs PP 269 [.agg [.arr .u32 8 st],.agg [.arr .u8 64 bl]] (.agg [.arr .u32 8 (XO st bl)]) 0 []:=by
 unfold XO
 exact .ev (Zg0 st bl _ _) (Zn7 Xw Xs st bl _ _ _ h rfl rfl rfl)
theorem Z5D {st:List Int} (h:st.length=8):(XO st bl).length=8:=by unfold XO;exact Z3p (Z0E h _) _
def Zg1 (n i:Int):Int:=u8.wrap (Int.tmod (Zq .u64 (u64.wrap (u64.wrap n*8)) (u64.wrap (i64.wrap (56-i64.wrap (8*i))))) 256)
def XS (n:Int):Nat->List Int
 | 0=>[]
 | i+1=>XS n i++[Zg1 n i]
theorem Z3q (n:Int):∀i,(XS n i).length=i
 | 0=>rfl
 | i+1=>by rw [XS,J7,Z3q n i];rfl
def paS (bs ys:List Int) (n L i:Nat):St:=⟨39,[(5,.int .i64 i),(4,.nslice ⟨3,0,0,0,0⟩ 1 L L),(0,.vints .u8 bs n)],⟨4,[(3,.ints .u8 ys)]⟩,[]⟩
theorem ZkX (bs ys zs:List Int) (n L L' i:Nat) (Z1 Z2:Prop) (hi:i<=8) (hL:ys.length=L) (hb:L<10000000000000) (hz:zs=ys++[Zg1 n i]) (hL':L'=zs.length) (h1:i<8->Z1) (h2:i=8->Z2):
  ZC G0 20 268 0 0 (paS bs ys n L i) (rdM 0 0 9 (paS bs zs n L' (i+1)) (paS bs ys n L i) (paS bs ys n L i) (paS bs ys n L i) Z1 Z2 False False):=by
 refine @Eq.mpr _ (let q1:=wrap u64 (wrap i64 (56-wrap i64 (8*(↑i:Int))));let q2:=ys++[wrap u8 (Int.tmod (Zq u64 (wrap u64 (wrap u64 (↑n:Int)*8)) q1) 256)];let q3:=List.length q2;let q4:=decide (n=n);
 Z7 (decide ((↑i:Int)<8)) (Z6 (0<=q1) (Z6 (u8=u8/\List.length ys=L) (Z6 (q3*1<=140737488355328) (Z6 (wrap i64 ((↑i:Int)+1)=(↑(i+1):Int)) (Z6 (q3=L') (Z6 (L'<=q3) (bs=bs/\Z0 q4 (q2=zs/\Z1)))))))) (Z6 ((↑i:Int)=(↑i:Int)) (Z6 (L=L) (Z6 (L<=L) (bs=bs/\Z0 q4 (ys=ys/\Z2)))))) (by kernel_rfl) ?_
 conv=>zeta
 try simp only [vcA]
 try simp only [vcB]
 try simp only [vcC]
 have hw:i64.wrap ((i:Int)+1)=((i+1:Nat):Int):=w64 (by omega)
 refine ⟨fun hlt=> ?_,fun hge=>h2 (by omega)⟩
 have hz':zs.length=L+1:=by rw [hz,J7,hL];rfl
 have h0:0<=u64.wrap (i64.wrap (56-i64.wrap (8*(i:Int)))):=by
  unfold wrap
  simp [IntKind.bits,IntKind.signed]
  omega
 simp only [J7,Js,Jy]
 rw [hw]
 repeat' (first|(refine Jc ?_ ?_)|intro _)
 all_goals first|exact h0|omega|exact hz.symm|exact h1 (by omega)|trivial
noncomputable def ZiL (bs y:List Int) (n:Nat):Zd:=G0.withL 268 0 (goM 0 (paS bs (y++XS n 0) n (y++XS n 0).length 0) (y.length<=1000000000000) (Yu 0 8 9 (fun i=>i<8) (fun i=>i=8) (fun _=>False) (fun _=>False) (fun i=>paS bs (y++XS n i) n (y++XS n i).length i) (fun i=>paS bs (y++XS n i) n (y++XS n i).length i) (fun i=>paS bs (y++XS n i) n (y++XS n i).length i)))
theorem Zg2 (bs y:List Int) (n:Nat):(ZiL bs y n).Ok:=by
 unfold ZiL
 refine Zd.withGoM (N:=20) (S:=fun i=>paS bs (y++XS n i) n (y++XS n i).length i) Zm (by kernel_rfl) fun hC=>⟨rfl,fun i hi hgo=> ?_⟩
 have hl:(y++XS n i).length=y.length+i:=by rw [J7,Z3q]
 exact ZkX bs (y++XS n i) (y++XS n (i+1)) n _ _ i _ _ hi rfl (by omega) (by rw [XS,JB]) rfl (fun h=>⟨h,h⟩) (fun h=>h)
def Z1P (n:Nat):List Int:=List.replicate (Int.tmod (i64.wrap (128-Int.tmod (i64.wrap ((n:Int)+9)) 64)) 64).toNat 0
@[irreducible] def UW (bs:List Int):List Int:=(bs++[128]++Z1P bs.length)++XS bs.length 8
theorem Zg3 (n:Nat) (h:n<=100000000000):Int.tmod (i64.wrap (128-Int.tmod (i64.wrap ((n:Int)+9)) 64)) 64=(128-((n:Int)+9)%64)%64:=by
 have e1:i64.wrap ((n:Int)+9)=(n:Int)+9:=w64 (by omega)
 have e2:Int.tmod ((n:Int)+9) 64=((n:Int)+9)%64:=tm (by omega)
 have e3:i64.wrap (128-((n:Int)+9)%64)=128-((n:Int)+9)%64:=w64 (by omega)
 rw [e1,e2,e3,tm (by omega)]
theorem Zdf (n:Nat) (h:n<=100000000000):(Z1P n).length<=64:=by
 unfold Z1P
 rw [Zg3 n h,List.length_replicate]
 omega
theorem ZkY (bs y r:List Int) (n L:Nat) (hn:bs.length=n) (hb:n<=100000000000) (hy:y=bs++[128]++Z1P n) (hr:r=y++XS n 8) (hL:L=r.length):
  evF (ZiL bs y n) 20 268 [.vints .u8 bs n] ⟨0,[]⟩ (ZF 0 (.ret (.nslice ⟨0,0,0,0,0⟩ 1 L L)) 1 [(0,.ints .u8 r)]):=by
 refine @Eq.mpr _ (let q1:=[]++List.take n bs;let q2:=List.length q1;let q3:=q1++[(128:Int)];let q4:=List.length q3;let q5:=Int.tmod (wrap i64 (128-Int.tmod (wrap i64 (↑n+9)) 64)) 64;let q6:=Int.toNat q5;let q7:=q3++List.replicate q6 0;let q8:=List.length q7;let q9:=y++XS (↑n) 0;let q10:=List.length q9;
 Z6 (q2*1<=140737488355328) (Z6 (u8=u8/\q2=q2) (Z6 (q4*1<=140737488355328) (Z6 (u8=u8/\q4=q4) (Z6 ((0:Int)=0/\0<=q5/\(q4+q6)*1<=140737488355328) (Z6 (q8=q10) (Z6 (q10<=q8) (bs=bs/\
 Z6 (n=n) (q7=q9/\
 List.length y<=1000000000000/\
 ∀(i:Nat),
 let q21:=y++XS (↑n) i;let q22:=List.length q21;
 i<=8->(∀(j:Nat),j<i->(fun (i:Nat)=>i<8) j)->(i=8->Z6 (q22=L) (Z6 (L<=q22) (q21=r/\True)))/\(False->False)/\(False->False)))))))))) (by kernel_rfl) ?_
 conv=>zeta
 try simp only [vcA]
 try simp only [vcB]
 try simp only [vcC]
 have ht:List.take n bs=bs:=by rw [<-hn];exact JE
 have hz:=Zdf n hb
 have hx:=Zg3 n hb
 have e0:[]++List.take n bs++[128]++List.replicate (Int.tmod (i64.wrap (128-Int.tmod (i64.wrap ((n:Int)+9)) 64)) 64).toNat 0=y++XS n 0:=by rw [ht,hy];simp [Z1P,XS]
 have hyl:y.length=n+1+(Z1P n).length:=by rw [hy,J7,J7,hn];rfl
 subst hL hr
 simp only [e0,ht,J7,Js,Jy,hn,JZ]
 refine ⟨by omega,by omega,⟨by omega,by omega⟩, ?_, ?_, ?_,by omega,fun i hi _=>⟨fun he=>by subst he;exact ⟨rfl,J4 _,rfl⟩,fun h=>h,fun h=>h⟩⟩
 ·rw [hyl];unfold Z1P XS;rfl
 ·rw [hyl];unfold Z1P XS;exact J4 _
 ·rw [hy];simp [Z1P,XS]
theorem Zb0 (bs:List Int) (h:bs.length<=100000000000):Zs PP 268 [.vints .u8 bs bs.length] (.nslice ⟨0,0,0,0,0⟩ 1 (UW bs).length (UW bs).length) 1 [(0,.ints .u8 (UW bs))]:=.evM (Zg2 bs _ _) (ZkY bs _ _ _ _ rfl h rfl (by unfold UW;rfl) rfl)
def Zhr (P:List Int->List Int) (B:Nat):ZN:=fun args h K=>ZA none h true 20 args fun a=>U9 a fun xs=>Z6 (xs.length<=B) (K (.ret (.nslice ⟨h.next,0,0,0,0⟩ 1 (P xs).length (P xs).length)) ⟨h.next+1,(h.next,.ints .u8 (P xs))::h.bs⟩)
theorem Zdg (B:Nat) (hB:B<=100000000000) (args:List AV) (h:Z8) (K:KO) (hl:Zhr UW B args h K):Ze PP 268 args h K:=by
 refine Zs.fsumm (d:=20) (Zk _ _ _ _ _ hl fun a ha=> ?_)
 obtain ⟨xs,rfl,hK⟩:=W1 ha
 obtain ⟨hx,hK⟩:=Zb hK
 exact ⟨_,_,_,_,Zb0 xs (Kp hx hB),rfl,⟨JN,.ints _ _,trivial⟩,hK⟩
def toE (x d:Int):Int:=u8.wrap (Int.tmod (u32.wrap (Int.tdiv x d)) 256)
def toN (x:List Int):Nat->List Int
 | 0=>Z5
 | i+1=>((((toN x i).set (4*i) (u8.wrap (u32.wrap (Int.tdiv (x.getD i 0) 16777216)))).set (4*i+1) (toE (x.getD i 0) 65536)).set (4*i+2) (toE (x.getD i 0) 256)).set (4*i+3) (u8.wrap (Int.tmod (x.getD i 0) 256))
theorem Z5E (x:List Int):∀i,(toN x i).length=32
 | 0=>rfl
 | i+1=>by simp [toN,Z5E x i]
def toS (x h:List Int) (i:Nat):St:=⟨47,[(4,.int .i64 i),(1,pt 0),(3,pt 2),(2,pt 1)],⟨3,[(2,.flat [.arr .u8 32 h]),(1,.flat [.arr .u8 32 Z5]),(0,.flat [.arr .u32 8 x])]⟩,[]⟩
theorem Zn8 (x h h':List Int) (i:Nat) (Z1 Z2:Prop) (hi:i<=8) (hl:h.length=32) (hh:h'=(((h.set (4*i) (u8.wrap (u32.wrap (Int.tdiv (x.getD i 0) 16777216)))).set (4*i+1) (toE (x.getD i 0) 65536)).set (4*i+2) (toE (x.getD i 0) 256)).set (4*i+3) (u8.wrap (Int.tmod (x.getD i 0) 256))) (h1:i<8->Z1) (h2:i=8->Z2):
  ZC G0 20 270 0 0 (toS x h i) (rdM 0 0 9 (toS x h' (i+1)) (toS x h i) (toS x h i) (toS x h i) Z1 Z2 False False):=by
 refine @Eq.mpr _ (let q1:=decide (0<=(↑i:Int)/\(↑i:Int)<8);let q2:=0+Int.toNat (↑i:Int);let q3:=decide (q2<8);let q4:=wrap i64 (4*(↑i:Int));let q5:=0+Int.toNat q4;let q6:=wrap i64 (q4+1);let q7:=0+Int.toNat q6;let q8:=List.getD x q2 0;let q9:=List.set h q5 (wrap u8 (wrap u32 (Int.tdiv q8 16777216)));let q10:=wrap i64 (q4+2);let q11:=0+Int.toNat q10;let q12:=List.set q9 q7 (wrap u8 (Int.tmod (wrap u32 (Int.tdiv q8 65536)) 256));let q13:=wrap i64 (q4+3);let q14:=0+Int.toNat q13;let q15:=List.set q12 q11 (wrap u8 (Int.tmod (wrap u32 (Int.tdiv q8 256)) 256));
 Z7 (decide ((↑i:Int)<8)) (Z0 q1 (Z0 q3 (Z6 (0<=q4/\q4<32) (Z6 (u8=u8/\q5<32/\q5<List.length h) (Z0 q1 (Z0 q3 (Z6 (0<=q6/\q6<32) (Z6 (u8=u8/\q7<32/\q7<List.length q9) (Z0 q1 (Z0 q3 (Z6 (0<=q10/\q10<32) (Z6 (u8=u8/\q11<32/\q11<List.length q12) (Z0 q1 (Z0 q3 (Z6 (0<=q13/\q13<32) (Z6 (u8=u8/\q14<32/\q14<List.length q15) (Z6 (wrap i64 ((↑i:Int)+1)=(↑(i+1):Int)) (List.set q15 q14 (wrap u8 (Int.tmod q8 256))=h'/\Z5=Z5/\x=x/\Z1)))))))))))))))))) (Z6 ((↑i:Int)=(↑i:Int)) (h=h/\Z5=Z5/\x=x/\Z2))) (by kernel_rfl) ?_
 conv=>zeta
 try simp only [vcA]
 try simp only [vcB]
 try simp only [vcC]
 have hw:i64.wrap ((i:Int)+1)=((i+1:Nat):Int):=w64 (by omega)
 refine ⟨fun hlt=> ?_,fun hge=>h2 (by omega)⟩
 have e0:i64.wrap (4*(i:Int))=((4*i:Nat):Int):=by rw [w64 (by omega)];omega
 have e1:i64.wrap (((4*i:Nat):Int)+1)=((4*i+1:Nat):Int):=by rw [w64 (by omega)];omega
 have e2:i64.wrap (((4*i:Nat):Int)+2)=((4*i+2:Nat):Int):=by rw [w64 (by omega)];omega
 have e3:i64.wrap (((4*i:Nat):Int)+3)=((4*i+3:Nat):Int):=by rw [w64 (by omega)];omega
 simp only [e0,e1,e2,e3,hw,JW,Kb]
 repeat' (first|(refine Jc ?_ ?_)|intro _)
 all_goals first|omega|exact hh.symm|exact h1 (by omega)|trivial
noncomputable def ZiM (x:List Int):Zd:=G0.withL 270 0 (goM 0 (toS x Z5 0) True (Yu 0 8 9 (fun i=>i<8) (fun i=>i=8) (fun _=>False) (fun _=>False) (fun i=>toS x (toN x i) i) (fun i=>toS x (toN x i) i) (fun i=>toS x (toN x i) i)))
theorem Zg4 (x:List Int):(ZiM x).Ok:=by
 unfold ZiM
 refine Zd.withGoM (N:=20) (S:=fun i=>toS x (toN x i) i) Zm (by kernel_rfl) fun hC=>⟨rfl,fun i hi hgo=> ?_⟩
 exact Zn8 x (toN x i) (toN x (i+1)) i _ _ hi (Z5E x i) rfl (fun h=>⟨h,h⟩) (fun h=>h)
@[irreducible] def Uj (x:List Int):List Int:=toN x 8
attribute [irreducible] toN
theorem Zn9 (x r:List Int) (hr:r=toN x 8):
  evF (ZiM x) 20 270 [.agg [.arr .u32 8 x]] ⟨0,[]⟩ (Yq 0 [] (.agg [.arr .u8 32 r]) 0 []):=by
 refine @Eq.mpr _ (Z5=Z5/\Z5=Z5/\x=x/\True/\∀(i:Nat),i<=8->(∀(j:Nat),j<i->(fun (i:Nat)=>i<8) j)->(i=8->toN x i=r/\True)/\(False->Z5=r/\True)/\(False->False)) (by kernel_rfl) ?_
 try simp only [vcA]
 try simp only [vcB]
 try simp only [vcC]
 subst hr
 exact fun i hi _=>⟨fun he=>by subst he;rfl,fun h=>h.elim,fun h=>h⟩
def Zdh (T:List Int->List Int):ZH:=fun args _ K=>match args with
 | [.agg [.arr .u32 8 x]]=>K (.agg [.arr .u8 32 (T x)])
 | _=>False
theorem Zdi (args:List AV) (h:Z8) (K:AV->Prop) (hl:Zdh Uj args h K):Ze PP 270 args h fun o h'=>∃v,o=.ret v/\h'=h/\K v:=by
 unfold Zdh at hl
 split at hl
 ·rename_i x
  refine UO (d:=20) (K0:=fun l=>l=[.agg [.arr .u32 8 x]]) ?_ fun l e=>⟨_,by rw [e];exact (by unfold Uj;exact .ev (Zg4 x) (Zn9 x _ rfl)),fun _=>rfl,hl⟩
  rfl
 ·exact hl.elim
def Z5F (P:List Int->List Int->List Int):ZH:=fun args _ K=>match args with
 | [.agg [.arr .u32 8 st],.agg [.arr .u8 64 bl]]=>Z6 (st.length=8) (K (.agg [.arr .u32 8 (P st bl)]))
 | _=>False
structure Qk (P:List Int->List Int->List Int):Prop where
 pure:∀st bl,st.length=8->Zs PP 269 [.agg [.arr .u32 8 st],.agg [.arr .u8 64 bl]] (.agg [.arr .u32 8 (P st bl)]) 0 []
 len:∀st bl,st.length=8->(P st bl).length=8
theorem Z8C {P:List Int->List Int->List Int} (hP:Qk P) (args:List AV) (h:Z8) (K:AV->Prop) (hl:Z5F P args h K):Ze PP 269 args h fun o h'=>∃v,o=.ret v/\h'=h/\K v:=by
 unfold Z5F at hl
 split at hl
 ·rename_i st bl
  obtain ⟨hs,hK⟩:=Zb hl
  refine UO (d:=20) (K0:=fun l=>l=[.agg [.arr .u32 8 st],.agg [.arr .u8 64 bl]]) ?_ fun l e=>⟨_,by rw [e];exact hP.pure st bl hs,fun _=>rfl,hK⟩
  rfl
 ·exact hl.elim
noncomputable def E56 (P:List Int->List Int->List Int) (Q:List Int->List Int) (T:List Int->List Int) (B:Nat):Zd:=((G0.withP 269 (Z5F P)).withF 268 (Zhr Q B)).withP 270 (Zdh T)
theorem ZiN {P:List Int->List Int->List Int} (hP:Qk P) (hB:B<=100000000000):(E56 P UW Uj B).Ok:=Zd.withP_ok (Zd.withF_ok (Zd.withP_ok Zm (Z8C hP)) (Zdg B hB)) Zdi
def Zg5 (ys st:List Int) (o n:Nat):St:=⟨21,[(4,.nslice ⟨3,0,0,0,o⟩ 1 n n),(3,pt 2),(2,pt 0)],⟨4,[(3,.ints .u8 ys),(2,.flat [.arr .u32 8 st]),(0,.flat [.arr .u8 32 Z5])]⟩,[]⟩
def Zb1 (st:List Int):St:=⟨21,[(3,pt 2),(2,pt 0)],⟨4,[(2,.flat [.arr .u32 8 st]),(0,.flat [.arr .u8 32 Z5])]⟩,[]⟩
theorem ZkZ (P:List Int->List Int->List Int) (Q:List Int->List Int) (T:List Int->List Int) (B:Nat) (ys st st':List Int) (o o' n n' k i:Nat) (Z1 Z2:Prop) (hi:i<=k) (hk:ys.length=64*k) (ho:o=64*i) (ho':o'=64*(i+1)) (hn:n=64*k-64*i) (hn':n'=64*k-64*(i+1)) (hs:st.length=8) (hst:st'=P st ((ys.drop o).take 64)) (h1:i<k->Z1) (h2:i=k->Z2):
  ZC (E56 P Q T B) 20 208 0 0 (Zg5 ys st o n) (rdM 0 0 9 (Zg5 ys st' o' n') (Zb1 st) (Zb1 st) (Zb1 st) Z1 Z2 False False):=by
 refine @Eq.mpr _ (let q1:=decide (n<=n);let q2:=decide ((0:Int)<=64/\64<=(↑n:Int));let q3:=Z0j n (some 64);
 Z7 (decide ((↑n:Int)>0)) (Z0 q1 (Z0 q2 (Z6 (o+0+64<=List.length ys) (Z6 (List.length st=8) (Z0 q1 (Z0 q2 (Z6 (o+64=o') (Z6 (q3=n') (Z6 (n'<=q3) (ys=ys/\P st (List.take 64 (List.drop (o+0) ys))=st'/\Z5=Z5/\Z1)))))))))) (st=st/\Z5=Z5/\Z2)) (by kernel_rfl) ?_
 conv=>zeta
 try simp only [vcA]
 try simp only [vcB]
 try simp only [vcC]
 refine ⟨fun hlt=> ?_,fun hge=>h2 (by omega)⟩
 have e1:n-64=n':=by omega
 have e2:o+64=o':=by omega
 simp only [Z0j,e1,e2,Kq]
 repeat' (first|(refine Jc ?_ ?_)|intro _)
 all_goals first|omega|exact hst.symm|exact h1 (by omega)|trivial
def Qr (P:List Int->List Int->List Int) (ys:List Int):Nat->List Int
 | 0=>Yr.st
 | i+1=>P (Qr P ys i) ((ys.drop (64*i)).take 64)
theorem Z6U {P:List Int->List Int->List Int} (hP:Qk P) (ys:List Int):∀i,(Qr P ys i).length=8
 | 0=>rfl
 | i+1=>hP.len _ _ (Z6U hP ys i)
theorem Z4I (P:List Int->List Int->List Int) (ys:List Int):Qr P ys 0=Yr.st:=rfl
theorem Z4J (P:List Int->List Int->List Int) (ys:List Int) (i:Nat):Qr P ys (i+1)=P (Qr P ys i) ((ys.drop (64*i)).take 64):=rfl
attribute [irreducible] Qr
noncomputable def ZiO (P:List Int->List Int->List Int) (Q:List Int->List Int) (T:List Int->List Int) (B:Nat) (ys:List Int) (L k:Nat):Zd:=(E56 P Q T B).withL 208 0 (goM 0 (Zg5 ys [1779033703,3144134277,1013904242,2773480762,1359893119,2600822924,528734635,1541459225] 0 L) (ys.length=64*k/\L=64*k) (Yu 0 k 9 (fun i=>i<k) (fun i=>i=k) (fun _=>False) (fun _=>False) (fun i=>Zb1 (Qr P ys i)) (fun i=>Zb1 (Qr P ys i)) (fun i=>Zb1 (Qr P ys i))))
theorem Zg6 {P:List Int->List Int->List Int} (hP:Qk P) (hB:B<=100000000000) (ys:List Int) (L k:Nat):(ZiO P UW Uj B ys L k).Ok:=by
 unfold ZiO
 refine Zd.withGoM (N:=20) (S:=fun i=>Zg5 ys (Qr P ys i) (64*i) (64*k-64*i)) (ZiN hP hB) (by kernel_rfl) fun hC=>⟨?_,fun i hi hgo=> ?_⟩
 ·rw [hC.2,Z4I];rfl
 ·exact ZkZ P UW Uj B ys (Qr P ys i) (Qr P ys (i+1)) _ _ _ _ k i _ _ hi hC.1 rfl rfl rfl rfl (Z6U hP ys i) (Z4J _ _ _) (fun h=>⟨h,h⟩) (fun h=>h)
theorem Zl0 (P:List Int->List Int->List Int) (Q:List Int->List Int) (T:List Int->List Int) (B:Nat) (bs ys r:List Int) (n L k:Nat) (hn:n=bs.length) (hB:n<=B) (hy:ys=Q bs) (hL:L=ys.length) (hk:ys.length=64*k) (hr:r=T (Qr P ys k)):
  evF (ZiO P Q T B ys L k) 20 208 [.vints .u8 bs n] ⟨0,[]⟩ (Yq 0 [] (.agg [.arr .u8 32 r]) 0 []):=by
 refine @Eq.mpr _ (let q1:=[(1779033703:Int),3144134277,1013904242,2773480762,1359893119,2600822924,528734635,1541459225];
 Z6 (n=List.length bs) (Z6 (List.length bs<=B) (Z6 (List.length (Q bs)=L) (Z6 (L<=List.length (Q bs)) (Q bs=ys/\q1=q1/\Z5=Z5/\(List.length ys=64*k/\L=64*k)/\∀(i:Nat),i<=k->(∀(j:Nat),j<i->(fun (i:Nat)=>i<k) j)->(i=k->T (Qr P ys i)=r/\True)/\(False->Z5=r/\True)/\(False->False)))))) (by kernel_rfl) ?_
 conv=>zeta
 try simp only [vcA]
 try simp only [vcB]
 try simp only [vcC]
 subst hy hr
 refine ⟨hn,by omega, ?_⟩
 exact ⟨hL.symm,by omega,rfl,⟨hk,by omega⟩,fun i hi _=>⟨fun he=>by rw [he],fun h=>h.elim,fun h=>h⟩⟩
theorem Zdj (bs:List Int) (h:bs.length<=100000000000):(UW bs).length=64*((UW bs).length/64):=by
 have:(UW bs).length=bs.length+1+((128-((bs.length:Int)+9)%64)%64).toNat+8:=by
  unfold UW Z1P
  rw [Zg3 _ h]
  simp only [J7,Js,Jy,Z3q,List.length_replicate]
 omega
@[irreducible] def Zdk (P:List Int->List Int->List Int) (bs:List Int):List Int:=Uj (Qr P (UW bs) ((UW bs).length/64))
theorem Zb2 {P:List Int->List Int->List Int} (hP:Qk P) (bs:List Int) (h:bs.length<=100000000000):Zs PP 208 [.vints .u8 bs bs.length] (.agg [.arr .u8 32 (Zdk P bs)]) 0 []:=by
 unfold Zdk
 exact .ev (Zg6 hP (J4 _) _ _ _) (Zl0 P UW Uj 100000000000 bs _ _ _ _ _ rfl h rfl rfl (Zdj bs h) rfl)
def Z6V (H:List Int->List Int) (B:Nat):ZH:=fun args h K=>ZA none h true 20 args fun a=>U9 a fun xs=>Z6 (xs.length<=B) (K (.agg [.arr .u8 32 (H xs)]))
theorem Z6W {f:FuncId} (hp:∀xs:List Int,xs.length<=B->Zs PP f [.vints .u8 xs xs.length] (.agg [.arr .u8 32 (H xs)]) 0 []) (args:List AV) (h:Z8) (K:AV->Prop) (hl:Z6V H B args h K):Ze PP f args h fun o h'=>∃v,o=.ret v/\h'=h/\K v:=by
 refine Zs.psumm (d:=20) (Zk _ _ _ _ _ hl fun a ha=> ?_)
 obtain ⟨xs,rfl,hK⟩:=W1 ha
 obtain ⟨hx,hK⟩:=Zb hK
 exact ⟨_,hp xs hx,fun _=>rfl,hK⟩
noncomputable def ZiP (H:List Int->List Int) (B:Nat):Zd:=G0.withP 208 (Z6V H B)
theorem Zl1 (H:List Int->List Int) (B:Nat) (bs r:List Int) (n:Nat) (hn:n=bs.length) (hb:n<=B) (h32:32<=B) (hl:(H bs).length=32) (hr:r=H (H bs)):
  evF (ZiP H B) 20 206 [.vints .u8 bs n] ⟨0,[]⟩ (Yq 0 [] (.agg [.arr .u8 32 r]) 0 []):=by
 refine @Eq.mpr _ (let q1:=List.length (H bs);
 Z6 (n=List.length bs) (Z6 (List.length bs<=B) (Z6 (q1=32) (Z6 (32=q1) (Z6 (q1<=B) (H (H bs)=r/\True)))))) (by kernel_rfl) ?_
 conv=>zeta
 try simp only [vcA]
 try simp only [vcB]
 try simp only [vcC]
 subst hr
 exact ⟨hn,by omega,hl,hl.symm,by omega,rfl⟩
theorem Z9E (hp:∀xs:List Int,xs.length<=B->Zs PP 208 [.vints .u8 xs xs.length] (.agg [.arr .u8 32 (H xs)]) 0 []):(ZiP H B).Ok:=Zd.withP_ok Zm (Z6W hp)
def kxE (key:List Int) (c:Int) (i:Nat):Int:=if (i:Int)<32 then Yh .u8 (key.getD i 0) c else c
def kxR (key:List Int) (c:Int):Nat->List Int
 | 0=>[]
 | i+1=>kxR key c i++[kxE key c i]
theorem Z0F (key:List Int) (c:Int):∀i,(kxR key c i).length=i
 | 0=>rfl
 | i+1=>by rw [kxR,J7,Z0F key c i];rfl
def tgS (key ms xs ys:List Int) (i:Nat):St:=⟨47,[(8,.int .i64 i),(0,.vints .u8 key 32),(6,.nslice ⟨1,0,0,0,0⟩ 1 i i),(7,.nslice ⟨2,0,0,0,0⟩ 1 i i),(1,.vints .u8 ms 32),(4,pt 0)],⟨3,[(2,.ints .u8 ys),(1,.ints .u8 xs),(0,.flat [.arr .u8 32 Z5])]⟩,[]⟩
def tgE (ms xs ys:List Int) (i:Nat):St:=⟨47,[(6,.nslice ⟨1,0,0,0,0⟩ 1 i i),(7,.nslice ⟨2,0,0,0,0⟩ 1 i i),(1,.vints .u8 ms 32),(4,pt 0)],⟨3,[(2,.ints .u8 ys),(1,.ints .u8 xs),(0,.flat [.arr .u8 32 Z5])]⟩,[]⟩
theorem Zna (key ms xs ys xs' ys':List Int) (i:Nat) (Z1 Z2:Prop) (hi:i<=64) (hx:xs.length=i) (hy:ys.length=i) (hx':xs'=xs++[kxE key 54 i]) (hy':ys'=ys++[kxE key 92 i]) (h1:i<64->Z1) (h2:i=64->Z2):
  ZC G0 20 125 0 0 (tgS key ms xs ys i) (rdM 0 0 9 (tgS key ms xs' ys' (i+1)) (tgE ms xs ys i) (tgE ms xs ys i) (tgE ms xs ys i) Z1 Z2 False False):=by
 refine @Eq.mpr _ (let q1:=decide (u8=u8/\List.length xs=i);let q2:=List.getD key (Int.toNat (↑i:Int)) 0;let q3:=xs++[Yh u8 q2 54];let q4:=List.length q3;let q5:=decide (u8=u8/\List.length ys=i);let q6:=ys++[Yh u8 q2 92];let q7:=List.length q6;let q8:=i+1;let q9:=decide (wrap i64 ((↑i:Int)+1)=(↑q8:Int));let q10:=xs++[(54:Int)];let q11:=List.length q10;let q12:=ys++[(92:Int)];let q13:=List.length q12;let q14:=decide (i=i);let q15:=decide (i<=i);
 Z7 (decide ((↑i:Int)<64)) (Z7 (decide ((↑i:Int)<32)) (Z6 (0<=(↑i:Int)/\(↑i:Int)<32) (Z0 q1 (Z6 (q4*1<=140737488355328) (Z0 q5 (Z6 (q7*1<=140737488355328) (Z0 q9 (key=key/\Z6 (q4=q8) (Z6 (q8<=q4) (Z6 (q7=q8) (Z6 (q8<=q7) (ms=ms/\q6=ys'/\q3=xs'/\Z5=Z5/\Z1))))))))))) (Z0 q1 (Z6 (q11*1<=140737488355328) (Z0 q5 (Z6 (q13*1<=140737488355328) (Z0 q9 (key=key/\Z6 (q11=q8) (Z6 (q8<=q11) (Z6 (q13=q8) (Z6 (q8<=q13) (ms=ms/\q12=ys'/\q10=xs'/\Z5=Z5/\Z1))))))))))) (Z0 q14 (Z0 q15 (Z0 q14 (Z0 q15 (ms=ms/\ys=ys/\xs=xs/\Z5=Z5/\Z2)))))) (by kernel_rfl) ?_
 conv=>zeta
 try simp only [vcA]
 try simp only [vcB]
 try simp only [vcC]
 have hw:i64.wrap ((i:Int)+1)=((i+1:Nat):Int):=w64 (by omega)
 refine ⟨fun hlt=>⟨fun h32=> ?_,fun h32=> ?_⟩,fun hge=> ?_⟩
 ·unfold kxE at hx' hy'
  rw [if_pos h32] at hx' hy'
  simp only [hw,J7,Js,Jy,hx,hy]
  repeat' (first|(refine Jc ?_ ?_)|intro _)
  all_goals first|omega|exact hx'.symm|exact hy'.symm|exact h1 (by omega)|trivial
 ·unfold kxE at hx' hy'
  rw [if_neg h32] at hx' hy'
  simp only [hw,J7,Js,Jy,hx,hy]
  repeat' (first|(refine Jc ?_ ?_)|intro _)
  all_goals first|omega|exact hx'.symm|exact hy'.symm|exact h1 (by omega)|trivial
 ·exact h2 (by omega)
noncomputable def E57 (H:List Int->List Int) (B:Nat) (key ms:List Int):Zd:=(ZiP H B).withL 125 0 (goM 0 (tgS key ms [] [] 0) True (Yu 0 64 9 (fun i=>i<64) (fun i=>i=64) (fun _=>False) (fun _=>False) (fun i=>tgE ms (kxR key 54 i) (kxR key 92 i) i) (fun i=>tgE ms (kxR key 54 i) (kxR key 92 i) i) (fun i=>tgE ms (kxR key 54 i) (kxR key 92 i) i)))
theorem ZiQ (hp:∀xs:List Int,xs.length<=B->Zs PP 208 [.vints .u8 xs xs.length] (.agg [.arr .u8 32 (H xs)]) 0 []) (key ms:List Int):(E57 H B key ms).Ok:=by
 unfold E57
 refine Zd.withL_join (H:=G0) (Z9E hp) rfl ?_
 refine Zd.withGoM (N:=20) (S:=fun i=>tgS key ms (kxR key 54 i) (kxR key 92 i) i) Zm (by kernel_rfl) fun hC=>⟨rfl,fun i hi hgo=> ?_⟩
 exact Zna key ms _ _ (kxR key 54 (i+1)) (kxR key 92 (i+1)) i _ _ hi (Z0F _ _ _) (Z0F _ _ _) rfl rfl (fun h=>⟨h,h⟩) (fun h=>h)
attribute [irreducible] kxR
theorem Z0G {n:Nat} (h:xs.length=n):List.take n (Y0 0 xs)=xs:=by subst h;rw [Yk,Kn,JE]
theorem Znb (H:List Int->List Int) (B:Nat) (key ms r:List Int) (hk:key.length=32) (hm:ms.length=32) (hB:128<=B) (hl:∀x,(H x).length=32) (hr:r=H (kxR key 92 64++H (kxR key 54 64++ms))):
  evF (E57 H B key ms) 20 125 [.vints .u8 key 32,.vints .u8 ms 32] ⟨0,[]⟩ (Yq 0 [] (.agg [.arr .u8 32 r]) 0 []):=by
 refine @Eq.mpr _ (key=key/\
 ms=ms/\
 ([]:List Int)=[]/\
 ([]:List Int)=[]/\
 Z5=Z5/\
 True/\
 ∀(i:Nat),
 let q1:=[]++List.take i (Y0 0 (kxR key 54 i));let q2:=List.length q1;let q3:=q1++List.take 32 ms;let q4:=List.length q3;let q5:=List.take q4 (Y0 0 q3);let q6:=List.length q5;let q7:=[]++List.take i (Y0 0 (kxR key 92 i));let q8:=List.length q7;let q9:=H q5;let q10:=q7++q9;let q11:=List.length q10;let q12:=List.take q11 (Y0 0 q10);let q13:=List.length q12;
 i<=64->(∀(j:Nat),j<i->(fun (i:Nat)=>i<64) j)->(i=64->Z6 (u8=u8/\0+i<=List.length (kxR key 54 i)) (Z6 (q2*1<=140737488355328) (Z6 (u8=u8/\q2=q2) (Z6 (q4*1<=140737488355328) (Z6 (0+q4<=q4) (Z6 (q4=q6) (Z6 (q6<=B) (Z6 (u8=u8/\0+i<=List.length (kxR key 92 i)) (Z6 (q8*1<=140737488355328) (Z6 (u8=u8/\List.length q9=32) (Z6 (u8=u8/\q8=q8) (Z6 (q11*1<=140737488355328) (Z6 (0+q11<=q11) (Z6 (q11=q13) (Z6 (q13<=B) (H q12=r/\True))))))))))))))))/\(False->Z5=r/\True)/\(False->False)) (by kernel_rfl) ?_
 conv=>zeta
 try simp only [vcA]
 try simp only [vcB]
 try simp only [vcC]
 refine fun i hi _=>⟨fun he=> ?_,fun h=>h.elim,fun h=>h⟩
 subst he
 have a1:=Z0F key 54 64
 have a2:=Z0F key 92 64
 have e1:=Z0G a1
 have e2:=Z0G a2
 have e3:List.take 32 ms=ms:=by rw [<-hm];exact JE
 simp only [e1,e2,e3,JZ,Z0G rfl]
 have l1:=hl (kxR key 54 64++ms)
 subst hr
 simp only [J7,a1,a2,hm,l1]
 repeat' (first|(refine Jc ?_ ?_)|intro _)
 all_goals first|omega|trivial
@[irreducible] def UX (H:List Int->List Int) (key ms:List Int):List Int:=H (kxR key 92 64++H (kxR key 54 64++ms))
theorem Zb3 (hp:∀xs:List Int,xs.length<=B->Zs PP 208 [.vints .u8 xs xs.length] (.agg [.arr .u8 32 (H xs)]) 0 []) (hB:128<=B) (hl:∀x,(H x).length=32) (key ms:List Int) (h1:key.length=32) (h2:ms.length=32):Zs PP 125 [.vints .u8 key 32,.vints .u8 ms 32] (.agg [.arr .u8 32 (UX H key ms)]) 0 []:=by
 unfold UX
 exact .ev (ZiQ hp _ _) (Znb H B _ _ _ h1 h2 hB hl rfl)
def Zdl (T:List Int->List Int->List Int):ZH:=fun args h K=>ZA none h true 20 args fun a=>match a with
 | [.vints .u8 key len,.vints .u8 ms len']=>Z6 (key.length=32/\len=32/\ms.length=32/\len'=32) (K (.agg [.arr .u8 32 (T key ms)]))
 | _=>False
theorem Zdm (hp:∀xs:List Int,xs.length<=B->Zs PP 208 [.vints .u8 xs xs.length] (.agg [.arr .u8 32 (H xs)]) 0 []) (hB:128<=B) (hl:∀x,(H x).length=32) (args:List AV) (h:Z8) (K:AV->Prop) (hl':Zdl (UX H) args h K):Ze PP 125 args h fun o h'=>∃v,o=.ret v/\h'=h/\K v:=by
 refine Zs.psumm (d:=20) (Zk _ _ _ _ _ hl' fun a ha=> ?_)
 split at ha
 ·obtain ⟨⟨h1,rfl,h2,rfl⟩,hK⟩:=Zb ha
  exact ⟨_,Zb3 hp hB hl _ _ h1 h2,fun _=>rfl,hK⟩
 ·exact ha.elim
@[irreducible] def Ub (H:List Int->List Int) (bs:List Int):List Int:=H (H bs)
theorem Zb4 (hp:∀xs:List Int,xs.length<=B->Zs PP 208 [.vints .u8 xs xs.length] (.agg [.arr .u8 32 (H xs)]) 0 []) (hB:128<=B) (hl:∀x,(H x).length=32) (args:List AV) (h:Z8) (K:AV->Prop) (hl':Z6V (Ub H) B args h K):Ze PP 206 args h fun o h'=>∃v,o=.ret v/\h'=h/\K v:=by
 refine Z6W (fun xs hx=> ?_) args h K hl'
 unfold Ub
 exact .ev (Z9E hp) (Zl1 H B xs _ _ rfl hx (by omega) (hl xs) rfl)
def U32 (x:Int):Prop:=0<=x/\x<4294967296
theorem Z6X (x:Int):u32.wrap x=x%4294967296:=by
 unfold wrap
 simp [IntKind.bits,IntKind.signed]
theorem Z1e (x:Int):U32 (u32.wrap x):=by rw [Z6X];unfold U32;omega
theorem XP {x:Int} (h:U32 x):u32.wrap x=x:=by rw [Z6X];unfold U32 at h;omega
theorem wr8 (x:Int):u8.wrap x=x%256:=by
 unfold wrap
 simp [IntKind.bits,IntKind.signed]
theorem Zl2 (x y:Int):U32 (bOr .u32 x y):=Z1e _
theorem V5 (x y:Nat) (hx:x<4294967296) (hy:y<4294967296):Yh .u32 x y=((x^^^y:Nat):Int):=by
 unfold Yh
 rw [XP]
 ·show (((BitVec.ofInt 32 (x:Int)^^^BitVec.ofInt 32 (y:Int)).toNat:Nat):Int)=_
  rw [BitVec.toNat_xor,JL,JL,JS,JS,JJ hx,JJ hy]
 ·unfold U32
  have:=(BitVec.ofInt u32.bits x^^^BitVec.ofInt u32.bits y).isLt
  simp only [IntKind.bits] at this
  simp only [IntKind.bits]
  omega
theorem Z5G (x y:Nat) (hx:x<4294967296) (hy:y<4294967296):bOr .u32 x y=((x|||y:Nat):Int):=by
 unfold bOr
 rw [XP]
 ·show (((BitVec.ofInt 32 (x:Int)|||BitVec.ofInt 32 (y:Int)).toNat:Nat):Int)=_
  rw [BitVec.toNat_or,JL,JL,JS,JS,JJ hx,JJ hy]
 ·unfold U32
  have:=(BitVec.ofInt u32.bits x|||BitVec.ofInt u32.bits y).isLt
  simp only [IntKind.bits] at this
  simp only [IntKind.bits]
  omega
theorem Z3r (x y:Nat) (hx:x<4294967296) (hy:y<4294967296):Ut .u32 x y=((x&&&y:Nat):Int):=by
 unfold Ut
 rw [XP]
 ·show (((BitVec.ofInt 32 (x:Int)&&&BitVec.ofInt 32 (y:Int)).toNat:Nat):Int)=_
  rw [BitVec.toNat_and,JL,JL,JS,JS,JJ hx,JJ hy]
 ·unfold U32
  have:=(BitVec.ofInt u32.bits x&&&BitVec.ofInt u32.bits y).isLt
  simp only [IntKind.bits] at this
  simp only [IntKind.bits]
  omega
theorem U32.nat {x:Int} (h:U32 x):∃n:Nat,x=n/\n<4294967296:=⟨x.toNat,by unfold U32 at h;omega,by unfold U32 at h;omega⟩
theorem U32.of {n:Nat} (h:n<4294967296):U32 (n:Int):=by unfold U32;omega
theorem Zb5 {x y:Int}:Yh .u32 x y=Yh .u32 y x:=by unfold Yh;rw [BitVec.xor_comm]
theorem Z8D {x y z:Int} (hx:U32 x) (hy:U32 y) (hz:U32 z):Yh .u32 (Yh .u32 x y) z=Yh .u32 x (Yh .u32 y z):=by
 obtain ⟨x,rfl,gx⟩:=hx.nat
 obtain ⟨y,rfl,gy⟩:=hy.nat
 obtain ⟨z,rfl,gz⟩:=hz.nat
 rw [V5 x y gx gy,V5 y z gy gz,V5 _ z (Kr (n:=32) gx gy) gz,V5 x _ gx (Kr (n:=32) gy gz),Nat.xor_assoc]
theorem Zb6 {x:Int} (hx:U32 x):Yh .u32 0 x=x:=by
 obtain ⟨x,rfl,gx⟩:=hx.nat
 have:=V5 0 x (by omega) gx
 simpa using this
theorem Z5H (x n:Nat) (hn:n<=32):Zq .u32 x n=((x/2^n:Nat):Int):=by
 unfold Zq
 have:min (n:Int).toNat u32.bits=n:=by simp [IntKind.bits];omega
 rw [this,Ku _ (Int.le_of_lt (Int.pow_pos (by decide)))]
 simp
theorem Zl3 {x:Int} (hx:U32 x) (n:Nat) (hn:n<=32):U32 (Zq .u32 x n):=by
 obtain ⟨x,rfl,gx⟩:=hx.nat
 rw [Z5H x n hn]
 exact U32.of (K2 (Nat.div_le_self x (2^n)) gx)
theorem Z8E (w n:Int):U32 (Z88 w n):=Zl2 _ _
theorem Z9F {w:Int} (hw:U32 w) (a b c:Int):sg3 a b c w=WA 32 [a,b,c] w:=by
 obtain ⟨x,rfl,gx⟩:=hw.nat
 have h0:Zq .u32 (x:Int) 32=0:=by
  rw [show (32:Int)=((32:Nat):Int) from rfl,Z5H x 32 (by omega),Nat.div_eq_of_lt gx]
  rfl
 unfold sg3 WA
 simp only [Ks,List.foldl_nil,h0,Zb6 (Z8E _ _)]
theorem Z9G {w:Int} (hw:U32 w) (a b:Int) (n:Nat) (hn:n<=32):rg3 a b n w=WA n [a,b] w:=by
 have hs:=Zl3 hw n hn
 unfold rg3 WA
 simp only [Ks,List.foldl_nil]
 rw [Zb5,Z8D hs (Z8E _ _) (Z8E _ _)]
theorem WJ (x i:Nat) (hi:i<=32):Int.tmod (Zq .u32 x i) 2=(((x.testBit i).toNat:Nat):Int):=by
 rw [Z5H x i hi]
 rw [Int.tmod_eq_emod_of_nonneg (Int.natCast_nonneg _),Nat.toNat_testBit]
 rfl
theorem Z5I (b:Bool) (i:Nat) (hi:i<32):ZG .u32 ((b.toNat:Nat):Int) i=((2^i*b.toNat:Nat):Int):=by
 unfold ZG
 have:min (i:Int).toNat u32.bits=i:=by simp [IntKind.bits];omega
 rw [this]
 have h2:(2:Nat)^i<2^32:=Nat.pow_lt_pow_right (by decide) hi
 have h3:((2:Nat)^i*b.toNat)<4294967296:=by cases b<;>simp_all
 rw [show ((b.toNat:Nat):Int)*2^i=((2^i*b.toNat:Nat):Int) by push_cast;rw [Int.mul_comm]]
 exact XP (U32.of h3)
theorem Z9H (x i:Nat):x%2^(i+1)=x%2^i+2^i*(x.testBit i).toNat:=by
 rw [Nat.toNat_testBit,Nat.mod_pow_succ]
theorem Z9I (x i:Nat) (hx:x<4294967296) (hi:i<32):u32.wrap (((x%2^i:Nat):Int)+((2^i*(x.testBit i).toNat:Nat):Int))=((x%2^(i+1):Nat):Int):=by
 rw [Z9H]
 rw [XP]
 ·push_cast;rfl
 ·rw [show ((x%2^i:Nat):Int)+((2^i*(x.testBit i).toNat:Nat):Int)=((x%2^i+2^i*(x.testBit i).toNat:Nat):Int) by push_cast;rfl,<-Z9H]
  exact U32.of (K2 (Nat.mod_le _ _) hx)
theorem Z4K (a b c:Nat) (ha:a<4294967296) (hb:b<4294967296) (hc:c<4294967296):∀i,i<=32->Vo a b c i=(((a&&&(b|||c)|||b&&&c)%2^i:Nat):Int)
 | 0,_=>by simp [Vo,Nat.mod_one]
 | i+1,hi=>by
  have hm:(a&&&(b|||c)|||b&&&c)<4294967296:=Nat.or_lt_two_pow (n:=32) (K2 Kz ha) (K2 Kz hb)
  rw [Vo,Z4K a b c ha hb hc i (by omega),WJ a i (by omega),WJ b i (by omega),WJ c i (by omega),<-Z9I _ i hm (by omega)]
  have ht:(a&&&(b|||c)|||b&&&c).testBit i=(a.testBit i&&(b.testBit i||c.testBit i)||b.testBit i&&c.testBit i):=by simp
  rw [ht]
  have h1:=Z5I true i (by omega)
  have hx:u32.wrap (((a&&&(b|||c)|||b&&&c)%2^i:Nat):Int)=(((a&&&(b|||c)|||b&&&c)%2^i:Nat):Int):=XP (U32.of (K2 (Nat.mod_le _ _) hm))
  rw [Z6X,Z6X]
  cases a.testBit i<;>cases b.testBit i<;>cases c.testBit i<;>simp at h1 hx⊢ <;>first|rw [h1]|rw [hx]
theorem Zg7 {a b c:Int} (ha:U32 a) (hb:U32 b) (hc:U32 c):Xw a b c=bOr .u32 (Ut .u32 a (bOr .u32 b c)) (Ut .u32 b c):=by
 obtain ⟨a,rfl,ga⟩:=ha.nat
 obtain ⟨b,rfl,gb⟩:=hb.nat
 obtain ⟨c,rfl,gc⟩:=hc.nat
 have h1:=Nat.or_lt_two_pow (n:=32) gb gc
 have h2:a&&&(b|||c)<4294967296:=K2 Kz ga
 have h3:b&&&c<4294967296:=K2 Kz gb
 rw [Z5G b c gb gc,Z3r a _ ga h1,Z3r b c gb gc,Z5G _ _ h2 h3]
 unfold Xw
 rw [Z4K a b c ga gb gc 32 (by omega),JJ]
 exact Nat.or_lt_two_pow (n:=32) h2 h3
theorem Z4L (a b c:Nat) (ha:a<4294967296) (hb:b<4294967296) (hc:c<4294967296):∀i,i<=32->VU a b c i=(((c^^^(a&&&(b^^^c)))%2^i:Nat):Int)
 | 0,_=>by simp [VU,Nat.mod_one]
 | i+1,hi=>by
  have hm:(c^^^(a&&&(b^^^c)))<4294967296:=Kr (n:=32) hc (K2 Kz ha)
  rw [VU,Z4L a b c ha hb hc i (by omega),WJ a i (by omega),WJ b i (by omega),WJ c i (by omega),<-Z9I _ i hm (by omega)]
  have ht:(c^^^(a&&&(b^^^c))).testBit i=(c.testBit i^^(a.testBit i&&(b.testBit i^^c.testBit i))):=by simp
  rw [ht]
  have h1:=Z5I true i (by omega)
  have h0:=Z5I false i (by omega)
  cases a.testBit i<;>cases b.testBit i<;>cases c.testBit i<;>simp at h1 h0⊢ <;>first|rw [h1]|rw [h0,Int.add_zero]
theorem Zg8 {a b c:Int} (ha:U32 a) (hb:U32 b) (hc:U32 c):Xs a b c=Yh .u32 c (Ut .u32 a (Yh .u32 b c)):=by
 obtain ⟨a,rfl,ga⟩:=ha.nat
 obtain ⟨b,rfl,gb⟩:=hb.nat
 obtain ⟨c,rfl,gc⟩:=hc.nat
 have h1:=Kr (n:=32) gb gc
 have h2:a&&&(b^^^c)<4294967296:=K2 Kz ga
 rw [V5 b c gb gc,Z3r a _ ga h1,V5 _ _ gc h2]
 unfold Xs
 rw [Z4L a b c ga gb gc 32 (by omega),JJ]
 exact Kr (n:=32) gc h2
theorem Z4M (bl:List Int) (t:Nat):Wi bl (t+1)=(Wi bl t).set t (if t<16 then Z8B bl t else Zde (Wi bl t) t):=by rw [Wi]
theorem Z4N (bl:List Int) (s t:Nat) (hs:s<t):∀u,(Wi bl (t+u)).getD s 0=(Wi bl t).getD s 0
 | 0=>rfl
 | u+1=>by
  rw [<-Nat.add_assoc,Z4M,<-Z4N bl s t hs u]
  simp only [J2]
  rw [List.getElem?_set_ne (by omega)]
@[irreducible] def Z1Q (bl:List Int) (t:Nat):Int:=(Wi bl 64).getD t 0
theorem Z0H (bl:List Int) {s t:Nat} (hs:s<t) (ht:t<=64):(Wi bl t).getD s 0=Z1Q bl s:=by
 unfold Z1Q
 have:=Z4N bl s t hs (64-t)
 rw [show t+(64-t)=64 by omega] at this
 exact this.symm
theorem Z9J (bl:List Int) {t:Nat} (ht:t<64):Z1Q bl t=if t<16 then Z8B bl t else Zde (Wi bl t) t:=by
 rw [<-Z0H bl (Nat.lt_succ_self t) (by omega),Z4M]
 simp only [J2]
 rw [List.getElem?_set_self (by rw [Z3o];omega)]
 rfl
theorem Z9K (bl:List Int) {t:Nat} (ht:t<16):Z1Q bl t=Z8B bl t:=by rw [Z9J bl (by omega),if_pos ht]
theorem Z9L (bl:List Int) {t:Nat} (h16:16<=t) (ht:t<64):Z1Q bl t=u32.wrap (u32.wrap (u32.wrap (rg3 17 19 10 (Z1Q bl (t-2))+Z1Q bl (t-7))+rg3 7 18 3 (Z1Q bl (t-15)))+Z1Q bl (t-16)):=by
 rw [Z9J bl (by omega),if_neg (by omega)]
 unfold Zde
 rw [Z0H bl (by omega) (by omega),Z0H bl (by omega) (by omega),Z0H bl (by omega) (by omega),Z0H bl (by omega) (by omega)]
theorem Zdn (bl:List Int) {t:Nat} (ht:t<64):U32 (Z1Q bl t):=by
 by_cases h:t<16
 ·rw [Z9K bl h];exact Z1e _
 ·rw [Z9L bl (by omega) ht];exact Z1e _
theorem Z0I (t:Nat):mAt (t:Int)=t%16:=by
 unfold mAt
 rw [tm (by omega)]
 omega
theorem Vp (i t:Nat) (hi:i<8) (ht:t<=64):atI (i:Int) (t:Int)=(i+64-t)%8:=by
 unfold atI
 rw [w64 (x:=(i:Int)+64) (by omega),w64 (by omega),tm (by omega)]
 omega
theorem Z3s (l:List Int) (i j:Nat) (x:Int) (hi:i<l.length):(l.set i x).getD j 0=if i=j then x else l.getD j 0:=by
 simp only [J2]
 by_cases h:i=j
 ·subst h
  rw [List.getElem?_set_self hi,if_pos rfl];rfl
 ·rw [List.getElem?_set_ne h,if_neg h]
def Ring (bl r:List Int) (t:Nat):Prop:=r.length=16/\∀s,s<max 16 t->max 16 t<=s+16->r.getD (s%16) 0=Z1Q bl s
theorem Ring.step {r:List Int} {t:Nat} (h:Ring bl r t) (ht:t<64):Ring bl (Z00 t r) (t+1):=by
 obtain ⟨hl,hr⟩:=h
 refine ⟨by rw [Z6K,hl],fun s h1 h2=> ?_⟩
 unfold Z00
 by_cases h16:t<16
 ·rw [if_neg (by omega)]
  exact hr s (by omega) (by omega)
 ·rw [if_pos (by omega)]
  have w1:i64.wrap ((t:Int)+1)=((t+1:Nat):Int):=by rw [w64 (by omega)];omega
  have w9:i64.wrap ((t:Int)+9)=((t+9:Nat):Int):=by rw [w64 (by omega)];omega
  have w14:i64.wrap ((t:Int)+14)=((t+14:Nat):Int):=by rw [w64 (by omega)];omega
  have r0:=hr (t-16) (by omega) (by omega)
  have r1:=hr (t-15) (by omega) (by omega)
  have r9:=hr (t-7) (by omega) (by omega)
  have r14:=hr (t-2) (by omega) (by omega)
  rw [show (t-16)%16=t%16 by omega] at r0
  rw [show (t-15)%16=(t+1)%16 by omega] at r1
  rw [show (t-7)%16=(t+9)%16 by omega] at r9
  rw [show (t-2)%16=(t+14)%16 by omega] at r14
  rw [w1,w9,w14,Z0I,Z0I,Z0I,Z0I,r0,r1,r9,r14,Z3s _ _ _ _ (by rw [hl];omega)]
  by_cases hs:s=t
  ·subst hs
   rw [if_pos rfl,Z9L bl (by omega) ht]
   have e1:=Z9G (Zdn bl (t:=s-2) (by omega)) 17 19 10 (by omega)
   have e2:=Z9G (Zdn bl (t:=s-15) (by omega)) 7 18 3 (by omega)
   rw [show ((10:Nat):Int)=10 from rfl] at e1
   rw [show ((3:Nat):Int)=3 from rfl] at e2
   rw [e1,e2]
   simp only [Z6X]
   omega
  ·rw [if_neg (by omega)]
   exact hr s (by omega) (by omega)
def U8 (x:Int):Prop:=0<=x/\x<256
theorem Z27 (x n:Nat) (hn:n<=32) (h:x*2^n<4294967296):ZG .u32 x n=((x*2^n:Nat):Int):=by
 unfold ZG
 have:min (n:Int).toNat u32.bits=n:=by simp [IntKind.bits];omega
 rw [this,show (x:Int)*2^n=((x*2^n:Nat):Int) by push_cast;rfl]
 exact XP (U32.of h)
theorem Z28 (x y:Nat) (hx:x<16777216) (hy:y<256):bOr .u32 (ZG .u32 x 8) y=((x*256+y:Nat):Int):=by
 have:=Z27 x 8 (by omega) (by omega)
 rw [show ((8:Nat):Int)=8 from rfl] at this
 rw [this,Z5G _ _ (by omega) (by omega),<-Nat.shiftLeft_eq,<-Nat.shiftLeft_add_eq_or_of_lt (by omega),Nat.shiftLeft_eq]
theorem UY {P:Int->Prop} {l:List Int} (h:∀x∈l,P x) (h0:P 0) (i:Nat):P (l.getD i 0):=by
 rw [J2]
 cases hg:l[i]? with
 | none=>exact h0
 | some x=>exact h x (K9 hg)
theorem U8.nat {x:Int} (h:U8 x):∃n:Nat,x=n/\n<256:=⟨x.toNat,by unfold U8 at h;omega,by unfold U8 at h;omega⟩
theorem Zg9 (bl:List Int) (hb:∀x∈bl,U8 x) (t:Nat):XT bl (4*t)=Z8B bl t:=by
 unfold XT Z8B
 obtain ⟨a,ea,ha⟩:=(UY (P:=U8) hb (by unfold U8;omega) (4*t)).nat
 obtain ⟨b,eb,hb'⟩:=(UY (P:=U8) hb (by unfold U8;omega) (4*t+1)).nat
 obtain ⟨c,ec,hc⟩:=(UY (P:=U8) hb (by unfold U8;omega) (4*t+2)).nat
 obtain ⟨d,ed,hd⟩:=(UY (P:=U8) hb (by unfold U8;omega) (4*t+3)).nat
 rw [ea,eb,ec,ed]
 rw [XP (x:=(a:Int)) (U32.of (by omega)),XP (x:=(b:Int)) (U32.of (by omega)),XP (x:=(c:Int)) (U32.of (by omega)),XP (x:=(d:Int)) (U32.of (by omega))]
 have z:=Z28 0 a (by omega) ha
 have s0:ZG .u32 0 8=0:=by decide
 rw [show ZG .u32 ((0:Nat):Int) 8=0 from s0] at z
 rw [z,Z28 _ b (by omega) hb',Z28 _ c (by omega) hc,Z28 _ d (by omega) hd]
 have g1:=Z27 a 24 (by omega) (by omega)
 have g2:=Z27 b 16 (by omega) (by omega)
 have g3:=Z27 c 8 (by omega) (by omega)
 rw [show ((24:Nat):Int)=24 from rfl] at g1
 rw [show ((16:Nat):Int)=16 from rfl] at g2
 rw [show ((8:Nat):Int)=8 from rfl] at g3
 rw [g1,g2,g3]
 simp only [Z6X]
 omega
theorem Ring.first (bl:List Int) (hb:∀x∈bl,U8 x):Ring bl (V0 bl) 0:=by
 refine ⟨rfl,fun s h1 _=> ?_⟩
 have h16:s<16:=by omega
 rw [Z9K bl h16,<-Zg9 bl hb,JJ h16]
 have:s=0\/s=1\/s=2\/s=3\/s=4\/s=5\/s=6\/s=7\/s=8\/s=9\/s=10\/s=11\/s=12\/s=13\/s=14\/s=15:=by omega
 rcases this with rfl|rfl|rfl|rfl|rfl|rfl|rfl|rfl|rfl|rfl|rfl|rfl|rfl|rfl|rfl|rfl<;>rfl
def Z3t (x y:List Int) (t:Nat):Prop:=x.length=8/\∀i,i<8->x.getD ((i+64-t)%8) 0=y.getD i 0
theorem Z3t.step {x y m:List Int} {w:Int} {t:Nat} (h:Z3t x y t) (hU:∀i,i<8->U32 (y.getD i 0)) (ht:t<64) (hm:m.getD (t%16) 0=w):
  Z3t (Z3T t m x) (Z1E Xw Xs (Vy.getD t 0) w y) (t+1):=by
 obtain ⟨hl,hr⟩:=h
 have a0:=Vp 0 t (by omega) (by omega)
 have a1:=Vp 1 t (by omega) (by omega)
 have a2:=Vp 2 t (by omega) (by omega)
 have a3:=Vp 3 t (by omega) (by omega)
 have a4:=Vp 4 t (by omega) (by omega)
 have a5:=Vp 5 t (by omega) (by omega)
 have a6:=Vp 6 t (by omega) (by omega)
 have a7:=Vp 7 t (by omega) (by omega)
 have h0:=hr 0 (by omega)
 have h1:=hr 1 (by omega)
 have h2:=hr 2 (by omega)
 have h3:=hr 3 (by omega)
 have h4:=hr 4 (by omega)
 have h5:=hr 5 (by omega)
 have h6:=hr 6 (by omega)
 have h7:=hr 7 (by omega)
 rw [<-a0] at h0
 rw [<-a1] at h1
 rw [<-a2] at h2
 rw [<-a3] at h3
 rw [<-a4] at h4
 rw [<-a5] at h5
 rw [<-a6] at h6
 rw [<-a7] at h7
 refine ⟨by rw [Z6L,hl], ?_⟩
 have hadd:Z16 t m x=u32.wrap (u32.wrap (u32.wrap (u32.wrap (y.getD 7 0+sg3 6 11 25 (y.getD 4 0))+Xs (y.getD 4 0) (y.getD 5 0) (y.getD 6 0))+Vy.getD t 0)+w):=by
  unfold Z16
  rw [Z0I,hm]
  rw [show atI 7 (t:Int)=atI ((7:Nat):Int) t from rfl,show atI 4 (t:Int)=atI ((4:Nat):Int) t from rfl,show atI 5 (t:Int)=atI ((5:Nat):Int) t from rfl,show atI 6 (t:Int)=atI ((6:Nat):Int) t from rfl]
  rw [h4,h5,h6,h7,Z9F (hU 4 (by omega)),Zg8 (hU 4 (by omega)) (hU 5 (by omega)) (hU 6 (by omega))]
  rw [JK,JW]
 unfold Z3T
 rw [hadd]
 rw [show atI 7 (t:Int)=atI ((7:Nat):Int) t from rfl,show atI 3 (t:Int)=atI ((3:Nat):Int) t from rfl,show atI 0 (t:Int)=atI ((0:Nat):Int) t from rfl,show atI 1 (t:Int)=atI ((1:Nat):Int) t from rfl,show atI 2 (t:Int)=atI ((2:Nat):Int) t from rfl]
 rw [h0,h1,h2,h3,<-Zg7 (hU 0 (by omega)) (hU 1 (by omega)) (hU 2 (by omega)),<-Z9F (hU 0 (by omega)),a3,a7]
 intro i hi
 rw [Z3s _ _ _ _ (by rw [Kb,hl];omega),Z3s _ _ _ _ (by rw [hl];omega)]
 unfold Z1E
 have:i=0\/i=1\/i=2\/i=3\/i=4\/i=5\/i=6\/i=7:=by omega
 rcases this with rfl|rfl|rfl|rfl|rfl|rfl|rfl|rfl
 ·rw [if_pos (by omega)]
  simp only [Z6X,List.getD_cons_zero]
  omega
 ·rw [if_neg (by omega),if_neg (by omega),show (1+64-(t+1))%8=(0+64-t)%8 by omega,hr 0 (by omega)];rfl
 ·rw [if_neg (by omega),if_neg (by omega),show (2+64-(t+1))%8=(1+64-t)%8 by omega,hr 1 (by omega)];rfl
 ·rw [if_neg (by omega),if_neg (by omega),show (3+64-(t+1))%8=(2+64-t)%8 by omega,hr 2 (by omega)];rfl
 ·rw [if_neg (by omega),if_pos (by omega)];rfl
 ·rw [if_neg (by omega),if_neg (by omega),show (5+64-(t+1))%8=(4+64-t)%8 by omega,hr 4 (by omega)];rfl
 ·rw [if_neg (by omega),if_neg (by omega),show (6+64-(t+1))%8=(5+64-t)%8 by omega,hr 5 (by omega)];rfl
 ·rw [if_neg (by omega),if_neg (by omega),show (7+64-(t+1))%8=(6+64-t)%8 by omega,hr 6 (by omega)];rfl
theorem Zga {k w:Int} {y:List Int} (hU:∀i,i<8->U32 (y.getD i 0)):∀i,i<8->U32 ((Z1E Xw Xs k w y).getD i 0):=by
 intro i hi
 unfold Z1E
 have:i=0\/i=1\/i=2\/i=3\/i=4\/i=5\/i=6\/i=7:=by omega
 rcases this with rfl|rfl|rfl|rfl|rfl|rfl|rfl|rfl
 ·exact Z1e _
 ·exact hU 0 (by omega)
 ·exact hU 1 (by omega)
 ·exact hU 2 (by omega)
 ·exact Z1e _
 ·exact hU 4 (by omega)
 ·exact hU 5 (by omega)
 ·exact hU 6 (by omega)
def W8 (st:List Int):Prop:=st.length=8/\∀x∈st,U32 x
theorem W8.get {st:List Int} (h:W8 st) (i:Nat):U32 (st.getD i 0):=UY h.2 (by unfold U32;omega) i
theorem Z6Y (bl st:List Int) (hb:∀x∈bl,U8 x) (hs:W8 st):∀t,t<=64->Ring bl (WB (V0 bl) st t).1 t/\Z3t (WB (V0 bl) st t).2 (UV Xw Xs (Wi bl 64) st t) t/\∀i,i<8->U32 ((UV Xw Xs (Wi bl 64) st t).getD i 0)
 | 0,_=>by
  rw [Z4p,ZaZ]
  refine ⟨Ring.first bl hb,⟨hs.1,fun i hi=> ?_⟩,fun i _=>hs.get i⟩
  rw [show (i+64-0)%8=i by omega]
 | t+1,h=>by
  obtain ⟨h1,h2,h3⟩:=Z6Y bl st hb hs t (by omega)
  rw [Z4q,ZaY]
  have hR:=h1.step (by omega)
  refine ⟨hR,h2.step h3 (by omega) ?_,Zga h3⟩
  rw [hR.2 t (by omega) (by omega)]
  unfold Z1Q
  rfl
theorem Zb7 (st x:List Int) (i:Nat):VB st x (i+1)=(VB st x i).set i (u32.wrap ((VB st x i).getD i 0+st.getD i 0)):=by rw [VB]
theorem Zb8 (st x:List Int):VB st x 0=x:=by rw [VB]
theorem Zgb (st x:List Int) (hs:st.length=8) (hx:x.length=8):VB st x 8=ZaB st x:=by
 obtain ⟨a0,a1,a2,a3,a4,a5,a6,a7,rfl⟩:=eight st hs
 obtain ⟨b0,b1,b2,b3,b4,b5,b6,b7,rfl⟩:=eight x hx
 simp only [Zb7,Zb8]
 simp [ZaB,List.set,Int.add_comm]
theorem Z8F {x y:List Int} (h:Z3t x y 64) (hy:y.length=8):y=x:=by
 obtain ⟨h4,h5⟩:=h
 obtain ⟨a0,a1,a2,a3,a4,a5,a6,a7,rfl⟩:=eight _ hy
 obtain ⟨b0,b1,b2,b3,b4,b5,b6,b7,rfl⟩:=eight _ h4
 have g0:=h5 0 (by omega)
 have g1:=h5 1 (by omega)
 have g2:=h5 2 (by omega)
 have g3:=h5 3 (by omega)
 have g4:=h5 4 (by omega)
 have g5:=h5 5 (by omega)
 have g6:=h5 6 (by omega)
 have g7:=h5 7 (by omega)
 simp at g0 g1 g2 g3 g4 g5 g6 g7
 simp [g0,g1,g2,g3,g4,g5,g6,g7]
theorem Z6Z (st bl:List Int) (hb:∀x∈bl,U8 x) (hs:W8 st):XO st bl=Wg st bl:=by
 obtain ⟨_,h2,h3⟩:=Z6Y bl st hb hs 64 (by omega)
 have hl:=Z0E (M:=Xw) (P:=Xs) (m:=Wi bl 64) hs.1 64
 unfold XO Wg
 rw [Zgb _ _ hs.1 hl]
 congr 1
 exact Z8F h2 hl
theorem Z70 (st bl:List Int) (hs:st.length=8):W8 (Wg st bl):=by
 refine ⟨Z4r st bl hs,fun x hx=> ?_⟩
 unfold Wg ZaB at hx
 obtain ⟨i,hi,rfl⟩:=List.getElem_of_mem hx
 simp only [List.getElem_zipWith]
 exact Z1e _
def Qs (P:List Int->List Int->List Int):Nat->List Int->List Int->List Int
 | 0,st,_=>st
 | n+1,st,ms=>Qs P n (P st (ms.take 64)) (ms.drop 64)
theorem Z1f (P:List Int->List Int->List Int):∀(n:Nat) (st ms:List Int),Qs P (n+1) st ms=P (Qs P n st ms) ((ms.drop (64*n)).take 64)
 | 0,_,_=>rfl
 | n+1,st,ms=>by
  rw [Qs,Z1f P n,List.drop_drop]
  rw [show 64+64*n=64*(n+1) by omega]
  rfl
theorem Z3u (P:List Int->List Int->List Int):∀(n:Nat) (st ms more:List Int),64*n<=ms.length->Qs P n st (ms++more)=Qs P n st ms
 | 0,_,_,_,_=>rfl
 | n+1,st,ms,more,h=>by
  rw [Qs,Qs,Kk (by omega),K7 (by omega),Z3u P n _ _ _ (by rw [Jt];omega)]
theorem Z3v:∀(n:Nat) (st ms:List Int),W8 st->(∀x∈ms,U8 x)->Qs XO n st ms=Qs Wg n st ms
 | 0,_,_,_,_=>rfl
 | n+1,st,ms,hs,hm=>by
  rw [Qs,Qs,Z6Z st _ (fun x hx=>hm x (List.mem_of_mem_take hx)) hs]
  exact Z3v n _ _ (Z70 st _ hs.1) fun x hx=>hm x (List.mem_of_mem_drop hx)
structure Rep (r:Zw) (ms:List Int):Prop where
 came:r.came=ms.length
 st:r.st=Qs Wg (ms.length/64) Yr.st ms
 len:r.part.length=64
 part:r.part.take (ms.length%64)=ms.drop (64*(ms.length/64))
theorem Rep.ok {r:Zw} (h:Rep r ms) (h8:r.st.length=8):r.Ok:=⟨h8,h.len,by rw [h.came];omega⟩
theorem Rep.one {r:Zw} (h:Rep r ms) (bs:List Int):Rep (r.one bs) (ms++wTk r.came bs):=by
 have ha:wAt r.came=ms.length%64:=by
  unfold wAt
  rw [h.came,tm (by omega)]
  omega
 have hk:(wTk r.came bs).length<=64-ms.length%64:=by
  unfold wTk
  rw [ha,Jp]
  omega
 have hdl:(ms.drop (64*(ms.length/64))).length=ms.length%64:=by rw [Jt];omega
 have hp:VO r.part r.came bs=ms.drop (64*(ms.length/64))++wTk r.came bs++r.part.drop (ms.length%64+(wTk r.came bs).length):=by
  unfold VO spl
  rw [ha,h.part]
 have hl:(VO r.part r.came bs).length=64:=by
  rw [hp,J7,J7,hdl,Jt,h.len]
  omega
 have hst:(r.one bs).st=if ms.length%64+(wTk r.came bs).length=64 then Wg r.st (VO r.part r.came bs) else r.st:=by
  show wSt _ _ _ _=_
  unfold wSt
  rw [ha]
 have hca:(r.one bs).came=r.came+(wTk r.came bs).length:=rfl
 have hpa:(r.one bs).part=VO r.part r.came bs:=rfl
 generalize wTk r.came bs=tk at*
 generalize VO r.part r.came bs=pa at*
 have hal:(ms++tk).length=ms.length+tk.length:=J7
 refine ⟨by rw [hca,h.came,hal];omega, ?_,by rw [hpa];exact hl, ?_⟩
 ·rw [hst,h.st]
  by_cases h64:ms.length%64+tk.length=64
  ·rw [if_pos h64,hal,show (ms.length+tk.length)/64=ms.length/64+1 by omega,Z1f,Z3u _ _ _ _ _ (by omega)]
   congr 1
   rw [K7 (by omega),hp,show r.part.drop (ms.length%64+tk.length)=[] from K3 (by rw [h.len];omega),JI,JD (by rw [J7,hdl];omega)]
  ·rw [if_neg h64,hal,show (ms.length+tk.length)/64=ms.length/64 by omega,Z3u _ _ _ _ _ (by omega)]
 ·rw [hpa,hal]
  by_cases h64:ms.length%64+tk.length=64
  ·rw [show (ms.length+tk.length)%64=0 by omega,List.take_zero,K3 (by rw [hal];omega)]
  ·rw [show (ms.length+tk.length)/64=ms.length/64 by omega,show (ms.length+tk.length)%64=ms.length%64+tk.length by omega,hp,K7 (by omega)]
   rw [Kk (by rw [J7,hdl];omega)]
   exact JD (by rw [J7,hdl];omega)
theorem Rep.many:∀(n:Nat) (r:Zw) (ms bs:List Int),r.Ok->Rep r ms->bs.length<=n->Rep (Zw.many n r bs).1 (ms++bs)
 | 0,r,ms,bs,_,h,hn=>by
  have:bs=[]:=JV (by omega)
  subst this
  rw [JI]
  exact h
 | n+1,r,ms,bs,hr,h,hn=>by
  unfold Zw.many
  split
  ·rw [JI];exact h
  ·rename_i b bs
   have hp:=Qg hr (bs:=b::bs) (by simp)
   have hb:(b::bs)=wTk r.came (b::bs)++(b::bs).drop (wTk r.came (b::bs)).length:=by
    unfold wTk
    rw [Jp]
    by_cases h:64-wAt r.came<=(b::bs).length
    ·rw [Nat.min_eq_left h,List.take_append_drop]
    ·rw [Nat.min_eq_right (by omega),JD (by omega),List.drop_length,JI]
   have:=Rep.many n _ _ ((b::bs).drop (wTk r.came (b::bs)).length) (hr.one _) (h.one (b::bs)) (by rw [Jt];simp only [Js] at hn⊢;omega)
   rw [JB,<-hb] at this
   exact this
theorem Rep.write {r:Zw} (hr:r.Ok) (h:Rep r ms) (bs:List Int):Rep (r.write bs) (ms++bs):=by
 unfold Zw.write
 exact Rep.many _ _ _ _ hr h (J4 _)
theorem Rep.init:Rep Yr []:=⟨rfl,rfl,rfl,rfl⟩
def Z1g (bs:List Int):List Int:=bs++Qp bs.length++len8 bs.length
def Z8G (P:List Int->List Int->List Int) (bs:List Int):List Int:=Z4u (Qs P ((Z1g bs).length/64) Yr.st (Z1g bs))
theorem Rep.fin {r:Zw} (hr:r.Ok) (h:Rep r ms):r.fin=Z8G Wg ms:=by
 have h1:=h.write hr (Qp r.came)
 have h2:=h1.write (Xl _ _ hr) (len8 r.came)
 unfold Zw.fin Z8G
 rw [h2.st,h.came]
 rfl
theorem Z3w (bs:List Int):Um bs=Z8G Wg bs:=by
 unfold Um
 have:=Rep.init.write Xm bs
 exact this.fin (Xl _ _ Xm)
theorem Z71 (a b:List Int):Z02 a b=Um (a++b):=by
 rw [Z3w]
 unfold Z02
 have h1:=Rep.init.write Xm a
 have h2:=h1.write (Xl _ _ Xm) b
 exact h2.fin (Xl _ _ (Xl _ _ Xm))
theorem Z72:W8 Yr.st:=by
 refine ⟨rfl,fun x hx=> ?_⟩
 simp only [Yr,Jd,List.not_mem_nil,or_false] at hx
 unfold U32
 rcases hx with rfl|rfl|rfl|rfl|rfl|rfl|rfl|rfl<;>omega
theorem Zgc (n:Int):∀x∈Qp n,U8 x:=by
 intro x hx
 unfold Qp at hx
 rcases Ju.mp hx with h|h
 ·rw [Ky] at h
  subst h
  unfold U8;omega
 ·rw [List.eq_of_mem_replicate h]
  unfold U8;omega
theorem Z8H (x:Int):U8 (u8.wrap x):=by rw [wr8];unfold U8;omega
theorem Zgd (n:Int):∀x∈len8 n,U8 x:=by
 intro x hx
 unfold len8 QE at hx
 simp only [Jd,List.not_mem_nil,or_false] at hx
 rcases hx with h|h|h|h|h|h|h|h<;>rw [h]<;>exact Z8H _
theorem Zb9 {bs:List Int} (h:∀x∈bs,U8 x):∀x∈Z1g bs,U8 x:=by
 intro x hx
 unfold Z1g at hx
 rcases Ju.mp hx with h1|h1
 ·rcases Ju.mp h1 with h2|h2
  ·exact h x h2
  ·exact Zgc _ x h2
 ·exact Zgd _ x h1
theorem Zdo (n:Int):∀x∈Vi n,U8 x:=by
 intro x hx
 unfold Vi at hx
 simp only [Jd,List.not_mem_nil,or_false] at hx
 rcases hx with h|h|h|h<;>rw [h]<;>exact Z8H _
theorem Zdp (st:List Int):∀x∈Z4u st,U8 x:=by
 intro x hx
 unfold Z4u at hx
 simp only [Ju] at hx
 rcases hx with (((((((h|h)|h)|h)|h)|h)|h)|h)<;>exact Zdo _ x h
theorem Z5J (bs:List Int):∀x∈Um bs,U8 x:=by rw [Z3w];exact Zdp _
theorem Zge:Qk XO:=⟨fun st bl h=>Z6T st bl h,fun _ _ h=>Z5D h⟩
theorem Zdq (x:List Int) (i:Nat):toN x (i+1)=((((toN x i).set (4*i) (u8.wrap (u32.wrap (Int.tdiv (x.getD i 0) 16777216)))).set (4*i+1) (toE (x.getD i 0) 65536)).set (4*i+2) (toE (x.getD i 0) 256)).set (4*i+3) (u8.wrap (Int.tmod (x.getD i 0) 256)):=by rw [toN]
theorem Zdr (x:List Int):toN x 0=Z5:=by rw [toN]
def four (x:Int):List Int:=[u8.wrap (u32.wrap (Int.tdiv x 16777216)),toE x 65536,toE x 256,u8.wrap (Int.tmod x 256)]
theorem Zba (x:List Int):(Uj x).length=32:=by unfold Uj;exact Z5E x 8
theorem Z8I (x:List Int) (h:x.length=8):Uj x=four (x.getD 0 0)++four (x.getD 1 0)++four (x.getD 2 0)++four (x.getD 3 0)++four (x.getD 4 0)++four (x.getD 5 0)++four (x.getD 6 0)++four (x.getD 7 0):=by
 unfold Uj
 simp only [Zdq,Zdr]
 generalize x.getD 0 0=x0
 generalize x.getD 1 0=x1
 generalize x.getD 2 0=x2
 generalize x.getD 3 0=x3
 generalize x.getD 4 0=x4
 generalize x.getD 5 0=x5
 generalize x.getD 6 0=x6
 generalize x.getD 7 0=x7
 kernel_rfl
theorem Zgf (x:Int):u64.wrap x=x%18446744073709551616:=by
 unfold wrap
 simp [IntKind.bits,IntKind.signed]
theorem Z73 (x n:Nat) (hn:n<=64):Zq .u64 x n=((x/2^n:Nat):Int):=by
 unfold Zq
 have:min (n:Int).toNat u64.bits=n:=by simp [IntKind.bits];omega
 rw [this,Ku _ (Int.le_of_lt (Int.pow_pos (by decide)))]
 simp
theorem XD {x:Int} (h:U32 x):four x=Vi (u64.wrap x):=by
 obtain ⟨x,rfl,gx⟩:=h.nat
 have e:u64.wrap (x:Int)=x:=by rw [Zgf];omega
 have s24:=Z73 x 24 (by omega)
 have s16:=Z73 x 16 (by omega)
 have s8:=Z73 x 8 (by omega)
 have s0:=Z73 x 0 (by omega)
 rw [show ((24:Nat):Int)=24 from rfl] at s24
 rw [show ((16:Nat):Int)=16 from rfl] at s16
 rw [show ((8:Nat):Int)=8 from rfl] at s8
 rw [show ((0:Nat):Int)=0 from rfl] at s0
 have d1:Int.tdiv (x:Int) 16777216=(x:Int)/16777216:=JP (by omega)
 have d2:Int.tdiv (x:Int) 65536=(x:Int)/65536:=JP (by omega)
 have d3:Int.tdiv (x:Int) 256=(x:Int)/256:=JP (by omega)
 unfold four Vi toE
 rw [e,s24,s16,s8,s0,d1,d2,d3]
 simp only [wr8,Z6X]
 rw [tm (a:=(x:Int)/65536%4294967296) (by omega),tm (a:=(x:Int)/256%4294967296) (by omega),tm (a:=(x:Int)) (by omega)]
 simp only [List.cons.injEq,and_true]
 omega
theorem Z8J {x:List Int} (h:W8 x):Uj x=Z4u x:=by
 rw [Z8I x h.1]
 unfold Z4u
 rw [XD (h.get 0),XD (h.get 1),XD (h.get 2),XD (h.get 3),XD (h.get 4),XD (h.get 5),XD (h.get 6),XD (h.get 7)]
theorem XE (n:Nat) (i:Nat) (hi:i<8):Zg1 n i=u8.wrap (Zq .u64 (u64.wrap (u64.wrap n*8)) ((56-8*i:Nat):Int)):=by
 unfold Zg1
 have e1:i64.wrap (8*(i:Int))=8*(i:Int):=w64 (by omega)
 have e2:i64.wrap (56-8*(i:Int))=((56-8*i:Nat):Int):=by rw [w64 (by omega)];omega
 have e3:u64.wrap ((56-8*i:Nat):Int)=((56-8*i:Nat):Int):=by rw [Zgf];omega
 rw [e1,e2,e3]
 obtain ⟨m,hm⟩:∃m:Nat,u64.wrap (u64.wrap n*8)=m:=⟨(u64.wrap (u64.wrap n*8)).toNat,by rw [Zgf,Zgf];omega⟩
 rw [hm,Z73 m _ (by omega)]
 generalize m/2^(56-8*i)=q
 rw [tm (by omega),wr8,wr8]
 omega
theorem Zbb (n:Nat):XS n 8=len8 n:=by
 simp only [XS,JZ,Kw]
 unfold len8 QE
 rw [XE n 0 (by omega),XE n 1 (by omega),XE n 2 (by omega),XE n 3 (by omega),XE n 4 (by omega),XE n 5 (by omega),XE n 6 (by omega),XE n 7 (by omega)]
 rfl
theorem Zbc (n:Nat) (h:n<=100000000000):[128]++Z1P n=Qp n:=by
 unfold Z1P Qp
 have e1:Int.tmod (n:Int) 64=(n:Int)%64:=tm (by omega)
 have e2:i64.wrap (119-(n:Int)%64)=119-(n:Int)%64:=w64 (by omega)
 rw [Zg3 n h,e1,e2,tm (by omega)]
 congr 2
 omega
theorem Zds (bs:List Int) (h:bs.length<=100000000000):UW bs=Z1g bs:=by
 unfold UW Z1g
 rw [Zbb,JB bs,Zbc _ h]
theorem Z4O (P:List Int->List Int->List Int) (ys:List Int):∀i,Qr P ys i=Qs P i Yr.st ys
 | 0=>Z4I P ys
 | i+1=>by rw [Z4J,Z1f,Z4O P ys i]
theorem Z9M:∀(n:Nat) (st ms:List Int),W8 st->W8 (Qs Wg n st ms)
 | 0,_,_,h=>h
 | n+1,st,_,h=>Z9M n _ _ (Z70 st _ h.1)
@[irreducible] def UZ (bs:List Int):List Int:=Zdk XO bs
theorem Z0J (bs:List Int):(UZ bs).length=32:=by unfold UZ Zdk;exact Zba _
theorem Z29 {bs:List Int} (h:∀x∈bs,U8 x) (hl:bs.length<=100000000000):UZ bs=Um bs:=by
 unfold UZ Zdk
 rw [Z4O,Zds bs hl,Z3v _ _ _ Z72 (Zb9 h),Z8J (Z9M _ _ _ Z72),Z3w]
 rfl
theorem Z4P (xs:List Int) (h:xs.length<=100000000000):Zs PP 208 [.vints .u8 xs xs.length] (.agg [.arr .u8 32 (UZ xs)]) 0 []:=by
 unfold UZ
 exact Zb2 Zge xs h
theorem Z9N (c:Int) (b:List Int):∀i,i<=b.length->Z1M c b i=(b.take i).map (fun x=>Yh .u8 x c)++b.drop i
 | 0,_=>by rw [Z4w];simp
 | i+1,h=>by
  rw [Z17,Z9N c b i (by omega)]
  unfold Z38
  have hl:((b.take i).map (fun x=>Yh .u8 x c)).length=i:=by rw [List.length_map,Jp];omega
  obtain ⟨y,hy⟩:∃y,b[i]? =some y:=⟨b[i],Je (by omega)⟩
  have hd:b.drop i=y::b.drop (i+1):=by
   rw [JU (by omega)]
   congr 1
   have:=Je (l:=b) (i:=i) (by omega)
   rw [this] at hy
   exact Option.some.inj hy
  rw [hd,JK,J2,Jf (by omega),hl,KA,List.set_append_right _ _ (by omega),hl,KA]
  rw [List.take_add_one,hy]
  simp
theorem Z3x (c:Int) (b:List Int) (h:b.length=64):V1 c b=b.map (fun x=>Yh .u8 x c):=by
 unfold V1
 rw [Z9N c b 64 (by omega),<-h,JE,List.drop_length,JI]
theorem Z9O (key:List Int) (c:Int) (hk:key.length=32) (h0:Yh .u8 0 c=c):∀i,i<=64->kxR key c i=((key++List.replicate 32 0).take i).map (fun x=>Yh .u8 x c)
 | 0,_=>by rw [kxR];rfl
 | i+1,h=>by
  rw [kxR,Z9O key c hk h0 i (by omega),List.take_add_one,Kc]
  congr 1
  unfold kxE
  by_cases hi:i<32
  ·rw [if_pos (by omega),Jb (by omega),J2,Je (by omega)]
   rfl
  ·rw [if_neg (by omega),Jf (by omega),List.getElem?_replicate,if_pos (by omega)]
   simp [h0]
theorem Zdt (key:List Int) (hk:key.length=32):Vz key=key++List.replicate 32 0:=by
 have e1:List.take 32 key=key:=JD (by rw [hk];exact J4 _)
 have e2:List.take 64 key=key:=JD (by rw [hk];omega)
 unfold Vz spl
 rw [e1,e2,hk]
 rfl
theorem Zdu (key:List Int) (c:Int) (hk:key.length=32) (h0:Yh .u8 0 c=c):kxR key c 64=V1 c (Vz key):=by
 rw [Z3x c _ (VP key),Z9O key c hk h0 64 (by omega),Zdt key hk,JD (by simp [hk])]
theorem Zdv (c:Int) (b:List Int):∀x∈b.map (fun x=>Yh .u8 x c),U8 x:=by
 intro x hx
 obtain ⟨y,_,rfl⟩:=List.mem_map.mp hx
 exact Z8H _
theorem Zdw {a b:List Int} (ha:∀x∈a,U8 x) (hb:∀x∈b,U8 x):∀x∈a++b,U8 x:=fun x hx=>(Ju.mp hx).elim (ha x) (hb x)
theorem Zgg {key:List Int} (hk:key.length=32) (hm:ms.length=32) (hU:∀x∈ms,U8 x):UX UZ key ms=UQ key ms:=by
 have k1:=Zdu key 92 hk (by decide)
 have k2:=Zdu key 54 hk (by decide)
 have l1:=Z0z 92 _ (VP key)
 have l2:=Z0z 54 _ (VP key)
 have u1:∀x∈V1 92 (Vz key),U8 x:=by rw [Z3x _ _ (VP key)];exact Zdv _ _
 have u2:∀x∈V1 54 (Vz key),U8 x:=by rw [Z3x _ _ (VP key)];exact Zdv _ _
 unfold UX UQ
 rw [k1,k2,Z71]
 have h2:((Yr.write (V1 54 (Vz key))).write ms).fin=Um (V1 54 (Vz key)++ms):=by
  rw [<-Z71];unfold Z02;rfl
 rw [h2,Z29 (bs:=V1 54 (Vz key)++ms) (Zdw u2 hU) (by rw [J7,l2,hm];decide)]
 rw [Z29 (Zdw u1 (Z5J _)) (by rw [J7,l1,Z0y];decide)]
theorem Zdx {bs:List Int} (h:∀x∈bs,U8 x) (hl:bs.length<=100000000000):Ub UZ bs=UP bs:=by
 unfold Ub UP
 rw [Z29 h hl,Z29 (Z5J _) (by rw [Z0y];decide)]
noncomputable def E60 (R:TxS->Bool->List Int) (H:List Int->List Int) (T2:List Int->List Int->List Int) (B:Nat):Zd:=((G0.withF 207 (Zd2 R)).withP 206 (Z6V H B)).withP 125 (Zdl T2)
theorem Zo4 (R:TxS->Bool->List Int) (H:List Int->List Int) (T2:List Int->List Int->List Int) (B:Nat) (t:TxS) (r:List Int) (ht:t.Fine) (hb:(R t true).length<=B) (hr:r=H (R t true)):
  evF (E60 R H T2 B) 20 124 [.agg t.c] ⟨0,[]⟩ (ZF 0 (.ret (.agg [.arr .u8 32 r])) 0 []):=by
 refine @Eq.mpr _ (let q1:=t.N;let q2:=t.M;
 ∃(t_1:TxS),
 let q5:=List.length (R t_1 true);let q6:=List.take q5 (Y0 0 (R t_1 true));let q7:=List.length q6;
 (t_1.num=t.num/\((q1=q1/\t_1.N=q1)/\∀(i:Nat),i<q1->Zg t.ins i=InS.c (t_1.ins i))/\(q2=q2/\t_1.M=q2)/\∀(i:Nat),i<q2->Zf t.outs i=ZE.c (t_1.outs i))/\TxS.Fine t_1/\Z6 (0+q5<=q5) (Z6 (q5=q7) (Z6 (q7<=B) (H q6=r/\True)))) (by kernel_rfl) ?_
 conv=>zeta
 try simp only [vcA]
 try simp only [vcB]
 try simp only [vcC]
 refine ⟨t,⟨rfl,⟨rfl,fun _ _=>rfl⟩,rfl,fun _ _=>rfl⟩,ht, ?_⟩
 rw [Z0G rfl]
 exact ⟨rfl,hb,hr.symm⟩
theorem Zl4 (R:TxS->Bool->List Int) (H:List Int->List Int) (T2:List Int->List Int->List Int) (B:Nat) (t:TxS) (key r:List Int) (ht:t.Fine) (hk:key.length=32) (hb:(R t true).length<=B) (hl:(H (R t true)).length=32) (hr:r=T2 key (H (R t true))):
  evF (E60 R H T2 B) 20 62 [.agg t.c,.agg [.arr .u8 32 key]] ⟨0,[]⟩ (ZF 0 (.ret (.agg [.arr .u8 32 r])) 0 []):=by
 refine @Eq.mpr _ (let q1:=t.N;let q2:=t.M;
 ∃(t_1:TxS),
 let q5:=List.length (R t_1 true);let q6:=List.take q5 (Y0 0 (R t_1 true));let q7:=List.length q6;let q8:=H q6;
 (t_1.num=t.num/\((q1=q1/\t_1.N=q1)/\∀(i:Nat),i<q1->Zg t.ins i=InS.c (t_1.ins i))/\(q2=q2/\t_1.M=q2)/\∀(i:Nat),i<q2->Zf t.outs i=ZE.c (t_1.outs i))/\TxS.Fine t_1/\Z6 (0+q5<=q5) (Z6 (q5=q7) (Z6 (q7<=B) (Z6 (List.length key=32) (Z6 (List.length q8=32) (Z6 (List.length key=32/\(32:Nat)=32/\List.length q8=32/\(32:Nat)=32) (T2 key q8=r/\True))))))) (by kernel_rfl) ?_
 conv=>zeta
 try simp only [vcA]
 try simp only [vcB]
 try simp only [vcC]
 refine ⟨t,⟨rfl,⟨rfl,fun _ _=>rfl⟩,rfl,fun _ _=>rfl⟩,ht, ?_⟩
 rw [Z0G rfl]
 repeat' (first|(refine Jc ?_ ?_)|intro _)
 all_goals first|omega|assumption|trivial|exact hr.symm
def Znc (Nm:TxS->List Int):ZH:=fun args h K=>ZA none h true 20 args fun a=>match a with
 | [.agg l]=>∃t,Z08 l t/\t.Fine/\K (.agg [.arr .u8 32 (Nm t)])
 | _=>False
def Z3y (Tg:List Int->TxS->List Int):ZH:=fun args h K=>ZA none h true 20 args fun a=>match a with
 | [.agg l,.agg [.arr .u8 32 key]]=>∃t,Z08 l t/\(t.Fine/\key.length=32)/\K (.agg [.arr .u8 32 (Tg key t)])
 | _=>False
structure Z5K (H:List Int->List Int) (T2:List Int->List Int->List Int):Prop where
 h:∀args h K,Z6V H 100000 args h K->Ze PP 206 args h fun o h'=>∃v,o=.ret v/\h'=h/\K v
 t:∀args h K,Zdl T2 args h K->Ze PP 125 args h fun o h'=>∃v,o=.ret v/\h'=h/\K v
 r:∀args h K,Zd2 (W4 Zu) args h K->Ze PP 207 args h K
 hl:∀x,(H x).length=32
theorem ZiR (hp:Z5K H T2):(E60 (W4 Zu) H T2 100000).Ok:=Zd.withP_ok (Zd.withP_ok (Zd.withF_ok Zm hp.r) hp.h) hp.t
@[irreducible] def Zdy (H:List Int->List Int) (t:TxS):List Int:=H (W4 Zu t true)
@[irreducible] def Z3z (H:List Int->List Int) (T2:List Int->List Int->List Int) (key:List Int) (t:TxS):List Int:=T2 key (H (W4 Zu t true))
theorem Z8K (hp:Z5K H T2) (t:TxS) (key:List Int) (ht:t.Fine) (hk:key.length=32):Zs PP 62 [.agg t.c,.agg [.arr .u8 32 key]] (.agg [.arr .u8 32 (Z3z H T2 key t)]) 0 []:=by
 unfold Z3z
 have:=XN ht true (J4 t.M)
 exact .evM (ZiR hp) (Zl4 (W4 Zu) H T2 100000 t key _ ht hk (by have hb':(W4 Zu t true).length<=20000:=this;omega) (hp.hl _) rfl)
theorem Zbd (hp:Z5K H T2) (args:List AV) (h:Z8) (K:AV->Prop) (hl:Z3y (Z3z H T2) args h K):Ze PP 62 args h fun o h'=>∃v,o=.ret v/\h'=h/\K v:=by
 refine Zs.psumm (d:=20) (Zk _ _ _ _ _ hl fun a ha=> ?_)
 split at ha
 ·obtain ⟨t,h1,⟨h2,h3⟩,hK⟩:=ha
  exact ⟨_,(Z8K hp t _ h2 h3).conv fun E r hr=>hr.head (fun _ hc=>h1.rel hc) (fun _ hc=>hc),fun _=>rfl,hK⟩
 ·exact ha.elim
theorem Bytes.u8 (h:Bytes xs):∀x∈xs,U8 x:=by
 intro x hx
 obtain ⟨i,hi,rfl⟩:=List.getElem_of_mem hx
 have:=h.h i
 rw [J2,Je hi] at this
 simp at this
 unfold U8
 omega
theorem ZiS:Z5K (Ub UZ) (UX UZ) where
 h:=fun args h K hl=>Zb4 (B:=100000) (fun xs hx=>Z4P xs (by omega)) (by decide) Z0J args h K hl
 t:=fun args h K hl=>Zdm (B:=100000) (fun xs hx=>Z4P xs (by omega)) (by decide) Z0J args h K hl
 r:=Z8y
 hl:=fun x=>by unfold Ub;exact Z0J _
theorem Zbe (a b:List Int):(UX UZ a b).length=32:=by unfold UX;exact Z0J _
@[irreducible] def Z9P (t:TxS):List Int:=Zdy (Ub UZ) t
@[irreducible] def Wq (key:List Int) (t:TxS):List Int:=Z3z (Ub UZ) (UX UZ) key t
theorem Z74 (k:List Int) (t:TxS):(Wq k t).length=32:=by unfold Wq Z3z;exact Zbe _ _
theorem Z5L (args:List AV) (h:Z8) (K:AV->Prop) (hl:Z3y Wq args h K):Ze PP 62 args h fun o h'=>∃v,o=.ret v/\h'=h/\K v:=Zbd ZiS args h K (by
 have e:Wq=Z3z (Ub UZ) (UX UZ):=by funext k t;unfold Wq;rfl
 rw [e] at hl;exact hl)
theorem Zdz {t:TxS} (hf:t.Fine) (hb:QG t):Z9P t=Z1B t:=by
 have h1:=XN hf true (J4 t.M)
 have h2:(W4 Zu t true).length<=20000:=h1
 unfold Z9P Zdy Z1B
 exact Zdx (Z8A hb true).u8 (by omega)
theorem ZdA (bs:List Int):∀x∈UP bs,U8 x:=by unfold UP;exact Z5J _
theorem ZdB (t:TxS):∀x∈Z1B t,U8 x:=by unfold Z1B;exact ZdA _
theorem Zbf (key:List Int) (t:TxS):Wq key t=UX UZ key (Z9P t):=by unfold Wq Z3z Z9P Zdy;rfl
theorem Z8L (key:List Int) (t:TxS):Zv key t=UQ key (Z1B t):=by unfold Zv Z1B;rfl
theorem Z2a {key:List Int} {t:TxS} (hf:t.Fine) (hb:QG t) (hk:key.length=32):Wq key t=Zv key t:=by
 rw [Zbf,Z8L,Zdz hf hb,Zgg hk (ZaR t) (ZdB t)]
structure Zj where
 fund:List Int
 index:Int
 cap:Int
 dust:Int
 fee:Int
 delay:Int
 k0:List Int
 k1:List Int
def Zj.c (t:Zj):List AV:=[.arr .u8 32 t.fund,.int .i64 t.index,.int .i64 t.cap,.int .i64 t.dust,.int .i64 t.fee,.int .i64 t.delay,.arr .u8 32 t.k0,.arr .u8 32 t.k1]
structure Zj.Ok (t:Zj):Prop where
 k0:t.k0.length=32
 k1:t.k1.length=32
 b0:Bytes t.k0
 b1:Bytes t.k1
def Y6 (t:Zj):Bool:=decide (0<=t.index/\t.index<=23)&&decide (1000<=t.cap/\t.cap<=1125899906842624)&&decide (1<=t.dust/\t.dust<=500)&&decide (0<=t.fee/\t.fee<=400)&&decide (1<=t.delay/\t.delay<=1000)&&(t.k0 !=t.k1)
theorem Z75 (b:Bool) (x y:Prop):Z7 b x y=((b=true->x)/\(b=false->y)):=by cases b<;>simp [Z7]
theorem Zl5 (n a b:Int) (r:Bool) (hr:r=decide (a<=n/\n<=b)):
  evF G0 20 86 [.int .i64 n,.int .i64 a,.int .i64 b] ⟨0,[]⟩ (XR (fun v=>v=.bool r)):=by
 refine @Eq.mpr _ (Z7 (decide (a<=n)) (AV.bool (decide (n<=b))=AV.bool r) (AV.bool false=AV.bool r)) (by kernel_rfl) ?_
 simp only [Z75]
 subst hr
 by_cases h1:a<=n<;>by_cases h2:n<=b<;>simp [h1,h2]
def inQ:ZH:=fun args _ K=>match args with
 | [.int .i64 n,.int .i64 a,.int .i64 b]=>K (.bool (decide (a<=n/\n<=b)))
 | _=>False
theorem ZdC (args:List AV) (h:Z8) (K:AV->Prop) (hl:inQ args h K):Ze PP 86 args h fun o h'=>∃v,o=.ret v/\h'=h/\K v:=by
 unfold inQ at hl
 split at hl
 ·exact X3 Zm rfl (Zl5 _ _ _ _ rfl) (fun u hu=>hu▸hl)
 ·exact hl.elim
noncomputable def E71:Zd:=G0.withP 86 inQ
theorem ZiT:E71.Ok:=Zd.withP_ok Zm ZdC
theorem Zl6 (t:Zj) (e:Int) (ht:t.Ok) (he:e=if Y6 t=true then 0 else 2):
  evF E71 20 44 [.agg t.c] ⟨0,[]⟩ (XR (fun v=>v=.int .i64 e)):=by
 refine @Eq.mpr _ (let q1:=AV.int i64 2=AV.int i64 e;
 Z6 (List.length t.k0=32/\List.length t.k1=32) (Z7 (false==decide (0<=t.index/\t.index<=23)) q1 (Z7 (false==decide (1000<=t.cap/\t.cap<=1125899906842624)) q1 (Z7 (false==decide (1<=t.dust/\t.dust<=500)) q1 (Z7 (false==decide (0<=t.fee/\t.fee<=400)) q1 (Z7 (false==decide (1<=t.delay/\t.delay<=1000)) q1 (Z7 (false== !t.k0==t.k1) q1 (AV.int i64 0=AV.int i64 e)))))))) (by kernel_rfl) ?_
 conv=>zeta
 try simp only [vcA]
 try simp only [vcB]
 try simp only [vcC]
 unfold Y6 at he
 refine ⟨⟨ht.k0,ht.k1⟩, ?_⟩
 generalize decide (0<=t.index/\t.index<=23)=c1 at*
 generalize decide (1000<=t.cap/\t.cap<=1125899906842624)=c2 at*
 generalize decide (1<=t.dust/\t.dust<=500)=c3 at*
 generalize decide (0<=t.fee/\t.fee<=400)=c4 at*
 generalize decide (1<=t.delay/\t.delay<=1000)=c5 at*
 have h6:(t.k0 !=t.k1)= !(t.k0==t.k1):=rfl
 rw [h6] at he
 generalize (t.k0==t.k1)=c6 at*
 cases c1<;>cases c2<;>cases c3<;>cases c4<;>cases c5<;>cases c6<;>simp_all
theorem Zl7 (t:Zj) (b:Bool) (ht:t.Ok) (hb:b=Y6 t):
  evF G0 20 112 [.agg t.c] ⟨0,[]⟩ (XR (fun v=>v=.bool b)):=by
 refine @Eq.mpr _ (let q1:=t.cap;let q2:=AV.bool false=AV.bool b;
 Z7 (decide (t.index>=0)) (Z7 (decide (t.index<24)) (Z7 (decide (q1>=1000)) (Z7 (decide (q1>=0)) (Z7 (decide (q1<=1125899906842624)) (Z7 (decide (t.dust>=1)) (Z7 (decide (t.dust<=500)) (Z7 (decide (t.fee>=0)) (Z7 (decide (t.fee<=400)) (Z7 (decide (t.delay>=1)) (Z7 (decide (t.delay<=1000)) (Z6 (List.length t.k0=32/\List.length t.k1=32) ((AV.bool !t.k0==t.k1)=AV.bool b)) q2) q2) q2) q2) q2) q2) q2) q2) q2) q2) q2) (by kernel_rfl) ?_
 conv=>zeta
 try simp only [vcA]
 try simp only [vcB]
 try simp only [vcC]
 subst hb
 unfold Y6
 repeat' (first|(refine Jc ?_ ?_)|intro _|fail)
 all_goals first
  | exact ht.k0
  | exact ht.k1
  | (congr 1;symm;rw [Bool.eq_false_iff];simp only [ne_eq,J3,decide_eq_true_eq];intro h;omega)
  | (congr 1;have h1:(0<=t.index/\t.index<=23):=(by omega);have h2:(1000<=t.cap/\t.cap<=1125899906842624):=(by omega);have h3:(1<=t.dust/\t.dust<=500):=(by omega);have h4:(0<=t.fee/\t.fee<=400):=(by omega);have h5:(1<=t.delay/\t.delay<=1000):=(by omega);rw [decide_eq_true h1,decide_eq_true h2,decide_eq_true h3,decide_eq_true h4,decide_eq_true h5];rfl)
theorem Z76 (b:Bool) (x y:Prop):Z7 b x y=((b=true->x)/\(b=false->y)):=by cases b<;>simp [Z7]
theorem ZiU {x y:List Int} {b:Int} {i:Nat} {P:Prop} (hx:i<x.length) (hy:i<y.length) (bx:Bytes x) (yb:Bytes y) (hb:b=X2 (x.drop i) (y.drop i)) (hP:b=X2 (x.drop (i+1)) (y.drop (i+1))->P):
  Z7 (decide (x.getD i 0<y.getD i 0)) (AV.int .i64 (-1)=AV.int .i64 b) (Z7 (decide (x.getD i 0>y.getD i 0)) (AV.int .i64 1=AV.int .i64 b) P):=by
 have e1:x.drop i=x.getD i 0::x.drop (i+1):=by rw [JU hx];simp [J2,hx]
 have e2:y.drop i=y.getD i 0::y.drop (i+1):=by rw [JU hy];simp [J2,hy]
 rw [e1,e2] at hb
 have k1:=Z25 (bx.getD i) (yb.getD i)
 have k2:=Z25 (yb.getD i) (bx.getD i)
 generalize x.getD i 0=u at*
 generalize y.getD i 0=v at*
 simp only [X2,K8,Lib.compareBytes,k1.2,k2.2] at hb
 rw [Z76,Z76]
 refine ⟨fun h=> ?_,fun h=>⟨fun h'=> ?_,fun h'=> ?_⟩⟩
 ·have h:u<v:=by simpa using h
  rw [hb,if_pos h]
 ·have h:¬u<v:=by simpa using h
  have h':v<u:=by simpa using h'
  rw [hb,if_neg h,if_pos h']
 ·have h:¬u<v:=by simpa using h
  have h':¬v<u:=by simpa using h'
  rw [if_neg h,if_neg h'] at hb
  exact hP hb
theorem Zl8 (x y:List Int) (b:Int) (hx:x.length=32) (hy:y.length=32) (bx:Bytes x) (yb:Bytes y) (hb:b=X2 (x.drop 0) (y.drop 0)):
  evF G0 20 204 [.agg [.arr .u8 32 x],.agg [.arr .u8 32 y]] ⟨0,[]⟩ (XR (fun v=>v=.int .i64 b)):=by
 refine @Eq.mpr _ (let q1:=AV.int i64 b;let q2:=AV.int i64 (-1)=q1;let q3:=AV.int i64 1=q1;
 Z7 (decide (List.getD x 0 0<List.getD y 0 0)) q2
 (Z7 (decide (List.getD x 0 0>List.getD y 0 0)) q3
 (Z7 (decide (List.getD x 1 0<List.getD y 1 0)) q2
 (Z7 (decide (List.getD x 1 0>List.getD y 1 0)) q3
 (Z7 (decide (List.getD x 2 0<List.getD y 2 0)) q2
 (Z7 (decide (List.getD x 2 0>List.getD y 2 0)) q3
 (Z7 (decide (List.getD x 3 0<List.getD y 3 0)) q2
 (Z7 (decide (List.getD x 3 0>List.getD y 3 0)) q3
 (Z7 (decide (List.getD x 4 0<List.getD y 4 0)) q2
 (Z7 (decide (List.getD x 4 0>List.getD y 4 0)) q3
 (Z7 (decide (List.getD x 5 0<List.getD y 5 0)) q2
 (Z7 (decide (List.getD x 5 0>List.getD y 5 0)) q3
 (Z7 (decide (List.getD x 6 0<List.getD y 6 0)) q2
 (Z7 (decide (List.getD x 6 0>List.getD y 6 0)) q3
 (Z7 (decide (List.getD x 7 0<List.getD y 7 0)) q2
 (Z7 (decide (List.getD x 7 0>List.getD y 7 0)) q3
 (Z7 (decide (List.getD x 8 0<List.getD y 8 0)) q2
 (Z7 (decide (List.getD x 8 0>List.getD y 8 0)) q3
 (Z7 (decide (List.getD x 9 0<List.getD y 9 0)) q2
 (Z7 (decide (List.getD x 9 0>List.getD y 9 0)) q3
 (Z7 (decide (List.getD x 10 0<List.getD y 10 0)) q2
 (Z7 (decide (List.getD x 10 0>List.getD y 10 0)) q3
 (Z7 (decide (List.getD x 11 0<List.getD y 11 0)) q2
 (Z7 (decide (List.getD x 11 0>List.getD y 11 0)) q3
 (Z7 (decide (List.getD x 12 0<List.getD y 12 0)) q2
 (Z7 (decide (List.getD x 12 0>List.getD y 12 0)) q3
 (Z7 (decide (List.getD x 13 0<List.getD y 13 0)) q2
 (Z7 (decide (List.getD x 13 0>List.getD y 13 0)) q3
 (Z7 (decide (List.getD x 14 0<List.getD y 14 0)) q2
 (Z7 (decide (List.getD x 14 0>List.getD y 14 0)) q3
 (Z7 (decide (List.getD x 15 0<List.getD y 15 0)) q2
 (Z7 (decide (List.getD x 15 0>List.getD y 15 0)) q3
 (Z7 (decide (List.getD x 16 0<List.getD y 16 0)) q2
 (Z7 (decide (List.getD x 16 0>List.getD y 16 0)) q3
 (Z7 (decide (List.getD x 17 0<List.getD y 17 0)) q2
 (Z7 (decide (List.getD x 17 0>List.getD y 17 0)) q3
 (Z7 (decide (List.getD x 18 0<List.getD y 18 0)) q2
 (Z7 (decide (List.getD x 18 0>List.getD y 18 0)) q3
 (Z7 (decide (List.getD x 19 0<List.getD y 19 0)) q2
 (Z7 (decide (List.getD x 19 0>List.getD y 19 0)) q3
 (Z7 (decide (List.getD x 20 0<List.getD y 20 0)) q2
 (Z7 (decide (List.getD x 20 0>List.getD y 20 0)) q3
 (Z7 (decide (List.getD x 21 0<List.getD y 21 0)) q2
 (Z7 (decide (List.getD x 21 0>List.getD y 21 0)) q3
 (Z7 (decide (List.getD x 22 0<List.getD y 22 0)) q2
 (Z7 (decide (List.getD x 22 0>List.getD y 22 0)) q3
 (Z7 (decide (List.getD x 23 0<List.getD y 23 0)) q2
 (Z7 (decide (List.getD x 23 0>List.getD y 23 0)) q3
 (Z7 (decide (List.getD x 24 0<List.getD y 24 0)) q2 (Z7 (decide (List.getD x 24 0>List.getD y 24 0)) q3 (Z7 (decide (List.getD x 25 0<List.getD y 25 0)) q2 (Z7 (decide (List.getD x 25 0>List.getD y 25 0)) q3 (Z7 (decide (List.getD x 26 0<List.getD y 26 0)) q2 (Z7 (decide (List.getD x 26 0>List.getD y 26 0)) q3 (Z7 (decide (List.getD x 27 0<List.getD y 27 0)) q2 (Z7 (decide (List.getD x 27 0>List.getD y 27 0)) q3 (Z7 (decide (List.getD x 28 0<List.getD y 28 0)) q2 (Z7 (decide (List.getD x 28 0>List.getD y 28 0)) q3 (Z7 (decide (List.getD x 29 0<List.getD y 29 0)) q2 (Z7 (decide (List.getD x 29 0>List.getD y 29 0)) q3 (Z7 (decide (List.getD x 30 0<List.getD y 30 0)) q2 (Z7 (decide (List.getD x 30 0>List.getD y 30 0)) q3 (Z7 (decide (List.getD x 31 0<List.getD y 31 0)) q2 (Z7 (decide (List.getD x 31 0>List.getD y 31 0)) q3 (AV.int i64 0=q1))))))))))))))))))))))))))))))))))))))))))))))))))))))))))))))))) (by kernel_rfl) ?_
 conv=>zeta
 iterate 32 refine ZiU (by omega) (by omega) bx yb hb fun hb=> ?_
 rw [K3 (by omega),K3 (by omega)] at hb
 have h0:X2 [] []=0:=rfl
 rw [hb,h0]
def Z77:ZH:=fun args _ K=>match args with
 | [.agg [.arr .u8 32 fu,.int .i64 ix,.int .i64 ca,.int .i64 du,.int .i64 fe,.int .i64 de,.arr .u8 32 k0,.arr .u8 32 k1]]=>(Zj.Ok ⟨fu,ix,ca,du,fe,de,k0,k1⟩)/\K (.int .i64 (if Y6 ⟨fu,ix,ca,du,fe,de,k0,k1⟩=true then 0 else 2))
 | _=>False
theorem Z3A (args:List AV) (h:Z8) (K:AV->Prop) (hl:Z77 args h K):Ze PP 44 args h fun o h'=>∃v,o=.ret v/\h'=h/\K v:=by
 unfold Z77 at hl
 split at hl
 ·obtain ⟨ht,hK⟩:=hl
  exact X3 ZiT rfl (Zl6 ⟨_,_,_,_,_,_,_,_⟩ _ ht rfl) (fun u hu=>hu▸hK)
 ·exact hl.elim
def Z3B:ZH:=fun args _ K=>match args with
 | [.agg [.arr .u8 32 fu,.int .i64 ix,.int .i64 ca,.int .i64 du,.int .i64 fe,.int .i64 de,.arr .u8 32 k0,.arr .u8 32 k1]]=>(Zj.Ok ⟨fu,ix,ca,du,fe,de,k0,k1⟩)/\K (.bool (Y6 ⟨fu,ix,ca,du,fe,de,k0,k1⟩))
 | _=>False
theorem Z1h (args:List AV) (h:Z8) (K:AV->Prop) (hl:Z3B args h K):Ze PP 112 args h fun o h'=>∃v,o=.ret v/\h'=h/\K v:=by
 unfold Z3B at hl
 split at hl
 ·obtain ⟨ht,hK⟩:=hl
  exact X3 Zm rfl (Zl7 ⟨_,_,_,_,_,_,_,_⟩ _ ht rfl) (fun u hu=>hu▸hK)
 ·exact hl.elim
def ZdD:ZH:=fun args _ K=>match args with
 | [.agg [.arr .u8 32 x],.agg [.arr .u8 32 y]]=>(x.length=32/\y.length=32)/\Bytes x/\Bytes y/\K (.int .i64 (X2 x y))
 | _=>False
theorem Z9Q (args:List AV) (h:Z8) (K:AV->Prop) (hl:ZdD args h K):Ze PP 204 args h fun o h'=>∃v,o=.ret v/\h'=h/\K v:=by
 unfold ZdD at hl
 split at hl
 ·obtain ⟨⟨h1,h2⟩,b1,b2,hK⟩:=hl
  exact X3 Zm rfl (Zl8 _ _ _ h1 h2 b1 b2 rfl) (fun u hu=>hu▸hK)
 ·exact hl.elim
structure Zi where
 kind:Int
 t:Zj
 reserve:Int
 amount:Int
 point:List Int
 nxt:List Int
 key:List Int
 hash:List Int
 tag:List Int
 secret:List Int
 id:Int
 number:Int
 index:Int
 expiry:Int
 code:Int
 route:ByteArray
def Zi.r (s:Zi):List AV:=[.arr .u8 32 s.t.fund,.int .i64 s.t.index,.int .i64 s.t.cap,.int .i64 s.t.dust,.int .i64 s.t.fee,.int .i64 s.t.delay,.arr .u8 32 s.t.k0,.arr .u8 32 s.t.k1,.int .i64 s.reserve,.int .i64 s.amount,.arr .u8 32 s.point,.arr .u8 32 s.nxt,.arr .u8 32 s.key,.arr .u8 32 s.hash,.arr .u8 32 s.tag,.arr .u8 32 s.secret,.int .i64 s.id,.int .i64 s.number,.int .i64 s.index,.int .i64 s.expiry,.int .i64 s.code,.str s.route]
def Zi.c (s:Zi):List AV:=.int .i64 s.kind::s.r
structure Zi.Len (s:Zi):Prop where
 h0:s.t.fund.length=32
 h1:s.t.k0.length=32
 h2:s.t.k1.length=32
 h3:s.point.length=32
 h4:s.nxt.length=32
 h5:s.key.length=32
 h6:s.hash.length=32
 h7:s.tag.length=32
 h8:s.secret.length=32
 hb:Bytes s.t.k0
def okF (m:List Nat) (i:Nat) (z:Bool):Bool:=Z7Z i m||z
def Zhs (m:List Nat) (s:Zi):Bool:=
 true&&(okF m 0 (s.t.fund==Z5)&&(okF m 1 (s.t.index==0)&&(okF m 2 (s.t.cap==0)&&(okF m 3 (s.t.dust==0)&&(okF m 4 (s.t.fee==0)&&(okF m 5 (s.t.delay==0)&&(okF m 6 (s.t.k0==Z5)&&okF m 7 (s.t.k1==Z5))))))))&&(okF m 8 (s.reserve==0)&&(okF m 9 (s.amount==0)&&(okF m 10 (s.point==Z5)&&(okF m 11 (s.nxt==Z5)&&(okF m 12 (s.key==Z5)&&(okF m 13 (s.hash==Z5)&&(okF m 14 (s.tag==Z5)&&(okF m 15 (s.secret==Z5)&&(okF m 16 (s.id==0)&&(okF m 17 (s.number==0)&&(okF m 18 (s.index==0)&&(okF m 19 (s.expiry==0)&&(okF m 20 (s.code==0)&&okF m 21 (ByteArray.toList s.route==ByteArray.toList ByteArray.empty))))))))))))))
def nmd:Int->List Nat
 | 1=>[2,3,4,5,6,8,9,10,11]
 | 2=>[12,10,11]
 | 3=>[13,18,14]
 | 4=>[14]
 | 5=>[]
 | 6=>[16,9,13,19,21]
 | 7=>[16,15]
 | 8=>[16,20]
 | 9=>[17,14]
 | 10=>[17,15,11]
 | 11=>[17,16]
 | 12=>[]
 | 13=>[9,14]
 | 14=>[20]
 | _=>[]
structure ZiV (s:Zi):Prop where
 a:0<=s.id
 b:s.id<=2147483647
 c:0<=s.number
 d:s.number<=2147483647
 e:0<=s.index
 f:s.index<=2147483647
 g:0<=s.expiry
 h:s.expiry<=2147483647
 i:0<=s.amount
 j:s.amount<=1125899906842624
def XU (t:Zj):Zj:={ t with k1:=t.k0.set 0 (wrap .u8 (t.k0.getD 0 0+1))}
structure Z3C (s:Zi):Prop where
 t:Y6 (XU s.t)=true
 lo:0<=s.reserve
 hi:s.reserve<=s.t.cap.tdiv 10
 am:s.amount<=s.t.cap-s.t.fee-s.reserve
def kindOk (s:Zi):Int->Prop
 | 1=>Z3C s
 | 2=>True
 | 3=>s.index<24
 | 4=>True
 | 5=>True
 | 6=>0<s.amount/\0<s.expiry/\s.route.size<=512
 | 7=>True
 | 8=>1<=s.code/\s.code<=999
 | 9=>True
 | 10=>True
 | 11=>True
 | 12=>True
 | 13=>True
 | 14=>1<=s.code/\s.code<=999
 | _=>False
structure Zp (s:Zi) (k:Int):Prop where
 w:ZiV s
 r:Zhs (nmd k) s=true
 k:kindOk s k
def chK (ok:Bool):KO:=fun o _=>match o with
 | .ret (.int .i64 0)=>ok=true
 | .ret (.int .i64 2)=>ok=false
 | _=>False
noncomputable def Z0c:Zd:=G0.withP 44 Z77
theorem Z4Q (h:Bytes xs) (i:Nat) {v:Int} (hv:0<=v/\v<=255):Bytes (xs.set i v):=⟨fun k=>by
 have hx:=h.h k
 rw [J2] at hx⊢
 rw [Kj]
 split
 ·split
  ·exact hv
  ·exact ⟨Int.le_refl 0,by decide⟩
 ·exact hx⟩
theorem Zl9 (s:Zi) (ok:Bool) (hl:s.Len) (hok:ok=true↔Zp s 1):
  evF Z0c 40 35 [.agg (.int .i64 1::s.r)] ⟨0,[]⟩ (chK ok):=by
 refine @Eq.mpr _ (let q1:=s.id;let q2:=s.t;let q3:=q2.fund;let q4:=decide (List.length q3=(32:Nat)/\(32:Nat)=(32:Nat));let q5:=q2.k1;let q6:=decide (List.length q5=(32:Nat)/\(32:Nat)=(32:Nat));let q7:=decide (List.length s.key=(32:Nat)/\(32:Nat)=(32:Nat));let q8:=decide (List.length s.hash=(32:Nat)/\(32:Nat)=(32:Nat));let q9:=decide (List.length s.tag=(32:Nat)/\(32:Nat)=(32:Nat));let q10:=decide (List.length s.secret=(32:Nat)/\(32:Nat)=(32:Nat));let q11:=q2.index;let q12:=s.number;let q13:=s.index;let q14:=s.expiry;let q15:= !(true&&(q3==Z5&&(q11==(0:Int)&&(true&&(true&&(true&&(true&&(true&&q5==Z5))))))&&(true&&(true&&(true&&(true&&(s.key==Z5&&(s.hash==Z5&&(s.tag==Z5&&(s.secret==Z5&&(q1==(0:Int)&&(q12==(0:Int)&&(q13==(0:Int)&&(q14==(0:Int)&&(s.code==(0:Int)&&ByteArray.toList s.route==ByteArray.toList ByteArray.empty)))))))))))))));let q16:=Z0 q4 (Z0 q6 (Z0 q7 (Z0 q8 (Z0 q9 (Z0 q10 (Z7 q15 (ok=false) (ok=false)))))));let q17:=s.amount;let q18:=q2.k0;let q19:=q2.cap;let q20:=q2.fee;let q21:=Zj.mk q3 q11 q19 q2.dust q20 q2.delay q18 (List.set q18 (0:Nat) (wrap u8 (List.getD q18 (0:Nat) (0:Int)+(1:Int))));let q22:=s.reserve;
 Z7 (decide ((0:Int)<=q1)) (Z7 (!decide (q1<=(2147483647:Int))) q16 (Z7 (decide ((0:Int)<=q12)) (Z7 (!decide (q12<=(2147483647:Int))) q16 (Z7 (decide ((0:Int)<=q13)) (Z7 (!decide (q13<=(2147483647:Int))) q16 (Z7 (decide ((0:Int)<=q14)) (Z7 (!decide (q14<=(2147483647:Int))) q16 (Z0 q4 (Z0 q6 (Z0 q7 (Z0 q8 (Z0 q9 (Z0 q10 (Z7 q15 (ok=false) (Z7 (decide (q17<(0:Int))) (ok=false) (Z7 (decide (q17>(1125899906842624:Int))) (ok=false) (Z6 (u8=u8/\(0:Nat)<(32:Nat)/\(0:Nat)<List.length q18) (Zj.Ok q21/\Z7 ((if Y6 q21=true then (0:Int) else (2:Int))==(0:Int)) (Z7 (decide ((0:Int)<=q22)) (Z7 (decide (q22<=wrap i64 (Int.tdiv q19 (10:Int)))) (Z7 (!decide (q17<=wrap i64 (wrap i64 (q19-q20)-q22))) (ok=false) (ok=true)) (ok=false)) (ok=false)) (ok=false))))))))))))) q16)) q16)) q16)) q16) (by kernel_rfl) ?_
 conv=>zeta
 try simp only [vcA]
 try simp only [vcB]
 try simp only [vcC]
 obtain ⟨h0,h1,h2,h3,h4,h5,h6,h7,h8,hb⟩:=hl
 simp only [h0,h1,h2,h3,h4,h5,h6,h7,h8,and_self,decide_true,true_and,forall_const,J6,Ja,decide_eq_true_eq,decide_eq_false_iff_not,Jh,Ji,reduceCtorEq,false_implies,and_true]
 have hte:((if Y6 (XU s.t)=true then (0:Int) else 2)==0)=Y6 (XU s.t):=by cases Y6 (XU s.t)<;>rfl
 have hOk:(XU s.t).Ok:=⟨h1,by show (List.set _ _ _).length=32;rw [Kb];exact h1,hb,Z4Q hb 0 (ZfU _)⟩
 have hd:Y6 (XU s.t)=true->(1000<=s.t.cap/\s.t.cap<=1125899906842624)/\(0<=s.t.fee/\s.t.fee<=400):=fun h=>by
  unfold Y6 XU at h
  simp only [J3,decide_eq_true_eq] at h
  obtain ⟨⟨⟨⟨⟨_,g2⟩,_⟩,g4⟩,_⟩,_⟩:=h
  exact ⟨g2,g4⟩
 have htd:Y6 (XU s.t)=true->0<=s.t.cap.tdiv 10/\s.t.cap.tdiv 10<=s.t.cap:=fun h=>by
  have:=hd h
  rw [JP (by omega)]
  omega
 have hw1:Y6 (XU s.t)=true->i64.wrap (s.t.cap.tdiv 10)=s.t.cap.tdiv 10:=fun h=>by
  have:=hd h
  have:=htd h
  exact w64 (by omega)
 have hw2:Y6 (XU s.t)=true->0<=s.reserve->s.reserve<=s.t.cap.tdiv 10->i64.wrap (i64.wrap (s.t.cap-s.t.fee)-s.reserve)=s.t.cap-s.t.fee-s.reserve:=fun h g1 g2=>by
  have:=hd h
  have:=htd h
  rw [w64 (x:=s.t.cap-s.t.fee) (by omega)]
  exact w64 (by omega)
 change _ at hOk
 cases ok with
 | true=>
  obtain ⟨⟨w0,w1,w2,w3,w4,w5,w6,w7,w8,w9⟩,hr,hk⟩:=hok.1 rfl
  have hk:Z3C s:=hk
  obtain ⟨k1,k2,k3,k4⟩:=hk
  have e1:=hw1 k1
  have e2:=hw2 k1 k2 k3
  repeat' first
   | exact hOk
   | trivial
   | apply Jc
   | intro
  all_goals first
   | omega
   | (exfalso;omega)
   | (rename_i hq;exact absurd (hr.symm.trans hq) (by decide))
   | (rename_i hq _;exact absurd (hr.symm.trans hq) (by decide))
   | (rename_i hq _ _;exact absurd (hr.symm.trans hq) (by decide))
   | (rename_i hq;exact absurd ((hte.trans k1).symm.trans hq) (by decide))
 | false=>
  have hn:¬Zp s 1:=fun h=>absurd (hok.2 h) (by decide)
  repeat' first
   | exact hOk
   | trivial
   | apply Jc
   | intro
  rename_i hq1 hq2 hq3 hq4
  have k1:Y6 (XU s.t)=true:=hte.symm.trans hq1
  have e1:=hw1 k1
  rw [e1] at hq3
  have e2:=hw2 k1 hq2 hq3
  rw [e2] at hq4
  exact absurd (Zp.mk ⟨by omega,by omega,by omega,by omega,by omega,by omega,by omega,by omega,by omega,by omega⟩ (by assumption) (show kindOk s 1 from Z3C.mk k1 hq2 hq3 hq4)) hn
theorem Zla (s:Zi) (ok:Bool) (hl:s.Len) (hok:ok=true↔Zp s 2):
  evF Z0c 40 35 [.agg (.int .i64 2::s.r)] ⟨0,[]⟩ (chK ok):=by
 refine @Eq.mpr _ (let q1:=s.id;let q2:=s.t;let q3:=q2.fund;let q4:=decide (List.length q3=32/\(32:Nat)=32);let q5:=q2.k0;let q6:=decide (List.length q5=32/\(32:Nat)=32);let q7:=q2.k1;let q8:=decide (List.length q7=32/\(32:Nat)=32);let q9:=decide (List.length s.hash=32/\(32:Nat)=32);let q10:=decide (List.length s.tag=32/\(32:Nat)=32);let q11:=decide (List.length s.secret=32/\(32:Nat)=32);let q12:=s.amount;let q13:=s.number;let q14:=s.index;let q15:=s.expiry;let q16:= !(true&&(q3==Z5&&(q2.index==0&&(q2.cap==0&&(q2.dust==0&&(q2.fee==0&&(q2.delay==0&&(q5==Z5&&q7==Z5))))))&&(s.reserve==0&&(q12==0&&(true&&(true&&(true&&(s.hash==Z5&&(s.tag==Z5&&(s.secret==Z5&&(q1==0&&(q13==0&&(q14==0&&(q15==0&&(s.code==0&&ByteArray.toList s.route==ByteArray.toList ByteArray.empty)))))))))))))));let q17:=Z0 q4 (Z0 q6 (Z0 q8 (Z0 q9 (Z0 q10 (Z0 q11 (Z7 q16 (ok=false) (ok=false)))))));
 Z7 (decide (0<=q1)) (Z7 (!decide (q1<=2147483647)) q17 (Z7 (decide (0<=q13)) (Z7 (!decide (q13<=2147483647)) q17 (Z7 (decide (0<=q14)) (Z7 (!decide (q14<=2147483647)) q17 (Z7 (decide (0<=q15)) (Z7 (!decide (q15<=2147483647)) q17 (Z0 q4 (Z0 q6 (Z0 q8 (Z0 q9 (Z0 q10 (Z0 q11 (Z7 q16 (ok=false) (Z7 (decide (q12<0)) (ok=false) (Z7 (decide (q12>1125899906842624)) (ok=false) (ok=true))))))))))) q17)) q17)) q17)) q17) (by kernel_rfl) ?_
 conv=>zeta
 try simp only [vcA]
 try simp only [vcB]
 try simp only [vcC]
 obtain ⟨h0,h1,h2,h3,h4,h5,h6,h7,h8,hb⟩:=hl
 simp only [h0,h1,h2,h3,h4,h5,h6,h7,h8,and_self,decide_true,true_and,forall_const,J6,Ja,decide_eq_true_eq,decide_eq_false_iff_not,Jh,Ji,reduceCtorEq,false_implies,and_true]
 cases ok with
 | true=>
  obtain ⟨⟨w0,w1,w2,w3,w4,w5,w6,w7,w8,w9⟩,hr,hk⟩:=hok.1 rfl
  have hk':=hk
  simp only [kindOk] at hk
  repeat' first
   | trivial
   | apply Jc
   | intro
  all_goals first
   | omega
   | (exfalso;omega)
   | (rename_i hq;exact absurd (hr.symm.trans hq) (by decide))
   | (rename_i hq _;exact absurd (hr.symm.trans hq) (by decide))
   | (rename_i hq _ _;exact absurd (hr.symm.trans hq) (by decide))
 | false=>
  have hn:¬Zp s 2:=fun h=>absurd (hok.2 h) (by decide)
  repeat' first
   | trivial
   | apply Jc
   | intro
  all_goals first
   | exact absurd (Zp.mk ⟨by omega,by omega,by omega,by omega,by omega,by omega,by omega,by omega,by omega,by omega⟩ (by assumption) (by simp only [kindOk]<;>omega)) hn
   | exact absurd (Zp.mk ⟨by omega,by omega,by omega,by omega,by omega,by omega,by omega,by omega,by omega,by omega⟩ (by assumption) trivial) hn
theorem Zlb (s:Zi) (ok:Bool) (hl:s.Len) (hok:ok=true↔Zp s 3):
  evF Z0c 40 35 [.agg (.int .i64 3::s.r)] ⟨0,[]⟩ (chK ok):=by
 refine @Eq.mpr _ (let q1:=s.id;let q2:=s.t;let q3:=q2.fund;let q4:=decide (List.length q3=32/\(32:Nat)=32);let q5:=q2.k0;let q6:=decide (List.length q5=32/\(32:Nat)=32);let q7:=q2.k1;let q8:=decide (List.length q7=32/\(32:Nat)=32);let q9:=decide (List.length s.point=32/\(32:Nat)=32);let q10:=decide (List.length s.nxt=32/\(32:Nat)=32);let q11:=decide (List.length s.key=32/\(32:Nat)=32);let q12:=decide (List.length s.secret=32/\(32:Nat)=32);let q13:=s.amount;let q14:=s.number;let q15:=s.expiry;let q16:= !(true&&(q3==Z5&&(q2.index==0&&(q2.cap==0&&(q2.dust==0&&(q2.fee==0&&(q2.delay==0&&(q5==Z5&&q7==Z5))))))&&(s.reserve==0&&(q13==0&&(s.point==Z5&&(s.nxt==Z5&&(s.key==Z5&&(true&&(true&&(s.secret==Z5&&(q1==0&&(q14==0&&(true&&(q15==0&&(s.code==0&&ByteArray.toList s.route==ByteArray.toList ByteArray.empty)))))))))))))));let q17:=Z0 q4 (Z0 q6 (Z0 q8 (Z0 q9 (Z0 q10 (Z0 q11 (Z0 q12 (Z7 q16 (ok=false) (ok=false))))))));let q18:=s.index;
 Z7 (decide (0<=q1)) (Z7 (!decide (q1<=2147483647)) q17 (Z7 (decide (0<=q14)) (Z7 (!decide (q14<=2147483647)) q17 (Z7 (decide (0<=q18)) (Z7 (!decide (q18<=2147483647)) q17 (Z7 (decide (0<=q15)) (Z7 (!decide (q15<=2147483647)) q17 (Z0 q4 (Z0 q6 (Z0 q8 (Z0 q9 (Z0 q10 (Z0 q11 (Z0 q12 (Z7 q16 (ok=false) (Z7 (decide (q13<0)) (ok=false) (Z7 (decide (q13>1125899906842624)) (ok=false) (Z7 (!decide (q18<24)) (ok=false) (ok=true))))))))))))) q17)) q17)) q17)) q17) (by kernel_rfl) ?_
 conv=>zeta
 try simp only [vcA]
 try simp only [vcB]
 try simp only [vcC]
 obtain ⟨h0,h1,h2,h3,h4,h5,h6,h7,h8,hb⟩:=hl
 simp only [h0,h1,h2,h3,h4,h5,h6,h7,h8,and_self,decide_true,true_and,forall_const,J6,Ja,decide_eq_true_eq,decide_eq_false_iff_not,Jh,Ji,reduceCtorEq,false_implies,and_true]
 cases ok with
 | true=>
  obtain ⟨⟨w0,w1,w2,w3,w4,w5,w6,w7,w8,w9⟩,hr,hk⟩:=hok.1 rfl
  have hk':=hk
  simp only [kindOk] at hk
  repeat' first
   | trivial
   | apply Jc
   | intro
  all_goals first
   | omega
   | (exfalso;omega)
   | (rename_i hq;exact absurd (hr.symm.trans hq) (by decide))
   | (rename_i hq _;exact absurd (hr.symm.trans hq) (by decide))
   | (rename_i hq _ _;exact absurd (hr.symm.trans hq) (by decide))
 | false=>
  have hn:¬Zp s 3:=fun h=>absurd (hok.2 h) (by decide)
  repeat' first
   | trivial
   | apply Jc
   | intro
  all_goals first
   | exact absurd (Zp.mk ⟨by omega,by omega,by omega,by omega,by omega,by omega,by omega,by omega,by omega,by omega⟩ (by assumption) (by simp only [kindOk]<;>omega)) hn
   | exact absurd (Zp.mk ⟨by omega,by omega,by omega,by omega,by omega,by omega,by omega,by omega,by omega,by omega⟩ (by assumption) trivial) hn
theorem Zlc (s:Zi) (ok:Bool) (hl:s.Len) (hok:ok=true↔Zp s 4):
  evF Z0c 40 35 [.agg (.int .i64 4::s.r)] ⟨0,[]⟩ (chK ok):=by
 refine @Eq.mpr _ (let q1:=s.id;let q2:=s.t;let q3:=q2.fund;let q4:=decide (List.length q3=32/\(32:Nat)=32);let q5:=q2.k0;let q6:=decide (List.length q5=32/\(32:Nat)=32);let q7:=q2.k1;let q8:=decide (List.length q7=32/\(32:Nat)=32);let q9:=decide (List.length s.point=32/\(32:Nat)=32);let q10:=decide (List.length s.nxt=32/\(32:Nat)=32);let q11:=decide (List.length s.key=32/\(32:Nat)=32);let q12:=decide (List.length s.hash=32/\(32:Nat)=32);let q13:=decide (List.length s.secret=32/\(32:Nat)=32);let q14:=s.amount;let q15:=s.number;let q16:=s.index;let q17:=s.expiry;let q18:= !(true&&(q3==Z5&&(q2.index==0&&(q2.cap==0&&(q2.dust==0&&(q2.fee==0&&(q2.delay==0&&(q5==Z5&&q7==Z5))))))&&(s.reserve==0&&(q14==0&&(s.point==Z5&&(s.nxt==Z5&&(s.key==Z5&&(s.hash==Z5&&(true&&(s.secret==Z5&&(q1==0&&(q15==0&&(q16==0&&(q17==0&&(s.code==0&&ByteArray.toList s.route==ByteArray.toList ByteArray.empty)))))))))))))));let q19:=Z0 q4 (Z0 q6 (Z0 q8 (Z0 q9 (Z0 q10 (Z0 q11 (Z0 q12 (Z0 q13 (Z7 q18 (ok=false) (ok=false)))))))));
 Z7 (decide (0<=q1)) (Z7 (!decide (q1<=2147483647)) q19 (Z7 (decide (0<=q15)) (Z7 (!decide (q15<=2147483647)) q19 (Z7 (decide (0<=q16)) (Z7 (!decide (q16<=2147483647)) q19 (Z7 (decide (0<=q17)) (Z7 (!decide (q17<=2147483647)) q19 (Z0 q4 (Z0 q6 (Z0 q8 (Z0 q9 (Z0 q10 (Z0 q11 (Z0 q12 (Z0 q13 (Z7 q18 (ok=false) (Z7 (decide (q14<0)) (ok=false) (Z7 (decide (q14>1125899906842624)) (ok=false) (ok=true))))))))))))) q19)) q19)) q19)) q19) (by kernel_rfl) ?_
 conv=>zeta
 try simp only [vcA]
 try simp only [vcB]
 try simp only [vcC]
 obtain ⟨h0,h1,h2,h3,h4,h5,h6,h7,h8,hb⟩:=hl
 simp only [h0,h1,h2,h3,h4,h5,h6,h7,h8,and_self,decide_true,true_and,forall_const,J6,Ja,decide_eq_true_eq,decide_eq_false_iff_not,Jh,Ji,reduceCtorEq,false_implies,and_true]
 cases ok with
 | true=>
  obtain ⟨⟨w0,w1,w2,w3,w4,w5,w6,w7,w8,w9⟩,hr,hk⟩:=hok.1 rfl
  have hk':=hk
  simp only [kindOk] at hk
  repeat' first
   | trivial
   | apply Jc
   | intro
  all_goals first
   | omega
   | (exfalso;omega)
   | (rename_i hq;exact absurd (hr.symm.trans hq) (by decide))
   | (rename_i hq _;exact absurd (hr.symm.trans hq) (by decide))
   | (rename_i hq _ _;exact absurd (hr.symm.trans hq) (by decide))
 | false=>
  have hn:¬Zp s 4:=fun h=>absurd (hok.2 h) (by decide)
  repeat' first
   | trivial
   | apply Jc
   | intro
  all_goals first
   | exact absurd (Zp.mk ⟨by omega,by omega,by omega,by omega,by omega,by omega,by omega,by omega,by omega,by omega⟩ (by assumption) (by simp only [kindOk]<;>omega)) hn
   | exact absurd (Zp.mk ⟨by omega,by omega,by omega,by omega,by omega,by omega,by omega,by omega,by omega,by omega⟩ (by assumption) trivial) hn
end Go.Tk
end
