/- U: part 5 of an engine (a symbolic evaluator, proved against the model) and of the walk by it. -/
import Derived.Test.YtdfjhgjefkkkbaaGreatU4
set_option linter.unusedVariables false
set_option linter.unusedSimpArgs false
set_option maxRecDepth 100000
set_option maxHeartbeats 0
section
namespace Go.Tk
open IntKind (i64 u8 u32 u64 wrap)
theorem Zlp (x:InS) (b:Bool) (hx:x.Ok) (hb:b=Y8 x):
  evF G0 20 263 [.agg x.c] ⟨0,[]⟩ (XI (fun v=>v=.bool b)):=by
 refine @Eq.mpr _ (let q1:=x.way;let q2:=q1==1;let q3:=q1==4;let q4:=decide (q1>=1);let q5:=decide (q1<=6);let q6:=x.name;let q7:=decide (List.length q6=32/\List.length q6=32);let q8:=x.tag;let q9:=decide (List.length q8=32/\List.length q8=32);let q10:=x.also;let q11:=decide (List.length q10=32/\List.length q10=32);let q12:=x.secret;let q13:=decide (List.length q12=32/\List.length q12=32);let q14:=q6==q6;let q15:=x.index;let q16:=q15==q15;let q17:=q1==q1;let q18:=q8==q8;let q19:=q10==q10;let q20:=q12==q12;let q21:=q19&&q20;let q22:=AV.bool false=AV.bool b;let q23:=Z0 (decide (q15>=0)) (AV.bool (decide (q15<24))=AV.bool b) q22;let q24:=Z0 q4 (Z0 q5 (Z0 q7 (Z0 q9 (Z0 q11 (Z0 q13 (Z0 (q14&&(q16&&(q17&&(q18&&q21)))) q23 q22) False) False) False) False) q22) q22;let q25:=q1==5;let q26:=decide (List.length q12=32/\(32:Nat)=32);let q27:=q12==Z5;let q28:=q19&&q27;let q29:=decide (List.length q10=32/\(32:Nat)=32);let q30:=q10==Z5;let q31:=q30&&q20;let q32:=Z0 q4 (Z0 q5 (Z0 q7 (Z0 q9 (Z0 q29 (Z0 q13 (Z0 (q14&&(q16&&(q17&&(q18&&q31)))) q23 q22) False) False) False) False) q22) q22;let q33:=q30&&q27;let q34:=decide (List.length q8=32/\(32:Nat)=32);let q35:=q8==Z5;let q36:=Z0 q4 (Z0 q5 (Z0 q7 (Z0 q34 (Z0 q11 (Z0 q13 (Z0 (q14&&(q16&&(q17&&(q35&&q21)))) q23 q22) False) False) False) False) q22) q22;let q37:=Z0 q4 (Z0 q5 (Z0 q7 (Z0 q34 (Z0 q29 (Z0 q13 (Z0 (q14&&(q16&&(q17&&(q35&&q31)))) q23 q22) False) False) False) False) q22) q22;
 Z0 (q1 !=4) (Z0 q2 (Z0 q3 q24 (Z0 q25 q24 (Z0 q4 (Z0 q5 (Z0 q7 (Z0 q9 (Z0 q11 (Z0 q26 (Z0 (q14&&(q16&&(q17&&(q18&&q28)))) q23 q22) False) False) False) False) q22) q22))) (Z0 q3 q32 (Z0 q25 q32 (Z0 q4 (Z0 q5 (Z0 q7 (Z0 q9 (Z0 q29 (Z0 q26 (Z0 (q14&&(q16&&(q17&&(q18&&q33)))) q23 q22) False) False) False) False) q22) q22)))) (Z0 q2 (Z0 q3 q36 (Z0 q25 q36 (Z0 q4 (Z0 q5 (Z0 q7 (Z0 q34 (Z0 q11 (Z0 q26 (Z0 (q14&&(q16&&(q17&&(q35&&q28)))) q23 q22) False) False) False) False) q22) q22))) (Z0 q3 q37 (Z0 q25 q37 (Z0 q4 (Z0 q5 (Z0 q7 (Z0 q34 (Z0 q29 (Z0 q26 (Z0 (q14&&(q16&&(q17&&(q35&&q33)))) q23 q22) False) False) False) False) q22) q22))))) (by kernel_rfl) ?_
 conv=>zeta
 obtain ⟨h1,h2,h3,h4⟩:=hx
 subst hb
 have hz:[(0:Int),0,0,0,0,0,0,0,0,0,0,0,0,0,0,0,0,0,0,0,0,0,0,0,0,0,0,0,0,0,0,0]=Z5:=rfl
 simp only [hz,Z0G]
 unfold Y8
 generalize (x.secret==Z5)=bs
 generalize (x.also==Z5)=ba
 generalize (x.tag==Z5)=bt
 by_cases w1:x.way=1
 ·cases bs<;>simp [w1,h1,h2,h3,h4]<;>first|omega|grind
 by_cases w2:x.way=2
 ·cases bs<;>cases ba<;>simp [w2,h1,h2,h3,h4]<;>first|omega|grind
 by_cases w3:x.way=3
 ·cases bs<;>cases ba<;>simp [w3,h1,h2,h3,h4]<;>first|omega|grind
 by_cases w4:x.way=4
 ·cases bt<;>cases ba<;>simp [w4,h1,h2,h3,h4]<;>first|omega|grind
 by_cases w5:x.way=5
 ·cases ba<;>simp [w5,h1,h2,h3,h4]<;>first|omega|grind
 by_cases w6:x.way=6
 ·cases bs<;>cases ba<;>simp [w6,h1,h2,h3,h4]<;>first|omega|grind
 cases bs<;>cases ba<;>simp [w1,w2,w3,w4,w5,w6,h1,h2,h3,h4]<;>first|omega|grind
theorem Z26 {a b:Int} (ha:0<=a/\a<256) (hb:0<=b/\b<256):(WP a=WP b↔a=b)/\(WP a<WP b↔a<b):=by
 unfold WP
 rw [<-UInt8.toNat_inj,UInt8.lt_iff_toNat_lt]
 simp only [UInt8.toNat_ofNat']
 omega
theorem Bytes.getD {xs:List Int} (h:Bytes xs) (i:Nat):0<=xs.getD i 0/\xs.getD i 0<256:=by
 have:=h.h i
 omega
theorem Zja {x y:List Int} {b:Bool} {i:Nat} {P:Prop} (hx:i<x.length) (hy:i<y.length) (bx:Bytes x) (yb:Bytes y) (hb:b=decide (X4 (x.drop i) (y.drop i)>0)) (hP:b=decide (X4 (x.drop (i+1)) (y.drop (i+1))>0)->P):
  Z0 (x.getD i 0 !=y.getD i 0) (AV.bool (decide (x.getD i 0>y.getD i 0))=AV.bool b) P:=by
 have e1:x.drop i=x.getD i 0::x.drop (i+1):=by rw [List.drop_eq_getElem_cons hx];simp [List.getD_eq_getElem?_getD,hx]
 have e2:y.drop i=y.getD i 0::y.drop (i+1):=by rw [List.drop_eq_getElem_cons hy];simp [List.getD_eq_getElem?_getD,hy]
 rw [e1,e2] at hb
 have k1:=Z26 (bx.getD i) (yb.getD i)
 have k2:=Z26 (yb.getD i) (bx.getD i)
 generalize x.getD i 0=u at*
 generalize y.getD i 0=v at*
 simp only [X4,List.map_cons,Lib.compareBytes,k1.2,k2.2] at hb
 rw [Z0G]
 constructor
 ·intro h
  have h:u≠v:=by simpa using h
  rw [hb]
  by_cases h1:u<v
  ·simp [h1];omega
  ·have:v<u:=by omega
   simp [this,h1]
 ·intro h
  have h:u=v:=by simpa using h
  subst h
  simp only [Int.lt_irrefl,if_false] at hb
  exact hP hb
theorem Zlq (x y:List Int) (b:Bool) (hx:x.length=32) (hy:y.length=32) (bx:Bytes x) (yb:Bytes y) (hb:b=decide (X4 (x.drop 0) (y.drop 0)>0)):
  evF G0 20 286 [.agg [.arr .u8 32 x],.agg [.arr .u8 32 y]] ⟨0,[]⟩ (XI (fun v=>v=.bool b)):=by
 refine @Eq.mpr _ (let q1:=AV.bool b;
 Z0 (List.getD x 0 0 !=List.getD y 0 0) (AV.bool (decide (List.getD x 0 0>List.getD y 0 0))=q1)
 (Z0 (List.getD x 1 0 !=List.getD y 1 0) (AV.bool (decide (List.getD x 1 0>List.getD y 1 0))=q1)
 (Z0 (List.getD x 2 0 !=List.getD y 2 0) (AV.bool (decide (List.getD x 2 0>List.getD y 2 0))=q1)
 (Z0 (List.getD x 3 0 !=List.getD y 3 0) (AV.bool (decide (List.getD x 3 0>List.getD y 3 0))=q1)
 (Z0 (List.getD x 4 0 !=List.getD y 4 0) (AV.bool (decide (List.getD x 4 0>List.getD y 4 0))=q1)
 (Z0 (List.getD x 5 0 !=List.getD y 5 0) (AV.bool (decide (List.getD x 5 0>List.getD y 5 0))=q1)
 (Z0 (List.getD x 6 0 !=List.getD y 6 0) (AV.bool (decide (List.getD x 6 0>List.getD y 6 0))=q1)
 (Z0 (List.getD x 7 0 !=List.getD y 7 0) (AV.bool (decide (List.getD x 7 0>List.getD y 7 0))=q1)
 (Z0 (List.getD x 8 0 !=List.getD y 8 0) (AV.bool (decide (List.getD x 8 0>List.getD y 8 0))=q1)
 (Z0 (List.getD x 9 0 !=List.getD y 9 0) (AV.bool (decide (List.getD x 9 0>List.getD y 9 0))=q1)
 (Z0 (List.getD x 10 0 !=List.getD y 10 0) (AV.bool (decide (List.getD x 10 0>List.getD y 10 0))=q1)
 (Z0 (List.getD x 11 0 !=List.getD y 11 0) (AV.bool (decide (List.getD x 11 0>List.getD y 11 0))=q1)
 (Z0 (List.getD x 12 0 !=List.getD y 12 0) (AV.bool (decide (List.getD x 12 0>List.getD y 12 0))=q1)
 (Z0 (List.getD x 13 0 !=List.getD y 13 0) (AV.bool (decide (List.getD x 13 0>List.getD y 13 0))=q1)
 (Z0 (List.getD x 14 0 !=List.getD y 14 0) (AV.bool (decide (List.getD x 14 0>List.getD y 14 0))=q1)
 (Z0 (List.getD x 15 0 !=List.getD y 15 0) (AV.bool (decide (List.getD x 15 0>List.getD y 15 0))=q1)
 (Z0 (List.getD x 16 0 !=List.getD y 16 0) (AV.bool (decide (List.getD x 16 0>List.getD y 16 0))=q1)
 (Z0 (List.getD x 17 0 !=List.getD y 17 0) (AV.bool (decide (List.getD x 17 0>List.getD y 17 0))=q1)
 (Z0 (List.getD x 18 0 !=List.getD y 18 0) (AV.bool (decide (List.getD x 18 0>List.getD y 18 0))=q1)
 (Z0 (List.getD x 19 0 !=List.getD y 19 0) (AV.bool (decide (List.getD x 19 0>List.getD y 19 0))=q1)
 (Z0 (List.getD x 20 0 !=List.getD y 20 0) (AV.bool (decide (List.getD x 20 0>List.getD y 20 0))=q1)
 (Z0 (List.getD x 21 0 !=List.getD y 21 0) (AV.bool (decide (List.getD x 21 0>List.getD y 21 0))=q1)
 (Z0 (List.getD x 22 0 !=List.getD y 22 0) (AV.bool (decide (List.getD x 22 0>List.getD y 22 0))=q1)
 (Z0 (List.getD x 23 0 !=List.getD y 23 0) (AV.bool (decide (List.getD x 23 0>List.getD y 23 0))=q1)
 (Z0 (List.getD x 24 0 !=List.getD y 24 0) (AV.bool (decide (List.getD x 24 0>List.getD y 24 0))=q1) (Z0 (List.getD x 25 0 !=List.getD y 25 0) (AV.bool (decide (List.getD x 25 0>List.getD y 25 0))=q1) (Z0 (List.getD x 26 0 !=List.getD y 26 0) (AV.bool (decide (List.getD x 26 0>List.getD y 26 0))=q1) (Z0 (List.getD x 27 0 !=List.getD y 27 0) (AV.bool (decide (List.getD x 27 0>List.getD y 27 0))=q1) (Z0 (List.getD x 28 0 !=List.getD y 28 0) (AV.bool (decide (List.getD x 28 0>List.getD y 28 0))=q1) (Z0 (List.getD x 29 0 !=List.getD y 29 0) (AV.bool (decide (List.getD x 29 0>List.getD y 29 0))=q1) (Z0 (List.getD x 30 0 !=List.getD y 30 0) (AV.bool (decide (List.getD x 30 0>List.getD y 30 0))=q1) (Z0 (List.getD x 31 0 !=List.getD y 31 0) (AV.bool (decide (List.getD x 31 0>List.getD y 31 0))=q1) (AV.bool false=q1))))))))))))))))))))))))))))))))) (by kernel_rfl) ?_
 conv=>zeta
 iterate 32 refine Zja (by omega) (by omega) bx yb hb fun hb=> ?_
 rw [List.drop_eq_nil_of_le (by omega),List.drop_eq_nil_of_le (by omega)] at hb
 have h0:X4 [] []=0:=rfl
 simp [hb,h0,Z0]
theorem Zgu (args:List AV) (h:Z6) (K:AV->Prop) (hl:inS Y8 args h K):Zi PP 263 args h fun o h'=>∃v,o=.ret v/\h'=h/\K v:=by
 unfold inS at hl
 split at hl
 ·rename_i n i w t a s
  obtain ⟨⟨h1,h2,h3,h4⟩,hK⟩:=Zb hl
  exact Yu Zp rfl (Zlp ⟨n,i,w,t,a,s⟩ _ ⟨h1,h2,h3,h4⟩ rfl) (fun u hu=>hu▸hK)
 ·exact hl.elim
def Zjb:ZG:=fun args _ K=>match args with
 | [.agg [.arr .u8 32 x],.agg [.arr .u8 32 y]]=>(x.length=32/\y.length=32)/\Bytes x/\Bytes y/\K (.bool (decide (X4 x y>0)))
 | _=>False
noncomputable def Zlr:Zh:=G0.withP 286 Zjb
theorem Zjc (o:ZK) (b:Bool) (ho:o.Ok) (b1:Bytes o.owner) (b2:Bytes o.other) (hb:b=ZI o):
  evF Zlr 20 264 [.agg o.c] ⟨0,[]⟩ (XI (fun v=>v=.bool b)):=by
 refine @Eq.mpr _ (let q1:=o.kind;let q2:=q1==2;let q3:=decide (q1>=3);let q4:=o.delay;let q5:=decide (q4=q4);let q6:=decide (q1>=4);let q7:=o.expiry;let q8:=decide (q7=q7);let q9:=decide (q1>=1);let q10:=decide (q1<=5);let q11:=o.owner;let q12:=decide (List.length q11=32/\List.length q11=32);let q13:=o.other;let q14:=decide (List.length q13=32/\List.length q13=32);let q15:=o.point;let q16:=decide (List.length q15=32/\List.length q15=32);let q17:=o.hash;let q18:=decide (List.length q17=32/\List.length q17=32);let q19:=q1==q1;let q20:=o.amount;let q21:=q20==q20;let q22:=q11==q11;let q23:=q13==q13;let q24:=q15==q15;let q25:=q17==q17;let q26:=q4==q4;let q27:=q7==q7;let q28:=q24&&(q25&&(q26&&q27));let q29:=AV.bool b;let q30:=AV.bool false=q29;let q31:=Z0 (decide (q20>0)) (Z0 (decide (q20>=0)) (Z0 (decide (q20<=1125899906842624)) (Z0 (decide (q4>=0)) (Z0 (decide (q4<=2147483647)) (Z0 (decide (q7>=0)) (Z0 (decide (q7<=2147483647)) (Z0 q2 ((List.length q11=32/\List.length q13=32)/\Bytes q11/\Bytes q13/\(AV.bool !decide (X4 q11 q13>0))=q29) (AV.bool true=q29)) q30) q30) q30) q30) q30) q30) q30;let q32:=decide (List.length q17=32/\(32:Nat)=32);let q33:=q17==Z5;let q34:=q7==0;let q35:=q24&&(q33&&(q26&&q34));let q36:=decide (List.length q15=32/\(32:Nat)=32);let q37:=q15==Z5;let q38:=q4==0;let q39:=q37&&(q25&&(q38&&q27));let q40:=q37&&(q33&&(q38&&q34));let q41:=Z0 q3 (Z0 q5 (Z0 q6 (Z0 q8 (Z0 q9 (Z0 q10 (Z0 q12 (Z0 q14 (Z0 q16 (Z0 q18 (Z0 (q19&&(q21&&(q22&&(q23&&q28)))) q31 q30) False) False) False) False) q30) q30) False) (Z0 q9 (Z0 q10 (Z0 q12 (Z0 q14 (Z0 q16 (Z0 q32 (Z0 (q19&&(q21&&(q22&&(q23&&q35)))) q31 q30) False) False) False) False) q30) q30)) False) (Z0 q6 (Z0 q8 (Z0 q9 (Z0 q10 (Z0 q12 (Z0 q14 (Z0 q36 (Z0 q18 (Z0 (q19&&(q21&&(q22&&(q23&&q39)))) q31 q30) False) False) False) False) q30) q30) False) (Z0 q9 (Z0 q10 (Z0 q12 (Z0 q14 (Z0 q36 (Z0 q32 (Z0 (q19&&(q21&&(q22&&(q23&&q40)))) q31 q30) False) False) False) False) q30) q30));let q42:=decide (List.length q13=32/\(32:Nat)=32);let q43:=q13==Z5;
 Z0 q2 q41 (Z0 (q1==4) q41 (Z0 (q1==5) q41 (Z0 q3 (Z0 q5 (Z0 q6 (Z0 q8 (Z0 q9 (Z0 q10 (Z0 q12 (Z0 q42 (Z0 q16 (Z0 q18 (Z0 (q19&&(q21&&(q22&&(q43&&q28)))) q31 q30) False) False) False) False) q30) q30) False) (Z0 q9 (Z0 q10 (Z0 q12 (Z0 q42 (Z0 q16 (Z0 q32 (Z0 (q19&&(q21&&(q22&&(q43&&q35)))) q31 q30) False) False) False) False) q30) q30)) False) (Z0 q6 (Z0 q8 (Z0 q9 (Z0 q10 (Z0 q12 (Z0 q42 (Z0 q36 (Z0 q18 (Z0 (q19&&(q21&&(q22&&(q43&&q39)))) q31 q30) False) False) False) False) q30) q30) False) (Z0 q9 (Z0 q10 (Z0 q12 (Z0 q42 (Z0 q36 (Z0 q32 (Z0 (q19&&(q21&&(q22&&(q43&&q40)))) q31 q30) False) False) False) False) q30) q30)))))) (by kernel_rfl) ?_
 conv=>zeta
 obtain ⟨h1,h2,h3,h4⟩:=ho
 subst hb
 have hz:[(0:Int),0,0,0,0,0,0,0,0,0,0,0,0,0,0,0,0,0,0,0,0,0,0,0,0,0,0,0,0,0,0,0]=Z5:=rfl
 simp only [hz,Z0G,Z8]
 unfold ZI
 generalize (o.other==Z5)=bo
 generalize (o.point==Z5)=bp
 generalize (o.hash==Z5)=bh
 generalize X4 o.owner o.other=cc
 by_cases k1:o.kind=1
 ·cases bo<;>cases bp<;>cases bh<;>simp [k1,h1,h2,h3,h4,b1,b2]<;>first|omega|grind
 by_cases k2:o.kind=2
 ·cases bp<;>cases bh<;>simp [k2,h1,h2,h3,h4,b1,b2]<;>first|omega|grind
 by_cases k3:o.kind=3
 ·cases bo<;>cases bh<;>simp [k3,h1,h2,h3,h4,b1,b2]<;>first|omega|grind
 by_cases k4:o.kind=4
 ·simp [k4,h1,h2,h3,h4,b1,b2]<;>first|omega|grind
 by_cases k5:o.kind=5
 ·simp [k5,h1,h2,h3,h4,b1,b2]<;>first|omega|grind
 cases bo<;>cases bp<;>cases bh<;>simp [k1,k2,k3,k4,k5,h1,h2,h3,h4,b1,b2]<;>first|omega|grind
theorem ZdI (args:List AV) (h:Z6) (K:AV->Prop) (hl:Zjb args h K):Zi PP 286 args h fun o h'=>∃v,o=.ret v/\h'=h/\K v:=by
 unfold Zjb at hl
 split at hl
 ·obtain ⟨⟨h1,h2⟩,b1,b2,hK⟩:=hl
  exact Yu Zp rfl (Zlq _ _ _ h1 h2 b1 b2 rfl) (fun u hu=>hu▸hK)
 ·exact hl.elim
theorem Zgv:Zlr.Ok:=Zh.withP_ok Zp ZdI
def Z8A (R:ZK->Bool):ZG:=fun args _ K=>match args with
 | [.agg [.int .i64 kd,.int .i64 am,.arr .u8 32 ow,.arr .u8 32 ot,.arr .u8 32 po,.arr .u8 32 ha,.int .i64 de,.int .i64 ex]]=>Zt (ow.length=32/\ot.length=32/\po.length=32/\ha.length=32) ((Bytes ow/\Bytes ot)/\K (.bool (R ⟨kd,am,ow,ot,po,ha,de,ex⟩)))
 | _=>False
theorem ZdJ (args:List AV) (h:Z6) (K:AV->Prop) (hl:Z8A ZI args h K):Zi PP 264 args h fun o h'=>∃v,o=.ret v/\h'=h/\K v:=by
 unfold Z8A at hl
 split at hl
 ·rename_i kd am ow ot po ha de ex
  obtain ⟨⟨h1,h2,h3,h4⟩,⟨b1,b2⟩,hK⟩:=Zb hl
  exact Yu Zgv rfl (Zjc ⟨kd,am,ow,ot,po,ha,de,ex⟩ _ ⟨h1,h2,h3,h4⟩ b1 b2 rfl) (fun u hu=>hu▸hK)
 ·exact hl.elim
noncomputable def E35:Zh:=(G0.withP 263 (inS Y8)).withP 264 (Z8A ZI)
theorem Z8B:E35.Ok:=Zh.withP_ok (Zh.withP_ok Zp Zgu) ZdJ
def Zjd {ι:Type} (S:ι->Nat->St->KE->Prop):Nat->St->KE->Prop:=fun k s X=>∃i,S i k s X
theorem Zh.withL_ex {ι:Type} {G:Zh} (hG:G.Ok) {f:FuncId} {id:Nat} {S:ι->Nat->St->KE->Prop} (h1:∀i,(G.withL f id (S i)).Ok):(G.withL f id (Zjd S)).Ok where
 draw:=hG.draw
 psumm:=hG.psumm
 fsumm:=hG.fsumm
 lsumm:=fun f' id' S' fn c body hS hf hb hm k s X hs=>by
  have hS0:=hS
  simp only [Zh.withL] at hS
  split at hS
  ·rename_i hq
   cases hS
   obtain ⟨i,hs⟩:=hs
   have a1:=(h1 i).lsumm f' id' (S i) fn c body
   simp only [Zh.withL,hq] at a1
   exact a1 trivial hf hb hm k s X hs
  ·exact hG.lsumm f' id' S' fn c body hS hf hb hm k s X hs
def rgH (t:TxS):Z6:=⟨1,[(0,.flat t.c)]⟩
def rgP:AV:=.ptr (some ⟨0,0,0,0,0⟩)
def Zbq (t:TxS) (i:Nat):St:=⟨106,[(3,.int .i64 i),(1,rgP)],rgH t,[]⟩
def Zje (t:TxS) (i k:Nat):St:=⟨106,[(4,.int .i64 k),(3,.int .i64 i),(1,rgP)],rgH t,[]⟩
def rgR (t:TxS):St:=⟨106,[(2,.bool false),(1,rgP)],rgH t,[]⟩
def Zls (t:TxS):St:=⟨106,[(1,rgP)],rgH t,[]⟩
def Z8C (t:TxS) (i:Nat) (n:Int):St:=⟨106,[(6,.int .i64 i),(5,.int .i64 n),(1,rgP)],rgH t,[]⟩
def Zlt (t:TxS) (n:Int):St:=⟨106,[(5,.int .i64 n),(1,rgP)],rgH t,[]⟩
theorem ZnA (t:TxS) (i k:Nat) (Z1 Z2 Z3:Prop) (hi:i<t.N) (hN:t.N<=24) (hk:k<=i) (ht:t.Ok) (h1:k<i->sameAt t.ins (t.ins i) k=false->Z1) (h2:k=i->Z2) (h3:k<i->sameAt t.ins (t.ins i) k=true->Z3):
  ZM E35 20 203 2 0 (Zje t i k) (rdM 0 2 9 (Zje t i (k+1)) (Zbq t i) (rgR t) (rgR t) Z1 Z2 Z3 False):=by
 refine @Eq.mpr _ (let q1:=t.N;let q2:=(↑q1:Int);let q3:=decide (0<=(↑k:Int)/\(↑k:Int)<q2);let q4:=decide (0<=(↑i:Int)/\(↑i:Int)<q2);let q5:=t.ins (Int.toNat (↑k:Int));let q6:=q5.name;let q7:=t.ins (Int.toNat (↑i:Int));let q8:=q7.name;let q9:=decide (t.num=t.num);let q10:=decide (q1=q1);let q11:=Zk t.ins;let q12:=q11=q11;let q13:=decide (t.M=t.M);let q14:=Zj t.outs;let q15:=q14=q14;let q16:=decide ((↑i:Int)=(↑i:Int));let q17:=Z0 (decide (wrap i64 ((↑k:Int)+1)=(↑(k+1):Int))) (Z0 q16 (Z0 q9 (Z0 q10 (q12/\Z0 q10 (Z0 q13 (q15/\Z0 q13 Z1 False) False) False) False) False) False) False;
 Z0 (decide ((↑k:Int)<(↑i:Int))) (Z0 q3 (Z0 q4 (Z0 (decide (List.length q6=32/\List.length q8=32)) (Z0 (q6==q8) (Z0 q3 (Z0 q4 (Z0 (q5.index==q7.index) (Z0 q9 (Z0 q10 (q12/\Z0 q10 (Z0 q13 (q15/\Z0 q13 Z3 False) False) False) False) False) q17) False) False) q17) False) False) False) (Z0 q16 (Z0 q9 (Z0 q10 (q12/\Z0 q10 (Z0 q13 (q15/\Z0 q13 Z2 False) False) False) False) False) False)) (by kernel_rfl) ?_
 conv=>zeta
 try simp only [Z8]
 try simp only [Ze]
 try simp only [Za]
 try simp only [Zf]
 try simp only [Zg]
 try simp only [Z9]
 try simp only [Y_s]
 have e1:=(ht.ins i hi).name
 have e2:k<t.N->(t.ins k).name.length=32:=fun h=>(ht.ins k h).name
 have hw:i64.wrap ((k:Int)+1)=((k+1:Nat):Int):=w64 (by omega)
 rw [hw]
 unfold sameAt UW at h1 h3
 refine ⟨fun hlt=> ?_,fun hge=> ?_⟩
 ·have hlt:k<i:=by omega
  have h1:=h1 hlt
  have h3:=h3 hlt
  have e2:=e2 (by omega)
  refine ⟨by omega,by omega,⟨e2,e1⟩,fun q1=>⟨by omega,by omega,fun q2=>h3 (by rw [q1,q2];rfl),fun q2=>⟨rfl,h1 (by rw [q2,Bool.and_false])⟩⟩,fun q1=>⟨rfl,h1 (by rw [q1,Bool.false_and])⟩⟩
 ·simp [h2 (by omega)]
theorem ZnB (t:TxS) (i:Nat) (n:Int) (Z1 Z2 Z3:Prop) (hM:t.M<=24) (hi:i<=t.M) (ht:t.Ok) (hn:0<=n/\n<=i*1125899906842624) (hB:i<t.M->Bytes (t.outs i).owner/\Bytes (t.outs i).other) (h1:i<t.M->ZI (t.outs i)=true->Z1) (h2:i=t.M->Z2) (h3:i<t.M->ZI (t.outs i)=false->Z3):
  ZM E35 20 203 4 0 (Z8C t i n) (rdM 0 4 9 (Z8C t (i+1) (n+(t.outs i).amount)) (Zlt t n) (rgR t) (rgR t) Z1 Z2 Z3 False):=by
 refine @Eq.mpr _ (let q1:=t.M;let q2:=decide (0<=(↑i:Int)/\(↑i:Int)<(↑q1:Int));let q3:=t.outs (Int.toNat (↑i:Int));let q4:=q3.owner;let q5:=q3.other;let q6:=q3.point;let q7:=q3.hash;let q8:=q3.amount;let q9:=decide (t.num=t.num);let q10:=decide (t.N=t.N);let q11:=Zk t.ins;let q12:=q11=q11;let q13:=decide (q1=q1);let q14:=Zj t.outs;let q15:=q14=q14;
 Z0 (decide ((↑i:Int)<(↑q1:Int))) (Z0 q2 (Z0 (decide (List.length q4=32/\List.length q5=32/\List.length q6=32/\List.length q7=32)) ((Bytes q4/\Bytes q5)/\Z0 (!ZI (ZK.mk q3.kind q8 q4 q5 q6 q7 q3.delay q3.expiry)) (Z0 q9 (Z0 q10 (q12/\Z0 q10 (Z0 q13 (q15/\Z0 q13 Z3 False) False) False) False) False) (Z0 q2 (Z0 (decide (wrap i64 ((↑i:Int)+1)=(↑(i+1):Int))) (Z0 (decide (wrap i64 (n+q8)=n+(t.outs i).amount)) (Z0 q9 (Z0 q10 (q12/\Z0 q10 (Z0 q13 (q15/\Z0 q13 Z1 False) False) False) False) False) False) False) False)) False) False) (Z0 (decide (n=n)) (Z0 q9 (Z0 q10 (q12/\Z0 q10 (Z0 q13 (q15/\Z0 q13 Z2 False) False) False) False) False) False)) (by kernel_rfl) ?_
 conv=>zeta
 try simp only [Z8]
 try simp only [Ze]
 try simp only [Za]
 try simp only [Zf]
 try simp only [Zg]
 try simp only [Z9]
 try simp only [Y_s]
 have hw:i64.wrap ((i:Int)+1)=((i+1:Nat):Int):=w64 (by omega)
 rw [hw]
 refine ⟨fun hlt=> ?_,fun hge=> ?_⟩
 ·have hlt:i<t.M:=by omega
  obtain ⟨e1,e2,e3,e4⟩:=ht.outs i hlt
  obtain ⟨b1,b2⟩:=hB hlt
  have h1:=h1 hlt
  have h3:=h3 hlt
  have hw2:ZI (t.outs i)=true->i64.wrap (n+(t.outs i).amount)=n+(t.outs i).amount:=fun h=>by
   have:=(Xn h).2
   exact w64 (by omega)
  refine ⟨by omega,⟨e1,e2,e3,e4⟩,⟨b1,b2⟩,fun q=>h3 (by simpa using q),fun q=>⟨by omega,rfl,hw2 (by simpa using q),h1 (by simpa using q)⟩⟩
 ·simp [h2 (by omega)]
noncomputable def Zgw (t:TxS):Zh:=E35.withL 203 2 (Zjd fun i:Nat=>goM 0 (Zje t i 0) (i<t.N/\t.N<=24/\t.Ok) (YB 2 i 9 (fun k=>sameAt t.ins (t.ins i) k=false) (fun k=>k=i) (fun k=>k<i/\sameAt t.ins (t.ins i) k=true) (fun _=>False) (fun _=>Zbq t i) (fun _=>rgR t) (fun _=>rgR t)))
theorem Zgx (t:TxS):(Zgw t).Ok:=
 Zh.withL_ex Z8B fun i=>Zh.withGoM (N:=20) Z8B (by kernel_rfl) fun hC=>⟨rfl,fun k hk hgo=>ZnA t i k _ _ _ hC.1 hC.2.1 hk hC.2.2 (fun h1 h2=>⟨h2,h1⟩) (fun h=>h) (fun h1 h2=>⟨h1,h2⟩)⟩
def okI (t:TxS) (i:Nat):Bool:=Y8 (t.ins i)&& !((List.range i).any (sameAt t.ins (t.ins i)))
theorem ZnC (t:TxS) (i:Nat) (Z1 Z2 Z3:Prop) (hi:i<=t.N) (hN:t.N<=24) (ht:t.Ok) (h1:i<t.N->okI t i=true->Z1) (h2:i=t.N->Z2) (h3:i<t.N->okI t i=false->Z3):
  ZM (Zgw t) 20 203 0 0 (Zbq t i) (rdM 0 0 9 (Zbq t (i+1)) (Zls t) (rgR t) (rgR t) Z1 Z2 Z3 False):=by
 refine @Eq.mpr _ (let q1:=t.N;let q2:=t.ins (Int.toNat (↑i:Int));let q3:=q2.name;let q4:=q2.tag;let q5:=q2.also;let q6:=q2.secret;let q7:=decide (t.num=t.num);let q8:=decide (q1=q1);let q9:=t.ins;let q10:=Zk q9;let q11:=q10=q10;let q12:=decide (t.M=t.M);let q13:=Zj t.outs;let q14:=q13=q13;let q15:=Z0 q7 (Z0 q8 (q11/\Z0 q8 (Z0 q12 (q14/\Z0 q12 Z3 False) False) False) False) False;
 Z0 (decide ((↑i:Int)<(↑q1:Int))) (Z0 (decide (0<=(↑i:Int)/\(↑i:Int)<(↑q1:Int))) (Z0 (decide (List.length q3=32/\List.length q4=32/\List.length q5=32/\List.length q6=32)) (Z0 (!Y8 (InS.mk q3 q2.index q2.way q4 q5 q6)) q15 (∃(i_1:Nat),Z0 (decide ((↑i:Int)=(↑i_1:Int))) (Z0 q7 (Z0 q8 (q11/\Z0 q8 (Z0 q12 (q14/\Z0 q12 ((i_1<q1/\q1<=24/\TxS.Ok t)/\∀(i_2:Nat),i_2<=i_1->(∀(j:Nat),j<i_2->(fun (k:Nat)=>sameAt q9 (q9 i_1) k=false) j)->(i_2=i_1->Z0 (decide (wrap i64 ((↑i_1:Int)+1)=(↑(i+1):Int))) (Z0 q7 (Z0 q8 (q11/\Z0 q8 (Z0 q12 (q14/\Z0 q12 Z1 False) False) False) False) False) False)/\(i_2<i_1/\sameAt q9 (q9 i_1) i_2=true->q15)/\(False->Z0 q7 (Z0 q8 (q11/\Z0 q8 (Z0 q12 (q14/\Z0 q12 False False) False) False) False) False)) False) False) False) False) False) False)) False) False)
 (Z0 q7 (Z0 q8 (q11/\Z0 q8 (Z0 q12 (q14/\Z0 q12 Z2 False) False) False) False) False)) (by kernel_rfl) ?_
 conv=>zeta
 try simp only [Z8]
 try simp only [Ze]
 try simp only [Za]
 try simp only [Zf]
 try simp only [Zg]
 try simp only [Z9]
 try simp only [Y_s]
 unfold okI at h1 h3
 refine ⟨fun hlt=> ?_,fun hge=>h2 (by omega)⟩
 have hlt:i<t.N:=by omega
 obtain ⟨e1,e2,e3,e4⟩:=ht.ins i hlt
 have h1:=h1 hlt
 have h3:=h3 hlt
 refine ⟨by omega,⟨e1,e2,e3,e4⟩,fun q=>h3 ?_,fun q=>⟨i,rfl,⟨hlt,hN,ht⟩,fun m hm hgo=>⟨fun hq=>⟨w64 (by omega),h1 ?_⟩,fun hq=>h3 ?_,fun h=>h⟩⟩⟩
 ·have q:Y8 (t.ins i)=false:=by simpa using q
  rw [q,Bool.false_and]
 ·subst hq
  have q:Y8 (t.ins m)=true:=by simpa using q
  rw [q,Bool.true_and]
  simp only [Bool.not_eq_true',List.any_eq_false,List.mem_range]
  intro j hj
  rw [hgo j hj]
  decide
 ·have:(List.range i).any (sameAt t.ins (t.ins i))=true:=by
   rw [List.any_eq_true]
   exact ⟨m,by simpa using hq.1,hq.2⟩
  rw [this,Bool.not_true,Bool.and_false]
def Vx (t:TxS) (i:Nat):Int:=(amL t.outs i).sum
structure TxB (t:TxS):Prop where
 h:∀i,i<t.M->Bytes (t.outs i).owner/\Bytes (t.outs i).other
theorem Z5J {t:TxS}:∀i,(∀j,j<i->ZI (t.outs j)=true)->0<=Vx t i/\Vx t i<=i*1125899906842624
 | 0,_=>by simp [Vx,amL]
 | i+1,h=>by
  have h1:=Z5J i (fun j hj=>h j (by omega))
  have h2:=(Xn (h i (by omega))).2.1
  have e:Vx t (i+1)=Vx t i+(t.outs i).amount:=by unfold Vx;rw [Z3k];simp
  omega
theorem Zbr (t:TxS) (i:Nat):Vx t (i+1)=Vx t i+(t.outs i).amount:=by unfold Vx;rw [Z3k];simp
def Zlu (t:TxS):Nat->St->KE->Prop:=goM 0 (Zbq t 0) (t.N<=24/\t.Ok) (YB 0 t.N 9 (fun i=>okI t i=true) (fun i=>i=t.N) (fun i=>i<t.N/\okI t i=false) (fun _=>False) (fun _=>Zls t) (fun _=>rgR t) (fun _=>rgR t))
def Zlv (t:TxS):Nat->St->KE->Prop:=goM 0 (Z8C t 0 0) (t.M<=24/\t.Ok/\TxB t) (YB 4 t.M 9 (fun i=>ZI (t.outs i)=true) (fun i=>i=t.M) (fun i=>i<t.M/\ZI (t.outs i)=false) (fun _=>False) (fun i=>Zlt t (Vx t i)) (fun _=>rgR t) (fun _=>rgR t))
noncomputable def Zlw (t:TxS):Zh:=((Zgw t).withL 203 0 (Zlu t)).withL 203 4
 (Zlv t)
theorem Zgy (t:TxS):(Zlw t).Ok:=by
 have h1:((Zgw t).withL 203 0 (Zlu t)).Ok:=
  Zh.withGoM (N:=20) (S:=Zbq t) (Zgx t) (by kernel_rfl) fun hC=>⟨rfl,fun i hi hgo=>ZnC t i _ _ _ hi hC.1 hC.2 (fun h1 h2=>⟨h2,h1⟩) (fun h=>h) (fun h1 h2=>⟨h1,h2⟩)⟩
 have h2:(E35.withL 203 4 (Zlv t)).Ok:=by
  refine Zh.withGoM (N:=20) (S:=fun i=>Z8C t i (Vx t i)) Z8B (by kernel_rfl) fun hC=>⟨by show Z8C t 0 (Vx t 0)=_;unfold Vx amL;rfl,fun i hi hgo=> ?_⟩
  show ZM E35 20 203 4 0 (Z8C t i (Vx t i)) (rdM 0 4 9 (Z8C t (i+1) (Vx t (i+1))) _ _ _ _ _ _ _)
  rw [Zbr]
  exact ZnB t i (Vx t i) _ _ _ hC.1 hi hC.2.1 (Z5J i hgo) (fun h=>hC.2.2.h i h) (fun h1 h2=>⟨h2,h1⟩) (fun h=>h) (fun h1 h2=>⟨h1,h2⟩)
 exact Zh.withL_join (H:=E35) h1 rfl h2
def XB (t:TxS):Bool:=decide (0<=t.num/\t.num<=2147483647)&&decide (1<=t.N/\t.N<=24)&&decide (1<=t.M/\t.M<=24)&&(List.range t.N).all (okI t)&&(List.range t.M).all (fun i=>ZI (t.outs i))&&decide (Vx t t.M<=1125899906842624)
theorem ZnD (t:TxS) (b:Bool) (ht:t.Ok) (hb:TxB t) (h:b=XB t):
  evF (Zlw t) 20 203 [.agg t.c] ⟨0,[]⟩ (Yt 0 [] (.bool b) 0 []):=by
 refine @Eq.mpr _ (let q1:=t.num;let q2:=Z0 (decide (false=b)) True False;let q3:=t.N;let q4:=(↑q3:Int);let q5:=t.M;let q6:=(↑q5:Int);let q7:=decide (q1=q1);let q8:=decide (q3=q3);let q9:=Zk t.ins;let q10:=q9=q9;let q11:=decide (q5=q5);let q12:=Zj t.outs;let q13:=q12=q12;
 Z0 (decide (q1>=0)) (Z0 (!decide (q1<=2147483647)) q2 (Z0 (decide (q4<1)) q2 (Z0 (decide (q4>24)) q2 (Z0 (decide (q6<1)) q2 (Z0 (decide (q6>24)) q2 (Z0 q7 (Z0 q8 (q10/\Z0 q8 (Z0 q11 (q13/\Z0 q11 ((q3<=24/\TxS.Ok t)/\∀(i:Nat),i<=q3->(∀(j:Nat),j<i->(fun (i:Nat)=>okI t i=true) j)->(i=q3->Z0 q7 (Z0 q8 (q10/\Z0 q8 (Z0 q11 (q13/\Z0 q11 ((q5<=24/\TxS.Ok t/\TxB t)/\∀(i:Nat),i<=q5->(∀(j:Nat),j<i->(fun (i:Nat)=>ZI (t.outs i)=true) j)->(i=q5->Z0 (decide (Vx t i>=0)) (Z0 (decide (decide (Vx t i<=1125899906842624)=b)) True False) q2)/\(i<q5/\ZI (t.outs i)=false->q2)/\(False->False)) False) False) False) False) False)/\(i<q3/\okI t i=false->q2)/\(False->False)) False) False) False) False) False)))))) q2) (by kernel_rfl) ?_
 conv=>zeta
 try simp only [Z8]
 try simp only [Ze]
 try simp only [Za]
 try simp only [Zf]
 try simp only [Zg]
 try simp only [Z9]
 try simp only [Y_s]
 subst h
 have hF:XB t=false->false=XB t:=fun h=>by rw [h]
 refine ⟨fun a1=>⟨fun a2=>hF ?_,fun a2=>⟨fun a3=>hF ?_,fun a3=>⟨fun a4=>hF ?_,fun a4=>⟨fun a5=>hF ?_,fun a5=>⟨fun a6=>hF ?_,fun a6=>⟨⟨by omega,ht⟩,fun i hi hgo=>⟨fun hq=>⟨⟨by omega,ht,hb⟩,fun m hm hgm=>⟨fun hr=>⟨fun a7=> ?_,fun a7=> ?_⟩,fun hr=>hF ?_,fun h=>h⟩⟩,fun hq=>hF ?_,fun h=>h⟩⟩⟩⟩⟩⟩⟩,fun a1=>hF ?_⟩
 ·unfold XB;rw [decide_eq_false (p:=0<=t.num/\_) (by simp at a2;omega)];simp
 ·unfold XB;rw [decide_eq_false (p:=1<=t.N/\_) (by omega)];simp
 ·unfold XB;rw [decide_eq_false (p:=1<=t.N/\_) (by omega)];simp
 ·unfold XB;rw [decide_eq_false (p:=1<=t.M/\_) (by omega)];simp
 ·unfold XB;rw [decide_eq_false (p:=1<=t.M/\_) (by omega)];simp
 ·subst hq hr
  have e1:(List.range t.N).all (okI t)=true:=by
   rw [List.all_eq_true];intro j hj;exact hgo j (by simpa using hj)
  have e2:(List.range t.M).all (fun i=>ZI (t.outs i))=true:=by
   rw [List.all_eq_true];intro j hj;exact hgm j (by simpa using hj)
  unfold XB
  rw [e1,e2,decide_eq_true (p:=0<=t.num/\_) (by simp at a2;omega),decide_eq_true (p:=1<=t.N/\_) (by omega),decide_eq_true (p:=1<=t.M/\_) (by omega)]
  simp
 ·exact absurd (Z5J m hgm).1 a7
 ·unfold XB
  have:(List.range t.M).all (fun i=>ZI (t.outs i))=false:=by
   rw [List.all_eq_false];exact ⟨m,by simpa using hr.1,by simp [hr.2]⟩
  rw [this];simp
 ·unfold XB
  have:(List.range t.N).all (okI t)=false:=by
   rw [List.all_eq_false];exact ⟨i,by simpa using hq.1,by simp [hq.2]⟩
  rw [this];simp
 ·unfold XB;rw [decide_eq_false (p:=0<=t.num/\_) (by omega)];simp
theorem Z0f {g:Nat->InS} {x:InS} {j:Nat}:sameAt g x j=true↔(g j).name=x.name/\(g j).index=x.index:=by
 unfold sameAt UW;simp
theorem Z3p {N:Nat} {g:Nat->InS} {i:Nat} (hi:i<N):UX N g (g i)=true↔∃j,j<N/\j≠i/\sameAt g (g i) j=true:=by
 have hself:sameAt g (g i) i=true:=Z0f.2 ⟨rfl,rfl⟩
 unfold UX
 rcases Vi (sameAt g (g i)) N with ⟨_,hn⟩|⟨f,hf,ef,pf,hb⟩
 ·rw [hn i hi] at hself;cases hself
 rcases Vi (sameAt (Z0b N g) (g i)) N with ⟨_,hn⟩|⟨l,hl,el,pl,hb'⟩
 ·have:=hn (N-1-i) (by omega)
  have e:sameAt (Z0b N g) (g i) (N-1-i)=sameAt g (g i) i:=by unfold sameAt Z0b;congr 1;congr 1;omega
  rw [e,hself] at this;cases this
 have er:∀q,q<N->sameAt (Z0b N g) (g i) q=sameAt g (g i) (N-1-q):=fun q _=>rfl
 rw [er l hl] at pl
 rw [ef,el,bne_iff_ne]
 have hfi:f<=i:=by
  rcases Nat.lt_or_ge i f with h|h
  ·rw [hb i h] at hself;cases hself
  ·exact h
 have hli:i<=N-1-l:=by
  rcases Nat.lt_or_ge (N-1-i) l with h|h
  ·have:=hb' _ h
   rw [er _ (by omega),show N-1-(N-1-i)=i by omega,hself] at this;cases this
  ·omega
 constructor
 ·intro h
  rcases Nat.lt_or_ge f i with h1|h1
  ·exact ⟨f,hf,by omega,pf⟩
  ·exact ⟨N-1-l,by omega,by omega,pl⟩
 ·rintro ⟨j,hj,hne,pj⟩ h
  rcases Nat.lt_or_ge j f with h1|h1
  ·rw [hb j h1] at pj;cases pj
  ·have:=hb' (N-1-j) (by omega)
   rw [er _ (by omega),show N-1-(N-1-j)=j by omega,pj] at this;cases this
theorem Z4I {t:TxS} (h:∀j,j<t.M->ZI (t.outs j)=true):allIn 1125899906842624 (amL t.outs t.M)=true:=by
 unfold allIn
 rw [Bool.not_eq_true',List.any_eq_false]
 intro j hj
 have hj:j<t.M:=by simpa [Z0H] using hj
 have:=(Xn (h j hj)).2.1
 have e:(amL t.outs t.M).getD j 0=(t.outs j).amount:=by simp [amL,List.getD_eq_getElem?_getD,hj]
 unfold YA
 rw [e]
 unfold Uk
 simp
 omega
theorem Z4J (t:TxS):XB t=Yj ZJ t:=by
 rw [Bool.eq_iff_iff]
 unfold XB Yj
 simp only [Bool.and_eq_true,decide_eq_true_eq,List.all_eq_true,List.mem_range,Bool.not_eq_true',List.any_eq_false,beq_iff_eq]
 constructor
 ·rintro ⟨⟨⟨⟨⟨h1,h2⟩,h3⟩,h4⟩,h5⟩,h6⟩
  refine ⟨⟨⟨⟨⟨h1,h2⟩,h3⟩,fun i hi=> ?_⟩,fun i hi=> ?_⟩, ?_⟩
  ·have h:=h4 i hi
   unfold okI at h
   simp only [Bool.and_eq_true,Bool.not_eq_true',List.any_eq_false,List.mem_range] at h
   unfold YV Ud
   rw [h.1,Bool.not_true,Bool.false_or]
   intro hq
   obtain ⟨j,hj,hne,hs⟩:=(Z3p hi).1 hq
   rcases Nat.lt_or_gt_of_ne hne with h0|h0
   ·exact h.2 j h0 hs
   ·have h':=h4 j hj
    unfold okI at h'
    simp only [Bool.and_eq_true,Bool.not_eq_true',List.any_eq_false,List.mem_range] at h'
    refine h'.2 i h0 ?_
    rw [Z0f] at hs⊢
    exact ⟨hs.1.symm,hs.2.symm⟩
  ·unfold Yz Z0c
   rw [h5 i hi]
   decide
  ·unfold ZJ
   unfold Vx at h6;rw [if_pos (Z4I h5),if_pos h6]
 ·rintro ⟨⟨⟨⟨⟨h1,h2⟩,h3⟩,h4⟩,h5⟩,h6⟩
  have h5':∀j,j<t.M->ZI (t.outs j)=true:=fun j hj=>by
   have:=h5 j hj
   unfold Yz Z0c at this
   simpa using this
  refine ⟨⟨⟨⟨⟨h1,h2⟩,h3⟩,fun i hi=> ?_⟩,h5'⟩, ?_⟩
  ·have h:=h4 i hi
   unfold YV Ud at h
   simp only [Bool.or_eq_true,not_or,Bool.not_eq_true',Bool.not_eq_false,Bool.not_eq_true] at h
   unfold okI
   rw [h.1,Bool.true_and]
   simp only [Bool.not_eq_true',List.any_eq_false,List.mem_range]
   intro j hj hs
   have:=(Z3p hi).2 ⟨j,by omega,by omega,hs⟩
   rw [h.2] at this;cases this
  ·unfold ZJ at h6
   rw [if_pos (Z4I h5')] at h6
   split at h6
   ·assumption
   ·cases h6
def Z8D (A:List Int->Int×Int):ZG:=fun args h K=>ZH none h true 20 args fun a=>match a with
 | [.agg l]=>∃t,Z0d l t/\t.Ok/\TxB t/\K (.bool (Yj A t))
 | _=>False
theorem Zbs (args:List AV) (h:Z6) (K:AV->Prop) (hl:Z8D ZJ args h K):Zi PP 203 args h fun o h'=>∃v,o=.ret v/\h'=h/\K v:=by
 refine Zy.psumm (d:=20) (Zm _ _ _ _ _ hl fun a ha=> ?_)
 split at ha
 ·obtain ⟨t,h1,h2,h3,hK⟩:=ha
  refine ⟨_,(Zy.ev (Zgy t) (ZnD t _ h2 h3 rfl)).conv fun E r hr=>hr.head (fun _ hc=>h1.rel hc) (fun _ hc=>hc),fun _=>rfl, ?_⟩
  rw [Z4J]
  exact hK
 ·exact ha.elim
def smH (a b:TxS):Z6:=⟨2,[(0,.flat a.c),(1,.flat b.c)]⟩
def smP (l:Y1):Y1:=l++[(2,.ptr (some ⟨0,0,0,0,0⟩)),(3,.ptr (some ⟨1,0,0,0,0⟩))]
def Zgz (a b:TxS) (i:Nat):St:=⟨66,smP [(5,.int .i64 i)],smH a b,[]⟩
def ZgA (a b:TxS) (i:Nat):St:=⟨66,smP [(6,.int .i64 i)],smH a b,[]⟩
def smE (a b:TxS):St:=⟨66,smP [],smH a b,[]⟩
def smR (a b:TxS):St:=⟨66,smP [(4,.bool false)],smH a b,[]⟩
theorem ZnE (a b:TxS) (i:Nat) (Z1 Z2 Z3:Prop) (ha:a.Ok) (hb:b.Ok) (hN:a.N=b.N) (hi:i<=a.N) (h1:i<a.N->Z1R (a.ins i) (b.ins i)=true->Z1) (h2:i=a.N->Z2) (h3:i<a.N->Z1R (a.ins i) (b.ins i)=false->Z3):
  ZM G0 20 59 0 0 (Zgz a b i) (rdM 0 0 9 (Zgz a b (i+1)) (smE a b) (smR a b) (smR a b) Z1 Z2 Z3 False):=by
 refine @Eq.mpr _ (let q1:=a.N;let q2:=b.N;let q3:=a.ins (Int.toNat (↑i:Int));let q4:=q3.name;let q5:=b.ins (Int.toNat (↑i:Int));let q6:=q5.name;let q7:=q3.tag;let q8:=q5.tag;let q9:=q3.also;let q10:=q5.also;let q11:=q3.secret;let q12:=q5.secret;let q13:=decide (a.num=a.num);let q14:=decide (q1=q1);let q15:=Zk a.ins;let q16:=q15=q15;let q17:=decide (a.M=a.M);let q18:=Zj a.outs;let q19:=q18=q18;let q20:=decide (b.num=b.num);let q21:=decide (q2=q2);let q22:=Zk b.ins;let q23:=q22=q22;let q24:=decide (b.M=b.M);let q25:=Zj b.outs;let q26:=q25=q25;
 Z0 (decide ((↑i:Int)<(↑q1:Int)))
 (Z0 (decide (0<=(↑i:Int)/\(↑i:Int)<(↑q1:Int))) (Z0 (decide (0<=(↑i:Int)/\(↑i:Int)<(↑q2:Int))) (Z0 (decide (List.length q4=32/\List.length q6=32)) (Z0 (decide (List.length q7=32/\List.length q8=32)) (Z0 (decide (List.length q9=32/\List.length q10=32)) (Z0 (decide (List.length q11=32/\List.length q12=32)) (Z0 (!(q4==q6&&(q3.index==q5.index&&(q3.way==q5.way&&(q7==q8&&(q9==q10&&q11==q12)))))) (Z0 q13 (Z0 q14 (q16/\Z0 q14 (Z0 q17 (q19/\Z0 q17 (Z0 q20 (Z0 q21 (q23/\Z0 q21 (Z0 q24 (q26/\Z0 q24 Z3 False) False) False) False) False) False) False) False) False) False) (Z0 (decide (wrap i64 ((↑i:Int)+1)=(↑(i+1):Int))) (Z0 q13 (Z0 q14 (q16/\Z0 q14 (Z0 q17 (q19/\Z0 q17 (Z0 q20 (Z0 q21 (q23/\Z0 q21 (Z0 q24 (q26/\Z0 q24 Z1 False) False) False) False) False) False) False) False) False) False) False)) False) False) False) False) False) False)
 (Z0 q13 (Z0 q14 (q16/\Z0 q14 (Z0 q17 (q19/\Z0 q17 (Z0 q20 (Z0 q21 (q23/\Z0 q21 (Z0 q24 (q26/\Z0 q24 Z2 False) False) False) False) False) False) False) False) False) False)) (by kernel_rfl) ?_
 conv=>zeta
 try simp only [Z8]
 try simp only [Ze]
 try simp only [Za]
 try simp only [Zf]
 try simp only [Zg]
 try simp only [Z9]
 try simp only [Y_s]
 refine ⟨fun hlt=> ?_,fun hge=>h2 (by omega)⟩
 have hlt:i<a.N:=by omega
 have h1:=h1 hlt
 have h3:=h3 hlt
 obtain ⟨e1,e2,e3,e4⟩:=ha.ins i hlt
 obtain ⟨d1,d2,d3,d4⟩:=hb.ins i (by omega)
 have hN0:=ha.n
 refine ⟨by omega,by omega,⟨e1,d1⟩,⟨e2,d2⟩,⟨e3,d3⟩,⟨e4,d4⟩,fun q=>h3 ?_,fun q=>⟨w64 (by omega),h1 ?_⟩⟩
 ·unfold Z1R
  rw [Bool.not_eq_true'] at q
  simp only [Bool.and_assoc]
  exact q
 ·unfold Z1R
  rw [Bool.not_eq_false'] at q
  simp only [Bool.and_assoc]
  exact q
theorem ZnF (a b:TxS) (i:Nat) (Z1 Z2 Z3:Prop) (ha:a.Ok) (hb:b.Ok) (hN:a.M=b.M) (hi:i<=a.M) (h1:i<a.M->Ul (a.outs i) (b.outs i)=true->Z1) (h2:i=a.M->Z2) (h3:i<a.M->Ul (a.outs i) (b.outs i)=false->Z3):
  ZM G0 20 59 2 0 (ZgA a b i) (rdM 0 2 9 (ZgA a b (i+1)) (smE a b) (smR a b) (smR a b) Z1 Z2 Z3 False):=by
 refine @Eq.mpr _ (let q1:=a.M;let q2:=b.M;let q3:=a.outs (Int.toNat (↑i:Int));let q4:=q3.owner;let q5:=b.outs (Int.toNat (↑i:Int));let q6:=q5.owner;let q7:=q3.other;let q8:=q5.other;let q9:=q3.point;let q10:=q5.point;let q11:=q3.hash;let q12:=q5.hash;let q13:=decide (a.num=a.num);let q14:=decide (a.N=a.N);let q15:=Zk a.ins;let q16:=q15=q15;let q17:=decide (q1=q1);let q18:=Zj a.outs;let q19:=q18=q18;let q20:=decide (b.num=b.num);let q21:=decide (b.N=b.N);let q22:=Zk b.ins;let q23:=q22=q22;let q24:=decide (q2=q2);let q25:=Zj b.outs;let q26:=q25=q25;
 Z0 (decide ((↑i:Int)<(↑q1:Int)))
 (Z0 (decide (0<=(↑i:Int)/\(↑i:Int)<(↑q1:Int)))
 (Z0 (decide (0<=(↑i:Int)/\(↑i:Int)<(↑q2:Int))) (Z0 (decide (List.length q4=32/\List.length q6=32)) (Z0 (decide (List.length q7=32/\List.length q8=32)) (Z0 (decide (List.length q9=32/\List.length q10=32)) (Z0 (decide (List.length q11=32/\List.length q12=32)) (Z0 (!(q3.kind==q5.kind&&(q3.amount==q5.amount&&(q4==q6&&(q7==q8&&(q9==q10&&(q11==q12&&(q3.delay==q5.delay&&q3.expiry==q5.expiry)))))))) (Z0 q13 (Z0 q14 (q16/\Z0 q14 (Z0 q17 (q19/\Z0 q17 (Z0 q20 (Z0 q21 (q23/\Z0 q21 (Z0 q24 (q26/\Z0 q24 Z3 False) False) False) False) False) False) False) False) False) False) (Z0 (decide (wrap i64 ((↑i:Int)+1)=(↑(i+1):Int))) (Z0 q13 (Z0 q14 (q16/\Z0 q14 (Z0 q17 (q19/\Z0 q17 (Z0 q20 (Z0 q21 (q23/\Z0 q21 (Z0 q24 (q26/\Z0 q24 Z1 False) False) False) False) False) False) False) False) False) False) False)) False) False) False) False) False) False)
 (Z0 q13 (Z0 q14 (q16/\Z0 q14 (Z0 q17 (q19/\Z0 q17 (Z0 q20 (Z0 q21 (q23/\Z0 q21 (Z0 q24 (q26/\Z0 q24 Z2 False) False) False) False) False) False) False) False) False) False)) (by kernel_rfl) ?_
 conv=>zeta
 try simp only [Z8]
 try simp only [Ze]
 try simp only [Za]
 try simp only [Zf]
 try simp only [Zg]
 try simp only [Z9]
 try simp only [Y_s]
 refine ⟨fun hlt=> ?_,fun hge=>h2 (by omega)⟩
 have hlt:i<a.M:=by omega
 have h1:=h1 hlt
 have h3:=h3 hlt
 obtain ⟨e1,e2,e3,e4⟩:=ha.outs i hlt
 obtain ⟨d1,d2,d3,d4⟩:=hb.outs i (by omega)
 have hN0:=ha.m
 refine ⟨by omega,by omega,⟨e1,d1⟩,⟨e2,d2⟩,⟨e3,d3⟩,⟨e4,d4⟩,fun q=>h3 ?_,fun q=>⟨w64 (by omega),h1 ?_⟩⟩
 ·unfold Ul
  rw [Bool.not_eq_true'] at q
  simp only [Bool.and_assoc]
  exact q
 ·unfold Ul
  rw [Bool.not_eq_false'] at q
  simp only [Bool.and_assoc]
  exact q
def Zlx (a b:TxS):Nat->St->KE->Prop:=goM 0 (Zgz a b 0) (a.Ok/\b.Ok/\a.N=b.N) (YB 0 a.N 9 (fun i=>Z1R (a.ins i) (b.ins i)=true) (fun i=>i=a.N) (fun i=>i<a.N/\Z1R (a.ins i) (b.ins i)=false) (fun _=>False) (fun _=>smE a b) (fun _=>smR a b) (fun _=>smR a b))
def Zly (a b:TxS):Nat->St->KE->Prop:=goM 0 (ZgA a b 0) (a.Ok/\b.Ok/\a.M=b.M) (YB 2 a.M 9 (fun i=>Ul (a.outs i) (b.outs i)=true) (fun i=>i=a.M) (fun i=>i<a.M/\Ul (a.outs i) (b.outs i)=false) (fun _=>False) (fun _=>smE a b) (fun _=>smR a b) (fun _=>smR a b))
noncomputable def E40 (a b:TxS):Zh:=(G0.withL 59 0 (Zlx a b)).withL 59 2 (Zly a b)
theorem Zjf (a b:TxS):(E40 a b).Ok:=by
 have h1:(G0.withL 59 0 (Zlx a b)).Ok:=Zh.withGoM (N:=20) (S:=Zgz a b) Zp (by kernel_rfl) fun hC=>⟨rfl,fun i hi hgo=>ZnE a b i _ _ _ hC.1 hC.2.1 hC.2.2 hi (fun h1 h2=>⟨h2,h1⟩) (fun h=>h) (fun h1 h2=>⟨h1,h2⟩)⟩
 have h2:(G0.withL 59 2 (Zly a b)).Ok:=Zh.withGoM (N:=20) (S:=ZgA a b) Zp (by kernel_rfl) fun hC=>⟨rfl,fun i hi hgo=>ZnF a b i _ _ _ hC.1 hC.2.1 hC.2.2 hi (fun h1 h2=>⟨h2,h1⟩) (fun h=>h) (fun h1 h2=>⟨h1,h2⟩)⟩
 exact Zh.withL_join (H:=G0) h1 rfl h2
theorem ZnG (a b:TxS) (F:Bool) (ha:a.Ok) (hb:b.Ok) (hF:F=Vk a b):
  evF (E40 a b) 20 59 [.agg a.c,.agg b.c] ⟨0,[]⟩ (Yt 0 [] (.bool F) 0 []):=by
 refine @Eq.mpr _ (let q1:=a.num;let q2:=b.num;let q3:=Z0 (decide (false=F)) True False;let q4:=a.N;let q5:=b.N;let q6:=a.M;let q7:=b.M;let q8:=decide (q1=q1);let q9:=decide (q4=q4);let q10:=Zk a.ins;let q11:=q10=q10;let q12:=decide (q6=q6);let q13:=Zj a.outs;let q14:=q13=q13;let q15:=decide (q2=q2);let q16:=decide (q5=q5);let q17:=Zk b.ins;let q18:=q17=q17;let q19:=decide (q7=q7);let q20:=Zj b.outs;let q21:=q20=q20;
 Z0 (q1 !=q2) q3 (Z0 ((↑q4:Int) !=(↑q5:Int)) q3 (Z0 ((↑q6:Int) !=(↑q7:Int)) q3 (Z0 q8 (Z0 q9 (q11/\Z0 q9 (Z0 q12 (q14/\Z0 q12 (Z0 q15 (Z0 q16 (q18/\Z0 q16 (Z0 q19 (q21/\Z0 q19 ((TxS.Ok a/\TxS.Ok b/\q4=q5)/\∀(i:Nat),i<=q4->(∀(j:Nat),j<i->(fun (i:Nat)=>Z1R (a.ins i) (b.ins i)=true) j)->(i=q4->Z0 q8 (Z0 q9 (q11/\Z0 q9 (Z0 q12 (q14/\Z0 q12 (Z0 q15 (Z0 q16 (q18/\Z0 q16 (Z0 q19 (q21/\Z0 q19 ((TxS.Ok a/\TxS.Ok b/\q6=q7)/\∀(i:Nat),i<=q6->(∀(j:Nat),j<i->(fun (i:Nat)=>Ul (a.outs i) (b.outs i)=true) j)->(i=q6->Z0 (decide (true=F)) True False)/\(i<q6/\Ul (a.outs i) (b.outs i)=false->q3)/\(False->False)) False) False) False) False) False) False) False) False) False) False)/\(i<q4/\Z1R (a.ins i) (b.ins i)=false->q3)/\(False->False)) False) False) False) False) False) False) False) False) False) False)))) (by kernel_rfl) ?_
 conv=>zeta
 try simp only [Z8]
 try simp only [Ze]
 try simp only [Za]
 try simp only [Zf]
 try simp only [Zg]
 try simp only [Z9]
 try simp only [Y_s]
 have hn:a.num≠b.num->false=Vk a b:=fun h=>by
  unfold Vk;rw [beq_eq_false_iff_ne.2 h];rfl
 have hi:Z8y a.N a.ins b.N b.ins=false->false=Vk a b:=fun h=>by
  unfold Vk;rw [h,Bool.false_and,Bool.and_false]
 have ho:Zbo a.M a.outs b.M b.outs=false->false=Vk a b:=fun h=>by
  unfold Vk;rw [h,Bool.and_false,Bool.and_false]
 subst hF
 refine ⟨fun h=>hn (by simpa using h),fun h0=>⟨fun h=>hi ?_,fun h1=>⟨fun h=>ho ?_,fun h2=> ?_⟩⟩⟩
 ·have h:a.N≠b.N:=fun e=>by rw [e] at h;simp at h
  unfold Z8y;rw [decide_eq_false h,Bool.false_and]
 ·have h:a.M≠b.M:=fun e=>by rw [e] at h;simp at h
  unfold Zbo;rw [decide_eq_false h,Bool.false_and]
 have h0:a.num=b.num:=by simpa using h0
 have h1:a.N=b.N:=by
  have:(a.N:Int)=b.N:=by simpa using h1
  omega
 have h2:a.M=b.M:=by
  have:(a.M:Int)=b.M:=by simpa using h2
  omega
 refine ⟨⟨ha,hb,h1⟩,fun i hi' hgo=>⟨fun hx=>⟨⟨ha,hb,h2⟩,fun k hk hgo2=>⟨fun hx2=> ?_,fun hx2=>ho ?_,fun h=>h⟩⟩,fun hx=>hi ?_,fun h=>h⟩⟩
 ·subst hx hx2
  have e1:(List.range a.N).all (fun i=>Z1R (a.ins i) (b.ins i))=true:=by
   rw [List.all_eq_true];intro j hj;exact hgo j (by simpa using hj)
  have e2:(List.range a.M).all (fun i=>Ul (a.outs i) (b.outs i))=true:=by
   rw [List.all_eq_true];intro j hj;exact hgo2 j (by simpa using hj)
  unfold Vk Z8y Zbo
  rw [e1,e2,decide_eq_true h1,decide_eq_true h2,h0,beq_self_eq_true];rfl
 ·have e2:(List.range a.M).all (fun i=>Ul (a.outs i) (b.outs i))=false:=by
   rw [List.all_eq_false];exact ⟨k,by simpa using hx2.1,by simp [hx2.2]⟩
  unfold Zbo;rw [e2,Bool.and_false]
 ·have e1:(List.range a.N).all (fun i=>Z1R (a.ins i) (b.ins i))=false:=by
   rw [List.all_eq_false];exact ⟨i,by simpa using hx.1,by simp [hx.2]⟩
  unfold Z8y;rw [e1,Bool.and_false]
theorem ZdK (args:List AV) (h:Z6) (K:AV->Prop) (hl:ZdD Vk args h K):Zi PP 59 args h fun o h'=>∃v,o=.ret v/\h'=h/\K v:=by
 refine Zy.psumm (d:=20) (Zm _ _ _ _ _ hl fun a ha=> ?_)
 split at ha
 ·obtain ⟨a,b,h1,h2,⟨h3,h4⟩,hK⟩:=ha
  exact ⟨_,(Zy.ev (Zjf a b) (ZnG a b _ h3 h4 rfl)).conv fun E r hr=>hr.head (fun _ hc=>h1.rel hc) (fun _ hc=>hc.head (fun _ hc=>h2.rel hc) (fun _ hc=>hc)),fun _=>rfl,hK⟩
 ·exact ha.elim
noncomputable def E44 (W:Int->List Int):Zh:=G0.withF 137 (Z71 W)
theorem ZdL:(E44 Zs).Ok:=Zh.withF_ok Zp Z3o
def rbS (t:TxS) (core:Bool) (i:Nat) (xs:List Int) (n:Nat):St:=⟨133,[(6,.int .i64 i),(2,.ptr (some ⟨0,0,0,0,0⟩)),(5,.nslice ⟨4,0,0,0,0⟩ 1 n n),(1,.bool core)],⟨5,[(4,.ints .u8 xs),(0,.flat t.c)]⟩,[]⟩
def rbR (t:TxS) (xs:List Int) (n:Nat):St:=⟨133,[(2,.ptr (some ⟨0,0,0,0,0⟩)),(5,.nslice ⟨4,0,0,0,0⟩ 1 n n)],⟨5,[(4,.ints .u8 xs),(0,.flat t.c)]⟩,[]⟩
def ZdM (t:TxS) (i:Nat) (xs:List Int) (n:Nat):St:=⟨133,[(9,.int .i64 i),(2,.ptr (some ⟨0,0,0,0,0⟩)),(5,.nslice ⟨4,0,0,0,0⟩ 1 n n)],⟨5,[(4,.ints .u8 xs),(0,.flat t.c)]⟩,[]⟩
theorem Vl (xs:List Int):List.take xs.length (ZW 0 xs)=xs:=by rw [Y4,List.drop_zero,List.take_length]
theorem Zlz (W:Int->List Int) (t:TxS) (i:Nat) (xs ys:List Int) (n m:Nat) (Z1 Z2:Prop) (ht:t.Ok) (hi:i<=t.N) (hr:∀j,j<t.N->Y8 (t.ins j)=true) (hW:W=Zs) (hn:xs.length=n) (hs:n<10000000000000) (hy:ys=xs++inW W true (t.ins i)) (hm:ys.length=m) (h1:i<t.N->Z1) (h2:i=t.N->Z2):
  ZM (E44 W) 20 207 0 0 (rbS t true i xs n) (rdM 0 0 9 (rbS t true (i+1) ys m) (rbR t xs n) (rbR t xs n) (rbR t xs n) Z1 Z2 False False):=by
 refine @Eq.mpr _ (let q1:=t.N;let q2:=t.ins (Int.toNat (↑i:Int));let q3:=q2.name;let q4:=xs++q3;let q5:=List.length q4;let q6:=q2.index;let q7:=W q6;let q8:=List.length q7;let q9:=q4++List.take q8 (ZW 0 q7);let q10:=List.length q9;let q11:=decide (t.num=t.num);let q12:=decide (q1=q1);let q13:=Zk t.ins;let q14:=q13=q13;let q15:=decide (t.M=t.M);let q16:=Zj t.outs;let q17:=q16=q16;
 Z0 (decide ((↑i:Int)<(↑q1:Int))) (Z0 (decide (0<=(↑i:Int)/\(↑i:Int)<(↑q1:Int))) (Z0 (decide (u8=u8/\List.length q3=32)) (Z0 (decide (u8=u8/\List.length xs=n)) (Z0 (decide (q5*1<=140737488355328)) (Z0 (decide (q6=q6)) (Z0 (decide (0<=q6)) (Z0 (decide (u8=u8/\0+q8<=q8)) (Z0 (decide (u8=u8/\q5=q5)) (Z0 (decide (q10*1<=140737488355328)) (Z0 (decide (wrap i64 ((↑i:Int)+1)=(↑(i+1):Int))) (Z0 (decide (q10=m)) (Z0 (decide (m<=q10)) (q9=ys/\Z0 q11 (Z0 q12 (q14/\Z0 q12 (Z0 q15 (q17/\Z0 q15 Z1 False) False) False) False) False) False) False) False) False) False) False) False) False) False) False) False) False) (Z0 (decide (n=n)) (Z0 (decide (n<=n)) (xs=xs/\Z0 q11 (Z0 q12 (q14/\Z0 q12 (Z0 q15 (q17/\Z0 q15 Z2 False) False) False) False) False) False) False)) (by kernel_rfl) ?_
 conv=>zeta
 try simp only [Z8]
 try simp only [Ze]
 try simp only [Za]
 try simp only [Zf]
 try simp only [Zg]
 try simp only [Z9]
 try simp only [Y_s]
 refine ⟨fun hlt=> ?_,fun hge=>h2 (by omega)⟩
 obtain ⟨⟨w1,w2⟩,w3,w4⟩:=Vj (hr i (by omega))
 obtain ⟨l1,l2,l3,l4⟩:=ht.ins i (by omega)
 have hw:=h1 (by omega)
 have hnn:=ht.n
 have hwr:i64.wrap ((i:Int)+1)=((i+1:Nat):Int):=w64 (by omega)
 have u1:=ZN (t.ins i).index
 have u2:=ZN (t.ins i).way
 subst hW
 rw [hwr]
 unfold inW at hy
 generalize t.ins i=x at*
 simp only [List.length_append,Vl]
 repeat' (first|(refine And.intro ?_ ?_)|intro _)
 all_goals (try simp only [beq_iff_eq,bne_iff_ne,ne_eq,beq_eq_false_iff_ne,bne_eq_false_iff_eq] at*)
 all_goals first|omega|assumption|trivial|skip
 all_goals first|(rw [hy];simp [*];done)|(rw [<-hm,hy];simp [*];try omega;done)|skip
theorem ZlA (W:Int->List Int) (t:TxS) (i:Nat) (xs ys:List Int) (n m:Nat) (Z1 Z2:Prop) (ht:t.Ok) (hi:i<=t.N) (hr:∀j,j<t.N->Y8 (t.ins j)=true) (hW:W=Zs) (hn:xs.length=n) (hs:n<10000000000000) (hy:ys=xs++inW W false (t.ins i)) (hm:ys.length=m) (h1:i<t.N->Z1) (h2:i=t.N->Z2):
  ZM (E44 W) 20 207 0 0 (rbS t false i xs n) (rdM 0 0 9 (rbS t false (i+1) ys m) (rbR t xs n) (rbR t xs n) (rbR t xs n) Z1 Z2 False False):=by
 refine @Eq.mpr _ (let q1:=t.N;let q2:=t.ins (Int.toNat (↑i:Int));let q3:=q2.name;let q4:=xs++q3;let q5:=List.length q4;let q6:=q2.index;let q7:=W q6;let q8:=List.length q7;let q9:=q4++List.take q8 (ZW 0 q7);let q10:=List.length q9;let q11:=q2.way;let q12:=W q11;let q13:=List.length q12;let q14:=q9++List.take q13 (ZW 0 q12);let q15:=List.length q14;let q16:=q2.tag;let q17:=decide (u8=u8/\q15=q15);let q18:=q14++q16;let q19:=List.length q18;let q20:=q11==1;let q21:=q2.also;let q22:=decide (u8=u8/\List.length q21=32);let q23:=decide (u8=u8/\q19=q19);let q24:=q18++q21;let q25:=List.length q24;let q26:=q11==4;let q27:=q2.secret;let q28:=decide (u8=u8/\List.length q27=32);let q29:=q24++q27;let q30:=List.length q29;let q31:=decide (wrap i64 ((↑i:Int)+1)=(↑(i+1):Int));let q32:=decide (t.num=t.num);let q33:=decide (q1=q1);let q34:=Zk t.ins;let q35:=q34=q34;let q36:=decide (t.M=t.M);let q37:=Zj t.outs;let q38:=q37=q37;let q39:=Z0 q32 (Z0 q33 (q35/\Z0 q33 (Z0 q36 (q38/\Z0 q36 Z1 False) False) False) False) False;let q40:=Z0 q28 (Z0 (decide (u8=u8/\q25=q25)) (Z0 (decide (q30*1<=140737488355328)) (Z0 q31 (Z0 (decide (q30=m)) (Z0 (decide (m<=q30)) (q29=ys/\q39) False) False) False) False) False) False;let q41:=q11==5;let q42:=q18++q27;let q43:=List.length q42;let q44:=Z0 q28 (Z0 q23 (Z0 (decide (q43*1<=140737488355328)) (Z0 q31 (Z0 (decide (q43=m)) (Z0 (decide (m<=q43)) (q42=ys/\q39) False) False) False) False) False) False;let q45:=q14++q21;let q46:=List.length q45;let q47:=q45++q27;let q48:=List.length q47;let q49:=Z0 q28 (Z0 (decide (u8=u8/\q46=q46)) (Z0 (decide (q48*1<=140737488355328)) (Z0 q31 (Z0 (decide (q48=m)) (Z0 (decide (m<=q48)) (q47=ys/\q39) False) False) False) False) False) False;let q50:=q14++q27;let q51:=List.length q50;let q52:=Z0 q28 (Z0 q17 (Z0 (decide (q51*1<=140737488355328)) (Z0 q31 (Z0 (decide (q51=m)) (Z0 (decide (m<=q51)) (q50=ys/\q39) False) False) False) False) False) False;
 Z0 (decide ((↑i:Int)<(↑q1:Int)))
 (Z0 (decide (0<=(↑i:Int)/\(↑i:Int)<(↑q1:Int)))
 (Z0 (decide (u8=u8/\List.length q3=32))
 (Z0 (decide (u8=u8/\List.length xs=n))
 (Z0 (decide (q5*1<=140737488355328))
 (Z0 (decide (q6=q6))
 (Z0 (decide (0<=q6))
 (Z0 (decide (u8=u8/\0+q8<=q8))
 (Z0 (decide (u8=u8/\q5=q5))
 (Z0 (decide (q10*1<=140737488355328))
 (Z0 (decide (0<=q11))
 (Z0 (decide (u8=u8/\0+q13<=q13))
 (Z0 (decide (u8=u8/\q10=q10)) (Z0 (decide (q15*1<=140737488355328)) (Z0 (q11 !=4) (Z0 (decide (u8=u8/\List.length q16=32)) (Z0 q17 (Z0 (decide (q19*1<=140737488355328)) (Z0 q20 (Z0 q22 (Z0 q23 (Z0 (decide (q25*1<=140737488355328)) (Z0 q26 q40 (Z0 q41 q40 (Z0 q31 (Z0 (decide (q25=m)) (Z0 (decide (m<=q25)) (q24=ys/\q39) False) False) False))) False) False) False) (Z0 q26 q44 (Z0 q41 q44 (Z0 q31 (Z0 (decide (q19=m)) (Z0 (decide (m<=q19)) (q18=ys/\q39) False) False) False)))) False) False) False) (Z0 q20 (Z0 q22 (Z0 q17 (Z0 (decide (q46*1<=140737488355328)) (Z0 q26 q49 (Z0 q41 q49 (Z0 q31 (Z0 (decide (q46=m)) (Z0 (decide (m<=q46)) (q45=ys/\q39) False) False) False))) False) False) False) (Z0 q26 q52 (Z0 q41 q52 (Z0 q31 (Z0 (decide (q15=m)) (Z0 (decide (m<=q15)) (q14=ys/\q39) False) False) False))))) False) False) False)
 False)
 False)
 False)
 False)
 False)
 False)
 False)
 False)
 False)
 False)
 (Z0 (decide (n=n)) (Z0 (decide (n<=n)) (xs=xs/\Z0 q32 (Z0 q33 (q35/\Z0 q33 (Z0 q36 (q38/\Z0 q36 Z2 False) False) False) False) False) False) False)) (by kernel_rfl) ?_
 conv=>zeta
 try simp only [Z8]
 try simp only [Ze]
 try simp only [Za]
 try simp only [Zf]
 try simp only [Zg]
 try simp only [Z9]
 try simp only [Y_s]
 refine ⟨fun hlt=> ?_,fun hge=>h2 (by omega)⟩
 obtain ⟨⟨w1,w2⟩,w3,w4⟩:=Vj (hr i (by omega))
 obtain ⟨l1,l2,l3,l4⟩:=ht.ins i (by omega)
 have hw:=h1 (by omega)
 have hnn:=ht.n
 have hwr:i64.wrap ((i:Int)+1)=((i+1:Nat):Int):=w64 (by omega)
 have u1:=ZN (t.ins i).index
 have u2:=ZN (t.ins i).way
 subst hW
 rw [hwr]
 unfold inW at hy
 generalize t.ins i=x at*
 simp only [List.length_append,Vl]
 repeat' (first|(refine And.intro ?_ ?_)|intro _)
 all_goals (try simp only [beq_iff_eq,bne_iff_ne,ne_eq,beq_eq_false_iff_ne,bne_eq_false_iff_eq] at*)
 all_goals first|omega|assumption|trivial|skip
 all_goals first|(rw [hy];simp [*];done)|(rw [<-hm,hy];simp [*];try omega;done)|skip
theorem ZlB (W:Int->List Int) (t:TxS) (i:Nat) (xs ys:List Int) (n m:Nat) (Z1 Z2:Prop) (ht:t.Ok) (hi:i<=t.M) (hr:∀j,j<t.M->ZI (t.outs j)=true) (hW:W=Zs) (hn:xs.length=n) (hs:n<10000000000000) (hy:ys=xs++Z3m W (t.outs i)) (hm:ys.length=m) (h1:i<t.M->Z1) (h2:i=t.M->Z2):
  ZM (E44 W) 20 207 2 0 (ZdM t i xs n) (rdM 0 2 9 (ZdM t (i+1) ys m) (rbR t xs n) (rbR t xs n) (rbR t xs n) Z1 Z2 False False):=by
 refine @Eq.mpr _ (let q1:=t.M;let q2:=t.outs (Int.toNat (↑i:Int));let q3:=q2.kind;let q4:=W q3;let q5:=List.length q4;let q6:=xs++List.take q5 (ZW 0 q4);let q7:=List.length q6;let q8:=q2.owner;let q9:=q8=q8;let q10:=q2.amount;let q11:=W q10;let q12:=List.length q11;let q13:=q6++List.take q12 (ZW 0 q11);let q14:=List.length q13;let q15:=q13++q8;let q16:=List.length q15;let q17:=q2.other;let q18:=decide (u8=u8/\List.length q17=32);let q19:=decide (u8=u8/\q16=q16);let q20:=q15++q17;let q21:=List.length q20;let q22:=decide (q21*1<=140737488355328);let q23:=decide (q3>=3);let q24:=q2.point;let q25:=decide (u8=u8/\List.length q24=32);let q26:=decide (u8=u8/\q21=q21);let q27:=q20++q24;let q28:=List.length q27;let q29:=decide (q28*1<=140737488355328);let q30:=decide (q3>=4);let q31:=q2.hash;let q32:=decide (u8=u8/\List.length q31=32);let q33:=decide (u8=u8/\q28=q28);let q34:=q27++q31;let q35:=List.length q34;let q36:=decide (q35*1<=140737488355328);let q37:=q2.delay;let q38:=decide (0<=q37);let q39:=W q37;let q40:=List.length q39;let q41:=decide (u8=u8/\q35=q35);let q42:=List.take q40 (ZW 0 q39);let q43:=q34++q42;let q44:=List.length q43;let q45:=q2.expiry;let q46:=decide (0<=q45);let q47:=W q45;let q48:=List.length q47;let q49:=List.take q48 (ZW 0 q47);let q50:=q43++q49;let q51:=List.length q50;let q52:=decide (wrap i64 ((↑i:Int)+1)=(↑(i+1):Int));let q53:=decide (t.num=t.num);let q54:=decide (t.N=t.N);let q55:=Zk t.ins;let q56:=q55=q55;let q57:=decide (q1=q1);let q58:=Zj t.outs;let q59:=q58=q58;let q60:=Z0 q53 (Z0 q54 (q56/\Z0 q54 (Z0 q57 (q59/\Z0 q57 Z1 False) False) False) False) False;let q61:=q50=ys/\q60;let q62:=q43=ys/\q60;let q63:=q34++q49;let q64:=List.length q63;let q65:=q63=ys/\q60;let q66:=Z0 q52 (Z0 (decide (q35=m)) (Z0 (decide (m<=q35)) (q34=ys/\q60) False) False) False;let q67:=q27++q42;let q68:=List.length q67;let q69:=q67++q49;let q70:=List.length q69;let q71:=q69=ys/\q60;let q72:=q67=ys/\q60;let q73:=q27++q49;let q74:=List.length q73;let q75:=q73=ys/\q60;let q76:=Z0 q52 (Z0 (decide (q28=m)) (Z0 (decide (m<=q28)) (q27=ys/\q60) False) False) False;let q77:=q20++q31;let q78:=List.length q77;let q79:=decide (q78*1<=140737488355328);let q80:=decide (u8=u8/\q78=q78);let q81:=q77++q42;let q82:=List.length q81;let q83:=q81++q49;let q84:=List.length q83;let q85:=q83=ys/\q60;let q86:=q81=ys/\q60;let q87:=q77++q49;let q88:=List.length q87;let q89:=q87=ys/\q60;let q90:=Z0 q52 (Z0 (decide (q78=m)) (Z0 (decide (m<=q78)) (q77=ys/\q60) False) False) False;let q91:=q20++q42;let q92:=List.length q91;let q93:=q91++q49;let q94:=List.length q93;let q95:=q93=ys/\q60;let q96:=q91=ys/\q60;let q97:=q20++q49;let q98:=List.length q97;let q99:=q97=ys/\q60;let q100:=Z0 q52 (Z0 (decide (q21=m)) (Z0 (decide (m<=q21)) (q20=ys/\q60) False) False) False;let q101:=q15++q24;let q102:=List.length q101;let q103:=decide (u8=u8/\q102=q102);let q104:=q101++q31;let q105:=List.length q104;let q106:=decide (u8=u8/\q105=q105);let q107:=q104++q42;let q108:=List.length q107;let q109:=q107++q49;let q110:=List.length q109;let q111:=q104++q49;let q112:=List.length q111;let q113:=q101++q42;let q114:=List.length q113;let q115:=q113++q49;let q116:=List.length q115;let q117:=q101++q49;let q118:=List.length q117;let q119:=q15++q31;let q120:=List.length q119;let q121:=decide (u8=u8/\q120=q120);let q122:=q119++q42;let q123:=List.length q122;let q124:=q122++q49;let q125:=List.length q124;let q126:=q119++q49;let q127:=List.length q126;let q128:=q15++q42;let q129:=List.length q128;let q130:=q128++q49;let q131:=List.length q130;let q132:=q15++q49;let q133:=List.length q132;
 Z0 (decide ((↑i:Int)<(↑q1:Int)))
 (Z0 (decide (0<=(↑i:Int)/\(↑i:Int)<(↑q1:Int)))
 (Z0 (decide (0<=q3))
 (Z0 (decide (u8=u8/\0+q5<=q5))
 (Z0 (decide (u8=u8/\List.length xs=n))
 (Z0 (decide (q7*1<=140737488355328))
 (q9/\
 Z0 (decide (q10=q10))
 (Z0 (decide (0<=q10))
 (Z0 (decide (u8=u8/\0+q12<=q12))
 (Z0 (decide (u8=u8/\q7=q7))
 (Z0 (decide (q14*1<=140737488355328))
 (q9/\
 Z0 (decide (u8=u8/\List.length q8=32))
 (Z0 (decide (u8=u8/\q14=q14))
 (Z0 (decide (q16*1<=140737488355328))
 (Z0 (q3==2)
 (Z0 q18
 (Z0 q19
 (Z0 q22
 (Z0 q23
 (Z0 q25
 (Z0 q26
 (Z0 q29
 (Z0 q30 (Z0 q32 (Z0 q33 (Z0 q36 (Z0 q23 (Z0 q38 (Z0 (decide (u8=u8/\0+q40<=q40)) (Z0 q41 (Z0 (decide (q44*1<=140737488355328)) (Z0 q30 (Z0 q46 (Z0 (decide (u8=u8/\0+q48<=q48)) (Z0 (decide (u8=u8/\q44=q44)) (Z0 (decide (q51*1<=140737488355328)) (Z0 q52 (Z0 (decide (q51=m)) (Z0 (decide (m<=q51)) q61 False) False) False) False) False) False) False) (Z0 q52 (Z0 (decide (q44=m)) (Z0 (decide (m<=q44)) q62 False) False) False)) False) False) False) False) (Z0 q30 (Z0 q46 (Z0 (decide (u8=u8/\0+q48<=q48)) (Z0 q41 (Z0 (decide (q64*1<=140737488355328)) (Z0 q52 (Z0 (decide (q64=m)) (Z0 (decide (m<=q64)) q65 False) False) False) False) False) False) False) q66)) False) False) False)
 (Z0 q23 (Z0 q38 (Z0 (decide (u8=u8/\0+q40<=q40)) (Z0 q33 (Z0 (decide (q68*1<=140737488355328)) (Z0 q30 (Z0 q46 (Z0 (decide (u8=u8/\0+q48<=q48)) (Z0 (decide (u8=u8/\q68=q68)) (Z0 (decide (q70*1<=140737488355328)) (Z0 q52 (Z0 (decide (q70=m)) (Z0 (decide (m<=q70)) q71 False) False) False) False) False) False) False) (Z0 q52 (Z0 (decide (q68=m)) (Z0 (decide (m<=q68)) q72 False) False) False)) False) False) False) False) (Z0 q30 (Z0 q46 (Z0 (decide (u8=u8/\0+q48<=q48)) (Z0 q33 (Z0 (decide (q74*1<=140737488355328)) (Z0 q52 (Z0 (decide (q74=m)) (Z0 (decide (m<=q74)) q75 False) False) False) False) False) False) False) q76)))
 False)
 False)
 False)
 (Z0 q30 (Z0 q32 (Z0 q26 (Z0 q79 (Z0 q23 (Z0 q38 (Z0 (decide (u8=u8/\0+q40<=q40)) (Z0 q80 (Z0 (decide (q82*1<=140737488355328)) (Z0 q30 (Z0 q46 (Z0 (decide (u8=u8/\0+q48<=q48)) (Z0 (decide (u8=u8/\q82=q82)) (Z0 (decide (q84*1<=140737488355328)) (Z0 q52 (Z0 (decide (q84=m)) (Z0 (decide (m<=q84)) q85 False) False) False) False) False) False) False) (Z0 q52 (Z0 (decide (q82=m)) (Z0 (decide (m<=q82)) q86 False) False) False)) False) False) False) False) (Z0 q30 (Z0 q46 (Z0 (decide (u8=u8/\0+q48<=q48)) (Z0 q80 (Z0 (decide (q88*1<=140737488355328)) (Z0 q52 (Z0 (decide (q88=m)) (Z0 (decide (m<=q88)) q89 False) False) False) False) False) False) False) q90)) False) False) False)
 (Z0 q23 (Z0 q38 (Z0 (decide (u8=u8/\0+q40<=q40)) (Z0 q26 (Z0 (decide (q92*1<=140737488355328)) (Z0 q30 (Z0 q46 (Z0 (decide (u8=u8/\0+q48<=q48)) (Z0 (decide (u8=u8/\q92=q92)) (Z0 (decide (q94*1<=140737488355328)) (Z0 q52 (Z0 (decide (q94=m)) (Z0 (decide (m<=q94)) q95 False) False) False) False) False) False) False) (Z0 q52 (Z0 (decide (q92=m)) (Z0 (decide (m<=q92)) q96 False) False) False)) False) False) False) False) (Z0 q30 (Z0 q46 (Z0 (decide (u8=u8/\0+q48<=q48)) (Z0 q26 (Z0 (decide (q98*1<=140737488355328)) (Z0 q52 (Z0 (decide (q98=m)) (Z0 (decide (m<=q98)) q99 False) False) False) False) False) False) False) q100))))
 False)
 False)
 False)
 (Z0 (q3==4)
 (Z0 q18
 (Z0 q19
 (Z0 q22
 (Z0 q23
 (Z0 q25
 (Z0 q26
 (Z0 q29
 (Z0 q30 (Z0 q32 (Z0 q33 (Z0 q36 (Z0 q23 (Z0 q38 (Z0 (decide (u8=u8/\0+q40<=q40)) (Z0 q41 (Z0 (decide (q44*1<=140737488355328)) (Z0 q30 (Z0 q46 (Z0 (decide (u8=u8/\0+q48<=q48)) (Z0 (decide (u8=u8/\q44=q44)) (Z0 (decide (q51*1<=140737488355328)) (Z0 q52 (Z0 (decide (q51=m)) (Z0 (decide (m<=q51)) q61 False) False) False) False) False) False) False) (Z0 q52 (Z0 (decide (q44=m)) (Z0 (decide (m<=q44)) q62 False) False) False)) False) False) False) False) (Z0 q30 (Z0 q46 (Z0 (decide (u8=u8/\0+q48<=q48)) (Z0 q41 (Z0 (decide (q64*1<=140737488355328)) (Z0 q52 (Z0 (decide (q64=m)) (Z0 (decide (m<=q64)) q65 False) False) False) False) False) False) False) q66)) False) False) False)
 (Z0 q23 (Z0 q38 (Z0 (decide (u8=u8/\0+q40<=q40)) (Z0 q33 (Z0 (decide (q68*1<=140737488355328)) (Z0 q30 (Z0 q46 (Z0 (decide (u8=u8/\0+q48<=q48)) (Z0 (decide (u8=u8/\q68=q68)) (Z0 (decide (q70*1<=140737488355328)) (Z0 q52 (Z0 (decide (q70=m)) (Z0 (decide (m<=q70)) q71 False) False) False) False) False) False) False) (Z0 q52 (Z0 (decide (q68=m)) (Z0 (decide (m<=q68)) q72 False) False) False)) False) False) False) False) (Z0 q30 (Z0 q46 (Z0 (decide (u8=u8/\0+q48<=q48)) (Z0 q33 (Z0 (decide (q74*1<=140737488355328)) (Z0 q52 (Z0 (decide (q74=m)) (Z0 (decide (m<=q74)) q75 False) False) False) False) False) False) False) q76)))
 False)
 False)
 False)
 (Z0 q30 (Z0 q32 (Z0 q26 (Z0 q79 (Z0 q23 (Z0 q38 (Z0 (decide (u8=u8/\0+q40<=q40)) (Z0 q80 (Z0 (decide (q82*1<=140737488355328)) (Z0 q30 (Z0 q46 (Z0 (decide (u8=u8/\0+q48<=q48)) (Z0 (decide (u8=u8/\q82=q82)) (Z0 (decide (q84*1<=140737488355328)) (Z0 q52 (Z0 (decide (q84=m)) (Z0 (decide (m<=q84)) q85 False) False) False) False) False) False) False) (Z0 q52 (Z0 (decide (q82=m)) (Z0 (decide (m<=q82)) q86 False) False) False)) False) False) False) False) (Z0 q30 (Z0 q46 (Z0 (decide (u8=u8/\0+q48<=q48)) (Z0 q80 (Z0 (decide (q88*1<=140737488355328)) (Z0 q52 (Z0 (decide (q88=m)) (Z0 (decide (m<=q88)) q89 False) False) False) False) False) False) False) q90)) False) False) False)
 (Z0 q23 (Z0 q38 (Z0 (decide (u8=u8/\0+q40<=q40)) (Z0 q26 (Z0 (decide (q92*1<=140737488355328)) (Z0 q30 (Z0 q46 (Z0 (decide (u8=u8/\0+q48<=q48)) (Z0 (decide (u8=u8/\q92=q92)) (Z0 (decide (q94*1<=140737488355328)) (Z0 q52 (Z0 (decide (q94=m)) (Z0 (decide (m<=q94)) q95 False) False) False) False) False) False) False) (Z0 q52 (Z0 (decide (q92=m)) (Z0 (decide (m<=q92)) q96 False) False) False)) False) False) False) False) (Z0 q30 (Z0 q46 (Z0 (decide (u8=u8/\0+q48<=q48)) (Z0 q26 (Z0 (decide (q98*1<=140737488355328)) (Z0 q52 (Z0 (decide (q98=m)) (Z0 (decide (m<=q98)) q99 False) False) False) False) False) False) False) q100))))
 False)
 False)
 False)
 (Z0 (q3==5)
 (Z0 q18
 (Z0 q19
 (Z0 q22
 (Z0 q23
 (Z0 q25
 (Z0 q26
 (Z0 q29
 (Z0 q30 (Z0 q32 (Z0 q33 (Z0 q36 (Z0 q23 (Z0 q38 (Z0 (decide (u8=u8/\0+q40<=q40)) (Z0 q41 (Z0 (decide (q44*1<=140737488355328)) (Z0 q30 (Z0 q46 (Z0 (decide (u8=u8/\0+q48<=q48)) (Z0 (decide (u8=u8/\q44=q44)) (Z0 (decide (q51*1<=140737488355328)) (Z0 q52 (Z0 (decide (q51=m)) (Z0 (decide (m<=q51)) q61 False) False) False) False) False) False) False) (Z0 q52 (Z0 (decide (q44=m)) (Z0 (decide (m<=q44)) q62 False) False) False)) False) False) False) False) (Z0 q30 (Z0 q46 (Z0 (decide (u8=u8/\0+q48<=q48)) (Z0 q41 (Z0 (decide (q64*1<=140737488355328)) (Z0 q52 (Z0 (decide (q64=m)) (Z0 (decide (m<=q64)) q65 False) False) False) False) False) False) False) q66)) False) False) False)
 (Z0 q23 (Z0 q38 (Z0 (decide (u8=u8/\0+q40<=q40)) (Z0 q33 (Z0 (decide (q68*1<=140737488355328)) (Z0 q30 (Z0 q46 (Z0 (decide (u8=u8/\0+q48<=q48)) (Z0 (decide (u8=u8/\q68=q68)) (Z0 (decide (q70*1<=140737488355328)) (Z0 q52 (Z0 (decide (q70=m)) (Z0 (decide (m<=q70)) q71 False) False) False) False) False) False) False) (Z0 q52 (Z0 (decide (q68=m)) (Z0 (decide (m<=q68)) q72 False) False) False)) False) False) False) False) (Z0 q30 (Z0 q46 (Z0 (decide (u8=u8/\0+q48<=q48)) (Z0 q33 (Z0 (decide (q74*1<=140737488355328)) (Z0 q52 (Z0 (decide (q74=m)) (Z0 (decide (m<=q74)) q75 False) False) False) False) False) False) False) q76)))
 False)
 False)
 False)
 (Z0 q30 (Z0 q32 (Z0 q26 (Z0 q79 (Z0 q23 (Z0 q38 (Z0 (decide (u8=u8/\0+q40<=q40)) (Z0 q80 (Z0 (decide (q82*1<=140737488355328)) (Z0 q30 (Z0 q46 (Z0 (decide (u8=u8/\0+q48<=q48)) (Z0 (decide (u8=u8/\q82=q82)) (Z0 (decide (q84*1<=140737488355328)) (Z0 q52 (Z0 (decide (q84=m)) (Z0 (decide (m<=q84)) q85 False) False) False) False) False) False) False) (Z0 q52 (Z0 (decide (q82=m)) (Z0 (decide (m<=q82)) q86 False) False) False)) False) False) False) False) (Z0 q30 (Z0 q46 (Z0 (decide (u8=u8/\0+q48<=q48)) (Z0 q80 (Z0 (decide (q88*1<=140737488355328)) (Z0 q52 (Z0 (decide (q88=m)) (Z0 (decide (m<=q88)) q89 False) False) False) False) False) False) False) q90)) False) False) False)
 (Z0 q23 (Z0 q38 (Z0 (decide (u8=u8/\0+q40<=q40)) (Z0 q26 (Z0 (decide (q92*1<=140737488355328)) (Z0 q30 (Z0 q46 (Z0 (decide (u8=u8/\0+q48<=q48)) (Z0 (decide (u8=u8/\q92=q92)) (Z0 (decide (q94*1<=140737488355328)) (Z0 q52 (Z0 (decide (q94=m)) (Z0 (decide (m<=q94)) q95 False) False) False) False) False) False) False) (Z0 q52 (Z0 (decide (q92=m)) (Z0 (decide (m<=q92)) q96 False) False) False)) False) False) False) False) (Z0 q30 (Z0 q46 (Z0 (decide (u8=u8/\0+q48<=q48)) (Z0 q26 (Z0 (decide (q98*1<=140737488355328)) (Z0 q52 (Z0 (decide (q98=m)) (Z0 (decide (m<=q98)) q99 False) False) False) False) False) False) False) q100))))
 False)
 False)
 False)
 (Z0 q23
 (Z0 q25
 (Z0 q19
 (Z0 (decide (q102*1<=140737488355328))
 (Z0 q30
 (Z0 q32
 (Z0 q103 (Z0 (decide (q105*1<=140737488355328)) (Z0 q23 (Z0 q38 (Z0 (decide (u8=u8/\0+q40<=q40)) (Z0 q106 (Z0 (decide (q108*1<=140737488355328)) (Z0 q30 (Z0 q46 (Z0 (decide (u8=u8/\0+q48<=q48)) (Z0 (decide (u8=u8/\q108=q108)) (Z0 (decide (q110*1<=140737488355328)) (Z0 q52 (Z0 (decide (q110=m)) (Z0 (decide (m<=q110)) (q109=ys/\q60) False) False) False) False) False) False) False) (Z0 q52 (Z0 (decide (q108=m)) (Z0 (decide (m<=q108)) (q107=ys/\q60) False) False) False)) False) False) False) False) (Z0 q30 (Z0 q46 (Z0 (decide (u8=u8/\0+q48<=q48)) (Z0 q106 (Z0 (decide (q112*1<=140737488355328)) (Z0 q52 (Z0 (decide (q112=m)) (Z0 (decide (m<=q112)) (q111=ys/\q60) False) False) False) False) False) False) False) (Z0 q52 (Z0 (decide (q105=m)) (Z0 (decide (m<=q105)) (q104=ys/\q60) False) False) False))) False) False)
 False)
 (Z0 q23 (Z0 q38 (Z0 (decide (u8=u8/\0+q40<=q40)) (Z0 q103 (Z0 (decide (q114*1<=140737488355328)) (Z0 q30 (Z0 q46 (Z0 (decide (u8=u8/\0+q48<=q48)) (Z0 (decide (u8=u8/\q114=q114)) (Z0 (decide (q116*1<=140737488355328)) (Z0 q52 (Z0 (decide (q116=m)) (Z0 (decide (m<=q116)) (q115=ys/\q60) False) False) False) False) False) False) False) (Z0 q52 (Z0 (decide (q114=m)) (Z0 (decide (m<=q114)) (q113=ys/\q60) False) False) False)) False) False) False) False) (Z0 q30 (Z0 q46 (Z0 (decide (u8=u8/\0+q48<=q48)) (Z0 q103 (Z0 (decide (q118*1<=140737488355328)) (Z0 q52 (Z0 (decide (q118=m)) (Z0 (decide (m<=q118)) (q117=ys/\q60) False) False) False) False) False) False) False) (Z0 q52 (Z0 (decide (q102=m)) (Z0 (decide (m<=q102)) (q101=ys/\q60) False) False) False))))
 False)
 False)
 False)
 (Z0 q30
 (Z0 q32
 (Z0 q19 (Z0 (decide (q120*1<=140737488355328)) (Z0 q23 (Z0 q38 (Z0 (decide (u8=u8/\0+q40<=q40)) (Z0 q121 (Z0 (decide (q123*1<=140737488355328)) (Z0 q30 (Z0 q46 (Z0 (decide (u8=u8/\0+q48<=q48)) (Z0 (decide (u8=u8/\q123=q123)) (Z0 (decide (q125*1<=140737488355328)) (Z0 q52 (Z0 (decide (q125=m)) (Z0 (decide (m<=q125)) (q124=ys/\q60) False) False) False) False) False) False) False) (Z0 q52 (Z0 (decide (q123=m)) (Z0 (decide (m<=q123)) (q122=ys/\q60) False) False) False)) False) False) False) False) (Z0 q30 (Z0 q46 (Z0 (decide (u8=u8/\0+q48<=q48)) (Z0 q121 (Z0 (decide (q127*1<=140737488355328)) (Z0 q52 (Z0 (decide (q127=m)) (Z0 (decide (m<=q127)) (q126=ys/\q60) False) False) False) False) False) False) False) (Z0 q52 (Z0 (decide (q120=m)) (Z0 (decide (m<=q120)) (q119=ys/\q60) False) False) False))) False) False)
 False)
 (Z0 q23 (Z0 q38 (Z0 (decide (u8=u8/\0+q40<=q40)) (Z0 q19 (Z0 (decide (q129*1<=140737488355328)) (Z0 q30 (Z0 q46 (Z0 (decide (u8=u8/\0+q48<=q48)) (Z0 (decide (u8=u8/\q129=q129)) (Z0 (decide (q131*1<=140737488355328)) (Z0 q52 (Z0 (decide (q131=m)) (Z0 (decide (m<=q131)) (q130=ys/\q60) False) False) False) False) False) False) False) (Z0 q52 (Z0 (decide (q129=m)) (Z0 (decide (m<=q129)) (q128=ys/\q60) False) False) False)) False) False) False) False) (Z0 q30 (Z0 q46 (Z0 (decide (u8=u8/\0+q48<=q48)) (Z0 q19 (Z0 (decide (q133*1<=140737488355328)) (Z0 q52 (Z0 (decide (q133=m)) (Z0 (decide (m<=q133)) (q132=ys/\q60) False) False) False) False) False) False) False) (Z0 q52 (Z0 (decide (q16=m)) (Z0 (decide (m<=q16)) (q15=ys/\q60) False) False) False))))))))
 False)
 False)
 False)
 False)
 False)
 False)
 False)
 False)
 False)
 False)
 False)
 False)
 False)
 (Z0 (decide (n=n)) (Z0 (decide (n<=n)) (xs=xs/\Z0 q53 (Z0 q54 (q56/\Z0 q54 (Z0 q57 (q59/\Z0 q57 Z2 False) False) False) False) False) False) False)) (by kernel_rfl) ?_
 conv=>zeta
 try simp only [Z8]
 try simp only [Ze]
 try simp only [Za]
 try simp only [Zf]
 try simp only [Zg]
 try simp only [Z9]
 try simp only [Y_s]
 refine ⟨fun hlt=> ?_,fun hge=>h2 (by omega)⟩
 obtain ⟨⟨w1,w2⟩,⟨w3,w4⟩,⟨w5,w6⟩,w7,w8⟩:=Xn (hr i (by omega))
 obtain ⟨l1,l2,l3,l4⟩:=ht.outs i (by omega)
 have hw:=h1 (by omega)
 have hnn:=ht.m
 have hwr:i64.wrap ((i:Int)+1)=((i+1:Nat):Int):=w64 (by omega)
 have u1:=ZN (t.outs i).kind
 have u2:=ZN (t.outs i).amount
 have u3:=ZN (t.outs i).delay
 have u4:=ZN (t.outs i).expiry
 subst hW
 rw [hwr]
 unfold Z3m at hy
 generalize t.outs i=x at*
 simp only [List.length_append,Vl]
 repeat' (first|(refine And.intro ?_ ?_)|intro _)
 all_goals (try simp only [beq_iff_eq,bne_iff_ne,ne_eq,beq_eq_false_iff_ne,bne_eq_false_iff_eq] at*)
 all_goals first|omega|assumption|trivial|skip
 all_goals first|(rw [hy];simp [*];done)|(rw [<-hm,hy];simp [*];try omega;done)|skip
noncomputable def ZgB (W:Int->List Int) (t:TxS) (core:Bool):Zh:=
 (E44 W).withL 207 0 (goM 0 (rbS t core 0 (YL W t core 0) (YL W t core 0).length) t.Fine (YB 0 t.N 9 (fun i=>i<t.N) (fun i=>i=t.N) (fun _=>False) (fun _=>False) (fun i=>rbR t (YL W t core i) (YL W t core i).length) (fun i=>rbR t (YL W t core i) (YL W t core i).length) (fun i=>rbR t (YL W t core i) (YL W t core i).length)))
noncomputable def ZlC (W:Int->List Int) (t:TxS) (core:Bool):Zh:=
 (E44 W).withL 207 2 (goM 0 (ZdM t 0 (Yq W t core 0) (Yq W t core 0).length) t.Fine (YB 2 t.M 9 (fun i=>i<t.M) (fun i=>i=t.M) (fun _=>False) (fun _=>False) (fun i=>rbR t (Yq W t core i) (Yq W t core i).length) (fun i=>rbR t (Yq W t core i) (Yq W t core i).length) (fun i=>rbR t (Yq W t core i) (Yq W t core i).length)))
theorem ZgC (t:TxS) (core:Bool):(ZgB Zs t core).Ok:=by
 unfold ZgB
 refine Zh.withGoM (N:=20) (S:=fun i=>rbS t core i (YL Zs t core i) (YL Zs t core i).length) ZdL (by kernel_rfl) fun hC=>⟨rfl,fun i hi hgo=> ?_⟩
 have h1:=VS hC core hi
 cases core
 ·exact ZlA Zs t i (YL Zs t false i) (YL Zs t false (i+1)) _ _ _ _ hC.ok hi hC.ins rfl rfl (by omega) (Qm _ _ _ _) rfl (fun h=>⟨h,h⟩) (fun h=>h)
 ·exact Zlz Zs t i (YL Zs t true i) (YL Zs t true (i+1)) _ _ _ _ hC.ok hi hC.ins rfl rfl (by omega) (Qm _ _ _ _) rfl (fun h=>⟨h,h⟩) (fun h=>h)
theorem ZgD (t:TxS) (core:Bool):(ZlC Zs t core).Ok:=by
 unfold ZlC
 refine Zh.withGoM (N:=20) (S:=fun i=>ZdM t i (Yq Zs t core i) (Yq Zs t core i).length) ZdL (by kernel_rfl) fun hC=>⟨rfl,fun i hi hgo=> ?_⟩
 have h1:=XR hC core hi
 exact ZlB Zs t i (Yq Zs t core i) (Yq Zs t core (i+1)) _ _ _ _ hC.ok hi hC.outs rfl rfl (by omega) (Z4E _ _ _ _) rfl (fun h=>⟨h,h⟩) (fun h=>h)
noncomputable def Zjg (W:Int->List Int) (t:TxS) (core:Bool):Zh:=
 (ZgB W t core).withL 207 2 (goM 0 (ZdM t 0 (Yq W t core 0) (Yq W t core 0).length) t.Fine (YB 2 t.M 9 (fun i=>i<t.M) (fun i=>i=t.M) (fun _=>False) (fun _=>False) (fun i=>rbR t (Yq W t core i) (Yq W t core i).length) (fun i=>rbR t (Yq W t core i) (Yq W t core i).length) (fun i=>rbR t (Yq W t core i) (Yq W t core i).length)))
theorem ZdN (W:Int->List Int) (t:TxS) (core:Bool) (ys:List Int) (L:Nat) (hW:W=Zs) (ht:t.Fine) (hy:ys=W9 W t core) (hL:L=ys.length):
  evF (Zjg W t core) 20 207 [.agg t.c,.bool core] ⟨0,[]⟩ (ZL 0 (.ret (.nslice ⟨0,0,0,0,0⟩ 1 L L)) 1 [(0,.ints .u8 ys)]):=by
 refine @Eq.mpr _ (let q1:=t.num;let q2:=List.length (W q1);let q3:=[]++List.take q2 (ZW 0 (W q1));let q4:=List.length q3;let q5:=t.N;let q6:=↑q5;let q7:=decide (q5=q5);let q8:=Zk t.ins;let q9:=q8=q8;let q10:=W q6;let q11:=List.length q10;let q12:=q3++List.take q11 (ZW 0 q10);let q13:=List.length q12;let q14:=YL W t core 0;let q15:=List.length q14;let q16:=decide (q1=q1);let q17:=t.M;let q18:=decide (q17=q17);let q19:=Zj t.outs;let q20:=q19=q19;let q21:=W ↑q17;let q22:=List.length q21;let q23:=Yq W t core 0;let q24:=List.length q23;let q25:=(False->False)/\(False->False);
 Z0 (decide (0<=q1))
 (Z0 (decide (u8=u8/\0+q2<=q2))
 (Z0 (decide (q4*1<=140737488355328))
 (Z0 (decide (q6=q6))
 (Z0 q7
 (q9/\
 Z0 q7
 (Z0 (decide (u8=u8/\0+q11<=q11))
 (Z0 (decide (u8=u8/\q4=q4))
 (Z0 (decide (q13*1<=140737488355328))
 (Z0 (decide (q13=q15))
 (Z0 (decide (q15<=q13))
 (Z0 (decide (core=core))
 (q12=q14/\
 Z0 q16
 (Z0 q7
 (q9/\
 Z0 q7
 (Z0 q18
 (q20/\
 Z0 q18
 (TxS.Fine t/\
 ∀(i:Nat),
 let q51:=YL W t core i;let q52:=List.length q51;let q53:=q51++List.take q22 (ZW 0 q21);let q54:=List.length q53;
 i<=q5->
 (∀(j:Nat),j<i->(fun (i:Nat)=>i<q5) j)->
 (i=q5->
 Z0 (decide (u8=u8/\0+q22<=q22))
 (Z0 (decide (u8=u8/\q52=q52))
 (Z0 (decide (q54*1<=140737488355328))
 (Z0 (decide (q54=q24))
 (Z0 (decide (q24<=q54))
 (q53=q23/\
 Z0 q16
 (Z0 q7
 (q9/\
 Z0 q7
 (Z0 q18
 (q20/\
 Z0 q18
 (TxS.Fine t/\
 ∀(i:Nat),
 let q59:=Yq W t core i;let q60:=List.length q59;
 i<=q17->(∀(j:Nat),j<i->(fun (i:Nat)=>i<q17) j)->(i=q17->Z0 (decide (q60=L)) (Z0 (decide (L<=q60)) (q59=ys/\True) False) False)/\q25)
 False)
 False)
 False)
 False)
 False)
 False)
 False)
 False)
 False)
 False)/\
 q25)
 False)
 False)
 False)
 False)
 False)
 False)
 False)
 False)
 False)
 False)
 False)
 False)
 False)
 False)
 False)
 False)
 False) (by kernel_rfl) ?_
 conv=>zeta
 try simp only [Z8]
 try simp only [Ze]
 try simp only [Za]
 try simp only [Zf]
 try simp only [Zg]
 try simp only [Z9]
 try simp only [Y_s]
 subst hW hy hL
 have e1:Zs t.num++Zs ↑t.N=YL Zs t core 0:=by unfold YL;simp [Qt]
 have e2:YL Zs t core t.N++Zs ↑t.M=Yq Zs t core 0:=by unfold Yq;simp [Qt]
 have b1:=VS ht core (Nat.le_refl t.N)
 have b2:=XR ht core (Nat.le_refl t.M)
 have hN:=ht.n
 have hM:=ht.m
 have hq:=ht.num
 simp only [Vl,List.nil_append,e1,Nat.mul_one]
 have b0:=VS ht core (Nat.zero_le t.N)
 have c0:=XR ht core (Nat.zero_le t.M)
 have d1:=ZN t.num
 refine ⟨hq.1,by omega,by omega,trivial,Nat.le_refl _,trivial,ht,fun i hi _=>⟨fun he=> ?_,fun h=>h,fun h=>h⟩⟩
 subst he
 rw [e2]
 refine ⟨by omega,rfl,Nat.le_refl _,rfl,ht,fun i hi _=>⟨fun he=> ?_,fun h=>h,fun h=>h⟩⟩
 subst he
 exact ⟨rfl,Nat.le_refl _,rfl⟩
theorem ZgE (t:TxS) (core:Bool):(Zjg Zs t core).Ok:=by
 unfold Zjg
 exact Zh.withL_join (G:=ZgB Zs t core) (H:=E44 Zs) (ZgC t core) rfl (ZgD t core)
theorem Z72 (t:TxS) (core:Bool) (ht:t.Fine):Zy PP 207 [.agg t.c,.bool core] (.nslice ⟨0,0,0,0,0⟩ 1 (W9 Zs t core).length (W9 Zs t core).length) 1 [(0,.ints .u8 (W9 Zs t core))]:=.evM (ZgE t core) (ZdN _ t core _ _ rfl ht rfl rfl)
theorem Z8E (args:List AV) (h:Z6) (K:KO) (hl:ZdB (W9 Zs) args h K):Zi PP 207 args h K:=by
 refine Zy.fsumm (d:=20) (Zm _ _ _ _ _ hl fun a ha=> ?_)
 split at ha
 ·obtain ⟨t,h1,h2,hK⟩:=ha
  exact ⟨_,_,_,_,(Z72 t _ h2).conv fun E r hr=>hr.head (fun _ hc=>h1.rel hc) (fun _ hc=>hc),rfl,⟨Nat.one_pos,.ints _ _,trivial⟩,hK⟩
 ·exact ha.elim
theorem ZdO {n:Nat} {xs:List Int} (h:xs.length=n) (hw:∀i,i<n->(Lit.int .u8 (xs.getD i 0)).wf=true):Bytes xs:=⟨fun i=>by
 by_cases hi:i<n
 ·have:=hw i hi
  simp [Lit.wf] at this
  have m1:u8.min=0:=rfl
  have m2:u8.max=255:=rfl
  simp
  omega
 ·rw [List.getD_eq_getElem?_getD,List.getElem?_eq_none (by omega)];simp⟩
structure InS.By (x:InS):Prop where
 name:Bytes x.name
 tag:Bytes x.tag
 also:Bytes x.also
 secret:Bytes x.secret
structure ZK.By (x:ZK):Prop where
 owner:Bytes x.owner
 other:Bytes x.other
 point:Bytes x.point
 hash:Bytes x.hash
structure QL (t:TxS):Prop where
 ins:∀i,i<t.N->(t.ins i).By
 outs:∀i,i<t.M->(t.outs i).By
theorem QL.b {t:TxS} (h:QL t):TxB t:=⟨fun i hi=>⟨(h.outs i hi).owner,(h.outs i hi).other⟩⟩
theorem pick {α:Type} [Inhabited α] {n:Nat} {p:Nat->α->Prop} (h:∀i,i<n->∃a,p i a):∃f:Nat->α,∀i,i<n->p i (f i):=
 ⟨fun i=>if hi:i<n then Classical.choose (h i hi) else default,fun i hi=>by
  simp only [hi,dite_true]
  exact Classical.choose_spec (h i hi)⟩
instance:Inhabited InS:=⟨inZ⟩
instance:Inhabited ZK:=⟨Znz⟩
theorem Bytes.nil:Bytes []:=⟨fun i=>by simp⟩
theorem Bytes.cons {x:Int} {xs:List Int} (hx:0<=x/\x<=255) (h:Bytes xs):Bytes (x::xs):=⟨fun i=>by
 cases i with
 | zero=>simpa using hx
 | succ i=>have:=h.h i;simpa using this⟩
theorem Bytes.append {xs ys:List Int} (h:Bytes xs) (k:Bytes ys):Bytes (xs++ys):=⟨fun i=>by
 rw [List.getD_eq_getElem?_getD,List.getElem?_append]
 split
 ·have:=h.h i;rwa [List.getD_eq_getElem?_getD] at this
 ·have:=k.h (i-xs.length);rwa [List.getD_eq_getElem?_getD] at this⟩
theorem Bytes.ite {p:Prop} [Decidable p] {xs ys:List Int} (h:Bytes xs) (k:Bytes ys):Bytes (if p then xs else ys):=by split<;>assumption
theorem Zjh (x:Int):0<=u8.wrap x/\u8.wrap x<=255:=by
 unfold wrap
 simp [IntKind.bits,IntKind.signed]
 omega
theorem X5 (n:Int):Bytes (Zs n):=by
 have hb:∀k,0<=b8 n k/\b8 n k<=255:=fun k=>Zjh _
 unfold Zs
 split
 ·exact .cons (Zjh _) .nil
 split
 ·exact .cons (by omega) (.cons (hb _) (.cons (hb _) .nil))
 split
 ·exact .cons (by omega) (.cons (hb _) (.cons (hb _) (.cons (hb _) (.cons (hb _) .nil))))
 ·exact .cons (by omega) (.cons (hb _) (.cons (hb _) (.cons (hb _) (.cons (hb _) (.cons (hb _) (.cons (hb _) (.cons (hb _) (.cons (hb _) .nil))))))))
theorem Zbt {x:InS} (h:x.By) (core:Bool):Bytes (inW Zs core x):=by
 unfold inW
 refine (h.name.append (X5 _)).append ?_
 cases core
 ·exact (X5 _).append (((Bytes.nil.ite h.tag).append (h.also.ite .nil)).append (h.secret.ite .nil))
 ·exact .nil
theorem Z8F {x:ZK} (h:x.By):Bytes (Z3m Zs x):=by
 unfold Z3m
 exact (((((((X5 _).append (X5 _)).append h.owner).append (h.other.ite .nil)).append (h.point.ite .nil)).append (h.hash.ite .nil)).append ((X5 _).ite .nil)).append ((X5 _).ite .nil)
theorem Z0g {f:Nat->List Int}:∀n,(∀i,i<n->Bytes (f i))->Bytes (Qt f n)
 | 0,_=>.nil
 | n+1,h=>(Z0g n fun i hi=>h i (by omega)).append (h n (by omega))
theorem Z8G {t:TxS} (h:QL t) (core:Bool):Bytes (W9 Zs t core):=by
 unfold W9 Yq YL
 exact ((((X5 _).append (X5 _)).append (Z0g _ fun i hi=>Zbt (h.ins i hi) core)).append (X5 _)).append (Z0g _ fun i hi=>Z8F (h.outs i hi))
def Vm (a b c:Int):Nat->Int
 | 0=>0
 | i+1=>if 2<=u32.wrap (u32.wrap (Int.tmod (Zu .u32 a i) 2+Int.tmod (Zu .u32 b i) 2)+Int.tmod (Zu .u32 c i) 2) then u32.wrap (Vm a b c i+ZF .u32 1 i) else Vm a b c i
def VT (a b c:Int):Nat->Int
 | 0=>0
 | i+1=>u32.wrap (VT a b c i+ZF .u32 (if Int.tmod (Zu .u32 a i) 2=1 then Int.tmod (Zu .u32 b i) 2 else Int.tmod (Zu .u32 c i) 2) i)
def moS (a b c:Int) (o:Int) (i:Nat):St:=⟨33,[(8,.int .u64 i),(0,.int .u32 a),(1,.int .u32 b),(2,.int .u32 c),(7,.int .u32 o)],⟨0,[]⟩,[]⟩
def moR (o:Int):St:=⟨33,[(7,.int .u32 o)],⟨0,[]⟩,[]⟩
theorem Zi6 {x:Int} (h:0<=x/\x<18446744073709551616):u64.wrap x=x:=by
 unfold wrap
 simp [IntKind.bits,IntKind.signed]
 omega
theorem Zji (a b c o o':Int) (i:Nat) (Z1 Z2:Prop) (hi:i<=32) (ho:o'=if 2<=u32.wrap (u32.wrap (Int.tmod (Zu .u32 a i) 2+Int.tmod (Zu .u32 b i) 2)+Int.tmod (Zu .u32 c i) 2) then u32.wrap (o+ZF .u32 1 i) else o) (h1:i<32->Z1) (h2:i=32->Z2):
  ZM G0 20 291 0 0 (moS a b c o i) (rdM 0 0 9 (moS a b c o' (i+1)) (moR o) (moR o) (moR o) Z1 Z2 False False):=by
 refine @Eq.mpr _ (let q1:=decide (wrap u64 ((↑i:Int)+1)=(↑(i+1):Int));let q2:=decide (a=a);let q3:=decide (b=b);let q4:=decide (c=c);
 Z0 (decide ((↑i:Int)<32)) (Z0 (decide (wrap u32 (wrap u32 (Int.tmod (Zu u32 a (↑i:Int)) 2+Int.tmod (Zu u32 b (↑i:Int)) 2)+Int.tmod (Zu u32 c (↑i:Int)) 2)>=2)) (Z0 q1 (Z0 q2 (Z0 q3 (Z0 q4 (Z0 (decide (wrap u32 (o+ZF u32 1 (↑i:Int))=o')) Z1 False) False) False) False) False) (Z0 q1 (Z0 q2 (Z0 q3 (Z0 q4 (Z0 (decide (o=o')) Z1 False) False) False) False) False)) (Z0 (decide (o=o)) Z2 False)) (by kernel_rfl) ?_
 conv=>zeta
 try simp only [Z8]
 try simp only [Ze]
 try simp only [Za]
 try simp only [Zf]
 try simp only [Zg]
 try simp only [Z9]
 try simp only [Y_s]
 have hw:u64.wrap ((i:Int)+1)=((i+1:Nat):Int):=Zi6 (by omega)
 refine ⟨fun hlt=>⟨fun hc=> ?_,fun hc=> ?_⟩,fun hge=>h2 (by omega)⟩
 ·rw [if_pos hc] at ho
  exact ⟨hw,ho.symm,h1 (by omega)⟩
 ·rw [if_neg hc] at ho
  exact ⟨hw,ho.symm,h1 (by omega)⟩
theorem Zjj (a b c o o':Int) (i:Nat) (Z1 Z2:Prop) (hi:i<=32) (ho:o'=u32.wrap (o+ZF .u32 (if Int.tmod (Zu .u32 a i) 2=1 then Int.tmod (Zu .u32 b i) 2 else Int.tmod (Zu .u32 c i) 2) i)) (h1:i<32->Z1) (h2:i=32->Z2):
  ZM G0 20 290 0 0 (moS a b c o i) (rdM 0 0 9 (moS a b c o' (i+1)) (moR o) (moR o) (moR o) Z1 Z2 False False):=by
 refine @Eq.mpr _ (let q1:=decide (wrap u64 ((↑i:Int)+1)=(↑(i+1):Int));let q2:=decide (a=a);let q3:=decide (b=b);let q4:=decide (c=c);
 Z0 (decide ((↑i:Int)<32)) (Z0 (Int.tmod (Zu u32 a (↑i:Int)) 2==1) (Z0 q1 (Z0 q2 (Z0 q3 (Z0 q4 (Z0 (decide (wrap u32 (o+ZF u32 (Int.tmod (Zu u32 b (↑i:Int)) 2) (↑i:Int))=o')) Z1 False) False) False) False) False) (Z0 q1 (Z0 q2 (Z0 q3 (Z0 q4 (Z0 (decide (wrap u32 (o+ZF u32 (Int.tmod (Zu u32 c (↑i:Int)) 2) (↑i:Int))=o')) Z1 False) False) False) False) False)) (Z0 (decide (o=o)) Z2 False)) (by kernel_rfl) ?_
 conv=>zeta
 try simp only [Z8]
 try simp only [Ze]
 try simp only [Za]
 try simp only [Zf]
 try simp only [Zg]
 try simp only [Z9]
 try simp only [Y_s]
 have hw:u64.wrap ((i:Int)+1)=((i+1:Nat):Int):=Zi6 (by omega)
 refine ⟨fun hlt=>⟨fun hc=> ?_,fun hc=> ?_⟩,fun hge=>h2 (by omega)⟩
 ·rw [if_pos (by simpa using hc)] at ho
  exact ⟨hw,ho.symm,h1 (by omega)⟩
 ·rw [if_neg (by simpa using hc)] at ho
  exact ⟨hw,ho.symm,h1 (by omega)⟩
@[irreducible] def Xx (a b c:Int):Int:=Vm a b c 32
@[irreducible] def Xs (a b c:Int):Int:=VT a b c 32
noncomputable def Zjk (a b c:Int):Zh:=G0.withL 291 0 (goM 0 (moS a b c 0 0) True (YB 0 32 9 (fun i=>i<32) (fun i=>i=32) (fun _=>False) (fun _=>False) (fun i=>moR (Vm a b c i)) (fun i=>moR (Vm a b c i)) (fun i=>moR (Vm a b c i))))
theorem ZgF (a b c:Int):(Zjk a b c).Ok:=by
 unfold Zjk
 refine Zh.withGoM (N:=20) (S:=fun i=>moS a b c (Vm a b c i) i) Zp (by kernel_rfl) fun hC=>⟨rfl,fun i hi hgo=> ?_⟩
 exact Zji a b c (Vm a b c i) (Vm a b c (i+1)) i _ _ hi rfl (fun h=>⟨h,h⟩) (fun h=>h)
noncomputable def Zjl (a b c:Int):Zh:=G0.withL 290 0 (goM 0 (moS a b c 0 0) True (YB 0 32 9 (fun i=>i<32) (fun i=>i=32) (fun _=>False) (fun _=>False) (fun i=>moR (VT a b c i)) (fun i=>moR (VT a b c i)) (fun i=>moR (VT a b c i))))
theorem ZgG (a b c:Int):(Zjl a b c).Ok:=by
 unfold Zjl
 refine Zh.withGoM (N:=20) (S:=fun i=>moS a b c (VT a b c i) i) Zp (by kernel_rfl) fun hC=>⟨rfl,fun i hi hgo=> ?_⟩
 exact Zjj a b c (VT a b c i) (VT a b c (i+1)) i _ _ hi rfl (fun h=>⟨h,h⟩) (fun h=>h)
theorem Zjm (a b c:Int) (o:Int) (ho:o=Vm a b c 32):
  evF (Zjk a b c) 20 291 [.int .u32 a,.int .u32 b,.int .u32 c] ⟨0,[]⟩ (Yt 0 [] (.int .u32 o) 0 []):=by
 refine @Eq.mpr _ (Z0 (decide (a=a)) (Z0 (decide (b=b)) (Z0 (decide (c=c)) (True/\∀(i:Nat),i<=32->(∀(j:Nat),j<i->(fun (i:Nat)=>i<32) j)->(i=32->Z0 (decide (Vm a b c i=o)) True False)/\(False->False)/\(False->False)) False) False) False) (by kernel_rfl) ?_
 try simp only [Z8]
 try simp only [Ze]
 try simp only [Za]
 try simp only [Zf]
 try simp only [Zg]
 try simp only [Z9]
 try simp only [Y_s]
 subst ho
 exact fun i hi _=>⟨fun he=>by subst he;rfl,fun h=>h,fun h=>h⟩
theorem Zjn (a b c:Int) (o:Int) (ho:o=VT a b c 32):
  evF (Zjl a b c) 20 290 [.int .u32 a,.int .u32 b,.int .u32 c] ⟨0,[]⟩ (Yt 0 [] (.int .u32 o) 0 []):=by
 refine @Eq.mpr _ (Z0 (decide (a=a)) (Z0 (decide (b=b)) (Z0 (decide (c=c)) (True/\∀(i:Nat),i<=32->(∀(j:Nat),j<i->(fun (i:Nat)=>i<32) j)->(i=32->Z0 (decide (VT a b c i=o)) True False)/\(False->False)/\(False->False)) False) False) False) (by kernel_rfl) ?_
 try simp only [Z8]
 try simp only [Ze]
 try simp only [Za]
 try simp only [Zf]
 try simp only [Zg]
 try simp only [Z9]
 try simp only [Y_s]
 subst ho
 exact fun i hi _=>⟨fun he=>by subst he;rfl,fun h=>h,fun h=>h⟩
def Z27 (F:Int->Int->Int->Int):ZG:=fun args _ K=>match args with
 | [.int .u32 a,.int .u32 b,.int .u32 c]=>K (.int .u32 (F a b c))
 | _=>False
theorem Z3q {f:FuncId} {F:Int->Int->Int->Int} (hp:∀a b c,Zy PP f [.int .u32 a,.int .u32 b,.int .u32 c] (.int .u32 (F a b c)) 0 []) (args:List AV) (h:Z6) (K:AV->Prop) (hl:Z27 F args h K):Zi PP f args h fun o h'=>∃v,o=.ret v/\h'=h/\K v:=by
 unfold Z27 at hl
 split at hl
 ·rename_i a b c
  refine US (d:=20) (K0:=fun l=>l=[.int .u32 a,.int .u32 b,.int .u32 c]) ?_ fun l e=>⟨_,by rw [e];exact hp a b c,fun _=>rfl,hl⟩
  rfl
 ·exact hl.elim
def sg3 (a b c:Int) (w:Int):Int:=Ym .u32 (Ym .u32 (Z8e w (32-a)) (Z8e w (32-b))) (Z8e w (32-c))
def rg3 (a b n:Int) (w:Int):Int:=Ym .u32 (Ym .u32 (Z8e w (32-a)) (Z8e w (32-b))) (Zu .u32 w n)
def Z8H (bl:List Int) (t:Nat):Int:=u32.wrap (u32.wrap (u32.wrap (ZF .u32 (u32.wrap (bl.getD (4*t) 0)) 24+ZF .u32 (u32.wrap (bl.getD (4*t+1) 0)) 16)+ZF .u32 (u32.wrap (bl.getD (4*t+2) 0)) 8)+u32.wrap (bl.getD (4*t+3) 0))
def ZdP (m:List Int) (t:Nat):Int:=u32.wrap (u32.wrap (u32.wrap (rg3 17 19 10 (m.getD (t-2) 0)+m.getD (t-7) 0)+rg3 7 18 3 (m.getD (t-15) 0))+m.getD (t-16) 0)
def Wn (bl:List Int):Nat->List Int
 | 0=>List.replicate 64 0
 | t+1=>(Wn bl t).set t (if t<16 then Z8H bl t else ZdP (Wn bl t) t)
theorem Z3r (bl:List Int):∀t,(Wn bl t).length=64
 | 0=>rfl
 | t+1=>by simp [Wn,Z3r bl t]
def prS (st bl m:List Int) (i:Nat):St:=⟨146,[(6,.int .i64 i),(3,pt 1),(5,pt 3),(2,pt 0),(4,pt 2)],⟨4,[(3,.flat [.arr .u32 64 m]),(2,.flat [.arr .u32 8 [0,0,0,0,0,0,0,0]]),(1,.flat [.arr .u8 64 bl]),(0,.flat [.arr .u32 8 st])]⟩,[]⟩
theorem ZnH (st bl m m':List Int) (i:Nat) (Z1 Z2:Prop) (hi:i<=64) (hm:m.length=64) (hm':m'=m.set i (if i<16 then Z8H bl i else ZdP m i)) (h1:i<64->Z1) (h2:i=64->Z2):
  ZM G0 20 269 0 0 (prS st bl m i) (rdM 0 0 9 (prS st bl m' (i+1)) (prS st bl m i) (prS st bl m i) (prS st bl m i) Z1 Z2 False False):=by
 refine @Eq.mpr _ (let q1:=wrap i64 (4*(↑i:Int));let q2:=0+Int.toNat q1;let q3:=wrap i64 (q1+1);let q4:=0+Int.toNat q3;let q5:=wrap i64 (q1+2);let q6:=0+Int.toNat q5;let q7:=wrap i64 (q1+3);let q8:=0+Int.toNat q7;let q9:=decide (0<=(↑i:Int)/\(↑i:Int)<64);let q10:=0+Int.toNat (↑i:Int);let q11:=decide (u32=u32/\q10<64/\q10<List.length m);let q12:=decide (wrap i64 ((↑i:Int)+1)=(↑(i+1):Int));let q13:=[(0:Int),0,0,0,0,0,0,0];let q14:=q13=q13;let q15:=q14/\bl=bl/\st=st/\Z1;let q16:=wrap i64 ((↑i:Int)-2);let q17:=0+Int.toNat q16;let q18:=wrap i64 ((↑i:Int)-7);let q19:=0+Int.toNat q18;let q20:=decide (q19<64);let q21:=wrap i64 ((↑i:Int)-15);let q22:=0+Int.toNat q21;let q23:=decide (q22<64);let q24:=wrap i64 ((↑i:Int)-16);let q25:=0+Int.toNat q24;let q26:=decide (q25<64);let q27:=List.getD m q25 0;let q28:=decide (q27=q27);let q29:=List.getD m q22 0;let q30:=List.getD m q19 0;let q31:=decide (q30=q30);let q32:=List.getD m q17 0;
 Z0 (decide ((↑i:Int)<64))
 (Z0 (decide ((↑i:Int)<16)) (Z0 (decide (0<=q1/\q1<64)) (Z0 (decide (q2<64)) (Z0 (decide (0<=q3/\q3<64)) (Z0 (decide (q4<64)) (Z0 (decide (0<=q5/\q5<64)) (Z0 (decide (q6<64)) (Z0 (decide (0<=q7/\q7<64)) (Z0 (decide (q8<64)) (Z0 q9 (Z0 q11 (Z0 q12 (List.set m q10 (wrap u32 (wrap u32 (wrap u32 (ZF u32 (wrap u32 (List.getD bl q2 0)) 24+ZF u32 (wrap u32 (List.getD bl q4 0)) 16)+ZF u32 (wrap u32 (List.getD bl q6 0)) 8)+wrap u32 (List.getD bl q8 0)))=m'/\q15) False) False) False) False) False) False) False) False) False) False) False)
 (Z0 (decide (0<=q16/\q16<64))
 (Z0 (decide (q17<64)) (Z0 (decide (0<=q18/\q18<64)) (Z0 q20 (Z0 (decide (0<=q21/\q21<64)) (Z0 q23 (Z0 (decide (0<=q24/\q24<64)) (Z0 q26 (Z0 q26 (Z0 q28 (Z0 q23 (Z0 (decide (q29=q29)) (Z0 q20 (Z0 q31 (Z0 q26 (Z0 q28 (Z0 q20 (Z0 q31 (Z0 q9 (Z0 q11 (Z0 q12 (List.set m q10 (wrap u32 (wrap u32 (wrap u32 (Ym u32 (Ym u32 (bOr u32 (ZF u32 q32 15) (Zu u32 q32 17)) (bOr u32 (ZF u32 q32 13) (Zu u32 q32 19))) (Zu u32 q32 10)+q30)+Ym u32 (Ym u32 (bOr u32 (ZF u32 q29 25) (Zu u32 q29 7)) (bOr u32 (ZF u32 q29 14) (Zu u32 q29 18))) (Zu u32 q29 3))+q27))=m'/\q15) False) False) False) False) False) False) False) False) False) False) False) False) False) False) False) False) False) False) False) False) False))
 (Z0 (decide ((↑i:Int)=(↑i:Int))) (m=m/\q14/\bl=bl/\st=st/\Z2) False)) (by kernel_rfl) ?_
 conv=>zeta
 try simp only [Z8]
 try simp only [Ze]
 try simp only [Za]
 try simp only [Zf]
 try simp only [Zg]
 try simp only [Z9]
 try simp only [Y_s]
 have hw:i64.wrap ((i:Int)+1)=((i+1:Nat):Int):=w64 (by omega)
 refine ⟨fun hlt=>⟨fun h16=> ?_,fun h16=> ?_⟩,fun hge=>h2 (by omega)⟩
 ·have e0:i64.wrap (4*(i:Int))=((4*i:Nat):Int):=by rw [w64 (by omega)];omega
  have e1:i64.wrap (((4*i:Nat):Int)+1)=((4*i+1:Nat):Int):=by rw [w64 (by omega)];omega
  have e2:i64.wrap (((4*i:Nat):Int)+2)=((4*i+2:Nat):Int):=by rw [w64 (by omega)];omega
  have e3:i64.wrap (((4*i:Nat):Int)+3)=((4*i+3:Nat):Int):=by rw [w64 (by omega)];omega
  rw [if_pos (by omega)] at hm'
  simp only [e0,e1,e2,e3,hw,Int.toNat_natCast]
  repeat' (first|(refine And.intro ?_ ?_)|intro _)
  all_goals first|omega|exact hm'.symm|exact h1 (by omega)|trivial
 ·have e0:i64.wrap ((i:Int)-2)=((i-2:Nat):Int):=by rw [w64 (by omega)];omega
  have e1:i64.wrap ((i:Int)-7)=((i-7:Nat):Int):=by rw [w64 (by omega)];omega
  have e2:i64.wrap ((i:Int)-15)=((i-15:Nat):Int):=by rw [w64 (by omega)];omega
  have e3:i64.wrap ((i:Int)-16)=((i-16:Nat):Int):=by rw [w64 (by omega)];omega
  rw [if_neg (by omega)] at hm'
  simp only [e0,e1,e2,e3,hw,Int.toNat_natCast]
  repeat' (first|(refine And.intro ?_ ?_)|intro _)
  all_goals first|omega|exact hm'.symm|exact h1 (by omega)|trivial
noncomputable def Zjo (st bl:List Int):Zh:=G0.withL 269 0 (goM 0 (prS st bl (List.replicate 64 0) 0) True (YB 0 64 9 (fun i=>i<64) (fun i=>i=64) (fun _=>False) (fun _=>False) (fun i=>prS st bl (Wn bl i) i) (fun i=>prS st bl (Wn bl i) i) (fun i=>prS st bl (Wn bl i) i)))
theorem ZgH (st bl:List Int):(Zjo st bl).Ok:=by
 unfold Zjo
 refine Zh.withGoM (N:=20) (S:=fun i=>prS st bl (Wn bl i) i) Zp (by kernel_rfl) fun hC=>⟨rfl,fun i hi hgo=> ?_⟩
 exact ZnH st bl (Wn bl i) (Wn bl (i+1)) i _ _ hi (Z3r bl i) rfl (fun h=>⟨h,h⟩) (fun h=>h)
noncomputable def E54 (M P:Int->Int->Int->Int):Zh:=(G0.withP 291 (Z27 M)).withP 290 (Z27 P)
theorem Zjp:(E54 Xx Xs).Ok:=Zh.withP_ok (Zh.withP_ok Zp (Z3q fun a b c=>by unfold Xx;exact .ev (ZgF a b c) (Zjm a b c _ rfl))) (Z3q fun a b c=>by unfold Xs;exact .ev (ZgG a b c) (Zjn a b c _ rfl))
def Z1H (M P:Int->Int->Int->Int) (k m:Int) (x:List Int):List Int:=
 let one:=u32.wrap (u32.wrap (u32.wrap (u32.wrap (x.getD 7 0+sg3 6 11 25 (x.getD 4 0))+P (x.getD 4 0) (x.getD 5 0) (x.getD 6 0))+k)+m)
 [u32.wrap (one+u32.wrap (sg3 2 13 22 (x.getD 0 0)+M (x.getD 0 0) (x.getD 1 0) (x.getD 2 0))),x.getD 0 0,x.getD 1 0,x.getD 2 0,u32.wrap (x.getD 3 0+one),x.getD 4 0,x.getD 5 0,x.getD 6 0]
def UY (M P:Int->Int->Int->Int) (m st:List Int):Nat->List Int
 | 0=>st
 | t+1=>Z1H M P (Vv.getD t 0) (m.getD t 0) (UY M P m st t)
theorem Zbu (M P:Int->Int->Int->Int) (m st:List Int) (t:Nat):UY M P m st (t+1)=Z1H M P (Vv.getD t 0) (m.getD t 0) (UY M P m st t):=rfl
theorem Zbv (M P:Int->Int->Int->Int) (m st:List Int):UY M P m st 0=st:=rfl
theorem Z0K {M P:Int->Int->Int->Int} {m st:List Int} (h:st.length=8):∀t,(UY M P m st t).length=8
 | 0=>h
 | _+1=>rfl
def prT (st k m x:List Int) (i:Nat):St:=⟨146,[(9,.int .i64 i),(8,pt 6),(7,pt 5),(5,pt 3),(2,pt 0),(4,pt 2)],⟨7,[(6,.flat [.arr .u32 8 x]),(5,.flat [.arr .u32 64 k]),(3,.flat [.arr .u32 64 m]),(2,.flat [.arr .u32 8 [0,0,0,0,0,0,0,0]]),(0,.flat [.arr .u32 8 st])]⟩,[]⟩
def prU (st x:List Int):St:=⟨146,[(8,pt 6),(2,pt 0),(4,pt 2)],⟨7,[(6,.flat [.arr .u32 8 x]),(2,.flat [.arr .u32 8 [0,0,0,0,0,0,0,0]]),(0,.flat [.arr .u32 8 st])]⟩,[]⟩
theorem ZnI (M P:Int->Int->Int->Int) (st k m x':List Int) (x0 x1 x2 x3 x4 x5 x6 x7:Int) (i:Nat) (Z1 Z2:Prop) (hi:i<=64) (hx:x'=Z1H M P (k.getD i 0) (m.getD i 0) [x0,x1,x2,x3,x4,x5,x6,x7]) (h1:i<64->Z1) (h2:i=64->Z2):
  ZM (E54 M P) 20 269 2 0 (prT st k m [x0,x1,x2,x3,x4,x5,x6,x7] i) (rdM 0 2 9 (prT st k m x' (i+1)) (prU st [x0,x1,x2,x3,x4,x5,x6,x7]) (prU st [x0,x1,x2,x3,x4,x5,x6,x7]) (prU st [x0,x1,x2,x3,x4,x5,x6,x7]) Z1 Z2 False False):=by
 refine @Eq.mpr _ (let q1:=decide (0<=(↑i:Int)/\(↑i:Int)<64);let q2:=0+Int.toNat (↑i:Int);let q3:=decide (q2<64);let q4:=decide (q2<64);let q5:=List.getD m q2 0;let q6:=List.getD k q2 0;let q7:=wrap u32 (wrap u32 (wrap u32 (wrap u32 (x7+Ym u32 (Ym u32 (bOr u32 (ZF u32 x4 26) (Zu u32 x4 6)) (bOr u32 (ZF u32 x4 21) (Zu u32 x4 11))) (bOr u32 (ZF u32 x4 7) (Zu u32 x4 25)))+P x4 x5 x6)+q6)+q5);let q8:=[(0:Int),0,0,0,0,0,0,0];let q9:=q8=q8;let q10:=[x0,x1,x2,x3,x4,x5,x6,x7];
 Z0 (decide ((↑i:Int)<64)) (Z0 q1 (Z0 q3 (Z0 q1 (Z0 q4 (Z0 q4 (Z0 (decide (q5=q5)) (Z0 q3 (Z0 (decide (q6=q6)) (Z0 (decide (x6=x6)) (Z0 (decide (x5=x5)) (Z0 (decide (x4=x4)) (Z0 (decide (x7=x7)) (Z0 (decide (x2=x2)) (Z0 (decide (x1=x1)) (Z0 (decide (x0=x0)) (Z0 (decide (wrap i64 ((↑i:Int)+1)=(↑(i+1):Int))) ([wrap u32 (q7+wrap u32 (Ym u32 (Ym u32 (bOr u32 (ZF u32 x0 30) (Zu u32 x0 2)) (bOr u32 (ZF u32 x0 19) (Zu u32 x0 13))) (bOr u32 (ZF u32 x0 10) (Zu u32 x0 22))+M x0 x1 x2)),x0,x1,x2,wrap u32 (x3+q7),x4,x5,x6]=x'/\k=k/\m=m/\q9/\st=st/\Z1) False) False) False) False) False) False) False) False) False) False) False) False) False) False) False) False) (q10=q10/\q9/\st=st/\Z2)) (by kernel_rfl) ?_
 conv=>zeta
 try simp only [Z8]
 try simp only [Ze]
 try simp only [Za]
 try simp only [Zf]
 try simp only [Zg]
 try simp only [Z9]
 try simp only [Y_s]
 have hw:i64.wrap ((i:Int)+1)=((i+1:Nat):Int):=w64 (by omega)
 refine ⟨fun hlt=> ?_,fun hge=>h2 (by omega)⟩
 rw [hw]
 repeat' (first|(refine And.intro ?_ ?_)|intro _)
 all_goals first|omega|exact hx.symm|exact h1 (by omega)|trivial
def prV (st x:List Int) (i:Nat):St:=⟨146,[(12,.int .i64 i),(8,pt 6),(2,pt 0),(4,pt 2)],⟨7,[(6,.flat [.arr .u32 8 x]),(2,.flat [.arr .u32 8 [0,0,0,0,0,0,0,0]]),(0,.flat [.arr .u32 8 st])]⟩,[]⟩
def Vy (st x:List Int):Nat->List Int
 | 0=>x
 | i+1=>(Vy st x i).set i (u32.wrap ((Vy st x i).getD i 0+st.getD i 0))
theorem Z3s {st x:List Int} (h:x.length=8):∀i,(Vy st x i).length=8
 | 0=>h
 | i+1=>by simp [Vy,Z3s h i]
theorem ZnJ (st x x':List Int) (i:Nat) (Z1 Z2:Prop) (hi:i<=8) (hl:x.length=8) (hs:st.length=8) (hx:x'=x.set i (u32.wrap (x.getD i 0+st.getD i 0))) (h1:i<8->Z1) (h2:i=8->Z2):
  ZM G0 20 269 4 0 (prV st x i) (rdM 0 4 9 (prV st x' (i+1)) (prU st x) (prU st x) (prU st x) Z1 Z2 False False):=by
 refine @Eq.mpr _ (let q1:=decide (0<=(↑i:Int)/\(↑i:Int)<8);let q2:=0+Int.toNat (↑i:Int);let q3:=[(0:Int),0,0,0,0,0,0,0];let q4:=q3=q3;
 Z0 (decide ((↑i:Int)<8)) (Z0 q1 (Z0 (decide (q2<8)) (Z0 q1 (Z0 (decide (q2<8)) (Z0 q1 (Z0 (decide (u32=u32/\q2<8/\q2<List.length x)) (Z0 (decide (wrap i64 ((↑i:Int)+1)=(↑(i+1):Int))) (List.set x q2 (wrap u32 (List.getD x q2 0+List.getD st q2 0))=x'/\q4/\st=st/\Z1) False) False) False) False) False) False) False) (x=x/\q4/\st=st/\Z2)) (by kernel_rfl) ?_
 conv=>zeta
 try simp only [Z8]
 try simp only [Ze]
 try simp only [Za]
 try simp only [Zf]
 try simp only [Zg]
 try simp only [Z9]
 try simp only [Y_s]
 have hw:i64.wrap ((i:Int)+1)=((i+1:Nat):Int):=w64 (by omega)
 refine ⟨fun hlt=> ?_,fun hge=>h2 (by omega)⟩
 rw [hw]
 repeat' (first|(refine And.intro ?_ ?_)|intro _)
 all_goals first|omega|exact hx.symm|exact h1 (by omega)|trivial
def Zjq (M P:Int->Int->Int->Int) (st m:List Int):Nat->St->KE->Prop:=goM 0 (prT st Vv m st 0) (st.length=8) (YB 2 64 9 (fun i=>i<64) (fun i=>i=64) (fun _=>False) (fun _=>False) (fun i=>prU st (UY M P m st i)) (fun i=>prU st (UY M P m st i)) (fun i=>prU st (UY M P m st i)))
theorem ZgI (st m:List Int):((E54 Xx Xs).withL 269 2 (Zjq Xx Xs st m)).Ok:=by
 unfold Zjq
 refine Zh.withGoM (N:=20) (S:=fun i=>prT st Vv m (UY Xx Xs m st i) i) Zjp (by kernel_rfl) fun hC=>⟨rfl,fun i hi hgo=> ?_⟩
 obtain ⟨x0,x1,x2,x3,x4,x5,x6,x7,e⟩:=eight _ (Z0K (M:=Xx) (P:=Xs) (m:=m) hC i)
 show ZM _ 20 269 2 0 (prT st Vv m (UY Xx Xs m st i) i) (rdM 0 2 9 (prT st Vv m (Z1H Xx Xs (Vv.getD i 0) (m.getD i 0) (UY Xx Xs m st i)) (i+1)) _ _ _ _ _ _ _)
 rw [e]
 exact ZnI Xx Xs st Vv m _ x0 x1 x2 x3 x4 x5 x6 x7 i _ _ hi rfl (fun h=>⟨h,h⟩) (fun h=>h)
def Zjr (st x:List Int):Nat->St->KE->Prop:=goM 0 (prV st x 0) (st.length=8/\x.length=8) (YB 4 8 9 (fun i=>i<8) (fun i=>i=8) (fun _=>False) (fun _=>False) (fun i=>prU st (Vy st x i)) (fun i=>prU st (Vy st x i)) (fun i=>prU st (Vy st x i)))
theorem ZgJ (st x:List Int):(G0.withL 269 4 (Zjr st x)).Ok:=by
 unfold Zjr
 refine Zh.withGoM (N:=20) (S:=fun i=>prV st (Vy st x i) i) Zp (by kernel_rfl) fun hC=>⟨rfl,fun i hi hgo=> ?_⟩
 exact ZnJ st (Vy st x i) (Vy st x (i+1)) i _ _ hi (Z3s hC.2 i) hC.1 rfl (fun h=>⟨h,h⟩) (fun h=>h)
noncomputable def Zjs (M P:Int->Int->Int->Int) (st bl m x:List Int):Zh:=((Zjo st bl).withL 269 2 (Zjq M P st m)).withL 269 4 (Zjr st x)
theorem ZgK (st bl m x:List Int):(Zjs Xx Xs st bl m x).Ok:=by
 unfold Zjs
 exact Zh.withL_join (H:=G0) (Zh.withL_join (H:=E54 Xx Xs) (ZgH st bl) rfl (ZgI st m)) rfl (ZgJ st x)
@[irreducible] def XS (st bl:List Int):List Int:=Vy st (UY Xx Xs (Wn bl 64) st 64) 8
attribute [irreducible] Wn UY Vy
theorem ZnK (M P:Int->Int->Int->Int) (st bl m x r:List Int) (hst:st.length=8) (hm:m=Wn bl 64) (hx:x=UY M P m st 64) (hr:r=Vy st x 8):
  evF (Zjs M P st bl m x) 20 269 [.agg [.arr .u32 8 st],.agg [.arr .u8 64 bl]] ⟨0,[]⟩ (Yt 0 [] (.agg [.arr .u32 8 r]) 0 []):=by
 refine @Eq.mpr _ ((0:Int)::(0:Int)::(0:Int)::(0:Int)::(0:Int)::(0:Int)::(0:Int)::(0:Int)::(0:Int)::(0:Int)::(0:Int)::(0:Int)::(0:Int)::(0:Int)::(0:Int)::(0:Int)::(0:Int)::(0:Int)::(0:Int)::(0:Int)::(0:Int)::(0:Int)::(0:Int)::(0:Int)::(0:Int)::(0:Int)::(0:Int)::(0:Int)::(0:Int)::(0:Int)::(0:Int)::(0:Int)::Z5=(0:Int)::(0:Int)::(0:Int)::(0:Int)::(0:Int)::(0:Int)::(0:Int)::(0:Int)::(0:Int)::(0:Int)::(0:Int)::(0:Int)::(0:Int)::(0:Int)::(0:Int)::(0:Int)::(0:Int)::(0:Int)::(0:Int)::(0:Int)::(0:Int)::(0:Int)::(0:Int)::(0:Int)::(0:Int)::(0:Int)::(0:Int)::(0:Int)::(0:Int)::(0:Int)::(0:Int)::(0:Int)::Z5/\
 [(0:Int),(0:Int),(0:Int),(0:Int),(0:Int),(0:Int),(0:Int),(0:Int)]=[(0:Int),(0:Int),(0:Int),(0:Int),(0:Int),(0:Int),(0:Int),(0:Int)]/\
 bl=bl/\
 st=st/\
 True/\
 ∀(i:Nat),
 i<=(64:Nat)->
 (∀(j:Nat),j<i->(fun (i:Nat)=>i<(64:Nat)) j)->
 (i=(64:Nat)->
 st=st/\
 [(1116352408:Int),(1899447441:Int),(3049323471:Int),(3921009573:Int),(961987163:Int),(1508970993:Int),(2453635748:Int),(2870763221:Int),(3624381080:Int),(310598401:Int),(607225278:Int),(1426881987:Int),(1925078388:Int),(2162078206:Int),(2614888103:Int),(3248222580:Int),(3835390401:Int),(4022224774:Int),(264347078:Int),(604807628:Int),(770255983:Int),(1249150122:Int),(1555081692:Int),(1996064986:Int),(2554220882:Int),(2821834349:Int),(2952996808:Int),(3210313671:Int),(3336571891:Int),(3584528711:Int),(113926993:Int),(338241895:Int),(666307205:Int),(773529912:Int),(1294757372:Int),(1396182291:Int),(1695183700:Int),(1986661051:Int),(2177026350:Int),(2456956037:Int),(2730485921:Int),(2820302411:Int),(3259730800:Int),(3345764771:Int),(3516065817:Int),(3600352804:Int),(4094571909:Int),(275423344:Int),(430227734:Int),(506948616:Int),
 (659060556:Int),(883997877:Int),(958139571:Int),(1322822218:Int),(1537002063:Int),(1747873779:Int),(1955562222:Int),(2024104815:Int),(2227730452:Int),(2361852424:Int),(2428436474:Int),(2756734187:Int),(3204031479:Int),(3329325298:Int)]=
 Vv/\
 Wn bl i=m/\
 [(0:Int),(0:Int),(0:Int),(0:Int),(0:Int),(0:Int),(0:Int),(0:Int)]=[(0:Int),(0:Int),(0:Int),(0:Int),(0:Int),(0:Int),(0:Int),(0:Int)]/\st=st/\List.length st=(8:Nat)/\∀(i:Nat),i<=(64:Nat)->(∀(j:Nat),j<i->(fun (i:Nat)=>i<(64:Nat)) j)->(i=(64:Nat)->UY M P m st i=x/\[(0:Int),(0:Int),(0:Int),(0:Int),(0:Int),(0:Int),(0:Int),(0:Int)]=[(0:Int),(0:Int),(0:Int),(0:Int),(0:Int),(0:Int),(0:Int),(0:Int)]/\st=st/\(List.length st=(8:Nat)/\List.length x=(8:Nat))/\∀(i:Nat),i<=(8:Nat)->(∀(j:Nat),j<i->(fun (i:Nat)=>i<(8:Nat)) j)->(i=(8:Nat)->Vy st x i=r/\True)/\(False->[(0:Int),(0:Int),(0:Int),(0:Int),(0:Int),(0:Int),(0:Int),(0:Int)]=r/\True)/\(False->False))/\(False->[(0:Int),(0:Int),(0:Int),(0:Int),(0:Int),(0:Int),(0:Int),(0:Int)]=r/\True)/\(False->False))/\
 (False->[(0:Int),(0:Int),(0:Int),(0:Int),(0:Int),(0:Int),(0:Int),(0:Int)]=r/\True)/\(False->False)) (by kernel_rfl) ?_
 try simp only [Z8]
 try simp only [Ze]
 try simp only [Za]
 try simp only [Zf]
 try simp only [Zg]
 try simp only [Z9]
 try simp only [Y_s]
 subst hm
 have hl:x.length=8:=by rw [hx];exact Z0K hst _
 exact fun i _ _=>⟨fun he=>⟨by kernel_rfl,by rw [he],hst,fun j _ _=>⟨fun hj=>⟨by rw [hj,hx],⟨hst,hl⟩,fun q _ _=>⟨fun hq=>by rw [hq,hr],fun h=>h.elim,fun h=>h⟩⟩,fun h=>h.elim,fun h=>h⟩⟩,fun h=>h.elim,fun h=>h⟩
theorem Z73 (st bl:List Int) (h:st.length=8):Zy PP 269 [.agg [.arr .u32 8 st],.agg [.arr .u8 64 bl]] (.agg [.arr .u32 8 (XS st bl)]) 0 []:=by
 unfold XS
 exact .ev (ZgK st bl _ _) (ZnK Xx Xs st bl _ _ _ h rfl rfl rfl)
theorem Z5K {st bl:List Int} (h:st.length=8):(XS st bl).length=8:=by unfold XS;exact Z3s (Z0K h _) _
def ZgL (n i:Int):Int:=u8.wrap (Int.tmod (Zu .u64 (u64.wrap (u64.wrap n*8)) (u64.wrap (i64.wrap (56-i64.wrap (8*i))))) 256)
def XV (n:Int):Nat->List Int
 | 0=>[]
 | i+1=>XV n i++[ZgL n i]
theorem Z3t (n:Int):∀i,(XV n i).length=i
 | 0=>rfl
 | i+1=>by rw [XV,List.length_append,Z3t n i];rfl
def paS (bs ys:List Int) (n L i:Nat):St:=⟨39,[(5,.int .i64 i),(4,.nslice ⟨3,0,0,0,0⟩ 1 L L),(0,.vints .u8 bs n)],⟨4,[(3,.ints .u8 ys)]⟩,[]⟩
theorem ZlD (bs ys zs:List Int) (n L L' i:Nat) (Z1 Z2:Prop) (hi:i<=8) (hL:ys.length=L) (hb:L<10000000000000) (hz:zs=ys++[ZgL n i]) (hL':L'=zs.length) (h1:i<8->Z1) (h2:i=8->Z2):
  ZM G0 20 268 0 0 (paS bs ys n L i) (rdM 0 0 9 (paS bs zs n L' (i+1)) (paS bs ys n L i) (paS bs ys n L i) (paS bs ys n L i) Z1 Z2 False False):=by
 refine @Eq.mpr _ (let q1:=wrap u64 (wrap i64 (56-wrap i64 (8*(↑i:Int))));let q2:=ys++[wrap u8 (Int.tmod (Zu u64 (wrap u64 (wrap u64 (↑n:Int)*8)) q1) 256)];let q3:=List.length q2;let q4:=decide (n=n);
 Z0 (decide ((↑i:Int)<8)) (Z0 (decide (0<=q1)) (Z0 (decide (u8=u8/\List.length ys=L)) (Z0 (decide (q3*1<=140737488355328)) (Z0 (decide (wrap i64 ((↑i:Int)+1)=(↑(i+1):Int))) (Z0 (decide (q3=L')) (Z0 (decide (L'<=q3)) (bs=bs/\Z0 q4 (q2=zs/\Z1) False) False) False) False) False) False) False) (Z0 (decide ((↑i:Int)=(↑i:Int))) (Z0 (decide (L=L)) (Z0 (decide (L<=L)) (bs=bs/\Z0 q4 (ys=ys/\Z2) False) False) False) False)) (by kernel_rfl) ?_
 conv=>zeta
 try simp only [Z8]
 try simp only [Ze]
 try simp only [Za]
 try simp only [Zf]
 try simp only [Zg]
 try simp only [Z9]
 try simp only [Y_s]
 have hw:i64.wrap ((i:Int)+1)=((i+1:Nat):Int):=w64 (by omega)
 refine ⟨fun hlt=> ?_,fun hge=>h2 (by omega)⟩
 have hz':zs.length=L+1:=by rw [hz,List.length_append,hL];rfl
 have h0:0<=u64.wrap (i64.wrap (56-i64.wrap (8*(i:Int)))):=by
  unfold wrap
  simp [IntKind.bits,IntKind.signed]
  omega
 simp only [List.length_append,List.length_cons,List.length_nil]
 rw [hw]
 repeat' (first|(refine And.intro ?_ ?_)|intro _)
 all_goals first|exact h0|omega|exact hz.symm|exact h1 (by omega)|trivial
noncomputable def Zjt (bs y:List Int) (n:Nat):Zh:=G0.withL 268 0 (goM 0 (paS bs (y++XV n 0) n (y++XV n 0).length 0) (y.length<=1000000000000) (YB 0 8 9 (fun i=>i<8) (fun i=>i=8) (fun _=>False) (fun _=>False) (fun i=>paS bs (y++XV n i) n (y++XV n i).length i) (fun i=>paS bs (y++XV n i) n (y++XV n i).length i) (fun i=>paS bs (y++XV n i) n (y++XV n i).length i)))
theorem ZgM (bs y:List Int) (n:Nat):(Zjt bs y n).Ok:=by
 unfold Zjt
 refine Zh.withGoM (N:=20) (S:=fun i=>paS bs (y++XV n i) n (y++XV n i).length i) Zp (by kernel_rfl) fun hC=>⟨rfl,fun i hi hgo=> ?_⟩
 have hl:(y++XV n i).length=y.length+i:=by rw [List.length_append,Z3t]
 exact ZlD bs (y++XV n i) (y++XV n (i+1)) n _ _ i _ _ hi rfl (by omega) (by rw [XV,List.append_assoc]) rfl (fun h=>⟨h,h⟩) (fun h=>h)
def Z1T (n:Nat):List Int:=List.replicate (Int.tmod (i64.wrap (128-Int.tmod (i64.wrap ((n:Int)+9)) 64)) 64).toNat 0
@[irreducible] def UZ (bs:List Int):List Int:=(bs++[128]++Z1T bs.length)++XV bs.length 8
theorem ZgN (n:Nat) (h:n<=100000000000):Int.tmod (i64.wrap (128-Int.tmod (i64.wrap ((n:Int)+9)) 64)) 64=(128-((n:Int)+9)%64)%64:=by
 have e1:i64.wrap ((n:Int)+9)=(n:Int)+9:=w64 (by omega)
 have e2:Int.tmod ((n:Int)+9) 64=((n:Int)+9)%64:=tm (by omega)
 have e3:i64.wrap (128-((n:Int)+9)%64)=128-((n:Int)+9)%64:=w64 (by omega)
 rw [e1,e2,e3,tm (by omega)]
theorem ZdQ (n:Nat) (h:n<=100000000000):(Z1T n).length<=64:=by
 unfold Z1T
 rw [ZgN n h,List.length_replicate]
 omega
theorem ZlE (bs y r:List Int) (n L:Nat) (hn:bs.length=n) (hb:n<=100000000000) (hy:y=bs++[128]++Z1T n) (hr:r=y++XV n 8) (hL:L=r.length):
  evF (Zjt bs y n) 20 268 [.vints .u8 bs n] ⟨0,[]⟩ (ZL 0 (.ret (.nslice ⟨0,0,0,0,0⟩ 1 L L)) 1 [(0,.ints .u8 r)]):=by
 refine @Eq.mpr _ (let q1:=[]++List.take n bs;let q2:=List.length q1;let q3:=q1++[(128:Int)];let q4:=List.length q3;let q5:=Int.tmod (wrap i64 (128-Int.tmod (wrap i64 (↑n+9)) 64)) 64;let q6:=Int.toNat q5;let q7:=q3++List.replicate q6 0;let q8:=List.length q7;let q9:=y++XV (↑n) 0;let q10:=List.length q9;
 Z0 (decide (q2*1<=140737488355328))
 (Z0 (decide (u8=u8/\q2=q2))
 (Z0 (decide (q4*1<=140737488355328))
 (Z0 (decide (u8=u8/\q4=q4))
 (Z0 (decide ((0:Int)=0/\0<=q5/\(q4+q6)*1<=140737488355328))
 (Z0 (decide (q8=q10))
 (Z0 (decide (q10<=q8))
 (bs=bs/\
 Z0 (decide (n=n))
 (q7=q9/\
 List.length y<=1000000000000/\
 ∀(i:Nat),
 let q21:=y++XV (↑n) i;let q22:=List.length q21;
 i<=8->(∀(j:Nat),j<i->(fun (i:Nat)=>i<8) j)->(i=8->Z0 (decide (q22=L)) (Z0 (decide (L<=q22)) (q21=r/\True) False) False)/\(False->False)/\(False->False))
 False)
 False)
 False)
 False)
 False)
 False)
 False)
 False) (by kernel_rfl) ?_
 conv=>zeta
 try simp only [Z8]
 try simp only [Ze]
 try simp only [Za]
 try simp only [Zf]
 try simp only [Zg]
 try simp only [Z9]
 try simp only [Y_s]
 have ht:List.take n bs=bs:=by rw [<-hn];exact List.take_length
 have hz:=ZdQ n hb
 have hx:=ZgN n hb
 have e0:[]++List.take n bs++[128]++List.replicate (Int.tmod (i64.wrap (128-Int.tmod (i64.wrap ((n:Int)+9)) 64)) 64).toNat 0=y++XV n 0:=by rw [ht,hy];simp [Z1T,XV]
 have hyl:y.length=n+1+(Z1T n).length:=by rw [hy,List.length_append,List.length_append,hn];rfl
 subst hL hr
 simp only [e0,ht,List.length_append,List.length_cons,List.length_nil,hn,List.nil_append]
 refine ⟨by omega,by omega,⟨by omega,by omega⟩, ?_, ?_, ?_,by omega,fun i hi _=>⟨fun he=>by subst he;exact ⟨rfl,Nat.le_refl _,rfl⟩,fun h=>h,fun h=>h⟩⟩
 ·rw [hyl];unfold Z1T XV;rfl
 ·rw [hyl];unfold Z1T XV;exact Nat.le_refl _
 ·rw [hy];simp [Z1T,XV]
theorem Zbw (bs:List Int) (h:bs.length<=100000000000):Zy PP 268 [.vints .u8 bs bs.length] (.nslice ⟨0,0,0,0,0⟩ 1 (UZ bs).length (UZ bs).length) 1 [(0,.ints .u8 (UZ bs))]:=.evM (ZgM bs _ _) (ZlE bs _ _ _ _ rfl h rfl (by unfold UZ;rfl) rfl)
def Zi7 (P:List Int->List Int) (B:Nat):ZR:=fun args h K=>ZH none h true 20 args fun a=>Uc a fun xs=>Zt (xs.length<=B) (K (.ret (.nslice ⟨h.next,0,0,0,0⟩ 1 (P xs).length (P xs).length)) ⟨h.next+1,(h.next,.ints .u8 (P xs))::h.bs⟩)
theorem ZdR (B:Nat) (hB:B<=100000000000) (args:List AV) (h:Z6) (K:KO) (hl:Zi7 UZ B args h K):Zi PP 268 args h K:=by
 refine Zy.fsumm (d:=20) (Zm _ _ _ _ _ hl fun a ha=> ?_)
 obtain ⟨xs,rfl,hK⟩:=W5 ha
 obtain ⟨hx,hK⟩:=Zb hK
 exact ⟨_,_,_,_,Zbw xs (Nat.le_trans hx hB),rfl,⟨Nat.one_pos,.ints _ _,trivial⟩,hK⟩
def toE (x d:Int):Int:=u8.wrap (Int.tmod (u32.wrap (Int.tdiv x d)) 256)
def toN (x:List Int):Nat->List Int
 | 0=>Z5
 | i+1=>((((toN x i).set (4*i) (u8.wrap (u32.wrap (Int.tdiv (x.getD i 0) 16777216)))).set (4*i+1) (toE (x.getD i 0) 65536)).set (4*i+2) (toE (x.getD i 0) 256)).set (4*i+3) (u8.wrap (Int.tmod (x.getD i 0) 256))
theorem Z5L (x:List Int):∀i,(toN x i).length=32
 | 0=>rfl
 | i+1=>by simp [toN,Z5L x i]
def toS (x h:List Int) (i:Nat):St:=⟨47,[(4,.int .i64 i),(1,pt 0),(3,pt 2),(2,pt 1)],⟨3,[(2,.flat [.arr .u8 32 h]),(1,.flat [.arr .u8 32 Z5]),(0,.flat [.arr .u32 8 x])]⟩,[]⟩
theorem ZnL (x h h':List Int) (i:Nat) (Z1 Z2:Prop) (hi:i<=8) (hl:h.length=32) (hh:h'=(((h.set (4*i) (u8.wrap (u32.wrap (Int.tdiv (x.getD i 0) 16777216)))).set (4*i+1) (toE (x.getD i 0) 65536)).set (4*i+2) (toE (x.getD i 0) 256)).set (4*i+3) (u8.wrap (Int.tmod (x.getD i 0) 256))) (h1:i<8->Z1) (h2:i=8->Z2):
  ZM G0 20 270 0 0 (toS x h i) (rdM 0 0 9 (toS x h' (i+1)) (toS x h i) (toS x h i) (toS x h i) Z1 Z2 False False):=by
 refine @Eq.mpr _ (let q1:=decide (0<=(↑i:Int)/\(↑i:Int)<8);let q2:=0+Int.toNat (↑i:Int);let q3:=decide (q2<8);let q4:=wrap i64 (4*(↑i:Int));let q5:=0+Int.toNat q4;let q6:=wrap i64 (q4+1);let q7:=0+Int.toNat q6;let q8:=List.getD x q2 0;let q9:=List.set h q5 (wrap u8 (wrap u32 (Int.tdiv q8 16777216)));let q10:=wrap i64 (q4+2);let q11:=0+Int.toNat q10;let q12:=List.set q9 q7 (wrap u8 (Int.tmod (wrap u32 (Int.tdiv q8 65536)) 256));let q13:=wrap i64 (q4+3);let q14:=0+Int.toNat q13;let q15:=List.set q12 q11 (wrap u8 (Int.tmod (wrap u32 (Int.tdiv q8 256)) 256));
 Z0 (decide ((↑i:Int)<8)) (Z0 q1 (Z0 q3 (Z0 (decide (0<=q4/\q4<32)) (Z0 (decide (u8=u8/\q5<32/\q5<List.length h)) (Z0 q1 (Z0 q3 (Z0 (decide (0<=q6/\q6<32)) (Z0 (decide (u8=u8/\q7<32/\q7<List.length q9)) (Z0 q1 (Z0 q3 (Z0 (decide (0<=q10/\q10<32)) (Z0 (decide (u8=u8/\q11<32/\q11<List.length q12)) (Z0 q1 (Z0 q3 (Z0 (decide (0<=q13/\q13<32)) (Z0 (decide (u8=u8/\q14<32/\q14<List.length q15)) (Z0 (decide (wrap i64 ((↑i:Int)+1)=(↑(i+1):Int))) (List.set q15 q14 (wrap u8 (Int.tmod q8 256))=h'/\Z5=Z5/\x=x/\Z1) False) False) False) False) False) False) False) False) False) False) False) False) False) False) False) False) False) (Z0 (decide ((↑i:Int)=(↑i:Int))) (h=h/\Z5=Z5/\x=x/\Z2) False)) (by kernel_rfl) ?_
 conv=>zeta
 try simp only [Z8]
 try simp only [Ze]
 try simp only [Za]
 try simp only [Zf]
 try simp only [Zg]
 try simp only [Z9]
 try simp only [Y_s]
 have hw:i64.wrap ((i:Int)+1)=((i+1:Nat):Int):=w64 (by omega)
 refine ⟨fun hlt=> ?_,fun hge=>h2 (by omega)⟩
 have e0:i64.wrap (4*(i:Int))=((4*i:Nat):Int):=by rw [w64 (by omega)];omega
 have e1:i64.wrap (((4*i:Nat):Int)+1)=((4*i+1:Nat):Int):=by rw [w64 (by omega)];omega
 have e2:i64.wrap (((4*i:Nat):Int)+2)=((4*i+2:Nat):Int):=by rw [w64 (by omega)];omega
 have e3:i64.wrap (((4*i:Nat):Int)+3)=((4*i+3:Nat):Int):=by rw [w64 (by omega)];omega
 simp only [e0,e1,e2,e3,hw,Int.toNat_natCast,List.length_set]
 repeat' (first|(refine And.intro ?_ ?_)|intro _)
 all_goals first|omega|exact hh.symm|exact h1 (by omega)|trivial
noncomputable def Zju (x:List Int):Zh:=G0.withL 270 0 (goM 0 (toS x Z5 0) True (YB 0 8 9 (fun i=>i<8) (fun i=>i=8) (fun _=>False) (fun _=>False) (fun i=>toS x (toN x i) i) (fun i=>toS x (toN x i) i) (fun i=>toS x (toN x i) i)))
theorem ZgO (x:List Int):(Zju x).Ok:=by
 unfold Zju
 refine Zh.withGoM (N:=20) (S:=fun i=>toS x (toN x i) i) Zp (by kernel_rfl) fun hC=>⟨rfl,fun i hi hgo=> ?_⟩
 exact ZnL x (toN x i) (toN x (i+1)) i _ _ hi (Z5L x i) rfl (fun h=>⟨h,h⟩) (fun h=>h)
@[irreducible] def Um (x:List Int):List Int:=toN x 8
attribute [irreducible] toN
theorem ZnM (x r:List Int) (hr:r=toN x 8):
  evF (Zju x) 20 270 [.agg [.arr .u32 8 x]] ⟨0,[]⟩ (Yt 0 [] (.agg [.arr .u8 32 r]) 0 []):=by
 refine @Eq.mpr _ (Z5=Z5/\Z5=Z5/\x=x/\True/\∀(i:Nat),i<=8->(∀(j:Nat),j<i->(fun (i:Nat)=>i<8) j)->(i=8->toN x i=r/\True)/\(False->Z5=r/\True)/\(False->False)) (by kernel_rfl) ?_
 try simp only [Z8]
 try simp only [Ze]
 try simp only [Za]
 try simp only [Zf]
 try simp only [Zg]
 try simp only [Z9]
 try simp only [Y_s]
 subst hr
 exact fun i hi _=>⟨fun he=>by subst he;rfl,fun h=>h.elim,fun h=>h⟩
def ZdS (T:List Int->List Int):ZG:=fun args _ K=>match args with
 | [.agg [.arr .u32 8 x]]=>K (.agg [.arr .u8 32 (T x)])
 | _=>False
theorem ZdT (args:List AV) (h:Z6) (K:AV->Prop) (hl:ZdS Um args h K):Zi PP 270 args h fun o h'=>∃v,o=.ret v/\h'=h/\K v:=by
 unfold ZdS at hl
 split at hl
 ·rename_i x
  refine US (d:=20) (K0:=fun l=>l=[.agg [.arr .u32 8 x]]) ?_ fun l e=>⟨_,by rw [e];exact (by unfold Um;exact .ev (ZgO x) (ZnM x _ rfl)),fun _=>rfl,hl⟩
  rfl
 ·exact hl.elim
def Z5M (P:List Int->List Int->List Int):ZG:=fun args _ K=>match args with
 | [.agg [.arr .u32 8 st],.agg [.arr .u8 64 bl]]=>Zt (st.length=8) (K (.agg [.arr .u32 8 (P st bl)]))
 | _=>False
structure Qo (P:List Int->List Int->List Int):Prop where
 pure:∀st bl,st.length=8->Zy PP 269 [.agg [.arr .u32 8 st],.agg [.arr .u8 64 bl]] (.agg [.arr .u32 8 (P st bl)]) 0 []
 len:∀st bl,st.length=8->(P st bl).length=8
theorem Z8I {P:List Int->List Int->List Int} (hP:Qo P) (args:List AV) (h:Z6) (K:AV->Prop) (hl:Z5M P args h K):Zi PP 269 args h fun o h'=>∃v,o=.ret v/\h'=h/\K v:=by
 unfold Z5M at hl
 split at hl
 ·rename_i st bl
  obtain ⟨hs,hK⟩:=Zb hl
  refine US (d:=20) (K0:=fun l=>l=[.agg [.arr .u32 8 st],.agg [.arr .u8 64 bl]]) ?_ fun l e=>⟨_,by rw [e];exact hP.pure st bl hs,fun _=>rfl,hK⟩
  rfl
 ·exact hl.elim
noncomputable def E56 (P:List Int->List Int->List Int) (Q:List Int->List Int) (T:List Int->List Int) (B:Nat):Zh:=((G0.withP 269 (Z5M P)).withF 268 (Zi7 Q B)).withP 270 (ZdS T)
theorem Zjv {P:List Int->List Int->List Int} (hP:Qo P) {B:Nat} (hB:B<=100000000000):(E56 P UZ Um B).Ok:=Zh.withP_ok (Zh.withF_ok (Zh.withP_ok Zp (Z8I hP)) (ZdR B hB)) ZdT
def ZgP (ys st:List Int) (o n:Nat):St:=⟨21,[(4,.nslice ⟨3,0,0,0,o⟩ 1 n n),(3,pt 2),(2,pt 0)],⟨4,[(3,.ints .u8 ys),(2,.flat [.arr .u32 8 st]),(0,.flat [.arr .u8 32 Z5])]⟩,[]⟩
def Zbx (st:List Int):St:=⟨21,[(3,pt 2),(2,pt 0)],⟨4,[(2,.flat [.arr .u32 8 st]),(0,.flat [.arr .u8 32 Z5])]⟩,[]⟩
theorem ZlF (P:List Int->List Int->List Int) (Q:List Int->List Int) (T:List Int->List Int) (B:Nat) (ys st st':List Int) (o o' n n' k i:Nat) (Z1 Z2:Prop) (hi:i<=k) (hk:ys.length=64*k) (ho:o=64*i) (ho':o'=64*(i+1)) (hn:n=64*k-64*i) (hn':n'=64*k-64*(i+1)) (hs:st.length=8) (hst:st'=P st ((ys.drop o).take 64)) (h1:i<k->Z1) (h2:i=k->Z2):
  ZM (E56 P Q T B) 20 208 0 0 (ZgP ys st o n) (rdM 0 0 9 (ZgP ys st' o' n') (Zbx st) (Zbx st) (Zbx st) Z1 Z2 False False):=by
 refine @Eq.mpr _ (let q1:=decide (n<=n);let q2:=decide ((0:Int)<=64/\64<=(↑n:Int));let q3:=XA n (some 64);
 Z0 (decide ((↑n:Int)>0)) (Z0 q1 (Z0 q2 (Z0 (decide (o+0+64<=List.length ys)) (Z0 (decide (List.length st=8)) (Z0 q1 (Z0 q2 (Z0 (decide (o+64=o')) (Z0 (decide (q3=n')) (Z0 (decide (n'<=q3)) (ys=ys/\P st (List.take 64 (List.drop (o+0) ys))=st'/\Z5=Z5/\Z1) False) False) False) False) False) False) False) False) False) (st=st/\Z5=Z5/\Z2)) (by kernel_rfl) ?_
 conv=>zeta
 try simp only [Z8]
 try simp only [Ze]
 try simp only [Za]
 try simp only [Zf]
 try simp only [Zg]
 try simp only [Z9]
 try simp only [Y_s]
 refine ⟨fun hlt=> ?_,fun hge=>h2 (by omega)⟩
 have e1:n-64=n':=by omega
 have e2:o+64=o':=by omega
 simp only [XA,e1,e2,Nat.add_zero]
 repeat' (first|(refine And.intro ?_ ?_)|intro _)
 all_goals first|omega|exact hst.symm|exact h1 (by omega)|trivial
def Qu (P:List Int->List Int->List Int) (ys:List Int):Nat->List Int
 | 0=>Yv.st
 | i+1=>P (Qu P ys i) ((ys.drop (64*i)).take 64)
theorem Z74 {P:List Int->List Int->List Int} (hP:Qo P) (ys:List Int):∀i,(Qu P ys i).length=8
 | 0=>rfl
 | i+1=>hP.len _ _ (Z74 hP ys i)
theorem Z4K (P:List Int->List Int->List Int) (ys:List Int):Qu P ys 0=Yv.st:=rfl
theorem Z4L (P:List Int->List Int->List Int) (ys:List Int) (i:Nat):Qu P ys (i+1)=P (Qu P ys i) ((ys.drop (64*i)).take 64):=rfl
attribute [irreducible] Qu
noncomputable def Zjw (P:List Int->List Int->List Int) (Q:List Int->List Int) (T:List Int->List Int) (B:Nat) (ys:List Int) (L k:Nat):Zh:=(E56 P Q T B).withL 208 0 (goM 0 (ZgP ys [1779033703,3144134277,1013904242,2773480762,1359893119,2600822924,528734635,1541459225] 0 L) (ys.length=64*k/\L=64*k) (YB 0 k 9 (fun i=>i<k) (fun i=>i=k) (fun _=>False) (fun _=>False) (fun i=>Zbx (Qu P ys i)) (fun i=>Zbx (Qu P ys i)) (fun i=>Zbx (Qu P ys i))))
theorem ZgQ {P:List Int->List Int->List Int} (hP:Qo P) {B:Nat} (hB:B<=100000000000) (ys:List Int) (L k:Nat):(Zjw P UZ Um B ys L k).Ok:=by
 unfold Zjw
 refine Zh.withGoM (N:=20) (S:=fun i=>ZgP ys (Qu P ys i) (64*i) (64*k-64*i)) (Zjv hP hB) (by kernel_rfl) fun hC=>⟨?_,fun i hi hgo=> ?_⟩
 ·rw [hC.2,Z4K];rfl
 ·exact ZlF P UZ Um B ys (Qu P ys i) (Qu P ys (i+1)) _ _ _ _ k i _ _ hi hC.1 rfl rfl rfl rfl (Z74 hP ys i) (Z4L _ _ _) (fun h=>⟨h,h⟩) (fun h=>h)
theorem ZlG (P:List Int->List Int->List Int) (Q:List Int->List Int) (T:List Int->List Int) (B:Nat) (bs ys r:List Int) (n L k:Nat) (hn:n=bs.length) (hB:n<=B) (hy:ys=Q bs) (hL:L=ys.length) (hk:ys.length=64*k) (hr:r=T (Qu P ys k)):
  evF (Zjw P Q T B ys L k) 20 208 [.vints .u8 bs n] ⟨0,[]⟩ (Yt 0 [] (.agg [.arr .u8 32 r]) 0 []):=by
 refine @Eq.mpr _ (let q1:=[(1779033703:Int),3144134277,1013904242,2773480762,1359893119,2600822924,528734635,1541459225];
 Z0 (decide (n=List.length bs)) (Z0 (decide (List.length bs<=B)) (Z0 (decide (List.length (Q bs)=L)) (Z0 (decide (L<=List.length (Q bs))) (Q bs=ys/\q1=q1/\Z5=Z5/\(List.length ys=64*k/\L=64*k)/\∀(i:Nat),i<=k->(∀(j:Nat),j<i->(fun (i:Nat)=>i<k) j)->(i=k->T (Qu P ys i)=r/\True)/\(False->Z5=r/\True)/\(False->False)) False) False) False) False) (by kernel_rfl) ?_
 conv=>zeta
 try simp only [Z8]
 try simp only [Ze]
 try simp only [Za]
 try simp only [Zf]
 try simp only [Zg]
 try simp only [Z9]
 try simp only [Y_s]
 subst hy hr
 refine ⟨hn,by omega, ?_⟩
 exact ⟨hL.symm,by omega,rfl,⟨hk,by omega⟩,fun i hi _=>⟨fun he=>by rw [he],fun h=>h.elim,fun h=>h⟩⟩
theorem ZdU (bs:List Int) (h:bs.length<=100000000000):(UZ bs).length=64*((UZ bs).length/64):=by
 have:(UZ bs).length=bs.length+1+((128-((bs.length:Int)+9)%64)%64).toNat+8:=by
  unfold UZ Z1T
  rw [ZgN _ h]
  simp only [List.length_append,List.length_cons,List.length_nil,Z3t,List.length_replicate]
 omega
@[irreducible] def ZdV (P:List Int->List Int->List Int) (bs:List Int):List Int:=Um (Qu P (UZ bs) ((UZ bs).length/64))
theorem Zby {P:List Int->List Int->List Int} (hP:Qo P) (bs:List Int) (h:bs.length<=100000000000):Zy PP 208 [.vints .u8 bs bs.length] (.agg [.arr .u8 32 (ZdV P bs)]) 0 []:=by
 unfold ZdV
 exact .ev (ZgQ hP (Nat.le_refl _) _ _ _) (ZlG P UZ Um 100000000000 bs _ _ _ _ _ rfl h rfl rfl (ZdU bs h) rfl)
def Z75 (H:List Int->List Int) (B:Nat):ZG:=fun args h K=>ZH none h true 20 args fun a=>Uc a fun xs=>Zt (xs.length<=B) (K (.agg [.arr .u8 32 (H xs)]))
theorem Z76 {f:FuncId} {H:List Int->List Int} {B:Nat} (hp:∀xs:List Int,xs.length<=B->Zy PP f [.vints .u8 xs xs.length] (.agg [.arr .u8 32 (H xs)]) 0 []) (args:List AV) (h:Z6) (K:AV->Prop) (hl:Z75 H B args h K):Zi PP f args h fun o h'=>∃v,o=.ret v/\h'=h/\K v:=by
 refine Zy.psumm (d:=20) (Zm _ _ _ _ _ hl fun a ha=> ?_)
 obtain ⟨xs,rfl,hK⟩:=W5 ha
 obtain ⟨hx,hK⟩:=Zb hK
 exact ⟨_,hp xs hx,fun _=>rfl,hK⟩
noncomputable def Zjx (H:List Int->List Int) (B:Nat):Zh:=G0.withP 208 (Z75 H B)
theorem ZlH (H:List Int->List Int) (B:Nat) (bs r:List Int) (n:Nat) (hn:n=bs.length) (hb:n<=B) (h32:32<=B) (hl:(H bs).length=32) (hr:r=H (H bs)):
  evF (Zjx H B) 20 206 [.vints .u8 bs n] ⟨0,[]⟩ (Yt 0 [] (.agg [.arr .u8 32 r]) 0 []):=by
 refine @Eq.mpr _ (let q1:=List.length (H bs);
 Z0 (decide (n=List.length bs)) (Z0 (decide (List.length bs<=B)) (Z0 (decide (q1=32)) (Z0 (decide (32=q1)) (Z0 (decide (q1<=B)) (H (H bs)=r/\True) False) False) False) False) False) (by kernel_rfl) ?_
 conv=>zeta
 try simp only [Z8]
 try simp only [Ze]
 try simp only [Za]
 try simp only [Zf]
 try simp only [Zg]
 try simp only [Z9]
 try simp only [Y_s]
 subst hr
 exact ⟨hn,by omega,hl,hl.symm,by omega,rfl⟩
theorem Z9R {H:List Int->List Int} {B:Nat} (hp:∀xs:List Int,xs.length<=B->Zy PP 208 [.vints .u8 xs xs.length] (.agg [.arr .u8 32 (H xs)]) 0 []):(Zjx H B).Ok:=Zh.withP_ok Zp (Z76 hp)
def kxE (key:List Int) (c:Int) (i:Nat):Int:=if (i:Int)<32 then Ym .u8 (key.getD i 0) c else c
def kxR (key:List Int) (c:Int):Nat->List Int
 | 0=>[]
 | i+1=>kxR key c i++[kxE key c i]
theorem Z0L (key:List Int) (c:Int):∀i,(kxR key c i).length=i
 | 0=>rfl
 | i+1=>by rw [kxR,List.length_append,Z0L key c i];rfl
def tgS (key ms xs ys:List Int) (i:Nat):St:=⟨47,[(8,.int .i64 i),(0,.vints .u8 key 32),(6,.nslice ⟨1,0,0,0,0⟩ 1 i i),(7,.nslice ⟨2,0,0,0,0⟩ 1 i i),(1,.vints .u8 ms 32),(4,pt 0)],⟨3,[(2,.ints .u8 ys),(1,.ints .u8 xs),(0,.flat [.arr .u8 32 Z5])]⟩,[]⟩
def tgE (ms xs ys:List Int) (i:Nat):St:=⟨47,[(6,.nslice ⟨1,0,0,0,0⟩ 1 i i),(7,.nslice ⟨2,0,0,0,0⟩ 1 i i),(1,.vints .u8 ms 32),(4,pt 0)],⟨3,[(2,.ints .u8 ys),(1,.ints .u8 xs),(0,.flat [.arr .u8 32 Z5])]⟩,[]⟩
theorem ZnN (key ms xs ys xs' ys':List Int) (i:Nat) (Z1 Z2:Prop) (hi:i<=64) (hx:xs.length=i) (hy:ys.length=i) (hx':xs'=xs++[kxE key 54 i]) (hy':ys'=ys++[kxE key 92 i]) (h1:i<64->Z1) (h2:i=64->Z2):
  ZM G0 20 125 0 0 (tgS key ms xs ys i) (rdM 0 0 9 (tgS key ms xs' ys' (i+1)) (tgE ms xs ys i) (tgE ms xs ys i) (tgE ms xs ys i) Z1 Z2 False False):=by
 refine @Eq.mpr _ (let q1:=decide (u8=u8/\List.length xs=i);let q2:=List.getD key (Int.toNat (↑i:Int)) 0;let q3:=xs++[Ym u8 q2 54];let q4:=List.length q3;let q5:=decide (u8=u8/\List.length ys=i);let q6:=ys++[Ym u8 q2 92];let q7:=List.length q6;let q8:=i+1;let q9:=decide (wrap i64 ((↑i:Int)+1)=(↑q8:Int));let q10:=xs++[(54:Int)];let q11:=List.length q10;let q12:=ys++[(92:Int)];let q13:=List.length q12;let q14:=decide (i=i);let q15:=decide (i<=i);
 Z0 (decide ((↑i:Int)<64)) (Z0 (decide ((↑i:Int)<32)) (Z0 (decide (0<=(↑i:Int)/\(↑i:Int)<32)) (Z0 q1 (Z0 (decide (q4*1<=140737488355328)) (Z0 q5 (Z0 (decide (q7*1<=140737488355328)) (Z0 q9 (key=key/\Z0 (decide (q4=q8)) (Z0 (decide (q8<=q4)) (Z0 (decide (q7=q8)) (Z0 (decide (q8<=q7)) (ms=ms/\q6=ys'/\q3=xs'/\Z5=Z5/\Z1) False) False) False) False) False) False) False) False) False) False) (Z0 q1 (Z0 (decide (q11*1<=140737488355328)) (Z0 q5 (Z0 (decide (q13*1<=140737488355328)) (Z0 q9 (key=key/\Z0 (decide (q11=q8)) (Z0 (decide (q8<=q11)) (Z0 (decide (q13=q8)) (Z0 (decide (q8<=q13)) (ms=ms/\q12=ys'/\q10=xs'/\Z5=Z5/\Z1) False) False) False) False) False) False) False) False) False)) (Z0 q14 (Z0 q15 (Z0 q14 (Z0 q15 (ms=ms/\ys=ys/\xs=xs/\Z5=Z5/\Z2) False) False) False) False)) (by kernel_rfl) ?_
 conv=>zeta
 try simp only [Z8]
 try simp only [Ze]
 try simp only [Za]
 try simp only [Zf]
 try simp only [Zg]
 try simp only [Z9]
 try simp only [Y_s]
 have hw:i64.wrap ((i:Int)+1)=((i+1:Nat):Int):=w64 (by omega)
 refine ⟨fun hlt=>⟨fun h32=> ?_,fun h32=> ?_⟩,fun hge=> ?_⟩
 ·unfold kxE at hx' hy'
  rw [if_pos h32] at hx' hy'
  simp only [hw,List.length_append,List.length_cons,List.length_nil,hx,hy]
  repeat' (first|(refine And.intro ?_ ?_)|intro _)
  all_goals first|omega|exact hx'.symm|exact hy'.symm|exact h1 (by omega)|trivial
 ·unfold kxE at hx' hy'
  rw [if_neg h32] at hx' hy'
  simp only [hw,List.length_append,List.length_cons,List.length_nil,hx,hy]
  repeat' (first|(refine And.intro ?_ ?_)|intro _)
  all_goals first|omega|exact hx'.symm|exact hy'.symm|exact h1 (by omega)|trivial
 ·exact h2 (by omega)
noncomputable def E57 (H:List Int->List Int) (B:Nat) (key ms:List Int):Zh:=(Zjx H B).withL 125 0 (goM 0 (tgS key ms [] [] 0) True (YB 0 64 9 (fun i=>i<64) (fun i=>i=64) (fun _=>False) (fun _=>False) (fun i=>tgE ms (kxR key 54 i) (kxR key 92 i) i) (fun i=>tgE ms (kxR key 54 i) (kxR key 92 i) i) (fun i=>tgE ms (kxR key 54 i) (kxR key 92 i) i)))
theorem Zjy {H:List Int->List Int} {B:Nat} (hp:∀xs:List Int,xs.length<=B->Zy PP 208 [.vints .u8 xs xs.length] (.agg [.arr .u8 32 (H xs)]) 0 []) (key ms:List Int):(E57 H B key ms).Ok:=by
 unfold E57
 refine Zh.withL_join (H:=G0) (Z9R hp) rfl ?_
 refine Zh.withGoM (N:=20) (S:=fun i=>tgS key ms (kxR key 54 i) (kxR key 92 i) i) Zp (by kernel_rfl) fun hC=>⟨rfl,fun i hi hgo=> ?_⟩
 exact ZnN key ms _ _ (kxR key 54 (i+1)) (kxR key 92 (i+1)) i _ _ hi (Z0L _ _ _) (Z0L _ _ _) rfl rfl (fun h=>⟨h,h⟩) (fun h=>h)
attribute [irreducible] kxR
theorem Z0M {xs:List Int} {n:Nat} (h:xs.length=n):List.take n (ZW 0 xs)=xs:=by subst h;rw [Y4,List.drop_zero,List.take_length]
theorem ZnO (H:List Int->List Int) (B:Nat) (key ms r:List Int) (hk:key.length=32) (hm:ms.length=32) (hB:128<=B) (hl:∀x,(H x).length=32) (hr:r=H (kxR key 92 64++H (kxR key 54 64++ms))):
  evF (E57 H B key ms) 20 125 [.vints .u8 key 32,.vints .u8 ms 32] ⟨0,[]⟩ (Yt 0 [] (.agg [.arr .u8 32 r]) 0 []):=by
 refine @Eq.mpr _ (key=key/\
 ms=ms/\
 ([]:List Int)=[]/\
 ([]:List Int)=[]/\
 Z5=Z5/\
 True/\
 ∀(i:Nat),
 let q1:=[]++List.take i (ZW 0 (kxR key 54 i));let q2:=List.length q1;let q3:=q1++List.take 32 ms;let q4:=List.length q3;let q5:=List.take q4 (ZW 0 q3);let q6:=List.length q5;let q7:=[]++List.take i (ZW 0 (kxR key 92 i));let q8:=List.length q7;let q9:=H q5;let q10:=q7++q9;let q11:=List.length q10;let q12:=List.take q11 (ZW 0 q10);let q13:=List.length q12;
 i<=64->(∀(j:Nat),j<i->(fun (i:Nat)=>i<64) j)->(i=64->Z0 (decide (u8=u8/\0+i<=List.length (kxR key 54 i))) (Z0 (decide (q2*1<=140737488355328)) (Z0 (decide (u8=u8/\q2=q2)) (Z0 (decide (q4*1<=140737488355328)) (Z0 (decide (0+q4<=q4)) (Z0 (decide (q4=q6)) (Z0 (decide (q6<=B)) (Z0 (decide (u8=u8/\0+i<=List.length (kxR key 92 i))) (Z0 (decide (q8*1<=140737488355328)) (Z0 (decide (u8=u8/\List.length q9=32)) (Z0 (decide (u8=u8/\q8=q8)) (Z0 (decide (q11*1<=140737488355328)) (Z0 (decide (0+q11<=q11)) (Z0 (decide (q11=q13)) (Z0 (decide (q13<=B)) (H q12=r/\True) False) False) False) False) False) False) False) False) False) False) False) False) False) False) False)/\(False->Z5=r/\True)/\(False->False)) (by kernel_rfl) ?_
 conv=>zeta
 try simp only [Z8]
 try simp only [Ze]
 try simp only [Za]
 try simp only [Zf]
 try simp only [Zg]
 try simp only [Z9]
 try simp only [Y_s]
 refine fun i hi _=>⟨fun he=> ?_,fun h=>h.elim,fun h=>h⟩
 subst he
 have a1:=Z0L key 54 64
 have a2:=Z0L key 92 64
 have e1:=Z0M a1
 have e2:=Z0M a2
 have e3:List.take 32 ms=ms:=by rw [<-hm];exact List.take_length
 simp only [e1,e2,e3,List.nil_append,Z0M rfl]
 have l1:=hl (kxR key 54 64++ms)
 subst hr
 simp only [List.length_append,a1,a2,hm,l1]
 repeat' (first|(refine And.intro ?_ ?_)|intro _)
 all_goals first|omega|trivial
@[irreducible] def Z0N (H:List Int->List Int) (key ms:List Int):List Int:=H (kxR key 92 64++H (kxR key 54 64++ms))
theorem Zbz {H:List Int->List Int} {B:Nat} (hp:∀xs:List Int,xs.length<=B->Zy PP 208 [.vints .u8 xs xs.length] (.agg [.arr .u8 32 (H xs)]) 0 []) (hB:128<=B) (hl:∀x,(H x).length=32) (key ms:List Int) (h1:key.length=32) (h2:ms.length=32):Zy PP 125 [.vints .u8 key 32,.vints .u8 ms 32] (.agg [.arr .u8 32 (Z0N H key ms)]) 0 []:=by
 unfold Z0N
 exact .ev (Zjy hp _ _) (ZnO H B _ _ _ h1 h2 hB hl rfl)
def ZdW (T:List Int->List Int->List Int):ZG:=fun args h K=>ZH none h true 20 args fun a=>match a with
 | [.vints .u8 key len,.vints .u8 ms len']=>Zt (key.length=32/\len=32/\ms.length=32/\len'=32) (K (.agg [.arr .u8 32 (T key ms)]))
 | _=>False
theorem ZdX {H:List Int->List Int} {B:Nat} (hp:∀xs:List Int,xs.length<=B->Zy PP 208 [.vints .u8 xs xs.length] (.agg [.arr .u8 32 (H xs)]) 0 []) (hB:128<=B) (hl:∀x,(H x).length=32) (args:List AV) (h:Z6) (K:AV->Prop) (hl':ZdW (Z0N H) args h K):Zi PP 125 args h fun o h'=>∃v,o=.ret v/\h'=h/\K v:=by
 refine Zy.psumm (d:=20) (Zm _ _ _ _ _ hl' fun a ha=> ?_)
 split at ha
 ·obtain ⟨⟨h1,rfl,h2,rfl⟩,hK⟩:=Zb ha
  exact ⟨_,Zbz hp hB hl _ _ h1 h2,fun _=>rfl,hK⟩
 ·exact ha.elim
@[irreducible] def Ue (H:List Int->List Int) (bs:List Int):List Int:=H (H bs)
theorem ZbA {H:List Int->List Int} {B:Nat} (hp:∀xs:List Int,xs.length<=B->Zy PP 208 [.vints .u8 xs xs.length] (.agg [.arr .u8 32 (H xs)]) 0 []) (hB:128<=B) (hl:∀x,(H x).length=32) (args:List AV) (h:Z6) (K:AV->Prop) (hl':Z75 (Ue H) B args h K):Zi PP 206 args h fun o h'=>∃v,o=.ret v/\h'=h/\K v:=by
 refine Z76 (fun xs hx=> ?_) args h K hl'
 unfold Ue
 exact .ev (Z9R hp) (ZlH H B xs _ _ rfl hx (by omega) (hl xs) rfl)
def U32 (x:Int):Prop:=0<=x/\x<4294967296
theorem Z77 (x:Int):u32.wrap x=x%4294967296:=by
 unfold wrap
 simp [IntKind.bits,IntKind.signed]
theorem Z1j (x:Int):U32 (u32.wrap x):=by rw [Z77];unfold U32;omega
theorem XT {x:Int} (h:U32 x):u32.wrap x=x:=by rw [Z77];unfold U32 at h;omega
theorem wr8 (x:Int):u8.wrap x=x%256:=by
 unfold wrap
 simp [IntKind.bits,IntKind.signed]
theorem ZlI (x y:Int):U32 (bOr .u32 x y):=Z1j _
theorem V1 (x y:Nat) (hx:x<4294967296) (hy:y<4294967296):Ym .u32 x y=((x^^^y:Nat):Int):=by
 unfold Ym
 rw [XT]
 ·show (((BitVec.ofInt 32 (x:Int)^^^BitVec.ofInt 32 (y:Int)).toNat:Nat):Int)=_
  rw [BitVec.toNat_xor,BitVec.ofInt_natCast,BitVec.ofInt_natCast,BitVec.toNat_ofNat,BitVec.toNat_ofNat,Nat.mod_eq_of_lt hx,Nat.mod_eq_of_lt hy]
 ·unfold U32
  have:=(BitVec.ofInt u32.bits x^^^BitVec.ofInt u32.bits y).isLt
  simp only [IntKind.bits] at this
  simp only [IntKind.bits]
  omega
theorem Z5N (x y:Nat) (hx:x<4294967296) (hy:y<4294967296):bOr .u32 x y=((x|||y:Nat):Int):=by
 unfold bOr
 rw [XT]
 ·show (((BitVec.ofInt 32 (x:Int)|||BitVec.ofInt 32 (y:Int)).toNat:Nat):Int)=_
  rw [BitVec.toNat_or,BitVec.ofInt_natCast,BitVec.ofInt_natCast,BitVec.toNat_ofNat,BitVec.toNat_ofNat,Nat.mod_eq_of_lt hx,Nat.mod_eq_of_lt hy]
 ·unfold U32
  have:=(BitVec.ofInt u32.bits x|||BitVec.ofInt u32.bits y).isLt
  simp only [IntKind.bits] at this
  simp only [IntKind.bits]
  omega
theorem Z3u (x y:Nat) (hx:x<4294967296) (hy:y<4294967296):Uw .u32 x y=((x&&&y:Nat):Int):=by
 unfold Uw
 rw [XT]
 ·show (((BitVec.ofInt 32 (x:Int)&&&BitVec.ofInt 32 (y:Int)).toNat:Nat):Int)=_
  rw [BitVec.toNat_and,BitVec.ofInt_natCast,BitVec.ofInt_natCast,BitVec.toNat_ofNat,BitVec.toNat_ofNat,Nat.mod_eq_of_lt hx,Nat.mod_eq_of_lt hy]
 ·unfold U32
  have:=(BitVec.ofInt u32.bits x&&&BitVec.ofInt u32.bits y).isLt
  simp only [IntKind.bits] at this
  simp only [IntKind.bits]
  omega
theorem U32.nat {x:Int} (h:U32 x):∃n:Nat,x=n/\n<4294967296:=⟨x.toNat,by unfold U32 at h;omega,by unfold U32 at h;omega⟩
theorem U32.of {n:Nat} (h:n<4294967296):U32 (n:Int):=by unfold U32;omega
theorem ZbB {x y:Int}:Ym .u32 x y=Ym .u32 y x:=by unfold Ym;rw [BitVec.xor_comm]
theorem Z8J {x y z:Int} (hx:U32 x) (hy:U32 y) (hz:U32 z):Ym .u32 (Ym .u32 x y) z=Ym .u32 x (Ym .u32 y z):=by
 obtain ⟨x,rfl,gx⟩:=hx.nat
 obtain ⟨y,rfl,gy⟩:=hy.nat
 obtain ⟨z,rfl,gz⟩:=hz.nat
 rw [V1 x y gx gy,V1 y z gy gz,V1 _ z (Nat.xor_lt_two_pow (n:=32) gx gy) gz,V1 x _ gx (Nat.xor_lt_two_pow (n:=32) gy gz),Nat.xor_assoc]
theorem ZbC {x:Int} (hx:U32 x):Ym .u32 0 x=x:=by
 obtain ⟨x,rfl,gx⟩:=hx.nat
 have:=V1 0 x (by omega) gx
 simpa using this
theorem Z5O (x n:Nat) (hn:n<=32):Zu .u32 x n=((x/2^n:Nat):Int):=by
 unfold Zu
 have:min (n:Int).toNat u32.bits=n:=by simp [IntKind.bits];omega
 rw [this,Int.fdiv_eq_ediv_of_nonneg _ (Int.le_of_lt (Int.pow_pos (by decide)))]
 simp
theorem ZlJ {x:Int} (hx:U32 x) (n:Nat) (hn:n<=32):U32 (Zu .u32 x n):=by
 obtain ⟨x,rfl,gx⟩:=hx.nat
 rw [Z5O x n hn]
 exact U32.of (Nat.lt_of_le_of_lt (Nat.div_le_self x (2^n)) gx)
theorem Z8K (w n:Int):U32 (Z8e w n):=ZlI _ _
theorem Z9S {w:Int} (hw:U32 w) (a b c:Int):sg3 a b c w=WA 32 [a,b,c] w:=by
 obtain ⟨x,rfl,gx⟩:=hw.nat
 have h0:Zu .u32 (x:Int) 32=0:=by
  rw [show (32:Int)=((32:Nat):Int) from rfl,Z5O x 32 (by omega),Nat.div_eq_of_lt gx]
  rfl
 unfold sg3 WA
 simp only [List.foldl_cons,List.foldl_nil,h0,ZbC (Z8K _ _)]
theorem Z9T {w:Int} (hw:U32 w) (a b:Int) (n:Nat) (hn:n<=32):rg3 a b n w=WA n [a,b] w:=by
 have hs:=ZlJ hw n hn
 unfold rg3 WA
 simp only [List.foldl_cons,List.foldl_nil]
 rw [ZbB,Z8J hs (Z8K _ _) (Z8K _ _)]
theorem WF (x i:Nat) (hi:i<=32):Int.tmod (Zu .u32 x i) 2=(((x.testBit i).toNat:Nat):Int):=by
 rw [Z5O x i hi]
 rw [Int.tmod_eq_emod_of_nonneg (Int.natCast_nonneg _),Nat.toNat_testBit]
 rfl
theorem Z5P (b:Bool) (i:Nat) (hi:i<32):ZF .u32 ((b.toNat:Nat):Int) i=((2^i*b.toNat:Nat):Int):=by
 unfold ZF
 have:min (i:Int).toNat u32.bits=i:=by simp [IntKind.bits];omega
 rw [this]
 have h2:(2:Nat)^i<2^32:=Nat.pow_lt_pow_right (by decide) hi
 have h3:((2:Nat)^i*b.toNat)<4294967296:=by cases b<;>simp_all
 rw [show ((b.toNat:Nat):Int)*2^i=((2^i*b.toNat:Nat):Int) by push_cast;rw [Int.mul_comm]]
 exact XT (U32.of h3)
theorem Z9U (x i:Nat):x%2^(i+1)=x%2^i+2^i*(x.testBit i).toNat:=by
 rw [Nat.toNat_testBit,Nat.mod_pow_succ]
theorem Z9V (x i:Nat) (hx:x<4294967296) (hi:i<32):u32.wrap (((x%2^i:Nat):Int)+((2^i*(x.testBit i).toNat:Nat):Int))=((x%2^(i+1):Nat):Int):=by
 rw [Z9U]
 rw [XT]
 ·push_cast;rfl
 ·rw [show ((x%2^i:Nat):Int)+((2^i*(x.testBit i).toNat:Nat):Int)=((x%2^i+2^i*(x.testBit i).toNat:Nat):Int) by push_cast;rfl,<-Z9U]
  exact U32.of (Nat.lt_of_le_of_lt (Nat.mod_le _ _) hx)
theorem Z4M (a b c:Nat) (ha:a<4294967296) (hb:b<4294967296) (hc:c<4294967296):∀i,i<=32->Vm a b c i=(((a&&&(b|||c)|||b&&&c)%2^i:Nat):Int)
 | 0,_=>by simp [Vm,Nat.mod_one]
 | i+1,hi=>by
  have hm:(a&&&(b|||c)|||b&&&c)<4294967296:=Nat.or_lt_two_pow (n:=32) (Nat.lt_of_le_of_lt Nat.and_le_left ha) (Nat.lt_of_le_of_lt Nat.and_le_left hb)
  rw [Vm,Z4M a b c ha hb hc i (by omega),WF a i (by omega),WF b i (by omega),WF c i (by omega),<-Z9V _ i hm (by omega)]
  have ht:(a&&&(b|||c)|||b&&&c).testBit i=(a.testBit i&&(b.testBit i||c.testBit i)||b.testBit i&&c.testBit i):=by simp
  rw [ht]
  have h1:=Z5P true i (by omega)
  have hx:u32.wrap (((a&&&(b|||c)|||b&&&c)%2^i:Nat):Int)=(((a&&&(b|||c)|||b&&&c)%2^i:Nat):Int):=XT (U32.of (Nat.lt_of_le_of_lt (Nat.mod_le _ _) hm))
  rw [Z77,Z77]
  cases a.testBit i<;>cases b.testBit i<;>cases c.testBit i<;>simp at h1 hx⊢ <;>first|rw [h1]|rw [hx]
theorem ZgR {a b c:Int} (ha:U32 a) (hb:U32 b) (hc:U32 c):Xx a b c=bOr .u32 (Uw .u32 a (bOr .u32 b c)) (Uw .u32 b c):=by
 obtain ⟨a,rfl,ga⟩:=ha.nat
 obtain ⟨b,rfl,gb⟩:=hb.nat
 obtain ⟨c,rfl,gc⟩:=hc.nat
 have h1:=Nat.or_lt_two_pow (n:=32) gb gc
 have h2:a&&&(b|||c)<4294967296:=Nat.lt_of_le_of_lt Nat.and_le_left ga
 have h3:b&&&c<4294967296:=Nat.lt_of_le_of_lt Nat.and_le_left gb
 rw [Z5N b c gb gc,Z3u a _ ga h1,Z3u b c gb gc,Z5N _ _ h2 h3]
 unfold Xx
 rw [Z4M a b c ga gb gc 32 (by omega),Nat.mod_eq_of_lt]
 exact Nat.or_lt_two_pow (n:=32) h2 h3
theorem Z4N (a b c:Nat) (ha:a<4294967296) (hb:b<4294967296) (hc:c<4294967296):∀i,i<=32->VT a b c i=(((c^^^(a&&&(b^^^c)))%2^i:Nat):Int)
 | 0,_=>by simp [VT,Nat.mod_one]
 | i+1,hi=>by
  have hm:(c^^^(a&&&(b^^^c)))<4294967296:=Nat.xor_lt_two_pow (n:=32) hc (Nat.lt_of_le_of_lt Nat.and_le_left ha)
  rw [VT,Z4N a b c ha hb hc i (by omega),WF a i (by omega),WF b i (by omega),WF c i (by omega),<-Z9V _ i hm (by omega)]
  have ht:(c^^^(a&&&(b^^^c))).testBit i=(c.testBit i^^(a.testBit i&&(b.testBit i^^c.testBit i))):=by simp
  rw [ht]
  have h1:=Z5P true i (by omega)
  have h0:=Z5P false i (by omega)
  cases a.testBit i<;>cases b.testBit i<;>cases c.testBit i<;>simp at h1 h0⊢ <;>first|rw [h1]|rw [h0,Int.add_zero]
theorem ZgS {a b c:Int} (ha:U32 a) (hb:U32 b) (hc:U32 c):Xs a b c=Ym .u32 c (Uw .u32 a (Ym .u32 b c)):=by
 obtain ⟨a,rfl,ga⟩:=ha.nat
 obtain ⟨b,rfl,gb⟩:=hb.nat
 obtain ⟨c,rfl,gc⟩:=hc.nat
 have h1:=Nat.xor_lt_two_pow (n:=32) gb gc
 have h2:a&&&(b^^^c)<4294967296:=Nat.lt_of_le_of_lt Nat.and_le_left ga
 rw [V1 b c gb gc,Z3u a _ ga h1,V1 _ _ gc h2]
 unfold Xs
 rw [Z4N a b c ga gb gc 32 (by omega),Nat.mod_eq_of_lt]
 exact Nat.xor_lt_two_pow (n:=32) gc h2
theorem Z4O (bl:List Int) (t:Nat):Wn bl (t+1)=(Wn bl t).set t (if t<16 then Z8H bl t else ZdP (Wn bl t) t):=by rw [Wn]
theorem Z4P (bl:List Int) (s t:Nat) (hs:s<t):∀u,(Wn bl (t+u)).getD s 0=(Wn bl t).getD s 0
 | 0=>rfl
 | u+1=>by
  rw [<-Nat.add_assoc,Z4O,<-Z4P bl s t hs u]
  simp only [List.getD_eq_getElem?_getD]
  rw [List.getElem?_set_ne (by omega)]
@[irreducible] def Z1U (bl:List Int) (t:Nat):Int:=(Wn bl 64).getD t 0
theorem Z0O (bl:List Int) {s t:Nat} (hs:s<t) (ht:t<=64):(Wn bl t).getD s 0=Z1U bl s:=by
 unfold Z1U
 have:=Z4P bl s t hs (64-t)
 rw [show t+(64-t)=64 by omega] at this
 exact this.symm
theorem Z9W (bl:List Int) {t:Nat} (ht:t<64):Z1U bl t=if t<16 then Z8H bl t else ZdP (Wn bl t) t:=by
 rw [<-Z0O bl (Nat.lt_succ_self t) (by omega),Z4O]
 simp only [List.getD_eq_getElem?_getD]
 rw [List.getElem?_set_self (by rw [Z3r];omega)]
 rfl
theorem Z9X (bl:List Int) {t:Nat} (ht:t<16):Z1U bl t=Z8H bl t:=by rw [Z9W bl (by omega),if_pos ht]
theorem Z9Y (bl:List Int) {t:Nat} (h16:16<=t) (ht:t<64):Z1U bl t=u32.wrap (u32.wrap (u32.wrap (rg3 17 19 10 (Z1U bl (t-2))+Z1U bl (t-7))+rg3 7 18 3 (Z1U bl (t-15)))+Z1U bl (t-16)):=by
 rw [Z9W bl (by omega),if_neg (by omega)]
 unfold ZdP
 rw [Z0O bl (by omega) (by omega),Z0O bl (by omega) (by omega),Z0O bl (by omega) (by omega),Z0O bl (by omega) (by omega)]
theorem ZdY (bl:List Int) {t:Nat} (ht:t<64):U32 (Z1U bl t):=by
 by_cases h:t<16
 ·rw [Z9X bl h];exact Z1j _
 ·rw [Z9Y bl (by omega) ht];exact Z1j _
theorem Z0P (t:Nat):mAt (t:Int)=t%16:=by
 unfold mAt
 rw [tm (by omega)]
 omega
theorem Vn (i t:Nat) (hi:i<8) (ht:t<=64):atI (i:Int) (t:Int)=(i+64-t)%8:=by
 unfold atI
 rw [w64 (x:=(i:Int)+64) (by omega),w64 (by omega),tm (by omega)]
 omega
theorem Z3v (l:List Int) (i j:Nat) (x:Int) (hi:i<l.length):(l.set i x).getD j 0=if i=j then x else l.getD j 0:=by
 simp only [List.getD_eq_getElem?_getD]
 by_cases h:i=j
 ·subst h
  rw [List.getElem?_set_self hi,if_pos rfl];rfl
 ·rw [List.getElem?_set_ne h,if_neg h]
def Ring (bl r:List Int) (t:Nat):Prop:=r.length=16/\∀s,s<max 16 t->max 16 t<=s+16->r.getD (s%16) 0=Z1U bl s
theorem Ring.step {bl r:List Int} {t:Nat} (h:Ring bl r t) (ht:t<64):Ring bl (Z05 t r) (t+1):=by
 obtain ⟨hl,hr⟩:=h
 refine ⟨by rw [Z6T,hl],fun s h1 h2=> ?_⟩
 unfold Z05
 by_cases h16:t<16
 ·rw [if_neg (by omega)]
  exact hr s (by omega) (by omega)
 ·rw [if_pos (by omega)]
  have w1:i64.wrap ((t:Int)+1)=((t+1:Nat):Int):=by rw [w64 (by omega)];omega
  have w9:i64.wrap ((t:Int)+9)=((t+9:Nat):Int):=by rw [w64 (by omega)];omega
  have w14:i64.wrap ((t:Int)+14)=((t+14:Nat):Int):=by rw [w64 (by omega)];omega
  have r0:=hr (t-16) (by omega) (by omega)
  have r1:=hr (t-15) (by omega) (by omega)
  have r9:=hr (t-7) (by omega) (by omega)
  have r14:=hr (t-2) (by omega) (by omega)
  rw [show (t-16)%16=t%16 by omega] at r0
  rw [show (t-15)%16=(t+1)%16 by omega] at r1
  rw [show (t-7)%16=(t+9)%16 by omega] at r9
  rw [show (t-2)%16=(t+14)%16 by omega] at r14
  rw [w1,w9,w14,Z0P,Z0P,Z0P,Z0P,r0,r1,r9,r14,Z3v _ _ _ _ (by rw [hl];omega)]
  by_cases hs:s=t
  ·subst hs
   rw [if_pos rfl,Z9Y bl (by omega) ht]
   have e1:=Z9T (ZdY bl (t:=s-2) (by omega)) 17 19 10 (by omega)
   have e2:=Z9T (ZdY bl (t:=s-15) (by omega)) 7 18 3 (by omega)
   rw [show ((10:Nat):Int)=10 from rfl] at e1
   rw [show ((3:Nat):Int)=3 from rfl] at e2
   rw [e1,e2]
   simp only [Z77]
   omega
  ·rw [if_neg (by omega)]
   exact hr s (by omega) (by omega)
def U8 (x:Int):Prop:=0<=x/\x<256
theorem Z28 (x n:Nat) (hn:n<=32) (h:x*2^n<4294967296):ZF .u32 x n=((x*2^n:Nat):Int):=by
 unfold ZF
 have:min (n:Int).toNat u32.bits=n:=by simp [IntKind.bits];omega
 rw [this,show (x:Int)*2^n=((x*2^n:Nat):Int) by push_cast;rfl]
 exact XT (U32.of h)
theorem Z29 (x y:Nat) (hx:x<16777216) (hy:y<256):bOr .u32 (ZF .u32 x 8) y=((x*256+y:Nat):Int):=by
 have:=Z28 x 8 (by omega) (by omega)
 rw [show ((8:Nat):Int)=8 from rfl] at this
 rw [this,Z5N _ _ (by omega) (by omega),<-Nat.shiftLeft_eq,<-Nat.shiftLeft_add_eq_or_of_lt (by omega),Nat.shiftLeft_eq]
theorem Q0 {P:Int->Prop} {l:List Int} (h:∀x∈l,P x) (h0:P 0) (i:Nat):P (l.getD i 0):=by
 rw [List.getD_eq_getElem?_getD]
 cases hg:l[i]? with
 | none=>exact h0
 | some x=>exact h x (List.mem_of_getElem? hg)
theorem U8.nat {x:Int} (h:U8 x):∃n:Nat,x=n/\n<256:=⟨x.toNat,by unfold U8 at h;omega,by unfold U8 at h;omega⟩
theorem ZgT (bl:List Int) (hb:∀x∈bl,U8 x) (t:Nat):XW bl (4*t)=Z8H bl t:=by
 unfold XW Z8H
 obtain ⟨a,ea,ha⟩:=(Q0 (P:=U8) hb (by unfold U8;omega) (4*t)).nat
 obtain ⟨b,eb,hb'⟩:=(Q0 (P:=U8) hb (by unfold U8;omega) (4*t+1)).nat
 obtain ⟨c,ec,hc⟩:=(Q0 (P:=U8) hb (by unfold U8;omega) (4*t+2)).nat
 obtain ⟨d,ed,hd⟩:=(Q0 (P:=U8) hb (by unfold U8;omega) (4*t+3)).nat
 rw [ea,eb,ec,ed]
 rw [XT (x:=(a:Int)) (U32.of (by omega)),XT (x:=(b:Int)) (U32.of (by omega)),XT (x:=(c:Int)) (U32.of (by omega)),XT (x:=(d:Int)) (U32.of (by omega))]
 have z:=Z29 0 a (by omega) ha
 have s0:ZF .u32 0 8=0:=by decide
 rw [show ZF .u32 ((0:Nat):Int) 8=0 from s0] at z
 rw [z,Z29 _ b (by omega) hb',Z29 _ c (by omega) hc,Z29 _ d (by omega) hd]
 have g1:=Z28 a 24 (by omega) (by omega)
 have g2:=Z28 b 16 (by omega) (by omega)
 have g3:=Z28 c 8 (by omega) (by omega)
 rw [show ((24:Nat):Int)=24 from rfl] at g1
 rw [show ((16:Nat):Int)=16 from rfl] at g2
 rw [show ((8:Nat):Int)=8 from rfl] at g3
 rw [g1,g2,g3]
 simp only [Z77]
 omega
theorem Ring.first (bl:List Int) (hb:∀x∈bl,U8 x):Ring bl (WV bl) 0:=by
 refine ⟨rfl,fun s h1 _=> ?_⟩
 have h16:s<16:=by omega
 rw [Z9X bl h16,<-ZgT bl hb,Nat.mod_eq_of_lt h16]
 have:s=0\/s=1\/s=2\/s=3\/s=4\/s=5\/s=6\/s=7\/s=8\/s=9\/s=10\/s=11\/s=12\/s=13\/s=14\/s=15:=by omega
 rcases this with rfl|rfl|rfl|rfl|rfl|rfl|rfl|rfl|rfl|rfl|rfl|rfl|rfl|rfl|rfl|rfl<;>rfl
def Z3w (x y:List Int) (t:Nat):Prop:=x.length=8/\∀i,i<8->x.getD ((i+64-t)%8) 0=y.getD i 0
theorem Z3w.step {x y m:List Int} {w:Int} {t:Nat} (h:Z3w x y t) (hU:∀i,i<8->U32 (y.getD i 0)) (ht:t<64) (hm:m.getD (t%16) 0=w):
  Z3w (Z3U t m x) (Z1H Xx Xs (Vv.getD t 0) w y) (t+1):=by
 obtain ⟨hl,hr⟩:=h
 have a0:=Vn 0 t (by omega) (by omega)
 have a1:=Vn 1 t (by omega) (by omega)
 have a2:=Vn 2 t (by omega) (by omega)
 have a3:=Vn 3 t (by omega) (by omega)
 have a4:=Vn 4 t (by omega) (by omega)
 have a5:=Vn 5 t (by omega) (by omega)
 have a6:=Vn 6 t (by omega) (by omega)
 have a7:=Vn 7 t (by omega) (by omega)
 have h0:=hr 0 (by omega)
 have h1:=hr 1 (by omega)
 have h2:=hr 2 (by omega)
 have h3:=hr 3 (by omega)
 have h4:=hr 4 (by omega)
 have h5:=hr 5 (by omega)
 have h6:=hr 6 (by omega)
 have h7:=hr 7 (by omega)
 rw [<-a0] at h0
 rw [<-a1] at h1
 rw [<-a2] at h2
 rw [<-a3] at h3
 rw [<-a4] at h4
 rw [<-a5] at h5
 rw [<-a6] at h6
 rw [<-a7] at h7
 refine ⟨by rw [Z6U,hl], ?_⟩
 have hadd:Z1b t m x=u32.wrap (u32.wrap (u32.wrap (u32.wrap (y.getD 7 0+sg3 6 11 25 (y.getD 4 0))+Xs (y.getD 4 0) (y.getD 5 0) (y.getD 6 0))+Vv.getD t 0)+w):=by
  unfold Z1b
  rw [Z0P,hm]
  rw [show atI 7 (t:Int)=atI ((7:Nat):Int) t from rfl,show atI 4 (t:Int)=atI ((4:Nat):Int) t from rfl,show atI 5 (t:Int)=atI ((5:Nat):Int) t from rfl,show atI 6 (t:Int)=atI ((6:Nat):Int) t from rfl]
  rw [h4,h5,h6,h7,Z9S (hU 4 (by omega)),ZgS (hU 4 (by omega)) (hU 5 (by omega)) (hU 6 (by omega))]
  rw [Nat.zero_add,Int.toNat_natCast]
 unfold Z3U
 rw [hadd]
 rw [show atI 7 (t:Int)=atI ((7:Nat):Int) t from rfl,show atI 3 (t:Int)=atI ((3:Nat):Int) t from rfl,show atI 0 (t:Int)=atI ((0:Nat):Int) t from rfl,show atI 1 (t:Int)=atI ((1:Nat):Int) t from rfl,show atI 2 (t:Int)=atI ((2:Nat):Int) t from rfl]
 rw [h0,h1,h2,h3,<-ZgR (hU 0 (by omega)) (hU 1 (by omega)) (hU 2 (by omega)),<-Z9S (hU 0 (by omega)),a3,a7]
 intro i hi
 rw [Z3v _ _ _ _ (by rw [List.length_set,hl];omega),Z3v _ _ _ _ (by rw [hl];omega)]
 unfold Z1H
 have:i=0\/i=1\/i=2\/i=3\/i=4\/i=5\/i=6\/i=7:=by omega
 rcases this with rfl|rfl|rfl|rfl|rfl|rfl|rfl|rfl
 ·rw [if_pos (by omega)]
  simp only [Z77,List.getD_cons_zero]
  omega
 ·rw [if_neg (by omega),if_neg (by omega),show (1+64-(t+1))%8=(0+64-t)%8 by omega,hr 0 (by omega)];rfl
 ·rw [if_neg (by omega),if_neg (by omega),show (2+64-(t+1))%8=(1+64-t)%8 by omega,hr 1 (by omega)];rfl
 ·rw [if_neg (by omega),if_neg (by omega),show (3+64-(t+1))%8=(2+64-t)%8 by omega,hr 2 (by omega)];rfl
 ·rw [if_neg (by omega),if_pos (by omega)];rfl
 ·rw [if_neg (by omega),if_neg (by omega),show (5+64-(t+1))%8=(4+64-t)%8 by omega,hr 4 (by omega)];rfl
 ·rw [if_neg (by omega),if_neg (by omega),show (6+64-(t+1))%8=(5+64-t)%8 by omega,hr 5 (by omega)];rfl
 ·rw [if_neg (by omega),if_neg (by omega),show (7+64-(t+1))%8=(6+64-t)%8 by omega,hr 6 (by omega)];rfl
theorem ZgU {k w:Int} {y:List Int} (hU:∀i,i<8->U32 (y.getD i 0)):∀i,i<8->U32 ((Z1H Xx Xs k w y).getD i 0):=by
 intro i hi
 unfold Z1H
 have:i=0\/i=1\/i=2\/i=3\/i=4\/i=5\/i=6\/i=7:=by omega
 rcases this with rfl|rfl|rfl|rfl|rfl|rfl|rfl|rfl
 ·exact Z1j _
 ·exact hU 0 (by omega)
 ·exact hU 1 (by omega)
 ·exact hU 2 (by omega)
 ·exact Z1j _
 ·exact hU 4 (by omega)
 ·exact hU 5 (by omega)
 ·exact hU 6 (by omega)
def W8 (st:List Int):Prop:=st.length=8/\∀x∈st,U32 x
theorem W8.get {st:List Int} (h:W8 st) (i:Nat):U32 (st.getD i 0):=Q0 h.2 (by unfold U32;omega) i
theorem Z78 (bl st:List Int) (hb:∀x∈bl,U8 x) (hs:W8 st):∀t,t<=64->Ring bl (WB (WV bl) st t).1 t/\Z3w (WB (WV bl) st t).2 (UY Xx Xs (Wn bl 64) st t) t/\∀i,i<8->U32 ((UY Xx Xs (Wn bl 64) st t).getD i 0)
 | 0,_=>by
  rw [Z4r,Zbv]
  refine ⟨Ring.first bl hb,⟨hs.1,fun i hi=> ?_⟩,fun i _=>hs.get i⟩
  rw [show (i+64-0)%8=i by omega]
 | t+1,h=>by
  obtain ⟨h1,h2,h3⟩:=Z78 bl st hb hs t (by omega)
  rw [Z4s,Zbu]
  have hR:=h1.step (by omega)
  refine ⟨hR,h2.step h3 (by omega) ?_,ZgU h3⟩
  rw [hR.2 t (by omega) (by omega)]
  unfold Z1U
  rfl
theorem ZbD (st x:List Int) (i:Nat):Vy st x (i+1)=(Vy st x i).set i (u32.wrap ((Vy st x i).getD i 0+st.getD i 0)):=by rw [Vy]
theorem ZbE (st x:List Int):Vy st x 0=x:=by rw [Vy]
theorem ZgV (st x:List Int) (hs:st.length=8) (hx:x.length=8):Vy st x 8=Zb6 st x:=by
 obtain ⟨a0,a1,a2,a3,a4,a5,a6,a7,rfl⟩:=eight st hs
 obtain ⟨b0,b1,b2,b3,b4,b5,b6,b7,rfl⟩:=eight x hx
 simp only [ZbD,ZbE]
 simp [Zb6,List.set,Int.add_comm]
theorem Z8L {x y:List Int} (h:Z3w x y 64) (hy:y.length=8):y=x:=by
 obtain ⟨h4,h5⟩:=h
 obtain ⟨a0,a1,a2,a3,a4,a5,a6,a7,rfl⟩:=eight _ hy
 obtain ⟨b0,b1,b2,b3,b4,b5,b6,b7,rfl⟩:=eight _ h4
 have g0:=h5 0 (by omega)
 have g1:=h5 1 (by omega)
 have g2:=h5 2 (by omega)
 have g3:=h5 3 (by omega)
 have g4:=h5 4 (by omega)
 have g5:=h5 5 (by omega)
 have g6:=h5 6 (by omega)
 have g7:=h5 7 (by omega)
 simp at g0 g1 g2 g3 g4 g5 g6 g7
 simp [g0,g1,g2,g3,g4,g5,g6,g7]
theorem Z79 (st bl:List Int) (hb:∀x∈bl,U8 x) (hs:W8 st):XS st bl=Wl st bl:=by
 obtain ⟨_,h2,h3⟩:=Z78 bl st hb hs 64 (by omega)
 have hl:=Z0K (M:=Xx) (P:=Xs) (m:=Wn bl 64) hs.1 64
 unfold XS Wl
 rw [ZgV _ _ hs.1 hl]
 congr 1
 exact Z8L h2 hl
theorem Z7a (st bl:List Int) (hs:st.length=8):W8 (Wl st bl):=by
 refine ⟨Z4t st bl hs,fun x hx=> ?_⟩
 unfold Wl Zb6 at hx
 obtain ⟨i,hi,rfl⟩:=List.getElem_of_mem hx
 simp only [List.getElem_zipWith]
 exact Z1j _
def Qv (P:List Int->List Int->List Int):Nat->List Int->List Int->List Int
 | 0,st,_=>st
 | n+1,st,ms=>Qv P n (P st (ms.take 64)) (ms.drop 64)
theorem Z1k (P:List Int->List Int->List Int):∀(n:Nat) (st ms:List Int),Qv P (n+1) st ms=P (Qv P n st ms) ((ms.drop (64*n)).take 64)
 | 0,_,_=>rfl
 | n+1,st,ms=>by
  rw [Qv,Z1k P n,List.drop_drop]
  rw [show 64+64*n=64*(n+1) by omega]
  rfl
theorem Z3x (P:List Int->List Int->List Int):∀(n:Nat) (st ms more:List Int),64*n<=ms.length->Qv P n st (ms++more)=Qv P n st ms
 | 0,_,_,_,_=>rfl
 | n+1,st,ms,more,h=>by
  rw [Qv,Qv,List.take_append_of_le_length (by omega),List.drop_append_of_le_length (by omega),Z3x P n _ _ _ (by rw [List.length_drop];omega)]
theorem Z3y:∀(n:Nat) (st ms:List Int),W8 st->(∀x∈ms,U8 x)->Qv XS n st ms=Qv Wl n st ms
 | 0,_,_,_,_=>rfl
 | n+1,st,ms,hs,hm=>by
  rw [Qv,Qv,Z79 st _ (fun x hx=>hm x (List.mem_of_mem_take hx)) hs]
  exact Z3y n _ _ (Z7a st _ hs.1) fun x hx=>hm x (List.mem_of_mem_drop hx)
structure Rep (r:Zz) (ms:List Int):Prop where
 came:r.came=ms.length
 st:r.st=Qv Wl (ms.length/64) Yv.st ms
 len:r.part.length=64
 part:r.part.take (ms.length%64)=ms.drop (64*(ms.length/64))
theorem Rep.ok {r:Zz} {ms:List Int} (h:Rep r ms) (h8:r.st.length=8):r.Ok:=⟨h8,h.len,by rw [h.came];omega⟩
theorem Rep.one {r:Zz} {ms:List Int} (h:Rep r ms) (bs:List Int):Rep (r.one bs) (ms++wTk r.came bs):=by
 have ha:wAt r.came=ms.length%64:=by
  unfold wAt
  rw [h.came,tm (by omega)]
  omega
 have hk:(wTk r.came bs).length<=64-ms.length%64:=by
  unfold wTk
  rw [ha,List.length_take]
  omega
 have hdl:(ms.drop (64*(ms.length/64))).length=ms.length%64:=by rw [List.length_drop];omega
 have hp:VN r.part r.came bs=ms.drop (64*(ms.length/64))++wTk r.came bs++r.part.drop (ms.length%64+(wTk r.came bs).length):=by
  unfold VN spl
  rw [ha,h.part]
 have hl:(VN r.part r.came bs).length=64:=by
  rw [hp,List.length_append,List.length_append,hdl,List.length_drop,h.len]
  omega
 have hst:(r.one bs).st=if ms.length%64+(wTk r.came bs).length=64 then Wl r.st (VN r.part r.came bs) else r.st:=by
  show wSt _ _ _ _=_
  unfold wSt
  rw [ha]
 have hca:(r.one bs).came=r.came+(wTk r.came bs).length:=rfl
 have hpa:(r.one bs).part=VN r.part r.came bs:=rfl
 generalize wTk r.came bs=tk at*
 generalize VN r.part r.came bs=pa at*
 have hal:(ms++tk).length=ms.length+tk.length:=List.length_append
 refine ⟨by rw [hca,h.came,hal];omega, ?_,by rw [hpa];exact hl, ?_⟩
 ·rw [hst,h.st]
  by_cases h64:ms.length%64+tk.length=64
  ·rw [if_pos h64,hal,show (ms.length+tk.length)/64=ms.length/64+1 by omega,Z1k,Z3x _ _ _ _ _ (by omega)]
   congr 1
   rw [List.drop_append_of_le_length (by omega),hp,show r.part.drop (ms.length%64+tk.length)=[] from List.drop_eq_nil_of_le (by rw [h.len];omega),List.append_nil,List.take_of_length_le (by rw [List.length_append,hdl];omega)]
  ·rw [if_neg h64,hal,show (ms.length+tk.length)/64=ms.length/64 by omega,Z3x _ _ _ _ _ (by omega)]
 ·rw [hpa,hal]
  by_cases h64:ms.length%64+tk.length=64
  ·rw [show (ms.length+tk.length)%64=0 by omega,List.take_zero,List.drop_eq_nil_of_le (by rw [hal];omega)]
  ·rw [show (ms.length+tk.length)/64=ms.length/64 by omega,show (ms.length+tk.length)%64=ms.length%64+tk.length by omega,hp,List.drop_append_of_le_length (by omega)]
   rw [List.take_append_of_le_length (by rw [List.length_append,hdl];omega)]
   exact List.take_of_length_le (by rw [List.length_append,hdl];omega)
theorem Rep.many:∀(n:Nat) (r:Zz) (ms bs:List Int),r.Ok->Rep r ms->bs.length<=n->Rep (Zz.many n r bs).1 (ms++bs)
 | 0,r,ms,bs,_,h,hn=>by
  have:bs=[]:=List.eq_nil_of_length_eq_zero (by omega)
  subst this
  rw [List.append_nil]
  exact h
 | n+1,r,ms,bs,hr,h,hn=>by
  unfold Zz.many
  split
  ·rw [List.append_nil];exact h
  ·rename_i b bs
   have hp:=Qj hr (bs:=b::bs) (by simp)
   have hb:(b::bs)=wTk r.came (b::bs)++(b::bs).drop (wTk r.came (b::bs)).length:=by
    unfold wTk
    rw [List.length_take]
    by_cases h:64-wAt r.came<=(b::bs).length
    ·rw [Nat.min_eq_left h,List.take_append_drop]
    ·rw [Nat.min_eq_right (by omega),List.take_of_length_le (by omega),List.drop_length,List.append_nil]
   have:=Rep.many n _ _ ((b::bs).drop (wTk r.came (b::bs)).length) (hr.one _) (h.one (b::bs)) (by rw [List.length_drop];simp only [List.length_cons] at hn⊢;omega)
   rw [List.append_assoc,<-hb] at this
   exact this
theorem Rep.write {r:Zz} {ms:List Int} (hr:r.Ok) (h:Rep r ms) (bs:List Int):Rep (r.write bs) (ms++bs):=by
 unfold Zz.write
 exact Rep.many _ _ _ _ hr h (Nat.le_refl _)
theorem Rep.init:Rep Yv []:=⟨rfl,rfl,rfl,rfl⟩
def Z1l (bs:List Int):List Int:=bs++Qs bs.length++len8 bs.length
def Z8M (P:List Int->List Int->List Int) (bs:List Int):List Int:=Z4w (Qv P ((Z1l bs).length/64) Yv.st (Z1l bs))
theorem Rep.fin {r:Zz} {ms:List Int} (hr:r.Ok) (h:Rep r ms):r.fin=Z8M Wl ms:=by
 have h1:=h.write hr (Qs r.came)
 have h2:=h1.write (Xl _ _ hr) (len8 r.came)
 unfold Zz.fin Z8M
 rw [h2.st,h.came]
 rfl
theorem Z3z (bs:List Int):Uo bs=Z8M Wl bs:=by
 unfold Uo
 have:=Rep.init.write Xm bs
 exact this.fin (Xl _ _ Xm)
theorem Z7b (a b:List Int):Z07 a b=Uo (a++b):=by
 rw [Z3z]
 unfold Z07
 have h1:=Rep.init.write Xm a
 have h2:=h1.write (Xl _ _ Xm) b
 exact h2.fin (Xl _ _ (Xl _ _ Xm))
theorem Z7c:W8 Yv.st:=by
 refine ⟨rfl,fun x hx=> ?_⟩
 simp only [Yv,List.mem_cons,List.not_mem_nil,or_false] at hx
 unfold U32
 rcases hx with rfl|rfl|rfl|rfl|rfl|rfl|rfl|rfl<;>omega
theorem ZgW (n:Int):∀x∈Qs n,U8 x:=by
 intro x hx
 unfold Qs at hx
 rcases List.mem_append.mp hx with h|h
 ·rw [List.mem_singleton] at h
  subst h
  unfold U8;omega
 ·rw [List.eq_of_mem_replicate h]
  unfold U8;omega
theorem Z8N (x:Int):U8 (u8.wrap x):=by rw [wr8];unfold U8;omega
theorem ZgX (n:Int):∀x∈len8 n,U8 x:=by
 intro x hx
 unfold len8 QI at hx
 simp only [List.mem_cons,List.not_mem_nil,or_false] at hx
 rcases hx with h|h|h|h|h|h|h|h<;>rw [h]<;>exact Z8N _
theorem ZbF {bs:List Int} (h:∀x∈bs,U8 x):∀x∈Z1l bs,U8 x:=by
 intro x hx
 unfold Z1l at hx
 rcases List.mem_append.mp hx with h1|h1
 ·rcases List.mem_append.mp h1 with h2|h2
  ·exact h x h2
  ·exact ZgW _ x h2
 ·exact ZgX _ x h1
theorem ZdZ (n:Int):∀x∈Vg n,U8 x:=by
 intro x hx
 unfold Vg at hx
 simp only [List.mem_cons,List.not_mem_nil,or_false] at hx
 rcases hx with h|h|h|h<;>rw [h]<;>exact Z8N _
theorem Ze0 (st:List Int):∀x∈Z4w st,U8 x:=by
 intro x hx
 unfold Z4w at hx
 simp only [List.mem_append] at hx
 rcases hx with (((((((h|h)|h)|h)|h)|h)|h)|h)<;>exact ZdZ _ x h
theorem Z5Q (bs:List Int):∀x∈Uo bs,U8 x:=by rw [Z3z];exact Ze0 _
theorem ZgY:Qo XS:=⟨fun st bl h=>Z73 st bl h,fun _ _ h=>Z5K h⟩
theorem Ze1 (x:List Int) (i:Nat):toN x (i+1)=((((toN x i).set (4*i) (u8.wrap (u32.wrap (Int.tdiv (x.getD i 0) 16777216)))).set (4*i+1) (toE (x.getD i 0) 65536)).set (4*i+2) (toE (x.getD i 0) 256)).set (4*i+3) (u8.wrap (Int.tmod (x.getD i 0) 256)):=by rw [toN]
theorem Ze2 (x:List Int):toN x 0=Z5:=by rw [toN]
def four (x:Int):List Int:=[u8.wrap (u32.wrap (Int.tdiv x 16777216)),toE x 65536,toE x 256,u8.wrap (Int.tmod x 256)]
theorem ZbG (x:List Int):(Um x).length=32:=by unfold Um;exact Z5L x 8
theorem Z8O (x:List Int) (h:x.length=8):Um x=four (x.getD 0 0)++four (x.getD 1 0)++four (x.getD 2 0)++four (x.getD 3 0)++four (x.getD 4 0)++four (x.getD 5 0)++four (x.getD 6 0)++four (x.getD 7 0):=by
 unfold Um
 simp only [Ze1,Ze2]
 generalize x.getD 0 0=x0
 generalize x.getD 1 0=x1
 generalize x.getD 2 0=x2
 generalize x.getD 3 0=x3
 generalize x.getD 4 0=x4
 generalize x.getD 5 0=x5
 generalize x.getD 6 0=x6
 generalize x.getD 7 0=x7
 kernel_rfl
theorem ZgZ (x:Int):u64.wrap x=x%18446744073709551616:=by
 unfold wrap
 simp [IntKind.bits,IntKind.signed]
theorem Z7d (x n:Nat) (hn:n<=64):Zu .u64 x n=((x/2^n:Nat):Int):=by
 unfold Zu
 have:min (n:Int).toNat u64.bits=n:=by simp [IntKind.bits];omega
 rw [this,Int.fdiv_eq_ediv_of_nonneg _ (Int.le_of_lt (Int.pow_pos (by decide)))]
 simp
theorem XF {x:Int} (h:U32 x):four x=Vg (u64.wrap x):=by
 obtain ⟨x,rfl,gx⟩:=h.nat
 have e:u64.wrap (x:Int)=x:=by rw [ZgZ];omega
 have s24:=Z7d x 24 (by omega)
 have s16:=Z7d x 16 (by omega)
 have s8:=Z7d x 8 (by omega)
 have s0:=Z7d x 0 (by omega)
 rw [show ((24:Nat):Int)=24 from rfl] at s24
 rw [show ((16:Nat):Int)=16 from rfl] at s16
 rw [show ((8:Nat):Int)=8 from rfl] at s8
 rw [show ((0:Nat):Int)=0 from rfl] at s0
 have d1:Int.tdiv (x:Int) 16777216=(x:Int)/16777216:=Int.tdiv_eq_ediv_of_nonneg (by omega)
 have d2:Int.tdiv (x:Int) 65536=(x:Int)/65536:=Int.tdiv_eq_ediv_of_nonneg (by omega)
 have d3:Int.tdiv (x:Int) 256=(x:Int)/256:=Int.tdiv_eq_ediv_of_nonneg (by omega)
 unfold four Vg toE
 rw [e,s24,s16,s8,s0,d1,d2,d3]
 simp only [wr8,Z77]
 rw [tm (a:=(x:Int)/65536%4294967296) (by omega),tm (a:=(x:Int)/256%4294967296) (by omega),tm (a:=(x:Int)) (by omega)]
 simp only [List.cons.injEq,and_true]
 omega
theorem Z8P {x:List Int} (h:W8 x):Um x=Z4w x:=by
 rw [Z8O x h.1]
 unfold Z4w
 rw [XF (h.get 0),XF (h.get 1),XF (h.get 2),XF (h.get 3),XF (h.get 4),XF (h.get 5),XF (h.get 6),XF (h.get 7)]
theorem XG (n:Nat) (i:Nat) (hi:i<8):ZgL n i=u8.wrap (Zu .u64 (u64.wrap (u64.wrap n*8)) ((56-8*i:Nat):Int)):=by
 unfold ZgL
 have e1:i64.wrap (8*(i:Int))=8*(i:Int):=w64 (by omega)
 have e2:i64.wrap (56-8*(i:Int))=((56-8*i:Nat):Int):=by rw [w64 (by omega)];omega
 have e3:u64.wrap ((56-8*i:Nat):Int)=((56-8*i:Nat):Int):=by rw [ZgZ];omega
 rw [e1,e2,e3]
 obtain ⟨m,hm⟩:∃m:Nat,u64.wrap (u64.wrap n*8)=m:=⟨(u64.wrap (u64.wrap n*8)).toNat,by rw [ZgZ,ZgZ];omega⟩
 rw [hm,Z7d m _ (by omega)]
 generalize m/2^(56-8*i)=q
 rw [tm (by omega),wr8,wr8]
 omega
theorem ZbH (n:Nat):XV n 8=len8 n:=by
 simp only [XV,List.nil_append,List.cons_append]
 unfold len8 QI
 rw [XG n 0 (by omega),XG n 1 (by omega),XG n 2 (by omega),XG n 3 (by omega),XG n 4 (by omega),XG n 5 (by omega),XG n 6 (by omega),XG n 7 (by omega)]
 rfl
theorem ZbI (n:Nat) (h:n<=100000000000):[128]++Z1T n=Qs n:=by
 unfold Z1T Qs
 have e1:Int.tmod (n:Int) 64=(n:Int)%64:=tm (by omega)
 have e2:i64.wrap (119-(n:Int)%64)=119-(n:Int)%64:=w64 (by omega)
 rw [ZgN n h,e1,e2,tm (by omega)]
 congr 2
 omega
theorem Ze3 (bs:List Int) (h:bs.length<=100000000000):UZ bs=Z1l bs:=by
 unfold UZ Z1l
 rw [ZbH,List.append_assoc bs,ZbI _ h]
theorem Z4Q (P:List Int->List Int->List Int) (ys:List Int):∀i,Qu P ys i=Qv P i Yv.st ys
 | 0=>Z4K P ys
 | i+1=>by rw [Z4L,Z1k,Z4Q P ys i]
theorem Z9Z:∀(n:Nat) (st ms:List Int),W8 st->W8 (Qv Wl n st ms)
 | 0,_,_,h=>h
 | n+1,st,_,h=>Z9Z n _ _ (Z7a st _ h.1)
@[irreducible] def Qw (bs:List Int):List Int:=ZdV XS bs
theorem Z3A (bs:List Int):(Qw bs).length=32:=by unfold Qw ZdV;exact ZbG _
theorem Z2a {bs:List Int} (h:∀x∈bs,U8 x) (hl:bs.length<=100000000000):Qw bs=Uo bs:=by
 unfold Qw ZdV
 rw [Z4Q,Ze3 bs hl,Z3y _ _ _ Z7c (ZbF h),Z8P (Z9Z _ _ _ Z7c),Z3z]
 rfl
theorem Z4R (xs:List Int) (h:xs.length<=100000000000):Zy PP 208 [.vints .u8 xs xs.length] (.agg [.arr .u8 32 (Qw xs)]) 0 []:=by
 unfold Qw
 exact Zby ZgY xs h
theorem Za0 (c:Int) (b:List Int):∀i,i<=b.length->Z1Q c b i=(b.take i).map (fun x=>Ym .u8 x c)++b.drop i
 | 0,_=>by rw [Z4y];simp
 | i+1,h=>by
  rw [Z1c,Za0 c b i (by omega)]
  unfold Z3b
  have hl:((b.take i).map (fun x=>Ym .u8 x c)).length=i:=by rw [List.length_map,List.length_take];omega
  obtain ⟨y,hy⟩:∃y,b[i]? =some y:=⟨b[i],List.getElem?_eq_getElem (by omega)⟩
  have hd:b.drop i=y::b.drop (i+1):=by
   rw [List.drop_eq_getElem_cons (by omega)]
   congr 1
   have:=List.getElem?_eq_getElem (l:=b) (i:=i) (by omega)
   rw [this] at hy
   exact Option.some.inj hy
  rw [hd,Nat.zero_add,List.getD_eq_getElem?_getD,List.getElem?_append_right (by omega),hl,Nat.sub_self,List.set_append_right _ _ (by omega),hl,Nat.sub_self]
  rw [List.take_add_one,hy]
  simp
theorem Z3B (c:Int) (b:List Int) (h:b.length=64):WW c b=b.map (fun x=>Ym .u8 x c):=by
 unfold WW
 rw [Za0 c b 64 (by omega),<-h,List.take_length,List.drop_length,List.append_nil]
theorem Za1 (key:List Int) (c:Int) (hk:key.length=32) (h0:Ym .u8 0 c=c):∀i,i<=64->kxR key c i=((key++List.replicate 32 0).take i).map (fun x=>Ym .u8 x c)
 | 0,_=>by rw [kxR];rfl
 | i+1,h=>by
  rw [kxR,Za1 key c hk h0 i (by omega),List.take_add_one,List.map_append]
  congr 1
  unfold kxE
  by_cases hi:i<32
  ·rw [if_pos (by omega),List.getElem?_append_left (by omega),List.getD_eq_getElem?_getD,List.getElem?_eq_getElem (by omega)]
   rfl
  ·rw [if_neg (by omega),List.getElem?_append_right (by omega),List.getElem?_replicate,if_pos (by omega)]
   simp [h0]
theorem Ze4 (key:List Int) (hk:key.length=32):Vw key=key++List.replicate 32 0:=by
 have e1:List.take 32 key=key:=List.take_of_length_le (by rw [hk];exact Nat.le_refl _)
 have e2:List.take 64 key=key:=List.take_of_length_le (by rw [hk];omega)
 unfold Vw spl
 rw [e1,e2,hk]
 rfl
theorem Ze5 (key:List Int) (c:Int) (hk:key.length=32) (h0:Ym .u8 0 c=c):kxR key c 64=WW c (Vw key):=by
 rw [Z3B c _ (VO key),Za1 key c hk h0 64 (by omega),Ze4 key hk,List.take_of_length_le (by simp [hk])]
theorem Ze6 (c:Int) (b:List Int):∀x∈b.map (fun x=>Ym .u8 x c),U8 x:=by
 intro x hx
 obtain ⟨y,_,rfl⟩:=List.mem_map.mp hx
 exact Z8N _
theorem Ze7 {a b:List Int} (ha:∀x∈a,U8 x) (hb:∀x∈b,U8 x):∀x∈a++b,U8 x:=fun x hx=>(List.mem_append.mp hx).elim (ha x) (hb x)
theorem Zh0 {key ms:List Int} (hk:key.length=32) (hm:ms.length=32) (hU:∀x∈ms,U8 x):Z0N Qw key ms=UU key ms:=by
 have k1:=Ze5 key 92 hk (by decide)
 have k2:=Ze5 key 54 hk (by decide)
 have l1:=Z0F 92 _ (VO key)
 have l2:=Z0F 54 _ (VO key)
 have u1:∀x∈WW 92 (Vw key),U8 x:=by rw [Z3B _ _ (VO key)];exact Ze6 _ _
 have u2:∀x∈WW 54 (Vw key),U8 x:=by rw [Z3B _ _ (VO key)];exact Ze6 _ _
 unfold Z0N UU
 rw [k1,k2,Z7b]
 have h2:((Yv.write (WW 54 (Vw key))).write ms).fin=Uo (WW 54 (Vw key)++ms):=by
  rw [<-Z7b];unfold Z07;rfl
 rw [h2,Z2a (bs:=WW 54 (Vw key)++ms) (Ze7 u2 hU) (by rw [List.length_append,l2,hm];decide)]
 rw [Z2a (Ze7 u1 (Z5Q _)) (by rw [List.length_append,l1,Z0E];decide)]
theorem Ze8 {bs:List Int} (h:∀x∈bs,U8 x) (hl:bs.length<=100000000000):Ue Qw bs=UT bs:=by
 unfold Ue UT
 rw [Z2a h hl,Z2a (Z5Q _) (by rw [Z0E];decide)]
noncomputable def E60 (R:TxS->Bool->List Int) (H:List Int->List Int) (T2:List Int->List Int->List Int) (B:Nat):Zh:=((G0.withF 207 (ZdB R)).withP 206 (Z75 H B)).withP 125 (ZdW T2)
theorem Zoy (R:TxS->Bool->List Int) (H:List Int->List Int) (T2:List Int->List Int->List Int) (B:Nat) (t:TxS) (r:List Int) (ht:t.Fine) (hb:(R t true).length<=B) (hr:r=H (R t true)):
  evF (E60 R H T2 B) 20 124 [.agg t.c] ⟨0,[]⟩ (ZL 0 (.ret (.agg [.arr .u8 32 r])) 0 []):=by
 refine @Eq.mpr _ (let q1:=t.N;let q2:=t.M;
 ∃(t_1:TxS),
 let q5:=List.length (R t_1 true);let q6:=List.take q5 (ZW 0 (R t_1 true));let q7:=List.length q6;
 (t_1.num=t.num/\((q1=q1/\t_1.N=q1)/\∀(i:Nat),i<q1->Zk t.ins i=InS.c (t_1.ins i))/\(q2=q2/\t_1.M=q2)/\∀(i:Nat),i<q2->Zj t.outs i=ZK.c (t_1.outs i))/\TxS.Fine t_1/\Z0 (decide (0+q5<=q5)) (Z0 (decide (q5=q7)) (Z0 (decide (q7<=B)) (H q6=r/\True) False) False) False) (by kernel_rfl) ?_
 conv=>zeta
 try simp only [Z8]
 try simp only [Ze]
 try simp only [Za]
 try simp only [Zf]
 try simp only [Zg]
 try simp only [Z9]
 try simp only [Y_s]
 refine ⟨t,⟨rfl,⟨rfl,fun _ _=>rfl⟩,rfl,fun _ _=>rfl⟩,ht, ?_⟩
 rw [Z0M rfl]
 exact ⟨rfl,hb,hr.symm⟩
theorem ZlK (R:TxS->Bool->List Int) (H:List Int->List Int) (T2:List Int->List Int->List Int) (B:Nat) (t:TxS) (key r:List Int) (ht:t.Fine) (hk:key.length=32) (hb:(R t true).length<=B) (hl:(H (R t true)).length=32) (hr:r=T2 key (H (R t true))):
  evF (E60 R H T2 B) 20 62 [.agg t.c,.agg [.arr .u8 32 key]] ⟨0,[]⟩ (ZL 0 (.ret (.agg [.arr .u8 32 r])) 0 []):=by
 refine @Eq.mpr _ (let q1:=t.N;let q2:=t.M;
 ∃(t_1:TxS),
 let q5:=List.length (R t_1 true);let q6:=List.take q5 (ZW 0 (R t_1 true));let q7:=List.length q6;let q8:=H q6;
 (t_1.num=t.num/\((q1=q1/\t_1.N=q1)/\∀(i:Nat),i<q1->Zk t.ins i=InS.c (t_1.ins i))/\(q2=q2/\t_1.M=q2)/\∀(i:Nat),i<q2->Zj t.outs i=ZK.c (t_1.outs i))/\TxS.Fine t_1/\Z0 (decide (0+q5<=q5)) (Z0 (decide (q5=q7)) (Z0 (decide (q7<=B)) (Z0 (decide (List.length key=32)) (Z0 (decide (List.length q8=32)) (Z0 (decide (List.length key=32/\(32:Nat)=32/\List.length q8=32/\(32:Nat)=32)) (T2 key q8=r/\True) False) False) False) False) False) False) (by kernel_rfl) ?_
 conv=>zeta
 try simp only [Z8]
 try simp only [Ze]
 try simp only [Za]
 try simp only [Zf]
 try simp only [Zg]
 try simp only [Z9]
 try simp only [Y_s]
 refine ⟨t,⟨rfl,⟨rfl,fun _ _=>rfl⟩,rfl,fun _ _=>rfl⟩,ht, ?_⟩
 rw [Z0M rfl]
 repeat' (first|(refine And.intro ?_ ?_)|intro _)
 all_goals first|omega|assumption|trivial|exact hr.symm
def ZnP (Nm:TxS->List Int):ZG:=fun args h K=>ZH none h true 20 args fun a=>match a with
 | [.agg l]=>∃t,Z0d l t/\t.Fine/\K (.agg [.arr .u8 32 (Nm t)])
 | _=>False
def Z5R (Tg:List Int->TxS->List Int):ZG:=fun args h K=>ZH none h true 20 args fun a=>match a with
 | [.agg l,.agg [.arr .u8 32 key]]=>∃t,Z0d l t/\(t.Fine/\key.length=32)/\K (.agg [.arr .u8 32 (Tg key t)])
 | _=>False
structure Z5S (H:List Int->List Int) (T2:List Int->List Int->List Int):Prop where
 h:∀args h K,Z75 H 100000 args h K->Zi PP 206 args h fun o h'=>∃v,o=.ret v/\h'=h/\K v
 t:∀args h K,ZdW T2 args h K->Zi PP 125 args h fun o h'=>∃v,o=.ret v/\h'=h/\K v
 r:∀args h K,ZdB (W9 Zs) args h K->Zi PP 207 args h K
 hl:∀x,(H x).length=32
theorem Zjz {H:List Int->List Int} {T2:List Int->List Int->List Int} (hp:Z5S H T2):(E60 (W9 Zs) H T2 100000).Ok:=Zh.withP_ok (Zh.withP_ok (Zh.withF_ok Zp hp.r) hp.h) hp.t
@[irreducible] def Ze9 (H:List Int->List Int) (t:TxS):List Int:=H (W9 Zs t true)
@[irreducible] def Z4S (H:List Int->List Int) (T2:List Int->List Int->List Int) (key:List Int) (t:TxS):List Int:=T2 key (H (W9 Zs t true))
theorem Z8Q {H:List Int->List Int} {T2:List Int->List Int->List Int} (hp:Z5S H T2) (t:TxS) (key:List Int) (ht:t.Fine) (hk:key.length=32):Zy PP 62 [.agg t.c,.agg [.arr .u8 32 key]] (.agg [.arr .u8 32 (Z4S H T2 key t)]) 0 []:=by
 unfold Z4S
 have:=XR ht true (Nat.le_refl t.M)
 exact .evM (Zjz hp) (ZlK (W9 Zs) H T2 100000 t key _ ht hk (by have hb':(W9 Zs t true).length<=20000:=this;omega) (hp.hl _) rfl)
theorem ZbJ {H:List Int->List Int} {T2:List Int->List Int->List Int} (hp:Z5S H T2) (args:List AV) (h:Z6) (K:AV->Prop) (hl:Z5R (Z4S H T2) args h K):Zi PP 62 args h fun o h'=>∃v,o=.ret v/\h'=h/\K v:=by
 refine Zy.psumm (d:=20) (Zm _ _ _ _ _ hl fun a ha=> ?_)
 split at ha
 ·obtain ⟨t,h1,⟨h2,h3⟩,hK⟩:=ha
  exact ⟨_,(Z8Q hp t _ h2 h3).conv fun E r hr=>hr.head (fun _ hc=>h1.rel hc) (fun _ hc=>hc),fun _=>rfl,hK⟩
 ·exact ha.elim
theorem Bytes.u8 {xs:List Int} (h:Bytes xs):∀x∈xs,U8 x:=by
 intro x hx
 obtain ⟨i,hi,rfl⟩:=List.getElem_of_mem hx
 have:=h.h i
 rw [List.getD_eq_getElem?_getD,List.getElem?_eq_getElem hi] at this
 simp at this
 unfold U8
 omega
theorem ZjA:Z5S (Ue Qw) (Z0N Qw) where
 h:=fun args h K hl=>ZbA (B:=100000) (fun xs hx=>Z4R xs (by omega)) (by decide) Z3A args h K hl
 t:=fun args h K hl=>ZdX (B:=100000) (fun xs hx=>Z4R xs (by omega)) (by decide) Z3A args h K hl
 r:=Z8E
 hl:=fun x=>by unfold Ue;exact Z3A _
@[irreducible] def Za2 (t:TxS):List Int:=Ze9 (Ue Qw) t
@[irreducible] def Q1 (key:List Int) (t:TxS):List Int:=Z4S (Ue Qw) (Z0N Qw) key t
theorem Za3 (args:List AV) (h:Z6) (K:AV->Prop) (hl:Z5R Q1 args h K):Zi PP 62 args h fun o h'=>∃v,o=.ret v/\h'=h/\K v:=ZbJ ZjA args h K (by
 have e:Q1=Z4S (Ue Qw) (Z0N Qw):=by funext k t;unfold Q1;rfl
 rw [e] at hl;exact hl)
theorem Zea {t:TxS} (hf:t.Fine) (hb:QL t):Za2 t=Z1E t:=by
 have h1:=XR hf true (Nat.le_refl t.M)
 have h2:(W9 Zs t true).length<=20000:=h1
 unfold Za2 Ze9 Z1E
 exact Ze8 (Z8G hb true).u8 (by omega)
theorem Zeb (bs:List Int):∀x∈UT bs,U8 x:=by unfold UT;exact Z5Q _
theorem Zec (t:TxS):∀x∈Z1E t,U8 x:=by unfold Z1E;exact Zeb _
theorem ZbK (key:List Int) (t:TxS):Q1 key t=Z0N Qw key (Za2 t):=by unfold Q1 Z4S Za2 Ze9;rfl
theorem Z8R (key:List Int) (t:TxS):ZO key t=UU key (Z1E t):=by unfold ZO Z1E;rfl
theorem Z2b {key:List Int} {t:TxS} (hf:t.Fine) (hb:QL t) (hk:key.length=32):Q1 key t=ZO key t:=by
 rw [ZbK,Z8R,Zea hf hb,Zh0 hk (Zbm t) (Zec t)]
structure Zo where
 fund:List Int
 index:Int
 cap:Int
 dust:Int
 fee:Int
 delay:Int
 k0:List Int
 k1:List Int
def Zo.c (t:Zo):List AV:=[.arr .u8 32 t.fund,.int .i64 t.index,.int .i64 t.cap,.int .i64 t.dust,.int .i64 t.fee,.int .i64 t.delay,.arr .u8 32 t.k0,.arr .u8 32 t.k1]
structure Zo.Ok (t:Zo):Prop where
 k0:t.k0.length=32
 k1:t.k1.length=32
 b0:Bytes t.k0
 b1:Bytes t.k1
def Yr (t:Zo):Bool:=decide (0<=t.index/\t.index<=23)&&decide (1000<=t.cap/\t.cap<=1125899906842624)&&decide (1<=t.dust/\t.dust<=500)&&decide (0<=t.fee/\t.fee<=400)&&decide (1<=t.delay/\t.delay<=1000)&&(t.k0 !=t.k1)
theorem Z7e (b:Bool) (x y:Prop):Z0 b x y=((b=true->x)/\(b=false->y)):=by cases b<;>simp [Z0]
theorem ZlL (n a b:Int) (r:Bool) (hr:r=decide (a<=n/\n<=b)):
  evF G0 20 86 [.int .i64 n,.int .i64 a,.int .i64 b] ⟨0,[]⟩ (XI (fun v=>v=.bool r)):=by
 refine @Eq.mpr _ (Z0 (decide (a<=n)) (AV.bool (decide (n<=b))=AV.bool r) (AV.bool false=AV.bool r)) (by kernel_rfl) ?_
 simp only [Z7e]
 subst hr
 by_cases h1:a<=n<;>by_cases h2:n<=b<;>simp [h1,h2]
def inQ:ZG:=fun args _ K=>match args with
 | [.int .i64 n,.int .i64 a,.int .i64 b]=>K (.bool (decide (a<=n/\n<=b)))
 | _=>False
theorem Zed (args:List AV) (h:Z6) (K:AV->Prop) (hl:inQ args h K):Zi PP 86 args h fun o h'=>∃v,o=.ret v/\h'=h/\K v:=by
 unfold inQ at hl
 split at hl
 ·exact Yu Zp rfl (ZlL _ _ _ _ rfl) (fun u hu=>hu▸hl)
 ·exact hl.elim
noncomputable def E71:Zh:=G0.withP 86 inQ
theorem ZjB:E71.Ok:=Zh.withP_ok Zp Zed
theorem ZlM (t:Zo) (e:Int) (ht:t.Ok) (he:e=if Yr t=true then 0 else 2):
  evF E71 20 44 [.agg t.c] ⟨0,[]⟩ (XI (fun v=>v=.int .i64 e)):=by
 refine @Eq.mpr _ (let q1:=AV.int i64 2=AV.int i64 e;
 Z0 (decide (List.length t.k0=32/\List.length t.k1=32)) (Z0 (false==decide (0<=t.index/\t.index<=23)) q1 (Z0 (false==decide (1000<=t.cap/\t.cap<=1125899906842624)) q1 (Z0 (false==decide (1<=t.dust/\t.dust<=500)) q1 (Z0 (false==decide (0<=t.fee/\t.fee<=400)) q1 (Z0 (false==decide (1<=t.delay/\t.delay<=1000)) q1 (Z0 (false== !t.k0==t.k1) q1 (AV.int i64 0=AV.int i64 e))))))) False) (by kernel_rfl) ?_
 conv=>zeta
 try simp only [Z8]
 try simp only [Ze]
 try simp only [Za]
 try simp only [Zf]
 try simp only [Zg]
 try simp only [Z9]
 try simp only [Y_s]
 unfold Yr at he
 refine ⟨⟨ht.k0,ht.k1⟩, ?_⟩
 generalize decide (0<=t.index/\t.index<=23)=c1 at*
 generalize decide (1000<=t.cap/\t.cap<=1125899906842624)=c2 at*
 generalize decide (1<=t.dust/\t.dust<=500)=c3 at*
 generalize decide (0<=t.fee/\t.fee<=400)=c4 at*
 generalize decide (1<=t.delay/\t.delay<=1000)=c5 at*
 have h6:(t.k0 !=t.k1)= !(t.k0==t.k1):=rfl
 rw [h6] at he
 generalize (t.k0==t.k1)=c6 at*
 cases c1<;>cases c2<;>cases c3<;>cases c4<;>cases c5<;>cases c6<;>simp_all
theorem ZlN (t:Zo) (b:Bool) (ht:t.Ok) (hb:b=Yr t):
  evF G0 20 112 [.agg t.c] ⟨0,[]⟩ (XI (fun v=>v=.bool b)):=by
 refine @Eq.mpr _ (let q1:=t.cap;let q2:=AV.bool false=AV.bool b;
 Z0 (decide (t.index>=0)) (Z0 (decide (t.index<24)) (Z0 (decide (q1>=1000)) (Z0 (decide (q1>=0)) (Z0 (decide (q1<=1125899906842624)) (Z0 (decide (t.dust>=1)) (Z0 (decide (t.dust<=500)) (Z0 (decide (t.fee>=0)) (Z0 (decide (t.fee<=400)) (Z0 (decide (t.delay>=1)) (Z0 (decide (t.delay<=1000)) (Z0 (decide (List.length t.k0=32/\List.length t.k1=32)) ((AV.bool !t.k0==t.k1)=AV.bool b) False) q2) q2) q2) q2) q2) q2) q2) q2) q2) q2) q2) (by kernel_rfl) ?_
 conv=>zeta
 try simp only [Z8]
 try simp only [Ze]
 try simp only [Za]
 try simp only [Zf]
 try simp only [Zg]
 try simp only [Z9]
 try simp only [Y_s]
 subst hb
 unfold Yr
 repeat' (first|(refine And.intro ?_ ?_)|intro _|fail)
 all_goals first
  | exact ht.k0
  | exact ht.k1
  | (congr 1;symm;rw [Bool.eq_false_iff];simp only [ne_eq,Bool.and_eq_true,decide_eq_true_eq];intro h;omega)
  | (congr 1;have h1:(0<=t.index/\t.index<=23):=(by omega);have h2:(1000<=t.cap/\t.cap<=1125899906842624):=(by omega);have h3:(1<=t.dust/\t.dust<=500):=(by omega);have h4:(0<=t.fee/\t.fee<=400):=(by omega);have h5:(1<=t.delay/\t.delay<=1000):=(by omega);rw [decide_eq_true h1,decide_eq_true h2,decide_eq_true h3,decide_eq_true h4,decide_eq_true h5];rfl)
theorem Z7f (b:Bool) (x y:Prop):Z0 b x y=((b=true->x)/\(b=false->y)):=by cases b<;>simp [Z0]
theorem ZjC {x y:List Int} {b:Int} {i:Nat} {P:Prop} (hx:i<x.length) (hy:i<y.length) (bx:Bytes x) (yb:Bytes y) (hb:b=X4 (x.drop i) (y.drop i)) (hP:b=X4 (x.drop (i+1)) (y.drop (i+1))->P):
  Z0 (decide (x.getD i 0<y.getD i 0)) (AV.int .i64 (-1)=AV.int .i64 b) (Z0 (decide (x.getD i 0>y.getD i 0)) (AV.int .i64 1=AV.int .i64 b) P):=by
 have e1:x.drop i=x.getD i 0::x.drop (i+1):=by rw [List.drop_eq_getElem_cons hx];simp [List.getD_eq_getElem?_getD,hx]
 have e2:y.drop i=y.getD i 0::y.drop (i+1):=by rw [List.drop_eq_getElem_cons hy];simp [List.getD_eq_getElem?_getD,hy]
 rw [e1,e2] at hb
 have k1:=Z26 (bx.getD i) (yb.getD i)
 have k2:=Z26 (yb.getD i) (bx.getD i)
 generalize x.getD i 0=u at*
 generalize y.getD i 0=v at*
 simp only [X4,List.map_cons,Lib.compareBytes,k1.2,k2.2] at hb
 rw [Z7f,Z7f]
 refine ⟨fun h=> ?_,fun h=>⟨fun h'=> ?_,fun h'=> ?_⟩⟩
 ·have h:u<v:=by simpa using h
  rw [hb,if_pos h]
 ·have h:¬u<v:=by simpa using h
  have h':v<u:=by simpa using h'
  rw [hb,if_neg h,if_pos h']
 ·have h:¬u<v:=by simpa using h
  have h':¬v<u:=by simpa using h'
  rw [if_neg h,if_neg h'] at hb
  exact hP hb
theorem ZlO (x y:List Int) (b:Int) (hx:x.length=32) (hy:y.length=32) (bx:Bytes x) (yb:Bytes y) (hb:b=X4 (x.drop 0) (y.drop 0)):
  evF G0 20 204 [.agg [.arr .u8 32 x],.agg [.arr .u8 32 y]] ⟨0,[]⟩ (XI (fun v=>v=.int .i64 b)):=by
 refine @Eq.mpr _ (let q1:=AV.int i64 b;let q2:=AV.int i64 (-1)=q1;let q3:=AV.int i64 1=q1;
 Z0 (decide (List.getD x 0 0<List.getD y 0 0)) q2
 (Z0 (decide (List.getD x 0 0>List.getD y 0 0)) q3
 (Z0 (decide (List.getD x 1 0<List.getD y 1 0)) q2
 (Z0 (decide (List.getD x 1 0>List.getD y 1 0)) q3
 (Z0 (decide (List.getD x 2 0<List.getD y 2 0)) q2
 (Z0 (decide (List.getD x 2 0>List.getD y 2 0)) q3
 (Z0 (decide (List.getD x 3 0<List.getD y 3 0)) q2
 (Z0 (decide (List.getD x 3 0>List.getD y 3 0)) q3
 (Z0 (decide (List.getD x 4 0<List.getD y 4 0)) q2
 (Z0 (decide (List.getD x 4 0>List.getD y 4 0)) q3
 (Z0 (decide (List.getD x 5 0<List.getD y 5 0)) q2
 (Z0 (decide (List.getD x 5 0>List.getD y 5 0)) q3
 (Z0 (decide (List.getD x 6 0<List.getD y 6 0)) q2
 (Z0 (decide (List.getD x 6 0>List.getD y 6 0)) q3
 (Z0 (decide (List.getD x 7 0<List.getD y 7 0)) q2
 (Z0 (decide (List.getD x 7 0>List.getD y 7 0)) q3
 (Z0 (decide (List.getD x 8 0<List.getD y 8 0)) q2
 (Z0 (decide (List.getD x 8 0>List.getD y 8 0)) q3
 (Z0 (decide (List.getD x 9 0<List.getD y 9 0)) q2
 (Z0 (decide (List.getD x 9 0>List.getD y 9 0)) q3
 (Z0 (decide (List.getD x 10 0<List.getD y 10 0)) q2
 (Z0 (decide (List.getD x 10 0>List.getD y 10 0)) q3
 (Z0 (decide (List.getD x 11 0<List.getD y 11 0)) q2
 (Z0 (decide (List.getD x 11 0>List.getD y 11 0)) q3
 (Z0 (decide (List.getD x 12 0<List.getD y 12 0)) q2
 (Z0 (decide (List.getD x 12 0>List.getD y 12 0)) q3
 (Z0 (decide (List.getD x 13 0<List.getD y 13 0)) q2
 (Z0 (decide (List.getD x 13 0>List.getD y 13 0)) q3
 (Z0 (decide (List.getD x 14 0<List.getD y 14 0)) q2
 (Z0 (decide (List.getD x 14 0>List.getD y 14 0)) q3
 (Z0 (decide (List.getD x 15 0<List.getD y 15 0)) q2
 (Z0 (decide (List.getD x 15 0>List.getD y 15 0)) q3
 (Z0 (decide (List.getD x 16 0<List.getD y 16 0)) q2
 (Z0 (decide (List.getD x 16 0>List.getD y 16 0)) q3
 (Z0 (decide (List.getD x 17 0<List.getD y 17 0)) q2
 (Z0 (decide (List.getD x 17 0>List.getD y 17 0)) q3
 (Z0 (decide (List.getD x 18 0<List.getD y 18 0)) q2
 (Z0 (decide (List.getD x 18 0>List.getD y 18 0)) q3
 (Z0 (decide (List.getD x 19 0<List.getD y 19 0)) q2
 (Z0 (decide (List.getD x 19 0>List.getD y 19 0)) q3
 (Z0 (decide (List.getD x 20 0<List.getD y 20 0)) q2
 (Z0 (decide (List.getD x 20 0>List.getD y 20 0)) q3
 (Z0 (decide (List.getD x 21 0<List.getD y 21 0)) q2
 (Z0 (decide (List.getD x 21 0>List.getD y 21 0)) q3
 (Z0 (decide (List.getD x 22 0<List.getD y 22 0)) q2
 (Z0 (decide (List.getD x 22 0>List.getD y 22 0)) q3
 (Z0 (decide (List.getD x 23 0<List.getD y 23 0)) q2
 (Z0 (decide (List.getD x 23 0>List.getD y 23 0)) q3
 (Z0 (decide (List.getD x 24 0<List.getD y 24 0)) q2 (Z0 (decide (List.getD x 24 0>List.getD y 24 0)) q3 (Z0 (decide (List.getD x 25 0<List.getD y 25 0)) q2 (Z0 (decide (List.getD x 25 0>List.getD y 25 0)) q3 (Z0 (decide (List.getD x 26 0<List.getD y 26 0)) q2 (Z0 (decide (List.getD x 26 0>List.getD y 26 0)) q3 (Z0 (decide (List.getD x 27 0<List.getD y 27 0)) q2 (Z0 (decide (List.getD x 27 0>List.getD y 27 0)) q3 (Z0 (decide (List.getD x 28 0<List.getD y 28 0)) q2 (Z0 (decide (List.getD x 28 0>List.getD y 28 0)) q3 (Z0 (decide (List.getD x 29 0<List.getD y 29 0)) q2 (Z0 (decide (List.getD x 29 0>List.getD y 29 0)) q3 (Z0 (decide (List.getD x 30 0<List.getD y 30 0)) q2 (Z0 (decide (List.getD x 30 0>List.getD y 30 0)) q3 (Z0 (decide (List.getD x 31 0<List.getD y 31 0)) q2 (Z0 (decide (List.getD x 31 0>List.getD y 31 0)) q3 (AV.int i64 0=q1))))))))))))))))))))))))))))))))))))))))))))))))))))))))))))))))) (by kernel_rfl) ?_
 conv=>zeta
 iterate 32 refine ZjC (by omega) (by omega) bx yb hb fun hb=> ?_
 rw [List.drop_eq_nil_of_le (by omega),List.drop_eq_nil_of_le (by omega)] at hb
 have h0:X4 [] []=0:=rfl
 rw [hb,h0]
def Z7g:ZG:=fun args _ K=>match args with
 | [.agg [.arr .u8 32 fu,.int .i64 ix,.int .i64 ca,.int .i64 du,.int .i64 fe,.int .i64 de,.arr .u8 32 k0,.arr .u8 32 k1]]=>(Zo.Ok ⟨fu,ix,ca,du,fe,de,k0,k1⟩)/\K (.int .i64 (if Yr ⟨fu,ix,ca,du,fe,de,k0,k1⟩=true then 0 else 2))
 | _=>False
theorem Z3C (args:List AV) (h:Z6) (K:AV->Prop) (hl:Z7g args h K):Zi PP 44 args h fun o h'=>∃v,o=.ret v/\h'=h/\K v:=by
 unfold Z7g at hl
 split at hl
 ·obtain ⟨ht,hK⟩:=hl
  exact Yu ZjB rfl (ZlM ⟨_,_,_,_,_,_,_,_⟩ _ ht rfl) (fun u hu=>hu▸hK)
 ·exact hl.elim
def Z5T:ZG:=fun args _ K=>match args with
 | [.agg [.arr .u8 32 fu,.int .i64 ix,.int .i64 ca,.int .i64 du,.int .i64 fe,.int .i64 de,.arr .u8 32 k0,.arr .u8 32 k1]]=>(Zo.Ok ⟨fu,ix,ca,du,fe,de,k0,k1⟩)/\K (.bool (Yr ⟨fu,ix,ca,du,fe,de,k0,k1⟩))
 | _=>False
theorem Z4T (args:List AV) (h:Z6) (K:AV->Prop) (hl:Z5T args h K):Zi PP 112 args h fun o h'=>∃v,o=.ret v/\h'=h/\K v:=by
 unfold Z5T at hl
 split at hl
 ·obtain ⟨ht,hK⟩:=hl
  exact Yu Zp rfl (ZlN ⟨_,_,_,_,_,_,_,_⟩ _ ht rfl) (fun u hu=>hu▸hK)
 ·exact hl.elim
def Zee:ZG:=fun args _ K=>match args with
 | [.agg [.arr .u8 32 x],.agg [.arr .u8 32 y]]=>(x.length=32/\y.length=32)/\Bytes x/\Bytes y/\K (.int .i64 (X4 x y))
 | _=>False
theorem Za4 (args:List AV) (h:Z6) (K:AV->Prop) (hl:Zee args h K):Zi PP 204 args h fun o h'=>∃v,o=.ret v/\h'=h/\K v:=by
 unfold Zee at hl
 split at hl
 ·obtain ⟨⟨h1,h2⟩,b1,b2,hK⟩:=hl
  exact Yu Zp rfl (ZlO _ _ _ h1 h2 b1 b2 rfl) (fun u hu=>hu▸hK)
 ·exact hl.elim
def Xb {α:Type} (lt:α->α->Bool) (x:α):List α->List α
 | []=>[x]
 | y::r=>match lt x y with
  | true=>x::y::r
  | false=>y::Xb lt x r
def XU {α:Type} (lt:α->α->Bool):List α->List α->List α
 | acc,[]=>acc
 | acc,x::r=>XU lt (Xb lt x acc) r
def Z3D {α:Type} (lt:α->α->Bool) (l:List α):Prop:=l.Pairwise fun a b=>lt b a=false
structure WO {α:Type} (lt:α->α->Bool):Prop where
 asym:∀x y,lt x y=true->lt y x=false
 neg:∀x y z,lt x y=true->lt z y=false->lt x z=true
theorem Z7h {α:Type} {lt:α->α->Bool} {x z:α}:∀{l:List α},z∈Xb lt x l↔z=x\/z∈l
 | []=>by simp [Xb]
 | y::r=>by
  unfold Xb
  split
  ·simp
  ·simp only [List.mem_cons,Z7h (l:=r)]
   constructor<;>(intro h;rcases h with h|h|h<;>simp [h])
theorem Z3E {α:Type} {lt:α->α->Bool} {x:α}:∀{l:List α},(Xb lt x l).length=l.length+1
 | []=>rfl
 | y::r=>by
  unfold Xb
  split
  ·simp
  ·simp [Z3E (l:=r)]
theorem Z4U {α:Type} {lt:α->α->Bool} {x:α}:∀{l:List α},(Xb lt x l).Perm (x::l)
 | []=>.refl _
 | y::r=>by
  unfold Xb
  split
  ·exact .refl _
  ·exact (List.Perm.cons y Z4U).trans (List.Perm.swap x y r)
theorem Z7i {α:Type} {lt:α->α->Bool} (wo:WO lt) {x:α}:∀{l:List α},Z3D lt l->Z3D lt (Xb lt x l)
 | [],_=>by simp [Xb,Z3D]
 | y::r,h=>by
  unfold Z3D at h
  rw [List.pairwise_cons] at h
  unfold Xb
  split
  ·rename_i hx
   unfold Z3D
   rw [List.pairwise_cons,List.pairwise_cons]
   refine ⟨fun z hz=> ?_,h.1,h.2⟩
   rcases List.mem_cons.1 hz with rfl|hz
   ·exact wo.asym _ _ hx
   ·cases hzx:lt z x with
    | false=>rfl
    | true=>
     have:=h.1 z hz
     -- z < x < y, so z < y
     have h2:=wo.neg z x y hzx (wo.asym _ _ hx)
     rw [h2] at this;cases this
  ·rename_i hx
   unfold Z3D
   rw [List.pairwise_cons]
   refine ⟨fun z hz=> ?_,Z7i wo h.2⟩
   rcases Z7h.1 hz with rfl|hz
   ·exact hx
   ·exact h.1 z hz
theorem Za5 {α:Type} {lt:α->α->Bool} (wo:WO lt) {x:α}:∀{l:List α} {j:Nat},Z3D lt l->j<=l.length->(∀y∈l.drop j,lt x y=true)->(∀y,l[j-1]? =some y->0<j->lt x y=false)->
  l.take j++x::l.drop j=Xb lt x l
 | [],j,_,hj,_,_=>by simp at hj;simp [Xb]
 | y::r,0,_,_,h1,_=>by
  have:=h1 y (by simp)
  unfold Xb
  rw [this];simp
 | y::r,j+1,ho,hj,h1,h2=>by
  unfold Z3D at ho
  rw [List.pairwise_cons] at ho
  have hy:lt x y=false:=by
   cases hxy:lt x y with
   | false=>rfl
   | true=>
    cases j with
    | zero=>rw [h2 y (by simp) (by omega)] at hxy;cases hxy
    | succ k=>
     simp at hj
     have hk:k<r.length:=by omega
     have h3:=h2 r[k] (by simp [hk]) (by omega)
     have h4:=ho.1 r[k] (List.getElem_mem hk)
     rw [wo.neg x y _ hxy h4] at h3;cases h3
  unfold Xb
  rw [hy]
  simp only [List.take_succ_cons,List.drop_succ_cons,List.cons_append,List.cons.injEq,true_and]
  refine Za5 wo ho.2 (by simpa using hj) (by simpa using h1) fun z hz hj'=>h2 z ?_ (by omega)
  cases j with
  | zero=>omega
  | succ k=>simpa using hz
theorem Z4V {α:Type} {lt:α->α->Bool} (wo:WO lt):∀{l acc:List α},Z3D lt acc->Z3D lt (XU lt acc l)
 | [],_,h=>h
 | _::_,_,h=>by unfold XU;exact Z4V wo (Z7i wo h)
theorem Uf {α:Type} {lt:α->α->Bool}:∀{l acc:List α},(XU lt acc l).Perm (acc++l)
 | [],acc=>by simp [XU]
 | x::r,acc=>by
  unfold XU
  refine Uf.trans ?_
  refine (List.Perm.append_right r Z4U).trans ?_
  rw [List.cons_append]
  exact List.perm_middle.symm
theorem Z4W {α:Type} {lt:α->α->Bool} {l acc:List α}:(XU lt acc l).length=acc.length+l.length:=by
 rw [(Uf (lt:=lt)).length_eq,List.length_append]
theorem Z3F {α:Type} {lt:α->α->Bool} {x:α}:∀{l acc:List α},XU lt acc (l++[x])=Xb lt x (XU lt acc l)
 | [],acc=>rfl
 | y::r,acc=>by
  simp only [List.cons_append,XU]
  exact Z3F
def X7:List Int->Nat
 | []=>0
 | a::r=>(WP a).toNat*256^r.length+X7 r
theorem Z5U:∀(x:List Int),X7 x<256^x.length
 | []=>by simp [X7]
 | a::r=>by
  have h1:=Z5U r
  have h2:=(WP a).toNat_lt
  simp only [X7,List.length_cons,Nat.pow_succ]
  have h3:(WP a).toNat*256^r.length<=255*256^r.length:=Nat.mul_le_mul_right _ (by omega)
  omega
theorem Z7j:∀(x y:List Int),x.length=y.length->X4 x y=if X7 x<X7 y then -1 else if X7 y<X7 x then 1 else 0
 | [],[],_=>by simp [X4,Lib.compareBytes,X7]
 | [],b::s,h=>by simp at h
 | a::r,[],h=>by simp at h
 | a::r,b::s,h=>by
  have h':r.length=s.length:=by simpa using h
  have ih:=Z7j r s h'
  have e1:X7 (a::r)=(WP a).toNat*256^r.length+X7 r:=rfl
  have e2:X7 (b::s)=(WP b).toNat*256^r.length+X7 s:=by rw [h'];rfl
  have e3:X4 (a::r) (b::s)=if (WP a).toNat<(WP b).toNat then -1 else if (WP b).toNat<(WP a).toNat then 1 else X4 r s:=by
   unfold X4;simp only [List.map_cons,Lib.compareBytes,UInt8.lt_iff_toNat_lt]
  have h1:=Z5U r
  have h2:=Z5U s
  rw [<-h'] at h2
  rw [e3]
  generalize X7 (a::r)=A at*
  generalize X7 (b::s)=B at*
  generalize (WP a).toNat=u at*
  generalize (WP b).toNat=v at*
  generalize hM:256^r.length=M at*
  have hs:∀p q:Nat,p<q->p*M+M<=q*M:=fun p q hpq=>by
   have:(p+1)*M<=q*M:=Nat.mul_le_mul_right _ hpq
   rw [Nat.add_mul,Nat.one_mul] at this
   exact this
  by_cases c1:u<v
  ·have:=hs u v c1
   rw [if_pos c1,if_pos (by omega)]
  ·rw [if_neg c1]
   by_cases c2:v<u
   ·have:=hs v u c2
    rw [if_pos c2,if_neg (by omega),if_pos (by omega)]
   ·rw [if_neg c2,ih]
    have:u=v:=by omega
    subst this
    simp only [show (A<B)=(X7 r<X7 s) from propext (by omega),show (B<A)=(X7 s<X7 r) from propext (by omega)]
structure Zc where
 o:ZK
 id:Int
 what:Int
def Zc.c (m:Zc):List AV:=[.int .i64 m.o.kind,.int .i64 m.o.amount,.arr .u8 32 m.o.owner,.arr .u8 32 m.o.other,.arr .u8 32 m.o.point,.arr .u8 32 m.o.hash,.int .i64 m.o.delay,.int .i64 m.o.expiry,.int .i64 m.id,.int .i64 m.what]
structure Zc.Ok (m:Zc):Prop where
 owner:m.o.owner.length=32
 other:m.o.other.length=32
 point:m.o.point.length=32
 hash:m.o.hash.length=32
def Yk:Zc:=⟨⟨0,0,[],[],[],[],0,0⟩,0,0⟩
def Q3 (a b:Int):Int:=if a<b then -1 else if b<a then 1 else 0
def ZbL (a b:Zc):Int:=
 if Q3 a.o.amount b.o.amount≠0 then Q3 a.o.amount b.o.amount else
 if Q3 a.o.kind b.o.kind≠0 then Q3 a.o.kind b.o.kind else
 if Q3 a.o.expiry b.o.expiry≠0 then Q3 a.o.expiry b.o.expiry else
 if X4 a.o.hash b.o.hash≠0 then X4 a.o.hash b.o.hash else Q3 a.id b.id
def ltM (a b:Zc):Bool:=decide (a.o.amount<b.o.amount\/(a.o.amount=b.o.amount/\(a.o.kind<b.o.kind\/(a.o.kind=b.o.kind/\(a.o.expiry<b.o.expiry\/(a.o.expiry=b.o.expiry/\(X7 a.o.hash<X7 b.o.hash\/(X7 a.o.hash=X7 b.o.hash/\a.id<b.id))))))))
theorem VU (a b:Int):(a<b/\Q3 a b= -1)\/(b<a/\Q3 a b=1)\/(a=b/\Q3 a b=0):=by unfold Q3;omega
theorem Z4X {x y:List Int} (h:x.length=y.length):(X7 x<X7 y/\X4 x y= -1)\/(X7 y<X7 x/\X4 x y=1)\/(X7 x=X7 y/\X4 x y=0):=by
 rw [Z7j x y h];omega
theorem Zh1 {a b:Zc} (ha:a.Ok) (hb:b.Ok):decide (ZbL a b<0)=ltM a b:=by
 unfold ZbL ltM
 have h1:=VU a.o.amount b.o.amount
 have h2:=VU a.o.kind b.o.kind
 have h3:=VU a.o.expiry b.o.expiry
 have h4:=Z4X (ha.hash.trans hb.hash.symm)
 have h5:=VU a.id b.id
 rw [decide_eq_decide]
 generalize Q3 a.o.amount b.o.amount=c1 at*
 generalize Q3 a.o.kind b.o.kind=c2 at*
 generalize Q3 a.o.expiry b.o.expiry=c3 at*
 generalize X4 a.o.hash b.o.hash=c4 at*
 generalize Q3 a.id b.id=c5 at*
 generalize X7 a.o.hash=v1 at*
 generalize X7 b.o.hash=v2 at*
 omega
theorem Zef:WO ltM where
 asym x y h:=by
  unfold ltM at*
  simp only [decide_eq_true_eq,decide_eq_false_iff_not] at*
  generalize X7 x.o.hash=v1 at*
  generalize X7 y.o.hash=v2 at*
  omega
 neg x y z h h2:=by
  unfold ltM at*
  simp only [decide_eq_true_eq,decide_eq_false_iff_not] at*
  generalize X7 x.o.hash=v1 at*
  generalize X7 y.o.hash=v2 at*
  generalize X7 z.o.hash=v3 at*
  omega
def ZZ (l:List Zc):List Zc:=XU ltM [] l
def Zn (l:List Zc) (i:Nat):List AV:=(l.getD i Yk).c
def byL:List AV:=[.func (.func 170) [] [],.func (.func 172) [] [],.func (.func 174) [] [],.func (.func 175) [] [],.func (.func 176) [] []]
theorem Za6 {a b r c:Int} {P X Y:Prop} (hr:r=if Q3 a b≠0 then Q3 a b else c) (hP:r=c->P):
  Z0 (a !=a) X (Z0 (b !=b) Y (Z0 (decide (a<b)) (Z0 (decide (-1=r)) True False) (Z0 (decide (a>b)) (Z0 (decide (1=r)) True False) P))):=by
 rw [bne_self_eq_false,bne_self_eq_false]
 show Z0 (decide (a<b)) _ (Z0 (decide (a>b)) _ P)
 rcases VU a b with ⟨h1,h2⟩|⟨h1,h2⟩|⟨h1,h2⟩
 ·rw [decide_eq_true h1,hr,h2];trivial
 ·rw [decide_eq_false (by omega:¬a<b),decide_eq_true (show a>b from h1),hr,h2];trivial
 ·rw [decide_eq_false (by omega:¬a<b),decide_eq_false (show ¬a>b by omega)]
  exact hP (by rw [hr,h2];rfl)
theorem ZlP (a b:Zc) (r:Int) (ha:a.Ok) (hb:b.Ok) (hr:r=ZbL a b):
  evF G0 20 241 [.agg a.c,.agg b.c,.pview [.vrows 1 5 (ZT byL 0 1) 5] 0] ⟨0,[]⟩ (ZL 0 (.ret (.int .i64 r)) 0 []):=by
 refine @Eq.mpr _ (let q1:=a.o;let q2:=q1.amount;let q3:=b.o;let q4:=q3.amount;let q5:=q4 !=q4;let q6:=q1.kind;let q7:=q3.kind;let q8:=q7 !=q7;let q9:=q1.expiry;let q10:=q3.expiry;let q11:=q10 !=q10;let q12:=q1.hash;let q13:=q3.hash;let q14:=X4 q12 q13;let q15:=a.id;let q16:=b.id;let q17:=q16 !=q16;let q18:=Z0 (decide (0=r)) True False;let q19:=Z0 (decide (-1=r)) True False;let q20:=Z0 (decide (1=r)) True False;let q21:=Z0 (decide (u8=u8/\List.length q12=32)) (Z0 (decide (u8=u8/\List.length q13=32)) (Z0 (q14 !=0) (Z0 (decide (q14=r)) True False) (Z0 (q15 !=q15) (Z0 q17 q18 q19) (Z0 q17 q20 (Z0 (decide (q15<q16)) q19 (Z0 (decide (q15>q16)) q20 q18))))) False) False;let q22:=Z0 (q9 !=q9) (Z0 q11 q21 q19) (Z0 q11 q20 (Z0 (decide (q9<q10)) q19 (Z0 (decide (q9>q10)) q20 q21)));let q23:=Z0 (q6 !=q6) (Z0 q8 q22 q19) (Z0 q8 q20 (Z0 (decide (q6<q7)) q19 (Z0 (decide (q6>q7)) q20 q22)));
 Z0 (q2 !=q2) (Z0 q5 q23 q19) (Z0 q5 q20 (Z0 (decide (q2<q4)) q19 (Z0 (decide (q2>q4)) q20 q23)))) (by kernel_rfl) ?_
 conv=>zeta
 unfold ZbL at hr
 refine Za6 hr fun hr=>Za6 hr fun hr=>Za6 hr fun hr=> ?_
 rw [decide_eq_true (show u8=u8/\a.o.hash.length=32 from ⟨rfl,ha.hash⟩),decide_eq_true (show u8=u8/\b.o.hash.length=32 from ⟨rfl,hb.hash⟩)]
 show Z0 (X4 a.o.hash b.o.hash !=0) _ _
 by_cases h:X4 a.o.hash b.o.hash=0
 ·rw [h]
  rw [if_neg (by simp [h])] at hr
  refine Za6 (c:=0) ?_ fun hr=>by rw [hr];trivial
  rw [hr];split<;>simp_all
 ·rw [if_pos h] at hr
  rw [bne_iff_ne.2 h,hr,decide_eq_true rfl];trivial
def ZlQ:ZG:=fun args h K=>ZH none h true 20 args fun a=>match a with
 | [.agg ca,.agg cb,.pview [.vrows 1 5 f 5] 0]=>∃a b,ca=Zc.c a/\cb=Zc.c b/\f=ZT byL 0 1/\(a.Ok/\b.Ok)/\K (.int .i64 (ZbL a b))
 | _=>False
theorem Zh2 (args:List AV) (h:Z6) (K:AV->Prop) (hl:ZlQ args h K):Zi PP 241 args h fun o h'=>∃v,o=.ret v/\h'=h/\K v:=by
 refine Zy.psumm (d:=20) (Zm _ _ _ _ _ hl fun a ha=> ?_)
 split at ha
 ·obtain ⟨a,b,rfl,rfl,rfl,⟨h1,h2⟩,hK⟩:=ha
  exact ⟨_,.evM Zp (ZlP a b _ h1 h2 rfl),fun _=>rfl,hK⟩
 ·exact ha.elim
theorem and_mk {a b:Bool} (h1:a=true) (h2:b=true):(a&&b)=true:=by rw [h1,h2];rfl
theorem Zeg {E:Env} {w:World} {sz n:Nat} {g g':Nat->List AV} (hg:∀i,i<n->g' i=g i) (he:Emb E ⟨1,[(0,.rows sz n g')]⟩ w):Emb E ⟨1,[(0,.rows sz n g)]⟩ w:=by
 have hget:∀(f:Nat->List AV) x B,(Z6.mk 1 [(0,.rows sz n f)]).get x=some B->x=0/\B=.rows sz n f:=fun f x B hx=>by
  simp only [Z6.get,ZV] at hx
  split at hx
  ·rename_i hb
   cases hx
   exact ⟨(Nat.eq_of_beq_eq_true hb).symm,rfl⟩
  ·cases hx
 have h0:∀f:Nat->List AV,(Z6.mk 1 [(0,.rows sz n f)]).get 0=some (.rows sz n f):=fun f=>rfl
 refine ⟨he.fresh,fun x B hx=> ?_,fun x B hx=> ?_,fun x y B B' b N N' hx hy h1 h2=> ?_,he.imm,fun a c x B N hi hx hb=> ?_⟩
 ·obtain ⟨rfl,rfl⟩:=hget _ _ _ hx;exact he.lt 0 _ (h0 _)
 ·obtain ⟨rfl,rfl⟩:=hget _ _ _ hx
  have:=he.own 0 _ (h0 g')
  cases this with
  | rows0 _ _ _ hn hb=>exact .rows0 _ _ _ hn hb
  | rows _ _ _ b cells elem fr gv hb hw hf hc hl hv=>exact .rows _ _ _ b cells elem fr gv hb hw hf (fun i hi=>hg i hi▸hc i hi) hl hv
 ·obtain ⟨rfl,rfl⟩:=hget _ _ _ hx
  obtain ⟨rfl,rfl⟩:=hget _ _ _ hy
  rfl
 ·obtain ⟨rfl,rfl⟩:=hget _ _ _ hx
  exact he.sep a c 0 _ N hi (h0 g') hb
theorem Spec.rows {P:Program} {f:FuncId} {args:List AV} {sz n:Nat} {g g':Nat->List AV} {o:Out} {nx:Nat} {bs:List (Nat×Blk)} (hg:∀i,i<n->g' i=g i) (h:Spec P f args ⟨1,[(0,.rows sz n g)]⟩ o nx bs):Spec P f args ⟨1,[(0,.rows sz n g')]⟩ o nx bs:=by
 intro E w rs he hl
 have he':=Zeg hg he
 refine (h E w rs he' hl).mono ?_
 rintro e w' ⟨E',hev,ho⟩
 have own:∀b,Xg E ⟨1,[(0,.rows sz n g)]⟩ b↔Xg E ⟨1,[(0,.rows sz n g')]⟩ b:=fun b=>by
  unfold Xg
  constructor
  ·rintro ⟨x,B,N,hx,hb⟩
   simp only [Z6.get,ZV] at hx
   split at hx
   ·rename_i hq;have:=Nat.eq_of_beq_eq_true hq;subst this;exact ⟨0,_,N,rfl,hb⟩
   ·cases hx
  ·rintro ⟨x,B,N,hx,hb⟩
   simp only [Z6.get,ZV] at hx
   split at hx
   ·rename_i hq;have:=Nat.eq_of_beq_eq_true hq;subst this;exact ⟨0,_,N,rfl,hb⟩
   ·cases hx
 exact ⟨E',⟨hev.le,hev.emb,hev.size,hev.os,hev.tape,hev.output,fun b hb hn=>hev.keep b hb (fun h=>hn ((own b).1 h)),fun b hb=>(hev.own b hb).imp (own b).1 id,hev.imm⟩,ho⟩
noncomputable def E82:Zh:=G0.withP 241 ZlQ
theorem Zeh:E82.Ok:=Zh.withP_ok Zp Zh2
def Zh3:AV:=.func (.func 241) [] [.pview [.vrows 1 5 (ZT byL 0 1) 5] 0]
def isH (n:Nat) (L:List Zc):Z6:=⟨1,[(0,.rows 134 n (Zn L))]⟩
def isT (n lo:Nat) (A B:Int) (l:Y1):Y1:=l++[(2,.int .i64 B),(1,.int .i64 A),(3,Zh3),(0,.nslice ⟨0,0,134,0,0⟩ 134 n lo)]
def Z3X (n lo:Nat) (A B I:Int) (L:List Zc):St:=⟨53,isT n lo A B [(8,.int .i64 I)],isH n L,[]⟩
def Zh4 (n lo:Nat) (A B I J:Int) (L:List Zc):St:=⟨53,isT n lo A B [(9,.int .i64 J),(8,.int .i64 I)],isH n L,[]⟩
theorem Xo (L:List Zc) (i:Nat):plainC (Zn L i)=true:=rfl
theorem Yd {k:Nat} {τ:Ren} {n:Nat} {L:List Zc} {f:Nat->List AV} (h:∀i,i<n->f i=Zn L i):Zr k τ n (Zn L) f:=
 Z1f h (fun i _=>Xo L i) (fun i _ v hv=>by
  simp only [Zn,Zc.c,List.mem_cons,List.not_mem_nil,or_false] at hv
  rcases hv with rfl|rfl|rfl|rfl|rfl|rfl|rfl|rfl|rfl|rfl<;>first|exact .inl rfl|exact .inr ⟨_,_,_,rfl⟩)
theorem Za7 {L:List Zc} (h:∀m∈L,m.Ok) {i:Nat} (hi:i<L.length):(L.getD i Yk).Ok:=by
 rw [List.getD_eq_getElem?_getD,List.getElem?_eq_getElem hi]
 exact h _ (List.getElem_mem hi)
theorem Zei {f:Nat->List AV} {J J1 i:Nat} {x y:List AV} (hx:x=f J) (hy:y=f J1):QM (QM f J y) J1 x i=if i=J1 then f J else if i=J then f J1 else f i:=by
 rw [Wy,Wy]
 by_cases h1:i=J1
 ·subst h1;rw [Nat.beq_refl,if_pos rfl,hx]
 ·rw [ZB h1,if_neg h1]
  by_cases h2:i=J
  ·subst h2;rw [Nat.beq_refl,if_pos rfl,hy]
  ·rw [ZB h2,if_neg h2]
theorem ZnQ (n lo A B I J:Nat) (L L1:List Zc) (Z1 Z2:Prop) (hn:n<900000000000) (hJ:J<n) (hL:L.length=n) (hok:∀m∈L,m.Ok) (hsw:A<J->∀i,i<n->Zn L1 i=if i=J-1 then Zn L J else if i=J then Zn L (J-1) else Zn L i) (h1:A<J->ltM (L.getD J Yk) (L.getD (J-1) Yk)=true->Z1) (h2:J<=A\/ltM (L.getD J Yk) (L.getD (J-1) Yk)=false->Z2):
  ZM E82 20 293 2 1 (Zh4 n lo A B I J L) (rdM 1 2 9 (Zh4 n lo A B I ((J-1:Nat):Int) L1) (Z3X n lo A B I L) (Z3X n lo A B I L) (Z3X n lo A B I L) Z1 Z2 False False):=by
 refine @Eq.mpr _ (let q1:=decide (0<=(↑J:Int)/\(↑J:Int)<(↑n:Int));let q2:=0+Int.toNat (↑J:Int);let q3:=wrap i64 ((↑J:Int)-1);let q4:=decide (0<=q3/\q3<(↑n:Int));let q5:=0+Int.toNat q3;let q6:=List.getD L q2 Yk;let q7:=q6.o;let q8:=[AV.int i64 q7.kind,AV.int i64 q7.amount,AV.arr u8 32 q7.owner,AV.arr u8 32 q7.other,AV.arr u8 32 q7.point,AV.arr u8 32 q7.hash,AV.int i64 q7.delay,AV.int i64 q7.expiry,AV.int i64 q6.id,AV.int i64 q6.what];let q9:=List.getD L q5 Yk;let q10:=q9.o;let q11:=[AV.int i64 q10.kind,AV.int i64 q10.amount,AV.arr u8 32 q10.owner,AV.arr u8 32 q10.other,AV.arr u8 32 q10.point,AV.arr u8 32 q10.hash,AV.int i64 q10.delay,AV.int i64 q10.expiry,AV.int i64 q9.id,AV.int i64 q9.what];let q12:=ZT byL 0 1;let q13:=decide ((↑I:Int)=(↑I:Int));let q14:=decide ((↑B:Int)=(↑B:Int));let q15:=decide ((↑A:Int)=(↑A:Int));let q16:=[AV.vrows 1 5 q12 5];let q17:=q16=q16;let q18:=decide (n=n);let q19:=decide (lo<=lo);let q20:=Zn L;let q21:=Z0 q13 (Z0 q14 (Z0 q15 (q17/\Z0 q18 (Z0 q19 (Z0 q18 (Zr 1 [] n q20 q20/\Z2) False) False) False) False) False) False;
 Z0 (decide ((↑J:Int)>(↑A:Int))) (Z0 q1 (Z0 (decide (q2<n)) (Z0 q4 (Z0 (decide (q5<n)) (∃(a:Zc),∃(b:Zc),q8=Zc.c a/\q11=Zc.c b/\q12=q12/\(Zc.Ok a/\Zc.Ok b)/\Z0 (decide (ZbL a b<0)) (Z0 q4 (Z0 (decide (q5<n)) (Z0 q1 (Z0 (decide (q2<n)) (Z0 q1 (Z0 (decide (q2<n)) (Z0 q4 (Z0 (decide (q5<n)) (Z0 (decide (q3=(↑(J-1):Int))) (Z0 q13 (Z0 q14 (Z0 q15 (q17/\Z0 q18 (Z0 q19 (Z0 q18 (Zr 1 [] n (Zn L1) (QM (QM q20 q2 q11) q5 q8)/\Z1) False) False) False) False) False) False) False) False) False) False) False) False) False) False) False) q21) False) False) False) False) q21) (by kernel_rfl) ?_
 conv=>zeta
 try simp only [Z8]
 try simp only [Ze]
 try simp only [Za]
 try simp only [Zf]
 try simp only [Zg]
 try simp only [Z9]
 try simp only [Y_s]
 refine ⟨fun hc=> ?_,fun hc=>⟨Yd fun _ _=>rfl,h2 (.inl (by omega))⟩⟩
 have key:i64.wrap ((J:Int)-1)=((J-1:Nat):Int):=by rw [w64 (by omega)];omega
 rw [key]
 simp only [Int.toNat_natCast]
 have o1:(L.getD J Yk).Ok:=Za7 hok (by omega)
 have o2:(L.getD (J-1) Yk).Ok:=Za7 hok (by omega)
 have hlt:=Zh1 o1 o2
 refine ⟨by omega,by omega,by omega,by omega,L.getD J Yk,L.getD (J-1) Yk,rfl,rfl,⟨o1,o2⟩,fun hm=> ?_,fun hm=>⟨Yd fun _ _=>rfl,h2 (.inr (by rw [<-hlt];simpa using hm))⟩⟩
 refine ⟨by omega,by omega,by omega,by omega,by omega,by omega,by omega,by omega,trivial,Yd fun i hi=> ?_,h1 (by omega) (by rw [<-hlt];simpa using hm)⟩
 rw [hsw (by omega) i hi]
 exact Zei rfl rfl
def isL (a p:List Zc) (x:Zc) (r:List Zc) (m:Nat):List Zc:=a++(p.take (p.length-m)++x::(p.drop (p.length-m)++r))
theorem Zh5 {a p r:List Zc} {x:Zc} {m:Nat}:(isL a p x r m).length=a.length+p.length+1+r.length:=by
 unfold isL
 simp only [List.length_append,List.length_cons,List.length_take,List.length_drop]
 omega
theorem Za8 {a p r:List Zc} {x:Zc} {m:Nat} {z:Zc}:z∈isL a p x r m↔z∈a\/z∈p\/z=x\/z∈r:=by
 unfold isL
 have e:z∈p↔z∈p.take (p.length-m)\/z∈p.drop (p.length-m):=by
  rw [<-List.mem_append,List.take_append_drop]
 rw [e]
 simp only [List.mem_append,List.mem_cons]
 constructor
 ·rintro (h|h|h|h|h)<;>simp [h]
 ·rintro (h|(h|h)|h|h)<;>simp [h]
theorem Zej {a p r:List Zc} {x:Zc} {m:Nat} (hm:m<=p.length):(isL a p x r m).getD (a.length+p.length-m) Yk=x:=by
 unfold isL
 rw [List.getD_eq_getElem?_getD,List.getElem?_append_right (by omega),List.getElem?_append_right (by rw [List.length_take];omega)]
 have:a.length+p.length-m-a.length-(p.take (p.length-m)).length=0:=by rw [List.length_take];omega
 rw [this];rfl
theorem Zek {a p r:List Zc} {x:Zc} {m:Nat} (hm:m<p.length):(isL a p x r m).getD (a.length+p.length-m-1) Yk=p.getD (p.length-m-1) Yk:=by
 unfold isL
 rw [List.getD_eq_getElem?_getD,List.getElem?_append_right (by omega),List.getElem?_append_left (by rw [List.length_take];omega),List.getElem?_take,if_pos (by omega),<-List.getD_eq_getElem?_getD]
 congr 1
 omega
theorem Zel {a p r:List Zc} {x:Zc} {m:Nat} (hm:m<p.length) (i:Nat):Zn (isL a p x r (m+1)) i=if i=a.length+p.length-m-1 then Zn (isL a p x r m) (a.length+p.length-m) else if i=a.length+p.length-m then Zn (isL a p x r m) (a.length+p.length-m-1) else Zn (isL a p x r m) i:=by
 unfold Zn
 rw [Zej (by omega),Zek hm]
 have hx:=Zej (a:=a) (p:=p) (r:=r) (x:=x) (m:=m+1) (by omega)
 by_cases h1:i=a.length+p.length-m-1
 ·rw [if_pos h1,h1,show a.length+p.length-m-1=a.length+p.length-(m+1) by omega,hx]
 ·rw [if_neg h1]
  have e:p.length-m=(p.length-(m+1))+1:=by omega
  have hd:p.drop (p.length-(m+1))=p.getD (p.length-m-1) Yk::p.drop (p.length-m):=by
   rw [List.drop_eq_getElem_cons (by omega),show p.length-(m+1)+1=p.length-m by omega]
   congr 1
   rw [List.getD_eq_getElem?_getD,List.getElem?_eq_getElem (by omega)]
   simp only [Option.getD_some]
   congr 1
  have ht:p.take (p.length-m)=p.take (p.length-(m+1))++[p.getD (p.length-m-1) Yk]:=by
   rw [e,List.take_succ_eq_append_getElem (by omega)]
   congr 2
   rw [List.getD_eq_getElem?_getD,List.getElem?_eq_getElem (by omega)]
   simp only [Option.getD_some]
   congr 1
  have l1:(p.take (p.length-(m+1))).length=p.length-(m+1):=by rw [List.length_take];omega
  generalize p.getD (p.length-m-1) Yk=y at*
  have hm1:isL a p x r (m+1)=(a++p.take (p.length-(m+1)))++(x::y::(p.drop (p.length-m)++r)):=by
   unfold isL;rw [hd];simp
  have hm0:isL a p x r m=(a++p.take (p.length-(m+1)))++(y::x::(p.drop (p.length-m)++r)):=by
   unfold isL;rw [ht];simp
  rw [hm1,hm0]
  have l2:(a++p.take (p.length-(m+1))).length=a.length+p.length-m-1:=by rw [List.length_append,l1];omega
  generalize a++p.take (p.length-(m+1))=U at*
  generalize p.drop (p.length-m)++r=V at*
  by_cases h2:i=a.length+p.length-m
  ·rw [if_pos h2,List.getD_eq_getElem?_getD,List.getElem?_append_right (by omega),show i-U.length=1 by omega]
   rfl
  ·rw [if_neg h2]
   rcases Nat.lt_or_ge i U.length with h3|h3
   ·rw [List.getD_eq_getElem?_getD,List.getD_eq_getElem?_getD,List.getElem?_append_left h3,List.getElem?_append_left h3]
   ·rw [List.getD_eq_getElem?_getD,List.getD_eq_getElem?_getD,List.getElem?_append_right h3,List.getElem?_append_right h3]
    obtain ⟨q,hq⟩:∃q,i-U.length=q+2:=⟨i-U.length-2,by omega⟩
    rw [hq];rfl
def isGo (p:List Zc) (x:Zc) (m:Nat):Prop:=m<p.length/\ltM x (p.getD (p.length-m-1) Yk)=true
def ZlR (p:List Zc) (x:Zc) (m:Nat):Prop:=m=p.length\/(m<p.length/\ltM x (p.getD (p.length-m-1) Yk)=false)
theorem Zh6 {a p r:List Zc} {x:Zc} {m:Nat} (ho:Z3D ltM p) (hm:m<=p.length) (hgo:∀j,j<m->isGo p x j) (hex:ZlR p x m):isL a p x r m=a++(Xb ltM x p++r):=by
 have h:=Za5 Zef (x:=x) (l:=p) (j:=p.length-m) ho (by omega) (fun y hy=> ?_) (fun y hy hj=> ?_)
 ·unfold isL
  rw [<-h];simp
 ·obtain ⟨q,hq⟩:=List.mem_iff_getElem?.1 hy
  rw [List.getElem?_drop] at hq
  obtain ⟨hlt,he⟩:=List.getElem?_eq_some_iff.1 hq
  have:=(hgo (p.length-1-(p.length-m+q)) (by omega)).2
  rw [List.getD_eq_getElem?_getD,show p.length-(p.length-1-(p.length-m+q))-1=p.length-m+q by omega,hq] at this
  exact this
 ·rcases hex with hex|⟨_,hex⟩
  ·omega
  ·rw [List.getD_eq_getElem?_getD,hy] at hex
   exact hex
structure IsQ where
 a:List Zc
 p:List Zc
 x:Zc
 r:List Zc
def IsQ.n (q:IsQ):Nat:=q.a.length+q.p.length+1+q.r.length
def IsQ.I (q:IsQ):Nat:=q.a.length+q.p.length
def IsQ.L (q:IsQ) (m:Nat):List Zc:=isL q.a q.p q.x q.r m
structure IsQ.Ok (q:IsQ) (n:Nat) (A:Nat):Prop where
 hn:q.n=n
 hA:q.a.length=A
 le:n<900000000000
 ok:∀m∈q.L 0,m.Ok
def IsQ.go (q:IsQ):Nat->Prop:=isGo q.p q.x
def IsQ.ex (q:IsQ):Nat->Prop:=ZlR q.p q.x
def IsQ.len (q:IsQ):Nat:=q.p.length
noncomputable def ZjD (n lo A B:Nat):Zh:=E82.withL 293 2 (Zjd fun q:IsQ=>goM 1 (Zh4 n lo A B q.I q.I (q.L 0)) (q.Ok n A) (YB 2 q.len 9 q.go q.ex (fun _=>False) (fun _=>False) (fun m=>Z3X n lo A B q.I (q.L m)) (fun m=>Z3X n lo A B q.I (q.L m)) (fun m=>Z3X n lo A B q.I (q.L m))))
theorem Zh7 (n lo A B:Nat):(ZjD n lo A B).Ok:=
 Zh.withL_ex Zeh fun q=>Zh.withGoM (N:=20) (S:=fun m=>Zh4 n lo A B q.I ((q.I-m:Nat):Int) (q.L m)) Zeh (by kernel_rfl) fun hC=>⟨by simp,fun m hm hgo=>by
  obtain ⟨h1,h2,h3,h4⟩:=hC
  have l1:(q.L m).length=n:=by rw [<-h1];exact Zh5
  have hI:q.I=q.a.length+q.p.length:=rfl
  have hm':m<=q.p.length:=hm
  have hnn:q.n=q.a.length+q.p.length+1+q.r.length:=rfl
  have hx:(q.L m).getD (q.I-m) Yk=q.x:=Zej hm'
  have hok:∀z∈q.L m,z.Ok:=fun z hz=>h4 z (Za8.2 (Za8.1 hz))
  have:=ZnQ n lo A B q.I (q.I-m) (q.L m) (q.L (m+1)) (q.go m/\m<q.len) (q.ex m) h3 (by omega) l1 hok (fun hlt i hi=> ?_) (fun hlt hc=> ?_) (fun hc=> ?_)
  ·rw [show q.I-(m+1)=q.I-m-1 by omega]
   exact this
  ·have hmp:m<q.p.length:=by omega
   exact Zel hmp i
  ·have hmp:m<q.p.length:=by omega
   rw [hx,show (q.L m).getD (q.I-m-1) Yk=_ from Zek hmp] at hc
   exact ⟨⟨hmp,hc⟩,hmp⟩
  ·rcases Nat.lt_or_ge m q.p.length with hmp|hmp
   ·rcases hc with hc|hc
    ·omega
    ·rw [hx,show (q.L m).getD (q.I-m-1) Yk=_ from Zek hmp] at hc
     exact .inr ⟨hmp,hc⟩
   ·exact .inl (show m=q.p.length by omega)⟩
theorem ZnR (n lo A B I:Nat) (L L1:List Zc) (q:IsQ) (Z1 Z2:Prop) (hn:n<900000000000) (hI:I<900000000001) (hq:I<B->q.I=I/\q.L 0=L/\q.Ok n A) (hnext:I<B->∀m,m<=q.len->(∀j,j<m->q.go j)->q.ex m->L1=q.L m/\Z1) (h2:¬I<B->Z2):
  ZM (ZjD n lo A B) 20 293 0 1 (Z3X n lo A B I L) (rdM 1 0 9 (Z3X n lo A B ((I+1:Nat):Int) L1) ⟨53,[],isH n L,[]⟩ ⟨53,[],isH n L,[]⟩ ⟨53,[],isH n L,[]⟩ Z1 Z2 False False):=by
 refine @Eq.mpr _ (let q1:=decide ((↑B:Int)=(↑B:Int));let q2:=decide ((↑A:Int)=(↑A:Int));let q3:=[AV.vrows 1 5 (ZT byL 0 1) 5];let q4:=q3=q3;let q5:=decide (n=n);let q6:=decide (lo<=lo);let q7:=Zn L;
 Z0 (decide ((↑I:Int)<(↑B:Int)))
 (∃(i:IsQ),
 let q15:=(↑(IsQ.I i):Int);let q16:=decide ((↑I:Int)=q15);
 Z0 q16
 (Z0 q16
 (Z0 q1
 (Z0 q2
 (q4/\
 Z0 q5
 (Z0 q6
 (Z0 q5
 (Zr 1 [] n (Zn (IsQ.L i 0)) q7/\
 IsQ.Ok i n A/\
 ∀(i_1:Nat),
 let q19:=Zn (IsQ.L i i_1);
 i_1<=IsQ.len i->(∀(j:Nat),j<i_1->IsQ.go i j)->(IsQ.ex i i_1->Z0 (decide (wrap i64 (q15+1)=(↑(I+1):Int))) (Z0 q1 (Z0 q2 (q4/\Z0 q5 (Z0 q6 (Z0 q5 (Zr 1 [] n (Zn L1) q19/\Z1) False) False) False) False) False) False)/\(False->Z0 q5 (Zr 1 [] n q7 q19/\False) False)/\(False->Z0 q5 (Zr 1 [] n q7 q19/\False) False))
 False)
 False)
 False)
 False)
 False)
 False)
 False)
 (Z0 q5 (Zr 1 [] n q7 q7/\Z2) False)) (by kernel_rfl) ?_
 conv=>zeta
 try simp only [Z8]
 try simp only [Ze]
 try simp only [Za]
 try simp only [Zf]
 try simp only [Zg]
 try simp only [Z9]
 try simp only [Y_s]
 refine ⟨fun hc=> ?_,fun hc=>⟨Yd fun _ _=>rfl,h2 (by omega)⟩⟩
 obtain ⟨e1,e2,e3⟩:=hq (by omega)
 refine ⟨q,by omega,by omega,Yd (fun _ _=>by rw [e2]),e3,fun m hm hgo=>⟨fun hex=> ?_,fun h=>h.elim,fun h=>h.elim⟩⟩
 obtain ⟨e4,hZ⟩:=hnext (by omega) m hm hgo hex
 exact ⟨by rw [w64 (by omega)];omega,Yd (fun _ _=>by rw [e4]),hZ⟩
structure IsP where
 a:List Zc
 M:List Zc
 c:List Zc
def IsP.L (q:IsP) (t:Nat):List Zc:=q.a++(XU ltM [] (q.M.take (t+1))++(q.M.drop (t+1)++q.c))
def IsP.N (q:IsP):Nat:=q.M.length-1
def IsP.all (q:IsP):List Zc:=q.a++(q.M++q.c)
def IsP.done (q:IsP):List Zc:=q.a++(ZZ q.M++q.c)
structure IsP.Ok (q:IsP) (n A B:Nat):Prop where
 hn:q.a.length+q.M.length+q.c.length=n
 hA:q.a.length=A
 hB:q.a.length+q.M.length=B
 le:n<900000000000
 ok:∀m∈q.all,m.Ok
theorem IsP.L0 (q:IsP):q.L 0=q.all:=by
 unfold IsP.L IsP.all
 cases h:q.M with
 | nil=>rfl
 | cons x r=>rfl
theorem IsP.LN (q:IsP):q.L q.N=q.done:=by
 unfold IsP.L IsP.done IsP.N
 rw [List.take_of_length_le (by omega),List.drop_of_length_le (by omega)];rfl
theorem ZbM {l acc:List Zc} {z:Zc}:z∈XU ltM acc l↔z∈acc\/z∈l:=by
 rw [(Uf (lt:=ltM)).mem_iff,List.mem_append]
noncomputable def ZlS (q:IsP) (n lo A B:Nat):Zh:=(ZjD n lo A B).withL 293 0 (goM 1 (Z3X n lo A B ((A+1:Nat):Int) (q.L 0)) (q.Ok n A B) (YB 0 q.N 9 (fun t=>t<q.N) (fun t=>t=q.N) (fun _=>False) (fun _=>False) (fun t=>⟨53,[],isH n (q.L t),[]⟩) (fun t=>⟨53,[],isH n (q.L t),[]⟩) (fun t=>⟨53,[],isH n (q.L t),[]⟩)))
theorem Zh8 (q:IsP) (n lo A B:Nat):(ZlS q n lo A B).Ok:=
 Zh.withGoM (N:=20) (S:=fun t=>Z3X n lo A B ((A+1+t:Nat):Int) (q.L t)) (Zh7 n lo A B) (by kernel_rfl) fun hC=>⟨rfl,fun t ht hgo=>by
  obtain ⟨h1,h2,h3,h4,h5⟩:=hC
  have hN:q.N=q.M.length-1:=rfl
  have hMl:q.M.length<=n:=by omega
  have:=ZnR n lo A B (A+1+t) (q.L t) (q.L (t+1)) ⟨q.a,XU ltM [] (q.M.take (t+1)),q.M.getD (t+1) Yk,q.M.drop (t+2)++q.c⟩ (t<q.N/\t<q.N) (t=q.N) h4 (by omega) (fun hlt=> ?_) (fun hlt m hm hg he=> ?_) (fun hc=>by omega)
  ·rw [show A+1+(t+1)=A+1+t+1 by omega];exact this
  ·have hl:(XU ltM [] (q.M.take (t+1))).length=t+1:=by rw [Z4W,List.length_take];simp;omega
   have e0:q.L t=isL q.a (XU ltM [] (q.M.take (t+1))) (q.M.getD (t+1) Yk) (q.M.drop (t+2)++q.c) 0:=by
    unfold isL IsP.L
    rw [Nat.sub_zero,List.take_length,List.drop_length,List.drop_eq_getElem_cons (show t+1<q.M.length by omega),List.getD_eq_getElem?_getD,List.getElem?_eq_getElem (show t+1<q.M.length by omega)]
    rfl
   refine ⟨?_,e0.symm, ?_,h2,h4,fun z hz=> ?_⟩
   ·show q.a.length+(XU ltM [] (q.M.take (t+1))).length=_
    rw [hl,h2];omega
   ·show q.a.length+(XU ltM [] (q.M.take (t+1))).length+1+(q.M.drop (t+2)++q.c).length=n
    rw [hl,List.length_append,List.length_drop];omega
   ·have hz:z∈isL q.a (XU ltM [] (q.M.take (t+1))) (q.M.getD (t+1) Yk) (q.M.drop (t+2)++q.c) 0:=hz
    refine h5 z ?_
    rw [<-e0] at hz
    unfold IsP.L at hz
    unfold IsP.all
    rw [List.mem_append,List.mem_append,ZbM,List.mem_append] at hz
    rw [List.mem_append,List.mem_append]
    rcases hz with hz|(hz|hz)|hz|hz
    ·exact .inl hz
    ·simp at hz
    ·exact .inr (.inl (List.mem_of_mem_take hz))
    ·exact .inr (.inl (List.mem_of_mem_drop hz))
    ·exact .inr (.inr hz)
  ·refine ⟨?_,by omega⟩
   have:=Zh6 (a:=q.a) (r:=q.M.drop (t+2)++q.c) (x:=q.M.getD (t+1) Yk) (m:=m) (Z4V Zef (l:=q.M.take (t+1)) (acc:=[]) .nil) hm hg he
   show _=isL q.a _ _ _ m
   rw [this]
   unfold IsP.L
   have e2:q.M.take (t+1+1)=q.M.take (t+1)++[q.M.getD (t+1) Yk]:=by
    rw [List.take_succ_eq_append_getElem (by omega),List.getD_eq_getElem?_getD,List.getElem?_eq_getElem (show t+1<q.M.length by omega)]
    rfl
   rw [e2,Z3F]⟩
theorem ZlT (q:IsP) (n lo A B:Nat) (L0 L1:List Zc) (hq:q.Ok n A B) (hL:L0=q.all) (hL1:L1=q.done):
  evF (ZlS q n lo A B) 20 293 [.nslice ⟨0,0,134,0,0⟩ 134 n lo,.int .i64 A,.int .i64 B,Zh3] (isH n L0) (ZL 1 (.ret (.tuple [])) 1 [(0,.rows 134 n (Zn L1))]):=by
 refine @Eq.mpr _ (let q1:=[AV.vrows 1 5 (ZT byL 0 1) 5];let q2:=decide (n=n);let q3:=IsP.N q;
 Z0 (decide (wrap i64 ((↑A:Int)+1)=(↑(A+1):Int)))
 (Z0 (decide ((↑B:Int)=(↑B:Int)))
 (Z0 (decide ((↑A:Int)=(↑A:Int)))
 (q1=q1/\
 Z0 q2
 (Z0 (decide (lo<=lo))
 (Z0 q2
 (Zr 1 [] n (Zn (IsP.L q 0)) (Zn L0)/\
 IsP.Ok q n A B/\
 ∀(i:Nat),
 let q7:=Z0 q2 (Zr 1 [] n (Zn L1) (Zn (IsP.L q i))/\True) False;
 i<=q3->(∀(j:Nat),j<i->(fun (t:Nat)=>t<q3) j)->(i=q3->q7)/\(False->q7)/\(False->False))
 False)
 False)
 False)
 False)
 False)
 False) (by kernel_rfl) ?_
 conv=>zeta
 try simp only [Z8]
 try simp only [Ze]
 try simp only [Za]
 try simp only [Zf]
 try simp only [Zg]
 try simp only [Z9]
 try simp only [Y_s]
 refine ⟨by rw [w64 (by have:=hq.hn;have:=hq.hA;have:=hq.le;omega)];omega,Yd (fun _ _=>by rw [hL,q.L0]),hq,fun i hi hg=>⟨fun he=> ?_,fun h=>h.elim,fun h=>h.elim⟩⟩
 subst he
 exact Yd fun _ _=>by rw [hL1,q.LN]
def isF:ZR:=fun args h K=>match args with
 | .nslice p esz len lo::r=>frA [p.blk] h 20 (.nslice p esz len lo::r) fun Bs a=>match Bs,a with
  | [.rows 134 m f],[.nslice ⟨0,0,134,0,0⟩ 134 n lo,.int .i64 A,.int .i64 B,.func (.func 241) [] [.pview [.vrows 1 5 g 5] 0]]=>∃(q:IsP) (a b:Nat),(m=n/\A=(a:Int)/\B=(b:Int))/\q.Ok n a b/\g=ZT byL 0 1/\f=Zn q.all/\K (.ret (.tuple [])) ⟨h.next,(p.blk,.rows 134 n (Zn q.done))::Y9 h.bs p.blk⟩
  | _,_=>False
 | _=>False
theorem ZjE (args:List AV) (h:Z6) (K:KO) (hl:isF args h K):Zi PP 293 args h K:=by
 unfold isF at hl
 split at hl
 ·rename_i p esz len lo r
  refine Spec.fsumm (σ:=[p.blk]) (d:=20) hl fun Bs a₀ hlen h0=> ?_
  split at h0
  ·obtain ⟨q,a,b,⟨rfl,rfl,rfl⟩,hq,rfl,rfl,hK⟩:=h0
   exact ⟨_,_,_,_,_,.evM (Zh8 _ _ _ _ _) (ZlT q _ _ a b _ _ hq rfl rfl),Nat.le_refl 1,.ret _ _ rfl,.cons 0 _ _ _ _ _ rfl (.rows _ _ _ fun i _=>Xo _ i) .nil,hK⟩
  ·exact h0.elim
 ·exact hl.elim
def noF:ZR:=fun _ _ _=>False
theorem ZjF {f:FuncId} (args:List AV) (h:Z6) (K:KO) (hl:noF args h K):Zi PP f args h K:=hl.elim
noncomputable def Z8S:Zh:=(G0.withF 293 isF).withF 294 noF
theorem Za9:Z8S.Ok:=Zh.withF_ok (Zh.withF_ok Zp ZjE) ZjF
def ssT (n lo:Nat) (l:Y1):Y1:=l++[(2,Zh3),(1,.int .i64 n),(0,.nslice ⟨0,0,134,0,0⟩ 134 n lo)]
def Zem (n lo:Nat) (L:List Zc):St:=⟨63,ssT n lo [(8,.int .i64 20),(7,.int .i64 0),(6,.int .i64 20)],isH n L,[]⟩
def Z5V (n lo:Nat) (L:List Zc):St:=⟨63,ssT n lo [(7,.int .i64 0),(6,.int .i64 20)],isH n L,[]⟩
def Zen (n lo:Nat) (L:List Zc):St:=⟨63,ssT n lo [(6,.int .i64 20)],isH n L,[]⟩
def Z5W (n lo:Nat) (L:List Zc):St:=⟨63,[],isH n L,[]⟩
theorem ZnS (n lo:Nat) (L:List Zc) (Z:Prop) (hn:n<20) (hZ:Z):
  ZM Z8S 20 276 0 1 (Zem n lo L) (rdM 1 0 9 (Zem n lo L) (Z5V n lo L) (Z5V n lo L) (Z5V n lo L) False Z False False):=by
 refine @Eq.mpr _ (let q1:=ZT byL 0 1;let q2:=Zn L;let q3:=[AV.vrows 1 5 q1 5];let q4:=decide (n=n);
 Z0 (decide (20<=(↑n:Int))) ((∀(i:Nat),i<n->true=true)/\∃(q:IsP),∃(a:Nat),∃(b:Nat),(n=n/\0=(↑a:Int)/\20=(↑b:Int))/\IsP.Ok q n a b/\q1=q1/\q2=Zn (IsP.all q)/\False) (q3=q3/\Z0 (decide ((↑n:Int)=(↑n:Int))) (Z0 q4 (Z0 (decide (lo<=lo)) (Z0 q4 (Zr 1 [] n q2 q2/\Z) False) False) False) False)) (by kernel_rfl) ?_
 conv=>zeta
 try simp only [Z8]
 try simp only [Ze]
 try simp only [Za]
 try simp only [Zf]
 try simp only [Zg]
 try simp only [Z9]
 try simp only [Y_s]
 exact ⟨fun h=>by omega,fun _=>⟨Yd fun _ _=>rfl,hZ⟩⟩
theorem ZnT (n lo:Nat) (L:List Zc) (Z:Prop) (hn:n<20) (hZ:Z):
  ZM Z8S 20 276 2 1 (Zen n lo L) (rdM 1 2 9 (Zen n lo L) (Z5W n lo L) (Z5W n lo L) (Z5W n lo L) False Z False False):=by
 refine @Eq.mpr _ (Z0 (decide (20<(↑n:Int))) (Z0 (decide (40<=(↑n:Int))) False (Z0 (decide (20<(↑n:Int))) False False)) (Z0 (decide (n=n)) (Zr 1 [] n (Zn L) (Zn L)/\Z) False)) (by kernel_rfl) ?_
 try simp only [Z8]
 try simp only [Ze]
 try simp only [Za]
 try simp only [Zf]
 try simp only [Zg]
 try simp only [Z9]
 try simp only [Y_s]
 exact ⟨fun h=>absurd h (by omega),fun _=>⟨Yd fun _ _=>rfl,hZ⟩⟩
noncomputable def ZlU (n lo:Nat) (L L1:List Zc):Zh:=(Z8S.withL 276 0 (goM 1 (Zem n lo L) (n<20) (YB 0 0 9 (fun _=>False) (fun _=>True) (fun _=>False) (fun _=>False) (fun _=>Z5V n lo L) (fun _=>Z5V n lo L) (fun _=>Z5V n lo L)))).withL 276 2 (goM 1 (Zen n lo L1) (n<20) (YB 2 0 9 (fun _=>False) (fun _=>True) (fun _=>False) (fun _=>False) (fun _=>Z5W n lo L1) (fun _=>Z5W n lo L1) (fun _=>Z5W n lo L1)))
theorem Zh9 (n lo:Nat) (L L1:List Zc):(ZlU n lo L L1).Ok:=by
 have h0:(Z8S.withL 276 0 _).Ok:=Zh.withGoM (N:=20) (S:=fun _=>Zem n lo L) (S0:=Zem n lo L) (C:=n<20) (n:=0) (l:=9) (go:=fun _=>False) (ex:=fun _=>True) (re:=fun _=>False) (jm:=fun _=>False) (En:=fun _=>Z5V n lo L) (Rn:=fun _=>Z5V n lo L) (Jn:=fun _=>Z5V n lo L) Za9 (by kernel_rfl) fun hC=>⟨rfl,fun t _ _=>(by
  have:=ZnS n lo L True hC trivial
  simpa only [false_and] using this)⟩
 have h2:(Z8S.withL 276 2 _).Ok:=Zh.withGoM (N:=20) (S:=fun _=>Zen n lo L1) (S0:=Zen n lo L1) (C:=n<20) (n:=0) (l:=9) (go:=fun _=>False) (ex:=fun _=>True) (re:=fun _=>False) (jm:=fun _=>False) (En:=fun _=>Z5W n lo L1) (Rn:=fun _=>Z5W n lo L1) (Jn:=fun _=>Z5W n lo L1) Za9 (by kernel_rfl) fun hC=>⟨rfl,fun t _ _=>(by
  have:=ZnT n lo L1 True hC trivial
  simpa only [false_and] using this)⟩
 exact Zh.withL_join (H:=Z8S) h0 rfl h2
theorem ZnU (n lo:Nat) (L L1:List Zc) (hn:n<20) (hl:L.length=n) (hok:∀m∈L,m.Ok) (hL:L1=ZZ L):
  evF (ZlU n lo L L1) 20 240 [.nslice ⟨0,0,134,0,0⟩ 134 n lo,Zh3] (isH n L) (ZL 1 (.ret (.tuple [])) 1 [(0,.rows 134 n (Zn L1))]):=by
 refine @Eq.mpr _ (let q1:=ZT byL 0 1;let q2:=[AV.vrows 1 5 q1 5];let q3:=q2=q2;let q4:=decide ((↑n:Int)=(↑n:Int));let q5:=decide (n=n);let q6:=decide (lo<=lo);let q7:=Zn L;let q8:=Zn L1;let q9:=Z0 q5 (Zr 1 [] n q8 q8/\True) False;
 q3/\Z0 q4 (Z0 q5 (Z0 q6 (Z0 q5 (Zr 1 [] n q7 q7/\n<20/\∀(i:Nat),i<=0->(∀(j:Nat),j<i->(fun (x:Nat)=>False) j)->(True->(∀(i:Nat),i<n->true=true)/\∃(q:IsP),∃(a:Nat),∃(b:Nat),(n=n/\0=(↑a:Int)/\(↑n:Int)=(↑b:Int))/\IsP.Ok q n a b/\q1=q1/\q7=Zn (IsP.all q)/\q3/\Z0 q4 (Z0 q5 (Z0 q6 (Z0 q5 (Zr 1 [] n q8 (Zn (IsP.done q))/\n<20/\∀(i:Nat),i<=0->(∀(j:Nat),j<i->(fun (x:Nat)=>False) j)->(True->q9)/\(False->q9)/\(False->False)) False) False) False) False)/\(False->Z0 q5 (Zr 1 [] n q8 q7/\True) False)/\(False->False)) False) False) False) False) (by kernel_rfl) ?_
 conv=>zeta
 try simp only [Z8]
 try simp only [Ze]
 try simp only [Za]
 try simp only [Zf]
 try simp only [Zg]
 try simp only [Z9]
 try simp only [Y_s]
 refine ⟨Yd fun _ _=>rfl,hn,fun i _ _=>⟨fun _=>⟨fun _ _=>trivial,⟨[],L,[]⟩,0,n,⟨rfl,rfl⟩,⟨by simp [hl],rfl,by simp [hl],by omega,fun m hm=>hok m (by simpa [IsP.all] using hm)⟩,by simp [IsP.all],Yd fun _ _=>by simp [IsP.done,hL],hn,fun j _ _=>⟨fun _=>Yd fun _ _=>rfl,fun h=>h.elim,fun h=>h.elim⟩⟩,fun h=>h.elim,fun h=>h.elim⟩⟩
def stF:ZR:=fun args h K=>match args with
 | .nslice p esz len lo::r=>frA [p.blk] h 20 (.nslice p esz len lo::r) fun Bs a=>match Bs,a with
  | [.rows 134 m f],[.nslice ⟨0,0,134,0,0⟩ 134 n lo,.func (.func 241) [] [.pview [.vrows 1 5 g 5] 0]]=>∃(L:List Zc),(m=n/\n<20/\L.length=n)/\(∀m∈L,m.Ok)/\g=ZT byL 0 1/\f=Zn L/\K (.ret (.tuple [])) ⟨h.next,(p.blk,.rows 134 n (Zn (ZZ L)))::Y9 h.bs p.blk⟩
  | _,_=>False
 | _=>False
theorem ZjG (args:List AV) (h:Z6) (K:KO) (hl:stF args h K):Zi PP 240 args h K:=by
 unfold stF at hl
 split at hl
 ·rename_i p esz len lo r
  refine Spec.fsumm (σ:=[p.blk]) (d:=20) hl fun Bs a₀ hlen h0=> ?_
  split at h0
  ·obtain ⟨L,⟨rfl,hn,hll⟩,hok,rfl,rfl,hK⟩:=h0
   exact ⟨_,_,_,_,_,.evM (Zh9 _ _ _ _) (ZnU _ _ L _ hn hll hok rfl),Nat.le_refl 1,.ret _ _ rfl,.cons 0 _ _ _ _ _ rfl (.rows _ _ _ fun i _=>Xo _ i) .nil,hK⟩
  ·exact h0.elim
 ·exact hl.elim
noncomputable def ZlV:Zh:=G0.withF 240 stF
theorem Zha:ZlV.Ok:=Zh.withF_ok Zp ZjG
theorem ZlW (n lo:Nat) (L L1:List Zc) (hn:n<20) (hl:L.length=n) (hok:∀m∈L,m.Ok) (hL:L1=ZZ L):
  evF ZlV 20 88 [.nslice ⟨0,0,134,0,0⟩ 134 n lo] (isH n L) (ZL 1 (.ret (.nslice ⟨0,0,134,0,0⟩ 134 n lo)) 1 [(0,.rows 134 n (Zn L1))]):=by
 refine @Eq.mpr _ (let q1:=decide (n=n);
 (∀(i:Nat),i<n->true=true)/\∃(L_1:List Zc),(n=n/\n<(20:Nat)/\List.length L_1=n)/\(∀(m:Zc),List.Mem m L_1->Zc.Ok m)/\ZT [AV.func (Fn.func (170:Nat)) [] [],AV.func (Fn.func (172:Nat)) [] [],AV.func (Fn.func (174:Nat)) [] [],AV.func (Fn.func (175:Nat)) [] [],AV.func (Fn.func (176:Nat)) [] []] (0:Nat) (1:Nat)=ZT byL (0:Nat) (1:Nat)/\Zn L=Zn L_1/\Z0 q1 (Z0 (decide (lo<=lo)) (Z0 q1 (Zr (1:Nat) [] n (Zn L1) (Zn (ZZ L_1))/\True) False) False) False) (by kernel_rfl) ?_
 conv=>zeta
 try simp only [Z8]
 try simp only [Ze]
 try simp only [Za]
 try simp only [Zf]
 try simp only [Zg]
 try simp only [Z9]
 try simp only [Y_s]
 exact ⟨fun _ _=>trivial,L,⟨hn,hl⟩,hok,rfl,rfl,Yd fun _ _=>by rw [hL]⟩
theorem ZnV (X:Nat) (hn:X=X):
  evF G0 20 88 [.nilslice] ⟨0,[]⟩ (ZL 0 (.ret .nilslice) 0 []):=by
 refine @Eq.mpr _ (True) (by kernel_rfl) ?_
 trivial
def orF:ZR:=fun args h K=>match args with
 | [.nilslice]=>K (.ret .nilslice) h
 | [.nslice p esz len lo]=>frA [p.blk] h 20 [.nslice p esz len lo] fun Bs a=>match Bs,a with
  | [.rows 134 m f],[.nslice ⟨0,0,134,0,0⟩ 134 n lo]=>∃(L:List Zc),(m=n/\n<20/\L.length=n)/\(∀m∈L,m.Ok)/\(∀i,i<n->f i=Zn L i)/\K (.ret (.nslice ⟨p.blk,0,134,0,0⟩ 134 n lo)) ⟨h.next,(p.blk,.rows 134 n (Zn (ZZ L)))::Y9 h.bs p.blk⟩
  | _,_=>False
 | _=>False
theorem ZjH (args:List AV) (h:Z6) (K:KO) (hl:orF args h K):Zi PP 88 args h K:=by
 unfold orF at hl
 split at hl
 ·exact (Zy.evM Zp (ZnV 0 rfl)).calls (fun E w rs he hr=>by
   cases hr with
   | cons v r vs rs h1 h2=>cases h2;exact .cons _ _ _ _ (h1.plain rfl) .nil) rfl trivial hl
 ·rename_i p esz len lo
  refine Spec.fsumm (σ:=[p.blk]) (d:=20) hl fun Bs a₀ hlen h0=> ?_
  split at h0
  ·obtain ⟨L,⟨rfl,hn,hll⟩,hok,hf,hK⟩:=h0
   exact ⟨_,_,_,_,_,.rows hf (.evM Zha (ZlW _ _ L _ hn hll hok rfl)),Nat.le_refl 1,.ret _ _ rfl,.cons 0 _ _ _ _ _ rfl (.rows _ _ _ fun i _=>Xo _ i) .nil,hK⟩
  ·exact h0.elim
 ·exact hl.elim
end Go.Tk
end
