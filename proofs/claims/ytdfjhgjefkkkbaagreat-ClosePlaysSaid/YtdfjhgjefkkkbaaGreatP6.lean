/- P: part 6 of an engine (a symbolic evaluator, proved against the model) and of the walk by it. -/
import Derived.Test.YtdfjhgjefkkkbaaGreatP5
set_option linter.unusedVariables false
set_option linter.unusedSimpArgs false
set_option maxRecDepth 100000
set_option maxHeartbeats 0
section
namespace Go.Tk
open IntKind (i64 u8 u32 u64 wrap)
variable {g':Nat->List AV}
noncomputable def Qt:Zd:=G0.withP 112 Z3B
theorem X5:Qt.Ok:=Zd.withP_ok Zm Z1h
def rtK (ok:Bool):KO:=fun o _=>match o with
 | .ret (.bool b)=>b=ok
 | _=>False
theorem Zld (s:Zi) (ok:Bool) (hl:s.Len) (hok:ok=true↔Zp s 1):
  evF Qt 40 126 [.agg (.int .i64 1::s.r)] ⟨0,[]⟩ (rtK ok):=by
 refine @Eq.mpr _ (let q1:=s.nxt;let q2:=q1=q1;let q3:=s.point;let q4:=q3=q3;let q5:=s.amount;let q6:=decide (q5=q5);let q7:=s.reserve;let q8:=decide (q7=q7);let q9:=s.t;let q10:=q9.fund;let q11:=q9.index;let q12:=q9.cap;let q13:=q9.dust;let q14:=q9.fee;let q15:=q9.delay;let q16:=q9.k0;let q17:=q9.k1;let q18:=s.key;let q19:=s.hash;let q20:=s.tag;let q21:=s.secret;let q22:=s.id;let q23:=s.number;let q24:=s.index;let q25:=s.expiry;let q26:=s.code;let q27:=s.route;let q28:=List.length q16;let q29:=Zj.mk q10 q11 q12 q13 q14 q15 q16 (List.set q16 0 (wrap u8 (List.getD q16 0 0+1)));
 q2/\
 q4/\
 Z0 q6 (Z0 q8 (q2/\
 q4/\
 Z0 q6 (q2/\
 q4/\
 q2/\
 q10=q10/\
 Z6 (q11=q11) (Z6 (q12=q12) (Z6 (q13=q13) (Z6 (q14=q14) (Z6 (q15=q15) (q16=q16/\
 q17=q17/\
 Z0 q8 (Z0 q6 (q4/\
 q2/\
 q18=q18/\
 q19=q19/\
 q20=q20/\
 q21=q21/\
 Z6 (q22=q22) (Z6 (q23=q23) (Z6 (q24=q24) (Z6 (q25=q25) (Z6 (q26=q26) (q27=q27/\
 Z6 (List.length q10=32/\List.length q10=32) (Z6 (q28=32/\q28=32) (Z6 (List.length q17=32/\List.length q17=32) (Z6 (List.length q3=32/\List.length q3=32) (Z6 (List.length q1=32/\List.length q1=32) (Z6 (List.length q18=32/\(32:Nat)=32) (Z6 (List.length q19=32/\(32:Nat)=32) (Z6 (List.length q20=32/\(32:Nat)=32) (Z6 (List.length q21=32/\(32:Nat)=32) (Z7 (!(true&&(q10==q10&&(q11==q11&&(q12==q12&&(q13==q13&&(q14==q14&&(q15==q15&&(q16==q16&&q17==q17))))))&&(q7==q7&&(q5==q5&&(q3==q3&&(q1==q1&&(q18==Z5&&(q19==Z5&&(q20==Z5&&(q21==Z5&&(q22==0&&(q23==0&&(q24==0&&(q25==0&&(q26==0&&ByteArray.toList q27==ByteArray.toList ByteArray.empty)))))))))))))))) (false=ok) (Z7 (decide (q22>=0)) (Z7 (!decide (q22<=2147483647)) (false=ok) (Z7 (decide (q23>=0)) (Z7 (!decide (q23<=2147483647)) (false=ok) (Z7 (decide (q24>=0)) (Z7 (!decide (q24<=2147483647)) (false=ok) (Z7 (decide (q25>=0)) (Z7 (!decide (q25<=2147483647)) (false=ok) (Z7 (decide (q5>=0)) (Z7 (!decide (q5<=1125899906842624)) (false=ok) (Z6 (u8=u8/\(0:Nat)<32/\0<q28) (Z6 (List.length q10=32/\(32:Nat)=32) (Z7 (q10==Z5) (Z7 (q11==0) (Z6 (List.length q17=32/\(32:Nat)=32) (Z7 (q17==Z5) (Zj.Ok q29/\Z7 (Y6 q29) (Z7 (decide (q7>=0)) (Z7 (decide (q7<=wrap i64 (Int.tdiv q12 10))) (decide (q5<=wrap i64 (wrap i64 (q12-q14)-q7))=ok) (false=ok)) (false=ok)) (false=ok)) (false=ok))) (false=ok)) (false=ok))))) (false=ok))) (false=ok))) (false=ok))) (false=ok))) (false=ok))))))))))))))))))))))))))) (by kernel_rfl) ?_
 conv=>zeta
 try simp only [vcA]
 try simp only [vcB]
 try simp only [vcC]
 obtain ⟨h0,h1,h2,h3,h4,h5,h6,h7,h8,hb⟩:=hl
 have hOk:(XU s.t).Ok:=⟨h1,by show (List.set _ _ _).length=32;rw [Kb];exact h1,hb,Z4Q hb 0 (ZfU _)⟩
 have hd:Y6 (XU s.t)=true->(1000<=s.t.cap/\s.t.cap<=1125899906842624)/\(0<=s.t.fee/\s.t.fee<=400):=fun h=>by
  unfold Y6 XU at h
  simp only [J3,decide_eq_true_eq] at h
  obtain ⟨⟨⟨⟨⟨_,g2⟩,_⟩,g4⟩,_⟩,_⟩:=h
  exact ⟨g2,g4⟩
 have htd:Y6 (XU s.t)=true->0<=s.t.cap.tdiv 10/\s.t.cap.tdiv 10<=s.t.cap:=fun h=>by
  have:=hd h
  rw [JP (by omega)]
  omega
 have hw1:Y6 (XU s.t)=true->i64.wrap (s.t.cap.tdiv 10)=s.t.cap.tdiv 10:=fun h=>by
  have:=hd h
  have:=htd h
  exact w64 (by omega)
 have hw2:Y6 (XU s.t)=true->0<=s.reserve->s.reserve<=s.t.cap.tdiv 10->i64.wrap (i64.wrap (s.t.cap-s.t.fee)-s.reserve)=s.t.cap-s.t.fee-s.reserve:=fun h g1 g2=>by
  have:=hd h
  have:=htd h
  rw [w64 (x:=s.t.cap-s.t.fee) (by omega)]
  exact w64 (by omega)
 have hI:Zhs (nmd 1) s=true↔((s.t.fund==Z5)=true/\(s.t.index==0)=true/\(s.t.k1==Z5)=true)/\(s.key==Z5&&(s.hash==Z5&&(s.tag==Z5&&(s.secret==Z5&&(s.id==0&&(s.number==0&&(s.index==0&&(s.expiry==0&&(s.code==0&&ByteArray.toList s.route==ByteArray.toList ByteArray.empty)))))))))=true:=by
  show (true&&((s.t.fund==Z5)&&((s.t.index==0)&&(true&&(true&&(true&&(true&&(true&&(s.t.k1==Z5))))))))&&(true&&(true&&(true&&(true&&(s.key==Z5&&(s.hash==Z5&&(s.tag==Z5&&(s.secret==Z5&&(s.id==0&&(s.number==0&&(s.index==0&&(s.expiry==0&&(s.code==0&&ByteArray.toList s.route==ByteArray.toList ByteArray.empty))))))))))))))=true↔_
  simp only [JO,J3,and_assoc]
 have hT:Zj.mk s.t.fund s.t.index s.t.cap s.t.dust s.t.fee s.t.delay s.t.k0 (List.set s.t.k0 0 (wrap u8 (List.getD s.t.k0 0 0+1)))=XU s.t:=rfl
 cases ok with
 | true=>
  obtain ⟨⟨w0,w1,w2,w3,w4,w5,w6,w7,w8,w9⟩,hr,hk⟩:=hok.1 rfl
  have hk:Z3C s:=hk
  obtain ⟨k1,k2,k3,k4⟩:=hk
  have e1:=hw1 k1
  have e2:=hw2 k1 k2 k3
  obtain ⟨⟨f0,f1,f7⟩,hR⟩:=hI.1 hr
  simp only [h0,h1,h2,h3,h4,h5,h6,h7,h8,and_self,beq_self_eq_true,decide_true,true_and,forall_const,J6,Ja,decide_eq_true_eq,decide_eq_false_iff_not,Jh,Ji,reduceCtorEq,false_implies,imp_false,and_true,implies_true,hT,e1,e2]
  repeat' first
   | exact hOk
   | trivial
   | apply Jc
   | intro
  all_goals first
   | omega
   | (exfalso;omega)
   | (rename_i hq;exact absurd (f0.symm.trans hq) (by decide))
   | (rename_i hq;exact absurd (f1.symm.trans hq) (by decide))
   | (rename_i hq;exact absurd (f7.symm.trans hq) (by decide))
   | (rename_i hq;exact absurd (k1.symm.trans hq) (by decide))
   | (rename_i hq;exact absurd (hR.symm.trans hq) (by decide))
 | false=>
  have hn:¬Zp s 1:=fun h=>absurd (hok.2 h) (by decide)
  simp only [h0,h1,h2,h3,h4,h5,h6,h7,h8,and_self,beq_self_eq_true,decide_true,true_and,forall_const,J6,Ja,decide_eq_true_eq,decide_eq_false_iff_not,Jh,Ji,reduceCtorEq,false_implies,imp_false,and_true,implies_true,hT]
  repeat' first
   | exact hOk
   | trivial
   | apply Jc
   | intro
  refine Jh.1 fun hq4=> ?_
  rename_i hB _ _ _ _ _ _ _ _ _ _ f0 f1 f7 k1 g1 hq3
  have e1:=hw1 k1
  rw [e1] at hq3
  have e2:=hw2 k1 g1 hq3
  rw [e2] at hq4
  exact hn (Zp.mk ⟨by omega,by omega,by omega,by omega,by omega,by omega,by omega,by omega,by omega,by omega⟩ (hI.2 ⟨⟨f0,f1,f7⟩,hB⟩) (show kindOk s 1 from Z3C.mk k1 g1 hq3 hq4))
theorem Zle (s:Zi) (ok:Bool) (hl:s.Len) (hok:ok=true↔Zp s 2):
  evF Qt 40 126 [.agg (.int .i64 2::s.r)] ⟨0,[]⟩ (rtK ok):=by
 refine @Eq.mpr _ (let q1:=s.nxt;let q2:=q1=q1;let q3:=s.point;let q4:=q3=q3;let q5:=s.t;let q6:=q5.fund;let q7:=q5.index;let q8:=q5.cap;let q9:=q5.dust;let q10:=q5.fee;let q11:=q5.delay;let q12:=q5.k0;let q13:=q5.k1;let q14:=s.reserve;let q15:=s.amount;let q16:=s.key;let q17:=s.hash;let q18:=s.tag;let q19:=s.secret;let q20:=s.id;let q21:=s.number;let q22:=s.index;let q23:=s.expiry;let q24:=s.code;let q25:=s.route;
 q2/\
 q4/\
 q2/\
 q6=q6/\
 Z6 (q7=q7) (Z6 (q8=q8) (Z6 (q9=q9) (Z6 (q10=q10) (Z6 (q11=q11) (q12=q12/\
 q13=q13/\
 Z6 (q14=q14) (Z6 (q15=q15) (q4/\
 q2/\
 q16=q16/\
 q17=q17/\
 q18=q18/\
 q19=q19/\
 Z6 (q20=q20) (Z6 (q21=q21) (Z6 (q22=q22) (Z6 (q23=q23) (Z6 (q24=q24) (q25=q25/\
 Z6 (List.length q6=32/\(32:Nat)=32) (Z6 (List.length q12=32/\(32:Nat)=32) (Z6 (List.length q13=32/\(32:Nat)=32) (Z6 (List.length q3=32/\List.length q3=32) (Z6 (List.length q1=32/\List.length q1=32) (Z6 (List.length q16=32/\List.length q16=32) (Z6 (List.length q17=32/\(32:Nat)=32) (Z6 (List.length q18=32/\(32:Nat)=32) (Z6 (List.length q19=32/\(32:Nat)=32) (Z7 (!(true&&(q6==Z5&&(q7==0&&(q8==0&&(q9==0&&(q10==0&&(q11==0&&(q12==Z5&&q13==Z5))))))&&(q14==0&&(q15==0&&(q3==q3&&(q1==q1&&(q16==q16&&(q17==Z5&&(q18==Z5&&(q19==Z5&&(q20==0&&(q21==0&&(q22==0&&(q23==0&&(q24==0&&ByteArray.toList q25==ByteArray.toList ByteArray.empty)))))))))))))))) (false=ok) (Z7 (decide (q20>=0)) (Z7 (!decide (q20<=2147483647)) (false=ok) (Z7 (decide (q21>=0)) (Z7 (!decide (q21<=2147483647)) (false=ok) (Z7 (decide (q22>=0)) (Z7 (!decide (q22<=2147483647)) (false=ok) (Z7 (decide (q23>=0)) (Z7 (!decide (q23<=2147483647)) (false=ok) (Z7 (decide (q15>=0)) (Z7 (!decide (q15<=1125899906842624)) (false=ok) (true=ok)) (false=ok))) (false=ok))) (false=ok))) (false=ok))) (false=ok)))))))))))))))))))))))) (by kernel_rfl) ?_
 conv=>zeta
 try simp only [vcA]
 try simp only [vcB]
 try simp only [vcC]
 obtain ⟨h0,h1,h2,h3,h4,h5,h6,h7,h8,hb⟩:=hl
 cases ok with
 | true=>
  obtain ⟨⟨w0,w1,w2,w3,w4,w5,w6,w7,w8,w9⟩,hr,hk⟩:=hok.1 rfl
  have hk':=hk
  simp only [kindOk] at hk
  simp only [h0,h1,h2,h3,h4,h5,h6,h7,h8,and_self,beq_self_eq_true,decide_true,true_and,forall_const,J6,Ja,decide_eq_true_eq,decide_eq_false_iff_not,Jh,Ji,reduceCtorEq,false_implies,imp_false,and_true,implies_true]
  repeat' first
   | trivial
   | apply Jc
   | intro
  all_goals first
   | omega
   | (exfalso;omega)
   | (rename_i hq;exact absurd (hr.symm.trans hq) (by decide))
   | (rename_i hq _;exact absurd (hr.symm.trans hq) (by decide))
   | (rename_i hq _ _;exact absurd (hr.symm.trans hq) (by decide))
 | false=>
  have hn:¬Zp s 2:=fun h=>absurd (hok.2 h) (by decide)
  simp only [h0,h1,h2,h3,h4,h5,h6,h7,h8,and_self,beq_self_eq_true,decide_true,true_and,forall_const,J6,Ja,decide_eq_true_eq,decide_eq_false_iff_not,Jh,Ji,reduceCtorEq,false_implies,imp_false,and_true,implies_true]
  repeat' first
   | trivial
   | apply Jc
   | intro
  all_goals first
   | refine Ji.1 fun hq=> ?_
   | refine Jh.1 fun hq=> ?_
   | skip
  all_goals first
   | exact absurd (Zp.mk ⟨by omega,by omega,by omega,by omega,by omega,by omega,by omega,by omega,by omega,by omega⟩ (by assumption) (by simp only [kindOk]<;>omega)) hn
   | exact absurd (Zp.mk ⟨by omega,by omega,by omega,by omega,by omega,by omega,by omega,by omega,by omega,by omega⟩ (by assumption) trivial) hn
theorem Zlf (s:Zi) (ok:Bool) (hl:s.Len) (hok:ok=true↔Zp s 3):
  evF Qt 40 126 [.agg (.int .i64 3::s.r)] ⟨0,[]⟩ (rtK ok):=by
 refine @Eq.mpr _ (let q1:=s.tag;let q2:=q1=q1;let q3:=s.index;let q4:=decide (q3=q3);let q5:=s.t;let q6:=q5.fund;let q7:=q5.index;let q8:=q5.cap;let q9:=q5.dust;let q10:=q5.fee;let q11:=q5.delay;let q12:=q5.k0;let q13:=q5.k1;let q14:=s.reserve;let q15:=s.amount;let q16:=s.point;let q17:=s.nxt;let q18:=s.key;let q19:=s.hash;let q20:=s.secret;let q21:=s.id;let q22:=s.number;let q23:=s.expiry;let q24:=s.code;let q25:=s.route;
 q2/\
 Z0 q4 (q2/\
 q6=q6/\
 Z6 (q7=q7) (Z6 (q8=q8) (Z6 (q9=q9) (Z6 (q10=q10) (Z6 (q11=q11) (q12=q12/\
 q13=q13/\
 Z6 (q14=q14) (Z6 (q15=q15) (q16=q16/\
 q17=q17/\
 q18=q18/\
 q19=q19/\
 q2/\
 q20=q20/\
 Z6 (q21=q21) (Z6 (q22=q22) (Z0 q4 (Z6 (q23=q23) (Z6 (q24=q24) (q25=q25/\
 Z6 (List.length q6=32/\(32:Nat)=32) (Z6 (List.length q12=32/\(32:Nat)=32) (Z6 (List.length q13=32/\(32:Nat)=32) (Z6 (List.length q16=32/\(32:Nat)=32) (Z6 (List.length q17=32/\(32:Nat)=32) (Z6 (List.length q18=32/\(32:Nat)=32) (Z6 (List.length q19=32/\List.length q19=32) (Z6 (List.length q1=32/\List.length q1=32) (Z6 (List.length q20=32/\(32:Nat)=32) (Z7 (!(true&&(q6==Z5&&(q7==0&&(q8==0&&(q9==0&&(q10==0&&(q11==0&&(q12==Z5&&q13==Z5))))))&&(q14==0&&(q15==0&&(q16==Z5&&(q17==Z5&&(q18==Z5&&(q19==q19&&(q1==q1&&(q20==Z5&&(q21==0&&(q22==0&&(q3==q3&&(q23==0&&(q24==0&&ByteArray.toList q25==ByteArray.toList ByteArray.empty)))))))))))))))) (false=ok) (Z7 (decide (q21>=0)) (Z7 (!decide (q21<=2147483647)) (false=ok) (Z7 (decide (q22>=0)) (Z7 (!decide (q22<=2147483647)) (false=ok) (Z7 (decide (q3>=0)) (Z7 (!decide (q3<=2147483647)) (false=ok) (Z7 (decide (q23>=0)) (Z7 (!decide (q23<=2147483647)) (false=ok) (Z7 (decide (q15>=0)) (Z7 (!decide (q15<=1125899906842624)) (false=ok) (decide (q3<24)=ok)) (false=ok))) (false=ok))) (false=ok))) (false=ok))) (false=ok))))))))))))))))))))))))) (by kernel_rfl) ?_
 conv=>zeta
 try simp only [vcA]
 try simp only [vcB]
 try simp only [vcC]
 obtain ⟨h0,h1,h2,h3,h4,h5,h6,h7,h8,hb⟩:=hl
 cases ok with
 | true=>
  obtain ⟨⟨w0,w1,w2,w3,w4,w5,w6,w7,w8,w9⟩,hr,hk⟩:=hok.1 rfl
  have hk':=hk
  simp only [kindOk] at hk
  simp only [h0,h1,h2,h3,h4,h5,h6,h7,h8,and_self,beq_self_eq_true,decide_true,true_and,forall_const,J6,Ja,decide_eq_true_eq,decide_eq_false_iff_not,Jh,Ji,reduceCtorEq,false_implies,imp_false,and_true,implies_true]
  repeat' first
   | trivial
   | apply Jc
   | intro
  all_goals first
   | omega
   | (exfalso;omega)
   | (rename_i hq;exact absurd (hr.symm.trans hq) (by decide))
   | (rename_i hq _;exact absurd (hr.symm.trans hq) (by decide))
   | (rename_i hq _ _;exact absurd (hr.symm.trans hq) (by decide))
 | false=>
  have hn:¬Zp s 3:=fun h=>absurd (hok.2 h) (by decide)
  simp only [h0,h1,h2,h3,h4,h5,h6,h7,h8,and_self,beq_self_eq_true,decide_true,true_and,forall_const,J6,Ja,decide_eq_true_eq,decide_eq_false_iff_not,Jh,Ji,reduceCtorEq,false_implies,imp_false,and_true,implies_true]
  repeat' first
   | trivial
   | apply Jc
   | intro
  all_goals first
   | refine Ji.1 fun hq=> ?_
   | refine Jh.1 fun hq=> ?_
   | skip
  all_goals first
   | exact absurd (Zp.mk ⟨by omega,by omega,by omega,by omega,by omega,by omega,by omega,by omega,by omega,by omega⟩ (by assumption) (by simp only [kindOk]<;>omega)) hn
   | exact absurd (Zp.mk ⟨by omega,by omega,by omega,by omega,by omega,by omega,by omega,by omega,by omega,by omega⟩ (by assumption) trivial) hn
theorem Zlg (s:Zi) (ok:Bool) (hl:s.Len) (hok:ok=true↔Zp s 4):
  evF Qt 40 126 [.agg (.int .i64 4::s.r)] ⟨0,[]⟩ (rtK ok):=by
 refine @Eq.mpr _ (let q1:=s.t;let q2:=q1.fund;let q3:=q1.index;let q4:=q1.cap;let q5:=q1.dust;let q6:=q1.fee;let q7:=q1.delay;let q8:=q1.k0;let q9:=q1.k1;let q10:=s.reserve;let q11:=s.amount;let q12:=s.point;let q13:=s.nxt;let q14:=s.key;let q15:=s.hash;let q16:=s.tag;let q17:=s.secret;let q18:=s.id;let q19:=s.number;let q20:=s.index;let q21:=s.expiry;let q22:=s.code;let q23:=s.route;
 q2=q2/\
 Z6 (q3=q3) (Z6 (q4=q4) (Z6 (q5=q5) (Z6 (q6=q6) (Z6 (q7=q7) (q8=q8/\
 q9=q9/\
 Z6 (q10=q10) (Z6 (q11=q11) (q12=q12/\
 q13=q13/\
 q14=q14/\
 q15=q15/\
 q16=q16/\
 q17=q17/\
 Z6 (q18=q18) (Z6 (q19=q19) (Z6 (q20=q20) (Z6 (q21=q21) (Z6 (q22=q22) (q23=q23/\
 Z6 (List.length q2=32/\(32:Nat)=32) (Z6 (List.length q8=32/\(32:Nat)=32) (Z6 (List.length q9=32/\(32:Nat)=32) (Z6 (List.length q12=32/\(32:Nat)=32) (Z6 (List.length q13=32/\(32:Nat)=32) (Z6 (List.length q14=32/\(32:Nat)=32) (Z6 (List.length q15=32/\(32:Nat)=32) (Z6 (List.length q16=32/\List.length q16=32) (Z6 (List.length q17=32/\(32:Nat)=32) (Z7 (!(true&&(q2==Z5&&(q3==0&&(q4==0&&(q5==0&&(q6==0&&(q7==0&&(q8==Z5&&q9==Z5))))))&&(q10==0&&(q11==0&&(q12==Z5&&(q13==Z5&&(q14==Z5&&(q15==Z5&&(q16==q16&&(q17==Z5&&(q18==0&&(q19==0&&(q20==0&&(q21==0&&(q22==0&&ByteArray.toList q23==ByteArray.toList ByteArray.empty)))))))))))))))) (false=ok) (Z7 (decide (q18>=0)) (Z7 (!decide (q18<=2147483647)) (false=ok) (Z7 (decide (q19>=0)) (Z7 (!decide (q19<=2147483647)) (false=ok) (Z7 (decide (q20>=0)) (Z7 (!decide (q20<=2147483647)) (false=ok) (Z7 (decide (q21>=0)) (Z7 (!decide (q21<=2147483647)) (false=ok) (Z7 (decide (q11>=0)) (Z7 (!decide (q11<=1125899906842624)) (false=ok) (true=ok)) (false=ok))) (false=ok))) (false=ok))) (false=ok))) (false=ok)))))))))))))))))))))))) (by kernel_rfl) ?_
 conv=>zeta
 try simp only [vcA]
 try simp only [vcB]
 try simp only [vcC]
 obtain ⟨h0,h1,h2,h3,h4,h5,h6,h7,h8,hb⟩:=hl
 cases ok with
 | true=>
  obtain ⟨⟨w0,w1,w2,w3,w4,w5,w6,w7,w8,w9⟩,hr,hk⟩:=hok.1 rfl
  have hk':=hk
  simp only [kindOk] at hk
  simp only [h0,h1,h2,h3,h4,h5,h6,h7,h8,and_self,beq_self_eq_true,decide_true,true_and,forall_const,J6,Ja,decide_eq_true_eq,decide_eq_false_iff_not,Jh,Ji,reduceCtorEq,false_implies,imp_false,and_true,implies_true]
  repeat' first
   | trivial
   | apply Jc
   | intro
  all_goals first
   | omega
   | (exfalso;omega)
   | (rename_i hq;exact absurd (hr.symm.trans hq) (by decide))
   | (rename_i hq _;exact absurd (hr.symm.trans hq) (by decide))
   | (rename_i hq _ _;exact absurd (hr.symm.trans hq) (by decide))
 | false=>
  have hn:¬Zp s 4:=fun h=>absurd (hok.2 h) (by decide)
  simp only [h0,h1,h2,h3,h4,h5,h6,h7,h8,and_self,beq_self_eq_true,decide_true,true_and,forall_const,J6,Ja,decide_eq_true_eq,decide_eq_false_iff_not,Jh,Ji,reduceCtorEq,false_implies,imp_false,and_true,implies_true]
  repeat' first
   | trivial
   | apply Jc
   | intro
  all_goals first
   | refine Ji.1 fun hq=> ?_
   | refine Jh.1 fun hq=> ?_
   | skip
  all_goals first
   | exact absurd (Zp.mk ⟨by omega,by omega,by omega,by omega,by omega,by omega,by omega,by omega,by omega,by omega⟩ (by assumption) (by simp only [kindOk]<;>omega)) hn
   | exact absurd (Zp.mk ⟨by omega,by omega,by omega,by omega,by omega,by omega,by omega,by omega,by omega,by omega⟩ (by assumption) trivial) hn
theorem Zlh (s:Zi) (ok:Bool) (hl:s.Len) (hok:ok=true↔Zp s 5):
  evF Qt 40 126 [.agg (.int .i64 5::s.r)] ⟨0,[]⟩ (rtK ok):=by
 refine @Eq.mpr _ (let q1:=s.t;let q2:=q1.fund;let q3:=q1.index;let q4:=q1.cap;let q5:=q1.dust;let q6:=q1.fee;let q7:=q1.delay;let q8:=q1.k0;let q9:=q1.k1;let q10:=s.reserve;let q11:=s.amount;let q12:=s.point;let q13:=s.nxt;let q14:=s.key;let q15:=s.hash;let q16:=s.tag;let q17:=s.secret;let q18:=s.id;let q19:=s.number;let q20:=s.index;let q21:=s.expiry;let q22:=s.code;let q23:=s.route;
 q2=q2/\
 Z6 (q3=q3) (Z6 (q4=q4) (Z6 (q5=q5) (Z6 (q6=q6) (Z6 (q7=q7) (q8=q8/\
 q9=q9/\
 Z6 (q10=q10) (Z6 (q11=q11) (q12=q12/\
 q13=q13/\
 q14=q14/\
 q15=q15/\
 q16=q16/\
 q17=q17/\
 Z6 (q18=q18) (Z6 (q19=q19) (Z6 (q20=q20) (Z6 (q21=q21) (Z6 (q22=q22) (q23=q23/\
 Z6 (List.length q2=32/\(32:Nat)=32) (Z6 (List.length q8=32/\(32:Nat)=32) (Z6 (List.length q9=32/\(32:Nat)=32) (Z6 (List.length q12=32/\(32:Nat)=32) (Z6 (List.length q13=32/\(32:Nat)=32) (Z6 (List.length q14=32/\(32:Nat)=32) (Z6 (List.length q15=32/\(32:Nat)=32) (Z6 (List.length q16=32/\(32:Nat)=32) (Z6 (List.length q17=32/\(32:Nat)=32) (Z7 (!(true&&(q2==Z5&&(q3==0&&(q4==0&&(q5==0&&(q6==0&&(q7==0&&(q8==Z5&&q9==Z5))))))&&(q10==0&&(q11==0&&(q12==Z5&&(q13==Z5&&(q14==Z5&&(q15==Z5&&(q16==Z5&&(q17==Z5&&(q18==0&&(q19==0&&(q20==0&&(q21==0&&(q22==0&&ByteArray.toList q23==ByteArray.toList ByteArray.empty)))))))))))))))) (false=ok) (Z7 (decide (q18>=0)) (Z7 (!decide (q18<=2147483647)) (false=ok) (Z7 (decide (q19>=0)) (Z7 (!decide (q19<=2147483647)) (false=ok) (Z7 (decide (q20>=0)) (Z7 (!decide (q20<=2147483647)) (false=ok) (Z7 (decide (q21>=0)) (Z7 (!decide (q21<=2147483647)) (false=ok) (Z7 (decide (q11>=0)) (Z7 (!decide (q11<=1125899906842624)) (false=ok) (true=ok)) (false=ok))) (false=ok))) (false=ok))) (false=ok))) (false=ok)))))))))))))))))))))))) (by kernel_rfl) ?_
 conv=>zeta
 try simp only [vcA]
 try simp only [vcB]
 try simp only [vcC]
 obtain ⟨h0,h1,h2,h3,h4,h5,h6,h7,h8,hb⟩:=hl
 cases ok with
 | true=>
  obtain ⟨⟨w0,w1,w2,w3,w4,w5,w6,w7,w8,w9⟩,hr,hk⟩:=hok.1 rfl
  have hk':=hk
  simp only [kindOk] at hk
  simp only [h0,h1,h2,h3,h4,h5,h6,h7,h8,and_self,beq_self_eq_true,decide_true,true_and,forall_const,J6,Ja,decide_eq_true_eq,decide_eq_false_iff_not,Jh,Ji,reduceCtorEq,false_implies,imp_false,and_true,implies_true]
  repeat' first
   | trivial
   | apply Jc
   | intro
  all_goals first
   | omega
   | (exfalso;omega)
   | (rename_i hq;exact absurd (hr.symm.trans hq) (by decide))
   | (rename_i hq _;exact absurd (hr.symm.trans hq) (by decide))
   | (rename_i hq _ _;exact absurd (hr.symm.trans hq) (by decide))
 | false=>
  have hn:¬Zp s 5:=fun h=>absurd (hok.2 h) (by decide)
  simp only [h0,h1,h2,h3,h4,h5,h6,h7,h8,and_self,beq_self_eq_true,decide_true,true_and,forall_const,J6,Ja,decide_eq_true_eq,decide_eq_false_iff_not,Jh,Ji,reduceCtorEq,false_implies,imp_false,and_true,implies_true]
  repeat' first
   | trivial
   | apply Jc
   | intro
  all_goals first
   | refine Ji.1 fun hq=> ?_
   | refine Jh.1 fun hq=> ?_
   | skip
  all_goals first
   | exact absurd (Zp.mk ⟨by omega,by omega,by omega,by omega,by omega,by omega,by omega,by omega,by omega,by omega⟩ (by assumption) (by simp only [kindOk]<;>omega)) hn
   | exact absurd (Zp.mk ⟨by omega,by omega,by omega,by omega,by omega,by omega,by omega,by omega,by omega,by omega⟩ (by assumption) trivial) hn
theorem Zli (s:Zi) (ok:Bool) (hl:s.Len) (hok:ok=true↔Zp s 6):
  evF Qt 40 126 [.agg (.int .i64 6::s.r)] ⟨0,[]⟩ (rtK ok):=by
 refine @Eq.mpr _ (let q1:=s.route;let q2:=q1=q1;let q3:=s.expiry;let q4:=decide (q3=q3);let q5:=s.hash;let q6:=q5=q5;let q7:=s.amount;let q8:=decide (q7=q7);let q9:=s.t;let q10:=q9.fund;let q11:=q9.index;let q12:=q9.cap;let q13:=q9.dust;let q14:=q9.fee;let q15:=q9.delay;let q16:=q9.k0;let q17:=q9.k1;let q18:=s.reserve;let q19:=s.point;let q20:=s.nxt;let q21:=s.key;let q22:=s.tag;let q23:=s.secret;let q24:=s.id;let q25:=s.number;let q26:=s.index;let q27:=s.code;let q28:=ByteArray.toList q1;
 q2/\
 Z0 q4 (q6/\
 Z0 q8 (q2/\
 Z0 q4 (q6/\
 q2/\
 Z0 q4 (q2/\
 q10=q10/\
 Z6 (q11=q11) (Z6 (q12=q12) (Z6 (q13=q13) (Z6 (q14=q14) (Z6 (q15=q15) (q16=q16/\
 q17=q17/\
 Z6 (q18=q18) (Z0 q8 (q19=q19/\
 q20=q20/\
 q21=q21/\
 q6/\
 q22=q22/\
 q23=q23/\
 Z6 (q24=q24) (Z6 (q25=q25) (Z6 (q26=q26) (Z0 q4 (Z6 (q27=q27) (q2/\
 Z6 (List.length q10=32/\(32:Nat)=32) (Z6 (List.length q16=32/\(32:Nat)=32) (Z6 (List.length q17=32/\(32:Nat)=32) (Z6 (List.length q19=32/\(32:Nat)=32) (Z6 (List.length q20=32/\(32:Nat)=32) (Z6 (List.length q21=32/\(32:Nat)=32) (Z6 (List.length q5=32/\List.length q5=32) (Z6 (List.length q22=32/\(32:Nat)=32) (Z6 (List.length q23=32/\(32:Nat)=32) (Z7 (!(true&&(q10==Z5&&(q11==0&&(q12==0&&(q13==0&&(q14==0&&(q15==0&&(q16==Z5&&q17==Z5))))))&&(q18==0&&(q7==q7&&(q19==Z5&&(q20==Z5&&(q21==Z5&&(q5==q5&&(q22==Z5&&(q23==Z5&&(q24==q24&&(q25==0&&(q26==0&&(q3==q3&&(q27==0&&q28==q28)))))))))))))))) (false=ok) (Z7 (decide (q24>=0)) (Z7 (!decide (q24<=2147483647)) (false=ok) (Z7 (decide (q25>=0)) (Z7 (!decide (q25<=2147483647)) (false=ok) (Z7 (decide (q26>=0)) (Z7 (!decide (q26<=2147483647)) (false=ok) (Z7 (decide (q3>=0)) (Z7 (!decide (q3<=2147483647)) (false=ok) (Z7 (decide (q7>=0)) (Z7 (!decide (q7<=1125899906842624)) (false=ok) (Z7 (decide (q7>0)) (Z7 (decide (q3>0)) (decide ((↑(ByteArray.size q1):Int)<=512)=ok) (false=ok)) (false=ok))) (false=ok))) (false=ok))) (false=ok))) (false=ok))) (false=ok)))))))))))))))))))))))))))) (by kernel_rfl) ?_
 conv=>zeta
 try simp only [vcA]
 try simp only [vcB]
 try simp only [vcC]
 obtain ⟨h0,h1,h2,h3,h4,h5,h6,h7,h8,hb⟩:=hl
 cases ok with
 | true=>
  obtain ⟨⟨w0,w1,w2,w3,w4,w5,w6,w7,w8,w9⟩,hr,hk⟩:=hok.1 rfl
  have hk':=hk
  simp only [kindOk] at hk
  simp only [h0,h1,h2,h3,h4,h5,h6,h7,h8,and_self,beq_self_eq_true,decide_true,true_and,forall_const,J6,Ja,decide_eq_true_eq,decide_eq_false_iff_not,Jh,Ji,reduceCtorEq,false_implies,imp_false,and_true,implies_true]
  repeat' first
   | trivial
   | apply Jc
   | intro
  all_goals first
   | omega
   | (exfalso;omega)
   | (rename_i hq;exact absurd (hr.symm.trans hq) (by decide))
   | (rename_i hq _;exact absurd (hr.symm.trans hq) (by decide))
   | (rename_i hq _ _;exact absurd (hr.symm.trans hq) (by decide))
 | false=>
  have hn:¬Zp s 6:=fun h=>absurd (hok.2 h) (by decide)
  simp only [h0,h1,h2,h3,h4,h5,h6,h7,h8,and_self,beq_self_eq_true,decide_true,true_and,forall_const,J6,Ja,decide_eq_true_eq,decide_eq_false_iff_not,Jh,Ji,reduceCtorEq,false_implies,imp_false,and_true,implies_true]
  repeat' first
   | trivial
   | apply Jc
   | intro
  all_goals first
   | refine Ji.1 fun hq=> ?_
   | refine Jh.1 fun hq=> ?_
   | skip
  all_goals first
   | exact absurd (Zp.mk ⟨by omega,by omega,by omega,by omega,by omega,by omega,by omega,by omega,by omega,by omega⟩ (by assumption) (by simp only [kindOk]<;>omega)) hn
   | exact absurd (Zp.mk ⟨by omega,by omega,by omega,by omega,by omega,by omega,by omega,by omega,by omega,by omega⟩ (by assumption) trivial) hn
theorem Zlj (s:Zi) (ok:Bool) (hl:s.Len) (hok:ok=true↔Zp s 7):
  evF Qt 40 126 [.agg (.int .i64 7::s.r)] ⟨0,[]⟩ (rtK ok):=by
 refine @Eq.mpr _ (let q1:=s.secret;let q2:=q1=q1;let q3:=s.t;let q4:=q3.fund;let q5:=q3.index;let q6:=q3.cap;let q7:=q3.dust;let q8:=q3.fee;let q9:=q3.delay;let q10:=q3.k0;let q11:=q3.k1;let q12:=s.reserve;let q13:=s.amount;let q14:=s.point;let q15:=s.nxt;let q16:=s.key;let q17:=s.hash;let q18:=s.tag;let q19:=s.id;let q20:=s.number;let q21:=s.index;let q22:=s.expiry;let q23:=s.code;let q24:=s.route;
 q2/\
 q4=q4/\
 Z6 (q5=q5) (Z6 (q6=q6) (Z6 (q7=q7) (Z6 (q8=q8) (Z6 (q9=q9) (q10=q10/\
 q11=q11/\
 Z6 (q12=q12) (Z6 (q13=q13) (q14=q14/\
 q15=q15/\
 q16=q16/\
 q17=q17/\
 q18=q18/\
 q2/\
 Z6 (q19=q19) (Z6 (q20=q20) (Z6 (q21=q21) (Z6 (q22=q22) (Z6 (q23=q23) (q24=q24/\
 Z6 (List.length q4=32/\(32:Nat)=32) (Z6 (List.length q10=32/\(32:Nat)=32) (Z6 (List.length q11=32/\(32:Nat)=32) (Z6 (List.length q14=32/\(32:Nat)=32) (Z6 (List.length q15=32/\(32:Nat)=32) (Z6 (List.length q16=32/\(32:Nat)=32) (Z6 (List.length q17=32/\(32:Nat)=32) (Z6 (List.length q18=32/\(32:Nat)=32) (Z6 (List.length q1=32/\List.length q1=32) (Z7 (!(true&&(q4==Z5&&(q5==0&&(q6==0&&(q7==0&&(q8==0&&(q9==0&&(q10==Z5&&q11==Z5))))))&&(q12==0&&(q13==0&&(q14==Z5&&(q15==Z5&&(q16==Z5&&(q17==Z5&&(q18==Z5&&(q1==q1&&(q19==q19&&(q20==0&&(q21==0&&(q22==0&&(q23==0&&ByteArray.toList q24==ByteArray.toList ByteArray.empty)))))))))))))))) (false=ok) (Z7 (decide (q19>=0)) (Z7 (!decide (q19<=2147483647)) (false=ok) (Z7 (decide (q20>=0)) (Z7 (!decide (q20<=2147483647)) (false=ok) (Z7 (decide (q21>=0)) (Z7 (!decide (q21<=2147483647)) (false=ok) (Z7 (decide (q22>=0)) (Z7 (!decide (q22<=2147483647)) (false=ok) (Z7 (decide (q13>=0)) (Z7 (!decide (q13<=1125899906842624)) (false=ok) (true=ok)) (false=ok))) (false=ok))) (false=ok))) (false=ok))) (false=ok)))))))))))))))))))))))) (by kernel_rfl) ?_
 conv=>zeta
 try simp only [vcA]
 try simp only [vcB]
 try simp only [vcC]
 obtain ⟨h0,h1,h2,h3,h4,h5,h6,h7,h8,hb⟩:=hl
 cases ok with
 | true=>
  obtain ⟨⟨w0,w1,w2,w3,w4,w5,w6,w7,w8,w9⟩,hr,hk⟩:=hok.1 rfl
  have hk':=hk
  simp only [kindOk] at hk
  simp only [h0,h1,h2,h3,h4,h5,h6,h7,h8,and_self,beq_self_eq_true,decide_true,true_and,forall_const,J6,Ja,decide_eq_true_eq,decide_eq_false_iff_not,Jh,Ji,reduceCtorEq,false_implies,imp_false,and_true,implies_true]
  repeat' first
   | trivial
   | apply Jc
   | intro
  all_goals first
   | omega
   | (exfalso;omega)
   | (rename_i hq;exact absurd (hr.symm.trans hq) (by decide))
   | (rename_i hq _;exact absurd (hr.symm.trans hq) (by decide))
   | (rename_i hq _ _;exact absurd (hr.symm.trans hq) (by decide))
 | false=>
  have hn:¬Zp s 7:=fun h=>absurd (hok.2 h) (by decide)
  simp only [h0,h1,h2,h3,h4,h5,h6,h7,h8,and_self,beq_self_eq_true,decide_true,true_and,forall_const,J6,Ja,decide_eq_true_eq,decide_eq_false_iff_not,Jh,Ji,reduceCtorEq,false_implies,imp_false,and_true,implies_true]
  repeat' first
   | trivial
   | apply Jc
   | intro
  all_goals first
   | refine Ji.1 fun hq=> ?_
   | refine Jh.1 fun hq=> ?_
   | skip
  all_goals first
   | exact absurd (Zp.mk ⟨by omega,by omega,by omega,by omega,by omega,by omega,by omega,by omega,by omega,by omega⟩ (by assumption) (by simp only [kindOk]<;>omega)) hn
   | exact absurd (Zp.mk ⟨by omega,by omega,by omega,by omega,by omega,by omega,by omega,by omega,by omega,by omega⟩ (by assumption) trivial) hn
theorem Zlk (s:Zi) (ok:Bool) (hl:s.Len) (hok:ok=true↔Zp s 8):
  evF Qt 40 126 [.agg (.int .i64 8::s.r)] ⟨0,[]⟩ (rtK ok):=by
 refine @Eq.mpr _ (let q1:=s.code;let q2:=decide (q1=q1);let q3:=s.t;let q4:=q3.fund;let q5:=q3.index;let q6:=q3.cap;let q7:=q3.dust;let q8:=q3.fee;let q9:=q3.delay;let q10:=q3.k0;let q11:=q3.k1;let q12:=s.reserve;let q13:=s.amount;let q14:=s.point;let q15:=s.nxt;let q16:=s.key;let q17:=s.hash;let q18:=s.tag;let q19:=s.secret;let q20:=s.id;let q21:=s.number;let q22:=s.index;let q23:=s.expiry;let q24:=s.route;
 Z0 q2 (q4=q4/\
 Z6 (q5=q5) (Z6 (q6=q6) (Z6 (q7=q7) (Z6 (q8=q8) (Z6 (q9=q9) (q10=q10/\
 q11=q11/\
 Z6 (q12=q12) (Z6 (q13=q13) (q14=q14/\
 q15=q15/\
 q16=q16/\
 q17=q17/\
 q18=q18/\
 q19=q19/\
 Z6 (q20=q20) (Z6 (q21=q21) (Z6 (q22=q22) (Z6 (q23=q23) (Z0 q2 (q24=q24/\
 Z6 (List.length q4=32/\(32:Nat)=32) (Z6 (List.length q10=32/\(32:Nat)=32) (Z6 (List.length q11=32/\(32:Nat)=32) (Z6 (List.length q14=32/\(32:Nat)=32) (Z6 (List.length q15=32/\(32:Nat)=32) (Z6 (List.length q16=32/\(32:Nat)=32) (Z6 (List.length q17=32/\(32:Nat)=32) (Z6 (List.length q18=32/\(32:Nat)=32) (Z6 (List.length q19=32/\(32:Nat)=32) (Z7 (!(true&&(q4==Z5&&(q5==0&&(q6==0&&(q7==0&&(q8==0&&(q9==0&&(q10==Z5&&q11==Z5))))))&&(q12==0&&(q13==0&&(q14==Z5&&(q15==Z5&&(q16==Z5&&(q17==Z5&&(q18==Z5&&(q19==Z5&&(q20==q20&&(q21==0&&(q22==0&&(q23==0&&(q1==q1&&ByteArray.toList q24==ByteArray.toList ByteArray.empty)))))))))))))))) (false=ok) (Z7 (decide (q20>=0)) (Z7 (!decide (q20<=2147483647)) (false=ok) (Z7 (decide (q21>=0)) (Z7 (!decide (q21<=2147483647)) (false=ok) (Z7 (decide (q22>=0)) (Z7 (!decide (q22<=2147483647)) (false=ok) (Z7 (decide (q23>=0)) (Z7 (!decide (q23<=2147483647)) (false=ok) (Z7 (decide (q13>=0)) (Z7 (!decide (q13<=1125899906842624)) (false=ok) (Z7 (decide (q1>=1)) (decide (q1<=999)=ok) (false=ok))) (false=ok))) (false=ok))) (false=ok))) (false=ok))) (false=ok))))))))))))))))))))))))) (by kernel_rfl) ?_
 conv=>zeta
 try simp only [vcA]
 try simp only [vcB]
 try simp only [vcC]
 obtain ⟨h0,h1,h2,h3,h4,h5,h6,h7,h8,hb⟩:=hl
 cases ok with
 | true=>
  obtain ⟨⟨w0,w1,w2,w3,w4,w5,w6,w7,w8,w9⟩,hr,hk⟩:=hok.1 rfl
  have hk':=hk
  simp only [kindOk] at hk
  simp only [h0,h1,h2,h3,h4,h5,h6,h7,h8,and_self,beq_self_eq_true,decide_true,true_and,forall_const,J6,Ja,decide_eq_true_eq,decide_eq_false_iff_not,Jh,Ji,reduceCtorEq,false_implies,imp_false,and_true,implies_true]
  repeat' first
   | trivial
   | apply Jc
   | intro
  all_goals first
   | omega
   | (exfalso;omega)
   | (rename_i hq;exact absurd (hr.symm.trans hq) (by decide))
   | (rename_i hq _;exact absurd (hr.symm.trans hq) (by decide))
   | (rename_i hq _ _;exact absurd (hr.symm.trans hq) (by decide))
 | false=>
  have hn:¬Zp s 8:=fun h=>absurd (hok.2 h) (by decide)
  simp only [h0,h1,h2,h3,h4,h5,h6,h7,h8,and_self,beq_self_eq_true,decide_true,true_and,forall_const,J6,Ja,decide_eq_true_eq,decide_eq_false_iff_not,Jh,Ji,reduceCtorEq,false_implies,imp_false,and_true,implies_true]
  repeat' first
   | trivial
   | apply Jc
   | intro
  all_goals first
   | refine Ji.1 fun hq=> ?_
   | refine Jh.1 fun hq=> ?_
   | skip
  all_goals first
   | exact absurd (Zp.mk ⟨by omega,by omega,by omega,by omega,by omega,by omega,by omega,by omega,by omega,by omega⟩ (by assumption) (by simp only [kindOk]<;>omega)) hn
   | exact absurd (Zp.mk ⟨by omega,by omega,by omega,by omega,by omega,by omega,by omega,by omega,by omega,by omega⟩ (by assumption) trivial) hn
theorem Zll (s:Zi) (ok:Bool) (hl:s.Len) (hok:ok=true↔Zp s 9):
  evF Qt 40 126 [.agg (.int .i64 9::s.r)] ⟨0,[]⟩ (rtK ok):=by
 refine @Eq.mpr _ (let q1:=s.tag;let q2:=q1=q1;let q3:=s.t;let q4:=q3.fund;let q5:=q3.index;let q6:=q3.cap;let q7:=q3.dust;let q8:=q3.fee;let q9:=q3.delay;let q10:=q3.k0;let q11:=q3.k1;let q12:=s.reserve;let q13:=s.amount;let q14:=s.point;let q15:=s.nxt;let q16:=s.key;let q17:=s.hash;let q18:=s.secret;let q19:=s.id;let q20:=s.number;let q21:=s.index;let q22:=s.expiry;let q23:=s.code;let q24:=s.route;
 q2/\
 q4=q4/\
 Z6 (q5=q5) (Z6 (q6=q6) (Z6 (q7=q7) (Z6 (q8=q8) (Z6 (q9=q9) (q10=q10/\
 q11=q11/\
 Z6 (q12=q12) (Z6 (q13=q13) (q14=q14/\
 q15=q15/\
 q16=q16/\
 q17=q17/\
 q2/\
 q18=q18/\
 Z6 (q19=q19) (Z6 (q20=q20) (Z6 (q21=q21) (Z6 (q22=q22) (Z6 (q23=q23) (q24=q24/\
 Z6 (List.length q4=32/\(32:Nat)=32) (Z6 (List.length q10=32/\(32:Nat)=32) (Z6 (List.length q11=32/\(32:Nat)=32) (Z6 (List.length q14=32/\(32:Nat)=32) (Z6 (List.length q15=32/\(32:Nat)=32) (Z6 (List.length q16=32/\(32:Nat)=32) (Z6 (List.length q17=32/\(32:Nat)=32) (Z6 (List.length q1=32/\List.length q1=32) (Z6 (List.length q18=32/\(32:Nat)=32) (Z7 (!(true&&(q4==Z5&&(q5==0&&(q6==0&&(q7==0&&(q8==0&&(q9==0&&(q10==Z5&&q11==Z5))))))&&(q12==0&&(q13==0&&(q14==Z5&&(q15==Z5&&(q16==Z5&&(q17==Z5&&(q1==q1&&(q18==Z5&&(q19==0&&(q20==q20&&(q21==0&&(q22==0&&(q23==0&&ByteArray.toList q24==ByteArray.toList ByteArray.empty)))))))))))))))) (false=ok) (Z7 (decide (q19>=0)) (Z7 (!decide (q19<=2147483647)) (false=ok) (Z7 (decide (q20>=0)) (Z7 (!decide (q20<=2147483647)) (false=ok) (Z7 (decide (q21>=0)) (Z7 (!decide (q21<=2147483647)) (false=ok) (Z7 (decide (q22>=0)) (Z7 (!decide (q22<=2147483647)) (false=ok) (Z7 (decide (q13>=0)) (Z7 (!decide (q13<=1125899906842624)) (false=ok) (true=ok)) (false=ok))) (false=ok))) (false=ok))) (false=ok))) (false=ok)))))))))))))))))))))))) (by kernel_rfl) ?_
 conv=>zeta
 try simp only [vcA]
 try simp only [vcB]
 try simp only [vcC]
 obtain ⟨h0,h1,h2,h3,h4,h5,h6,h7,h8,hb⟩:=hl
 cases ok with
 | true=>
  obtain ⟨⟨w0,w1,w2,w3,w4,w5,w6,w7,w8,w9⟩,hr,hk⟩:=hok.1 rfl
  have hk':=hk
  simp only [kindOk] at hk
  simp only [h0,h1,h2,h3,h4,h5,h6,h7,h8,and_self,beq_self_eq_true,decide_true,true_and,forall_const,J6,Ja,decide_eq_true_eq,decide_eq_false_iff_not,Jh,Ji,reduceCtorEq,false_implies,imp_false,and_true,implies_true]
  repeat' first
   | trivial
   | apply Jc
   | intro
  all_goals first
   | omega
   | (exfalso;omega)
   | (rename_i hq;exact absurd (hr.symm.trans hq) (by decide))
   | (rename_i hq _;exact absurd (hr.symm.trans hq) (by decide))
   | (rename_i hq _ _;exact absurd (hr.symm.trans hq) (by decide))
 | false=>
  have hn:¬Zp s 9:=fun h=>absurd (hok.2 h) (by decide)
  simp only [h0,h1,h2,h3,h4,h5,h6,h7,h8,and_self,beq_self_eq_true,decide_true,true_and,forall_const,J6,Ja,decide_eq_true_eq,decide_eq_false_iff_not,Jh,Ji,reduceCtorEq,false_implies,imp_false,and_true,implies_true]
  repeat' first
   | trivial
   | apply Jc
   | intro
  all_goals first
   | refine Ji.1 fun hq=> ?_
   | refine Jh.1 fun hq=> ?_
   | skip
  all_goals first
   | exact absurd (Zp.mk ⟨by omega,by omega,by omega,by omega,by omega,by omega,by omega,by omega,by omega,by omega⟩ (by assumption) (by simp only [kindOk]<;>omega)) hn
   | exact absurd (Zp.mk ⟨by omega,by omega,by omega,by omega,by omega,by omega,by omega,by omega,by omega,by omega⟩ (by assumption) trivial) hn
theorem ZiW (s:Zi) (ok:Bool) (hl:s.Len) (hok:ok=true↔Zp s 10):
  evF Qt 40 126 [.agg (.int .i64 10::s.r)] ⟨0,[]⟩ (rtK ok):=by
 refine @Eq.mpr _ (let q1:=s.nxt;let q2:=q1=q1;let q3:=s.secret;let q4:=q3=q3;let q5:=s.t;let q6:=q5.fund;let q7:=q5.index;let q8:=q5.cap;let q9:=q5.dust;let q10:=q5.fee;let q11:=q5.delay;let q12:=q5.k0;let q13:=q5.k1;let q14:=s.reserve;let q15:=s.amount;let q16:=s.point;let q17:=s.key;let q18:=s.hash;let q19:=s.tag;let q20:=s.id;let q21:=s.number;let q22:=s.index;let q23:=s.expiry;let q24:=s.code;let q25:=s.route;
 q2/\
 q4/\
 q2/\
 q6=q6/\
 Z6 (q7=q7) (Z6 (q8=q8) (Z6 (q9=q9) (Z6 (q10=q10) (Z6 (q11=q11) (q12=q12/\
 q13=q13/\
 Z6 (q14=q14) (Z6 (q15=q15) (q16=q16/\
 q2/\
 q17=q17/\
 q18=q18/\
 q19=q19/\
 q4/\
 Z6 (q20=q20) (Z6 (q21=q21) (Z6 (q22=q22) (Z6 (q23=q23) (Z6 (q24=q24) (q25=q25/\
 Z6 (List.length q6=32/\(32:Nat)=32) (Z6 (List.length q12=32/\(32:Nat)=32) (Z6 (List.length q13=32/\(32:Nat)=32) (Z6 (List.length q16=32/\(32:Nat)=32) (Z6 (List.length q1=32/\List.length q1=32) (Z6 (List.length q17=32/\(32:Nat)=32) (Z6 (List.length q18=32/\(32:Nat)=32) (Z6 (List.length q19=32/\(32:Nat)=32) (Z6 (List.length q3=32/\List.length q3=32) (Z7 (!(true&&(q6==Z5&&(q7==0&&(q8==0&&(q9==0&&(q10==0&&(q11==0&&(q12==Z5&&q13==Z5))))))&&(q14==0&&(q15==0&&(q16==Z5&&(q1==q1&&(q17==Z5&&(q18==Z5&&(q19==Z5&&(q3==q3&&(q20==0&&(q21==q21&&(q22==0&&(q23==0&&(q24==0&&ByteArray.toList q25==ByteArray.toList ByteArray.empty)))))))))))))))) (false=ok) (Z7 (decide (q20>=0)) (Z7 (!decide (q20<=2147483647)) (false=ok) (Z7 (decide (q21>=0)) (Z7 (!decide (q21<=2147483647)) (false=ok) (Z7 (decide (q22>=0)) (Z7 (!decide (q22<=2147483647)) (false=ok) (Z7 (decide (q23>=0)) (Z7 (!decide (q23<=2147483647)) (false=ok) (Z7 (decide (q15>=0)) (Z7 (!decide (q15<=1125899906842624)) (false=ok) (true=ok)) (false=ok))) (false=ok))) (false=ok))) (false=ok))) (false=ok)))))))))))))))))))))))) (by kernel_rfl) ?_
 conv=>zeta
 try simp only [vcA]
 try simp only [vcB]
 try simp only [vcC]
 obtain ⟨h0,h1,h2,h3,h4,h5,h6,h7,h8,hb⟩:=hl
 cases ok with
 | true=>
  obtain ⟨⟨w0,w1,w2,w3,w4,w5,w6,w7,w8,w9⟩,hr,hk⟩:=hok.1 rfl
  have hk':=hk
  simp only [kindOk] at hk
  simp only [h0,h1,h2,h3,h4,h5,h6,h7,h8,and_self,beq_self_eq_true,decide_true,true_and,forall_const,J6,Ja,decide_eq_true_eq,decide_eq_false_iff_not,Jh,Ji,reduceCtorEq,false_implies,imp_false,and_true,implies_true]
  repeat' first
   | trivial
   | apply Jc
   | intro
  all_goals first
   | omega
   | (exfalso;omega)
   | (rename_i hq;exact absurd (hr.symm.trans hq) (by decide))
   | (rename_i hq _;exact absurd (hr.symm.trans hq) (by decide))
   | (rename_i hq _ _;exact absurd (hr.symm.trans hq) (by decide))
 | false=>
  have hn:¬Zp s 10:=fun h=>absurd (hok.2 h) (by decide)
  simp only [h0,h1,h2,h3,h4,h5,h6,h7,h8,and_self,beq_self_eq_true,decide_true,true_and,forall_const,J6,Ja,decide_eq_true_eq,decide_eq_false_iff_not,Jh,Ji,reduceCtorEq,false_implies,imp_false,and_true,implies_true]
  repeat' first
   | trivial
   | apply Jc
   | intro
  all_goals first
   | refine Ji.1 fun hq=> ?_
   | refine Jh.1 fun hq=> ?_
   | skip
  all_goals first
   | exact absurd (Zp.mk ⟨by omega,by omega,by omega,by omega,by omega,by omega,by omega,by omega,by omega,by omega⟩ (by assumption) (by simp only [kindOk]<;>omega)) hn
   | exact absurd (Zp.mk ⟨by omega,by omega,by omega,by omega,by omega,by omega,by omega,by omega,by omega,by omega⟩ (by assumption) trivial) hn
theorem ZiX (s:Zi) (ok:Bool) (hl:s.Len) (hok:ok=true↔Zp s 11):
  evF Qt 40 126 [.agg (.int .i64 11::s.r)] ⟨0,[]⟩ (rtK ok):=by
 refine @Eq.mpr _ (let q1:=s.id;let q2:=decide (q1=q1);let q3:=s.t;let q4:=q3.fund;let q5:=q3.index;let q6:=q3.cap;let q7:=q3.dust;let q8:=q3.fee;let q9:=q3.delay;let q10:=q3.k0;let q11:=q3.k1;let q12:=s.reserve;let q13:=s.amount;let q14:=s.point;let q15:=s.nxt;let q16:=s.key;let q17:=s.hash;let q18:=s.tag;let q19:=s.secret;let q20:=s.number;let q21:=s.index;let q22:=s.expiry;let q23:=s.code;let q24:=s.route;
 Z0 q2 (q4=q4/\
 Z6 (q5=q5) (Z6 (q6=q6) (Z6 (q7=q7) (Z6 (q8=q8) (Z6 (q9=q9) (q10=q10/\
 q11=q11/\
 Z6 (q12=q12) (Z6 (q13=q13) (q14=q14/\
 q15=q15/\
 q16=q16/\
 q17=q17/\
 q18=q18/\
 q19=q19/\
 Z0 q2 (Z6 (q20=q20) (Z6 (q21=q21) (Z6 (q22=q22) (Z6 (q23=q23) (q24=q24/\
 Z6 (List.length q4=32/\(32:Nat)=32) (Z6 (List.length q10=32/\(32:Nat)=32) (Z6 (List.length q11=32/\(32:Nat)=32) (Z6 (List.length q14=32/\(32:Nat)=32) (Z6 (List.length q15=32/\(32:Nat)=32) (Z6 (List.length q16=32/\(32:Nat)=32) (Z6 (List.length q17=32/\(32:Nat)=32) (Z6 (List.length q18=32/\(32:Nat)=32) (Z6 (List.length q19=32/\(32:Nat)=32) (Z7 (!(true&&(q4==Z5&&(q5==0&&(q6==0&&(q7==0&&(q8==0&&(q9==0&&(q10==Z5&&q11==Z5))))))&&(q12==0&&(q13==0&&(q14==Z5&&(q15==Z5&&(q16==Z5&&(q17==Z5&&(q18==Z5&&(q19==Z5&&(q1==q1&&(q20==q20&&(q21==0&&(q22==0&&(q23==0&&ByteArray.toList q24==ByteArray.toList ByteArray.empty)))))))))))))))) (false=ok) (Z7 (decide (q1>=0)) (Z7 (!decide (q1<=2147483647)) (false=ok) (Z7 (decide (q20>=0)) (Z7 (!decide (q20<=2147483647)) (false=ok) (Z7 (decide (q21>=0)) (Z7 (!decide (q21<=2147483647)) (false=ok) (Z7 (decide (q22>=0)) (Z7 (!decide (q22<=2147483647)) (false=ok) (Z7 (decide (q13>=0)) (Z7 (!decide (q13<=1125899906842624)) (false=ok) (true=ok)) (false=ok))) (false=ok))) (false=ok))) (false=ok))) (false=ok))))))))))))))))))))))))) (by kernel_rfl) ?_
 conv=>zeta
 try simp only [vcA]
 try simp only [vcB]
 try simp only [vcC]
 obtain ⟨h0,h1,h2,h3,h4,h5,h6,h7,h8,hb⟩:=hl
 cases ok with
 | true=>
  obtain ⟨⟨w0,w1,w2,w3,w4,w5,w6,w7,w8,w9⟩,hr,hk⟩:=hok.1 rfl
  have hk':=hk
  simp only [kindOk] at hk
  simp only [h0,h1,h2,h3,h4,h5,h6,h7,h8,and_self,beq_self_eq_true,decide_true,true_and,forall_const,J6,Ja,decide_eq_true_eq,decide_eq_false_iff_not,Jh,Ji,reduceCtorEq,false_implies,imp_false,and_true,implies_true]
  repeat' first
   | trivial
   | apply Jc
   | intro
  all_goals first
   | omega
   | (exfalso;omega)
   | (rename_i hq;exact absurd (hr.symm.trans hq) (by decide))
   | (rename_i hq _;exact absurd (hr.symm.trans hq) (by decide))
   | (rename_i hq _ _;exact absurd (hr.symm.trans hq) (by decide))
 | false=>
  have hn:¬Zp s 11:=fun h=>absurd (hok.2 h) (by decide)
  simp only [h0,h1,h2,h3,h4,h5,h6,h7,h8,and_self,beq_self_eq_true,decide_true,true_and,forall_const,J6,Ja,decide_eq_true_eq,decide_eq_false_iff_not,Jh,Ji,reduceCtorEq,false_implies,imp_false,and_true,implies_true]
  repeat' first
   | trivial
   | apply Jc
   | intro
  all_goals first
   | refine Ji.1 fun hq=> ?_
   | refine Jh.1 fun hq=> ?_
   | skip
  all_goals first
   | exact absurd (Zp.mk ⟨by omega,by omega,by omega,by omega,by omega,by omega,by omega,by omega,by omega,by omega⟩ (by assumption) (by simp only [kindOk]<;>omega)) hn
   | exact absurd (Zp.mk ⟨by omega,by omega,by omega,by omega,by omega,by omega,by omega,by omega,by omega,by omega⟩ (by assumption) trivial) hn
theorem ZiY (s:Zi) (ok:Bool) (hl:s.Len) (hok:ok=true↔Zp s 12):
  evF Qt 40 126 [.agg (.int .i64 12::s.r)] ⟨0,[]⟩ (rtK ok):=by
 refine @Eq.mpr _ (let q1:=s.t;let q2:=q1.fund;let q3:=q1.index;let q4:=q1.cap;let q5:=q1.dust;let q6:=q1.fee;let q7:=q1.delay;let q8:=q1.k0;let q9:=q1.k1;let q10:=s.reserve;let q11:=s.amount;let q12:=s.point;let q13:=s.nxt;let q14:=s.key;let q15:=s.hash;let q16:=s.tag;let q17:=s.secret;let q18:=s.id;let q19:=s.number;let q20:=s.index;let q21:=s.expiry;let q22:=s.code;let q23:=s.route;
 q2=q2/\
 Z6 (q3=q3) (Z6 (q4=q4) (Z6 (q5=q5) (Z6 (q6=q6) (Z6 (q7=q7) (q8=q8/\
 q9=q9/\
 Z6 (q10=q10) (Z6 (q11=q11) (q12=q12/\
 q13=q13/\
 q14=q14/\
 q15=q15/\
 q16=q16/\
 q17=q17/\
 Z6 (q18=q18) (Z6 (q19=q19) (Z6 (q20=q20) (Z6 (q21=q21) (Z6 (q22=q22) (q23=q23/\
 Z6 (List.length q2=32/\(32:Nat)=32) (Z6 (List.length q8=32/\(32:Nat)=32) (Z6 (List.length q9=32/\(32:Nat)=32) (Z6 (List.length q12=32/\(32:Nat)=32) (Z6 (List.length q13=32/\(32:Nat)=32) (Z6 (List.length q14=32/\(32:Nat)=32) (Z6 (List.length q15=32/\(32:Nat)=32) (Z6 (List.length q16=32/\(32:Nat)=32) (Z6 (List.length q17=32/\(32:Nat)=32) (Z7 (!(true&&(q2==Z5&&(q3==0&&(q4==0&&(q5==0&&(q6==0&&(q7==0&&(q8==Z5&&q9==Z5))))))&&(q10==0&&(q11==0&&(q12==Z5&&(q13==Z5&&(q14==Z5&&(q15==Z5&&(q16==Z5&&(q17==Z5&&(q18==0&&(q19==0&&(q20==0&&(q21==0&&(q22==0&&ByteArray.toList q23==ByteArray.toList ByteArray.empty)))))))))))))))) (false=ok) (Z7 (decide (q18>=0)) (Z7 (!decide (q18<=2147483647)) (false=ok) (Z7 (decide (q19>=0)) (Z7 (!decide (q19<=2147483647)) (false=ok) (Z7 (decide (q20>=0)) (Z7 (!decide (q20<=2147483647)) (false=ok) (Z7 (decide (q21>=0)) (Z7 (!decide (q21<=2147483647)) (false=ok) (Z7 (decide (q11>=0)) (Z7 (!decide (q11<=1125899906842624)) (false=ok) (true=ok)) (false=ok))) (false=ok))) (false=ok))) (false=ok))) (false=ok)))))))))))))))))))))))) (by kernel_rfl) ?_
 conv=>zeta
 try simp only [vcA]
 try simp only [vcB]
 try simp only [vcC]
 obtain ⟨h0,h1,h2,h3,h4,h5,h6,h7,h8,hb⟩:=hl
 cases ok with
 | true=>
  obtain ⟨⟨w0,w1,w2,w3,w4,w5,w6,w7,w8,w9⟩,hr,hk⟩:=hok.1 rfl
  have hk':=hk
  simp only [kindOk] at hk
  simp only [h0,h1,h2,h3,h4,h5,h6,h7,h8,and_self,beq_self_eq_true,decide_true,true_and,forall_const,J6,Ja,decide_eq_true_eq,decide_eq_false_iff_not,Jh,Ji,reduceCtorEq,false_implies,imp_false,and_true,implies_true]
  repeat' first
   | trivial
   | apply Jc
   | intro
  all_goals first
   | omega
   | (exfalso;omega)
   | (rename_i hq;exact absurd (hr.symm.trans hq) (by decide))
   | (rename_i hq _;exact absurd (hr.symm.trans hq) (by decide))
   | (rename_i hq _ _;exact absurd (hr.symm.trans hq) (by decide))
 | false=>
  have hn:¬Zp s 12:=fun h=>absurd (hok.2 h) (by decide)
  simp only [h0,h1,h2,h3,h4,h5,h6,h7,h8,and_self,beq_self_eq_true,decide_true,true_and,forall_const,J6,Ja,decide_eq_true_eq,decide_eq_false_iff_not,Jh,Ji,reduceCtorEq,false_implies,imp_false,and_true,implies_true]
  repeat' first
   | trivial
   | apply Jc
   | intro
  all_goals first
   | refine Ji.1 fun hq=> ?_
   | refine Jh.1 fun hq=> ?_
   | skip
  all_goals first
   | exact absurd (Zp.mk ⟨by omega,by omega,by omega,by omega,by omega,by omega,by omega,by omega,by omega,by omega⟩ (by assumption) (by simp only [kindOk]<;>omega)) hn
   | exact absurd (Zp.mk ⟨by omega,by omega,by omega,by omega,by omega,by omega,by omega,by omega,by omega,by omega⟩ (by assumption) trivial) hn
theorem ZiZ (s:Zi) (ok:Bool) (hl:s.Len) (hok:ok=true↔Zp s 13):
  evF Qt 40 126 [.agg (.int .i64 13::s.r)] ⟨0,[]⟩ (rtK ok):=by
 refine @Eq.mpr _ (let q1:=s.tag;let q2:=q1=q1;let q3:=s.t;let q4:=q3.fund;let q5:=q3.index;let q6:=q3.cap;let q7:=q3.dust;let q8:=q3.fee;let q9:=q3.delay;let q10:=q3.k0;let q11:=q3.k1;let q12:=s.reserve;let q13:=s.amount;let q14:=s.point;let q15:=s.nxt;let q16:=s.key;let q17:=s.hash;let q18:=s.secret;let q19:=s.id;let q20:=s.number;let q21:=s.index;let q22:=s.expiry;let q23:=s.code;let q24:=s.route;
 q2/\
 q4=q4/\
 Z6 (q5=q5) (Z6 (q6=q6) (Z6 (q7=q7) (Z6 (q8=q8) (Z6 (q9=q9) (q10=q10/\
 q11=q11/\
 Z6 (q12=q12) (Z6 (q13=q13) (q14=q14/\
 q15=q15/\
 q16=q16/\
 q17=q17/\
 q2/\
 q18=q18/\
 Z6 (q19=q19) (Z6 (q20=q20) (Z6 (q21=q21) (Z6 (q22=q22) (Z6 (q23=q23) (q24=q24/\
 Z6 (List.length q4=32/\(32:Nat)=32) (Z6 (List.length q10=32/\(32:Nat)=32) (Z6 (List.length q11=32/\(32:Nat)=32) (Z6 (List.length q14=32/\(32:Nat)=32) (Z6 (List.length q15=32/\(32:Nat)=32) (Z6 (List.length q16=32/\(32:Nat)=32) (Z6 (List.length q17=32/\(32:Nat)=32) (Z6 (List.length q1=32/\List.length q1=32) (Z6 (List.length q18=32/\(32:Nat)=32) (Z7 (!(true&&(q4==Z5&&(q5==0&&(q6==0&&(q7==0&&(q8==0&&(q9==0&&(q10==Z5&&q11==Z5))))))&&(q12==0&&(q13==q13&&(q14==Z5&&(q15==Z5&&(q16==Z5&&(q17==Z5&&(q1==q1&&(q18==Z5&&(q19==0&&(q20==0&&(q21==0&&(q22==0&&(q23==0&&ByteArray.toList q24==ByteArray.toList ByteArray.empty)))))))))))))))) (false=ok) (Z7 (decide (q19>=0)) (Z7 (!decide (q19<=2147483647)) (false=ok) (Z7 (decide (q20>=0)) (Z7 (!decide (q20<=2147483647)) (false=ok) (Z7 (decide (q21>=0)) (Z7 (!decide (q21<=2147483647)) (false=ok) (Z7 (decide (q22>=0)) (Z7 (!decide (q22<=2147483647)) (false=ok) (Z7 (decide (q13>=0)) (Z7 (!decide (q13<=1125899906842624)) (false=ok) (true=ok)) (false=ok))) (false=ok))) (false=ok))) (false=ok))) (false=ok)))))))))))))))))))))))) (by kernel_rfl) ?_
 conv=>zeta
 try simp only [vcA]
 try simp only [vcB]
 try simp only [vcC]
 obtain ⟨h0,h1,h2,h3,h4,h5,h6,h7,h8,hb⟩:=hl
 cases ok with
 | true=>
  obtain ⟨⟨w0,w1,w2,w3,w4,w5,w6,w7,w8,w9⟩,hr,hk⟩:=hok.1 rfl
  have hk':=hk
  simp only [kindOk] at hk
  simp only [h0,h1,h2,h3,h4,h5,h6,h7,h8,and_self,beq_self_eq_true,decide_true,true_and,forall_const,J6,Ja,decide_eq_true_eq,decide_eq_false_iff_not,Jh,Ji,reduceCtorEq,false_implies,imp_false,and_true,implies_true]
  repeat' first
   | trivial
   | apply Jc
   | intro
  all_goals first
   | omega
   | (exfalso;omega)
   | (rename_i hq;exact absurd (hr.symm.trans hq) (by decide))
   | (rename_i hq _;exact absurd (hr.symm.trans hq) (by decide))
   | (rename_i hq _ _;exact absurd (hr.symm.trans hq) (by decide))
 | false=>
  have hn:¬Zp s 13:=fun h=>absurd (hok.2 h) (by decide)
  simp only [h0,h1,h2,h3,h4,h5,h6,h7,h8,and_self,beq_self_eq_true,decide_true,true_and,forall_const,J6,Ja,decide_eq_true_eq,decide_eq_false_iff_not,Jh,Ji,reduceCtorEq,false_implies,imp_false,and_true,implies_true]
  repeat' first
   | trivial
   | apply Jc
   | intro
  all_goals first
   | refine Ji.1 fun hq=> ?_
   | refine Jh.1 fun hq=> ?_
   | skip
  all_goals first
   | exact absurd (Zp.mk ⟨by omega,by omega,by omega,by omega,by omega,by omega,by omega,by omega,by omega,by omega⟩ (by assumption) (by simp only [kindOk]<;>omega)) hn
   | exact absurd (Zp.mk ⟨by omega,by omega,by omega,by omega,by omega,by omega,by omega,by omega,by omega,by omega⟩ (by assumption) trivial) hn
theorem Zj0 (s:Zi) (ok:Bool) (hl:s.Len) (hok:ok=true↔Zp s 14):
  evF Qt 40 126 [.agg (.int .i64 14::s.r)] ⟨0,[]⟩ (rtK ok):=by
 refine @Eq.mpr _ (let q1:=s.t;let q2:=q1.fund;let q3:=q1.index;let q4:=q1.cap;let q5:=q1.dust;let q6:=q1.fee;let q7:=q1.delay;let q8:=q1.k0;let q9:=q1.k1;let q10:=s.reserve;let q11:=s.amount;let q12:=s.point;let q13:=s.nxt;let q14:=s.key;let q15:=s.hash;let q16:=s.tag;let q17:=s.secret;let q18:=s.id;let q19:=s.number;let q20:=s.index;let q21:=s.expiry;let q22:=s.code;let q23:=s.route;
 q2=q2/\
 Z6 (q3=q3) (Z6 (q4=q4) (Z6 (q5=q5) (Z6 (q6=q6) (Z6 (q7=q7) (q8=q8/\
 q9=q9/\
 Z6 (q10=q10) (Z6 (q11=q11) (q12=q12/\
 q13=q13/\
 q14=q14/\
 q15=q15/\
 q16=q16/\
 q17=q17/\
 Z6 (q18=q18) (Z6 (q19=q19) (Z6 (q20=q20) (Z6 (q21=q21) (Z6 (q22=q22) (q23=q23/\
 Z6 (List.length q2=32/\(32:Nat)=32) (Z6 (List.length q8=32/\(32:Nat)=32) (Z6 (List.length q9=32/\(32:Nat)=32) (Z6 (List.length q12=32/\(32:Nat)=32) (Z6 (List.length q13=32/\(32:Nat)=32) (Z6 (List.length q14=32/\(32:Nat)=32) (Z6 (List.length q15=32/\(32:Nat)=32) (Z6 (List.length q16=32/\(32:Nat)=32) (Z6 (List.length q17=32/\(32:Nat)=32) (Z7 (!(true&&(q2==Z5&&(q3==0&&(q4==0&&(q5==0&&(q6==0&&(q7==0&&(q8==Z5&&q9==Z5))))))&&(q10==0&&(q11==0&&(q12==Z5&&(q13==Z5&&(q14==Z5&&(q15==Z5&&(q16==Z5&&(q17==Z5&&(q18==0&&(q19==0&&(q20==0&&(q21==0&&(q22==q22&&ByteArray.toList q23==ByteArray.toList ByteArray.empty)))))))))))))))) (false=ok) (Z7 (decide (q18>=0)) (Z7 (!decide (q18<=2147483647)) (false=ok) (Z7 (decide (q19>=0)) (Z7 (!decide (q19<=2147483647)) (false=ok) (Z7 (decide (q20>=0)) (Z7 (!decide (q20<=2147483647)) (false=ok) (Z7 (decide (q21>=0)) (Z7 (!decide (q21<=2147483647)) (false=ok) (Z7 (decide (q11>=0)) (Z7 (!decide (q11<=1125899906842624)) (false=ok) (Z7 (decide (q22>=1)) (decide (q22<=999)=ok) (false=ok))) (false=ok))) (false=ok))) (false=ok))) (false=ok))) (false=ok)))))))))))))))))))))))) (by kernel_rfl) ?_
 conv=>zeta
 try simp only [vcA]
 try simp only [vcB]
 try simp only [vcC]
 obtain ⟨h0,h1,h2,h3,h4,h5,h6,h7,h8,hb⟩:=hl
 cases ok with
 | true=>
  obtain ⟨⟨w0,w1,w2,w3,w4,w5,w6,w7,w8,w9⟩,hr,hk⟩:=hok.1 rfl
  have hk':=hk
  simp only [kindOk] at hk
  simp only [h0,h1,h2,h3,h4,h5,h6,h7,h8,and_self,beq_self_eq_true,decide_true,true_and,forall_const,J6,Ja,decide_eq_true_eq,decide_eq_false_iff_not,Jh,Ji,reduceCtorEq,false_implies,imp_false,and_true,implies_true]
  repeat' first
   | trivial
   | apply Jc
   | intro
  all_goals first
   | omega
   | (exfalso;omega)
   | (rename_i hq;exact absurd (hr.symm.trans hq) (by decide))
   | (rename_i hq _;exact absurd (hr.symm.trans hq) (by decide))
   | (rename_i hq _ _;exact absurd (hr.symm.trans hq) (by decide))
 | false=>
  have hn:¬Zp s 14:=fun h=>absurd (hok.2 h) (by decide)
  simp only [h0,h1,h2,h3,h4,h5,h6,h7,h8,and_self,beq_self_eq_true,decide_true,true_and,forall_const,J6,Ja,decide_eq_true_eq,decide_eq_false_iff_not,Jh,Ji,reduceCtorEq,false_implies,imp_false,and_true,implies_true]
  repeat' first
   | trivial
   | apply Jc
   | intro
  all_goals first
   | refine Ji.1 fun hq=> ?_
   | refine Jh.1 fun hq=> ?_
   | skip
  all_goals first
   | exact absurd (Zp.mk ⟨by omega,by omega,by omega,by omega,by omega,by omega,by omega,by omega,by omega,by omega⟩ (by assumption) (by simp only [kindOk]<;>omega)) hn
   | exact absurd (Zp.mk ⟨by omega,by omega,by omega,by omega,by omega,by omega,by omega,by omega,by omega,by omega⟩ (by assumption) trivial) hn
theorem Zlm (s:Zi) (k:Int) (hl:s.Len) (hk:k<1\/14<k):
  evF Qt 40 126 [.agg (.int .i64 k::s.r)] ⟨0,[]⟩ (rtK false):=by
 refine @Eq.mpr _ (let q1:=k==1;let q2:=s.nxt;let q3:=q2=q2;let q4:=s.point;let q5:=q4=q4;let q6:=s.amount;let q7:=decide (q6=q6);let q8:=s.reserve;let q9:=decide (q8=q8);let q10:=decide (k=k);let q11:=s.t;let q12:=q11.fund;let q13:=q12=q12;let q14:=q11.index;let q15:=decide (q14=q14);let q16:=q11.cap;let q17:=decide (q16=q16);let q18:=q11.dust;let q19:=decide (q18=q18);let q20:=q11.fee;let q21:=decide (q20=q20);let q22:=q11.delay;let q23:=decide (q22=q22);let q24:=q11.k0;let q25:=q24=q24;let q26:=q11.k1;let q27:=q26=q26;let q28:=s.key;let q29:=q28=q28;let q30:=s.hash;let q31:=q30=q30;let q32:=s.tag;let q33:=q32=q32;let q34:=s.secret;let q35:=q34=q34;let q36:=s.id;let q37:=decide (q36=q36);let q38:=s.number;let q39:=decide (q38=q38);let q40:=s.index;let q41:=decide (q40=q40);let q42:=s.expiry;let q43:=decide (q42=q42);let q44:=s.code;let q45:=decide (q44=q44);let q46:=s.route;let q47:=q46=q46;let q48:=List.length q24;let q49:=decide (List.length q4=32/\List.length q4=32);let q50:=decide (List.length q2=32/\List.length q2=32);let q51:=decide (List.length q28=32/\(32:Nat)=32);let q52:=decide (List.length q30=32/\(32:Nat)=32);let q53:=decide (List.length q32=32/\(32:Nat)=32);let q54:=decide (List.length q34=32/\(32:Nat)=32);let q55:=k==k;let q56:=q6==q6;let q57:=q4==q4;let q58:=q2==q2;let q59:=q28==Z5;let q60:=q30==Z5;let q61:=q32==Z5;let q62:=q34==Z5;let q63:=q36==0;let q64:=q38==0;let q65:=q40==0;let q66:=q42==0;let q67:=q44==0;let q68:=ByteArray.toList q46;let q69:=q68==ByteArray.toList ByteArray.empty;let q70:=q66&&(q67&&q69);let q71:=q65&&q70;let q72:=q64&&q71;let q73:=q62&&(q63&&q72);let q74:=q60&&(q61&&q73);let q75:=q59&&q74;let q76:=decide (q36>=0);let q77:= !decide (q36<=2147483647);let q78:=decide (q38>=0);let q79:= !decide (q38<=2147483647);let q80:=decide (q40>=0);let q81:= !decide (q40<=2147483647);let q82:=decide (q42>=0);let q83:= !decide (q42<=2147483647);let q84:=decide (q6>=0);let q85:= !decide (q6<=1125899906842624);let q86:=decide (List.length q12=32/\(32:Nat)=32);let q87:=q12==Z5;let q88:=q14==0;let q89:=decide (List.length q26=32/\(32:Nat)=32);let q90:=q26==Z5;let q91:=Zj.mk q12 q14 q16 q18 q20 q22 q24 (List.set q24 0 (wrap u8 (List.getD q24 0 0+1)));let q92:=Z7 q86 (Z7 q87 (Z7 q88 (Z7 q89 (Z7 q90 (Zj.Ok q91/\Z7 (Y6 q91) (Z7 (decide (q8>=0)) (Z7 (decide (q8<=wrap i64 (Int.tdiv q16 10))) (decide (q6<=wrap i64 (wrap i64 (q16-q20)-q8))=false) (false=false)) (false=false)) (false=false)) (false=false)) False) (false=false)) (false=false)) False;let q93:=k==8;let q94:=Z7 (decide (q44>=1)) (decide (q44<=999)=false) (false=false);let q95:=Z7 (k==3) (decide (q40<24)=false) (Z7 (k==6) (Z7 (decide (q6>0)) (Z7 (decide (q42>0)) (decide ((↑(ByteArray.size q46):Int)<=512)=false) (false=false)) (false=false)) (Z7 q93 (Z7 q93 q94 (true=false)) (Z7 (k==14) q94 (true=false))));let q96:=decide (q48=32/\(32:Nat)=32);let q97:=q87&&(q88&&(q16==0&&(q18==0&&(q20==0&&(q22==0&&(q24==Z5&&q90))))));let q98:=q8==0;let q99:=q6==0;let q100:=decide (List.length q4=32/\(32:Nat)=32);let q101:=decide (List.length q2=32/\(32:Nat)=32);let q102:=decide (List.length q30=32/\List.length q30=32);let q103:=decide (List.length q32=32/\List.length q32=32);let q104:=q4==Z5;let q105:=q2==Z5;let q106:=q30==q30;let q107:=q32==q32;let q108:=q104&&(q105&&(q59&&(q60&&(q107&&q73))));let q109:=q36==q36;let q110:=decide (List.length q34=32/\List.length q34=32);let q111:=q34==q34;let q112:=q64&&(q65&&(q66&&(q44==q44&&q69)));let q113:=q38==q38&&q71;let q114:=q63&&q113;
 Z7 (decide (k<1)) (false=false)
 (Z7 (decide (k>14)) (false=false)
 (Z7 q1
 (q3/\
 q5/\
 Z7 q7
 (Z7 q9
 (q3/\
 q5/\
 Z7 q7
 (q3/\
 q5/\
 q3/\
 Z7 q10
 (q13/\
 Z7 q15
 (Z7 q17
 (Z7 q19
 (Z7 q21
 (Z7 q23
 (q25/\
 q27/\
 Z7 q9 (Z7 q7 (q5/\q3/\q29/\q31/\q33/\q35/\Z7 q37 (Z7 q39 (Z7 q41 (Z7 q43 (Z7 q45 (q47/\Z7 (decide (List.length q12=32/\List.length q12=32)) (Z7 (decide (q48=32/\q48=32)) (Z7 (decide (List.length q26=32/\List.length q26=32)) (Z7 q49 (Z7 q50 (Z7 q51 (Z7 q52 (Z7 q53 (Z7 q54 (Z7 (!(q55&&(q12==q12&&(q14==q14&&(q16==q16&&(q18==q18&&(q20==q20&&(q22==q22&&(q24==q24&&q26==q26))))))&&(q8==q8&&(q56&&(q57&&(q58&&q75))))))) (false=false) (Z7 q76 (Z7 q77 (false=false) (Z7 q78 (Z7 q79 (false=false) (Z7 q80 (Z7 q81 (false=false) (Z7 q82 (Z7 q83 (false=false) (Z7 q84 (Z7 q85 (false=false) (Z7 q1 (Z7 (decide (u8=u8/\(0:Nat)<32/\0<q48)) q92 False) q95)) (false=false))) (false=false))) (false=false))) (false=false))) (false=false))) False) False) False) False) False) False) False) False) False) False) False) False) False) False) False)
 False)
 False)
 False)
 False)
 False)
 False)
 False)
 False)
 False)
 False)
 (Z7 (k==2) (q3/\q5/\q3/\Z7 q10 (q13/\Z7 q15 (Z7 q17 (Z7 q19 (Z7 q21 (Z7 q23 (q25/\q27/\Z7 q9 (Z7 q7 (q5/\q3/\q29/\q31/\q33/\q35/\Z7 q37 (Z7 q39 (Z7 q41 (Z7 q43 (Z7 q45 (q47/\Z7 q86 (Z7 q96 (Z7 q89 (Z7 q49 (Z7 q50 (Z7 (decide (List.length q28=32/\List.length q28=32)) (Z7 q52 (Z7 q53 (Z7 q54 (Z7 (!(q55&&(q97&&(q98&&(q99&&(q57&&(q58&&(q28==q28&&q74)))))))) (false=false) (Z7 q76 (Z7 q77 (false=false) (Z7 q78 (Z7 q79 (false=false) (Z7 q80 (Z7 q81 (false=false) (Z7 q82 (Z7 q83 (false=false) (Z7 q84 (Z7 q85 (false=false) (Z7 q1 (Z7 (decide (u8=u8/\(0:Nat)<32/\0<q48)) q92 False) q95)) (false=false))) (false=false))) (false=false))) (false=false))) (false=false))) False) False) False) False) False) False) False) False) False) False) False) False) False) False) False) False) False) False) False) False) False) False)
 (Z7 (k==3) (q33/\Z7 q41 (q33/\Z7 q10 (q13/\Z7 q15 (Z7 q17 (Z7 q19 (Z7 q21 (Z7 q23 (q25/\q27/\Z7 q9 (Z7 q7 (q5/\q3/\q29/\q31/\q33/\q35/\Z7 q37 (Z7 q39 (Z7 q41 (Z7 q43 (Z7 q45 (q47/\Z7 q86 (Z7 q96 (Z7 q89 (Z7 q100 (Z7 q101 (Z7 q51 (Z7 q102 (Z7 q103 (Z7 q54 (Z7 (!(q55&&(q97&&(q98&&(q99&&(q104&&(q105&&(q59&&(q106&&(q107&&(q62&&(q63&&(q64&&(q40==q40&&q70)))))))))))))) (false=false) (Z7 q76 (Z7 q77 (false=false) (Z7 q78 (Z7 q79 (false=false) (Z7 q80 (Z7 q81 (false=false) (Z7 q82 (Z7 q83 (false=false) (Z7 q84 (Z7 q85 (false=false) (Z7 q1 (Z7 (decide (u8=u8/\(0:Nat)<32/\0<q48)) q92 False) q95)) (false=false))) (false=false))) (false=false))) (false=false))) (false=false))) False) False) False) False) False) False) False) False) False) False) False) False) False) False) False) False) False) False) False) False) False) False) False)
 (Z7 (k==4) (Z7 q10 (q13/\Z7 q15 (Z7 q17 (Z7 q19 (Z7 q21 (Z7 q23 (q25/\q27/\Z7 q9 (Z7 q7 (q5/\q3/\q29/\q31/\q33/\q35/\Z7 q37 (Z7 q39 (Z7 q41 (Z7 q43 (Z7 q45 (q47/\Z7 q86 (Z7 q96 (Z7 q89 (Z7 q100 (Z7 q101 (Z7 q51 (Z7 q52 (Z7 q103 (Z7 q54 (Z7 (!(q55&&(q97&&(q98&&(q99&&q108))))) (false=false) (Z7 q76 (Z7 q77 (false=false) (Z7 q78 (Z7 q79 (false=false) (Z7 q80 (Z7 q81 (false=false) (Z7 q82 (Z7 q83 (false=false) (Z7 q84 (Z7 q85 (false=false) (Z7 q1 (Z7 (decide (u8=u8/\(0:Nat)<32/\0<q48)) q92 False) q95)) (false=false))) (false=false))) (false=false))) (false=false))) (false=false))) False) False) False) False) False) False) False) False) False) False) False) False) False) False) False) False) False) False) False) False) False) False)
 (Z7 (k==6)
 (q47/\
 Z7 q43
 (q31/\
 Z7 q7
 (q47/\
 Z7 q43
 (q31/\
 q47/\
 Z7 q43 (q47/\Z7 q10 (q13/\Z7 q15 (Z7 q17 (Z7 q19 (Z7 q21 (Z7 q23 (q25/\q27/\Z7 q9 (Z7 q7 (q5/\q3/\q29/\q31/\q33/\q35/\Z7 q37 (Z7 q39 (Z7 q41 (Z7 q43 (Z7 q45 (q47/\Z7 q86 (Z7 q96 (Z7 q89 (Z7 q100 (Z7 q101 (Z7 q51 (Z7 q102 (Z7 q53 (Z7 q54 (Z7 (!(q55&&(q97&&(q98&&(q56&&(q104&&(q105&&(q59&&(q106&&(q61&&(q62&&(q109&&(q64&&(q65&&(q42==q42&&(q67&&q68==q68)))))))))))))))) (false=false) (Z7 q76 (Z7 q77 (false=false) (Z7 q78 (Z7 q79 (false=false) (Z7 q80 (Z7 q81 (false=false) (Z7 q82 (Z7 q83 (false=false) (Z7 q84 (Z7 q85 (false=false) (Z7 q1 (Z7 (decide (u8=u8/\(0:Nat)<32/\0<q48)) q92 False) q95)) (false=false))) (false=false))) (false=false))) (false=false))) (false=false))) False) False) False) False) False) False) False) False) False) False) False) False) False) False) False) False) False) False) False) False) False) False) False)
 False)
 False)
 False)
 (Z7 (k==7) (q35/\Z7 q10 (q13/\Z7 q15 (Z7 q17 (Z7 q19 (Z7 q21 (Z7 q23 (q25/\q27/\Z7 q9 (Z7 q7 (q5/\q3/\q29/\q31/\q33/\q35/\Z7 q37 (Z7 q39 (Z7 q41 (Z7 q43 (Z7 q45 (q47/\Z7 q86 (Z7 q96 (Z7 q89 (Z7 q100 (Z7 q101 (Z7 q51 (Z7 q52 (Z7 q53 (Z7 q110 (Z7 (!(q55&&(q97&&(q98&&(q99&&(q104&&(q105&&(q59&&(q60&&(q61&&(q111&&(q109&&q72)))))))))))) (false=false) (Z7 q76 (Z7 q77 (false=false) (Z7 q78 (Z7 q79 (false=false) (Z7 q80 (Z7 q81 (false=false) (Z7 q82 (Z7 q83 (false=false) (Z7 q84 (Z7 q85 (false=false) (Z7 q1 (Z7 (decide (u8=u8/\(0:Nat)<32/\0<q48)) q92 False) q95)) (false=false))) (false=false))) (false=false))) (false=false))) (false=false))) False) False) False) False) False) False) False) False) False) False) False) False) False) False) False) False) False) False) False) False) False) False)
 (Z7 q93 (Z7 q45 (Z7 q10 (q13/\Z7 q15 (Z7 q17 (Z7 q19 (Z7 q21 (Z7 q23 (q25/\q27/\Z7 q9 (Z7 q7 (q5/\q3/\q29/\q31/\q33/\q35/\Z7 q37 (Z7 q39 (Z7 q41 (Z7 q43 (Z7 q45 (q47/\Z7 q86 (Z7 q96 (Z7 q89 (Z7 q100 (Z7 q101 (Z7 q51 (Z7 q52 (Z7 q53 (Z7 q54 (Z7 (!(q55&&(q97&&(q98&&(q99&&(q104&&(q105&&(q59&&(q60&&(q61&&(q62&&(q109&&q112)))))))))))) (false=false) (Z7 q76 (Z7 q77 (false=false) (Z7 q78 (Z7 q79 (false=false) (Z7 q80 (Z7 q81 (false=false) (Z7 q82 (Z7 q83 (false=false) (Z7 q84 (Z7 q85 (false=false) (Z7 q1 (Z7 (decide (u8=u8/\(0:Nat)<32/\0<q48)) q92 False) q95)) (false=false))) (false=false))) (false=false))) (false=false))) (false=false))) False) False) False) False) False) False) False) False) False) False) False) False) False) False) False) False) False) False) False) False) False) False) False)
 (Z7 (k==9) (q33/\Z7 q10 (q13/\Z7 q15 (Z7 q17 (Z7 q19 (Z7 q21 (Z7 q23 (q25/\q27/\Z7 q9 (Z7 q7 (q5/\q3/\q29/\q31/\q33/\q35/\Z7 q37 (Z7 q39 (Z7 q41 (Z7 q43 (Z7 q45 (q47/\Z7 q86 (Z7 q96 (Z7 q89 (Z7 q100 (Z7 q101 (Z7 q51 (Z7 q52 (Z7 q103 (Z7 q54 (Z7 (!(q55&&(q97&&(q98&&(q99&&(q104&&(q105&&(q59&&(q60&&(q107&&(q62&&q114))))))))))) (false=false) (Z7 q76 (Z7 q77 (false=false) (Z7 q78 (Z7 q79 (false=false) (Z7 q80 (Z7 q81 (false=false) (Z7 q82 (Z7 q83 (false=false) (Z7 q84 (Z7 q85 (false=false) (Z7 q1 (Z7 (decide (u8=u8/\(0:Nat)<32/\0<q48)) q92 False) q95)) (false=false))) (false=false))) (false=false))) (false=false))) (false=false))) False) False) False) False) False) False) False) False) False) False) False) False) False) False) False) False) False) False) False) False) False) False)
 (Z7 (k==10) (q3/\q35/\q3/\Z7 q10 (q13/\Z7 q15 (Z7 q17 (Z7 q19 (Z7 q21 (Z7 q23 (q25/\q27/\Z7 q9 (Z7 q7 (q5/\q3/\q29/\q31/\q33/\q35/\Z7 q37 (Z7 q39 (Z7 q41 (Z7 q43 (Z7 q45 (q47/\Z7 q86 (Z7 q96 (Z7 q89 (Z7 q100 (Z7 q50 (Z7 q51 (Z7 q52 (Z7 q53 (Z7 q110 (Z7 (!(q55&&(q97&&(q98&&(q99&&(q104&&(q58&&(q59&&(q60&&(q61&&(q111&&q114))))))))))) (false=false) (Z7 q76 (Z7 q77 (false=false) (Z7 q78 (Z7 q79 (false=false) (Z7 q80 (Z7 q81 (false=false) (Z7 q82 (Z7 q83 (false=false) (Z7 q84 (Z7 q85 (false=false) (Z7 q1 (Z7 (decide (u8=u8/\(0:Nat)<32/\0<q48)) q92 False) q95)) (false=false))) (false=false))) (false=false))) (false=false))) (false=false))) False) False) False) False) False) False) False) False) False) False) False) False) False) False) False) False) False) False) False) False) False) False)
 (Z7 (k==11) (Z7 q37 (Z7 q10 (q13/\Z7 q15 (Z7 q17 (Z7 q19 (Z7 q21 (Z7 q23 (q25/\q27/\Z7 q9 (Z7 q7 (q5/\q3/\q29/\q31/\q33/\q35/\Z7 q37 (Z7 q39 (Z7 q41 (Z7 q43 (Z7 q45 (q47/\Z7 q86 (Z7 q96 (Z7 q89 (Z7 q100 (Z7 q101 (Z7 q51 (Z7 q52 (Z7 q53 (Z7 q54 (Z7 (!(q55&&(q97&&(q98&&(q99&&(q104&&(q105&&(q59&&(q60&&(q61&&(q62&&(q109&&q113)))))))))))) (false=false) (Z7 q76 (Z7 q77 (false=false) (Z7 q78 (Z7 q79 (false=false) (Z7 q80 (Z7 q81 (false=false) (Z7 q82 (Z7 q83 (false=false) (Z7 q84 (Z7 q85 (false=false) (Z7 q1 (Z7 (decide (u8=u8/\(0:Nat)<32/\0<q48)) q92 False) q95)) (false=false))) (false=false))) (false=false))) (false=false))) (false=false))) False) False) False) False) False) False) False) False) False) False) False) False) False) False) False) False) False) False) False) False) False) False) False)
 (Z7 (k==13) (q33/\Z7 q10 (q13/\Z7 q15 (Z7 q17 (Z7 q19 (Z7 q21 (Z7 q23 (q25/\q27/\Z7 q9 (Z7 q7 (q5/\q3/\q29/\q31/\q33/\q35/\Z7 q37 (Z7 q39 (Z7 q41 (Z7 q43 (Z7 q45 (q47/\Z7 q86 (Z7 q96 (Z7 q89 (Z7 q100 (Z7 q101 (Z7 q51 (Z7 q52 (Z7 q103 (Z7 q54 (Z7 (!(q55&&(q97&&(q98&&(q56&&q108))))) (false=false) (Z7 q76 (Z7 q77 (false=false) (Z7 q78 (Z7 q79 (false=false) (Z7 q80 (Z7 q81 (false=false) (Z7 q82 (Z7 q83 (false=false) (Z7 q84 (Z7 q85 (false=false) (Z7 q1 (Z7 (decide (u8=u8/\(0:Nat)<32/\0<q48)) q92 False) q95)) (false=false))) (false=false))) (false=false))) (false=false))) (false=false))) False) False) False) False) False) False) False) False) False) False) False) False) False) False) False) False) False) False) False) False) False) False)
 (Z7 (k==14) (Z7 q10 (q13/\Z7 q15 (Z7 q17 (Z7 q19 (Z7 q21 (Z7 q23 (q25/\q27/\Z7 q9 (Z7 q7 (q5/\q3/\q29/\q31/\q33/\q35/\Z7 q37 (Z7 q39 (Z7 q41 (Z7 q43 (Z7 q45 (q47/\Z7 q86 (Z7 q96 (Z7 q89 (Z7 q100 (Z7 q101 (Z7 q51 (Z7 q52 (Z7 q53 (Z7 q54 (Z7 (!(q55&&(q97&&(q98&&(q99&&(q104&&(q105&&(q59&&(q60&&(q61&&(q62&&(q63&&q112)))))))))))) (false=false) (Z7 q76 (Z7 q77 (false=false) (Z7 q78 (Z7 q79 (false=false) (Z7 q80 (Z7 q81 (false=false) (Z7 q82 (Z7 q83 (false=false) (Z7 q84 (Z7 q85 (false=false) (Z7 q1 (Z7 (decide (u8=u8/\(0:Nat)<32/\0<q48)) q92 False) q95)) (false=false))) (false=false))) (false=false))) (false=false))) (false=false))) False) False) False) False) False) False) False) False) False) False) False) False) False) False) False) False) False) False) False) False) False) False)
 (Z7 q10 (q13/\Z7 q15 (Z7 q17 (Z7 q19 (Z7 q21 (Z7 q23 (q25/\q27/\Z7 q9 (Z7 q7 (q5/\q3/\q29/\q31/\q33/\q35/\Z7 q37 (Z7 q39 (Z7 q41 (Z7 q43 (Z7 q45 (q47/\Z7 q86 (Z7 q96 (Z7 q89 (Z7 q100 (Z7 q101 (Z7 q51 (Z7 q52 (Z7 q53 (Z7 q54 (Z7 (!(q55&&(q97&&(q98&&(q99&&(q104&&(q105&&q75))))))) (false=false) (Z7 q76 (Z7 q77 (false=false) (Z7 q78 (Z7 q79 (false=false) (Z7 q80 (Z7 q81 (false=false) (Z7 q82 (Z7 q83 (false=false) (Z7 q84 (Z7 q85 (false=false) (Z7 q1 (Z7 (decide (u8=u8/\(0:Nat)<32/\0<q48)) q92 False) q95)) (false=false))) (false=false))) (false=false))) (false=false))) (false=false))) False) False) False) False) False) False) False) False) False) False) False) False) False) False) False) False) False) False) False) False) False) False))))))))))))))) (by kernel_rfl) ?_
 conv=>zeta
 rw [Z0B]
 refine ⟨fun _=>rfl,fun h1=> ?_⟩
 rw [Z0B]
 exact ⟨fun _=>rfl,fun h2=>by omega⟩
theorem Zln (s:Zi) (ok:Bool) (hl:s.Len) (hok:ok=true↔Zp s 5):
  evF Z0c 40 35 [.agg (.int .i64 5::s.r)] ⟨0,[]⟩ (chK ok):=by
 refine @Eq.mpr _ (let q1:=s.id;let q2:=s.t;let q3:=q2.fund;let q4:=decide (List.length q3=32/\(32:Nat)=32);let q5:=q2.k0;let q6:=decide (List.length q5=32/\(32:Nat)=32);let q7:=q2.k1;let q8:=decide (List.length q7=32/\(32:Nat)=32);let q9:=decide (List.length s.point=32/\(32:Nat)=32);let q10:=decide (List.length s.nxt=32/\(32:Nat)=32);let q11:=decide (List.length s.key=32/\(32:Nat)=32);let q12:=decide (List.length s.hash=32/\(32:Nat)=32);let q13:=decide (List.length s.tag=32/\(32:Nat)=32);let q14:=decide (List.length s.secret=32/\(32:Nat)=32);let q15:=s.amount;let q16:=s.number;let q17:=s.index;let q18:=s.expiry;let q19:= !(true&&(q3==Z5&&(q2.index==0&&(q2.cap==0&&(q2.dust==0&&(q2.fee==0&&(q2.delay==0&&(q5==Z5&&q7==Z5))))))&&(s.reserve==0&&(q15==0&&(s.point==Z5&&(s.nxt==Z5&&(s.key==Z5&&(s.hash==Z5&&(s.tag==Z5&&(s.secret==Z5&&(q1==0&&(q16==0&&(q17==0&&(q18==0&&(s.code==0&&ByteArray.toList s.route==ByteArray.toList ByteArray.empty)))))))))))))));let q20:=Z0 q4 (Z0 q6 (Z0 q8 (Z0 q9 (Z0 q10 (Z0 q11 (Z0 q12 (Z0 q13 (Z0 q14 (Z7 q19 (ok=false) (ok=false))))))))));
 Z7 (decide (0<=q1)) (Z7 (!decide (q1<=2147483647)) q20 (Z7 (decide (0<=q16)) (Z7 (!decide (q16<=2147483647)) q20 (Z7 (decide (0<=q17)) (Z7 (!decide (q17<=2147483647)) q20 (Z7 (decide (0<=q18)) (Z7 (!decide (q18<=2147483647)) q20 (Z0 q4 (Z0 q6 (Z0 q8 (Z0 q9 (Z0 q10 (Z0 q11 (Z0 q12 (Z0 q13 (Z0 q14 (Z7 q19 (ok=false) (Z7 (decide (q15<0)) (ok=false) (Z7 (decide (q15>1125899906842624)) (ok=false) (ok=true)))))))))))))) q20)) q20)) q20)) q20) (by kernel_rfl) ?_
 conv=>zeta
 try simp only [vcA]
 try simp only [vcB]
 try simp only [vcC]
 obtain ⟨h0,h1,h2,h3,h4,h5,h6,h7,h8,hb⟩:=hl
 simp only [h0,h1,h2,h3,h4,h5,h6,h7,h8,and_self,decide_true,true_and,forall_const,J6,Ja,decide_eq_true_eq,decide_eq_false_iff_not,Jh,Ji,reduceCtorEq,false_implies,and_true]
 cases ok with
 | true=>
  obtain ⟨⟨w0,w1,w2,w3,w4,w5,w6,w7,w8,w9⟩,hr,hk⟩:=hok.1 rfl
  have hk':=hk
  simp only [kindOk] at hk
  repeat' first
   | trivial
   | apply Jc
   | intro
  all_goals first
   | omega
   | (exfalso;omega)
   | (rename_i hq;exact absurd (hr.symm.trans hq) (by decide))
   | (rename_i hq _;exact absurd (hr.symm.trans hq) (by decide))
   | (rename_i hq _ _;exact absurd (hr.symm.trans hq) (by decide))
 | false=>
  have hn:¬Zp s 5:=fun h=>absurd (hok.2 h) (by decide)
  repeat' first
   | trivial
   | apply Jc
   | intro
  all_goals first
   | exact absurd (Zp.mk ⟨by omega,by omega,by omega,by omega,by omega,by omega,by omega,by omega,by omega,by omega⟩ (by assumption) (by simp only [kindOk]<;>omega)) hn
   | exact absurd (Zp.mk ⟨by omega,by omega,by omega,by omega,by omega,by omega,by omega,by omega,by omega,by omega⟩ (by assumption) trivial) hn
theorem Zlo (s:Zi) (ok:Bool) (hl:s.Len) (hok:ok=true↔Zp s 6):
  evF Z0c 40 35 [.agg (.int .i64 6::s.r)] ⟨0,[]⟩ (chK ok):=by
 refine @Eq.mpr _ (let q1:=s.t;let q2:=q1.fund;let q3:=decide (List.length q2=32/\(32:Nat)=32);let q4:=q1.k0;let q5:=decide (List.length q4=32/\(32:Nat)=32);let q6:=q1.k1;let q7:=decide (List.length q6=32/\(32:Nat)=32);let q8:=decide (List.length s.point=32/\(32:Nat)=32);let q9:=decide (List.length s.nxt=32/\(32:Nat)=32);let q10:=decide (List.length s.key=32/\(32:Nat)=32);let q11:=decide (List.length s.tag=32/\(32:Nat)=32);let q12:=decide (List.length s.secret=32/\(32:Nat)=32);let q13:=s.number;let q14:=s.index;let q15:= !(true&&(q2==Z5&&(q1.index==0&&(q1.cap==0&&(q1.dust==0&&(q1.fee==0&&(q1.delay==0&&(q4==Z5&&q6==Z5))))))&&(s.reserve==0&&(true&&(s.point==Z5&&(s.nxt==Z5&&(s.key==Z5&&(true&&(s.tag==Z5&&(s.secret==Z5&&(true&&(q13==0&&(q14==0&&(true&&(s.code==0&&true)))))))))))))));let q16:=Z0 q3 (Z0 q5 (Z0 q7 (Z0 q8 (Z0 q9 (Z0 q10 (Z0 q11 (Z0 q12 (Z7 q15 (ok=false) (ok=false)))))))));let q17:=s.expiry;let q18:=s.amount;
 Z7 (decide (0<=s.id)) (Z7 (!decide (s.id<=2147483647)) q16 (Z7 (decide (0<=q13)) (Z7 (!decide (q13<=2147483647)) q16 (Z7 (decide (0<=q14)) (Z7 (!decide (q14<=2147483647)) q16 (Z7 (decide (0<=q17)) (Z7 (!decide (q17<=2147483647)) q16 (Z0 q3 (Z0 q5 (Z0 q7 (Z0 q8 (Z0 q9 (Z0 q10 (Z0 q11 (Z0 q12 (Z7 q15 (ok=false) (Z7 (decide (q18<0)) (ok=false) (Z7 (decide (q18>1125899906842624)) (ok=false) (Z7 (decide (q18>0)) (Z7 (decide (q17>0)) (Z7 (!decide ((↑(ByteArray.size s.route):Int)<=512)) (ok=false) (ok=true)) (ok=false)) (ok=false)))))))))))))) q16)) q16)) q16)) q16) (by kernel_rfl) ?_
 conv=>zeta
 try simp only [vcA]
 try simp only [vcB]
 try simp only [vcC]
 obtain ⟨h0,h1,h2,h3,h4,h5,h6,h7,h8,hb⟩:=hl
 simp only [h0,h1,h2,h3,h4,h5,h6,h7,h8,and_self,decide_true,true_and,forall_const,J6,Ja,decide_eq_true_eq,decide_eq_false_iff_not,Jh,Ji,reduceCtorEq,false_implies,and_true]
 cases ok with
 | true=>
  obtain ⟨⟨w0,w1,w2,w3,w4,w5,w6,w7,w8,w9⟩,hr,hk⟩:=hok.1 rfl
  have hk':=hk
  simp only [kindOk] at hk
  repeat' first
   | trivial
   | apply Jc
   | intro
  all_goals first
   | omega
   | (exfalso;omega)
   | (rename_i hq;exact absurd (hr.symm.trans hq) (by decide))
   | (rename_i hq _;exact absurd (hr.symm.trans hq) (by decide))
   | (rename_i hq _ _;exact absurd (hr.symm.trans hq) (by decide))
 | false=>
  have hn:¬Zp s 6:=fun h=>absurd (hok.2 h) (by decide)
  repeat' first
   | trivial
   | apply Jc
   | intro
  all_goals first
   | exact absurd (Zp.mk ⟨by omega,by omega,by omega,by omega,by omega,by omega,by omega,by omega,by omega,by omega⟩ (by assumption) (by simp only [kindOk]<;>omega)) hn
   | exact absurd (Zp.mk ⟨by omega,by omega,by omega,by omega,by omega,by omega,by omega,by omega,by omega,by omega⟩ (by assumption) trivial) hn
theorem Zlp (s:Zi) (ok:Bool) (hl:s.Len) (hok:ok=true↔Zp s 7):
  evF Z0c 40 35 [.agg (.int .i64 7::s.r)] ⟨0,[]⟩ (chK ok):=by
 refine @Eq.mpr _ (let q1:=s.t;let q2:=q1.fund;let q3:=decide (List.length q2=32/\(32:Nat)=32);let q4:=q1.k0;let q5:=decide (List.length q4=32/\(32:Nat)=32);let q6:=q1.k1;let q7:=decide (List.length q6=32/\(32:Nat)=32);let q8:=decide (List.length s.point=32/\(32:Nat)=32);let q9:=decide (List.length s.nxt=32/\(32:Nat)=32);let q10:=decide (List.length s.key=32/\(32:Nat)=32);let q11:=decide (List.length s.hash=32/\(32:Nat)=32);let q12:=decide (List.length s.tag=32/\(32:Nat)=32);let q13:=s.amount;let q14:=s.number;let q15:=s.index;let q16:=s.expiry;let q17:= !(true&&(q2==Z5&&(q1.index==0&&(q1.cap==0&&(q1.dust==0&&(q1.fee==0&&(q1.delay==0&&(q4==Z5&&q6==Z5))))))&&(s.reserve==0&&(q13==0&&(s.point==Z5&&(s.nxt==Z5&&(s.key==Z5&&(s.hash==Z5&&(s.tag==Z5&&(true&&(true&&(q14==0&&(q15==0&&(q16==0&&(s.code==0&&ByteArray.toList s.route==ByteArray.toList ByteArray.empty)))))))))))))));let q18:=Z0 q3 (Z0 q5 (Z0 q7 (Z0 q8 (Z0 q9 (Z0 q10 (Z0 q11 (Z0 q12 (Z7 q17 (ok=false) (ok=false)))))))));
 Z7 (decide (0<=s.id)) (Z7 (!decide (s.id<=2147483647)) q18 (Z7 (decide (0<=q14)) (Z7 (!decide (q14<=2147483647)) q18 (Z7 (decide (0<=q15)) (Z7 (!decide (q15<=2147483647)) q18 (Z7 (decide (0<=q16)) (Z7 (!decide (q16<=2147483647)) q18 (Z0 q3 (Z0 q5 (Z0 q7 (Z0 q8 (Z0 q9 (Z0 q10 (Z0 q11 (Z0 q12 (Z7 q17 (ok=false) (Z7 (decide (q13<0)) (ok=false) (Z7 (decide (q13>1125899906842624)) (ok=false) (ok=true))))))))))))) q18)) q18)) q18)) q18) (by kernel_rfl) ?_
 conv=>zeta
 try simp only [vcA]
 try simp only [vcB]
 try simp only [vcC]
 obtain ⟨h0,h1,h2,h3,h4,h5,h6,h7,h8,hb⟩:=hl
 simp only [h0,h1,h2,h3,h4,h5,h6,h7,h8,and_self,decide_true,true_and,forall_const,J6,Ja,decide_eq_true_eq,decide_eq_false_iff_not,Jh,Ji,reduceCtorEq,false_implies,and_true]
 cases ok with
 | true=>
  obtain ⟨⟨w0,w1,w2,w3,w4,w5,w6,w7,w8,w9⟩,hr,hk⟩:=hok.1 rfl
  have hk':=hk
  simp only [kindOk] at hk
  repeat' first
   | trivial
   | apply Jc
   | intro
  all_goals first
   | omega
   | (exfalso;omega)
   | (rename_i hq;exact absurd (hr.symm.trans hq) (by decide))
   | (rename_i hq _;exact absurd (hr.symm.trans hq) (by decide))
   | (rename_i hq _ _;exact absurd (hr.symm.trans hq) (by decide))
 | false=>
  have hn:¬Zp s 7:=fun h=>absurd (hok.2 h) (by decide)
  repeat' first
   | trivial
   | apply Jc
   | intro
  all_goals first
   | exact absurd (Zp.mk ⟨by omega,by omega,by omega,by omega,by omega,by omega,by omega,by omega,by omega,by omega⟩ (by assumption) (by simp only [kindOk]<;>omega)) hn
   | exact absurd (Zp.mk ⟨by omega,by omega,by omega,by omega,by omega,by omega,by omega,by omega,by omega,by omega⟩ (by assumption) trivial) hn
theorem Zlq (s:Zi) (ok:Bool) (hl:s.Len) (hok:ok=true↔Zp s 8):
  evF Z0c 40 35 [.agg (.int .i64 8::s.r)] ⟨0,[]⟩ (chK ok):=by
 refine @Eq.mpr _ (let q1:=s.t;let q2:=q1.fund;let q3:=decide (List.length q2=32/\(32:Nat)=32);let q4:=q1.k0;let q5:=decide (List.length q4=32/\(32:Nat)=32);let q6:=q1.k1;let q7:=decide (List.length q6=32/\(32:Nat)=32);let q8:=decide (List.length s.point=32/\(32:Nat)=32);let q9:=decide (List.length s.nxt=32/\(32:Nat)=32);let q10:=decide (List.length s.key=32/\(32:Nat)=32);let q11:=decide (List.length s.hash=32/\(32:Nat)=32);let q12:=decide (List.length s.tag=32/\(32:Nat)=32);let q13:=decide (List.length s.secret=32/\(32:Nat)=32);let q14:=s.amount;let q15:=s.number;let q16:=s.index;let q17:=s.expiry;let q18:= !(true&&(q2==Z5&&(q1.index==0&&(q1.cap==0&&(q1.dust==0&&(q1.fee==0&&(q1.delay==0&&(q4==Z5&&q6==Z5))))))&&(s.reserve==0&&(q14==0&&(s.point==Z5&&(s.nxt==Z5&&(s.key==Z5&&(s.hash==Z5&&(s.tag==Z5&&(s.secret==Z5&&(true&&(q15==0&&(q16==0&&(q17==0&&(true&&ByteArray.toList s.route==ByteArray.toList ByteArray.empty)))))))))))))));let q19:=Z0 q3 (Z0 q5 (Z0 q7 (Z0 q8 (Z0 q9 (Z0 q10 (Z0 q11 (Z0 q12 (Z0 q13 (Z7 q18 (ok=false) (ok=false))))))))));
 Z7 (decide (0<=s.id)) (Z7 (!decide (s.id<=2147483647)) q19 (Z7 (decide (0<=q15)) (Z7 (!decide (q15<=2147483647)) q19 (Z7 (decide (0<=q16)) (Z7 (!decide (q16<=2147483647)) q19 (Z7 (decide (0<=q17)) (Z7 (!decide (q17<=2147483647)) q19 (Z0 q3 (Z0 q5 (Z0 q7 (Z0 q8 (Z0 q9 (Z0 q10 (Z0 q11 (Z0 q12 (Z0 q13 (Z7 q18 (ok=false) (Z7 (decide (q14<0)) (ok=false) (Z7 (decide (q14>1125899906842624)) (ok=false) (Z7 (decide (1<=s.code)) (Z7 (!decide (s.code<=999)) (ok=false) (ok=true)) (ok=false))))))))))))))) q19)) q19)) q19)) q19) (by kernel_rfl) ?_
 conv=>zeta
 try simp only [vcA]
 try simp only [vcB]
 try simp only [vcC]
 obtain ⟨h0,h1,h2,h3,h4,h5,h6,h7,h8,hb⟩:=hl
 simp only [h0,h1,h2,h3,h4,h5,h6,h7,h8,and_self,decide_true,true_and,forall_const,J6,Ja,decide_eq_true_eq,decide_eq_false_iff_not,Jh,Ji,reduceCtorEq,false_implies,and_true]
 cases ok with
 | true=>
  obtain ⟨⟨w0,w1,w2,w3,w4,w5,w6,w7,w8,w9⟩,hr,hk⟩:=hok.1 rfl
  have hk':=hk
  simp only [kindOk] at hk
  repeat' first
   | trivial
   | apply Jc
   | intro
  all_goals first
   | omega
   | (exfalso;omega)
   | (rename_i hq;exact absurd (hr.symm.trans hq) (by decide))
   | (rename_i hq _;exact absurd (hr.symm.trans hq) (by decide))
   | (rename_i hq _ _;exact absurd (hr.symm.trans hq) (by decide))
 | false=>
  have hn:¬Zp s 8:=fun h=>absurd (hok.2 h) (by decide)
  repeat' first
   | trivial
   | apply Jc
   | intro
  all_goals first
   | exact absurd (Zp.mk ⟨by omega,by omega,by omega,by omega,by omega,by omega,by omega,by omega,by omega,by omega⟩ (by assumption) (by simp only [kindOk]<;>omega)) hn
   | exact absurd (Zp.mk ⟨by omega,by omega,by omega,by omega,by omega,by omega,by omega,by omega,by omega,by omega⟩ (by assumption) trivial) hn
theorem Zlr (s:Zi) (ok:Bool) (hl:s.Len) (hok:ok=true↔Zp s 9):
  evF Z0c 40 35 [.agg (.int .i64 9::s.r)] ⟨0,[]⟩ (chK ok):=by
 refine @Eq.mpr _ (let q1:=s.id;let q2:=s.t;let q3:=q2.fund;let q4:=decide (List.length q3=32/\(32:Nat)=32);let q5:=q2.k0;let q6:=decide (List.length q5=32/\(32:Nat)=32);let q7:=q2.k1;let q8:=decide (List.length q7=32/\(32:Nat)=32);let q9:=decide (List.length s.point=32/\(32:Nat)=32);let q10:=decide (List.length s.nxt=32/\(32:Nat)=32);let q11:=decide (List.length s.key=32/\(32:Nat)=32);let q12:=decide (List.length s.hash=32/\(32:Nat)=32);let q13:=decide (List.length s.secret=32/\(32:Nat)=32);let q14:=s.amount;let q15:=s.index;let q16:=s.expiry;let q17:= !(true&&(q3==Z5&&(q2.index==0&&(q2.cap==0&&(q2.dust==0&&(q2.fee==0&&(q2.delay==0&&(q5==Z5&&q7==Z5))))))&&(s.reserve==0&&(q14==0&&(s.point==Z5&&(s.nxt==Z5&&(s.key==Z5&&(s.hash==Z5&&(true&&(s.secret==Z5&&(q1==0&&(true&&(q15==0&&(q16==0&&(s.code==0&&ByteArray.toList s.route==ByteArray.toList ByteArray.empty)))))))))))))));let q18:=Z0 q4 (Z0 q6 (Z0 q8 (Z0 q9 (Z0 q10 (Z0 q11 (Z0 q12 (Z0 q13 (Z7 q17 (ok=false) (ok=false)))))))));
 Z7 (decide (0<=q1)) (Z7 (!decide (q1<=2147483647)) q18 (Z7 (decide (0<=s.number)) (Z7 (!decide (s.number<=2147483647)) q18 (Z7 (decide (0<=q15)) (Z7 (!decide (q15<=2147483647)) q18 (Z7 (decide (0<=q16)) (Z7 (!decide (q16<=2147483647)) q18 (Z0 q4 (Z0 q6 (Z0 q8 (Z0 q9 (Z0 q10 (Z0 q11 (Z0 q12 (Z0 q13 (Z7 q17 (ok=false) (Z7 (decide (q14<0)) (ok=false) (Z7 (decide (q14>1125899906842624)) (ok=false) (ok=true))))))))))))) q18)) q18)) q18)) q18) (by kernel_rfl) ?_
 conv=>zeta
 try simp only [vcA]
 try simp only [vcB]
 try simp only [vcC]
 obtain ⟨h0,h1,h2,h3,h4,h5,h6,h7,h8,hb⟩:=hl
 simp only [h0,h1,h2,h3,h4,h5,h6,h7,h8,and_self,decide_true,true_and,forall_const,J6,Ja,decide_eq_true_eq,decide_eq_false_iff_not,Jh,Ji,reduceCtorEq,false_implies,and_true]
 cases ok with
 | true=>
  obtain ⟨⟨w0,w1,w2,w3,w4,w5,w6,w7,w8,w9⟩,hr,hk⟩:=hok.1 rfl
  have hk':=hk
  simp only [kindOk] at hk
  repeat' first
   | trivial
   | apply Jc
   | intro
  all_goals first
   | omega
   | (exfalso;omega)
   | (rename_i hq;exact absurd (hr.symm.trans hq) (by decide))
   | (rename_i hq _;exact absurd (hr.symm.trans hq) (by decide))
   | (rename_i hq _ _;exact absurd (hr.symm.trans hq) (by decide))
 | false=>
  have hn:¬Zp s 9:=fun h=>absurd (hok.2 h) (by decide)
  repeat' first
   | trivial
   | apply Jc
   | intro
  all_goals first
   | exact absurd (Zp.mk ⟨by omega,by omega,by omega,by omega,by omega,by omega,by omega,by omega,by omega,by omega⟩ (by assumption) (by simp only [kindOk]<;>omega)) hn
   | exact absurd (Zp.mk ⟨by omega,by omega,by omega,by omega,by omega,by omega,by omega,by omega,by omega,by omega⟩ (by assumption) trivial) hn
theorem Zj1 (s:Zi) (ok:Bool) (hl:s.Len) (hok:ok=true↔Zp s 10):
  evF Z0c 40 35 [.agg (.int .i64 10::s.r)] ⟨0,[]⟩ (chK ok):=by
 refine @Eq.mpr _ (let q1:=s.id;let q2:=s.t;let q3:=q2.fund;let q4:=decide (List.length q3=32/\(32:Nat)=32);let q5:=q2.k0;let q6:=decide (List.length q5=32/\(32:Nat)=32);let q7:=q2.k1;let q8:=decide (List.length q7=32/\(32:Nat)=32);let q9:=decide (List.length s.point=32/\(32:Nat)=32);let q10:=decide (List.length s.key=32/\(32:Nat)=32);let q11:=decide (List.length s.hash=32/\(32:Nat)=32);let q12:=decide (List.length s.tag=32/\(32:Nat)=32);let q13:=s.amount;let q14:=s.index;let q15:=s.expiry;let q16:= !(true&&(q3==Z5&&(q2.index==0&&(q2.cap==0&&(q2.dust==0&&(q2.fee==0&&(q2.delay==0&&(q5==Z5&&q7==Z5))))))&&(s.reserve==0&&(q13==0&&(s.point==Z5&&(true&&(s.key==Z5&&(s.hash==Z5&&(s.tag==Z5&&(true&&(q1==0&&(true&&(q14==0&&(q15==0&&(s.code==0&&ByteArray.toList s.route==ByteArray.toList ByteArray.empty)))))))))))))));let q17:=Z0 q4 (Z0 q6 (Z0 q8 (Z0 q9 (Z0 q10 (Z0 q11 (Z0 q12 (Z7 q16 (ok=false) (ok=false))))))));
 Z7 (decide (0<=q1)) (Z7 (!decide (q1<=2147483647)) q17 (Z7 (decide (0<=s.number)) (Z7 (!decide (s.number<=2147483647)) q17 (Z7 (decide (0<=q14)) (Z7 (!decide (q14<=2147483647)) q17 (Z7 (decide (0<=q15)) (Z7 (!decide (q15<=2147483647)) q17 (Z0 q4 (Z0 q6 (Z0 q8 (Z0 q9 (Z0 q10 (Z0 q11 (Z0 q12 (Z7 q16 (ok=false) (Z7 (decide (q13<0)) (ok=false) (Z7 (decide (q13>1125899906842624)) (ok=false) (ok=true)))))))))))) q17)) q17)) q17)) q17) (by kernel_rfl) ?_
 conv=>zeta
 try simp only [vcA]
 try simp only [vcB]
 try simp only [vcC]
 obtain ⟨h0,h1,h2,h3,h4,h5,h6,h7,h8,hb⟩:=hl
 simp only [h0,h1,h2,h3,h4,h5,h6,h7,h8,and_self,decide_true,true_and,forall_const,J6,Ja,decide_eq_true_eq,decide_eq_false_iff_not,Jh,Ji,reduceCtorEq,false_implies,and_true]
 cases ok with
 | true=>
  obtain ⟨⟨w0,w1,w2,w3,w4,w5,w6,w7,w8,w9⟩,hr,hk⟩:=hok.1 rfl
  have hk':=hk
  simp only [kindOk] at hk
  repeat' first
   | trivial
   | apply Jc
   | intro
  all_goals first
   | omega
   | (exfalso;omega)
   | (rename_i hq;exact absurd (hr.symm.trans hq) (by decide))
   | (rename_i hq _;exact absurd (hr.symm.trans hq) (by decide))
   | (rename_i hq _ _;exact absurd (hr.symm.trans hq) (by decide))
 | false=>
  have hn:¬Zp s 10:=fun h=>absurd (hok.2 h) (by decide)
  repeat' first
   | trivial
   | apply Jc
   | intro
  all_goals first
   | exact absurd (Zp.mk ⟨by omega,by omega,by omega,by omega,by omega,by omega,by omega,by omega,by omega,by omega⟩ (by assumption) (by simp only [kindOk]<;>omega)) hn
   | exact absurd (Zp.mk ⟨by omega,by omega,by omega,by omega,by omega,by omega,by omega,by omega,by omega,by omega⟩ (by assumption) trivial) hn
theorem Zj2 (s:Zi) (ok:Bool) (hl:s.Len) (hok:ok=true↔Zp s 11):
  evF Z0c 40 35 [.agg (.int .i64 11::s.r)] ⟨0,[]⟩ (chK ok):=by
 refine @Eq.mpr _ (let q1:=s.t;let q2:=q1.fund;let q3:=decide (List.length q2=32/\(32:Nat)=32);let q4:=q1.k0;let q5:=decide (List.length q4=32/\(32:Nat)=32);let q6:=q1.k1;let q7:=decide (List.length q6=32/\(32:Nat)=32);let q8:=decide (List.length s.point=32/\(32:Nat)=32);let q9:=decide (List.length s.nxt=32/\(32:Nat)=32);let q10:=decide (List.length s.key=32/\(32:Nat)=32);let q11:=decide (List.length s.hash=32/\(32:Nat)=32);let q12:=decide (List.length s.tag=32/\(32:Nat)=32);let q13:=decide (List.length s.secret=32/\(32:Nat)=32);let q14:=s.amount;let q15:=s.index;let q16:=s.expiry;let q17:= !(true&&(q2==Z5&&(q1.index==0&&(q1.cap==0&&(q1.dust==0&&(q1.fee==0&&(q1.delay==0&&(q4==Z5&&q6==Z5))))))&&(s.reserve==0&&(q14==0&&(s.point==Z5&&(s.nxt==Z5&&(s.key==Z5&&(s.hash==Z5&&(s.tag==Z5&&(s.secret==Z5&&(true&&(true&&(q15==0&&(q16==0&&(s.code==0&&ByteArray.toList s.route==ByteArray.toList ByteArray.empty)))))))))))))));let q18:=Z0 q3 (Z0 q5 (Z0 q7 (Z0 q8 (Z0 q9 (Z0 q10 (Z0 q11 (Z0 q12 (Z0 q13 (Z7 q17 (ok=false) (ok=false))))))))));
 Z7 (decide (0<=s.id)) (Z7 (!decide (s.id<=2147483647)) q18 (Z7 (decide (0<=s.number)) (Z7 (!decide (s.number<=2147483647)) q18 (Z7 (decide (0<=q15)) (Z7 (!decide (q15<=2147483647)) q18 (Z7 (decide (0<=q16)) (Z7 (!decide (q16<=2147483647)) q18 (Z0 q3 (Z0 q5 (Z0 q7 (Z0 q8 (Z0 q9 (Z0 q10 (Z0 q11 (Z0 q12 (Z0 q13 (Z7 q17 (ok=false) (Z7 (decide (q14<0)) (ok=false) (Z7 (decide (q14>1125899906842624)) (ok=false) (ok=true)))))))))))))) q18)) q18)) q18)) q18) (by kernel_rfl) ?_
 conv=>zeta
 try simp only [vcA]
 try simp only [vcB]
 try simp only [vcC]
 obtain ⟨h0,h1,h2,h3,h4,h5,h6,h7,h8,hb⟩:=hl
 simp only [h0,h1,h2,h3,h4,h5,h6,h7,h8,and_self,decide_true,true_and,forall_const,J6,Ja,decide_eq_true_eq,decide_eq_false_iff_not,Jh,Ji,reduceCtorEq,false_implies,and_true]
 cases ok with
 | true=>
  obtain ⟨⟨w0,w1,w2,w3,w4,w5,w6,w7,w8,w9⟩,hr,hk⟩:=hok.1 rfl
  have hk':=hk
  simp only [kindOk] at hk
  repeat' first
   | trivial
   | apply Jc
   | intro
  all_goals first
   | omega
   | (exfalso;omega)
   | (rename_i hq;exact absurd (hr.symm.trans hq) (by decide))
   | (rename_i hq _;exact absurd (hr.symm.trans hq) (by decide))
   | (rename_i hq _ _;exact absurd (hr.symm.trans hq) (by decide))
 | false=>
  have hn:¬Zp s 11:=fun h=>absurd (hok.2 h) (by decide)
  repeat' first
   | trivial
   | apply Jc
   | intro
  all_goals first
   | exact absurd (Zp.mk ⟨by omega,by omega,by omega,by omega,by omega,by omega,by omega,by omega,by omega,by omega⟩ (by assumption) (by simp only [kindOk]<;>omega)) hn
   | exact absurd (Zp.mk ⟨by omega,by omega,by omega,by omega,by omega,by omega,by omega,by omega,by omega,by omega⟩ (by assumption) trivial) hn
theorem Zj3 (s:Zi) (ok:Bool) (hl:s.Len) (hok:ok=true↔Zp s 12):
  evF Z0c 40 35 [.agg (.int .i64 12::s.r)] ⟨0,[]⟩ (chK ok):=by
 refine @Eq.mpr _ (let q1:=s.id;let q2:=s.t;let q3:=q2.fund;let q4:=decide (List.length q3=32/\(32:Nat)=32);let q5:=q2.k0;let q6:=decide (List.length q5=32/\(32:Nat)=32);let q7:=q2.k1;let q8:=decide (List.length q7=32/\(32:Nat)=32);let q9:=decide (List.length s.point=32/\(32:Nat)=32);let q10:=decide (List.length s.nxt=32/\(32:Nat)=32);let q11:=decide (List.length s.key=32/\(32:Nat)=32);let q12:=decide (List.length s.hash=32/\(32:Nat)=32);let q13:=decide (List.length s.tag=32/\(32:Nat)=32);let q14:=decide (List.length s.secret=32/\(32:Nat)=32);let q15:=s.amount;let q16:=s.number;let q17:=s.index;let q18:=s.expiry;let q19:= !(true&&(q3==Z5&&(q2.index==0&&(q2.cap==0&&(q2.dust==0&&(q2.fee==0&&(q2.delay==0&&(q5==Z5&&q7==Z5))))))&&(s.reserve==0&&(q15==0&&(s.point==Z5&&(s.nxt==Z5&&(s.key==Z5&&(s.hash==Z5&&(s.tag==Z5&&(s.secret==Z5&&(q1==0&&(q16==0&&(q17==0&&(q18==0&&(s.code==0&&ByteArray.toList s.route==ByteArray.toList ByteArray.empty)))))))))))))));let q20:=Z0 q4 (Z0 q6 (Z0 q8 (Z0 q9 (Z0 q10 (Z0 q11 (Z0 q12 (Z0 q13 (Z0 q14 (Z7 q19 (ok=false) (ok=false))))))))));
 Z7 (decide (0<=q1)) (Z7 (!decide (q1<=2147483647)) q20 (Z7 (decide (0<=q16)) (Z7 (!decide (q16<=2147483647)) q20 (Z7 (decide (0<=q17)) (Z7 (!decide (q17<=2147483647)) q20 (Z7 (decide (0<=q18)) (Z7 (!decide (q18<=2147483647)) q20 (Z0 q4 (Z0 q6 (Z0 q8 (Z0 q9 (Z0 q10 (Z0 q11 (Z0 q12 (Z0 q13 (Z0 q14 (Z7 q19 (ok=false) (Z7 (decide (q15<0)) (ok=false) (Z7 (decide (q15>1125899906842624)) (ok=false) (ok=true)))))))))))))) q20)) q20)) q20)) q20) (by kernel_rfl) ?_
 conv=>zeta
 try simp only [vcA]
 try simp only [vcB]
 try simp only [vcC]
 obtain ⟨h0,h1,h2,h3,h4,h5,h6,h7,h8,hb⟩:=hl
 simp only [h0,h1,h2,h3,h4,h5,h6,h7,h8,and_self,decide_true,true_and,forall_const,J6,Ja,decide_eq_true_eq,decide_eq_false_iff_not,Jh,Ji,reduceCtorEq,false_implies,and_true]
 cases ok with
 | true=>
  obtain ⟨⟨w0,w1,w2,w3,w4,w5,w6,w7,w8,w9⟩,hr,hk⟩:=hok.1 rfl
  have hk':=hk
  simp only [kindOk] at hk
  repeat' first
   | trivial
   | apply Jc
   | intro
  all_goals first
   | omega
   | (exfalso;omega)
   | (rename_i hq;exact absurd (hr.symm.trans hq) (by decide))
   | (rename_i hq _;exact absurd (hr.symm.trans hq) (by decide))
   | (rename_i hq _ _;exact absurd (hr.symm.trans hq) (by decide))
 | false=>
  have hn:¬Zp s 12:=fun h=>absurd (hok.2 h) (by decide)
  repeat' first
   | trivial
   | apply Jc
   | intro
  all_goals first
   | exact absurd (Zp.mk ⟨by omega,by omega,by omega,by omega,by omega,by omega,by omega,by omega,by omega,by omega⟩ (by assumption) (by simp only [kindOk]<;>omega)) hn
   | exact absurd (Zp.mk ⟨by omega,by omega,by omega,by omega,by omega,by omega,by omega,by omega,by omega,by omega⟩ (by assumption) trivial) hn
theorem Zls (s:Zi) (ok:Bool) (hl:s.Len) (hok:ok=true↔Zp s 13):
  evF Z0c 40 35 [.agg (.int .i64 13::s.r)] ⟨0,[]⟩ (chK ok):=by
 refine @Eq.mpr _ (let q1:=s.id;let q2:=s.t;let q3:=q2.fund;let q4:=decide (List.length q3=32/\(32:Nat)=32);let q5:=q2.k0;let q6:=decide (List.length q5=32/\(32:Nat)=32);let q7:=q2.k1;let q8:=decide (List.length q7=32/\(32:Nat)=32);let q9:=decide (List.length s.point=32/\(32:Nat)=32);let q10:=decide (List.length s.nxt=32/\(32:Nat)=32);let q11:=decide (List.length s.key=32/\(32:Nat)=32);let q12:=decide (List.length s.hash=32/\(32:Nat)=32);let q13:=decide (List.length s.secret=32/\(32:Nat)=32);let q14:=s.number;let q15:=s.index;let q16:=s.expiry;let q17:= !(true&&(q3==Z5&&(q2.index==0&&(q2.cap==0&&(q2.dust==0&&(q2.fee==0&&(q2.delay==0&&(q5==Z5&&q7==Z5))))))&&(s.reserve==0&&(true&&(s.point==Z5&&(s.nxt==Z5&&(s.key==Z5&&(s.hash==Z5&&(true&&(s.secret==Z5&&(q1==0&&(q14==0&&(q15==0&&(q16==0&&(s.code==0&&ByteArray.toList s.route==ByteArray.toList ByteArray.empty)))))))))))))));let q18:=Z0 q4 (Z0 q6 (Z0 q8 (Z0 q9 (Z0 q10 (Z0 q11 (Z0 q12 (Z0 q13 (Z7 q17 (ok=false) (ok=false)))))))));
 Z7 (decide (0<=q1)) (Z7 (!decide (q1<=2147483647)) q18 (Z7 (decide (0<=q14)) (Z7 (!decide (q14<=2147483647)) q18 (Z7 (decide (0<=q15)) (Z7 (!decide (q15<=2147483647)) q18 (Z7 (decide (0<=q16)) (Z7 (!decide (q16<=2147483647)) q18 (Z0 q4 (Z0 q6 (Z0 q8 (Z0 q9 (Z0 q10 (Z0 q11 (Z0 q12 (Z0 q13 (Z7 q17 (ok=false) (Z7 (decide (s.amount<0)) (ok=false) (Z7 (decide (s.amount>1125899906842624)) (ok=false) (ok=true))))))))))))) q18)) q18)) q18)) q18) (by kernel_rfl) ?_
 conv=>zeta
 try simp only [vcA]
 try simp only [vcB]
 try simp only [vcC]
 obtain ⟨h0,h1,h2,h3,h4,h5,h6,h7,h8,hb⟩:=hl
 simp only [h0,h1,h2,h3,h4,h5,h6,h7,h8,and_self,decide_true,true_and,forall_const,J6,Ja,decide_eq_true_eq,decide_eq_false_iff_not,Jh,Ji,reduceCtorEq,false_implies,and_true]
 cases ok with
 | true=>
  obtain ⟨⟨w0,w1,w2,w3,w4,w5,w6,w7,w8,w9⟩,hr,hk⟩:=hok.1 rfl
  have hk':=hk
  simp only [kindOk] at hk
  repeat' first
   | trivial
   | apply Jc
   | intro
  all_goals first
   | omega
   | (exfalso;omega)
   | (rename_i hq;exact absurd (hr.symm.trans hq) (by decide))
   | (rename_i hq _;exact absurd (hr.symm.trans hq) (by decide))
   | (rename_i hq _ _;exact absurd (hr.symm.trans hq) (by decide))
 | false=>
  have hn:¬Zp s 13:=fun h=>absurd (hok.2 h) (by decide)
  repeat' first
   | trivial
   | apply Jc
   | intro
  all_goals first
   | exact absurd (Zp.mk ⟨by omega,by omega,by omega,by omega,by omega,by omega,by omega,by omega,by omega,by omega⟩ (by assumption) (by simp only [kindOk]<;>omega)) hn
   | exact absurd (Zp.mk ⟨by omega,by omega,by omega,by omega,by omega,by omega,by omega,by omega,by omega,by omega⟩ (by assumption) trivial) hn
theorem Zlt (s:Zi) (ok:Bool) (hl:s.Len) (hok:ok=true↔Zp s 14):
  evF Z0c 40 35 [.agg (.int .i64 14::s.r)] ⟨0,[]⟩ (chK ok):=by
 refine @Eq.mpr _ (let q1:=s.id;let q2:=s.t;let q3:=q2.fund;let q4:=decide (List.length q3=32/\(32:Nat)=32);let q5:=q2.k0;let q6:=decide (List.length q5=32/\(32:Nat)=32);let q7:=q2.k1;let q8:=decide (List.length q7=32/\(32:Nat)=32);let q9:=decide (List.length s.point=32/\(32:Nat)=32);let q10:=decide (List.length s.nxt=32/\(32:Nat)=32);let q11:=decide (List.length s.key=32/\(32:Nat)=32);let q12:=decide (List.length s.hash=32/\(32:Nat)=32);let q13:=decide (List.length s.tag=32/\(32:Nat)=32);let q14:=decide (List.length s.secret=32/\(32:Nat)=32);let q15:=s.amount;let q16:=s.number;let q17:=s.index;let q18:=s.expiry;let q19:= !(true&&(q3==Z5&&(q2.index==0&&(q2.cap==0&&(q2.dust==0&&(q2.fee==0&&(q2.delay==0&&(q5==Z5&&q7==Z5))))))&&(s.reserve==0&&(q15==0&&(s.point==Z5&&(s.nxt==Z5&&(s.key==Z5&&(s.hash==Z5&&(s.tag==Z5&&(s.secret==Z5&&(q1==0&&(q16==0&&(q17==0&&(q18==0&&(true&&ByteArray.toList s.route==ByteArray.toList ByteArray.empty)))))))))))))));let q20:=Z0 q4 (Z0 q6 (Z0 q8 (Z0 q9 (Z0 q10 (Z0 q11 (Z0 q12 (Z0 q13 (Z0 q14 (Z7 q19 (ok=false) (ok=false))))))))));
 Z7 (decide (0<=q1)) (Z7 (!decide (q1<=2147483647)) q20 (Z7 (decide (0<=q16)) (Z7 (!decide (q16<=2147483647)) q20 (Z7 (decide (0<=q17)) (Z7 (!decide (q17<=2147483647)) q20 (Z7 (decide (0<=q18)) (Z7 (!decide (q18<=2147483647)) q20 (Z0 q4 (Z0 q6 (Z0 q8 (Z0 q9 (Z0 q10 (Z0 q11 (Z0 q12 (Z0 q13 (Z0 q14 (Z7 q19 (ok=false) (Z7 (decide (q15<0)) (ok=false) (Z7 (decide (q15>1125899906842624)) (ok=false) (Z7 (decide (1<=s.code)) (Z7 (!decide (s.code<=999)) (ok=false) (ok=true)) (ok=false))))))))))))))) q20)) q20)) q20)) q20) (by kernel_rfl) ?_
 conv=>zeta
 try simp only [vcA]
 try simp only [vcB]
 try simp only [vcC]
 obtain ⟨h0,h1,h2,h3,h4,h5,h6,h7,h8,hb⟩:=hl
 simp only [h0,h1,h2,h3,h4,h5,h6,h7,h8,and_self,decide_true,true_and,forall_const,J6,Ja,decide_eq_true_eq,decide_eq_false_iff_not,Jh,Ji,reduceCtorEq,false_implies,and_true]
 cases ok with
 | true=>
  obtain ⟨⟨w0,w1,w2,w3,w4,w5,w6,w7,w8,w9⟩,hr,hk⟩:=hok.1 rfl
  have hk':=hk
  simp only [kindOk] at hk
  repeat' first
   | trivial
   | apply Jc
   | intro
  all_goals first
   | omega
   | (exfalso;omega)
   | (rename_i hq;exact absurd (hr.symm.trans hq) (by decide))
   | (rename_i hq _;exact absurd (hr.symm.trans hq) (by decide))
   | (rename_i hq _ _;exact absurd (hr.symm.trans hq) (by decide))
 | false=>
  have hn:¬Zp s 14:=fun h=>absurd (hok.2 h) (by decide)
  repeat' first
   | trivial
   | apply Jc
   | intro
  all_goals first
   | exact absurd (Zp.mk ⟨by omega,by omega,by omega,by omega,by omega,by omega,by omega,by omega,by omega,by omega⟩ (by assumption) (by simp only [kindOk]<;>omega)) hn
   | exact absurd (Zp.mk ⟨by omega,by omega,by omega,by omega,by omega,by omega,by omega,by omega,by omega,by omega⟩ (by assumption) trivial) hn
def noQ:ZN:=fun _ _ _=>False
theorem Z8M {f:FuncId} (args:List AV) (h:Z8) (K:KO) (hl:noQ args h K):Ze PP f args h K:=hl.elim
noncomputable def Zlu:Zd:=((G0.withF 227 noQ).withF 230 noQ).withF 235 noQ
theorem Znd (s:Zi) (k:Int) (hl:s.Len) (hk:k<1\/14<k):
  evF Zlu 40 35 [.agg (.int .i64 k::s.r)] ⟨0,[]⟩ (chK false):=by
 refine @Eq.mpr _ (let q1:=s.id;let q2:=s.t;let q3:=q2.fund;let q4:=decide (List.length q3=32/\(32:Nat)=32);let q5:=q2.k0;let q6:=decide (List.length q5=32/\(32:Nat)=32);let q7:=q2.k1;let q8:=decide (List.length q7=32/\(32:Nat)=32);let q9:=decide (List.length s.point=32/\(32:Nat)=32);let q10:=decide (List.length s.nxt=32/\(32:Nat)=32);let q11:=decide (List.length s.key=32/\(32:Nat)=32);let q12:=decide (List.length s.hash=32/\(32:Nat)=32);let q13:=decide (List.length s.tag=32/\(32:Nat)=32);let q14:=decide (List.length s.secret=32/\(32:Nat)=32);let q15:=s.amount;let q16:=s.number;let q17:=s.index;let q18:=s.expiry;let q19:= !(k==k&&(q3==Z5&&(q2.index==0&&(q2.cap==0&&(q2.dust==0&&(q2.fee==0&&(q2.delay==0&&(q5==Z5&&q7==Z5))))))&&(s.reserve==0&&(q15==0&&(s.point==Z5&&(s.nxt==Z5&&(s.key==Z5&&(s.hash==Z5&&(s.tag==Z5&&(s.secret==Z5&&(q1==0&&(q16==0&&(q17==0&&(q18==0&&(s.code==0&&ByteArray.toList s.route==ByteArray.toList ByteArray.empty)))))))))))))));let q20:=Z0 q4 (Z0 q6 (Z0 q8 (Z0 q9 (Z0 q10 (Z0 q11 (Z0 q12 (Z0 q13 (Z0 q14 (Z7 q19 (false=false) (false=false))))))))));
 Z6 (k=k) (Z7 (decide (k=1)) False (Z7 (decide (k=2)) False (Z7 (decide (k=3)) False (Z7 (decide (k=4)) False (Z7 (decide (k=5)) (Z7 (decide (0<=q1)) (Z7 (!decide (q1<=2147483647)) q20 (Z7 (decide (0<=q16)) (Z7 (!decide (q16<=2147483647)) q20 (Z7 (decide (0<=q17)) (Z7 (!decide (q17<=2147483647)) q20 (Z7 (decide (0<=q18)) (Z7 (!decide (q18<=2147483647)) q20 (Z0 q4 (Z0 q6 (Z0 q8 (Z0 q9 (Z0 q10 (Z0 q11 (Z0 q12 (Z0 q13 (Z0 q14 (Z7 q19 (false=false) (Z7 (decide (q15<0)) (false=false) (Z7 (decide (q15>1125899906842624)) (false=false) (false=true)))))))))))))) q20)) q20)) q20)) q20) (Z7 (decide (k=6)) False (Z7 (decide (k=7)) False (Z7 (decide (k=8)) False (Z7 (decide (k=9)) False (Z7 (decide (k=10)) False (Z7 (decide (k=11)) False (Z7 (decide (k=12)) (Z7 (decide (0<=q1)) (Z7 (!decide (q1<=2147483647)) q20 (Z7 (decide (0<=q16)) (Z7 (!decide (q16<=2147483647)) q20 (Z7 (decide (0<=q17)) (Z7 (!decide (q17<=2147483647)) q20 (Z7 (decide (0<=q18)) (Z7 (!decide (q18<=2147483647)) q20 (Z0 q4 (Z0 q6 (Z0 q8 (Z0 q9 (Z0 q10 (Z0 q11 (Z0 q12 (Z0 q13 (Z0 q14 (Z7 q19 (false=false) (Z7 (decide (q15<0)) (false=false) (Z7 (decide (q15>1125899906842624)) (false=false) (false=true)))))))))))))) q20)) q20)) q20)) q20) (Z7 (decide (k=13)) False (Z7 (decide (k=14)) False (Z7 (decide (0<=q1)) (Z7 (!decide (q1<=2147483647)) (false=false) (Z7 (decide (0<=q16)) (Z7 (!decide (q16<=2147483647)) (false=false) (Z7 (decide (0<=q17)) (Z7 (!decide (q17<=2147483647)) (false=false) (Z7 (decide (0<=q18)) (Z7 (!decide (q18<=2147483647)) (false=false) (false=false)) (false=false))) (false=false))) (false=false))) (false=false))))))))))))))))) (by kernel_rfl) ?_
 conv=>zeta
 try simp only [vcA]
 try simp only [vcB]
 try simp only [vcC]
 obtain ⟨h0,h1,h2,h3,h4,h5,h6,h7,h8,hb⟩:=hl
 simp only [h0,h1,h2,h3,h4,h5,h6,h7,h8,and_self,decide_true,true_and,forall_const,J6,Ja,decide_eq_true_eq,decide_eq_false_iff_not,Jh,Ji,reduceCtorEq,false_implies,and_true]
 repeat' first
  | trivial
  | apply Jc
  | intro
 all_goals first
  | omega
  | (exfalso;omega)
def Xc {α:Type} (lt:α->α->Bool) (x:α):List α->List α
 | []=>[x]
 | y::r=>match lt x y with
  | true=>x::y::r
  | false=>y::Xc lt x r
def XQ {α:Type} (lt:α->α->Bool):List α->List α->List α
 | acc,[]=>acc
 | acc,x::r=>XQ lt (Xc lt x acc) r
def Z3D {α:Type} (lt:α->α->Bool) (l:List α):Prop:=l.Pairwise fun a b=>lt b a=false
structure WO {α:Type} (lt:α->α->Bool):Prop where
 asym:∀x y,lt x y=true->lt y x=false
 neg:∀x y z,lt x y=true->lt z y=false->lt x z=true
theorem Z78 {α:Type} {lt:α->α->Bool} {x z:α}:∀{l:List α},z∈Xc lt x l↔z=x\/z∈l
 | []=>by simp [Xc]
 | y::r=>by
  unfold Xc
  split
  ·simp
  ·simp only [Jd,Z78 (l:=r)]
   constructor<;>(intro h;rcases h with h|h|h<;>simp [h])
theorem Z3E {α:Type} {lt:α->α->Bool} {x:α}:∀{l:List α},(Xc lt x l).length=l.length+1
 | []=>rfl
 | y::r=>by
  unfold Xc
  split
  ·simp
  ·simp [Z3E (l:=r)]
theorem Z4R {α:Type} {lt:α->α->Bool} {x:α}:∀{l:List α},(Xc lt x l).Perm (x::l)
 | []=>.refl _
 | y::r=>by
  unfold Xc
  split
  ·exact .refl _
  ·exact (List.Perm.cons y Z4R).trans (List.Perm.swap x y r)
theorem Z79 {α:Type} {lt:α->α->Bool} (wo:WO lt) {x:α}:∀{l:List α},Z3D lt l->Z3D lt (Xc lt x l)
 | [],_=>by simp [Xc,Z3D]
 | y::r,h=>by
  unfold Z3D at h
  rw [Kg] at h
  unfold Xc
  split
  ·rename_i hx
   unfold Z3D
   rw [Kg,Kg]
   refine ⟨fun z hz=> ?_,h.1,h.2⟩
   rcases Jd.1 hz with rfl|hz
   ·exact wo.asym _ _ hx
   ·cases hzx:lt z x with
    | false=>rfl
    | true=>
     have:=h.1 z hz
     -- z < x < y, so z < y
     have h2:=wo.neg z x y hzx (wo.asym _ _ hx)
     rw [h2] at this;cases this
  ·rename_i hx
   unfold Z3D
   rw [Kg]
   refine ⟨fun z hz=> ?_,Z79 wo h.2⟩
   rcases Z78.1 hz with rfl|hz
   ·exact hx
   ·exact h.1 z hz
theorem Z9R {α:Type} {lt:α->α->Bool} (wo:WO lt) {x:α}:∀{l:List α} {j:Nat},Z3D lt l->j<=l.length->(∀y∈l.drop j,lt x y=true)->(∀y,l[j-1]? =some y->0<j->lt x y=false)->
  l.take j++x::l.drop j=Xc lt x l
 | [],j,_,hj,_,_=>by simp at hj;simp [Xc]
 | y::r,0,_,_,h1,_=>by
  have:=h1 y (by simp)
  unfold Xc
  rw [this];simp
 | y::r,j+1,ho,hj,h1,h2=>by
  unfold Z3D at ho
  rw [Kg] at ho
  have hy:lt x y=false:=by
   cases hxy:lt x y with
   | false=>rfl
   | true=>
    cases j with
    | zero=>rw [h2 y (by simp) (by omega)] at hxy;cases hxy
    | succ k=>
     simp at hj
     have hk:k<r.length:=by omega
     have h3:=h2 r[k] (by simp [hk]) (by omega)
     have h4:=ho.1 r[k] (Km hk)
     rw [wo.neg x y _ hxy h4] at h3;cases h3
  unfold Xc
  rw [hy]
  simp only [List.take_succ_cons,List.drop_succ_cons,Kw,List.cons.injEq,true_and]
  refine Z9R wo ho.2 (by simpa using hj) (by simpa using h1) fun z hz hj'=>h2 z ?_ (by omega)
  cases j with
  | zero=>omega
  | succ k=>simpa using hz
theorem Z4S {α:Type} {lt:α->α->Bool} (wo:WO lt):∀{l acc:List α},Z3D lt acc->Z3D lt (XQ lt acc l)
 | [],_,h=>h
 | _::_,_,h=>by unfold XQ;exact Z4S wo (Z79 wo h)
theorem Uc {α:Type} {lt:α->α->Bool}:∀{l acc:List α},(XQ lt acc l).Perm (acc++l)
 | [],acc=>by simp [XQ]
 | x::r,acc=>by
  unfold XQ
  refine Uc.trans ?_
  refine (List.Perm.append_right r Z4R).trans ?_
  rw [Kw]
  exact List.perm_middle.symm
theorem Z4T {α:Type} {lt:α->α->Bool} {l acc:List α}:(XQ lt acc l).length=acc.length+l.length:=by
 rw [(Uc (lt:=lt)).length_eq,J7]
theorem Z3F {α:Type} {lt:α->α->Bool} {x:α}:∀{l acc:List α},XQ lt acc (l++[x])=Xc lt x (XQ lt acc l)
 | [],acc=>rfl
 | y::r,acc=>by
  simp only [Kw,XQ]
  exact Z3F
def X7:List Int->Nat
 | []=>0
 | a::r=>(WU a).toNat*256^r.length+X7 r
theorem Z5M:∀(x:List Int),X7 x<256^x.length
 | []=>by simp [X7]
 | a::r=>by
  have h1:=Z5M r
  have h2:=(WU a).toNat_lt
  simp only [X7,Js,Nat.pow_succ]
  have h3:(WU a).toNat*256^r.length<=255*256^r.length:=JQ _ (by omega)
  omega
theorem Z7a:∀(x y:List Int),x.length=y.length->X2 x y=if X7 x<X7 y then -1 else if X7 y<X7 x then 1 else 0
 | [],[],_=>by simp [X2,Lib.compareBytes,X7]
 | [],b::s,h=>by simp at h
 | a::r,[],h=>by simp at h
 | a::r,b::s,h=>by
  have h':r.length=s.length:=by simpa using h
  have ih:=Z7a r s h'
  have e1:X7 (a::r)=(WU a).toNat*256^r.length+X7 r:=rfl
  have e2:X7 (b::s)=(WU b).toNat*256^r.length+X7 s:=by rw [h'];rfl
  have e3:X2 (a::r) (b::s)=if (WU a).toNat<(WU b).toNat then -1 else if (WU b).toNat<(WU a).toNat then 1 else X2 r s:=by
   unfold X2;simp only [K8,Lib.compareBytes,UInt8.lt_iff_toNat_lt]
  have h1:=Z5M r
  have h2:=Z5M s
  rw [<-h'] at h2
  rw [e3]
  generalize X7 (a::r)=A at*
  generalize X7 (b::s)=B at*
  generalize (WU a).toNat=u at*
  generalize (WU b).toNat=v at*
  generalize hM:256^r.length=M at*
  have hs:∀p q:Nat,p<q->p*M+M<=q*M:=fun p q hpq=>by
   have:(p+1)*M<=q*M:=JQ _ hpq
   rw [JT,Nat.one_mul] at this
   exact this
  by_cases c1:u<v
  ·have:=hs u v c1
   rw [if_pos c1,if_pos (by omega)]
  ·rw [if_neg c1]
   by_cases c2:v<u
   ·have:=hs v u c2
    rw [if_pos c2,if_neg (by omega),if_pos (by omega)]
   ·rw [if_neg c2,ih]
    have:u=v:=by omega
    subst this
    simp only [show (A<B)=(X7 r<X7 s) from propext (by omega),show (B<A)=(X7 s<X7 r) from propext (by omega)]
structure Za where
 o:ZE
 id:Int
 what:Int
variable {z:Za} {O:List Za}
def Za.c (m:Za):List AV:=[.int .i64 m.o.kind,.int .i64 m.o.amount,.arr .u8 32 m.o.owner,.arr .u8 32 m.o.other,.arr .u8 32 m.o.point,.arr .u8 32 m.o.hash,.int .i64 m.o.delay,.int .i64 m.o.expiry,.int .i64 m.id,.int .i64 m.what]
structure Za.Ok (m:Za):Prop where
 owner:m.o.owner.length=32
 other:m.o.other.length=32
 point:m.o.point.length=32
 hash:m.o.hash.length=32
def Yg:Za:=⟨⟨0,0,[],[],[],[],0,0⟩,0,0⟩
def Q0 (a b:Int):Int:=if a<b then -1 else if b<a then 1 else 0
def Zbg (a b:Za):Int:=
 if Q0 a.o.amount b.o.amount≠0 then Q0 a.o.amount b.o.amount else
 if Q0 a.o.kind b.o.kind≠0 then Q0 a.o.kind b.o.kind else
 if Q0 a.o.expiry b.o.expiry≠0 then Q0 a.o.expiry b.o.expiry else
 if X2 a.o.hash b.o.hash≠0 then X2 a.o.hash b.o.hash else Q0 a.id b.id
def ltM (a b:Za):Bool:=decide (a.o.amount<b.o.amount\/(a.o.amount=b.o.amount/\(a.o.kind<b.o.kind\/(a.o.kind=b.o.kind/\(a.o.expiry<b.o.expiry\/(a.o.expiry=b.o.expiry/\(X7 a.o.hash<X7 b.o.hash\/(X7 a.o.hash=X7 b.o.hash/\a.id<b.id))))))))
theorem VV (a b:Int):(a<b/\Q0 a b= -1)\/(b<a/\Q0 a b=1)\/(a=b/\Q0 a b=0):=by unfold Q0;omega
theorem Z4U {x y:List Int} (h:x.length=y.length):(X7 x<X7 y/\X2 x y= -1)\/(X7 y<X7 x/\X2 x y=1)\/(X7 x=X7 y/\X2 x y=0):=by
 rw [Z7a x y h];omega
theorem Zgh {a b:Za} (ha:a.Ok) (hb:b.Ok):decide (Zbg a b<0)=ltM a b:=by
 unfold Zbg ltM
 have h1:=VV a.o.amount b.o.amount
 have h2:=VV a.o.kind b.o.kind
 have h3:=VV a.o.expiry b.o.expiry
 have h4:=Z4U (ha.hash.trans hb.hash.symm)
 have h5:=VV a.id b.id
 rw [decide_eq_decide]
 generalize Q0 a.o.amount b.o.amount=c1 at*
 generalize Q0 a.o.kind b.o.kind=c2 at*
 generalize Q0 a.o.expiry b.o.expiry=c3 at*
 generalize X2 a.o.hash b.o.hash=c4 at*
 generalize Q0 a.id b.id=c5 at*
 generalize X7 a.o.hash=v1 at*
 generalize X7 b.o.hash=v2 at*
 omega
theorem ZdE:WO ltM where
 asym x y h:=by
  unfold ltM at*
  simp only [decide_eq_true_eq,decide_eq_false_iff_not] at*
  generalize X7 x.o.hash=v1 at*
  generalize X7 y.o.hash=v2 at*
  omega
 neg x y z h h2:=by
  unfold ltM at*
  simp only [decide_eq_true_eq,decide_eq_false_iff_not] at*
  generalize X7 x.o.hash=v1 at*
  generalize X7 y.o.hash=v2 at*
  generalize X7 z.o.hash=v3 at*
  omega
def ZR (l:List Za):List Za:=XQ ltM [] l
def Zl (l:List Za) (i:Nat):List AV:=(l.getD i Yg).c
def byL:List AV:=[.func (.func 170) [] [],.func (.func 172) [] [],.func (.func 174) [] [],.func (.func 175) [] [],.func (.func 176) [] []]
theorem Z9S {a b r c:Int} {P X Y:Prop} (hr:r=if Q0 a b≠0 then Q0 a b else c) (hP:r=c->P):
  Z7 (a !=a) X (Z7 (b !=b) Y (Z7 (decide (a<b)) (Z7 (decide (-1=r)) True False) (Z7 (decide (a>b)) (Z7 (decide (1=r)) True False) P))):=by
 rw [bne_self_eq_false,bne_self_eq_false]
 show Z7 (decide (a<b)) _ (Z7 (decide (a>b)) _ P)
 rcases VV a b with ⟨h1,h2⟩|⟨h1,h2⟩|⟨h1,h2⟩
 ·rw [decide_eq_true h1,hr,h2];trivial
 ·rw [decide_eq_false (by omega:¬a<b),decide_eq_true (show a>b from h1),hr,h2];trivial
 ·rw [decide_eq_false (by omega:¬a<b),decide_eq_false (show ¬a>b by omega)]
  exact hP (by rw [hr,h2];rfl)
theorem Zlv (a b:Za) (r:Int) (ha:a.Ok) (hb:b.Ok) (hr:r=Zbg a b):
  evF G0 20 241 [.agg a.c,.agg b.c,.pview [.vrows 1 5 (Y9 byL 0 1) 5] 0] ⟨0,[]⟩ (ZF 0 (.ret (.int .i64 r)) 0 []):=by
 refine @Eq.mpr _ (let q1:=a.o;let q2:=q1.amount;let q3:=b.o;let q4:=q3.amount;let q5:=q4 !=q4;let q6:=q1.kind;let q7:=q3.kind;let q8:=q7 !=q7;let q9:=q1.expiry;let q10:=q3.expiry;let q11:=q10 !=q10;let q12:=q1.hash;let q13:=q3.hash;let q14:=X2 q12 q13;let q15:=a.id;let q16:=b.id;let q17:=q16 !=q16;let q18:=Z7 (decide (0=r)) True False;let q19:=Z7 (decide (-1=r)) True False;let q20:=Z7 (decide (1=r)) True False;let q21:=Z7 (decide (u8=u8/\List.length q12=32)) (Z7 (decide (u8=u8/\List.length q13=32)) (Z7 (q14 !=0) (Z7 (decide (q14=r)) True False) (Z7 (q15 !=q15) (Z7 q17 q18 q19) (Z7 q17 q20 (Z7 (decide (q15<q16)) q19 (Z7 (decide (q15>q16)) q20 q18))))) False) False;let q22:=Z7 (q9 !=q9) (Z7 q11 q21 q19) (Z7 q11 q20 (Z7 (decide (q9<q10)) q19 (Z7 (decide (q9>q10)) q20 q21)));let q23:=Z7 (q6 !=q6) (Z7 q8 q22 q19) (Z7 q8 q20 (Z7 (decide (q6<q7)) q19 (Z7 (decide (q6>q7)) q20 q22)));
 Z7 (q2 !=q2) (Z7 q5 q23 q19) (Z7 q5 q20 (Z7 (decide (q2<q4)) q19 (Z7 (decide (q2>q4)) q20 q23)))) (by kernel_rfl) ?_
 conv=>zeta
 unfold Zbg at hr
 refine Z9S hr fun hr=>Z9S hr fun hr=>Z9S hr fun hr=> ?_
 rw [decide_eq_true (show u8=u8/\a.o.hash.length=32 from ⟨rfl,ha.hash⟩),decide_eq_true (show u8=u8/\b.o.hash.length=32 from ⟨rfl,hb.hash⟩)]
 show Z7 (X2 a.o.hash b.o.hash !=0) _ _
 by_cases h:X2 a.o.hash b.o.hash=0
 ·rw [h]
  rw [if_neg (by simp [h])] at hr
  refine Z9S (c:=0) ?_ fun hr=>by rw [hr];trivial
  rw [hr];split<;>simp_all
 ·rw [if_pos h] at hr
  rw [bne_iff_ne.2 h,hr,decide_eq_true rfl];trivial
def Zlw:ZH:=fun args h K=>ZA none h true 20 args fun a=>match a with
 | [.agg ca,.agg cb,.pview [.vrows 1 5 f 5] 0]=>∃a b,ca=Za.c a/\cb=Za.c b/\f=Y9 byL 0 1/\(a.Ok/\b.Ok)/\K (.int .i64 (Zbg a b))
 | _=>False
theorem Zgi (args:List AV) (h:Z8) (K:AV->Prop) (hl:Zlw args h K):Ze PP 241 args h fun o h'=>∃v,o=.ret v/\h'=h/\K v:=by
 refine Zs.psumm (d:=20) (Zk _ _ _ _ _ hl fun a ha=> ?_)
 split at ha
 ·obtain ⟨a,b,rfl,rfl,rfl,⟨h1,h2⟩,hK⟩:=ha
  exact ⟨_,.evM Zm (Zlv a b _ h1 h2 rfl),fun _=>rfl,hK⟩
 ·exact ha.elim
theorem and_mk {a b:Bool} (h1:a=true) (h2:b=true):(a&&b)=true:=by rw [h1,h2];rfl
theorem ZdF {E:Env} {w:World} {sz n:Nat} {g:Nat->List AV} (hg:∀i,i<n->g' i=g i) (he:Emb E ⟨1,[(0,.rows sz n g')]⟩ w):Emb E ⟨1,[(0,.rows sz n g)]⟩ w:=by
 have hget:∀(f:Nat->List AV) x B,(Z8.mk 1 [(0,.rows sz n f)]).get x=some B->x=0/\B=.rows sz n f:=fun f x B hx=>by
  simp only [Z8.get,ZO] at hx
  split at hx
  ·rename_i hb
   cases hx
   exact ⟨(J0 hb).symm,rfl⟩
  ·cases hx
 have h0:∀f:Nat->List AV,(Z8.mk 1 [(0,.rows sz n f)]).get 0=some (.rows sz n f):=fun f=>rfl
 refine ⟨he.fresh,fun x B hx=> ?_,fun x B hx=> ?_,fun x y B B' b N N' hx hy h1 h2=> ?_,he.imm,fun a c x B N hi hx hb=> ?_⟩
 ·obtain ⟨rfl,rfl⟩:=hget _ _ _ hx;exact he.lt 0 _ (h0 _)
 ·obtain ⟨rfl,rfl⟩:=hget _ _ _ hx
  have:=he.own 0 _ (h0 g')
  cases this with
  | rows0 _ _ _ hn hb=>exact .rows0 _ _ _ hn hb
  | rows _ _ _ b cells elem fr gv hb hw hf hc hl hv=>exact .rows _ _ _ b cells elem fr gv hb hw hf (fun i hi=>hg i hi▸hc i hi) hl hv
 ·obtain ⟨rfl,rfl⟩:=hget _ _ _ hx
  obtain ⟨rfl,rfl⟩:=hget _ _ _ hy
  rfl
 ·obtain ⟨rfl,rfl⟩:=hget _ _ _ hx
  exact he.sep a c 0 _ N hi (h0 g') hb
theorem Spec.rows {P:Program} {f:FuncId} {args:List AV} {sz n:Nat} {g:Nat->List AV} {o:Out} {nx:Nat} {bs:List (Nat×Blk)} (hg:∀i,i<n->g' i=g i) (h:Spec P f args ⟨1,[(0,.rows sz n g)]⟩ o nx bs):Spec P f args ⟨1,[(0,.rows sz n g')]⟩ o nx bs:=by
 intro E w rs he hl
 have he':=ZdF hg he
 refine (h E w rs he' hl).mono ?_
 rintro e w' ⟨E',hev,ho⟩
 have own:∀b,Xg E ⟨1,[(0,.rows sz n g)]⟩ b↔Xg E ⟨1,[(0,.rows sz n g')]⟩ b:=fun b=>by
  unfold Xg
  constructor
  ·rintro ⟨x,B,N,hx,hb⟩
   simp only [Z8.get,ZO] at hx
   split at hx
   ·rename_i hq;have:=J0 hq;subst this;exact ⟨0,_,N,rfl,hb⟩
   ·cases hx
  ·rintro ⟨x,B,N,hx,hb⟩
   simp only [Z8.get,ZO] at hx
   split at hx
   ·rename_i hq;have:=J0 hq;subst this;exact ⟨0,_,N,rfl,hb⟩
   ·cases hx
 exact ⟨E',⟨hev.le,hev.emb,hev.size,hev.os,hev.tape,hev.output,fun b hb hn=>hev.keep b hb (fun h=>hn ((own b).1 h)),fun b hb=>(hev.own b hb).imp (own b).1 id,hev.imm⟩,ho⟩
noncomputable def E82:Zd:=G0.withP 241 Zlw
theorem ZdG:E82.Ok:=Zd.withP_ok Zm Zgi
def Zgj:AV:=.func (.func 241) [] [.pview [.vrows 1 5 (Y9 byL 0 1) 5] 0]
def isH (n:Nat) (L:List Za):Z8:=⟨1,[(0,.rows 134 n (Zl L))]⟩
def isT (n lo:Nat) (A B:Int) (l:ZW):ZW:=l++[(2,.int .i64 B),(1,.int .i64 A),(3,Zgj),(0,.nslice ⟨0,0,134,0,0⟩ 134 n lo)]
def Z3W (n lo:Nat) (A B I:Int) (L:List Za):St:=⟨53,isT n lo A B [(8,.int .i64 I)],isH n L,[]⟩
def Zgk (n lo:Nat) (A B I J:Int) (L:List Za):St:=⟨53,isT n lo A B [(9,.int .i64 J),(8,.int .i64 I)],isH n L,[]⟩
theorem Xo (L:List Za) (i:Nat):plainC (Zl L i)=true:=rfl
theorem Y7 {k:Nat} {τ:Ren} {n:Nat} {L:List Za} {f:Nat->List AV} (h:∀i,i<n->f i=Zl L i):Zo k τ n (Zl L) f:=
 Z1a h (fun i _=>Xo L i) (fun i _ v hv=>by
  simp only [Zl,Za.c,Jd,List.not_mem_nil,or_false] at hv
  rcases hv with rfl|rfl|rfl|rfl|rfl|rfl|rfl|rfl|rfl|rfl<;>first|exact .inl rfl|exact .inr ⟨_,_,_,rfl⟩)
theorem Z9T {L:List Za} (h:∀m∈L,m.Ok) {i:Nat} (hi:i<L.length):(L.getD i Yg).Ok:=by
 rw [J2,Je hi]
 exact h _ (Km hi)
theorem ZdH {f:Nat->List AV} {J J1 i:Nat} {x y:List AV} (hx:x=f J) (hy:y=f J1):QH (QH f J y) J1 x i=if i=J1 then f J else if i=J then f J1 else f i:=by
 rw [Wy,Wy]
 by_cases h1:i=J1
 ·subst h1;rw [Jj,if_pos rfl,hx]
 ·rw [Zx h1,if_neg h1]
  by_cases h2:i=J
  ·subst h2;rw [Jj,if_pos rfl,hy]
  ·rw [Zx h2,if_neg h2]
theorem Zne (n lo A B I J:Nat) (L L1:List Za) (Z1 Z2:Prop) (hn:n<900000000000) (hJ:J<n) (hL:L.length=n) (hok:∀m∈L,m.Ok) (hsw:A<J->∀i,i<n->Zl L1 i=if i=J-1 then Zl L J else if i=J then Zl L (J-1) else Zl L i) (h1:A<J->ltM (L.getD J Yg) (L.getD (J-1) Yg)=true->Z1) (h2:J<=A\/ltM (L.getD J Yg) (L.getD (J-1) Yg)=false->Z2):
  ZC E82 20 293 2 1 (Zgk n lo A B I J L) (rdM 1 2 9 (Zgk n lo A B I ((J-1:Nat):Int) L1) (Z3W n lo A B I L) (Z3W n lo A B I L) (Z3W n lo A B I L) Z1 Z2 False False):=by
 refine @Eq.mpr _ (let q1:=decide (0<=(↑J:Int)/\(↑J:Int)<(↑n:Int));let q2:=0+Int.toNat (↑J:Int);let q3:=wrap i64 ((↑J:Int)-1);let q4:=decide (0<=q3/\q3<(↑n:Int));let q5:=0+Int.toNat q3;let q6:=List.getD L q2 Yg;let q7:=q6.o;let q8:=[AV.int i64 q7.kind,AV.int i64 q7.amount,AV.arr u8 32 q7.owner,AV.arr u8 32 q7.other,AV.arr u8 32 q7.point,AV.arr u8 32 q7.hash,AV.int i64 q7.delay,AV.int i64 q7.expiry,AV.int i64 q6.id,AV.int i64 q6.what];let q9:=List.getD L q5 Yg;let q10:=q9.o;let q11:=[AV.int i64 q10.kind,AV.int i64 q10.amount,AV.arr u8 32 q10.owner,AV.arr u8 32 q10.other,AV.arr u8 32 q10.point,AV.arr u8 32 q10.hash,AV.int i64 q10.delay,AV.int i64 q10.expiry,AV.int i64 q9.id,AV.int i64 q9.what];let q12:=Y9 byL 0 1;let q13:=decide ((↑I:Int)=(↑I:Int));let q14:=decide ((↑B:Int)=(↑B:Int));let q15:=decide ((↑A:Int)=(↑A:Int));let q16:=[AV.vrows 1 5 q12 5];let q17:=q16=q16;let q18:=decide (n=n);let q19:=decide (lo<=lo);let q20:=Zl L;let q21:=Z0 q13 (Z0 q14 (Z0 q15 (q17/\Z0 q18 (Z0 q19 (Z0 q18 (Zo 1 [] n q20 q20/\Z2))))));
 Z7 (decide ((↑J:Int)>(↑A:Int))) (Z0 q1 (Z6 (q2<n) (Z0 q4 (Z6 (q5<n) (∃(a:Za),∃(b:Za),q8=Za.c a/\q11=Za.c b/\q12=q12/\(Za.Ok a/\Za.Ok b)/\Z7 (decide (Zbg a b<0)) (Z0 q4 (Z6 (q5<n) (Z0 q1 (Z6 (q2<n) (Z0 q1 (Z6 (q2<n) (Z0 q4 (Z6 (q5<n) (Z6 (q3=(↑(J-1):Int)) (Z0 q13 (Z0 q14 (Z0 q15 (q17/\Z0 q18 (Z0 q19 (Z0 q18 (Zo 1 [] n (Zl L1) (QH (QH q20 q2 q11) q5 q8)/\Z1)))))))))))))))) q21))))) q21) (by kernel_rfl) ?_
 conv=>zeta
 try simp only [vcA]
 try simp only [vcB]
 try simp only [vcC]
 refine ⟨fun hc=> ?_,fun hc=>⟨Y7 fun _ _=>rfl,h2 (.inl (by omega))⟩⟩
 have key:i64.wrap ((J:Int)-1)=((J-1:Nat):Int):=by rw [w64 (by omega)];omega
 rw [key]
 simp only [JW]
 have o1:(L.getD J Yg).Ok:=Z9T hok (by omega)
 have o2:(L.getD (J-1) Yg).Ok:=Z9T hok (by omega)
 have hlt:=Zgh o1 o2
 refine ⟨by omega,by omega,by omega,by omega,L.getD J Yg,L.getD (J-1) Yg,rfl,rfl,⟨o1,o2⟩,fun hm=> ?_,fun hm=>⟨Y7 fun _ _=>rfl,h2 (.inr (by rw [<-hlt];simpa using hm))⟩⟩
 refine ⟨by omega,by omega,by omega,by omega,by omega,by omega,by omega,by omega,trivial,Y7 fun i hi=> ?_,h1 (by omega) (by rw [<-hlt];simpa using hm)⟩
 rw [hsw (by omega) i hi]
 exact ZdH rfl rfl
def isL (a p:List Za) (x:Za) (r:List Za) (m:Nat):List Za:=a++(p.take (p.length-m)++x::(p.drop (p.length-m)++r))
theorem Zgl {a p r:List Za} {x:Za} {m:Nat}:(isL a p x r m).length=a.length+p.length+1+r.length:=by
 unfold isL
 simp only [J7,Js,Jp,Jt]
 omega
theorem Z9U {a p r:List Za} {x:Za} {m:Nat}:z∈isL a p x r m↔z∈a\/z∈p\/z=x\/z∈r:=by
 unfold isL
 have e:z∈p↔z∈p.take (p.length-m)\/z∈p.drop (p.length-m):=by
  rw [<-List.mem_append,List.take_append_drop]
 rw [e]
 simp only [Ju,Jd]
 constructor
 ·rintro (h|h|h|h|h)<;>simp [h]
 ·rintro (h|(h|h)|h|h)<;>simp [h]
theorem ZdI {a p r:List Za} {x:Za} {m:Nat} (hm:m<=p.length):(isL a p x r m).getD (a.length+p.length-m) Yg=x:=by
 unfold isL
 rw [J2,Jf (by omega),Jf (by rw [Jp];omega)]
 have:a.length+p.length-m-a.length-(p.take (p.length-m)).length=0:=by rw [Jp];omega
 rw [this];rfl
theorem ZdJ {a p r:List Za} {x:Za} {m:Nat} (hm:m<p.length):(isL a p x r m).getD (a.length+p.length-m-1) Yg=p.getD (p.length-m-1) Yg:=by
 unfold isL
 rw [J2,Jf (by omega),Jb (by rw [Jp];omega),JF,if_pos (by omega),<-List.getD_eq_getElem?_getD]
 congr 1
 omega
theorem ZdK {a p r:List Za} {x:Za} {m:Nat} (hm:m<p.length) (i:Nat):Zl (isL a p x r (m+1)) i=if i=a.length+p.length-m-1 then Zl (isL a p x r m) (a.length+p.length-m) else if i=a.length+p.length-m then Zl (isL a p x r m) (a.length+p.length-m-1) else Zl (isL a p x r m) i:=by
 unfold Zl
 rw [ZdI (by omega),ZdJ hm]
 have hx:=ZdI (a:=a) (p:=p) (r:=r) (x:=x) (m:=m+1) (by omega)
 by_cases h1:i=a.length+p.length-m-1
 ·rw [if_pos h1,h1,show a.length+p.length-m-1=a.length+p.length-(m+1) by omega,hx]
 ·rw [if_neg h1]
  have e:p.length-m=(p.length-(m+1))+1:=by omega
  have hd:p.drop (p.length-(m+1))=p.getD (p.length-m-1) Yg::p.drop (p.length-m):=by
   rw [JU (by omega),show p.length-(m+1)+1=p.length-m by omega]
   congr 1
   rw [J2,Je (by omega)]
   simp only [KD]
   congr 1
  have ht:p.take (p.length-m)=p.take (p.length-(m+1))++[p.getD (p.length-m-1) Yg]:=by
   rw [e,Kf (by omega)]
   congr 2
   rw [J2,Je (by omega)]
   simp only [KD]
   congr 1
  have l1:(p.take (p.length-(m+1))).length=p.length-(m+1):=by rw [Jp];omega
  generalize p.getD (p.length-m-1) Yg=y at*
  have hm1:isL a p x r (m+1)=(a++p.take (p.length-(m+1)))++(x::y::(p.drop (p.length-m)++r)):=by
   unfold isL;rw [hd];simp
  have hm0:isL a p x r m=(a++p.take (p.length-(m+1)))++(y::x::(p.drop (p.length-m)++r)):=by
   unfold isL;rw [ht];simp
  rw [hm1,hm0]
  have l2:(a++p.take (p.length-(m+1))).length=a.length+p.length-m-1:=by rw [J7,l1];omega
  generalize a++p.take (p.length-(m+1))=U at*
  generalize p.drop (p.length-m)++r=V at*
  by_cases h2:i=a.length+p.length-m
  ·rw [if_pos h2,J2,Jf (by omega),show i-U.length=1 by omega]
   rfl
  ·rw [if_neg h2]
   rcases J9 i U.length with h3|h3
   ·rw [J2,J2,Jb h3,Jb h3]
   ·rw [J2,J2,Jf h3,Jf h3]
    obtain ⟨q,hq⟩:∃q,i-U.length=q+2:=⟨i-U.length-2,by omega⟩
    rw [hq];rfl
def isGo (p:List Za) (x:Za) (m:Nat):Prop:=m<p.length/\ltM x (p.getD (p.length-m-1) Yg)=true
def Zlx (p:List Za) (x:Za) (m:Nat):Prop:=m=p.length\/(m<p.length/\ltM x (p.getD (p.length-m-1) Yg)=false)
theorem Zgm {a p r:List Za} {x:Za} {m:Nat} (ho:Z3D ltM p) (hm:m<=p.length) (hgo:∀j,j<m->isGo p x j) (hex:Zlx p x m):isL a p x r m=a++(Xc ltM x p++r):=by
 have h:=Z9R ZdE (x:=x) (l:=p) (j:=p.length-m) ho (by omega) (fun y hy=> ?_) (fun y hy hj=> ?_)
 ·unfold isL
  rw [<-h];simp
 ·obtain ⟨q,hq⟩:=K6.1 hy
  rw [Jm] at hq
  obtain ⟨hlt,he⟩:=Jw.1 hq
  have:=(hgo (p.length-1-(p.length-m+q)) (by omega)).2
  rw [J2,show p.length-(p.length-1-(p.length-m+q))-1=p.length-m+q by omega,hq] at this
  exact this
 ·rcases hex with hex|⟨_,hex⟩
  ·omega
  ·rw [J2,hy] at hex
   exact hex
structure IsQ where
 a:List Za
 p:List Za
 x:Za
 r:List Za
def IsQ.n (q:IsQ):Nat:=q.a.length+q.p.length+1+q.r.length
def IsQ.I (q:IsQ):Nat:=q.a.length+q.p.length
def IsQ.L (q:IsQ) (m:Nat):List Za:=isL q.a q.p q.x q.r m
structure IsQ.Ok (q:IsQ) (n:Nat) (A:Nat):Prop where
 hn:q.n=n
 hA:q.a.length=A
 le:n<900000000000
 ok:∀m∈q.L 0,m.Ok
def IsQ.go (q:IsQ):Nat->Prop:=isGo q.p q.x
def IsQ.ex (q:IsQ):Nat->Prop:=Zlx q.p q.x
def IsQ.len (q:IsQ):Nat:=q.p.length
noncomputable def Zj4 (n lo A B:Nat):Zd:=E82.withL 293 2 (Ziw fun q:IsQ=>goM 1 (Zgk n lo A B q.I q.I (q.L 0)) (q.Ok n A) (Yu 2 q.len 9 q.go q.ex (fun _=>False) (fun _=>False) (fun m=>Z3W n lo A B q.I (q.L m)) (fun m=>Z3W n lo A B q.I (q.L m)) (fun m=>Z3W n lo A B q.I (q.L m))))
theorem Zgn (n lo A B:Nat):(Zj4 n lo A B).Ok:=
 Zd.withL_ex ZdG fun q=>Zd.withGoM (N:=20) (S:=fun m=>Zgk n lo A B q.I ((q.I-m:Nat):Int) (q.L m)) ZdG (by kernel_rfl) fun hC=>⟨by simp,fun m hm hgo=>by
  obtain ⟨h1,h2,h3,h4⟩:=hC
  have l1:(q.L m).length=n:=by rw [<-h1];exact Zgl
  have hI:q.I=q.a.length+q.p.length:=rfl
  have hm':m<=q.p.length:=hm
  have hnn:q.n=q.a.length+q.p.length+1+q.r.length:=rfl
  have hx:(q.L m).getD (q.I-m) Yg=q.x:=ZdI hm'
  have hok:∀z∈q.L m,z.Ok:=fun z hz=>h4 z (Z9U.2 (Z9U.1 hz))
  have:=Zne n lo A B q.I (q.I-m) (q.L m) (q.L (m+1)) (q.go m/\m<q.len) (q.ex m) h3 (by omega) l1 hok (fun hlt i hi=> ?_) (fun hlt hc=> ?_) (fun hc=> ?_)
  ·rw [show q.I-(m+1)=q.I-m-1 by omega]
   exact this
  ·have hmp:m<q.p.length:=by omega
   exact ZdK hmp i
  ·have hmp:m<q.p.length:=by omega
   rw [hx,show (q.L m).getD (q.I-m-1) Yg=_ from ZdJ hmp] at hc
   exact ⟨⟨hmp,hc⟩,hmp⟩
  ·rcases J9 m q.p.length with hmp|hmp
   ·rcases hc with hc|hc
    ·omega
    ·rw [hx,show (q.L m).getD (q.I-m-1) Yg=_ from ZdJ hmp] at hc
     exact .inr ⟨hmp,hc⟩
   ·exact .inl (show m=q.p.length by omega)⟩
theorem Znf (n lo A B I:Nat) (L L1:List Za) (q:IsQ) (Z1 Z2:Prop) (hn:n<900000000000) (hI:I<900000000001) (hq:I<B->q.I=I/\q.L 0=L/\q.Ok n A) (hnext:I<B->∀m,m<=q.len->(∀j,j<m->q.go j)->q.ex m->L1=q.L m/\Z1) (h2:¬I<B->Z2):
  ZC (Zj4 n lo A B) 20 293 0 1 (Z3W n lo A B I L) (rdM 1 0 9 (Z3W n lo A B ((I+1:Nat):Int) L1) ⟨53,[],isH n L,[]⟩ ⟨53,[],isH n L,[]⟩ ⟨53,[],isH n L,[]⟩ Z1 Z2 False False):=by
 refine @Eq.mpr _ (let q1:=decide ((↑B:Int)=(↑B:Int));let q2:=decide ((↑A:Int)=(↑A:Int));let q3:=[AV.vrows 1 5 (Y9 byL 0 1) 5];let q4:=q3=q3;let q5:=decide (n=n);let q6:=decide (lo<=lo);let q7:=Zl L;
 Z7 (decide ((↑I:Int)<(↑B:Int))) (∃(i:IsQ),
 let q15:=(↑(IsQ.I i):Int);let q16:=decide ((↑I:Int)=q15);
 Z0 q16 (Z0 q16 (Z0 q1 (Z0 q2 (q4/\
 Z0 q5 (Z0 q6 (Z0 q5 (Zo 1 [] n (Zl (IsQ.L i 0)) q7/\
 IsQ.Ok i n A/\
 ∀(i_1:Nat),
 let q19:=Zl (IsQ.L i i_1);
 i_1<=IsQ.len i->(∀(j:Nat),j<i_1->IsQ.go i j)->(IsQ.ex i i_1->Z6 (wrap i64 (q15+1)=(↑(I+1):Int)) (Z0 q1 (Z0 q2 (q4/\Z0 q5 (Z0 q6 (Z0 q5 (Zo 1 [] n (Zl L1) q19/\Z1)))))))/\(False->Z0 q5 (Zo 1 [] n q7 q19/\False))/\(False->Z0 q5 (Zo 1 [] n q7 q19/\False)))))))))) (Z0 q5 (Zo 1 [] n q7 q7/\Z2))) (by kernel_rfl) ?_
 conv=>zeta
 try simp only [vcA]
 try simp only [vcB]
 try simp only [vcC]
 refine ⟨fun hc=> ?_,fun hc=>⟨Y7 fun _ _=>rfl,h2 (by omega)⟩⟩
 obtain ⟨e1,e2,e3⟩:=hq (by omega)
 refine ⟨q,by omega,by omega,Y7 (fun _ _=>by rw [e2]),e3,fun m hm hgo=>⟨fun hex=> ?_,fun h=>h.elim,fun h=>h.elim⟩⟩
 obtain ⟨e4,hZ⟩:=hnext (by omega) m hm hgo hex
 exact ⟨by rw [w64 (by omega)];omega,Y7 (fun _ _=>by rw [e4]),hZ⟩
structure IsP where
 a:List Za
 M:List Za
 c:List Za
def IsP.L (q:IsP) (t:Nat):List Za:=q.a++(XQ ltM [] (q.M.take (t+1))++(q.M.drop (t+1)++q.c))
def IsP.N (q:IsP):Nat:=q.M.length-1
def IsP.all (q:IsP):List Za:=q.a++(q.M++q.c)
def IsP.done (q:IsP):List Za:=q.a++(ZR q.M++q.c)
structure IsP.Ok (q:IsP) (n A B:Nat):Prop where
 hn:q.a.length+q.M.length+q.c.length=n
 hA:q.a.length=A
 hB:q.a.length+q.M.length=B
 le:n<900000000000
 ok:∀m∈q.all,m.Ok
theorem IsP.L0 (q:IsP):q.L 0=q.all:=by
 unfold IsP.L IsP.all
 cases h:q.M with
 | nil=>rfl
 | cons x r=>rfl
theorem IsP.LN (q:IsP):q.L q.N=q.done:=by
 unfold IsP.L IsP.done IsP.N
 rw [JD (by omega),List.drop_of_length_le (by omega)];rfl
theorem Zbh {l acc:List Za}:z∈XQ ltM acc l↔z∈acc\/z∈l:=by
 rw [(Uc (lt:=ltM)).mem_iff,Ju]
noncomputable def Zly (q:IsP) (n lo A B:Nat):Zd:=(Zj4 n lo A B).withL 293 0 (goM 1 (Z3W n lo A B ((A+1:Nat):Int) (q.L 0)) (q.Ok n A B) (Yu 0 q.N 9 (fun t=>t<q.N) (fun t=>t=q.N) (fun _=>False) (fun _=>False) (fun t=>⟨53,[],isH n (q.L t),[]⟩) (fun t=>⟨53,[],isH n (q.L t),[]⟩) (fun t=>⟨53,[],isH n (q.L t),[]⟩)))
theorem Zgo (q:IsP) (n lo A B:Nat):(Zly q n lo A B).Ok:=
 Zd.withGoM (N:=20) (S:=fun t=>Z3W n lo A B ((A+1+t:Nat):Int) (q.L t)) (Zgn n lo A B) (by kernel_rfl) fun hC=>⟨rfl,fun t ht hgo=>by
  obtain ⟨h1,h2,h3,h4,h5⟩:=hC
  have hN:q.N=q.M.length-1:=rfl
  have hMl:q.M.length<=n:=by omega
  have:=Znf n lo A B (A+1+t) (q.L t) (q.L (t+1)) ⟨q.a,XQ ltM [] (q.M.take (t+1)),q.M.getD (t+1) Yg,q.M.drop (t+2)++q.c⟩ (t<q.N/\t<q.N) (t=q.N) h4 (by omega) (fun hlt=> ?_) (fun hlt m hm hg he=> ?_) (fun hc=>by omega)
  ·rw [show A+1+(t+1)=A+1+t+1 by omega];exact this
  ·have hl:(XQ ltM [] (q.M.take (t+1))).length=t+1:=by rw [Z4T,Jp];simp;omega
   have e0:q.L t=isL q.a (XQ ltM [] (q.M.take (t+1))) (q.M.getD (t+1) Yg) (q.M.drop (t+2)++q.c) 0:=by
    unfold isL IsP.L
    rw [Nat.sub_zero,JE,List.drop_length,JU (show t+1<q.M.length by omega),J2,Je (show t+1<q.M.length by omega)]
    rfl
   refine ⟨?_,e0.symm, ?_,h2,h4,fun z hz=> ?_⟩
   ·show q.a.length+(XQ ltM [] (q.M.take (t+1))).length=_
    rw [hl,h2];omega
   ·show q.a.length+(XQ ltM [] (q.M.take (t+1))).length+1+(q.M.drop (t+2)++q.c).length=n
    rw [hl,J7,Jt];omega
   ·have hz:z∈isL q.a (XQ ltM [] (q.M.take (t+1))) (q.M.getD (t+1) Yg) (q.M.drop (t+2)++q.c) 0:=hz
    refine h5 z ?_
    rw [<-e0] at hz
    unfold IsP.L at hz
    unfold IsP.all
    rw [Ju,Ju,Zbh,Ju] at hz
    rw [Ju,Ju]
    rcases hz with hz|(hz|hz)|hz|hz
    ·exact .inl hz
    ·simp at hz
    ·exact .inr (.inl (List.mem_of_mem_take hz))
    ·exact .inr (.inl (List.mem_of_mem_drop hz))
    ·exact .inr (.inr hz)
  ·refine ⟨?_,by omega⟩
   have:=Zgm (a:=q.a) (r:=q.M.drop (t+2)++q.c) (x:=q.M.getD (t+1) Yg) (m:=m) (Z4S ZdE (l:=q.M.take (t+1)) (acc:=[]) .nil) hm hg he
   show _=isL q.a _ _ _ m
   rw [this]
   unfold IsP.L
   have e2:q.M.take (t+1+1)=q.M.take (t+1)++[q.M.getD (t+1) Yg]:=by
    rw [Kf (by omega),J2,Je (show t+1<q.M.length by omega)]
    rfl
   rw [e2,Z3F]⟩
theorem Zlz (q:IsP) (n lo A B:Nat) (L0 L1:List Za) (hq:q.Ok n A B) (hL:L0=q.all) (hL1:L1=q.done):
  evF (Zly q n lo A B) 20 293 [.nslice ⟨0,0,134,0,0⟩ 134 n lo,.int .i64 A,.int .i64 B,Zgj] (isH n L0) (ZF 1 (.ret (.tuple [])) 1 [(0,.rows 134 n (Zl L1))]):=by
 refine @Eq.mpr _ (let q1:=[AV.vrows 1 5 (Y9 byL 0 1) 5];let q2:=decide (n=n);let q3:=IsP.N q;
 Z6 (wrap i64 ((↑A:Int)+1)=(↑(A+1):Int)) (Z6 ((↑B:Int)=(↑B:Int)) (Z6 ((↑A:Int)=(↑A:Int)) (q1=q1/\
 Z0 q2 (Z6 (lo<=lo) (Z0 q2 (Zo 1 [] n (Zl (IsP.L q 0)) (Zl L0)/\
 IsP.Ok q n A B/\
 ∀(i:Nat),
 let q7:=Z0 q2 (Zo 1 [] n (Zl L1) (Zl (IsP.L q i))/\True);
 i<=q3->(∀(j:Nat),j<i->(fun (t:Nat)=>t<q3) j)->(i=q3->q7)/\(False->q7)/\(False->False)))))))) (by kernel_rfl) ?_
 conv=>zeta
 try simp only [vcA]
 try simp only [vcB]
 try simp only [vcC]
 refine ⟨by rw [w64 (by have:=hq.hn;have:=hq.hA;have:=hq.le;omega)];omega,Y7 (fun _ _=>by rw [hL,q.L0]),hq,fun i hi hg=>⟨fun he=> ?_,fun h=>h.elim,fun h=>h.elim⟩⟩
 subst he
 exact Y7 fun _ _=>by rw [hL1,q.LN]
def isF:ZN:=fun args h K=>match args with
 | .nslice p esz len lo::r=>frA [p.blk] h 20 (.nslice p esz len lo::r) fun Bs a=>match Bs,a with
  | [.rows 134 m f],[.nslice ⟨0,0,134,0,0⟩ 134 n lo,.int .i64 A,.int .i64 B,.func (.func 241) [] [.pview [.vrows 1 5 g 5] 0]]=>∃(q:IsP) (a b:Nat),(m=n/\A=(a:Int)/\B=(b:Int))/\q.Ok n a b/\g=Y9 byL 0 1/\f=Zl q.all/\K (.ret (.tuple [])) ⟨h.next,(p.blk,.rows 134 n (Zl q.done))::Yl h.bs p.blk⟩
  | _,_=>False
 | _=>False
theorem Zj5 (args:List AV) (h:Z8) (K:KO) (hl:isF args h K):Ze PP 293 args h K:=by
 unfold isF at hl
 split at hl
 ·rename_i p esz len lo r
  refine Spec.fsumm (σ:=[p.blk]) (d:=20) hl fun Bs a₀ hlen h0=> ?_
  split at h0
  ·obtain ⟨q,a,b,⟨rfl,rfl,rfl⟩,hq,rfl,rfl,hK⟩:=h0
   exact ⟨_,_,_,_,_,.evM (Zgo _ _ _ _ _) (Zlz q _ _ a b _ _ hq rfl rfl),J4 1,.ret _ _ rfl,.cons 0 _ _ _ _ _ rfl (.rows _ _ _ fun i _=>Xo _ i) .nil,hK⟩
  ·exact h0.elim
 ·exact hl.elim
def noF:ZN:=fun _ _ _=>False
theorem Zj6 {f:FuncId} (args:List AV) (h:Z8) (K:KO) (hl:noF args h K):Ze PP f args h K:=hl.elim
noncomputable def Z8N:Zd:=(G0.withF 293 isF).withF 294 noF
theorem Z9V:Z8N.Ok:=Zd.withF_ok (Zd.withF_ok Zm Zj5) Zj6
def ssT (n lo:Nat) (l:ZW):ZW:=l++[(2,Zgj),(1,.int .i64 n),(0,.nslice ⟨0,0,134,0,0⟩ 134 n lo)]
def ZdL (n lo:Nat) (L:List Za):St:=⟨63,ssT n lo [(8,.int .i64 20),(7,.int .i64 0),(6,.int .i64 20)],isH n L,[]⟩
def Z5N (n lo:Nat) (L:List Za):St:=⟨63,ssT n lo [(7,.int .i64 0),(6,.int .i64 20)],isH n L,[]⟩
def ZdM (n lo:Nat) (L:List Za):St:=⟨63,ssT n lo [(6,.int .i64 20)],isH n L,[]⟩
def Z5O (n lo:Nat) (L:List Za):St:=⟨63,[],isH n L,[]⟩
theorem Zng (n lo:Nat) (L:List Za) (Z:Prop) (hn:n<20) (hZ:Z):
  ZC Z8N 20 276 0 1 (ZdL n lo L) (rdM 1 0 9 (ZdL n lo L) (Z5N n lo L) (Z5N n lo L) (Z5N n lo L) False Z False False):=by
 refine @Eq.mpr _ (let q1:=Y9 byL 0 1;let q2:=Zl L;let q3:=[AV.vrows 1 5 q1 5];let q4:=decide (n=n);
 Z7 (decide (20<=(↑n:Int))) ((∀(i:Nat),i<n->true=true)/\∃(q:IsP),∃(a:Nat),∃(b:Nat),(n=n/\0=(↑a:Int)/\20=(↑b:Int))/\IsP.Ok q n a b/\q1=q1/\q2=Zl (IsP.all q)/\False) (q3=q3/\Z6 ((↑n:Int)=(↑n:Int)) (Z0 q4 (Z6 (lo<=lo) (Z0 q4 (Zo 1 [] n q2 q2/\Z)))))) (by kernel_rfl) ?_
 conv=>zeta
 try simp only [vcA]
 try simp only [vcB]
 try simp only [vcC]
 exact ⟨fun h=>by omega,fun _=>⟨Y7 fun _ _=>rfl,hZ⟩⟩
theorem Znh (n lo:Nat) (L:List Za) (Z:Prop) (hn:n<20) (hZ:Z):
  ZC Z8N 20 276 2 1 (ZdM n lo L) (rdM 1 2 9 (ZdM n lo L) (Z5O n lo L) (Z5O n lo L) (Z5O n lo L) False Z False False):=by
 refine @Eq.mpr _ (Z7 (decide (20<(↑n:Int))) (Z7 (decide (40<=(↑n:Int))) False (Z7 (decide (20<(↑n:Int))) False False)) (Z6 (n=n) (Zo 1 [] n (Zl L) (Zl L)/\Z))) (by kernel_rfl) ?_
 try simp only [vcA]
 try simp only [vcB]
 try simp only [vcC]
 exact ⟨fun h=>absurd h (by omega),fun _=>⟨Y7 fun _ _=>rfl,hZ⟩⟩
noncomputable def ZlA (n lo:Nat) (L L1:List Za):Zd:=(Z8N.withL 276 0 (goM 1 (ZdL n lo L) (n<20) (Yu 0 0 9 (fun _=>False) (fun _=>True) (fun _=>False) (fun _=>False) (fun _=>Z5N n lo L) (fun _=>Z5N n lo L) (fun _=>Z5N n lo L)))).withL 276 2 (goM 1 (ZdM n lo L1) (n<20) (Yu 2 0 9 (fun _=>False) (fun _=>True) (fun _=>False) (fun _=>False) (fun _=>Z5O n lo L1) (fun _=>Z5O n lo L1) (fun _=>Z5O n lo L1)))
theorem Zgp (n lo:Nat) (L L1:List Za):(ZlA n lo L L1).Ok:=by
 have h0:(Z8N.withL 276 0 _).Ok:=Zd.withGoM (N:=20) (S:=fun _=>ZdL n lo L) (S0:=ZdL n lo L) (C:=n<20) (n:=0) (l:=9) (go:=fun _=>False) (ex:=fun _=>True) (re:=fun _=>False) (jm:=fun _=>False) (En:=fun _=>Z5N n lo L) (Rn:=fun _=>Z5N n lo L) (Jn:=fun _=>Z5N n lo L) Z9V (by kernel_rfl) fun hC=>⟨rfl,fun t _ _=>(by
  have:=Zng n lo L True hC trivial
  simpa only [false_and] using this)⟩
 have h2:(Z8N.withL 276 2 _).Ok:=Zd.withGoM (N:=20) (S:=fun _=>ZdM n lo L1) (S0:=ZdM n lo L1) (C:=n<20) (n:=0) (l:=9) (go:=fun _=>False) (ex:=fun _=>True) (re:=fun _=>False) (jm:=fun _=>False) (En:=fun _=>Z5O n lo L1) (Rn:=fun _=>Z5O n lo L1) (Jn:=fun _=>Z5O n lo L1) Z9V (by kernel_rfl) fun hC=>⟨rfl,fun t _ _=>(by
  have:=Znh n lo L1 True hC trivial
  simpa only [false_and] using this)⟩
 exact Zd.withL_join (H:=Z8N) h0 rfl h2
theorem Zni (n lo:Nat) (L L1:List Za) (hn:n<20) (hl:L.length=n) (hok:∀m∈L,m.Ok) (hL:L1=ZR L):
  evF (ZlA n lo L L1) 20 240 [.nslice ⟨0,0,134,0,0⟩ 134 n lo,Zgj] (isH n L) (ZF 1 (.ret (.tuple [])) 1 [(0,.rows 134 n (Zl L1))]):=by
 refine @Eq.mpr _ (let q1:=Y9 byL 0 1;let q2:=[AV.vrows 1 5 q1 5];let q3:=q2=q2;let q4:=decide ((↑n:Int)=(↑n:Int));let q5:=decide (n=n);let q6:=decide (lo<=lo);let q7:=Zl L;let q8:=Zl L1;let q9:=Z0 q5 (Zo 1 [] n q8 q8/\True);
 q3/\Z0 q4 (Z0 q5 (Z0 q6 (Z0 q5 (Zo 1 [] n q7 q7/\n<20/\∀(i:Nat),i<=0->(∀(j:Nat),j<i->(fun (x:Nat)=>False) j)->(True->(∀(i:Nat),i<n->true=true)/\∃(q:IsP),∃(a:Nat),∃(b:Nat),(n=n/\0=(↑a:Int)/\(↑n:Int)=(↑b:Int))/\IsP.Ok q n a b/\q1=q1/\q7=Zl (IsP.all q)/\q3/\Z0 q4 (Z0 q5 (Z0 q6 (Z0 q5 (Zo 1 [] n q8 (Zl (IsP.done q))/\n<20/\∀(i:Nat),i<=0->(∀(j:Nat),j<i->(fun (x:Nat)=>False) j)->(True->q9)/\(False->q9)/\(False->False))))))/\(False->Z0 q5 (Zo 1 [] n q8 q7/\True))/\(False->False)))))) (by kernel_rfl) ?_
 conv=>zeta
 try simp only [vcA]
 try simp only [vcB]
 try simp only [vcC]
 refine ⟨Y7 fun _ _=>rfl,hn,fun i _ _=>⟨fun _=>⟨fun _ _=>trivial,⟨[],L,[]⟩,0,n,⟨rfl,rfl⟩,⟨by simp [hl],rfl,by simp [hl],by omega,fun m hm=>hok m (by simpa [IsP.all] using hm)⟩,by simp [IsP.all],Y7 fun _ _=>by simp [IsP.done,hL],hn,fun j _ _=>⟨fun _=>Y7 fun _ _=>rfl,fun h=>h.elim,fun h=>h.elim⟩⟩,fun h=>h.elim,fun h=>h.elim⟩⟩
def stF:ZN:=fun args h K=>match args with
 | .nslice p esz len lo::r=>frA [p.blk] h 20 (.nslice p esz len lo::r) fun Bs a=>match Bs,a with
  | [.rows 134 m f],[.nslice ⟨0,0,134,0,0⟩ 134 n lo,.func (.func 241) [] [.pview [.vrows 1 5 g 5] 0]]=>∃(L:List Za),(m=n/\n<20/\L.length=n)/\(∀m∈L,m.Ok)/\g=Y9 byL 0 1/\f=Zl L/\K (.ret (.tuple [])) ⟨h.next,(p.blk,.rows 134 n (Zl (ZR L)))::Yl h.bs p.blk⟩
  | _,_=>False
 | _=>False
theorem Zj7 (args:List AV) (h:Z8) (K:KO) (hl:stF args h K):Ze PP 240 args h K:=by
 unfold stF at hl
 split at hl
 ·rename_i p esz len lo r
  refine Spec.fsumm (σ:=[p.blk]) (d:=20) hl fun Bs a₀ hlen h0=> ?_
  split at h0
  ·obtain ⟨L,⟨rfl,hn,hll⟩,hok,rfl,rfl,hK⟩:=h0
   exact ⟨_,_,_,_,_,.evM (Zgp _ _ _ _) (Zni _ _ L _ hn hll hok rfl),J4 1,.ret _ _ rfl,.cons 0 _ _ _ _ _ rfl (.rows _ _ _ fun i _=>Xo _ i) .nil,hK⟩
  ·exact h0.elim
 ·exact hl.elim
noncomputable def ZlB:Zd:=G0.withF 240 stF
theorem Zgq:ZlB.Ok:=Zd.withF_ok Zm Zj7
theorem ZlC (n lo:Nat) (L L1:List Za) (hn:n<20) (hl:L.length=n) (hok:∀m∈L,m.Ok) (hL:L1=ZR L):
  evF ZlB 20 88 [.nslice ⟨0,0,134,0,0⟩ 134 n lo] (isH n L) (ZF 1 (.ret (.nslice ⟨0,0,134,0,0⟩ 134 n lo)) 1 [(0,.rows 134 n (Zl L1))]):=by
 refine @Eq.mpr _ (let q1:=decide (n=n);
 (∀(i:Nat),i<n->true=true)/\∃(L_1:List Za),(n=n/\n<(20:Nat)/\List.length L_1=n)/\(∀(m:Za),List.Mem m L_1->Za.Ok m)/\Y9 [AV.func (Fn.func (170:Nat)) [] [],AV.func (Fn.func (172:Nat)) [] [],AV.func (Fn.func (174:Nat)) [] [],AV.func (Fn.func (175:Nat)) [] [],AV.func (Fn.func (176:Nat)) [] []] (0:Nat) (1:Nat)=Y9 byL (0:Nat) (1:Nat)/\Zl L=Zl L_1/\Z0 q1 (Z6 (lo<=lo) (Z0 q1 (Zo (1:Nat) [] n (Zl L1) (Zl (ZR L_1))/\True)))) (by kernel_rfl) ?_
 conv=>zeta
 try simp only [vcA]
 try simp only [vcB]
 try simp only [vcC]
 exact ⟨fun _ _=>trivial,L,⟨hn,hl⟩,hok,rfl,rfl,Y7 fun _ _=>by rw [hL]⟩
theorem Znj (X:Nat) (hn:X=X):
  evF G0 20 88 [.nilslice] ⟨0,[]⟩ (ZF 0 (.ret .nilslice) 0 []):=by
 refine @Eq.mpr _ (True) (by kernel_rfl) ?_
 trivial
def orF:ZN:=fun args h K=>match args with
 | [.nilslice]=>K (.ret .nilslice) h
 | [.nslice p esz len lo]=>frA [p.blk] h 20 [.nslice p esz len lo] fun Bs a=>match Bs,a with
  | [.rows 134 m f],[.nslice ⟨0,0,134,0,0⟩ 134 n lo]=>∃(L:List Za),(m=n/\n<20/\L.length=n)/\(∀m∈L,m.Ok)/\(∀i,i<n->f i=Zl L i)/\K (.ret (.nslice ⟨p.blk,0,134,0,0⟩ 134 n lo)) ⟨h.next,(p.blk,.rows 134 n (Zl (ZR L)))::Yl h.bs p.blk⟩
  | _,_=>False
 | _=>False
theorem Zj8 (args:List AV) (h:Z8) (K:KO) (hl:orF args h K):Ze PP 88 args h K:=by
 unfold orF at hl
 split at hl
 ·exact (Zs.evM Zm (Znj 0 rfl)).calls (fun E w rs he hr=>by
   cases hr with
   | cons v r vs rs h1 h2=>cases h2;exact .cons _ _ _ _ (h1.plain rfl) .nil) rfl trivial hl
 ·rename_i p esz len lo
  refine Spec.fsumm (σ:=[p.blk]) (d:=20) hl fun Bs a₀ hlen h0=> ?_
  split at h0
  ·obtain ⟨L,⟨rfl,hn,hll⟩,hok,hf,hK⟩:=h0
   exact ⟨_,_,_,_,_,.rows hf (.evM Zgq (ZlC _ _ L _ hn hll hok rfl)),J4 1,.ret _ _ rfl,.cons 0 _ _ _ _ _ rfl (.rows _ _ _ fun i _=>Xo _ i) .nil,hK⟩
  ·exact h0.elim
 ·exact hl.elim
structure Za.Okb (m:Za):Prop where
 ok:m.Ok
 hb:Bytes m.o.hash
theorem Znk (a b:Za) (r:Bool) (ha:a.Okb) (hb:b.Okb) (hr:r=ltM a b):
  evF (G0.withP 204 ZdD) 20 205 [.agg a.c,.agg b.c] ⟨0,[]⟩ (XR (fun v=>v=.bool r)):=by
 refine @Eq.mpr _ (let q1:=a.o;let q2:=q1.amount;let q3:=b.o;let q4:=q3.amount;let q5:=AV.bool r;let q6:=q1.kind;let q7:=q3.kind;let q8:=q1.expiry;let q9:=q3.expiry;let q10:=q1.hash;let q11:=q3.hash;let q12:=X2 q10 q11;
 Z7 (q2 !=q4) (AV.bool (decide (q2<q4))=q5) (Z7 (q6 !=q7) (AV.bool (decide (q6<q7))=q5) (Z7 (q8 !=q9) (AV.bool (decide (q8<q9))=q5) ((List.length q10=32/\List.length q11=32)/\Bytes q10/\Bytes q11/\Z7 (q12 !=0) (AV.bool (decide (q12<0))=q5) (AV.bool (decide (a.id<b.id))=q5))))) (by kernel_rfl) ?_
 conv=>zeta
 try simp only [vcA]
 try simp only [vcB]
 try simp only [vcC]
 have h4:=Z4U (ha.ok.hash.trans hb.ok.hash.symm)
 have k1:=ha.ok.hash
 have k2:=hb.ok.hash
 have k3:=ha.hb
 have k4:=hb.hb
 subst hr
 unfold ltM
 generalize X2 a.o.hash b.o.hash=c4 at*
 generalize X7 a.o.hash=v1 at*
 generalize X7 b.o.hash=v2 at*
 refine ⟨fun h1=> ?_,fun h1=>⟨fun h2=> ?_,fun h2=>⟨fun h3=> ?_,fun h3=>⟨⟨k1,k2⟩,k3,k4,fun h5=> ?_,fun h5=> ?_⟩⟩⟩⟩
 all_goals
  simp only [bne_iff_ne,ne_eq,bne_eq_false_iff_eq] at*
  congr 1
  rw [decide_eq_decide]
  omega
def ZdN:ZH:=fun args _ K=>match args with
 | [.agg ca,.agg cb]=>∃a b,ca=Za.c a/\cb=Za.c b/\(a.Okb/\b.Okb)/\K (.bool (ltM a b))
 | _=>False
theorem ZdO (args:List AV) (h:Z8) (K:AV->Prop) (hl:ZdN args h K):Ze PP 205 args h fun o h'=>∃v,o=.ret v/\h'=h/\K v:=by
 unfold ZdN at hl
 split at hl
 ·obtain ⟨a,b,rfl,rfl,⟨h1,h2⟩,hK⟩:=hl
  exact X3 (Zd.withP_ok Zm Z9Q) rfl (Znk a b _ h1 h2 rfl) (fun u hu=>hu▸hK)
 ·exact hl.elim
def Wr (m:Za) (s:List Za×Bool) (x:Za):List Za×Bool:=match !s.2&&ltM m x with
 | true=>(s.1++[m]++[x],true)
 | false=>(s.1++[x],s.2)
def puN (m:Za) (L:List Za) (i:Nat):List Za×Bool:=(L.take i).foldl (Wr m) ([],false)
def Z9W (m:Za) (s:List Za×Bool):List Za:=match s.2 with
 | true=>s.1
 | false=>s.1++[m]
theorem Z7b (m:Za) (L:List Za) {i:Nat} (hi:i<L.length):puN m L (i+1)=Wr m (puN m L i) (L.getD i Yg):=by
 unfold puN
 rw [Kf hi,List.foldl_append,J2,Je hi]
 rfl
theorem Z7c (m:Za):∀(L O:List Za),L.foldl (Wr m) (O,true)=(O++L,true)
 | [],O=>by simp
 | x::r,O=>by
  rw [Ks]
  show List.foldl (Wr m) (O++[x],true) r=_
  rw [Z7c m r];simp
theorem Z9X (m:Za):∀(L O:List Za),Z9W m (L.foldl (Wr m) (O,false))=O++Xc ltM m L
 | [],O=>rfl
 | x::r,O=>by
  rw [Ks]
  unfold Xc
  cases h:ltM m x with
  | true=>
   have:Wr m (O,false) x=(O++[m]++[x],true):=by unfold Wr;rw [h];rfl
   rw [this,Z7c]
   simp [Z9W]
  | false=>
   have:Wr m (O,false) x=(O++[x],false):=by unfold Wr;rw [h];rfl
   rw [this,Z9X m r]
   simp
theorem Zgr (m:Za) (L:List Za):Z9W m (puN m L L.length)=Xc ltM m L:=by
 unfold puN
 rw [JE,Z9X];rfl
theorem ZjF {P:List Za} {c i:Nat} (hc:O.length=c):ZT c (Zl O) (Zl P) i=Zl (O++P) i:=by
 unfold Zl
 rcases J9 i c with h|h
 ·rw [Z22 h,J2,J2,Jb (by omega)]
 ·rw [Vj h,J2,J2,Jf (by omega),hc]
theorem Z5P (m:Za) (L:List Za):∀i,i<=L.length->(puN m L i).1.length<=i+1/\((puN m L i).2=false->(puN m L i).1.length=i)
 | 0,_=>by simp [puN]
 | i+1,h=>by
  obtain ⟨h1,h2⟩:=Z5P m L i (by omega)
  rw [Z7b m L (by omega)]
  unfold Wr
  cases hd:(puN m L i).2 with
  | true=>simp;omega
  | false=>
   have:=h2 hd
   cases ltM m (L.getD i Yg)<;>simp<;>omega
def puS (n:Nat) (L:List Za) (m:Za) (i c:Nat) (D:Bool) (O:List Za):St:=⟨42,[(7,.int .i64 i),(0,.vrows 134 n (Zl L) n),(6,.bool D),(3,.ptr (some ⟨0,0,0,0,0⟩)),(5,.nslice ⟨1,0,134,0,0⟩ 134 c c)],⟨2,[(0,.flat m.c),(1,.rows 134 c (Zl O))]⟩,[]⟩
def puE (m:Za) (c:Nat) (D:Bool) (O:List Za):St:=⟨42,[(6,.bool D),(3,.ptr (some ⟨0,0,0,0,0⟩)),(5,.nslice ⟨1,0,134,0,0⟩ 134 c c)],⟨2,[(0,.flat m.c),(1,.rows 134 c (Zl O))]⟩,[]⟩
noncomputable def E84:Zd:=G0.withP 205 ZdN
theorem Zj9:E84.Ok:=Zd.withP_ok Zm ZdO
theorem W5 {f:Nat->List AV} {x:Za} {c i:Nat} (hc:O.length=c) (hf:∀i,i<c->f i=Zl O i) (hi:i<c+1):ZT c f (Y9 (Za.c x) 0 134) i=Zl (O++[x]) i:=by
 rcases J9 i c with h|h
 ·rw [Z22 h,hf i h]
  unfold Zl
  rw [J2,J2,Jb (by omega)]
 ·have e:i=c:=by omega
  subst e
  rw [Vj (J4 _),KA]
  unfold Zl
  rw [J2,Jf (by omega),hc,KA]
  rfl
theorem Znl (n i c c1:Nat) (L O O1:List Za) (m:Za) (D D1:Bool) (Z1 Z2:Prop) (hn:n<1000) (hL:L.length=n) (hi:i<=n) (hO:O.length=c) (hci:c<=i+1) (hm:m.Okb) (hok:∀x∈L,x.Okb) (h1:i<n->Wr m (O,D) (L.getD i Yg)=(O1,D1)) (hc1:c1=O1.length) (hZ1:i<n->Z1) (hZ2:i=n->Z2):
  ZC E84 20 122 0 0 (puS n L m i c D O) (rdM 0 0 9 (puS n L m (i+1) c1 D1 O1) (puE m c D O) (puE m c D O) (puE m c D O) Z1 Z2 False False):=by
 refine @Eq.mpr _ (let q1:=decide (0<=(↑i:Int)/\(↑i:Int)<(↑n:Int));let q2:=m.o;let q3:=q2.kind;let q4:=q2.amount;let q5:=q2.owner;let q6:=q2.other;let q7:=q2.point;let q8:=q2.hash;let q9:=q2.delay;let q10:=q2.expiry;let q11:=m.id;let q12:=m.what;let q13:=[AV.int i64 q3,AV.int i64 q4,AV.arr u8 32 q5,AV.arr u8 32 q6,AV.arr u8 32 q7,AV.arr u8 32 q8,AV.int i64 q9,AV.int i64 q10,AV.int i64 q11,AV.int i64 q12];let q14:=List.getD L (Int.toNat (↑i:Int)) Yg;let q15:=q14.o;let q16:=[AV.int i64 q15.kind,AV.int i64 q15.amount,AV.arr u8 32 q15.owner,AV.arr u8 32 q15.other,AV.arr u8 32 q15.point,AV.arr u8 32 q15.hash,AV.int i64 q15.delay,AV.int i64 q15.expiry,AV.int i64 q14.id,AV.int i64 q14.what];let q17:=decide (c=c);let q18:=c+1;let q19:=decide (q18*176<=140737488355328);let q20:=q18+1;let q21:=decide (wrap i64 ((↑i:Int)+1)=(↑(i+1):Int));let q22:=decide (n=n);let q23:=Zl L=Zl L;let q24:=decide (q20=c1);let q25:=decide (q3=q3);let q26:=decide (q4=q4);let q27:=q5=q5;let q28:=q6=q6;let q29:=q7=q7;let q30:=q8=q8;let q31:=decide (q9=q9);let q32:=decide (q10=q10);let q33:=decide (q11=q11);let q34:=decide (q12=q12);let q35:=[(0,0)];let q36:=Zl O;let q37:=Y9 q16 0 134;let q38:=decide (q18=c1);let q39:=Z0 q1 (Z0 q17 (Z0 q19 (Z0 q21 (Z0 q22 (q23/\Z0 q22 (Z6 (D=D1) (Z0 q38 (Z6 (c1<=q18) (Z0 q25 (Z0 q26 (q27/\q28/\q29/\q30/\Z0 q31 (Z0 q32 (Z0 q33 (Z0 q34 (Z0 q38 (Zo 0 ((1,3)::q35) c1 (Zl O1) (ZT c q36 q37)/\Z1))))))))))))))));
 Z7 (decide ((↑i:Int)<(↑n:Int))) (Z7 (!D) (Z0 q1 (∃(a:Za),∃(b:Za),q13=Za.c a/\q16=Za.c b/\(Za.Okb a/\Za.Okb b)/\Z7 (ltM a b) (Z0 q17 (Z0 q19 (Z0 q1 (Z6 (q18=q18) (Z6 (q20*176<=140737488355328) (Z0 q21 (Z0 q22 (q23/\Z0 q22 (Z6 (true=D1) (Z0 q24 (Z6 (c1<=q20) (Z0 q25 (Z0 q26 (q27/\q28/\q29/\q30/\Z0 q31 (Z0 q32 (Z0 q33 (Z0 q34 (Z0 q24 (Zo 0 ((1,5)::q35) c1 (Zl O1) (ZT q18 (ZT c q36 (Y9 q13 0 134)) q37)/\Z1))))))))))))))))))) q39)) q39) (Z6 (D=D) (Z0 q17 (Z6 (c<=c) (Z0 q25 (Z0 q26 (q27/\q28/\q29/\q30/\Z0 q31 (Z0 q32 (Z0 q33 (Z0 q34 (Z0 q17 (Zo 0 ((1,1)::q35) c q36 q36/\Z2)))))))))))) (by kernel_rfl) ?_
 conv=>zeta
 try simp only [vcA]
 try simp only [vcB]
 try simp only [vcC]
 refine ⟨fun hc=> ?_,fun hc=>⟨Y7 fun _ _=>rfl,hZ2 (by omega)⟩⟩
 have hlt:i<n:=by omega
 have h1:=h1 hlt
 have hwr:i64.wrap ((i:Int)+1)=((i+1:Nat):Int):=by rw [w64 (by omega)];omega
 have hx:(L.getD i Yg).Okb:=hok _ (by rw [J2,Je (show i<L.length by omega)];exact Km _)
 generalize L.getD i Yg=x at*
 unfold Wr at h1
 refine ⟨fun hD=> ?_,fun hD=> ?_⟩
 ·have hD:D=false:=by simpa using hD
  refine ⟨by omega,m,x,rfl,rfl,⟨hm,hx⟩,fun hlt=> ?_,fun hlt=> ?_⟩
  ·rw [hD,hlt] at h1
   simp only [Bool.not_false,Kd,Prod.mk.injEq] at h1
   obtain ⟨h1,h2⟩:=h1
   subst h1 h2
   have hl:c1=c+1+1:=by rw [hc1];simp [hO]
   subst hl
   refine ⟨by omega,by omega,by omega,hwr,rfl,rfl,J4 _,rfl,Y7 fun j hj=> ?_,hZ1 (by omega)⟩
   exact W5 (by simp [hO]) (fun k hk=>W5 hO (fun _ _=>rfl) hk) hj
  ·rw [hD,hlt] at h1
   simp only [Bool.not_false,Ko,Prod.mk.injEq] at h1
   obtain ⟨h1,h2⟩:=h1
   subst h1 h2
   have hl:c1=c+1:=by rw [hc1];simp [hO]
   subst hl
   exact ⟨by omega,by omega,hwr,hD,rfl,J4 _,rfl,Y7 fun j hj=>W5 hO (fun _ _=>rfl) hj,hZ1 (by omega)⟩
 ·have hD:D=true:=by simpa using hD
  rw [hD] at h1
  simp only [Kx,KC,Prod.mk.injEq] at h1
  obtain ⟨h1,h2⟩:=h1
  subst h1 h2
  have hl:c1=c+1:=by rw [hc1];simp [hO]
  subst hl
  exact ⟨by omega,by omega,hwr,hD,rfl,J4 _,rfl,Y7 fun j hj=>W5 hO (fun _ _=>rfl) hj,hZ1 (by omega)⟩
structure Z8O (n:Nat) (L:List Za) (m:Za):Prop where
 hn:n<1000
 hl:L.length=n
 hm:m.Okb
 ok:∀x∈L,x.Okb
noncomputable def ZlD (n:Nat) (L:List Za) (m:Za):Zd:=E84.withL 122 0 (goM 0 (puS n L m 0 0 false []) (Z8O n L m) (Yu 0 n 9 (fun i=>i<n) (fun i=>i=n) (fun _=>False) (fun _=>False) (fun i=>puE m (puN m L i).1.length (puN m L i).2 (puN m L i).1) (fun i=>puE m (puN m L i).1.length (puN m L i).2 (puN m L i).1) (fun i=>puE m (puN m L i).1.length (puN m L i).2 (puN m L i).1)))
theorem Zgs (n:Nat) (L:List Za) (m:Za):(ZlD n L m).Ok:=
 Zd.withGoM (N:=20) (S:=fun i=>puS n L m i (puN m L i).1.length (puN m L i).2 (puN m L i).1) Zj9 (by kernel_rfl) fun hC=>⟨rfl,fun i hi _=>by
  obtain ⟨h1,h2,h3,h4⟩:=hC
  exact Znl n i _ _ L _ _ m _ _ (i<n/\i<n) (i=n) h1 h2 hi rfl (Z5P m L i (by omega)).1 h3 h4 (fun hlt=>by rw [Z7b m L (by omega)]) rfl (fun h=>⟨h,h⟩) (fun h=>h)⟩
theorem Znm (n:Nat) (L L1:List Za) (m:Za) (h:Z8O n L m) (hL1:L1=Xc ltM m L):
  evF (ZlD n L m) 20 122 [.vrows 134 n (Zl L) n,.agg m.c] ⟨0,[]⟩ (ZF 0 (.ret (.nslice ⟨0,0,134,0,0⟩ 134 (n+1) (n+1))) 1 [(0,.rows 134 (n+1) (Zl L1))]):=by
 refine @Eq.mpr _ (let q1:=decide (n=n);let q2:=m.o;let q3:=q2.kind;let q4:=q2.amount;let q5:=q2.owner;let q6:=q2.other;let q7:=q2.point;let q8:=q2.hash;let q9:=q2.delay;let q10:=q2.expiry;let q11:=m.id;let q12:=m.what;let q13:=n+1;
 Z0 q1 (Zl L=Zl L/\
 Z0 q1 (Z6 (q3=q3) (Z6 (q4=q4) (q5=q5/\
 q6=q6/\
 q7=q7/\
 q8=q8/\
 Z6 (q9=q9) (Z6 (q10=q10) (Z6 (q11=q11) (Z6 (q12=q12) (Z8O n L m/\
 ∀(i:Nat),
 let q27:=(puN m L i).fst;let q28:=List.length q27;let q29:=q28+1;let q30:=decide (q29=q13);let q31:=Zl q27;let q32:=decide (q28=q13);
 i<=n->(∀(j:Nat),j<i->(fun (i:Nat)=>i<n) j)->(i=n->Z7 (!(puN m L i).snd) (Z6 (q28=q28) (Z6 (q29*176<=140737488355328) (Z0 q30 (Z6 (q13<=q29) (Z0 q30 (Zo 0 [(0,3)] q13 (Zl L1) (ZT q28 q31 (Y9 [AV.int i64 q3,AV.int i64 q4,AV.arr u8 32 q5,AV.arr u8 32 q6,AV.arr u8 32 q7,AV.arr u8 32 q8,AV.int i64 q9,AV.int i64 q10,AV.int i64 q11,AV.int i64 q12] 0 134))/\True)))))) (Z0 q32 (Z6 (q13<=q28) (Z0 q32 (Zo 0 [(0,1)] q13 (Zl L1) q31/\True)))))/\(False->False)/\(False->False)))))))))) (by kernel_rfl) ?_
 conv=>zeta
 try simp only [vcA]
 try simp only [vcB]
 try simp only [vcC]
 refine ⟨h,fun i hi _=>⟨fun he=> ?_,fun h=>h.elim,fun h=>h.elim⟩⟩
 subst he
 have hfin:=Zgr m L
 obtain ⟨g1,g2⟩:=Z5P m L i (by rw [h.hl];exact J4 _)
 rw [h.hl] at hfin
 have hn:=h.hn
 have hl1:L1.length=i+1:=by rw [hL1,Z3E,h.hl]
 unfold Z9W at hfin
 refine ⟨fun hD=> ?_,fun hD=> ?_⟩
 ·have hD:(puN m L i).2=false:=by simpa using hD
  rw [hD] at hfin
  simp only at hfin
  have hl:=g2 hD
  exact ⟨by omega,by omega,by omega,by omega,Y7 fun j hj=>by rw [hL1,<-hfin];exact W5 rfl (fun _ _=>rfl) (by omega)⟩
 ·have hD:(puN m L i).2=true:=by simpa using hD
  rw [hD] at hfin
  simp only at hfin
  rw [hfin]
  rw [hL1] at hl1
  exact ⟨by omega,by omega,by omega,Y7 fun j hj=>by rw [hL1]⟩
theorem Znn (m:Za) (L1:List Za) (hL:L1=[m]):
  evF G0 20 122 [.nilslice,.agg m.c] ⟨0,[]⟩ (ZF 0 (.ret (.nslice ⟨0,0,134,0,0⟩ 134 1 1)) 1 [(0,.rows 134 1 (Zl L1))]):=by
 refine @Eq.mpr _ (let q1:=m.o;
 Zo 0 [(0,2)] 1 (Zl L1) (ZT 0 (fun (x:Nat)=>[]) (Y9 [AV.int i64 q1.kind,AV.int i64 q1.amount,AV.arr u8 32 q1.owner,AV.arr u8 32 q1.other,AV.arr u8 32 q1.point,AV.arr u8 32 q1.hash,AV.int i64 q1.delay,AV.int i64 q1.expiry,AV.int i64 m.id,AV.int i64 m.what] 0 134))/\True) (by kernel_rfl) ?_
 conv=>zeta
 try simp only [vcA]
 try simp only [vcB]
 try simp only [vcC]
 refine Y7 fun i hi=> ?_
 subst hL
 have e:i=0:=by omega
 subst e
 rfl
def puF:ZN:=fun args h K=>ZA none h true 20 args fun a=>match a with
 | [.nilslice,.agg cm]=>∃m,cm=Za.c m/\K (.ret (.nslice ⟨h.next,0,134,0,0⟩ 134 1 1)) ⟨h.next+1,(h.next,.rows 134 1 (Zl (Xc ltM m [])))::h.bs⟩
 | [.vrows 134 n f n',.agg cm]=>∃L m,n'=n/\f=Zl L/\cm=Za.c m/\Z8O n L m/\K (.ret (.nslice ⟨h.next,0,134,0,0⟩ 134 (n+1) (n+1))) ⟨h.next+1,(h.next,.rows 134 (n+1) (Zl (Xc ltM m L)))::h.bs⟩
 | _=>False
theorem Zja (args:List AV) (h:Z8) (K:KO) (hl:puF args h K):Ze PP 122 args h K:=by
 refine Zs.fsumm (d:=20) (Zk _ _ _ _ _ hl fun a ha=> ?_)
 split at ha
 ·obtain ⟨m,rfl,hK⟩:=ha
  exact ⟨_,_,_,_,.evM Zm (Znn m _ rfl),rfl,⟨JN,.rows _ _ _ (fun i _=>Xo _ i),trivial⟩,hK⟩
 ·obtain ⟨L,m,rfl,rfl,rfl,hp,hK⟩:=ha
  exact ⟨_,_,_,_,.evM (Zgs _ L m) (Znm _ L _ m hp rfl),rfl,⟨JN,.rows _ _ _ (fun i _=>Xo _ i),trivial⟩,hK⟩
 ·exact ha.elim
def Z0d (t:Zj):InS:=⟨t.fund,t.index,1,Z5,Z5,Z5⟩
def ZV (L:List Za):Nat->ZE:=fun i=>(L.getD i Yg).o
def txZ:List AV:=[.int .i64 0,.nilslice,.nilslice]
def mxH (t:Zj) (num:Int) (L:List Za) (i:Nat):Z8:=⟨4,[(0,.flat txZ),(1,.flat (InS.c (Z0d t))),(2,.flat [.int .i64 num,.nslice ⟨1,0,0,0,0⟩ 130 1 1,.nslice ⟨3,0,132,0,0⟩ 132 i i]),(3,.rows 132 i (Zf (ZV L)))]⟩
def mxS (t:Zj) (num:Int) (L:List Za) (n i:Nat):St:=⟨40,[(27,.int .i64 i),(26,.int .i64 n),(25,.vrows 134 n (Zl L) n),(8,.ptr (some ⟨2,0,0,0,0⟩)),(6,.ptr (some ⟨0,0,0,0,0⟩))],mxH t num L i,[]⟩
def mxE (t:Zj) (num:Int) (L:List Za) (i:Nat):St:=⟨40,[(8,.ptr (some ⟨2,0,0,0,0⟩)),(6,.ptr (some ⟨0,0,0,0,0⟩))],mxH t num L i,[]⟩
def Zgt (t:Zj) (num:Int) (L:List Za) (n i:Nat):St:=⟨39,[(9,.int .i64 i),(2,.vrows 134 n (Zl L) n),(8,.ptr (some ⟨2,0,0,0,0⟩)),(6,.ptr (some ⟨0,0,0,0,0⟩))],mxH t num L i,[]⟩
def Zbi (t:Zj) (num:Int) (L:List Za) (i:Nat):St:=⟨39,[(8,.ptr (some ⟨2,0,0,0,0⟩)),(6,.ptr (some ⟨0,0,0,0,0⟩))],mxH t num L i,[]⟩
theorem Z3G {L:List Za} {i j:Nat} (hj:j<i+1):ZT i (Zf (ZV L)) (Y9 (ZE.c (L.getD i Yg).o) 0 132) j=(ZV L j).c:=by
 rcases J9 j i with h|h
 ·rw [Z22 h];rfl
 ·have e:j=i:=by omega
  subst e
  rw [Vj (J4 _),KA]
  rfl
theorem Zno (t:Zj) (num:Int) (L:List Za) (n i:Nat) (Z1 Z2:Prop) (hn:n<1000) (hi:i<=n) (h1:i<n->Z1) (h2:i=n->Z2):
  ZC G0 20 87 0 0 (mxS t num L n i) (rdM 0 0 9 (mxS t num L n (i+1)) (mxE t num L i) (mxE t num L i) (mxE t num L i) Z1 Z2 False False):=by
 refine @Eq.mpr _ (let q1:=decide (i=i);let q2:=i+1;let q3:=decide (n=n);let q4:=Z0d t;let q5:=q4.name;let q6:=q5=q5;let q7:=q4.index;let q8:=decide (q7=q7);let q9:=q4.tag;let q10:=q9=q9;let q11:=q4.also;let q12:=q11=q11;let q13:=q4.secret;let q14:=q13=q13;let q15:=decide (num=num);let q16:=decide (q2=q2);let q17:=[(1,1),(0,0),(2,2)];let q18:=Zf (ZV L);let q19:=(List.getD L (Int.toNat (↑i:Int)) Yg).o;
 Z7 (decide ((↑i:Int)<(↑n:Int))) (Z6 (0<=(↑i:Int)/\(↑i:Int)<(↑n:Int)) (Z0 q1 (Z6 (q2*160<=140737488355328) (Z6 (wrap i64 ((↑i:Int)+1)=(↑q2:Int)) (Z6 ((↑n:Int)=(↑n:Int)) (Z0 q3 (Zl L=Zl L/\Z0 q3 (q6/\Z0 q8 (q10/\q12/\q14/\Z0 q15 (Z0 q16 (Z6 (q2<=q2) (Z0 q16 (Zo 0 ((3,6)::q17) q2 q18 (ZT i q18 (Y9 [AV.int i64 q19.kind,AV.int i64 q19.amount,AV.arr u8 32 q19.owner,AV.arr u8 32 q19.other,AV.arr u8 32 q19.point,AV.arr u8 32 q19.hash,AV.int i64 q19.delay,AV.int i64 q19.expiry] 0 132))/\Z1))))))))))))) (q6/\Z0 q8 (q10/\q12/\q14/\Z0 q15 (Z0 q1 (Z6 (i<=i) (Z0 q1 (Zo 0 ((3,3)::q17) i q18 q18/\Z2))))))) (by kernel_rfl) ?_
 conv=>zeta
 try simp only [vcA]
 try simp only [vcB]
 try simp only [vcC]
 refine ⟨fun hc=> ?_,fun hc=>⟨ZK fun _ _=>rfl,h2 (by omega)⟩⟩
 exact ⟨by omega,by omega,by rw [w64 (by omega)];omega,ZK fun j hj=>Z3G hj,h1 (by omega)⟩
theorem ZlE (t:Zj) (num:Int) (L:List Za) (n i:Nat) (Z1 Z2:Prop) (hn:n<1000) (hi:i<=n) (h1:i<n->Z1) (h2:i=n->Z2):
  ZC G0 20 123 0 0 (Zgt t num L n i) (rdM 0 0 9 (Zgt t num L n (i+1)) (Zbi t num L i) (Zbi t num L i) (Zbi t num L i) Z1 Z2 False False):=by
 refine @Eq.mpr _ (let q1:=decide (i=i);let q2:=i+1;let q3:=decide (n=n);let q4:=Z0d t;let q5:=q4.name;let q6:=q5=q5;let q7:=q4.index;let q8:=decide (q7=q7);let q9:=q4.tag;let q10:=q9=q9;let q11:=q4.also;let q12:=q11=q11;let q13:=q4.secret;let q14:=q13=q13;let q15:=decide (num=num);let q16:=decide (q2=q2);let q17:=[(1,1),(0,0),(2,2)];let q18:=Zf (ZV L);let q19:=(List.getD L (Int.toNat (↑i:Int)) Yg).o;
 Z7 (decide ((↑i:Int)<(↑n:Int))) (Z6 (0<=(↑i:Int)/\(↑i:Int)<(↑n:Int)) (Z0 q1 (Z0 q1 (Z0 q1 (Z6 (q2*160<=140737488355328) (Z6 (wrap i64 ((↑i:Int)+1)=(↑q2:Int)) (Z0 q3 (Zl L=Zl L/\Z0 q3 (q6/\Z0 q8 (q10/\q12/\q14/\Z0 q15 (Z0 q16 (Z6 (q2<=q2) (Z0 q16 (Zo 0 ((3,5)::q17) q2 q18 (ZT i q18 (Y9 [AV.int i64 q19.kind,AV.int i64 q19.amount,AV.arr u8 32 q19.owner,AV.arr u8 32 q19.other,AV.arr u8 32 q19.point,AV.arr u8 32 q19.hash,AV.int i64 q19.delay,AV.int i64 q19.expiry] 0 132))/\Z1)))))))))))))) (q6/\Z0 q8 (q10/\q12/\q14/\Z0 q15 (Z0 q1 (Z6 (i<=i) (Z0 q1 (Zo 0 ((3,3)::q17) i q18 q18/\Z2))))))) (by kernel_rfl) ?_
 conv=>zeta
 try simp only [vcA]
 try simp only [vcB]
 try simp only [vcC]
 refine ⟨fun hc=> ?_,fun hc=>⟨ZK fun _ _=>rfl,h2 (by omega)⟩⟩
 exact ⟨by omega,by omega,by rw [w64 (by omega)];omega,ZK fun j hj=>Z3G hj,h1 (by omega)⟩
noncomputable def E85 (t:Zj) (num:Int) (L:List Za) (n:Nat):Zd:=G0.withL 87 0 (goM 0 (mxS t num L n 0) (n<1000) (Yu 0 n 9 (fun i=>i<n) (fun i=>i=n) (fun _=>False) (fun _=>False) (fun i=>mxE t num L i) (fun i=>mxE t num L i) (fun i=>mxE t num L i)))
theorem Zjb (t:Zj) (num:Int) (L:List Za) (n:Nat):(E85 t num L n).Ok:=
 Zd.withGoM (N:=20) (S:=fun i=>mxS t num L n i) Zm (by kernel_rfl) fun hC=>⟨rfl,fun i hi _=>Zno t num L n i _ _ hC hi (fun h=>⟨h,h⟩) (fun h=>h)⟩
noncomputable def ZlF (t:Zj) (num:Int) (L:List Za) (n:Nat):Zd:=G0.withL 123 0 (goM 0 (Zgt t num L n 0) (n<1000) (Yu 0 n 9 (fun i=>i<n) (fun i=>i=n) (fun _=>False) (fun _=>False) (fun i=>Zbi t num L i) (fun i=>Zbi t num L i) (fun i=>Zbi t num L i)))
theorem Zgu (t:Zj) (num:Int) (L:List Za) (n:Nat):(ZlF t num L n).Ok:=
 Zd.withGoM (N:=20) (S:=fun i=>Zgt t num L n i) Zm (by kernel_rfl) fun hC=>⟨rfl,fun i hi _=>ZlE t num L n i _ _ hC hi (fun h=>⟨h,h⟩) (fun h=>h)⟩
theorem Znp (t:Zj) (num:Int) (L:List Za) (n:Nat) (hn:n<1000) (h0:n≠0):
  evF (E85 t num L n) 20 87 [.agg t.c,.int .i64 num,.vrows 134 n (Zl L) n] ⟨0,[]⟩ (ZF 0 (.ret (.tuple [.agg [.int .i64 num,.nslice ⟨0,0,0,0,0⟩ 130 1 1,.nslice ⟨1,0,132,0,0⟩ 132 n n],.int .i64 0])) 2 [(0,.flat (InS.c (Z0d t))),(1,.rows 132 n (Zf (ZV L)))]):=by
 refine @Eq.mpr _ (let q1:=decide (n=n);let q2:=Z0d t;let q3:=q2.name;let q4:=q2.index;let q5:=q2.tag;let q6:=q2.also;let q7:=q2.secret;let q8:=decide (num=num);let q9:=Zf (ZV L);
 Z7 ((↑n:Int)==0) (Z7 (decide (0=num)) False False) (Z6 ((↑n:Int)=(↑n:Int)) (Z0 q1 (Zl L=Zl L/\
 Z0 q1 (t.fund=q3/\
 Z6 (t.index=q4) (Z5=q5/\
 Z5=q6/\
 Z5=q7/\
 Z0 q8 (n<1000/\
 ∀(i:Nat),
 let q19:=decide (i=n);
 i<=n->(∀(j:Nat),j<i->(fun (i:Nat)=>i<n) j)->(i=n->Z0 q8 (Z0 q19 (Z6 (n<=i) (q3=q3/\Z6 (q4=q4) (q5=q5/\q6=q6/\q7=q7/\Z0 q19 (Zo 0 [(1,3),(0,1)] n q9 q9/\True))))))/\(False->False)/\(False->False)))))))) (by kernel_rfl) ?_
 conv=>zeta
 try simp only [vcA]
 try simp only [vcB]
 try simp only [vcC]
 refine ⟨fun h=> ?_,fun _=>⟨rfl,rfl,rfl,rfl,rfl,hn,fun i hi _=>⟨fun he=> ?_,fun h=>h.elim,fun h=>h.elim⟩⟩⟩
 ·have:(n:Int)=0:=by simpa using h
  omega
 ·subst he
  exact ⟨rfl,J4 _,rfl,ZK fun _ _=>rfl⟩
theorem Znq (t:Zj) (num:Int) :
  evF G0 20 87 [.agg t.c,.int .i64 num,.nilslice] ⟨0,[]⟩ (ZF 0 (.ret (.tuple [.agg txZ,.int .i64 180])) 0 []):=by
 refine @Eq.mpr _ (True) (by kernel_rfl) ?_
 trivial
theorem ZlG (t:Zj) (num:Int) (L:List Za) (n:Nat) (hn:n<1000) (h0:n≠0):
  evF (ZlF t num L n) 20 123 [.agg t.c,.int .i64 num,.vrows 134 n (Zl L) n] ⟨0,[]⟩ (ZF 0 (.ret (.tuple [.agg [.int .i64 num,.nslice ⟨0,0,0,0,0⟩ 130 1 1,.nslice ⟨1,0,132,0,0⟩ 132 n n],.int .i64 0])) 2 [(0,.flat (InS.c (Z0d t))),(1,.rows 132 n (Zf (ZV L)))]):=by
 refine @Eq.mpr _ (let q1:=decide (n=n);let q2:=Z0d t;let q3:=q2.name;let q4:=q2.index;let q5:=q2.tag;let q6:=q2.also;let q7:=q2.secret;let q8:=decide (num=num);let q9:=Zf (ZV L);
 Z7 ((↑n:Int)==0) (Z7 (decide (0=num)) False False) (Z0 q1 (Zl L=Zl L/\
 Z0 q1 (t.fund=q3/\
 Z6 (t.index=q4) (Z5=q5/\
 Z5=q6/\
 Z5=q7/\
 Z0 q8 (n<1000/\
 ∀(i:Nat),
 let q19:=decide (i=n);
 i<=n->(∀(j:Nat),j<i->(fun (i:Nat)=>i<n) j)->(i=n->Z0 q8 (Z0 q19 (Z6 (n<=i) (q3=q3/\Z6 (q4=q4) (q5=q5/\q6=q6/\q7=q7/\Z0 q19 (Zo 0 [(1,3),(0,1)] n q9 q9/\True))))))/\(False->False)/\(False->False))))))) (by kernel_rfl) ?_
 conv=>zeta
 try simp only [vcA]
 try simp only [vcB]
 try simp only [vcC]
 refine ⟨fun h=> ?_,fun _=>⟨rfl,rfl,rfl,rfl,rfl,hn,fun i hi _=>⟨fun he=> ?_,fun h=>h.elim,fun h=>h.elim⟩⟩⟩
 ·have:(n:Int)=0:=by simpa using h
  omega
 ·subst he
  exact ⟨rfl,J4 _,rfl,ZK fun _ _=>rfl⟩
theorem ZlH (t:Zj) (num:Int) :
  evF G0 20 123 [.agg t.c,.int .i64 num,.nilslice] ⟨0,[]⟩ (ZF 0 (.ret (.tuple [.agg txZ,.int .i64 180])) 0 []):=by
 refine @Eq.mpr _ (True) (by kernel_rfl) ?_
 trivial
def mxF:ZN:=fun args h K=>ZA none h true 20 args fun a=>match a with
 | [.agg [.arr .u8 32 fu,.int .i64 ix,.int .i64 ca,.int .i64 du,.int .i64 fe,.int .i64 de,.arr .u8 32 k0,.arr .u8 32 k1],.int .i64 num,.nilslice]=>K (.ret (.tuple [.agg txZ,.int .i64 180])) h
 | [.agg [.arr .u8 32 fu,.int .i64 ix,.int .i64 ca,.int .i64 du,.int .i64 fe,.int .i64 de,.arr .u8 32 k0,.arr .u8 32 k1],.int .i64 num,.vrows 134 n f n']=>∃L,n'=n/\f=Zl L/\(n<1000/\n≠0)/\K (.ret (.tuple [.agg [.int .i64 num,.nslice ⟨h.next,0,0,0,0⟩ 130 1 1,.nslice ⟨h.next+1,0,132,0,0⟩ 132 n n],.int .i64 0])) ⟨h.next+2,(h.next,.flat (InS.c ⟨fu,ix,1,Z5,Z5,Z5⟩))::(h.next+1,.rows 132 n (Zf (ZV L)))::h.bs⟩
 | _=>False
theorem ZlI (args:List AV) (h:Z8) (K:KO) (hl:mxF args h K):Ze PP 87 args h K:=by
 refine Zs.fsumm (d:=20) (Zk _ _ _ _ _ hl fun a ha=> ?_)
 split at ha
 ·exact ⟨_,_,_,_,.evM Zm (Znq ⟨_,_,_,_,_,_,_,_⟩ _),rfl,trivial,ha⟩
 ·obtain ⟨L,rfl,rfl,⟨h1,h2⟩,hK⟩:=ha
  exact ⟨_,_,_,_,.evM (Zjb _ _ _ _) (Znp ⟨_,_,_,_,_,_,_,_⟩ _ L _ h1 h2),rfl,⟨by decide,.flat _ rfl,by decide,.rows _ _ _ (fun i _=>(ZV L i).plainC),trivial⟩,hK⟩
 ·exact ha.elim
theorem Zjc (args:List AV) (h:Z8) (K:KO) (hl:mxF args h K):Ze PP 123 args h K:=by
 refine Zs.fsumm (d:=20) (Zk _ _ _ _ _ hl fun a ha=> ?_)
 split at ha
 ·exact ⟨_,_,_,_,.evM Zm (ZlH ⟨_,_,_,_,_,_,_,_⟩ _),rfl,trivial,ha⟩
 ·obtain ⟨L,rfl,rfl,⟨h1,h2⟩,hK⟩:=ha
  exact ⟨_,_,_,_,.evM (Zgu _ _ _ _) (ZlG ⟨_,_,_,_,_,_,_,_⟩ _ L _ h1 h2),rfl,⟨by decide,.flat _ rfl,by decide,.rows _ _ _ (fun i _=>(ZV L i).plainC),trivial⟩,hK⟩
 ·exact ha.elim
noncomputable def E86 (A:List Int->Int×Int):Zd:=((((G0.withP 44 Z77).withP 74 (Z9A A)).withP 86 inQ).withF 88 orF).withF 87 mxF
theorem Z8P:(E86 ZB).Ok:=Zd.withF_ok (Zd.withF_ok (Zd.withP_ok (Zd.withP_ok (Zd.withP_ok Zm Z3A) Z3g) ZdC) Zj8) ZlI
def clL (t:Zj) (a b fee:Int):List Za:=
 (if t.dust<=a-fee then [⟨⟨1,a-fee,t.k0,Z5,Z5,Z5,0,0⟩,0,0⟩] else [])++(if t.dust<=b then [⟨⟨1,b,t.k1,Z5,Z5,Z5,0,0⟩,1,0⟩] else [])
def clB (A:List Int->Int×Int) (t:Zj) (a b fee:Int):Bool:=Y6 t&&decide ((A [a,b]).2=0)&&decide ((A [a,b]).1=t.cap)&&decide (0<=fee/\fee<=a)
theorem Z0e {f:Nat->List AV} {L:List Za} {n:Nat} (h:∀i,i<n->f i=Zl L i):∀i,i<n->plainC (f i)=true:=fun i hi=>by rw [h i hi];exact Xo L i
theorem Xa {l:List Za}:(ZR l).length=l.length:=by unfold ZR;rw [Z4T];simp
theorem Z5Q (x:Za) (i:Nat) (hi:i<1):ZT 0 (fun _=>[]) (Y9 (Za.c x) 0 134) i=Zl [x] i:=W5 (O:=[]) rfl (fun k hk=>absurd hk (Ki k)) hi
theorem ZdP (x y:Za) (i:Nat) (hi:i<2):ZT 1 (ZT 0 (fun _=>[]) (Y9 (Za.c x) 0 134)) (Y9 (Za.c y) 0 134) i=Zl [x,y] i:=W5 (O:=[x]) rfl (fun k hk=>Z5Q x k hk) hi
theorem Z8Q {c:Bool}:(((if c=true then (0:Int) else 2) !=0)=true↔c=false)/\(((if c=true then (0:Int) else 2) !=0)=false↔c=true):=by cases c<;>simp
theorem Ql {A:List Int->Int×Int} {t:Zj} {a b fee:Int}:clB A t a b fee=true↔Y6 t=true/\(A [a,b]).2=0/\(A [a,b]).1=t.cap/\(0<=fee/\fee<=a):=by
 unfold clB
 simp only [J3,decide_eq_true_eq,and_assoc]
theorem Znr (A:List Int->Int×Int) (t:Zj) (a b fee:Int) (ht:t.Ok) (hc:clB A t a b fee=false):
  evF (E86 A) 20 42 [.agg t.c,.agg [.arr .i64 2 [a,b]],.int .i64 fee] ⟨0,[]⟩ (ZF 0 (.ret (.tuple [.agg txZ,.int .i64 2])) 0 []):=by
 refine @Eq.mpr _ (let q1:=t.fund;let q2:=t.index;let q3:=t.cap;let q4:=t.dust;let q5:=t.fee;let q6:=t.delay;let q7:=t.k0;let q8:=t.k1;let q9:=Zj.mk q1 q2 q3 q4 q5 q6 q7 q8;let q10:=A [a,b];let q11:=wrap i64 (a-fee);let q12:=decide (b>=q4);let q13:=AV.int i64 (1:Int);let q14:=AV.arr u8 (32:Nat) Z5;let q15:=AV.int i64 (0:Int);let q16:=[q15];let q17:=Y9 (q13::AV.int i64 q11::AV.arr u8 (32:Nat) q7::q14::q14::q14::q15::q15::q15::q16) (0:Nat) (134:Nat);let q18:=Y9 (q13::AV.int i64 b::AV.arr u8 (32:Nat) q8::q14::q14::q14::q15::q15::q13::q16) (0:Nat) (134:Nat);let q19:=q1=q1;let q20:=decide (q2=q2);let q21:=decide (q3=q3);let q22:=decide (q4=q4);let q23:=decide (q5=q5);let q24:=decide (q6=q6);let q25:=q7=q7;let q26:=q8=q8;
 Zj.Ok q9/\
 Z7 ((if Y6 q9=true then (0:Int) else (2:Int)) !=(0:Int)) True (Z7 (q10.snd !=(0:Int)) True (Z7 (q10.fst !=q3) True (Z7 (!decide ((0:Int)<=fee/\fee<=a)) True (Z7 (decide (q11>=q4)) (Z7 q12 ((∀(i:Nat),i<(2:Nat)->plainC (ZT (1:Nat) (ZT (0:Nat) (fun (x:Nat)=>[]) q17) q18 i)=true)/\∃(L:List Za),((2:Nat)=(2:Nat)/\(2:Nat)<(20:Nat)/\List.length L=(2:Nat))/\(∀(m:Za),List.Mem m L->Za.Ok m)/\(∀(i:Nat),i<(2:Nat)->ZT (1:Nat) (ZT (0:Nat) (fun (x:Nat)=>[]) q17) q18 i=Zl L i)/\q19/\Z0 q20 (Z0 q21 (Z0 q22 (Z0 q23 (Z0 q24 (q25/\q26/\(∀(i:Nat),i<(2:Nat)->true=true)/\∃(L_1:List Za),(2:Nat)=(2:Nat)/\Yj (0:Nat) (Zl (ZR L))=Zl L_1/\((2:Nat)<(1000:Nat)/\(2:Nat)≠(0:Nat))/\False)))))) ((∀(i:Nat),i<(1:Nat)->plainC (ZT (0:Nat) (fun (x:Nat)=>[]) q17 i)=true)/\∃(L:List Za),((1:Nat)=(1:Nat)/\(1:Nat)<(20:Nat)/\List.length L=(1:Nat))/\(∀(m:Za),List.Mem m L->Za.Ok m)/\(∀(i:Nat),i<(1:Nat)->ZT (0:Nat) (fun (x:Nat)=>[]) q17 i=Zl L i)/\q19/\Z0 q20 (Z0 q21 (Z0 q22 (Z0 q23 (Z0 q24 (q25/\q26/\(∀(i:Nat),i<(1:Nat)->true=true)/\∃(L_1:List Za),(1:Nat)=(1:Nat)/\Yj (0:Nat) (Zl (ZR L))=Zl L_1/\((1:Nat)<(1000:Nat)/\(1:Nat)≠(0:Nat))/\False))))))) (Z7 q12 ((∀(i:Nat),i<(1:Nat)->plainC (ZT (0:Nat) (fun (x:Nat)=>[]) q18 i)=true)/\∃(L:List Za),((1:Nat)=(1:Nat)/\(1:Nat)<(20:Nat)/\List.length L=(1:Nat))/\(∀(m:Za),List.Mem m L->Za.Ok m)/\(∀(i:Nat),i<(1:Nat)->ZT (0:Nat) (fun (x:Nat)=>[]) q18 i=Zl L i)/\q19/\Z0 q20 (Z0 q21 (Z0 q22 (Z0 q23 (Z0 q24 (q25/\q26/\(∀(i:Nat),i<(1:Nat)->true=true)/\∃(L_1:List Za),(1:Nat)=(1:Nat)/\Yj (0:Nat) (Zl (ZR L))=Zl L_1/\((1:Nat)<(1000:Nat)/\(1:Nat)≠(0:Nat))/\False)))))) (q19/\Z0 q20 (Z0 q21 (Z0 q22 (Z0 q23 (Z0 q24 (q25/\q26/\False)))))))))))) (by kernel_rfl) ?_
 conv=>zeta
 try simp only [vcA]
 try simp only [vcB]
 try simp only [vcC]
 have e0:(Zj.mk t.fund t.index t.cap t.dust t.fee t.delay t.k0 t.k1)=t:=rfl
 rw [e0]
 refine ⟨ht,fun _=>trivial,fun h1=>⟨fun _=>trivial,fun h2=>⟨fun _=>trivial,fun h3=>⟨fun _=>trivial,fun h4=> ?_⟩⟩⟩⟩
 exfalso
 have:clB A t a b fee=true:=Ql.2 ⟨Z8Q.2.1 h1,by simpa using h2,by simpa using h3,by simpa using h4⟩
 rw [this] at hc;cases hc
theorem Zns (A:List Int->Int×Int) (t:Zj) (a b fee:Int) (ht:t.Ok) (ha:a<9223372036854775808) (hc:clB A t a b fee=true) (hL:clL t a b fee=[]):
  evF (E86 A) 20 42 [.agg t.c,.agg [.arr .i64 2 [a,b]],.int .i64 fee] ⟨0,[]⟩ (ZF 0 (.ret (.tuple [.agg txZ,.int .i64 180])) 0 []):=by
 refine @Eq.mpr _ (let q1:=t.fund;let q2:=t.index;let q3:=t.cap;let q4:=t.dust;let q5:=t.fee;let q6:=t.delay;let q7:=t.k0;let q8:=t.k1;let q9:=Zj.mk q1 q2 q3 q4 q5 q6 q7 q8;let q10:=A [a,b];let q11:=wrap i64 (a-fee);let q12:=decide (b>=q4);let q13:=AV.int i64 (1:Int);let q14:=AV.arr u8 (32:Nat) Z5;let q15:=AV.int i64 (0:Int);let q16:=[q15];let q17:=Y9 (q13::AV.int i64 q11::AV.arr u8 (32:Nat) q7::q14::q14::q14::q15::q15::q15::q16) (0:Nat) (134:Nat);let q18:=Y9 (q13::AV.int i64 b::AV.arr u8 (32:Nat) q8::q14::q14::q14::q15::q15::q13::q16) (0:Nat) (134:Nat);let q19:=q1=q1;let q20:=decide (q2=q2);let q21:=decide (q3=q3);let q22:=decide (q4=q4);let q23:=decide (q5=q5);let q24:=decide (q6=q6);let q25:=q7=q7;let q26:=q8=q8;
 Zj.Ok q9/\
 Z7 ((if Y6 q9=true then (0:Int) else (2:Int)) !=(0:Int)) False (Z7 (q10.snd !=(0:Int)) False (Z7 (q10.fst !=q3) False (Z7 (!decide ((0:Int)<=fee/\fee<=a)) False (Z7 (decide (q11>=q4)) (Z7 q12 ((∀(i:Nat),i<(2:Nat)->plainC (ZT (1:Nat) (ZT (0:Nat) (fun (x:Nat)=>[]) q17) q18 i)=true)/\∃(L:List Za),((2:Nat)=(2:Nat)/\(2:Nat)<(20:Nat)/\List.length L=(2:Nat))/\(∀(m:Za),List.Mem m L->Za.Ok m)/\(∀(i:Nat),i<(2:Nat)->ZT (1:Nat) (ZT (0:Nat) (fun (x:Nat)=>[]) q17) q18 i=Zl L i)/\q19/\Z0 q20 (Z0 q21 (Z0 q22 (Z0 q23 (Z0 q24 (q25/\q26/\(∀(i:Nat),i<(2:Nat)->true=true)/\∃(L_1:List Za),(2:Nat)=(2:Nat)/\Yj (0:Nat) (Zl (ZR L))=Zl L_1/\((2:Nat)<(1000:Nat)/\(2:Nat)≠(0:Nat))/\False)))))) ((∀(i:Nat),i<(1:Nat)->plainC (ZT (0:Nat) (fun (x:Nat)=>[]) q17 i)=true)/\∃(L:List Za),((1:Nat)=(1:Nat)/\(1:Nat)<(20:Nat)/\List.length L=(1:Nat))/\(∀(m:Za),List.Mem m L->Za.Ok m)/\(∀(i:Nat),i<(1:Nat)->ZT (0:Nat) (fun (x:Nat)=>[]) q17 i=Zl L i)/\q19/\Z0 q20 (Z0 q21 (Z0 q22 (Z0 q23 (Z0 q24 (q25/\q26/\(∀(i:Nat),i<(1:Nat)->true=true)/\∃(L_1:List Za),(1:Nat)=(1:Nat)/\Yj (0:Nat) (Zl (ZR L))=Zl L_1/\((1:Nat)<(1000:Nat)/\(1:Nat)≠(0:Nat))/\False))))))) (Z7 q12 ((∀(i:Nat),i<(1:Nat)->plainC (ZT (0:Nat) (fun (x:Nat)=>[]) q18 i)=true)/\∃(L:List Za),((1:Nat)=(1:Nat)/\(1:Nat)<(20:Nat)/\List.length L=(1:Nat))/\(∀(m:Za),List.Mem m L->Za.Ok m)/\(∀(i:Nat),i<(1:Nat)->ZT (0:Nat) (fun (x:Nat)=>[]) q18 i=Zl L i)/\q19/\Z0 q20 (Z0 q21 (Z0 q22 (Z0 q23 (Z0 q24 (q25/\q26/\(∀(i:Nat),i<(1:Nat)->true=true)/\∃(L_1:List Za),(1:Nat)=(1:Nat)/\Yj (0:Nat) (Zl (ZR L))=Zl L_1/\((1:Nat)<(1000:Nat)/\(1:Nat)≠(0:Nat))/\False)))))) (q19/\Z0 q20 (Z0 q21 (Z0 q22 (Z0 q23 (Z0 q24 (q25/\q26/\True)))))))))))) (by kernel_rfl) ?_
 conv=>zeta
 try simp only [vcA]
 try simp only [vcB]
 try simp only [vcC]
 have e0:(Zj.mk t.fund t.index t.cap t.dust t.fee t.delay t.k0 t.k1)=t:=rfl
 rw [e0]
 obtain ⟨c1,c2,c3,c4⟩:=Ql.1 hc
 have hw:i64.wrap (a-fee)=a-fee:=w64 (by omega)
 have hd:¬t.dust<=a-fee/\¬t.dust<=b:=by
  unfold clL at hL
  rw [List.append_eq_nil_iff] at hL
  constructor
  ·intro h;rw [if_pos h] at hL;simp at hL
  ·intro h;rw [if_pos h] at hL;simp at hL
 refine ⟨ht,Z8Q.2.2 c1,by simp [c2],by simp [c3],by simp [c4], ?_⟩
 ·rw [hw]
  exact ⟨fun h=>absurd h hd.1,fun h=>⟨fun h=>absurd h hd.2,fun _=>trivial⟩⟩
theorem Znt (A:List Int->Int×Int) (t:Zj) (a b fee:Int) (n:Nat) (L1:List Za) (ht:t.Ok) (ha:a<9223372036854775808) (hc:clB A t a b fee=true) (hn:n≠0) (hL:L1=ZR (clL t a b fee)) (hl:n=L1.length):
  evF (E86 A) 20 42 [.agg t.c,.agg [.arr .i64 2 [a,b]],.int .i64 fee] ⟨0,[]⟩ (ZF 0 (.ret (.tuple [.agg [.int .i64 2147483647,.nslice ⟨0,0,0,0,0⟩ 130 1 1,.nslice ⟨1,0,132,0,0⟩ 132 n n],.int .i64 0])) 2 [(0,.flat (InS.c (Z0d t))),(1,.rows 132 n (Zf (ZV L1)))]):=by
 refine @Eq.mpr _ (let q1:=t.fund;let q2:=t.index;let q3:=t.cap;let q4:=t.dust;let q5:=t.fee;let q6:=t.delay;let q7:=t.k0;let q8:=t.k1;let q9:=Zj.mk q1 q2 q3 q4 q5 q6 q7 q8;let q10:=A [a,b];let q11:=wrap i64 (a-fee);let q12:=decide (b>=q4);let q13:=AV.int i64 (1:Int);let q14:=AV.arr u8 (32:Nat) Z5;let q15:=AV.int i64 (0:Int);let q16:=[q15];let q17:=Y9 (q13::AV.int i64 q11::AV.arr u8 (32:Nat) q7::q14::q14::q14::q15::q15::q15::q16) (0:Nat) (134:Nat);let q18:=Y9 (q13::AV.int i64 b::AV.arr u8 (32:Nat) q8::q14::q14::q14::q15::q15::q13::q16) (0:Nat) (134:Nat);let q19:=q1=q1;let q20:=decide (q2=q2);let q21:=decide (q3=q3);let q22:=decide (q4=q4);let q23:=decide (q5=q5);let q24:=decide (q6=q6);let q25:=q7=q7;let q26:=q8=q8;let q27:=decide ((2:Nat)=n);let q28:=InS.mk q1 q2 (1:Int) Z5 Z5 Z5;let q29:=Z0d t;let q30:=q28.name=q29.name;let q31:=decide (q28.index=q29.index);let q32:=q28.tag=q29.tag;let q33:=q28.also=q29.also;let q34:=q28.secret=q29.secret;let q35:=Zf (ZV L1);let q36:=decide ((1:Nat)=n);
 Zj.Ok q9/\
 Z7 ((if Y6 q9=true then (0:Int) else (2:Int)) !=(0:Int)) False (Z7 (q10.snd !=(0:Int)) False (Z7 (q10.fst !=q3) False (Z7 (!decide ((0:Int)<=fee/\fee<=a)) False (Z7 (decide (q11>=q4)) (Z7 q12 ((∀(i:Nat),i<(2:Nat)->plainC (ZT (1:Nat) (ZT (0:Nat) (fun (x:Nat)=>[]) q17) q18 i)=true)/\∃(L:List Za),((2:Nat)=(2:Nat)/\(2:Nat)<(20:Nat)/\List.length L=(2:Nat))/\(∀(m:Za),List.Mem m L->Za.Ok m)/\(∀(i:Nat),i<(2:Nat)->ZT (1:Nat) (ZT (0:Nat) (fun (x:Nat)=>[]) q17) q18 i=Zl L i)/\q19/\Z0 q20 (Z0 q21 (Z0 q22 (Z0 q23 (Z0 q24 (q25/\q26/\(∀(i:Nat),i<(2:Nat)->true=true)/\∃(L_1:List Za),(2:Nat)=(2:Nat)/\Yj (0:Nat) (Zl (ZR L))=Zl L_1/\((2:Nat)<(1000:Nat)/\(2:Nat)≠(0:Nat))/\Z0 q27 (Z6 (n<=(2:Nat)) (q30/\Z0 q31 (q32/\q33/\q34/\Z0 q27 (Zo (0:Nat) [((1:Nat),(8:Nat)),((0:Nat),(7:Nat))] n q35 (Zf (ZV L_1))/\True)))))))))) ((∀(i:Nat),i<(1:Nat)->plainC (ZT (0:Nat) (fun (x:Nat)=>[]) q17 i)=true)/\∃(L:List Za),((1:Nat)=(1:Nat)/\(1:Nat)<(20:Nat)/\List.length L=(1:Nat))/\(∀(m:Za),List.Mem m L->Za.Ok m)/\(∀(i:Nat),i<(1:Nat)->ZT (0:Nat) (fun (x:Nat)=>[]) q17 i=Zl L i)/\q19/\Z0 q20 (Z0 q21 (Z0 q22 (Z0 q23 (Z0 q24 (q25/\q26/\(∀(i:Nat),i<(1:Nat)->true=true)/\∃(L_1:List Za),(1:Nat)=(1:Nat)/\Yj (0:Nat) (Zl (ZR L))=Zl L_1/\((1:Nat)<(1000:Nat)/\(1:Nat)≠(0:Nat))/\Z0 q36 (Z6 (n<=(1:Nat)) (q30/\Z0 q31 (q32/\q33/\q34/\Z0 q36 (Zo (0:Nat) [((1:Nat),(6:Nat)),((0:Nat),(5:Nat))] n q35 (Zf (ZV L_1))/\True))))))))))) (Z7 q12 ((∀(i:Nat),i<(1:Nat)->plainC (ZT (0:Nat) (fun (x:Nat)=>[]) q18 i)=true)/\∃(L:List Za),((1:Nat)=(1:Nat)/\(1:Nat)<(20:Nat)/\List.length L=(1:Nat))/\(∀(m:Za),List.Mem m L->Za.Ok m)/\(∀(i:Nat),i<(1:Nat)->ZT (0:Nat) (fun (x:Nat)=>[]) q18 i=Zl L i)/\q19/\Z0 q20 (Z0 q21 (Z0 q22 (Z0 q23 (Z0 q24 (q25/\q26/\(∀(i:Nat),i<(1:Nat)->true=true)/\∃(L_1:List Za),(1:Nat)=(1:Nat)/\Yj (0:Nat) (Zl (ZR L))=Zl L_1/\((1:Nat)<(1000:Nat)/\(1:Nat)≠(0:Nat))/\Z0 q36 (Z6 (n<=(1:Nat)) (q30/\Z0 q31 (q32/\q33/\q34/\Z0 q36 (Zo (0:Nat) [((1:Nat),(6:Nat)),((0:Nat),(5:Nat))] n q35 (Zf (ZV L_1))/\True)))))))))) (q19/\Z0 q20 (Z0 q21 (Z0 q22 (Z0 q23 (Z0 q24 (q25/\q26/\False)))))))))))) (by kernel_rfl) ?_
 conv=>zeta
 try simp only [vcA]
 try simp only [vcB]
 try simp only [vcC]
 have e0:(Zj.mk t.fund t.index t.cap t.dust t.fee t.delay t.k0 t.k1)=t:=rfl
 rw [e0]
 obtain ⟨c1,c2,c3,c4⟩:=Ql.1 hc
 have hw:i64.wrap (a-fee)=a-fee:=w64 (by omega)
 refine ⟨ht,Z8Q.2.2 c1,by simp [c2],by simp [c3],by simp [c4], ?_⟩
 ·rw [hw]
  have z32:Z5.length=32:=rfl
  refine ⟨fun h1=>⟨fun h2=> ?_,fun h2=> ?_⟩,fun h1=>⟨fun h2=> ?_,fun h2=> ?_⟩⟩
  ·have e:clL t a b fee=[⟨⟨1,a-fee,t.k0,Z5,Z5,Z5,0,0⟩,0,0⟩,⟨⟨1,b,t.k1,Z5,Z5,Z5,0,0⟩,1,0⟩]:=by unfold clL;rw [if_pos h1,if_pos h2];rfl
   have hn2:2=n:=by rw [hl,hL,e,Xa];rfl
   have H:=ZdP ⟨⟨1,a-fee,t.k0,Z5,Z5,Z5,0,0⟩,0,0⟩ ⟨⟨1,b,t.k1,Z5,Z5,Z5,0,0⟩,1,0⟩
   refine ⟨Z0e H,_,⟨by decide,rfl⟩,fun m hm=> ?_,H,fun _ _=>trivial,_,rfl,⟨by decide,by decide⟩,hn2,by omega,rfl,rfl,rfl,rfl,rfl,hn2,ZK fun _ _=>by rw [hL,e];rfl⟩
   have hm:m∈[_,_]:=hm
   rcases Jd.1 hm with rfl|hm
   ·exact ⟨ht.k0,z32,z32,z32⟩
   ·rcases Jd.1 hm with rfl|hm
    ·exact ⟨ht.k1,z32,z32,z32⟩
    ·cases hm
  ·have e:clL t a b fee=[⟨⟨1,a-fee,t.k0,Z5,Z5,Z5,0,0⟩,0,0⟩]:=by unfold clL;rw [if_pos h1,if_neg h2];rfl
   have hn2:1=n:=by rw [hl,hL,e,Xa];rfl
   have H:=Z5Q ⟨⟨1,a-fee,t.k0,Z5,Z5,Z5,0,0⟩,0,0⟩
   refine ⟨Z0e H,_,⟨by decide,rfl⟩,fun m hm=> ?_,H,fun _ _=>trivial,_,rfl,⟨by decide,by decide⟩,hn2,by omega,rfl,rfl,rfl,rfl,rfl,hn2,ZK fun _ _=>by rw [hL,e];rfl⟩
   have hm:m∈[_]:=hm
   rcases Jd.1 hm with rfl|hm
   ·exact ⟨ht.k0,z32,z32,z32⟩
   ·cases hm
  ·have e:clL t a b fee=[⟨⟨1,b,t.k1,Z5,Z5,Z5,0,0⟩,1,0⟩]:=by unfold clL;rw [if_neg h1,if_pos h2];rfl
   have hn2:1=n:=by rw [hl,hL,e,Xa];rfl
   have H:=Z5Q ⟨⟨1,b,t.k1,Z5,Z5,Z5,0,0⟩,1,0⟩
   refine ⟨Z0e H,_,⟨by decide,rfl⟩,fun m hm=> ?_,H,fun _ _=>trivial,_,rfl,⟨by decide,by decide⟩,hn2,by omega,rfl,rfl,rfl,rfl,rfl,hn2,ZK fun _ _=>by rw [hL,e];rfl⟩
   have hm:m∈[_]:=hm
   rcases Jd.1 hm with rfl|hm
   ·exact ⟨ht.k1,z32,z32,z32⟩
   ·cases hm
  ·have e:clL t a b fee=[]:=by unfold clL;rw [if_neg h1,if_neg h2];rfl
   rw [e] at hL
   rw [hl,hL] at hn
   exact hn rfl
def clF (A:List Int->Int×Int):ZN:=fun args h K=>ZA none h true 20 args fun a=>match a with
 | [.agg [.arr .u8 32 fu,.int .i64 ix,.int .i64 ca,.int .i64 du,.int .i64 fe,.int .i64 de,.arr .u8 32 k0,.arr .u8 32 k1],.agg [.arr .i64 2 ab],.int .i64 fee]=>
  (Zj.Ok ⟨fu,ix,ca,du,fe,de,k0,k1⟩)/\∃a b,ab=[a,b]/\a<9223372036854775808/\(clB A ⟨fu,ix,ca,du,fe,de,k0,k1⟩ a b fee=false->K (.ret (.tuple [.agg txZ,.int .i64 2])) h)/\
  (clB A ⟨fu,ix,ca,du,fe,de,k0,k1⟩ a b fee=true->((clL ⟨fu,ix,ca,du,fe,de,k0,k1⟩ a b fee).length=0->K (.ret (.tuple [.agg txZ,.int .i64 180])) h)/\
   ∀n L,L=ZR (clL ⟨fu,ix,ca,du,fe,de,k0,k1⟩ a b fee)->n=L.length->n≠0->K (.ret (.tuple [.agg [.int .i64 2147483647,.nslice ⟨h.next,0,0,0,0⟩ 130 1 1,.nslice ⟨h.next+1,0,132,0,0⟩ 132 n n],.int .i64 0])) ⟨h.next+2,(h.next,.flat (InS.c ⟨fu,ix,1,Z5,Z5,Z5⟩))::(h.next+1,.rows 132 n (Zf (ZV L)))::h.bs⟩)
 | _=>False
theorem ZdQ (args:List AV) (h:Z8) (K:KO) (hl:clF ZB args h K):Ze PP 42 args h K:=by
 refine Zs.fsumm (d:=20) (Zk _ _ _ _ _ hl fun a ha=> ?_)
 split at ha
 ·rename_i fu ix ca du fe de k0 k1 ab fee
  obtain ⟨ht,a,b,rfl,ha,h1,h2⟩:=ha
  cases hc:clB ZB ⟨fu,ix,ca,du,fe,de,k0,k1⟩ a b fee with
  | false=>exact ⟨_,_,_,_,.evM Z8P (Znr _ ⟨_,_,_,_,_,_,_,_⟩ a b fee ht hc),rfl,trivial,h1 hc⟩
  | true=>
   obtain ⟨h2,h3⟩:=h2 hc
   rcases JM (clL ⟨fu,ix,ca,du,fe,de,k0,k1⟩ a b fee).length with h0|h0
   ·exact ⟨_,_,_,_,.evM Z8P (Zns _ ⟨_,_,_,_,_,_,_,_⟩ a b fee ht ha hc (Kl.1 h0)),rfl,trivial,h2 h0⟩
   ·have hn:(ZR (clL ⟨fu,ix,ca,du,fe,de,k0,k1⟩ a b fee)).length≠0:=by rw [Xa];omega
    exact ⟨_,_,_,_,.evM Z8P (Znt _ ⟨_,_,_,_,_,_,_,_⟩ a b fee _ _ ht ha hc hn rfl rfl),rfl,⟨by decide,.flat _ rfl,by decide,.rows _ _ _ (fun i _=>(ZV _ i).plainC),trivial⟩,h3 _ _ rfl rfl hn⟩
 ·exact ha.elim
noncomputable def Zgv:Zd:=((G0.withP 112 Z3B).withF 122 puF).withF 123 mxF
theorem Z5R:Zgv.Ok:=Zd.withF_ok (Zd.withF_ok (Zd.withP_ok Zm Z1h) Zja) Zjc
theorem Yv:Bytes Z5:=⟨fun i=>by
 have h:Z5=List.replicate 32 0:=rfl
 rw [h,J2,List.getElem?_replicate]
 split<;>simp⟩
theorem ZdR {m a b:Int}:allIn m [a,b]=true↔(0<=a/\a<=m)/\(0<=b/\b<=m):=by
 unfold allIn Yy
 simp [List.range_succ,Uh]
theorem W6 {t:Zj} {a b fee:Int}:clB ZB t a b fee=true↔Y6 t=true/\((0<=a/\a<=1125899906842624)/\(0<=b/\b<=1125899906842624))/\a+b=t.cap/\(0<=fee/\fee<=a):=by
 rw [Ql]
 unfold ZB
 by_cases h:allIn 1125899906842624 [a,b]=true
 ·rw [if_pos h]
  have h':=ZdR.1 h
  by_cases h2:[a,b].sum<=1125899906842624
  ·rw [if_pos h2];simp;omega
  ·rw [if_neg h2]
   simp at h2
   constructor
   ·rintro ⟨_,h3,_⟩;simp at h3
   ·rintro ⟨h3,_,h4,_⟩
    unfold Y6 at h3
    simp only [J3,decide_eq_true_eq] at h3
    omega
 ·rw [if_neg h]
  constructor
  ·rintro ⟨_,h3,_⟩;simp at h3
  ·rintro ⟨_,h3,_⟩;exact absurd (ZdR.2 h3) h
theorem ZlJ (t:Zj) (a b fee:Int) (ht:t.Ok) (hc:clB ZB t a b fee=false):
  evF Zgv 20 61 [.agg t.c,.agg [.arr .i64 2 [a,b]],.int .i64 fee] ⟨0,[]⟩ (ZF 0 (.ret (.tuple [.agg txZ,.int .i64 2])) 0 []):=by
 refine @Eq.mpr _ (let q1:=t.dust;let q2:=Zj.mk t.fund t.index t.cap q1 t.fee t.delay t.k0 t.k1;let q3:=wrap i64 (a-fee);let q4:=AV.int i64 1;let q5:=AV.arr u8 32 Z5;let q6:=AV.int i64 0;let q7:=[q6];let q8:=decide (b>=q1);
 Zj.Ok q2/\
 Z7 (!Y6 q2) True (Z7 (decide (a>=0)) (Z7 (!decide (a<=1125899906842624)) True (Z7 (decide (b>=0)) (Z7 (!decide (b<=1125899906842624)) True (Z7 (wrap i64 (a+b) !=t.cap) True (Z7 (decide (fee<0)) True (Z7 (decide (fee>a)) True (Z7 (decide (q3>=q1)) (∃(m:Za),
 let q17:=Yj 0 (Zl (Xc ltM m []));
 q4::AV.int i64 q3::AV.arr u8 32 t.k0::q5::q5::q5::q6::q6::q6::q7=Za.c m/\Z7 q8 ((∀(i:Nat),i<1->true=true)/\∃(L:List Za),∃(m:Za),(1:Nat)=1/\q17=Zl L/\q4::AV.int i64 b::AV.arr u8 32 t.k1::q5::q5::q5::q6::q6::q4::q7=Za.c m/\Z8O 1 L m/\(∀(i:Nat),i<2->true=true)/\∃(L_1:List Za),(2:Nat)=2/\Yj 0 (Zl (Xc ltM m L))=Zl L_1/\((2:Nat)<1000/\(2:Nat)≠0)/\False) ((∀(i:Nat),i<1->true=true)/\∃(L:List Za),(1:Nat)=1/\q17=Zl L/\((1:Nat)<1000/\(1:Nat)≠0)/\False)) (Z0 q8 (∃(m:Za),q4::AV.int i64 b::AV.arr u8 32 t.k1::q5::q5::q5::q6::q6::q4::q7=Za.c m/\(∀(i:Nat),i<1->true=true)/\∃(L:List Za),(1:Nat)=1/\Yj 0 (Zl (Xc ltM m []))=Zl L/\((1:Nat)<1000/\(1:Nat)≠0)/\False))))))) True)) True)) (by kernel_rfl) ?_
 conv=>zeta
 try simp only [vcA]
 try simp only [vcB]
 try simp only [vcC]
 have e0:(Zj.mk t.fund t.index t.cap t.dust t.fee t.delay t.k0 t.k1)=t:=rfl
 rw [e0]
 have hx:¬(Y6 t=true/\((0<=a/\a<=1125899906842624)/\(0<=b/\b<=1125899906842624))/\a+b=t.cap/\(0<=fee/\fee<=a)):=fun h=>by rw [W6.2 h] at hc;cases hc
 refine ⟨ht,fun _=>trivial,fun g1=>⟨fun g2=>⟨fun _=>trivial,fun g3=>⟨fun g4=>⟨fun _=>trivial,fun g5=>⟨fun _=>trivial,fun g6=>⟨fun _=>trivial,fun g7=>⟨fun _=>trivial,fun g8=> ?_⟩⟩⟩⟩, ?_⟩⟩, ?_⟩⟩
 ·exfalso
  have k1:Y6 t=true:=by simpa using g1
  have k3:a<=1125899906842624:=by simpa using g3
  have k5:b<=1125899906842624:=by simpa using g5
  rw [w64 (x:=a+b) (by omega)] at g6
  have k6:a+b=t.cap:=by simpa using g6
  exact hx ⟨k1,⟨⟨g2,k3⟩,g4,k5⟩,k6,by omega⟩
 all_goals intros;trivial
theorem ZlK (t:Zj) (a b fee:Int) (ht:t.Ok) (hc:clB ZB t a b fee=true) (hL:clL t a b fee=[]):
  evF Zgv 20 61 [.agg t.c,.agg [.arr .i64 2 [a,b]],.int .i64 fee] ⟨0,[]⟩ (ZF 0 (.ret (.tuple [.agg txZ,.int .i64 180])) 0 []):=by
 refine @Eq.mpr _ (let q1:=t.dust;let q2:=Zj.mk t.fund t.index t.cap q1 t.fee t.delay t.k0 t.k1;let q3:=wrap i64 (a-fee);let q4:=AV.int i64 1;let q5:=AV.arr u8 32 Z5;let q6:=AV.int i64 0;let q7:=[q6];let q8:=decide (b>=q1);
 Zj.Ok q2/\
 Z7 (!Y6 q2) False (Z6 (a>=0) (Z7 (!decide (a<=1125899906842624)) False (Z6 (b>=0) (Z7 (!decide (b<=1125899906842624)) False (Z7 (wrap i64 (a+b) !=t.cap) False (Z7 (decide (fee<0)) False (Z7 (decide (fee>a)) False (Z7 (decide (q3>=q1)) (∃(m:Za),
 let q17:=Yj 0 (Zl (Xc ltM m []));
 q4::AV.int i64 q3::AV.arr u8 32 t.k0::q5::q5::q5::q6::q6::q6::q7=Za.c m/\Z7 q8 ((∀(i:Nat),i<1->true=true)/\∃(L:List Za),∃(m:Za),(1:Nat)=1/\q17=Zl L/\q4::AV.int i64 b::AV.arr u8 32 t.k1::q5::q5::q5::q6::q6::q4::q7=Za.c m/\Z8O 1 L m/\(∀(i:Nat),i<2->true=true)/\∃(L_1:List Za),(2:Nat)=2/\Yj 0 (Zl (Xc ltM m L))=Zl L_1/\((2:Nat)<1000/\(2:Nat)≠0)/\False) ((∀(i:Nat),i<1->true=true)/\∃(L:List Za),(1:Nat)=1/\q17=Zl L/\((1:Nat)<1000/\(1:Nat)≠0)/\False)) (Z7 q8 (∃(m:Za),q4::AV.int i64 b::AV.arr u8 32 t.k1::q5::q5::q5::q6::q6::q4::q7=Za.c m/\(∀(i:Nat),i<1->true=true)/\∃(L:List Za),(1:Nat)=1/\Yj 0 (Zl (Xc ltM m []))=Zl L/\((1:Nat)<1000/\(1:Nat)≠0)/\False) True)))))))))) (by kernel_rfl) ?_
 conv=>zeta
 try simp only [vcA]
 try simp only [vcB]
 try simp only [vcC]
 have e0:(Zj.mk t.fund t.index t.cap t.dust t.fee t.delay t.k0 t.k1)=t:=rfl
 rw [e0]
 obtain ⟨c1,⟨c2,c3⟩,c4,c5⟩:=W6.1 hc
 have w1:i64.wrap (a-fee)=a-fee:=w64 (by omega)
 have w2:i64.wrap (a+b)=a+b:=w64 (by omega)
 refine ⟨ht,by rw [c1];rfl,by omega,by simp;omega,by omega,by simp;omega,by rw [w2];simp [c4],by omega,by omega, ?_⟩
 rw [w1]
 have hd:¬t.dust<=a-fee/\¬t.dust<=b:=by
  unfold clL at hL
  rw [List.append_eq_nil_iff] at hL
  constructor
  ·intro h;rw [if_pos h] at hL;simp at hL
  ·intro h;rw [if_pos h] at hL;simp at hL
 exact ⟨fun h=>absurd h hd.1,fun _=>⟨fun h=>absurd h hd.2,fun _=>trivial⟩⟩
theorem ZlL (t:Zj) (a b fee:Int) (n:Nat) (L1:List Za) (ht:t.Ok) (hc:clB ZB t a b fee=true) (hn:n≠0) (hL:L1=ZR (clL t a b fee)) (hl:n=L1.length):
  evF Zgv 20 61 [.agg t.c,.agg [.arr .i64 2 [a,b]],.int .i64 fee] ⟨0,[]⟩ (ZF 0 (.ret (.tuple [.agg [.int .i64 2147483647,.nslice ⟨0,0,0,0,0⟩ 130 1 1,.nslice ⟨1,0,132,0,0⟩ 132 n n],.int .i64 0])) 2 [(0,.flat (InS.c (Z0d t))),(1,.rows 132 n (Zf (ZV L1)))]):=by
 refine @Eq.mpr _ (let q1:=t.dust;let q2:=Zj.mk t.fund t.index t.cap q1 t.fee t.delay t.k0 t.k1;let q3:=wrap i64 (a-fee);let q4:=AV.int i64 1;let q5:=AV.arr u8 32 Z5;let q6:=AV.int i64 0;let q7:=[q6];let q8:=decide (b>=q1);let q9:=decide (2=n);let q10:=InS.mk t.fund t.index 1 Z5 Z5 Z5;let q11:=Z0d t;let q12:=q10.name=q11.name;let q13:=decide (q10.index=q11.index);let q14:=q10.tag=q11.tag;let q15:=q10.also=q11.also;let q16:=q10.secret=q11.secret;let q17:=Zf (ZV L1);let q18:=decide (1=n);
 Zj.Ok q2/\
 Z7 (!Y6 q2) False (Z6 (a>=0) (Z7 (!decide (a<=1125899906842624)) False (Z6 (b>=0) (Z7 (!decide (b<=1125899906842624)) False (Z7 (wrap i64 (a+b) !=t.cap) False (Z7 (decide (fee<0)) False (Z7 (decide (fee>a)) False (Z7 (decide (q3>=q1)) (∃(m:Za),
 let q37:=Yj 0 (Zl (Xc ltM m []));
 q4::AV.int i64 q3::AV.arr u8 32 t.k0::q5::q5::q5::q6::q6::q6::q7=Za.c m/\Z7 q8 ((∀(i:Nat),i<1->true=true)/\∃(L:List Za),∃(m:Za),(1:Nat)=1/\q37=Zl L/\q4::AV.int i64 b::AV.arr u8 32 t.k1::q5::q5::q5::q6::q6::q4::q7=Za.c m/\Z8O 1 L m/\(∀(i:Nat),i<2->true=true)/\∃(L_1:List Za),(2:Nat)=2/\Yj 0 (Zl (Xc ltM m L))=Zl L_1/\((2:Nat)<1000/\(2:Nat)≠0)/\Z0 q9 (Z6 (n<=2) (q12/\Z0 q13 (q14/\q15/\q16/\Z0 q9 (Zo 0 [(1,6),(0,5)] n q17 (Zf (ZV L_1))/\True))))) ((∀(i:Nat),i<1->true=true)/\∃(L:List Za),(1:Nat)=1/\q37=Zl L/\((1:Nat)<1000/\(1:Nat)≠0)/\Z0 q18 (Z6 (n<=1) (q12/\Z0 q13 (q14/\q15/\q16/\Z0 q18 (Zo 0 [(1,5),(0,4)] n q17 (Zf (ZV L))/\True)))))) (Z0 q8 (∃(m:Za),q4::AV.int i64 b::AV.arr u8 32 t.k1::q5::q5::q5::q6::q6::q4::q7=Za.c m/\(∀(i:Nat),i<1->true=true)/\∃(L:List Za),(1:Nat)=1/\Yj 0 (Zl (Xc ltM m []))=Zl L/\((1:Nat)<1000/\(1:Nat)≠0)/\Z0 q18 (Z6 (n<=1) (q12/\Z0 q13 (q14/\q15/\q16/\Z0 q18 (Zo 0 [(1,5),(0,4)] n q17 (Zf (ZV L))/\True))))))))))))))) (by kernel_rfl) ?_
 conv=>zeta
 try simp only [vcA]
 try simp only [vcB]
 try simp only [vcC]
 have e0:(Zj.mk t.fund t.index t.cap t.dust t.fee t.delay t.k0 t.k1)=t:=rfl
 rw [e0]
 obtain ⟨c1,⟨c2,c3⟩,c4,c5⟩:=W6.1 hc
 have w1:i64.wrap (a-fee)=a-fee:=w64 (by omega)
 have w2:i64.wrap (a+b)=a+b:=w64 (by omega)
 refine ⟨ht,by rw [c1];rfl,by omega,by simp;omega,by omega,by simp;omega,by rw [w2];simp [c4],by omega,by omega, ?_⟩
 rw [w1]
 have z32:Z5.length=32:=rfl
 have oA:(⟨⟨1,a-fee,t.k0,Z5,Z5,Z5,0,0⟩,0,0⟩:Za).Okb:=⟨⟨ht.k0,z32,z32,z32⟩,Yv⟩
 have oB:(⟨⟨1,b,t.k1,Z5,Z5,Z5,0,0⟩,1,0⟩:Za).Okb:=⟨⟨ht.k1,z32,z32,z32⟩,Yv⟩
 refine ⟨fun h1=>⟨⟨⟨1,a-fee,t.k0,Z5,Z5,Z5,0,0⟩,0,0⟩,rfl,fun h2=> ?_,fun h2=> ?_⟩,fun h1=> ?_⟩
 ·have e:L1=Xc ltM ⟨⟨1,b,t.k1,Z5,Z5,Z5,0,0⟩,1,0⟩ (Xc ltM ⟨⟨1,a-fee,t.k0,Z5,Z5,Z5,0,0⟩,0,0⟩ []):=by rw [hL];unfold clL;rw [if_pos h1,if_pos h2];rfl
  have hn2:2=n:=by rw [hl,e,Z3E];rfl
  exact ⟨fun _ _=>trivial,_,⟨⟨1,b,t.k1,Z5,Z5,Z5,0,0⟩,1,0⟩,rfl,rfl,⟨by decide,rfl,oB,fun x hx=>by rcases Jd.1 hx with rfl|hx;exact oA;cases hx⟩,fun _ _=>trivial,_,rfl,⟨by decide,by decide⟩,hn2,by omega,rfl,rfl,rfl,rfl,rfl,hn2,ZK fun _ _=>by rw [e];rfl⟩
 ·have e:L1=Xc ltM ⟨⟨1,a-fee,t.k0,Z5,Z5,Z5,0,0⟩,0,0⟩ []:=by rw [hL];unfold clL;rw [if_pos h1,if_neg h2];rfl
  have hn2:1=n:=by rw [hl,e];rfl
  exact ⟨fun _ _=>trivial,_,rfl,⟨by decide,by decide⟩,hn2,by omega,rfl,rfl,rfl,rfl,rfl,hn2,ZK fun _ _=>by rw [e];rfl⟩
 ·by_cases h2:b>=t.dust
  rotate_left
  ·have e:L1=[]:=by rw [hL];unfold clL;rw [if_neg h1,if_neg h2];rfl
   rw [hl,e] at hn
   exact absurd rfl hn
  have e:L1=Xc ltM ⟨⟨1,b,t.k1,Z5,Z5,Z5,0,0⟩,1,0⟩ []:=by rw [hL];unfold clL;rw [if_neg h1,if_pos h2];rfl
  have hn2:1=n:=by rw [hl,e];rfl
  exact ⟨h2,⟨⟨1,b,t.k1,Z5,Z5,Z5,0,0⟩,1,0⟩,rfl,fun _ _=>trivial,_,rfl,⟨by decide,by decide⟩,hn2,by omega,rfl,rfl,rfl,rfl,rfl,hn2,ZK fun _ _=>by rw [e];rfl⟩
theorem Z5S (args:List AV) (h:Z8) (K:KO) (hl:clF ZB args h K):Ze PP 61 args h K:=by
 refine Zs.fsumm (d:=20) (Zk _ _ _ _ _ hl fun a ha=> ?_)
 split at ha
 ·rename_i fu ix ca du fe de k0 k1 ab fee
  obtain ⟨ht,a,b,rfl,ha,h1,h2⟩:=ha
  cases hc:clB ZB ⟨fu,ix,ca,du,fe,de,k0,k1⟩ a b fee with
  | false=>exact ⟨_,_,_,_,.evM Z5R (ZlJ ⟨_,_,_,_,_,_,_,_⟩ a b fee ht hc),rfl,trivial,h1 hc⟩
  | true=>
   obtain ⟨h2,h3⟩:=h2 hc
   rcases JM (clL ⟨fu,ix,ca,du,fe,de,k0,k1⟩ a b fee).length with h0|h0
   ·exact ⟨_,_,_,_,.evM Z5R (ZlK ⟨_,_,_,_,_,_,_,_⟩ a b fee ht hc (Kl.1 h0)),rfl,trivial,h2 h0⟩
   ·have hn:(ZR (clL ⟨fu,ix,ca,du,fe,de,k0,k1⟩ a b fee)).length≠0:=by rw [Xa];omega
    exact ⟨_,_,_,_,.evM Z5R (ZlL ⟨_,_,_,_,_,_,_,_⟩ a b fee _ _ ht hc hn rfl rfl),rfl,⟨by decide,.flat _ rfl,by decide,.rows _ _ _ (fun i _=>(ZV _ i).plainC),trivial⟩,h3 _ _ rfl rfl hn⟩
 ·exact ha.elim
@[irreducible] def loH (a b:List Int):List Int:=if X2 a b>0 then b else a
@[irreducible] def hiH (a b:List Int):List Int:=if X2 a b>0 then a else b
theorem ZlM (a b lo hi:List Int) (ha:a.length=32) (hb:b.length=32) (hl:lo=loH a b) (hh:hi=hiH a b):
  evF G0 20 45 [.agg [.arr .u8 32 a],.agg [.arr .u8 32 b]] ⟨0,[]⟩ (XR (fun v=>v=.tuple [.agg [.arr .u8 32 lo],.agg [.arr .u8 32 hi]])):=by
 refine @Eq.mpr _ (let q1:=AV.agg [AV.arr u8 32 b];let q2:=AV.agg [AV.arr u8 32 a];let q3:=AV.tuple [AV.agg [AV.arr u8 32 lo],AV.agg [AV.arr u8 32 hi]];
 Z6 (u8=u8/\List.length a=32) (Z6 (u8=u8/\List.length b=32) (Z7 (decide (X2 a b>0)) (a=a/\AV.tuple [q1,q2]=q3) (b=b/\AV.tuple [q2,q1]=q3)))) (by kernel_rfl) ?_
 conv=>zeta
 try simp only [vcA]
 try simp only [vcB]
 try simp only [vcC]
 subst hl hh
 unfold loH hiH
 refine ⟨ha,hb,fun h=> ?_,fun h=> ?_⟩
 ·rw [if_pos h,if_pos h]
 ·rw [if_neg h,if_neg h]
def Zjd:ZH:=fun args _ K=>match args with
 | [.agg [.arr .u8 32 a],.agg [.arr .u8 32 b]]=>(a.length=32/\b.length=32)/\K (.tuple [.agg [.arr .u8 32 (loH a b)],.agg [.arr .u8 32 (hiH a b)]])
 | _=>False
theorem Zgw (args:List AV) (h:Z8) (K:AV->Prop) (hl:Zjd args h K):Ze PP 45 args h fun o h'=>∃v,o=.ret v/\h'=h/\K v:=by
 unfold Zjd at hl
 split at hl
 ·obtain ⟨⟨h1,h2⟩,hK⟩:=hl
  exact X3 Zm rfl (ZlM _ _ _ _ h1 h2 rfl rfl) (fun u hu=>hu▸hK)
 ·exact hl.elim
theorem Z5T {a b:List Int} (ha:a.length=32) (hb:b.length=32):(loH a b).length=32:=by unfold loH;split<;>assumption
theorem Z5U {a b:List Int} (ha:a.length=32) (hb:b.length=32):(hiH a b).length=32:=by unfold hiH;split<;>assumption
theorem ZlN (m:Nat) (g:Nat->InS) (hm:m<1000):
  evF G0 20 91 [.vrows 130 (m+1) (Zg g) (m+1)] ⟨0,[]⟩ (ZF 0 (.ret (.nslice ⟨0,0,130,0,0⟩ 130 (m+1) (m+1))) 1 [(0,.rows 130 (m+1) (Zg g))]):=by
 refine @Eq.mpr _ (let q1:=m+1;let q2:=0+q1;let q3:=decide (q2=q1);
 Z6 (q2*144<=140737488355328) (Z0 q3 (Z6 (q1<=q2) (Z0 q3 (Zo 0 [(0,0)] q1 (Zg g) (ZT 0 (fun (x:Nat)=>[]) (Zg g))/\True))))) (by kernel_rfl) ?_
 conv=>zeta
 try simp only [vcA]
 try simp only [vcB]
 try simp only [vcC]
 exact ⟨by omega,Yc fun i _=>by rw [Vj (JC _)];rfl⟩
theorem ZlO (g:Nat->InS) :
  evF G0 20 91 [.nilslice] ⟨0,[]⟩ (ZF 0 (.ret (.nslice ⟨0,0,130,0,0⟩ 130 0 0)) 1 [(0,.rows 130 0 (Zg g))]):=by
 refine @Eq.mpr _ (True) (by kernel_rfl) ?_
 trivial
theorem ZlP (g:Nat->InS) :
  evF G0 20 91 [.fslice] ⟨0,[]⟩ (ZF 0 (.ret (.nslice ⟨0,0,130,0,0⟩ 130 0 0)) 1 [(0,.rows 130 0 (Zg g))]):=by
 refine @Eq.mpr _ (Zo 0 [(0,0)] 0 (Zg g) (ZT 0 (fun (x:Nat)=>[]) fun (x:Nat)=>[])/\True) (by kernel_rfl) ?_
 try simp only [vcA]
 try simp only [vcB]
 try simp only [vcC]
 exact Yc fun i hi=>absurd hi (Ki i)
theorem ZdS (n:Nat) (g:Nat->InS) (hn:n<1000):Zs PP 91 [.vrows 130 n (Zg g) n] (.nslice ⟨0,0,130,0,0⟩ 130 n n) 1 [(0,.rows 130 n (Zg g))]:=by
 match n,hn with
 | 0,_=>exact Zs.vrows0 (.evM Zm (ZlO g)) (.evM Zm (ZlP g))
 | m+1,h=>exact .evM Zm (ZlN m g (by omega))
def Zje:ZN:=fun args h K=>ZA none h true 20 args fun a=>match a with
 | [v]=>∃N g,Z3V v N g/\N<1000/\K (.ret (.nslice ⟨h.next,0,130,0,0⟩ 130 N N)) ⟨h.next+1,(h.next,.rows 130 N (Zg g))::h.bs⟩
 | _=>False
theorem Zgx (args:List AV) (h:Z8) (K:KO) (hl:Zje args h K):Ze PP 91 args h K:=by
 refine Zs.fsumm (d:=20) (Zk _ _ _ _ _ hl fun a ha=> ?_)
 split at ha
 ·obtain ⟨N,g,h1,h2,hK⟩:=ha
  exact ⟨_,_,_,_,(ZdS N g h2).conv fun E r hr=>hr.head (fun _ hc=>h1.rel hc) (fun _ hc=>hc),rfl,⟨by decide,.rows _ _ _ (fun i _=>(g i).plainC),trivial⟩,hK⟩
 ·exact ha.elim
theorem ZlQ (m:Nat) (g:Nat->ZE) (hm:m<1000):
  evF G0 20 92 [.vrows 132 (m+1) (Zf g) (m+1)] ⟨0,[]⟩ (ZF 0 (.ret (.nslice ⟨0,0,132,0,0⟩ 132 (m+1) (m+1))) 1 [(0,.rows 132 (m+1) (Zf g))]):=by
 refine @Eq.mpr _ (let q1:=m+1;let q2:=0+q1;let q3:=decide (q2=q1);
 Z6 (q2*160<=140737488355328) (Z0 q3 (Z6 (q1<=q2) (Z0 q3 (Zo 0 [(0,0)] q1 (Zf g) (ZT 0 (fun (x:Nat)=>[]) (Zf g))/\True))))) (by kernel_rfl) ?_
 conv=>zeta
 try simp only [vcA]
 try simp only [vcB]
 try simp only [vcC]
 exact ⟨by omega,ZK fun i _=>by rw [Vj (JC _)];rfl⟩
theorem ZlR (g:Nat->ZE) :
  evF G0 20 92 [.nilslice] ⟨0,[]⟩ (ZF 0 (.ret (.nslice ⟨0,0,132,0,0⟩ 132 0 0)) 1 [(0,.rows 132 0 (Zf g))]):=by
 refine @Eq.mpr _ (True) (by kernel_rfl) ?_
 trivial
theorem ZlS (g:Nat->ZE) :
  evF G0 20 92 [.fslice] ⟨0,[]⟩ (ZF 0 (.ret (.nslice ⟨0,0,132,0,0⟩ 132 0 0)) 1 [(0,.rows 132 0 (Zf g))]):=by
 refine @Eq.mpr _ (Zo 0 [(0,0)] 0 (Zf g) (ZT 0 (fun (x:Nat)=>[]) fun (x:Nat)=>[])/\True) (by kernel_rfl) ?_
 try simp only [vcA]
 try simp only [vcB]
 try simp only [vcC]
 exact ZK fun i hi=>absurd hi (Ki i)
theorem ZdT (n:Nat) (g:Nat->ZE) (hn:n<1000):Zs PP 92 [.vrows 132 n (Zf g) n] (.nslice ⟨0,0,132,0,0⟩ 132 n n) 1 [(0,.rows 132 n (Zf g))]:=by
 match n,hn with
 | 0,_=>exact Zs.vrows0 (.evM Zm (ZlR g)) (.evM Zm (ZlS g))
 | m+1,h=>exact .evM Zm (ZlQ m g (by omega))
def Zjf:ZN:=fun args h K=>ZA none h true 20 args fun a=>match a with
 | [v]=>∃N g,Z1z v N g/\N<1000/\K (.ret (.nslice ⟨h.next,0,132,0,0⟩ 132 N N)) ⟨h.next+1,(h.next,.rows 132 N (Zf g))::h.bs⟩
 | _=>False
theorem Zgy (args:List AV) (h:Z8) (K:KO) (hl:Zjf args h K):Ze PP 92 args h K:=by
 refine Zs.fsumm (d:=20) (Zk _ _ _ _ _ hl fun a ha=> ?_)
 split at ha
 ·obtain ⟨N,g,h1,h2,hK⟩:=ha
  exact ⟨_,_,_,_,(ZdT N g h2).conv fun E r hr=>hr.head (fun _ hc=>h1.rel hc) (fun _ hc=>hc),rfl,⟨by decide,.rows _ _ _ (fun i _=>(g i).plainC),trivial⟩,hK⟩
 ·exact ha.elim
end Go.Tk
end
