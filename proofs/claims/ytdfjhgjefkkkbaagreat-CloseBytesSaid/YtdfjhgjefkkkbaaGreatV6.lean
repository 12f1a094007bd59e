/- V: part 6 of an engine (a symbolic evaluator, proved against the model) and of the walk by it. -/
import Derived.Test.YtdfjhgjefkkkbaaGreatV5
import Derived.Test.YtdfjhgjefkkkbaaGreatRows
import Derived.ChangeOld
set_option linter.unusedVariables false
set_option linter.unusedSimpArgs false
set_option maxRecDepth 100000
set_option maxHeartbeats 0
section
namespace Go.Tk
open IntKind (i64 u8 u32 u64 wrap)
def clP (k:ClS) (s:Int) (o g:Bool):ClS:=⟨k.t,s,k.a0,k.a1,k.least,k.most,o,k.last,g,k.fee⟩
def clT (k:ClS) (sd:Int) (o:Bool) (la:Int) (g:Bool) (fe:Int):List AV:=[.arr .u8 32 k.t.fund,.int .i64 k.t.index,.int .i64 k.t.cap,.int .i64 k.t.dust,.int .i64 k.t.fee,.int .i64 k.t.delay,.arr .u8 32 k.t.k0,.arr .u8 32 k.t.k1,.int .i64 sd,.arr .i64 2 [k.a0,k.a1],.int .i64 k.least,.int .i64 k.most,.bool o,.int .i64 la,.bool g,.int .i64 fe,.bool true]
theorem ndT {P:Prop} [Decidable P] (h:(!decide P)=true):¬P:=by simpa using h
theorem ndF {P:Prop} [Decidable P] (h:(!decide P)=false):P:=by simpa using h
structure HdC (SB:Zv→Bool) (k:ClS) (s:Zv):Prop where
 S:SB s=true
 K:s.kind=13
 A:k.agrees=false
structure HtC (SB:Zv→Bool) (Tg:List Int→TxS→List Int) (k:ClS) (s:Zv):Prop where
 h:HdC SB k s
 E:ZW k.t k.a0 k.a1 s.amount=0
 T:Xj Tg k s.amount (1-k.side)=s.tag
theorem Z40 {SB:Zv→Bool} {M:Int→Int→Int} {Tg:List Int→TxS→List Int} {k:ClS} {s:Zv} (h:SB s=false):XL SB M Tg k s=noR k 2:=by unfold XL;rw [if_pos h]
theorem Z0M {SB:Zv→Bool} {M:Int→Int→Int} {Tg:List Int→TxS→List Int} {k:ClS} {s:Zv} (h:SB s=true) (h2:s.kind≠13):XL SB M Tg k s=noR k 210:=by
 unfold XL;rw [if_neg (by rw [h];decide),if_pos h2]
theorem ZcN {SB:Zv→Bool} {M:Int→Int→Int} {Tg:List Int→TxS→List Int} {k:ClS} {s:Zv} (h:SB s=true) (h2:s.kind=13) (h3:k.agrees=true):XL SB M Tg k s=noR k 250:=by
 unfold XL;rw [if_neg (by rw [h];decide),if_neg (fun h=>h h2),if_pos h3]
theorem Z0N {SB:Zv→Bool} {M:Int→Int→Int} {Tg:List Int→TxS→List Int} {k:ClS} {s:Zv} {m:Int} (h:HdC SB k s) (he:ZW k.t k.a0 k.a1 s.amount=m) (hm:m≠0):XL SB M Tg k s=noR k m:=by
 unfold XL;rw [if_neg (by rw [h.S];decide),if_neg (fun q=>q h.K),if_neg (by rw [h.A];decide),if_pos (by rw [he];exact hm),he]
theorem Z41 {SB:Zv→Bool} {M:Int→Int→Int} {Tg:List Int→TxS→List Int} {k:ClS} {s:Zv} (h:HdC SB k s) (he:ZW k.t k.a0 k.a1 s.amount=0) (ht:Xj Tg k s.amount (1-k.side)≠s.tag):XL SB M Tg k s=noR k 221:=by
 unfold XL;rw [if_neg (by rw [h.S];decide),if_neg (fun q=>q h.K),if_neg (by rw [h.A];decide),if_neg (fun q=>q he),if_pos ht]
theorem Z7y {SB:Zv→Bool} {M:Int→Int→Int} {Tg:List Int→TxS→List Int} {k:ClS} {s:Zv} (h:HtC SB Tg k s):XL SB M Tg k s=if k.offers=true∧k.last=s.amount then ⟨0,0,0,Z5,false,k.offers,k.last,true,s.amount⟩
  else if k.least≤s.amount∧s.amount≤k.most then ⟨0,13,s.amount,Xj Tg k s.amount k.side,true,true,s.amount,true,s.amount⟩
  else if k.offers=true∧X8 M k s.amount=k.last then noR k 252
  else if ZW k.t k.a0 k.a1 (X8 M k s.amount)≠0 then noR k (ZW k.t k.a0 k.a1 (X8 M k s.amount))
  else ⟨0,13,X8 M k s.amount,Xj Tg k (X8 M k s.amount) k.side,true,true,X8 M k s.amount,k.agrees,k.fee⟩:=by
 obtain ⟨h,he,ht⟩:=h
 unfold XL;rw [if_neg (by rw [h.S];decide),if_neg (fun q=>q h.K),if_neg (by rw [h.A];decide),if_neg (fun q=>q he),if_neg (fun q=>q ht)]
theorem Zb0 {n a b:Int} (h:a≤b):a≤Z39 n a b∧Z39 n a b≤b:=by unfold Z39;omega
theorem Z5d {M:Int→Int→Int} {k:ClS} {x:Int} (h:k.least≤k.most):k.least≤X8 M k x∧X8 M k x≤k.most:=Zb0 h
noncomputable def ZcO (SB:Zv→Bool) (M:Int→Int→Int) (Tg:List Int→TxS→List Int):Ze:=((((G0.withP 35 (ZcK SB)).withF 37 (h2S Tg)).withF 32 (ZcM Tg)).withP 40 inQ).withP 41 (nxS M)
theorem ZhE (SB:Zv→Bool) (M:Int→Int→Int) (Tg:List Int→TxS→List Int) (k:ClS) (s:Zv) (sd e kd am:Int) (tg:List Int) (sy of:Bool) (la:Int) (ag:Bool) (fe:Int) (hk:Xc (clP k sd false false)) (ht:k.t.All) (hl:s.Len) (hSB:SB s=true→0≤s.amount∧s.amount≤1125899906842624) (hR:XL SB M Tg (clP k sd false false) s=⟨e,kd,am,tg,sy,of,la,ag,fe⟩):
  evF (ZcO SB M Tg) 20 13 [.ptr (some ⟨0,0,0,0,0⟩),.agg s.c] ⟨1,[(0,.flat (clT k sd false k.last false k.fee))]⟩ (Y2 1 (.ret (.tuple [.agg (sdC kd am tg),.bool sy,.int .i64 e])) 1 [(0,.flat (clT k sd of la ag fe))]):=by
 refine @Eq.mpr _ (let q1:=s.t;
 let q2:=s.amount;
 let q3:=k.t;
 let q4:=q3.fund;
 let q5:=AV.arr u8 32 q4;
 let q6:=q3.index;
 let q7:=AV.int i64 q6;
 let q8:=q3.cap;
 let q9:=AV.int i64 q8;
 let q10:=q3.dust;
 let q11:=AV.int i64 q10;
 let q12:=q3.fee;
 let q13:=AV.int i64 q12;
 let q14:=q3.delay;
 let q15:=AV.int i64 q14;
 let q16:=q3.k0;
 let q17:=AV.arr u8 32 q16;
 let q18:=q3.k1;
 let q19:=AV.arr u8 32 q18;
 let q20:=[k.a0,k.a1];
 let q21:=AV.arr i64 2 q20;
 let q22:=k.least;
 let q23:=AV.int i64 q22;
 let q24:=k.most;
 let q25:=AV.int i64 q24;
 let q26:=AV.bool false;
 let q27:=AV.int i64 k.last;
 let q28:=AV.int i64 k.fee;
 let q29:=[q5,q7,q9,q11,q13,q15,q17,q19,AV.int i64 sd,q21,q23,q25,q26,q27,q26,q28,AV.bool true];
 let q30:=decide (0=kd);
 let q31:=decide (0=am);
 let q32:=decide (false=sy);
 let q33:=q4=q4;
 let q34:=decide (q6=q6);
 let q35:=decide (q8=q8);
 let q36:=decide (q10=q10);
 let q37:=decide (q12=q12);
 let q38:=decide (q14=q14);
 let q39:=q16=q16;
 let q40:=q18=q18;
 let q41:=decide (sd=sd);
 let q42:=q20=q20;
 let q43:=decide (q22=q22);
 let q44:=decide (q24=q24);
 let q45:=Z0 (decide (false=ag)) (Z0 (decide (k.fee=fe)) True False) False;
 let q46:=q33∧Z0 q34 (Z0 q35 (Z0 q36 (Z0 q37 (Z0 q38 (q39∧q40∧Z0 q41 (q42∧Z0 q43 (Z0 q44 (Z0 (decide (false=of)) (Z0 (decide (k.last=la)) q45 False) False) False) False) False) False) False) False) False) False;
 let q47:=Z0 q30 (Z5=Z5∧Z5=Z5∧Z5=Z5∧Z0 q31 (Z5=Z5∧Z5=Z5∧Z5=Z5∧Z5=Z5∧Z5=tg∧Z5=Z5∧ByteArray.empty=ByteArray.empty∧Z0 q32 (Z0 (decide (2=e)) q46 False) False) False) False;
 let q48:=Z0 q30 (Z5=Z5∧Z5=Z5∧Z5=Z5∧Z0 q31 (Z5=Z5∧Z5=Z5∧Z5=Z5∧Z5=Z5∧Z5=tg∧Z5=Z5∧ByteArray.empty=ByteArray.empty∧Z0 q32 (Z0 (decide (180=e)) q46 False) False) False) False;
 let q49:=decide (13=kd);
 let q50:=decide (true=sy);
 let q51:=decide (0=e);
 let q52:=decide (true=of);
 let q53:=decide (true=ag);
 let q54:=decide (q2=am);
 let q55:=decide (q2=la);
 ∃(s_1:Zv),
 let q111:=[AV.int i64 s.kind,AV.arr u8 32 q1.fund,AV.int i64 q1.index,AV.int i64 q1.cap,AV.int i64 q1.dust,AV.int i64 q1.fee,AV.int i64 q1.delay,AV.arr u8 32 q1.k0,AV.arr u8 32 q1.k1,AV.int i64 s.reserve,AV.int i64 q2,AV.arr u8 32 s.point,AV.arr u8 32 s.nxt,AV.arr u8 32 s.key,AV.arr u8 32 s.hash,AV.arr u8 32 s.tag,AV.arr u8 32 s.secret,AV.int i64 s.id,AV.int i64 s.number,AV.int i64 s.index,AV.int i64 s.expiry,AV.int i64 s.code,AV.str s.route];
 Z0B q111 s_1∧
 Zv.Len s_1∧
 (SB s_1=true→
 Z0 (s.kind==13)
 (∃(k:ClS),
 ∃(s:Zv),
 let q113:=ZW k.t k.a0 k.a1 s.amount;
 let q114:=Xj Tg k s.amount (1-k.side);
 Wi q29 k∧
 Z0B q111 s∧
 WF k∧
 Zv.Len s∧
 (q113=2→q47)∧
 (q113=180→q48)∧
 (q113=0→
 (q114≠s.tag→Z0 q30 (Z5=Z5∧Z5=Z5∧Z5=Z5∧Z0 q31 (Z5=Z5∧Z5=Z5∧Z5=Z5∧Z5=Z5∧Z5=tg∧Z5=Z5∧ByteArray.empty=ByteArray.empty∧Z0 q32 (Z0 (decide (221=e)) q46 False) False) False) False)∧
 (q114=s.tag→
 Z0 (!decide (q22≤q2∧q2≤q24))
 (∃(k:ClS),
 let q117:=X8 M k q2;
 let q118:=decide (q117=am);
 let q119:=decide (q117=la);
 Qw [q5,q7,q9,q11,q13,q15,q17,q19,AV.int i64 sd,q21,q23,q25,q26,q27,q26,q28] k∧
 ((0≤k.last∧k.last≤1125899906842624)∧0≤q2∧q2≤1125899906842624)∧
 ∃(k:ClS),
 let q123:=ZW k.t k.a0 k.a1 q117;
 let q124:=Xj Tg k q117 k.side=tg;
 Wi q29 k∧
 WF k∧
 (q123=0→Z0 (q117==q2) (Z0 q49 (Z5=Z5∧Z5=Z5∧Z5=Z5∧Z0 q118 (Z5=Z5∧Z5=Z5∧Z5=Z5∧Z5=Z5∧q124∧Z5=Z5∧ByteArray.empty=ByteArray.empty∧Z0 q50 (Z0 q51 (q33∧Z0 q34 (Z0 q35 (Z0 q36 (Z0 q37 (Z0 q38 (q39∧q40∧Z0 q41 (q42∧Z0 q43 (Z0 q44 (Z0 q52 (Z0 q119 (Z0 q53 (Z0 (decide (q117=fe)) True False) False) False) False) False) False) False) False) False) False) False) False) False) False) False) False) (Z0 q49 (Z5=Z5∧Z5=Z5∧Z5=Z5∧Z0 q118 (Z5=Z5∧Z5=Z5∧Z5=Z5∧Z5=Z5∧q124∧Z5=Z5∧ByteArray.empty=ByteArray.empty∧Z0 q50 (Z0 q51 (q33∧Z0 q34 (Z0 q35 (Z0 q36 (Z0 q37 (Z0 q38 (q39∧q40∧Z0 q41 (q42∧Z0 q43 (Z0 q44 (Z0 q52 (Z0 q119 q45 False) False) False) False) False) False) False) False) False) False) False) False) False) False))∧
 (q123=2→q47)∧(q123=180→q48))
 (∃(k:ClS),
 let q117:=ZW k.t k.a0 k.a1 q2;
 let q118:=Xj Tg k q2 k.side=tg;
 Wi q29 k∧
 WF k∧
 (q117=0→Z0 (q2==q2) (Z0 q49 (Z5=Z5∧Z5=Z5∧Z5=Z5∧Z0 q54 (Z5=Z5∧Z5=Z5∧Z5=Z5∧Z5=Z5∧q118∧Z5=Z5∧ByteArray.empty=ByteArray.empty∧Z0 q50 (Z0 q51 (q33∧Z0 q34 (Z0 q35 (Z0 q36 (Z0 q37 (Z0 q38 (q39∧q40∧Z0 q41 (q42∧Z0 q43 (Z0 q44 (Z0 q52 (Z0 q55 (Z0 q53 (Z0 (decide (q2=fe)) True False) False) False) False) False) False) False) False) False) False) False) False) False) False) False) False) (Z0 q49 (Z5=Z5∧Z5=Z5∧Z5=Z5∧Z0 q54 (Z5=Z5∧Z5=Z5∧Z5=Z5∧Z5=Z5∧q118∧Z5=Z5∧ByteArray.empty=ByteArray.empty∧Z0 q50 (Z0 q51 (q33∧Z0 q34 (Z0 q35 (Z0 q36 (Z0 q37 (Z0 q38 (q39∧q40∧Z0 q41 (q42∧Z0 q43 (Z0 q44 (Z0 q52 (Z0 q55 q45 False) False) False) False) False) False) False) False) False) False) False) False) False) False))∧
 (q117=2→q47)∧(q117=180→q48)))))
 (Z0 q30 (Z5=Z5∧Z5=Z5∧Z5=Z5∧Z0 q31 (Z5=Z5∧Z5=Z5∧Z5=Z5∧Z5=Z5∧Z5=tg∧Z5=Z5∧ByteArray.empty=ByteArray.empty∧Z0 q32 (Z0 (decide (210=e)) q46 False) False) False) False))∧
 (SB s_1=false→q47)) (by kernel_rfl) ?_
 conv=>zeta
 try simp only [Zc]
 try simp only [Zj]
 try simp only [Zd]
 try simp only [Zk]
 try simp only [Zl]
 try simp only [Zb]
 try simp only [Int.toNat_natCast,Nat.zero_add,true_and,and_true,Nat.le_refl]
 have hm:=hk.made
 have hd:=Qv hm.t
 have hfe:=hk.fee_le
 have q3:=hm.a1
 have q4:=hm.sum
 have q5:=hm.lm
 have hlast:0≤(clP k sd false false).last∧(clP k sd false false).last≤1125899906842624:=by omega
 have hOff:WF (clP k sd false false):=⟨ht,by omega,hm.side⟩
 have hnx:=fun x=>Z5d (M:=M) (x:=x) hm.lm
 refine ⟨s,⟨rfl⟩,hl,fun hS=>⟨fun hK=> ?_,fun hK=> ?_⟩,fun hS=> ?_⟩
 rotate_left
 ·cases hR.symm.trans (Z0M hS (beq_eq_false_iff_ne.1 hK))
  and_intros<;>rfl
 ·cases hR.symm.trans (Z40 hS)
  and_intros<;>rfl
 have hd:HdC SB (clP k sd false false) s:=⟨hS,beq_iff_eq.1 hK,rfl⟩
 refine ⟨(clP k sd false false),s,⟨rfl⟩,⟨rfl⟩,hOff,hl,fun hE=> ?_,fun hE=> ?_,fun hE=>⟨fun hT=> ?_,fun hT=> ?_⟩⟩
 ·cases hR.symm.trans (Z0N hd hE (by decide))
  and_intros<;>rfl
 ·cases hR.symm.trans (Z0N hd hE (by decide))
  and_intros<;>rfl
 ·cases hR.symm.trans (Z41 hd hE hT)
  and_intros<;>rfl
 have hx:=hR.symm.trans (Z7y ⟨hd,hE,hT⟩)
 have hno:¬((clP k sd false false).offers=true∧(clP k sd false false).last=s.amount):=fun h=>nomatch h.1
 refine ⟨fun hi=> ?_,fun hi=> ?_⟩
 ·have hi:¬((clP k sd false false).least≤s.amount∧s.amount≤(clP k sd false false).most):=ndT hi
  rw [if_neg hno,if_neg hi] at hx
  have hq2:¬((clP k sd false false).offers=true∧X8 M (clP k sd false false) s.amount=(clP k sd false false).last):=fun h=>nomatch h.1
  refine ⟨(clP k sd false false),⟨rfl⟩,⟨hlast,hSB hS⟩,(clP k sd false false),⟨rfl⟩,hOff,fun hN=>⟨fun hq=> ?_,fun _=> ?_⟩,fun hN=> ?_,fun hN=> ?_⟩
  ·have:=hnx s.amount
   rw [beq_iff_eq.1 hq] at this
   exact absurd this hi
  ·rw [if_neg hq2,if_neg (fun q=>q hN)] at hx
   cases hx
   and_intros<;>rfl
  ·rw [if_neg hq2,if_pos (by rw [hN];decide),hN] at hx
   cases hx
   and_intros<;>rfl
  ·rw [if_neg hq2,if_pos (by rw [hN];decide),hN] at hx
   cases hx
   and_intros<;>rfl
 ·have hi:(clP k sd false false).least≤s.amount∧s.amount≤(clP k sd false false).most:=ndF hi
  rw [if_neg hno,if_pos hi] at hx
  refine ⟨(clP k sd false false),⟨rfl⟩,hOff,fun hN=>⟨fun _=> ?_,fun hq=> ?_⟩,fun hN=> ?_,fun hN=> ?_⟩
  ·cases hx
   and_intros<;>rfl
  ·exact absurd rfl (beq_eq_false_iff_ne.1 hq)
  ·exact absurd (hE.symm.trans hN) (by decide)
  ·exact absurd (hE.symm.trans hN) (by decide)
theorem ZhF (SB:Zv→Bool) (M:Int→Int→Int) (Tg:List Int→TxS→List Int) (k:ClS) (s:Zv) (sd e kd am:Int) (tg:List Int) (sy of:Bool) (la:Int) (ag:Bool) (fe:Int) (hk:Xc (clP k sd true false)) (ht:k.t.All) (hl:s.Len) (hSB:SB s=true→0≤s.amount∧s.amount≤1125899906842624) (hR:XL SB M Tg (clP k sd true false) s=⟨e,kd,am,tg,sy,of,la,ag,fe⟩):
  evF (ZcO SB M Tg) 20 13 [.ptr (some ⟨0,0,0,0,0⟩),.agg s.c] ⟨1,[(0,.flat (clT k sd true k.last false k.fee))]⟩ (Y2 1 (.ret (.tuple [.agg (sdC kd am tg),.bool sy,.int .i64 e])) 1 [(0,.flat (clT k sd of la ag fe))]):=by
 refine @Eq.mpr _ (let q1:=s.t;
 let q2:=s.amount;
 let q3:=k.t;
 let q4:=q3.fund;
 let q5:=AV.arr u8 32 q4;
 let q6:=q3.index;
 let q7:=AV.int i64 q6;
 let q8:=q3.cap;
 let q9:=AV.int i64 q8;
 let q10:=q3.dust;
 let q11:=AV.int i64 q10;
 let q12:=q3.fee;
 let q13:=AV.int i64 q12;
 let q14:=q3.delay;
 let q15:=AV.int i64 q14;
 let q16:=q3.k0;
 let q17:=AV.arr u8 32 q16;
 let q18:=q3.k1;
 let q19:=AV.arr u8 32 q18;
 let q20:=[k.a0,k.a1];
 let q21:=AV.arr i64 2 q20;
 let q22:=k.least;
 let q23:=AV.int i64 q22;
 let q24:=k.most;
 let q25:=AV.int i64 q24;
 let q26:=AV.bool true;
 let q27:=k.last;
 let q28:=AV.int i64 q27;
 let q29:=AV.int i64 k.fee;
 let q30:=[q5,q7,q9,q11,q13,q15,q17,q19,AV.int i64 sd,q21,q23,q25,q26,q28,AV.bool false,q29,q26];
 let q31:=decide (0=kd);
 let q32:=decide (0=am);
 let q33:=decide (false=sy);
 let q34:=q4=q4;
 let q35:=decide (q6=q6);
 let q36:=decide (q8=q8);
 let q37:=decide (q10=q10);
 let q38:=decide (q12=q12);
 let q39:=decide (q14=q14);
 let q40:=q16=q16;
 let q41:=q18=q18;
 let q42:=decide (sd=sd);
 let q43:=q20=q20;
 let q44:=decide (q22=q22);
 let q45:=decide (q24=q24);
 let q46:=decide (true=of);
 let q47:=decide (q27=la);
 let q48:=Z0 (decide (false=ag)) (Z0 (decide (k.fee=fe)) True False) False;
 let q49:=q34∧Z0 q35 (Z0 q36 (Z0 q37 (Z0 q38 (Z0 q39 (q40∧q41∧Z0 q42 (q43∧Z0 q44 (Z0 q45 (Z0 q46 (Z0 q47 q48 False) False) False) False) False) False) False) False) False) False;
 let q50:=Z0 q31 (Z5=Z5∧Z5=Z5∧Z5=Z5∧Z0 q32 (Z5=Z5∧Z5=Z5∧Z5=Z5∧Z5=Z5∧Z5=tg∧Z5=Z5∧ByteArray.empty=ByteArray.empty∧Z0 q33 (Z0 (decide (2=e)) q49 False) False) False) False;
 let q51:=Z0 q31 (Z5=Z5∧Z5=Z5∧Z5=Z5∧Z0 q32 (Z5=Z5∧Z5=Z5∧Z5=Z5∧Z5=Z5∧Z5=tg∧Z5=Z5∧ByteArray.empty=ByteArray.empty∧Z0 q33 (Z0 (decide (180=e)) q49 False) False) False) False;
 let q52:=decide (0=e);
 let q53:=decide (true=ag);
 let q54:=Z0 q53 (Z0 (decide (q2=fe)) True False) False;
 let q55:=decide (13=kd);
 let q56:=decide (true=sy);
 let q57:=decide (q2=am);
 let q58:=decide (q2=la);
 ∃(s_1:Zv),
 let q117:=[AV.int i64 s.kind,AV.arr u8 32 q1.fund,AV.int i64 q1.index,AV.int i64 q1.cap,AV.int i64 q1.dust,AV.int i64 q1.fee,AV.int i64 q1.delay,AV.arr u8 32 q1.k0,AV.arr u8 32 q1.k1,AV.int i64 s.reserve,AV.int i64 q2,AV.arr u8 32 s.point,AV.arr u8 32 s.nxt,AV.arr u8 32 s.key,AV.arr u8 32 s.hash,AV.arr u8 32 s.tag,AV.arr u8 32 s.secret,AV.int i64 s.id,AV.int i64 s.number,AV.int i64 s.index,AV.int i64 s.expiry,AV.int i64 s.code,AV.str s.route];
 Z0B q117 s_1∧
 Zv.Len s_1∧
 (SB s_1=true→
 Z0 (s.kind==13)
 (∃(k:ClS),
 ∃(s:Zv),
 let q119:=ZW k.t k.a0 k.a1 s.amount;
 let q120:=Xj Tg k s.amount (1-k.side);
 Wi q30 k∧
 Z0B q117 s∧
 WF k∧
 Zv.Len s∧
 (q119=2→q50)∧
 (q119=180→q51)∧
 (q119=0→
 (q120≠s.tag→Z0 q31 (Z5=Z5∧Z5=Z5∧Z5=Z5∧Z0 q32 (Z5=Z5∧Z5=Z5∧Z5=Z5∧Z5=Z5∧Z5=tg∧Z5=Z5∧ByteArray.empty=ByteArray.empty∧Z0 q33 (Z0 (decide (221=e)) q49 False) False) False) False)∧
 (q120=s.tag→
 Z0 (q27==q2) (Z0 q31 (Z5=Z5∧Z5=Z5∧Z5=Z5∧Z0 q32 (Z5=Z5∧Z5=Z5∧Z5=Z5∧Z5=Z5∧Z5=tg∧Z5=Z5∧ByteArray.empty=ByteArray.empty∧Z0 q33 (Z0 q52 (q34∧Z0 q35 (Z0 q36 (Z0 q37 (Z0 q38 (Z0 q39 (q40∧q41∧Z0 q42 (q43∧Z0 q44 (Z0 q45 (Z0 q46 (Z0 q47 q54 False) False) False) False) False) False) False) False) False) False) False) False) False) False)
 (Z0 (!decide (q22≤q2∧q2≤q24))
 (∃(k:ClS),
 let q123:=X8 M k q2;
 let q124:=decide (q123=am);
 let q125:=decide (q123=la);
 Qw [q5,q7,q9,q11,q13,q15,q17,q19,AV.int i64 sd,q21,q23,q25,q26,q28,AV.bool false,q29] k∧
 ((0≤k.last∧k.last≤1125899906842624)∧0≤q2∧q2≤1125899906842624)∧
 Z0 (q123==q27) (Z0 q31 (Z5=Z5∧Z5=Z5∧Z5=Z5∧Z0 q32 (Z5=Z5∧Z5=Z5∧Z5=Z5∧Z5=Z5∧Z5=tg∧Z5=Z5∧ByteArray.empty=ByteArray.empty∧Z0 q33 (Z0 (decide (252=e)) q49 False) False) False) False)
 (∃(k:ClS),
 let q129:=ZW k.t k.a0 k.a1 q123;
 let q130:=Xj Tg k q123 k.side=tg;
 Wi q30 k∧
 WF k∧
 (q129=0→Z0 (q123==q2) (Z0 q55 (Z5=Z5∧Z5=Z5∧Z5=Z5∧Z0 q124 (Z5=Z5∧Z5=Z5∧Z5=Z5∧Z5=Z5∧q130∧Z5=Z5∧ByteArray.empty=ByteArray.empty∧Z0 q56 (Z0 q52 (q34∧Z0 q35 (Z0 q36 (Z0 q37 (Z0 q38 (Z0 q39 (q40∧q41∧Z0 q42 (q43∧Z0 q44 (Z0 q45 (Z0 q46 (Z0 q125 (Z0 q53 (Z0 (decide (q123=fe)) True False) False) False) False) False) False) False) False) False) False) False) False) False) False) False) False) (Z0 q55 (Z5=Z5∧Z5=Z5∧Z5=Z5∧Z0 q124 (Z5=Z5∧Z5=Z5∧Z5=Z5∧Z5=Z5∧q130∧Z5=Z5∧ByteArray.empty=ByteArray.empty∧Z0 q56 (Z0 q52 (q34∧Z0 q35 (Z0 q36 (Z0 q37 (Z0 q38 (Z0 q39 (q40∧q41∧Z0 q42 (q43∧Z0 q44 (Z0 q45 (Z0 q46 (Z0 q125 q48 False) False) False) False) False) False) False) False) False) False) False) False) False) False))∧
 (q129=2→q50)∧(q129=180→q51)))
 (∃(k:ClS),
 let q123:=ZW k.t k.a0 k.a1 q2;
 let q124:=Xj Tg k q2 k.side=tg;
 Wi q30 k∧
 WF k∧(q123=0→Z0 (q2==q2) (Z0 q55 (Z5=Z5∧Z5=Z5∧Z5=Z5∧Z0 q57 (Z5=Z5∧Z5=Z5∧Z5=Z5∧Z5=Z5∧q124∧Z5=Z5∧ByteArray.empty=ByteArray.empty∧Z0 q56 (Z0 q52 (q34∧Z0 q35 (Z0 q36 (Z0 q37 (Z0 q38 (Z0 q39 (q40∧q41∧Z0 q42 (q43∧Z0 q44 (Z0 q45 (Z0 q46 (Z0 q58 q54 False) False) False) False) False) False) False) False) False) False) False) False) False) False) (Z0 q55 (Z5=Z5∧Z5=Z5∧Z5=Z5∧Z0 q57 (Z5=Z5∧Z5=Z5∧Z5=Z5∧Z5=Z5∧q124∧Z5=Z5∧ByteArray.empty=ByteArray.empty∧Z0 q56 (Z0 q52 (q34∧Z0 q35 (Z0 q36 (Z0 q37 (Z0 q38 (Z0 q39 (q40∧q41∧Z0 q42 (q43∧Z0 q44 (Z0 q45 (Z0 q46 (Z0 q58 q48 False) False) False) False) False) False) False) False) False) False) False) False) False) False))∧(q123=2→q50)∧(q123=180→q51))))))
 (Z0 q31 (Z5=Z5∧Z5=Z5∧Z5=Z5∧Z0 q32 (Z5=Z5∧Z5=Z5∧Z5=Z5∧Z5=Z5∧Z5=tg∧Z5=Z5∧ByteArray.empty=ByteArray.empty∧Z0 q33 (Z0 (decide (210=e)) q49 False) False) False) False))∧
 (SB s_1=false→q50)) (by kernel_rfl) ?_
 conv=>zeta
 try simp only [Zc]
 try simp only [Zj]
 try simp only [Zd]
 try simp only [Zk]
 try simp only [Zl]
 try simp only [Zb]
 try simp only [Int.toNat_natCast,Nat.zero_add,true_and,and_true,Nat.le_refl]
 have hm:=hk.made
 have hd:=Qv hm.t
 have hfe:=hk.fee_le
 have q3:=hm.a1
 have q4:=hm.sum
 have q5:=hm.lm
 have hlast:0≤(clP k sd true false).last∧(clP k sd true false).last≤1125899906842624:=by omega
 have hOff:WF (clP k sd true false):=⟨ht,by omega,hm.side⟩
 have hnx:=fun x=>Z5d (M:=M) (x:=x) hm.lm
 refine ⟨s,⟨rfl⟩,hl,fun hS=>⟨fun hK=> ?_,fun hK=> ?_⟩,fun hS=> ?_⟩
 rotate_left
 ·cases hR.symm.trans (Z0M hS (beq_eq_false_iff_ne.1 hK))
  and_intros<;>rfl
 ·cases hR.symm.trans (Z40 hS)
  and_intros<;>rfl
 have hd:HdC SB (clP k sd true false) s:=⟨hS,beq_iff_eq.1 hK,rfl⟩
 refine ⟨(clP k sd true false),s,⟨rfl⟩,⟨rfl⟩,hOff,hl,fun hE=> ?_,fun hE=> ?_,fun hE=>⟨fun hT=> ?_,fun hT=> ?_⟩⟩
 ·cases hR.symm.trans (Z0N hd hE (by decide))
  and_intros<;>rfl
 ·cases hR.symm.trans (Z0N hd hE (by decide))
  and_intros<;>rfl
 ·cases hR.symm.trans (Z41 hd hE hT)
  and_intros<;>rfl
 have hx:=hR.symm.trans (Z7y ⟨hd,hE,hT⟩)
 refine ⟨fun hlt=> ?_,fun hlt=> ?_⟩
 ·rw [if_pos (⟨rfl,beq_iff_eq.1 hlt⟩:(clP k sd true false).offers=true∧(clP k sd true false).last=s.amount)] at hx
  cases hx
  and_intros<;>rfl
 have hno:¬((clP k sd true false).offers=true∧(clP k sd true false).last=s.amount):=fun h=>beq_eq_false_iff_ne.1 hlt h.2
 refine ⟨fun hi=> ?_,fun hi=> ?_⟩
 ·have hi:¬((clP k sd true false).least≤s.amount∧s.amount≤(clP k sd true false).most):=ndT hi
  rw [if_neg hno,if_neg hi] at hx
  refine ⟨(clP k sd true false),⟨rfl⟩,⟨hlast,hSB hS⟩,fun ha=> ?_,fun ha=> ?_⟩
  ·rw [if_pos (⟨rfl,beq_iff_eq.1 ha⟩:(clP k sd true false).offers=true∧X8 M (clP k sd true false) s.amount=(clP k sd true false).last)] at hx
   cases hx
   and_intros<;>rfl
  have hq2:¬((clP k sd true false).offers=true∧X8 M (clP k sd true false) s.amount=(clP k sd true false).last):=fun h=>beq_eq_false_iff_ne.1 ha h.2
  refine ⟨(clP k sd true false),⟨rfl⟩,hOff,fun hN=>⟨fun hq=> ?_,fun _=> ?_⟩,fun hN=> ?_,fun hN=> ?_⟩
  ·have:=hnx s.amount
   rw [beq_iff_eq.1 hq] at this
   exact absurd this hi
  ·rw [if_neg hq2,if_neg (fun q=>q hN)] at hx
   cases hx
   and_intros<;>rfl
  ·rw [if_neg hq2,if_pos (by rw [hN];decide),hN] at hx
   cases hx
   and_intros<;>rfl
  ·rw [if_neg hq2,if_pos (by rw [hN];decide),hN] at hx
   cases hx
   and_intros<;>rfl
 ·have hi:(clP k sd true false).least≤s.amount∧s.amount≤(clP k sd true false).most:=ndF hi
  rw [if_neg hno,if_pos hi] at hx
  refine ⟨(clP k sd true false),⟨rfl⟩,hOff,fun hN=>⟨fun _=> ?_,fun hq=> ?_⟩,fun hN=> ?_,fun hN=> ?_⟩
  ·cases hx
   and_intros<;>rfl
  ·exact absurd rfl (beq_eq_false_iff_ne.1 hq)
  ·exact absurd (hE.symm.trans hN) (by decide)
  ·exact absurd (hE.symm.trans hN) (by decide)
theorem ZhG (SB:Zv→Bool) (M:Int→Int→Int) (Tg:List Int→TxS→List Int) (k:ClS) (s:Zv) (sd e kd am:Int) (of0:Bool) (tg:List Int) (sy of:Bool) (la:Int) (ag:Bool) (fe:Int) (hl:s.Len) (hR:XL SB M Tg (clP k sd of0 true) s=⟨e,kd,am,tg,sy,of,la,ag,fe⟩):
  evF (ZcO SB M Tg) 20 13 [.ptr (some ⟨0,0,0,0,0⟩),.agg s.c] ⟨1,[(0,.flat (clT k sd of0 k.last true k.fee))]⟩ (Y2 1 (.ret (.tuple [.agg (sdC kd am tg),.bool sy,.int .i64 e])) 1 [(0,.flat (clT k sd of la ag fe))]):=by
 refine @Eq.mpr _ (let q1:=s.t;
 let q2:=decide (0=kd);
 let q3:=decide (0=am);
 let q4:=decide (false=sy);
 let q5:=k.t;
 let q6:=q5.fund;
 let q7:=q5.index;
 let q8:=q5.cap;
 let q9:=q5.dust;
 let q10:=q5.fee;
 let q11:=q5.delay;
 let q12:=q5.k0;
 let q13:=q5.k1;
 let q14:=[k.a0,k.a1];
 let q15:=q6=q6∧Z0 (decide (q7=q7)) (Z0 (decide (q8=q8)) (Z0 (decide (q9=q9)) (Z0 (decide (q10=q10)) (Z0 (decide (q11=q11)) (q12=q12∧q13=q13∧Z0 (decide (sd=sd)) (q14=q14∧Z0 (decide (k.least=k.least)) (Z0 (decide (k.most=k.most)) (Z0 (decide (of0=of)) (Z0 (decide (k.last=la)) (Z0 (decide (true=ag)) (Z0 (decide (k.fee=fe)) True False) False) False) False) False) False) False) False) False) False) False) False;
 ∃(s_1:Zv),
 Z0B [AV.int i64 s.kind,AV.arr u8 32 q1.fund,AV.int i64 q1.index,AV.int i64 q1.cap,AV.int i64 q1.dust,AV.int i64 q1.fee,AV.int i64 q1.delay,AV.arr u8 32 q1.k0,AV.arr u8 32 q1.k1,AV.int i64 s.reserve,AV.int i64 s.amount,AV.arr u8 32 s.point,AV.arr u8 32 s.nxt,AV.arr u8 32 s.key,AV.arr u8 32 s.hash,AV.arr u8 32 s.tag,AV.arr u8 32 s.secret,AV.int i64 s.id,AV.int i64 s.number,AV.int i64 s.index,AV.int i64 s.expiry,AV.int i64 s.code,AV.str s.route] s_1∧
 Zv.Len s_1∧(SB s_1=true→Z0 (s.kind==13) (Z0 q2 (Z5=Z5∧Z5=Z5∧Z5=Z5∧Z0 q3 (Z5=Z5∧Z5=Z5∧Z5=Z5∧Z5=Z5∧Z5=tg∧Z5=Z5∧ByteArray.empty=ByteArray.empty∧Z0 q4 (Z0 (decide (250=e)) q15 False) False) False) False) (Z0 q2 (Z5=Z5∧Z5=Z5∧Z5=Z5∧Z0 q3 (Z5=Z5∧Z5=Z5∧Z5=Z5∧Z5=Z5∧Z5=tg∧Z5=Z5∧ByteArray.empty=ByteArray.empty∧Z0 q4 (Z0 (decide (210=e)) q15 False) False) False) False))∧(SB s_1=false→Z0 q2 (Z5=Z5∧Z5=Z5∧Z5=Z5∧Z0 q3 (Z5=Z5∧Z5=Z5∧Z5=Z5∧Z5=Z5∧Z5=tg∧Z5=Z5∧ByteArray.empty=ByteArray.empty∧Z0 q4 (Z0 (decide (2=e)) q15 False) False) False) False)) (by kernel_rfl) ?_
 conv=>zeta
 try simp only [Zc]
 try simp only [Zj]
 try simp only [Zd]
 try simp only [Zk]
 try simp only [Zl]
 try simp only [Zb]
 try simp only [Int.toNat_natCast,Nat.zero_add,true_and,and_true,Nat.le_refl]
 refine ⟨s,⟨rfl⟩,hl,fun hS=>⟨fun hK=> ?_,fun hK=> ?_⟩,fun hS=> ?_⟩
 ·cases hR.symm.trans (ZcN hS (beq_iff_eq.1 hK) rfl)
  and_intros<;>rfl
 ·cases hR.symm.trans (Z0M hS (beq_eq_false_iff_ne.1 hK))
  and_intros<;>rfl
 ·cases hR.symm.trans (Z40 hS)
  and_intros<;>rfl
theorem Z3a {SB:Zv→Bool} {k:ClS} {s:Zv} (hc:∀args h K,ZcK SB args h K→Zg PP 35 args h fun o h'=>∃v,o=.ret v∧h'=h∧K v) (hk:Xc k) (ht:k.t.All) (hl:s.Len) (hSB:SB s=true→0≤s.amount∧s.amount≤1125899906842624) {r:HR} (hR:XL SB Uj Y0 k s=r):
  Spec PP 13 [.ptr (some ⟨0,0,0,0,0⟩),.agg s.c] ⟨1,[(0,.flat (clT k k.side k.offers k.last k.agrees k.fee))]⟩ (.ret (.tuple [.agg (sdC r.kd r.am r.tg),.bool r.sy,.int .i64 r.e])) 1 [(0,.flat (clT k k.side r.of r.la r.ag r.fe))]:=by
 have hE:(ZcO SB Uj Y0).Ok:=Ze.withP_ok (Ze.withP_ok (Ze.withF_ok (Ze.withF_ok (Ze.withP_ok Zu hc) Zev) Z7x) ZaX) Zet
 obtain ⟨e,kd,am,tg,sy,of,la,ag,fe⟩:=r
 obtain ⟨t,sd,a0,a1,le,mo,o0,l0,g0,f0⟩:=k
 cases g0 with
 | true=>exact .evM hE (ZhG SB Uj Y0 ⟨t,sd,a0,a1,le,mo,o0,l0,true,f0⟩ s sd e kd am o0 tg sy of la ag fe hl hR)
 | false=>cases o0 with
  | true=>exact .evM hE (ZhF SB Uj Y0 ⟨t,sd,a0,a1,le,mo,true,l0,false,f0⟩ s sd e kd am tg sy of la ag fe hk ht hl hSB hR)
  | false=>exact .evM hE (ZhE SB Uj Y0 ⟨t,sd,a0,a1,le,mo,false,l0,false,f0⟩ s sd e kd am tg sy of la ag fe hk ht hl hSB hR)
end Go.Tk
end
section
namespace Go.Tk
open IntKind (i64 u8 u32 u64 wrap)
end Go.Tk
end
section
namespace Go.Tk
open IntKind (i64 u8 u32 u64 wrap)
def slB (b n:Nat):AV:=.nslice ⟨b,0,0,0,0⟩ 1 n n
def ZhH (h:Z7) (b:Nat) (ys:List Int):Z7:=⟨h.next+1,(h.next,.ints .u8 ys)::ZX h.bs b⟩
def ZhU (W:Int→List Int) (B:Nat):ZQ:=fun args h K=>match args with
 | [.nslice ⟨b,0,0,0,0⟩ 1 _ _,_]=>frA [b] h 20 args fun Bs a=>match Bs,a with
  | [.ints .u8 xs],[.nslice ⟨0,0,0,0,0⟩ 1 N M,.int .i64 n]=>Zo (xs.length=N∧M=N∧N<B∧0≤n) (K (.ret (slB h.next (xs++W n).length)) (ZhH h b (xs++W n)))
  | _,_=>False
 | _=>False
structure RwC (k:ClS):Prop where
 n:ZaF 4611686018427387904 k
 f:k.t.fund.length=32
 h0:k.t.k0.length=32
 h1:k.t.k1.length=32
theorem Zgy (v:Int):(ZB v).length≤9:=(Y5 v).2
def Zb1 (W:Int→List Int):ZQ:=fun args h K=>match args with
 | [.ptr (some ⟨x,0,0,0,0⟩)]=>frA [x] h 40 args fun Bs a=>match Bs,a with
  | [.flat cs],[.ptr (some ⟨0,0,0,0,0⟩)]=>∃k,Wi cs k∧RwC k∧K (.ret (.nslice ⟨h.next,0,0,0,0⟩ 1 (Vl W k).length (Vl W k).length)) ⟨h.next+1,(x,.flat cs)::(h.next,.ints .u8 (Vl W k))::ZX h.bs x⟩
  | _,_=>False
 | _=>False
theorem Zb2 (args:List AV) (h:Z7) (K:KO) (hl:Zb1 ZB args h K):Zg PP 21 args h K:=by
 unfold Zb1 at hl
 split at hl
 ·refine Spec.fsumm hl fun Bs a hlen hK0=> ?_
  split at hK0
  ·obtain ⟨k,⟨rfl⟩,⟨h1,h2,h3,h4⟩,hK⟩:=hK0
   exact ⟨_,_,_,_,_,.evM ZcC (Zgk ZB _ _ _ k _ h1 h2 h3 h4 rfl rfl Zgy (by decide) (by decide)),by simp,.ret _ _ rfl,.cons _ _ _ _ _ _ rfl (.flat _ _ rfl) (.cons _ _ _ _ _ _ rfl (.ints _ _) .nil),hK⟩
  ·exact hK0.elim
 ·exact hl.elim
end Go.Tk
end
section
namespace Go.Tk
open IntKind (i64 u8 u32 u64 wrap)
def k0C (t:Zq) (sd a b lo hi:Int):ClS:=⟨t,sd,a,b,lo,hi,false,0,false,0⟩
noncomputable def Zew (A:List Int→Int×Int):Ze:=G0.withP 30 (ZcG A)
theorem ZhI (A:List Int→Int×Int) (t:Zq) (sd a b lo hi:Int) (ht:t.Ok) (hm:YO A (k0C t sd a b lo hi)=true):
  evF (Zew A) 20 9 [.agg t.c,.int .i64 sd,.agg [.arr .i64 2 [a,b]],.int .i64 lo,.int .i64 hi] ⟨0,[]⟩ (clK true (k0C t sd a b lo hi)):=by
 refine @Eq.mpr _ (let q1:=[a,b];
 let q2:=k0C t sd a b lo hi;
 let q3:=q2.t;
 ∃(k:ClS),Qw [AV.arr u8 32 t.fund,AV.int i64 t.index,AV.int i64 t.cap,AV.int i64 t.dust,AV.int i64 t.fee,AV.int i64 t.delay,AV.arr u8 32 t.k0,AV.arr u8 32 t.k1,AV.int i64 sd,AV.arr i64 2 q1,AV.int i64 lo,AV.int i64 hi,AV.bool false,AV.int i64 0,AV.bool false,AV.int i64 0] k∧Zq.Ok k.t∧Z0 (!YO A k) False (t.fund=q3.fund∧Z0 (decide (t.index=q3.index)) (Z0 (decide (t.cap=q3.cap)) (Z0 (decide (t.dust=q3.dust)) (Z0 (decide (t.fee=q3.fee)) (Z0 (decide (t.delay=q3.delay)) (t.k0=q3.k0∧t.k1=q3.k1∧Z0 (decide (sd=q2.side)) (q1=[q2.a0,q2.a1]∧Z0 (decide (lo=q2.least)) (Z0 (decide (hi=q2.most)) True False) False) False) False) False) False) False) False)) (by kernel_rfl) ?_
 conv=>zeta
 try simp only [Zc]
 try simp only [Zj]
 try simp only [Zd]
 try simp only [Zk]
 try simp only [Zl]
 try simp only [Zb]
 try simp only [Int.toNat_natCast,Nat.zero_add,true_and,and_true,Nat.le_refl]
 refine ⟨k0C t sd a b lo hi,⟨rfl⟩,ht,by rw [hm];rfl, ?_⟩
 and_intros<;>rfl
theorem ZhJ (A:List Int→Int×Int) (t:Zq) (sd a b lo hi:Int) (ht:t.Ok) (hm:YO A (k0C t sd a b lo hi)=false):
  evF (Zew A) 20 9 [.agg t.c,.int .i64 sd,.agg [.arr .i64 2 [a,b]],.int .i64 lo,.int .i64 hi] ⟨0,[]⟩ (Y2 0 (.ret (.tuple [.ptr none,.int .i64 2])) 0 []):=by
 refine @Eq.mpr _ (∃(k:ClS),Qw [AV.arr u8 32 t.fund,AV.int i64 t.index,AV.int i64 t.cap,AV.int i64 t.dust,AV.int i64 t.fee,AV.int i64 t.delay,AV.arr u8 32 t.k0,AV.arr u8 32 t.k1,AV.int i64 sd,AV.arr i64 2 [a,b],AV.int i64 lo,AV.int i64 hi,AV.bool false,AV.int i64 0,AV.bool false,AV.int i64 0] k∧Zq.Ok k.t∧Z0 (!YO A k) True False) (by kernel_rfl) ?_
 try simp only [Zc]
 try simp only [Zj]
 try simp only [Zd]
 try simp only [Zk]
 try simp only [Zl]
 try simp only [Zb]
 try simp only [Int.toNat_natCast,Nat.zero_add,true_and,and_true,Nat.le_refl]
 refine ⟨k0C t sd a b lo hi,⟨rfl⟩,ht, ?_⟩
 rw [hm];rfl
inductive Z8E (cs:List AV) (t:Zq):Prop
 | mk:cs=t.c→Z8E cs t
def Zgz (A:List Int→Int×Int):ZQ:=fun args h K=>ZL none h true 40 args fun x=>match x with
 | [.agg cs,.int .i64 sd,.agg [.arr .i64 2 ab],.int .i64 lo,.int .i64 hi]=>∃t a b,Z8E cs t∧ab=[a,b]∧t.Ok∧
  (YO A (k0C t sd a b lo hi)=true→K (.ret (.tuple [.ptr (some ⟨h.next,0,0,0,0⟩),.int .i64 0])) ⟨h.next+1,(h.next,.flat (clT (k0C t sd a b lo hi) sd false 0 false 0))::h.bs⟩)∧
  (YO A (k0C t sd a b lo hi)=false→K (.ret (.tuple [.ptr none,.int .i64 2])) h)
 | _=>False
theorem ZgA {k:ClS} {o:Out} {h:Z7} (hk:clK true k o h):Y2 0 (.ret (.tuple [.ptr (some ⟨0,0,0,0,0⟩),.int .i64 0])) 1 [(0,.flat (k.c++[.bool true]))] o h:=by
 unfold clK at hk
 split at hk
 ·exact hk.elim
 ·exact hk
 ·exact hk.elim
theorem Z7z:(Zew ZS).Ok:=Ze.withP_ok Zu Z7u
theorem Zb3 (args:List AV) (h:Z7) (K:KO) (hl:Zgz ZS args h K):Zg PP 9 args h K:=by
 refine ZD.fsumm (d:=40) (Zn _ _ _ _ _ hl fun a ha=> ?_)
 split at ha
 ·rename_i cs sd ab lo hi
  obtain ⟨t,a,b,⟨rfl⟩,rfl,ht,h1,h0⟩:=ha
  cases hm:YO ZS (k0C t sd a b lo hi) with
  | true=>exact ⟨_,_,_,_,Spec.pure (Spec.evK Z7z (ZhI _ t sd a b lo hi ht hm) fun o' h' hk=>ZgA hk),rfl,⟨Nat.one_pos,.flat _ rfl,trivial⟩,h1 hm⟩
  | false=>exact ⟨_,_,_,_,.evM Z7z (ZhJ _ t sd a b lo hi ht hm),rfl,trivial,h0 hm⟩
 ·exact ha.elim
def Z42 (Tg:List Int→TxS→List Int) (k:ClS):HR:=
 if k.agrees=true then noR k 250 else if k.side≠0∨k.offers=true then noR k 251
 else if ZW k.t k.a0 k.a1 k.least≠0 then noR k (ZW k.t k.a0 k.a1 k.least)
 else ⟨0,13,k.least,Xj Tg k k.least k.side,true,true,k.least,k.agrees,k.fee⟩
theorem Zex {Tg:List Int→TxS→List Int} {k:ClS} (h:k.agrees=true):Z42 Tg k=noR k 250:=by unfold Z42;rw [if_pos h]
theorem Z6w {Tg:List Int→TxS→List Int} {k:ClS} (h:k.agrees=false) (h2:k.side≠0∨k.offers=true):Z42 Tg k=noR k 251:=by unfold Z42;rw [if_neg (by rw [h];decide),if_pos h2]
theorem Zb4 {Tg:List Int→TxS→List Int} {k:ClS} {m:Int} (h:k.agrees=false) (h2:¬(k.side≠0∨k.offers=true)) (he:ZW k.t k.a0 k.a1 k.least=m) (hm:m≠0):Z42 Tg k=noR k m:=by
 unfold Z42;rw [if_neg (by rw [h];decide),if_neg h2,if_pos (by rw [he];exact hm),he]
theorem Zb5 {Tg:List Int→TxS→List Int} {k:ClS} (h:k.agrees=false) (h2:¬(k.side≠0∨k.offers=true)) (he:ZW k.t k.a0 k.a1 k.least=0):Z42 Tg k=⟨0,13,k.least,Xj Tg k k.least k.side,true,true,k.least,k.agrees,k.fee⟩:=by
 unfold Z42;rw [if_neg (by rw [h];decide),if_neg h2,if_neg (fun q=>q he)]
theorem ZgB (Tg:List Int→TxS→List Int) (k:ClS) (e kd am:Int) (tg:List Int) (sy of:Bool) (la:Int) (ag:Bool) (fe:Int) (hk:WF k) (hR:Z42 Tg k=⟨e,kd,am,tg,sy,of,la,ag,fe⟩):
  evF (G0.withF 32 (ZcM Tg)) 20 12 [.ptr (some ⟨0,0,0,0,0⟩)] ⟨1,[(0,.flat (clT k k.side k.offers k.last k.agrees k.fee))]⟩ (Y2 1 (.ret (.tuple [.agg (sdC kd am tg),.int .i64 e])) 1 [(0,.flat (clT k k.side of la ag fe))]):=by
 refine @Eq.mpr _ (let q1:=k.agrees;
 let q2:=decide (0=kd);
 let q3:=decide (0=am);
 let q4:=k.t;
 let q5:=q4.fund;
 let q6:=q5=q5;
 let q7:=q4.index;
 let q8:=decide (q7=q7);
 let q9:=q4.cap;
 let q10:=decide (q9=q9);
 let q11:=q4.dust;
 let q12:=decide (q11=q11);
 let q13:=q4.fee;
 let q14:=decide (q13=q13);
 let q15:=q4.delay;
 let q16:=decide (q15=q15);
 let q17:=q4.k0;
 let q18:=q17=q17;
 let q19:=q4.k1;
 let q20:=q19=q19;
 let q21:=k.side;
 let q22:=decide (q21=q21);
 let q23:=[k.a0,k.a1];
 let q24:=q23=q23;
 let q25:=k.least;
 let q26:=decide (q25=q25);
 let q27:=k.most;
 let q28:=decide (q27=q27);
 let q29:=k.offers;
 let q30:=Z0 (decide (q1=ag)) (Z0 (decide (k.fee=fe)) True False) False;
 let q31:=q6∧Z0 q8 (Z0 q10 (Z0 q12 (Z0 q14 (Z0 q16 (q18∧q20∧Z0 q22 (q24∧Z0 q26 (Z0 q28 (Z0 (decide (q29=of)) (Z0 (decide (k.last=la)) q30 False) False) False) False) False) False) False) False) False) False;
 let q32:=Z0 q2 (Z5=Z5∧Z5=Z5∧Z5=Z5∧Z0 q3 (Z5=Z5∧Z5=Z5∧Z5=Z5∧Z5=Z5∧Z5=tg∧Z5=Z5∧ByteArray.empty=ByteArray.empty∧Z0 (decide (251=e)) q31 False) False) False;
 Z0 q1 (Z0 q2 (Z5=Z5∧Z5=Z5∧Z5=Z5∧Z0 q3 (Z5=Z5∧Z5=Z5∧Z5=Z5∧Z5=Z5∧Z5=tg∧Z5=Z5∧ByteArray.empty=ByteArray.empty∧Z0 (decide (250=e)) q31 False) False) False)
 (Z0 (q21 !=0) q32
 (Z0 q29 q32
 (∃(k_1:ClS),
 let q65:=ZW k_1.t k_1.a0 k_1.a1 q25;
 Wi [AV.arr u8 32 q5,AV.int i64 q7,AV.int i64 q9,AV.int i64 q11,AV.int i64 q13,AV.int i64 q15,AV.arr u8 32 q17,AV.arr u8 32 q19,AV.int i64 q21,AV.arr i64 2 q23,AV.int i64 q25,AV.int i64 q27,AV.bool q29,AV.int i64 k.last,AV.bool q1,AV.int i64 k.fee,AV.bool true] k_1∧
 WF k_1∧
 (q65=0→Z0 (decide (13=kd)) (Z5=Z5∧Z5=Z5∧Z5=Z5∧Z0 (decide (q25=am)) (Z5=Z5∧Z5=Z5∧Z5=Z5∧Z5=Z5∧Xj Tg k_1 q25 k_1.side=tg∧Z5=Z5∧ByteArray.empty=ByteArray.empty∧Z0 (decide (0=e)) (q6∧Z0 q8 (Z0 q10 (Z0 q12 (Z0 q14 (Z0 q16 (q18∧q20∧Z0 q22 (q24∧Z0 q26 (Z0 q28 (Z0 (decide (true=of)) (Z0 (decide (q25=la)) q30 False) False) False) False) False) False) False) False) False) False) False) False) False)∧
 (q65=2→Z0 q2 (Z5=Z5∧Z5=Z5∧Z5=Z5∧Z0 q3 (Z5=Z5∧Z5=Z5∧Z5=Z5∧Z5=Z5∧Z5=tg∧Z5=Z5∧ByteArray.empty=ByteArray.empty∧Z0 (decide (2=e)) q31 False) False) False)∧(q65=180→Z0 q2 (Z5=Z5∧Z5=Z5∧Z5=Z5∧Z0 q3 (Z5=Z5∧Z5=Z5∧Z5=Z5∧Z5=Z5∧Z5=tg∧Z5=Z5∧ByteArray.empty=ByteArray.empty∧Z0 (decide (180=e)) q31 False) False) False))))) (by kernel_rfl) ?_
 conv=>zeta
 try simp only [Zc]
 try simp only [Zj]
 try simp only [Zd]
 try simp only [Zk]
 try simp only [Zl]
 try simp only [Zb]
 try simp only [Int.toNat_natCast,Nat.zero_add,true_and,and_true,Nat.le_refl]
 refine ⟨fun hg=> ?_,fun hg=>⟨fun hs=> ?_,fun hs=>⟨fun ho=> ?_,fun ho=> ?_⟩⟩⟩
 ·cases hR.symm.trans (Zex hg)
  and_intros<;>rfl
 ·cases hR.symm.trans (Z6w hg (.inl (bne_iff_ne.1 hs)))
  and_intros<;>rfl
 ·cases hR.symm.trans (Z6w hg (.inr ho))
  and_intros<;>rfl
 have hq:¬(k.side≠0∨k.offers=true):=by
  rintro (h|h)
  ·exact h (bne_eq_false_iff_eq.1 hs)
  ·rw [ho] at h;cases h
 refine ⟨k,⟨rfl⟩,hk,fun hE=> ?_,fun hE=> ?_,fun hE=> ?_⟩
 ·cases hR.symm.trans (Zb5 hg hq hE)
  and_intros<;>rfl
 ·cases hR.symm.trans (Zb4 hg hq hE (by decide))
  and_intros<;>rfl
 ·cases hR.symm.trans (Zb4 hg hq hE (by decide))
  and_intros<;>rfl
end Go.Tk
end
section
namespace Go.Tk
open IntKind (i64 u8 u32 u64 wrap)
noncomputable def Zey (A:List Int→Int×Int) (Tg:List Int→TxS→List Int):Ze:=(G0.withF 42 (clF A)).withF 43 (Zdc A Tg)
def ctG (Tg:List Int→TxS→List Int) (k:ClS):Nat→InS:=Z57 Tg (txC k.t k.a0 k.a1 k.fee) k.t.k0 k.t.k1 1
def txV (b n:Nat):AV:=.agg [.int .i64 2147483647,.nslice ⟨b,0,130,0,0⟩ 130 1 1,.nslice ⟨b+1,0,132,0,0⟩ 132 n n]
theorem ZgC (A:List Int→Int×Int) (Tg:List Int→TxS→List Int) (k:ClS) (n:Nat) (L:List Zh) (g:Nat→InS) (hA:A=ZS) (ht:k.t.All) (hE:ZW k.t k.a0 k.a1 k.fee=0) (ha:k.a0<9223372036854775808) (hL:L=Y1 (clL k.t k.a0 k.a1 k.fee)) (hn:n=L.length) (hg:g=ctG Tg k):
  evF (Zey A Tg) 20 15 [.ptr (some ⟨0,0,0,0,0⟩)] ⟨1,[(0,.flat (clT k k.side k.offers k.last true k.fee))]⟩ (Y2 1 (.ret (.tuple [txV 1 n,.int .i64 0])) 3 [(0,.flat (clT k k.side k.offers k.last true k.fee)),(1,.rows 130 1 (Zf g)),(2,.rows 132 n (Zi (YI L)))]):=by
 refine @Eq.mpr _ (let q1:=k.t;
 let q2:=q1.fund;
 let q3:=q1.index;
 let q4:=q1.cap;
 let q5:=q1.dust;
 let q6:=q1.fee;
 let q7:=q1.delay;
 let q8:=q1.k0;
 let q9:=q1.k1;
 let q10:=Zq.mk q2 q3 q4 q5 q6 q7 q8 q9;
 let q11:=[k.a0,k.a1];
 let q12:=k.fee;
 let q13:=InS.mk q2 q3 1 Z5 Z5 Z5;
 let q14:=[(2,6),(1,5)];
 Zq.Ok q10∧
 ∃(a:Int),
 ∃(b:Int),
 let q29:=clB A q10 a b q12;
 let q30:=clL q10 a b q12;
 q11=[a,b]∧
 a<9223372036854775808∧
 (q29=false→False)∧
 (q29=true→
 (List.length q30=0→False)∧
 ∀(n_1:Nat) (L_1:List Zh),
 L_1=Y1 q30→
 n_1=List.length L_1→
 n_1≠0→
 Z0 (decide (0+n_1≤n_1))
 ((∀(i:Nat),i<n_1→true=true)∧
 ∃(t:TxS),
 let q33:=t.N;
 let q34:=t.M;
 let q35:=decide (q33=1);
 let q36:=decide (q34=n);
 (t.num=2147483647∧
 (((1:Nat)=1∧q33=1)∧∀(i:Nat),i<1→ZO [AV.arr u8 32 q13.name,AV.int i64 q13.index,AV.int i64 q13.way,AV.arr u8 32 q13.tag,AV.arr u8 32 q13.also,AV.arr u8 32 q13.secret] 0 130 i=InS.c (t.ins i))∧
 (n_1=n_1∧q34=n_1)∧
 ∀(i:Nat),
 let q41:=YI L_1 i;
 i<n_1→[AV.int i64 q41.kind,AV.int i64 q41.amount,AV.arr u8 32 q41.owner,AV.arr u8 32 q41.other,AV.arr u8 32 q41.point,AV.arr u8 32 q41.hash,AV.int i64 q41.delay,AV.int i64 q41.expiry]=ZM.c (t.outs i))∧
 (TxS.Ok t∧List.length q8=32∧List.length q9=32)∧(Yt A t=false→False)∧(Yt A t=true→Z0 (decide (t.num=2147483647)) (Z0 q35 (Z0 (decide (1≤q33)) (Z0 q36 (Z0 (decide (n≤q34)) (q2=q2∧Z0 (decide (q3=q3)) (Z0 (decide (q4=q4)) (Z0 (decide (q5=q5)) (Z0 (decide (q6=q6)) (Z0 (decide (q7=q7)) (q8=q8∧q9=q9∧Z0 (decide (k.side=k.side)) (q11=q11∧Z0 (decide (k.least=k.least)) (Z0 (decide (k.most=k.most)) (Z0 (decide (k.offers=k.offers)) (Z0 (decide (k.last=k.last)) (Z0 (decide (q12=q12)) (Z0 q35 (Zz 1 q14 1 (Zf g) (Zf (Z57 Tg t q8 q9 q33))∧Z0 q36 (Zz 1 q14 n (Zi (YI L)) (Zi t.outs)∧True) False) False) False) False) False) False) False) False) False) False) False) False) False) False) False) False) False) False))
 False)) (by kernel_rfl) ?_
 conv=>zeta
 try simp only [Zc]
 try simp only [Zj]
 try simp only [Zd]
 try simp only [Zk]
 try simp only [Zl]
 try simp only [Zb]
 try simp only [Int.toNat_natCast,Nat.zero_add,true_and,and_true,Nat.le_refl]
 subst hA
 obtain ⟨hb,hz⟩:=ZaS hE
 have hb:clB ZS k.t k.a0 k.a1 k.fee=true:=hb
 have hck:=Z24 hE
 refine ⟨ht.ok,k.a0,k.a1,rfl,ha,fun h=>absurd (hb.symm.trans h) (by decide),fun _=>⟨fun h=>absurd h hz,fun n1 L1 hL1 hn1 hn0=>⟨fun _ _=>trivial,txC k.t k.a0 k.a1 k.fee,⟨rfl,⟨rfl,fun i hi=>Z25 _ i hi⟩, ?_,fun i _=> ?_⟩,⟨Z23 ht.ok ht.fl,ht.ok.k0,ht.ok.k1⟩,fun h=>absurd (hck.symm.trans h) (by decide),fun _=> ?_⟩⟩⟩
 ·subst hn1 hL1;rfl
 ·subst hL1;rfl
 ·subst hn hL hg
  exact ⟨rfl,rfl,Nat.le_refl _,rfl,Nat.le_refl _,rfl,Ys fun _ _=>rfl,rfl,Yn fun _ _=>rfl⟩
theorem ZgD (A:List Int→Int×Int) (Tg:List Int→TxS→List Int) (k:ClS) :
  evF (Zey A Tg) 20 15 [.ptr (some ⟨0,0,0,0,0⟩)] ⟨1,[(0,.flat (clT k k.side k.offers k.last false k.fee))]⟩ (Y2 1 (.ret (.tuple [.agg txZ,.int .i64 5])) 1 [(0,.flat (clT k k.side k.offers k.last false k.fee))]):=by
 refine @Eq.mpr _ (let q1:=k.t;
 let q2:=q1.fund;
 let q3:=q1.index;
 let q4:=q1.cap;
 let q5:=q1.dust;
 let q6:=q1.fee;
 let q7:=q1.delay;
 let q8:=q1.k0;
 let q9:=q1.k1;
 let q10:=[k.a0,k.a1];
 q2=q2∧Z0 (decide (q3=q3)) (Z0 (decide (q4=q4)) (Z0 (decide (q5=q5)) (Z0 (decide (q6=q6)) (Z0 (decide (q7=q7)) (q8=q8∧q9=q9∧Z0 (decide (k.side=k.side)) (q10=q10∧Z0 (decide (k.least=k.least)) (Z0 (decide (k.most=k.most)) (Z0 (decide (k.offers=k.offers)) (Z0 (decide (k.last=k.last)) (Z0 (decide (k.fee=k.fee)) True False) False) False) False) False) False) False) False) False) False) False) (by kernel_rfl) ?_
 conv=>zeta
 try simp only [Zc]
 try simp only [Zj]
 try simp only [Zd]
 try simp only [Zk]
 try simp only [Zl]
 try simp only [Zb]
 try simp only [Int.toNat_natCast,Nat.zero_add,true_and,and_true,Nat.le_refl]
structure TxK (k:ClS):Prop where
 t:k.t.All
 a:k.a0<9223372036854775808
def ZcP (cs:List AV) (i:Nat):AV:=cs.getD i .top
def Zez (Tg:List Int→TxS→List Int):ZQ:=fun args h K=>match args with
 | [.ptr (some ⟨x,0,0,0,0⟩)]=>frA [x] h 40 args fun Bs a=>match Bs,a with
  | [.flat cs],[.ptr (some ⟨0,0,0,0,0⟩)]=>∃k,Wi cs k∧TxK k∧(match ZcP cs 14 with
   | .bool true=>ZW k.t k.a0 k.a1 k.fee=0∧∀n L,L=Y1 (clL k.t k.a0 k.a1 k.fee)→n=L.length→n≤2→K (.ret (.tuple [txV h.next n,.int .i64 0])) ⟨h.next+2,(x,.flat cs)::(h.next,.rows 130 1 (Zf (ctG Tg k)))::(h.next+1,.rows 132 n (Zi (YI L)))::ZX h.bs x⟩
   | .bool false=>K (.ret (.tuple [.agg txZ,.int .i64 5])) ⟨h.next,(x,.flat cs)::ZX h.bs x⟩
   | _=>False)
  | _,_=>False
 | _=>False
theorem ZcQ (args:List AV) (h:Z7) (K:KO) (hl:Zez Y0 args h K):Zg PP 15 args h K:=by
 have hE:(Zey ZS Y0).Ok:=Ze.withF_ok (Ze.withF_ok Zu Z6n) ZaD
 unfold Zez at hl
 split at hl
 ·refine Spec.fsumm hl fun Bs a hlen hK0=> ?_
  split at hK0
  ·obtain ⟨k,⟨rfl⟩,⟨ht,ha⟩,hm⟩:=hK0
   obtain ⟨t,sd,a0,a1,le,mo,o0,l0,g0,f0⟩:=k
   cases g0 with
   | true=>
    obtain ⟨he,hK⟩:ZW t a0 a1 f0=0∧_:=hm
    have h2:(Y1 (clL t a0 a1 f0)).length≤2:=by rw [X7];exact Z3X
    exact ⟨_,_,_,_,_,.evM hE (ZgC _ Y0 ⟨t,sd,a0,a1,le,mo,o0,l0,true,f0⟩ _ _ _ rfl ht he ha rfl rfl rfl),by simp,.ret _ _ rfl,.cons _ _ _ _ _ _ rfl (.flat _ _ rfl) (.cons _ _ _ _ _ _ rfl (.rows _ _ _ (fun _ _=>rfl)) (.cons _ _ _ _ _ _ rfl (.rows _ _ _ (fun _ _=>rfl)) .nil)),hK _ _ rfl rfl h2⟩
   | false=>exact ⟨_,_,_,_,_,.evM hE (ZgD _ Y0 ⟨t,sd,a0,a1,le,mo,o0,l0,false,f0⟩),by simp,.ret _ _ rfl,.cons _ _ _ _ _ _ rfl (.flat _ _ rfl) .nil,hm⟩
  ·exact hK0.elim
 ·exact hl.elim
end Go.Tk
end
section
namespace Go.Tk
open IntKind (i64 u8 u32 u64 wrap)
theorem Z8F {xs:List Int} (h:Bytes xs) (i:Nat) {v:Int} (hv:0≤v∧v≤255):Bytes (xs.set i v):=⟨fun k=>by
 have hx:=h.h k
 rw [List.getD_eq_getElem?_getD] at hx⊢
 rw [List.getElem?_set]
 split
 ·split
  ·exact hv
  ·exact ⟨Int.le_refl 0,by decide⟩
 ·exact hx⟩
theorem ZgE (s:Zv) (ok:Bool) (hl:s.Len) (hok:ok=true↔ZG s 1):
  evF Q4 40 35 [.agg (.int .i64 1::s.r)] ⟨0,[]⟩ (chK ok):=by
 refine @Eq.mpr _ (let q1:=s.id;
 let q2:=s.t;
 let q3:=q2.fund;
 let q4:=decide (List.length q3=(32:Nat)∧(32:Nat)=(32:Nat));
 let q5:=q2.k1;
 let q6:=decide (List.length q5=(32:Nat)∧(32:Nat)=(32:Nat));
 let q7:=decide (List.length s.key=(32:Nat)∧(32:Nat)=(32:Nat));
 let q8:=decide (List.length s.hash=(32:Nat)∧(32:Nat)=(32:Nat));
 let q9:=decide (List.length s.tag=(32:Nat)∧(32:Nat)=(32:Nat));
 let q10:=decide (List.length s.secret=(32:Nat)∧(32:Nat)=(32:Nat));
 let q11:=q2.index;
 let q12:=s.number;
 let q13:=s.index;
 let q14:=s.expiry;
 let q15:= !(true&&(q3==Z5&&(q11==(0:Int)&&(true&&(true&&(true&&(true&&(true&&q5==Z5))))))&&(true&&(true&&(true&&(true&&(s.key==Z5&&(s.hash==Z5&&(s.tag==Z5&&(s.secret==Z5&&(q1==(0:Int)&&(q12==(0:Int)&&(q13==(0:Int)&&(q14==(0:Int)&&(s.code==(0:Int)&&ByteArray.toList s.route==ByteArray.toList ByteArray.empty)))))))))))))));
 let q16:=Z0 q4 (Z0 q6 (Z0 q7 (Z0 q8 (Z0 q9 (Z0 q10 (Z0 q15 (ok=false) (ok=false)) False) False) False) False) False) False;
 let q17:=s.amount;
 let q18:=q2.k0;
 let q19:=q2.cap;
 let q20:=q2.fee;
 let q21:=Zq.mk q3 q11 q19 q2.dust q20 q2.delay q18 (List.set q18 (0:Nat) (wrap u8 (List.getD q18 (0:Nat) (0:Int)+(1:Int))));
 let q22:=s.reserve;
 Z0 (decide ((0:Int)≤q1))
 (Z0 (!decide (q1≤(2147483647:Int))) q16 (Z0 (decide ((0:Int)≤q12)) (Z0 (!decide (q12≤(2147483647:Int))) q16 (Z0 (decide ((0:Int)≤q13)) (Z0 (!decide (q13≤(2147483647:Int))) q16 (Z0 (decide ((0:Int)≤q14)) (Z0 (!decide (q14≤(2147483647:Int))) q16 (Z0 q4 (Z0 q6 (Z0 q7 (Z0 q8 (Z0 q9 (Z0 q10 (Z0 q15 (ok=false) (Z0 (decide (q17<(0:Int))) (ok=false) (Z0 (decide (q17>(1125899906842624:Int))) (ok=false) (Z0 (decide (u8=u8∧(0:Nat)<(32:Nat)∧(0:Nat)<List.length q18)) (Zq.Ok q21∧Z0 ((if YN q21=true then (0:Int) else (2:Int))==(0:Int)) (Z0 (decide ((0:Int)≤q22)) (Z0 (decide (q22≤wrap i64 (Int.tdiv q19 (10:Int)))) (Z0 (!decide (q17≤wrap i64 (wrap i64 (q19-q20)-q22))) (ok=false) (ok=true)) (ok=false)) (ok=false)) (ok=false)) False)))) False) False) False) False) False) False)) q16)) q16)) q16)) q16) (by kernel_rfl) ?_
 conv=>zeta
 try simp only [Zc]
 try simp only [Zj]
 try simp only [Zd]
 try simp only [Zk]
 try simp only [Zl]
 try simp only [Zb]
 try simp only [Int.toNat_natCast,Nat.zero_add,true_and,and_true,Nat.le_refl]
 obtain ⟨h0,h1,h2,h3,h4,h5,h6,h7,h8,hb⟩:=hl
 simp only [h0,h1,h2,h3,h4,h5,h6,h7,h8,and_self,decide_true,true_and,forall_const,Bool.not_eq_true',Bool.not_eq_false',decide_eq_true_eq,decide_eq_false_iff_not,Int.not_le,Int.not_lt,reduceCtorEq,false_implies,and_true]
 have hte:((if YN (VV s.t)=true then (0:Int) else 2)==0)=YN (VV s.t):=by cases YN (VV s.t)<;>rfl
 have hOk:(VV s.t).Ok:=⟨h1,by show (List.set _ _ _).length=32;rw [List.length_set];exact h1,hb,Z8F hb 0 (ZfT _)⟩
 have hd:YN (VV s.t)=true→(1000≤s.t.cap∧s.t.cap≤1125899906842624)∧(0≤s.t.fee∧s.t.fee≤400):=fun h=>by
  unfold YN VV at h
  simp only [Bool.and_eq_true,decide_eq_true_eq] at h
  obtain ⟨⟨⟨⟨⟨_,g2⟩,_⟩,g4⟩,_⟩,_⟩:=h
  exact ⟨g2,g4⟩
 have htd:YN (VV s.t)=true→0≤s.t.cap.tdiv 10∧s.t.cap.tdiv 10≤s.t.cap:=fun h=>by
  have:=hd h
  rw [Int.tdiv_eq_ediv_of_nonneg (by omega)]
  omega
 have hw1:YN (VV s.t)=true→i64.wrap (s.t.cap.tdiv 10)=s.t.cap.tdiv 10:=fun h=>by
  have:=hd h
  have:=htd h
  exact w64 (by omega)
 have hw2:YN (VV s.t)=true→0≤s.reserve→s.reserve≤s.t.cap.tdiv 10→i64.wrap (i64.wrap (s.t.cap-s.t.fee)-s.reserve)=s.t.cap-s.t.fee-s.reserve:=fun h g1 g2=>by
  have:=hd h
  have:=htd h
  rw [w64 (x:=s.t.cap-s.t.fee) (by omega)]
  exact w64 (by omega)
 change _ at hOk
 cases ok with
 | true=>
  obtain ⟨⟨w0,w1,w2,w3,w4,w5,w6,w7,w8,w9⟩,hr,hk⟩:=hok.1 rfl
  have hk:Z6u s:=hk
  obtain ⟨k1,k2,k3,k4⟩:=hk
  have e1:=hw1 k1
  have e2:=hw2 k1 k2 k3
  repeat' first
   | exact hOk
   | trivial
   | apply And.intro
   | intro
  all_goals first
   | omega
   | (exfalso;omega)
   | (rename_i hq;exact absurd (hr.symm.trans hq) (by decide))
   | (rename_i hq _;exact absurd (hr.symm.trans hq) (by decide))
   | (rename_i hq _ _;exact absurd (hr.symm.trans hq) (by decide))
   | (rename_i hq;exact absurd ((hte.trans k1).symm.trans hq) (by decide))
 | false=>
  have hn:¬ZG s 1:=fun h=>absurd (hok.2 h) (by decide)
  repeat' first
   | exact hOk
   | trivial
   | apply And.intro
   | intro
  rename_i hq1 hq2 hq3 hq4
  have k1:YN (VV s.t)=true:=hte.symm.trans hq1
  have e1:=hw1 k1
  rw [e1] at hq3
  have e2:=hw2 k1 hq2 hq3
  rw [e2] at hq4
  exact absurd (ZG.mk ⟨by omega,by omega,by omega,by omega,by omega,by omega,by omega,by omega,by omega,by omega⟩ (by assumption) (show kindOk s 1 from Z6u.mk k1 hq2 hq3 hq4)) hn
theorem ZgF (s:Zv) (ok:Bool) (hl:s.Len) (hok:ok=true↔ZG s 2):
  evF Q4 40 35 [.agg (.int .i64 2::s.r)] ⟨0,[]⟩ (chK ok):=by
 refine @Eq.mpr _ (let q1:=s.id;
 let q2:=s.t;
 let q3:=q2.fund;
 let q4:=decide (List.length q3=32∧(32:Nat)=32);
 let q5:=q2.k0;
 let q6:=decide (List.length q5=32∧(32:Nat)=32);
 let q7:=q2.k1;
 let q8:=decide (List.length q7=32∧(32:Nat)=32);
 let q9:=decide (List.length s.hash=32∧(32:Nat)=32);
 let q10:=decide (List.length s.tag=32∧(32:Nat)=32);
 let q11:=decide (List.length s.secret=32∧(32:Nat)=32);
 let q12:=s.amount;
 let q13:=s.number;
 let q14:=s.index;
 let q15:=s.expiry;
 let q16:= !(true&&(q3==Z5&&(q2.index==0&&(q2.cap==0&&(q2.dust==0&&(q2.fee==0&&(q2.delay==0&&(q5==Z5&&q7==Z5))))))&&(s.reserve==0&&(q12==0&&(true&&(true&&(true&&(s.hash==Z5&&(s.tag==Z5&&(s.secret==Z5&&(q1==0&&(q13==0&&(q14==0&&(q15==0&&(s.code==0&&ByteArray.toList s.route==ByteArray.toList ByteArray.empty)))))))))))))));
 let q17:=Z0 q4 (Z0 q6 (Z0 q8 (Z0 q9 (Z0 q10 (Z0 q11 (Z0 q16 (ok=false) (ok=false)) False) False) False) False) False) False;
 Z0 (decide (0≤q1)) (Z0 (!decide (q1≤2147483647)) q17 (Z0 (decide (0≤q13)) (Z0 (!decide (q13≤2147483647)) q17 (Z0 (decide (0≤q14)) (Z0 (!decide (q14≤2147483647)) q17 (Z0 (decide (0≤q15)) (Z0 (!decide (q15≤2147483647)) q17 (Z0 q4 (Z0 q6 (Z0 q8 (Z0 q9 (Z0 q10 (Z0 q11 (Z0 q16 (ok=false) (Z0 (decide (q12<0)) (ok=false) (Z0 (decide (q12>1125899906842624)) (ok=false) (ok=true)))) False) False) False) False) False) False)) q17)) q17)) q17)) q17) (by kernel_rfl) ?_
 conv=>zeta
 try simp only [Zc]
 try simp only [Zj]
 try simp only [Zd]
 try simp only [Zk]
 try simp only [Zl]
 try simp only [Zb]
 try simp only [Int.toNat_natCast,Nat.zero_add,true_and,and_true,Nat.le_refl]
 obtain ⟨h0,h1,h2,h3,h4,h5,h6,h7,h8,hb⟩:=hl
 simp only [h0,h1,h2,h3,h4,h5,h6,h7,h8,and_self,decide_true,true_and,forall_const,Bool.not_eq_true',Bool.not_eq_false',decide_eq_true_eq,decide_eq_false_iff_not,Int.not_le,Int.not_lt,reduceCtorEq,false_implies,and_true]
 cases ok with
 | true=>
  obtain ⟨⟨w0,w1,w2,w3,w4,w5,w6,w7,w8,w9⟩,hr,hk⟩:=hok.1 rfl
  have hk':=hk
  simp only [kindOk] at hk
  repeat' first
   | trivial
   | apply And.intro
   | intro
  all_goals first
   | omega
   | (exfalso;omega)
   | (rename_i hq;exact absurd (hr.symm.trans hq) (by decide))
   | (rename_i hq _;exact absurd (hr.symm.trans hq) (by decide))
   | (rename_i hq _ _;exact absurd (hr.symm.trans hq) (by decide))
 | false=>
  have hn:¬ZG s 2:=fun h=>absurd (hok.2 h) (by decide)
  repeat' first
   | trivial
   | apply And.intro
   | intro
  all_goals first
   | exact absurd (ZG.mk ⟨by omega,by omega,by omega,by omega,by omega,by omega,by omega,by omega,by omega,by omega⟩ (by assumption) (by simp only [kindOk]<;>omega)) hn
   | exact absurd (ZG.mk ⟨by omega,by omega,by omega,by omega,by omega,by omega,by omega,by omega,by omega,by omega⟩ (by assumption) trivial) hn
theorem ZgG (s:Zv) (ok:Bool) (hl:s.Len) (hok:ok=true↔ZG s 3):
  evF Q4 40 35 [.agg (.int .i64 3::s.r)] ⟨0,[]⟩ (chK ok):=by
 refine @Eq.mpr _ (let q1:=s.id;
 let q2:=s.t;
 let q3:=q2.fund;
 let q4:=decide (List.length q3=32∧(32:Nat)=32);
 let q5:=q2.k0;
 let q6:=decide (List.length q5=32∧(32:Nat)=32);
 let q7:=q2.k1;
 let q8:=decide (List.length q7=32∧(32:Nat)=32);
 let q9:=decide (List.length s.point=32∧(32:Nat)=32);
 let q10:=decide (List.length s.nxt=32∧(32:Nat)=32);
 let q11:=decide (List.length s.key=32∧(32:Nat)=32);
 let q12:=decide (List.length s.secret=32∧(32:Nat)=32);
 let q13:=s.amount;
 let q14:=s.number;
 let q15:=s.expiry;
 let q16:= !(true&&(q3==Z5&&(q2.index==0&&(q2.cap==0&&(q2.dust==0&&(q2.fee==0&&(q2.delay==0&&(q5==Z5&&q7==Z5))))))&&(s.reserve==0&&(q13==0&&(s.point==Z5&&(s.nxt==Z5&&(s.key==Z5&&(true&&(true&&(s.secret==Z5&&(q1==0&&(q14==0&&(true&&(q15==0&&(s.code==0&&ByteArray.toList s.route==ByteArray.toList ByteArray.empty)))))))))))))));
 let q17:=Z0 q4 (Z0 q6 (Z0 q8 (Z0 q9 (Z0 q10 (Z0 q11 (Z0 q12 (Z0 q16 (ok=false) (ok=false)) False) False) False) False) False) False) False;
 let q18:=s.index;
 Z0 (decide (0≤q1)) (Z0 (!decide (q1≤2147483647)) q17 (Z0 (decide (0≤q14)) (Z0 (!decide (q14≤2147483647)) q17 (Z0 (decide (0≤q18)) (Z0 (!decide (q18≤2147483647)) q17 (Z0 (decide (0≤q15)) (Z0 (!decide (q15≤2147483647)) q17 (Z0 q4 (Z0 q6 (Z0 q8 (Z0 q9 (Z0 q10 (Z0 q11 (Z0 q12 (Z0 q16 (ok=false) (Z0 (decide (q13<0)) (ok=false) (Z0 (decide (q13>1125899906842624)) (ok=false) (Z0 (!decide (q18<24)) (ok=false) (ok=true))))) False) False) False) False) False) False) False)) q17)) q17)) q17)) q17) (by kernel_rfl) ?_
 conv=>zeta
 try simp only [Zc]
 try simp only [Zj]
 try simp only [Zd]
 try simp only [Zk]
 try simp only [Zl]
 try simp only [Zb]
 try simp only [Int.toNat_natCast,Nat.zero_add,true_and,and_true,Nat.le_refl]
 obtain ⟨h0,h1,h2,h3,h4,h5,h6,h7,h8,hb⟩:=hl
 simp only [h0,h1,h2,h3,h4,h5,h6,h7,h8,and_self,decide_true,true_and,forall_const,Bool.not_eq_true',Bool.not_eq_false',decide_eq_true_eq,decide_eq_false_iff_not,Int.not_le,Int.not_lt,reduceCtorEq,false_implies,and_true]
 cases ok with
 | true=>
  obtain ⟨⟨w0,w1,w2,w3,w4,w5,w6,w7,w8,w9⟩,hr,hk⟩:=hok.1 rfl
  have hk':=hk
  simp only [kindOk] at hk
  repeat' first
   | trivial
   | apply And.intro
   | intro
  all_goals first
   | omega
   | (exfalso;omega)
   | (rename_i hq;exact absurd (hr.symm.trans hq) (by decide))
   | (rename_i hq _;exact absurd (hr.symm.trans hq) (by decide))
   | (rename_i hq _ _;exact absurd (hr.symm.trans hq) (by decide))
 | false=>
  have hn:¬ZG s 3:=fun h=>absurd (hok.2 h) (by decide)
  repeat' first
   | trivial
   | apply And.intro
   | intro
  all_goals first
   | exact absurd (ZG.mk ⟨by omega,by omega,by omega,by omega,by omega,by omega,by omega,by omega,by omega,by omega⟩ (by assumption) (by simp only [kindOk]<;>omega)) hn
   | exact absurd (ZG.mk ⟨by omega,by omega,by omega,by omega,by omega,by omega,by omega,by omega,by omega,by omega⟩ (by assumption) trivial) hn
theorem ZgH (s:Zv) (ok:Bool) (hl:s.Len) (hok:ok=true↔ZG s 4):
  evF Q4 40 35 [.agg (.int .i64 4::s.r)] ⟨0,[]⟩ (chK ok):=by
 refine @Eq.mpr _ (let q1:=s.id;
 let q2:=s.t;
 let q3:=q2.fund;
 let q4:=decide (List.length q3=32∧(32:Nat)=32);
 let q5:=q2.k0;
 let q6:=decide (List.length q5=32∧(32:Nat)=32);
 let q7:=q2.k1;
 let q8:=decide (List.length q7=32∧(32:Nat)=32);
 let q9:=decide (List.length s.point=32∧(32:Nat)=32);
 let q10:=decide (List.length s.nxt=32∧(32:Nat)=32);
 let q11:=decide (List.length s.key=32∧(32:Nat)=32);
 let q12:=decide (List.length s.hash=32∧(32:Nat)=32);
 let q13:=decide (List.length s.secret=32∧(32:Nat)=32);
 let q14:=s.amount;
 let q15:=s.number;
 let q16:=s.index;
 let q17:=s.expiry;
 let q18:= !(true&&(q3==Z5&&(q2.index==0&&(q2.cap==0&&(q2.dust==0&&(q2.fee==0&&(q2.delay==0&&(q5==Z5&&q7==Z5))))))&&(s.reserve==0&&(q14==0&&(s.point==Z5&&(s.nxt==Z5&&(s.key==Z5&&(s.hash==Z5&&(true&&(s.secret==Z5&&(q1==0&&(q15==0&&(q16==0&&(q17==0&&(s.code==0&&ByteArray.toList s.route==ByteArray.toList ByteArray.empty)))))))))))))));
 let q19:=Z0 q4 (Z0 q6 (Z0 q8 (Z0 q9 (Z0 q10 (Z0 q11 (Z0 q12 (Z0 q13 (Z0 q18 (ok=false) (ok=false)) False) False) False) False) False) False) False) False;
 Z0 (decide (0≤q1)) (Z0 (!decide (q1≤2147483647)) q19 (Z0 (decide (0≤q15)) (Z0 (!decide (q15≤2147483647)) q19 (Z0 (decide (0≤q16)) (Z0 (!decide (q16≤2147483647)) q19 (Z0 (decide (0≤q17)) (Z0 (!decide (q17≤2147483647)) q19 (Z0 q4 (Z0 q6 (Z0 q8 (Z0 q9 (Z0 q10 (Z0 q11 (Z0 q12 (Z0 q13 (Z0 q18 (ok=false) (Z0 (decide (q14<0)) (ok=false) (Z0 (decide (q14>1125899906842624)) (ok=false) (ok=true)))) False) False) False) False) False) False) False) False)) q19)) q19)) q19)) q19) (by kernel_rfl) ?_
 conv=>zeta
 try simp only [Zc]
 try simp only [Zj]
 try simp only [Zd]
 try simp only [Zk]
 try simp only [Zl]
 try simp only [Zb]
 try simp only [Int.toNat_natCast,Nat.zero_add,true_and,and_true,Nat.le_refl]
 obtain ⟨h0,h1,h2,h3,h4,h5,h6,h7,h8,hb⟩:=hl
 simp only [h0,h1,h2,h3,h4,h5,h6,h7,h8,and_self,decide_true,true_and,forall_const,Bool.not_eq_true',Bool.not_eq_false',decide_eq_true_eq,decide_eq_false_iff_not,Int.not_le,Int.not_lt,reduceCtorEq,false_implies,and_true]
 cases ok with
 | true=>
  obtain ⟨⟨w0,w1,w2,w3,w4,w5,w6,w7,w8,w9⟩,hr,hk⟩:=hok.1 rfl
  have hk':=hk
  simp only [kindOk] at hk
  repeat' first
   | trivial
   | apply And.intro
   | intro
  all_goals first
   | omega
   | (exfalso;omega)
   | (rename_i hq;exact absurd (hr.symm.trans hq) (by decide))
   | (rename_i hq _;exact absurd (hr.symm.trans hq) (by decide))
   | (rename_i hq _ _;exact absurd (hr.symm.trans hq) (by decide))
 | false=>
  have hn:¬ZG s 4:=fun h=>absurd (hok.2 h) (by decide)
  repeat' first
   | trivial
   | apply And.intro
   | intro
  all_goals first
   | exact absurd (ZG.mk ⟨by omega,by omega,by omega,by omega,by omega,by omega,by omega,by omega,by omega,by omega⟩ (by assumption) (by simp only [kindOk]<;>omega)) hn
   | exact absurd (ZG.mk ⟨by omega,by omega,by omega,by omega,by omega,by omega,by omega,by omega,by omega,by omega⟩ (by assumption) trivial) hn
end Go.Tk
end
section
namespace Go.Tk
open IntKind (i64 u8 u32 u64 wrap)
theorem ZgI (s:Zv) (ok:Bool) (hl:s.Len) (hok:ok=true↔ZG s 5):
  evF Q4 40 35 [.agg (.int .i64 5::s.r)] ⟨0,[]⟩ (chK ok):=by
 refine @Eq.mpr _ (let q1:=s.id;
 let q2:=s.t;
 let q3:=q2.fund;
 let q4:=decide (List.length q3=32∧(32:Nat)=32);
 let q5:=q2.k0;
 let q6:=decide (List.length q5=32∧(32:Nat)=32);
 let q7:=q2.k1;
 let q8:=decide (List.length q7=32∧(32:Nat)=32);
 let q9:=decide (List.length s.point=32∧(32:Nat)=32);
 let q10:=decide (List.length s.nxt=32∧(32:Nat)=32);
 let q11:=decide (List.length s.key=32∧(32:Nat)=32);
 let q12:=decide (List.length s.hash=32∧(32:Nat)=32);
 let q13:=decide (List.length s.tag=32∧(32:Nat)=32);
 let q14:=decide (List.length s.secret=32∧(32:Nat)=32);
 let q15:=s.amount;
 let q16:=s.number;
 let q17:=s.index;
 let q18:=s.expiry;
 let q19:= !(true&&(q3==Z5&&(q2.index==0&&(q2.cap==0&&(q2.dust==0&&(q2.fee==0&&(q2.delay==0&&(q5==Z5&&q7==Z5))))))&&(s.reserve==0&&(q15==0&&(s.point==Z5&&(s.nxt==Z5&&(s.key==Z5&&(s.hash==Z5&&(s.tag==Z5&&(s.secret==Z5&&(q1==0&&(q16==0&&(q17==0&&(q18==0&&(s.code==0&&ByteArray.toList s.route==ByteArray.toList ByteArray.empty)))))))))))))));
 let q20:=Z0 q4 (Z0 q6 (Z0 q8 (Z0 q9 (Z0 q10 (Z0 q11 (Z0 q12 (Z0 q13 (Z0 q14 (Z0 q19 (ok=false) (ok=false)) False) False) False) False) False) False) False) False) False;
 Z0 (decide (0≤q1)) (Z0 (!decide (q1≤2147483647)) q20 (Z0 (decide (0≤q16)) (Z0 (!decide (q16≤2147483647)) q20 (Z0 (decide (0≤q17)) (Z0 (!decide (q17≤2147483647)) q20 (Z0 (decide (0≤q18)) (Z0 (!decide (q18≤2147483647)) q20 (Z0 q4 (Z0 q6 (Z0 q8 (Z0 q9 (Z0 q10 (Z0 q11 (Z0 q12 (Z0 q13 (Z0 q14 (Z0 q19 (ok=false) (Z0 (decide (q15<0)) (ok=false) (Z0 (decide (q15>1125899906842624)) (ok=false) (ok=true)))) False) False) False) False) False) False) False) False) False)) q20)) q20)) q20)) q20) (by kernel_rfl) ?_
 conv=>zeta
 try simp only [Zc]
 try simp only [Zj]
 try simp only [Zd]
 try simp only [Zk]
 try simp only [Zl]
 try simp only [Zb]
 try simp only [Int.toNat_natCast,Nat.zero_add,true_and,and_true,Nat.le_refl]
 obtain ⟨h0,h1,h2,h3,h4,h5,h6,h7,h8,hb⟩:=hl
 simp only [h0,h1,h2,h3,h4,h5,h6,h7,h8,and_self,decide_true,true_and,forall_const,Bool.not_eq_true',Bool.not_eq_false',decide_eq_true_eq,decide_eq_false_iff_not,Int.not_le,Int.not_lt,reduceCtorEq,false_implies,and_true]
 cases ok with
 | true=>
  obtain ⟨⟨w0,w1,w2,w3,w4,w5,w6,w7,w8,w9⟩,hr,hk⟩:=hok.1 rfl
  have hk':=hk
  simp only [kindOk] at hk
  repeat' first
   | trivial
   | apply And.intro
   | intro
  all_goals first
   | omega
   | (exfalso;omega)
   | (rename_i hq;exact absurd (hr.symm.trans hq) (by decide))
   | (rename_i hq _;exact absurd (hr.symm.trans hq) (by decide))
   | (rename_i hq _ _;exact absurd (hr.symm.trans hq) (by decide))
 | false=>
  have hn:¬ZG s 5:=fun h=>absurd (hok.2 h) (by decide)
  repeat' first
   | trivial
   | apply And.intro
   | intro
  all_goals first
   | exact absurd (ZG.mk ⟨by omega,by omega,by omega,by omega,by omega,by omega,by omega,by omega,by omega,by omega⟩ (by assumption) (by simp only [kindOk]<;>omega)) hn
   | exact absurd (ZG.mk ⟨by omega,by omega,by omega,by omega,by omega,by omega,by omega,by omega,by omega,by omega⟩ (by assumption) trivial) hn
theorem ZgJ (s:Zv) (ok:Bool) (hl:s.Len) (hok:ok=true↔ZG s 6):
  evF Q4 40 35 [.agg (.int .i64 6::s.r)] ⟨0,[]⟩ (chK ok):=by
 refine @Eq.mpr _ (let q1:=s.t;
 let q2:=q1.fund;
 let q3:=decide (List.length q2=32∧(32:Nat)=32);
 let q4:=q1.k0;
 let q5:=decide (List.length q4=32∧(32:Nat)=32);
 let q6:=q1.k1;
 let q7:=decide (List.length q6=32∧(32:Nat)=32);
 let q8:=decide (List.length s.point=32∧(32:Nat)=32);
 let q9:=decide (List.length s.nxt=32∧(32:Nat)=32);
 let q10:=decide (List.length s.key=32∧(32:Nat)=32);
 let q11:=decide (List.length s.tag=32∧(32:Nat)=32);
 let q12:=decide (List.length s.secret=32∧(32:Nat)=32);
 let q13:=s.number;
 let q14:=s.index;
 let q15:= !(true&&(q2==Z5&&(q1.index==0&&(q1.cap==0&&(q1.dust==0&&(q1.fee==0&&(q1.delay==0&&(q4==Z5&&q6==Z5))))))&&(s.reserve==0&&(true&&(s.point==Z5&&(s.nxt==Z5&&(s.key==Z5&&(true&&(s.tag==Z5&&(s.secret==Z5&&(true&&(q13==0&&(q14==0&&(true&&(s.code==0&&true)))))))))))))));
 let q16:=Z0 q3 (Z0 q5 (Z0 q7 (Z0 q8 (Z0 q9 (Z0 q10 (Z0 q11 (Z0 q12 (Z0 q15 (ok=false) (ok=false)) False) False) False) False) False) False) False) False;
 let q17:=s.expiry;
 let q18:=s.amount;
 Z0 (decide (0≤s.id)) (Z0 (!decide (s.id≤2147483647)) q16 (Z0 (decide (0≤q13)) (Z0 (!decide (q13≤2147483647)) q16 (Z0 (decide (0≤q14)) (Z0 (!decide (q14≤2147483647)) q16 (Z0 (decide (0≤q17)) (Z0 (!decide (q17≤2147483647)) q16 (Z0 q3 (Z0 q5 (Z0 q7 (Z0 q8 (Z0 q9 (Z0 q10 (Z0 q11 (Z0 q12 (Z0 q15 (ok=false) (Z0 (decide (q18<0)) (ok=false) (Z0 (decide (q18>1125899906842624)) (ok=false) (Z0 (decide (q18>0)) (Z0 (decide (q17>0)) (Z0 (!decide ((↑(ByteArray.size s.route):Int)≤512)) (ok=false) (ok=true)) (ok=false)) (ok=false))))) False) False) False) False) False) False) False) False)) q16)) q16)) q16)) q16) (by kernel_rfl) ?_
 conv=>zeta
 try simp only [Zc]
 try simp only [Zj]
 try simp only [Zd]
 try simp only [Zk]
 try simp only [Zl]
 try simp only [Zb]
 try simp only [Int.toNat_natCast,Nat.zero_add,true_and,and_true,Nat.le_refl]
 obtain ⟨h0,h1,h2,h3,h4,h5,h6,h7,h8,hb⟩:=hl
 simp only [h0,h1,h2,h3,h4,h5,h6,h7,h8,and_self,decide_true,true_and,forall_const,Bool.not_eq_true',Bool.not_eq_false',decide_eq_true_eq,decide_eq_false_iff_not,Int.not_le,Int.not_lt,reduceCtorEq,false_implies,and_true]
 cases ok with
 | true=>
  obtain ⟨⟨w0,w1,w2,w3,w4,w5,w6,w7,w8,w9⟩,hr,hk⟩:=hok.1 rfl
  have hk':=hk
  simp only [kindOk] at hk
  repeat' first
   | trivial
   | apply And.intro
   | intro
  all_goals first
   | omega
   | (exfalso;omega)
   | (rename_i hq;exact absurd (hr.symm.trans hq) (by decide))
   | (rename_i hq _;exact absurd (hr.symm.trans hq) (by decide))
   | (rename_i hq _ _;exact absurd (hr.symm.trans hq) (by decide))
 | false=>
  have hn:¬ZG s 6:=fun h=>absurd (hok.2 h) (by decide)
  repeat' first
   | trivial
   | apply And.intro
   | intro
  all_goals first
   | exact absurd (ZG.mk ⟨by omega,by omega,by omega,by omega,by omega,by omega,by omega,by omega,by omega,by omega⟩ (by assumption) (by simp only [kindOk]<;>omega)) hn
   | exact absurd (ZG.mk ⟨by omega,by omega,by omega,by omega,by omega,by omega,by omega,by omega,by omega,by omega⟩ (by assumption) trivial) hn
theorem ZgK (s:Zv) (ok:Bool) (hl:s.Len) (hok:ok=true↔ZG s 7):
  evF Q4 40 35 [.agg (.int .i64 7::s.r)] ⟨0,[]⟩ (chK ok):=by
 refine @Eq.mpr _ (let q1:=s.t;
 let q2:=q1.fund;
 let q3:=decide (List.length q2=32∧(32:Nat)=32);
 let q4:=q1.k0;
 let q5:=decide (List.length q4=32∧(32:Nat)=32);
 let q6:=q1.k1;
 let q7:=decide (List.length q6=32∧(32:Nat)=32);
 let q8:=decide (List.length s.point=32∧(32:Nat)=32);
 let q9:=decide (List.length s.nxt=32∧(32:Nat)=32);
 let q10:=decide (List.length s.key=32∧(32:Nat)=32);
 let q11:=decide (List.length s.hash=32∧(32:Nat)=32);
 let q12:=decide (List.length s.tag=32∧(32:Nat)=32);
 let q13:=s.amount;
 let q14:=s.number;
 let q15:=s.index;
 let q16:=s.expiry;
 let q17:= !(true&&(q2==Z5&&(q1.index==0&&(q1.cap==0&&(q1.dust==0&&(q1.fee==0&&(q1.delay==0&&(q4==Z5&&q6==Z5))))))&&(s.reserve==0&&(q13==0&&(s.point==Z5&&(s.nxt==Z5&&(s.key==Z5&&(s.hash==Z5&&(s.tag==Z5&&(true&&(true&&(q14==0&&(q15==0&&(q16==0&&(s.code==0&&ByteArray.toList s.route==ByteArray.toList ByteArray.empty)))))))))))))));
 let q18:=Z0 q3 (Z0 q5 (Z0 q7 (Z0 q8 (Z0 q9 (Z0 q10 (Z0 q11 (Z0 q12 (Z0 q17 (ok=false) (ok=false)) False) False) False) False) False) False) False) False;
 Z0 (decide (0≤s.id)) (Z0 (!decide (s.id≤2147483647)) q18 (Z0 (decide (0≤q14)) (Z0 (!decide (q14≤2147483647)) q18 (Z0 (decide (0≤q15)) (Z0 (!decide (q15≤2147483647)) q18 (Z0 (decide (0≤q16)) (Z0 (!decide (q16≤2147483647)) q18 (Z0 q3 (Z0 q5 (Z0 q7 (Z0 q8 (Z0 q9 (Z0 q10 (Z0 q11 (Z0 q12 (Z0 q17 (ok=false) (Z0 (decide (q13<0)) (ok=false) (Z0 (decide (q13>1125899906842624)) (ok=false) (ok=true)))) False) False) False) False) False) False) False) False)) q18)) q18)) q18)) q18) (by kernel_rfl) ?_
 conv=>zeta
 try simp only [Zc]
 try simp only [Zj]
 try simp only [Zd]
 try simp only [Zk]
 try simp only [Zl]
 try simp only [Zb]
 try simp only [Int.toNat_natCast,Nat.zero_add,true_and,and_true,Nat.le_refl]
 obtain ⟨h0,h1,h2,h3,h4,h5,h6,h7,h8,hb⟩:=hl
 simp only [h0,h1,h2,h3,h4,h5,h6,h7,h8,and_self,decide_true,true_and,forall_const,Bool.not_eq_true',Bool.not_eq_false',decide_eq_true_eq,decide_eq_false_iff_not,Int.not_le,Int.not_lt,reduceCtorEq,false_implies,and_true]
 cases ok with
 | true=>
  obtain ⟨⟨w0,w1,w2,w3,w4,w5,w6,w7,w8,w9⟩,hr,hk⟩:=hok.1 rfl
  have hk':=hk
  simp only [kindOk] at hk
  repeat' first
   | trivial
   | apply And.intro
   | intro
  all_goals first
   | omega
   | (exfalso;omega)
   | (rename_i hq;exact absurd (hr.symm.trans hq) (by decide))
   | (rename_i hq _;exact absurd (hr.symm.trans hq) (by decide))
   | (rename_i hq _ _;exact absurd (hr.symm.trans hq) (by decide))
 | false=>
  have hn:¬ZG s 7:=fun h=>absurd (hok.2 h) (by decide)
  repeat' first
   | trivial
   | apply And.intro
   | intro
  all_goals first
   | exact absurd (ZG.mk ⟨by omega,by omega,by omega,by omega,by omega,by omega,by omega,by omega,by omega,by omega⟩ (by assumption) (by simp only [kindOk]<;>omega)) hn
   | exact absurd (ZG.mk ⟨by omega,by omega,by omega,by omega,by omega,by omega,by omega,by omega,by omega,by omega⟩ (by assumption) trivial) hn
theorem ZgL (s:Zv) (ok:Bool) (hl:s.Len) (hok:ok=true↔ZG s 8):
  evF Q4 40 35 [.agg (.int .i64 8::s.r)] ⟨0,[]⟩ (chK ok):=by
 refine @Eq.mpr _ (let q1:=s.t;
 let q2:=q1.fund;
 let q3:=decide (List.length q2=32∧(32:Nat)=32);
 let q4:=q1.k0;
 let q5:=decide (List.length q4=32∧(32:Nat)=32);
 let q6:=q1.k1;
 let q7:=decide (List.length q6=32∧(32:Nat)=32);
 let q8:=decide (List.length s.point=32∧(32:Nat)=32);
 let q9:=decide (List.length s.nxt=32∧(32:Nat)=32);
 let q10:=decide (List.length s.key=32∧(32:Nat)=32);
 let q11:=decide (List.length s.hash=32∧(32:Nat)=32);
 let q12:=decide (List.length s.tag=32∧(32:Nat)=32);
 let q13:=decide (List.length s.secret=32∧(32:Nat)=32);
 let q14:=s.amount;
 let q15:=s.number;
 let q16:=s.index;
 let q17:=s.expiry;
 let q18:= !(true&&(q2==Z5&&(q1.index==0&&(q1.cap==0&&(q1.dust==0&&(q1.fee==0&&(q1.delay==0&&(q4==Z5&&q6==Z5))))))&&(s.reserve==0&&(q14==0&&(s.point==Z5&&(s.nxt==Z5&&(s.key==Z5&&(s.hash==Z5&&(s.tag==Z5&&(s.secret==Z5&&(true&&(q15==0&&(q16==0&&(q17==0&&(true&&ByteArray.toList s.route==ByteArray.toList ByteArray.empty)))))))))))))));
 let q19:=Z0 q3 (Z0 q5 (Z0 q7 (Z0 q8 (Z0 q9 (Z0 q10 (Z0 q11 (Z0 q12 (Z0 q13 (Z0 q18 (ok=false) (ok=false)) False) False) False) False) False) False) False) False) False;
 Z0 (decide (0≤s.id)) (Z0 (!decide (s.id≤2147483647)) q19 (Z0 (decide (0≤q15)) (Z0 (!decide (q15≤2147483647)) q19 (Z0 (decide (0≤q16)) (Z0 (!decide (q16≤2147483647)) q19 (Z0 (decide (0≤q17)) (Z0 (!decide (q17≤2147483647)) q19 (Z0 q3 (Z0 q5 (Z0 q7 (Z0 q8 (Z0 q9 (Z0 q10 (Z0 q11 (Z0 q12 (Z0 q13 (Z0 q18 (ok=false) (Z0 (decide (q14<0)) (ok=false) (Z0 (decide (q14>1125899906842624)) (ok=false) (Z0 (decide (1≤s.code)) (Z0 (!decide (s.code≤999)) (ok=false) (ok=true)) (ok=false))))) False) False) False) False) False) False) False) False) False)) q19)) q19)) q19)) q19) (by kernel_rfl) ?_
 conv=>zeta
 try simp only [Zc]
 try simp only [Zj]
 try simp only [Zd]
 try simp only [Zk]
 try simp only [Zl]
 try simp only [Zb]
 try simp only [Int.toNat_natCast,Nat.zero_add,true_and,and_true,Nat.le_refl]
 obtain ⟨h0,h1,h2,h3,h4,h5,h6,h7,h8,hb⟩:=hl
 simp only [h0,h1,h2,h3,h4,h5,h6,h7,h8,and_self,decide_true,true_and,forall_const,Bool.not_eq_true',Bool.not_eq_false',decide_eq_true_eq,decide_eq_false_iff_not,Int.not_le,Int.not_lt,reduceCtorEq,false_implies,and_true]
 cases ok with
 | true=>
  obtain ⟨⟨w0,w1,w2,w3,w4,w5,w6,w7,w8,w9⟩,hr,hk⟩:=hok.1 rfl
  have hk':=hk
  simp only [kindOk] at hk
  repeat' first
   | trivial
   | apply And.intro
   | intro
  all_goals first
   | omega
   | (exfalso;omega)
   | (rename_i hq;exact absurd (hr.symm.trans hq) (by decide))
   | (rename_i hq _;exact absurd (hr.symm.trans hq) (by decide))
   | (rename_i hq _ _;exact absurd (hr.symm.trans hq) (by decide))
 | false=>
  have hn:¬ZG s 8:=fun h=>absurd (hok.2 h) (by decide)
  repeat' first
   | trivial
   | apply And.intro
   | intro
  all_goals first
   | exact absurd (ZG.mk ⟨by omega,by omega,by omega,by omega,by omega,by omega,by omega,by omega,by omega,by omega⟩ (by assumption) (by simp only [kindOk]<;>omega)) hn
   | exact absurd (ZG.mk ⟨by omega,by omega,by omega,by omega,by omega,by omega,by omega,by omega,by omega,by omega⟩ (by assumption) trivial) hn
end Go.Tk
end
section
namespace Go.Tk
open IntKind (i64 u8 u32 u64 wrap)
theorem ZgM (s:Zv) (ok:Bool) (hl:s.Len) (hok:ok=true↔ZG s 9):
  evF Q4 40 35 [.agg (.int .i64 9::s.r)] ⟨0,[]⟩ (chK ok):=by
 refine @Eq.mpr _ (let q1:=s.id;
 let q2:=s.t;
 let q3:=q2.fund;
 let q4:=decide (List.length q3=32∧(32:Nat)=32);
 let q5:=q2.k0;
 let q6:=decide (List.length q5=32∧(32:Nat)=32);
 let q7:=q2.k1;
 let q8:=decide (List.length q7=32∧(32:Nat)=32);
 let q9:=decide (List.length s.point=32∧(32:Nat)=32);
 let q10:=decide (List.length s.nxt=32∧(32:Nat)=32);
 let q11:=decide (List.length s.key=32∧(32:Nat)=32);
 let q12:=decide (List.length s.hash=32∧(32:Nat)=32);
 let q13:=decide (List.length s.secret=32∧(32:Nat)=32);
 let q14:=s.amount;
 let q15:=s.index;
 let q16:=s.expiry;
 let q17:= !(true&&(q3==Z5&&(q2.index==0&&(q2.cap==0&&(q2.dust==0&&(q2.fee==0&&(q2.delay==0&&(q5==Z5&&q7==Z5))))))&&(s.reserve==0&&(q14==0&&(s.point==Z5&&(s.nxt==Z5&&(s.key==Z5&&(s.hash==Z5&&(true&&(s.secret==Z5&&(q1==0&&(true&&(q15==0&&(q16==0&&(s.code==0&&ByteArray.toList s.route==ByteArray.toList ByteArray.empty)))))))))))))));
 let q18:=Z0 q4 (Z0 q6 (Z0 q8 (Z0 q9 (Z0 q10 (Z0 q11 (Z0 q12 (Z0 q13 (Z0 q17 (ok=false) (ok=false)) False) False) False) False) False) False) False) False;
 Z0 (decide (0≤q1)) (Z0 (!decide (q1≤2147483647)) q18 (Z0 (decide (0≤s.number)) (Z0 (!decide (s.number≤2147483647)) q18 (Z0 (decide (0≤q15)) (Z0 (!decide (q15≤2147483647)) q18 (Z0 (decide (0≤q16)) (Z0 (!decide (q16≤2147483647)) q18 (Z0 q4 (Z0 q6 (Z0 q8 (Z0 q9 (Z0 q10 (Z0 q11 (Z0 q12 (Z0 q13 (Z0 q17 (ok=false) (Z0 (decide (q14<0)) (ok=false) (Z0 (decide (q14>1125899906842624)) (ok=false) (ok=true)))) False) False) False) False) False) False) False) False)) q18)) q18)) q18)) q18) (by kernel_rfl) ?_
 conv=>zeta
 try simp only [Zc]
 try simp only [Zj]
 try simp only [Zd]
 try simp only [Zk]
 try simp only [Zl]
 try simp only [Zb]
 try simp only [Int.toNat_natCast,Nat.zero_add,true_and,and_true,Nat.le_refl]
 obtain ⟨h0,h1,h2,h3,h4,h5,h6,h7,h8,hb⟩:=hl
 simp only [h0,h1,h2,h3,h4,h5,h6,h7,h8,and_self,decide_true,true_and,forall_const,Bool.not_eq_true',Bool.not_eq_false',decide_eq_true_eq,decide_eq_false_iff_not,Int.not_le,Int.not_lt,reduceCtorEq,false_implies,and_true]
 cases ok with
 | true=>
  obtain ⟨⟨w0,w1,w2,w3,w4,w5,w6,w7,w8,w9⟩,hr,hk⟩:=hok.1 rfl
  have hk':=hk
  simp only [kindOk] at hk
  repeat' first
   | trivial
   | apply And.intro
   | intro
  all_goals first
   | omega
   | (exfalso;omega)
   | (rename_i hq;exact absurd (hr.symm.trans hq) (by decide))
   | (rename_i hq _;exact absurd (hr.symm.trans hq) (by decide))
   | (rename_i hq _ _;exact absurd (hr.symm.trans hq) (by decide))
 | false=>
  have hn:¬ZG s 9:=fun h=>absurd (hok.2 h) (by decide)
  repeat' first
   | trivial
   | apply And.intro
   | intro
  all_goals first
   | exact absurd (ZG.mk ⟨by omega,by omega,by omega,by omega,by omega,by omega,by omega,by omega,by omega,by omega⟩ (by assumption) (by simp only [kindOk]<;>omega)) hn
   | exact absurd (ZG.mk ⟨by omega,by omega,by omega,by omega,by omega,by omega,by omega,by omega,by omega,by omega⟩ (by assumption) trivial) hn
theorem ZeA (s:Zv) (ok:Bool) (hl:s.Len) (hok:ok=true↔ZG s 10):
  evF Q4 40 35 [.agg (.int .i64 10::s.r)] ⟨0,[]⟩ (chK ok):=by
 refine @Eq.mpr _ (let q1:=s.id;
 let q2:=s.t;
 let q3:=q2.fund;
 let q4:=decide (List.length q3=32∧(32:Nat)=32);
 let q5:=q2.k0;
 let q6:=decide (List.length q5=32∧(32:Nat)=32);
 let q7:=q2.k1;
 let q8:=decide (List.length q7=32∧(32:Nat)=32);
 let q9:=decide (List.length s.point=32∧(32:Nat)=32);
 let q10:=decide (List.length s.key=32∧(32:Nat)=32);
 let q11:=decide (List.length s.hash=32∧(32:Nat)=32);
 let q12:=decide (List.length s.tag=32∧(32:Nat)=32);
 let q13:=s.amount;
 let q14:=s.index;
 let q15:=s.expiry;
 let q16:= !(true&&(q3==Z5&&(q2.index==0&&(q2.cap==0&&(q2.dust==0&&(q2.fee==0&&(q2.delay==0&&(q5==Z5&&q7==Z5))))))&&(s.reserve==0&&(q13==0&&(s.point==Z5&&(true&&(s.key==Z5&&(s.hash==Z5&&(s.tag==Z5&&(true&&(q1==0&&(true&&(q14==0&&(q15==0&&(s.code==0&&ByteArray.toList s.route==ByteArray.toList ByteArray.empty)))))))))))))));
 let q17:=Z0 q4 (Z0 q6 (Z0 q8 (Z0 q9 (Z0 q10 (Z0 q11 (Z0 q12 (Z0 q16 (ok=false) (ok=false)) False) False) False) False) False) False) False;
 Z0 (decide (0≤q1)) (Z0 (!decide (q1≤2147483647)) q17 (Z0 (decide (0≤s.number)) (Z0 (!decide (s.number≤2147483647)) q17 (Z0 (decide (0≤q14)) (Z0 (!decide (q14≤2147483647)) q17 (Z0 (decide (0≤q15)) (Z0 (!decide (q15≤2147483647)) q17 (Z0 q4 (Z0 q6 (Z0 q8 (Z0 q9 (Z0 q10 (Z0 q11 (Z0 q12 (Z0 q16 (ok=false) (Z0 (decide (q13<0)) (ok=false) (Z0 (decide (q13>1125899906842624)) (ok=false) (ok=true)))) False) False) False) False) False) False) False)) q17)) q17)) q17)) q17) (by kernel_rfl) ?_
 conv=>zeta
 try simp only [Zc]
 try simp only [Zj]
 try simp only [Zd]
 try simp only [Zk]
 try simp only [Zl]
 try simp only [Zb]
 try simp only [Int.toNat_natCast,Nat.zero_add,true_and,and_true,Nat.le_refl]
 obtain ⟨h0,h1,h2,h3,h4,h5,h6,h7,h8,hb⟩:=hl
 simp only [h0,h1,h2,h3,h4,h5,h6,h7,h8,and_self,decide_true,true_and,forall_const,Bool.not_eq_true',Bool.not_eq_false',decide_eq_true_eq,decide_eq_false_iff_not,Int.not_le,Int.not_lt,reduceCtorEq,false_implies,and_true]
 cases ok with
 | true=>
  obtain ⟨⟨w0,w1,w2,w3,w4,w5,w6,w7,w8,w9⟩,hr,hk⟩:=hok.1 rfl
  have hk':=hk
  simp only [kindOk] at hk
  repeat' first
   | trivial
   | apply And.intro
   | intro
  all_goals first
   | omega
   | (exfalso;omega)
   | (rename_i hq;exact absurd (hr.symm.trans hq) (by decide))
   | (rename_i hq _;exact absurd (hr.symm.trans hq) (by decide))
   | (rename_i hq _ _;exact absurd (hr.symm.trans hq) (by decide))
 | false=>
  have hn:¬ZG s 10:=fun h=>absurd (hok.2 h) (by decide)
  repeat' first
   | trivial
   | apply And.intro
   | intro
  all_goals first
   | exact absurd (ZG.mk ⟨by omega,by omega,by omega,by omega,by omega,by omega,by omega,by omega,by omega,by omega⟩ (by assumption) (by simp only [kindOk]<;>omega)) hn
   | exact absurd (ZG.mk ⟨by omega,by omega,by omega,by omega,by omega,by omega,by omega,by omega,by omega,by omega⟩ (by assumption) trivial) hn
theorem ZeB (s:Zv) (ok:Bool) (hl:s.Len) (hok:ok=true↔ZG s 11):
  evF Q4 40 35 [.agg (.int .i64 11::s.r)] ⟨0,[]⟩ (chK ok):=by
 refine @Eq.mpr _ (let q1:=s.t;
 let q2:=q1.fund;
 let q3:=decide (List.length q2=32∧(32:Nat)=32);
 let q4:=q1.k0;
 let q5:=decide (List.length q4=32∧(32:Nat)=32);
 let q6:=q1.k1;
 let q7:=decide (List.length q6=32∧(32:Nat)=32);
 let q8:=decide (List.length s.point=32∧(32:Nat)=32);
 let q9:=decide (List.length s.nxt=32∧(32:Nat)=32);
 let q10:=decide (List.length s.key=32∧(32:Nat)=32);
 let q11:=decide (List.length s.hash=32∧(32:Nat)=32);
 let q12:=decide (List.length s.tag=32∧(32:Nat)=32);
 let q13:=decide (List.length s.secret=32∧(32:Nat)=32);
 let q14:=s.amount;
 let q15:=s.index;
 let q16:=s.expiry;
 let q17:= !(true&&(q2==Z5&&(q1.index==0&&(q1.cap==0&&(q1.dust==0&&(q1.fee==0&&(q1.delay==0&&(q4==Z5&&q6==Z5))))))&&(s.reserve==0&&(q14==0&&(s.point==Z5&&(s.nxt==Z5&&(s.key==Z5&&(s.hash==Z5&&(s.tag==Z5&&(s.secret==Z5&&(true&&(true&&(q15==0&&(q16==0&&(s.code==0&&ByteArray.toList s.route==ByteArray.toList ByteArray.empty)))))))))))))));
 let q18:=Z0 q3 (Z0 q5 (Z0 q7 (Z0 q8 (Z0 q9 (Z0 q10 (Z0 q11 (Z0 q12 (Z0 q13 (Z0 q17 (ok=false) (ok=false)) False) False) False) False) False) False) False) False) False;
 Z0 (decide (0≤s.id)) (Z0 (!decide (s.id≤2147483647)) q18 (Z0 (decide (0≤s.number)) (Z0 (!decide (s.number≤2147483647)) q18 (Z0 (decide (0≤q15)) (Z0 (!decide (q15≤2147483647)) q18 (Z0 (decide (0≤q16)) (Z0 (!decide (q16≤2147483647)) q18 (Z0 q3 (Z0 q5 (Z0 q7 (Z0 q8 (Z0 q9 (Z0 q10 (Z0 q11 (Z0 q12 (Z0 q13 (Z0 q17 (ok=false) (Z0 (decide (q14<0)) (ok=false) (Z0 (decide (q14>1125899906842624)) (ok=false) (ok=true)))) False) False) False) False) False) False) False) False) False)) q18)) q18)) q18)) q18) (by kernel_rfl) ?_
 conv=>zeta
 try simp only [Zc]
 try simp only [Zj]
 try simp only [Zd]
 try simp only [Zk]
 try simp only [Zl]
 try simp only [Zb]
 try simp only [Int.toNat_natCast,Nat.zero_add,true_and,and_true,Nat.le_refl]
 obtain ⟨h0,h1,h2,h3,h4,h5,h6,h7,h8,hb⟩:=hl
 simp only [h0,h1,h2,h3,h4,h5,h6,h7,h8,and_self,decide_true,true_and,forall_const,Bool.not_eq_true',Bool.not_eq_false',decide_eq_true_eq,decide_eq_false_iff_not,Int.not_le,Int.not_lt,reduceCtorEq,false_implies,and_true]
 cases ok with
 | true=>
  obtain ⟨⟨w0,w1,w2,w3,w4,w5,w6,w7,w8,w9⟩,hr,hk⟩:=hok.1 rfl
  have hk':=hk
  simp only [kindOk] at hk
  repeat' first
   | trivial
   | apply And.intro
   | intro
  all_goals first
   | omega
   | (exfalso;omega)
   | (rename_i hq;exact absurd (hr.symm.trans hq) (by decide))
   | (rename_i hq _;exact absurd (hr.symm.trans hq) (by decide))
   | (rename_i hq _ _;exact absurd (hr.symm.trans hq) (by decide))
 | false=>
  have hn:¬ZG s 11:=fun h=>absurd (hok.2 h) (by decide)
  repeat' first
   | trivial
   | apply And.intro
   | intro
  all_goals first
   | exact absurd (ZG.mk ⟨by omega,by omega,by omega,by omega,by omega,by omega,by omega,by omega,by omega,by omega⟩ (by assumption) (by simp only [kindOk]<;>omega)) hn
   | exact absurd (ZG.mk ⟨by omega,by omega,by omega,by omega,by omega,by omega,by omega,by omega,by omega,by omega⟩ (by assumption) trivial) hn
theorem ZeC (s:Zv) (ok:Bool) (hl:s.Len) (hok:ok=true↔ZG s 12):
  evF Q4 40 35 [.agg (.int .i64 12::s.r)] ⟨0,[]⟩ (chK ok):=by
 refine @Eq.mpr _ (let q1:=s.id;
 let q2:=s.t;
 let q3:=q2.fund;
 let q4:=decide (List.length q3=32∧(32:Nat)=32);
 let q5:=q2.k0;
 let q6:=decide (List.length q5=32∧(32:Nat)=32);
 let q7:=q2.k1;
 let q8:=decide (List.length q7=32∧(32:Nat)=32);
 let q9:=decide (List.length s.point=32∧(32:Nat)=32);
 let q10:=decide (List.length s.nxt=32∧(32:Nat)=32);
 let q11:=decide (List.length s.key=32∧(32:Nat)=32);
 let q12:=decide (List.length s.hash=32∧(32:Nat)=32);
 let q13:=decide (List.length s.tag=32∧(32:Nat)=32);
 let q14:=decide (List.length s.secret=32∧(32:Nat)=32);
 let q15:=s.amount;
 let q16:=s.number;
 let q17:=s.index;
 let q18:=s.expiry;
 let q19:= !(true&&(q3==Z5&&(q2.index==0&&(q2.cap==0&&(q2.dust==0&&(q2.fee==0&&(q2.delay==0&&(q5==Z5&&q7==Z5))))))&&(s.reserve==0&&(q15==0&&(s.point==Z5&&(s.nxt==Z5&&(s.key==Z5&&(s.hash==Z5&&(s.tag==Z5&&(s.secret==Z5&&(q1==0&&(q16==0&&(q17==0&&(q18==0&&(s.code==0&&ByteArray.toList s.route==ByteArray.toList ByteArray.empty)))))))))))))));
 let q20:=Z0 q4 (Z0 q6 (Z0 q8 (Z0 q9 (Z0 q10 (Z0 q11 (Z0 q12 (Z0 q13 (Z0 q14 (Z0 q19 (ok=false) (ok=false)) False) False) False) False) False) False) False) False) False;
 Z0 (decide (0≤q1)) (Z0 (!decide (q1≤2147483647)) q20 (Z0 (decide (0≤q16)) (Z0 (!decide (q16≤2147483647)) q20 (Z0 (decide (0≤q17)) (Z0 (!decide (q17≤2147483647)) q20 (Z0 (decide (0≤q18)) (Z0 (!decide (q18≤2147483647)) q20 (Z0 q4 (Z0 q6 (Z0 q8 (Z0 q9 (Z0 q10 (Z0 q11 (Z0 q12 (Z0 q13 (Z0 q14 (Z0 q19 (ok=false) (Z0 (decide (q15<0)) (ok=false) (Z0 (decide (q15>1125899906842624)) (ok=false) (ok=true)))) False) False) False) False) False) False) False) False) False)) q20)) q20)) q20)) q20) (by kernel_rfl) ?_
 conv=>zeta
 try simp only [Zc]
 try simp only [Zj]
 try simp only [Zd]
 try simp only [Zk]
 try simp only [Zl]
 try simp only [Zb]
 try simp only [Int.toNat_natCast,Nat.zero_add,true_and,and_true,Nat.le_refl]
 obtain ⟨h0,h1,h2,h3,h4,h5,h6,h7,h8,hb⟩:=hl
 simp only [h0,h1,h2,h3,h4,h5,h6,h7,h8,and_self,decide_true,true_and,forall_const,Bool.not_eq_true',Bool.not_eq_false',decide_eq_true_eq,decide_eq_false_iff_not,Int.not_le,Int.not_lt,reduceCtorEq,false_implies,and_true]
 cases ok with
 | true=>
  obtain ⟨⟨w0,w1,w2,w3,w4,w5,w6,w7,w8,w9⟩,hr,hk⟩:=hok.1 rfl
  have hk':=hk
  simp only [kindOk] at hk
  repeat' first
   | trivial
   | apply And.intro
   | intro
  all_goals first
   | omega
   | (exfalso;omega)
   | (rename_i hq;exact absurd (hr.symm.trans hq) (by decide))
   | (rename_i hq _;exact absurd (hr.symm.trans hq) (by decide))
   | (rename_i hq _ _;exact absurd (hr.symm.trans hq) (by decide))
 | false=>
  have hn:¬ZG s 12:=fun h=>absurd (hok.2 h) (by decide)
  repeat' first
   | trivial
   | apply And.intro
   | intro
  all_goals first
   | exact absurd (ZG.mk ⟨by omega,by omega,by omega,by omega,by omega,by omega,by omega,by omega,by omega,by omega⟩ (by assumption) (by simp only [kindOk]<;>omega)) hn
   | exact absurd (ZG.mk ⟨by omega,by omega,by omega,by omega,by omega,by omega,by omega,by omega,by omega,by omega⟩ (by assumption) trivial) hn
end Go.Tk
end
section
namespace Go.Tk
open IntKind (i64 u8 u32 u64 wrap)
theorem ZgN (s:Zv) (ok:Bool) (hl:s.Len) (hok:ok=true↔ZG s 13):
  evF Q4 40 35 [.agg (.int .i64 13::s.r)] ⟨0,[]⟩ (chK ok):=by
 refine @Eq.mpr _ (let q1:=s.id;
 let q2:=s.t;
 let q3:=q2.fund;
 let q4:=decide (List.length q3=32∧(32:Nat)=32);
 let q5:=q2.k0;
 let q6:=decide (List.length q5=32∧(32:Nat)=32);
 let q7:=q2.k1;
 let q8:=decide (List.length q7=32∧(32:Nat)=32);
 let q9:=decide (List.length s.point=32∧(32:Nat)=32);
 let q10:=decide (List.length s.nxt=32∧(32:Nat)=32);
 let q11:=decide (List.length s.key=32∧(32:Nat)=32);
 let q12:=decide (List.length s.hash=32∧(32:Nat)=32);
 let q13:=decide (List.length s.secret=32∧(32:Nat)=32);
 let q14:=s.number;
 let q15:=s.index;
 let q16:=s.expiry;
 let q17:= !(true&&(q3==Z5&&(q2.index==0&&(q2.cap==0&&(q2.dust==0&&(q2.fee==0&&(q2.delay==0&&(q5==Z5&&q7==Z5))))))&&(s.reserve==0&&(true&&(s.point==Z5&&(s.nxt==Z5&&(s.key==Z5&&(s.hash==Z5&&(true&&(s.secret==Z5&&(q1==0&&(q14==0&&(q15==0&&(q16==0&&(s.code==0&&ByteArray.toList s.route==ByteArray.toList ByteArray.empty)))))))))))))));
 let q18:=Z0 q4 (Z0 q6 (Z0 q8 (Z0 q9 (Z0 q10 (Z0 q11 (Z0 q12 (Z0 q13 (Z0 q17 (ok=false) (ok=false)) False) False) False) False) False) False) False) False;
 Z0 (decide (0≤q1)) (Z0 (!decide (q1≤2147483647)) q18 (Z0 (decide (0≤q14)) (Z0 (!decide (q14≤2147483647)) q18 (Z0 (decide (0≤q15)) (Z0 (!decide (q15≤2147483647)) q18 (Z0 (decide (0≤q16)) (Z0 (!decide (q16≤2147483647)) q18 (Z0 q4 (Z0 q6 (Z0 q8 (Z0 q9 (Z0 q10 (Z0 q11 (Z0 q12 (Z0 q13 (Z0 q17 (ok=false) (Z0 (decide (s.amount<0)) (ok=false) (Z0 (decide (s.amount>1125899906842624)) (ok=false) (ok=true)))) False) False) False) False) False) False) False) False)) q18)) q18)) q18)) q18) (by kernel_rfl) ?_
 conv=>zeta
 try simp only [Zc]
 try simp only [Zj]
 try simp only [Zd]
 try simp only [Zk]
 try simp only [Zl]
 try simp only [Zb]
 try simp only [Int.toNat_natCast,Nat.zero_add,true_and,and_true,Nat.le_refl]
 obtain ⟨h0,h1,h2,h3,h4,h5,h6,h7,h8,hb⟩:=hl
 simp only [h0,h1,h2,h3,h4,h5,h6,h7,h8,and_self,decide_true,true_and,forall_const,Bool.not_eq_true',Bool.not_eq_false',decide_eq_true_eq,decide_eq_false_iff_not,Int.not_le,Int.not_lt,reduceCtorEq,false_implies,and_true]
 cases ok with
 | true=>
  obtain ⟨⟨w0,w1,w2,w3,w4,w5,w6,w7,w8,w9⟩,hr,hk⟩:=hok.1 rfl
  have hk':=hk
  simp only [kindOk] at hk
  repeat' first
   | trivial
   | apply And.intro
   | intro
  all_goals first
   | omega
   | (exfalso;omega)
   | (rename_i hq;exact absurd (hr.symm.trans hq) (by decide))
   | (rename_i hq _;exact absurd (hr.symm.trans hq) (by decide))
   | (rename_i hq _ _;exact absurd (hr.symm.trans hq) (by decide))
 | false=>
  have hn:¬ZG s 13:=fun h=>absurd (hok.2 h) (by decide)
  repeat' first
   | trivial
   | apply And.intro
   | intro
  all_goals first
   | exact absurd (ZG.mk ⟨by omega,by omega,by omega,by omega,by omega,by omega,by omega,by omega,by omega,by omega⟩ (by assumption) (by simp only [kindOk]<;>omega)) hn
   | exact absurd (ZG.mk ⟨by omega,by omega,by omega,by omega,by omega,by omega,by omega,by omega,by omega,by omega⟩ (by assumption) trivial) hn
theorem ZgO (s:Zv) (ok:Bool) (hl:s.Len) (hok:ok=true↔ZG s 14):
  evF Q4 40 35 [.agg (.int .i64 14::s.r)] ⟨0,[]⟩ (chK ok):=by
 refine @Eq.mpr _ (let q1:=s.id;
 let q2:=s.t;
 let q3:=q2.fund;
 let q4:=decide (List.length q3=32∧(32:Nat)=32);
 let q5:=q2.k0;
 let q6:=decide (List.length q5=32∧(32:Nat)=32);
 let q7:=q2.k1;
 let q8:=decide (List.length q7=32∧(32:Nat)=32);
 let q9:=decide (List.length s.point=32∧(32:Nat)=32);
 let q10:=decide (List.length s.nxt=32∧(32:Nat)=32);
 let q11:=decide (List.length s.key=32∧(32:Nat)=32);
 let q12:=decide (List.length s.hash=32∧(32:Nat)=32);
 let q13:=decide (List.length s.tag=32∧(32:Nat)=32);
 let q14:=decide (List.length s.secret=32∧(32:Nat)=32);
 let q15:=s.amount;
 let q16:=s.number;
 let q17:=s.index;
 let q18:=s.expiry;
 let q19:= !(true&&(q3==Z5&&(q2.index==0&&(q2.cap==0&&(q2.dust==0&&(q2.fee==0&&(q2.delay==0&&(q5==Z5&&q7==Z5))))))&&(s.reserve==0&&(q15==0&&(s.point==Z5&&(s.nxt==Z5&&(s.key==Z5&&(s.hash==Z5&&(s.tag==Z5&&(s.secret==Z5&&(q1==0&&(q16==0&&(q17==0&&(q18==0&&(true&&ByteArray.toList s.route==ByteArray.toList ByteArray.empty)))))))))))))));
 let q20:=Z0 q4 (Z0 q6 (Z0 q8 (Z0 q9 (Z0 q10 (Z0 q11 (Z0 q12 (Z0 q13 (Z0 q14 (Z0 q19 (ok=false) (ok=false)) False) False) False) False) False) False) False) False) False;
 Z0 (decide (0≤q1)) (Z0 (!decide (q1≤2147483647)) q20 (Z0 (decide (0≤q16)) (Z0 (!decide (q16≤2147483647)) q20 (Z0 (decide (0≤q17)) (Z0 (!decide (q17≤2147483647)) q20 (Z0 (decide (0≤q18)) (Z0 (!decide (q18≤2147483647)) q20 (Z0 q4 (Z0 q6 (Z0 q8 (Z0 q9 (Z0 q10 (Z0 q11 (Z0 q12 (Z0 q13 (Z0 q14 (Z0 q19 (ok=false) (Z0 (decide (q15<0)) (ok=false) (Z0 (decide (q15>1125899906842624)) (ok=false) (Z0 (decide (1≤s.code)) (Z0 (!decide (s.code≤999)) (ok=false) (ok=true)) (ok=false))))) False) False) False) False) False) False) False) False) False)) q20)) q20)) q20)) q20) (by kernel_rfl) ?_
 conv=>zeta
 try simp only [Zc]
 try simp only [Zj]
 try simp only [Zd]
 try simp only [Zk]
 try simp only [Zl]
 try simp only [Zb]
 try simp only [Int.toNat_natCast,Nat.zero_add,true_and,and_true,Nat.le_refl]
 obtain ⟨h0,h1,h2,h3,h4,h5,h6,h7,h8,hb⟩:=hl
 simp only [h0,h1,h2,h3,h4,h5,h6,h7,h8,and_self,decide_true,true_and,forall_const,Bool.not_eq_true',Bool.not_eq_false',decide_eq_true_eq,decide_eq_false_iff_not,Int.not_le,Int.not_lt,reduceCtorEq,false_implies,and_true]
 cases ok with
 | true=>
  obtain ⟨⟨w0,w1,w2,w3,w4,w5,w6,w7,w8,w9⟩,hr,hk⟩:=hok.1 rfl
  have hk':=hk
  simp only [kindOk] at hk
  repeat' first
   | trivial
   | apply And.intro
   | intro
  all_goals first
   | omega
   | (exfalso;omega)
   | (rename_i hq;exact absurd (hr.symm.trans hq) (by decide))
   | (rename_i hq _;exact absurd (hr.symm.trans hq) (by decide))
   | (rename_i hq _ _;exact absurd (hr.symm.trans hq) (by decide))
 | false=>
  have hn:¬ZG s 14:=fun h=>absurd (hok.2 h) (by decide)
  repeat' first
   | trivial
   | apply And.intro
   | intro
  all_goals first
   | exact absurd (ZG.mk ⟨by omega,by omega,by omega,by omega,by omega,by omega,by omega,by omega,by omega,by omega⟩ (by assumption) (by simp only [kindOk]<;>omega)) hn
   | exact absurd (ZG.mk ⟨by omega,by omega,by omega,by omega,by omega,by omega,by omega,by omega,by omega,by omega⟩ (by assumption) trivial) hn
def noQ:ZQ:=fun _ _ _=>False
theorem Z6x {f:FuncId} (args:List AV) (h:Z7) (K:KO) (hl:noQ args h K):Zg PP f args h K:=hl.elim
noncomputable def ZgP:Ze:=((G0.withF 227 noQ).withF 230 noQ).withF 235 noQ
theorem ZhK (s:Zv) (k:Int) (hl:s.Len) (hk:k<1∨14<k):
  evF ZgP 40 35 [.agg (.int .i64 k::s.r)] ⟨0,[]⟩ (chK false):=by
 refine @Eq.mpr _ (let q1:=s.id;
 let q2:=s.t;
 let q3:=q2.fund;
 let q4:=decide (List.length q3=32∧(32:Nat)=32);
 let q5:=q2.k0;
 let q6:=decide (List.length q5=32∧(32:Nat)=32);
 let q7:=q2.k1;
 let q8:=decide (List.length q7=32∧(32:Nat)=32);
 let q9:=decide (List.length s.point=32∧(32:Nat)=32);
 let q10:=decide (List.length s.nxt=32∧(32:Nat)=32);
 let q11:=decide (List.length s.key=32∧(32:Nat)=32);
 let q12:=decide (List.length s.hash=32∧(32:Nat)=32);
 let q13:=decide (List.length s.tag=32∧(32:Nat)=32);
 let q14:=decide (List.length s.secret=32∧(32:Nat)=32);
 let q15:=s.amount;
 let q16:=s.number;
 let q17:=s.index;
 let q18:=s.expiry;
 let q19:= !(k==k&&(q3==Z5&&(q2.index==0&&(q2.cap==0&&(q2.dust==0&&(q2.fee==0&&(q2.delay==0&&(q5==Z5&&q7==Z5))))))&&(s.reserve==0&&(q15==0&&(s.point==Z5&&(s.nxt==Z5&&(s.key==Z5&&(s.hash==Z5&&(s.tag==Z5&&(s.secret==Z5&&(q1==0&&(q16==0&&(q17==0&&(q18==0&&(s.code==0&&ByteArray.toList s.route==ByteArray.toList ByteArray.empty)))))))))))))));
 let q20:=Z0 q4 (Z0 q6 (Z0 q8 (Z0 q9 (Z0 q10 (Z0 q11 (Z0 q12 (Z0 q13 (Z0 q14 (Z0 q19 (false=false) (false=false)) False) False) False) False) False) False) False) False) False;
 Z0 (decide (k=k))
 (Z0 (decide (k=1)) False
 (Z0 (decide (k=2)) False
 (Z0 (decide (k=3)) False
 (Z0 (decide (k=4)) False
 (Z0 (decide (k=5)) (Z0 (decide (0≤q1)) (Z0 (!decide (q1≤2147483647)) q20 (Z0 (decide (0≤q16)) (Z0 (!decide (q16≤2147483647)) q20 (Z0 (decide (0≤q17)) (Z0 (!decide (q17≤2147483647)) q20 (Z0 (decide (0≤q18)) (Z0 (!decide (q18≤2147483647)) q20 (Z0 q4 (Z0 q6 (Z0 q8 (Z0 q9 (Z0 q10 (Z0 q11 (Z0 q12 (Z0 q13 (Z0 q14 (Z0 q19 (false=false) (Z0 (decide (q15<0)) (false=false) (Z0 (decide (q15>1125899906842624)) (false=false) (false=true)))) False) False) False) False) False) False) False) False) False)) q20)) q20)) q20)) q20)
 (Z0 (decide (k=6)) False
 (Z0 (decide (k=7)) False
 (Z0 (decide (k=8)) False
 (Z0 (decide (k=9)) False
 (Z0 (decide (k=10)) False
 (Z0 (decide (k=11)) False
 (Z0 (decide (k=12)) (Z0 (decide (0≤q1)) (Z0 (!decide (q1≤2147483647)) q20 (Z0 (decide (0≤q16)) (Z0 (!decide (q16≤2147483647)) q20 (Z0 (decide (0≤q17)) (Z0 (!decide (q17≤2147483647)) q20 (Z0 (decide (0≤q18)) (Z0 (!decide (q18≤2147483647)) q20 (Z0 q4 (Z0 q6 (Z0 q8 (Z0 q9 (Z0 q10 (Z0 q11 (Z0 q12 (Z0 q13 (Z0 q14 (Z0 q19 (false=false) (Z0 (decide (q15<0)) (false=false) (Z0 (decide (q15>1125899906842624)) (false=false) (false=true)))) False) False) False) False) False) False) False) False) False)) q20)) q20)) q20)) q20)
 (Z0 (decide (k=13)) False (Z0 (decide (k=14)) False (Z0 (decide (0≤q1)) (Z0 (!decide (q1≤2147483647)) (false=false) (Z0 (decide (0≤q16)) (Z0 (!decide (q16≤2147483647)) (false=false) (Z0 (decide (0≤q17)) (Z0 (!decide (q17≤2147483647)) (false=false) (Z0 (decide (0≤q18)) (Z0 (!decide (q18≤2147483647)) (false=false) (false=false)) (false=false))) (false=false))) (false=false))) (false=false))))))))))))))))
 False) (by kernel_rfl) ?_
 conv=>zeta
 try simp only [Zc]
 try simp only [Zj]
 try simp only [Zd]
 try simp only [Zk]
 try simp only [Zl]
 try simp only [Zb]
 try simp only [Int.toNat_natCast,Nat.zero_add,true_and,and_true,Nat.le_refl]
 obtain ⟨h0,h1,h2,h3,h4,h5,h6,h7,h8,hb⟩:=hl
 simp only [h0,h1,h2,h3,h4,h5,h6,h7,h8,and_self,decide_true,true_and,forall_const,Bool.not_eq_true',Bool.not_eq_false',decide_eq_true_eq,decide_eq_false_iff_not,Int.not_le,Int.not_lt,reduceCtorEq,false_implies,and_true]
 repeat' first
  | trivial
  | apply And.intro
  | intro
 all_goals first
  | omega
  | (exfalso;omega)
end Go.Tk
end
section
namespace Go.Tk
open IntKind (i64 u8 u32 u64 wrap)
theorem Zg.k {P:Program} {f:FuncId} {args:List AV} {h:Z7} {K K':KO} (hc:Zg P f args h K) (hk:∀o h,K o h→K' o h):Zg P f args h K':=fun E w rs he hl=>
 (hc E w rs he hl).mono (by
  rintro e w' ⟨E1,o,h',h1,h2,h3⟩
  exact ⟨E1,o,h',hk _ _ h1,h2,h3⟩)
theorem ZgQ {ok:Bool} {o:Out} {h:Z7} (hk:chK ok o h):Uh (fun v=>v=.int .i64 (if ok=true then 0 else 2)) o h:=by
 unfold chK at hk
 split at hk
 ·subst hk;rfl
 ·subst hk;rfl
 ·exact hk.elim
theorem YW:Q4.Ok:=Ze.withP_ok Zu Z1X
theorem ZcR:ZgP.Ok:=Ze.withF_ok (Ze.withF_ok (Ze.withF_ok Zu (Z6x (f:=227))) (Z6x (f:=230))) (Z6x (f:=235))
theorem Z6y {s:Zv} {k:Int} (hk:k<1∨14<k):¬ZG s k:=fun h=>by
 have hq:=h.k
 unfold kindOk at hq
 split at hq<;>first|omega|exact hq
theorem ZgR {s:Zv} (hs:s.Len) {ok:Bool} (hok:ok=true↔ZG s s.kind):Zg PP 35 [.agg s.c] ⟨0,[]⟩ (chK ok):=by
 unfold Zv.c
 have h15:s.kind=1∨s.kind=2∨s.kind=3∨s.kind=4∨s.kind=5∨s.kind=6∨s.kind=7∨s.kind=8∨s.kind=9∨s.kind=10∨s.kind=11∨s.kind=12∨s.kind=13∨s.kind=14∨(s.kind<1∨14<s.kind):=by omega
 rcases h15 with h|h|h|h|h|h|h|h|h|h|h|h|h|h|h
 ·rw [h] at hok⊢;exact Yw YW (ZgE s ok hs hok)
 ·rw [h] at hok⊢;exact Yw YW (ZgF s ok hs hok)
 ·rw [h] at hok⊢;exact Yw YW (ZgG s ok hs hok)
 ·rw [h] at hok⊢;exact Yw YW (ZgH s ok hs hok)
 ·rw [h] at hok⊢;exact Yw YW (ZgI s ok hs hok)
 ·rw [h] at hok⊢;exact Yw YW (ZgJ s ok hs hok)
 ·rw [h] at hok⊢;exact Yw YW (ZgK s ok hs hok)
 ·rw [h] at hok⊢;exact Yw YW (ZgL s ok hs hok)
 ·rw [h] at hok⊢;exact Yw YW (ZgM s ok hs hok)
 ·rw [h] at hok⊢;exact Yw YW (ZeA s ok hs hok)
 ·rw [h] at hok⊢;exact Yw YW (ZeB s ok hs hok)
 ·rw [h] at hok⊢;exact Yw YW (ZeC s ok hs hok)
 ·rw [h] at hok⊢;exact Yw YW (ZgN s ok hs hok)
 ·rw [h] at hok⊢;exact Yw YW (ZgO s ok hs hok)
 ·have e:ok=false:=Bool.eq_false_iff.2 fun e=>Z6y h (hok.1 e)
  subst e
  exact Yw ZcR (ZhK s s.kind hs h)
theorem Zb6 (args:List AV) (h:Z7) (K:AV→Prop) (hl:ZcK Z2k args h K):Zg PP 35 args h fun o h'=>∃v,o=.ret v∧h'=h∧K v:=by
 unfold ZcK at hl
 split at hl
 ·obtain ⟨s,⟨rfl⟩,hs,h1,h0⟩:=hl
  refine Z1V rfl ((ZgR hs Qz).k fun o h hk=>ZgQ hk) fun u hu=> ?_
  subst hu
  cases hq:Z2k s with
  | true=>exact h1 hq
  | false=>exact h0 hq
 ·exact hl.elim
end Go.Tk
end
section
namespace Go.Tk
open IntKind (i64 u8 u32 u64 wrap)
def ZhS (SB:Zv→Bool) (M:Int→Int→Int) (Tg:List Int→TxS→List Int):ZQ:=fun args h K=>match args with
 | [.ptr (some ⟨x,0,0,0,0⟩),_]=>frA [x] h 60 args fun Bs a=>match Bs,a with
  | [.flat cs],[.ptr (some ⟨0,0,0,0,0⟩),.agg ss]=>∃k s,Wi cs k∧Z0B ss s∧(Xc k∧k.t.All)∧s.Len∧
   ∀r,r=XL SB M Tg k s→K (.ret (.tuple [.agg (sdC r.kd r.am r.tg),.bool r.sy,.int .i64 r.e])) ⟨h.next,(x,.flat (clT k k.side r.of r.la r.ag r.fe))::ZX h.bs x⟩
  | _,_=>False
 | _=>False
theorem Z7A {s:Zv} (h:Z2k s=true):0≤s.amount∧s.amount≤1125899906842624:=by
 have:=(Qz.1 h).w
 exact ⟨this.i,this.j⟩
def Zdg (n:Int):List Int:=n::List.replicate 31 0
def Z2l:Zq:=⟨Z5,0,1000,10,5,3,Zdg 1,Zdg 2⟩
def ZgS (A:List Int→Int×Int):ZQ:=fun args h K=>ZL none h true 40 args fun x=>match x with
 | [.agg cs,.int .i64 sd,.agg [.arr .i64 2 ab],.int .i64 lo,.int .i64 hi]=>∃t a b,Z8E cs t∧ab=[a,b]∧t.Ok∧(match decide (lo≤hi) with
  | true=>YO A (k0C t sd a b lo hi)=true∧K (.ret (.tuple [.ptr (some ⟨h.next,0,0,0,0⟩),.int .i64 0])) ⟨h.next+1,(h.next,.flat (clT (k0C t sd a b lo hi) sd false 0 false 0))::h.bs⟩
  | false=>YO A (k0C t sd a b lo hi)=false∧K (.ret (.tuple [.ptr none,.int .i64 2])) h)
 | _=>False
theorem ZcS (args:List AV) (h:Z7) (K:KO) (hl:ZgS ZS args h K):Zg PP 9 args h K:=Zb3 args h K (Zn _ _ _ _ _ hl fun a ha=>by
 split at ha
 ·obtain ⟨t,a,b,h1,h2,h3,hm⟩:=ha
  refine ⟨t,a,b,h1,h2,h3,fun hq=> ?_,fun hq=> ?_⟩
  ·split at hm
   ·exact hm.2
   ·exact absurd (hq.symm.trans hm.1) (by decide)
  ·split at hm
   ·exact absurd (hq.symm.trans hm.1) (by decide)
   ·exact hm.2
 ·exact ha.elim)
def ZeD (Tg:List Int→TxS→List Int):ZQ:=fun args h K=>match args with
 | [.ptr (some ⟨x,0,0,0,0⟩)]=>frA [x] h 40 args fun Bs a=>match Bs,a with
  | [.flat cs],[.ptr (some ⟨0,0,0,0,0⟩)]=>∃k,Wi cs k∧WF k∧k.agrees=false∧(match ZcP cs 8,ZcP cs 12 with
   | .int .i64 0,.bool false=>ZW k.t k.a0 k.a1 k.least=0∧K (.ret (.tuple [.agg (sdC 13 k.least (Xj Tg k k.least k.side)),.int .i64 0])) ⟨h.next,(x,.flat (Zgx cs k.least))::ZX h.bs x⟩
   | .int .i64 _,.bool _=>(k.side≠0∨k.offers=true)∧K (.ret (.tuple [.agg (sdC 0 0 Z5),.int .i64 251])) ⟨h.next,(x,.flat cs)::ZX h.bs x⟩
   | _,_=>False)
  | _,_=>False
 | _=>False
theorem ZcT (args:List AV) (h:Z7) (K:KO) (hl:ZeD Y0 args h K):Zg PP 12 args h K:=by
 have hE:=Ze.withF_ok (f:=32) Zu Z7x
 unfold ZeD at hl
 split at hl
 ·refine Spec.fsumm hl fun Bs a hlen hK0=> ?_
  split at hK0
  ·obtain ⟨k,⟨rfl⟩,hk,hg,hm⟩:=hK0
   obtain ⟨t,sd,a0,a1,le,mo,o0,l0,g0,f0⟩:=k
   have hg:g0=false:=hg
   subst hg
   split at hm
   ·rename_i h8 h12
    obtain ⟨hE0,hK⟩:=hm
    have e1:sd=0:=by cases h8;rfl
    have e2:o0=false:=by cases h12;rfl
    subst e1 e2
    exact ⟨_,_,_,_,_,.evM hE (ZgB Y0 ⟨t,0,a0,a1,le,mo,false,l0,false,f0⟩ _ _ _ _ _ _ _ _ _ hk (Zb5 rfl (by simp) hE0)),by simp,.ret _ _ rfl,.cons _ _ _ _ _ _ rfl (.flat _ _ rfl) .nil,hK⟩
   ·obtain ⟨hso,hK⟩:=hm
    exact ⟨_,_,_,_,_,.evM hE (ZgB Y0 ⟨t,sd,a0,a1,le,mo,o0,l0,false,f0⟩ _ _ _ _ _ _ _ _ _ hk (Z6w rfl hso)),by simp,.ret _ _ rfl,.cons _ _ _ _ _ _ rfl (.flat _ _ rfl) .nil,hK⟩
   ·exact hm.elim
  ·exact hK0.elim
 ·exact hl.elim
def Zb7 (SB:Zv→Bool) (Tg:List Int→TxS→List Int):ZQ:=fun args h K=>match args with
 | [.ptr (some ⟨x,0,0,0,0⟩),_]=>frA [x] h 60 args fun Bs a=>match Bs,a with
  | [.flat cs],[.ptr (some ⟨0,0,0,0,0⟩),.agg ss]=>∃k s,Wi cs k∧Z0B ss s∧(Xc k∧k.t.All∧k.agrees=false)∧(s.Len∧SB s=true)∧(match ZcP ss 0 with
   | .int .i64 12=>K (.ret (.tuple [.agg (sdC 0 0 Z5),.bool false,.int .i64 210])) ⟨h.next,(x,.flat cs)::ZX h.bs x⟩
   | .int .i64 13=>(ZW k.t k.a0 k.a1 s.amount=0∧Xj Tg k s.amount (1-k.side)≠s.tag)∧K (.ret (.tuple [.agg (sdC 0 0 Z5),.bool false,.int .i64 221])) ⟨h.next,(x,.flat cs)::ZX h.bs x⟩
   | _=>False)
  | _,_=>False
 | _=>False
theorem Zb8 (args:List AV) (h:Z7) (K:KO) (hl:Zb7 Z2k Y0 args h K):Zg PP 13 args h K:=by
 unfold Zb7 at hl
 split at hl
 ·refine Spec.fsumm hl fun Bs a hlen hK0=> ?_
  split at hK0
  ·obtain ⟨k,s,⟨rfl⟩,⟨rfl⟩,⟨hk,ht,hg⟩,⟨hs,hS⟩,hm⟩:=hK0
   split at hm
   ·rename_i h0
    have e:s.kind=12:=by
     have h:AV.int .i64 s.kind=AV.int .i64 12:=h0
     injection h
    exact ⟨_,_,_,_,_,Z3a Zb6 hk ht hs Z7A (Z0M hS (by rw [e];decide)),by simp,.ret _ _ rfl,.cons _ _ _ _ _ _ rfl (.flat _ _ rfl) .nil,hm⟩
   ·rename_i h0
    have e:s.kind=13:=by
     have h:AV.int .i64 s.kind=AV.int .i64 13:=h0
     injection h
    exact ⟨_,_,_,_,_,Z3a Zb6 hk ht hs Z7A (Z41 ⟨hS,e,hg⟩ hm.1.1 hm.1.2),by simp,.ret _ _ rfl,.cons _ _ _ _ _ _ rfl (.flat _ _ rfl) .nil,hm.2⟩
   ·exact hm.elim
  ·exact hK0.elim
 ·exact hl.elim
noncomputable def ZgT (A:List Int→Int×Int) (SB:Zv→Bool) (Tg:List Int→TxS→List Int):Ze:=(((G0.withF 9 (ZgS A)).withF 12 (ZeD Tg)).withF 13 (Zb7 SB Tg)).withF 15 (Zez Tg)
theorem ZcU:(ZgT ZS Z2k Y0).Ok:=Ze.withF_ok (Ze.withF_ok (Ze.withF_ok (Ze.withF_ok Zu ZcS) ZcT) Zb8) ZcQ
theorem Z03 {xs:List Int} (h:∀x∈xs,0≤x∧x≤255):Bytes xs:=⟨fun i=>by
 rw [List.getD_eq_getElem?_getD]
 rcases Nat.lt_or_ge i xs.length with q|q
 ·rw [List.getElem?_eq_getElem q];exact h _ (List.getElem_mem q)
 ·rw [List.getElem?_eq_none q];exact ⟨by decide,by decide⟩⟩
theorem QA:Z2l.All:=⟨⟨rfl,rfl,Z03 (by decide),Z03 (by decide)⟩,rfl,Z03 (by decide)⟩
def kA:ClS:=k0C Z2l 1 600 400 0 9
def kB:ClS:=k0C Z2l 0 600 400 3 9
def kC:ClS:=clO kB true 3 false 0
theorem Z6z:WF kA:=⟨QA,by decide,.inr rfl⟩
theorem ZeE:WF kB:=⟨QA,by decide,.inl rfl⟩
theorem Z6A:WF kC:=⟨QA,by decide,.inl rfl⟩
theorem Zb9:Xc kC:=⟨⟨by kernel_rfl,.inl rfl,by decide,by decide,rfl,by decide,by decide,by decide⟩,fun _=>⟨by decide,by decide⟩,(fun h=>nomatch h),(fun h=>nomatch h),fun _=>rfl⟩
theorem Z7B {kd am:Int} {tg:List Int} (h:tg.length=32):(sdN kd am tg).Len:=⟨rfl,rfl,rfl,rfl,rfl,rfl,rfl,h,rfl,Z6o⟩
theorem ZgU:Z2k (sdN 12 0 Z5)=true:=Qz.2 ⟨⟨by decide,by decide,by decide,by decide,by decide,by decide,by decide,by decide,by decide,by decide⟩,by kernel_rfl,trivial⟩
theorem ZgV:Z2k (sdN 13 3 Z5)=true:=Qz.2 ⟨⟨by decide,by decide,by decide,by decide,by decide,by decide,by decide,by decide,by decide,by decide⟩,by kernel_rfl,trivial⟩
theorem ZgW:Xj Y0 kC 3 1≠Z5:=fun h=>by
 have e:(Xj Y0 kC 3 1==Z5)=false:=by kernel_rfl
 rw [h] at e
 exact absurd e (by decide)
theorem Zba:ZW Z2l 600 400 3=0:=by kernel_rfl
theorem ZhL:YO ZS (k0C Z2l 1 600 400 0 9)=true:=by kernel_rfl
theorem ZhM:YO ZS (k0C Z2l 0 600 400 3 9)=true:=by kernel_rfl
theorem ZhN:YO ZS (k0C Z2l 0 600 400 5 4)=false:=by kernel_rfl
theorem ZgX (A:List Int→Int×Int) (SB:Zv→Bool) (Tg:List Int→TxS→List Int) (hA:A=ZS) (hSB:SB=Z2k) (hT:Tg=Y0):
  evF (ZgT A SB Tg) 40 11 [] ⟨0,[]⟩ (Uh fun v=>v=.bool true):=by
 refine @Eq.mpr _ (let q1:=[(600:Int),400];
 let q2:=q1=q1;
 let q3:=AV.arr u8 32 Z5;
 let q4:=AV.int i64 0;
 let q5:=[(0:Int),0,0,0,0,0,0,0,0,0,0,0,0,0,0,0,0,0,0,0,0,0,0,0,0,0,0,0,0,0,0];
 let q6:=AV.bool false;
 let q7:=AV.bool true;
 let q8:=[q6,q4,q7];
 let q9:=q6::q4::q8;
 let q10:=[q3,q3,q3,q3,q3,q3,q4,q4,q4,q4,q4,AV.str ByteArray.empty];
 q2∧
 ∃(t:Zq),
 let q21:=[q3,q4,AV.int i64 1000,AV.int i64 10,AV.int i64 5,AV.int i64 3,AV.arr u8 32 ((1:Int)::q5),AV.arr u8 32 ((2:Int)::q5)];
 ∃(a:Int),
 ∃(b:Int),
 let q23:=k0C t 1 a b 0 9;
 let q24:=q23.t;
 Z8E q21 t∧
 q1=[a,b]∧
 Zq.Ok t∧
 YO A q23=true∧
 ∃(k:ClS),
 let q27:=AV.arr u8 32 q24.fund::AV.int i64 q24.index::AV.int i64 q24.cap::AV.int i64 q24.dust::AV.int i64 q24.fee::AV.int i64 q24.delay::AV.arr u8 32 q24.k0::AV.arr u8 32 q24.k1::AV.int i64 1::AV.arr i64 2 [q23.a0,q23.a1]::AV.int i64 q23.least::AV.int i64 q23.most::q9;
 Wi q27 k∧
 WF k∧
 k.agrees=false∧
 (k.side≠0∨k.offers=true)∧
 ∃(k:ClS),
 Wi q27 k∧
 TxK k∧
 q2∧
 ∃(t:Zq),
 ∃(a:Int),
 ∃(b:Int),
 Z8E q21 t∧
 q1=[a,b]∧
 Zq.Ok t∧
 YO A (k0C t 0 a b 5 4)=false∧
 q2∧
 ∃(t:Zq),
 ∃(a:Int),
 ∃(b:Int),
 let q29:=k0C t 0 a b 3 9;
 let q30:=q29.t;
 let q31:=AV.arr u8 32 q30.fund;
 let q32:=AV.int i64 q30.index;
 let q33:=AV.int i64 q30.cap;
 let q34:=AV.int i64 q30.dust;
 let q35:=AV.int i64 q30.fee;
 let q36:=AV.int i64 q30.delay;
 let q37:=AV.arr u8 32 q30.k0;
 let q38:=AV.arr u8 32 q30.k1;
 let q39:=AV.arr i64 2 [q29.a0,q29.a1];
 let q40:=AV.int i64 q29.least;
 let q41:=AV.int i64 q29.most;
 Z8E q21 t∧
 q1=[a,b]∧
 Zq.Ok t∧
 YO A q29=true∧
 ∃(k:ClS),
 let q55:=k.least;
 let q56:=q31::q32::q33::q34::q35::q36::q37::q38::q4::q39::q40::q41::q7::AV.int i64 q55::q8;
 Wi (q31::q32::q33::q34::q35::q36::q37::q38::q4::q39::q40::q41::q9) k∧WF k∧k.agrees=false∧ZW k.t k.a0 k.a1 q55=0∧∃(k:ClS),Wi q56 k∧WF k∧k.agrees=false∧(k.side≠0∨k.offers=true)∧∃(k:ClS),∃(s:Zv),Wi q56 k∧Z0B (AV.int i64 12::q3::q4::q4::q4::q4::q4::q3::q3::q4::q4::q10) s∧(Xc k∧Zq.All k.t∧k.agrees=false)∧(Zv.Len s∧SB s=true)∧∃(k:ClS),∃(s:Zv),Wi q56 k∧Z0B (AV.int i64 13::q3::q4::q4::q4::q4::q4::q3::q3::q4::AV.int i64 3::q10) s∧(Xc k∧Zq.All k.t∧k.agrees=false)∧(Zv.Len s∧SB s=true)∧(ZW k.t k.a0 k.a1 s.amount=0∧Xj Tg k s.amount (1-k.side)≠s.tag)∧Z0 (q55==3) (q7=q7) (q6=q7)) (by kernel_rfl) ?_
 conv=>zeta
 try simp only [Zc]
 try simp only [Zj]
 try simp only [Zd]
 try simp only [Zk]
 try simp only [Zl]
 try simp only [Zb]
 try simp only [Int.toNat_natCast,Nat.zero_add,true_and,and_true,Nat.le_refl]
 subst hA hSB hT
 have hok:=QA.ok
 refine ⟨Z2l,600,400,⟨rfl⟩,rfl,hok,ZhL,kA,⟨rfl⟩,Z6z,rfl,.inl (by decide),kA,⟨rfl⟩,⟨Z6z.t,Z6z.a⟩,Z2l,600,400,⟨rfl⟩,rfl,hok,ZhN,Z2l,600,400,⟨rfl⟩,rfl,hok,ZhM,kB,⟨rfl⟩,ZeE,rfl,Zba,kC,⟨rfl⟩,Z6A,rfl,.inr rfl,kC,sdN 12 0 Z5,⟨rfl⟩,⟨rfl⟩,⟨Zb9,Z6A.t,rfl⟩,⟨Z7B rfl,ZgU⟩,kC,sdN 13 3 Z5,⟨rfl⟩,⟨rfl⟩,⟨Zb9,Z6A.t,rfl⟩,⟨Z7B rfl,ZgV⟩,⟨Zba,ZgW⟩,fun _=>trivial,fun h=> ?_⟩
 exact absurd (show (kB.least==3)=true from rfl) (by rw [h];decide)
def Zbb:ZZ:=fun args _ K=>match args with
 | []=>K (.bool true)
 | _=>False
theorem ZcV (args:List AV) (h:Z7) (K:AV→Prop) (hl:Zbb args h K):Zg PP 11 args h fun o h'=>∃v,o=.ret v∧h'=h∧K v:=by
 unfold Zbb at hl
 split at hl
 ·exact Ww ZcU rfl (ZgX _ _ _ rfl rfl rfl) (fun u hu=>hu▸hl)
 ·exact hl.elim
end Go.Tk
end
section
namespace Go.Tk
open IntKind (i64 u8 u32 u64 wrap)
def Z43:List AV→(List AV→Prop)→Prop
 | [],k=>k []
 | c::r,k=>Z43 r fun r'=>k (c::r')
theorem Z3b:∀(l:List AV) (k:List AV→Prop),Z43 l k=k l
 | [],_=>rfl
 | c::r,k=>by unfold Z43;rw [Z3b r]
def Z6B (B:Blk) (k:Blk→Prop):Prop:=match B with
 | .flat cs=>Z43 cs fun cs'=>k (.flat cs')
 | _=>k B
theorem Z8G (B:Blk) (k:Blk→Prop):Z6B B k=k B:=by
 unfold Z6B
 split
 ·rw [Z3b]
 ·rfl
def Z44:List (Nat×Blk)→(List (Nat×Blk)→Prop)→Prop
 | [],k=>k []
 | (y,B)::r,k=>Z6B B fun B'=>Z44 r fun r'=>k ((y,B')::r')
theorem Z3c:∀(l:List (Nat×Blk)) (k:List (Nat×Blk)→Prop),Z44 l k=k l
 | [],_=>rfl
 | (y,B)::r,k=>by unfold Z44;rw [Z8G,Z3c r]
def nfK (K:KO):KO:=fun o h=>Z44 h.bs fun bs=>K o ⟨h.next,bs⟩
theorem ZeF (K:KO):nfK K=K:=by
 funext o h
 unfold nfK
 rw [Z3c]
def nfF (S:ZQ):ZQ:=fun args h K=>S args h (nfK K)
theorem Z45 {P:Program} {f:FuncId} {S:ZQ} (hS:∀args h K,S args h K→Zg P f args h K) (args:List AV) (h:Z7) (K:KO) (hl:nfF S args h K):Zg P f args h K:=by
 unfold nfF at hl
 rw [ZeF] at hl
 exact hS _ _ _ hl
end Go.Tk
end
section
namespace Go.Tk
open IntKind (i64 u8 u32 u64 wrap)
theorem Ze.withJE {G:Ze} (hG:G.Ok) {f:FuncId} {id N:Nat} {S:Nat→St→KE→Prop} (h1:Z3R G.P f id=true)
  (h:∀k s X,S k s X→∃(S0 S1:St),VL k s S0∧Z7c G N f id k S0 (jnM k S1)∧X .normal S1):(G.withL f id S).Ok where
 draw:=hG.draw
 psumm:=hG.psumm
 fsumm:=hG.fsumm
 lsumm:=fun f' id' S' fn c body hS hf hb hm k' s X hs=>by
  simp only [Ze.withL] at hS
  split at hS
  ·rename_i hq
   rw [Bool.and_eq_true] at hq
   have e1:=Nat.eq_of_beq_eq_true hq.1
   have e2:=Nat.eq_of_beq_eq_true hq.2
   subst e1 e2
   cases hS
   have hc:=Z8q h1 hf hb hm
   obtain ⟨S0,S1,hw,hE,hX⟩:=h _ _ _ hs
   unfold Z7c at hE
   rw [←hc] at hE
   have hkN:=Qf hG N f' none
   refine Yi.weak ?_ hw
   refine Yi.join (Z1u (k:=k') (ro:=none) hG hkN.1 (fun _=>rfl) (fun _=>rfl) (fun _=>⟨fn,body,by rw [hkN.2.1];exact hf,hb,fun b hbm=>VM body id' _ hm b hbm⟩) hE) ?_
   intro e s' hY
   unfold jnM at hY
   split at hY
   ·obtain ⟨_,hw'⟩:=Wg hY
    exact ⟨_,rfl,hw',hX⟩
   ·exact hY.elim
  ·exact hG.lsumm f' id' S' fn c body hS hf hb hm k' s X hs
def rjH (k:ClS) (xs:List Int) (p:Nat):Z7:=⟨7,[(0,.flat (k.c++[.bool true])),(1,.flat [.ptr (some ⟨2,0,0,0,0⟩)]),(2,.flat [.nslice ⟨3,0,0,0,p⟩ 1 (xs.length-p) (xs.length-p),.bool true,.bool false]),(3,.ints .u8 xs),(4,.flat [.ptr none]),(5,.flat [.int .i64 0]),(6,.defd)]⟩
def rjT (l:ZP):ZP:=l++[(4,.ptr (some ⟨0,0,0,0,0⟩)),(5,.ptr (some ⟨1,0,0,0,0⟩)),(2,.ptr (some ⟨4,0,0,0,0⟩)),(3,.ptr (some ⟨5,0,0,0,0⟩))]
def rj0 (k:ClS) (b:Bool) (xs:List Int) (p:Nat):St:=⟨145,rjT [(56,.bool !k.offers),(8,.bool b)],rjH k xs p,[.mark 6]⟩
def rj1 (k:ClS) (b:Bool) (xs:List Int) (p:Nat):St:=⟨145,rjT [(8,.bool b)],rjH k xs p,[.mark 6]⟩
def Z46 (k:ClS) (b:Bool):Bool:=match k.offers with
 | true=>b
 | false=>k.last==0
theorem ZhO (k:ClS) (b c:Bool) (xs:List Int) (p:Nat) (hc:c=Z46 k b):
  Z7c G0 20 26 100056 0 (rj0 k b xs p) (jnM 0 (rj1 k c xs p)):=by
 refine @Eq.mpr _ (let q1:=k.offers;
 let q2:=k.last;
 let q3:=k.t;
 let q4:=q3.fund;
 let q5:=q3.index;
 let q6:=q3.cap;
 let q7:=q3.dust;
 let q8:=q3.fee;
 let q9:=q3.delay;
 let q10:=q3.k0;
 let q11:=q3.k1;
 let q12:=[k.a0,k.a1];
 let q13:=List.length xs-p;
 let q14:=q4=q4∧Z0 (decide (q5=q5)) (Z0 (decide (q6=q6)) (Z0 (decide (q7=q7)) (Z0 (decide (q8=q8)) (Z0 (decide (q9=q9)) (q10=q10∧q11=q11∧Z0 (decide (k.side=k.side)) (q12=q12∧Z0 (decide (k.least=k.least)) (Z0 (decide (k.most=k.most)) (Z0 (decide (q1=q1)) (Z0 (decide (q2=q2)) (Z0 (decide (k.agrees=k.agrees)) (Z0 (decide (k.fee=k.fee)) (Z0 (decide (p=p)) (Z0 (decide (q13=q13)) (Z0 (decide (q13≤q13)) (xs=xs∧True) False) False) False) False) False) False) False) False) False) False) False) False) False) False) False;
 Z0 (!q1) (Z0 (decide ((q2==0)=c)) q14 False) (Z0 (decide (b=c)) q14 False)) (by kernel_rfl) ?_
 conv=>zeta
 try simp only [Zc]
 try simp only [Zj]
 try simp only [Zd]
 try simp only [Zk]
 try simp only [Zl]
 try simp only [Zb]
 try simp only [Int.toNat_natCast,Nat.zero_add,true_and,and_true,Nat.le_refl]
 subst hc
 unfold Z46
 cases k.offers
 ·refine ⟨fun _=> ?_,fun h=>nomatch h⟩
  and_intros<;>rfl
 ·refine ⟨(fun h=>nomatch h),fun _=> ?_⟩
  and_intros<;>rfl
def rj2 (k:ClS) (b:Bool) (xs:List Int) (p:Nat):St:=rj1 k (Z46 k b) xs p
def jL4 (S0 S1:ClS→Bool→List Int→Nat→St):Nat→St→KE→Prop:=fun k s X=>match Nat.beq k 0 with
 | true=>∃(kk:ClS) (b:Bool) (xs:List Int) (p:Nat),Uw 0 (S0 kk b xs p) s (X .normal (S1 kk b xs p))
 | false=>False
theorem ZeG {G:Ze} (hG:G.Ok) {f:FuncId} {id N:Nat} {S0 S1:ClS→Bool→List Int→Nat→St} (h1:Z3R G.P f id=true) (h:∀kk b xs p,Z7c G N f id 0 (S0 kk b xs p) (jnM 0 (S1 kk b xs p))):(G.withL f id (jL4 S0 S1)).Ok:=
 Ze.withJE hG h1 fun k s X hs=>by
  unfold jL4 at hs
  split at hs
  ·rename_i hk
   have:=Nat.eq_of_beq_eq_true hk
   subst this
   obtain ⟨kk,b,xs,p,hs⟩:=hs
   obtain ⟨hX,hw⟩:=Wg hs
   exact ⟨_,_,hw,h kk b xs p,hX⟩
  ·exact hs.elim
theorem ZcW (G:Ze) (f:FuncId) (S:ZZ):(G.withP f S).P=G.P:=rfl
theorem ZcX (G:Ze) (f:FuncId) (S:ZQ):(G.withF f S).P=G.P:=rfl
theorem Zbc:((((((((G0.withF 53 (nfF Z20)).withF 128 (nfF (Z7o (ZY ZB)))).withF 129 (nfF Z3W)).withF 130 (nfF Z7n)).withF 66 Z7m).withF 119 Qq).withP 30 (ZcG ZS)).withP 40 inQ).Ok:=Ze.withP_ok (Ze.withP_ok (Ze.withF_ok (Ze.withF_ok (Ze.withF_ok (Ze.withF_ok (Ze.withF_ok (Ze.withF_ok Zu (Z45 Z38)) (Z45 ZaK)) (Z45 Z8z)) (Z45 ZaJ)) ZaI) UZ) Z7u) ZaX
noncomputable def ZgY (F:List Int→Int×Int) (A:List Int→Int×Int):Ze:=(((((((((G0.withF 53 (nfF Z20)).withF 128 (nfF (Z7o F))).withF 129 (nfF Z3W)).withF 130 (nfF Z7n)).withF 66 Z7m).withF 119 Qq).withP 30 (ZcG A)).withP 40 inQ).withF 38 Zgu).withL 26 100056 (jL4 rj0 rj2)
theorem Z7C:(ZgY (ZY ZB) ZS).Ok:=Ze.withL_join (H:=G0) (Ze.withF_ok Zbc ZcH) (by simp only [ZcW,ZcX]) (ZeG (N:=20) Zu (by kernel_rfl) fun kk b xs p=>ZhO kk b _ xs p rfl)
theorem Z0O {k:ClS} (h:Xc k):Z46 k (decide (k.least≤k.last∧k.last≤k.most))=true:=by
 unfold Z46
 split
 ·rename_i ho;exact decide_eq_true (h.off ho)
 ·rename_i ho;rw [h.nof ho];rfl
theorem Z26 {k:ClS} (hm:YO ZS k=true) (ho:Z46 k (decide (k.least≤k.last∧k.last≤k.most))=true) (ha:k.agrees=true→k.offers=true∧k.fee=k.last∧ZW k.t k.a0 k.a1 k.fee=0) (hn:k.agrees=false→k.fee=0):Xc k:=by
 refine ⟨V3.1 hm,fun h=> ?_,fun h=> ?_,ha,hn⟩
 ·unfold Z46 at ho
  rw [h] at ho
  exact of_decide_eq_true ho
 ·unfold Z46 at ho
  rw [h] at ho
  exact beq_iff_eq.1 ho
theorem nT {b:Bool} (h:(!b)=true):b=false:=by simpa using h
theorem nF {b:Bool} (h:(!b)=false):b=true:=by simpa using h
theorem Zdh (F:List Int→Int×Int) (A:List Int→Int×Int) (xs:List Int) (N:Nat) (k:ClS) (ok:Bool) (hN:xs.length=N) (hB:N<90000000000000) (hb:Bytes xs) (hF:F=ZY ZB) (hA:A=ZS) (hok:ok=true→Xs F xs=some (k,N)∧Xc k) (hno:ok=false→∀k,Xs F xs=some (k,N)→¬Xc k):
  evF (ZgY F A) 40 26 [.vints .u8 xs N] ⟨0,[]⟩ (clK ok k):=by
 refine @Eq.mpr _ (let q1:=List.length xs;
 let q2:=AV.arr u8 32 Z5;
 let q3:=AV.int i64 0;
 let q4:=[AV.bool true];
 let q5:=Z0 ok False True;
 let q6:=k.t;
 Z0 (decide (q1=N∧N<90000000000000))
 (∃(k_1:ClS),
 let q13:=k_1.t;
 q2::q3::q3::q3::q3::q3::q2::q2::q3::AV.arr i64 2 [(0:Int),0]::q3::q3::AV.bool false::q3::AV.bool false::q3::q4=AV.arr u8 32 q13.fund::AV.int i64 q13.index::AV.int i64 q13.cap::AV.int i64 q13.dust::AV.int i64 q13.fee::AV.int i64 q13.delay::AV.arr u8 32 q13.k0::AV.arr u8 32 q13.k1::AV.int i64 k_1.side::AV.arr i64 2 [k_1.a0,k_1.a1]::AV.int i64 k_1.least::AV.int i64 k_1.most::AV.bool k_1.offers::AV.int i64 k_1.last::AV.bool k_1.agrees::AV.int i64 k_1.fee::q4∧
 Z0 (decide (N=q1-0∧0≤q1∧N=q1-0))
 ((∀(hh:List Int) (o':Nat),
 let q15:=rdN F xs o' 1125899906842624;
 rdH xs 0=some (hh,o')→
 0≤o'∧o'≤q1∧List.length hh=32→
 Z0 (decide (q1-o'=q1-o'∧o'≤q1∧q1-o'=q1-o'∧(0:Int)≤1125899906842624))
 ((∀(v:Int) (o'_1:Nat),
 let q17:=rdN F xs o'_1 1125899906842624;
 q15=some (v,o'_1)→
 o'≤o'_1∧o'_1≤q1∧v≤1125899906842624→
 Z0 (decide (q1-o'_1=q1-o'_1∧o'_1≤q1∧q1-o'_1=q1-o'_1∧(0:Int)≤1125899906842624))
 ((∀(v_1:Int) (o':Nat),
 let q19:=rdN F xs o' 1125899906842624;
 q17=some (v_1,o')→
 o'_1≤o'∧o'≤q1∧v_1≤1125899906842624→
 Z0 (decide (q1-o'=q1-o'∧o'≤q1∧q1-o'=q1-o'∧(0:Int)≤1125899906842624))
 ((∀(v_2:Int) (o'_2:Nat),
 let q21:=rdN F xs o'_2 1125899906842624;
 q19=some (v_2,o'_2)→
 o'≤o'_2∧o'_2≤q1∧v_2≤1125899906842624→
 Z0 (decide (q1-o'_2=q1-o'_2∧o'_2≤q1∧q1-o'_2=q1-o'_2∧(0:Int)≤1125899906842624))
 ((∀(v_3:Int) (o':Nat),
 let q23:=rdN F xs o' 1125899906842624;
 q21=some (v_3,o')→
 o'_2≤o'∧o'≤q1∧v_3≤1125899906842624→
 Z0 (decide (q1-o'=q1-o'∧o'≤q1∧q1-o'=q1-o'∧(0:Int)≤1125899906842624))
 ((∀(v_4:Int) (o'_3:Nat),
 q23=some (v_4,o'_3)→
 o'≤o'_3∧o'_3≤q1∧v_4≤1125899906842624→
 Z0 (decide (q1-o'_3=q1-o'_3∧o'_3≤q1∧q1-o'_3=q1-o'_3))
 ((∀(hh_1:List Int) (o':Nat),
 rdH xs o'_3=some (hh_1,o')→
 o'_3≤o'∧o'≤q1∧List.length hh_1=32→
 Z0 (decide (q1-o'=q1-o'∧o'≤q1∧q1-o'=q1-o'))
 ((∀(hh_2:List Int) (o'_4:Nat),
 let q25:=rdN F xs o'_4 1125899906842624;
 rdH xs o'=some (hh_2,o'_4)→
 o'≤o'_4∧o'_4≤q1∧List.length hh_2=32→
 Z0 (decide (q1-o'_4=q1-o'_4∧o'_4≤q1∧q1-o'_4=q1-o'_4∧(0:Int)≤1125899906842624))
 ((∀(v_5:Int) (o':Nat),
 let q27:=rdN F xs o' 1125899906842624;
 q25=some (v_5,o')→
 o'_4≤o'∧o'≤q1∧v_5≤1125899906842624→
 Z0 (decide (q1-o'=q1-o'∧o'≤q1∧q1-o'=q1-o'∧(0:Int)≤1125899906842624))
 ((∀(v_6:Int) (o'_5:Nat),
 let q29:=rdN F xs o'_5 1125899906842624;
 q27=some (v_6,o'_5)→
 o'≤o'_5∧o'_5≤q1∧v_6≤1125899906842624→
 Z0 (decide (q1-o'_5=q1-o'_5∧o'_5≤q1∧q1-o'_5=q1-o'_5∧(0:Int)≤1125899906842624))
 ((∀(v_7:Int) (o':Nat),
 let q31:=rdN F xs o' 1125899906842624;
 q29=some (v_7,o')→
 o'_5≤o'∧o'≤q1∧v_7≤1125899906842624→
 Z0 (decide (q1-o'=q1-o'∧o'≤q1∧q1-o'=q1-o'∧(0:Int)≤1125899906842624))
 ((∀(v_8:Int) (o'_6:Nat),
 let q33:=rdN F xs o'_6 1125899906842624;
 q31=some (v_8,o'_6)→
 o'≤o'_6∧o'_6≤q1∧v_8≤1125899906842624→
 Z0 (decide (q1-o'_6=q1-o'_6∧o'_6≤q1∧q1-o'_6=q1-o'_6∧(0:Int)≤1125899906842624))
 ((∀(v_9:Int) (o':Nat),
 q33=some (v_9,o')→
 o'_6≤o'∧o'≤q1∧v_9≤1125899906842624→
 Z0 (decide (q1-o'=q1-o'∧o'≤q1∧q1-o'=q1-o'))
 ((∀(v_10:Bool) (o'_7:Nat),
 let q35:=rdN F xs o'_7 1125899906842624;
 rdT xs o'=some (v_10,o'_7)→
 o'≤o'_7∧o'_7≤q1→
 Z0 (decide (q1-o'_7=q1-o'_7∧o'_7≤q1∧q1-o'_7=q1-o'_7∧(0:Int)≤1125899906842624))
 ((∀(v_11:Int) (o':Nat),
 q35=some (v_11,o')→
 o'_7≤o'∧o'≤q1∧v_11≤1125899906842624→
 Z0 (decide (q1-o'=q1-o'∧o'≤q1∧q1-o'=q1-o'))
 ((∀(v_12:Bool) (o'_8:Nat),
 let q37:=rdN F xs o'_8 1125899906842624;
 rdT xs o'=some (v_12,o'_8)→
 o'≤o'_8∧o'_8≤q1→
 Z0 (decide (q1-o'_8=q1-o'_8∧o'_8≤q1∧q1-o'_8=q1-o'_8∧(0:Int)≤1125899906842624))
 ((∀(v_13:Int) (o':Nat),
 q37=some (v_13,o')→
 o'_8≤o'∧o'≤q1∧v_13≤1125899906842624→
 ∃(kk:ClS),
 let q39:=kk.offers;
 let q40:=kk.t;
 let q41:=q40.fund;
 let q42:=q40.index;
 let q43:=q40.cap;
 let q44:=q40.dust;
 let q45:=q40.fee;
 let q46:=q40.delay;
 let q47:=q40.k0;
 let q48:=q40.k1;
 let q49:=kk.side;
 let q50:=[kk.a0,kk.a1];
 let q51:=kk.least;
 let q52:=kk.most;
 let q53:=kk.last;
 let q54:=kk.agrees;
 let q55:=kk.fee;
 let q56:= !q54;
 let q57:=Z0 ok (q41=q6.fund∧Z0 (decide (q42=q6.index)) (Z0 (decide (q43=q6.cap)) (Z0 (decide (q44=q6.dust)) (Z0 (decide (q45=q6.fee)) (Z0 (decide (q46=q6.delay)) (q47=q6.k0∧q48=q6.k1∧Z0 (decide (q49=k.side)) (q50=[k.a0,k.a1]∧Z0 (decide (q51=k.least)) (Z0 (decide (q52=k.most)) (Z0 (decide (q39=k.offers)) (Z0 (decide (q53=k.last)) (Z0 (decide (q54=k.agrees)) (Z0 (decide (q55=k.fee)) True False) False) False) False) False) False) False) False) False) False) False) False) False;
 ∃(b:Bool),
 let q77:= !Z46 kk b;
 ∃(xs_1:List Int),
 ∃(p:Nat),
 let q79:=List.length xs_1-p;
 let q80:=decide (q79=q79);
 let q81:=decide (q79=0);
 let q82:=(∃(k:ClS),
 Qw [AV.arr u8 32 q41,AV.int i64 q42,AV.int i64 q43,AV.int i64 q44,AV.int i64 q45,AV.int i64 q46,AV.arr u8 32 q47,AV.arr u8 32 q48,AV.int i64 q49,AV.arr i64 2 q50,AV.int i64 q51,AV.int i64 q52,AV.bool q39,AV.int i64 q53,AV.bool q54,AV.int i64 q55] k∧(Zq.Ok k.t∧k.a0<9223372036854775808)∧Z0 q80 (Z0 q81 (∃(k_2:ClS),Qw [AV.arr u8 32 q41,AV.int i64 q42,AV.int i64 q43,AV.int i64 q44,AV.int i64 q45,AV.int i64 q46,AV.arr u8 32 q47,AV.arr u8 32 q48,AV.int i64 q49,AV.arr i64 2 q50,AV.int i64 q51,AV.int i64 q52,AV.bool q39,AV.int i64 q53,AV.bool q54,AV.int i64 q55] k_2∧Zq.Ok k_2.t∧Z0 (!YO A k_2) q5 (Z0 q77 q5 (Z0 (!q55==0) q5 (Z0 q54 (Z0 (ZW k.t k.a0 k.a1 q55 !=0) q5 q57) q57)))) q5) False);
 Z0 (decide ((!v_10)= !q39))
 (Z0 (decide (decide (v_8≤v_11∧v_11≤v_9)=b))
 (hh=q41∧
 Z0 (decide (v=q42))
 (Z0 (decide (v_1=q43))
 (Z0 (decide (v_2=q44))
 (Z0 (decide (v_3=q45))
 (Z0 (decide (v_4=q46))
 (hh_1=q47∧
 hh_2=q48∧
 Z0 (decide (v_5=q49))
 ([v_6,v_7]=q50∧
 Z0 (decide (v_8=q51))
 (Z0 (decide (v_9=q52))
 (Z0 (decide (v_10=q39))
 (Z0 (decide (v_11=q53))
 (Z0 (decide (v_12=q54))
 (Z0 (decide (v_13=q55))
 (Z0 (decide (o'=p))
 (Z0 (decide (q1-o'=q79))
 (Z0 (decide (q79≤q1-o'))
 (xs=xs_1∧
 Z0 q39
 (Z0 q56 q82
 (∃(k:ClS),
 let q87:=[AV.arr u8 32 q41,AV.int i64 q42,AV.int i64 q43,AV.int i64 q44,AV.int i64 q45,AV.int i64 q46,AV.arr u8 32 q47,AV.arr u8 32 q48,AV.int i64 q49,AV.arr i64 2 q50,AV.int i64 q51,AV.int i64 q52,AV.bool q39,AV.int i64 q53,AV.bool q54,AV.int i64 q55];
 Qw q87 k∧(Zq.Ok k.t∧k.a0<9223372036854775808)∧Z0 q80 (Z0 q81 (∃(k_2:ClS),Qw q87 k_2∧Zq.Ok k_2.t∧Z0 (!YO A k_2) q5 (Z0 q77 q5 (Z0 (!q55==q53) q5 (Z0 q54 (Z0 (ZW k.t k.a0 k.a1 q55 !=0) q5 q57) q57)))) q5) False))
 (Z0 q56 q82
 (∃(k:ClS),
 let q87:=[AV.arr u8 32 q41,AV.int i64 q42,AV.int i64 q43,AV.int i64 q44,AV.int i64 q45,AV.int i64 q46,AV.arr u8 32 q47,AV.arr u8 32 q48,AV.int i64 q49,AV.arr i64 2 q50,AV.int i64 q51,AV.int i64 q52,AV.bool q39,AV.int i64 q53,AV.bool q54,AV.int i64 q55];
 Qw q87 k∧(Zq.Ok k.t∧k.a0<9223372036854775808)∧Z0 q80 (Z0 q81 (∃(k:ClS),Qw q87 k∧Zq.Ok k.t∧Z0 (!YO A k) q5 (Z0 q77 q5 q5)) q5) False)))
 False)
 False)
 False)
 False)
 False)
 False)
 False)
 False)
 False)
 False)
 False)
 False)
 False)
 False)
 False)
 False)
 False)∧
 (q37=none→q5))
 False)∧
 (rdT xs o'=none→q5))
 False)∧
 (q35=none→q5))
 False)∧
 (rdT xs o'=none→q5))
 False)∧
 (q33=none→q5))
 False)∧
 (q31=none→q5))
 False)∧
 (q29=none→q5))
 False)∧
 (q27=none→q5))
 False)∧
 (q25=none→q5))
 False)∧
 (rdH xs o'=none→q5))
 False)∧
 (rdH xs o'_3=none→q5))
 False)∧
 (q23=none→q5))
 False)∧
 (q21=none→q5))
 False)∧
 (q19=none→q5))
 False)∧
 (q17=none→q5))
 False)∧
 (q15=none→q5))
 False)∧
 (rdH xs 0=none→q5))
 False)
 False) (by kernel_rfl) ?_
 conv=>zeta
 try simp only [Zc]
 try simp only [Zj]
 try simp only [Zd]
 try simp only [Zk]
 try simp only [Zl]
 try simp only [Zb]
 try simp only [Int.toNat_natCast,Nat.zero_add,true_and,and_true,Nat.le_refl]
 subst hN
 have bad:Xs F xs=none→ok=false:=fun h=>Bool.eq_false_iff.2 fun e=>by rw [(hok e).1] at h;cases h
 refine ⟨⟨rfl,hB⟩,clZ,rfl, ?_⟩
 refine ⟨by omega,fun v0 o0 e0 b0=> ?_,fun e0=>bad (by simp [Xs,e0])⟩
 refine ⟨by omega,fun v1 o1 e1 b1=> ?_,fun e1=>bad (by simp [Xs,e0,e1])⟩
 refine ⟨by omega,fun v2 o2 e2 b2=> ?_,fun e2=>bad (by simp [Xs,e0,e1,e2])⟩
 refine ⟨by omega,fun v3 o3 e3 b3=> ?_,fun e3=>bad (by simp [Xs,e0,e1,e2,e3])⟩
 refine ⟨by omega,fun v4 o4 e4 b4=> ?_,fun e4=>bad (by simp [Xs,e0,e1,e2,e3,e4])⟩
 refine ⟨by omega,fun v5 o5 e5 b5=> ?_,fun e5=>bad (by simp [Xs,e0,e1,e2,e3,e4,e5])⟩
 refine ⟨by omega,fun v6 o6 e6 b6=> ?_,fun e6=>bad (by simp [Xs,e0,e1,e2,e3,e4,e5,e6])⟩
 refine ⟨by omega,fun v7 o7 e7 b7=> ?_,fun e7=>bad (by simp [Xs,e0,e1,e2,e3,e4,e5,e6,e7])⟩
 refine ⟨by omega,fun v8 o8 e8 b8=> ?_,fun e8=>bad (by simp [Xs,e0,e1,e2,e3,e4,e5,e6,e7,e8])⟩
 refine ⟨by omega,fun v9 o9 e9 b9=> ?_,fun e9=>bad (by simp [Xs,e0,e1,e2,e3,e4,e5,e6,e7,e8,e9])⟩
 refine ⟨by omega,fun v10 o10 e10 b10=> ?_,fun e10=>bad (by simp [Xs,e0,e1,e2,e3,e4,e5,e6,e7,e8,e9,e10])⟩
 refine ⟨by omega,fun v11 o11 e11 b11=> ?_,fun e11=>bad (by simp [Xs,e0,e1,e2,e3,e4,e5,e6,e7,e8,e9,e10,e11])⟩
 refine ⟨by omega,fun v12 o12 e12 b12=> ?_,fun e12=>bad (by simp [Xs,e0,e1,e2,e3,e4,e5,e6,e7,e8,e9,e10,e11,e12])⟩
 refine ⟨by omega,fun v13 o13 e13 b13=> ?_,fun e13=>bad (by simp [Xs,e0,e1,e2,e3,e4,e5,e6,e7,e8,e9,e10,e11,e12,e13])⟩
 refine ⟨by omega,fun v14 o14 e14 b14=> ?_,fun e14=>bad (by simp [Xs,e0,e1,e2,e3,e4,e5,e6,e7,e8,e9,e10,e11,e12,e13,e14])⟩
 refine ⟨by omega,fun v15 o15 e15 b15=> ?_,fun e15=>bad (by simp [Xs,e0,e1,e2,e3,e4,e5,e6,e7,e8,e9,e10,e11,e12,e13,e14,e15])⟩
 refine ⟨by omega,fun v16 o16 e16 b16=> ?_,fun e16=>bad (by simp [Xs,e0,e1,e2,e3,e4,e5,e6,e7,e8,e9,e10,e11,e12,e13,e14,e15,e16])⟩
 have hr:Xs F xs=some ((⟨⟨v0,v1,v2,v3,v4,v5,v6,v7⟩,v8,v9,v10,v11,v12,v13,v14,v15,v16⟩:ClS),o16):=by
  simp only [Xs,Option.bind_some,e0,e1,e2,e3,e4,e5,e6,e7,e8,e9,e10,e11,e12,e13,e14,e15,e16]
 have hAll:(⟨⟨v0,v1,v2,v3,v4,v5,v6,v7⟩,v8,v9,v10,v11,v12,v13,v14,v15,v16⟩:ClS).t.All:=Z5c hb (hF▸hr)
 have hbad:¬(o16=xs.length∧Xc (⟨⟨v0,v1,v2,v3,v4,v5,v6,v7⟩,v8,v9,v10,v11,v12,v13,v14,v15,v16⟩:ClS))→ok=false:=fun h=>Bool.eq_false_iff.2 fun e=>by
  obtain ⟨h1,h2⟩:=hok e
  rw [hr] at h1
  cases h1
  exact h ⟨rfl,h2⟩
 have hgood:o16=xs.length→Xc (⟨⟨v0,v1,v2,v3,v4,v5,v6,v7⟩,v8,v9,v10,v11,v12,v13,v14,v15,v16⟩:ClS)→ok=true∧k=(⟨⟨v0,v1,v2,v3,v4,v5,v6,v7⟩,v8,v9,v10,v11,v12,v13,v14,v15,v16⟩:ClS):=fun hp hI=>by
  cases hq:ok with
  | true=>
   obtain ⟨h1,h2⟩:=hok hq
   rw [hr] at h1
   cases h1
   exact ⟨rfl,rfl⟩
  | false=>exact absurd hI (hno hq _ (hp▸hr))
 have ha0:v9<9223372036854775808:=by omega
 have hmB:∀{b:Bool},YO A (⟨⟨v0,v1,v2,v3,v4,v5,v6,v7⟩,v8,v9,v10,v11,v12,v13,v14,v15,v16⟩:ClS)=b→YO ZS (⟨⟨v0,v1,v2,v3,v4,v5,v6,v7⟩,v8,v9,v10,v11,v12,v13,v14,v15,v16⟩:ClS)=b:=fun h=>hA▸h
 refine ⟨(⟨⟨v0,v1,v2,v3,v4,v5,v6,v7⟩,v8,v9,v10,v11,v12,v13,v14,v15,v16⟩:ClS),decide (v11≤v14∧v14≤v12),xs,o16, ?_⟩
 repeat' first
  | with_reducible rfl
  | exact Nat.le_refl _
  | with_reducible refine And.intro ?_ ?_
 ·intro hof
  refine ⟨fun hag=> ?_,fun hag=> ?_⟩
  ·refine ⟨(⟨⟨v0,v1,v2,v3,v4,v5,v6,v7⟩,v8,v9,v10,v11,v12,v13,v14,v15,v16⟩:ClS),⟨rfl⟩,⟨hAll.ok,ha0⟩,fun hp=>⟨(⟨⟨v0,v1,v2,v3,v4,v5,v6,v7⟩,v8,v9,v10,v11,v12,v13,v14,v15,v16⟩:ClS),⟨rfl⟩,hAll.ok,fun hm=>hbad ?_,fun hm=>⟨fun ho=>hbad ?_,fun ho=>⟨fun hf=>hbad ?_,fun hf=>⟨fun hg=>⟨fun ht=>hbad ?_,fun ht=> ?_⟩,fun hg=> ?_⟩⟩⟩⟩,fun hp=>hbad ?_⟩
   ·rintro ⟨_,hI⟩
    exact absurd ((V3.2 hI.made).symm.trans (hmB (nT hm))) (by decide)
   ·rintro ⟨_,hI⟩
    exact absurd ((Z0O hI).symm.trans (nT ho)) (by decide)
   ·rintro ⟨_,hI⟩
    exact beq_eq_false_iff_ne.1 (nT hf) (hI.nag (nT hag))
   ·rintro ⟨_,hI⟩
    exact bne_iff_ne.1 ht (hI.agr hg).2.2
   ·exact absurd ((nT hag).symm.trans hg) (by decide)
   ·obtain ⟨q1,q2⟩:=hgood (by omega) (Z26 (hmB (nF hm)) (nF ho) (fun h=>absurd (hg.symm.trans h) (by decide)) (fun _=>beq_iff_eq.1 (nF hf)))
    subst q2
    and_intros<;>first|exact q1|rfl
   ·rintro ⟨h,_⟩
    omega
  ·refine ⟨(⟨⟨v0,v1,v2,v3,v4,v5,v6,v7⟩,v8,v9,v10,v11,v12,v13,v14,v15,v16⟩:ClS),⟨rfl⟩,⟨hAll.ok,ha0⟩,fun hp=>⟨(⟨⟨v0,v1,v2,v3,v4,v5,v6,v7⟩,v8,v9,v10,v11,v12,v13,v14,v15,v16⟩:ClS),⟨rfl⟩,hAll.ok,fun hm=>hbad ?_,fun hm=>⟨fun ho=>hbad ?_,fun ho=>⟨fun hf=>hbad ?_,fun hf=>⟨fun hg=>⟨fun ht=>hbad ?_,fun ht=> ?_⟩,fun hg=> ?_⟩⟩⟩⟩,fun hp=>hbad ?_⟩
   ·rintro ⟨_,hI⟩
    exact absurd ((V3.2 hI.made).symm.trans (hmB (nT hm))) (by decide)
   ·rintro ⟨_,hI⟩
    exact absurd ((Z0O hI).symm.trans (nT ho)) (by decide)
   ·rintro ⟨_,hI⟩
    exact beq_eq_false_iff_ne.1 (nT hf) (hI.agr (nF hag)).2.1
   ·rintro ⟨_,hI⟩
    exact bne_iff_ne.1 ht (hI.agr hg).2.2
   ·obtain ⟨q1,q2⟩:=hgood (by omega) (Z26 (hmB (nF hm)) (nF ho) (fun _=>⟨hof,beq_iff_eq.1 (nF hf),bne_eq_false_iff_eq.1 ht⟩) (fun h=>absurd (hg.symm.trans h) (by decide)))
    subst q2
    and_intros<;>first|exact q1|rfl
   ·exact absurd ((nF hag).symm.trans hg) (by decide)
   ·rintro ⟨h,_⟩
    omega
 ·intro hof
  refine ⟨fun hag=> ?_,fun hag=> ?_⟩
  ·refine ⟨(⟨⟨v0,v1,v2,v3,v4,v5,v6,v7⟩,v8,v9,v10,v11,v12,v13,v14,v15,v16⟩:ClS),⟨rfl⟩,⟨hAll.ok,ha0⟩,fun hp=>⟨(⟨⟨v0,v1,v2,v3,v4,v5,v6,v7⟩,v8,v9,v10,v11,v12,v13,v14,v15,v16⟩:ClS),⟨rfl⟩,hAll.ok,fun hm=>hbad ?_,fun hm=>⟨fun ho=>hbad ?_,fun ho=>⟨fun hf=>hbad ?_,fun hf=>⟨fun hg=>⟨fun ht=>hbad ?_,fun ht=> ?_⟩,fun hg=> ?_⟩⟩⟩⟩,fun hp=>hbad ?_⟩
   ·rintro ⟨_,hI⟩
    exact absurd ((V3.2 hI.made).symm.trans (hmB (nT hm))) (by decide)
   ·rintro ⟨_,hI⟩
    exact absurd ((Z0O hI).symm.trans (nT ho)) (by decide)
   ·rintro ⟨_,hI⟩
    exact beq_eq_false_iff_ne.1 (nT hf) (hI.nag (nT hag))
   ·rintro ⟨_,hI⟩
    exact bne_iff_ne.1 ht (hI.agr hg).2.2
   ·exact absurd ((nT hag).symm.trans hg) (by decide)
   ·obtain ⟨q1,q2⟩:=hgood (by omega) (Z26 (hmB (nF hm)) (nF ho) (fun h=>absurd (hg.symm.trans h) (by decide)) (fun _=>beq_iff_eq.1 (nF hf)))
    subst q2
    and_intros<;>first|exact q1|rfl
   ·rintro ⟨h,_⟩
    omega
  ·refine ⟨(⟨⟨v0,v1,v2,v3,v4,v5,v6,v7⟩,v8,v9,v10,v11,v12,v13,v14,v15,v16⟩:ClS),⟨rfl⟩,⟨hAll.ok,ha0⟩,fun hp=>⟨(⟨⟨v0,v1,v2,v3,v4,v5,v6,v7⟩,v8,v9,v10,v11,v12,v13,v14,v15,v16⟩:ClS),⟨rfl⟩,hAll.ok,fun hm=>hbad ?_,fun hm=>⟨fun ho=>hbad ?_,fun ho=>hbad ?_⟩⟩,fun hp=>hbad ?_⟩
   ·rintro ⟨_,hI⟩
    exact absurd ((V3.2 hI.made).symm.trans (hmB (nT hm))) (by decide)
   ·rintro ⟨_,hI⟩
    exact absurd ((Z0O hI).symm.trans (nT ho)) (by decide)
   ·rintro ⟨_,hI⟩
    exact absurd ((hI.agr (nF hag)).1.symm.trans hof) (by decide)
   ·rintro ⟨h,_⟩
    omega
inductive Z0o (xs:List Int):Option ClS→Prop
 | some (k:ClS):Xs (ZY ZB) xs=some (k,xs.length)→Xc k→Z0o xs (some k)
 | none:(∀k,Xs (ZY ZB) xs=some (k,xs.length)→¬Xc k)→Z0o xs none
def Z6C (R:Option ClS):ZQ:=fun args h K=>frA [] h 20 args fun Bs a=>match Bs,a with
 | [],[.vints .u8 xs N]=>(xs.length=N∧N<90000000000000∧Bytes xs)∧Z0o xs R∧(match R with
  | some k=>K (.ret (.tuple [.ptr (some ⟨h.next,0,0,0,0⟩),.int .i64 0])) ⟨h.next+1,(h.next,.flat (k.c++[.bool true]))::h.bs⟩
  | none=>K (.ret (.tuple [.ptr none,.int .i64 253])) h)
 | _,_=>False
theorem ZeH {k:ClS} {o:Out} {h:Z7} (hk:clK true k o h):Y2 0 (.ret (.tuple [.ptr (some ⟨0,0,0,0,0⟩),.int .i64 0])) 1 [(0,.flat (k.c++[.bool true]))] o h:=by
 unfold clK at hk
 split at hk
 ·exact hk.elim
 ·exact hk
 ·exact hk.elim
theorem ZeI {k:ClS} {o:Out} {h:Z7} (hk:clK false k o h):Y2 0 (.ret (.tuple [.ptr none,.int .i64 253])) 0 [] o h:=by
 unfold clK at hk
 split at hk
 ·exact hk
 ·exact hk.elim
 ·exact hk.elim
theorem Z8H {R:Option ClS} (args:List AV) (h:Z7) (K:KO) (hl:Z6C R args h K):Zg PP 26 args h K:=by
 unfold Z6C at hl
 refine Spec.fsumm hl fun Bs a hlen hK0=> ?_
 split at hK0
 ·obtain ⟨⟨rfl,h2,h3⟩,hR,hK⟩:=hK0
  rename_i xs
  cases hR with
  | some k hr hI=>exact ⟨_,_,_,_,_,Spec.evK Z7C (Zdh _ _ xs _ k true rfl h2 h3 rfl rfl (fun _=>⟨hr,hI⟩) (fun h=>nomatch h)) (fun o' h' hk=>ZeH hk),Nat.zero_le _,.ret _ _ rfl,.cons _ _ _ _ _ _ rfl (.flat _ _ rfl) .nil,hK⟩
  | none hn=>exact ⟨_,_,_,_,_,Spec.evK Z7C (Zdh _ _ xs _ clZ false rfl h2 h3 rfl rfl (fun h=>nomatch h) (fun _=>hn)) (fun o' h' hk=>ZeI hk),Nat.zero_le _,.ret _ _ rfl,.nil,hK⟩
 ·exact hK0.elim
end Go.Tk
end
section
namespace Go.Tk
open IntKind (i64 u8 u32 u64 wrap)
noncomputable def ZeJ (W:Int→List Int) (R:Option ClS):Ze:=((G0.withP 11 Zbb).withF 26 (Z6C R)).withF 21 (Zb1 W)
theorem Z7D (R:Option ClS):(ZeJ ZB R).Ok:=Ze.withF_ok (Ze.withF_ok (Ze.withP_ok Zu ZcV) Z8H) Zb2
theorem ZhP (W:Int→List Int) (xs:List Int) (N:Nat) (hN:xs.length=N) (hb:Bytes xs) (hR:Z0o xs none):
  evF (ZeJ W none) 20 5 [.vints .u8 xs N] ⟨0,[]⟩ (Uh fun v=>v=.bool true):=by
 refine @Eq.mpr _ (let q1:=AV.bool true=AV.bool true;
 Z0 (decide ((↑N:Int)>400)) q1 ((List.length xs=N∧N<90000000000000∧Bytes xs)∧Z0o xs none∧q1)) (by kernel_rfl) ?_
 conv=>zeta
 try simp only [Zc]
 try simp only [Zj]
 try simp only [Zd]
 try simp only [Zk]
 try simp only [Zl]
 try simp only [Zb]
 try simp only [Int.toNat_natCast,Nat.zero_add,true_and,and_true,Nat.le_refl]
 exact ⟨fun _=>trivial,fun h=>⟨⟨hN,by omega,hb⟩,hR⟩⟩
theorem ZhQ (W:Int→List Int) (xs:List Int) (N:Nat) (k:ClS) (hN:xs.length=N) (hb:Bytes xs) (hR:Z0o xs (some k)) (hr:RwC k) (hx:Vl W k=xs):
  evF (ZeJ W (some k)) 20 5 [.vints .u8 xs N] ⟨0,[]⟩ (Uh fun v=>v=.bool true):=by
 refine @Eq.mpr _ (let q1:=AV.bool true;
 let q2:=q1=q1;
 let q3:=k.t;
 let q4:=strOf (List.take N xs);
 Z0 (decide ((↑N:Int)>400)) q2
 ((List.length xs=N∧N<90000000000000∧Bytes xs)∧
 Z0o xs (some k)∧
 ∃(k_1:ClS),
 let q9:=List.length (Vl W k_1);
 Wi [AV.arr u8 32 q3.fund,AV.int i64 q3.index,AV.int i64 q3.cap,AV.int i64 q3.dust,AV.int i64 q3.fee,AV.int i64 q3.delay,AV.arr u8 32 q3.k0,AV.arr u8 32 q3.k1,AV.int i64 k.side,AV.arr i64 2 [k.a0,k.a1],AV.int i64 k.least,AV.int i64 k.most,AV.bool k.offers,AV.int i64 k.last,AV.bool k.agrees,AV.int i64 k.fee,q1] k_1∧RwC k_1∧q4=q4∧Z0 (decide (u8=u8∧0+q9≤q9)) (Z0 (ByteArray.toList (strOf (List.take q9 (Yo 0 (Vl W k_1))))==ByteArray.toList q4) q2 (AV.bool false=q1)) False)) (by kernel_rfl) ?_
 conv=>zeta
 try simp only [Zc]
 try simp only [Zj]
 try simp only [Zd]
 try simp only [Zk]
 try simp only [Zl]
 try simp only [Zb]
 try simp only [Int.toNat_natCast,Nat.zero_add,true_and,and_true,Nat.le_refl]
 have e:List.take (Vl W k).length (Yo 0 (Vl W k))=List.take N xs:=by rw [Y6,List.drop_zero,List.take_length,hx,←hN,List.take_length]
 refine ⟨fun _=>trivial,fun h=>⟨⟨hN,by omega,hb⟩,hR,k,⟨rfl⟩,hr,fun _=>trivial,fun hq=> ?_⟩⟩
 rw [e] at hq
 exact absurd (beq_self_eq_true (strOf (List.take N xs)).toList) (by rw [hq];decide)
theorem ZeK (xs:List Int):∃R,Z0o xs R:=by
 by_cases h:∃k,Xs (ZY ZB) xs=some (k,xs.length)∧Xc k
 ·obtain ⟨k,h1,h2⟩:=h
  exact ⟨_,.some k h1 h2⟩
 ·exact ⟨_,.none fun k h1 h2=>h ⟨k,h1,h2⟩⟩
end Go.Tk
end
section
namespace Go.Tk
open IntKind (i64 u8 u32 u64 wrap)
theorem Z6D {a:AV} (h:Z50 false [.ints .u8] a):∃(xs:List Int) (n:Nat),a=.vints .u8 xs n∧xs.length=n∧Bytes xs:=by
 cases h with|one _ _ h=>
 cases h
 rename_i xs n w l m
 exact ⟨xs,n,rfl,w,Zal w m⟩
theorem closebytes_walk {us:List AV} (h:Z2X [(false,[.ints .u8])] us):Zg PP 5 us ⟨0,[]⟩ fun o h'=>∃v,o=.ret v∧h'=⟨0,[]⟩∧v=.bool true:=by
 cases h with|cons _ _ a _ _ h1 h=>
 cases h
 obtain ⟨xs,n,rfl,hn,hb⟩:=Z6D h1
 obtain ⟨R,hR⟩:=ZeK xs
 cases R with
 | some k=>
  have hR':=hR
  cases hR' with
  | some _ h1 hI=>
   have ht:=Z5c hb h1
   exact Ww (h:=⟨0,[]⟩) (Z7D (some k)) rfl (ZhQ _ xs n k hn hb hR ⟨hI.num,ht.fl,ht.ok.k0,ht.ok.k1⟩ (ZaW hb h1)) (fun u hu=>hu)
 | none=>exact Ww (h:=⟨0,[]⟩) (Z7D none) rfl (ZhP _ xs n hn hb hR) (fun u hu=>hu)
end Go.Tk
namespace Go.Proofs.YtdfjhgjefkkkbaaGreat.closeBytes
open Go.ChangeShapes Go.WideShapes Go.ChangeAt Go.RowKit
theorem own:ownKnob Tryz.prog.godebug=none:=by kernel_rfl
theorem laidOut:laidOutB Tryz.prog=true:=by kernel_rfl
theorem lifted (os:Os) (started:os.Started) (H:Type) (enc:TypeId×Value→H):
  ReturnsInHanded {} Tryz.checked os 5 .any (Rows.closeBytesSpec.pre6 enc Tryz.prog Tryz.f5 Rows.closeBytesRow.domain false) (Rows.closeBytesSpec.post enc Tryz.prog Tryz.f5 false true false false):=
 Go.Tk.lifted_gen (C:=Tryz.checked) (m:=8) (τs:=[(false,[.ints .u8])]) own laidOut started (by kernel_rfl) Tryz.func5
  (ChangeSpec.witness6 (enc:=enc) (C:=Tryz.checked) false ⟨#[], #[.slice none 0 0],[]⟩ 8 (by kernel_rfl) (by kernel_rfl) (by kernel_rfl) (by kernel_rfl))
  rfl (tb:=4) rfl Tryz.underlying4 (by kernel_rfl) (by kernel_rfl) (fun ds h=>by
   match ds,h with
   | [a],_=>rfl) fun us h=>Go.Tk.closebytes_walk h
theorem ZeL:Tryz.pinned.checked.prog.funcNamed Rows.closeBytesRow.func=some 5:=by kernel_rfl
theorem closed:joinedFacts Tryz.pinned.checked.prog 5 Tryz.f5 Rows.closeBytesSpec Rows.closeBytesRow=true:=by
 unfold joinedFacts
 repeat' with_reducible refine Go.Tk.and_mk ?_ ?_
 all_goals as_aux_lemma=>kernel_rfl
theorem over:Rows.closeBytesRow.holds Tryz.pinned (OpenSpec.ofChange Rows.closeBytesSpec):=
 OpenClaim.holds_of_wide 5 Tryz.f5 rfl rfl rfl rfl rfl rfl rfl ⟨rfl,rfl,rfl,rfl,rfl⟩ rfl rfl rfl rfl rfl ZeL Tryz.func5 closed
  (of_decide_eq_true (by kernel_rfl)) (by unfold Func.isWrapper;first|(rw [if_pos (by decide+kernel)];kernel_rfl)|(rw [if_neg (by decide+kernel)];exact ⟨rfl,rfl⟩))
  (fun os started H enc _=>lifted os started H enc)
theorem proved:Rows.CloseBytesSaid:=over
end Go.Proofs.YtdfjhgjefkkkbaaGreat.closeBytes
end
