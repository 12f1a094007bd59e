/- K: part 6 of an engine (a symbolic evaluator, proved against the model) and of the walk by it. -/
import Derived.Test.YtpfaahkmphnliaaGreatK5
set_option linter.unusedVariables false
set_option linter.unusedSimpArgs false
set_option maxRecDepth 100000
set_option maxHeartbeats 0
section
namespace Go.Tk
open IntKind (i64 u8 u32 u64 wrap)
structure YF where
 frm:Int
 id:Int
 amount:Int
 hash:List Int
 expiry:Int
def YF.c (p:YF):List AV:=[.int .i64 p.frm,.int .i64 p.id,.int .i64 p.amount,.arr .u8 32 p.hash,.int .i64 p.expiry]
def Z7b:YF:=⟨0,0,0,Zf,0⟩
def ZH (P:List YF) (i:Nat):List AV:=(P.getD i Z7b).c
theorem U5 (P:List YF) (i:Nat):Yy (ZH P i)=true:=rfl
theorem XS {k:Nat} {τ:Ren} {n:Nat} {P:List YF} {f:Nat->List AV} (h:∀i,i<n->f i=ZH P i):Zb k τ n (ZH P) f:=
 Z4u h (fun i _=>U5 P i) (fun i _ v hv=>by
  simp only [ZH,YF.c,List.mem_cons,List.not_mem_nil,or_false] at hv
  rcases hv with rfl|rfl|rfl|rfl|rfl<;>first|exact .inl rfl|exact .inr ⟨_,_,_,rfl⟩)
theorem Z1A {O:List YF} {x:YF} {i:Nat} (hi:i<O.length+1):Y2 O.length (ZH O) (YQ (YF.c x) 0 36) i=ZH (O++[x]) i:=by
 rcases Nat.lt_or_ge i O.length with h|h
 ·rw [Z9u h]
  unfold ZH
  rw [List.getD_eq_getElem?_getD,List.getD_eq_getElem?_getD,List.getElem?_append_left (by omega)]
 ·have e:i=O.length:=by omega
  subst e
  rw [Z1Z (Nat.le_refl _),Nat.sub_self]
  unfold ZH
  rw [List.getD_eq_getElem?_getD,List.getElem?_append_right (by omega),Nat.sub_self]
  rfl
def Qt (side:Int) (h:Z7):YF:=⟨ZD side h.own,h.id,h.amount,h.hash,h.expiry⟩
def Ze0 (b:Bool) (x:YF):List YF:=match b with
 | true=>[x]
 | false=>[]
def ZI (side:Int) (o:Bool) (L:List Z7):List YF:=(L.filter fun h=>YG h.own h.stage o).map (Qt side)
def srP (side:Int) (o:Bool) (p:Int×Int) (h:Z7):Int×Int:=match YG h.own h.stage o with
 | true=>if ZD side h.own=0 then (p.1-h.amount,p.2) else (p.1,p.2-h.amount)
 | false=>if 6<h.stage then XT side p h else p
def Xg (side:Int) (o:Bool) (p:Int×Int) (L:List Z7):Int×Int:=L.foldl (srP side o) p
theorem Z5R {s a b q:Int} (hs:s=0\/s=1) (h1: -1152921504606846976<=a/\a<=1152921504606846976) (h2: -1152921504606846976<=b/\b<=1152921504606846976) (h3:0<=q/\q<=1152921504606846976):
  [a,b].set s.toNat (i64.wrap ([a,b].getD s.toNat 0-q))=[(if s=0 then (a-q,b) else (a,b-q)).1,(if s=0 then (a-q,b) else (a,b-q)).2]:=by
 rcases hs with rfl|rfl
 ·show [i64.wrap (a-q),b]=[a-q,b]
  rw [w64 (by omega)]
 ·show [a,i64.wrap (b-q)]=[a,b-q]
  rw [w64 (by omega)]
noncomputable def ZgI:Zg:=Z5H (G0.withP 34 Zbu)
theorem Z9Y:ZgI.Ok:=Zg.withP_ok (Zg.withP_ok (Zg.withP_ok (Zg.withP_ok (Zg.withP_ok Zv Zgt) Z25) Z0s) Z0t) Z0u
def srZ:List AV:=[.int .i64 0,.int .i64 0,.arr .u8 32 Zf,.arr .i64 2 [0,0],.nilslice]
def ZmL (k ow:Int) (pt:List Int) (a b:Int) (P:List YF):Za:=⟨4,[(0,.flat srZ),(1,.flat [.int .i64 k,.int .i64 ow,.arr .u8 32 pt,.arr .i64 2 [a,b],.nslice ⟨3,0,36,0,0⟩ 36 P.length P.length]),(2,.flat [.ptr (some ⟨1,0,0,34,0⟩)]),(3,.rows 36 P.length (ZH P))]⟩
def ZgJ (X:Z8) (o:Bool) (k ow:Int) (pt:List Int) (n i:Nat) (a b:Int) (P:List YF):St:=⟨99,[(41,.int .i64 i),(40,.int .i64 n),(39,.vrows 70 n (Z6 X.L) n),(0,U0 X),(1,.bool o),(10,.ptr (some ⟨1,0,0,0,0⟩)),(11,.func (.func 81) [] [.ptr (some ⟨2,0,0,0,0⟩)]),(8,.ptr (some ⟨0,0,0,0,0⟩))],ZmL k ow pt a b P,[]⟩
def Z8P (k ow:Int) (pt:List Int) (a b:Int) (P:List YF):St:=⟨99,[(10,.ptr (some ⟨1,0,0,0,0⟩)),(8,.ptr (some ⟨0,0,0,0,0⟩))],⟨3,[(0,.flat srZ),(1,.flat [.int .i64 k,.int .i64 ow,.arr .u8 32 pt,.arr .i64 2 [a,b],.nslice ⟨2,0,36,0,0⟩ 36 P.length P.length]),(2,.rows 36 P.length (ZH P))]⟩,[]⟩
theorem ZmM (X:Z8) (o:Bool) (k ow:Int) (pt:List Int) (n i:Nat) (a b a1 b1:Int) (P P1:List YF) (x:Z7) (Z1 Z2:Prop) (hn:n<1000) (hL:X.L.length=n) (hi:i<=n) (hX:X3 X) (hP:P.length<1000) (hx:i<n->X.L.getD i Zc=x) (hP1:i<n->P1=P++Ze0 (YG x.own x.stage o) (Qt X.side x)) (ha:i<n->(a1,b1)=srP X.side o (a,b) x) (hw:i<n->(-1152921504606846976<=a/\a<=1152921504606846976)/\(-1152921504606846976<=b/\b<=1152921504606846976)/\0<=x.amount/\x.amount<=1152921504606846976) (hZ1:i<n->Z1) (hZ2:i=n->Z2):
  ZG ZgI 20 12 1 0 (ZgJ X o k ow pt n i a b P) (rdM 0 1 9 (ZgJ X o k ow pt n (i+1) a1 b1 P1) (Z8P k ow pt a b P) (Z8P k ow pt a b P) (Z8P k ow pt a b P) Z1 Z2 False False):=by
 refine @Eq.mpr _ (let q1:=X.L;let q2:=List.getD q1 (Int.toNat (↑i:Int)) Zc;let q3:=q2.own;let q4:=q2.stage;let q5:=YG q3 q4 o;let q6:=List.length P;let q7:=decide (q6=q6);let q8:=q6+1;let q9:=decide (q8*64<=140737488355328);let q10:=X.side;let q11:=decide (0<=q10/\q10<2);let q12:=0+Int.toNat q10;let q13:=decide (wrap i64 ((↑i:Int)+1)=(↑(i+1):Int));let q14:=decide ((↑n:Int)=(↑n:Int));let q15:=decide (n=n);let q16:=Z6 q1;let q17:=q16=q16;let q18:=List.length q1;let q19:=Z8.c X (AV.vrows 70 q18 q16 q18);let q20:=q19=q19;let q21:=decide (o=o);let q22:=[(0:Int),0];let q23:=q22=q22;let q24:=decide (k=k);let q25:=decide (ow=ow);let q26:=[a,b];let q27:=q2.amount;let q28:=List.set q26 q12 (wrap i64 (List.getD q26 q12 0-q27));let q29:=[a1,b1];let q30:=List.length P1;let q31:=decide (q8=q30);let q32:=decide (q30<=q8);let q33:=[(1,1)];let q34:=(0,0)::(2,2)::q33;let q35:=(3,6)::q34;let q36:=ZH P1;let q37:=ZH P;let q38:=[AV.int i64 q2.id,AV.int i64 q27,AV.arr u8 32 q2.hash,AV.int i64 q2.expiry];let q39:=decide (q4>6);let q40:=q2.fin==1;let q41:=wrap i64 (1-q10);let q42:=decide (0<=q41/\q41<2);let q43:=0+Int.toNat q41;let q44:=decide (q43<2);let q45:=decide (q6=q30);let q46:=Z0 q45 (Z0 (decide (q30<=q6)) (Z0 q45 (Zb 0 ((3,3)::q34) q30 q36 q37/\Z1) False) False) False;let q47:=Z0 q13 (Z0 q14 (Z0 q15 (q17/\Z0 q15 (q20/\Z0 q21 (Zf=Zf/\q23/\Z0 q24 (Z0 q25 (pt=pt/\q26=q29/\q46) False) False) False) False) False) False) False;let q48:=List.set q26 q43 (wrap i64 (List.getD q26 q43 0-q27));let q49:=wrap i64 (1-q41);let q50:=decide (0<=q49/\q49<2);let q51:=0+Int.toNat q49;
 Z0 (decide ((↑i:Int)<(↑n:Int)))
 (Z0 (decide (0<=(↑i:Int)/\(↑i:Int)<(↑n:Int)))
 (Z0 q3
 (Z0 q5 (Z0 q7 (Z0 q9 (Z0 q11 (Z0 (decide (q12<2)) (Z0 q11 (Z0 (decide (i64=i64/\q12<2/\q12<2)) (Z0 q13 (Z0 q14 (Z0 q15 (q17/\Z0 q15 (q20/\Z0 q21 (Zf=Zf/\q23/\Z0 q24 (Z0 q25 (pt=pt/\q28=q29/\Z0 q31 (Z0 q32 (Z0 q31 (Zb 0 q35 q30 q36 (Y2 q6 q37 (YQ (AV.int i64 q10::q38) 0 36))/\Z1) False) False) False) False) False) False) False) False) False) False) False) False) False) False) False) False)
 (Z0 q39 (Z0 q40 (Z0 q11 (Z0 (decide (q12<2)) (Z0 q11 (Z0 (decide (i64=i64/\q12<2/\q12<2)) (Z0 q42 (Z0 q44 (Z0 q42 (Z0 (decide (i64=i64/\q43<2/\q43<List.length q28)) (Z0 q13 (Z0 q14 (Z0 q15 (q17/\Z0 q15 (q20/\Z0 q21 (Zf=Zf/\q23/\Z0 q24 (Z0 q25 (pt=pt/\List.set q28 q43 (wrap i64 (List.getD q28 q43 0+q27))=q29/\q46) False) False) False) False) False) False) False) False) False) False) False) False) False) False) False) q47) q47))
 (Z0 q5 (Z0 q7 (Z0 q9 (Z0 q42 (Z0 (decide (q43<2)) (Z0 q42 (Z0 (decide (i64=i64/\q43<2/\q43<2)) (Z0 q13 (Z0 q14 (Z0 q15 (q17/\Z0 q15 (q20/\Z0 q21 (Zf=Zf/\q23/\Z0 q24 (Z0 q25 (pt=pt/\q48=q29/\Z0 q31 (Z0 q32 (Z0 q31 (Zb 0 q35 q30 q36 (Y2 q6 q37 (YQ (AV.int i64 q41::q38) 0 36))/\Z1) False) False) False) False) False) False) False) False) False) False) False) False) False) False) False) False)
 (Z0 q39 (Z0 q40 (Z0 q42 (Z0 q44 (Z0 q42 (Z0 (decide (i64=i64/\q43<2/\q43<2)) (Z0 q50 (Z0 (decide (q51<2)) (Z0 q50 (Z0 (decide (i64=i64/\q51<2/\q51<List.length q48)) (Z0 q13 (Z0 q14 (Z0 q15 (q17/\Z0 q15 (q20/\Z0 q21 (Zf=Zf/\q23/\Z0 q24 (Z0 q25 (pt=pt/\List.set q48 q51 (wrap i64 (List.getD q48 q51 0+q27))=q29/\q46) False) False) False) False) False) False) False) False) False) False) False) False) False) False) False) q47) q47)))
 False)
 (Zf=Zf/\q23/\Z0 q24 (Z0 q25 (pt=pt/\q26=q26/\Z0 q7 (Z0 (decide (q6<=q6)) (Z0 q7 (Zb 0 ((2,3)::(0,0)::q33) q6 q37 q37/\Z2) False) False) False) False) False)) (by kernel_rfl) ?_
 conv=>zeta
 try simp only [Zj]
 try simp only [Zl]
 try simp only [Zi]
 try simp only [Zm]
 try simp only [Zn]
 try simp only [Zh]
 try simp only [Int.toNat_natCast,Nat.zero_add,true_and,and_true,Nat.le_refl]
 refine ⟨fun hc=> ?_,fun hc=> ?_⟩
 ·have hlt:i<n:=by omega
  rw [hx hlt]
  have hP1:=hP1 hlt
  have ha:=ha hlt
  obtain ⟨b1',b2',b3'⟩:=hw hlt
  obtain ⟨s1,s2⟩:=hX
  have hab:[a1,b1]=[(srP X.side o (a,b) x).1,(srP X.side o (a,b) x).2]:=by rw [<-ha]
  have hwr:i64.wrap ((i:Int)+1)=((i+1:Nat):Int):=by rw [w64 (by omega)];omega
  have hwf:i64.wrap (1-X.side)=1-X.side:=w64 (by omega)
  have hwg:i64.wrap (1-(1-X.side))=X.side:=by rw [w64 (by omega)];omega
  rw [hwr]
  try rw [hwf]
  try rw [hwg]
  have hR:∀τ k (Q:List YF),Zb 0 τ k (ZH Q) (ZH Q):=fun τ k Q=>XS fun _ _=>rfl
  have hC:∀τ (Q:List YF) (y:YF),Zb 0 τ (Q++[y]).length (ZH (Q++[y])) (Y2 Q.length (ZH Q) (YQ y.c 0 36)):=fun τ Q y=>XS fun j hj=>Z1A (by simpa using hj)
  have e:=Q8 (s:=X.side) (by omega) b1' b2' b3'
  have e':=Q8 (s:=1-X.side) (by omega) b1' b2' b3'
  rw [show 1-(1-X.side)=X.side by omega] at e'
  have k:=Z5R (s:=X.side) (by omega) b1' b2' b3'
  have k':=Z5R (s:=1-X.side) (by omega) b1' b2' b3'
  refine ⟨by omega,fun ho=>⟨fun hst=> ?_,fun hst=>⟨fun h6=>⟨fun hf=> ?_,fun hf=> ?_⟩,fun h6=> ?_⟩⟩,fun ho=>⟨fun hst=> ?_,fun hst=>⟨fun h6=>⟨fun hf=> ?_,fun hf=> ?_⟩,fun h6=> ?_⟩⟩⟩
  all_goals unfold srP at hab
  all_goals rw [hst] at hab hP1
  all_goals simp only [Ze0,List.append_nil] at hP1
  all_goals try simp only [gt_iff_lt] at h6
  all_goals try rw [if_pos h6] at hab
  all_goals try rw [if_neg h6] at hab
  all_goals try have hf1:x.fin=1:=by simpa using hf
  all_goals try have hf0:¬x.fin=1:=by simpa using hf
  all_goals try rw [UG (h:=x) hf1] at hab
  all_goals try rw [Z0w (h:=x) hf0] at hab
  all_goals try (have hy:Qt X.side x=⟨X.side,x.id,x.amount,x.hash,x.expiry⟩:=by unfold Qt;rw [ho];rfl)
  all_goals try (have hy:Qt X.side x=⟨1-X.side,x.id,x.amount,x.hash,x.expiry⟩:=by unfold Qt;rw [ho];rfl)
  all_goals try rw [hy] at hP1
  all_goals subst hP1
  all_goals rw [hab]
  all_goals try rw [show ZD X.side x.own=X.side by rw [ho];rfl]
  all_goals try rw [show ZD X.side x.own=1-X.side by rw [ho];rfl]
  all_goals try rw [e]
  all_goals try rw [e']
  all_goals try rw [k]
  all_goals try rw [k']
  all_goals repeat' apply And.intro
  all_goals first|omega|rfl|exact hZ1 hlt|exact hC _ _ _|exact hR _ _ _|(simp;done)|(simp only [List.length_set,List.length_cons,List.length_nil,List.length_append];omega)|(split<;>rfl)|skip
 ·repeat' apply And.intro
  all_goals first|omega|rfl|exact hZ2 (by omega)|exact XS fun _ _=>rfl
theorem Ze1 {side:Int} {o:Bool} {p:Int×Int} {x:Z7} {A B:Int} (hx:0<=x.amount/\x.amount<=1125899906842624) (h1:A<=p.1/\p.1<=B) (h2:A<=p.2/\p.2<=B):(A-1125899906842624<=(srP side o p x).1/\(srP side o p x).1<=B+1125899906842624)/\A-1125899906842624<=(srP side o p x).2/\(srP side o p x).2<=B+1125899906842624:=by
 unfold srP XT
 split
 ·split<;>dsimp only<;>omega
 ·split
  ·split
   ·split<;>dsimp only<;>omega
   ·omega
  ·omega
theorem Z3F {side:Int} {o:Bool} {a b:Int} {L:List Z7} (hA:∀x∈L,0<=x.amount/\x.amount<=1125899906842624) (ha:0<=a/\a<=1125899906842624) (hb:0<=b/\b<=1125899906842624):∀i,i<=L.length->(0-1125899906842624*(i:Int)<=(Xg side o (a,b) (L.take i)).1/\(Xg side o (a,b) (L.take i)).1<=1125899906842624*((i:Int)+1))/\0-1125899906842624*(i:Int)<=(Xg side o (a,b) (L.take i)).2/\(Xg side o (a,b) (L.take i)).2<=1125899906842624*((i:Int)+1)
 | 0,_=>by
  show (_<=a/\a<=_)/\_<=b/\b<=_
  omega
 | i+1,hi=>by
  obtain ⟨h1,h2⟩:=Z3F (side:=side) (o:=o) hA ha hb i (by omega)
  have e:Xg side o (a,b) (L.take (i+1))=srP side o (Xg side o (a,b) (L.take i)) (L.getD i Zc):=by
   unfold Xg
   rw [Yj (by omega),List.foldl_append];rfl
  rw [e]
  have:=Ze1 (side:=side) (o:=o) (hA _ (ZM (L:=L) (i:=i) (by omega))) h1 h2
  omega
def Ze2 (X:Z8) (n:Nat):Prop:=X.L.length=n/\n<=16/\(X.side=0\/X.side=1)/\(∀h∈X.L,0<=h.amount/\h.amount<=1125899906842624)/\(0<=X.a0/\X.a0<=1125899906842624)/\0<=X.a1/\X.a1<=1125899906842624
theorem Z4S (side:Int) (o:Bool) (A:List Z7) (x:Z7):ZI side o (A++[x])=ZI side o A++Ze0 (YG x.own x.stage o) (Qt side x):=by
 unfold ZI
 rw [List.filter_append,List.map_append,VM]
 congr 1
 cases YG x.own x.stage o<;>rfl
theorem WH (side:Int) (o:Bool) (A:List Z7):(ZI side o A).length<=A.length:=by
 unfold ZI;rw [List.length_map];exact List.length_filter_le _ _
def ZgK (X:Z8) (o:Bool) (k ow:Int) (pt:List Int) (n i:Nat):St:=ZgJ X o k ow pt n i (Xg X.side o (X.a0,X.a1) (X.L.take i)).1 (Xg X.side o (X.a0,X.a1) (X.L.take i)).2 (ZI X.side o (X.L.take i))
def ZgL (X:Z8) (o:Bool) (k ow:Int) (pt:List Int) (i:Nat):St:=Z8P k ow pt (Xg X.side o (X.a0,X.a1) (X.L.take i)).1 (Xg X.side o (X.a0,X.a1) (X.L.take i)).2 (ZI X.side o (X.L.take i))
theorem ZmN (X:Z8) (o:Bool) (k ow:Int) (pt:List Int) (n i:Nat) (hC:Ze2 X n) (hi:i<=n):ZG ZgI 20 12 1 0 (ZgK X o k ow pt n i) (rdM 0 1 9 (ZgK X o k ow pt n (i+1)) (ZgL X o k ow pt i) (ZgL X o k ow pt i) (ZgL X o k ow pt i) (i<n/\i<n) (i=n) False False):=by
 obtain ⟨h1,h2,h3,h4,h5,h6⟩:=id hC
 have hlt:i<n->i<X.L.length:=fun h=>by omega
 have l0:(X.L.take i).length<=16:=by rw [List.length_take];omega
 have l1:=WH X.side o (X.L.take i)
 have hb:=Z3F (side:=X.side) (o:=o) h4 h5 h6 i (by omega)
 refine ZmM X o k ow pt n i _ _ _ _ _ _ (X.L.getD i Zc) (i<n/\i<n) (i=n) (by omega) h1 hi (show 0<=X.side/\X.side<=1 by omega) (by omega) (fun _=>rfl) (fun h=> ?_) (fun h=> ?_) (fun h=>⟨by omega,by omega, ?_⟩) (fun h=>⟨h,h⟩) (fun h=>h)
 ·rw [Yj (hlt h),Z4S]
 ·unfold Xg
  rw [Yj (hlt h),List.foldl_append];rfl
 ·have:=h4 _ (ZM (hlt h));omega
noncomputable def Z9Z (X:Z8) (o:Bool) (k ow:Int) (pt:List Int) (n:Nat) (C:Prop) (E:Nat->St):Zg:=ZgI.withL 12 1 (goM 0 (ZgJ X o k ow pt n 0 X.a0 X.a1 []) C (YJ 1 n 9 (fun i=>i<n) (fun i=>i=n) (fun _=>False) (fun _=>False) E E E))
theorem Ze3 (X:Z8) (o:Bool) (k ow:Int) (pt:List Int) (n:Nat):(Z9Z X o k ow pt n (Ze2 X n) (ZgL X o k ow pt)).Ok:=
 Zg.withGoM (N:=20) (S:=ZgK X o k ow pt n) Z9Y (by kernel_rfl) fun hC=>⟨rfl,fun i hi _=>ZmN X o k ow pt n i hC hi⟩
theorem ZmO (X:Z8) (o:Bool) (k ow:Int) (pt:List Int) (n l:Nat) (a b:Int) (P:List YF) (C:Prop) (AF BF:Nat->Int) (PF:Nat->List YF) (hC:C) (hn:X.L.length=n) (hcap:X.t.cap≠0) (hs:0<=X.side/\X.side<=1) (hk:0<=k/\k<=2147483647) (how:ow=ZD X.side o) (ha:a=AF n) (hb:b=BF n) (hP:P=PF n) (hl:l=P.length):
  evF (Z9Z X o k ow pt n C fun i=>Z8P k ow pt (AF i) (BF i) (PF i)) 20 12 [U0 X,.bool o,.int .i64 k,.agg [.arr .u8 32 pt]] ⟨0,[]⟩ (Y5 0 (.ret (.tuple [.agg [.int .i64 k,.int .i64 ow,.arr .u8 32 pt,.arr .i64 2 [a,b],.nslice ⟨0,0,36,0,0⟩ 36 l l],.int .i64 0])) 1 [(0,.rows 36 l (ZH P))]):=by
 refine @Eq.mpr _ (let q1:=[(0:Int),0];let q2:=[a,b];let q3:=decide (l=0);let q4:=Z0 (decide (0=k)) (Z0 (decide (0=ow)) (Zf=pt/\q1=q2/\Z0 q3 (Z0 q3 False False) False) False) False;let q5:=[X.a0,X.a1];let q6:=q5=q5;let q7:=List.length X.L;let q8:=decide ((↑q7:Int)=(↑n:Int));let q9:=decide (q7=n);let q10:=Z6 X.L;let q11:=q10=q10;let q12:=Z8.c X (AV.vrows 70 q7 q10 q7);let q13:=q12=q12;let q14:=decide (o=o);let q15:=q1=q1;let q16:=decide (k=k);let q17:=pt=pt/\q6/\C/\∀(i:Nat),i<=n->(∀(j:Nat),j<i->(fun (i:Nat)=>i<n) j)->(i=n->Z0 q16 (Z0 (decide (ow=ow)) (pt=pt/\[AF i,BF i]=q2/\Z0 (decide (List.length (PF i)=l)) (Z0 (decide (l<=List.length (PF i))) (Z0 (decide (List.length (PF i)=l)) (Zb 0 [(0,2)] l (ZH P) (ZH (PF i))/\True) False) False) False) False) False)/\(False->False)/\(False->False);
 Z0 (X.t.cap==0) q4 (Z0 (!decide (0<=k/\k<=2147483647)) q4 (Z0 o (q6/\pt=pt/\Z0 q8 (Z0 q9 (q11/\Z0 q9 (q13/\Z0 q14 (Zf=Zf/\q15/\Z0 q16 (Z0 (decide (X.side=ow)) q17 False) False) False) False) False) False) (q6/\pt=pt/\Z0 q8 (Z0 q9 (q11/\Z0 q9 (q13/\Z0 q14 (Zf=Zf/\q15/\Z0 q16 (Z0 (decide (wrap i64 (1-X.side)=ow)) q17 False) False) False) False) False) False)))) (by kernel_rfl) ?_
 conv=>zeta
 try simp only [Zj]
 try simp only [Zl]
 try simp only [Zi]
 try simp only [Zm]
 try simp only [Zn]
 try simp only [Zh]
 try simp only [Int.toNat_natCast,Nat.zero_add,true_and,and_true,Nat.le_refl]
 subst ha hb hP
 have hwf:i64.wrap (1-X.side)=1-X.side:=w64 (by omega)
 rw [hwf]
 have main:∀i:Nat,i<=n->(∀j:Nat,j<i->j<n)->(i=n->[AF i,BF i]=[AF n,BF n]/\(PF i).length=l/\l<=(PF i).length/\(PF i).length=l/\Zb 0 [(0,2)] l (ZH (PF n)) (ZH (PF i)))/\(False->False)/\(False->False):=fun i hi _=>⟨fun he=>by
  subst he
  exact ⟨rfl,hl.symm,Nat.le_of_eq hl,hl.symm,XS fun _ _=>rfl⟩,fun h=>h,fun h=>h⟩
 refine ⟨fun h=>absurd h (by simpa using hcap),fun _=>⟨fun h=>absurd h (by simp [hk.1,hk.2]),fun _=>⟨fun ho=> ?_,fun ho=> ?_⟩⟩⟩
 ·exact ⟨by rw [hn],hn,hn,by rw [how,ho];rfl,hC,main⟩
 ·exact ⟨by rw [hn],hn,hn,by rw [how,ho];rfl,hC,main⟩
theorem ZmP (X:Z8) (o:Bool) (k ow:Int) (pt:List Int) (n:Nat) (C:Prop) (hcap:X.t.cap≠0) (hk:¬(0<=k/\k<=2147483647)):
  evF (Z9Z X o k ow pt n C fun i=>Z8P k ow pt 0 0 []) 20 12 [U0 X,.bool o,.int .i64 k,.agg [.arr .u8 32 pt]] ⟨0,[]⟩ (Yo fun v=>v=.tuple [.agg srZ,.int .i64 2]):=by
 refine @Eq.mpr _ (let q1:=[(0:Int),0];let q2:=AV.agg [AV.int i64 0,AV.int i64 0,AV.arr u8 32 Zf,AV.arr i64 2 q1,AV.nilslice];let q3:=[AV.int i64 2];let q4:=AV.tuple (AV.agg srZ::q3);let q5:=[X.a0,X.a1];let q6:=q5=q5;let q7:=List.length X.L;let q8:=decide ((↑q7:Int)=(↑n:Int));let q9:=decide (q7=n);let q10:=Z6 X.L;let q11:=q10=q10;let q12:=Z8.c X (AV.vrows 70 q7 q10 q7);let q13:=q12=q12;let q14:=decide (o=o);let q15:=q1=q1;let q16:=decide (k=k);let q17:=pt=pt/\q6/\C/\∀(i:Nat),i<=n->(∀(j:Nat),j<i->(fun (i:Nat)=>i<n) j)->(i=n->False)/\(False->False)/\(False->False);
 Z0 (X.t.cap==0) (AV.tuple [q2,AV.int i64 1]=q4) (Z0 (!decide (0<=k/\k<=2147483647)) (AV.tuple (q2::q3)=q4) (Z0 o (q6/\pt=pt/\Z0 q8 (Z0 q9 (q11/\Z0 q9 (q13/\Z0 q14 (Zf=Zf/\q15/\Z0 q16 (Z0 (decide (X.side=ow)) q17 False) False) False) False) False) False) (q6/\pt=pt/\Z0 q8 (Z0 q9 (q11/\Z0 q9 (q13/\Z0 q14 (Zf=Zf/\q15/\Z0 q16 (Z0 (decide (wrap i64 (1-X.side)=ow)) q17 False) False) False) False) False) False)))) (by kernel_rfl) ?_
 conv=>zeta
 try simp only [Zj]
 try simp only [Zl]
 try simp only [Zi]
 try simp only [Zm]
 try simp only [Zn]
 try simp only [Zh]
 try simp only [Int.toNat_natCast,Nat.zero_add,true_and,and_true,Nat.le_refl]
 refine ⟨fun h=>absurd h (by simpa using hcap),fun _=>⟨fun _=>rfl,fun h=>absurd h ?_⟩⟩
 rw [decide_eq_false hk];simp
theorem Z8.Inv.sr {H:List Int->List Int} {X:Z8} (h:X.Inv H):Ze2 X X.L.length:=
 ⟨rfl,h.len,h.side,h.am.am,by have:=h.a0;have:=Y0 h.tb;omega,by have:=h.a0;have:=h.a1;have:=Y0 h.tb;omega⟩
def Xh (X:Z8) (o:Bool):Int×Int:=Xg X.side o (X.a0,X.a1) X.L
def Z2d (c:Bool):Yf:=fun args h K=>ZU none h true 20 args fun a=>match a with
 | [.pview cs 0,.bool o,.int .i64 k,.agg [.arr .u8 32 pt]]=>∃X,LV cs X/\X.Inv Zs/\(match c with
  | true=>(0<=k/\k<=2147483647)/\K (.ret (.tuple [.agg [.int .i64 k,.int .i64 (ZD X.side o),.arr .u8 32 pt,.arr .i64 2 [(Xh X o).1,(Xh X o).2],.nslice ⟨h.next,0,36,0,0⟩ 36 (ZI X.side o X.L).length (ZI X.side o X.L).length],.int .i64 0])) ⟨h.next+1,(h.next,.rows 36 (ZI X.side o X.L).length (ZH (ZI X.side o X.L)))::h.bs⟩
  | false=>¬(0<=k/\k<=2147483647)/\K (.ret (.tuple [.agg srZ,.int .i64 2])) ⟨h.next,h.bs⟩)
 | _=>False
theorem Z02 (c:Bool) (args:List AV) (h:Za) (K:KO) (hl:Z2d c args h K):Zp PP 12 args h K:=by
 refine ZC.fsumm (d:=20) (Zu _ _ _ _ _ hl fun a ha=> ?_)
 split at ha
 ·rename_i cs o k pt
  obtain ⟨X,hX,hI,hK⟩:=ha
  cases c with
  | true=>
   obtain ⟨hk,hK1⟩:=hK
   have hv:=ZmO X o k (ZD X.side o) pt X.L.length _ (Xh X o).1 (Xh X o).2 (ZI X.side o X.L) (Ze2 X X.L.length) (fun i=>(Xg X.side o (X.a0,X.a1) (X.L.take i)).1) (fun i=>(Xg X.side o (X.a0,X.a1) (X.L.take i)).2) (fun i=>ZI X.side o (X.L.take i)) hI.sr rfl (XB hI.tb) (by have:=hI.side;omega) hk rfl (by rw [List.take_length];rfl) (by rw [List.take_length];rfl) (by rw [List.take_length]) rfl
   exact ⟨_,_,_,_,(ZC.evM (Ze3 X o k _ pt _) hv).conv fun E r hr=>hr.head (fun _ hc=>Wq hX hc) fun _ hc=>hc,rfl,⟨Nat.one_pos,.rows _ _ _ (fun i _=>U5 _ i),trivial⟩,hK1⟩
  | false=>
   obtain ⟨hk,hK2⟩:=hK
   have hC:(Z9Z X o k 0 pt X.L.length False fun _=>Z8P k 0 pt 0 0 []).Ok:=Zg.withGoM (N:=20) (S:=fun i=>ZgK X o k 0 pt X.L.length i) Z9Y (by kernel_rfl) fun h=>h.elim
   exact ⟨_,_,_,_,(ZC.evV hC (ZmP X o k 0 pt _ False (XB hI.tb) hk)).conv fun E r hr=>hr.head (fun _ hc=>Wq hX hc) fun _ hc=>hc,rfl,trivial,hK2⟩
 ·exact ha.elim
end Go.Tk
end
section
namespace Go.Tk
open IntKind (i64 u8 u32 u64 wrap)
end Go.Tk
end
section
namespace Go.Tk
open IntKind (i64 u8 u32 u64 wrap)
def YA (W:Int->List Int):List Int->List Int->List Int
 | xs,[]=>xs
 | xs,n::r=>YA W (xs++W n) r
theorem Wn:∀(ns xs:List Int),(YA Zr xs ns).length<=xs.length+9*ns.length
 | [],xs=>by simp [YA]
 | n::r,xs=>by
  have h1:=Yi n
  have h2:=Wn r (xs++Zr n)
  simp only [YA,List.length_append,List.length_cons] at*;omega
def wrH (N:Nat) (xs:List Int):Za:=⟨2,[(0,.flat [.nslice ⟨1,0,0,0,0⟩ 1 N N,.bool true]),(1,.ints .u8 xs)]⟩
theorem ZmQ (W:Int->List Int) (T:Int) (xs ys:List Int) (N L:Nat) (a b:Int) (hT:T=4611686018427387904) (hW:W=Zr) (hN:xs.length=N) (hB:N<80000000000000) (h1:0<=a/\a<=T) (h2:0<=b/\b<=T) (hy:ys=YA W xs [a,b]) (hL:L=ys.length):
  evF (Zb4 W) 20 45 [.ptr (some ⟨0,0,0,0,0⟩),.vints .i64 [a,b] 2] (wrH N xs) (Y5 2 (.ret (.int .i64 0)) 3 [(0,.flat [.nslice ⟨2,0,0,0,0⟩ 1 L L,.bool true]),(2,.ints .u8 ys)]):=by
 refine @Eq.mpr _ (let q1:=xs++W a;let q2:=List.length q1;let q3:=q1++W b;let q4:=List.length q3;
 Z0 (decide (a<0)) False (Z0 (decide (a>4611686018427387904)) False (Z0 (decide (b<0)) False (Z0 (decide (b>4611686018427387904)) False (Z0 (decide (List.length xs=N/\N<90000000000000)) (Z0 (decide (q2=q2/\q2<90000000000000)) (Z0 (decide (q4=L)) (Z0 (decide (L<=q4)) (q3=ys/\True) False) False) False) False))))) (by kernel_rfl) ?_
 conv=>zeta
 try simp only [Zj]
 try simp only [Zl]
 try simp only [Zi]
 try simp only [Zm]
 try simp only [Zn]
 try simp only [Zh]
 try simp only [Int.toNat_natCast,Nat.zero_add,true_and,and_true,Nat.le_refl]
 subst hT hW hN hy hL
 have wa:=Yi a
 have wb:=Yi b
 simp only [YA]
 repeat' apply And.intro
 all_goals first|omega|rfl|(simp only [List.length_append]<;>omega)
theorem ZmR (W:Int->List Int) (T:Int) (xs ys:List Int) (N L:Nat) (a b c:Int) (hT:T=4611686018427387904) (hW:W=Zr) (hN:xs.length=N) (hB:N<80000000000000) (h1:0<=a/\a<=T) (h2:0<=b/\b<=T) (h3:0<=c/\c<=T) (hy:ys=YA W xs [a,b,c]) (hL:L=ys.length):
  evF (Zb4 W) 20 45 [.ptr (some ⟨0,0,0,0,0⟩),.vints .i64 [a,b,c] 3] (wrH N xs) (Y5 2 (.ret (.int .i64 0)) 3 [(0,.flat [.nslice ⟨2,0,0,0,0⟩ 1 L L,.bool true]),(2,.ints .u8 ys)]):=by
 refine @Eq.mpr _ (let q1:=xs++W a;let q2:=List.length q1;let q3:=q1++W b;let q4:=List.length q3;let q5:=q3++W c;let q6:=List.length q5;
 Z0 (decide (a<0)) False (Z0 (decide (a>4611686018427387904)) False (Z0 (decide (b<0)) False (Z0 (decide (b>4611686018427387904)) False (Z0 (decide (c<0)) False (Z0 (decide (c>4611686018427387904)) False (Z0 (decide (List.length xs=N/\N<90000000000000)) (Z0 (decide (q2=q2/\q2<90000000000000)) (Z0 (decide (q4=q4/\q4<90000000000000)) (Z0 (decide (q6=L)) (Z0 (decide (L<=q6)) (q5=ys/\True) False) False) False) False) False))))))) (by kernel_rfl) ?_
 conv=>zeta
 try simp only [Zj]
 try simp only [Zl]
 try simp only [Zi]
 try simp only [Zm]
 try simp only [Zn]
 try simp only [Zh]
 try simp only [Int.toNat_natCast,Nat.zero_add,true_and,and_true,Nat.le_refl]
 subst hT hW hN hy hL
 have wa:=Yi a
 have wb:=Yi b
 have wc:=Yi c
 simp only [YA]
 repeat' apply And.intro
 all_goals first|omega|rfl|(simp only [List.length_append]<;>omega)
theorem ZmS (W:Int->List Int) (T:Int) (xs ys:List Int) (N L:Nat) (a b c d e:Int) (hT:T=4611686018427387904) (hW:W=Zr) (hN:xs.length=N) (hB:N<80000000000000) (h1:0<=a/\a<=T) (h2:0<=b/\b<=T) (h3:0<=c/\c<=T) (h4:0<=d/\d<=T) (h5:0<=e/\e<=T) (hy:ys=YA W xs [a,b,c,d,e]) (hL:L=ys.length):
  evF (Zb4 W) 20 45 [.ptr (some ⟨0,0,0,0,0⟩),.vints .i64 [a,b,c,d,e] 5] (wrH N xs) (Y5 2 (.ret (.int .i64 0)) 3 [(0,.flat [.nslice ⟨2,0,0,0,0⟩ 1 L L,.bool true]),(2,.ints .u8 ys)]):=by
 refine @Eq.mpr _ (let q1:=xs++W a;let q2:=List.length q1;let q3:=q1++W b;let q4:=List.length q3;let q5:=q3++W c;let q6:=List.length q5;let q7:=q5++W d;let q8:=List.length q7;let q9:=q7++W e;let q10:=List.length q9;
 Z0 (decide (a<0)) False (Z0 (decide (a>4611686018427387904)) False (Z0 (decide (b<0)) False (Z0 (decide (b>4611686018427387904)) False (Z0 (decide (c<0)) False (Z0 (decide (c>4611686018427387904)) False (Z0 (decide (d<0)) False (Z0 (decide (d>4611686018427387904)) False (Z0 (decide (e<0)) False (Z0 (decide (e>4611686018427387904)) False (Z0 (decide (List.length xs=N/\N<90000000000000)) (Z0 (decide (q2=q2/\q2<90000000000000)) (Z0 (decide (q4=q4/\q4<90000000000000)) (Z0 (decide (q6=q6/\q6<90000000000000)) (Z0 (decide (q8=q8/\q8<90000000000000)) (Z0 (decide (q10=L)) (Z0 (decide (L<=q10)) (q9=ys/\True) False) False) False) False) False) False) False))))))))))) (by kernel_rfl) ?_
 conv=>zeta
 try simp only [Zj]
 try simp only [Zl]
 try simp only [Zi]
 try simp only [Zm]
 try simp only [Zn]
 try simp only [Zh]
 try simp only [Int.toNat_natCast,Nat.zero_add,true_and,and_true,Nat.le_refl]
 subst hT hW hN hy hL
 have wa:=Yi a
 have wb:=Yi b
 have wc:=Yi c
 have wd:=Yi d
 have we:=Yi e
 simp only [YA]
 repeat' apply And.intro
 all_goals first|omega|rfl|(simp only [List.length_append]<;>omega)
theorem ZmT (W:Int->List Int) (T:Int) (xs ys:List Int) (N L:Nat) (a b c d e f g:Int) (hT:T=4611686018427387904) (hW:W=Zr) (hN:xs.length=N) (hB:N<80000000000000) (h1:0<=a/\a<=T) (h2:0<=b/\b<=T) (h3:0<=c/\c<=T) (h4:0<=d/\d<=T) (h5:0<=e/\e<=T) (h6:0<=f/\f<=T) (h7:0<=g/\g<=T) (hy:ys=YA W xs [a,b,c,d,e,f,g]) (hL:L=ys.length):
  evF (Zb4 W) 20 45 [.ptr (some ⟨0,0,0,0,0⟩),.vints .i64 [a,b,c,d,e,f,g] 7] (wrH N xs) (Y5 2 (.ret (.int .i64 0)) 3 [(0,.flat [.nslice ⟨2,0,0,0,0⟩ 1 L L,.bool true]),(2,.ints .u8 ys)]):=by
 refine @Eq.mpr _ (let q1:=xs++W a;let q2:=List.length q1;let q3:=q1++W b;let q4:=List.length q3;let q5:=q3++W c;let q6:=List.length q5;let q7:=q5++W d;let q8:=List.length q7;let q9:=q7++W e;let q10:=List.length q9;let q11:=q9++W f;let q12:=List.length q11;let q13:=q11++W g;let q14:=List.length q13;
 Z0 (decide (a<0)) False
 (Z0 (decide (a>4611686018427387904)) False (Z0 (decide (b<0)) False (Z0 (decide (b>4611686018427387904)) False (Z0 (decide (c<0)) False (Z0 (decide (c>4611686018427387904)) False (Z0 (decide (d<0)) False (Z0 (decide (d>4611686018427387904)) False (Z0 (decide (e<0)) False (Z0 (decide (e>4611686018427387904)) False (Z0 (decide (f<0)) False (Z0 (decide (f>4611686018427387904)) False (Z0 (decide (g<0)) False (Z0 (decide (g>4611686018427387904)) False (Z0 (decide (List.length xs=N/\N<90000000000000)) (Z0 (decide (q2=q2/\q2<90000000000000)) (Z0 (decide (q4=q4/\q4<90000000000000)) (Z0 (decide (q6=q6/\q6<90000000000000)) (Z0 (decide (q8=q8/\q8<90000000000000)) (Z0 (decide (q10=q10/\q10<90000000000000)) (Z0 (decide (q12=q12/\q12<90000000000000)) (Z0 (decide (q14=L)) (Z0 (decide (L<=q14)) (q13=ys/\True) False) False) False) False) False) False) False) False) False))))))))))))))) (by kernel_rfl) ?_
 conv=>zeta
 try simp only [Zj]
 try simp only [Zl]
 try simp only [Zi]
 try simp only [Zm]
 try simp only [Zn]
 try simp only [Zh]
 try simp only [Int.toNat_natCast,Nat.zero_add,true_and,and_true,Nat.le_refl]
 subst hT hW hN hy hL
 have wa:=Yi a
 have wb:=Yi b
 have wc:=Yi c
 have wd:=Yi d
 have we:=Yi e
 have wf:=Yi f
 have wg:=Yi g
 simp only [YA]
 repeat' apply And.intro
 all_goals first|omega|rfl|(simp only [List.length_append]<;>omega)
theorem ZmU (hh:List Int) (hq:hh.length=32):
  evF G0 20 44 [.ptr (some ⟨0,0,0,0,0⟩),.vrows 32 1 (fun _=>[.arr .u8 32 hh]) 1] ⟨1,[(0,.flat [.nilslice,.bool true])]⟩ (Y5 1 (.ret (.int .i64 0)) 2 [(0,.flat [.nslice ⟨1,0,0,0,0⟩ 1 32 32,.bool true]),(1,.ints .u8 hh)]):=by
 refine @Eq.mpr _ (let q1:=[]++hh;let q2:=List.length q1;
 Z0 (decide (u8=u8/\List.length hh=32)) (Z0 (decide (q2*1<=140737488355328)) (Z0 (decide (q2=32)) (Z0 (decide (32<=q2)) (q1=hh/\True) False) False) False) False) (by kernel_rfl) ?_
 conv=>zeta
 try simp only [Zj]
 try simp only [Zl]
 try simp only [Zi]
 try simp only [Zm]
 try simp only [Zn]
 try simp only [Zh]
 try simp only [Int.toNat_natCast,Nat.zero_add,true_and,and_true,Nat.le_refl]
 simp only [List.nil_append]
 repeat' apply And.intro
 all_goals first|trivial|omega|rfl|assumption
theorem ZmV (xs hh gg ys:List Int) (N L:Nat) (hN:xs.length=N) (hB:N<80000000000000) (hq:hh.length=32) (hg:gg.length=32) (hy:ys=xs++hh++gg) (hL:L=ys.length):
  evF G0 20 44 [.ptr (some ⟨0,0,0,0,0⟩),.vrows 32 2 (fun i=>[.arr .u8 32 ([hh,gg].getD i [])]) 2] (wrH N xs) (Y5 2 (.ret (.int .i64 0)) 3 [(0,.flat [.nslice ⟨2,0,0,0,0⟩ 1 L L,.bool true]),(2,.ints .u8 ys)]):=by
 refine @Eq.mpr _ (let q1:=xs++hh;let q2:=List.length q1;let q3:=q1++gg;let q4:=List.length q3;
 Z0 (decide (u8=u8/\List.length hh=32)) (Z0 (decide (u8=u8/\List.length xs=N)) (Z0 (decide (q2*1<=140737488355328)) (Z0 (decide (u8=u8/\List.length gg=32)) (Z0 (decide (u8=u8/\q2=q2)) (Z0 (decide (q4*1<=140737488355328)) (Z0 (decide (q4=L)) (Z0 (decide (L<=q4)) (q3=ys/\True) False) False) False) False) False) False) False) False) (by kernel_rfl) ?_
 conv=>zeta
 try simp only [Zj]
 try simp only [Zl]
 try simp only [Zi]
 try simp only [Zm]
 try simp only [Zn]
 try simp only [Zh]
 try simp only [Int.toNat_natCast,Nat.zero_add,true_and,and_true,Nat.le_refl]
 subst hN hy hL
 repeat' apply And.intro
 all_goals first|omega|rfl|assumption|(simp only [List.length_append]<;>omega)
theorem ZmW (xs ys:List Int) (N L:Nat) (b:Bool) (hN:xs.length=N) (hB:N<80000000000000) (hy:ys=xs++[cond b 1 0]) (hL:L=ys.length):
  evF G0 20 46 [.ptr (some ⟨0,0,0,0,0⟩),.vrows 1 1 (fun _=>[.bool b]) 1] (wrH N xs) (Y5 2 (.ret (.int .i64 0)) 3 [(0,.flat [.nslice ⟨2,0,0,0,0⟩ 1 L L,.bool true]),(2,.ints .u8 ys)]):=by
 refine @Eq.mpr _ (let q1:=decide (u8=u8/\List.length xs=N);let q2:=xs++[(1:Int)];let q3:=List.length q2;let q4:=xs++[(0:Int)];let q5:=List.length q4;
 Z0 b (Z0 q1 (Z0 (decide (q3*1<=140737488355328)) (Z0 (decide (q3=L)) (Z0 (decide (L<=q3)) (q2=ys/\True) False) False) False) False) (Z0 q1 (Z0 (decide (q5*1<=140737488355328)) (Z0 (decide (q5=L)) (Z0 (decide (L<=q5)) (q4=ys/\True) False) False) False) False)) (by kernel_rfl) ?_
 conv=>zeta
 try simp only [Zj]
 try simp only [Zl]
 try simp only [Zi]
 try simp only [Zm]
 try simp only [Zn]
 try simp only [Zh]
 try simp only [Int.toNat_natCast,Nat.zero_add,true_and,and_true,Nat.le_refl]
 subst hN hy hL
 refine ⟨fun h=> ?_,fun h=> ?_⟩
 all_goals subst h
 all_goals repeat' apply And.intro
 all_goals first|omega|rfl|(simp only [List.length_append,List.length_cons,List.length_nil]<;>omega)
def Z3G (h:Za) (w b:Nat) (ys:List Int):Za:=⟨h.next+1,(w,.flat [.nslice ⟨h.next,0,0,0,0⟩ 1 ys.length ys.length,.bool true])::(h.next,.ints .u8 ys)::Yc (Yc h.bs w) b⟩
def wnG (W:Int->List Int) (T:Int) (B:Nat):Yf:=fun args h K=>match args with
 | [.ptr (some ⟨w,0,0,0,0⟩),_]=>match h.get w with
  |some (.flat [.nslice ⟨b,0,0,0,0⟩ 1 _ _,.bool true])=>frA [w,b] h 20 args fun Bs a=>match Bs,a with
   | [.flat [.nslice ⟨1,0,0,0,0⟩ 1 N M,.bool true],.ints .u8 xs],[.ptr (some ⟨0,0,0,0,0⟩),.vints .i64 [x,y] 2]=>
    Zx (xs.length=N/\M=N/\N<B/\(0<=x/\x<=T)/\(0<=y/\y<=T)) (K (.ret (.int .i64 0)) (Z3G h w b (YA W xs [x,y])))
   | [.flat [.nslice ⟨1,0,0,0,0⟩ 1 N M,.bool true],.ints .u8 xs],[.ptr (some ⟨0,0,0,0,0⟩),.vints .i64 [x,y,z] 3]=>
    Zx (xs.length=N/\M=N/\N<B/\(0<=x/\x<=T)/\(0<=y/\y<=T)/\(0<=z/\z<=T)) (K (.ret (.int .i64 0)) (Z3G h w b (YA W xs [x,y,z])))
   | [.flat [.nslice ⟨1,0,0,0,0⟩ 1 N M,.bool true],.ints .u8 xs],[.ptr (some ⟨0,0,0,0,0⟩),.vints .i64 [x,y,z,u,v] 5]=>
    Zx (xs.length=N/\M=N/\N<B/\(0<=x/\x<=T)/\(0<=y/\y<=T)/\(0<=z/\z<=T)/\(0<=u/\u<=T)/\(0<=v/\v<=T)) (K (.ret (.int .i64 0)) (Z3G h w b (YA W xs [x,y,z,u,v])))
   | [.flat [.nslice ⟨1,0,0,0,0⟩ 1 N M,.bool true],.ints .u8 xs],[.ptr (some ⟨0,0,0,0,0⟩),.vints .i64 [x,y,z,u,v,p,q] 7]=>
    Zx (xs.length=N/\M=N/\N<B/\(0<=x/\x<=T)/\(0<=y/\y<=T)/\(0<=z/\z<=T)/\(0<=u/\u<=T)/\(0<=v/\v<=T)/\(0<=p/\p<=T)/\(0<=q/\q<=T)) (K (.ret (.int .i64 0)) (Z3G h w b (YA W xs [x,y,z,u,v,p,q])))
   | _,_=>False
  | _=>False
 | _=>False
theorem Zjl (args:List AV) (h:Za) (K:KO) (hl:wnG Zr 4611686018427387904 80000000000000 args h K):Zp PP 45 args h K:=by
 unfold wnG at hl
 split at hl
 ·split at hl
  ·refine Spec.fsumm hl fun Bs a hlen hK0=> ?_
   split at hK0
   ·obtain ⟨⟨h1,rfl,h2,k0,k1⟩,hK⟩:=Ze hK0
    exact ⟨_,_,_,_,_,.evM Z0m (ZmQ _ _ _ _ _ _ _ _ rfl rfl h1 h2 k0 k1 rfl rfl),by simp,.ret _ _ rfl,.cons _ _ _ _ _ _ rfl (.flat _ _ rfl) (.cons _ _ _ _ _ _ rfl (.ints _ _) .nil),hK⟩
   ·obtain ⟨⟨h1,rfl,h2,k0,k1,k2⟩,hK⟩:=Ze hK0
    exact ⟨_,_,_,_,_,.evM Z0m (ZmR _ _ _ _ _ _ _ _ _ rfl rfl h1 h2 k0 k1 k2 rfl rfl),by simp,.ret _ _ rfl,.cons _ _ _ _ _ _ rfl (.flat _ _ rfl) (.cons _ _ _ _ _ _ rfl (.ints _ _) .nil),hK⟩
   ·obtain ⟨⟨h1,rfl,h2,k0,k1,k2,k3,k4⟩,hK⟩:=Ze hK0
    exact ⟨_,_,_,_,_,.evM Z0m (ZmS _ _ _ _ _ _ _ _ _ _ _ rfl rfl h1 h2 k0 k1 k2 k3 k4 rfl rfl),by simp,.ret _ _ rfl,.cons _ _ _ _ _ _ rfl (.flat _ _ rfl) (.cons _ _ _ _ _ _ rfl (.ints _ _) .nil),hK⟩
   ·obtain ⟨⟨h1,rfl,h2,k0,k1,k2,k3,k4,k5,k6⟩,hK⟩:=Ze hK0
    exact ⟨_,_,_,_,_,.evM Z0m (ZmT _ _ _ _ _ _ _ _ _ _ _ _ _ rfl rfl h1 h2 k0 k1 k2 k3 k4 k5 k6 rfl rfl),by simp,.ret _ _ rfl,.cons _ _ _ _ _ _ rfl (.flat _ _ rfl) (.cons _ _ _ _ _ _ rfl (.ints _ _) .nil),hK⟩
   ·exact hK0.elim
  ·exact hl.elim
 ·exact hl.elim
def whG (B:Nat):Yf:=fun args h K=>match args with
 | [.ptr (some ⟨w,0,0,0,0⟩),_]=>match h.get w with
  |some (.flat [.nslice ⟨b,0,0,0,0⟩ 1 _ _,.bool true])=>frA [w,b] h 20 args fun Bs a=>match Bs,a with
   | [.flat [.nslice ⟨1,0,0,0,0⟩ 1 N M,.bool true],.ints .u8 xs],[.ptr (some ⟨0,0,0,0,0⟩),.vrows 32 1 f 1]=>match f 0 with
    | [.arr .u8 32 hh]=>Zx (xs.length=N/\M=N/\N<B/\hh.length=32) (K (.ret (.int .i64 0)) (Z3G h w b (xs++hh)))
    | _=>False
   | [.flat [.nslice ⟨1,0,0,0,0⟩ 1 N M,.bool true],.ints .u8 xs],[.ptr (some ⟨0,0,0,0,0⟩),.vrows 32 2 f 2]=>match f 0,f 1 with
    | [.arr .u8 32 hh],[.arr .u8 32 gg]=>Zx (xs.length=N/\M=N/\N<B/\hh.length=32/\gg.length=32) (K (.ret (.int .i64 0)) (Z3G h w b (xs++hh++gg)))
    | _,_=>False
   | _,_=>False
  | some (.flat [.nilslice,.bool true])=>frA [w] h 20 args fun Bs a=>match Bs,a with
   | [.flat [.nilslice,.bool true]],[.ptr (some ⟨0,0,0,0,0⟩),.vrows 32 1 f 1]=>match f 0 with
    | [.arr .u8 32 hh]=>Zx (hh.length=32) (K (.ret (.int .i64 0)) ⟨h.next+1,(w,.flat [.nslice ⟨h.next,0,0,0,0⟩ 1 32 32,.bool true])::(h.next,.ints .u8 hh)::Yc h.bs w⟩)
    | _=>False
   | _,_=>False
  | _=>False
 | _=>False
theorem Zjm (args:List AV) (h:Za) (K:KO) (hl:whG 80000000000000 args h K):Zp PP 44 args h K:=by
 unfold whG at hl
 split at hl
 ·split at hl
  ·refine Spec.fsumm hl fun Bs a hlen hK0=> ?_
   split at hK0
   ·split at hK0
    case h_2=>exact hK0.elim
    rename_i hh hf
    obtain ⟨⟨h1,rfl,h2,h3⟩,hK⟩:=Ze hK0
    refine ⟨_,_,_,_,_,(Spec.evM Zv (ZfL _ hh _ _ _ _ h1 (by omega) h3 rfl rfl)).conv fun E r hr=>hr.head (fun _ hc=>hc) fun _ hc=>hc.head (fun _ hc=>hc.rowsC ?_) fun _ hc=>hc,by simp,.ret _ _ rfl,.cons _ _ _ _ _ _ rfl (.flat _ _ rfl) (.cons _ _ _ _ _ _ rfl (.ints _ _) .nil),hK⟩
    intro i hi
    have:i=0:=by omega
    subst this
    exact hf
   ·split at hK0
    case h_2=>exact hK0.elim
    rename_i hh gg hf hg
    obtain ⟨⟨h1,rfl,h2,h3,h4⟩,hK⟩:=Ze hK0
    refine ⟨_,_,_,_,_,(Spec.evM Zv (ZmV _ hh gg _ _ _ h1 h2 h3 h4 rfl rfl)).conv fun E r hr=>hr.head (fun _ hc=>hc) fun _ hc=>hc.head (fun _ hc=>hc.rowsC ?_) fun _ hc=>hc,by simp,.ret _ _ rfl,.cons _ _ _ _ _ _ rfl (.flat _ _ rfl) (.cons _ _ _ _ _ _ rfl (.ints _ _) .nil),hK⟩
    intro i hi
    have:i=0\/i=1:=by omega
    rcases this with rfl|rfl
    ·exact hf
    ·exact hg
   ·exact hK0.elim
  ·refine Spec.fsumm hl fun Bs a hlen hK0=> ?_
   split at hK0
   ·split at hK0
    case h_2=>exact hK0.elim
    rename_i hh hf
    obtain ⟨h3,hK⟩:=Ze hK0
    refine ⟨_,_,_,_,_,(Spec.evM Zv (ZmU hh h3)).conv fun E r hr=>hr.head (fun _ hc=>hc) fun _ hc=>hc.head (fun _ hc=>hc.rowsC ?_) fun _ hc=>hc,by simp,.ret _ _ rfl,.cons _ _ _ _ _ _ rfl (.flat _ _ rfl) (.cons _ _ _ _ _ _ rfl (.ints _ _) .nil),hK⟩
    intro i hi
    have:i=0:=by omega
    subst this
    exact hf
   ·exact hK0.elim
  ·exact hl.elim
 ·exact hl.elim
def wtG (B:Nat):Yf:=fun args h K=>match args with
 | [.ptr (some ⟨w,0,0,0,0⟩),_]=>match h.get w with
  |some (.flat [.nslice ⟨b,0,0,0,0⟩ 1 _ _,.bool true])=>frA [w,b] h 20 args fun Bs a=>match Bs,a with
   | [.flat [.nslice ⟨1,0,0,0,0⟩ 1 N M,.bool true],.ints .u8 xs],[.ptr (some ⟨0,0,0,0,0⟩),.vrows 1 1 f 1]=>match f 0 with
    | [.bool t]=>Zx (xs.length=N/\M=N/\N<B) (K (.ret (.int .i64 0)) (Z3G h w b (xs++[cond t 1 0])))
    | _=>False
   | _,_=>False
  | _=>False
 | _=>False
theorem Zjn (args:List AV) (h:Za) (K:KO) (hl:wtG 80000000000000 args h K):Zp PP 46 args h K:=by
 unfold wtG at hl
 split at hl
 ·split at hl
  ·refine Spec.fsumm hl fun Bs a hlen hK0=> ?_
   split at hK0
   ·split at hK0
    case h_2=>exact hK0.elim
    rename_i t hf
    obtain ⟨⟨h1,rfl,h2⟩,hK⟩:=Ze hK0
    refine ⟨_,_,_,_,_,(Spec.evM Zv (ZmW _ _ _ _ t h1 h2 rfl rfl)).conv fun E r hr=>hr.head (fun _ hc=>hc) fun _ hc=>hc.head (fun _ hc=>hc.rowsC ?_) fun _ hc=>hc,by simp,.ret _ _ rfl,.cons _ _ _ _ _ _ rfl (.flat _ _ rfl) (.cons _ _ _ _ _ _ rfl (.ints _ _) .nil),hK⟩
    intro i hi
    have:i=0:=by omega
    subst this
    exact hf
   ·exact hK0.elim
  ·exact hl.elim
 ·exact hl.elim
end Go.Tk
end
section
namespace Go.Tk
open IntKind (i64 u8 u32 u64 wrap)
def Z1b (W:Int->List Int) (xs:List Int) (h:Z7):List Int:=if h.fin=1 then YA W (YA W (xs++[cond h.own 1 0]) [h.id,h.amount]++h.hash) [h.expiry,h.stage,h.fin]++h.secret else YA W (YA W (xs++[cond h.own 1 0]) [h.id,h.amount]++h.hash) [h.expiry,h.stage,h.fin]
def Ve (W:Int->List Int) (X:Z8):List Int:=YA W (YA W X.t.fund [X.t.index,X.t.cap,X.t.dust,X.t.fee,X.t.delay]++X.t.k0++X.t.k1) [X.side,X.res,X.a0,X.a1,X.i0,X.i1,(X.L.length:Int)]
def YM (W:Int->List Int) (X:Z8):List Int:=X.L.foldl (Z1b W) (Ve W X)
noncomputable def ZgM (W:Int->List Int) (T:Int) (B:Nat):Zg:=(((G0.withF 45 (wnG W T B)).withF 44 (whG B)).withF 46 (wtG B)).withF 86 Z5z
theorem ZgN:(ZgM Zr 4611686018427387904 80000000000000).Ok:=Zg.withF_ok (Zg.withF_ok (Zg.withF_ok (Zg.withF_ok Zv Zjl) Zjm) Zjn) Z3e
def rwS (X:Z8) (n i N:Nat) (xs:List Int):St:=⟨127,[(77,.int .i64 i),(76,.int .i64 n),(75,.vrows 70 n (Z6 X.L) n),(3,.ptr (some ⟨0,0,0,0,0⟩))],wrH N xs,[]⟩
def rwE (N:Nat) (xs:List Int):St:=⟨127,[(3,.ptr (some ⟨0,0,0,0,0⟩))],wrH N xs,[]⟩
def Zjo (T:Int) (x:Z7):Prop:=(0<=x.id/\x.id<=T)/\(0<=x.amount/\x.amount<=T)/\(0<=x.expiry/\x.expiry<=T)/\(0<=x.stage/\x.stage<=T)/\0<=x.fin/\x.fin<=T
theorem ZmX (X:Z8) (n i N N1 B:Nat) (xs ys:List Int) (x:Z7) (W:Int->List Int) (T:Int) (Z1 Z2:Prop) (hn:n<1000) (hL:X.L.length=n) (hi:i<=n) (hx:i<n->X.L.getD i Zc=x) (hN:xs.length=N) (hB:i<n->N+1000<B) (hW:W=Zr) (hr:i<n->Zjo T x) (hk:i<n->x.Ok) (hy:i<n->ys=Z1b W xs x) (hN1:i<n->N1=ys.length) (hZ1:i<n->Z1) (hZ2:i=n->Z2):
  ZG (ZgM W T B) 20 15 0 0 (rwS X n i N xs) (rdM 0 0 9 (rwS X n (i+1) N1 ys) (rwE N xs) (rwE N xs) (rwE N xs) Z1 Z2 False False):=by
 refine @Eq.mpr _ (let q1:=List.getD X.L (Int.toNat (↑i:Int)) Zc;let q2:=xs++[bif q1.own then 1 else 0];let q3:=List.length q2;let q4:=q1.id;let q5:=q1.amount;let q6:=YA W q2 [q4,q5];let q7:=List.length q6;let q8:=q1.hash;let q9:=q6++q8;let q10:=List.length q9;let q11:=q1.expiry;let q12:=q1.stage;let q13:=q1.fin;let q14:=YA W q9 [q11,q12,q13];let q15:=List.length q14;let q16:=q1.secret;let q17:=decide (wrap i64 ((↑i:Int)+1)=(↑(i+1):Int));let q18:=decide ((↑n:Int)=(↑n:Int));let q19:=decide (n=n);let q20:=Z6 X.L;let q21:=q20=q20;let q22:=q14++q16;let q23:=List.length q22;
 Z0 (decide ((↑i:Int)<(↑n:Int))) (Z0 (decide (0<=(↑i:Int)/\(↑i:Int)<(↑n:Int))) (Z0 (decide (List.length xs=N/\N=N/\N<B)) (Z0 (decide (q3=q3/\q3=q3/\q3<B/\(0<=q4/\q4<=T)/\0<=q5/\q5<=T)) (Z0 (decide (q7=q7/\q7=q7/\q7<B/\List.length q8=32)) (Z0 (decide (q10=q10/\q10=q10/\q10<B/\(0<=q11/\q11<=T)/\(0<=q12/\q12<=T)/\0<=q13/\q13<=T)) (Z0 (q13==1) (Z0 (decide (q15=q15/\q15=q15/\q15<B/\List.length q16=32)) (Z0 q17 (Z0 q18 (Z0 q19 (q21/\Z0 q19 (Z0 (decide (q23=N1)) (Z0 (decide (N1<=q23)) (q22=ys/\Z1) False) False) False) False) False) False) False) (Z0 q17 (Z0 q18 (Z0 q19 (q21/\Z0 q19 (Z0 (decide (q15=N1)) (Z0 (decide (N1<=q15)) (q14=ys/\Z1) False) False) False) False) False) False)) False) False) False) False) False) (Z0 (decide (N=N)) (Z0 (decide (N<=N)) (xs=xs/\Z2) False) False)) (by kernel_rfl) ?_
 conv=>zeta
 try simp only [Zj]
 try simp only [Zl]
 try simp only [Zi]
 try simp only [Zm]
 try simp only [Zn]
 try simp only [Zh]
 try simp only [Int.toNat_natCast,Nat.zero_add,true_and,and_true,Nat.le_refl]
 refine ⟨fun hc=> ?_,fun hc=>hZ2 (by omega)⟩
 have hlt:i<n:=by omega
 rw [hx hlt]
 obtain ⟨r1,r2,r3,r4,r5⟩:=hr hlt
 have hk:=hk hlt
 have hB:=hB hlt
 have hy:=hy hlt
 have hN1:=hN1 hlt
 have hwr:i64.wrap ((i:Int)+1)=((i+1:Nat):Int):=by rw [w64 (by omega)];omega
 have k1:=hk.hash
 have k2:=hk.secret
 subst hW
 unfold Z1b at hy
 have l1:=Wn [x.id,x.amount] (xs++[bif x.own then 1 else 0])
 generalize YA Zr (xs++[bif x.own then 1 else 0]) [x.id,x.amount]=A1 at*
 have l2:=Wn [x.expiry,x.stage,x.fin] (A1++x.hash)
 generalize hA2:YA Zr (A1++x.hash) [x.expiry,x.stage,x.fin]=A2 at*
 simp only [List.length_append,List.length_cons,List.length_nil] at*
 refine ⟨by omega,⟨hN,by omega⟩,⟨by omega,r1,r2⟩,⟨by omega,k1⟩,⟨by omega,r3,r4,r5⟩,fun hf=> ?_,fun hf=> ?_⟩
 ·have hf:x.fin=1:=by simpa using hf
  have hy:ys=A2++x.secret:=by rw [hy,if_pos hf]
  subst hy
  rw [List.length_append] at hN1
  exact ⟨⟨by omega,k2⟩,hwr,by omega,by omega,rfl,hZ1 hlt⟩
 ·have hf:¬x.fin=1:=by simpa using hf
  have hy:ys=A2:=by rw [hy,if_neg hf]
  subst hy
  exact ⟨hwr,by omega,by omega,rfl,hZ1 hlt⟩
theorem Ze4 (xs:List Int) (h:Z7) (h1:h.hash.length=32) (h2:h.secret.length=32):(Z1b Zr xs h).length<=xs.length+110:=by
 have l1:=Wn [h.id,h.amount] (xs++[bif h.own then 1 else 0])
 have l2:=Wn [h.expiry,h.stage,h.fin] (YA Zr (xs++[bif h.own then 1 else 0]) [h.id,h.amount]++h.hash)
 unfold Z1b
 simp only [List.length_append,List.length_cons,List.length_nil] at*
 split
 ·rw [List.length_append];omega
 ·omega
theorem Z7c {L:List Z7} (hL:∀h∈L,h.Ok):∀xs,(L.foldl (Z1b Zr) xs).length<=xs.length+110*L.length:=by
 induction L with
 | nil=>simp
 | cons h r ih=>
  intro xs
  rw [List.foldl_cons,List.length_cons]
  have h1:=ih (fun z hz=>hL z (by simp [hz])) (Z1b Zr xs h)
  have hk:=hL h (by simp)
  have h2:=Ze4 xs h hk.hash hk.secret
  omega
theorem Z1c {X:Z8} (hf:X.t.fund.length=32) (h0:X.t.k0.length=32) (h1:X.t.k1.length=32):(Ve Zr X).length<=300:=by
 have l1:=Wn [X.t.index,X.t.cap,X.t.dust,X.t.fee,X.t.delay] X.t.fund
 have l2:=Wn [X.side,X.res,X.a0,X.a1,X.i0,X.i1,(X.L.length:Int)] (YA Zr X.t.fund [X.t.index,X.t.cap,X.t.dust,X.t.fee,X.t.delay]++X.t.k0++X.t.k1)
 unfold Ve
 simp only [List.length_append,List.length_cons,List.length_nil] at*
 omega
def ZhY (T:Int) (X:Z8):Prop:=(0<=X.t.index/\X.t.index<=T)/\(0<=X.t.cap/\X.t.cap<=T)/\(0<=X.t.dust/\X.t.dust<=T)/\(0<=X.t.fee/\X.t.fee<=T)/\(0<=X.t.delay/\X.t.delay<=T)/\(0<=X.side/\X.side<=T)/\(0<=X.res/\X.res<=T)/\(0<=X.a0/\X.a0<=T)/\(0<=X.a1/\X.a1<=T)/\(0<=X.i0/\X.i0<=T)/\(0<=X.i1/\X.i1<=T)/\0<=(X.L.length:Int)/\(X.L.length:Int)<=T
def ZgO (T:Int) (B:Nat) (X:Z8) (n:Nat) (hd:List Int):Prop:=X.L.length=n/\n<=16/\hd.length<=300/\10000<=B/\(∀h∈X.L,Zjo T h/\h.Ok)
def Ue (X:Z8) (hd:List Int) (i:Nat):List Int:=(X.L.take i).foldl (Z1b Zr) hd
theorem ZmY (T:Int) (B:Nat) (X:Z8) (n i:Nat) (hd:List Int) (hC:ZgO T B X n hd) (hi:i<=n):ZG (ZgM Zr T B) 20 15 0 0 (rwS X n i (Ue X hd i).length (Ue X hd i)) (rdM 0 0 9 (rwS X n (i+1) (Ue X hd (i+1)).length (Ue X hd (i+1))) (rwE (Ue X hd i).length (Ue X hd i)) (rwE (Ue X hd i).length (Ue X hd i)) (rwE (Ue X hd i).length (Ue X hd i)) (i<n/\i<n) (i=n) False False):=by
 obtain ⟨h1,h2,h3,h4,h5⟩:=id hC
 have hlt:i<n->i<X.L.length:=fun h=>by omega
 have hl:=Z7c (L:=X.L.take i) (fun z hz=>(h5 z (List.mem_of_mem_take hz)).2) hd
 have l0:(X.L.take i).length<=16:=by rw [List.length_take];omega
 refine ZmX X n i _ _ B _ _ (X.L.getD i Zc) Zr T (i<n/\i<n) (i=n) (by omega) h1 hi (fun _=>rfl) rfl (fun _=> ?_) rfl (fun h=>(h5 _ (ZM (hlt h))).1) (fun h=>(h5 _ (ZM (hlt h))).2) (fun h=> ?_) (fun _=>rfl) (fun h=>⟨h,h⟩) (fun h=>h)
 ·unfold Ue;omega
 ·unfold Ue
  rw [Yj (hlt h),List.foldl_append];rfl
noncomputable def ZhZ (W:Int->List Int) (T:Int) (B:Nat) (X:Z8) (n N:Nat) (hd:List Int) (C:Prop) (E:Nat->St):Zg:=(ZgM W T B).withL 15 0 (goM 0 (rwS X n 0 N hd) C (YJ 0 n 9 (fun i=>i<n) (fun i=>i=n) (fun _=>False) (fun _=>False) E E E))
theorem Ze5 (X:Z8) (n:Nat) (hd:List Int):(ZhZ Zr 4611686018427387904 80000000000000 X n hd.length hd (ZgO 4611686018427387904 80000000000000 X n hd) (fun i=>rwE (Ue X hd i).length (Ue X hd i))).Ok:=
 Zg.withGoM (N:=20) (S:=fun i=>rwS X n i (Ue X hd i).length (Ue X hd i)) ZgN (by kernel_rfl) fun hC=>⟨rfl,fun i hi _=>ZmY _ _ X n i hd hC hi⟩
theorem ZmZ (X:Z8) (n N B l:Nat) (hd ys:List Int) (W:Int->List Int) (T:Int) (C:Prop) (XF:Nat->List Int) (hC:C) (hn:X.L.length=n) (hcap:X.t.cap≠0) (hhd:hd=Ve W X) (hN:N=hd.length) (hy:ys=XF n) (hl:l=ys.length) (hl2:ys.length<90000000000000) (hf:X.t.fund.length=32) (h0:X.t.k0.length=32) (h1:X.t.k1.length=32) (hB:10000<=B) (hW:W=Zr) (hT:ZhY T X):
  evF (ZhZ W T B X n N hd C fun i=>rwE (XF i).length (XF i)) 20 15 [U0 X] ⟨0,[]⟩ (Y5 0 (.ret (.nslice ⟨0,0,0,0,0⟩ 1 l l)) 1 [(0,.ints .u8 ys)]):=by
 refine @Eq.mpr _ (let q1:=X.t;let q2:=q1.cap;let q3:=decide (l=0);let q4:=q1.fund;let q5:=q4=q4;let q6:=q1.index;let q7:=decide (q6=q6);let q8:=decide (q2=q2);let q9:=q1.dust;let q10:=decide (q9=q9);let q11:=q1.fee;let q12:=decide (q11=q11);let q13:=q1.delay;let q14:=decide (q13=q13);let q15:=q1.k0;let q16:=q15=q15;let q17:=q1.k1;let q18:=q17=q17;let q19:=YA W q4 [q6,q2,q9,q11,q13];let q20:=List.length q19;let q21:=q19++q15++q17;let q22:=List.length q21;let q23:=X.side;let q24:=X.res;let q25:=X.a0;let q26:=X.a1;let q27:=X.i0;let q28:=X.i1;let q29:=List.length X.L;let q30:=↑q29;let q31:=decide (q29=n);let q32:=Z6 X.L;let q33:=YA W q21 [q23,q24,q25,q26,q27,q28,q30];let q34:=List.length q33;
 Z0 (q2==0) (Z0 q3 (Z0 q3 (ys=[]/\True) False) False)
 (q5/\
 Z0 q7
 (Z0 q8
 (Z0 q10
 (Z0 q12
 (Z0 q14
 (q16/\
 q18/\
 q5/\
 Z0 q7
 (Z0 q8
 (Z0 q10
 (Z0 q12
 (Z0 q14
 (q16/\
 q18/\
 q5/\
 Z0 q7
 (Z0 q8
 (Z0 q10
 (Z0 q12
 (Z0 q14
 (q16/\
 q18/\
 Z0 (decide (List.length q4=32))
 (Z0 (decide (List.length q4=32/\(32:Nat)=32/\32<B/\(0<=q6/\q6<=T)/\(0<=q2/\q2<=T)/\(0<=q9/\q9<=T)/\(0<=q11/\q11<=T)/\0<=q13/\q13<=T))
 (Z0 (decide (q20=q20/\q20=q20/\q20<B/\List.length q15=32/\List.length q17=32))
 (Z0 (decide (q22=q22/\q22=q22/\q22<B/\(0<=q23/\q23<=T)/\(0<=q24/\q24<=T)/\(0<=q25/\q25<=T)/\(0<=q26/\q26<=T)/\(0<=q27/\q27<=T)/\(0<=q28/\q28<=T)/\0<=q30/\q30<=T))
 (Z0 (decide (q30=↑n))
 (Z0 q31
 (q32=q32/\
 Z0 q31
 (Z0 (decide (q34=N))
 (Z0 (decide (N<=q34))
 (q33=hd/\
 C/\
 ∀(i:Nat),
 let q69:=List.length (XF i);let q70:=List.take q69 (YH 0 (XF i));
 i<=n->(∀(j:Nat),j<i->(fun (i:Nat)=>i<n) j)->(i=n->Z0 (decide (0+q69<=q69)) (Z0 (decide (List.length q70=q69/\q69<90000000000000)) (Z0 (decide (q69=l)) (Z0 (decide (l<=q69)) (q70=ys/\True) False) False) False) False)/\(False->False)/\(False->False))
 False)
 False)
 False)
 False)
 False)
 False)
 False)
 False)
 False)
 False)
 False)
 False)
 False)
 False)
 False)
 False)
 False)
 False)
 False)
 False)
 False)
 False)
 False)
 False)) (by kernel_rfl) ?_
 conv=>zeta
 try simp only [Zj]
 try simp only [Zl]
 try simp only [Zi]
 try simp only [Zm]
 try simp only [Zn]
 try simp only [Zh]
 try simp only [Int.toNat_natCast,Nat.zero_add,true_and,and_true,Nat.le_refl]
 subst hy hN
 obtain ⟨t1,t2,t3,t4,t5,t6,t7,t8,t9,t10,t11,t12⟩:=hT
 have hlen:=Z1c hf h0 h1
 have e:List.take (XF n).length (YH 0 (XF n))=XF n:=by rw [Yw,List.drop_zero,List.take_length]
 subst hW
 have l1:=Wn [X.t.index,X.t.cap,X.t.dust,X.t.fee,X.t.delay] X.t.fund
 have hhd':=hhd
 unfold Ve at hhd
 rw [<-hhd]
 have hlen:hd.length<=300:=by rw [hhd'];exact hlen
 simp only [List.length_append,List.length_cons,List.length_nil] at l1⊢
 refine ⟨fun h=>absurd h (by simpa using hcap),fun _=>⟨hf,⟨hf,by omega,t1,t2,t3,t4,t5⟩,⟨by omega,h0,h1⟩,⟨by omega,t6,t7,t8,t9,t10,t11,t12⟩,by rw [hn],hn,hn,trivial,Nat.le_refl _,trivial,hC,fun i hi _=>⟨fun he=> ?_,fun h=>h,fun h=>h⟩⟩⟩
 subst he
 rw [e]
 exact ⟨⟨rfl,hl2⟩,hl.symm,Nat.le_of_eq hl,rfl⟩
theorem ZgP {H:List Int->List Int} {h:Z7} (hf:Z0q H h=true):0<=h.fin/\h.fin<=2:=by
 unfold Z0q at hf
 by_cases h0:h.fin=0
 ·omega
 ·rw [if_neg h0] at hf
  by_cases h1:h.fin=1
  ·omega
  ·rw [if_neg h1] at hf
   by_cases h2:h.fin=2
   ·omega
   ·rw [if_neg h2] at hf;cases hf
theorem Z8.Inv.hnum {H:List Int->List Int} {X:Z8} (h:X.Inv H):∀z∈X.L,Zjo 4611686018427387904 z/\z.Ok:=fun z hz=>by
 obtain ⟨u1,u2,u3,u4⟩:=YW (h.und z hz)
 have:=Z5P u1
 have:=ZgP u4
 exact ⟨⟨by omega,by omega,by omega,by omega,by omega⟩,h.ok z hz⟩
theorem Z8.Inv.hdnum {H:List Int->List Int} {X:Z8} (h:X.Inv H):ZhY 4611686018427387904 X:=by
 have:=Y0 h.tb
 have:=h.side
 have:=h.res
 have:=h.a0
 have:=h.a1
 have:=h.i0
 have:=h.i1
 have:=h.len
 refine ⟨?_, ?_, ?_, ?_, ?_, ?_, ?_, ?_, ?_, ?_, ?_, ?_⟩<;>omega
theorem Z8.Inv.rw' {H:List Int->List Int} {X:Z8} (h:X.Inv H) (hf:X.t.fund.length=32):ZgO 4611686018427387904 80000000000000 X X.L.length (Ve Zr X):=
 ⟨rfl,h.len,Z1c hf h.tok.k0 h.tok.k1,by decide,h.hnum⟩
theorem Z8.Inv.rawLen {H:List Int->List Int} {X:Z8} (h:X.Inv H) (hf:X.t.fund.length=32):(YM Zr X).length<=3000:=by
 have h1:=Z7c (L:=X.L) (fun z hz=>h.ok z hz) (Ve Zr X)
 have h2:=Z1c hf h.tok.k0 h.tok.k1
 have:=h.len
 unfold YM;omega
def Zi0 (W:Int->List Int):Yf:=fun args h K=>ZU none h true 20 args fun a=>match a with
 | [.pview cs 0]=>∃X,LV cs X/\X.Inv Zs/\X.t.fund.length=32/\K (.ret (.nslice ⟨h.next,0,0,0,0⟩ 1 (YM W X).length (YM W X).length)) ⟨h.next+1,(h.next,.ints .u8 (YM W X))::h.bs⟩
 | _=>False
theorem Ze6 (args:List AV) (h:Za) (K:KO) (hl:Zi0 Zr args h K):Zp PP 15 args h K:=by
 refine ZC.fsumm (d:=20) (Zu _ _ _ _ _ hl fun a ha=> ?_)
 split at ha
 ·obtain ⟨X,hX,hI,hf,hK⟩:=ha
  have hv:=ZmZ X X.L.length _ 80000000000000 _ (Ve Zr X) (YM Zr X) Zr 4611686018427387904 (ZgO 4611686018427387904 80000000000000 X X.L.length (Ve Zr X)) (Ue X (Ve Zr X)) (hI.rw' hf) rfl (XB hI.tb) rfl rfl (by unfold Ue;rw [List.take_length];rfl) rfl (by have:=hI.rawLen hf;omega) hf hI.tok.k0 hI.tok.k1 (by decide) rfl hI.hdnum
  exact ⟨_,_,_,_,(ZC.evM (Ze5 X _ _) hv).conv fun E r hr=>hr.head (fun _ hc=>Wq hX hc) fun _ hc=>hc,rfl,⟨Nat.one_pos,.ints _ _,trivial⟩,hK⟩
 ·exact ha.elim
end Go.Tk
end
section
namespace Go.Tk
open IntKind (i64 u8 u32 u64 wrap)
end Go.Tk
end
section
namespace Go.Tk
open IntKind (i64 u8 u32 u64 wrap)
def Z1O (side s:Int) (p:Int×Nat) (h:Z7):Int×Nat:=if ZD side h.own=s/\p.1<=1125899906842624 then (p.1+h.amount,p.2+1) else p
def offD (side s:Int) (L:List Z7):Int×Nat:=L.foldl (Z1O side s) (0,0)
theorem Q9 {α β:Type} (g:β->α->β) (d:α) {L:List α} {i:Nat} (hi:i<L.length) (b:β):(L.take (i+1)).foldl g b=g ((L.take i).foldl g b) (L.getD i d):=by
 rw [List.take_succ_eq_append_getElem hi,List.foldl_append,List.getD_eq_getElem?_getD,List.getElem?_eq_getElem hi];rfl
theorem Z4T {side s:Int} {L:List Z7} (hA:∀h∈L,0<=h.amount/\h.amount<=1125899906842624):∀i,i<=L.length->(0<=(offD side s (L.take i)).1/\(offD side s (L.take i)).1<=2251799813685248)/\(offD side s (L.take i)).2<=i
 | 0,_=>by simp [offD]
 | i+1,hi=>by
  obtain ⟨h1,h2⟩:=Z4T (side:=side) (s:=s) hA i (by omega)
  unfold offD at*
  rw [Q9 (Z1O side s) Zc (by omega)]
  generalize List.foldl (Z1O side s) (0,0) (L.take i)=p at*
  have:=hA _ (ZM (L:=L) (i:=i) (by omega))
  unfold Z1O
  split
  ·rename_i hc
   constructor<;>dsimp only<;>omega
  ·omega
def ZgQ (X:Z8) (s:Int) (n i:Nat) (a:Int) (c:Nat):St:=⟨42,[(8,.int .i64 i),(2,.ptr (some ⟨0,0,0,0,0⟩)),(1,.int .i64 s),(6,.int .i64 a),(7,.int .i64 c)],⟨1,[(0,.flat (X.c (.vrows 70 n (Z6 X.L) n)))]⟩,[]⟩
def Ze7 (a:Int) (c:Nat):St:=⟨42,[(6,.int .i64 a),(7,.int .i64 c)],⟨0,[]⟩,[]⟩
theorem Zn0 (X:Z8) (s:Int) (n i:Nat) (x:Z7) (a a1:Int) (c c1:Nat) (Z1 Z2:Prop) (hn:n<1000) (hL:X.L.length=n) (hi:i<=n) (hX:X3 X) (hx:i<n->X.L.getD i Zc=x) (ha:i<n->(0<=a/\a<=2251799813685248)/\0<=x.amount/\x.amount<=1125899906842624) (hc:i<n->c<1000) (h1:i<n->(a1,c1)=Z1O X.side s (a,c) x) (hZ1:i<n->Z1) (hZ2:i=n->Z2):
  ZG G0 20 100 0 0 (ZgQ X s n i a c) (rdM 0 0 9 (ZgQ X s n (i+1) a1 c1) (Ze7 a c) (Ze7 a c) (Ze7 a c) Z1 Z2 False False):=by
 refine @Eq.mpr _ (let q1:=decide (0<=(↑i:Int)/\(↑i:Int)<(↑n:Int));let q2:=List.getD X.L (Int.toNat (↑i:Int)) Zc;let q3:=X.side;let q4:=decide (wrap i64 ((↑i:Int)+1)=(↑(i+1):Int));let q5:=decide (s=s);let q6:=X.t;let q7:=q6.fund;let q8:=q6.index;let q9:=q6.cap;let q10:=q6.dust;let q11:=q6.fee;let q12:=q6.delay;let q13:=q6.k0;let q14:=q6.k1;let q15:=[X.a0,X.a1];let q16:=[X.i0,X.i1];let q17:=decide (n=n);let q18:=Z6 X.L;let q19:=q7=q7/\Z0 (decide (q8=q8)) (Z0 (decide (q9=q9)) (Z0 (decide (q10=q10)) (Z0 (decide (q11=q11)) (Z0 (decide (q12=q12)) (q13=q13/\q14=q14/\Z0 (decide (q3=q3)) (Z0 (decide (X.res=X.res)) (q15=q15/\q16=q16/\Z0 q17 (q18=q18/\Z0 q17 Z1 False) False) False) False) False) False) False) False) False;let q20:=Z0 q4 (Z0 q5 (Z0 (decide (a=a1)) (Z0 (decide ((↑c:Int)=(↑c1:Int))) q19 False) False) False) False;let q21:=Z0 (decide (a<=1125899906842624)) (Z0 q1 (Z0 q4 (Z0 q5 (Z0 (decide (wrap i64 (a+q2.amount)=a1)) (Z0 (decide (wrap i64 ((↑c:Int)+1)=(↑c1:Int))) q19 False) False) False) False) False) q20;
 Z0 (decide ((↑i:Int)<(↑n:Int))) (Z0 q1 (Z0 q2.own (Z0 (q3==s) q21 q20) (Z0 (wrap i64 (1-q3)==s) q21 q20)) False) (Z0 (decide (a=a)) (Z0 (decide ((↑c:Int)=(↑c:Int))) Z2 False) False)) (by kernel_rfl) ?_
 conv=>zeta
 try simp only [Zj]
 try simp only [Zl]
 try simp only [Zi]
 try simp only [Zm]
 try simp only [Zn]
 try simp only [Zh]
 try simp only [Int.toNat_natCast,Nat.zero_add,true_and,and_true,Nat.le_refl]
 refine ⟨fun hc'=> ?_,fun hc'=>hZ2 (by omega)⟩
 have hlt:i<n:=by omega
 rw [hx hlt]
 obtain ⟨s1,s2⟩:=hX
 have ha:=ha hlt
 have hc:=hc hlt
 have h1:=h1 hlt
 have hwr:i64.wrap ((i:Int)+1)=((i+1:Nat):Int):=by rw [w64 (by omega)];omega
 have hwf:i64.wrap (1-X.side)=1-X.side:=w64 (by omega)
 have hwa:i64.wrap (a+x.amount)=a+x.amount:=w64 (by omega)
 have hwc:i64.wrap ((c:Int)+1)=(c:Int)+1:=w64 (by omega)
 rw [hwr,hwf,hwa,hwc]
 unfold Z1O at h1
 refine ⟨by omega,fun ho=>⟨fun hq=>⟨fun hm=> ?_,fun hm=> ?_⟩,fun hq=> ?_⟩,fun ho=>⟨fun hq=>⟨fun hm=> ?_,fun hm=> ?_⟩,fun hq=> ?_⟩⟩
 all_goals rw [ho] at h1
 all_goals simp only [ZD] at h1
 all_goals try (have hq:¬X.side=s:=by simpa using hq)
 all_goals try (have hq:X.side=s:=by simpa using hq)
 all_goals try (have hq:¬1-X.side=s:=by simpa using hq)
 all_goals try (have hq:1-X.side=s:=by simpa using hq)
 all_goals first|simp only [hq,hm,true_and,false_and,and_true,and_false,if_true,if_false,not_false_iff] at h1|simp only [hq,true_and,false_and,if_true,if_false] at h1
 all_goals simp only [Prod.mk.injEq] at h1
 all_goals obtain ⟨e1,e2⟩:=h1
 all_goals repeat' apply And.intro
 all_goals first|omega|exact hZ1 hlt|rfl
def ZgR (X:Z8) (n:Nat):Prop:=X.L.length=n/\n<1000/\X3 X/\∀h∈X.L,0<=h.amount/\h.amount<=1125899906842624
noncomputable def ZkU (X:Z8) (s:Int) (n:Nat) (C:Prop) (E:Nat->St):Zg:=G0.withL 100 0 (goM 0 (ZgQ X s n 0 0 0) C (YJ 0 n 9 (fun i=>i<n) (fun i=>i=n) (fun _=>False) (fun _=>False) E E E))
theorem ZgS (X:Z8) (s:Int) (n:Nat):(ZkU X s n (ZgR X n) (fun i=>Ze7 (offD X.side s (X.L.take i)).1 (offD X.side s (X.L.take i)).2)).Ok:=by
 refine Zg.withGoM (N:=20) (S:=fun i=>ZgQ X s n i (offD X.side s (X.L.take i)).1 (offD X.side s (X.L.take i)).2) Zv (by kernel_rfl) fun hC=>⟨rfl,fun i hi _=> ?_⟩
 obtain ⟨h1,h2,h3,h4⟩:=hC
 have hlt:i<n->i<X.L.length:=fun h=>by omega
 obtain ⟨b1,b2⟩:=Z4T (side:=X.side) (s:=s) h4 i (by omega)
 refine Zn0 X s n i (X.L.getD i Zc) _ _ _ _ _ _ h2 h1 hi h3 (fun _=>rfl) (fun h=>⟨b1,h4 _ (ZM (hlt h))⟩) (fun h=>by omega) (fun h=> ?_) (fun h=>⟨h,h⟩) (fun h=>h)
 show offD X.side s (X.L.take (i+1))=_
 unfold offD
 rw [Q9 (Z1O X.side s) Zc (hlt h)]
theorem Zn1 (X:Z8) (s:Int) (n:Nat) (a:Int) (c:Nat) (C:Prop) (AF:Nat->Int) (CF:Nat->Nat) (hC:C) (hn:X.L.length=n) (ha:a=AF n) (hc:c=CF n):
  evF (ZkU X s n C fun i=>Ze7 (AF i) (CF i)) 20 100 [.agg (X.c (.vrows 70 n (Z6 X.L) n)),.int .i64 s] ⟨0,[]⟩ (Yo (fun v=>v=.tuple [.int .i64 a,.int .i64 c])):=by
 refine @Eq.mpr _ (let q1:=X.t;let q2:=q1.fund;let q3:=q1.index;let q4:=q1.cap;let q5:=q1.dust;let q6:=q1.fee;let q7:=q1.delay;let q8:=q1.k0;let q9:=q1.k1;let q10:=[X.a0,X.a1];let q11:=[X.i0,X.i1];let q12:=decide (n=n);let q13:=Z6 X.L;
 Z0 (decide (s=s)) (q2=q2/\Z0 (decide (q3=q3)) (Z0 (decide (q4=q4)) (Z0 (decide (q5=q5)) (Z0 (decide (q6=q6)) (Z0 (decide (q7=q7)) (q8=q8/\q9=q9/\Z0 (decide (X.side=X.side)) (Z0 (decide (X.res=X.res)) (q10=q10/\q11=q11/\Z0 q12 (q13=q13/\Z0 q12 (C/\∀(i:Nat),i<=n->(∀(j:Nat),j<i->(fun (i:Nat)=>i<n) j)->(i=n->AV.tuple [AV.int i64 (AF i),AV.int i64 ↑(CF i)]=AV.tuple [AV.int i64 a,AV.int i64 ↑c])/\(False->False)/\(False->False)) False) False) False) False) False) False) False) False) False) False) (by kernel_rfl) ?_
 conv=>zeta
 try simp only [Zj]
 try simp only [Zl]
 try simp only [Zi]
 try simp only [Zm]
 try simp only [Zn]
 try simp only [Zh]
 try simp only [Int.toNat_natCast,Nat.zero_add,true_and,and_true,Nat.le_refl]
 refine ⟨hC,fun i _ _=>⟨fun he=> ?_,fun h=>h,fun h=>h⟩⟩
 rw [he,ha,hc]
def Zbw (X:Z8):AV:=.agg (X.c (.vrows 70 X.L.length (Z6 X.L) X.L.length))
theorem Z03 {cs:List AV} {X:Z8} (h:LV cs X) {E:Env} {r:Value} (hc:Zk E (.agg cs) r):Zk E (Zbw X) r:=by
 cases hc with
 | agg cs vs hc=>exact .agg _ _ (Z9J h hc)
def ZkV:ZR:=fun args h K=>ZU none h true 20 args fun a=>match a with
 | [.agg cs,.int .i64 s]=>∃X,LV cs X/\ZgR X X.L.length/\K (.tuple [.int .i64 (offD X.side s X.L).1,.int .i64 (offD X.side s X.L).2])
 | _=>False
theorem Ze8 (args:List AV) (h:Za) (K:AV->Prop) (hl:ZkV args h K):Zp PP 100 args h fun o h'=>∃v,o=.ret v/\h'=h/\K v:=by
 refine ZC.psumm (d:=20) (Zu _ _ _ _ _ hl fun a ha=> ?_)
 split at ha
 ·rename_i cs s
  obtain ⟨X,hX,h1,hK⟩:=ha
  have hv:=Zn1 X s X.L.length (offD X.side s X.L).1 (offD X.side s X.L).2 (ZgR X X.L.length) (fun i=>(offD X.side s (X.L.take i)).1) (fun i=>(offD X.side s (X.L.take i)).2) h1 rfl (by rw [List.take_length]) (by rw [List.take_length])
  exact ⟨_,(ZC.evV (ZgS X s _) hv).conv fun E r hr=>hr.head (fun _ hc=>Z03 hX hc) fun _ hc=>hc,fun _=>rfl,hK⟩
 ·exact ha.elim
theorem Z1d {side s:Int}:∀(L:List Z7) (p:Int×Nat),(∀h∈L,0<=h.amount)->p.1+ZN side s L<=1125899906842624->L.foldl (Z1O side s) p=(p.1+ZN side s L,p.2+Yz side s L)
 | [],p,_,_=>by simp [ZN,Yz,ZP,Xe]
 | x::r,p,hA,hp=>by
  have hr:=Xx (side:=side) (s:=s) (G:=r) fun z hz=>hA z (by simp [hz])
  have hx:=hA x (by simp)
  rw [ZQ] at hp
  rw [List.foldl_cons,ZQ,Y9]
  unfold Qe at hp⊢
  unfold UH
  by_cases hf:ZD side x.own=s
  ·rw [if_pos hf] at hp⊢
   rw [if_pos hf]
   have e:Z1O side s p x=(p.1+x.amount,p.2+1):=by unfold Z1O;rw [if_pos ⟨hf,by omega⟩]
   rw [e,Z1d r _ (fun z hz=>hA z (by simp [hz])) (by dsimp only;omega)]
   simp only [Prod.mk.injEq];omega
  ·rw [if_neg hf] at hp⊢
   rw [if_neg hf]
   have e:Z1O side s p x=p:=by unfold Z1O;rw [if_neg (fun h=>hf h.1)]
   rw [e,Z1d r _ (fun z hz=>hA z (by simp [hz])) (by omega)]
   simp only [Prod.mk.injEq];omega
theorem Z8.Inv.offs {H:List Int->List Int} {X:Z8} (h:X.Inv H):ZN X.side 0 X.L<=1125899906842624/\ZN X.side 1 X.L<=1125899906842624:=by
 have o0:=h.ov0
 have tb:=Y0 h.tb
 have hr:=h.res
 have ha0:=h.a0
 have ha1:=h.a1
 rw [Xw,if_pos rfl,show X.am 0=X.a0 from rfl] at o0
 refine ⟨by omega, ?_⟩
 rcases h.ov1 with k|k
 ·rw [QY k];omega
 ·rw [Xw,if_neg (by decide),show X.am 1=X.a1 from rfl] at k
  omega
theorem Z8.Inv.offD {H:List Int->List Int} {X:Z8} (h:X.Inv H) {s:Int} (hs:s=0\/s=1):offD X.side s X.L=(ZN X.side s X.L,(ZP X.side s X.L).length):=by
 have ho:=h.offs
 unfold Go.Tk.offD
 rw [Z1d X.L (0,0) (fun z hz=>(h.am.am z hz).1) (by rcases hs with rfl|rfl<;>dsimp only<;>omega)]
 simp only [Int.zero_add,Nat.zero_add];rfl
theorem Z8.Inv.od {H:List Int->List Int} {X:Z8} (h:X.Inv H):ZgR X X.L.length:=⟨rfl,h.am.n,by have:=h.side;exact ⟨by omega,by omega⟩,h.am.am⟩
def Ze9:ZR:=fun args h K=>ZU none h true 20 args fun a=>match a with
 | [.agg cs,.int .i64 s]=>∃X,LV cs X/\X.Inv Zs/\(s=0\/s=1)/\K (.tuple [.int .i64 (ZN X.side s X.L),.int .i64 (ZP X.side s X.L).length])
 | _=>False
theorem Z7d (args:List AV) (h:Za) (K:AV->Prop) (hl:Ze9 args h K):Zp PP 100 args h fun o h'=>∃v,o=.ret v/\h'=h/\K v:=by
 refine Ze8 args h K (Zu _ _ _ _ _ hl fun a ha=> ?_)
 split at ha
 ·obtain ⟨X,hX,hI,hs,hK⟩:=ha
  refine ⟨X,hX,hI.od, ?_⟩
  rw [hI.offD hs];exact hK
 ·exact ha.elim
noncomputable def Zi1:Zg:=G0.withP 100 Ze9
theorem Zea:Zi1.Ok:=Zg.withP_ok Zv Z7d
theorem ZkW (X:Z8) (s r:Int) (hs:s=0\/s=1) (hI:X.Inv Zs) (hr:r=Yl X s):
  evF Zi1 20 101 [Zbw X,.int .i64 s] ⟨0,[]⟩ (Yo (fun v=>v=.int .i64 r)):=by
 refine @Eq.mpr _ (let q1:=X.t;let q2:=q1.fee;let q3:=[X.a0,X.a1];let q4:=List.length X.L;let q5:=0+Int.toNat s;
 ∃(X_1:Z8),
 let q11:=wrap i64 (wrap i64 (List.getD q3 q5 0-ZN X_1.side s X_1.L)-X.res);
 LV [AV.arr u8 32 q1.fund,AV.int i64 q1.index,AV.int i64 q1.cap,AV.int i64 q1.dust,AV.int i64 q2,AV.int i64 q1.delay,AV.arr u8 32 q1.k0,AV.arr u8 32 q1.k1,AV.int i64 X.side,AV.int i64 X.res,AV.arr i64 2 q3,AV.arr i64 2 [X.i0,X.i1],AV.vrows 70 q4 (Z6 X.L) q4] X_1/\Z8.Inv Zs X_1/\(s=0\/s=1)/\Z0 (decide (0<=s/\s<2)) (Z0 (decide (q5<2)) (Z0 (s==0) (AV.int i64 (wrap i64 (q11-q2))=AV.int i64 r) (AV.int i64 q11=AV.int i64 r)) False) False) (by kernel_rfl) ?_
 conv=>zeta
 try simp only [Zj]
 try simp only [Zl]
 try simp only [Zi]
 try simp only [Zm]
 try simp only [Zn]
 try simp only [Zh]
 try simp only [Int.toNat_natCast,Nat.zero_add,true_and,and_true,Nat.le_refl]
 have tb:=Y0 hI.tb
 have hres:=hI.res
 have ha0:=hI.a0
 have ha1:=hI.a1
 have ho:=hI.offs
 have n0:=Xx (side:=X.side) (s:=0) fun z hz=>(hI.am.am z hz).1
 have n1:=Xx (side:=X.side) (s:=1) fun z hz=>(hI.am.am z hz).1
 refine ⟨X,.a rfl,hI,hs,by omega,by omega,fun h=> ?_,fun h=> ?_⟩
 ·have h0:s=0:=by simpa using h
  subst h0
  rw [hr,Xw,if_pos rfl]
  show AV.int .i64 (i64.wrap (i64.wrap (i64.wrap (X.a0-_)-_)-_))=AV.int .i64 (X.a0-_-_-_)
  rw [w64 (x:=X.a0-ZN X.side 0 X.L) (by omega),w64 (x:=X.a0-ZN X.side 0 X.L-X.res) (by omega),w64 (by omega)]
 ·have h0:s=1:=by
   have:¬s=0:=by simpa using h
   omega
  subst h0
  rw [hr,Xw,if_neg (by decide)]
  show AV.int .i64 (i64.wrap (i64.wrap (X.a1-_)-_))=AV.int .i64 (X.a1-_-_-0)
  rw [w64 (x:=X.a1-ZN X.side 1 X.L) (by omega),w64 (by omega),Int.sub_zero]
def ZkX:ZR:=fun args h K=>ZU none h true 20 args fun a=>match a with
 | [.agg cs,.int .i64 s]=>∃X,LV cs X/\X.Inv Zs/\(s=0\/s=1)/\K (.int .i64 (Yl X s))
 | _=>False
theorem ZgT (args:List AV) (h:Za) (K:AV->Prop) (hl:ZkX args h K):Zp PP 101 args h fun o h'=>∃v,o=.ret v/\h'=h/\K v:=by
 refine ZC.psumm (d:=20) (Zu _ _ _ _ _ hl fun a ha=> ?_)
 split at ha
 ·obtain ⟨X,hX,hI,hs,hK⟩:=ha
  exact ⟨_,(ZC.evV Zea (ZkW X _ _ hs hI rfl)).conv fun E r hr=>hr.head (fun _ hc=>Z03 hX hc) fun _ hc=>hc,fun _=>rfl,hK⟩
 ·exact ha.elim
def ZgU (X:Z8) (own:Bool) (id:Int) (n i:Nat):St:=⟨34,[(7,.int .i64 i),(3,pt 0),(1,.bool own),(2,.int .i64 id)],⟨1,[(0,.flat (X.c (.vrows 70 n (Z6 X.L) n)))]⟩,[]⟩
def ZkY:St:=⟨34,[],⟨0,[]⟩,[]⟩
def ZgV (i:Nat):St:=⟨34,[(6,.int .i64 i)],⟨0,[]⟩,[]⟩
theorem ZkZ (X:Z8) (own:Bool) (id:Int) (n i:Nat) (Z1 Z2 Z3:Prop) (hn:n<1000) (hL:X.L.length=n) (hi:i<=n) (h1:i<n->¬isP own id (X.L.getD i Zc)->Z1) (h2:i=n->Z2) (h3:i<n->isP own id (X.L.getD i Zc)->Z3):
  ZG G0 20 144 0 0 (ZgU X own id n i) (rdM 0 0 9 (ZgU X own id n (i+1)) ZkY (ZgV i) (ZgV i) Z1 Z2 Z3 False):=by
 refine @Eq.mpr _ (let q1:=decide (0<=(↑i:Int)/\(↑i:Int)<(↑n:Int));let q2:=List.getD X.L (Int.toNat (↑i:Int)) Zc;let q3:=X.t;let q4:=q3.fund;let q5:=q3.index;let q6:=q3.cap;let q7:=q3.dust;let q8:=q3.fee;let q9:=q3.delay;let q10:=q3.k0;let q11:=q3.k1;let q12:=[X.a0,X.a1];let q13:=[X.i0,X.i1];let q14:=decide (n=n);let q15:=Z6 X.L;let q16:=Z0 (decide (wrap i64 ((↑i:Int)+1)=(↑(i+1):Int))) (Z0 (decide (own=own)) (Z0 (decide (id=id)) (q4=q4/\Z0 (decide (q5=q5)) (Z0 (decide (q6=q6)) (Z0 (decide (q7=q7)) (Z0 (decide (q8=q8)) (Z0 (decide (q9=q9)) (q10=q10/\q11=q11/\Z0 (decide (X.side=X.side)) (Z0 (decide (X.res=X.res)) (q12=q12/\q13=q13/\Z0 q14 (q15=q15/\Z0 q14 Z1 False) False) False) False) False) False) False) False) False) False) False) False;
 Z0 (decide ((↑i:Int)<(↑n:Int))) (Z0 q1 (Z0 (q2.own==own) (Z0 q1 (Z0 (q2.id==id) (Z0 (decide ((↑i:Int)=(↑i:Int))) Z3 False) q16) False) q16) False) Z2) (by kernel_rfl) ?_
 conv=>zeta
 try simp only [Zj]
 try simp only [Zl]
 try simp only [Zi]
 try simp only [Zm]
 try simp only [Zn]
 try simp only [Zh]
 try simp only [Int.toNat_natCast,Nat.zero_add,true_and,and_true,Nat.le_refl]
 refine ⟨fun hc=> ?_,fun hc=>h2 (by omega)⟩
 have hlt:i<n:=by omega
 have hwr:i64.wrap ((i:Int)+1)=((i+1:Nat):Int):=by rw [w64 (by omega)];omega
 refine ⟨by omega,fun ho=>⟨by omega,fun hd=> ?_,fun hd=> ?_⟩,fun ho=> ?_⟩
 ·exact h3 hlt ⟨by simpa using ho,by simpa using hd⟩
 ·exact ⟨hwr,h1 hlt fun h=>by rw [h.2] at hd;simp at hd⟩
 ·exact ⟨hwr,h1 hlt fun h=>by rw [h.1] at ho;simp at ho⟩
noncomputable def Zi2 (X:Z8) (own:Bool) (id:Int) (n:Nat) (C:Prop):Zg:=G0.withL 144 0 (goM 0 (ZgU X own id n 0) C (YJ 0 n 9 (fun i=>¬isP own id (X.L.getD i Zc)/\i<n) (fun i=>i=n) (fun i=>i<n/\isP own id (X.L.getD i Zc)) (fun _=>False) (fun _=>ZkY) (fun i=>ZgV i) (fun i=>ZgV i)))
theorem Zeb (X:Z8) (own:Bool) (id:Int) (n:Nat):(Zi2 X own id n (n<1000/\X.L.length=n)).Ok:=
 Zg.withGoM (N:=20) (S:=fun i=>ZgU X own id n i) Zv (by kernel_rfl) fun hC=>⟨rfl,fun i hi _=>ZkZ X own id n i _ _ _ hC.1 hC.2 hi (fun h h'=>⟨⟨h',h⟩,h⟩) (fun h=>h) (fun h h'=>⟨h,h'⟩)⟩
theorem Zl0 (X:Z8) (own:Bool) (id:Int) (n:Nat) (r:Int) (C:Prop) (hC:C) (hL:X.L.length=n) (hr:r=fiV own id X.L):
  evF (Zi2 X own id n C) 20 144 [.agg (X.c (.vrows 70 n (Z6 X.L) n)),.bool own,.int .i64 id] ⟨0,[]⟩ (Yo (fun v=>v=.int .i64 r)):=by
 refine @Eq.mpr _ (let q1:=X.t;let q2:=q1.fund;let q3:=q1.index;let q4:=q1.cap;let q5:=q1.dust;let q6:=q1.fee;let q7:=q1.delay;let q8:=q1.k0;let q9:=q1.k1;let q10:=[X.a0,X.a1];let q11:=[X.i0,X.i1];let q12:=decide (n=n);let q13:=X.L;let q14:=Z6 q13;
 Z0 (decide (own=own)) (Z0 (decide (id=id)) (q2=q2/\Z0 (decide (q3=q3)) (Z0 (decide (q4=q4)) (Z0 (decide (q5=q5)) (Z0 (decide (q6=q6)) (Z0 (decide (q7=q7)) (q8=q8/\q9=q9/\Z0 (decide (X.side=X.side)) (Z0 (decide (X.res=X.res)) (q10=q10/\q11=q11/\Z0 q12 (q14=q14/\Z0 q12 (C/\∀(i:Nat),i<=n->(∀(j:Nat),j<i->(fun (i:Nat)=>¬isP own id (List.getD q13 i Zc)/\i<n) j)->(i=n->AV.int i64 (-1)=AV.int i64 r)/\(i<n/\isP own id (List.getD q13 i Zc)->AV.int i64 ↑i=AV.int i64 r)/\(False->False)) False) False) False) False) False) False) False) False) False) False) False) (by kernel_rfl) ?_
 conv=>zeta
 try simp only [Zj]
 try simp only [Zl]
 try simp only [Zi]
 try simp only [Zm]
 try simp only [Zn]
 try simp only [Zh]
 try simp only [Int.toNat_natCast,Nat.zero_add,true_and,and_true,Nat.le_refl]
 refine ⟨hC,fun i hi hg=>⟨fun he=> ?_,fun hx=> ?_,fun h=>h.elim⟩⟩
 ·rw [hr]
  unfold fiV
  rw [Z3u fun j hj=>(hg j (by omega)).1,if_neg (by omega)]
 ·rw [hr]
  unfold fiV
  rw [Z3v (by omega) (fun j hj=>(hg j hj).1) hx.2,if_pos (by omega)]
def Zl1:ZR:=fun args h K=>ZU none h true 20 args fun a=>match a with
 | [.agg cs,.bool own,.int .i64 id]=>∃X,LV cs X/\X.L.length<1000/\K (.int .i64 (fiV own id X.L))
 | _=>False
theorem ZgW (args:List AV) (h:Za) (K:AV->Prop) (hl:Zl1 args h K):Zp PP 144 args h fun o h'=>∃v,o=.ret v/\h'=h/\K v:=by
 refine ZC.psumm (d:=20) (Zu _ _ _ _ _ hl fun a ha=> ?_)
 split at ha
 ·obtain ⟨X,hX,h1,hK⟩:=ha
  exact ⟨_,(ZC.evV (Zeb X _ _ _) (Zl0 X _ _ _ _ _ ⟨h1,rfl⟩ rfl rfl)).conv fun E r hr=>hr.head (fun _ hc=>Z03 hX hc) fun _ hc=>hc,fun _=>rfl,hK⟩
 ·exact ha.elim
end Go.Tk
end
section
namespace Go.Tk
open IntKind (i64 u8 u32 u64 wrap)
def Yv:Z8:=⟨⟨Zf,0,0,0,0,0,Zf,Zf⟩,0,0,0,0,0,0,[]⟩
def slH (b n:Nat):AV:=.nslice ⟨b,0,70,0,0⟩ 70 n n
def UJ (h:Z7) (p:List Z7×Bool) (x:Z7):List Z7×Bool:=if h.own=true/\x.own=false/\p.2=false then (p.1++[h]++[x],true) else (p.1++[x],p.2)
def Z7e (h:Z7) (p:List Z7×Bool):List Z7:=if p.2=true then p.1 else p.1++[h]
theorem Z7f (h:Z7):∀(L O:List Z7),L.foldl (UJ h) (O,true)=(O++L,true)
 | [],O=>by simp
 | x::r,O=>by
  rw [List.foldl_cons]
  have:UJ h (O,true) x=(O++[x],true):=by simp [UJ]
  rw [this,Z7f h r];simp
theorem Z4U (h:Z7):∀(L O:List Z7),Z7e h (L.foldl (UJ h) (O,false))=O++Xu h L
 | [],O=>by simp [Z7e,Xu]
 | x::r,O=>by
  rw [List.foldl_cons]
  unfold Xu
  by_cases hc:h.own=true/\x.own=false
  ·rw [if_pos hc]
   have:UJ h (O,false) x=(O++[h]++[x],true):=by unfold UJ;rw [if_pos ⟨hc.1,hc.2,rfl⟩]
   rw [this,Z7f]
   simp [Z7e]
  ·rw [if_neg hc]
   have:UJ h (O,false) x=(O++[x],false):=by unfold UJ;rw [if_neg (fun q=>hc ⟨q.1,q.2.1⟩)]
   rw [this,Z4U h r];simp
theorem Z5S (h:Z7):∀(L:List Z7) (p:List Z7×Bool),(L.foldl (UJ h) p).1.length<=p.1.length+2*L.length
 | [],p=>by simp
 | x::r,p=>by
  rw [List.foldl_cons,List.length_cons]
  have:=Z5S h r (UJ h p x)
  have h2:(UJ h p x).1.length<=p.1.length+2:=by unfold UJ;split<;>simp
  omega
def plI (own:Bool):Int:=match own with
 | true=>0
 | false=>1
theorem Zn2 (own:Bool) (r:Int) (hr:r=plI own):
  evF G0 20 103 [.bool own] ⟨0,[]⟩ (Yo (fun v=>v=.int .i64 r)):=by
 refine @Eq.mpr _ (Z0 own (AV.int i64 0=AV.int i64 r) (AV.int i64 1=AV.int i64 r)) (by kernel_rfl) ?_
 subst hr
 cases own<;>exact rfl
def plS:ZR:=fun args _ K=>match args with
 | [.bool own]=>K (.int .i64 (plI own))
 | _=>False
theorem Zjp (args:List AV) (h:Za) (K:AV->Prop) (hl:plS args h K):Zp PP 103 args h fun o h'=>∃v,o=.ret v/\h'=h/\K v:=by
 unfold plS at hl
 split at hl
 ·exact Y7 Zv rfl (Zn2 _ _ rfl) (fun u hu=>hu▸hl)
 ·exact hl.elim
theorem Zn3 (X:Z8) (own:Bool) (r:Int) (hX:X3 X) (hr:r=ZD X.side own):
  evF G0 20 104 [Zbw X,.bool own] ⟨0,[]⟩ (Yo (fun v=>v=.int .i64 r)):=by
 refine @Eq.mpr _ (Z0 own (AV.int i64 X.side=AV.int i64 r) (AV.int i64 (wrap i64 (1-X.side))=AV.int i64 r)) (by kernel_rfl) ?_
 subst hr
 obtain ⟨s1,s2⟩:=hX
 rw [w64 (by omega)]
 cases own<;>exact rfl
def sdS:ZR:=fun args h K=>ZU none h true 20 args fun a=>match a with
 | [.agg cs,.bool own]=>∃X,LV cs X/\X3 X/\K (.int .i64 (ZD X.side own))
 | _=>False
theorem Z8Q (args:List AV) (h:Za) (K:AV->Prop) (hl:sdS args h K):Zp PP 104 args h fun o h'=>∃v,o=.ret v/\h'=h/\K v:=by
 refine ZC.psumm (d:=20) (Zu _ _ _ _ _ hl fun a ha=> ?_)
 split at ha
 ·obtain ⟨X,hX,hs,hK⟩:=ha
  exact ⟨_,(ZC.evV Zv (Zn3 X _ _ hs rfl)).conv fun E r hr=>hr.head (fun _ hc=>Z03 hX hc) fun _ hc=>hc,fun _=>rfl,hK⟩
 ·exact ha.elim
theorem Zl2 (h:Z7) (z:Int) (b:Bool) (hz:z=0) (hb:b=Yp h):
  evF G0 20 102 [.agg [.int .i64 z,.int .i64 h.id,.int .i64 h.amount,.arr .u8 32 h.hash,.int .i64 h.expiry]] ⟨0,[]⟩ (Yo (fun v=>v=.bool b)):=by
 refine @Eq.mpr _ (let q1:=h.amount;let q2:=AV.bool false=AV.bool b;let q3:=Z0 (decide (h.id>=0)) (Z0 (decide (h.id<=2147483647)) (Z0 (decide (q1>0)) (Z0 (decide (q1>=0)) (Z0 (decide (q1<=1125899906842624)) (Z0 (decide (h.expiry>=1)) (AV.bool (decide (h.expiry<=2147483647))=AV.bool b) q2) q2) q2) q2) q2) q2;
 Z0 (z==0) q3 (Z0 (z==1) q3 q2)) (by kernel_rfl) ?_
 conv=>zeta
 subst hz hb
 unfold Yp
 simp only [VJ]
 congr 1
 by_cases h1:0<=h.id<;>by_cases h2:h.id<=2147483647<;>by_cases h3:1<=h.amount<;>by_cases h4:h.amount<=1125899906842624<;>by_cases h5:1<=h.expiry<;>by_cases h6:h.expiry<=2147483647<;>simp [h1,h2,h3,h4,h5,h6]<;>omega
def Zjq:ZR:=fun args _ K=>match args with
 | [.agg [.int .i64 z,.int .i64 id,.int .i64 am,.arr .u8 32 ha,.int .i64 ex]]=>Zx (z=0) (K (.bool (Yp ⟨false,id,am,ha,ex,0,0,[]⟩)))
 | _=>False
theorem ZgX (args:List AV) (h:Za) (K:AV->Prop) (hl:Zjq args h K):Zp PP 102 args h fun o h'=>∃v,o=.ret v/\h'=h/\K v:=by
 unfold Zjq at hl
 split at hl
 ·obtain ⟨h1,hK⟩:=Ze hl
  exact Y7 Zv rfl (Zl2 ⟨false,_,_,_,_,0,0,[]⟩ _ _ h1 rfl) (fun u hu=>hu▸hK)
 ·exact hl.elim
noncomputable def Zjr:Zg:=((((G0.withP 101 ZkX).withP 100 Ze9).withP 103 plS).withP 104 sdS).withP 102 Zjq
theorem Za0:Zjr.Ok:=Zg.withP_ok (Zg.withP_ok (Zg.withP_ok (Zg.withP_ok (Zg.withP_ok Zv ZgT) Z7d) Zjp) Z8Q) ZgX
def Z1P (X:Z8) (h:Z7) (own:Bool) (n i:Nat) (d:Bool) (O:List Z7):St:=⟨111,[(20,.int .i64 i),(6,pt 1),(1,.bool own),(19,.bool d),(18,slH 4 O.length),(14,pt 3),(12,pt 2)],⟨5,[(0,.rows 70 n (Z6 X.L)),(1,.flat (X.c (slH 0 n))),(2,.flat (Yv.c .nilslice)),(3,.flat h.c),(4,.rows 70 O.length (Z6 O))]⟩,[]⟩
theorem Zl3 (X:Z8) (h:Z7) (own:Bool) (n i:Nat) (x:Z7) (d d1:Bool) (O O1:List Z7) (Z1 Z2:Prop) (hn:n<1000) (hL:X.L.length=n) (hi:i<=n) (hx:i<n->X.L.getD i Zc=x) (hO:O.length<5000) (ho:h.own=own) (h1:i<n->(O1,d1)=UJ h (O,d) x) (hZ1:i<n->Z1) (hZ2:i=n->Z2):
  ZG Zjr 20 49 0 1 (Z1P X h own n i d O) (rdM 1 0 9 (Z1P X h own n (i+1) d1 O1) (Z1P X h own n i d O) (Z1P X h own n i d O) (Z1P X h own n i d O) Z1 Z2 False False):=by
 refine @Eq.mpr _ (let q1:=decide (0<=(↑i:Int)/\(↑i:Int)<(↑n:Int));let q2:=0+Int.toNat (↑i:Int);let q3:=List.getD X.L q2 Zc;let q4:=q3.own;let q5:=List.length O;let q6:=decide (q5=q5);let q7:=q5+1;let q8:=decide (q7*112<=140737488355328);let q9:=q7+1;let q10:=decide (wrap i64 ((↑i:Int)+1)=(↑(i+1):Int));let q11:=decide (own=own);let q12:=List.length O1;let q13:=decide (q9=q12);let q14:=decide (n=n);let q15:=[(1,1)];let q16:=(2,2)::(3,3)::(4,8)::q15;let q17:=Z6 X.L;let q18:=X.t;let q19:=q18.fund;let q20:=q19=q19;let q21:=q18.index;let q22:=decide (q21=q21);let q23:=q18.cap;let q24:=decide (q23=q23);let q25:=q18.dust;let q26:=decide (q25=q25);let q27:=q18.fee;let q28:=decide (q27=q27);let q29:=q18.delay;let q30:=decide (q29=q29);let q31:=q18.k0;let q32:=q31=q31;let q33:=q18.k1;let q34:=q33=q33;let q35:=decide (X.side=X.side);let q36:=decide (X.res=X.res);let q37:=[X.a0,X.a1];let q38:=q37=q37;let q39:=[X.i0,X.i1];let q40:=q39=q39;let q41:=decide (n<=n);let q42:=Yv.t;let q43:=q42.fund;let q44:=q43=q43;let q45:=q42.k0;let q46:=q45=q45;let q47:=q42.k1;let q48:=q47=q47;let q49:=[Yv.a0,Yv.a1];let q50:=q49=q49;let q51:=[Yv.i0,Yv.i1];let q52:=q51=q51;let q53:=h.own;let q54:=decide (q53=q53);let q55:=h.id;let q56:=decide (q55=q55);let q57:=h.amount;let q58:=decide (q57=q57);let q59:=h.hash;let q60:=q59=q59;let q61:=h.expiry;let q62:=decide (q61=q61);let q63:=h.stage;let q64:=decide (q63=q63);let q65:=h.fin;let q66:=decide (q65=q65);let q67:=h.secret;let q68:=q67=q67;let q69:=Z6 O;let q70:=YQ [AV.bool q4,AV.int i64 q3.id,AV.int i64 q3.amount,AV.arr u8 32 q3.hash,AV.int i64 q3.expiry,AV.int i64 q3.stage,AV.int i64 q3.fin,AV.arr u8 32 q3.secret] 0 70;let q71:=decide (q7=q12);let q72:=(2,2)::(3,3)::(4,6)::q15;let q73:=Z0 q6 (Z0 q8 (Z0 q10 (Z0 q11 (Z0 (decide (d=d1)) (Z0 q71 (Z0 (decide (q12<=q7)) (Z0 q14 (Zb 1 q72 n q17 q17/\q20/\Z0 q22 (Z0 q24 (Z0 q26 (Z0 q28 (Z0 q30 (q32/\q34/\Z0 q35 (Z0 q36 (q38/\q40/\Z0 q14 (Z0 q41 (q44/\q46/\q48/\q50/\q52/\Z0 q54 (Z0 q56 (Z0 q58 (q60/\Z0 q62 (Z0 q64 (Z0 q66 (q68/\Z0 q71 (Zb 1 q72 q12 (Z6 O1) (Y2 q5 q69 q70)/\Z1) False) False) False) False) False) False) False) False) False) False) False) False) False) False) False) False) False) False) False) False) False) False) False) False;let q74:=(2,2)::(3,3)::(4,4)::q15;
 Z0 (decide ((↑i:Int)<(↑n:Int)))
 (Z0 own
 (Z0 q1
 (Z0 (decide (q2<n))
 (Z0 (!q4)
 (Z0 (!d) (Z0 q6 (Z0 q8 (Z0 q1 (Z0 (decide (q2<n)) (Z0 (decide (q7=q7)) (Z0 (decide (q9*112<=140737488355328)) (Z0 q10 (Z0 q11 (Z0 (decide (true=d1)) (Z0 q13 (Z0 (decide (q12<=q9)) (Z0 q14 (Zb 1 q16 n q17 q17/\q20/\Z0 q22 (Z0 q24 (Z0 q26 (Z0 q28 (Z0 q30 (q32/\q34/\Z0 q35 (Z0 q36 (q38/\q40/\Z0 q14 (Z0 q41 (q44/\q46/\q48/\q50/\q52/\Z0 q54 (Z0 q56 (Z0 q58 (q60/\Z0 q62 (Z0 q64 (Z0 q66 (q68/\Z0 q13 (Zb 1 q16 q12 (Z6 O1) (Y2 q7 (Y2 q5 q69 (YQ [AV.bool q53,AV.int i64 q55,AV.int i64 q57,AV.arr u8 32 q59,AV.int i64 q61,AV.int i64 q63,AV.int i64 q65,AV.arr u8 32 q67] 0 70)) q70)/\Z1) False) False) False) False) False) False) False) False) False) False) False) False) False) False) False) False) False) False) False) False) False) False) False) False) False) False) False) False) (Z0 q1 (Z0 (decide (q2<n)) q73 False) False))
 (Z0 q1 (Z0 (decide (q2<n)) q73 False) False))
 False)
 False)
 (Z0 q1 (Z0 (decide (q2<n)) q73 False) False))
 (Z0 (decide ((↑i:Int)=(↑i:Int))) (Z0 q11 (Z0 (decide (d=d)) (Z0 q6 (Z0 (decide (q5<=q5)) (Z0 q14 (Zb 1 q74 n q17 q17/\q20/\Z0 q22 (Z0 q24 (Z0 q26 (Z0 q28 (Z0 q30 (q32/\q34/\Z0 q35 (Z0 q36 (q38/\q40/\Z0 q14 (Z0 q41 (q44/\q46/\q48/\q50/\q52/\Z0 q54 (Z0 q56 (Z0 q58 (q60/\Z0 q62 (Z0 q64 (Z0 q66 (q68/\Z0 q6 (Zb 1 q74 q5 q69 q69/\Z2) False) False) False) False) False) False) False) False) False) False) False) False) False) False) False) False) False) False) False) False) False) False)) (by kernel_rfl) ?_
 conv=>zeta
 try simp only [Zj]
 try simp only [Zl]
 try simp only [Zi]
 try simp only [Zm]
 try simp only [Zn]
 try simp only [Zh]
 try simp only [Int.toNat_natCast,Nat.zero_add,true_and,and_true,Nat.le_refl]
 refine ⟨fun hc=> ?_,fun hc=> ?_⟩
 ·have hlt:i<n:=by omega
  rw [hx hlt]
  have h1:=h1 hlt
  have hwr:i64.wrap ((i:Int)+1)=((i+1:Nat):Int):=by rw [w64 (by omega)];omega
  rw [hwr]
  have hR:∀τ k (Q:List Z7),Zb 1 τ k (Z6 Q) (Z6 Q):=fun τ k Q=>Zo fun _ _=>rfl
  have hC:∀τ (Q:List Z7) (y:Z7),Zb 1 τ (Q++[y]).length (Z6 (Q++[y])) (Y2 Q.length (Z6 Q) (YQ y.c 0 70)):=fun τ Q y=>Zo fun j hj=>Yt rfl (fun _ _=>rfl) (by simpa using hj)
  have hD:∀τ (Q:List Z7) (y z:Z7),Zb 1 τ (Q++[y]++[z]).length (Z6 (Q++[y]++[z])) (Y2 (Q.length+1) (Y2 Q.length (Z6 Q) (YQ y.c 0 70)) (YQ z.c 0 70)):=fun τ Q y z=>Zo fun j hj=>Yt (O:=Q++[y]) (by simp) (fun k hk=>Yt rfl (fun _ _=>rfl) hk) (by simpa using hj)
  have no:¬(h.own=true/\x.own=false/\d=false)->O1=O++[x]/\d1=d:=fun q=>by
   unfold UJ at h1
   rw [if_neg q] at h1
   simp only [Prod.mk.injEq] at h1;exact h1
  refine ⟨fun ho1=>⟨by omega,hlt,fun hx1=>⟨fun hd=> ?_,fun hd=> ?_⟩,fun hx1=> ?_⟩,fun ho1=> ?_⟩
  ·have e:h.own=true/\x.own=false/\d=false:=⟨by rw [ho,ho1],by simpa using hx1,by simpa using hd⟩
   unfold UJ at h1
   rw [if_pos e] at h1
   simp only [Prod.mk.injEq] at h1
   obtain ⟨e1,e2⟩:=h1
   subst e1 e2
   repeat' apply And.intro
   all_goals first|omega|rfl|exact hZ1 hlt|exact hD _ _ _ _|exact hR _ _ _|(simp;done)
  ·obtain ⟨e1,e2⟩:=no (fun q=>by rw [q.2.2] at hd;cases hd)
   subst e1 e2
   repeat' apply And.intro
   all_goals first|omega|rfl|exact hZ1 hlt|exact hC _ _ _|exact hR _ _ _|(simp;done)
  ·obtain ⟨e1,e2⟩:=no (fun q=>by rw [q.2.1] at hx1;cases hx1)
   subst e1 e2
   repeat' apply And.intro
   all_goals first|omega|rfl|exact hZ1 hlt|exact hC _ _ _|exact hR _ _ _|(simp;done)
  ·obtain ⟨e1,e2⟩:=no (fun q=>by rw [ho,ho1] at q;cases q.1)
   subst e1 e2
   repeat' apply And.intro
   all_goals first|omega|rfl|exact hZ1 hlt|exact hC _ _ _|exact hR _ _ _|(simp;done)
 ·repeat' apply And.intro
  all_goals first|omega|rfl|exact hZ2 (by omega)|exact Zo fun _ _=>rfl
def Z0y (X:Z8) (h:Z7) (i:Nat):List Z7×Bool:=(X.L.take i).foldl (UJ h) ([],false)
noncomputable def Za1 (X:Z8) (h:Z7) (own:Bool) (n:Nat) (C:Prop) (E:Nat->St):Zg:=Zjr.withL 49 0 (goM 1 (Z1P X h own n 0 false []) C (YJ 0 n 9 (fun i=>i<n) (fun i=>i=n) (fun _=>False) (fun _=>False) E E E))
theorem Zec (X:Z8) (h:Z7) (own:Bool) (n:Nat):(Za1 X h own n (n<1000/\X.L.length=n/\h.own=own) (fun i=>Z1P X h own n i (Z0y X h i).2 (Z0y X h i).1)).Ok:=by
 refine Zg.withGoM (N:=20) (S:=fun i=>Z1P X h own n i (Z0y X h i).2 (Z0y X h i).1) Za0 (by kernel_rfl) fun hC=>⟨rfl,fun i hi _=> ?_⟩
 obtain ⟨h1,h2,h3⟩:=hC
 have hl:=Z5S h (X.L.take i) ([],false)
 have l0:(X.L.take i).length<=i:=by rw [List.length_take];omega
 have l1:(Z0y X h i).1.length<=2*i:=by unfold Z0y;simp only [List.length_nil] at hl;omega
 refine Zl3 X h own n i (X.L.getD i Zc) _ _ _ _ _ _ h1 h2 hi (fun _=>rfl) (by omega) h3 (fun q=> ?_) (fun q=>⟨q,q⟩) (fun q=>q)
 show Z0y X h (i+1)=_
 unfold Z0y
 rw [Q9 (UJ h) Zc (by omega)]
theorem Z7g (X:Z8) (own:Bool) (id am ex:Int) (hash:List Int):Yp ⟨false,id,am,hash,ex,0,0,[]⟩=Yp (Xf X own id am hash ex):=rfl
theorem Zi3 (X:Z8) (own:Bool):[X.i0,X.i1].getD (plI own).toNat 0=X.nx own:=by cases own<;>rfl
theorem Zed (own:Bool):0<=plI own/\plI own<2:=by cases own<;>exact ⟨by decide,by decide⟩
theorem Zl4 (X:Z8) (own:Bool) (n:Nat) (id am ex e:Int) (hash:List Int) (C:Prop) (hL:X.L.length=n) (hI:X.Inv Zs) (he:e=XH X own id am hash ex) (hne:e≠0):
  evF (Za1 X Zc own n C fun i=>Z1P X Zc own n i false []) 20 49 [.agg (X.c (slH 0 n)),.bool own,.int .i64 id,.int .i64 am,.agg [.arr .u8 32 hash],.int .i64 ex] ⟨1,[(0,.rows 70 n (Z6 X.L))]⟩ (Y5 1 (.ret (.tuple [.agg (X.c (slH 0 n)),.int .i64 e])) 1 [(0,.rows 70 n (Z6 X.L))]):=by
 refine @Eq.mpr _ (let q1:=X.t;let q2:=q1.fund;let q3:=q2=q2;let q4:=q1.index;let q5:=decide (q4=q4);let q6:=q1.cap;let q7:=decide (q6=q6);let q8:=q1.dust;let q9:=decide (q8=q8);let q10:=q1.fee;let q11:=decide (q10=q10);let q12:=q1.delay;let q13:=decide (q12=q12);let q14:=q1.k0;let q15:=q14=q14;let q16:=q1.k1;let q17:=q16=q16;let q18:=X.side;let q19:=decide (q18=q18);let q20:=X.res;let q21:=decide (q20=q20);let q22:=[X.a0,X.a1];let q23:=q22=q22;let q24:=[X.i0,X.i1];let q25:=q24=q24;let q26:=decide (n=n);let q27:=decide (n<=n);let q28:=Z6 X.L;let q29:=Z0 q26 (Zb 1 [] n q28 q28/\True) False;let q30:=0+Int.toNat (plI own);let q31:=decide (0+n<=n);let q32:=Yv.t;let q33:=[(0:Int),0];
 Z0 (!Yp (Z7.mk false id am hash ex 0 0 [])) (q3/\Z0 q5 (Z0 q7 (Z0 q9 (Z0 q11 (Z0 q13 (q15/\q17/\Z0 q19 (Z0 q21 (q23/\q25/\Z0 q26 (Z0 q27 (Z0 (decide (2=e)) q29 False) False) False) False) False) False) False) False) False) False)
 (Z0 (decide (0<=plI own/\plI own<2))
 (Z0 (decide (q30<2))
 (Z0 (id !=List.getD q24 q30 0) (q3/\Z0 q5 (Z0 q7 (Z0 q9 (Z0 q11 (Z0 q13 (q15/\q17/\Z0 q19 (Z0 q21 (q23/\q25/\Z0 q26 (Z0 q27 (Z0 (decide (200=e)) q29 False) False) False) False) False) False) False) False) False) False)
 (Z0 q31
 ((∀(i:Nat),i<n->true=true)/\
 ∃(X:Z8),
 let q67:=[AV.arr u8 32 q2,AV.int i64 q4,AV.int i64 q6,AV.int i64 q8,AV.int i64 q10,AV.int i64 q12,AV.arr u8 32 q14,AV.arr u8 32 q16,AV.int i64 q18,AV.int i64 q20,AV.arr i64 2 q22,AV.arr i64 2 q24,AV.vrows 70 n (ZT 0 q28) n];let q68:=X.side;let q69:=ZD q68 own;let q70:=q69=0\/q69=1;
 LV q67 X/\
 (0<=q68/\q68<=1)/\
 Z0 q31
 ((∀(i:Nat),i<n->true=true)/\
 ∃(X:Z8),
 LV q67 X/\
 Z8.Inv Zs X/\
 q70/\
 Z0 (decide ((↑(List.length (ZP X.side q69 X.L)):Int)>=8)) (q3/\Z0 q5 (Z0 q7 (Z0 q9 (Z0 q11 (Z0 q13 (q15/\q17/\Z0 q19 (Z0 q21 (q23/\q25/\Z0 q26 (Z0 q27 (Z0 (decide (201=e)) q29 False) False) False) False) False) False) False) False) False) False)
 (Z0 q31 ((∀(i:Nat),i<n->true=true)/\∃(X:Z8),LV q67 X/\Z8.Inv Zs X/\q70/\Z0 (decide (Yl X q69<am)) (q3/\Z0 q5 (Z0 q7 (Z0 q9 (Z0 q11 (Z0 q13 (q15/\q17/\Z0 q19 (Z0 q21 (q23/\q25/\Z0 q26 (Z0 q27 (Z0 (decide (202=e)) q29 False) False) False) False) False) False) False) False) False) False) (Z0 (decide (own=own)) (Z0 q26 (Zb 1 [(2,3),(3,4),(1,1)] n q28 q28/\q3/\Z0 q5 (Z0 q7 (Z0 q9 (Z0 q11 (Z0 q13 (q15/\q17/\Z0 q19 (Z0 q21 (q23/\q25/\Z0 q26 (Z0 q27 (Zf=q32.fund/\Zf=q32.k0/\Zf=q32.k1/\q33=[Yv.a0,Yv.a1]/\q33=[Yv.i0,Yv.i1]/\Z0 (decide (own=Zc.own)) (Z0 (decide (id=Zc.id)) (Z0 (decide (am=Zc.amount)) (hash=Zc.hash/\Z0 (decide (ex=Zc.expiry)) False False) False) False) False) False) False) False) False) False) False) False) False) False) False) False)) False))
 False)
 False))
 False)
 False)) (by kernel_rfl) ?_
 conv=>zeta
 try simp only [Zj]
 try simp only [Zl]
 try simp only [Zi]
 try simp only [Zm]
 try simp only [Zn]
 try simp only [Zh]
 try simp only [Int.toNat_natCast,Nat.zero_add,true_and,and_true,Nat.le_refl]
 have hs:=hI.side
 have hs01:0<=X.side/\X.side<=1:=by omega
 have hR:Zb 1 [] n (Z6 X.L) (Z6 X.L):=Zo fun _ _=>rfl
 rw [Z7g X own id am ex hash,Zi3]
 subst hL
 unfold XH at he
 refine ⟨fun k=>⟨?_,hR⟩,fun k1=>⟨Zed own,by have:=Zed own;omega,fun k=>⟨?_,hR⟩,fun k2=>⟨fun _ _=>trivial,X,.a rfl,hs01,fun _ _=>trivial,X,.a rfl,hI,Z4O hs own,fun k=>⟨?_,hR⟩,fun k3=>⟨fun _ _=>trivial,X,.a rfl,hI,Z4O hs own,fun k=>⟨?_,hR⟩,fun k4=> ?_⟩⟩⟩⟩
 ·rw [he,if_pos (by simpa using k)]
 ·rw [he,if_neg (by simpa using k1),if_pos (by simpa using k)]
 ·rw [he,if_neg (by simpa using k1),if_neg (by simpa using k2),if_pos (by omega)]
 ·rw [he,if_neg (by simpa using k1),if_neg (by simpa using k2),if_neg (by omega),if_pos k]
 ·exact absurd (by rw [he,if_neg (by simpa using k1),if_neg (by simpa using k2),if_neg (by omega),if_neg k4]) hne
theorem ZgY {X:Z8} (own:Bool) (h:(0<=X.i0/\X.i0<=2147483648)/\0<=X.i1/\X.i1<=2147483648):[X.i0,X.i1].set (plI own).toNat (i64.wrap (X.nx own+1))=[(XI X own 1).i0,(XI X own 1).i1]:=by
 cases own
 ·show [X.i0,i64.wrap (X.i1+1)]=[X.i0,X.i1+1]
  rw [w64 (by omega)]
 ·show [i64.wrap (X.i0+1),X.i1]=[X.i0+1,X.i1]
  rw [w64 (by omega)]
theorem Zee (X:Z8) (own:Bool) (d:Int):(XI X own d).t=X.t/\(XI X own d).side=X.side/\(XI X own d).res=X.res/\(XI X own d).a0=X.a0/\(XI X own d).a1=X.a1:=by cases own<;>exact ⟨rfl,rfl,rfl,rfl,rfl⟩
theorem Zl5 (X X':Z8) (h:Z7) (own:Bool) (n l:Nat) (id am ex:Int) (hash:List Int) (C:Prop) (DF:Nat->Bool) (OF:Nat->List Z7) (hC:C) (hL:X.L.length=n) (hI:X.Inv Zs) (he:XH X own id am hash ex=0) (hh:h=Xf X own id am hash ex) (hX':X'={ XI X own 1 with L:=Z7e h (OF n,DF n)}) (hl:l=X'.L.length) (hb:(OF n).length<1000):
  evF (Za1 X h own n C fun i=>Z1P X h own n i (DF i) (OF i)) 20 49 [.agg (X.c (slH 0 n)),.bool own,.int .i64 id,.int .i64 am,.agg [.arr .u8 32 hash],.int .i64 ex] ⟨1,[(0,.rows 70 n (Z6 X.L))]⟩ (Y5 1 (.ret (.tuple [.agg (X'.c (slH 1 l)),.int .i64 0])) 2 [(0,.rows 70 n (Z6 X.L)),(1,.rows 70 l (Z6 X'.L))]):=by
 refine @Eq.mpr _ (let q1:=decide (0<=plI own/\plI own<2);let q2:=0+Int.toNat (plI own);let q3:=[X.i0,X.i1];let q4:=List.getD q3 q2 0;let q5:=decide (0+n<=n);let q6:=X.t;let q7:=q6.fund;let q8:=q6.index;let q9:=q6.cap;let q10:=q6.dust;let q11:=q6.fee;let q12:=q6.delay;let q13:=q6.k0;let q14:=q6.k1;let q15:=X.side;let q16:=X.res;let q17:=[X.a0,X.a1];let q18:=Z6 X.L;let q19:=decide (n=n);let q20:=Yv.t;let q21:=[(0:Int),0];let q22:=decide (q2<2);let q23:=decide (i64=i64/\q2<2/\q2<2);let q24:=X'.t;let q25:=q7=q24.fund;let q26:=decide (q8=q24.index);let q27:=decide (q9=q24.cap);let q28:=decide (q10=q24.dust);let q29:=decide (q11=q24.fee);let q30:=decide (q12=q24.delay);let q31:=q13=q24.k0;let q32:=q14=q24.k1;let q33:=decide (q15=X'.side);let q34:=decide (q16=X'.res);let q35:=q17=[X'.a0,X'.a1];let q36:=List.set q3 q2 (wrap i64 (q4+1))=[X'.i0,X'.i1];let q37:=[(1,6)];let q38:=Z6 X'.L;let q39:=[(1,4)];
 Z0 (!Yp (Z7.mk false id am hash ex 0 0 [])) False
 (Z0 q1
 (Z0 (decide (q2<2))
 (Z0 (id !=q4) False
 (Z0 q5
 ((∀(i:Nat),i<n->true=true)/\
 ∃(X_1:Z8),
 let q79:=[AV.arr u8 32 q7,AV.int i64 q8,AV.int i64 q9,AV.int i64 q10,AV.int i64 q11,AV.int i64 q12,AV.arr u8 32 q13,AV.arr u8 32 q14,AV.int i64 q15,AV.int i64 q16,AV.arr i64 2 q17,AV.arr i64 2 q3,AV.vrows 70 n (ZT 0 q18) n];let q80:=X_1.side;let q81:=ZD q80 own;let q82:=q81=0\/q81=1;
 LV q79 X_1/\
 (0<=q80/\q80<=1)/\
 Z0 q5
 ((∀(i:Nat),i<n->true=true)/\
 ∃(X_2:Z8),
 LV q79 X_2/\
 Z8.Inv Zs X_2/\
 q82/\
 Z0 (decide ((↑(List.length (ZP X_2.side q81 X_2.L)):Int)>=8)) False
 (Z0 q5
 ((∀(i:Nat),i<n->true=true)/\
 ∃(X_3:Z8),
 LV q79 X_3/\
 Z8.Inv Zs X_3/\
 q82/\
 Z0 (decide (Yl X_3 q81<am)) False
 (Z0 (decide (own=own))
 (Z0 q19
 (Zb 1 [(2,3),(3,4),(1,1)] n q18 q18/\
 q7=q7/\
 Z0 (decide (q8=q8))
 (Z0 (decide (q9=q9))
 (Z0 (decide (q10=q10))
 (Z0 (decide (q11=q11))
 (Z0 (decide (q12=q12))
 (q13=q13/\
 q14=q14/\
 Z0 (decide (q15=q15))
 (Z0 (decide (q16=q16))
 (q17=q17/\
 q3=q3/\
 Z0 q19
 (Z0 (decide (n<=n))
 (Zf=q20.fund/\
 Zf=q20.k0/\
 Zf=q20.k1/\
 q21=[Yv.a0,Yv.a1]/\
 q21=[Yv.i0,Yv.i1]/\
 Z0 (decide (own=h.own))
 (Z0 (decide (id=h.id))
 (Z0 (decide (am=h.amount))
 (hash=h.hash/\
 Z0 (decide (ex=h.expiry))
 (Z0 (decide (1=h.stage))
 (Z0 (decide (0=h.fin))
 (Zf=h.secret/\
 C/\
 ∀(i:Nat),
 let q87:=List.length (OF i);let q88:=q87+1;let q89:=decide (q88=l);let q90:=decide (q87=l);
 i<=n->
 (∀(j:Nat),j<i->(fun (i:Nat)=>i<n) j)->
 (i=n->
 Z0 (!DF i) (Z0 (decide (q87=q87)) (Z0 (decide (q88*112<=140737488355328)) (Z0 q1 (Z0 q22 (Z0 q1 (Z0 q23 (q25/\Z0 q26 (Z0 q27 (Z0 q28 (Z0 q29 (Z0 q30 (q31/\q32/\Z0 q33 (Z0 q34 (q35/\q36/\Z0 q89 (Z0 (decide (l<=q88)) (Z0 q19 (Zb 1 q37 n q18 q18/\Z0 q89 (Zb 1 q37 l q38 (Y2 q87 (Z6 (OF i)) (YQ [AV.bool h.own,AV.int i64 h.id,AV.int i64 h.amount,AV.arr u8 32 h.hash,AV.int i64 h.expiry,AV.int i64 h.stage,AV.int i64 h.fin,AV.arr u8 32 h.secret] 0 70))/\True) False) False) False) False) False) False) False) False) False) False) False) False) False) False) False) False) False)
 (Z0 q1 (Z0 q22 (Z0 q1 (Z0 q23 (q25/\Z0 q26 (Z0 q27 (Z0 q28 (Z0 q29 (Z0 q30 (q31/\q32/\Z0 q33 (Z0 q34 (q35/\q36/\Z0 q90 (Z0 (decide (l<=q87)) (Z0 q19 (Zb 1 q39 n q18 q18/\Z0 q90 (Zb 1 q39 l q38 (Z6 (OF i))/\True) False) False) False) False) False) False) False) False) False) False) False) False) False) False) False))/\
 (False->False)/\(False->False))
 False)
 False)
 False)
 False)
 False)
 False)
 False)
 False)
 False)
 False)
 False)
 False)
 False)
 False)
 False)
 False)
 False))
 False))
 False)
 False))
 False)
 False)) (by kernel_rfl) ?_
 conv=>zeta
 try simp only [Zj]
 try simp only [Zl]
 try simp only [Zi]
 try simp only [Zm]
 try simp only [Zn]
 try simp only [Zh]
 try simp only [Int.toNat_natCast,Nat.zero_add,true_and,and_true,Nat.le_refl]
 have hs:=hI.side
 have hs01:0<=X.side/\X.side<=1:=by omega
 have hR:∀τ k (Q:List Z7),Zb 1 τ k (Z6 Q) (Z6 Q):=fun τ k Q=>Zo fun _ _=>rfl
 have hC2:∀τ (Q:List Z7) (y:Z7),Zb 1 τ (Q++[y]).length (Z6 (Q++[y])) (Y2 Q.length (Z6 Q) (YQ y.c 0 70)):=fun τ Q y=>Zo fun j hj=>Yt rfl (fun _ _=>rfl) (by simpa using hj)
 rw [Z7g X own id am ex hash,Zi3,ZgY own ⟨hI.i0,hI.i1⟩]
 obtain ⟨k1,k2,k3,k4⟩:=Z19 he
 have hp:=Zed own
 have hp2:(plI own).toNat<2:=by omega
 obtain ⟨c1,c2,c3,c4,c5⟩:=Zee X own 1
 subst hL
 refine ⟨by simp [k1],hp,hp2,by simp [k2],fun _ _=>trivial,X,.a rfl,hs01,fun _ _=>trivial,X,.a rfl,hI,Z4O hs own,by omega,fun _ _=>trivial,X,.a rfl,hI,Z4O hs own,by omega,hR _ _ _,rfl,rfl,rfl,rfl,rfl, ?_⟩
 have hf:∀d:Bool,X'.L=Z7e h (OF X.L.length,DF X.L.length):=fun _=>by rw [hX']
 have e:X'.t=X.t/\X'.side=X.side/\X'.res=X.res/\X'.a0=X.a0/\X'.a1=X.a1/\X'.i0=(XI X own 1).i0/\X'.i1=(XI X own 1).i1:=by rw [hX'];exact ⟨c1,c2,c3,c4,c5,rfl,rfl⟩
 obtain ⟨e1,e2,e3,e4,e5,e6,e7⟩:=e
 rw [e1,e2,e3,e4,e5,e6,e7]
 have hf:=hf true
 refine ⟨by rw [hh];rfl,by rw [hh];rfl,by rw [hh];rfl,by rw [hh];rfl,by rw [hh];rfl,by rw [hh];rfl,by rw [hh];rfl,by rw [hh];rfl,hC,fun i hi _=>⟨fun hi=> ?_,fun h=>h.elim,fun h=>h.elim⟩⟩
 subst hi
 refine ⟨fun hd=> ?_,fun hd=> ?_⟩
 ·have hd:DF X.L.length=false:=by simpa using hd
  have hq:X'.L=OF X.L.length++[h]:=by rw [hf];unfold Z7e;rw [hd];rfl
  rw [hq] at hl⊢
  subst hl
  repeat' apply And.intro
  all_goals first|omega|rfl|exact hR _ _ _|exact hC2 _ _ _|(simp;done)|skip
 ·have hd:DF X.L.length=true:=by simpa using hd
  have hq:X'.L=OF X.L.length:=by rw [hf];unfold Z7e;rw [hd];rfl
  rw [hq] at hl⊢
  subst hl
  repeat' apply And.intro
  all_goals first|omega|rfl|exact hR _ _ _|(simp;done)|skip
structure LD (cs:List AV) (n:Nat) (f:Nat->List AV) (X:Z8):Prop where
 h1:cs=X.c (slH 0 n)
 h2:f=Z6 X.L
 h3:n=X.L.length
def Zef (H:List Int->List Int) (c:Bool):Yf:=fun args h K=>match args with
 | [.agg [_,_,_,_,_,_,_,_,_,_,_,_,.nslice ⟨b,0,70,0,0⟩ 70 _ _],_,_,_,_,_]=>frA [b] h 20 args fun Bs a=>match Bs,a with
  | [.rows 70 n f],[.agg cs,.bool own,.int .i64 id,.int .i64 am,.agg [.arr .u8 32 hash],.int .i64 ex]=>
   ∃X,LD cs n f X/\X.Inv H/\(match c with
    | true=>XH X own id am hash ex=0/\K (.ret (.tuple [.agg ((addX X own id am hash ex).c (slH h.next (X.L.length+1))),.int .i64 0])) ⟨h.next+1,(b,.rows 70 X.L.length (Z6 X.L))::(h.next,.rows 70 (X.L.length+1) (Z6 (addX X own id am hash ex).L))::Yc h.bs b⟩
    | false=>XH X own id am hash ex≠0/\K (.ret (.tuple [.agg (X.c (slH b X.L.length)),.int .i64 (XH X own id am hash ex)])) ⟨h.next,(b,.rows 70 X.L.length (Z6 X.L))::Yc h.bs b⟩)
  | _,_=>False
 | _=>False
theorem Zeg (c:Bool) (args:List AV) (h:Za) (K:KO) (hl:Zef Zs c args h K):Zp PP 49 args h K:=by
 unfold Zef at hl
 split at hl
 ·refine Spec.fsumm hl fun Bs a hlen hK0=> ?_
  split at hK0
  ·rename_i cs n f own id am hash ex
   obtain ⟨X,⟨rfl,rfl,rfl⟩,hI,hK⟩:=hK0
   cases c with
   | true=>
    obtain ⟨he,hK1⟩:=hK
    have hq:=Z5S (Xf X own id am hash ex) X.L ([],false)
    have hlen:=hI.len
    have e:addX X own id am hash ex={ XI X own 1 with L:=Z7e (Xf X own id am hash ex) ((Z0y X (Xf X own id am hash ex) X.L.length).1,(Z0y X (Xf X own id am hash ex) X.L.length).2)}:=by
     have h0:=Z4U (Xf X own id am hash ex) X.L []
     unfold addX Z0y
     rw [if_pos he,List.take_length]
     rw [List.nil_append] at h0
     rw [<-h0]
    have hl2:X.L.length+1=(addX X own id am hash ex).L.length:=by
     unfold addX
     rw [if_pos he]
     exact (Z3s _ _).symm
    have hv:=Zl5 X (addX X own id am hash ex) (Xf X own id am hash ex) own X.L.length (X.L.length+1) id am ex hash _ (fun i=>(Z0y X (Xf X own id am hash ex) i).2) (fun i=>(Z0y X (Xf X own id am hash ex) i).1) (show X.L.length<1000/\X.L.length=X.L.length/\(Xf X own id am hash ex).own=own from ⟨hI.am.n,rfl,rfl⟩) rfl hI he rfl e hl2 (by unfold Z0y;rw [List.take_length];simp only [List.length_nil] at hq;omega)
    exact ⟨_,_,_,_,_,.evM (Zec X _ own _) hv,by simp,.ret _ _ rfl,.cons _ _ _ _ _ _ rfl (.rows _ _ _ (fun _ _=>rfl)) (.cons _ _ _ _ _ _ rfl (.rows _ _ _ (fun _ _=>rfl)) .nil),hK1⟩
   | false=>
    obtain ⟨he,hK2⟩:=hK
    have hC:(Za1 X Zc own X.L.length False fun i=>Z1P X Zc own X.L.length i false []).Ok:=Zg.withGoM (N:=20) (S:=fun i=>Z1P X Zc own X.L.length i false []) Za0 (by kernel_rfl) fun h=>h.elim
    exact ⟨_,_,_,_,_,.evM hC (Zl4 X own _ id am ex _ hash False rfl hI rfl he),by simp,.ret _ _ rfl,.cons _ _ _ _ _ _ rfl (.rows _ _ _ (fun _ _=>rfl)) .nil,hK2⟩
  ·exact hK0.elim
 ·exact hl.elim
end Go.Tk
end
section
namespace Go.Tk
open IntKind (i64 u8 u32 u64 wrap)
def Z0z (F:List Int->Int×Int) (xs:List Int):Option (Z8×Int×Nat):=
 (rdH xs 0).bind fun a=>(r5 F xs a.2).bind fun b=>(rdH xs b.2).bind fun c=>(rdH xs c.2).bind fun d=>(rdN F xs d.2 1).bind fun e=>(r5 F xs e.2).bind fun f=>(rdN F xs f.2 16).bind fun g=>
 some (⟨⟨a.1,b.1.a,b.1.b,b.1.c,b.1.d,b.1.e,c.1,d.1⟩,e.1,f.1.a,f.1.b,f.1.c,f.1.d,f.1.e,[]⟩,g.1,g.2)
def Xp (F:List Int->Int×Int) (xs:List Int):Option Z8:=
 (Z0z F xs).bind fun h=>(rdL F xs h.2.2 h.2.1.toNat).bind fun l=>if l.2=xs.length then some { h.1 with L:=l.1} else none
theorem Z3H {xs:List Int} (h:∀x∈xs,0<=x/\x<=255):Bytes xs:=⟨fun i=>by
 rw [List.getD_eq_getElem?_getD]
 rcases Nat.lt_or_ge i xs.length with q|q
 ·rw [List.getElem?_eq_getElem q];exact h _ (List.getElem_mem q)
 ·rw [List.getElem?_eq_none q];exact ⟨by decide,by decide⟩⟩
theorem Bytes.take {xs:List Int} (h:Bytes xs) (n:Nat):Bytes (xs.take n):=Z3H fun x hx=>by
 obtain ⟨i,hi,rfl⟩:=List.getElem_of_mem (List.mem_of_mem_take hx)
 have:=h.h i
 rwa [List.getD_eq_getElem?_getD,List.getElem?_eq_getElem hi] at this
theorem Z3I {xs hh:List Int} {o p:Nat} (hb:Bytes xs) (h:rdH xs o=some (hh,p)):hh.length=32/\Bytes hh:=by
 unfold rdH at h
 split at h
 ·cases h
  exact ⟨by rw [List.length_take,List.length_drop];omega,(hb.drop o).take 32⟩
 ·cases h
theorem Zjs {xs:List Int} {o p:Nat} {x:Z7} (hb:Bytes xs) (h:Wr (Zq Zr) xs o=some (x,p)):x.Ok:=by
 unfold Wr at h
 simp only [Option.bind_eq_some_iff] at h
 obtain ⟨a,h1,b,h2,c,h3,d,h4,e,h5,f,h6,g,h7,s,h8,h9⟩:=h
 have k4:=Z3I hb h4
 have k8:s.1.length=32/\Bytes s.1:=by
  unfold Z6V at h8
  split at h8
  ·exact Z3I hb h8
  ·cases h8;exact ⟨rfl,W4⟩
 cases h9
 exact ⟨k4.1,k4.2,k8.1,k8.2⟩
theorem Zeh {xs:List Int} {o:Nat} (hb:Bytes xs):∀{n:Nat} {L:List Z7} {p:Nat},rdL (Zq Zr) xs o n=some (L,p)->∀x∈L,x.Ok
 | 0,L,p,h,x,hx=>by cases h;cases hx
 | n+1,L,p,h,x,hx=>by
  unfold rdL at h
  simp only [Option.bind_eq_some_iff] at h
  obtain ⟨a,h1,b,h2,h3⟩:=h
  cases h3
  rcases List.mem_append.1 hx with hx|hx
  ·exact Zeh hb h1 x hx
  ·rw [List.mem_singleton] at hx;subst hx;exact Zjs hb h2
def Zei (ok:Bool) (X:Z8) (n:Nat):KO:=fun o h=>match o with
 | .ret (.tuple [.ptr none,.int .i64 _])=>Z0 ok False (Y5 0 (.ret (.tuple [.ptr none,.int .i64 204])) 0 [] o h)
 | .ret (.tuple [.ptr (some _),.int .i64 _])=>Z0 ok (Y5 0 (.ret (.tuple [.ptr (some ⟨0,0,0,0,0⟩),.int .i64 0])) 2 [(0,.flat (X.c (slH 1 n))),(1,.rows 70 n (Z6 X.L))] o h) False
 | _=>False
theorem Zjt (F:List Int->Int×Int) (H:List Int->List Int) (xs:List Int) (N:Nat) (X:Z8) (n:Nat) (ok:Bool) (hN:xs.length=N) (hB:N<90000000000000) (hb:Bytes xs) (hn:X.L.length=n) (hF:F=Zq Zr) (hok:ok=true->Xp F xs=some X/\Yb H X=true) (hno:ok=false->∀Y,Xp F xs=some Y->Yb H Y=false):
  evF (ZkA F H) 20 14 [.vints .u8 xs N] ⟨0,[]⟩ (Zei ok X n):=by
 refine @Eq.mpr _ (let q1:=List.length xs;let q2:=[(0:Int),0];let q3:=Z0 ok False True;let q4:=X.t;
 Z0 (decide (q1=N/\N<90000000000000))
 (Z0 (decide (N=q1-0/\0<=q1/\N=q1-0))
 ((∀(hh:List Int) (o':Nat),
 rdH xs 0=some (hh,o')->
 0<=o'/\o'<=q1/\List.length hh=32->
 ∃(X_1:Z8),
 let q9:=X_1.t;
 ∃(xs_1:List Int),
 let q11:=List.length xs_1;
 ∃(o:Nat),
 xs=xs_1/\
 Z0 (decide (o'=o))
 (Z0 (decide (q1-o'=q11-o))
 (Z0 (decide (q11-o<=q1-o'))
 (hh=q9.fund/\
 Z0 (decide (0=q9.index))
 (Z0 (decide (0=q9.cap))
 (Z0 (decide (0=q9.dust))
 (Z0 (decide (0=q9.fee))
 (Z0 (decide (0=q9.delay))
 (Zf=q9.k0/\
 Zf=q9.k1/\
 Z0 (decide (0=X_1.side))
 (Z0 (decide (0=X_1.res))
 (q2=[X_1.a0,X_1.a1]/\
 q2=[X_1.i0,X_1.i1]/\
 o<=q11/\
 (∀(n_1:N5),
 let q13:=ZdC X_1 n_1;let q14:=q13.t;
 ∀(q:Nat),
 r5 F xs_1 o=some (n_1,q)->
 q<=q11->
 Z0 (decide (q11-q=q11-q/\q<=q11/\q11-q=q11-q))
 ((∀(hh:List Int) (o':Nat),
 rdH xs_1 q=some (hh,o')->
 q<=o'/\o'<=q11/\List.length hh=32->
 Z0 (decide (q11-o'=q11-o'/\o'<=q11/\q11-o'=q11-o'))
 ((∀(hh_1:List Int) (o'_1:Nat),
 let q17:=rdN F xs_1 o'_1 1;
 rdH xs_1 o'=some (hh_1,o'_1)->
 o'<=o'_1/\o'_1<=q11/\List.length hh_1=32->
 Z0 (decide (q11-o'_1=q11-o'_1/\o'_1<=q11/\q11-o'_1=q11-o'_1/\(0:Int)<=1))
 ((∀(v:Int) (o':Nat),
 q17=some (v,o')->
 o'_1<=o'/\o'<=q11/\v<=1->
 ∃(X_2:Z8),
 let q19:=X_2.t;
 ∃(xs:List Int),
 let q21:=List.length xs;
 ∃(o:Nat),
 xs_1=xs/\
 Z0 (decide (o'=o))
 (Z0 (decide (q11-o'=q21-o))
 (Z0 (decide (q21-o<=q11-o'))
 (q14.fund=q19.fund/\
 Z0 (decide (q14.index=q19.index))
 (Z0 (decide (q14.cap=q19.cap))
 (Z0 (decide (q14.dust=q19.dust))
 (Z0 (decide (q14.fee=q19.fee))
 (Z0 (decide (q14.delay=q19.delay))
 (hh=q19.k0/\
 hh_1=q19.k1/\
 Z0 (decide (v=X_2.side))
 (Z0 (decide (q13.res=X_2.res))
 ([q13.a0,q13.a1]=[X_2.a0,X_2.a1]/\
 [q13.i0,q13.i1]=[X_2.i0,X_2.i1]/\
 o<=q21/\
 (∀(n_2:N5),
 let q23:=ZdD X_2 n_2;let q24:=q23.t;
 ∀(q:Nat),
 let q27:=rdN F xs q 16;
 r5 F xs o=some (n_2,q)->
 q<=q21->
 Z0 (decide (q21-q=q21-q/\q<=q21/\q21-q=q21-q/\(0:Int)<=16))
 ((∀(v:Int) (o':Nat),
 q27=some (v,o')->
 q<=o'/\o'<=q21/\v<=16->
 ∃(X_3:Z8),
 let q29:=X_3.t;let q30:=q29.fund;let q31:=q29.index;let q32:=q29.cap;let q33:=q29.dust;let q34:=q29.fee;let q35:=q29.delay;let q36:=q29.k0;let q37:=q29.k1;let q38:=X_3.side;let q39:=X_3.res;let q40:=[X_3.a0,X_3.a1];let q41:=[X_3.i0,X_3.i1];
 ∃(xs_2:List Int),
 let q55:=List.length xs_2;
 ∃(cnt:Int),
 ∃(o:Nat),
 Z0 (decide (v=cnt))
 (xs=xs_2/\
 Z0 (decide (o'=o))
 (Z0 (decide (q21-o'=q55-o))
 (Z0 (decide (q55-o<=q21-o'))
 (q24.fund=q30/\
 Z0 (decide (q24.index=q31))
 (Z0 (decide (q24.cap=q32))
 (Z0 (decide (q24.dust=q33))
 (Z0 (decide (q24.fee=q34))
 (Z0 (decide (q24.delay=q35))
 (q24.k0=q36/\
 q24.k1=q37/\
 Z0 (decide (q23.side=q38))
 (Z0 (decide (q23.res=q39))
 ([q23.a0,q23.a1]=q40/\
 [q23.i0,q23.i1]=q41/\
 o<=q55/\
 cnt<=16/\
 (∀(n_3:Nat),
 let q57:=decide (n_3=n);
 ∀(L:List Z7) (p:Nat),
 let q59:=q55-p;
 n_3=Int.toNat cnt->
 rdL F xs_2 o n_3=some (L,p)->
 (List.length L=n_3/\p<=q55/\n_3<=16/\∀(x:Z7),x∈L->List.length x.hash=32/\List.length x.secret=32)->
 Z0 (decide (q59=q59))
 (Z0 (decide (q59=0))
 (Z0 (decide (0+n_3<=n_3))
 ((∀(i:Nat),i<n_3->true=true)/\
 ∃(X_4:Z8),LV [AV.arr u8 32 q30,AV.int i64 q31,AV.int i64 q32,AV.int i64 q33,AV.int i64 q34,AV.int i64 q35,AV.arr u8 32 q36,AV.arr u8 32 q37,AV.int i64 q38,AV.int i64 q39,AV.arr i64 2 q40,AV.arr i64 2 q41,AV.vrows 70 n_3 (ZT 0 (Z6 L)) n_3] X_4/\ZV.Ok X_4.t/\(∀(h:Z7),List.Mem h X_4.L->Z7.Ok h)/\List.length X_4.L<1000/\Z0 (!Yb H X_4) q3 (Z0 ok (q30=q4.fund/\Z0 (decide (q31=q4.index)) (Z0 (decide (q32=q4.cap)) (Z0 (decide (q33=q4.dust)) (Z0 (decide (q34=q4.fee)) (Z0 (decide (q35=q4.delay)) (q36=q4.k0/\q37=q4.k1/\Z0 (decide (q38=X.side)) (Z0 (decide (q39=X.res)) (q40=[X.a0,X.a1]/\q41=[X.i0,X.i1]/\Z0 q57 (Z0 (decide (n<=n_3)) (Z0 q57 (Zb 0 [(1,6),(0,5)] n (Z6 X.L) (Z6 L)/\True) False) False) False) False) False) False) False) False) False) False) False))
 False)
 q3)
 False)/\
 (rdL F xs_2 o (Int.toNat cnt)=none->q3))
 False)
 False)
 False)
 False)
 False)
 False)
 False)
 False)
 False)
 False)
 False)/\
 (q27=none->q3))
 False)/\
 (r5 F xs o=none->q3))
 False)
 False)
 False)
 False)
 False)
 False)
 False)
 False)
 False)
 False)/\
 (q17=none->q3))
 False)/\
 (rdH xs_1 o'=none->q3))
 False)/\
 (rdH xs_1 q=none->q3))
 False)/\
 (r5 F xs_1 o=none->q3))
 False)
 False)
 False)
 False)
 False)
 False)
 False)
 False)
 False)
 False)/\
 (rdH xs 0=none->q3))
 False)
 False) (by kernel_rfl) ?_
 conv=>zeta
 try simp only [Zj]
 try simp only [Zl]
 try simp only [Zi]
 try simp only [Zm]
 try simp only [Zn]
 try simp only [Zh]
 try simp only [Int.toNat_natCast,Nat.zero_add,true_and,and_true,Nat.le_refl]
 have bad:Xp F xs=none->ok=false:=fun h=>Bool.eq_false_iff.2 fun e=>by rw [(hok e).1] at h;cases h
 subst hN
 refine ⟨⟨rfl,hB⟩,⟨by omega,by omega,by omega⟩,fun hh o1 h1 b1=> ?_,fun h1=>bad (by simp [Xp,Z0z,h1])⟩
 refine ⟨⟨⟨hh,0,0,0,0,0,Zf,Zf⟩,0,0,0,0,0,0,[]⟩,xs,o1,rfl,rfl,rfl,Nat.le_refl _,rfl,rfl,rfl,rfl,rfl,rfl,rfl,rfl,rfl,rfl,rfl,rfl,b1.2.1,fun n5 q h2 b2=> ?_,fun h2=>bad (by simp [Xp,Z0z,h1,h2])⟩
 refine ⟨b2,fun k0 o2 h3 b3=> ?_,fun h3=>bad (by simp [Xp,Z0z,h1,h2,h3])⟩
 refine ⟨b3.2.1,fun k1 o3 h4 b4=> ?_,fun h4=>bad (by simp [Xp,Z0z,h1,h2,h3,h4])⟩
 refine ⟨⟨b4.2.1,by omega⟩,fun sd o4 h5 b5=> ?_,fun h5=>bad (by simp [Xp,Z0z,h1,h2,h3,h4,h5])⟩
 refine ⟨⟨⟨hh,n5.a,n5.b,n5.c,n5.d,n5.e,k0,k1⟩,sd,0,0,0,0,0,[]⟩,xs,o4,rfl,rfl,rfl,Nat.le_refl _,rfl,rfl,rfl,rfl,rfl,rfl,rfl,rfl,rfl,rfl,rfl,rfl,b5.2.1,fun m5 q2 h6 b6=> ?_,fun h6=>bad (by simp [Xp,Z0z,h1,h2,h3,h4,h5,h6])⟩
 refine ⟨⟨b6,by omega⟩,fun cnt o5 h7 b7=> ?_,fun h7=>bad (by simp [Xp,Z0z,h1,h2,h3,h4,h5,h6,h7])⟩
 refine ⟨⟨⟨hh,n5.a,n5.b,n5.c,n5.d,n5.e,k0,k1⟩,sd,m5.a,m5.b,m5.c,m5.d,m5.e,[]⟩,xs,cnt,o5,rfl,rfl,rfl,rfl,Nat.le_refl _,rfl,rfl,rfl,rfl,rfl,rfl,rfl,rfl,rfl,rfl,rfl,rfl,b7.2.1,b7.2.2,fun n3 L p en h8 b8=> ?_,fun h8=>bad (by simp [Xp,Z0z,h1,h2,h3,h4,h5,h6,h7,h8])⟩
 subst en
 refine ⟨fun hp=> ?_,fun hp=>bad ?_⟩
 rotate_left
 ·have:¬p=xs.length:=by omega
  simp [Xp,Z0z,h1,h2,h3,h4,h5,h6,h7,h8,this]
 have hp:p=xs.length:=by omega
 have hr:Xp F xs=some ⟨⟨hh,n5.a,n5.b,n5.c,n5.d,n5.e,k0,k1⟩,sd,m5.a,m5.b,m5.c,m5.d,m5.e,L⟩:=by simp [Xp,Z0z,h1,h2,h3,h4,h5,h6,h7,h8,hp]
 subst hF
 have q0:=Z3I hb h3
 have q1:=Z3I hb h4
 refine ⟨fun _ _=>trivial,⟨⟨hh,n5.a,n5.b,n5.c,n5.d,n5.e,k0,k1⟩,sd,m5.a,m5.b,m5.c,m5.d,m5.e,L⟩,.a (by rw [<-b8.1];rfl),⟨q0.1,q1.1,q0.2,q1.2⟩,Zeh hb h8,(show L.length<1000 by omega),fun hR=> ?_,fun hR=> ?_⟩
 ·refine Bool.eq_false_iff.2 fun e=> ?_
  obtain ⟨e1,e2⟩:=hok e
  rw [hr] at e1
  cases e1
  rw [e2] at hR
  cases hR
 ·have e:ok=true:=by
   cases h:ok with
   | true=>rfl
   | false=>
    rw [hno h _ hr] at hR
    cases hR
  obtain ⟨e1,e2⟩:=hok e
  rw [hr] at e1
  cases e1
  subst hn
  repeat' first
   | exact e
   | exact b8.1.symm
   | exact Nat.le_of_eq b8.1
   | apply And.intro
   | rfl
   | exact Zo fun _ _=>rfl
   | omega
theorem Zej {X:Z8} {n:Nat} {o:Out} {h:Za} (hk:Zei true X n o h):Y5 0 (.ret (.tuple [.ptr (some ⟨0,0,0,0,0⟩),.int .i64 0])) 2 [(0,.flat (X.c (slH 1 n))),(1,.rows 70 n (Z6 X.L))] o h:=by
 unfold Zei at hk
 split at hk
 ·exact hk.elim
 ·exact hk
 ·exact hk.elim
theorem Zju {X:Z8} {n:Nat} {o:Out} {h:Za} (hk:Zei false X n o h):Y5 0 (.ret (.tuple [.ptr none,.int .i64 204])) 0 [] o h:=by
 unfold Zei at hk
 split at hk
 ·exact hk
 ·exact hk.elim
 ·exact hk.elim
structure Z0A (F:List Int->Int×Int) (H:List Int->List Int) (xs:List Int) (R:Option Z8):Prop where
 h:match R with
  | some X=>Xp F xs=some X/\Yb H X=true
  | none=>∀X,Xp F xs=some X->Yb H X=false
def Zek (F:List Int->Int×Int) (H:List Int->List Int) (R:Option Z8):Yf:=fun args h K=>frA [] h 20 args fun Bs a=>match Bs,a with
 | [],[.vints .u8 xs N]=>(xs.length=N/\N<90000000000000/\Bytes xs)/\Z0A F H xs R/\(match R with
  | some X=>K (.ret (.tuple [.ptr (some ⟨h.next,0,0,0,0⟩),.int .i64 0])) ⟨h.next+2,(h.next,.flat (X.c (slH (h.next+1) X.L.length)))::(h.next+1,.rows 70 X.L.length (Z6 X.L))::h.bs⟩
  | none=>K (.ret (.tuple [.ptr none,.int .i64 204])) h)
 | _,_=>False
theorem Zel {R:Option Z8} (args:List AV) (h:Za) (K:KO) (hl:Zek (Zq Zr) Zs R args h K):Zp PP 14 args h K:=by
 unfold Zek at hl
 refine Spec.fsumm hl fun Bs a hlen hK0=> ?_
 split at hK0
 ·obtain ⟨⟨h1,h2,h3⟩,⟨hR⟩,hK⟩:=hK0
  rename_i xs N
  cases R with
  | some X=>exact ⟨_,_,_,_,_,Spec.evK Z5N (Zjt _ Zs xs N X X.L.length true h1 h2 h3 rfl rfl (fun _=>hR) (fun h=>by cases h)) (fun o' h' hk=>Zej hk),Nat.zero_le _,.ret _ _ rfl,.cons _ _ _ _ _ _ rfl (.flat _ _ rfl) (.cons _ _ _ _ _ _ rfl (.rows _ _ _ (fun _ _=>rfl)) .nil),hK⟩
  | none=>exact ⟨_,_,_,_,_,Spec.evK Z5N (Zjt _ Zs xs N ⟨⟨[],0,0,0,0,0,[],[]⟩,0,0,0,0,0,0,[]⟩ 0 false h1 h2 h3 rfl rfl (fun h=>by cases h) (fun _=>hR)) (fun o' h' hk=>Zju hk),Nat.zero_le _,.ret _ _ rfl,.nil,hK⟩
 ·exact hK0.elim
end Go.Tk
end
section
namespace Go.Tk
open IntKind (i64 u8 u32 u64 wrap)
theorem Zjv (x:Int):u8.wrap x=x%256:=by
 have h:=ZfO x
 unfold wrap at*
 simp only [IntKind.signed,IntKind.bits] at*
 first|rfl|omega|simp
theorem X4 {n:Int} {k:Nat} (hk:k<=56):b8 n k=(n/2^k)%256:=by
 unfold b8 Zz
 have e:(2:Int)^(min ((k:Int)).toNat (IntKind.bits .i64))=2^k:=by
  have:min ((k:Int)).toNat (IntKind.bits .i64)=k:=by
   rw [Int.toNat_natCast]
   show min k 64=k
   omega
  rw [this]
 rw [e,Int.fdiv_eq_ediv_of_nonneg _ (Int.le_of_lt (Int.pow_pos (by decide)))]
 exact Zjv _
theorem Z7h {n:Int} {ys:List Int} (h0:0<=n) (h1:n<=4611686018427387904) (hb:Bytes (Zr n++ys)):Zq Zr (Zr n++ys)=(n,((Zr n).length:Int)):=by
 by_cases c1:n<253
 ·have e:=Z1q c1
  have ew:u8.wrap n=n:=by rw [Zjv];omega
  rw [e,ew] at hb⊢
  have hm:Xn (([n]++ys).getD 0 0)=0:=ZcS (by show ¬n=253;omega) (by show ¬n=254;omega) (by show ¬n=255;omega)
  rw [VZ (by simp) hm]
  have:i64.wrap (([n]++ys).getD 0 0)=n:=w64 (x:=n) (by omega)
  rw [this];rfl
 by_cases c2:n<65536
 ·have e:=Z4w c1 c2
  have hl:=(congrArg List.length e)
  rw [e] at hb⊢
  have hm:Xn (([253,b8 n 8,b8 n 0]++ys).getD 0 0)=2:=Z6C rfl
  have hv:Uz 2 ([253,b8 n 8,b8 n 0]++ys) 1 0=n:=by
   show 256*(256*0+b8 n 8)+b8 n 0=n
   rw [show b8 n 8=(n/2^8)%256 from X4 (k:=8) (by decide),show b8 n 0=(n/2^0)%256 from X4 (k:=0) (by decide)]
   omega
  rw [WF hb (by simp) hm (by decide) (by decide) (by simp),hv,if_neg (by omega),if_pos (by rw [hl];rfl)]
  rfl
 by_cases c3:n<4294967296
 ·have e:=Z4x c1 c2 c3
  have hl:=(congrArg List.length e)
  rw [e] at hb⊢
  have hm:Xn (([254,b8 n 24,b8 n 16,b8 n 8,b8 n 0]++ys).getD 0 0)=4:=Z6D (by show ¬(254:Int)=253;decide) rfl
  have hv:Uz 4 ([254,b8 n 24,b8 n 16,b8 n 8,b8 n 0]++ys) 1 0=n:=by
   show 256*(256*(256*(256*0+b8 n 24)+b8 n 16)+b8 n 8)+b8 n 0=n
   rw [show b8 n 24=(n/2^24)%256 from X4 (k:=24) (by decide),show b8 n 16=(n/2^16)%256 from X4 (k:=16) (by decide),show b8 n 8=(n/2^8)%256 from X4 (k:=8) (by decide),show b8 n 0=(n/2^0)%256 from X4 (k:=0) (by decide)]
   omega
  rw [WF hb (by simp) hm (by decide) (by decide) (by simp),hv,if_neg (by omega),if_pos (by rw [hl];rfl)]
  rfl
 ·have e:=Z4y c1 c2 c3
  have hl:=(congrArg List.length e)
  rw [e] at hb⊢
  have hm:Xn (([255,b8 n 56,b8 n 48,b8 n 40,b8 n 32,b8 n 24,b8 n 16,b8 n 8,b8 n 0]++ys).getD 0 0)=8:=Z6E (by show ¬(255:Int)=253;decide) (by show ¬(255:Int)=254;decide) rfl
  have hv:Uz 8 ([255,b8 n 56,b8 n 48,b8 n 40,b8 n 32,b8 n 24,b8 n 16,b8 n 8,b8 n 0]++ys) 1 0=n:=by
   show 256*(256*(256*(256*(256*(256*(256*(256*0+b8 n 56)+b8 n 48)+b8 n 40)+b8 n 32)+b8 n 24)+b8 n 16)+b8 n 8)+b8 n 0=n
   rw [show b8 n 56=(n/2^56)%256 from X4 (k:=56) (by decide),show b8 n 48=(n/2^48)%256 from X4 (k:=48) (by decide),show b8 n 40=(n/2^40)%256 from X4 (k:=40) (by decide),show b8 n 32=(n/2^32)%256 from X4 (k:=32) (by decide),show b8 n 24=(n/2^24)%256 from X4 (k:=24) (by decide),show b8 n 16=(n/2^16)%256 from X4 (k:=16) (by decide),show b8 n 8=(n/2^8)%256 from X4 (k:=8) (by decide),show b8 n 0=(n/2^0)%256 from X4 (k:=0) (by decide)]
   omega
  rw [WF hb (by simp) hm (by decide) (by decide) (by simp),hv,if_neg (by omega),if_pos (by rw [hl];rfl)]
  rfl
theorem Z8R {n:Int} (h:(Zr n).length=3):¬n<253/\n<65536:=by
 by_cases c1:n<253
 ·rw [Z1q c1] at h;simp at h
 ·by_cases c2:n<65536
  ·exact ⟨c1,c2⟩
  ·by_cases c3:n<4294967296
   ·rw [Z4x c1 c2 c3] at h;simp at h
   ·rw [Z4y c1 c2 c3] at h;simp at h
theorem Zbx {n:Int} (h:(Zr n).length=5):¬n<253/\¬n<65536/\n<4294967296:=by
 by_cases c1:n<253
 ·rw [Z1q c1] at h;simp at h
 ·by_cases c2:n<65536
  ·rw [Z4w c1 c2] at h;simp at h
  ·by_cases c3:n<4294967296
   ·exact ⟨c1,c2,c3⟩
   ·rw [Z4y c1 c2 c3] at h;simp at h
theorem Zby {n:Int} (h:(Zr n).length=9):¬n<253/\¬n<65536/\¬n<4294967296:=by
 by_cases c1:n<253
 ·rw [Z1q c1] at h;simp at h
 ·by_cases c2:n<65536
  ·rw [Z4w c1 c2] at h;simp at h
  ·by_cases c3:n<4294967296
   ·rw [Z4x c1 c2 c3] at h;simp at h
   ·exact ⟨c1,c2,c3⟩
theorem Xi {xs ys:List Int} {n most:Int} {o:Nat} (hb:Bytes xs) (hd:xs.drop o=Zr n++ys) (h0:0<=n) (hm:n<=most) (h1:n<=4611686018427387904):rdN (Zq Zr) xs o most=some (n,o+(Zr n).length)/\xs.drop (o+(Zr n).length)=ys:=by
 have hb2:Bytes (Zr n++ys):=by rw [<-hd];exact hb.drop o
 have hf:=Z7h h0 h1 hb2
 have hl:=(Yi n).1
 refine ⟨?_,by rw [<-List.drop_drop,hd,List.drop_left]⟩
 unfold rdN
 rw [hd,hf]
 rw [if_pos ⟨by show (0:Int)<((Zr n).length:Int);omega,hm⟩]
 show some (n,o+((Zr n).length:Int).toNat)=_
 rw [Int.toNat_natCast]
theorem UK {xs ys hh:List Int} {o:Nat} (hl:hh.length=32) (hd:xs.drop o=hh++ys):rdH xs o=some (hh,o+32)/\xs.drop (o+32)=ys:=by
 have hx:o+32<=xs.length:=by
  have:=congrArg List.length hd
  rw [List.length_drop,List.length_append,hl] at this
  omega
 refine ⟨?_,by rw [<-List.drop_drop,hd,<-hl,List.drop_left]⟩
 unfold rdH
 rw [if_pos hx,hd,<-hl,List.take_left,hl]
end Go.Tk
end
section
namespace Go.Tk
open IntKind (i64 u8 u32 u64 wrap)
theorem Zem {v a b:Int} (ha:0<=a/\a<=255) (hb:0<=b/\b<=255) (hv:v=256*(256*0+a)+b):[253,b8 v 8,b8 v 0]=[253,a,b]:=by
 rw [show b8 v 8=(v/2^8)%256 from X4 (k:=8) (by decide),show b8 v 0=(v/2^0)%256 from X4 (k:=0) (by decide)]
 congr 2
 ·omega
 ·congr 1;omega
theorem Zen {v a b c d:Int} (ha:0<=a/\a<=255) (hb:0<=b/\b<=255) (hc:0<=c/\c<=255) (hd:0<=d/\d<=255) (hv:v=256*(256*(256*(256*0+a)+b)+c)+d):[254,b8 v 24,b8 v 16,b8 v 8,b8 v 0]=[254,a,b,c,d]:=by
 rw [show b8 v 24=(v/2^24)%256 from X4 (k:=24) (by decide),show b8 v 16=(v/2^16)%256 from X4 (k:=16) (by decide),show b8 v 8=(v/2^8)%256 from X4 (k:=8) (by decide),show b8 v 0=(v/2^0)%256 from X4 (k:=0) (by decide)]
 have e1:(v/2^24)%256=a:=by omega
 have e2:(v/2^16)%256=b:=by omega
 have e3:(v/2^8)%256=c:=by omega
 have e4:(v/2^0)%256=d:=by omega
 rw [e1,e2,e3,e4]
theorem Zeo {v a b c d e f g h:Int} (ha:0<=a/\a<=255) (hb:0<=b/\b<=255) (hc:0<=c/\c<=255) (hd:0<=d/\d<=255) (he:0<=e/\e<=255) (hf:0<=f/\f<=255) (hg:0<=g/\g<=255) (hh:0<=h/\h<=255) (hv:v=256*(256*(256*(256*(256*(256*(256*(256*0+a)+b)+c)+d)+e)+f)+g)+h):[255,b8 v 56,b8 v 48,b8 v 40,b8 v 32,b8 v 24,b8 v 16,b8 v 8,b8 v 0]=[255,a,b,c,d,e,f,g,h]:=by
 rw [show b8 v 56=(v/2^56)%256 from X4 (k:=56) (by decide),show b8 v 48=(v/2^48)%256 from X4 (k:=48) (by decide),show b8 v 40=(v/2^40)%256 from X4 (k:=40) (by decide),show b8 v 32=(v/2^32)%256 from X4 (k:=32) (by decide),show b8 v 24=(v/2^24)%256 from X4 (k:=24) (by decide),show b8 v 16=(v/2^16)%256 from X4 (k:=16) (by decide),show b8 v 8=(v/2^8)%256 from X4 (k:=8) (by decide),show b8 v 0=(v/2^0)%256 from X4 (k:=0) (by decide)]
 have e1:(v/2^56)%256=a:=by omega
 have e2:(v/2^48)%256=b:=by omega
 have e3:(v/2^40)%256=c:=by omega
 have e4:(v/2^32)%256=d:=by omega
 have e5:(v/2^24)%256=e:=by omega
 have e6:(v/2^16)%256=f:=by omega
 have e7:(v/2^8)%256=g:=by omega
 have e8:(v/2^0)%256=h:=by omega
 rw [e1,e2,e3,e4,e5,e6,e7,e8]
theorem Z7i {xs:List Int} {v k:Int} (hb:Bytes xs) (h:Zq Zr xs=(v,k)) (hk:0<k):xs.take k.toNat=Zr v/\0<=v:=by
 by_cases h0:xs.length=0
 ·rw [QW h0] at h;cases h;omega
 obtain ⟨c,r,rfl⟩:=List.exists_cons_of_ne_nil (l:=xs) (by intro e;rw [e] at h0;exact h0 rfl)
 have hc:0<=c/\c<=255:=hb.h 0
 have g (i:Nat):0<=r.getD i 0/\r.getD i 0<=255:=hb.h (i+1)
 by_cases c1:c=253
 ·by_cases hl:(c::r).length<=2
  ·rw [Xt h0 (Z6C c1) (by decide) hl] at h;cases h;omega
  rw [WF hb h0 (Z6C c1) (by decide) (by decide) (by omega)] at h
  split at h
  ·cases h;omega
  split at h
  case isFalse=>cases h;omega
  rename_i hn
  cases h
  have q:=Z8R hn
  match r,hl,g with
  | a::b::r,_,g=>
   refine ⟨?_,by have:=q.1;omega⟩
   rw [Z4w q.1 q.2,c1]
   exact (Zem (g 0) (g 1) rfl).symm
  | [a],hl,_=>exact absurd (by simp) hl
  | [],hl,_=>exact absurd (by simp) hl
 by_cases c2:c=254
 ·by_cases hl:(c::r).length<=4
  ·rw [Xt h0 (Z6D c1 c2) (by decide) hl] at h;cases h;omega
  rw [WF hb h0 (Z6D c1 c2) (by decide) (by decide) (by omega)] at h
  split at h
  ·cases h;omega
  split at h
  case isFalse=>cases h;omega
  rename_i hn
  cases h
  have q:=Zbx hn
  match r,hl,g with
  | a::b::c'::d::r,_,g=>
   refine ⟨?_,by have:=q.1;omega⟩
   rw [Z4x q.1 q.2.1 q.2.2,c2]
   exact (Zen (g 0) (g 1) (g 2) (g 3) rfl).symm
  | [a,b,c'],hl,_=>exact absurd (by simp) hl
  | [a,b],hl,_=>exact absurd (by simp) hl
  | [a],hl,_=>exact absurd (by simp) hl
  | [],hl,_=>exact absurd (by simp) hl
 by_cases c3:c=255
 ·by_cases hl:(c::r).length<=8
  ·rw [Xt h0 (Z6E c1 c2 c3) (by decide) hl] at h;cases h;omega
  rw [WF hb h0 (Z6E c1 c2 c3) (by decide) (by decide) (by omega)] at h
  split at h
  ·cases h;omega
  split at h
  case isFalse=>cases h;omega
  rename_i hn
  cases h
  have q:=Zby hn
  match r,hl,g with
  | a::b::c'::d::e::f::g'::h::r,_,g=>
   refine ⟨?_,by have:=q.1;omega⟩
   rw [Z4y q.1 q.2.1 q.2.2,c3]
   exact (Zeo (g 0) (g 1) (g 2) (g 3) (g 4) (g 5) (g 6) (g 7) rfl).symm
  | [a,b,c',d,e,f,g'],hl,_=>exact absurd (by simp) hl
  | [a,b,c',d,e,f],hl,_=>exact absurd (by simp) hl
  | [a,b,c',d,e],hl,_=>exact absurd (by simp) hl
  | [a,b,c',d],hl,_=>exact absurd (by simp) hl
  | [a,b,c'],hl,_=>exact absurd (by simp) hl
  | [a,b],hl,_=>exact absurd (by simp) hl
  | [a],hl,_=>exact absurd (by simp) hl
  | [],hl,_=>exact absurd (by simp) hl
 ·have h2:(c::r).getD 0 0=c:=rfl
  rw [VZ h0 (by rw [h2];exact ZcS c1 c2 c3),h2,w64 (by omega)] at h
  have e1:c=v:=congrArg Prod.fst h
  have e2:1=k:=congrArg Prod.snd h
  subst e1 e2
  have hlt:c<253:=by omega
  refine ⟨?_,hc.1⟩
  rw [Z1q hlt,Zjv]
  show [c]=[c%256]
  congr 1
  omega
theorem Xa {xs:List Int} {v most:Int} {o p:Nat} (hb:Bytes xs) (h:rdN (Zq Zr) xs o most=some (v,p)):xs.drop o=Zr v++xs.drop p/\0<=v:=by
 unfold rdN at h
 split at h
 case isFalse=>cases h
 rename_i hc
 simp only [Option.some.injEq,Prod.mk.injEq] at h
 have hq:=Z7i (v:=(Zq Zr (xs.drop o)).1) (k:=(Zq Zr (xs.drop o)).2) (hb.drop o) rfl hc.1
 rw [h.1] at hq
 refine ⟨?_,hq.2⟩
 rw [<-hq.1,<-h.2,<-List.drop_drop,List.take_append_drop]
theorem UL {xs hh:List Int} {o p:Nat} (h:rdH xs o=some (hh,p)):xs.drop o=hh++xs.drop p:=by
 unfold rdH at h
 split at h
 ·cases h
  rw [<-List.drop_drop,List.take_append_drop]
 ·cases h
theorem Zep {xs:List Int} {b:Bool} {o p:Nat} (hb:Bytes xs) (h:rdT xs o=some (b,p)):xs.drop o=[cond b 1 0]++xs.drop p:=by
 unfold rdT at h
 split at h
 case isFalse=>cases h
 rename_i hc
 cases h
 have hx:=hb.h o
 rw [List.getD_eq_getElem?_getD,List.getElem?_eq_getElem hc.1] at*
 rw [List.drop_eq_getElem_cons hc.1]
 show xs[o]::xs.drop (o+1)=[cond (xs[o]==1) 1 0]++xs.drop (o+1)
 have hx:0<=xs[o]/\xs[o]<=255:=hx
 have h1:xs[o]<=1:=hc.2
 by_cases hz:xs[o]=1
 ·rw [hz];rfl
 ·have:xs[o]=0:=by omega
  rw [this];rfl
def Z1Q (h:Z7):List Int:=[cond h.own 1 0]++(Zr h.id++(Zr h.amount++(h.hash++(Zr h.expiry++(Zr h.stage++(Zr h.fin++(if h.fin=1 then h.secret else [])))))))
theorem Zeq (xs:List Int) (h:Z7):Z1b Zr xs h=xs++Z1Q h:=by
 unfold Z1b Z1Q
 split<;>simp [YA]
theorem Z7j:∀(L:List Z7) (xs:List Int),L.foldl (Z1b Zr) xs=xs++L.flatMap Z1Q
 | [],xs=>by simp
 | x::r,xs=>by rw [List.foldl_cons,Z7j r,Zeq,List.flatMap_cons,List.append_assoc]
theorem Zbz {xs:List Int} {o p:Nat} {x:Z7} (hb:Bytes xs) (h:Wr (Zq Zr) xs o=some (x,p)):xs.drop o=Z1Q x++xs.drop p:=by
 unfold Wr at h
 simp only [Option.bind_eq_some_iff] at h
 obtain ⟨⟨a,o1⟩,h1,⟨b,o2⟩,h2,⟨c,o3⟩,h3,⟨d,o4⟩,h4,⟨e,o5⟩,h5,⟨f,o6⟩,h6,⟨g,o7⟩,h7,⟨s,o8⟩,h8,h9⟩:=h
 cases h9
 have k1:=Zep hb h1
 have k2:=(Xa hb h2).1
 have k3:=(Xa hb h3).1
 have k4:=UL h4
 have k5:=(Xa hb h5).1
 have k6:=(Xa hb h6).1
 have k7:=(Xa hb h7).1
 simp only at k1 k2 k3 k4 k5 k6 k7 h8
 unfold Z1Q
 rw [k1,k2,k3,k4,k5,k6,k7]
 simp only [List.append_assoc]
 congr 8
 by_cases hg:g=1
 ·subst hg
  have h8:rdH xs o7=some (s,o8):=h8
  rw [UL h8,if_pos rfl]
 ·have e:(g==1)=false:=by simp [hg]
  rw [e] at h8
  have h8:some (Zf,o7)=some (s,o8):=h8
  cases h8
  rw [if_neg hg];rfl
theorem Z7k {xs:List Int} {o:Nat} (hb:Bytes xs):∀{n:Nat} {L:List Z7} {p:Nat},rdL (Zq Zr) xs o n=some (L,p)->xs.drop o=L.flatMap Z1Q++xs.drop p/\L.length=n
 | 0,L,p,h=>by cases h;exact ⟨rfl,rfl⟩
 | n+1,L,p,h=>by
  unfold rdL at h
  simp only [Option.bind_eq_some_iff] at h
  obtain ⟨⟨l,q⟩,h1,⟨x,p'⟩,h2,h3⟩:=h
  cases h3
  have ih:=Z7k hb h1
  have hx:=Zbz hb h2
  simp only at hx
  refine ⟨?_,by rw [List.length_append,ih.2];rfl⟩
  rw [ih.1,hx,List.flatMap_append,List.append_assoc]
  simp
theorem Zjw {xs:List Int} {v most:Int} {o p:Nat} (hb:Bytes xs) (h:rdN (Zq Zr) xs o most=some (v,p)):0<=v:=(Xa hb h).2
theorem Za2 {xs:List Int} {o p:Nat} {n:N5} (hb:Bytes xs) (h:r5 (Zq Zr) xs o=some (n,p)):xs.drop o=Zr n.a++(Zr n.b++(Zr n.c++(Zr n.d++(Zr n.e++xs.drop p)))):=by
 unfold r5 at h
 simp only [Option.bind_eq_some_iff] at h
 obtain ⟨⟨a,o1⟩,h1,⟨b,o2⟩,h2,⟨c,o3⟩,h3,⟨d,o4⟩,h4,⟨e,o5⟩,h5,h6⟩:=h
 cases h6
 have k1:=(Xa hb h1).1
 have k2:=(Xa hb h2).1
 have k3:=(Xa hb h3).1
 have k4:=(Xa hb h4).1
 have k5:=(Xa hb h5).1
 simp only at k1 k2 k3 k4 k5
 rw [k1,k2,k3,k4,k5]
def hdW (X:Z8) (n:Int):List Int:=X.t.fund++(Zr X.t.index++(Zr X.t.cap++(Zr X.t.dust++(Zr X.t.fee++(Zr X.t.delay++(X.t.k0++(X.t.k1++(Zr X.side++(Zr X.res++(Zr X.a0++(Zr X.a1++(Zr X.i0++(Zr X.i1++Zr n)))))))))))))
theorem Zer (X:Z8):Ve Zr X=hdW X X.L.length:=by
 unfold Ve hdW
 simp [YA]
theorem Z7l (X:Z8):YM Zr X=hdW X X.L.length++X.L.flatMap Z1Q:=by
 unfold YM
 rw [Z7j,Zer]
theorem Z3J {xs:List Int} {X:Z8} (hb:Bytes xs) (h:Xp (Zq Zr) xs=some X):YM Zr X=xs:=by
 unfold Xp Z0z at h
 simp only [Option.bind_eq_some_iff] at h
 obtain ⟨⟨Y,cnt,oL⟩,⟨⟨v0,o0⟩,r0,⟨n5,o5⟩,k1,⟨v6,o6⟩,r6,⟨v7,o7⟩,r7,⟨v8,o8⟩,r8,⟨m5,o13⟩,k2,⟨v14,o14⟩,r14,he⟩,⟨L,p⟩,hL,hX⟩:=h
 simp only at*
 cases he
 split at hX
 case isFalse=>cases hX
 rename_i hp
 cases hX
 have hLb:=Z7k hb hL
 have hn:=Zjw hb r14
 rw [Z7l]
 have q0:=UL r0
 have q1:=Za2 hb k1
 have q6:=UL r6
 have q7:=UL r7
 have q8:=(Xa hb r8).1
 have q9:=Za2 hb k2
 have q14:=(Xa hb r14).1
 rw [List.drop_zero] at q0
 have hcnt:((L.length:Nat):Int)=cnt:=by rw [hLb.2];omega
 have hd0:xs.drop p=[]:=by rw [hp,List.drop_length]
 unfold hdW
 simp only [hcnt]
 rw [q0,q1,q6,q7,q8,q9,q14,hLb.1,hd0]
 simp only [List.append_assoc,List.append_nil]
structure Zes (x:Z7):Prop where
 id:0<=x.id/\x.id<=2147483647
 am:0<=x.amount/\x.amount<=1125899906842624
 ex:0<=x.expiry/\x.expiry<=2147483647
 st:0<=x.stage/\x.stage<=9
 fi:0<=x.fin/\x.fin<=2
 se:x.fin≠1->x.secret=Zf
 ok:x.Ok
theorem ZgZ {xs ys:List Int} {b:Bool} {o:Nat} (hd:xs.drop o=[cond b 1 0]++ys):rdT xs o=some (b,o+1)/\xs.drop (o+1)=ys:=by
 have hx:o<xs.length:=by
  have:=congrArg List.length hd
  rw [List.length_drop,List.length_append] at this
  simp at this
  omega
 rw [List.drop_eq_getElem_cons hx] at hd
 have h1:xs[o]=cond b 1 0:=(List.cons.inj hd).1
 have h2:xs.drop (o+1)=ys:=(List.cons.inj hd).2
 refine ⟨?_,h2⟩
 unfold rdT
 have e:xs.getD o 0=cond b 1 0:=by rw [List.getD_eq_getElem?_getD,List.getElem?_eq_getElem hx];exact h1
 rw [e]
 cases b
 ·rw [if_pos ⟨hx,by decide⟩];rfl
 ·rw [if_pos ⟨hx,by decide⟩];rfl
theorem Zet {xs ys:List Int} {x:Z7} {o:Nat} (hb:Bytes xs) (hx:Zes x) (hd:xs.drop o=Z1Q x++ys):∃p,Wr (Zq Zr) xs o=some (x,p)/\xs.drop p=ys:=by
 unfold Z1Q at hd
 simp only [List.append_assoc] at hd
 have k1:=ZgZ hd
 have k2:=Xi hb k1.2 hx.id.1 hx.id.2 (by have:=hx.id.2;omega)
 have k3:=Xi hb k2.2 hx.am.1 hx.am.2 (by have:=hx.am.2;omega)
 have k4:=UK hx.ok.hash k3.2
 have k5:=Xi hb k4.2 hx.ex.1 hx.ex.2 (by have:=hx.ex.2;omega)
 have k6:=Xi hb k5.2 hx.st.1 hx.st.2 (by have:=hx.st.2;omega)
 have k7:=Xi hb k6.2 hx.fi.1 hx.fi.2 (by have:=hx.fi.2;omega)
 unfold Wr
 simp only [Option.bind_some,k1.1,k2.1,k3.1,k4.1,k5.1,k6.1,k7.1]
 by_cases hg:x.fin=1
 ·have k8:=k7.2
  rw [if_pos hg] at k8
  have k9:=UK hx.ok.secret k8
  have e:(x.fin==1)=true:=by simp [hg]
  rw [e]
  show ∃p,((rdH xs _).bind fun s=>some ((⟨x.own,x.id,x.amount,x.hash,x.expiry,x.stage,x.fin,s.1⟩:Z7),s.2))=some (x,p)/\xs.drop p=ys
  rw [k9.1]
  exact ⟨_,rfl,k9.2⟩
 ·have k8:=k7.2
  rw [if_neg hg] at k8
  have e:(x.fin==1)=false:=by simp [hg]
  rw [e]
  refine ⟨_, ?_,k8⟩
  show some ((⟨x.own,x.id,x.amount,x.hash,x.expiry,x.stage,x.fin,Zf⟩:Z7),_)=some (x,_)
  rw [<-hx.se hg]
theorem Za3 {xs ys:List Int} {L:List Z7} {o:Nat} (hb:Bytes xs) (hx:∀x∈L,Zes x) (hd:xs.drop o=L.flatMap Z1Q++ys):∀n,n<=L.length->∃p,rdL (Zq Zr) xs o n=some (L.take n,p)/\xs.drop p=(L.drop n).flatMap Z1Q++ys
 | 0,_=>⟨o,by rw [List.take_zero];rfl,hd⟩
 | n+1,hn=>by
  obtain ⟨p,h1,h2⟩:=Za3 hb hx hd n (by omega)
  have hlt:n<L.length:=hn
  rw [List.drop_eq_getElem_cons hlt,List.flatMap_cons,List.append_assoc] at h2
  obtain ⟨q,h3,h4⟩:=Zet hb (hx _ (List.getElem_mem hlt)) h2
  refine ⟨q, ?_,h4⟩
  unfold rdL
  rw [h1]
  show ((Wr (Zq Zr) xs p).bind fun b=>some (L.take n++[b.1],b.2))=_
  rw [h3]
  show some (L.take n++[L[n]],q)=_
  rw [List.take_append_getElem hlt]
theorem Zeu {xs ys:List Int} {a b c d e:Int} {o:Nat} (hb:Bytes xs) (ha:0<=a/\a<=1125899906842624) (hb':0<=b/\b<=1125899906842624) (hc:0<=c/\c<=1125899906842624) (hd:0<=d/\d<=1125899906842624) (he:0<=e/\e<=1125899906842624) (hx:xs.drop o=Zr a++(Zr b++(Zr c++(Zr d++(Zr e++ys))))):∃p,r5 (Zq Zr) xs o=some (⟨a,b,c,d,e⟩,p)/\xs.drop p=ys:=by
 have k1:=Xi hb hx ha.1 ha.2 (by have:=ha.2;omega)
 have k2:=Xi hb k1.2 hb'.1 hb'.2 (by have:=hb'.2;omega)
 have k3:=Xi hb k2.2 hc.1 hc.2 (by have:=hc.2;omega)
 have k4:=Xi hb k3.2 hd.1 hd.2 (by have:=hd.2;omega)
 have k5:=Xi hb k4.2 he.1 he.2 (by have:=he.2;omega)
 refine ⟨_, ?_,k5.2⟩
 unfold r5
 simp only [Option.bind_some,k1.1,k2.1,k3.1,k4.1,k5.1]
theorem Zh0 {H:List Int->List Int} {X:Z8} (hX:X.Inv H):∀x∈X.L,Zes x:=fun x hx=>by
 have hu:=hX.und x hx
 unfold XE Yp at hu
 simp only [Bool.and_eq_true,decide_eq_true_eq] at hu
 obtain ⟨⟨⟨⟨⟨h1,h2⟩,h3⟩,h4⟩,h5⟩,h6⟩:=hu
 have hf:(0<=x.fin/\x.fin<=2)/\(x.fin≠1->x.secret=Zf):=by
  unfold Z0q at h6
  split at h6
  ·rename_i h;rw [h]
   simp only [Bool.and_eq_true,beq_iff_eq] at h6
   exact ⟨by decide,fun _=>h6.2⟩
  split at h6
  ·rename_i h;exact ⟨by rw [h];decide,fun q=>absurd h q⟩
  split at h6
  ·rename_i h;rw [h]
   simp only [Bool.and_eq_true,beq_iff_eq] at h6
   exact ⟨by decide,fun _=>h6.2⟩
  ·cases h6
 exact ⟨h1,by omega,by omega,by omega,hf.1,hf.2,hX.ok x hx⟩
theorem Zjx {xs hh:List Int} {o p:Nat} (h:rdH xs o=some (hh,p)):p<=xs.length:=by
 unfold rdH at h
 split at h
 ·cases h;assumption
 ·cases h
theorem Zev {xs:List Int} {o:Nat} (ho:o<=xs.length):∀{n:Nat} {L:List Z7} {p:Nat},rdL (Zq Zr) xs o n=some (L,p)->p<=xs.length
 | 0,L,p,h=>by cases h;exact ho
 | n+1,L,p,h=>by
  unfold rdL at h
  simp only [Option.bind_eq_some_iff] at h
  obtain ⟨⟨l,q⟩,h1,⟨x,p'⟩,h2,h3⟩:=h
  cases h3
  exact (Z9P (Zev ho h1) h2).2.1
theorem ZbA {H:List Int->List Int} {X:Z8} (hX:X.Inv H) (hf:X.t.fund.length=32) (hb:Bytes (YM Zr X)):Xp (Zq Zr) (YM Zr X)=some X:=by
 have ht:=hX.tb
 unfold Xo at ht
 simp only [Bool.and_eq_true,decide_eq_true_eq] at ht
 obtain ⟨⟨⟨⟨⟨t1,t2⟩,t3⟩,t4⟩,t5⟩,_⟩:=ht
 have hr:=hX.res
 have ha:=hX.a0
 have ha1:=hX.a1
 have hi0:=hX.i0
 have hi1:=hX.i1
 have hs:=hX.side
 have hl:=hX.len
 have hd0:(YM Zr X).drop 0=hdW X X.L.length++X.L.flatMap Z1Q:=by rw [List.drop_zero,Z7l]
 generalize he:YM Zr X=xs at hb hd0⊢
 unfold hdW at hd0
 simp only [List.append_assoc] at hd0
 have q0:=UK hf hd0
 obtain ⟨p1,k1,e1⟩:=Zeu hb (a:=X.t.index) (b:=X.t.cap) (c:=X.t.dust) (d:=X.t.fee) (e:=X.t.delay) (by omega) (by omega) (by omega) (by omega) (by omega) q0.2
 have q6:=UK hX.tok.k0 e1
 have q7:=UK hX.tok.k1 q6.2
 have q8:=Xi (most:=1) hb q7.2 (by omega) (by omega) (by omega)
 obtain ⟨p2,k2,e2⟩:=Zeu hb (a:=X.res) (b:=X.a0) (c:=X.a1) (d:=X.i0) (e:=X.i1) (by omega) (by omega) (by omega) (by omega) (by omega) q8.2
 have q14:=Xi (most:=16) hb e2 (by omega) (by omega) (by omega)
 obtain ⟨p,hL,hp⟩:=Za3 (ys:=[]) hb (Zh0 hX) (by rw [List.append_nil];exact q14.2) X.L.length (Nat.le_refl _)
 rw [List.take_length] at hL
 rw [List.drop_length] at hp
 have hlen:xs.length<=p:=by
  have:=congrArg List.length hp
  rw [List.length_drop] at this
  simp at this
  omega
 have hle:p<=xs.length:=Zev (Ws (ZhO (Ws (Zjx q7.1) q8.1).2.1 k2) q14.1).2.1 hL
 unfold Xp Z0z
 simp only [Option.bind_some,q0.1,k1,q6.1,q7.1,q8.1,k2,q14.1]
 have:((X.L.length:Int)).toNat=X.L.length:=Int.toNat_natCast _
 rw [this,hL]
 show (if p=xs.length then some _ else none)=some X
 rw [if_pos (by omega)]
end Go.Tk
end
section
namespace Go.Tk
open IntKind (i64 u8 u32 u64 wrap)
def Zew:List Int->Nat
 | []=>0
 | a::r=>(Z6e a).toNat*256^r.length+Zew r
structure W5 where
 o:Z0l
 id:Int
 what:Int
def W5.c (m:W5):List AV:=[.int .i64 m.o.kind,.int .i64 m.o.amount,.arr .u8 32 m.o.owner,.arr .u8 32 m.o.other,.arr .u8 32 m.o.point,.arr .u8 32 m.o.hash,.int .i64 m.o.delay,.int .i64 m.o.expiry,.int .i64 m.id,.int .i64 m.what]
structure W5.Ok (m:W5):Prop where
 owner:m.o.owner.length=32
 other:m.o.other.length=32
 point:m.o.point.length=32
 hash:m.o.hash.length=32
def ltM (a b:W5):Bool:=decide (a.o.amount<b.o.amount\/(a.o.amount=b.o.amount/\(a.o.kind<b.o.kind\/(a.o.kind=b.o.kind/\(a.o.expiry<b.o.expiry\/(a.o.expiry=b.o.expiry/\(Zew a.o.hash<Zew b.o.hash\/(Zew a.o.hash=Zew b.o.hash/\a.id<b.id))))))))
end Go.Tk
end
section
namespace Go.Tk
open IntKind (i64 u8 u32 u64 wrap)
end Go.Tk
end
section
namespace Go.Tk
open IntKind (i64 u8 u32 u64 wrap)
def isL (a p:List W5) (x:W5) (r:List W5) (m:Nat):List W5:=a++(p.take (p.length-m)++x::(p.drop (p.length-m)++r))
structure IsQ where
 a:List W5
 p:List W5
 x:W5
 r:List W5
def IsQ.n (q:IsQ):Nat:=q.a.length+q.p.length+1+q.r.length
def IsQ.L (q:IsQ) (m:Nat):List W5:=isL q.a q.p q.x q.r m
structure IsQ.Ok (q:IsQ) (n:Nat) (A:Nat):Prop where
 hn:q.n=n
 hA:q.a.length=A
 le:n<900000000000
 ok:∀m∈q.L 0,m.Ok
def IsQ.len (q:IsQ):Nat:=q.p.length
structure IsP where
 a:List W5
 M:List W5
 c:List W5
def IsP.L (q:IsP) (t:Nat):List W5:=q.a++(ZhP ltM [] (q.M.take (t+1))++(q.M.drop (t+1)++q.c))
def IsP.N (q:IsP):Nat:=q.M.length-1
def IsP.all (q:IsP):List W5:=q.a++(q.M++q.c)
structure IsP.Ok (q:IsP) (n A B:Nat):Prop where
 hn:q.a.length+q.M.length+q.c.length=n
 hA:q.a.length=A
 hB:q.a.length+q.M.length=B
 le:n<900000000000
 ok:∀m∈q.all,m.Ok
end Go.Tk
end
section
namespace Go.Tk
open IntKind (i64 u8 u32 u64 wrap)
end Go.Tk
end
section
namespace Go.Tk
open IntKind (i64 u8 u32 u64 wrap)
end Go.Tk
end
section
namespace Go.Tk
open IntKind (i64 u8 u32 u64 wrap)
end Go.Tk
end
section
namespace Go.Tk
open IntKind (i64 u8 u32 u64 wrap)
theorem Zex {c:Bool}:(((if c=true then (0:Int) else 2) !=0)=true↔c=false)/\(((if c=true then (0:Int) else 2) !=0)=false↔c=true):=by cases c<;>simp
end Go.Tk
end
section
namespace Go.Tk
open IntKind (i64 u8 u32 u64 wrap)
end Go.Tk
end
section
namespace Go.Tk
open IntKind (i64 u8 u32 u64 wrap)
structure YP where
 frm:Int
 id:Int
 amount:Int
 hash:List Int
 expiry:Int
def YP.c (p:YP):List AV:=[.int .i64 p.frm,.int .i64 p.id,.int .i64 p.amount,.arr .u8 32 p.hash,.int .i64 p.expiry]
def Z7m (g:Nat->YP):Nat->List AV:=fun i=>(g i).c
structure YP.Ok (p:YP):Prop where
 hash:p.hash.length=32
 hb:Bytes p.hash
def Ub (p:YP):Bool:=decide (0<=p.frm/\p.frm<=1)&&decide (0<=p.id/\p.id<=2147483647)&&decide (1<=p.amount/\p.amount<=1125899906842624)&&decide (1<=p.expiry/\p.expiry<=2147483647)
theorem Zl6 (p:YP) (b:Bool) (hb:b=Ub p):
  evF E71 20 62 [.agg p.c] ⟨0,[]⟩ (Yo (fun v=>v=.bool b)):=by
 refine @Eq.mpr _ (let q1:=p.expiry;let q2:=decide (q1=q1);let q3:=p.amount;let q4:=decide (q3=q3);let q5:=p.id;let q6:=decide (q5=q5);let q7:=AV.bool false=AV.bool b;
 Z0 (decide (0<=p.frm)) (Z0 q2 (Z0 q4 (Z0 q6 (Z0 (false==decide (p.frm<=1)) q7 (Z0 (false==decide (0<=q5/\q5<=2147483647)) q7 (Z0 (false==decide (1<=q3/\q3<=1125899906842624)) q7 (Z0 (false==decide (1<=q1/\q1<=2147483647)) q7 (AV.bool true=AV.bool b))))) False) False) False) (Z0 q2 (Z0 q4 (Z0 q6 q7 False) False) False)) (by kernel_rfl) ?_
 conv=>zeta
 subst hb
 have h3:(p.frm<=1)=(p.frm<=1):=rfl
 unfold Ub
 rw [Bool.decide_and (0<=p.frm)]
 generalize decide (0<=p.frm)=c1
 generalize decide (p.frm<=1)=c2
 generalize decide (0<=p.id/\p.id<=2147483647)=c3
 generalize decide (1<=p.amount/\p.amount<=1125899906842624)=c4
 generalize decide (1<=p.expiry/\p.expiry<=2147483647)=c5
 rw [decide_eq_true (rfl:p.expiry=p.expiry),decide_eq_true (rfl:p.amount=p.amount),decide_eq_true (rfl:p.id=p.id)]
 cases c1<;>cases c2<;>cases c3<;>cases c4<;>cases c5<;>rfl
def Zey:ZR:=fun args _ K=>match args with
 | [.agg [.int .i64 fr,.int .i64 id,.int .i64 am,.arr .u8 32 ha,.int .i64 ex]]=>K (.bool (Ub ⟨fr,id,am,ha,ex⟩))
 | _=>False
def V1 (p:YP):AV:=.agg [.arr .i64 2 [p.frm,p.id]]
def shX (a0 a1:Int) (g:Nat->YP) (i:Nat):List Int:=a0::a1::(List.range i).map fun j=>(g j).amount
structure ShS where
 num:Int
 owner:Int
 point:List Int
 a0:Int
 a1:Int
 n:Nat
 g:Nat->YP
def ShS.c (s:ShS):List AV:=[.int .i64 s.num,.int .i64 s.owner,.arr .u8 32 s.point,.arr .i64 2 [s.a0,s.a1],.vrows 36 s.n (Z7m s.g) s.n]
def Zn4 (t:ZV) (X M:List Int) (i:Nat) (g:Nat->YP):Za:=⟨4,[(0,.flat t.c),(1,.flat [.arr .i64 2 M]),(2,.fmap i (fun j=>V1 (g j)) (fun _=>.bool true)),(3,.ints .i64 X)]⟩
def Zh1 (t:ZV) (n:Nat) (g:Nat->YP) (X M:List Int) (i:Nat):St:=⟨89,[(39,.int .i64 i),(38,.int .i64 n),(37,.vrows 36 n (Z7m g) n),(8,.map (some 2)),(6,.ptr (some ⟨1,0,0,0,0⟩)),(5,.nslice ⟨3,0,0,0,0⟩ 1 X.length X.length),(2,.ptr (some ⟨0,0,0,0,0⟩))],Zn4 t X M i g,[]⟩
def Zl7 (t:ZV) (X M:List Int):St:=⟨89,[(6,.ptr (some ⟨1,0,0,0,0⟩)),(5,.nslice ⟨2,0,0,0,0⟩ 1 X.length X.length),(2,.ptr (some ⟨0,0,0,0,0⟩))],⟨3,[(0,.flat t.c),(1,.flat [.arr .i64 2 M]),(2,.ints .i64 X)]⟩,[]⟩
def Zh2:St:=⟨89,[],⟨0,[]⟩,[]⟩
def Z8S (g:Nat->YP) (i:Nat):Nat:=Y4 (fun j=>YC (V1 (g i)) (V1 (g j))) i
theorem Zez (args:List AV) (h:Za) (K:AV->Prop) (hl:Zey args h K):Zp PP 62 args h fun o h'=>∃v,o=.ret v/\h'=h/\K v:=by
 unfold Zey at hl
 split at hl
 ·exact Y7 Zdi rfl (Zl6 ⟨_,_,_,_,_⟩ _ rfl) (fun u hu=>hu▸hl)
 ·exact hl.elim
theorem Zn5 (a b c d:Int) :
  Zc0 PP 34 (.agg [.arr .i64 2 [a,b]]) (.agg [.arr .i64 2 [c,d]]):=by
 refine @Eq.mpr _ (let q1:=[a,b];let q2:=[c,d];
 (q1==q2)=YC (AV.agg [AV.arr i64 2 q1]) (AV.agg [AV.arr i64 2 q2])) (by kernel_rfl) ?_
 conv=>zeta
 try simp only [Zj]
 try simp only [Zl]
 try simp only [Zi]
 try simp only [Zm]
 try simp only [Zn]
 try simp only [Zh]
 try simp only [Int.toNat_natCast,Nat.zero_add,true_and,and_true,Nat.le_refl]
 simp [YC,VR,QB]
theorem Za4 (p:YP) (g:Nat->YP) (i:Nat):Z0M PP 34 (V1 p) i (fun j=>V1 (g j)):=⟨fun j _=>Zn5 _ _ _ _⟩
noncomputable def E91:Zg:=G0.withP 62 Zey
theorem ZeA:E91.Ok:=Zg.withP_ok Zv Zez
theorem Za5 {k:Nat} {τ:Ren} (p:YP) {Z:Prop} (h:Z):eqV k τ (V1 p) (V1 p) Z:=by
 unfold V1
 simp only [eqV,eqC]
 simp [h]
theorem ZeB {k:Nat} {τ:Ren} {i:Nat} {g:Nat->YP}:QN k τ (i+1) (fun j=>V1 (g j)) (fun _=>.bool true) (Z0c (fun j=>V1 (g j)) i (V1 (g i))) (Z0c (fun _=>.bool true) i (.bool true)):=⟨fun j hj=>by
 unfold Z0c
 rcases Nat.lt_or_ge j i with h|h
 ·rw [ZB (by omega)]
  exact ⟨Za5 _ trivial,by simp [eqV,Zx,Z0]⟩
 ·have e:j=i:=by omega
  subst e
  rw [Nat.beq_refl]
  exact ⟨Za5 _ trivial,by simp [eqV,Zx,Z0]⟩⟩
theorem Zl8 (t:ZV) (n i:Nat) (g:Nat->YP) (X X1 M M1:List Int) (Z1 Z2 Z3:Prop) (hn:n<1000) (hi:i<=n) (hX:X1=X++[(g i).amount]) (hXl:X.length<=1002) (hMl:M.length=2) (hM1:M1=M.set (g i).frm.toNat (i64.wrap (M.getD (g i).frm.toNat 0+1))) (h1:i<n->Ub (g i)=true->Z8S g i=i->Z1) (h2:i=n->Z2) (h3:i<n->(Ub (g i)=false\/Z8S g i<i)->Z3):
  ZG E91 20 18 0 0 (Zh1 t n g X M i) (rdM 0 0 0 (Zh1 t n g X1 M1 (i+1)) (Zl7 t X M) Zh2 Zh2 Z1 Z2 False Z3):=by
 refine @Eq.mpr _ (let q1:=g (Int.toNat (↑i:Int));let q2:=q1.frm;let q3:=q1.id;let q4:=q1.amount;let q5:=AV.agg [AV.arr i64 (2:Nat) [q2,q3]];let q6:=Z0M PP (34:Nat) q5 i fun (j:Nat)=>AV.agg [AV.arr i64 (2:Nat) [(g j).frm,(g j).id]];let q7:=Y4 (fun (i:Nat)=>YC q5 (AV.agg [AV.arr i64 (2:Nat) [(g i).frm,(g i).id]])) i;let q8:=Nat.blt q7 i;let q9:=decide ((0:Int)<=q2/\q2<(2:Int));let q10:=(0:Nat)+Int.toNat q2;let q11:=decide (q10<(2:Nat));let q12:=decide (i64=i64/\q10<(2:Nat)/\q10<List.length M);let q13:=List.length X;let q14:=decide (i64=i64/\q13=q13);let q15:=X++[q4];let q16:=List.length q15;let q17:=i+(1:Nat);let q18:=decide (wrap i64 ((↑i:Int)+(1:Int))=(↑q17:Int));let q19:=decide ((↑n:Int)=(↑n:Int));let q20:=decide (n=n);let q21:=Z7m g=Z7m g;let q22:=t.fund=t.fund;let q23:=decide (t.index=t.index);let q24:=decide (t.cap=t.cap);let q25:=decide (t.dust=t.dust);let q26:=decide (t.fee=t.fee);let q27:=decide (t.delay=t.delay);let q28:=t.k0=t.k0;let q29:=t.k1=t.k1;let q30:=List.set M q10 (wrap i64 (List.getD M q10 (0:Int)+(1:Int)))=M1;let q31:=[((0:Nat),(0:Nat)),((3:Nat),(7:Nat)),((1:Nat),(1:Nat)),((2:Nat),(2:Nat))];let q32:=AV.bool true;let q33:=q15=X1/\Z1;
 Z0 (decide ((↑i:Int)<(↑n:Int)))
 (Z0 (decide ((0:Int)<=(↑i:Int)/\(↑i:Int)<(↑n:Int)))
 (Z0 (!Ub (YP.mk q2 q3 q4 q1.hash q1.expiry)) Z3
 (q6/\
 Z0 q8 Z3
 (q6/\
 Z0 q8 (Z0 q9 (Z0 q11 (Z0 q9 (Z0 q12 (Z0 q14 (Z0 (decide (q16*(8:Nat)<=(140737488355328:Nat))) (Z0 q18 (Z0 q19 (Z0 q20 (q21/\Z0 q20 (Z0 (decide (q16=List.length X1)) (Z0 (decide (List.length X1<=q16)) (q22/\Z0 q23 (Z0 q24 (Z0 q25 (Z0 q26 (Z0 q27 (q28/\q29/\q30/\Z0 (decide (i=q17)) (QN (0:Nat) q31 q17 (fun (j:Nat)=>AV.agg [AV.arr i64 (2:Nat) [(g j).frm,(g j).id]]) (fun (x:Nat)=>q32) (fun (j:Nat)=>AV.agg [AV.arr i64 (2:Nat) [(g j).frm,(g j).id]]) (Z0c (fun (x:Nat)=>q32) q7 q32)/\q33) False) False) False) False) False) False) False) False) False) False) False) False) False) False) False) False) False) False)
 (Z0 q9 (Z0 q11 (Z0 q9 (Z0 q12 (Z0 q14 (Z0 (decide (q16*(8:Nat)<=(140737488355328:Nat))) (Z0 q18 (Z0 q19 (Z0 q20 (q21/\Z0 q20 (Z0 (decide (q16=List.length X1)) (Z0 (decide (List.length X1<=q16)) (q22/\Z0 q23 (Z0 q24 (Z0 q25 (Z0 q26 (Z0 q27 (q28/\q29/\q30/\Z0 (decide (q17=q17)) (QN (0:Nat) q31 q17 (fun (j:Nat)=>AV.agg [AV.arr i64 (2:Nat) [(g j).frm,(g j).id]]) (fun (x:Nat)=>q32) (Z0c (fun (j:Nat)=>AV.agg [AV.arr i64 (2:Nat) [(g j).frm,(g j).id]]) i q5) (Z0c (fun (x:Nat)=>q32) i q32)/\q33) False) False) False) False) False) False) False) False) False) False) False) False) False) False) False) False) False) False))))
 False)
 (Z0 (decide (q13=q13)) (Z0 (decide (q13<=q13)) (q22/\Z0 q23 (Z0 q24 (Z0 q25 (Z0 q26 (Z0 q27 (q28/\q29/\M=M/\X=X/\Z2) False) False) False) False) False) False) False)) (by kernel_rfl) ?_
 conv=>zeta
 try simp only [Zj]
 try simp only [Zl]
 try simp only [Zi]
 try simp only [Zm]
 try simp only [Zn]
 try simp only [Zh]
 try simp only [Int.toNat_natCast,Nat.zero_add,true_and,and_true,Nat.le_refl]
 refine ⟨fun hc=> ?_,fun hc=>h2 (by omega)⟩
 have hlt:i<n:=by omega
 have e0:(YP.mk (g i).frm (g i).id (g i).amount (g i).hash (g i).expiry)=g i:=rfl
 rw [e0]
 have hJ:=Z5f (fun j=>YC (V1 (g i)) (V1 (g j))) i
 refine ⟨by omega,fun hp=>h3 hlt (.inl (by simpa using hp)),fun hp=>⟨Za4 _ _ _,fun hd=>h3 hlt (.inr (ZcF hd)),fun hd=>⟨Za4 _ _ _,fun hd'=> ?_,fun hd'=> ?_⟩⟩⟩
 ·have hd:Nat.blt (Y4 (fun j=>YC (V1 (g i)) (V1 (g j))) i) i=false:=hd
  have hd':Nat.blt (Y4 (fun j=>YC (V1 (g i)) (V1 (g j))) i) i=true:=hd'
  rw [hd] at hd';cases hd'
 ·have hp:Ub (g i)=true:=by simpa using hp
  have hf:0<=(g i).frm/\(g i).frm<2:=by
   unfold Ub at hp
   simp only [Bool.and_eq_true,decide_eq_true_eq] at hp
   omega
  have hq:Z8S g i=i:=by
   rcases hJ with hJ|hJ
   ·exact hJ.1
   ·have hd2:Nat.blt (Y4 (fun j=>YC (V1 (g i)) (V1 (g j))) i) i=false:=hd
    rw [ZcE hJ.1] at hd2;cases hd2
  subst hX
  refine ⟨hf,by omega,hf,⟨by omega,by omega⟩,by simp;omega,by rw [w64 (by omega)];omega,rfl,Nat.le_refl _,hM1.symm,ZeB,rfl,h1 hlt hp hq⟩
def shM (g:Nat->YP):Nat->List Int
 | 0=>[0,0]
 | i+1=>(shM g i).set (g i).frm.toNat (i64.wrap ((shM g i).getD (g i).frm.toNat 0+1))
theorem Za6 (g:Nat->YP):∀i,(shM g i).length=2
 | 0=>rfl
 | i+1=>by simp [shM,Za6 g i]
theorem ZeC (a0 a1:Int) (g:Nat->YP) (i:Nat):shX a0 a1 g (i+1)=shX a0 a1 g i++[(g i).amount]:=by simp [shX,List.range_succ]
theorem Za7 (a0 a1:Int) (g:Nat->YP) (i:Nat):(shX a0 a1 g i).length=i+2:=by simp [shX]
def Z8T (g:Nat->YP) (i:Nat):Prop:=Ub (g i)=true/\Z8S g i=i
noncomputable def Zl9 (t:ZV) (n:Nat) (g:Nat->YP) (a0 a1:Int) (A:List Int->Int×Int):Zg:=((((E91.withP 58 Z6S).withP 60 inQ).withP 63 (ZcM A))).withL 18 0 (goM 0 (Zh1 t n g (shX a0 a1 g 0) (shM g 0) 0) (n<1000) (YJ 0 n 0 (fun i=>Z8T g i/\i<n) (fun i=>i=n) (fun _=>False) (fun i=>i<n/\¬Z8T g i) (fun i=>Zl7 t (shX a0 a1 g i) (shM g i)) (fun _=>Zh2) (fun _=>Zh2)))
theorem Zh3 (t:ZV) (n:Nat) (g:Nat->YP) (a0 a1:Int):(Zl9 t n g a0 a1 Z3d).Ok:=by
 have h0:((((E91.withP 58 Z6S).withP 60 inQ).withP 63 (ZcM Z3d))).Ok:=Zg.withP_ok (Zg.withP_ok (Zg.withP_ok ZeA Z6T) Zdh) ZcN
 refine Zg.withL_join (H:=E91) h0 rfl ?_
 exact Zg.withGoM (N:=20) (S:=fun i=>Zh1 t n g (shX a0 a1 g i) (shM g i) i) ZeA (by kernel_rfl) fun hC=>⟨rfl,fun i hi _=>Zl8 t n i g _ _ _ _ _ _ _ hC hi (ZeC a0 a1 g i) (by rw [Za7];omega) (Za6 g i) rfl (fun a b c=>⟨⟨⟨b,c⟩,a⟩,a⟩) (fun h=>h) (fun a b=>⟨a,fun hg=>by
  rcases b with b|b
  ·rw [hg.1] at b;cases b
  ·have:=hg.2;omega⟩)⟩
def shB (A:List Int->Int×Int) (t:ZV) (s:ShS):Bool:=Xo t&&decide (0<=s.num/\s.num<=2147483647)&&decide (0<=s.owner/\s.owner<=1)&&decide (t.fee<=s.a0)&&(List.range s.n).all (fun i=>Ub (s.g i)&&Nat.beq (Z8S s.g i) i)&&decide ((shM s.g s.n).getD 0 0<=8)&&decide ((shM s.g s.n).getD 1 0<=8)&&decide ((A (shX s.a0 s.a1 s.g s.n)).2=0)&&decide ((A (shX s.a0 s.a1 s.g s.n)).1=t.cap)
theorem Za8 {A:List Int->Int×Int} {t:ZV} {s:ShS}:shB A t s=true↔Xo t=true/\(0<=s.num/\s.num<=2147483647)/\(0<=s.owner/\s.owner<=1)/\t.fee<=s.a0/\(∀i,i<s.n->Z8T s.g i)/\(shM s.g s.n).getD 0 0<=8/\(shM s.g s.n).getD 1 0<=8/\(A (shX s.a0 s.a1 s.g s.n)).2=0/\(A (shX s.a0 s.a1 s.g s.n)).1=t.cap:=by
 unfold shB
 simp only [Bool.and_eq_true,decide_eq_true_eq,and_assoc,List.all_eq_true,List.mem_range]
 have e:(∀i,i<s.n->Ub (s.g i)=true/\Nat.beq (Z8S s.g i) i=true)↔∀i,i<s.n->Z8T s.g i:=by
  constructor
  ·intro h i hi;exact ⟨(h i hi).1,Nat.eq_of_beq_eq_true (h i hi).2⟩
  ·intro h i hi;exact ⟨(h i hi).1,by rw [(h i hi).2];exact Nat.beq_refl _⟩
 rw [e]
theorem Zla (t:ZV) (s:ShS) (A:List Int->Int×Int) (e:Int) (ht:t.Ok) (hn:s.n<1000) (he:e=if shB A t s=true then 0 else 2):
  evF (Zl9 t s.n s.g s.a0 s.a1 A) 20 18 [.agg t.c,.agg s.c] ⟨0,[]⟩ (Y5 0 (.ret (.int .i64 e)) 0 []):=by
 refine @Eq.mpr _ (let q1:=t.fund;let q2:=t.index;let q3:=t.cap;let q4:=t.dust;let q5:=t.fee;let q6:=t.delay;let q7:=t.k0;let q8:=t.k1;let q9:=ZV.mk q1 q2 q3 q4 q5 q6 q7 q8;let q10:=Z0 (decide ((2:Int)=e)) True False;let q11:=decide (q5=q5);let q12:=s.a0;let q13:=decide (q12=q12);let q14:=false==decide ((0:Int)<=s.num/\s.num<=(2147483647:Int));let q15:=s.n;let q16:=(↑q15:Int);let q17:=decide (q15=q15);let q18:=s.g;let q19:=Z7m q18;let q20:=s.a1;
 ZV.Ok q9/\
 Z0 ((if Xo q9=true then (0:Int) else (2:Int)) !=(0:Int)) q10
 (Z0 (decide ((0:Int)<=s.owner))
 (Z0 q11
 (Z0 q13
 (Z0 q14 q10
 (Z0 (false==decide (s.owner<=(1:Int))) q10
 (Z0 (false==decide (q12>=q5)) q10
 (Z0 (decide (q16=q16))
 (Z0 q17
 (q19=q19/\
 Z0 q17
 (q1=q1/\
 Z0 (decide (q2=q2))
 (Z0 (decide (q3=q3))
 (Z0 (decide (q4=q4))
 (Z0 q11
 (Z0 (decide (q6=q6))
 (q7=q7/\
 q8=q8/\
 [(0:Int),(0:Int)]=shM q18 (0:Nat)/\
 (QN (0:Nat) [((0:Nat),(0:Nat)),((3:Nat),(5:Nat)),((1:Nat),(2:Nat)),((2:Nat),(3:Nat))] (0:Nat) (fun (j:Nat)=>AV.agg [AV.arr i64 (2:Nat) [(q18 j).frm,(q18 j).id]]) (fun (x:Nat)=>AV.bool true) (fun (i:Nat)=>AV.top) fun (i:Nat)=>AV.top)/\
 [q12,q20]=shX q12 q20 q18 (0:Nat)/\
 q15<(1000:Nat)/\
 ∀(i:Nat),
 let q41:=List.getD (shM q18 i) (1:Nat) (0:Int);let q42:=List.getD (shM q18 i) (0:Nat) (0:Int);let q43:=shX q12 q20 q18 i;let q44:=List.length q43;let q45:=List.take q44 (YH (0:Nat) q43);let q46:=A q45;
 i<=q15->(∀(j:Nat),j<i->(fun (i:Nat)=>Z8T q18 i/\i<q15) j)->(i=q15->Z0 (decide ((if q41>q42 then q41 else q42)>(8:Int))) q10 (Z0 (decide ((0:Nat)+q44<=q44)) (Z0 (decide (q44=List.length q45/\q44<(900000000000:Nat))) (Z0 (q46.snd !=(0:Int)) q10 (Z0 (q46.fst !=q3) q10 (Z0 (decide ((0:Int)=e)) True False))) False) False))/\(False->False)/\(i<q15/\¬Z8T q18 i->q10))
 False)
 False)
 False)
 False)
 False)
 False)
 False)
 False))))
 False)
 False)
 (Z0 q11 (Z0 q13 (Z0 q14 q10 q10) False) False))) (by kernel_rfl) ?_
 conv=>zeta
 try simp only [Zj]
 try simp only [Zl]
 try simp only [Zi]
 try simp only [Zm]
 try simp only [Zn]
 try simp only [Zh]
 try simp only [Int.toNat_natCast,Nat.zero_add,true_and,and_true,Nat.le_refl]
 have e0:(ZV.mk t.fund t.index t.cap t.dust t.fee t.delay t.k0 t.k1)=t:=rfl
 rw [e0]
 have no:¬(shB A t s=true)->2=e:=fun h=>by rw [he,if_neg h]
 have hsh:=Za8 (A:=A) (t:=t) (s:=s)
 have hX:=Za7 s.a0 s.a1 s.g s.n
 have hdz:List.take (shX s.a0 s.a1 s.g s.n).length (YH 0 (shX s.a0 s.a1 s.g s.n))=shX s.a0 s.a1 s.g s.n:=by rw [Yw,List.drop_zero,List.take_length]
 refine ⟨ht,fun k=>no fun h=> ?_,fun k1=>⟨fun k2=>⟨fun k=>no fun h=> ?_,fun k3=>⟨fun k=>no fun h=> ?_,fun k4=>⟨fun k=>no fun h=> ?_,fun k5=>⟨rfl,⟨fun j hj=>absurd hj (Nat.not_lt_zero j)⟩,rfl,hn,fun i hi hg=>⟨fun hin=> ?_,fun h=>h.elim,fun hng=>no fun h=>hng.2 ((hsh.1 h).2.2.2.2.1 i hng.1)⟩⟩⟩⟩⟩,fun k2=>⟨fun k=>no fun h=> ?_,fun k=>no fun h=> ?_⟩⟩⟩
 ·have:=(hsh.1 h).1;rw [Zex.1,this] at k;cases k
 ·have:=(hsh.1 h).2.1;simp [this] at k
 ·have:=(hsh.1 h).2.2.1;simp at k;omega
 ·have:=(hsh.1 h).2.2.2.1;simp at k;omega
 ·subst hin
  rw [hdz]
  have ht':Xo t=true:=Zex.2.1 k1
  have k3:0<=s.num/\s.num<=2147483647:=by simpa using k3
  have k4:s.owner<=1:=by simpa using k4
  have k5:t.fee<=s.a0:=by simpa using k5
  refine ⟨fun k6=>no fun h=> ?_,fun k6=>⟨⟨rfl,by omega⟩,fun k7=>no fun h=> ?_,fun k7=>⟨fun k8=>no fun h=> ?_,fun k8=> ?_⟩⟩⟩
  ·have:=(hsh.1 h).2.2.2.2.2;split at k6<;>omega
  ·have:=(hsh.1 h).2.2.2.2.2.2.2.1;simp [this] at k7
  ·have:=(hsh.1 h).2.2.2.2.2.2.2.2;simp [this] at k8
  ·have:shB A t s=true:=hsh.2 ⟨ht',k3,⟨k2,k4⟩,k5,fun i hi=>(hg i hi).1,by split at k6<;>omega,by split at k6<;>omega,by simpa using k7,by simpa using k8⟩
   rw [he,if_pos this]
 ·have:=(hsh.1 h).2.1;simp [this] at k
 ·have:=(hsh.1 h).2.2.1;omega
end Go.Tk
end
section
namespace Go.Tk
open IntKind (i64 u8 u32 u64 wrap)
end Go.Tk
end
section
namespace Go.Tk
open IntKind (i64 u8 u32 u64 wrap)
def ZbB (p:YF):YP:=⟨p.frm,p.id,p.amount,p.hash,p.expiry⟩
def pdG (P:List YF) (i:Nat):YP:=ZbB (P.getD i Z7b)
def Zh4 (X:Z8) (o:Bool) (k:Int) (pt:List Int):ShS:=⟨k,ZD X.side o,pt,(Xh X o).1,(Xh X o).2,(ZI X.side o X.L).length,pdG (ZI X.side o X.L)⟩
def Za9 (l:List AV) (X:Z8) (o:Bool) (k:Int) (pt:List Int):Prop:=match l with
 | [.int .i64 nu,.int .i64 ow,.arr .u8 32 po,.arr .i64 2 am,.vrows 36 n f m]=>(k=nu/\ZD X.side o=ow/\pt=po/\am=[(Xh X o).1,(Xh X o).2])/\(m=n/\(ZI X.side o X.L).length=n)/\∀i,i<n->f i=ZH (ZI X.side o X.L) i
 | _=>False
theorem Za9.rel {l:List AV} {X:Z8} {o:Bool} {k:Int} {pt:List Int} (h:Za9 l X o k pt) {E:Env} {r:Value} (hv:Zk E (.agg l) r):Zk E (.agg (Zh4 X o k pt).c) r:=by
 unfold Za9 at h
 split at h
 ·rename_i nu ow po am n f m
  obtain ⟨⟨rfl,rfl,rfl,rfl⟩,⟨rfl,rfl⟩,h2⟩:=h
  cases hv with
  | agg cs vs hc=>
   obtain ⟨c1,ws,rfl,_,q1,p1,hc⟩:=Zw.cons_cell hc (fun _ _ _ h=>by cases h)
   obtain ⟨c2,ws,rfl,_,q2,p2,hc⟩:=Zw.cons_cell hc (fun _ _ _ h=>by cases h)
   obtain ⟨w3,e3,hc3⟩:=Zw.cons_arr hc
   obtain ⟨w4,e4,hc4⟩:=Zw.cons_arr hc3
   obtain ⟨c5,w5,e5,_,q5,p5,hc5⟩:=Zw.cons_cell hc4 (fun _ _ _ h=>by cases h)
   cases hc5
   subst e5 e4 e3
   exact .agg _ _ (.one _ _ _ _ rfl q1 p1 (.one _ _ _ _ rfl q2 p2 (.arr _ _ _ _ _ (.arr _ _ _ _ _ (.one _ _ _ _ rfl q5 (p5.rowsC h2) .nil)))))
 ·exact h.elim
end Go.Tk
end
section
namespace Go.Tk
open IntKind (i64 u8 u32 u64 wrap)
theorem ZeD {m:Int} {xs:List Int} (h:∀y∈xs,0<=y/\y<=m):allIn m xs=true:=by
 unfold allIn
 rw [Bool.not_eq_true',List.any_eq_false]
 intro i hi
 have hi:=List.mem_range.1 hi
 have hy:=h _ (List.getElem_mem hi)
 have e:xs.getD i 0=xs[i]:=by rw [List.getD_eq_getElem?_getD,List.getElem?_eq_getElem hi];rfl
 unfold YL
 rw [e]
 generalize xs[i]=y at*
 simp [Uy]
 omega
def Z1B (P:List YF):Int:=(P.map (·.amount)).sum
theorem Zaa {side:Int} {o:Bool} (hs:side=0\/side=1):∀(L:List Z7) (p:Int×Int),(∀x∈L,0<=x.amount)->
  p.1-(Xe (ZP side 0 L)).sum<=(Xg side o p L).1/\p.2-(Xe (ZP side 1 L)).sum<=(Xg side o p L).2/\(Xg side o p L).1+(Xg side o p L).2+Z1B (ZI side o L)=p.1+p.2
 | [],p,_=>by
  show p.1-0<=p.1/\p.2-0<=p.2/\p.1+p.2+0=p.1+p.2
  omega
 | x::r,p,hA=>by
  have hx:=hA x (by simp)
  obtain ⟨h1,h2,h3⟩:=Zaa (o:=o) hs r (srP side o p x) (fun y hy=>hA y (by simp [hy]))
  have e:Xg side o p (x::r)=Xg side o (srP side o p x) r:=rfl
  rw [e]
  have hf:ZD side x.own=0\/ZD side x.own=1:=by unfold ZD;cases x.own<;>rcases hs with h|h<;>(subst h;decide)
  have e2:Z1B (ZI side o (x::r))=(if YG x.own x.stage o=true then x.amount else 0)+Z1B (ZI side o r):=by
   unfold Z1B ZI
   rw [List.filter_cons]
   split
   ·rw [List.map_cons,List.map_cons,List.sum_cons];rfl
   ·rw [Int.zero_add]
  have e3:(Xe (ZP side 0 (x::r))).sum=(if ZD side x.own=0 then x.amount else 0)+(Xe (ZP side 0 r)).sum:=by
   unfold Xe ZP
   rw [List.filter_cons]
   by_cases h:ZD side x.own=0
   ·rw [if_pos (by simp [h]),if_pos h,List.map_cons,List.sum_cons]
   ·rw [if_neg (by simp [h]),if_neg h,Int.zero_add]
  have e4:(Xe (ZP side 1 (x::r))).sum=(if ZD side x.own=1 then x.amount else 0)+(Xe (ZP side 1 r)).sum:=by
   unfold Xe ZP
   rw [List.filter_cons]
   by_cases h:ZD side x.own=1
   ·rw [if_pos (by simp [h]),if_pos h,List.map_cons,List.sum_cons]
   ·rw [if_neg (by simp [h]),if_neg h,Int.zero_add]
  rw [e2,e3,e4]
  have hp:(srP side o p x).1=p.1-(if ZD side x.own=0 then x.amount else 0)/\(srP side o p x).2=p.2-(if ZD side x.own=1 then x.amount else 0)/\YG x.own x.stage o=true\/(p.1-(if ZD side x.own=0 then x.amount else 0)<=(srP side o p x).1/\p.2-(if ZD side x.own=1 then x.amount else 0)<=(srP side o p x).2/\(srP side o p x).1+(srP side o p x).2=p.1+p.2/\¬YG x.own x.stage o=true):=by
   unfold srP
   cases hst:YG x.own x.stage o with
   | true=>
    left
    rcases hf with h|h<;>simp [h]
   | false=>
    right
    dsimp only
    by_cases c6:6<x.stage
    ·rw [if_pos c6]
     unfold XT
     by_cases d:x.fin=1
     ·rw [if_pos d]
      rcases hf with h|h<;>simp [h]<;>omega
     ·rw [if_neg d]
      rcases hf with h|h<;>simp [h]<;>omega
    ·rw [if_neg c6]
     rcases hf with h|h<;>simp [h]<;>omega
  rcases hp with ⟨q1,q2,q3⟩|⟨q1,q2,q3,q4⟩
  ·rw [if_pos q3]
   rw [q1] at h1 h3
   rw [q2] at h2 h3
   rcases hf with h|h<;>simp [h] at* <;>omega
  ·rw [if_neg q4]
   refine ⟨?_, ?_, ?_⟩<;>omega
theorem Zh5 (P:List YF) (a b:Int):shX a b (pdG P) P.length=a::b::P.map (·.amount):=by
 unfold shX
 congr 2
 refine List.ext_getElem (by simp) fun i h1 h2=> ?_
 have hi:i<P.length:=by simpa using h1
 simp only [List.getElem_map,List.getElem_range]
 unfold pdG ZbB
 rw [List.getD_eq_getElem?_getD,List.getElem?_eq_getElem hi]
 rfl
def cntF (s:Int) (P:List YF):Nat:=(P.filter fun p=>decide (p.frm=s)).length
theorem Zab {P:List YF} (hP:∀p∈P,p.frm=0\/p.frm=1) (hn:P.length<=1000):∀i,i<=P.length->shM (pdG P) i=[(cntF 0 (P.take i):Int),(cntF 1 (P.take i):Int)]
 | 0,_=>rfl
 | i+1,hi=>by
  have ih:=Zab hP hn i (by omega)
  have hlt:i<P.length:=hi
  have hg:pdG P i=ZbB P[i]:=by unfold pdG;rw [List.getD_eq_getElem?_getD,List.getElem?_eq_getElem hlt];rfl
  have ht:P.take (i+1)=P.take i++[P[i]]:=(List.take_append_getElem hlt).symm
  have hc (s:Int):cntF s (P.take (i+1))=cntF s (P.take i)+(if P[i].frm=s then 1 else 0):=by
   unfold cntF
   rw [ht,List.filter_append,List.length_append,List.filter_cons]
   by_cases h:P[i].frm=s<;>simp [h]
  have hl (s:Int):cntF s (P.take i)<=1000:=by
   unfold cntF
   have:=List.length_filter_le (fun p:YF=>decide (p.frm=s)) (P.take i)
   rw [List.length_take] at this
   omega
  have l0:=hl 0
  have l1:=hl 1
  unfold shM
  rw [ih,hg,hc,hc]
  have hfr:(ZbB P[i]).frm=P[i].frm:=rfl
  rw [hfr]
  rcases hP _ (List.getElem_mem hlt) with h|h
  ·rw [h]
   show [i64.wrap ((cntF 0 (P.take i):Int)+1),(cntF 1 (P.take i):Int)]=[((cntF 0 (P.take i)+1:Nat):Int),((cntF 1 (P.take i)+0:Nat):Int)]
   rw [w64 (by omega)]
   congr 1
  ·rw [h]
   show [(cntF 0 (P.take i):Int),i64.wrap ((cntF 1 (P.take i):Int)+1)]=[((cntF 0 (P.take i)+0:Nat):Int),((cntF 1 (P.take i)+1:Nat):Int)]
   rw [w64 (by omega)]
   congr 1
theorem Zac (side:Int) (o:Bool) (s:Int) (L:List Z7):cntF s (ZI side o L)<=(ZP side s L).length:=by
 unfold cntF ZI ZP
 rw [List.filter_map,List.length_map,List.filter_filter]
 have e:((fun h:Z7=>(((fun p:YF=>decide (p.frm=s))∘Qt side) h)&&YG h.own h.stage o))=fun h=>(decide (ZD side h.own=s))&&YG h.own h.stage o:=by
  funext h;rfl
 rw [e]
 rw [<-List.countP_eq_length_filter,<-List.countP_eq_length_filter]
 exact List.countP_mono_left fun x _ h=>by
  simp only [Bool.and_eq_true] at h
  exact h.1
theorem Zh6 {p q:YP} (h:p.frm=q.frm->¬p.id=q.id):YC (V1 p) (V1 q)=false:=by
 unfold V1
 rw [Bool.eq_false_iff]
 intro hc
 simp [YC,VR,QB] at hc
 exact h hc.1 hc.2
theorem ZeE {side:Int} (hs:side=0\/side=1) (o:Bool):ZD side o=0\/ZD side o=1:=by unfold ZD;cases o<;>rcases hs with h|h<;>(subst h;decide)
theorem Z8U {H:List Int->List Int} {X:Z8} (hX:X.Inv H) (o:Bool):(ZI X.side o X.L).Pairwise fun a b=>b.frm=a.frm->¬b.id=a.id:=by
 unfold ZI
 rw [List.pairwise_map]
 refine (hX.fol.filter _).imp fun {a b} hab=> ?_
 have hs:=hX.side
 intro h1 h2
 have h1:ZD X.side b.own=ZD X.side a.own:=h1
 have h2:b.id=a.id:=h2
 rcases hab with ⟨h3,h4⟩|⟨_,h3,_⟩
 ·rw [h3,h4] at h1
  have h1:1-X.side=X.side:=h1
  omega
 ·omega
theorem Zh7 {H:List Int->List Int} {X:Z8} {o:Bool} {k:Int} {pt:List Int} (hX:X.Inv H) (hk:0<=k/\k<=2147483647):shB Z3d X.t (Zh4 X o k pt)=true:=by
 have hs:=hX.side
 have hn:∀x∈X.L,(0<=x.id/\x.id<=2147483647)/\(1<=x.amount/\x.amount<=1125899906842624)/\1<=x.expiry/\x.expiry<=2147483647:=fun x hx=>by
  have hu:=hX.und x hx
  unfold XE Yp at hu
  simp only [Bool.and_eq_true,decide_eq_true_eq] at hu
  exact ⟨hu.1.1.1.1.1,hu.1.1.1.1.2,hu.1.1.1.2⟩
 obtain ⟨h1,h2,h3⟩:=Zaa (o:=o) hs X.L (X.a0,X.a1) (fun x hx=>by have:=hn x hx;omega)
 have tb:=Y0 hX.tb
 have hov0:=hX.ov0
 have hov1:=hX.ov1
 have ha:=hX.a0
 have ha1:=hX.a1
 have hr:=hX.res
 unfold Yl Z8.am at hov0 hov1
 simp only [if_true,if_false] at hov0 hov1
 rw [if_neg (by decide),if_neg (by decide)] at hov1
 have hb1:0<=(Xg X.side o (X.a0,X.a1) X.L).2:=by
  rcases hov1 with h|h
  ·rw [h] at h2
   have h2:X.a1-0<=_:=h2
   omega
  ·have h2:X.a1-_<=_:=h2
   omega
 have hb0:X.t.fee<=(Xg X.side o (X.a0,X.a1) X.L).1:=by
  have h1:X.a0-_<=_:=h1
  omega
 have hsum:(Xg X.side o (X.a0,X.a1) X.L).1+(Xg X.side o (X.a0,X.a1) X.L).2+Z1B (ZI X.side o X.L)=X.t.cap:=by
  have h3:_=X.a0+X.a1:=h3
  omega
 have hlen:=WH X.side o X.L
 have hL:=hX.len
 have hpn:∀p∈ZI X.side o X.L,(p.frm=0\/p.frm=1)/\(0<=p.id/\p.id<=2147483647)/\(1<=p.amount/\p.amount<=1125899906842624)/\1<=p.expiry/\p.expiry<=2147483647:=fun p hp=>by
  unfold ZI at hp
  obtain ⟨x,hx,rfl⟩:=List.mem_map.1 hp
  have hx:=(List.mem_filter.1 hx).1
  exact ⟨ZeE hs x.own,hn x hx⟩
 have hp0:0<=Z1B (ZI X.side o X.L):=by
  unfold Z1B
  have:∀l:List YF,(∀p∈l,1<=p.amount)->0<=(l.map (·.amount)).sum:=by
   intro l
   induction l with
   | nil=>intro _;exact Int.le_refl 0
   | cons y r ih=>
    intro h
    rw [List.map_cons,List.sum_cons]
    have:=ih fun p hp=>h p (by simp [hp])
    have:=h y (by simp)
    omega
  exact this _ fun p hp=>(hpn p hp).2.2.1.1
 have hM:=Zab (fun p hp=>(hpn p hp).1) (by omega) (ZI X.side o X.L).length (Nat.le_refl _)
 rw [List.take_length] at hM
 have c0:=Zac X.side o 0 X.L
 have c1:=Zac X.side o 1 X.L
 have n0:=hX.n0
 have n1:=hX.n1
 have hA:Z3d (shX (Xh X o).1 (Xh X o).2 (pdG (ZI X.side o X.L)) (ZI X.side o X.L).length)=(X.t.cap,0):=by
  rw [Zh5]
  have e:((Xh X o).1::(Xh X o).2::(ZI X.side o X.L).map (·.amount)).sum=X.t.cap:=by
   rw [List.sum_cons,List.sum_cons,<-hsum]
   show (Xg X.side o (X.a0,X.a1) X.L).1+((Xg X.side o (X.a0,X.a1) X.L).2+Z1B (ZI X.side o X.L))=_
   omega
  have hin:allIn 1125899906842624 ((Xh X o).1::(Xh X o).2::(ZI X.side o X.L).map (·.amount))=true:=by
   refine ZeD fun y hy=> ?_
   simp only [List.mem_cons,List.mem_map] at hy
   rcases hy with rfl|rfl|⟨p,hp,rfl⟩
   ·show 0<=(Xg X.side o (X.a0,X.a1) X.L).1/\(Xg X.side o (X.a0,X.a1) X.L).1<=_
    omega
   ·show 0<=(Xg X.side o (X.a0,X.a1) X.L).2/\(Xg X.side o (X.a0,X.a1) X.L).2<=_
    omega
   ·have:=hpn p hp
    omega
  unfold Z3d
  rw [if_pos hin,e,if_pos (by omega)]
 have hgo:∀i,i<(ZI X.side o X.L).length->Z8T (pdG (ZI X.side o X.L)) i:=fun i hi=>by
  have hg (j:Nat) (hj:j<(ZI X.side o X.L).length):pdG (ZI X.side o X.L) j=ZbB (ZI X.side o X.L)[j]:=by unfold pdG;rw [List.getD_eq_getElem?_getD,List.getElem?_eq_getElem hj];rfl
  refine ⟨?_, ?_⟩
  ·rw [hg i hi]
   obtain ⟨q1,q2,q3,q4⟩:=hpn _ (List.getElem_mem hi)
   unfold Ub ZbB
   simp only [Bool.and_eq_true,decide_eq_true_eq]
   exact ⟨⟨⟨by omega,q2⟩,q3⟩,q4⟩
  ·unfold Z8S
   refine Z1h fun j hj=> ?_
   have hp:=List.pairwise_iff_getElem.1 (Z8U hX o) j i (by omega) hi hj
   rw [hg i hi,hg j (by omega)]
   exact Zh6 hp
 rw [Za8]
 refine ⟨hX.tb,hk, ?_,hb0,hgo, ?_, ?_, ?_, ?_⟩
 ·have:=ZeE hs o
  show 0<=ZD X.side o/\ZD X.side o<=1
  omega
 ·show (shM (pdG (ZI X.side o X.L)) (ZI X.side o X.L).length).getD 0 0<=8
  rw [hM]
  show (cntF 0 (ZI X.side o X.L):Int)<=8
  omega
 ·show (shM (pdG (ZI X.side o X.L)) (ZI X.side o X.L).length).getD 1 0<=8
  rw [hM]
  show (cntF 1 (ZI X.side o X.L):Int)<=8
  omega
 ·exact congrArg Prod.snd hA
 ·exact congrArg Prod.fst hA
def Zlb:ZR:=fun args h K=>ZU none h true 20 args fun a=>match a with
 | [.agg [.arr .u8 32 fu,.int .i64 ix,.int .i64 ca,.int .i64 du,.int .i64 fe,.int .i64 de,.arr .u8 32 k0,.arr .u8 32 k1],.agg l]=>∃X o k pt,(X.Inv Zs/\0<=k/\k<=2147483647)/\(X.t=⟨fu,ix,ca,du,fe,de,k0,k1⟩)/\Za9 l X o k pt/\K (.int .i64 0)
 | _=>False
theorem Zh8 (args:List AV) (h:Za) (K:AV->Prop) (hl:Zlb args h K):Zp PP 18 args h fun o h'=>∃v,o=.ret v/\h'=h/\K v:=by
 refine ZC.psumm (d:=20) (Zu _ _ _ _ _ hl fun a ha=> ?_)
 split at ha
 ·obtain ⟨X,o,k,pt,⟨hI,hk⟩,ht,hs,hK⟩:=ha
  have hb:=Zh7 (o:=o) (pt:=pt) hI hk
  have hn:(Zh4 X o k pt).n<1000:=by
   have h1:=WH X.side o X.L
   have h2:=hI.len
   show (ZI X.side o X.L).length<1000
   omega
  have hT:=hI.tok
  rw [ht] at hb hT
  refine ⟨_,(ZC.evM (Zh3 _ _ _ _ _) (Zla ⟨_,_,_,_,_,_,_,_⟩ (Zh4 X o k pt) Z3d 0 hT hn (by rw [if_pos hb]))).conv fun E r hr=>hr.head (fun _ hc=>hc) (fun _ hc=>hc.head (fun _ hc=>hs.rel hc) (fun _ hc=>hc)),fun _=>rfl,hK⟩
 ·exact ha.elim
end Go.Tk
end
section
namespace Go.Tk
open IntKind (i64 u8 u32 u64 wrap)
noncomputable def Zjy (H1:List Int->List Int) (B:Nat):Zg:=(G0.withP 144 Zl1).withP 79 (Zdb H1 B)
theorem Zad:(Zjy WB 1000).Ok:=Zg.withP_ok (Zg.withP_ok Zv ZgW) (Z6K fun xs h=>Z4K xs (by omega))
theorem Zlc (X:Z8) (n:Nat) (own:Bool) (id k e:Int) (sec:List Int) (H1:List Int->List Int) (B:Nat) (hn:X.L.length=n) (hlen:X.L.length<1000) (hOk:∀h∈X.L,h.Ok) (hsec:sec.length=32) (hl:(H1 sec).length=32) (hB:32<=B) (he:e=Xd H1 X own id k sec) (hne:e≠0):
  evF (Zjy H1 B) 20 106 [.agg (X.c (slH 0 n)),.bool own,.int .i64 id,.int .i64 k,.agg [.arr .u8 32 sec]] ⟨1,[(0,.rows 70 n (Z6 X.L))]⟩ (Y5 1 (.ret (.tuple [.agg (X.c (slH 0 n)),.int .i64 e])) 1 [(0,.rows 70 n (Z6 X.L))]):=by
 refine @Eq.mpr _ (let q1:=0+n;let q2:=decide (q1<=n);let q3:=X.t;let q4:=q3.fund;let q5:=q3.index;let q6:=q3.cap;let q7:=q3.dust;let q8:=q3.fee;let q9:=q3.delay;let q10:=q3.k0;let q11:=q3.k1;let q12:=X.side;let q13:=X.res;let q14:=[X.a0,X.a1];let q15:=[X.i0,X.i1];let q16:=Z6 X.L;let q17:=q4=q4;let q18:=decide (q5=q5);let q19:=decide (q6=q6);let q20:=decide (q7=q7);let q21:=decide (q8=q8);let q22:=decide (q9=q9);let q23:=q10=q10;let q24:=q11=q11;let q25:=decide (q12=q12);let q26:=decide (q13=q13);let q27:=q14=q14;let q28:=q15=q15;let q29:=decide (n=n);let q30:=decide (n<=n);let q31:=Z0 q29 (Zb 1 [] n q16 q16/\True) False;let q32:=List.length sec;let q33:=decide (q1*112<=140737488355328);let q34:=q17/\Z0 q18 (Z0 q19 (Z0 q20 (Z0 q21 (Z0 q22 (q23/\q24/\Z0 q25 (Z0 q26 (q27/\q28/\False) False) False) False) False) False) False) False;
 Z0 q2
 ((∀(i:Nat),i<n->true=true)/\
 ∃(X_1:Z8),
 let q69:=fiV own id X_1.L;let q70:=decide (0<=q69/\q69< ↑n);let q71:=0+Int.toNat q69;let q72:=List.getD X.L q71 Zc;let q73:=q72.hash;let q74:=decide (0<=q69/\q69< ↑q1);
 LV [AV.arr u8 32 q4,AV.int i64 q5,AV.int i64 q6,AV.int i64 q7,AV.int i64 q8,AV.int i64 q9,AV.arr u8 32 q10,AV.arr u8 32 q11,AV.int i64 q12,AV.int i64 q13,AV.arr i64 2 q14,AV.arr i64 2 q15,AV.vrows 70 n (ZT 0 q16) n] X_1/\
 List.length X_1.L<1000/\
 Z0 (decide (q69<0)) (q17/\Z0 q18 (Z0 q19 (Z0 q20 (Z0 q21 (Z0 q22 (q23/\q24/\Z0 q25 (Z0 q26 (q27/\q28/\Z0 q29 (Z0 q30 (Z0 (decide (5=e)) q31 False) False) False) False) False) False) False) False) False) False)
 (Z0 q70
 (Z0 (decide (q71<n))
 (Z0 (q72.stage !=5) (q17/\Z0 q18 (Z0 q19 (Z0 q20 (Z0 q21 (Z0 q22 (q23/\q24/\Z0 q25 (Z0 q26 (q27/\q28/\Z0 q29 (Z0 q30 (Z0 (decide (190=e)) q31 False) False) False) False) False) False) False) False) False) False)
 (Z0 (k==1) (Z0 q70 (Z0 (decide (q71<n)) (Z0 (decide (q32=32)) (Z0 (decide (32=q32)) (Z0 (decide (q32<=B)) (Z0 (decide (List.length (H1 sec)=32/\List.length q73=32)) (Z0 (!H1 sec==q73) (q17/\Z0 q18 (Z0 q19 (Z0 q20 (Z0 q21 (Z0 q22 (q23/\q24/\Z0 q25 (Z0 q26 (q27/\q28/\Z0 q29 (Z0 q30 (Z0 (decide (203=e)) q31 False) False) False) False) False) False) False) False) False) False) (Z0 q2 (Z0 q33 (Z0 q74 (Z0 (decide (q71<q1)) (Z0 q74 (Z0 (decide (q71<q1)) (Z0 q74 (Z0 (decide (q71<q1)) q34 False) False) False) False) False) False) False) False)) False) False) False) False) False) False) (Z0 q2 (Z0 q33 (Z0 q74 (Z0 (decide (q71<q1)) (Z0 q74 (Z0 (decide (q71<q1)) (Z0 q74 (Z0 (decide (q71<q1)) q34 False) False) False) False) False) False) False) False)))
 False)
 False))
 False) (by kernel_rfl) ?_
 conv=>zeta
 try simp only [Zj]
 try simp only [Zl]
 try simp only [Zi]
 try simp only [Zm]
 try simp only [Zn]
 try simp only [Zh]
 try simp only [Int.toNat_natCast,Nat.zero_add,true_and,and_true,Nat.le_refl]
 subst hn
 have hR:Zb 1 [] X.L.length (Z6 X.L) (Z6 X.L):=Zo fun _ _=>rfl
 unfold Xd at he
 refine ⟨fun _ _=>trivial,X,.a rfl,hlen, ?_⟩
 by_cases hI:ZW own id X.L<X.L.length
 ·have hv:fiV own id X.L=((ZW own id X.L:Nat):Int):=by unfold fiV;rw [if_pos hI]
  rw [hv]
  simp only [Int.toNat_natCast]
  rw [if_neg (by omega)] at he
  have h2:=(hOk _ (ZM hI)).hash
  have hi:(0:Int)<=((ZW own id X.L:Nat):Int)/\((ZW own id X.L:Nat):Int)<(X.L.length:Int):=by omega
  generalize hz:X.L.getD (ZW own id X.L) Zc=z at*
  refine ⟨fun h=>by omega,fun _=>⟨hi,hI,fun h5=>⟨?_,hR⟩,fun h5=>⟨fun hk=>⟨hi,hI,hsec,hsec.symm,by omega,⟨hl,h2⟩,fun hh=>⟨?_,hR⟩,fun hh=> ?_⟩,fun hk=> ?_⟩⟩⟩
  ·rw [he,if_pos (by simpa using h5)]
  ·rw [he,if_neg (by simpa using h5),if_pos ⟨by simpa using hk,by simpa using hh⟩]
  ·exact absurd (by rw [he,if_neg (by simpa using h5),if_neg (fun q=>q.2 (by simpa using hh))]) hne
  ·exact absurd (by rw [he,if_neg (by simpa using h5),if_neg (fun q=>by simp [q.1] at hk)]) hne
 ·have hv:fiV own id X.L= -1:=by unfold fiV;rw [if_neg hI]
  rw [hv]
  rw [if_pos (by omega)] at he
  exact ⟨fun _=>⟨he.symm,hR⟩,fun h=>by omega⟩
theorem Zld (X X':Z8) (n:Nat) (own:Bool) (id k:Int) (sec:List Int) (H1:List Int->List Int) (B:Nat) (hn:X.L.length=n) (hlen:X.L.length<1000) (hOk:∀h∈X.L,h.Ok) (hsec:sec.length=32) (hl:(H1 sec).length=32) (hB:32<=B) (he:Xd H1 X own id k sec=0) (hX':X'=endX H1 X own id k sec):
  evF (Zjy H1 B) 20 106 [.agg (X.c (slH 0 n)),.bool own,.int .i64 id,.int .i64 k,.agg [.arr .u8 32 sec]] ⟨1,[(0,.rows 70 n (Z6 X.L))]⟩ (Y5 1 (.ret (.tuple [.agg (X'.c (slH 1 n)),.int .i64 0])) 2 [(0,.rows 70 n (Z6 X.L)),(1,.rows 70 n (Z6 X'.L))]):=by
 refine @Eq.mpr _ (Z0 (decide ((0:Nat)+n<=n))
 ((∀(i:Nat),i<n->true=true)/\
 ∃(X_1:Z8),
 LV [AV.arr u8 (32:Nat) X.t.fund,AV.int i64 X.t.index,AV.int i64 X.t.cap,AV.int i64 X.t.dust,AV.int i64 X.t.fee,AV.int i64 X.t.delay,AV.arr u8 (32:Nat) X.t.k0,AV.arr u8 (32:Nat) X.t.k1,AV.int i64 X.side,AV.int i64 X.res,AV.arr i64 (2:Nat) [X.a0,X.a1],AV.arr i64 (2:Nat) [X.i0,X.i1],AV.vrows (70:Nat) n (ZT (0:Nat) (Z6 X.L)) n] X_1/\
 List.length X_1.L<(1000:Nat)/\
 Z0 (decide (fiV own id X_1.L<(0:Int))) False
 (Z0 (decide ((0:Int)<=fiV own id X_1.L/\fiV own id X_1.L<(↑n:Int)))
 (Z0 (decide ((0:Nat)+Int.toNat (fiV own id X_1.L)<n))
 (Z0 ((List.getD X.L ((0:Nat)+Int.toNat (fiV own id X_1.L)) Zc).stage !=(5:Int)) False
 (Z0 (k==(1:Int))
 (Z0 (decide ((0:Int)<=fiV own id X_1.L/\fiV own id X_1.L<(↑n:Int)))
 (Z0 (decide ((0:Nat)+Int.toNat (fiV own id X_1.L)<n))
 (Z0 (decide (List.length sec=(32:Nat)))
 (Z0 (decide ((32:Nat)=List.length sec))
 (Z0 (decide (List.length sec<=B))
 (Z0 (decide (List.length (H1 sec)=(32:Nat)/\List.length (List.getD X.L ((0:Nat)+Int.toNat (fiV own id X_1.L)) Zc).hash=(32:Nat)))
 (Z0 (!H1 sec==(List.getD X.L ((0:Nat)+Int.toNat (fiV own id X_1.L)) Zc).hash) False
 (Z0 (decide ((0:Nat)+n<=n))
 (Z0 (decide (((0:Nat)+n)*(112:Nat)<=(140737488355328:Nat)))
 (Z0 (decide ((0:Int)<=fiV own id X_1.L/\fiV own id X_1.L<(↑((0:Nat)+n):Int)))
 (Z0 (decide ((0:Nat)+Int.toNat (fiV own id X_1.L)<(0:Nat)+n))
 (Z0 (decide ((0:Int)<=fiV own id X_1.L/\fiV own id X_1.L<(↑((0:Nat)+n):Int)))
 (Z0 (decide ((0:Nat)+Int.toNat (fiV own id X_1.L)<(0:Nat)+n))
 (Z0 (decide ((0:Int)<=fiV own id X_1.L/\fiV own id X_1.L<(↑((0:Nat)+n):Int)))
 (Z0 (decide ((0:Nat)+Int.toNat (fiV own id X_1.L)<(0:Nat)+n))
 (X.t.fund=X'.t.fund/\
 Z0 (decide (X.t.index=X'.t.index))
 (Z0 (decide (X.t.cap=X'.t.cap))
 (Z0 (decide (X.t.dust=X'.t.dust))
 (Z0 (decide (X.t.fee=X'.t.fee))
 (Z0 (decide (X.t.delay=X'.t.delay))
 (X.t.k0=X'.t.k0/\
 X.t.k1=X'.t.k1/\
 Z0 (decide (X.side=X'.side))
 (Z0 (decide (X.res=X'.res))
 ([X.a0,X.a1]=[X'.a0,X'.a1]/\
 [X.i0,X.i1]=[X'.i0,X'.i1]/\
 Z0 (decide ((0:Nat)+n=n))
 (Z0 (decide (n<=(0:Nat)+n))
 (Z0 (decide (n=n))
 (Zb (1:Nat) [((1:Nat),(4:Nat))] n (Z6 X.L) (Z6 X.L)/\
 Z0 (decide ((0:Nat)+n=n))
 (Zb (1:Nat) [((1:Nat),(4:Nat))] n (Z6 X'.L)
 (Z0F
 (Z0F (Z0F (Y2 (0:Nat) (fun (x:Nat)=>[]) (ZT (0:Nat) (Z6 X.L))) ((0:Nat)+Int.toNat (fiV own id X_1.L)) [AV.bool (List.getD X.L ((0:Nat)+Int.toNat (fiV own id X_1.L)-(0:Nat)) Zc).own,AV.int i64 (List.getD X.L ((0:Nat)+Int.toNat (fiV own id X_1.L)-(0:Nat)) Zc).id,AV.int i64 (List.getD X.L ((0:Nat)+Int.toNat (fiV own id X_1.L)-(0:Nat)) Zc).amount,AV.arr u8 (32:Nat) (List.getD X.L ((0:Nat)+Int.toNat (fiV own id X_1.L)-(0:Nat)) Zc).hash,AV.int i64 (List.getD X.L ((0:Nat)+Int.toNat (fiV own id X_1.L)-(0:Nat)) Zc).expiry,AV.int i64 (6:Int),AV.int i64 (List.getD X.L ((0:Nat)+Int.toNat (fiV own id X_1.L)-(0:Nat)) Zc).fin,AV.arr u8 (32:Nat) (List.getD X.L ((0:Nat)+Int.toNat (fiV own id X_1.L)-(0:Nat)) Zc).secret]) ((0:Nat)+Int.toNat (fiV own id X_1.L))
 [AV.bool
 (match Nat.beq ((0:Nat)+Int.toNat (fiV own id X_1.L)) ((0:Nat)+Int.toNat (fiV own id X_1.L)) with
 | true=>(List.getD X.L ((0:Nat)+Int.toNat (fiV own id X_1.L)-(0:Nat)) Zc).own
 | false=>(List.getD X.L ((0:Nat)+Int.toNat (fiV own id X_1.L)-(0:Nat)) Zc).own),
 AV.int i64
 (match Nat.beq ((0:Nat)+Int.toNat (fiV own id X_1.L)) ((0:Nat)+Int.toNat (fiV own id X_1.L)) with
 | true=>(List.getD X.L ((0:Nat)+Int.toNat (fiV own id X_1.L)-(0:Nat)) Zc).id
 | false=>(List.getD X.L ((0:Nat)+Int.toNat (fiV own id X_1.L)-(0:Nat)) Zc).id),
 AV.int i64
 (match Nat.beq ((0:Nat)+Int.toNat (fiV own id X_1.L)) ((0:Nat)+Int.toNat (fiV own id X_1.L)) with
 | true=>(List.getD X.L ((0:Nat)+Int.toNat (fiV own id X_1.L)-(0:Nat)) Zc).amount
 | false=>(List.getD X.L ((0:Nat)+Int.toNat (fiV own id X_1.L)-(0:Nat)) Zc).amount),
 AV.arr u8 (32:Nat)
 (match Nat.beq ((0:Nat)+Int.toNat (fiV own id X_1.L)) ((0:Nat)+Int.toNat (fiV own id X_1.L)) with
 | true=>(List.getD X.L ((0:Nat)+Int.toNat (fiV own id X_1.L)-(0:Nat)) Zc).hash
 | false=>(List.getD X.L ((0:Nat)+Int.toNat (fiV own id X_1.L)-(0:Nat)) Zc).hash),
 AV.int i64
 (match Nat.beq ((0:Nat)+Int.toNat (fiV own id X_1.L)) ((0:Nat)+Int.toNat (fiV own id X_1.L)) with
 | true=>(List.getD X.L ((0:Nat)+Int.toNat (fiV own id X_1.L)-(0:Nat)) Zc).expiry
 | false=>(List.getD X.L ((0:Nat)+Int.toNat (fiV own id X_1.L)-(0:Nat)) Zc).expiry),
 AV.int i64
 (match Nat.beq ((0:Nat)+Int.toNat (fiV own id X_1.L)) ((0:Nat)+Int.toNat (fiV own id X_1.L)) with
 | true=>(6:Int)
 | false=>(List.getD X.L ((0:Nat)+Int.toNat (fiV own id X_1.L)-(0:Nat)) Zc).stage),
 AV.int i64 k,
 AV.arr u8 (32:Nat)
 (match Nat.beq ((0:Nat)+Int.toNat (fiV own id X_1.L)) ((0:Nat)+Int.toNat (fiV own id X_1.L)) with
 | true=>(List.getD X.L ((0:Nat)+Int.toNat (fiV own id X_1.L)-(0:Nat)) Zc).secret
 | false=>(List.getD X.L ((0:Nat)+Int.toNat (fiV own id X_1.L)-(0:Nat)) Zc).secret)])
 ((0:Nat)+Int.toNat (fiV own id X_1.L))
 [AV.bool
 (match Nat.beq ((0:Nat)+Int.toNat (fiV own id X_1.L)) ((0:Nat)+Int.toNat (fiV own id X_1.L)) with
 | true=>
 (match Nat.beq ((0:Nat)+Int.toNat (fiV own id X_1.L)) ((0:Nat)+Int.toNat (fiV own id X_1.L)) with
 | true=>(List.getD X.L ((0:Nat)+Int.toNat (fiV own id X_1.L)-(0:Nat)) Zc).own
 | false=>(List.getD X.L ((0:Nat)+Int.toNat (fiV own id X_1.L)-(0:Nat)) Zc).own)
 | false=>
 match Nat.beq ((0:Nat)+Int.toNat (fiV own id X_1.L)) ((0:Nat)+Int.toNat (fiV own id X_1.L)) with
 | true=>(List.getD X.L ((0:Nat)+Int.toNat (fiV own id X_1.L)-(0:Nat)) Zc).own
 | false=>(List.getD X.L ((0:Nat)+Int.toNat (fiV own id X_1.L)-(0:Nat)) Zc).own),
 AV.int i64
 (match Nat.beq ((0:Nat)+Int.toNat (fiV own id X_1.L)) ((0:Nat)+Int.toNat (fiV own id X_1.L)) with
 | true=>
 (match Nat.beq ((0:Nat)+Int.toNat (fiV own id X_1.L)) ((0:Nat)+Int.toNat (fiV own id X_1.L)) with
 | true=>(List.getD X.L ((0:Nat)+Int.toNat (fiV own id X_1.L)-(0:Nat)) Zc).id
 | false=>(List.getD X.L ((0:Nat)+Int.toNat (fiV own id X_1.L)-(0:Nat)) Zc).id)
 | false=>
 match Nat.beq ((0:Nat)+Int.toNat (fiV own id X_1.L)) ((0:Nat)+Int.toNat (fiV own id X_1.L)) with
 | true=>(List.getD X.L ((0:Nat)+Int.toNat (fiV own id X_1.L)-(0:Nat)) Zc).id
 | false=>(List.getD X.L ((0:Nat)+Int.toNat (fiV own id X_1.L)-(0:Nat)) Zc).id),
 AV.int i64
 (match Nat.beq ((0:Nat)+Int.toNat (fiV own id X_1.L)) ((0:Nat)+Int.toNat (fiV own id X_1.L)) with
 | true=>
 (match Nat.beq ((0:Nat)+Int.toNat (fiV own id X_1.L)) ((0:Nat)+Int.toNat (fiV own id X_1.L)) with
 | true=>(List.getD X.L ((0:Nat)+Int.toNat (fiV own id X_1.L)-(0:Nat)) Zc).amount
 | false=>(List.getD X.L ((0:Nat)+Int.toNat (fiV own id X_1.L)-(0:Nat)) Zc).amount)
 | false=>
 match Nat.beq ((0:Nat)+Int.toNat (fiV own id X_1.L)) ((0:Nat)+Int.toNat (fiV own id X_1.L)) with
 | true=>(List.getD X.L ((0:Nat)+Int.toNat (fiV own id X_1.L)-(0:Nat)) Zc).amount
 | false=>(List.getD X.L ((0:Nat)+Int.toNat (fiV own id X_1.L)-(0:Nat)) Zc).amount),
 AV.arr u8 (32:Nat)
 (match Nat.beq ((0:Nat)+Int.toNat (fiV own id X_1.L)) ((0:Nat)+Int.toNat (fiV own id X_1.L)) with
 | true=>
 (match Nat.beq ((0:Nat)+Int.toNat (fiV own id X_1.L)) ((0:Nat)+Int.toNat (fiV own id X_1.L)) with
 | true=>(List.getD X.L ((0:Nat)+Int.toNat (fiV own id X_1.L)-(0:Nat)) Zc).hash
 | false=>(List.getD X.L ((0:Nat)+Int.toNat (fiV own id X_1.L)-(0:Nat)) Zc).hash)
 | false=>
 match Nat.beq ((0:Nat)+Int.toNat (fiV own id X_1.L)) ((0:Nat)+Int.toNat (fiV own id X_1.L)) with
 | true=>(List.getD X.L ((0:Nat)+Int.toNat (fiV own id X_1.L)-(0:Nat)) Zc).hash
 | false=>(List.getD X.L ((0:Nat)+Int.toNat (fiV own id X_1.L)-(0:Nat)) Zc).hash),
 AV.int i64
 (match Nat.beq ((0:Nat)+Int.toNat (fiV own id X_1.L)) ((0:Nat)+Int.toNat (fiV own id X_1.L)) with
 | true=>
 (match Nat.beq ((0:Nat)+Int.toNat (fiV own id X_1.L)) ((0:Nat)+Int.toNat (fiV own id X_1.L)) with
 | true=>(List.getD X.L ((0:Nat)+Int.toNat (fiV own id X_1.L)-(0:Nat)) Zc).expiry
 | false=>(List.getD X.L ((0:Nat)+Int.toNat (fiV own id X_1.L)-(0:Nat)) Zc).expiry)
 | false=>
 match Nat.beq ((0:Nat)+Int.toNat (fiV own id X_1.L)) ((0:Nat)+Int.toNat (fiV own id X_1.L)) with
 | true=>(List.getD X.L ((0:Nat)+Int.toNat (fiV own id X_1.L)-(0:Nat)) Zc).expiry
 | false=>(List.getD X.L ((0:Nat)+Int.toNat (fiV own id X_1.L)-(0:Nat)) Zc).expiry),
 AV.int i64
 (match Nat.beq ((0:Nat)+Int.toNat (fiV own id X_1.L)) ((0:Nat)+Int.toNat (fiV own id X_1.L)) with
 | true=>
 (match Nat.beq ((0:Nat)+Int.toNat (fiV own id X_1.L)) ((0:Nat)+Int.toNat (fiV own id X_1.L)) with
 | true=>(6:Int)
 | false=>(List.getD X.L ((0:Nat)+Int.toNat (fiV own id X_1.L)-(0:Nat)) Zc).stage)
 | false=>
 match Nat.beq ((0:Nat)+Int.toNat (fiV own id X_1.L)) ((0:Nat)+Int.toNat (fiV own id X_1.L)) with
 | true=>(6:Int)
 | false=>(List.getD X.L ((0:Nat)+Int.toNat (fiV own id X_1.L)-(0:Nat)) Zc).stage),
 AV.int i64
 (match Nat.beq ((0:Nat)+Int.toNat (fiV own id X_1.L)) ((0:Nat)+Int.toNat (fiV own id X_1.L)) with
 | true=>k
 | false=>
 match Nat.beq ((0:Nat)+Int.toNat (fiV own id X_1.L)) ((0:Nat)+Int.toNat (fiV own id X_1.L)) with
 | true=>(List.getD X.L ((0:Nat)+Int.toNat (fiV own id X_1.L)-(0:Nat)) Zc).fin
 | false=>(List.getD X.L ((0:Nat)+Int.toNat (fiV own id X_1.L)-(0:Nat)) Zc).fin),
 AV.arr u8 (32:Nat) sec])/\
 True)
 False)
 False)
 False)
 False)
 False)
 False)
 False)
 False)
 False)
 False)
 False)
 False)
 False)
 False)
 False)
 False)
 False)
 False)
 False))
 False)
 False)
 False)
 False)
 False)
 False)
 (Z0 (decide ((0:Nat)+n<=n))
 (Z0 (decide (((0:Nat)+n)*(112:Nat)<=(140737488355328:Nat)))
 (Z0 (decide ((0:Int)<=fiV own id X_1.L/\fiV own id X_1.L<(↑((0:Nat)+n):Int)))
 (Z0 (decide ((0:Nat)+Int.toNat (fiV own id X_1.L)<(0:Nat)+n))
 (Z0 (decide ((0:Int)<=fiV own id X_1.L/\fiV own id X_1.L<(↑((0:Nat)+n):Int)))
 (Z0 (decide ((0:Nat)+Int.toNat (fiV own id X_1.L)<(0:Nat)+n))
 (Z0 (decide ((0:Int)<=fiV own id X_1.L/\fiV own id X_1.L<(↑((0:Nat)+n):Int)))
 (Z0 (decide ((0:Nat)+Int.toNat (fiV own id X_1.L)<(0:Nat)+n))
 (X.t.fund=X'.t.fund/\
 Z0 (decide (X.t.index=X'.t.index))
 (Z0 (decide (X.t.cap=X'.t.cap))
 (Z0 (decide (X.t.dust=X'.t.dust))
 (Z0 (decide (X.t.fee=X'.t.fee))
 (Z0 (decide (X.t.delay=X'.t.delay))
 (X.t.k0=X'.t.k0/\
 X.t.k1=X'.t.k1/\
 Z0 (decide (X.side=X'.side))
 (Z0 (decide (X.res=X'.res))
 ([X.a0,X.a1]=[X'.a0,X'.a1]/\
 [X.i0,X.i1]=[X'.i0,X'.i1]/\
 Z0 (decide ((0:Nat)+n=n))
 (Z0 (decide (n<=(0:Nat)+n))
 (Z0 (decide (n=n))
 (Zb (1:Nat) [((1:Nat),(4:Nat))] n (Z6 X.L) (Z6 X.L)/\
 Z0 (decide ((0:Nat)+n=n))
 (Zb (1:Nat) [((1:Nat),(4:Nat))] n (Z6 X'.L)
 (Z0F
 (Z0F (Z0F (Y2 (0:Nat) (fun (x:Nat)=>[]) (ZT (0:Nat) (Z6 X.L))) ((0:Nat)+Int.toNat (fiV own id X_1.L)) [AV.bool (List.getD X.L ((0:Nat)+Int.toNat (fiV own id X_1.L)-(0:Nat)) Zc).own,AV.int i64 (List.getD X.L ((0:Nat)+Int.toNat (fiV own id X_1.L)-(0:Nat)) Zc).id,AV.int i64 (List.getD X.L ((0:Nat)+Int.toNat (fiV own id X_1.L)-(0:Nat)) Zc).amount,AV.arr u8 (32:Nat) (List.getD X.L ((0:Nat)+Int.toNat (fiV own id X_1.L)-(0:Nat)) Zc).hash,AV.int i64 (List.getD X.L ((0:Nat)+Int.toNat (fiV own id X_1.L)-(0:Nat)) Zc).expiry,AV.int i64 (6:Int),AV.int i64 (List.getD X.L ((0:Nat)+Int.toNat (fiV own id X_1.L)-(0:Nat)) Zc).fin,AV.arr u8 (32:Nat) (List.getD X.L ((0:Nat)+Int.toNat (fiV own id X_1.L)-(0:Nat)) Zc).secret]) ((0:Nat)+Int.toNat (fiV own id X_1.L))
 [AV.bool
 (match Nat.beq ((0:Nat)+Int.toNat (fiV own id X_1.L)) ((0:Nat)+Int.toNat (fiV own id X_1.L)) with
 | true=>(List.getD X.L ((0:Nat)+Int.toNat (fiV own id X_1.L)-(0:Nat)) Zc).own
 | false=>(List.getD X.L ((0:Nat)+Int.toNat (fiV own id X_1.L)-(0:Nat)) Zc).own),
 AV.int i64
 (match Nat.beq ((0:Nat)+Int.toNat (fiV own id X_1.L)) ((0:Nat)+Int.toNat (fiV own id X_1.L)) with
 | true=>(List.getD X.L ((0:Nat)+Int.toNat (fiV own id X_1.L)-(0:Nat)) Zc).id
 | false=>(List.getD X.L ((0:Nat)+Int.toNat (fiV own id X_1.L)-(0:Nat)) Zc).id),
 AV.int i64
 (match Nat.beq ((0:Nat)+Int.toNat (fiV own id X_1.L)) ((0:Nat)+Int.toNat (fiV own id X_1.L)) with
 | true=>(List.getD X.L ((0:Nat)+Int.toNat (fiV own id X_1.L)-(0:Nat)) Zc).amount
 | false=>(List.getD X.L ((0:Nat)+Int.toNat (fiV own id X_1.L)-(0:Nat)) Zc).amount),
 AV.arr u8 (32:Nat)
 (match Nat.beq ((0:Nat)+Int.toNat (fiV own id X_1.L)) ((0:Nat)+Int.toNat (fiV own id X_1.L)) with
 | true=>(List.getD X.L ((0:Nat)+Int.toNat (fiV own id X_1.L)-(0:Nat)) Zc).hash
 | false=>(List.getD X.L ((0:Nat)+Int.toNat (fiV own id X_1.L)-(0:Nat)) Zc).hash),
 AV.int i64
 (match Nat.beq ((0:Nat)+Int.toNat (fiV own id X_1.L)) ((0:Nat)+Int.toNat (fiV own id X_1.L)) with
 | true=>(List.getD X.L ((0:Nat)+Int.toNat (fiV own id X_1.L)-(0:Nat)) Zc).expiry
 | false=>(List.getD X.L ((0:Nat)+Int.toNat (fiV own id X_1.L)-(0:Nat)) Zc).expiry),
 AV.int i64
 (match Nat.beq ((0:Nat)+Int.toNat (fiV own id X_1.L)) ((0:Nat)+Int.toNat (fiV own id X_1.L)) with
 | true=>(6:Int)
 | false=>(List.getD X.L ((0:Nat)+Int.toNat (fiV own id X_1.L)-(0:Nat)) Zc).stage),
 AV.int i64 k,
 AV.arr u8 (32:Nat)
 (match Nat.beq ((0:Nat)+Int.toNat (fiV own id X_1.L)) ((0:Nat)+Int.toNat (fiV own id X_1.L)) with
 | true=>(List.getD X.L ((0:Nat)+Int.toNat (fiV own id X_1.L)-(0:Nat)) Zc).secret
 | false=>(List.getD X.L ((0:Nat)+Int.toNat (fiV own id X_1.L)-(0:Nat)) Zc).secret)])
 ((0:Nat)+Int.toNat (fiV own id X_1.L))
 [AV.bool
 (match Nat.beq ((0:Nat)+Int.toNat (fiV own id X_1.L)) ((0:Nat)+Int.toNat (fiV own id X_1.L)) with
 | true=>
 (match Nat.beq ((0:Nat)+Int.toNat (fiV own id X_1.L)) ((0:Nat)+Int.toNat (fiV own id X_1.L)) with
 | true=>(List.getD X.L ((0:Nat)+Int.toNat (fiV own id X_1.L)-(0:Nat)) Zc).own
 | false=>(List.getD X.L ((0:Nat)+Int.toNat (fiV own id X_1.L)-(0:Nat)) Zc).own)
 | false=>
 match Nat.beq ((0:Nat)+Int.toNat (fiV own id X_1.L)) ((0:Nat)+Int.toNat (fiV own id X_1.L)) with
 | true=>(List.getD X.L ((0:Nat)+Int.toNat (fiV own id X_1.L)-(0:Nat)) Zc).own
 | false=>(List.getD X.L ((0:Nat)+Int.toNat (fiV own id X_1.L)-(0:Nat)) Zc).own),
 AV.int i64
 (match Nat.beq ((0:Nat)+Int.toNat (fiV own id X_1.L)) ((0:Nat)+Int.toNat (fiV own id X_1.L)) with
 | true=>
 (match Nat.beq ((0:Nat)+Int.toNat (fiV own id X_1.L)) ((0:Nat)+Int.toNat (fiV own id X_1.L)) with
 | true=>(List.getD X.L ((0:Nat)+Int.toNat (fiV own id X_1.L)-(0:Nat)) Zc).id
 | false=>(List.getD X.L ((0:Nat)+Int.toNat (fiV own id X_1.L)-(0:Nat)) Zc).id)
 | false=>
 match Nat.beq ((0:Nat)+Int.toNat (fiV own id X_1.L)) ((0:Nat)+Int.toNat (fiV own id X_1.L)) with
 | true=>(List.getD X.L ((0:Nat)+Int.toNat (fiV own id X_1.L)-(0:Nat)) Zc).id
 | false=>(List.getD X.L ((0:Nat)+Int.toNat (fiV own id X_1.L)-(0:Nat)) Zc).id),
 AV.int i64
 (match Nat.beq ((0:Nat)+Int.toNat (fiV own id X_1.L)) ((0:Nat)+Int.toNat (fiV own id X_1.L)) with
 | true=>
 (match Nat.beq ((0:Nat)+Int.toNat (fiV own id X_1.L)) ((0:Nat)+Int.toNat (fiV own id X_1.L)) with
 | true=>(List.getD X.L ((0:Nat)+Int.toNat (fiV own id X_1.L)-(0:Nat)) Zc).amount
 | false=>(List.getD X.L ((0:Nat)+Int.toNat (fiV own id X_1.L)-(0:Nat)) Zc).amount)
 | false=>
 match Nat.beq ((0:Nat)+Int.toNat (fiV own id X_1.L)) ((0:Nat)+Int.toNat (fiV own id X_1.L)) with
 | true=>(List.getD X.L ((0:Nat)+Int.toNat (fiV own id X_1.L)-(0:Nat)) Zc).amount
 | false=>(List.getD X.L ((0:Nat)+Int.toNat (fiV own id X_1.L)-(0:Nat)) Zc).amount),
 AV.arr u8 (32:Nat)
 (match Nat.beq ((0:Nat)+Int.toNat (fiV own id X_1.L)) ((0:Nat)+Int.toNat (fiV own id X_1.L)) with
 | true=>
 (match Nat.beq ((0:Nat)+Int.toNat (fiV own id X_1.L)) ((0:Nat)+Int.toNat (fiV own id X_1.L)) with
 | true=>(List.getD X.L ((0:Nat)+Int.toNat (fiV own id X_1.L)-(0:Nat)) Zc).hash
 | false=>(List.getD X.L ((0:Nat)+Int.toNat (fiV own id X_1.L)-(0:Nat)) Zc).hash)
 | false=>
 match Nat.beq ((0:Nat)+Int.toNat (fiV own id X_1.L)) ((0:Nat)+Int.toNat (fiV own id X_1.L)) with
 | true=>(List.getD X.L ((0:Nat)+Int.toNat (fiV own id X_1.L)-(0:Nat)) Zc).hash
 | false=>(List.getD X.L ((0:Nat)+Int.toNat (fiV own id X_1.L)-(0:Nat)) Zc).hash),
 AV.int i64
 (match Nat.beq ((0:Nat)+Int.toNat (fiV own id X_1.L)) ((0:Nat)+Int.toNat (fiV own id X_1.L)) with
 | true=>
 (match Nat.beq ((0:Nat)+Int.toNat (fiV own id X_1.L)) ((0:Nat)+Int.toNat (fiV own id X_1.L)) with
 | true=>(List.getD X.L ((0:Nat)+Int.toNat (fiV own id X_1.L)-(0:Nat)) Zc).expiry
 | false=>(List.getD X.L ((0:Nat)+Int.toNat (fiV own id X_1.L)-(0:Nat)) Zc).expiry)
 | false=>
 match Nat.beq ((0:Nat)+Int.toNat (fiV own id X_1.L)) ((0:Nat)+Int.toNat (fiV own id X_1.L)) with
 | true=>(List.getD X.L ((0:Nat)+Int.toNat (fiV own id X_1.L)-(0:Nat)) Zc).expiry
 | false=>(List.getD X.L ((0:Nat)+Int.toNat (fiV own id X_1.L)-(0:Nat)) Zc).expiry),
 AV.int i64
 (match Nat.beq ((0:Nat)+Int.toNat (fiV own id X_1.L)) ((0:Nat)+Int.toNat (fiV own id X_1.L)) with
 | true=>
 (match Nat.beq ((0:Nat)+Int.toNat (fiV own id X_1.L)) ((0:Nat)+Int.toNat (fiV own id X_1.L)) with
 | true=>(6:Int)
 | false=>(List.getD X.L ((0:Nat)+Int.toNat (fiV own id X_1.L)-(0:Nat)) Zc).stage)
 | false=>
 match Nat.beq ((0:Nat)+Int.toNat (fiV own id X_1.L)) ((0:Nat)+Int.toNat (fiV own id X_1.L)) with
 | true=>(6:Int)
 | false=>(List.getD X.L ((0:Nat)+Int.toNat (fiV own id X_1.L)-(0:Nat)) Zc).stage),
 AV.int i64
 (match Nat.beq ((0:Nat)+Int.toNat (fiV own id X_1.L)) ((0:Nat)+Int.toNat (fiV own id X_1.L)) with
 | true=>k
 | false=>
 match Nat.beq ((0:Nat)+Int.toNat (fiV own id X_1.L)) ((0:Nat)+Int.toNat (fiV own id X_1.L)) with
 | true=>(List.getD X.L ((0:Nat)+Int.toNat (fiV own id X_1.L)-(0:Nat)) Zc).fin
 | false=>(List.getD X.L ((0:Nat)+Int.toNat (fiV own id X_1.L)-(0:Nat)) Zc).fin),
 AV.arr u8 (32:Nat) sec])/\
 True)
 False)
 False)
 False)
 False)
 False)
 False)
 False)
 False)
 False)
 False)
 False)
 False)
 False)
 False)
 False)
 False)
 False)
 False)
 False)))
 False)
 False))
 False) (by kernel_rfl) ?_
 try simp only [Zj]
 try simp only [Zl]
 try simp only [Zi]
 try simp only [Zm]
 try simp only [Zn]
 try simp only [Zh]
 try simp only [Int.toNat_natCast,Nat.zero_add,true_and,and_true,Nat.le_refl]
 subst hn
 obtain ⟨hI,h5,hno⟩:=Z4P he
 have hX2:X'={ X with L:=X.L.set (ZW own id X.L) (Ud (X.L.getD (ZW own id X.L) Zc) k sec)}:=by rw [hX'];unfold endX;rw [if_pos he]
 have hv:fiV own id X.L=((ZW own id X.L:Nat):Int):=by unfold fiV;rw [if_pos hI]
 have h2:=(hOk _ (ZM hI)).hash
 have hR:∀τ,Zb 1 τ X.L.length (Z6 X.L) (Z6 X.L):=fun τ=>Zo fun _ _=>rfl
 refine ⟨fun _ _=>trivial,X,.a rfl,hlen, ?_⟩
 rw [hv]
 simp only [Int.toNat_natCast,Nat.sub_zero]
 have hset:∀i,(X.L.set (ZW own id X.L) (Ud (X.L.getD (ZW own id X.L) Zc) k sec)).getD i Zc=if i=ZW own id X.L then Ud (X.L.getD (ZW own id X.L) Zc) k sec else X.L.getD i Zc:=fun i=>ZhV hI i
 generalize hz:X.L.getD (ZW own id X.L) Zc=z at*
 generalize hLn:X.L.set (ZW own id X.L) (Ud z k sec)=L2 at*
 subst hX2
 have hi:(0:Int)<=((ZW own id X.L:Nat):Int)/\((ZW own id X.L:Nat):Int)<(X.L.length:Int):=by omega
 generalize ZW own id X.L=I at*
 refine ⟨by omega,hi,hI,by simp [h5],fun hk=>⟨hi,hI,hsec,hsec.symm,by omega,⟨hl,h2⟩,by rw [hno (by simpa using hk)];simp, ?_⟩,fun hk=> ?_⟩
 all_goals
  repeat' apply And.intro
  all_goals first|omega|exact hR _|rfl|skip
  refine Zo fun i hi=> ?_
  rw [UP]
  unfold Z6
  rw [hset]
  by_cases h:i=I
  ·rw [if_pos h,h]
   simp only [Nat.beq_refl]
   rfl
  ·rw [if_neg h,ZB h,UP,ZB h,UP,ZB h]
   rw [Z1Z (Nat.zero_le _)]
   rfl
theorem Z7n {xs:List Int} (h:Bytes xs):∀x∈xs,U8 x:=fun x hx=>by
 obtain ⟨i,hi,rfl⟩:=List.getElem_of_mem hx
 have:=h.h i
 rw [List.getD_eq_getElem?_getD,List.getElem?_eq_getElem hi] at this
 have h1:0<=xs[i]/\xs[i]<=255:=this
 unfold U8;omega
theorem ZeF {X:Z8} {own:Bool} {id k:Int} {sec:List Int} (hs:sec.length=32) (hb:Bytes sec):Xd WB X own id k sec=Xd Zs X own id k sec/\endX WB X own id k sec=endX Zs X own id k sec:=by
 have e:WB sec=Zs sec:=Z9G (Z7n hb) (by omega)
 have e1:Xd WB X own id k sec=Xd Zs X own id k sec:=by unfold Xd;rw [e]
 exact ⟨e1,by unfold endX;rw [e1]⟩
def ZeG (c:Bool):Yf:=fun args h K=>match args with
 | [.agg [_,_,_,_,_,_,_,_,_,_,_,_,.nslice ⟨b,0,70,0,0⟩ 70 _ _],_,_,_,_]=>frA [b] h 20 args fun Bs a=>match Bs,a with
  | [.rows 70 n f],[.agg cs,.bool own,.int .i64 id,.int .i64 k,.agg [.arr .u8 32 sec]]=>
   ∃X,LD cs n f X/\X.Inv Zs/\(sec.length=32/\Bytes sec)/\(match c with
    | true=>Xd Zs X own id k sec=0/\K (.ret (.tuple [.agg ((endX Zs X own id k sec).c (slH h.next X.L.length)),.int .i64 0])) ⟨h.next+1,(b,.rows 70 X.L.length (Z6 X.L))::(h.next,.rows 70 X.L.length (Z6 (endX Zs X own id k sec).L))::Yc h.bs b⟩
    | false=>Xd Zs X own id k sec≠0/\K (.ret (.tuple [.agg (X.c (slH b X.L.length)),.int .i64 (Xd Zs X own id k sec)])) ⟨h.next,(b,.rows 70 X.L.length (Z6 X.L))::Yc h.bs b⟩)
  | _,_=>False
 | _=>False
theorem ZeH (c:Bool) (args:List AV) (h:Za) (K:KO) (hl:ZeG c args h K):Zp PP 106 args h K:=by
 unfold ZeG at hl
 split at hl
 ·refine Spec.fsumm hl fun Bs a hlen hK0=> ?_
  split at hK0
  ·rename_i cs n f own id k sec
   obtain ⟨X,⟨rfl,rfl,rfl⟩,hI,⟨hs,hb⟩,hK⟩:=hK0
   obtain ⟨e1,e2⟩:=ZeF (X:=X) (own:=own) (id:=id) (k:=k) hs hb
   cases c with
   | true=>
    obtain ⟨he,hK1⟩:=hK
    exact ⟨_,_,_,_,_,.evM Zad (Zld X _ _ own id k sec WB 1000 rfl hI.am.n hI.ok hs (Z6R _) (by decide) (by rw [e1];exact he) e2.symm),by simp,.ret _ _ rfl,.cons _ _ _ _ _ _ rfl (.rows _ _ _ (fun _ _=>rfl)) (.cons _ _ _ _ _ _ rfl (.rows _ _ _ (fun _ _=>rfl)) .nil),hK1⟩
   | false=>
    obtain ⟨he,hK2⟩:=hK
    exact ⟨_,_,_,_,_,.evM Zad (Zlc X _ own id k _ sec WB 1000 rfl hI.am.n hI.ok hs (Z6R _) (by decide) e1.symm he),by simp,.ret _ _ rfl,.cons _ _ _ _ _ _ rfl (.rows _ _ _ (fun _ _=>rfl)) .nil,hK2⟩
  ·exact hK0.elim
 ·exact hl.elim
end Go.Tk
end
section
namespace Go.Tk
open IntKind (i64 u8 u32 u64 wrap)
noncomputable def Zh9:Zg:=(G0.withP 104 sdS).withP 107 neS
theorem Zae:Zh9.Ok:=Zg.withP_ok (Zg.withP_ok Zv Z8Q) Zgs
def Zi4 (X:Z8) (L:List Z7) (n:Nat) (G Hd Lf:List Z7):Za:=⟨6,[(0,.rows 70 n (Z6 L)),(1,.flat (X.c (slH 0 n))),(2,.flat (Yv.c .nilslice)),(3,.rows 70 G.length (Z6 G)),(4,.rows 70 Hd.length (Z6 Hd)),(5,.rows 70 Lf.length (Z6 Lf))]⟩
def Zha (X:Z8) (L:List Z7) (m:Int) (n i:Nat) (G Hd Lf:List Z7):St:=⟨101,[(11,.int .i64 i),(2,pt 1),(1,.int .i64 m),(10,slH 3 G.length),(9,slH 4 Hd.length),(8,slH 5 Lf.length),(4,pt 2)],Zi4 X L n G Hd Lf,[]⟩
def Z8V (X:Z8) (L:List Z7) (n:Nat) (G Hd Lf:List Z7):St:=⟨101,[(2,pt 1),(10,slH 3 G.length),(9,slH 4 Hd.length),(8,slH 5 Lf.length),(4,pt 2)],Zi4 X L n G Hd Lf,[]⟩
theorem Zle (X X1:Z8) (L:List Z7) (m:Int) (n i:Nat) (x:Z7) (G Hd Lf G1 Hd1 Lf1:List Z7) (Z1 Z2:Prop) (hn:n<1000) (hXL:X.L=L) (hL:L.length=n) (hi:i<=n) (hm:1<=m/\m<=4) (hX:X3 X) (hx:i<n->L.getD i Zc=x) (hst:i<n->1<=x.stage/\x.stage<=9) (hb:G.length<1000/\Hd.length<1000/\Lf.length<1000) (hG:i<n->G1=G++X9 (decide (ZZ x.own x.stage m=10)) (stH m x)) (hH:i<n->Hd1=Hd++X9 (decide (x.stage=4/\Wm x.own 4=m)) (stH m x)) (hLf:i<n->Lf1=Lf++X9 (decide (¬ZZ x.own x.stage m=10)) (stH m x)) (hX1:i<n->X1=if ZZ x.own x.stage m=10 then { X with a0:=(XT X.side (X.a0,X.a1) (stH m x)).1,a1:=(XT X.side (X.a0,X.a1) (stH m x)).2} else X) (hw:i<n->ZZ x.own x.stage m=10->x.fin=1->(-1152921504606846976<=X.a0/\X.a0<=1152921504606846976)/\(-1152921504606846976<=X.a1/\X.a1<=1152921504606846976)/\0<=x.amount/\x.amount<=1152921504606846976) (hZ1:i<n->Z1) (hZ2:i=n->Z2):
  ZG Zh9 20 53 0 1 (Zha X L m n i G Hd Lf) (rdM 1 0 9 (Zha X1 L m n (i+1) G1 Hd1 Lf1) (Z8V X L n G Hd Lf) (Z8V X L n G Hd Lf) (Z8V X L n G Hd Lf) Z1 Z2 False False):=by
 refine @Eq.mpr _ (let q1:=0+Int.toNat (↑i:Int);let q2:=List.getD L q1 Zc;let q3:=q2.stage;let q4:=q2.own;let q5:=ZZ q4 q3 m;let q6:=List.length G;let q7:=decide (q6=q6);let q8:=q6+1;let q9:=q2.fin;let q10:=X.t;let q11:=q10.fund;let q12:=q10.index;let q13:=q10.cap;let q14:=q10.dust;let q15:=q10.fee;let q16:=q10.delay;let q17:=q10.k0;let q18:=q10.k1;let q19:=X.side;let q20:=X.res;let q21:=[X.a0,X.a1];let q22:=[X.i0,X.i1];let q23:=Z6 L;let q24:=q2.amount;let q25:=decide (wrap i64 ((↑i:Int)+1)=(↑(i+1):Int));let q26:=decide (m=m);let q27:=List.length G1;let q28:=decide (q8=q27);let q29:=decide (q27<=q8);let q30:=List.length Hd;let q31:=List.length Hd1;let q32:=decide (q30=q31);let q33:=decide (q31<=q30);let q34:=List.length Lf;let q35:=List.length Lf1;let q36:=decide (q34=q35);let q37:=decide (q35<=q34);let q38:=decide (n=n);let q39:=(2,2);let q40:=[(1,1)];let q41:=q39::(5,5)::(4,4)::(3,8)::q40;let q42:=Zb 1 q41 n q23 q23;let q43:=X1.t;let q44:=q11=q43.fund;let q45:=decide (q12=q43.index);let q46:=decide (q13=q43.cap);let q47:=decide (q14=q43.dust);let q48:=decide (q15=q43.fee);let q49:=decide (q16=q43.delay);let q50:=q17=q43.k0;let q51:=q18=q43.k1;let q52:=decide (q19=X1.side);let q53:=decide (q20=X1.res);let q54:=[X1.a0,X1.a1];let q55:=q22=[X1.i0,X1.i1];let q56:=decide (n<=n);let q57:=Yv.t;let q58:=q57.fund;let q59:=q58=q58;let q60:=q57.k0;let q61:=q60=q60;let q62:=q57.k1;let q63:=q62=q62;let q64:=[Yv.a0,Yv.a1];let q65:=q64=q64;let q66:=[Yv.i0,Yv.i1];let q67:=q66=q66;let q68:=Z6 G1;let q69:=Z6 G;let q70:=YQ [AV.bool q4,AV.int i64 q2.id,AV.int i64 q24,AV.arr u8 32 q2.hash,AV.int i64 q2.expiry,AV.int i64 q5,AV.int i64 q9,AV.arr u8 32 q2.secret] 0 70;let q71:=Z6 Hd1;let q72:=Z6 Hd;let q73:=Z6 Lf1;let q74:=Z6 Lf;let q75:=q55/\Z0 q38 (Z0 q56 (q59/\q61/\q63/\q65/\q67/\Z0 q28 (Zb 1 q41 q27 q68 (Y2 q6 q69 q70)/\Z0 q32 (Zb 1 q41 q31 q71 q72/\Z0 q36 (Zb 1 q41 q35 q73 q74/\Z1) False) False) False) False) False;let q76:=q21=q54;let q77:=decide (q30=q30);let q78:=q30+1;let q79:=decide (q34=q34);let q80:=q34+1;let q81:=decide (q80*112<=140737488355328);let q82:=decide (q6=q27);let q83:=decide (q27<=q6);let q84:=decide (q78=q31);let q85:=decide (q80=q35);let q86:=decide (q35<=q80);let q87:=(3,3)::q40;let q88:=q39::(5,10)::(4,8)::q87;let q89:=Y2 q34 q74 q70;let q90:=(4,4)::q87;let q91:=q39::(5,8)::q90;let q92:=Z0 q79 (Z0 q81 (Z0 q25 (Z0 q26 (Z0 q82 (Z0 q83 (Z0 q32 (Z0 q33 (Z0 q85 (Z0 q86 (Z0 q38 (Zb 1 q91 n q23 q23/\q44/\Z0 q45 (Z0 q46 (Z0 q47 (Z0 q48 (Z0 q49 (q50/\q51/\Z0 q52 (Z0 q53 (q76/\q55/\Z0 q38 (Z0 q56 (q59/\q61/\q63/\q65/\q67/\Z0 q82 (Zb 1 q91 q27 q68 q69/\Z0 q32 (Zb 1 q91 q31 q71 q72/\Z0 q85 (Zb 1 q91 q35 q73 q89/\Z1) False) False) False) False) False) False) False) False) False) False) False) False) False) False) False) False) False) False) False) False) False) False) False;let q93:=q39::(5,5)::q90;
 Z0 (decide ((↑i:Int)<(↑n:Int)))
 (Z0 (decide (0<=(↑i:Int)/\(↑i:Int)<(↑n:Int)))
 (Z0 (decide (q1<n))
 (Z0 (decide ((1<=q3/\q3<=9)/\1<=m/\m<=4))
 (Z0 (q5==10)
 (Z0 q7
 (Z0 (decide (q8*112<=140737488355328))
 (Z0 (q9==1)
 (Z0 (decide (0+n<=n))
 ((∀(i:Nat),i<n->true=true)/\
 ∃(X_1:Z8),
 let q187:=X_1.side;let q188:=ZD q187 q4;let q189:=decide (0<=q188/\q188<2);let q190:=0+Int.toNat q188;let q191:=wrap i64 (1-q188);let q192:=decide (0<=q191/\q191<2);let q193:=0+Int.toNat q191;let q194:=List.set q21 q190 (wrap i64 (List.getD q21 q190 0-q24));
 LV [AV.arr u8 32 q11,AV.int i64 q12,AV.int i64 q13,AV.int i64 q14,AV.int i64 q15,AV.int i64 q16,AV.arr u8 32 q17,AV.arr u8 32 q18,AV.int i64 q19,AV.int i64 q20,AV.arr i64 2 q21,AV.arr i64 2 q22,AV.vrows 70 n (ZT 0 q23) n] X_1/\
 (0<=q187/\q187<=1)/\Z0 q189 (Z0 (decide (q190<2)) (Z0 q189 (Z0 (decide (i64=i64/\q190<2/\q190<2)) (Z0 q192 (Z0 (decide (q193<2)) (Z0 q192 (Z0 (decide (i64=i64/\q193<2/\q193<List.length q194)) (Z0 q25 (Z0 q26 (Z0 q28 (Z0 q29 (Z0 q32 (Z0 q33 (Z0 q36 (Z0 q37 (Z0 q38 (q42/\q44/\Z0 q45 (Z0 q46 (Z0 q47 (Z0 q48 (Z0 q49 (q50/\q51/\Z0 q52 (Z0 q53 (List.set q194 q193 (wrap i64 (List.getD q194 q193 0+q24))=q54/\q75) False) False) False) False) False) False) False) False) False) False) False) False) False) False) False) False) False) False) False) False) False) False) False) False)
 False)
 (Z0 q25 (Z0 q26 (Z0 q28 (Z0 q29 (Z0 q32 (Z0 q33 (Z0 q36 (Z0 q37 (Z0 q38 (q42/\q44/\Z0 q45 (Z0 q46 (Z0 q47 (Z0 q48 (Z0 q49 (q50/\q51/\Z0 q52 (Z0 q53 (q76/\q75) False) False) False) False) False) False) False) False) False) False) False) False) False) False) False) False))
 False)
 False)
 (Z0 (decide (Wm q4 q3=m)) (Z0 (q5==5) (Z0 q77 (Z0 (decide (q78*112<=140737488355328)) (Z0 q79 (Z0 q81 (Z0 q25 (Z0 q26 (Z0 q82 (Z0 q83 (Z0 q84 (Z0 (decide (q31<=q78)) (Z0 q85 (Z0 q86 (Z0 q38 (Zb 1 q88 n q23 q23/\q44/\Z0 q45 (Z0 q46 (Z0 q47 (Z0 q48 (Z0 q49 (q50/\q51/\Z0 q52 (Z0 q53 (q76/\q55/\Z0 q38 (Z0 q56 (q59/\q61/\q63/\q65/\q67/\Z0 q82 (Zb 1 q88 q27 q68 q69/\Z0 q84 (Zb 1 q88 q31 q71 (Y2 q30 q72 q70)/\Z0 q85 (Zb 1 q88 q35 q73 q89/\Z1) False) False) False) False) False) False) False) False) False) False) False) False) False) False) False) False) False) False) False) False) False) False) False) False) False) q92) q92))
 False)
 False)
 False)
 (Z0 q7 (Z0 (decide (q6<=q6)) (Z0 q77 (Z0 (decide (q30<=q30)) (Z0 q79 (Z0 (decide (q34<=q34)) (Z0 q38 (Zb 1 q93 n q23 q23/\q11=q11/\Z0 (decide (q12=q12)) (Z0 (decide (q13=q13)) (Z0 (decide (q14=q14)) (Z0 (decide (q15=q15)) (Z0 (decide (q16=q16)) (q17=q17/\q18=q18/\Z0 (decide (q19=q19)) (Z0 (decide (q20=q20)) (q21=q21/\q22=q22/\Z0 q38 (Z0 q56 (q59/\q61/\q63/\q65/\q67/\Z0 q7 (Zb 1 q93 q6 q69 q69/\Z0 q77 (Zb 1 q93 q30 q72 q72/\Z0 q79 (Zb 1 q93 q34 q74 q74/\Z2) False) False) False) False) False) False) False) False) False) False) False) False) False) False) False) False) False) False) False)) (by kernel_rfl) ?_
 conv=>zeta
 try simp only [Zj]
 try simp only [Zl]
 try simp only [Zi]
 try simp only [Zm]
 try simp only [Zn]
 try simp only [Zh]
 try simp only [Int.toNat_natCast,Nat.zero_add,true_and,and_true,Nat.le_refl]
 refine ⟨fun hc=> ?_,fun hc=> ?_⟩
 ·have hlt:i<n:=by omega
  rw [hx hlt]
  have hG:=hG hlt
  have hH:=hH hlt
  have hLf:=hLf hlt
  have hX1:=hX1 hlt
  have hst:=hst hlt
  have hw:=hw hlt
  have hwr:i64.wrap ((i:Int)+1)=((i+1:Nat):Int):=by rw [w64 (by omega)];omega
  rw [hwr]
  have hR:∀τ k (Q:List Z7),Zb 1 τ k (Z6 Q) (Z6 Q):=fun τ k Q=>Zo fun _ _=>rfl
  have hC:∀τ (Q:List Z7) (y:Z7),Zb 1 τ (Q++[y]).length (Z6 (Q++[y])) (Y2 Q.length (Z6 Q) (YQ y.c 0 70)):=fun τ Q y=>Zo fun j hj=>Yt rfl (fun _ _=>rfl) (by simpa using hj)
  refine ⟨by omega,hlt,⟨hst,hm⟩,fun h10=>⟨by omega,fun hf=> ?_,fun hf=> ?_⟩,fun h10=>⟨fun ho=>⟨fun h5=> ?_,fun h5=> ?_⟩,fun ho=> ?_⟩⟩
  ·have h10:ZZ x.own x.stage m=10:=by simpa using h10
   have h9:=Z8K hst h10
   rw [decide_eq_true h10] at hG
   rw [decide_eq_false (by omega)] at hH
   rw [decide_eq_false (by simp [h10])] at hLf
   rw [if_pos h10] at hX1
   simp only [X9,List.append_nil] at hG hH hLf
   have hf:x.fin=1:=by simpa using hf
   obtain ⟨b1,b2,b3⟩:=hw h10 hf
   have hs:X.side=0\/X.side=1:=by obtain ⟨s1,s2⟩:=hX;omega
   have hfr:=Z4O hs x.own
   have hwf:i64.wrap (1-ZD X.side x.own)=1-ZD X.side x.own:=w64 (by omega)
   subst hG hH hLf hX1
   refine ⟨fun _ _=>trivial,X, ?_,hX, ?_⟩
   ·refine .a ?_
    rw [hXL,hL];rfl
   rw [hwf,Q8 hfr b1 b2 b3]
   have em:=UG (side:=X.side) (a:=X.a0) (b:=X.a1) (h:=stH m x) hf
   have e1:[X.a0,X.a1].set (ZD X.side x.own).toNat (i64.wrap ([X.a0,X.a1].getD (ZD X.side x.own).toNat 0-x.amount))=[X.a0,X.a1].set (ZD X.side x.own).toNat (i64.wrap ([X.a0,X.a1].getD (ZD X.side x.own).toNat 0-x.amount)):=rfl
   have hlen2:([X.a0,X.a1].set (ZD X.side x.own).toNat (i64.wrap ([X.a0,X.a1].getD (ZD X.side x.own).toNat 0-x.amount))).length=2:=by simp
   rw [hlen2]
   repeat' apply And.intro
   all_goals first|omega|rfl|exact hZ1 hlt|exact hC _ _ _|exact hR _ _ _|(simp;done)|exact em.symm
  ·have h10:ZZ x.own x.stage m=10:=by simpa using h10
   have h9:=Z8K hst h10
   rw [decide_eq_true h10] at hG
   rw [decide_eq_false (by omega)] at hH
   rw [decide_eq_false (by simp [h10])] at hLf
   rw [if_pos h10,Z0w (h:=stH m x) (show ¬x.fin=1 by simpa using hf)] at hX1
   simp only [X9,List.append_nil] at hG hH hLf
   have hX1:X1=X:=hX1
   subst hG hH hLf hX1
   repeat' apply And.intro
   all_goals first|omega|rfl|exact hZ1 hlt|exact hC _ _ _|exact hR _ _ _|(simp;done)
  all_goals
   have h10:¬ZZ x.own x.stage m=10:=by simpa using h10
   rw [decide_eq_false h10] at hG
   rw [decide_eq_true h10] at hLf
   rw [if_neg h10] at hX1
   simp only [X9,List.append_nil] at hG hLf
   subst hG hLf hX1
  ·have ho:Wm x.own x.stage=m:=ho
   have h5:ZZ x.own x.stage m=5:=by simpa using h5
   have h4:x.stage=4:=by unfold ZZ at h5;rw [if_pos ho] at h5;omega
   rw [decide_eq_true ⟨h4,by rw [<-h4];exact ho⟩] at hH
   simp only [X9] at hH
   subst hH
   repeat' apply And.intro
   all_goals first|omega|rfl|exact hZ1 hlt|exact hC _ _ _|exact hR _ _ _|(simp;done)
  all_goals
   have hH':Hd1=Hd:=by
    rw [hH,decide_eq_false]
    ·simp [X9]
    ·intro hq
     simp [ZZ,hq.1,hq.2] at*
   subst hH'
   repeat' apply And.intro
   all_goals first|omega|rfl|exact hZ1 hlt|exact hC _ _ _|exact hR _ _ _|(simp;done)
 ·repeat' apply And.intro
  all_goals first|omega|rfl|exact hZ2 (by omega)|exact Zo fun _ _=>rfl
def Zaf (X:Z8) (m:Int) (n i:Nat):St:=Zha (stX X m i) X.L m n i (ZX m (X.L.take i)) (Ys m (X.L.take i)) (Yr m (X.L.take i))
def Zag (X:Z8) (m:Int) (n i:Nat):St:=Z8V (stX X m i) X.L n (ZX m (X.L.take i)) (Ys m (X.L.take i)) (Yr m (X.L.take i))
theorem Zlf (X:Z8) (m:Int) (n i:Nat) (hC:Z79 X m n) (hi:i<=n):ZG Zh9 20 53 0 1 (Zaf X m n i) (rdM 1 0 9 (Zaf X m n (i+1)) (Zag X m n i) (Zag X m n i) (Zag X m n i) (i<n/\i<n) (i=n) False False):=by
 obtain ⟨h1,h2,h3,h4,h5,h6⟩:=id hC
 have hlt:i<n->i<X.L.length:=fun h=>by omega
 have l0:(X.L.take i).length<=16:=by rw [List.length_take];omega
 have l1:=Z3C m (X.L.take i)
 have l2:=Z3D m (X.L.take i)
 have l3:=Z78 m (X.L.take i)
 refine Zle (stX X m i) (stX X m (i+1)) X.L m n i (X.L.getD i Zc) _ _ _ _ _ _ (i<n/\i<n) (i=n) (by omega) rfl h1 hi h3 (show 0<=X.side/\X.side<=1 by omega) (fun _=>rfl) (fun h=>(h5 _ (ZM (hlt h))).1) ⟨by omega,by omega,by omega⟩ (fun h=> ?_) (fun h=> ?_) (fun h=> ?_) (fun h=>Z77 (hlt h)) (fun h _ _=> ?_) (fun h=>⟨h,h⟩) (fun h=>h)
 ·rw [Yj (hlt h),Z01]
 ·rw [Yj (hlt h),Z3B]
 ·rw [Yj (hlt h),Z3A]
 ·obtain ⟨b1,b2⟩:=Z4R (i:=i) hC
  have:=(h5 _ (ZM (hlt h))).2
  exact ⟨b1,b2,this.1,by omega⟩
noncomputable def Zah (X:Z8) (m:Int) (n:Nat) (C:Prop) (E:Nat->St):Zg:=Zh9.withL 53 0 (goM 1 (Zha X X.L m n 0 [] [] []) C (YJ 0 n 9 (fun i=>i<n) (fun i=>i=n) (fun _=>False) (fun _=>False) E E E))
theorem ZeI (X:Z8) (m:Int) (n:Nat):(Zah X m n (Z79 X m n) (Zag X m n)).Ok:=
 Zg.withGoM (N:=20) (S:=Zaf X m n) Zae (by kernel_rfl) fun hC=>⟨rfl,fun i hi _=>Zlf X m n i hC hi⟩
theorem Zlg (X X':Z8) (m:Int) (n l g d:Nat) (G Hd:List Z7) (C:Prop) (XF:Nat->Z8) (GF HF LF:Nat->List Z7) (hC:C) (hm:1<=m/\m<=4) (hG:G=GF n) (hH:Hd=HF n) (hX':X'={ XF n with L:=LF n}) (hl:l=X'.L.length) (hg:g=G.length) (hd:d=Hd.length):
  evF (Zah X m n C fun i=>Z8V (XF i) X.L n (GF i) (HF i) (LF i)) 20 53 [.agg (X.c (slH 0 n)),.int .i64 m] ⟨1,[(0,.rows 70 n (Z6 X.L))]⟩ (Y5 1 (.ret (.tuple [.agg (X'.c (slH 1 l)),slH 3 d,slH 2 g,.int .i64 0])) 4 [(0,.rows 70 n (Z6 X.L)),(1,.rows 70 l (Z6 X'.L)),(2,.rows 70 g (Z6 G)),(3,.rows 70 d (Z6 Hd))]):=by
 refine @Eq.mpr _ (let q1:=decide (n=n);let q2:=Z6 X.L;let q3:=X.t;let q4:=q3.fund;let q5:=q3.index;let q6:=q3.cap;let q7:=q3.dust;let q8:=q3.fee;let q9:=q3.delay;let q10:=q3.k0;let q11:=q3.k1;let q12:=[X.a0,X.a1];let q13:=[X.i0,X.i1];let q14:=Yv.t;let q15:=[(0:Int),0];let q16:=X'.t;let q17:=[(2,3),(3,4),(1,5)];
 Z0 (decide (m<1)) False
 (Z0 (decide (m>4)) False
 (Z0 (decide (m=m))
 (Z0 q1
 (Zb 1 [(2,2),(1,1)] n q2 q2/\
 q4=q4/\
 Z0 (decide (q5=q5))
 (Z0 (decide (q6=q6))
 (Z0 (decide (q7=q7))
 (Z0 (decide (q8=q8))
 (Z0 (decide (q9=q9))
 (q10=q10/\
 q11=q11/\
 Z0 (decide (X.side=X.side))
 (Z0 (decide (X.res=X.res))
 (q12=q12/\
 q13=q13/\
 Z0 q1
 (Z0 (decide (n<=n))
 (Zf=q14.fund/\
 Zf=q14.k0/\
 Zf=q14.k1/\
 q15=[Yv.a0,Yv.a1]/\
 q15=[Yv.i0,Yv.i1]/\
 C/\
 ∀(i:Nat),
 let q35:=(XF i).t;let q36:=decide (List.length (LF i)=l);let q37:=decide (List.length (HF i)=d);let q38:=decide (List.length (GF i)=g);
 i<=n->(∀(j:Nat),j<i->(fun (i:Nat)=>i<n) j)->(i=n->q35.fund=q16.fund/\Z0 (decide (q35.index=q16.index)) (Z0 (decide (q35.cap=q16.cap)) (Z0 (decide (q35.dust=q16.dust)) (Z0 (decide (q35.fee=q16.fee)) (Z0 (decide (q35.delay=q16.delay)) (q35.k0=q16.k0/\q35.k1=q16.k1/\Z0 (decide ((XF i).side=X'.side)) (Z0 (decide ((XF i).res=X'.res)) ([(XF i).a0,(XF i).a1]=[X'.a0,X'.a1]/\[(XF i).i0,(XF i).i1]=[X'.i0,X'.i1]/\Z0 q36 (Z0 (decide (l<=List.length (LF i))) (Z0 q37 (Z0 (decide (d<=List.length (HF i))) (Z0 q38 (Z0 (decide (g<=List.length (GF i))) (Z0 q1 (Zb 1 q17 n q2 q2/\Z0 q36 (Zb 1 q17 l (Z6 X'.L) (Z6 (LF i))/\Z0 q38 (Zb 1 q17 g (Z6 G) (Z6 (GF i))/\Z0 q37 (Zb 1 q17 d (Z6 Hd) (Z6 (HF i))/\True) False) False) False) False) False) False) False) False) False) False) False) False) False) False) False) False) False)/\(False->False)/\(False->False))
 False)
 False)
 False)
 False)
 False)
 False)
 False)
 False)
 False)
 False)
 False))) (by kernel_rfl) ?_
 conv=>zeta
 try simp only [Zj]
 try simp only [Zl]
 try simp only [Zi]
 try simp only [Zm]
 try simp only [Zn]
 try simp only [Zh]
 try simp only [Int.toNat_natCast,Nat.zero_add,true_and,and_true,Nat.le_refl]
 subst hG hH hX'
 have hR:∀τ k (Q:List Z7),Zb 1 τ k (Z6 Q) (Z6 Q):=fun τ k Q=>Zo fun _ _=>rfl
 refine ⟨by omega,by omega,hR _ _ _,rfl,rfl,rfl,rfl,rfl,hC,fun i hi _=>⟨fun he=> ?_,fun h=>h,fun h=>h⟩⟩
 subst he
 repeat' apply And.intro
 all_goals first|rfl|exact hR _ _ _|exact hl.symm|exact hg.symm|exact hd.symm|exact Nat.le_of_eq hl|exact Nat.le_of_eq hg|exact Nat.le_of_eq hd
theorem Zlh (X:Z8) (m:Int) (n:Nat) (C:Prop) (hm:¬(1<=m/\m<=4)):
  evF (Zah X m n C fun _=>Z8V X [] n [] [] []) 20 53 [.agg (X.c (slH 0 n)),.int .i64 m] ⟨1,[(0,.rows 70 n (Z6 X.L))]⟩ (Y5 1 (.ret (.tuple [.agg (X.c (slH 0 n)),.nilslice,.nilslice,.int .i64 2])) 1 [(0,.rows 70 n (Z6 X.L))]):=by
 refine @Eq.mpr _ (let q1:=X.t;let q2:=q1.fund;let q3:=q2=q2;let q4:=q1.index;let q5:=decide (q4=q4);let q6:=q1.cap;let q7:=decide (q6=q6);let q8:=q1.dust;let q9:=decide (q8=q8);let q10:=q1.fee;let q11:=decide (q10=q10);let q12:=q1.delay;let q13:=decide (q12=q12);let q14:=q1.k0;let q15:=q14=q14;let q16:=q1.k1;let q17:=q16=q16;let q18:=decide (X.side=X.side);let q19:=decide (X.res=X.res);let q20:=[X.a0,X.a1];let q21:=q20=q20;let q22:=[X.i0,X.i1];let q23:=q22=q22;let q24:=decide (n=n);let q25:=decide (n<=n);let q26:=Z6 X.L;let q27:=q3/\Z0 q5 (Z0 q7 (Z0 q9 (Z0 q11 (Z0 q13 (q15/\q17/\Z0 q18 (Z0 q19 (q21/\q23/\Z0 q24 (Z0 q25 (Z0 q24 (Zb 1 [] n q26 q26/\True) False) False) False) False) False) False) False) False) False) False;let q28:=Yv.t;let q29:=[(0:Int),0];
 Z0 (decide (m<1)) q27 (Z0 (decide (m>4)) q27 (Z0 (decide (m=m)) (Z0 q24 (Zb 1 [(2,2),(1,1)] n q26 q26/\q3/\Z0 q5 (Z0 q7 (Z0 q9 (Z0 q11 (Z0 q13 (q15/\q17/\Z0 q18 (Z0 q19 (q21/\q23/\Z0 q24 (Z0 q25 (Zf=q28.fund/\Zf=q28.k0/\Zf=q28.k1/\q29=[Yv.a0,Yv.a1]/\q29=[Yv.i0,Yv.i1]/\C/\∀(i:Nat),i<=n->(∀(j:Nat),j<i->(fun (i:Nat)=>i<n) j)->(i=n->q3/\Z0 q5 (Z0 q7 (Z0 q9 (Z0 q11 (Z0 q13 (q15/\q17/\Z0 q18 (Z0 q19 (q21/\q23/\False) False) False) False) False) False) False) False)/\(False->False)/\(False->False)) False) False) False) False) False) False) False) False) False) False) False))) (by kernel_rfl) ?_
 conv=>zeta
 try simp only [Zj]
 try simp only [Zl]
 try simp only [Zi]
 try simp only [Zm]
 try simp only [Zn]
 try simp only [Zh]
 try simp only [Int.toNat_natCast,Nat.zero_add,true_and,and_true,Nat.le_refl]
 have hR:∀τ k (Q:List Z7),Zb 1 τ k (Z6 Q) (Z6 Q):=fun τ k Q=>Zo fun _ _=>rfl
 exact ⟨fun _=>hR _ _ _,fun h1=>⟨fun _=>hR _ _ _,fun h2=>absurd ⟨by omega,by omega⟩ hm⟩⟩
def Z8W (c:Bool):Yf:=fun args h K=>match args with
 | [.agg [_,_,_,_,_,_,_,_,_,_,_,_,.nslice ⟨b,0,70,0,0⟩ 70 _ _],_]=>frA [b] h 20 args fun Bs a=>match Bs,a with
  | [.rows 70 n f],[.agg cs,.int .i64 m]=>
   ∃X,LD cs n f X/\X.Inv Zs/\(match c with
    | true=>(1<=m/\m<=4)/\K (.ret (.tuple [.agg ((stpX X m).c (slH h.next (stpX X m).L.length)),slH (h.next+2) (Ys m X.L).length,slH (h.next+1) (ZX m X.L).length,.int .i64 0])) ⟨h.next+3,(b,.rows 70 X.L.length (Z6 X.L))::(h.next,.rows 70 (stpX X m).L.length (Z6 (stpX X m).L))::(h.next+1,.rows 70 (ZX m X.L).length (Z6 (ZX m X.L)))::(h.next+2,.rows 70 (Ys m X.L).length (Z6 (Ys m X.L)))::Yc h.bs b⟩
    | false=>¬(1<=m/\m<=4)/\K (.ret (.tuple [.agg (X.c (slH b X.L.length)),.nilslice,.nilslice,.int .i64 2])) ⟨h.next,(b,.rows 70 X.L.length (Z6 X.L))::Yc h.bs b⟩)
  | _,_=>False
 | _=>False
theorem ZbC (c:Bool) (args:List AV) (h:Za) (K:KO) (hl:Z8W c args h K):Zp PP 53 args h K:=by
 unfold Z8W at hl
 split at hl
 ·refine Spec.fsumm hl fun Bs a hlen hK0=> ?_
  split at hK0
  ·rename_i cs n f m
   obtain ⟨X,⟨rfl,rfl,rfl⟩,hI,hK⟩:=hK0
   cases c with
   | true=>
    obtain ⟨hm,hK1⟩:=hK
    have e:=Z9W (X:=X) hm
    have hv:=Zlg X (stpX X m) m X.L.length _ _ _ (ZX m X.L) (Ys m X.L) (Z79 X m X.L.length) (stX X m) (fun i=>ZX m (X.L.take i)) (fun i=>Ys m (X.L.take i)) (fun i=>Yr m (X.L.take i)) (hI.st hm) hm (by rw [List.take_length]) (by rw [List.take_length]) (by dsimp only;rw [List.take_length];exact e) rfl rfl rfl
    exact ⟨_,_,_,_,_,.evM (ZeI X m _) hv,by simp,.ret _ _ rfl,.cons _ _ _ _ _ _ rfl (.rows _ _ _ (fun _ _=>rfl)) (.cons _ _ _ _ _ _ rfl (.rows _ _ _ (fun _ _=>rfl)) (.cons _ _ _ _ _ _ rfl (.rows _ _ _ (fun _ _=>rfl)) (.cons _ _ _ _ _ _ rfl (.rows _ _ _ (fun _ _=>rfl)) .nil))),hK1⟩
   | false=>
    obtain ⟨hm,hK2⟩:=hK
    have hC:(Zah X m X.L.length False fun _=>Z8V X [] X.L.length [] [] []).Ok:=Zg.withGoM (N:=20) (S:=fun i=>Zaf X m X.L.length i) Zae (by kernel_rfl) fun h=>h.elim
    exact ⟨_,_,_,_,_,.evM hC (Zlh X m _ False hm),by simp,.ret _ _ rfl,.cons _ _ _ _ _ _ rfl (.rows _ _ _ (fun _ _=>rfl)) .nil,hK2⟩
  ·exact hK0.elim
 ·exact hl.elim
end Go.Tk
end
