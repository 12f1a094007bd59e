/- P: part 8 of an engine (a symbolic evaluator, proved against the model) and of the walk by it. -/
import Derived.Test.YtdfjhgjefkkkbaaGreatP7
import Derived.Test.YtdfjhgjefkkkbaaGreatRows
import Derived.ChangeOld
set_option linter.unusedVariables false
set_option linter.unusedSimpArgs false
set_option maxRecDepth 100000
set_option maxHeartbeats 0
section
namespace Go.Tk
open IntKind (i64 u8 u32 u64 wrap)
variable {Tg:List Int->TxS->List Int} {SB:Zi->Bool}
noncomputable def Zjw (W:Int->List Int) (Tg:List Int->TxS->List Int) (F:TxS->TxS->Bool):Zd:=((((G0.withF 15 (Zej Tg)).withF 58 (Zms Tg)).withP 59 (Zd4 F)).withF 21 (Za6 W)).withF 28 (Zhy W)
theorem Za9:(Zjw Zu Zv Vm).Ok:=Zd.withF_ok (Zd.withF_ok (Zd.withP_ok (Zd.withF_ok (Zd.withF_ok Zm Z61) ZgX) Zda) Z7j) Zee
theorem Z4X (t:TxS):Vm t t=true:=by
 unfold Vm Z8s ZaT
 simp [Z1N,Ui]
def ctT (Tg:List Int->TxS->List Int) (k:ClS) (n:Nat) (L:List Za):TxS:=⟨2147483647,1,ctG Tg k,n,ZV L⟩
theorem Zjx {k:ClS} {n:Nat} {L:List Za} (hT:∀a t,(Tg a t).length=32) (ht:k.t.All) (hL:L=ZR (clL k.t k.a0 k.a1 k.fee)) (hn:n=L.length):(ctT Tg k n L).Ok:=by
 have h0:=Ws (a:=k.a0) (b:=k.a1) (fee:=k.fee) ht.ok ht.fl
 subst hn hL
 refine ⟨by show (1:Nat)<_;decide,h0.m,fun i hi=> ?_,h0.outs⟩
 have hi:i<1:=hi
 show (Z3X Tg _ _ _ 1 i).Ok
 unfold Z3X
 rw [if_pos hi]
 unfold Z0K
 rw [if_pos (show ((txC k.t k.a0 k.a1 k.fee).ins i).way=1 from rfl)]
 exact ⟨ht.fl,hT _ _,hT _ _,rfl⟩
theorem Z93:(TxS.mk 0 0 (fun _=>⟨[],0,0,[],[],[]⟩) 0 (fun _=>⟨0,0,[],[],[],[],0,0⟩)).Ok:=⟨by decide,by decide,fun i hi=>absurd hi (Ki i),fun i hi=>absurd hi (Ki i)⟩
theorem ZnR (W:Int->List Int) (Tg:List Int->TxS->List Int) (F:TxS->TxS->Bool) (k:ClS) (hk:TxK k) (hr:RwC k) (h9:∀v,(W v).length<=9) (hE:ZJ k.t k.a0 k.a1 k.fee=0) (hT:∀a t,(Tg a t).length=32) (hF:∀t,t.Ok->F t t=true):
  evF (Zjw W Tg F) 20 24 [.ptr (some ⟨0,0,0,0,0⟩),.agg (clU k k.side k.offers k.last true k.fee)] ⟨1,[(0,.flat (clT k k.side k.offers k.last true k.fee))]⟩ (ZF 1 (.ret (.bool true)) 1 [(0,.flat (clT k k.side k.offers k.last true k.fee))]):=by
 refine @Eq.mpr _ (let q1:=k.t;let q2:=q1.fund;let q3:=AV.arr u8 32 q2;let q4:=q1.index;let q5:=AV.int i64 q4;let q6:=q1.cap;let q7:=AV.int i64 q6;let q8:=q1.dust;let q9:=AV.int i64 q8;let q10:=q1.fee;let q11:=AV.int i64 q10;let q12:=q1.delay;let q13:=AV.int i64 q12;let q14:=q1.k0;let q15:=AV.arr u8 32 q14;let q16:=q1.k1;let q17:=AV.arr u8 32 q16;let q18:=k.side;let q19:=AV.int i64 q18;let q20:=[k.a0,k.a1];let q21:=AV.arr i64 2 q20;let q22:=k.least;let q23:=AV.int i64 q22;let q24:=k.most;let q25:=AV.int i64 q24;let q26:=k.offers;let q27:=AV.bool q26;let q28:=k.last;let q29:=AV.int i64 q28;let q30:=AV.bool true;let q31:=k.fee;let q32:=AV.int i64 q31;let q33:=q2=q2;let q34:=decide (q4=q4);let q35:=decide (q6=q6);let q36:=decide (q8=q8);let q37:=decide (q10=q10);let q38:=decide (q12=q12);let q39:=q14=q14;let q40:=q16=q16;let q41:=decide (q18=q18);let q42:=q20=q20;let q43:=decide (q22=q22);let q44:=decide (q24=q24);let q45:=decide (q26=q26);let q46:=decide (q28=q28);let q47:=decide (q31=q31);
 ∃(k_1:ClS),
 let q95:=[q3,q5,q7,q9,q11,q13,q15,q17,q19,q21,q23,q25,q27,q29,q30,q32,q30];
 YE q95 k_1/\
 TxK k_1/\
 ZJ k_1.t k_1.a0 k_1.a1 k_1.fee=0/\
 ∀(n:Nat) (L:List Za),
 L=ZR (clL k_1.t k_1.a0 k_1.a1 k_1.fee)->
 n=List.length L->
 n<=2->
 ∃(k_2:ClS),
 let q97:=[q3,q5,q7,q9,q11,q13,q15,q17,q19,q21,q23,q25,q27,q29,q30,q32];
 YK q97 k_2/\
 TxK k_2/\
 ZJ k_2.t k_2.a0 k_2.a1 k_2.fee=0/\
 ∀(n_1:Nat) (L_1:List Za),
 L_1=ZR (clL k_2.t k_2.a0 k_2.a1 k_2.fee)->
 n_1=List.length L_1->
 n_1<=2->
 q33/\
 Z0 q34 (Z0 q35 (Z0 q36 (Z0 q37 (Z0 q38 (q39/\
 q40/\
 Z0 q41 (q42/\
 Z0 q43 (Z0 q44 (Z0 q45 (Z0 q46 (Z0 q47 (Z6 (List.length q2=32/\List.length q2=32) (Z6 (List.length q14=32/\List.length q14=32) (Z6 (List.length q16=32/\List.length q16=32) (Z0 (q2==q2&&(q4==q4&&(q6==q6&&(q8==q8&&(q10==q10&&(q12==q12&&(q14==q14&&q16==q16))))))&&(q18==q18&&(q20==q20&&(q22==q22&&(q24==q24&&(q26==q26&&(q28==q28&&(true&&q31==q31)))))))) ((∀(i:Nat),i<1->true=true)/\
 Z6 (0+n<=n) ((∀(i:Nat),i<n->true=true)/\
 (∀(i:Nat),i<1->true=true)/\
 Z6 (0+n_1<=n_1) ((∀(i:Nat),i<n_1->true=true)/\
 ∃(a:TxS),
 ∃(b:TxS),
 (a.num=2147483647/\
 (((1:Nat)=1/\a.N=1)/\
 ∀(i:Nat),
 let q99:=ctG Tg k_1 i;
 i<1->[AV.arr u8 32 q99.name,AV.int i64 q99.index,AV.int i64 q99.way,AV.arr u8 32 q99.tag,AV.arr u8 32 q99.also,AV.arr u8 32 q99.secret]=InS.c (a.ins i))/\
 (n=n/\a.M=n)/\
 ∀(i:Nat),
 let q99:=ZV L i;
 i<n->[AV.int i64 q99.kind,AV.int i64 q99.amount,AV.arr u8 32 q99.owner,AV.arr u8 32 q99.other,AV.arr u8 32 q99.point,AV.arr u8 32 q99.hash,AV.int i64 q99.delay,AV.int i64 q99.expiry]=ZE.c (a.outs i))/\
 (b.num=2147483647/\
 (((1:Nat)=1/\b.N=1)/\
 ∀(i:Nat),
 let q99:=ctG Tg k_2 i;
 i<1->[AV.arr u8 32 q99.name,AV.int i64 q99.index,AV.int i64 q99.way,AV.arr u8 32 q99.tag,AV.arr u8 32 q99.also,AV.arr u8 32 q99.secret]=InS.c (b.ins i))/\
 (n_1=n_1/\b.M=n_1)/\
 ∀(i:Nat),
 let q99:=ZV L_1 i;
 i<n_1->[AV.int i64 q99.kind,AV.int i64 q99.amount,AV.arr u8 32 q99.owner,AV.arr u8 32 q99.other,AV.arr u8 32 q99.point,AV.arr u8 32 q99.hash,AV.int i64 q99.delay,AV.int i64 q99.expiry]=ZE.c (b.outs i))/\
 (TxS.Ok a/\TxS.Ok b)/\
 Z0 (F a b) (∃(k_3:ClS),
 let q99:=List.length (XV W k_3);let q100:=decide (u8=u8/\0+q99<=q99);let q101:=strOf (List.take q99 (Y0 0 (XV W k_3)));
 YE q95 k_3/\
 RwC k_3/\
 q33/\
 Z0 q34 (Z0 q35 (Z0 q36 (Z0 q37 (Z0 q38 (q39/\
 q40/\
 Z0 q41 (q42/\
 Z0 q43 (Z0 q44 (Z0 q45 (Z0 q46 (Z0 q47 (Z0 q100 (∃(k_4:ClS),
 let q105:=List.length (XV W k_4);
 YK q97 k_4/\RwC k_4/\Z0 q100 (q101=q101/\Z6 (u8=u8/\0+q105<=q105) (Z6 ((ByteArray.toList q101==ByteArray.toList (strOf (List.take q105 (Y0 0 (XV W k_4)))))=true) (q33/\Z0 q34 (Z0 q35 (Z0 q36 (Z0 q37 (Z0 q38 (q39/\q40/\Z0 q41 (q42/\Z0 q43 (Z0 q44 (Z0 q45 (Z0 q46 (Z0 q47 True)))))))))))))))))))))))))))))))))))))))))))) (by kernel_rfl) ?_
 conv=>zeta
 try simp only [vcA]
 try simp only [vcB]
 try simp only [vcC]
 have h0:=hk.t.ok
 refine ⟨(clP k k.side k.offers true),⟨rfl⟩,⟨hk.t,hk.a⟩,hE,fun n L hL hn hn2=>⟨(clP k k.side k.offers true),⟨rfl⟩,⟨hk.t,hk.a⟩,hE,fun n' L' hL' hn' _=> ?_⟩⟩
 have hk1:(ctT Tg (clP k k.side k.offers true) n L).Ok:=Zjx (k:=(clP k k.side k.offers true)) hT hk.t hL hn
 have e1:L'=L:=hL'.trans hL.symm
 have e2:n'=n:=by rw [hn,hn',e1]
 subst e1 e2
 refine ⟨⟨hk.t.fl,hk.t.fl⟩,⟨h0.k0,h0.k0⟩,⟨h0.k1,h0.k1⟩,by simp,fun _ _=>trivial,fun _ _=>trivial,fun _ _=>trivial,fun _ _=>trivial,ctT Tg (clP k k.side k.offers true) n' L',ctT Tg (clP k k.side k.offers true) n' L',⟨rfl,⟨rfl,fun _ _=>rfl⟩,rfl,fun _ _=>rfl⟩,⟨rfl,⟨rfl,fun _ _=>rfl⟩,rfl,fun _ _=>rfl⟩,⟨hk1,hk1⟩,hF _ hk1,(clP k k.side k.offers true),⟨rfl⟩,⟨⟨hr.n.ix,hr.n.ca,hr.n.du,hr.n.fe,hr.n.de,hr.n.sd,hr.n.a0,hr.n.a1,hr.n.le,hr.n.mo,hr.n.la,hr.n.fee⟩,hr.f,hr.h0,hr.h1⟩,(clP k k.side k.offers true),⟨rfl⟩,⟨⟨hr.n.ix,hr.n.ca,hr.n.du,hr.n.fe,hr.n.de,hr.n.sd,hr.n.a0,hr.n.a1,hr.n.le,hr.n.mo,hr.n.la,hr.n.fee⟩,hr.f,hr.h0,hr.h1⟩, ?_⟩
 exact beq_self_eq_true _
theorem ZnS (W:Int->List Int) (Tg:List Int->TxS->List Int) (F:TxS->TxS->Bool) (k:ClS) (hk:TxK k) (hr:RwC k) (h9:∀v,(W v).length<=9) (hT:∀a t,(Tg a t).length=32) (hF:∀t,t.Ok->F t t=true):
  evF (Zjw W Tg F) 20 24 [.ptr (some ⟨0,0,0,0,0⟩),.agg (clU k k.side k.offers k.last false k.fee)] ⟨1,[(0,.flat (clT k k.side k.offers k.last false k.fee))]⟩ (ZF 1 (.ret (.bool true)) 1 [(0,.flat (clT k k.side k.offers k.last false k.fee))]):=by
 refine @Eq.mpr _ (let q1:=k.t;let q2:=q1.fund;let q3:=AV.arr u8 32 q2;let q4:=q1.index;let q5:=AV.int i64 q4;let q6:=q1.cap;let q7:=AV.int i64 q6;let q8:=q1.dust;let q9:=AV.int i64 q8;let q10:=q1.fee;let q11:=AV.int i64 q10;let q12:=q1.delay;let q13:=AV.int i64 q12;let q14:=q1.k0;let q15:=AV.arr u8 32 q14;let q16:=q1.k1;let q17:=AV.arr u8 32 q16;let q18:=k.side;let q19:=AV.int i64 q18;let q20:=[k.a0,k.a1];let q21:=AV.arr i64 2 q20;let q22:=k.least;let q23:=AV.int i64 q22;let q24:=k.most;let q25:=AV.int i64 q24;let q26:=k.offers;let q27:=AV.bool q26;let q28:=k.last;let q29:=AV.int i64 q28;let q30:=k.fee;let q31:=AV.int i64 q30;let q32:=q2=q2;let q33:=decide (q4=q4);let q34:=decide (q6=q6);let q35:=decide (q8=q8);let q36:=decide (q10=q10);let q37:=decide (q12=q12);let q38:=q14=q14;let q39:=q16=q16;let q40:=decide (q18=q18);let q41:=q20=q20;let q42:=decide (q22=q22);let q43:=decide (q24=q24);let q44:=decide (q26=q26);let q45:=decide (q28=q28);let q46:=decide (q30=q30);
 ∃(k_1:ClS),
 let q93:=[q3,q5,q7,q9,q11,q13,q15,q17,q19,q21,q23,q25,q27,q29,AV.bool false,q31,AV.bool true];
 YE q93 k_1/\
 TxK k_1/\
 ∃(k_2:ClS),
 let q95:=[q3,q5,q7,q9,q11,q13,q15,q17,q19,q21,q23,q25,q27,q29,AV.bool false,q31];
 YK q95 k_2/\
 TxK k_2/\
 q32/\
 Z0 q33 (Z0 q34 (Z0 q35 (Z0 q36 (Z0 q37 (q38/\
 q39/\
 Z0 q40 (q41/\
 Z0 q42 (Z0 q43 (Z0 q44 (Z0 q45 (Z0 q46 (Z6 (List.length q2=32/\List.length q2=32) (Z6 (List.length q14=32/\List.length q14=32) (Z6 (List.length q16=32/\List.length q16=32) (Z0 (q2==q2&&(q4==q4&&(q6==q6&&(q8==q8&&(q10==q10&&(q12==q12&&(q14==q14&&q16==q16))))))&&(q18==q18&&(q20==q20&&(q22==q22&&(q24==q24&&(q26==q26&&(q28==q28&&(true&&q30==q30)))))))) (∃(a:TxS),
 ∃(b:TxS),
 (a.num=0/\a.N=0/\a.M=0)/\
 (b.num=0/\b.N=0/\b.M=0)/\
 (TxS.Ok a/\TxS.Ok b)/\
 Z0 (F a b) (∃(k_3:ClS),
 let q97:=List.length (XV W k_3);let q98:=decide (u8=u8/\0+q97<=q97);let q99:=strOf (List.take q97 (Y0 0 (XV W k_3)));
 YE q93 k_3/\
 RwC k_3/\
 q32/\
 Z0 q33 (Z0 q34 (Z0 q35 (Z0 q36 (Z0 q37 (q38/\
 q39/\
 Z0 q40 (q41/\
 Z0 q42 (Z0 q43 (Z0 q44 (Z0 q45 (Z0 q46 (Z0 q98 (∃(k_4:ClS),
 let q103:=List.length (XV W k_4);
 YK q95 k_4/\RwC k_4/\Z0 q98 (q99=q99/\Z6 (u8=u8/\0+q103<=q103) (Z6 ((ByteArray.toList q99==ByteArray.toList (strOf (List.take q103 (Y0 0 (XV W k_4)))))=true) (q32/\Z0 q33 (Z0 q34 (Z0 q35 (Z0 q36 (Z0 q37 (q38/\q39/\Z0 q40 (q41/\Z0 q42 (Z0 q43 (Z0 q44 (Z0 q45 (Z0 q46 True)))))))))))))))))))))))))))))))))))))))))) (by kernel_rfl) ?_
 conv=>zeta
 try simp only [vcA]
 try simp only [vcB]
 try simp only [vcC]
 have h0:=hk.t.ok
 refine ⟨(clP k k.side k.offers false),⟨rfl⟩,⟨hk.t,hk.a⟩,(clP k k.side k.offers false),⟨rfl⟩,⟨hk.t,hk.a⟩,⟨hk.t.fl,hk.t.fl⟩,⟨h0.k0,h0.k0⟩,⟨h0.k1,h0.k1⟩,by simp,_,_,⟨rfl,rfl,rfl⟩,⟨rfl,rfl,rfl⟩,⟨Z93,Z93⟩,hF _ Z93,(clP k k.side k.offers false),⟨rfl⟩,⟨⟨hr.n.ix,hr.n.ca,hr.n.du,hr.n.fe,hr.n.de,hr.n.sd,hr.n.a0,hr.n.a1,hr.n.le,hr.n.mo,hr.n.la,hr.n.fee⟩,hr.f,hr.h0,hr.h1⟩,(clP k k.side k.offers false),⟨rfl⟩,⟨⟨hr.n.ix,hr.n.ca,hr.n.du,hr.n.fe,hr.n.de,hr.n.sd,hr.n.a0,hr.n.a1,hr.n.le,hr.n.mo,hr.n.la,hr.n.fee⟩,hr.f,hr.h0,hr.h1⟩, ?_⟩
 exact beq_self_eq_true _
structure YL (k:ClS):Prop where
 i:Ys k
 t:k.t.All
theorem YL.a {k:ClS} (h:YL k):k.a0<9223372036854775808:=by
 have:=WG h.i.made.t
 have:=h.i.made.a1
 have:=h.i.made.sum
 omega
theorem YL.x {k:ClS} (h:YL k):TxK k:=⟨h.t,h.a⟩
theorem YL.o {k:ClS} (h:YL k):Xz k:=⟨h.t,h.a,h.i.made.side⟩
theorem YL.r {k:ClS} (h:YL k):RwC k:=⟨h.i.num,h.t.fl,h.t.ok.k0,h.t.ok.k1⟩
theorem Zh2 {k:ClS} (h:YL k):Spec PP 24 [.ptr (some ⟨0,0,0,0,0⟩),.agg (clU k k.side k.offers k.last k.agrees k.fee)] ⟨1,[(0,.flat (clT k k.side k.offers k.last k.agrees k.fee))]⟩ (.ret (.bool true)) 1 [(0,.flat (clT k k.side k.offers k.last k.agrees k.fee))]:=by
 have hx:=h.x
 have hr:=h.r
 have ha:=h.i.agr
 obtain ⟨t,sd,a0,a1,le,mo,o0,l0,g0,f0⟩:=k
 cases g0 with
 | true=>exact .evM Za9 (ZnR Zu Zv Vm ⟨t,sd,a0,a1,le,mo,o0,l0,true,f0⟩ hx hr Za5 (ha rfl).2.2 X9 fun t _=>Z4X t)
 | false=>exact .evM Za9 (ZnS Zu Zv Vm ⟨t,sd,a0,a1,le,mo,o0,l0,false,f0⟩ hx hr Za5 X9 fun t _=>Z4X t)
def Zep:ZN:=fun args h K=>match args with
 | [.ptr (some ⟨x,0,0,0,0⟩),_]=>frA [x] h 40 args fun Bs a=>match Bs,a with
  | [.flat cs],[.ptr (some ⟨0,0,0,0,0⟩),.agg ds]=>∃k,YE cs k/\YK ds k/\YL k/\K (.ret (.bool true)) ⟨h.next,(x,.flat cs)::Yl h.bs x⟩
  | _,_=>False
 | _=>False
theorem Zeq (args:List AV) (h:Z8) (K:KO) (hl:Zep args h K):Ze PP 24 args h K:=by
 unfold Zep at hl
 split at hl
 ·refine Spec.fsumm hl fun Bs a hlen hK0=> ?_
  split at hK0
  ·obtain ⟨k,⟨rfl⟩,⟨rfl⟩,hk,hK⟩:=hK0
   exact ⟨_,_,_,_,_,Zh2 hk,by simp,.ret _ _ rfl,.cons _ _ _ _ _ _ rfl (.flat _ _ rfl) .nil,hK⟩
  ·exact hK0.elim
 ·exact hl.elim
def Zer (SB:Zi->Bool) (M:Int->Int->Int) (Tg:List Int->TxS->List Int):ZH:=fun args h K=>ZA none h true 60 args fun x=>match x with
 | [.agg cs,.agg ss]=>∃k s,YK cs k/\Xp ss s/\(Ys k/\k.t.All)/\s.Len/\
  ∀r,r=Y1 SB M Tg k s->K (.tuple [.agg (clU k k.side r.of r.la r.ag r.fe),.agg (sdC r.kd r.am r.tg),.bool r.sy,.int .i64 r.e])
 | _=>False
theorem Zbq (args:List AV) (h:Z8) (K:AV->Prop) (hl:Zer XA YD Zv args h K):Ze PP 63 args h fun o h'=>∃v,o=.ret v/\h'=h/\K v:=by
 refine Zs.psumm (d:=60) (Zk _ _ _ _ _ hl fun a ha=> ?_)
 split at ha
 ·obtain ⟨k,s,⟨rfl⟩,⟨rfl⟩,⟨hk,ht⟩,hs,hK⟩:=ha
  exact ⟨_,Z8X Zjp hk ht hs Z2d rfl,fun _=>rfl,hK _ rfl⟩
 ·exact ha.elim
def VW (k:ClS) (r:HR):ClS:=⟨k.t,k.side,k.a0,k.a1,k.least,k.most,r.of,r.la,r.ag,r.fe⟩
theorem Uf {k:ClS} (h:Z3I k) (r:HR):Z3I (VW k r):=⟨h.t,h.side,h.a0,h.a1,h.sum,h.lo,h.lm,h.hi⟩
theorem Zes {n lo hi:Int} (h:lo<=hi):lo<=Q1 n lo hi/\Q1 n lo hi<=hi:=by
 unfold Q1
 omega
theorem Zbr {M:Int->Int->Int} {k:ClS} (s:Zi) (hk:Ys k):Ys (VW k (Y1 SB M Tg k s)):=by
 unfold Y1
 split
 ·exact hk
 split
 ·exact hk
 split
 ·exact hk
 rename_i hg
 have hg:k.agrees=false:=by simpa using hg
 split
 ·exact hk
 rename_i ht
 have ht:ZJ k.t k.a0 k.a1 s.amount=0:=Decidable.byContradiction ht
 split
 ·exact hk
 split
 ·rename_i ho
  exact ⟨Uf hk.made _,hk.off,hk.nof,fun _=>⟨ho.1,ho.2.symm,ht⟩,(fun h=>nomatch h)⟩
 split
 ·rename_i hi
  exact ⟨Uf hk.made _,fun _=>hi,(fun h=>nomatch h),fun _=>⟨rfl,rfl,ht⟩,(fun h=>nomatch h)⟩
 split
 ·exact hk
 split
 ·exact hk
 exact ⟨Uf hk.made _,fun _=>Zes hk.made.lm,(fun h=>nomatch h),fun h=>absurd (hg.symm.trans h) (by decide),fun _=>hk.nag hg⟩
theorem Zet {k:ClS} (hk:Ys k):Ys (VW k (Wt Tg k)):=by
 unfold Wt
 split
 ·exact hk
 rename_i hg
 have hg:k.agrees=false:=by simpa using hg
 split
 ·exact hk
 split
 ·exact hk
 exact ⟨Uf hk.made _,fun _=>⟨Int.le_refl _,hk.made.lm⟩,(fun h=>nomatch h),fun h=>absurd (hg.symm.trans h) (by decide),fun _=>hk.nag hg⟩
theorem YL.hear {M:Int->Int->Int} {k:ClS} (s:Zi) (hk:YL k):YL (VW k (Y1 SB M Tg k s)):=⟨Zbr s hk.i,hk.t⟩
theorem YL.beg {k:ClS} (hk:YL k):YL (VW k (Wt Tg k)):=⟨Zet hk.i,hk.t⟩
noncomputable def Zeu (A:List Int->Int×Int) (SB:Zi->Bool) (M:Int->Int->Int) (Tg Td:List Int->TxS->List Int):Zd:=(((((G0.withF 12 (ZgW Tg)).withP 60 (ZhB Tg)).withF 13 (Z4W SB M Tg)).withP 63 (Zer SB M Tg)).withF 61 (clF A)).withP 62 (Z3y Td)
theorem Z2e:(Zeu ZB XA YD Zv Wq).Ok:=Zd.withP_ok (Zd.withF_ok (Zd.withP_ok (Zd.withF_ok (Zd.withP_ok (Zd.withF_ok Zm Za8) Zeh) Z0M) Zbq) Z5S) Z5L
def YG (l:List Int) (b:Int):List Int:=l.set 0 (wrap .u8 (l.getD 0 0+b))
theorem Z7l (hT:∀a t,(Tg a t).length=32) (k:ClS) (fee sd:Int):(Yb Tg k fee sd).length=32:=by
 unfold Yb
 split
 ·exact hT _ _
 ·rfl
theorem Zh3 (hT:∀a t,(Tg a t).length=32) (k:ClS):(Wt Tg k).tg.length=32:=by
 unfold Wt
 repeat' split
 all_goals first
  | rfl
  | exact Z7l hT _ _ _
theorem V7 {M:Int->Int->Int} (hT:∀a t,(Tg a t).length=32) (k:ClS) (s:Zi):(Y1 SB M Tg k s).tg.length=32:=by
 unfold Y1
 repeat' split
 all_goals first
  | rfl
  | exact Z7l hT _ _ _
theorem Zmz (A:List Int->Int×Int) (SB:Zi->Bool) (M:Int->Int->Int) (Tg Td:List Int->TxS->List Int) (k:ClS) (s:Zi) (fe be:Int) (r:HR) (hk:YL k) (hT:∀a t,(Tg a t).length=32) (hl:s.Len) (hr:r=Wt Tg k):
  evF (Zeu A SB M Tg Td) 20 25 [.ptr (some ⟨0,0,0,0,0⟩),.agg (clU k k.side k.offers k.last k.agrees k.fee),.agg (.int .i64 0::(s.c++[.int .i64 fe,.int .u8 be]))] ⟨1,[(0,.flat (clT k k.side k.offers k.last k.agrees k.fee))]⟩ (ZF 1 (.ret (.tuple [.agg (clU k k.side r.of r.la r.ag r.fe),.bool true])) 1 [(0,.flat (clT k k.side r.of r.la r.ag r.fe))]):=by
 refine @Eq.mpr _ (let q1:=k.t;let q2:=q1.fund;let q3:=AV.arr u8 32 q2;let q4:=q1.index;let q5:=AV.int i64 q4;let q6:=q1.cap;let q7:=AV.int i64 q6;let q8:=q1.dust;let q9:=AV.int i64 q8;let q10:=q1.fee;let q11:=AV.int i64 q10;let q12:=q1.delay;let q13:=AV.int i64 q12;let q14:=q1.k0;let q15:=AV.arr u8 32 q14;let q16:=q1.k1;let q17:=AV.arr u8 32 q16;let q18:=k.side;let q19:=AV.int i64 q18;let q20:=[k.a0,k.a1];let q21:=AV.arr i64 2 q20;let q22:=k.least;let q23:=AV.int i64 q22;let q24:=k.most;let q25:=AV.int i64 q24;let q26:=AV.bool k.offers;let q27:=AV.int i64 k.last;let q28:=AV.bool k.agrees;let q29:=AV.int i64 k.fee;
 ∃(k:ClS),
 let q59:=k.t;let q60:=q59.fund;let q61:=q59.index;let q62:=q59.cap;let q63:=q59.dust;let q64:=q59.fee;let q65:=q59.delay;let q66:=q59.k0;let q67:=q59.k1;let q68:=k.side;let q69:=[k.a0,k.a1];let q70:=k.least;let q71:=k.most;let q72:=q60=q2;let q73:=decide (q61=q4);let q74:=decide (q62=q6);let q75:=decide (q63=q8);let q76:=decide (q64=q10);let q77:=decide (q65=q12);let q78:=q66=q14;let q79:=q67=q16;let q80:=decide (q68=q18);let q81:=q69=q20;let q82:=decide (q70=q22);let q83:=decide (q71=q24);
 YK [q3,q5,q7,q9,q11,q13,q15,q17,q19,q21,q23,q25,q26,q27,q28,q29] k/\
 Xz k/\
 ∀(r_1:HR),
 let q109:=r_1.of;let q110:=r_1.la;let q111:=r_1.ag;let q112:=r_1.fe;let q113:=decide (q109=r.of);let q114:=decide (q110=r.la);let q115:=decide (q111=r.ag);let q116:=decide (q112=r.fe);
 r_1=Wt Tg k->
 ∃(k:ClS),
 let q125:=k.t;
 YE [q3,q5,q7,q9,q11,q13,q15,q17,q19,q21,q23,q25,q26,q27,q28,q29,AV.bool true] k/\
 Xz k/\
 ∀(r_2:HR),
 r_2=Wt Tg k->
 Z6 (List.length r_2.tg=32/\List.length r_1.tg=32) (Z7 (r_2.kd==r_1.kd&&(true&&(true&&(r_2.am==r_1.am&&(true&&(true&&(true&&(true&&(r_2.tg==r_1.tg&&true))))))))) (q60=q60/\
 Z6 (q61=q61) (Z6 (q62=q62) (Z6 (q63=q63) (Z6 (q64=q64) (Z6 (q65=q65) (q66=q66/\
 q67=q67/\
 Z6 (q68=q68) (q69=q69/\
 Z6 (q70=q70) (Z6 (q71=q71) (Z6 (q109=q109) (Z6 (q110=q110) (Z6 (q111=q111) (Z6 (q112=q112) (q72/\Z0 q73 (Z0 q74 (Z0 q75 (Z0 q76 (Z0 q77 (q78/\q79/\Z0 q80 (q81/\Z0 q82 (Z0 q83 (Z0 q113 (Z0 q114 (Z0 q115 (Z0 q116 (Z6 ((r_2.e==r_1.e)=true) (q125.fund=q2/\Z6 (q125.index=q4) (Z6 (q125.cap=q6) (Z6 (q125.dust=q8) (Z6 (q125.fee=q10) (Z6 (q125.delay=q12) (q125.k0=q14/\q125.k1=q16/\Z6 (k.side=q18) ([k.a0,k.a1]=q20/\Z6 (k.least=q22) (Z6 (k.most=q24) (Z6 (r_2.of=r.of) (Z6 (r_2.la=r.la) (Z6 (r_2.ag=r.ag) (Z6 (r_2.fe=r.fe) True))))))))))))))))))))))))))))))))))))) (q72/\Z0 q73 (Z0 q74 (Z0 q75 (Z0 q76 (Z0 q77 (q78/\q79/\Z0 q80 (q81/\Z0 q82 (Z0 q83 (Z0 q113 (Z0 q114 (Z0 q115 (Z7 q116 False False)))))))))))))) (by kernel_rfl) ?_
 conv=>zeta
 try simp only [vcA]
 try simp only [vcB]
 try simp only [vcC]
 have ht:=Zh3 hT k
 subst hr
 refine ⟨k,⟨rfl⟩,hk.o,fun r1 h1=>⟨k,⟨rfl⟩,hk.o,fun r2 h2=> ?_⟩⟩
 subst h1
 subst h2
 simp only [ht,beq_self_eq_true,Kd,JO,and_self,decide_true,true_and,and_true,forall_const,reduceCtorEq,false_implies,implies_true]
theorem ZmA (A:List Int->Int×Int) (SB:Zi->Bool) (M:Int->Int->Int) (Tg Td:List Int->TxS->List Int) (k:ClS) (s:Zi) (fe be:Int) (r:HR) (hk:YL k) (hT:∀a t,(Tg a t).length=32) (hl:s.Len) (hr:r=Y1 SB M Tg k s):
  evF (Zeu A SB M Tg Td) 20 25 [.ptr (some ⟨0,0,0,0,0⟩),.agg (clU k k.side k.offers k.last k.agrees k.fee),.agg (.int .i64 1::(s.c++[.int .i64 fe,.int .u8 be]))] ⟨1,[(0,.flat (clT k k.side k.offers k.last k.agrees k.fee))]⟩ (ZF 1 (.ret (.tuple [.agg (clU k k.side r.of r.la r.ag r.fe),.bool true])) 1 [(0,.flat (clT k k.side r.of r.la r.ag r.fe))]):=by
 refine @Eq.mpr _ (let q1:=k.t;let q2:=q1.fund;let q3:=AV.arr u8 32 q2;let q4:=q1.index;let q5:=AV.int i64 q4;let q6:=q1.cap;let q7:=AV.int i64 q6;let q8:=q1.dust;let q9:=AV.int i64 q8;let q10:=q1.fee;let q11:=AV.int i64 q10;let q12:=q1.delay;let q13:=AV.int i64 q12;let q14:=q1.k0;let q15:=AV.arr u8 32 q14;let q16:=q1.k1;let q17:=AV.arr u8 32 q16;let q18:=k.side;let q19:=AV.int i64 q18;let q20:=[k.a0,k.a1];let q21:=AV.arr i64 2 q20;let q22:=k.least;let q23:=AV.int i64 q22;let q24:=k.most;let q25:=AV.int i64 q24;let q26:=AV.bool k.offers;let q27:=AV.int i64 k.last;let q28:=AV.bool k.agrees;let q29:=AV.int i64 k.fee;let q30:=s.t;
 ∃(k:ClS),
 let q61:=k.t;let q62:=q61.fund;let q63:=q61.index;let q64:=q61.cap;let q65:=q61.dust;let q66:=q61.fee;let q67:=q61.delay;let q68:=q61.k0;let q69:=q61.k1;let q70:=k.side;let q71:=[k.a0,k.a1];let q72:=k.least;let q73:=k.most;let q74:=q62=q2;let q75:=decide (q63=q4);let q76:=decide (q64=q6);let q77:=decide (q65=q8);let q78:=decide (q66=q10);let q79:=decide (q67=q12);let q80:=q68=q14;let q81:=q69=q16;let q82:=decide (q70=q18);let q83:=q71=q20;let q84:=decide (q72=q22);let q85:=decide (q73=q24);
 ∃(s_1:Zi),
 let q111:=[AV.int i64 s.kind,AV.arr u8 32 q30.fund,AV.int i64 q30.index,AV.int i64 q30.cap,AV.int i64 q30.dust,AV.int i64 q30.fee,AV.int i64 q30.delay,AV.arr u8 32 q30.k0,AV.arr u8 32 q30.k1,AV.int i64 s.reserve,AV.int i64 s.amount,AV.arr u8 32 s.point,AV.arr u8 32 s.nxt,AV.arr u8 32 s.key,AV.arr u8 32 s.hash,AV.arr u8 32 s.tag,AV.arr u8 32 s.secret,AV.int i64 s.id,AV.int i64 s.number,AV.int i64 s.index,AV.int i64 s.expiry,AV.int i64 s.code,AV.str s.route];
 YK [q3,q5,q7,q9,q11,q13,q15,q17,q19,q21,q23,q25,q26,q27,q28,q29] k/\
 Xp q111 s_1/\
 (Ys k/\Zj.All q61)/\
 Zi.Len s_1/\
 ∀(r_1:HR),
 let q113:=r_1.of;let q114:=r_1.la;let q115:=r_1.ag;let q116:=r_1.fe;let q117:=decide (q113=r.of);let q118:=decide (q114=r.la);let q119:=decide (q115=r.ag);let q120:=decide (q116=r.fe);let q121:=q74/\Z0 q75 (Z0 q76 (Z0 q77 (Z0 q78 (Z0 q79 (q80/\q81/\Z0 q82 (q83/\Z0 q84 (Z0 q85 (Z0 q117 (Z0 q118 (Z0 q119 (Z7 q120 False False)))))))))));
 r_1=Y1 SB M Tg k s_1->
 ∃(k:ClS),
 let q131:=k.t;
 ∃(s:Zi),
 YE [q3,q5,q7,q9,q11,q13,q15,q17,q19,q21,q23,q25,q26,q27,q28,q29,AV.bool true] k/\
 Xp q111 s/\
 (Ys k/\Zj.All q131)/\
 Zi.Len s/\
 ∀(r_2:HR),
 r_2=Y1 SB M Tg k s->
 Z6 (List.length r_2.tg=32/\List.length r_1.tg=32) (Z7 (r_2.kd==r_1.kd&&(true&&(true&&(r_2.am==r_1.am&&(true&&(true&&(true&&(true&&(r_2.tg==r_1.tg&&true))))))))) (Z7 (r_2.sy==r_1.sy) (q62=q62/\
 Z6 (q63=q63) (Z6 (q64=q64) (Z6 (q65=q65) (Z6 (q66=q66) (Z6 (q67=q67) (q68=q68/\
 q69=q69/\
 Z6 (q70=q70) (q71=q71/\
 Z6 (q72=q72) (Z6 (q73=q73) (Z6 (q113=q113) (Z6 (q114=q114) (Z6 (q115=q115) (Z6 (q116=q116) (q74/\Z0 q75 (Z0 q76 (Z0 q77 (Z0 q78 (Z0 q79 (q80/\q81/\Z0 q82 (q83/\Z0 q84 (Z0 q85 (Z0 q117 (Z0 q118 (Z0 q119 (Z0 q120 (Z6 ((r_2.e==r_1.e)=true) (q131.fund=q2/\Z6 (q131.index=q4) (Z6 (q131.cap=q6) (Z6 (q131.dust=q8) (Z6 (q131.fee=q10) (Z6 (q131.delay=q12) (q131.k0=q14/\q131.k1=q16/\Z6 (k.side=q18) ([k.a0,k.a1]=q20/\Z6 (k.least=q22) (Z6 (k.most=q24) (Z6 (r_2.of=r.of) (Z6 (r_2.la=r.la) (Z6 (r_2.ag=r.ag) (Z6 (r_2.fe=r.fe) True))))))))))))))))))))))))))))))))))))) q121) q121)) (by kernel_rfl) ?_
 conv=>zeta
 try simp only [vcA]
 try simp only [vcB]
 try simp only [vcC]
 have ht:=V7 (SB:=SB) (M:=M) hT k s
 subst hr
 refine ⟨k,s,⟨rfl⟩,⟨rfl⟩,⟨hk.i,hk.t⟩,hl,fun r1 h1=>⟨k,s,⟨rfl⟩,⟨rfl⟩,⟨hk.i,hk.t⟩,hl,fun r2 h2=> ?_⟩⟩
 subst h1
 subst h2
 simp only [ht,beq_self_eq_true,Kd,JO,and_self,decide_true,true_and,and_true,forall_const,reduceCtorEq,false_implies,implies_true]
theorem WK {l:List Int} (h:l.length=32) (b:Int):(YG l b).length=32:=by
 unfold YG
 rw [Kb]
 exact h
theorem Zjy (A:List Int->Int×Int) (SB:Zi->Bool) (M:Int->Int->Int) (Tg Td:List Int->TxS->List Int) (k:ClS) (s:Zi) (w fe be:Int) (r:HR) (tg:List Int) (hA:A=ZB) (hw0:w≠0) (hw1:w≠1) (hk:YL (clD k 0)) (hT:∀a t,(Tg a t).length=32) (hTd:∀a t,(Td a t).length=32) (hl:s.Len) (htg:tg=YG (Yb Td (clD k 0) fe 1) be) (hr:r=Y1 SB M Tg (clD k 0) (sdN 13 fe tg)):
  evF (Zeu A SB M Tg Td) 20 25 [.ptr (some ⟨0,0,0,0,0⟩),.agg (clU k 0 k.offers k.last k.agrees k.fee),.agg (.int .i64 w::(s.c++[.int .i64 fe,.int .u8 be]))] ⟨1,[(0,.flat (clT k 0 k.offers k.last k.agrees k.fee))]⟩ (ZF 1 (.ret (.tuple [.agg (clU k 0 r.of r.la r.ag r.fe),.bool true])) 1 [(0,.flat (clT k 0 r.of r.la r.ag r.fe))]):=by
 refine @Eq.mpr _ (let q1:=k.t;let q2:=q1.fund;let q3:=AV.arr u8 32 q2;let q4:=q1.index;let q5:=AV.int i64 q4;let q6:=q1.cap;let q7:=AV.int i64 q6;let q8:=q1.dust;let q9:=AV.int i64 q8;let q10:=q1.fee;let q11:=AV.int i64 q10;let q12:=q1.delay;let q13:=AV.int i64 q12;let q14:=q1.k0;let q15:=AV.arr u8 32 q14;let q16:=q1.k1;let q17:=AV.arr u8 32 q16;let q18:=AV.int i64 0;let q19:=[k.a0,k.a1];let q20:=AV.arr i64 2 q19;let q21:=k.least;let q22:=AV.int i64 q21;let q23:=k.most;let q24:=AV.int i64 q23;let q25:=AV.bool k.offers;let q26:=AV.int i64 k.last;let q27:=AV.bool k.agrees;let q28:=AV.int i64 k.fee;let q29:=[q3,q5,q7,q9,q11,q13,q15,q17,q18,q20,q22,q24,q25,q26,q27,q28];let q30:=[q3,q5,q7,q9,q11,q13,q15,q17,q18,q20,q22,q24,q25,q26,q27,q28,AV.bool true];let q31:=r.of;let q32:=r.la;let q33:=r.ag;let q34:=r.fe;let q35:=Zj.mk q2 q4 q6 q8 q10 q12 q14 q16;let q36:=AV.int i64 13;let q37:=AV.arr u8 32 Z5;let q38:=AV.int i64 fe;let q39:=[q37,q18,q18,q18,q18,q18,AV.str ByteArray.empty];let q40:=(∃(k:ClS),
 ∃(s:Zi),
 YK q29 k/\
 Xp (q36::q37::q18::q18::q18::q18::q18::q37::q37::q18::q38::q37::q37::q37::q37::AV.arr u8 32 [wrap u8 (0+be),(0:Int),0,0,0,0,0,0,0,0,0,0,0,0,0,0,0,0,0,0,0,0,0,0,0,0,0,0,0,0,0,0]::q39) s/\
 (Ys k/\Zj.All k.t)/\
 Zi.Len s/\
 ∀(r:HR),
 r=Y1 SB M Tg k s->
 ∃(k_1:ClS),
 ∃(s:Zi),
 YE q30 k_1/\
 Xp (q36::q37::q18::q18::q18::q18::q18::q37::q37::q18::q38::q37::q37::q37::q37::AV.arr u8 32 [wrap u8 (0+be),(0:Int),0,0,0,0,0,0,0,0,0,0,0,0,0,0,0,0,0,0,0,0,0,0,0,0,0,0,0,0,0,0]::q39) s/\
 (Ys k_1/\Zj.All k_1.t)/\
 Zi.Len s/\
 ∀(r_1:HR),
 r_1=Y1 SB M Tg k_1 s->
 Z6 (List.length r_1.tg=32/\List.length r.tg=32) (Z7 (r_1.kd==r.kd&&(true&&(true&&(r_1.am==r.am&&(true&&(true&&(true&&(true&&(r_1.tg==r.tg&&true))))))))) (Z7 (r_1.sy==r.sy) (k.t.fund=k.t.fund/\
 Z6 (k.t.index=k.t.index) (Z6 (k.t.cap=k.t.cap) (Z6 (k.t.dust=k.t.dust) (Z6 (k.t.fee=k.t.fee) (Z6 (k.t.delay=k.t.delay) (k.t.k0=k.t.k0/\
 k.t.k1=k.t.k1/\
 Z6 (k.side=k.side) ([k.a0,k.a1]=[k.a0,k.a1]/\
 Z6 (k.least=k.least) (Z6 (k.most=k.most) (Z6 (r.of=r.of) (Z6 (r.la=r.la) (Z6 (r.ag=r.ag) (Z6 (r.fe=r.fe) (k.t.fund=q2/\
 Z6 (k.t.index=q4) (Z6 (k.t.cap=q6) (Z6 (k.t.dust=q8) (Z6 (k.t.fee=q10) (Z6 (k.t.delay=q12) (k.t.k0=q14/\k.t.k1=q16/\Z6 (k.side=0) ([k.a0,k.a1]=q19/\Z6 (k.least=q21) (Z6 (k.most=q23) (Z6 (r.of=q31) (Z6 (r.la=q32) (Z6 (r.ag=q33) (Z6 (r.fe=q34) (Z6 ((r_1.e==r.e)=true) (k_1.t.fund=q2/\Z6 (k_1.t.index=q4) (Z6 (k_1.t.cap=q6) (Z6 (k_1.t.dust=q8) (Z6 (k_1.t.fee=q10) (Z6 (k_1.t.delay=q12) (k_1.t.k0=q14/\k_1.t.k1=q16/\Z6 (k_1.side=0) ([k_1.a0,k_1.a1]=q19/\Z6 (k_1.least=q21) (Z6 (k_1.most=q23) (Z6 (r_1.of=q31) (Z6 (r_1.la=q32) (Z6 (r_1.ag=q33) (Z6 (r_1.fe=q34) True))))))))))))))))))))))))))))))))))))) (k.t.fund=q2/\Z6 (k.t.index=q4) (Z6 (k.t.cap=q6) (Z6 (k.t.dust=q8) (Z6 (k.t.fee=q10) (Z6 (k.t.delay=q12) (k.t.k0=q14/\k.t.k1=q16/\Z6 (k.side=0) ([k.a0,k.a1]=q19/\Z6 (k.least=q21) (Z6 (k.most=q23) (Z6 (r.of=q31) (Z6 (r.la=q32) (Z6 (r.ag=q33) (Z7 (decide (r.fe=q34)) False False))))))))))))) (k.t.fund=q2/\Z6 (k.t.index=q4) (Z6 (k.t.cap=q6) (Z6 (k.t.dust=q8) (Z6 (k.t.fee=q10) (Z6 (k.t.delay=q12) (k.t.k0=q14/\k.t.k1=q16/\Z6 (k.side=0) ([k.a0,k.a1]=q19/\Z6 (k.least=q21) (Z6 (k.most=q23) (Z6 (r.of=q31) (Z6 (r.la=q32) (Z6 (r.ag=q33) (Z7 (decide (r.fe=q34)) False False))))))))))))));let q41:=InS.mk q2 q4 1 Z5 Z5 Z5;let q42:=s.t;
 Z7 (w==0) (∃(k:ClS),
 let q85:=k.t;let q86:=q85.fund;let q87:=q85.index;let q88:=q85.cap;let q89:=q85.dust;let q90:=q85.fee;let q91:=q85.delay;let q92:=q85.k0;let q93:=q85.k1;let q94:=k.side;let q95:=[k.a0,k.a1];let q96:=k.least;let q97:=k.most;let q98:=q86=q2;let q99:=decide (q87=q4);let q100:=decide (q88=q6);let q101:=decide (q89=q8);let q102:=decide (q90=q10);let q103:=decide (q91=q12);let q104:=q92=q14;let q105:=q93=q16;let q106:=decide (q94=0);let q107:=q95=q19;let q108:=decide (q96=q21);let q109:=decide (q97=q23);
 YK q29 k/\
 Xz k/\
 ∀(r:HR),
 let q135:=r.of;let q136:=r.la;let q137:=r.ag;let q138:=r.fe;let q139:=decide (q135=q31);let q140:=decide (q136=q32);let q141:=decide (q137=q33);let q142:=decide (q138=q34);
 r=Wt Tg k->
 ∃(k:ClS),
 let q151:=k.t;
 YE q30 k/\
 Xz k/\
 ∀(r_1:HR),
 r_1=Wt Tg k->
 Z6 (List.length r_1.tg=32/\List.length r.tg=32) (Z7 (r_1.kd==r.kd&&(true&&(true&&(r_1.am==r.am&&(true&&(true&&(true&&(true&&(r_1.tg==r.tg&&true))))))))) (q86=q86/\
 Z6 (q87=q87) (Z6 (q88=q88) (Z6 (q89=q89) (Z6 (q90=q90) (Z6 (q91=q91) (q92=q92/\
 q93=q93/\
 Z6 (q94=q94) (q95=q95/\
 Z6 (q96=q96) (Z6 (q97=q97) (Z6 (q135=q135) (Z6 (q136=q136) (Z6 (q137=q137) (Z6 (q138=q138) (q98/\Z0 q99 (Z0 q100 (Z0 q101 (Z0 q102 (Z0 q103 (q104/\q105/\Z0 q106 (q107/\Z0 q108 (Z0 q109 (Z0 q139 (Z0 q140 (Z0 q141 (Z0 q142 (Z6 ((r_1.e==r.e)=true) (q151.fund=q2/\Z6 (q151.index=q4) (Z6 (q151.cap=q6) (Z6 (q151.dust=q8) (Z6 (q151.fee=q10) (Z6 (q151.delay=q12) (q151.k0=q14/\q151.k1=q16/\Z6 (k.side=0) ([k.a0,k.a1]=q19/\Z6 (k.least=q21) (Z6 (k.most=q23) (Z6 (r_1.of=q31) (Z6 (r_1.la=q32) (Z6 (r_1.ag=q33) (Z6 (r_1.fe=q34) True))))))))))))))))))))))))))))))))))))) (q98/\Z0 q99 (Z0 q100 (Z0 q101 (Z0 q102 (Z0 q103 (q104/\q105/\Z0 q106 (q107/\Z0 q108 (Z0 q109 (Z0 q139 (Z0 q140 (Z0 q141 (Z7 q142 False False)))))))))))))) (Z7 (w !=1) (Zj.Ok q35/\
 ∃(a:Int),
 ∃(b:Int),
 let q85:=clB A q35 a b fe;let q86:=clL q35 a b fe;
 q19=[a,b]/\
 a<9223372036854775808/\
 (q85=false->q40)/\
 (q85=true->
 (List.length q86=0->q40)/\
 ∀(n:Nat) (L:List Za),
 L=ZR q86->
 n=List.length L->
 n≠0->
 Z6 (0+n<=n) ((∀(i:Nat),i<n->true=true)/\
 ∃(t:TxS),
 (t.num=2147483647/\
 (((1:Nat)=1/\t.N=1)/\∀(i:Nat),i<1->Y9 [AV.arr u8 32 q41.name,AV.int i64 q41.index,AV.int i64 q41.way,AV.arr u8 32 q41.tag,AV.arr u8 32 q41.also,AV.arr u8 32 q41.secret] 0 130 i=InS.c (t.ins i))/\
 (n=n/\t.M=n)/\
 ∀(i:Nat),
 let q89:=ZV L i;
 i<n->[AV.int i64 q89.kind,AV.int i64 q89.amount,AV.arr u8 32 q89.owner,AV.arr u8 32 q89.other,AV.arr u8 32 q89.point,AV.arr u8 32 q89.hash,AV.int i64 q89.delay,AV.int i64 q89.expiry]=ZE.c (t.outs i))/\
 (TxS.Fine t/\List.length q16=32)/\
 Z6 (u8=u8/\(0:Nat)<32/\0<List.length (Td q16 t)) (∃(k:ClS),
 let q89:=k.t;let q90:=q89.fund;let q91:=q89.index;let q92:=q89.cap;let q93:=q89.dust;let q94:=q89.fee;let q95:=q89.delay;let q96:=q89.k0;let q97:=q89.k1;let q98:=k.side;let q99:=[k.a0,k.a1];let q100:=k.least;let q101:=k.most;let q102:=q90=q2;let q103:=decide (q91=q4);let q104:=decide (q92=q6);let q105:=decide (q93=q8);let q106:=decide (q94=q10);let q107:=decide (q95=q12);let q108:=q96=q14;let q109:=q97=q16;let q110:=decide (q98=0);let q111:=q99=q19;let q112:=decide (q100=q21);let q113:=decide (q101=q23);
 ∃(s:Zi),
 let q139:=q36::q37::q18::q18::q18::q18::q18::q37::q37::q18::q38::q37::q37::q37::q37::AV.arr u8 32 (List.set (Td q16 t) 0 (wrap u8 (List.getD (Td q16 t) 0 0+be)))::q39;
 YK q29 k/\
 Xp q139 s/\
 (Ys k/\Zj.All q89)/\
 Zi.Len s/\
 ∀(r:HR),
 let q141:=r.of;let q142:=r.la;let q143:=r.ag;let q144:=r.fe;let q145:=decide (q141=q31);let q146:=decide (q142=q32);let q147:=decide (q143=q33);let q148:=decide (q144=q34);let q149:=q102/\Z0 q103 (Z0 q104 (Z0 q105 (Z0 q106 (Z0 q107 (q108/\q109/\Z0 q110 (q111/\Z0 q112 (Z0 q113 (Z0 q145 (Z0 q146 (Z0 q147 (Z7 q148 False False)))))))))));
 r=Y1 SB M Tg k s->
 ∃(k:ClS),
 let q159:=k.t;
 ∃(s:Zi),
 YE q30 k/\
 Xp q139 s/\
 (Ys k/\Zj.All q159)/\
 Zi.Len s/\
 ∀(r_1:HR),
 r_1=Y1 SB M Tg k s->
 Z6 (List.length r_1.tg=32/\List.length r.tg=32) (Z7 (r_1.kd==r.kd&&(true&&(true&&(r_1.am==r.am&&(true&&(true&&(true&&(true&&(r_1.tg==r.tg&&true))))))))) (Z7 (r_1.sy==r.sy) (q90=q90/\
 Z6 (q91=q91) (Z6 (q92=q92) (Z6 (q93=q93) (Z6 (q94=q94) (Z6 (q95=q95) (q96=q96/\
 q97=q97/\
 Z6 (q98=q98) (q99=q99/\
 Z6 (q100=q100) (Z6 (q101=q101) (Z6 (q141=q141) (Z6 (q142=q142) (Z6 (q143=q143) (Z6 (q144=q144) (q102/\Z0 q103 (Z0 q104 (Z0 q105 (Z0 q106 (Z0 q107 (q108/\q109/\Z0 q110 (q111/\Z0 q112 (Z0 q113 (Z0 q145 (Z0 q146 (Z0 q147 (Z0 q148 (Z6 ((r_1.e==r.e)=true) (q159.fund=q2/\Z6 (q159.index=q4) (Z6 (q159.cap=q6) (Z6 (q159.dust=q8) (Z6 (q159.fee=q10) (Z6 (q159.delay=q12) (q159.k0=q14/\q159.k1=q16/\Z6 (k.side=0) ([k.a0,k.a1]=q19/\Z6 (k.least=q21) (Z6 (k.most=q23) (Z6 (r_1.of=q31) (Z6 (r_1.la=q32) (Z6 (r_1.ag=q33) (Z6 (r_1.fe=q34) True))))))))))))))))))))))))))))))))))))) q149) q149))))) (∃(k:ClS),
 let q85:=k.t;let q86:=q85.fund;let q87:=q85.index;let q88:=q85.cap;let q89:=q85.dust;let q90:=q85.fee;let q91:=q85.delay;let q92:=q85.k0;let q93:=q85.k1;let q94:=k.side;let q95:=[k.a0,k.a1];let q96:=k.least;let q97:=k.most;let q98:=q86=q2;let q99:=decide (q87=q4);let q100:=decide (q88=q6);let q101:=decide (q89=q8);let q102:=decide (q90=q10);let q103:=decide (q91=q12);let q104:=q92=q14;let q105:=q93=q16;let q106:=decide (q94=0);let q107:=q95=q19;let q108:=decide (q96=q21);let q109:=decide (q97=q23);
 ∃(s_1:Zi),
 let q135:=[AV.int i64 s.kind,AV.arr u8 32 q42.fund,AV.int i64 q42.index,AV.int i64 q42.cap,AV.int i64 q42.dust,AV.int i64 q42.fee,AV.int i64 q42.delay,AV.arr u8 32 q42.k0,AV.arr u8 32 q42.k1,AV.int i64 s.reserve,AV.int i64 s.amount,AV.arr u8 32 s.point,AV.arr u8 32 s.nxt,AV.arr u8 32 s.key,AV.arr u8 32 s.hash,AV.arr u8 32 s.tag,AV.arr u8 32 s.secret,AV.int i64 s.id,AV.int i64 s.number,AV.int i64 s.index,AV.int i64 s.expiry,AV.int i64 s.code,AV.str s.route];
 YK q29 k/\
 Xp q135 s_1/\
 (Ys k/\Zj.All q85)/\
 Zi.Len s_1/\
 ∀(r:HR),
 let q137:=r.of;let q138:=r.la;let q139:=r.ag;let q140:=r.fe;let q141:=decide (q137=q31);let q142:=decide (q138=q32);let q143:=decide (q139=q33);let q144:=decide (q140=q34);let q145:=q98/\Z0 q99 (Z0 q100 (Z0 q101 (Z0 q102 (Z0 q103 (q104/\q105/\Z0 q106 (q107/\Z0 q108 (Z0 q109 (Z0 q141 (Z0 q142 (Z0 q143 (Z7 q144 False False)))))))))));
 r=Y1 SB M Tg k s_1->
 ∃(k:ClS),
 let q155:=k.t;
 ∃(s:Zi),
 YE q30 k/\
 Xp q135 s/\
 (Ys k/\Zj.All q155)/\
 Zi.Len s/\
 ∀(r_1:HR),
 r_1=Y1 SB M Tg k s->
 Z6 (List.length r_1.tg=32/\List.length r.tg=32) (Z7 (r_1.kd==r.kd&&(true&&(true&&(r_1.am==r.am&&(true&&(true&&(true&&(true&&(r_1.tg==r.tg&&true))))))))) (Z7 (r_1.sy==r.sy) (q86=q86/\
 Z6 (q87=q87) (Z6 (q88=q88) (Z6 (q89=q89) (Z6 (q90=q90) (Z6 (q91=q91) (q92=q92/\
 q93=q93/\
 Z6 (q94=q94) (q95=q95/\
 Z6 (q96=q96) (Z6 (q97=q97) (Z6 (q137=q137) (Z6 (q138=q138) (Z6 (q139=q139) (Z6 (q140=q140) (q98/\Z0 q99 (Z0 q100 (Z0 q101 (Z0 q102 (Z0 q103 (q104/\q105/\Z0 q106 (q107/\Z0 q108 (Z0 q109 (Z0 q141 (Z0 q142 (Z0 q143 (Z0 q144 (Z6 ((r_1.e==r.e)=true) (q155.fund=q2/\Z6 (q155.index=q4) (Z6 (q155.cap=q6) (Z6 (q155.dust=q8) (Z6 (q155.fee=q10) (Z6 (q155.delay=q12) (q155.k0=q14/\q155.k1=q16/\Z6 (k.side=0) ([k.a0,k.a1]=q19/\Z6 (k.least=q21) (Z6 (k.most=q23) (Z6 (r_1.of=q31) (Z6 (r_1.la=q32) (Z6 (r_1.ag=q33) (Z6 (r_1.fe=q34) True))))))))))))))))))))))))))))))))))))) q145) q145)))) (by kernel_rfl) ?_
 conv=>zeta
 try simp only [vcA]
 try simp only [vcB]
 try simp only [vcC]
 subst hA
 have hx:=hk.t
 have ha:k.a0<9223372036854775808:=hk.a
 refine ⟨fun h=>absurd (beq_iff_eq.1 h) hw0,fun _=>⟨fun _=> ?_,fun h=>absurd (bne_eq_false_iff_eq.1 h) hw1⟩⟩
 refine ⟨hx.ok,k.a0,k.a1,rfl,ha,fun h1=> ?_,fun h1=>⟨fun h2=> ?_,fun n L hL hn hn0=> ?_⟩⟩
 ·have e:=Q2 (k:=clD k 0) h1
  have eT:tg=YG Z5 be:=by rw [htg,Wa (by rw [e];decide)]
  have hS:=Vr (kd:=13) (am:=fe) (WK (l:=Z5) rfl be)
  have ht:=V7 (SB:=SB) (M:=M) hT (clD k 0) (sdN 13 fe (YG Z5 be))
  rw [eT] at hr
  subst hr
  refine ⟨clD k 0,sdN 13 fe (YG Z5 be),⟨rfl⟩,⟨rfl⟩,⟨hk.i,hk.t⟩,hS,fun r1 q1=>⟨clD k 0,sdN 13 fe (YG Z5 be),⟨rfl⟩,⟨rfl⟩,⟨hk.i,hk.t⟩,hS,fun r2 q2=> ?_⟩⟩
  subst q1
  subst q2
  simp only [ht,beq_self_eq_true,Kd,JO,and_self,decide_true,true_and,and_true,forall_const,reduceCtorEq,false_implies,implies_true]
  try (and_intros<;>rfl)
 ·have e:=Wj (k:=clD k 0) h1 h2
  have eT:tg=YG Z5 be:=by rw [htg,Wa (by rw [e];decide)]
  have hS:=Vr (kd:=13) (am:=fe) (WK (l:=Z5) rfl be)
  have ht:=V7 (SB:=SB) (M:=M) hT (clD k 0) (sdN 13 fe (YG Z5 be))
  rw [eT] at hr
  subst hr
  refine ⟨clD k 0,sdN 13 fe (YG Z5 be),⟨rfl⟩,⟨rfl⟩,⟨hk.i,hk.t⟩,hS,fun r1 q1=>⟨clD k 0,sdN 13 fe (YG Z5 be),⟨rfl⟩,⟨rfl⟩,⟨hk.i,hk.t⟩,hS,fun r2 q2=> ?_⟩⟩
  subst q1
  subst q2
  simp only [ht,beq_self_eq_true,Kd,JO,and_self,decide_true,true_and,and_true,forall_const,reduceCtorEq,false_implies,implies_true]
  try (and_intros<;>rfl)
 ·have e:=Wk (k:=clD k 0) h1 hL hn hn0
  subst hn hL
  have eT:tg=YG (Td k.t.k1 (txC k.t k.a0 k.a1 fe)) be:=by rw [htg,Ud e];rfl
  have hS:=Vr (kd:=13) (am:=fe) (WK (hTd k.t.k1 (txC k.t k.a0 k.a1 fe)) be)
  have ht:=V7 (SB:=SB) (M:=M) hT (clD k 0) (sdN 13 fe (YG (Td k.t.k1 (txC k.t k.a0 k.a1 fe)) be))
  rw [eT] at hr
  subst hr
  refine ⟨fun _ _=>trivial,txC k.t k.a0 k.a1 fe,⟨rfl,⟨rfl,fun i hi=>VC _ i hi⟩,rfl,fun _ _=>rfl⟩,⟨YY (Ws hx.ok hx.fl) (V6 e),hx.ok.k1⟩,⟨by decide,by rw [hTd];decide⟩,clD k 0,sdN 13 fe (YG (Td k.t.k1 (txC k.t k.a0 k.a1 fe)) be),⟨rfl⟩,⟨rfl⟩,⟨hk.i,hk.t⟩,hS,fun r1 q1=>⟨clD k 0,sdN 13 fe (YG (Td k.t.k1 (txC k.t k.a0 k.a1 fe)) be),⟨rfl⟩,⟨rfl⟩,⟨hk.i,hk.t⟩,hS,fun r2 q2=> ?_⟩⟩
  subst q1
  subst q2
  simp only [ht,beq_self_eq_true,Kd,JO,and_self,decide_true,true_and,and_true,forall_const,reduceCtorEq,false_implies,implies_true]
  try (and_intros<;>rfl)
theorem Zjz (A:List Int->Int×Int) (SB:Zi->Bool) (M:Int->Int->Int) (Tg Td:List Int->TxS->List Int) (k:ClS) (s:Zi) (w fe be:Int) (r:HR) (tg:List Int) (hA:A=ZB) (hw0:w≠0) (hw1:w≠1) (hk:YL (clD k 1)) (hT:∀a t,(Tg a t).length=32) (hTd:∀a t,(Td a t).length=32) (hl:s.Len) (htg:tg=YG (Yb Td (clD k 1) fe 0) be) (hr:r=Y1 SB M Tg (clD k 1) (sdN 13 fe tg)):
  evF (Zeu A SB M Tg Td) 20 25 [.ptr (some ⟨0,0,0,0,0⟩),.agg (clU k 1 k.offers k.last k.agrees k.fee),.agg (.int .i64 w::(s.c++[.int .i64 fe,.int .u8 be]))] ⟨1,[(0,.flat (clT k 1 k.offers k.last k.agrees k.fee))]⟩ (ZF 1 (.ret (.tuple [.agg (clU k 1 r.of r.la r.ag r.fe),.bool true])) 1 [(0,.flat (clT k 1 r.of r.la r.ag r.fe))]):=by
 refine @Eq.mpr _ (let q1:=k.t;let q2:=q1.fund;let q3:=AV.arr u8 32 q2;let q4:=q1.index;let q5:=AV.int i64 q4;let q6:=q1.cap;let q7:=AV.int i64 q6;let q8:=q1.dust;let q9:=AV.int i64 q8;let q10:=q1.fee;let q11:=AV.int i64 q10;let q12:=q1.delay;let q13:=AV.int i64 q12;let q14:=q1.k0;let q15:=AV.arr u8 32 q14;let q16:=q1.k1;let q17:=AV.arr u8 32 q16;let q18:=[k.a0,k.a1];let q19:=AV.arr i64 2 q18;let q20:=k.least;let q21:=AV.int i64 q20;let q22:=k.most;let q23:=AV.int i64 q22;let q24:=AV.bool k.offers;let q25:=AV.int i64 k.last;let q26:=AV.bool k.agrees;let q27:=AV.int i64 k.fee;let q28:=[q3,q5,q7,q9,q11,q13,q15,q17,AV.int i64 1,q19,q21,q23,q24,q25,q26,q27];let q29:=[q3,q5,q7,q9,q11,q13,q15,q17,AV.int i64 1,q19,q21,q23,q24,q25,q26,q27,AV.bool true];let q30:=r.of;let q31:=r.la;let q32:=r.ag;let q33:=r.fe;let q34:=Zj.mk q2 q4 q6 q8 q10 q12 q14 q16;let q35:=AV.int i64 13;let q36:=AV.arr u8 32 Z5;let q37:=AV.int i64 0;let q38:=AV.int i64 fe;let q39:=[q36,q37,q37,q37,q37,q37,AV.str ByteArray.empty];let q40:=(∃(k:ClS),
 ∃(s:Zi),
 YK q28 k/\
 Xp (q35::q36::q37::q37::q37::q37::q37::q36::q36::q37::q38::q36::q36::q36::q36::AV.arr u8 32 [wrap u8 (0+be),(0:Int),0,0,0,0,0,0,0,0,0,0,0,0,0,0,0,0,0,0,0,0,0,0,0,0,0,0,0,0,0,0]::q39) s/\
 (Ys k/\Zj.All k.t)/\
 Zi.Len s/\
 ∀(r:HR),
 r=Y1 SB M Tg k s->
 ∃(k_1:ClS),
 ∃(s:Zi),
 YE q29 k_1/\
 Xp (q35::q36::q37::q37::q37::q37::q37::q36::q36::q37::q38::q36::q36::q36::q36::AV.arr u8 32 [wrap u8 (0+be),(0:Int),0,0,0,0,0,0,0,0,0,0,0,0,0,0,0,0,0,0,0,0,0,0,0,0,0,0,0,0,0,0]::q39) s/\
 (Ys k_1/\Zj.All k_1.t)/\
 Zi.Len s/\
 ∀(r_1:HR),
 r_1=Y1 SB M Tg k_1 s->
 Z6 (List.length r_1.tg=32/\List.length r.tg=32) (Z7 (r_1.kd==r.kd&&(true&&(true&&(r_1.am==r.am&&(true&&(true&&(true&&(true&&(r_1.tg==r.tg&&true))))))))) (Z7 (r_1.sy==r.sy) (k.t.fund=k.t.fund/\
 Z6 (k.t.index=k.t.index) (Z6 (k.t.cap=k.t.cap) (Z6 (k.t.dust=k.t.dust) (Z6 (k.t.fee=k.t.fee) (Z6 (k.t.delay=k.t.delay) (k.t.k0=k.t.k0/\
 k.t.k1=k.t.k1/\
 Z6 (k.side=k.side) ([k.a0,k.a1]=[k.a0,k.a1]/\
 Z6 (k.least=k.least) (Z6 (k.most=k.most) (Z6 (r.of=r.of) (Z6 (r.la=r.la) (Z6 (r.ag=r.ag) (Z6 (r.fe=r.fe) (k.t.fund=q2/\
 Z6 (k.t.index=q4) (Z6 (k.t.cap=q6) (Z6 (k.t.dust=q8) (Z6 (k.t.fee=q10) (Z6 (k.t.delay=q12) (k.t.k0=q14/\k.t.k1=q16/\Z6 (k.side=1) ([k.a0,k.a1]=q18/\Z6 (k.least=q20) (Z6 (k.most=q22) (Z6 (r.of=q30) (Z6 (r.la=q31) (Z6 (r.ag=q32) (Z6 (r.fe=q33) (Z6 ((r_1.e==r.e)=true) (k_1.t.fund=q2/\Z6 (k_1.t.index=q4) (Z6 (k_1.t.cap=q6) (Z6 (k_1.t.dust=q8) (Z6 (k_1.t.fee=q10) (Z6 (k_1.t.delay=q12) (k_1.t.k0=q14/\k_1.t.k1=q16/\Z6 (k_1.side=1) ([k_1.a0,k_1.a1]=q18/\Z6 (k_1.least=q20) (Z6 (k_1.most=q22) (Z6 (r_1.of=q30) (Z6 (r_1.la=q31) (Z6 (r_1.ag=q32) (Z6 (r_1.fe=q33) True))))))))))))))))))))))))))))))))))))) (k.t.fund=q2/\Z6 (k.t.index=q4) (Z6 (k.t.cap=q6) (Z6 (k.t.dust=q8) (Z6 (k.t.fee=q10) (Z6 (k.t.delay=q12) (k.t.k0=q14/\k.t.k1=q16/\Z6 (k.side=1) ([k.a0,k.a1]=q18/\Z6 (k.least=q20) (Z6 (k.most=q22) (Z6 (r.of=q30) (Z6 (r.la=q31) (Z6 (r.ag=q32) (Z7 (decide (r.fe=q33)) False False))))))))))))) (k.t.fund=q2/\Z6 (k.t.index=q4) (Z6 (k.t.cap=q6) (Z6 (k.t.dust=q8) (Z6 (k.t.fee=q10) (Z6 (k.t.delay=q12) (k.t.k0=q14/\k.t.k1=q16/\Z6 (k.side=1) ([k.a0,k.a1]=q18/\Z6 (k.least=q20) (Z6 (k.most=q22) (Z6 (r.of=q30) (Z6 (r.la=q31) (Z6 (r.ag=q32) (Z7 (decide (r.fe=q33)) False False))))))))))))));let q41:=InS.mk q2 q4 1 Z5 Z5 Z5;let q42:=s.t;
 Z7 (w==0) (∃(k:ClS),
 let q85:=k.t;let q86:=q85.fund;let q87:=q85.index;let q88:=q85.cap;let q89:=q85.dust;let q90:=q85.fee;let q91:=q85.delay;let q92:=q85.k0;let q93:=q85.k1;let q94:=k.side;let q95:=[k.a0,k.a1];let q96:=k.least;let q97:=k.most;let q98:=q86=q2;let q99:=decide (q87=q4);let q100:=decide (q88=q6);let q101:=decide (q89=q8);let q102:=decide (q90=q10);let q103:=decide (q91=q12);let q104:=q92=q14;let q105:=q93=q16;let q106:=decide (q94=1);let q107:=q95=q18;let q108:=decide (q96=q20);let q109:=decide (q97=q22);
 YK q28 k/\
 Xz k/\
 ∀(r:HR),
 let q135:=r.of;let q136:=r.la;let q137:=r.ag;let q138:=r.fe;let q139:=decide (q135=q30);let q140:=decide (q136=q31);let q141:=decide (q137=q32);let q142:=decide (q138=q33);
 r=Wt Tg k->
 ∃(k:ClS),
 let q151:=k.t;
 YE q29 k/\
 Xz k/\
 ∀(r_1:HR),
 r_1=Wt Tg k->
 Z6 (List.length r_1.tg=32/\List.length r.tg=32) (Z7 (r_1.kd==r.kd&&(true&&(true&&(r_1.am==r.am&&(true&&(true&&(true&&(true&&(r_1.tg==r.tg&&true))))))))) (q86=q86/\
 Z6 (q87=q87) (Z6 (q88=q88) (Z6 (q89=q89) (Z6 (q90=q90) (Z6 (q91=q91) (q92=q92/\
 q93=q93/\
 Z6 (q94=q94) (q95=q95/\
 Z6 (q96=q96) (Z6 (q97=q97) (Z6 (q135=q135) (Z6 (q136=q136) (Z6 (q137=q137) (Z6 (q138=q138) (q98/\Z0 q99 (Z0 q100 (Z0 q101 (Z0 q102 (Z0 q103 (q104/\q105/\Z0 q106 (q107/\Z0 q108 (Z0 q109 (Z0 q139 (Z0 q140 (Z0 q141 (Z0 q142 (Z6 ((r_1.e==r.e)=true) (q151.fund=q2/\Z6 (q151.index=q4) (Z6 (q151.cap=q6) (Z6 (q151.dust=q8) (Z6 (q151.fee=q10) (Z6 (q151.delay=q12) (q151.k0=q14/\q151.k1=q16/\Z6 (k.side=1) ([k.a0,k.a1]=q18/\Z6 (k.least=q20) (Z6 (k.most=q22) (Z6 (r_1.of=q30) (Z6 (r_1.la=q31) (Z6 (r_1.ag=q32) (Z6 (r_1.fe=q33) True))))))))))))))))))))))))))))))))))))) (q98/\Z0 q99 (Z0 q100 (Z0 q101 (Z0 q102 (Z0 q103 (q104/\q105/\Z0 q106 (q107/\Z0 q108 (Z0 q109 (Z0 q139 (Z0 q140 (Z0 q141 (Z7 q142 False False)))))))))))))) (Z7 (w !=1) (Zj.Ok q34/\
 ∃(a:Int),
 ∃(b:Int),
 let q85:=clB A q34 a b fe;let q86:=clL q34 a b fe;
 q18=[a,b]/\
 a<9223372036854775808/\
 (q85=false->q40)/\
 (q85=true->
 (List.length q86=0->q40)/\
 ∀(n:Nat) (L:List Za),
 L=ZR q86->
 n=List.length L->
 n≠0->
 Z6 (0+n<=n) ((∀(i:Nat),i<n->true=true)/\
 ∃(t:TxS),
 (t.num=2147483647/\
 (((1:Nat)=1/\t.N=1)/\∀(i:Nat),i<1->Y9 [AV.arr u8 32 q41.name,AV.int i64 q41.index,AV.int i64 q41.way,AV.arr u8 32 q41.tag,AV.arr u8 32 q41.also,AV.arr u8 32 q41.secret] 0 130 i=InS.c (t.ins i))/\
 (n=n/\t.M=n)/\
 ∀(i:Nat),
 let q89:=ZV L i;
 i<n->[AV.int i64 q89.kind,AV.int i64 q89.amount,AV.arr u8 32 q89.owner,AV.arr u8 32 q89.other,AV.arr u8 32 q89.point,AV.arr u8 32 q89.hash,AV.int i64 q89.delay,AV.int i64 q89.expiry]=ZE.c (t.outs i))/\
 (TxS.Fine t/\List.length q14=32)/\
 Z6 (u8=u8/\(0:Nat)<32/\0<List.length (Td q14 t)) (∃(k:ClS),
 let q89:=k.t;let q90:=q89.fund;let q91:=q89.index;let q92:=q89.cap;let q93:=q89.dust;let q94:=q89.fee;let q95:=q89.delay;let q96:=q89.k0;let q97:=q89.k1;let q98:=k.side;let q99:=[k.a0,k.a1];let q100:=k.least;let q101:=k.most;let q102:=q90=q2;let q103:=decide (q91=q4);let q104:=decide (q92=q6);let q105:=decide (q93=q8);let q106:=decide (q94=q10);let q107:=decide (q95=q12);let q108:=q96=q14;let q109:=q97=q16;let q110:=decide (q98=1);let q111:=q99=q18;let q112:=decide (q100=q20);let q113:=decide (q101=q22);
 ∃(s:Zi),
 let q139:=q35::q36::q37::q37::q37::q37::q37::q36::q36::q37::q38::q36::q36::q36::q36::AV.arr u8 32 (List.set (Td q14 t) 0 (wrap u8 (List.getD (Td q14 t) 0 0+be)))::q39;
 YK q28 k/\
 Xp q139 s/\
 (Ys k/\Zj.All q89)/\
 Zi.Len s/\
 ∀(r:HR),
 let q141:=r.of;let q142:=r.la;let q143:=r.ag;let q144:=r.fe;let q145:=decide (q141=q30);let q146:=decide (q142=q31);let q147:=decide (q143=q32);let q148:=decide (q144=q33);let q149:=q102/\Z0 q103 (Z0 q104 (Z0 q105 (Z0 q106 (Z0 q107 (q108/\q109/\Z0 q110 (q111/\Z0 q112 (Z0 q113 (Z0 q145 (Z0 q146 (Z0 q147 (Z7 q148 False False)))))))))));
 r=Y1 SB M Tg k s->
 ∃(k:ClS),
 let q159:=k.t;
 ∃(s:Zi),
 YE q29 k/\
 Xp q139 s/\
 (Ys k/\Zj.All q159)/\
 Zi.Len s/\
 ∀(r_1:HR),
 r_1=Y1 SB M Tg k s->
 Z6 (List.length r_1.tg=32/\List.length r.tg=32) (Z7 (r_1.kd==r.kd&&(true&&(true&&(r_1.am==r.am&&(true&&(true&&(true&&(true&&(r_1.tg==r.tg&&true))))))))) (Z7 (r_1.sy==r.sy) (q90=q90/\
 Z6 (q91=q91) (Z6 (q92=q92) (Z6 (q93=q93) (Z6 (q94=q94) (Z6 (q95=q95) (q96=q96/\
 q97=q97/\
 Z6 (q98=q98) (q99=q99/\
 Z6 (q100=q100) (Z6 (q101=q101) (Z6 (q141=q141) (Z6 (q142=q142) (Z6 (q143=q143) (Z6 (q144=q144) (q102/\Z0 q103 (Z0 q104 (Z0 q105 (Z0 q106 (Z0 q107 (q108/\q109/\Z0 q110 (q111/\Z0 q112 (Z0 q113 (Z0 q145 (Z0 q146 (Z0 q147 (Z0 q148 (Z6 ((r_1.e==r.e)=true) (q159.fund=q2/\Z6 (q159.index=q4) (Z6 (q159.cap=q6) (Z6 (q159.dust=q8) (Z6 (q159.fee=q10) (Z6 (q159.delay=q12) (q159.k0=q14/\q159.k1=q16/\Z6 (k.side=1) ([k.a0,k.a1]=q18/\Z6 (k.least=q20) (Z6 (k.most=q22) (Z6 (r_1.of=q30) (Z6 (r_1.la=q31) (Z6 (r_1.ag=q32) (Z6 (r_1.fe=q33) True))))))))))))))))))))))))))))))))))))) q149) q149))))) (∃(k:ClS),
 let q85:=k.t;let q86:=q85.fund;let q87:=q85.index;let q88:=q85.cap;let q89:=q85.dust;let q90:=q85.fee;let q91:=q85.delay;let q92:=q85.k0;let q93:=q85.k1;let q94:=k.side;let q95:=[k.a0,k.a1];let q96:=k.least;let q97:=k.most;let q98:=q86=q2;let q99:=decide (q87=q4);let q100:=decide (q88=q6);let q101:=decide (q89=q8);let q102:=decide (q90=q10);let q103:=decide (q91=q12);let q104:=q92=q14;let q105:=q93=q16;let q106:=decide (q94=1);let q107:=q95=q18;let q108:=decide (q96=q20);let q109:=decide (q97=q22);
 ∃(s_1:Zi),
 let q135:=[AV.int i64 s.kind,AV.arr u8 32 q42.fund,AV.int i64 q42.index,AV.int i64 q42.cap,AV.int i64 q42.dust,AV.int i64 q42.fee,AV.int i64 q42.delay,AV.arr u8 32 q42.k0,AV.arr u8 32 q42.k1,AV.int i64 s.reserve,AV.int i64 s.amount,AV.arr u8 32 s.point,AV.arr u8 32 s.nxt,AV.arr u8 32 s.key,AV.arr u8 32 s.hash,AV.arr u8 32 s.tag,AV.arr u8 32 s.secret,AV.int i64 s.id,AV.int i64 s.number,AV.int i64 s.index,AV.int i64 s.expiry,AV.int i64 s.code,AV.str s.route];
 YK q28 k/\
 Xp q135 s_1/\
 (Ys k/\Zj.All q85)/\
 Zi.Len s_1/\
 ∀(r:HR),
 let q137:=r.of;let q138:=r.la;let q139:=r.ag;let q140:=r.fe;let q141:=decide (q137=q30);let q142:=decide (q138=q31);let q143:=decide (q139=q32);let q144:=decide (q140=q33);let q145:=q98/\Z0 q99 (Z0 q100 (Z0 q101 (Z0 q102 (Z0 q103 (q104/\q105/\Z0 q106 (q107/\Z0 q108 (Z0 q109 (Z0 q141 (Z0 q142 (Z0 q143 (Z7 q144 False False)))))))))));
 r=Y1 SB M Tg k s_1->
 ∃(k:ClS),
 let q155:=k.t;
 ∃(s:Zi),
 YE q29 k/\
 Xp q135 s/\
 (Ys k/\Zj.All q155)/\
 Zi.Len s/\
 ∀(r_1:HR),
 r_1=Y1 SB M Tg k s->
 Z6 (List.length r_1.tg=32/\List.length r.tg=32) (Z7 (r_1.kd==r.kd&&(true&&(true&&(r_1.am==r.am&&(true&&(true&&(true&&(true&&(r_1.tg==r.tg&&true))))))))) (Z7 (r_1.sy==r.sy) (q86=q86/\
 Z6 (q87=q87) (Z6 (q88=q88) (Z6 (q89=q89) (Z6 (q90=q90) (Z6 (q91=q91) (q92=q92/\
 q93=q93/\
 Z6 (q94=q94) (q95=q95/\
 Z6 (q96=q96) (Z6 (q97=q97) (Z6 (q137=q137) (Z6 (q138=q138) (Z6 (q139=q139) (Z6 (q140=q140) (q98/\Z0 q99 (Z0 q100 (Z0 q101 (Z0 q102 (Z0 q103 (q104/\q105/\Z0 q106 (q107/\Z0 q108 (Z0 q109 (Z0 q141 (Z0 q142 (Z0 q143 (Z0 q144 (Z6 ((r_1.e==r.e)=true) (q155.fund=q2/\Z6 (q155.index=q4) (Z6 (q155.cap=q6) (Z6 (q155.dust=q8) (Z6 (q155.fee=q10) (Z6 (q155.delay=q12) (q155.k0=q14/\q155.k1=q16/\Z6 (k.side=1) ([k.a0,k.a1]=q18/\Z6 (k.least=q20) (Z6 (k.most=q22) (Z6 (r_1.of=q30) (Z6 (r_1.la=q31) (Z6 (r_1.ag=q32) (Z6 (r_1.fe=q33) True))))))))))))))))))))))))))))))))))))) q145) q145)))) (by kernel_rfl) ?_
 conv=>zeta
 try simp only [vcA]
 try simp only [vcB]
 try simp only [vcC]
 subst hA
 have hx:=hk.t
 have ha:k.a0<9223372036854775808:=hk.a
 refine ⟨fun h=>absurd (beq_iff_eq.1 h) hw0,fun _=>⟨fun _=> ?_,fun h=>absurd (bne_eq_false_iff_eq.1 h) hw1⟩⟩
 refine ⟨hx.ok,k.a0,k.a1,rfl,ha,fun h1=> ?_,fun h1=>⟨fun h2=> ?_,fun n L hL hn hn0=> ?_⟩⟩
 ·have e:=Q2 (k:=clD k 1) h1
  have eT:tg=YG Z5 be:=by rw [htg,Wa (by rw [e];decide)]
  have hS:=Vr (kd:=13) (am:=fe) (WK (l:=Z5) rfl be)
  have ht:=V7 (SB:=SB) (M:=M) hT (clD k 1) (sdN 13 fe (YG Z5 be))
  rw [eT] at hr
  subst hr
  refine ⟨clD k 1,sdN 13 fe (YG Z5 be),⟨rfl⟩,⟨rfl⟩,⟨hk.i,hk.t⟩,hS,fun r1 q1=>⟨clD k 1,sdN 13 fe (YG Z5 be),⟨rfl⟩,⟨rfl⟩,⟨hk.i,hk.t⟩,hS,fun r2 q2=> ?_⟩⟩
  subst q1
  subst q2
  simp only [ht,beq_self_eq_true,Kd,JO,and_self,decide_true,true_and,and_true,forall_const,reduceCtorEq,false_implies,implies_true]
  try (and_intros<;>rfl)
 ·have e:=Wj (k:=clD k 1) h1 h2
  have eT:tg=YG Z5 be:=by rw [htg,Wa (by rw [e];decide)]
  have hS:=Vr (kd:=13) (am:=fe) (WK (l:=Z5) rfl be)
  have ht:=V7 (SB:=SB) (M:=M) hT (clD k 1) (sdN 13 fe (YG Z5 be))
  rw [eT] at hr
  subst hr
  refine ⟨clD k 1,sdN 13 fe (YG Z5 be),⟨rfl⟩,⟨rfl⟩,⟨hk.i,hk.t⟩,hS,fun r1 q1=>⟨clD k 1,sdN 13 fe (YG Z5 be),⟨rfl⟩,⟨rfl⟩,⟨hk.i,hk.t⟩,hS,fun r2 q2=> ?_⟩⟩
  subst q1
  subst q2
  simp only [ht,beq_self_eq_true,Kd,JO,and_self,decide_true,true_and,and_true,forall_const,reduceCtorEq,false_implies,implies_true]
  try (and_intros<;>rfl)
 ·have e:=Wk (k:=clD k 1) h1 hL hn hn0
  subst hn hL
  have eT:tg=YG (Td k.t.k0 (txC k.t k.a0 k.a1 fe)) be:=by rw [htg,Ud e];rfl
  have hS:=Vr (kd:=13) (am:=fe) (WK (hTd k.t.k0 (txC k.t k.a0 k.a1 fe)) be)
  have ht:=V7 (SB:=SB) (M:=M) hT (clD k 1) (sdN 13 fe (YG (Td k.t.k0 (txC k.t k.a0 k.a1 fe)) be))
  rw [eT] at hr
  subst hr
  refine ⟨fun _ _=>trivial,txC k.t k.a0 k.a1 fe,⟨rfl,⟨rfl,fun i hi=>VC _ i hi⟩,rfl,fun _ _=>rfl⟩,⟨YY (Ws hx.ok hx.fl) (V6 e),hx.ok.k0⟩,⟨by decide,by rw [hTd];decide⟩,clD k 1,sdN 13 fe (YG (Td k.t.k0 (txC k.t k.a0 k.a1 fe)) be),⟨rfl⟩,⟨rfl⟩,⟨hk.i,hk.t⟩,hS,fun r1 q1=>⟨clD k 1,sdN 13 fe (YG (Td k.t.k0 (txC k.t k.a0 k.a1 fe)) be),⟨rfl⟩,⟨rfl⟩,⟨hk.i,hk.t⟩,hS,fun r2 q2=> ?_⟩⟩
  subst q1
  subst q2
  simp only [ht,beq_self_eq_true,Kd,JO,and_self,decide_true,true_and,and_true,forall_const,reduceCtorEq,false_implies,implies_true]
  try (and_intros<;>rfl)
structure ZS where
 w:Int
 s:Zi
 fe:Int
 be:Int
def ZS.c (a:ZS):List AV:=.int .i64 a.w::(a.s.c++[.int .i64 a.fe,.int .u8 a.be])
inductive Zh4 (cs:List AV) (a:ZS):Prop
 | mk:cs=a.c->Zh4 cs a
def ZhD (Tg:List Int->TxS->List Int) (k:ClS) (a:ZS):Zi:=if a.w=1 then a.s else sdN 13 a.fe (YG (Yb Tg k a.fe (1-k.side)) a.be)
def Z94 (SB:Zi->Bool) (M:Int->Int->Int) (Tg:List Int->TxS->List Int) (k:ClS) (a:ZS):HR:=if a.w=0 then Wt Tg k else Y1 SB M Tg k (ZhD Tg k a)
theorem ZjA {M:Int->Int->Int} {k:ClS} (a:ZS) (hk:YL k):YL (VW k (Z94 SB M Tg k a)):=by
 unfold Z94
 split
 ·exact hk.beg
 ·exact hk.hear _
theorem Zev {k:ClS} {a:ZS} (hk:YL k) (hl:a.s.Len):Spec PP 25 [.ptr (some ⟨0,0,0,0,0⟩),.agg k.c,.agg a.c] ⟨1,[(0,.flat (k.c++[.bool true]))]⟩ (.ret (.tuple [.agg (VW k (Z94 XA YD Zv k a)).c,.bool true])) 1 [(0,.flat ((VW k (Z94 XA YD Zv k a)).c++[.bool true]))]:=by
 obtain ⟨w,s,fe,be⟩:=a
 by_cases h0:w=0
 ·subst h0
  exact .evM Z2e (Zmz ZB XA YD Zv Wq k s fe be _ hk X9 hl rfl)
 by_cases h1:w=1
 ·subst h1
  exact .evM Z2e (ZmA ZB XA YD Zv Wq k s fe be _ hk X9 hl rfl)
 have e:Z94 XA YD Zv k ⟨w,s,fe,be⟩=Y1 XA YD Zv k (sdN 13 fe (YG (Yb Zv k fe (1-k.side)) be)):=by
  unfold Z94 ZhD
  rw [if_neg h0,if_neg h1]
 rw [e]
 rcases hk.i.made.side with hs|hs
 ·have hc:clD k 0=k:=Wl hs
  have hv:=Zjy ZB XA YD Zv Wq k s w fe be _ _ rfl h0 h1 (hc.symm▸hk) X9 Z74 hl rfl rfl
  rw [hc,Z5X hk.t] at hv
  have e1:(1:Int)-k.side=1:=by rw [hs];rfl
  rw [e1]
  have q1:clU k 0 k.offers k.last k.agrees k.fee=k.c:=by rw [<-hs];rfl
  have q2:clT k 0 k.offers k.last k.agrees k.fee=k.c++[.bool true]:=by rw [<-hs];rfl
  have q3:∀r:HR,clU k 0 r.of r.la r.ag r.fe=(VW k r).c:=fun r=>by rw [<-hs];rfl
  have q4:∀r:HR,clT k 0 r.of r.la r.ag r.fe=(VW k r).c++[.bool true]:=fun r=>by rw [<-hs];rfl
  rw [q1,q2,q3,q4] at hv
  exact .evM Z2e hv
 ·have hc:clD k 1=k:=Wl hs
  have hv:=Zjz ZB XA YD Zv Wq k s w fe be _ _ rfl h0 h1 (hc.symm▸hk) X9 Z74 hl rfl rfl
  rw [hc,Z5X hk.t] at hv
  have e1:(1:Int)-k.side=0:=by rw [hs];rfl
  rw [e1]
  have q1:clU k 1 k.offers k.last k.agrees k.fee=k.c:=by rw [<-hs];rfl
  have q2:clT k 1 k.offers k.last k.agrees k.fee=k.c++[.bool true]:=by rw [<-hs];rfl
  have q3:∀r:HR,clU k 1 r.of r.la r.ag r.fe=(VW k r).c:=fun r=>by rw [<-hs];rfl
  have q4:∀r:HR,clT k 1 r.of r.la r.ag r.fe=(VW k r).c++[.bool true]:=fun r=>by rw [<-hs];rfl
  rw [q1,q2,q3,q4] at hv
  exact .evM Z2e hv
def Zew (X:ClS->ZS->ClS):ZN:=fun args h K=>match args with
 | [.ptr (some ⟨x,0,0,0,0⟩),_,_]=>frA [x] h 60 args fun Bs a=>match Bs,a with
  | [.flat cs],[.ptr (some ⟨0,0,0,0,0⟩),.agg ds,.agg zs]=>∃k a,YE cs k/\YK ds k/\Zh4 zs a/\YL k/\a.s.Len/\K (.ret (.tuple [.agg (X k a).c,.bool true])) ⟨h.next,(x,.flat ((X k a).c++[.bool true]))::Yl h.bs x⟩
  | _,_=>False
 | _=>False
noncomputable def nxC (k:ClS) (a:ZS):ClS:=VW k (Z94 XA YD Zv k a)
theorem ZjB {k:ClS} (a:ZS) (hk:YL k):YL (nxC k a):=ZjA a hk
theorem Zex (args:List AV) (h:Z8) (K:KO) (hl:Zew nxC args h K):Ze PP 25 args h K:=by
 unfold Zew at hl
 split at hl
 ·refine Spec.fsumm hl fun Bs a hlen hK0=> ?_
  split at hK0
  ·obtain ⟨k,a,⟨rfl⟩,⟨rfl⟩,⟨rfl⟩,hk,ha,hK⟩:=hK0
   exact ⟨_,_,_,_,_,Zev hk ha,by simp,.ret _ _ rfl,.cons _ _ _ _ _ _ rfl (.flat _ _ rfl) .nil,hK⟩
  ·exact hK0.elim
 ·exact hl.elim
def cactTy:List Ty:=[.int .i64,.int .i64,.arr .u8 32,.int .i64,.int .i64,.int .i64,.int .i64,.int .i64,.arr .u8 32,.arr .u8 32,.int .i64,.int .i64,.arr .u8 32,.arr .u8 32,.arr .u8 32,.arr .u8 32,.arr .u8 32,.arr .u8 32,.int .i64,.int .i64,.int .i64,.int .i64,.int .i64,.str,.int .i64,.int .u8]
theorem Zbs {l:List AV} (h:Fits cactTy l):∃x:ZS,l=x.c/\x.s.Len:=by
 unfold cactTy at h
 cases h with|cons _ a1 _ u h1 h=>
 cases h with|cons _ a2 _ u h2 h=>
 cases h with|cons _ a3 _ u h3 h=>
 cases h with|cons _ a4 _ u h4 h=>
 cases h with|cons _ a5 _ u h5 h=>
 cases h with|cons _ a6 _ u h6 h=>
 cases h with|cons _ a7 _ u h7 h=>
 cases h with|cons _ a8 _ u h8 h=>
 cases h with|cons _ a9 _ u h9 h=>
 cases h with|cons _ a10 _ u h10 h=>
 cases h with|cons _ a11 _ u h11 h=>
 cases h with|cons _ a12 _ u h12 h=>
 cases h with|cons _ a13 _ u h13 h=>
 cases h with|cons _ a14 _ u h14 h=>
 cases h with|cons _ a15 _ u h15 h=>
 cases h with|cons _ a16 _ u h16 h=>
 cases h with|cons _ a17 _ u h17 h=>
 cases h with|cons _ a18 _ u h18 h=>
 cases h with|cons _ a19 _ u h19 h=>
 cases h with|cons _ a20 _ u h20 h=>
 cases h with|cons _ a21 _ u h21 h=>
 cases h with|cons _ a22 _ u h22 h=>
 cases h with|cons _ a23 _ u h23 h=>
 cases h with|cons _ a24 _ u h24 h=>
 cases h with|cons _ a25 _ u h25 h=>
 cases h with|cons _ a26 _ u h26 h=>
 cases h
 cases h1
 cases h2
 cases h3
 cases h4
 cases h5
 cases h6
 cases h7
 cases h8
 cases h9
 cases h10
 cases h11
 cases h12
 cases h13
 cases h14
 cases h15
 cases h16
 cases h17
 cases h18
 cases h19
 cases h20
 cases h21
 cases h22
 cases h23
 cases h24
 cases h25
 cases h26
 rename_i x1 w1 x2 w2 x3 l3 w3 x4 w4 x5 w5 x6 w6 x7 w7 x8 w8 x9 l9 w9 x10 l10 w10 x11 w11 x12 w12 x13 l13 w13 x14 l14 w14 x15 l15 w15 x16 l16 w16 x17 l17 w17 x18 l18 w18 x19 w19 x20 w20 x21 w21 x22 w22 x23 w23 x24 w24 x25 w25 x26 w26
 exact ⟨⟨x1,⟨x2,⟨x3,x4,x5,x6,x7,x8,x9,x10⟩,x11,x12,x13,x14,x15,x16,x17,x18,x19,x20,x21,x22,x23,x24⟩,x25,x26⟩,rfl,⟨l3,l9,l10,l13,l14,l15,l16,l17,l18,Z0D l9 w9⟩⟩
def Uk:ZS:=⟨0,sdN 0 0 Z5,0,0⟩
def YZ (A:List ZS) (i:Nat):List AV:=(A.getD i Uk).c
theorem Zey {n:Nat} {p:Nat->ZS->Prop} (h:∀i,i<n->∃a,p i a):∃f:Nat->ZS,∀i,i<n->p i (f i):=
 ⟨fun i=>if hi:i<n then Classical.choose (h i hi) else Uk,fun i hi=>by
  simp only [hi,dite_true]
  exact Kt (h i hi)⟩
def fwS (A:List ZS) (n:Nat) (m:Int) (i:Nat):St:=⟨24,[(5,.int .i64 i),(0,.vrows 305 n (YZ A) n),(1,.int .i64 m)],⟨0,[]⟩,[]⟩
def fwN:St:=⟨24,[(4,.bool false)],⟨0,[]⟩,[]⟩
def fwE:St:=⟨24,[],⟨0,[]⟩,[]⟩
def Z3Z (A:List ZS) (i:Nat):Prop:=(A.getD i Uk).s.route.size<=600
theorem ZnT (A:List ZS) (n i:Nat) (m:Int) (Z1 Z2 Z3:Prop) (hn:n<9223372036854775808) (hi:i<=n) (hZ1:i<n->Z3Z A i->Z1) (hZ2:i=n->Z2) (hZ3:i<n->¬Z3Z A i->Z3):
  ZC G0 20 19 0 0 (fwS A n m i) (rdM 0 0 9 (fwS A n m (i+1)) (fwS A n m i) fwN fwE Z1 Z2 Z3 False):=by
 refine @Eq.mpr _ (let q1:=decide (n=n);let q2:=YZ A=YZ A;let q3:=decide (m=m);
 Z7 (decide ((↑i:Int)<(↑n:Int))) (Z6 (0<=(↑i:Int)/\(↑i:Int)<(↑n:Int)) (Z7 (decide ((↑(ByteArray.size (List.getD A (Int.toNat (↑i:Int)) Uk).s.route):Int)>600)) Z3 (Z6 (wrap i64 ((↑i:Int)+1)=(↑(i+1):Int)) (Z0 q1 (q2/\Z0 q1 (Z0 q3 Z1)))))) (Z6 ((↑i:Int)=(↑i:Int)) (Z0 q1 (q2/\Z0 q1 (Z0 q3 Z2))))) (by kernel_rfl) ?_
 conv=>zeta
 try simp only [vcA]
 try simp only [vcB]
 try simp only [vcC]
 refine ⟨fun hc=>⟨by omega,fun hg=>hZ3 (by omega) fun h=> ?_,fun hg=>⟨?_,hZ1 (by omega) ?_⟩⟩,fun hc=>hZ2 (by omega)⟩
 ·have h:(A.getD i Uk).s.route.size<=600:=h
  omega
 ·rw [w64 (by omega)]
  omega
 ·show (A.getD i Uk).s.route.size<=600
  omega
noncomputable def ZjC (A:List ZS) (n:Nat) (m:Int) (C:Prop):Zd:=G0.withL 19 0 (goM 0 (fwS A n m 0) C (Yu 0 n 9 (fun i=>Z3Z A i) (fun i=>i=n) (fun i=>i<n/\¬Z3Z A i) (fun _=>False) (fun i=>fwS A n m i) (fun _=>fwN) (fun _=>fwE)))
theorem Zh5 (A:List ZS) (n:Nat) (m:Int):(ZjC A n m (n<9223372036854775808)).Ok:=
 Zd.withGoM (N:=20) (S:=fun i=>fwS A n m i) Zm (by kernel_rfl) fun hC=>⟨rfl,fun i hi _=>ZnT A n i m _ _ _ hC hi (fun h1 h2=>⟨h2,h1⟩) (fun h=>h) (fun h1 h2=>⟨h1,h2⟩)⟩
open Classical in
noncomputable def Z0O (A:List ZS) (n:Nat) (m:Int):Bool:=decide ((∀i,i<n->Z3Z A i)/\(n:Int)<=m)
theorem Z7m {A:List ZS} {n:Nat} {m:Int}:Z0O A n m=true↔(∀i,i<n->Z3Z A i)/\(n:Int)<=m:=by unfold Z0O;simp
theorem ZnU (A:List ZS) (n:Nat) (m:Int) (C:Prop) (ok:Bool) (hC:C) (h1:(∀i,i<n->Z3Z A i)->decide ((n:Int)<=m)=ok) (h0:(∃i,i<n/\¬Z3Z A i)->false=ok):
  evF (ZjC A n m C) 20 19 [.vrows 305 n (YZ A) n,.int .i64 m] ⟨0,[]⟩ (XR fun v=>v=.bool ok):=by
 refine @Eq.mpr _ (let q1:=decide (n=n);
 Z0 q1 (YZ A=YZ A/\Z0 q1 (Z6 (m=m) (C/\∀(i:Nat),i<=n->(∀(j:Nat),j<i->(fun (i:Nat)=>Z3Z A i) j)->(i=n->AV.bool (decide (↑n<=m))=AV.bool ok)/\(i<n/\¬Z3Z A i->AV.bool false=AV.bool ok)/\(False->False))))) (by kernel_rfl) ?_
 conv=>zeta
 try simp only [vcA]
 try simp only [vcB]
 try simp only [vcC]
 refine ⟨hC,fun i hi hg=>⟨fun h=> ?_,fun h=> ?_,fun h=>h⟩⟩
 ·subst h
  rw [h1 hg]
 ·rw [<-h0 ⟨i,h⟩]
theorem Zbt (A:List ZS) (n:Nat) (m:Int) (hn:n<9223372036854775808):evF (ZjC A n m (n<9223372036854775808)) 20 19 [.vrows 305 n (YZ A) n,.int .i64 m] ⟨0,[]⟩ (XR fun v=>v=.bool (Z0O A n m)):=
 ZnU A n m _ _ hn (fun h=>by unfold Z0O;exact decide_eq_decide.2 ⟨fun q=>⟨h,q⟩,fun q=>q.2⟩) (fun ⟨i,hi,hg⟩=>by
  symm
  refine Bool.eq_false_iff.2 fun h=> ?_
  exact hg ((Z7m.1 h).1 i hi))
inductive Zh6 (f:Nat->List AV) (A:List ZS):Prop
 | mk:f=YZ A->Zh6 f A
def ZmB:ZH:=fun args h K=>ZA none h true 20 args fun v=>match v with
 | [.vrows 305 n f n',.int .i64 m]=>∃A,Zh6 f A/\(n'=n/\n<9223372036854775808)/\(Z0O A n m=true->K (.bool true))/\(Z0O A n m=false->K (.bool false))
 | _=>False
theorem Zh7 (args:List AV) (h:Z8) (K:AV->Prop) (hl:ZmB args h K):Ze PP 19 args h fun o h'=>∃v,o=.ret v/\h'=h/\K v:=by
 refine Zs.psumm (d:=20) (Zk _ _ _ _ _ hl fun a ha=> ?_)
 split at ha
 ·obtain ⟨A,⟨rfl⟩,⟨rfl,hn⟩,h1,h0⟩:=ha
  rename_i n m
  refine ⟨_,Zs.evV (Zh5 A _ m) (Zbt A _ m hn),fun _=>rfl, ?_⟩
  cases hq:Z0O A n m with
  | true=>exact h1 hq
  | false=>exact h0 hq
 ·exact ha.elim
def zzB:List AV:=clZ.c++[.bool false]
inductive IsZ (cs:List AV):Prop
 | mk:cs=zzB->IsZ cs
def ZhE (r:AV) (h:Z8) (x:Nat) (cs:List AV) (K:KO):Prop:=IsZ cs/\K (.ret r) ⟨h.next,(x,.flat cs)::Yl h.bs x⟩
def Zez (r:AV) (F:ZN):ZN:=fun args h K=>match args with
 | [.ptr none]=>frA [] h 20 args fun Bs a=>match Bs,a with
  | [],[.ptr none]=>K (.ret r) h
  | _,_=>False
 | [.ptr (some ⟨x,0,0,0,0⟩)]=>(match h.get x with
  | some (.flat cs)=>(match Z90 cs 16 with
   | .bool false=>frA [x] h 40 args fun Bs a=>match Bs,a with
    | [.flat cs],[.ptr (some ⟨0,0,0,0,0⟩)]=>ZhE r h x cs K
    | _,_=>False
   | _=>F args h K)
  | _=>F args h K)
 | _=>F args h K
theorem Z62 {r:AV} {F:ZN} {f:FuncId} (hr:∀σ d,mvV σ d r=some r) (h0:evF G0 20 f [.ptr none] ⟨0,[]⟩ (ZF 0 (.ret r) 0 [])) (h1:evF G0 20 f [.ptr (some ⟨0,0,0,0,0⟩)] ⟨1,[(0,.flat zzB)]⟩ (ZF 1 (.ret r) 1 [(0,.flat zzB)]))
  (hF:∀args h K,F args h K->Ze PP f args h K) (args:List AV) (h:Z8) (K:KO) (hl:Zez r F args h K):Ze PP f args h K:=by
 unfold Zez at hl
 split at hl
 ·refine Spec.fsumm hl fun Bs a hlen hK0=> ?_
  split at hK0
  ·exact ⟨_,_,_,_,_,.evM Zm h0,JC _,.ret _ _ (hr _ _),.nil,hK0⟩
  ·exact hK0.elim
 ·split at hl
  ·split at hl
   ·refine Spec.fsumm hl fun Bs a hlen hK0=> ?_
    split at hK0
    ·obtain ⟨⟨rfl⟩,hK⟩:=hK0
     exact ⟨_,_,_,_,_,.evM Zm h1,by simp,.ret _ _ (hr _ _),.cons _ _ _ _ _ _ rfl (.flat _ _ rfl) .nil,hK⟩
    ·exact hK0.elim
   ·exact hF _ _ _ hl
  ·exact hF _ _ _ hl
 ·exact hF _ _ _ hl
theorem ZnV (u:Unit) :
  evF G0 20 12 [.ptr none] ⟨0,[]⟩ (ZF 0 (.ret (.tuple [.agg (sdC 0 0 Z5),.int .i64 1])) 0 []):=by
 refine @Eq.mpr _ (Z5=Z5/\Z5=Z5/\Z5=Z5/\Z5=Z5/\Z5=Z5/\Z5=Z5/\Z5=Z5/\Z5=Z5/\Z5=Z5/\ByteArray.empty=ByteArray.empty/\True) (by kernel_rfl) ?_
 try simp only [vcA]
 try simp only [vcB]
 try simp only [vcC]
theorem ZnW (u:Unit) :
  evF G0 20 12 [.ptr (some ⟨0,0,0,0,0⟩)] ⟨1,[(0,.flat zzB)]⟩ (ZF 1 (.ret (.tuple [.agg (sdC 0 0 Z5),.int .i64 1])) 1 [(0,.flat zzB)]):=by
 refine @Eq.mpr _ (let q1:=clZ.t;let q2:=q1.fund;let q3:=q1.k0;let q4:=q1.k1;let q5:=[clZ.a0,clZ.a1];
 Z5=Z5/\Z5=Z5/\Z5=Z5/\Z5=Z5/\Z5=Z5/\Z5=Z5/\Z5=Z5/\Z5=Z5/\Z5=Z5/\ByteArray.empty=ByteArray.empty/\q2=q2/\q3=q3/\q4=q4/\q5=q5/\True) (by kernel_rfl) ?_
 conv=>zeta
 try simp only [vcA]
 try simp only [vcB]
 try simp only [vcC]
theorem ZnX (s:Zi) :
  evF G0 20 13 [.ptr none,.agg s.c] ⟨0,[]⟩ (ZF 0 (.ret (.tuple [.agg (sdC 0 0 Z5),.bool false,.int .i64 1])) 0 []):=by
 refine @Eq.mpr _ (Z5=Z5/\Z5=Z5/\Z5=Z5/\Z5=Z5/\Z5=Z5/\Z5=Z5/\Z5=Z5/\Z5=Z5/\Z5=Z5/\ByteArray.empty=ByteArray.empty/\True) (by kernel_rfl) ?_
 try simp only [vcA]
 try simp only [vcB]
 try simp only [vcC]
theorem ZnY (s:Zi) :
  evF G0 20 13 [.ptr (some ⟨0,0,0,0,0⟩),.agg s.c] ⟨1,[(0,.flat zzB)]⟩ (ZF 1 (.ret (.tuple [.agg (sdC 0 0 Z5),.bool false,.int .i64 1])) 1 [(0,.flat zzB)]):=by
 refine @Eq.mpr _ (let q1:=clZ.t;let q2:=q1.fund;let q3:=q1.k0;let q4:=q1.k1;let q5:=[clZ.a0,clZ.a1];
 Z5=Z5/\Z5=Z5/\Z5=Z5/\Z5=Z5/\Z5=Z5/\Z5=Z5/\Z5=Z5/\Z5=Z5/\Z5=Z5/\ByteArray.empty=ByteArray.empty/\q2=q2/\q3=q3/\q4=q4/\q5=q5/\True) (by kernel_rfl) ?_
 conv=>zeta
 try simp only [vcA]
 try simp only [vcB]
 try simp only [vcC]
theorem ZnZ (u:Unit) :
  evF G0 20 15 [.ptr none] ⟨0,[]⟩ (ZF 0 (.ret (.tuple [.agg txZ,.int .i64 1])) 0 []):=by
 refine @Eq.mpr _ (True) (by kernel_rfl) ?_
 try simp only [vcA]
 try simp only [vcB]
 try simp only [vcC]
theorem Zo0 (u:Unit) :
  evF G0 20 15 [.ptr (some ⟨0,0,0,0,0⟩)] ⟨1,[(0,.flat zzB)]⟩ (ZF 1 (.ret (.tuple [.agg txZ,.int .i64 1])) 1 [(0,.flat zzB)]):=by
 refine @Eq.mpr _ (let q1:=clZ.t;let q2:=q1.fund;let q3:=q1.k0;let q4:=q1.k1;let q5:=[clZ.a0,clZ.a1];
 q2=q2/\q3=q3/\q4=q4/\q5=q5/\True) (by kernel_rfl) ?_
 conv=>zeta
 try simp only [vcA]
 try simp only [vcB]
 try simp only [vcC]
theorem Zo1 (u:Unit) :
  evF G0 20 21 [.ptr none] ⟨0,[]⟩ (ZF 0 (.ret .nilslice) 0 []):=by
 refine @Eq.mpr _ (True) (by kernel_rfl) ?_
 try simp only [vcA]
 try simp only [vcB]
 try simp only [vcC]
theorem Zo2 (u:Unit) :
  evF G0 20 21 [.ptr (some ⟨0,0,0,0,0⟩)] ⟨1,[(0,.flat zzB)]⟩ (ZF 1 (.ret .nilslice) 1 [(0,.flat zzB)]):=by
 refine @Eq.mpr _ (let q1:=clZ.t;let q2:=q1.fund;let q3:=q1.k0;let q4:=q1.k1;let q5:=[clZ.a0,clZ.a1];
 q2=q2/\q3=q3/\q4=q4/\q5=q5/\True) (by kernel_rfl) ?_
 conv=>zeta
 try simp only [vcA]
 try simp only [vcB]
 try simp only [vcC]
def ZmC (Tg:List Int->TxS->List Int):ZN:=Zez (.tuple [.agg (sdC 0 0 Z5),.int .i64 1]) (ZgW Tg)
theorem Zh8:∀(args:List AV) (h:Z8) (K:KO),ZmC Zv args h K->Ze PP 12 args h K:=Z62 (fun _ _=>rfl) (ZnV ()) (ZnW ()) Za8
def ZmD (Tg:List Int->TxS->List Int):ZN:=Zez (.tuple [.agg txZ,.int .i64 1]) (Zej Tg)
theorem Zh9:∀(args:List AV) (h:Z8) (K:KO),ZmD Zv args h K->Ze PP 15 args h K:=Z62 (fun _ _=>rfl) (ZnZ ()) (Zo0 ()) Z61
def ZmE (W:Int->List Int):ZN:=Zez .nilslice (Za6 W)
theorem Zha:∀(args:List AV) (h:Z8) (K:KO),ZmE Zu args h K->Ze PP 21 args h K:=Z62 (fun _ _=>rfl) (Zo1 ()) (Zo2 ()) Z7j
def ZeA (SB:Zi->Bool) (M:Int->Int->Int) (Tg:List Int->TxS->List Int):ZN:=fun args h K=>match args with
 | [.ptr none,_]=>frA [] h 60 args fun Bs a=>match Bs,a with
  | [],[.ptr none,.agg ss]=>(∃s,Xp ss s)/\K (.ret (.tuple [.agg (sdC 0 0 Z5),.bool false,.int .i64 1])) h
  | _,_=>False
 | [.ptr (some ⟨x,0,0,0,0⟩),_]=>(match h.get x with
  | some (.flat cs)=>(match Z90 cs 16 with
   | .bool false=>frA [x] h 60 args fun Bs a=>match Bs,a with
    | [.flat cs],[.ptr (some ⟨0,0,0,0,0⟩),.agg ss]=>(∃s,Xp ss s)/\ZhE (.tuple [.agg (sdC 0 0 Z5),.bool false,.int .i64 1]) h x cs K
    | _,_=>False
   | _=>Z4W SB M Tg args h K)
  | _=>Z4W SB M Tg args h K)
 | _=>Z4W SB M Tg args h K
theorem ZeB (args:List AV) (h:Z8) (K:KO) (hl:ZeA XA YD Zv args h K):Ze PP 13 args h K:=by
 unfold ZeA at hl
 split at hl
 ·refine Spec.fsumm hl fun Bs a hlen hK0=> ?_
  split at hK0
  ·obtain ⟨⟨s,⟨rfl⟩⟩,hK⟩:=hK0
   exact ⟨_,_,_,_,_,.evM Zm (ZnX s),JC _,.ret _ _ rfl,.nil,hK⟩
  ·exact hK0.elim
 ·split at hl
  ·split at hl
   ·refine Spec.fsumm hl fun Bs a hlen hK0=> ?_
    split at hK0
    ·obtain ⟨⟨s,⟨rfl⟩⟩,⟨rfl⟩,hK⟩:=hK0
     exact ⟨_,_,_,_,_,.evM Zm (ZnY s),by simp,.ret _ _ rfl,.cons _ _ _ _ _ _ rfl (.flat _ _ rfl) .nil,hK⟩
    ·exact hK0.elim
   ·exact Z0M _ _ _ hl
  ·exact Z0M _ _ _ hl
 ·exact Z0M _ _ _ hl
noncomputable def Zhb (A:List Int->Int×Int) (W:Int->List Int) (SB:Zi->Bool) (M:Int->Int->Int) (Tg:List Int->TxS->List Int) (X:ClS->ZS->ClS):Zd:=(((((((((G0.withP 11 Zeo).withF 9 (Zhz A)).withP 20 (ZhA A)).withP 19 ZmB).withF 12 (ZmC Tg)).withF 13 (ZeA SB M Tg)).withF 15 (ZmD Tg)).withF 21 (ZmE W)).withF 24 Zep).withF 25 (Zew X)
theorem Zhc:(Zhb ZB Zu XA YD Zv nxC).Ok:=Zd.withF_ok (Zd.withF_ok (Zd.withF_ok (Zd.withF_ok (Zd.withF_ok (Zd.withF_ok (Zd.withP_ok (Zd.withP_ok (Zd.withF_ok (Zd.withP_ok Zm Zh1) Z7k) Zef) Zh7) Zh8) ZeB) Zh9) Zha) Zeq) Zex
def cpS (z:Bool) (k:ClS) (A:List ZS) (n i:Nat):St:=match z with
 | false=>⟨174,[(27,.int .i64 i),(6,.vrows 305 n (YZ A) n),(15,.ptr (some ⟨0,0,0,0,0⟩)),(17,.ptr (some ⟨1,0,0,0,0⟩)),(19,.ptr none)],⟨2,[(0,.flat (k.c++[.bool true])),(1,.flat k.c)]⟩,[]⟩
 | true=>⟨174,[(27,.int .i64 i),(6,.vrows 305 n (YZ A) n),(15,.ptr (some ⟨0,0,0,0,0⟩)),(17,.ptr (some ⟨1,0,0,0,0⟩)),(19,.ptr (some ⟨2,0,0,0,0⟩))],⟨3,[(0,.flat (k.c++[.bool true])),(1,.flat k.c),(2,.flat zzB)]⟩,[]⟩
def cpE:St:=⟨174,[],⟨0,[]⟩,[]⟩
theorem ZmF (A:List Int->Int×Int) (W:Int->List Int) (SB:Zi->Bool) (M:Int->Int->Int) (Tg:List Int->TxS->List Int) (X:ClS->ZS->ClS) (k k':ClS) (L:List ZS) (n i:Nat) (a:ZS) (Z1 Z2:Prop) (hn:n<=20) (hi:i<=n) (hk:YL k) (hx:i<n->L.getD i Uk=a) (ha:i<n->a.s.Len) (hk':i<n->k'=X k a/\YL k') (hZ1:i<n->Z1) (hZ2:i=n->Z2):
  ZC (Zhb A W SB M Tg X) 20 4 0 0 (cpS false k L n i) (rdM 0 0 9 (cpS false k' L n (i+1)) (cpS false k L n i) cpE cpE Z1 Z2 False False):=by
 refine @Eq.mpr _ (let q1:=k.t;let q2:=q1.fund;let q3:=AV.arr u8 32 q2;let q4:=q1.index;let q5:=AV.int i64 q4;let q6:=q1.cap;let q7:=AV.int i64 q6;let q8:=q1.dust;let q9:=AV.int i64 q8;let q10:=q1.fee;let q11:=AV.int i64 q10;let q12:=q1.delay;let q13:=AV.int i64 q12;let q14:=q1.k0;let q15:=AV.arr u8 32 q14;let q16:=q1.k1;let q17:=AV.arr u8 32 q16;let q18:=k.side;let q19:=AV.int i64 q18;let q20:=[k.a0,k.a1];let q21:=AV.arr i64 2 q20;let q22:=k.least;let q23:=AV.int i64 q22;let q24:=k.most;let q25:=AV.int i64 q24;let q26:=k.offers;let q27:=AV.bool q26;let q28:=k.last;let q29:=AV.int i64 q28;let q30:=k.agrees;let q31:=AV.bool q30;let q32:=k.fee;let q33:=AV.int i64 q32;let q34:=[AV.bool true];let q35:=List.getD L (Int.toNat (↑i:Int)) Uk;let q36:=q35.s;let q37:=q36.t;let q38:=decide (n=n);let q39:=YZ L=YZ L;let q40:=k'.t;let q41:=q2=q2;let q42:=decide (q4=q4);let q43:=decide (q6=q6);let q44:=decide (q8=q8);let q45:=decide (q10=q10);let q46:=decide (q12=q12);let q47:=q14=q14;let q48:=q16=q16;let q49:=decide (q18=q18);let q50:=q20=q20;let q51:=decide (q22=q22);let q52:=decide (q24=q24);let q53:=decide (q26=q26);let q54:=decide (q28=q28);let q55:=decide (q30=q30);let q56:=decide (q32=q32);
 Z7 (decide ((↑i:Int)<(↑n:Int))) (Z6 (0<=(↑i:Int)/\(↑i:Int)<(↑n:Int)) (∃(k:ClS),
 ∃(a:ZS),
 let q113:=(X k a).t;let q114:=q113.fund;let q115:=AV.arr u8 32 q114;let q116:=q113.index;let q117:=AV.int i64 q116;let q118:=q113.cap;let q119:=AV.int i64 q118;let q120:=q113.dust;let q121:=AV.int i64 q120;let q122:=q113.fee;let q123:=AV.int i64 q122;let q124:=q113.delay;let q125:=AV.int i64 q124;let q126:=q113.k0;let q127:=AV.arr u8 32 q126;let q128:=q113.k1;let q129:=AV.arr u8 32 q128;let q130:=(X k a).side;let q131:=AV.int i64 q130;let q132:=[(X k a).a0,(X k a).a1];let q133:=AV.arr i64 2 q132;let q134:=(X k a).least;let q135:=AV.int i64 q134;let q136:=(X k a).most;let q137:=AV.int i64 q136;let q138:=(X k a).offers;let q139:=AV.bool q138;let q140:=(X k a).last;let q141:=AV.int i64 q140;let q142:=(X k a).agrees;let q143:=AV.bool q142;let q144:=(X k a).fee;let q145:=AV.int i64 q144;let q146:=q114=q40.fund;let q147:=decide (q116=q40.index);let q148:=decide (q118=q40.cap);let q149:=decide (q120=q40.dust);let q150:=decide (q122=q40.fee);let q151:=decide (q124=q40.delay);let q152:=q126=q40.k0;let q153:=q128=q40.k1;let q154:=decide (q130=k'.side);let q155:=q132=[k'.a0,k'.a1];let q156:=decide (q134=k'.least);let q157:=decide (q136=k'.most);let q158:=decide (q138=k'.offers);let q159:=decide (q140=k'.last);let q160:=decide (q142=k'.agrees);let q161:=decide (q144=k'.fee);
 YE (q3::q5::q7::q9::q11::q13::q15::q17::q19::q21::q23::q25::q27::q29::q31::q33::q34) k/\
 YK [q3,q5,q7,q9,q11,q13,q15,q17,q19,q21,q23,q25,q27,q29,q31,q33] k/\
 Zh4 [AV.int i64 q35.w,AV.int i64 q36.kind,AV.arr u8 32 q37.fund,AV.int i64 q37.index,AV.int i64 q37.cap,AV.int i64 q37.dust,AV.int i64 q37.fee,AV.int i64 q37.delay,AV.arr u8 32 q37.k0,AV.arr u8 32 q37.k1,AV.int i64 q36.reserve,AV.int i64 q36.amount,AV.arr u8 32 q36.point,AV.arr u8 32 q36.nxt,AV.arr u8 32 q36.key,AV.arr u8 32 q36.hash,AV.arr u8 32 q36.tag,AV.arr u8 32 q36.secret,AV.int i64 q36.id,AV.int i64 q36.number,AV.int i64 q36.index,AV.int i64 q36.expiry,AV.int i64 q36.code,AV.str q36.route,AV.int i64 q35.fe,AV.int u8 q35.be] a/\
 YL k/\Zi.Len a.s/\∃(k:ClS),YE (q115::q117::q119::q121::q123::q125::q127::q129::q131::q133::q135::q137::q139::q141::q143::q145::q34) k/\YK [q115,q117,q119,q121,q123,q125,q127,q129,q131,q133,q135,q137,q139,q141,q143,q145] k/\YL k/\Z6 (wrap i64 ((↑i:Int)+1)=(↑(i+1):Int)) (Z0 q38 (q39/\Z0 q38 (q146/\Z0 q147 (Z0 q148 (Z0 q149 (Z0 q150 (Z0 q151 (q152/\q153/\Z0 q154 (q155/\Z0 q156 (Z0 q157 (Z0 q158 (Z0 q159 (Z0 q160 (Z0 q161 (q146/\Z0 q147 (Z0 q148 (Z0 q149 (Z0 q150 (Z0 q151 (q152/\q153/\Z0 q154 (q155/\Z0 q156 (Z0 q157 (Z0 q158 (Z0 q159 (Z0 q160 (Z0 q161 Z1)))))))))))))))))))))))))))) (Z6 ((↑i:Int)=(↑i:Int)) (Z0 q38 (q39/\Z0 q38 (q41/\Z0 q42 (Z0 q43 (Z0 q44 (Z0 q45 (Z0 q46 (q47/\q48/\Z0 q49 (q50/\Z0 q51 (Z0 q52 (Z0 q53 (Z0 q54 (Z0 q55 (Z0 q56 (q41/\Z0 q42 (Z0 q43 (Z0 q44 (Z0 q45 (Z0 q46 (q47/\q48/\Z0 q49 (q50/\Z0 q51 (Z0 q52 (Z0 q53 (Z0 q54 (Z0 q55 (Z0 q56 Z2)))))))))))))))))))))))))))) (by kernel_rfl) ?_
 conv=>zeta
 try simp only [vcA]
 try simp only [vcB]
 try simp only [vcC]
 refine ⟨fun hc=> ?_,fun hc=>hZ2 (by omega)⟩
 have hlt:i<n:=by omega
 obtain ⟨e,hk2⟩:=hk' hlt
 subst e
 have ew:i64.wrap ((i:Int)+1)=((i+1:Nat):Int):=by rw [w64 (by omega)];omega
 refine ⟨by omega,k,a,⟨rfl⟩,⟨rfl⟩,⟨?_⟩,hk,ha hlt,X k a,⟨rfl⟩,⟨rfl⟩,hk2,ew, ?_⟩
 ·rw [<-hx hlt]
  rfl
 and_intros<;>first|rfl|exact hZ1 hlt
theorem ZmG (A:List Int->Int×Int) (W:Int->List Int) (SB:Zi->Bool) (M:Int->Int->Int) (Tg:List Int->TxS->List Int) (X:ClS->ZS->ClS) (k k':ClS) (L:List ZS) (n i:Nat) (a:ZS) (Z1 Z2:Prop) (hn:n<=20) (hi:i<=n) (hk:YL k) (hx:i<n->L.getD i Uk=a) (ha:i<n->a.s.Len) (hk':i<n->k'=X k a/\YL k') (hZ1:i<n->Z1) (hZ2:i=n->Z2):
  ZC (Zhb A W SB M Tg X) 20 4 0 0 (cpS true k L n i) (rdM 0 0 9 (cpS true k' L n (i+1)) (cpS true k L n i) cpE cpE Z1 Z2 False False):=by
 refine @Eq.mpr _ (let q1:=k.t;let q2:=q1.fund;let q3:=AV.arr u8 32 q2;let q4:=q1.index;let q5:=AV.int i64 q4;let q6:=q1.cap;let q7:=AV.int i64 q6;let q8:=q1.dust;let q9:=AV.int i64 q8;let q10:=q1.fee;let q11:=AV.int i64 q10;let q12:=q1.delay;let q13:=AV.int i64 q12;let q14:=q1.k0;let q15:=AV.arr u8 32 q14;let q16:=q1.k1;let q17:=AV.arr u8 32 q16;let q18:=k.side;let q19:=AV.int i64 q18;let q20:=[k.a0,k.a1];let q21:=AV.arr i64 2 q20;let q22:=k.least;let q23:=AV.int i64 q22;let q24:=k.most;let q25:=AV.int i64 q24;let q26:=k.offers;let q27:=AV.bool q26;let q28:=k.last;let q29:=AV.int i64 q28;let q30:=k.agrees;let q31:=AV.bool q30;let q32:=k.fee;let q33:=AV.int i64 q32;let q34:=[AV.bool true];let q35:=List.getD L (Int.toNat (↑i:Int)) Uk;let q36:=q35.s;let q37:=q36.t;let q38:=decide (n=n);let q39:=YZ L=YZ L;let q40:=k'.t;let q41:=clZ.t;let q42:=q41.fund;let q43:=q42=q42;let q44:=q41.k0;let q45:=q44=q44;let q46:=q41.k1;let q47:=q46=q46;let q48:=[clZ.a0,clZ.a1];let q49:=q48=q48;let q50:=q2=q2;let q51:=decide (q4=q4);let q52:=decide (q6=q6);let q53:=decide (q8=q8);let q54:=decide (q10=q10);let q55:=decide (q12=q12);let q56:=q14=q14;let q57:=q16=q16;let q58:=decide (q18=q18);let q59:=q20=q20;let q60:=decide (q22=q22);let q61:=decide (q24=q24);let q62:=decide (q26=q26);let q63:=decide (q28=q28);let q64:=decide (q30=q30);let q65:=decide (q32=q32);
 Z7 (decide ((↑i:Int)<(↑n:Int))) (Z6 (0<=(↑i:Int)/\(↑i:Int)<(↑n:Int)) (∃(k:ClS),
 ∃(a:ZS),
 let q131:=(X k a).t;let q132:=q131.fund;let q133:=AV.arr u8 32 q132;let q134:=q131.index;let q135:=AV.int i64 q134;let q136:=q131.cap;let q137:=AV.int i64 q136;let q138:=q131.dust;let q139:=AV.int i64 q138;let q140:=q131.fee;let q141:=AV.int i64 q140;let q142:=q131.delay;let q143:=AV.int i64 q142;let q144:=q131.k0;let q145:=AV.arr u8 32 q144;let q146:=q131.k1;let q147:=AV.arr u8 32 q146;let q148:=(X k a).side;let q149:=AV.int i64 q148;let q150:=[(X k a).a0,(X k a).a1];let q151:=AV.arr i64 2 q150;let q152:=(X k a).least;let q153:=AV.int i64 q152;let q154:=(X k a).most;let q155:=AV.int i64 q154;let q156:=(X k a).offers;let q157:=AV.bool q156;let q158:=(X k a).last;let q159:=AV.int i64 q158;let q160:=(X k a).agrees;let q161:=AV.bool q160;let q162:=(X k a).fee;let q163:=AV.int i64 q162;let q164:=q132=q40.fund;let q165:=decide (q134=q40.index);let q166:=decide (q136=q40.cap);let q167:=decide (q138=q40.dust);let q168:=decide (q140=q40.fee);let q169:=decide (q142=q40.delay);let q170:=q144=q40.k0;let q171:=q146=q40.k1;let q172:=decide (q148=k'.side);let q173:=q150=[k'.a0,k'.a1];let q174:=decide (q152=k'.least);let q175:=decide (q154=k'.most);let q176:=decide (q156=k'.offers);let q177:=decide (q158=k'.last);let q178:=decide (q160=k'.agrees);let q179:=decide (q162=k'.fee);
 YE (q3::q5::q7::q9::q11::q13::q15::q17::q19::q21::q23::q25::q27::q29::q31::q33::q34) k/\
 YK [q3,q5,q7,q9,q11,q13,q15,q17,q19,q21,q23,q25,q27,q29,q31,q33] k/\
 Zh4 [AV.int i64 q35.w,AV.int i64 q36.kind,AV.arr u8 32 q37.fund,AV.int i64 q37.index,AV.int i64 q37.cap,AV.int i64 q37.dust,AV.int i64 q37.fee,AV.int i64 q37.delay,AV.arr u8 32 q37.k0,AV.arr u8 32 q37.k1,AV.int i64 q36.reserve,AV.int i64 q36.amount,AV.arr u8 32 q36.point,AV.arr u8 32 q36.nxt,AV.arr u8 32 q36.key,AV.arr u8 32 q36.hash,AV.arr u8 32 q36.tag,AV.arr u8 32 q36.secret,AV.int i64 q36.id,AV.int i64 q36.number,AV.int i64 q36.index,AV.int i64 q36.expiry,AV.int i64 q36.code,AV.str q36.route,AV.int i64 q35.fe,AV.int u8 q35.be] a/\
 YL k/\Zi.Len a.s/\∃(k:ClS),YE (q133::q135::q137::q139::q141::q143::q145::q147::q149::q151::q153::q155::q157::q159::q161::q163::q34) k/\YK [q133,q135,q137,q139,q141,q143,q145,q147,q149,q151,q153,q155,q157,q159,q161,q163] k/\YL k/\Z6 (wrap i64 ((↑i:Int)+1)=(↑(i+1):Int)) (Z0 q38 (q39/\Z0 q38 (q164/\Z0 q165 (Z0 q166 (Z0 q167 (Z0 q168 (Z0 q169 (q170/\q171/\Z0 q172 (q173/\Z0 q174 (Z0 q175 (Z0 q176 (Z0 q177 (Z0 q178 (Z0 q179 (q164/\Z0 q165 (Z0 q166 (Z0 q167 (Z0 q168 (Z0 q169 (q170/\q171/\Z0 q172 (q173/\Z0 q174 (Z0 q175 (Z0 q176 (Z0 q177 (Z0 q178 (Z0 q179 (q43/\q45/\q47/\q49/\Z1))))))))))))))))))))))))))))) (Z6 ((↑i:Int)=(↑i:Int)) (Z0 q38 (q39/\Z0 q38 (q50/\Z0 q51 (Z0 q52 (Z0 q53 (Z0 q54 (Z0 q55 (q56/\q57/\Z0 q58 (q59/\Z0 q60 (Z0 q61 (Z0 q62 (Z0 q63 (Z0 q64 (Z0 q65 (q50/\Z0 q51 (Z0 q52 (Z0 q53 (Z0 q54 (Z0 q55 (q56/\q57/\Z0 q58 (q59/\Z0 q60 (Z0 q61 (Z0 q62 (Z0 q63 (Z0 q64 (Z0 q65 (q43/\q45/\q47/\q49/\Z2))))))))))))))))))))))))))))) (by kernel_rfl) ?_
 conv=>zeta
 try simp only [vcA]
 try simp only [vcB]
 try simp only [vcC]
 refine ⟨fun hc=> ?_,fun hc=>hZ2 (by omega)⟩
 have hlt:i<n:=by omega
 obtain ⟨e,hk2⟩:=hk' hlt
 subst e
 have ew:i64.wrap ((i:Int)+1)=((i+1:Nat):Int):=by rw [w64 (by omega)];omega
 refine ⟨by omega,k,a,⟨rfl⟩,⟨rfl⟩,⟨?_⟩,hk,ha hlt,X k a,⟨rfl⟩,⟨rfl⟩,hk2,ew, ?_⟩
 ·rw [<-hx hlt]
  rfl
 and_intros<;>first|rfl|exact hZ1 hlt
def kkC (X:ClS->ZS->ClS) (k:ClS) (L:List ZS) (i:Nat):ClS:=(L.take i).foldl X k
theorem Z3L {X:ClS->ZS->ClS} {k:ClS} {L:List ZS} {i:Nat} (hi:i<L.length):kkC X k L (i+1)=X (kkC X k L i) (L.getD i Uk):=by
 unfold kkC
 rw [List.take_add_one,List.foldl_append,J2,Je hi]
 rfl
theorem ZeC {k:ClS} (hk:YL k) (L:List ZS):∀i,i<=L.length->YL (kkC nxC k L i)
 | 0,_=>hk
 | i+1,hi=>by
  rw [Z3L (by omega)]
  exact ZjB _ (ZeC hk L i (by omega))
structure ZmH (k:ClS) (L:List ZS) (n:Nat):Prop where
 n20:n<=20
 len:L.length=n
 k:YL k
 l:∀a∈L,a.s.Len
noncomputable def ZjD (A:List Int->Int×Int) (W:Int->List Int) (SB:Zi->Bool) (M:Int->Int->Int) (Tg:List Int->TxS->List Int) (X:ClS->ZS->ClS) (z:Bool) (G:Nat->ClS) (L:List ZS) (n:Nat) (C:Prop):Zd:=(Zhb A W SB M Tg X).withL 4 0 (goM 0 (cpS z (G 0) L n 0) C (Yu 0 n 9 (fun i=>i<n) (fun i=>i=n) (fun _=>False) (fun _=>False) (fun i=>cpS z (G i) L n i) (fun _=>cpE) (fun _=>cpE)))
theorem Zaa (z:Bool) (k:ClS) (L:List ZS) (n:Nat):(ZjD ZB Zu XA YD Zv nxC z (kkC nxC k L) L n (ZmH k L n)).Ok:=
 Zd.withGoM (N:=20) (S:=fun i=>cpS z (kkC nxC k L i) L n i) Zhc (by kernel_rfl) fun hC=>⟨rfl,fun i hi _=>by
  obtain ⟨h1,h2,h3,h4⟩:=hC
  have hg:=fun j (hj:j<=n)=>ZeC h3 L j (by omega)
  have ha:i<n->(L.getD i Uk).s.Len:=fun h=>h4 _ (by rw [J2,Je (by omega)];exact Km (by omega))
  cases z with
  | false=>exact ZmF ZB Zu XA YD Zv nxC (kkC nxC k L i) (kkC nxC k L (i+1)) L n i _ _ _ h1 hi (hg i hi) (fun _=>rfl) ha (fun h=>⟨Z3L (by omega),hg (i+1) h⟩) (fun h=>⟨h,h⟩) (fun h=>h)
  | true=>exact ZmG ZB Zu XA YD Zv nxC (kkC nxC k L i) (kkC nxC k L (i+1)) L n i _ _ _ h1 hi (hg i hi) (fun _=>rfl) ha (fun h=>⟨Z3L (by omega),hg (i+1) h⟩) (fun h=>⟨h,h⟩) (fun h=>h)⟩
theorem ZmI (A:List Int->Int×Int) (W:Int->List Int) (SB:Zi->Bool) (M:Int->Int->Int) (Tg:List Int->TxS->List Int) (X:ClS->ZS->ClS) (t:Zj) (sd a b lo hi:Int) (G:Nat->ClS) (L:List ZS) (n:Nat) (C:Prop) (hn:n<9223372036854775808) (hz:Int.tmod (n:Int) 2=0) (ht:t.Ok) (hG:Y8 A (k0C t sd a b lo hi)=true->G 0=k0C t sd a b lo hi/\YL (G 0)) (hC:Z0O L n 20=true->Y8 A (k0C t sd a b lo hi)=true->C):
  evF (ZjD A W SB M Tg X false G L n C) 20 4 [.agg t.c,.int .i64 sd,.int .i64 a,.int .i64 b,.int .i64 lo,.int .i64 hi,.vrows 305 n (YZ L) n] ⟨0,[]⟩ (XR fun v=>v=.bool true):=by
 refine @Eq.mpr _ (let q1:=YZ L;let q2:=Int.tmod (↑n) 2==1;let q3:=AV.arr u8 32 Z5;let q4:=AV.int i64 0;let q5:=AV.bool false;let q6:=IsZ [q3,q4,q4,q4,q4,q4,q3,q3,q4,AV.arr i64 2 [(0:Int),0],q4,q4,q5,q4,q5,q4,q5];let q7:=∃(s:Zi),Xp [AV.int i64 5,q3,q4,q4,q4,q4,q4,q3,q3,q4,q4,q3,q3,q3,q3,q3,q3,q4,q4,q4,q4,q4,AV.str ByteArray.empty] s;let q8:=AV.bool true;let q9:=decide (n=n);let q10:=q1=q1;let q11:=(G 0).t;let q12:=q11.fund;let q13:=q11.index;let q14:=q11.cap;let q15:=q11.dust;let q16:=q11.fee;let q17:=q11.delay;let q18:=q11.k0;let q19:=q11.k1;let q20:=decide (sd=(G 0).side);let q21:=[(G 0).a0,(G 0).a1];let q22:=decide (false=(G 0).offers);let q23:=decide (0=(G 0).last);let q24:=decide (false=(G 0).agrees);let q25:=decide (0=(G 0).fee);let q26:=q8=q8;let q27:=q5=q8;let q28:=Z7 q2 (q6/\q7/\q6/\q6/\q6/\q27) (q7/\q27);
 ∃(A_1:List ZS),
 Zh6 q1 A_1/\
 (n=n/\n<9223372036854775808)/\
 (Z0O A_1 n 20=true->
 ∃(t_1:Zj),
 let q57:=[AV.arr u8 32 t.fund,AV.int i64 t.index,AV.int i64 t.cap,AV.int i64 t.dust,AV.int i64 t.fee,AV.int i64 t.delay,AV.arr u8 32 t.k0,AV.arr u8 32 t.k1];
 ∃(a_2:Int),
 let q59:=[a,b];
 ∃(b:Int),
 let q61:=k0C t_1 sd a_2 b lo hi;let q62:=Y8 A q61;let q63:=q61.t;let q64:=q63.fund;let q65:=q63.index;let q66:=q63.cap;let q67:=q63.dust;let q68:=q63.fee;let q69:=q63.delay;let q70:=q63.k0;let q71:=q63.k1;let q72:=[q61.a0,q61.a1];let q73:=q61.least;let q74:=q61.most;
 Z1l q57 t_1/\
 q59=[a_2,b]/\
 Zj.Ok t_1/\
 (q62=true->
 ∃(t:Zj),
 ∃(a:Int),
 ∃(b:Int),
 let q89:=k0C t sd a b lo hi;let q90:=Y8 A q89;let q91:=q89.t;let q92:=q91.fund;let q93:=q91.index;let q94:=q91.cap;let q95:=q91.dust;let q96:=q91.fee;let q97:=q91.delay;let q98:=q91.k0;let q99:=q91.k1;let q100:=[q89.a0,q89.a1];let q101:=q89.least;let q102:=q89.most;
 Z1l q57 t/\
 q59=[a,b]/\
 Zj.Ok t/\
 (q90=true->
 Z7 q2 (q6/\q7/\q6/\q6/\q6/\∃(k:ClS),YE [AV.arr u8 32 q64,AV.int i64 q65,AV.int i64 q66,AV.int i64 q67,AV.int i64 q68,AV.int i64 q69,AV.arr u8 32 q70,AV.arr u8 32 q71,AV.int i64 sd,AV.arr i64 2 q72,AV.int i64 q73,AV.int i64 q74,q5,q4,q5,q4,q8] k/\YK [AV.arr u8 32 q92,AV.int i64 q93,AV.int i64 q94,AV.int i64 q95,AV.int i64 q96,AV.int i64 q97,AV.arr u8 32 q98,AV.arr u8 32 q99,AV.int i64 sd,AV.arr i64 2 q100,AV.int i64 q101,AV.int i64 q102,q5,q4,q5,q4] k/\YL k/\Z0 q9 (q10/\Z7 q9 False False)) (q7/\
 ∃(k:ClS),
 YE [AV.arr u8 32 q64,AV.int i64 q65,AV.int i64 q66,AV.int i64 q67,AV.int i64 q68,AV.int i64 q69,AV.arr u8 32 q70,AV.arr u8 32 q71,AV.int i64 sd,AV.arr i64 2 q72,AV.int i64 q73,AV.int i64 q74,q5,q4,q5,q4,q8] k/\
 YK [AV.arr u8 32 q92,AV.int i64 q93,AV.int i64 q94,AV.int i64 q95,AV.int i64 q96,AV.int i64 q97,AV.arr u8 32 q98,AV.arr u8 32 q99,AV.int i64 sd,AV.arr i64 2 q100,AV.int i64 q101,AV.int i64 q102,q5,q4,q5,q4] k/\
 YL k/\Z0 q9 (q10/\Z0 q9 (q64=q12/\Z6 (q65=q13) (Z6 (q66=q14) (Z6 (q67=q15) (Z6 (q68=q16) (Z6 (q69=q17) (q70=q18/\q71=q19/\Z0 q20 (q72=q21/\Z6 (q73=(G 0).least) (Z6 (q74=(G 0).most) (Z0 q22 (Z0 q23 (Z0 q24 (Z0 q25 (q92=q12/\Z6 (q93=q13) (Z6 (q94=q14) (Z6 (q95=q15) (Z6 (q96=q16) (Z6 (q97=q17) (q98=q18/\q99=q19/\Z0 q20 (q100=q21/\Z6 (q101=(G 0).least) (Z6 (q102=(G 0).most) (Z0 q22 (Z0 q23 (Z0 q24 (Z0 q25 (C/\∀(i:Nat),i<=n->(∀(j:Nat),j<i->(fun (i:Nat)=>i<n) j)->(i=n->q26)/\(False->False)/\(False->False)))))))))))))))))))))))))))))/\
 (q90=false->q28))/\
 (q62=false->
 ∃(t:Zj),
 ∃(a:Int),
 ∃(b:Int),
 let q89:=Y8 A (k0C t sd a b lo hi);
 Z1l q57 t/\q59=[a,b]/\Zj.Ok t/\(q89=true->q28)/\(q89=false->Z7 q2 (q6/\q7/\q6/\q6/\q6/\q26) (q7/\q26))))/\
 (Z0O A_1 n 20=false->q26)) (by kernel_rfl) ?_
 conv=>zeta
 try simp only [vcA]
 try simp only [vcB]
 try simp only [vcC]
 have z1:((n:Int).tmod 2==1)=false:=by rw [hz];rfl
 refine ⟨L,⟨rfl⟩,hn,fun hf=>⟨t,a,b,⟨rfl⟩,rfl,ht,fun hm=>⟨t,a,b,⟨rfl⟩,rfl,ht,fun _=>⟨fun h=>absurd (z1.symm.trans h) (by decide),fun _=> ?_⟩,fun h=>absurd (hm.symm.trans h) (by decide)⟩,fun hm=>⟨t,a,b,⟨rfl⟩,rfl,ht,fun h=>absurd (h.symm.trans hm) (by decide),fun _=>⟨fun h=>absurd (z1.symm.trans h) (by decide),fun _=>⟨sdN _ 0 Z5,⟨rfl⟩⟩⟩⟩⟩,fun _=>trivial⟩
 obtain ⟨g0,gk⟩:=hG hm
 refine ⟨⟨sdN _ 0 Z5,⟨rfl⟩⟩,k0C t sd a b lo hi,⟨rfl⟩,⟨rfl⟩,g0▸gk, ?_⟩
 simp only [g0]
 repeat' first
  | trivial
  | rfl
  | exact hC hf hm
  | apply Jc
  | intro _
theorem ZmJ (A:List Int->Int×Int) (W:Int->List Int) (SB:Zi->Bool) (M:Int->Int->Int) (Tg:List Int->TxS->List Int) (X:ClS->ZS->ClS) (t:Zj) (sd a b lo hi:Int) (G:Nat->ClS) (L:List ZS) (n:Nat) (C:Prop) (hn:n<9223372036854775808) (hz:Int.tmod (n:Int) 2=1) (ht:t.Ok) (hG:Y8 A (k0C t sd a b lo hi)=true->G 0=k0C t sd a b lo hi/\YL (G 0)) (hC:Z0O L n 20=true->Y8 A (k0C t sd a b lo hi)=true->C):
  evF (ZjD A W SB M Tg X true G L n C) 20 4 [.agg t.c,.int .i64 sd,.int .i64 a,.int .i64 b,.int .i64 lo,.int .i64 hi,.vrows 305 n (YZ L) n] ⟨0,[]⟩ (XR fun v=>v=.bool true):=by
 refine @Eq.mpr _ (let q1:=YZ L;let q2:=Int.tmod (↑n) 2==1;let q3:=AV.arr u8 32 Z5;let q4:=AV.int i64 0;let q5:=[(0:Int),0];let q6:=AV.bool false;let q7:=IsZ [q3,q4,q4,q4,q4,q4,q3,q3,q4,AV.arr i64 2 q5,q4,q4,q6,q4,q6,q4,q6];let q8:=∃(s:Zi),Xp [AV.int i64 5,q3,q4,q4,q4,q4,q4,q3,q3,q4,q4,q3,q3,q3,q3,q3,q3,q4,q4,q4,q4,q4,AV.str ByteArray.empty] s;let q9:=AV.bool true;let q10:=decide (n=n);let q11:=q1=q1;let q12:=(G 0).t;let q13:=q12.fund;let q14:=q12.index;let q15:=q12.cap;let q16:=q12.dust;let q17:=q12.fee;let q18:=q12.delay;let q19:=q12.k0;let q20:=q12.k1;let q21:=decide (sd=(G 0).side);let q22:=[(G 0).a0,(G 0).a1];let q23:=decide (false=(G 0).offers);let q24:=decide (0=(G 0).last);let q25:=decide (false=(G 0).agrees);let q26:=decide (0=(G 0).fee);let q27:=clZ.t;let q28:=q9=q9;let q29:=q6=q9;let q30:=Z7 q2 (q7/\q8/\q7/\q7/\q7/\q29) (q8/\q29);
 ∃(A_1:List ZS),
 Zh6 q1 A_1/\
 (n=n/\n<9223372036854775808)/\
 (Z0O A_1 n 20=true->
 ∃(t_1:Zj),
 let q61:=[AV.arr u8 32 t.fund,AV.int i64 t.index,AV.int i64 t.cap,AV.int i64 t.dust,AV.int i64 t.fee,AV.int i64 t.delay,AV.arr u8 32 t.k0,AV.arr u8 32 t.k1];
 ∃(a_2:Int),
 let q63:=[a,b];
 ∃(b:Int),
 let q65:=k0C t_1 sd a_2 b lo hi;let q66:=Y8 A q65;let q67:=q65.t;let q68:=q67.fund;let q69:=q67.index;let q70:=q67.cap;let q71:=q67.dust;let q72:=q67.fee;let q73:=q67.delay;let q74:=q67.k0;let q75:=q67.k1;let q76:=[q65.a0,q65.a1];let q77:=q65.least;let q78:=q65.most;
 Z1l q61 t_1/\
 q63=[a_2,b]/\
 Zj.Ok t_1/\
 (q66=true->
 ∃(t:Zj),
 ∃(a:Int),
 ∃(b:Int),
 let q93:=k0C t sd a b lo hi;let q94:=Y8 A q93;let q95:=q93.t;let q96:=q95.fund;let q97:=q95.index;let q98:=q95.cap;let q99:=q95.dust;let q100:=q95.fee;let q101:=q95.delay;let q102:=q95.k0;let q103:=q95.k1;let q104:=[q93.a0,q93.a1];let q105:=q93.least;let q106:=q93.most;
 Z1l q61 t/\
 q63=[a,b]/\
 Zj.Ok t/\
 (q94=true->
 Z7 q2 (q7/\
 q8/\
 q7/\
 q7/\
 q7/\
 ∃(k:ClS),
 YE [AV.arr u8 32 q68,AV.int i64 q69,AV.int i64 q70,AV.int i64 q71,AV.int i64 q72,AV.int i64 q73,AV.arr u8 32 q74,AV.arr u8 32 q75,AV.int i64 sd,AV.arr i64 2 q76,AV.int i64 q77,AV.int i64 q78,q6,q4,q6,q4,q9] k/\
 YK [AV.arr u8 32 q96,AV.int i64 q97,AV.int i64 q98,AV.int i64 q99,AV.int i64 q100,AV.int i64 q101,AV.arr u8 32 q102,AV.arr u8 32 q103,AV.int i64 sd,AV.arr i64 2 q104,AV.int i64 q105,AV.int i64 q106,q6,q4,q6,q4] k/\
 YL k/\
 Z0 q10 (q11/\
 Z0 q10 (q68=q13/\Z6 (q69=q14) (Z6 (q70=q15) (Z6 (q71=q16) (Z6 (q72=q17) (Z6 (q73=q18) (q74=q19/\q75=q20/\Z0 q21 (q76=q22/\Z6 (q77=(G 0).least) (Z6 (q78=(G 0).most) (Z0 q23 (Z0 q24 (Z0 q25 (Z0 q26 (q96=q13/\Z6 (q97=q14) (Z6 (q98=q15) (Z6 (q99=q16) (Z6 (q100=q17) (Z6 (q101=q18) (q102=q19/\q103=q20/\Z0 q21 (q104=q22/\Z6 (q105=(G 0).least) (Z6 (q106=(G 0).most) (Z0 q23 (Z0 q24 (Z0 q25 (Z0 q26 (Z5=q27.fund/\Z5=q27.k0/\Z5=q27.k1/\q5=[clZ.a0,clZ.a1]/\C/\∀(i:Nat),i<=n->(∀(j:Nat),j<i->(fun (i:Nat)=>i<n) j)->(i=n->q28)/\(False->False)/\(False->False)))))))))))))))))))))))))))) (q8/\∃(k:ClS),YE [AV.arr u8 32 q68,AV.int i64 q69,AV.int i64 q70,AV.int i64 q71,AV.int i64 q72,AV.int i64 q73,AV.arr u8 32 q74,AV.arr u8 32 q75,AV.int i64 sd,AV.arr i64 2 q76,AV.int i64 q77,AV.int i64 q78,q6,q4,q6,q4,q9] k/\YK [AV.arr u8 32 q96,AV.int i64 q97,AV.int i64 q98,AV.int i64 q99,AV.int i64 q100,AV.int i64 q101,AV.arr u8 32 q102,AV.arr u8 32 q103,AV.int i64 sd,AV.arr i64 2 q104,AV.int i64 q105,AV.int i64 q106,q6,q4,q6,q4] k/\YL k/\Z0 q10 (q11/\Z7 q10 False False)))/\
 (q94=false->q30))/\
 (q66=false->
 ∃(t:Zj),
 ∃(a:Int),
 ∃(b:Int),
 let q93:=Y8 A (k0C t sd a b lo hi);
 Z1l q61 t/\q63=[a,b]/\Zj.Ok t/\(q93=true->q30)/\(q93=false->Z7 q2 (q7/\q8/\q7/\q7/\q7/\q28) (q8/\q28))))/\
 (Z0O A_1 n 20=false->q28)) (by kernel_rfl) ?_
 conv=>zeta
 try simp only [vcA]
 try simp only [vcB]
 try simp only [vcC]
 have z1:((n:Int).tmod 2==1)=true:=by rw [hz];rfl
 refine ⟨L,⟨rfl⟩,hn,fun hf=>⟨t,a,b,⟨rfl⟩,rfl,ht,fun hm=>⟨t,a,b,⟨rfl⟩,rfl,ht,fun _=>⟨fun _=> ?_,fun h=>absurd (z1.symm.trans h) (by decide)⟩,fun h=>absurd (hm.symm.trans h) (by decide)⟩,fun hm=>⟨t,a,b,⟨rfl⟩,rfl,ht,fun h=>absurd (h.symm.trans hm) (by decide),fun _=>⟨fun _=>⟨⟨rfl⟩,⟨sdN _ 0 Z5,⟨rfl⟩⟩,⟨rfl⟩,⟨rfl⟩,⟨rfl⟩⟩,fun h=>absurd (z1.symm.trans h) (by decide)⟩⟩⟩,fun _=>trivial⟩
 obtain ⟨g0,gk⟩:=hG hm
 refine ⟨⟨rfl⟩,⟨sdN _ 0 Z5,⟨rfl⟩⟩,⟨rfl⟩,⟨rfl⟩,⟨rfl⟩,k0C t sd a b lo hi,⟨rfl⟩,⟨rfl⟩,g0▸gk, ?_⟩
 simp only [g0]
 repeat' first
  | trivial
  | rfl
  | exact hC hf hm
  | apply Jc
  | intro _
theorem ZeD {t:Zj} {sd a b lo hi:Int} (ht:t.All) (h:Y8 ZB (k0C t sd a b lo hi)=true):YL (k0C t sd a b lo hi):=⟨⟨Z1i.1 h,(fun h=>nomatch h),fun _=>rfl,(fun h=>nomatch h),fun _=>rfl⟩,ht⟩
def ctermTy:List Ty:=[.arr .u8 32,.int .i64,.int .i64,.int .i64,.int .i64,.int .i64,.arr .u8 32,.arr .u8 32]
theorem Z7n {a:AV} (h:Z3l true ctermTy a):∃t:Zj,a=.agg t.c/\t.All:=by
 cases h with|agg _ u h=>
 unfold ctermTy at h
 cases h with|cons _ a1 _ u h1 h=>
 cases h with|cons _ a2 _ u h2 h=>
 cases h with|cons _ a3 _ u h3 h=>
 cases h with|cons _ a4 _ u h4 h=>
 cases h with|cons _ a5 _ u h5 h=>
 cases h with|cons _ a6 _ u h6 h=>
 cases h with|cons _ a7 _ u h7 h=>
 cases h with|cons _ a8 _ u h8 h=>
 cases h;cases h1;cases h2;cases h3;cases h4;cases h5;cases h6;cases h7;cases h8
 rename_i x1 l1 w1 x2 w2 x3 w3 x4 w4 x5 w5 x6 w6 x7 l7 w7 x8 l8 w8
 exact ⟨⟨x1,x2,x3,x4,x5,x6,x7,x8⟩,rfl,⟨⟨l7,l8,Z0D l7 w7,Z0D l8 w8⟩,l1,Z0D l1 w1⟩⟩
theorem VX {a:AV} (h:Z3l false [.int .i64] a):∃n:Int,a=.int .i64 n:=by
 cases h with|one _ _ h=>
 cases h
 exact ⟨_,rfl⟩
theorem Z7o {a:AV} (h:Z3l false [.rows 305 cactTy] a):∃(n:Nat) (A:List ZS),A.length=n/\n<9223372036854775808/\(∀m∈A,m.s.Len)/\∀(E:Env) (r:Value),Zh E a r->Zh E (.vrows 305 n (YZ A) n) r:=by
 cases h with|one _ _ h=>
 cases h with|rows esz ts n f hm h=>
 obtain ⟨g,hg⟩:=Zey fun i hi=>Zbs (h i hi)
 refine ⟨n,(List.range n).map g,by simp, ?_,fun m hm=> ?_,fun E r hr=>hr.rowsC fun i hi=> ?_⟩
 ·unfold maxLen at hm
  omega
 ·obtain ⟨i,hi,rfl⟩:=List.mem_map.1 hm
  exact (hg i (Jz.1 hi)).2
 ·unfold YZ
  rw [(hg i hi).1,J2,K4,List.getElem?_range hi]
  rfl
end Go.Tk
end
section
namespace Go.Tk
open IntKind (i64 u8 u32 u64 wrap)
theorem closeplays_walk {us:List AV} (h:Z4D [(true,ctermTy),(false,[.int .i64]),(false,[.int .i64]),(false,[.int .i64]),(false,[.int .i64]),(false,[.int .i64]),(false,[.rows 305 cactTy])] us):Ze PP 4 us ⟨0,[]⟩ fun o h'=>∃v,o=.ret v/\h'=⟨0,[]⟩/\v=.bool true:=by
 cases h with|cons _ _ a _ _ h1 h=>
 cases h with|cons _ _ b _ _ h2 h=>
 cases h with|cons _ _ c _ _ h3 h=>
 cases h with|cons _ _ d _ _ h4 h=>
 cases h with|cons _ _ e _ _ h5 h=>
 cases h with|cons _ _ f _ _ h6 h=>
 cases h with|cons _ _ g _ _ h7 h=>
 cases h
 obtain ⟨t,rfl,ht⟩:=Z7n h1
 obtain ⟨sd,rfl⟩:=VX h2
 obtain ⟨x,rfl⟩:=VX h3
 obtain ⟨y,rfl⟩:=VX h4
 obtain ⟨lo,rfl⟩:=VX h5
 obtain ⟨hi,rfl⟩:=VX h6
 obtain ⟨n,A,hn,hm,hA,hr⟩:=Z7o h7
 have hG:Y8 ZB (k0C t sd x y lo hi)=true->kkC nxC (k0C t sd x y lo hi) A 0=k0C t sd x y lo hi/\YL (kkC nxC (k0C t sd x y lo hi) A 0):=fun hb=>⟨rfl,ZeD ht hb⟩
 have hC:Z0O A n 20=true->Y8 ZB (k0C t sd x y lo hi)=true->ZmH (k0C t sd x y lo hi) A n:=fun hf hb=>⟨by have:=(Z7m.1 hf).2;omega,hn,ZeD ht hb,hA⟩
 have hz:Int.tmod (n:Int) 2=0\/Int.tmod (n:Int) 2=1:=by
  rw [Int.tmod_eq_emod_of_nonneg (by omega)]
  omega
 rcases hz with hz|hz
 ·exact (X3 (h:=⟨0,[]⟩) (Zaa false (k0C t sd x y lo hi) A n) rfl (ZmI ZB Zu XA YD Zv nxC t sd x y lo hi _ A n _ hm hz ht.ok hG hC) (fun u hu=>hu)).conv fun E r hr0=>hr0.head (fun _ hc=>hc) fun _ hc=>hc.head (fun _ hc=>hc) fun _ hc=>hc.head (fun _ hc=>hc) fun _ hc=>hc.head (fun _ hc=>hc) fun _ hc=>hc.head (fun _ hc=>hc) fun _ hc=>hc.head (fun _ hc=>hc) fun _ hc=>hc.head (fun _ hc=>hr E _ hc) fun _ hc=>hc
 ·exact (X3 (h:=⟨0,[]⟩) (Zaa true (k0C t sd x y lo hi) A n) rfl (ZmJ ZB Zu XA YD Zv nxC t sd x y lo hi _ A n _ hm hz ht.ok hG hC) (fun u hu=>hu)).conv fun E r hr0=>hr0.head (fun _ hc=>hc) fun _ hc=>hc.head (fun _ hc=>hc) fun _ hc=>hc.head (fun _ hc=>hc) fun _ hc=>hc.head (fun _ hc=>hc) fun _ hc=>hc.head (fun _ hc=>hc) fun _ hc=>hc.head (fun _ hc=>hc) fun _ hc=>hc.head (fun _ hc=>hr E _ hc) fun _ hc=>hc
end Go.Tk
namespace Go.Proofs.YtdfjhgjefkkkbaaGreat.closePlays
open Go.ChangeShapes Go.WideShapes Go.ChangeAt Go.RowKit
theorem own:ownKnob Tryz.prog.godebug=none:=by kernel_rfl
theorem laidOut:laidOutB Tryz.prog=true:=by kernel_rfl
theorem lifted (os:Os) (started:os.Started) (H:Type) (enc:TypeId×Value->H):
  ReturnsInHanded {} Tryz.checked os 4 .any (Rows.closePlaysSpec.pre6 enc Tryz.prog Tryz.f4 Rows.closePlaysRow.domain false) (Rows.closePlaysSpec.post enc Tryz.prog Tryz.f4 false true false false):=
 Go.Tk.lifted_gen (C:=Tryz.checked) (m:=8) (τs:=[(true,Go.Tk.ctermTy),(false,[.int .i64]),(false,[.int .i64]),(false,[.int .i64]),(false,[.int .i64]),(false,[.int .i64]),(false,[.rows 305 Go.Tk.cactTy])]) own laidOut started (by kernel_rfl) Tryz.func4
  (ChangeSpec.witness6 (enc:=enc) (C:=Tryz.checked) false ⟨#[], #[.agg (Array.replicate 32 (.int .u8 0)++ #[.int .i64 0,.int .i64 0,.int .i64 0,.int .i64 0,.int .i64 0]++Array.replicate 64 (.int .u8 0)),.int .i64 0,.int .i64 0,.int .i64 0,.int .i64 0,.int .i64 0,.slice none 0 0],[]⟩ 8 (by kernel_rfl) (by kernel_rfl) (by kernel_rfl) (by kernel_rfl))
  rfl (tb:=4) rfl Tryz.underlying4 (by kernel_rfl) (by kernel_rfl) (fun ds h=>by
   match ds,h with
   | [a,b,c,d,e,f,g],_=>rfl) fun us h=>Go.Tk.closeplays_walk h
theorem ZjE:Tryz.pinned.checked.prog.funcNamed Rows.closePlaysRow.func=some 4:=by kernel_rfl
theorem closed:joinedFacts Tryz.pinned.checked.prog 4 Tryz.f4 Rows.closePlaysSpec Rows.closePlaysRow=true:=by
 unfold joinedFacts
 repeat' with_reducible refine Go.Tk.and_mk ?_ ?_
 all_goals as_aux_lemma=>kernel_rfl
theorem over:Rows.closePlaysRow.holds Tryz.pinned (OpenSpec.ofChange Rows.closePlaysSpec):=
 OpenClaim.holds_of_wide 4 Tryz.f4 rfl rfl rfl rfl rfl rfl rfl ⟨rfl,rfl,rfl,rfl,rfl⟩ rfl rfl rfl rfl rfl ZjE Tryz.func4 closed
  (of_decide_eq_true (by kernel_rfl)) (by unfold Func.isWrapper;first|(rw [if_pos (by decide+kernel)];kernel_rfl)|(rw [if_neg (by decide+kernel)];exact ⟨rfl,rfl⟩))
  (fun os started H enc _=>lifted os started H enc)
theorem proved:Rows.ClosePlaysSaid:=over
end Go.Proofs.YtdfjhgjefkkkbaaGreat.closePlays
end
