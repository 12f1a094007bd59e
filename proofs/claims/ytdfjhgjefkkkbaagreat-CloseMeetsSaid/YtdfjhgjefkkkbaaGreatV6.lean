/- V: part 6 of an engine (a symbolic evaluator, proved against the model) and of the walk by it. -/
import Derived.Test.YtdfjhgjefkkkbaaGreatV5
import Derived.Test.YtdfjhgjefkkkbaaGreatRows
import Derived.ChangeOld
set_option linter.unusedVariables false
set_option linter.unusedSimpArgs false
set_option maxRecDepth 100000
set_option maxHeartbeats 0
section
namespace Go.Tk
open IntKind (i64 u8 u32 u64 wrap)
variable {xs:LI} {SB:Zm->Bool} {Tg:LI->TxS->LI}
noncomputable def ZeW (A:LI->Int×Int) (Tg:LI->TxS->LI):Zf:=(G0.withF 42 (clF A)).withF 43 (Zdr A Tg)
def ctG (Tg:LI->TxS->LI) (k:ClS):Nat->InS:=Z4d Tg (txC k.t k.a0 k.a1 k.fee) k.t.k0 k.t.k1 1
def txV (b n:Nat):AV:=.agg [.int .i64 2147483647,.nslice ⟨b,0,130,0,0⟩ 130 1 1,.nslice ⟨b+1,0,132,0,0⟩ 132 n n]
theorem ZgO (A:LI->Int×Int) (Tg:LI->TxS->LI) (k:ClS) (n:Nat) (L:List Zg) (g:Nat->InS) (hA:A=ZB) (ht:k.t.All) (hE:ZG k.t k.a0 k.a1 k.fee=0) (ha:k.a0<9223372036854775808) (hL:L=ZP (clL k.t k.a0 k.a1 k.fee)) (hn:n=L.length) (hg:g=ctG Tg k):
  evF (ZeW A Tg) 20 15 [.ptr (some ⟨0,0,0,0,0⟩)] ⟨1,[(0,.flat (clT k k.side k.offers k.last true k.fee))]⟩ (Y6 1 (.ret (.tuple [txV 1 n,.int .i64 0])) 3 [(0,.flat (clT k k.side k.offers k.last true k.fee)),(1,.rows 130 1 (Zd g)),(2,.rows 132 n (Ze (Yk L)))]):=by
 refine @Eq.mpr _ (let e:=k.t;let o:=e.fund;let m:=e.index;let u:=e.cap;let s:=e.dust;let r:=e.fee;let q:=e.delay;let j:=e.k0;let h:=e.k1;let x:=Zi.mk o m u s r q j h;let w:=[k.a0,k.a1];let p:=k.fee;let f:=InS.mk o m 1 Z0 Z0 Z0;let D:=[(2,6),(1,5)];
 Zi.Ok x/\
 ∃(a:Int),
 ∃(b:Int),
 let C:=clB A x a b p;let B:=clL x a b p;
 w=[a,b]/\
 a<9223372036854775808/\
 (C=false->False)/\
 (C=true->
 (B.length=0->False)/\
 ∀(n_1:Nat) (L_1:List Zg),
 L_1=ZP B->
 n_1=L_1.length->
 n_1≠0->
 Z6 (0+n_1<=n_1) ((∀(i:Nat),i<n_1->true=true)/\
 ∃(t:TxS),
 let l:=t.N;let v:=t.M;let z:=decide (l=1);let y:=decide (v=n);
 (t.num=2147483647/\
 (((1:Nat)=1/\l=1)/\∀(i:Nat),i<1->YV [AV.arr u8 32 f.name,AV.int i64 f.index,AV.int i64 f.way,AV.arr u8 32 f.tag,AV.arr u8 32 f.also,AV.arr u8 32 f.secret] 0 130 i=InS.c (t.ins i))/\
 (n_1=n_1/\v=n_1)/\
 ∀(i:Nat),
 let d:=Yk L_1 i;
 i<n_1->[AV.int i64 d.kind,AV.int i64 d.amount,AV.arr u8 32 d.owner,AV.arr u8 32 d.other,AV.arr u8 32 d.point,AV.arr u8 32 d.hash,AV.int i64 d.delay,AV.int i64 d.expiry]=Zp.c (t.outs i))/\
 (TxS.Ok t/\j.length=32/\h.length=32)/\(Y5 A t=false->False)/\(Y5 A t=true->Z6 (t.num=2147483647) (Z5 z (Z6 (1<=l) (Z5 y (Z6 (n<=v) (o=o/\Z6 (m=m) (Z6 (u=u) (Z6 (s=s) (Z6 (r=r) (Z6 (q=q) (j=j/\h=h/\Z6 (k.side=k.side) (w=w/\Z6 (k.least=k.least) (Z6 (k.most=k.most) (Z6 (k.offers=k.offers) (Z6 (k.last=k.last) (Z6 (p=p) (Z5 z (Zv 1 D 1 (Zd g) (Zd (Z4d Tg t j h l))/\Z5 y (Zv 1 D n (Ze (Yk L)) (Ze t.outs)/\True)))))))))))))))))))))) (by kernel_rfl) ?_
 conv=>zeta
 try simp only [vcA]
 try simp only [vcB]
 try simp only [vcC]
 subst hA
 obtain ⟨hb,hz⟩:=Z6J hE
 have hb:clB ZB k.t k.a0 k.a1 k.fee=true:=hb
 have hck:=Z0d hE
 refine ⟨ht.ok,k.a0,k.a1,rfl,ha,fun h=>absurd (hb.symm.trans h) (by decide),fun _=>⟨fun h=>absurd h hz,fun n1 L1 hL1 hn1 hn0=>⟨fun _ _=>trivial,txC k.t k.a0 k.a1 k.fee,⟨rfl,⟨rfl,fun i hi=>Z2h _ i hi⟩, ?_,fun i _=> ?_⟩,⟨Z0c ht.ok ht.fl,ht.ok.k0,ht.ok.k1⟩,fun h=>absurd (hck.symm.trans h) (by decide),fun _=> ?_⟩⟩⟩
 ·subst hn1 hL1;rfl
 ·subst hL1;rfl
 ·subst hn hL hg
  exact ⟨rfl,rfl,J5 _,rfl,J5 _,rfl,Yq fun _ _=>rfl,rfl,Yn fun _ _=>rfl⟩
theorem ZgP (A:LI->Int×Int) (Tg:LI->TxS->LI) (k:ClS) :
  evF (ZeW A Tg) 20 15 [.ptr (some ⟨0,0,0,0,0⟩)] ⟨1,[(0,.flat (clT k k.side k.offers k.last false k.fee))]⟩ (Y6 1 (.ret (.tuple [.agg txZ,.int .i64 5])) 1 [(0,.flat (clT k k.side k.offers k.last false k.fee))]):=by
 refine @Eq.mpr _ (let a:=k.t;let i:=a.fund;let h:=a.index;let g:=a.cap;let f:=a.dust;let e:=a.fee;let d:=a.delay;let c:=a.k0;let b:=a.k1;let j:=[k.a0,k.a1];
 i=i/\Z6 (h=h) (Z6 (g=g) (Z6 (f=f) (Z6 (e=e) (Z6 (d=d) (c=c/\b=b/\Z6 (k.side=k.side) (j=j/\Z6 (k.least=k.least) (Z6 (k.most=k.most) (Z6 (k.offers=k.offers) (Z6 (k.last=k.last) (Z6 (k.fee=k.fee) True))))))))))) (by kernel_rfl) ?_
 conv=>zeta
 try simp only [vcA]
 try simp only [vcB]
 try simp only [vcC]
structure TxK (k:ClS):Prop where
 t:k.t.All
 a:k.a0<9223372036854775808
def ZcU (cs:List AV) (i:Nat):AV:=cs.getD i .top
def ZcV (Tg:LI->TxS->LI):Yb:=fun args h K=>match args with
 | [.ptr (some ⟨x,0,0,0,0⟩)]=>frA [x] h 40 args fun Bs a=>match Bs,a with
  | [.flat cs],[.ptr (some ⟨0,0,0,0,0⟩)]=>∃k,XP cs k/\TxK k/\(match ZcU cs 14 with
   | .bool true=>ZG k.t k.a0 k.a1 k.fee=0/\∀n L,L=ZP (clL k.t k.a0 k.a1 k.fee)->n=L.length->n<=2->K (.ret (.tuple [txV h.next n,.int .i64 0])) ⟨h.next+2,(x,.flat cs)::(h.next,.rows 130 1 (Zd (ctG Tg k)))::(h.next+1,.rows 132 n (Ze (Yk L)))::Yu h.bs x⟩
   | .bool false=>K (.ret (.tuple [.agg txZ,.int .i64 5])) ⟨h.next,(x,.flat cs)::Yu h.bs x⟩
   | _=>False)
  | _,_=>False
 | _=>False
theorem Z7L (args:List AV) (h:Z9) (K:KO) (hl:ZcV Zl args h K):Zh PP 15 args h K:=by
 have hE:(ZeW ZB Zl).Ok:=Zf.withF_ok (Zf.withF_ok Zu ZaH) ZaN
 unfold ZcV at hl
 split at hl
 ·refine Spec.fsumm hl fun Bs a hlen hK0=> ?_
  split at hK0
  ·obtain ⟨k,⟨rfl⟩,⟨ht,ha⟩,hm⟩:=hK0
   obtain ⟨t,sd,a0,a1,le,mo,o0,l0,g0,f0⟩:=k
   cases g0 with
   | true=>
    obtain ⟨he,hK⟩:ZG t a0 a1 f0=0/\_:=hm
    have h2:(ZP (clL t a0 a1 f0)).length<=2:=by rw [Xg];exact Z4e
    exact ⟨_,_,_,_,_,.evM hE (ZgO _ Zl ⟨t,sd,a0,a1,le,mo,o0,l0,true,f0⟩ _ _ _ rfl ht he ha rfl rfl rfl),by simp,.ret _ _ rfl,.cons _ _ _ _ _ _ rfl (.flat _ _ rfl) (.cons _ _ _ _ _ _ rfl (.rows _ _ _ (fun _ _=>rfl)) (.cons _ _ _ _ _ _ rfl (.rows _ _ _ (fun _ _=>rfl)) .nil)),hK _ _ rfl rfl h2⟩
   | false=>exact ⟨_,_,_,_,_,.evM hE (ZgP _ Zl ⟨t,sd,a0,a1,le,mo,o0,l0,false,f0⟩),by simp,.ret _ _ rfl,.cons _ _ _ _ _ _ rfl (.flat _ _ rfl) .nil,hm⟩
  ·exact hK0.elim
 ·exact hl.elim
theorem Z8J (h:Bytes xs) (i:Nat) {v:Int} (hv:0<=v/\v<=255):Bytes (xs.set i v):=⟨fun k=>by
 have hx:=h.h k
 rw [J2] at hx⊢
 rw [K3]
 split
 ·split
  ·exact hv
  ·exact ⟨JY 0,by decide⟩
 ·exact hx⟩
theorem ZgQ (s:Zm) (ok:Bool) (hl:s.Len) (hok:ok=true↔ZA s 1):
  evF Qa 40 35 [.agg (.int .i64 1::s.r)] ⟨0,[]⟩ (chK ok):=by
 refine @Eq.mpr _ (let k:=s.id;let a:=s.t;let d:=a.fund;let q:=decide (d.length=(32:Nat)/\(32:Nat)=(32:Nat));let p:=a.k1;let o:=decide (p.length=(32:Nat)/\(32:Nat)=(32:Nat));let n:=decide (s.key.length=(32:Nat)/\(32:Nat)=(32:Nat));let m:=decide (s.hash.length=(32:Nat)/\(32:Nat)=(32:Nat));let l:=decide (s.tag.length=(32:Nat)/\(32:Nat)=(32:Nat));let x:=decide (s.secret.length=(32:Nat)/\(32:Nat)=(32:Nat));let w:=a.index;let j:=s.number;let i:=s.index;let h:=s.expiry;let v:= !(true&&(d==Z0&&(w==(0:Int)&&(true&&(true&&(true&&(true&&(true&&p==Z0))))))&&(true&&(true&&(true&&(true&&(s.key==Z0&&(s.hash==Z0&&(s.tag==Z0&&(s.secret==Z0&&(k==(0:Int)&&(j==(0:Int)&&(i==(0:Int)&&(h==(0:Int)&&(s.code==(0:Int)&&ByteArray.toList s.route==ByteArray.toList ByteArray.empty)))))))))))))));let b:=Z5 q (Z5 o (Z5 n (Z5 m (Z5 l (Z5 x (Z7 v (ok=false) (ok=false)))))));let g:=s.amount;let c:=a.k0;let f:=a.cap;let u:=a.fee;let r:=Zi.mk d w f a.dust u a.delay c (List.set c (0:Nat) (wrap u8 (List.getD c (0:Nat) (0:Int)+(1:Int))));let e:=s.reserve;
 Z7 (decide ((0:Int)<=k)) (Z7 (!decide (k<=(2147483647:Int))) b (Z7 (decide ((0:Int)<=j)) (Z7 (!decide (j<=(2147483647:Int))) b (Z7 (decide ((0:Int)<=i)) (Z7 (!decide (i<=(2147483647:Int))) b (Z7 (decide ((0:Int)<=h)) (Z7 (!decide (h<=(2147483647:Int))) b (Z5 q (Z5 o (Z5 n (Z5 m (Z5 l (Z5 x (Z7 v (ok=false) (Z7 (decide (g<(0:Int))) (ok=false) (Z7 (decide (g>(1125899906842624:Int))) (ok=false) (Z6 (u8=u8/\(0:Nat)<(32:Nat)/\(0:Nat)<c.length) (Zi.Ok r/\Z7 ((if ZX r=true then (0:Int) else (2:Int))==(0:Int)) (Z7 (decide ((0:Int)<=e)) (Z7 (decide (e<=wrap i64 (Int.tdiv f (10:Int)))) (Z7 (!decide (g<=wrap i64 (wrap i64 (f-u)-e))) (ok=false) (ok=true)) (ok=false)) (ok=false)) (ok=false))))))))))))) b)) b)) b)) b) (by kernel_rfl) ?_
 conv=>zeta
 try simp only [vcA]
 try simp only [vcB]
 try simp only [vcC]
 obtain ⟨h0,h1,h2,h3,h4,h5,h6,h7,h8,hb⟩:=hl
 simp only [h0,h1,h2,h3,h4,h5,h6,h7,h8,and_self,decide_true,true_and,forall_const,Ja,Ju,decide_eq_true_eq,decide_eq_false_iff_not,JM,JN,reduceCtorEq,false_implies,and_true]
 have hte:((if ZX (U2 s.t)=true then (0:Int) else 2)==0)=ZX (U2 s.t):=by cases ZX (U2 s.t)<;>rfl
 have hOk:(U2 s.t).Ok:=⟨h1,by show (List.set _ _ _).length=32;rw [List.length_set];exact h1,hb,Z8J hb 0 (Zhs _)⟩
 have hd:ZX (U2 s.t)=true->(1000<=s.t.cap/\s.t.cap<=1125899906842624)/\(0<=s.t.fee/\s.t.fee<=400):=fun h=>by
  unfold ZX U2 at h
  simp only [J3,decide_eq_true_eq] at h
  obtain ⟨⟨⟨⟨⟨_,g2⟩,_⟩,g4⟩,_⟩,_⟩:=h
  exact ⟨g2,g4⟩
 have htd:ZX (U2 s.t)=true->0<=s.t.cap.tdiv 10/\s.t.cap.tdiv 10<=s.t.cap:=fun h=>by
  have:=hd h
  rw [Ka (by omega)]
  omega
 have hw1:ZX (U2 s.t)=true->i64.wrap (s.t.cap.tdiv 10)=s.t.cap.tdiv 10:=fun h=>by
  have:=hd h
  have:=htd h
  exact w64 (by omega)
 have hw2:ZX (U2 s.t)=true->0<=s.reserve->s.reserve<=s.t.cap.tdiv 10->i64.wrap (i64.wrap (s.t.cap-s.t.fee)-s.reserve)=s.t.cap-s.t.fee-s.reserve:=fun h g1 g2=>by
  have:=hd h
  have:=htd h
  rw [w64 (x:=s.t.cap-s.t.fee) (by omega)]
  exact w64 (by omega)
 change _ at hOk
 cases ok with
 | true=>
  obtain ⟨⟨w0,w1,w2,w3,w4,w5,w6,w7,w8,w9⟩,hr,hk⟩:=hok.1 rfl
  have hk:Z6K s:=hk
  obtain ⟨k1,k2,k3,k4⟩:=hk
  have e1:=hw1 k1
  have e2:=hw2 k1 k2 k3
  repeat' first
   | exact hOk
   | trivial
   | apply Jt
   | intro
  all_goals first
   | omega
   | (exfalso;omega)
   | (rename_i hq;exact absurd (hr.symm.trans hq) (by decide))
   | (rename_i hq _;exact absurd (hr.symm.trans hq) (by decide))
   | (rename_i hq _ _;exact absurd (hr.symm.trans hq) (by decide))
   | (rename_i hq;exact absurd ((hte.trans k1).symm.trans hq) (by decide))
 | false=>
  have hn:¬ZA s 1:=fun h=>absurd (hok.2 h) (by decide)
  repeat' first
   | exact hOk
   | trivial
   | apply Jt
   | intro
  rename_i hq1 hq2 hq3 hq4
  have k1:ZX (U2 s.t)=true:=hte.symm.trans hq1
  have e1:=hw1 k1
  rw [e1] at hq3
  have e2:=hw2 k1 hq2 hq3
  rw [e2] at hq4
  exact absurd (ZA.mk ⟨by omega,by omega,by omega,by omega,by omega,by omega,by omega,by omega,by omega,by omega⟩ (by assumption) (show kindOk s 1 from Z6K.mk k1 hq2 hq3 hq4)) hn
theorem ZgR (s:Zm) (ok:Bool) (hl:s.Len) (hok:ok=true↔ZA s 2):
  evF Qa 40 35 [.agg (.int .i64 2::s.r)] ⟨0,[]⟩ (chK ok):=by
 refine @Eq.mpr _ (let g:=s.id;let a:=s.t;let n:=a.fund;let m:=decide (n.length=32/\(32:Nat)=32);let l:=a.k0;let k:=decide (l.length=32/\(32:Nat)=32);let j:=a.k1;let i:=decide (j.length=32/\(32:Nat)=32);let h:=decide (s.hash.length=32/\(32:Nat)=32);let q:=decide (s.tag.length=32/\(32:Nat)=32);let p:=decide (s.secret.length=32/\(32:Nat)=32);let f:=s.amount;let e:=s.number;let d:=s.index;let c:=s.expiry;let o:= !(true&&(n==Z0&&(a.index==0&&(a.cap==0&&(a.dust==0&&(a.fee==0&&(a.delay==0&&(l==Z0&&j==Z0))))))&&(s.reserve==0&&(f==0&&(true&&(true&&(true&&(s.hash==Z0&&(s.tag==Z0&&(s.secret==Z0&&(g==0&&(e==0&&(d==0&&(c==0&&(s.code==0&&ByteArray.toList s.route==ByteArray.toList ByteArray.empty)))))))))))))));let b:=Z5 m (Z5 k (Z5 i (Z5 h (Z5 q (Z5 p (Z7 o (ok=false) (ok=false)))))));
 Z7 (decide (0<=g)) (Z7 (!decide (g<=2147483647)) b (Z7 (decide (0<=e)) (Z7 (!decide (e<=2147483647)) b (Z7 (decide (0<=d)) (Z7 (!decide (d<=2147483647)) b (Z7 (decide (0<=c)) (Z7 (!decide (c<=2147483647)) b (Z5 m (Z5 k (Z5 i (Z5 h (Z5 q (Z5 p (Z7 o (ok=false) (Z7 (decide (f<0)) (ok=false) (Z7 (decide (f>1125899906842624)) (ok=false) (ok=true))))))))))) b)) b)) b)) b) (by kernel_rfl) ?_
 conv=>zeta
 try simp only [vcA]
 try simp only [vcB]
 try simp only [vcC]
 obtain ⟨h0,h1,h2,h3,h4,h5,h6,h7,h8,hb⟩:=hl
 simp only [h0,h1,h2,h3,h4,h5,h6,h7,h8,and_self,decide_true,true_and,forall_const,Ja,Ju,decide_eq_true_eq,decide_eq_false_iff_not,JM,JN,reduceCtorEq,false_implies,and_true]
 cases ok with
 | true=>
  obtain ⟨⟨w0,w1,w2,w3,w4,w5,w6,w7,w8,w9⟩,hr,hk⟩:=hok.1 rfl
  have hk':=hk
  simp only [kindOk] at hk
  repeat' first
   | trivial
   | apply Jt
   | intro
  all_goals first
   | omega
   | (exfalso;omega)
   | (rename_i hq;exact absurd (hr.symm.trans hq) (by decide))
   | (rename_i hq _;exact absurd (hr.symm.trans hq) (by decide))
   | (rename_i hq _ _;exact absurd (hr.symm.trans hq) (by decide))
 | false=>
  have hn:¬ZA s 2:=fun h=>absurd (hok.2 h) (by decide)
  repeat' first
   | trivial
   | apply Jt
   | intro
  all_goals first
   | exact absurd (ZA.mk ⟨by omega,by omega,by omega,by omega,by omega,by omega,by omega,by omega,by omega,by omega⟩ (by assumption) (by simp only [kindOk]<;>omega)) hn
   | exact absurd (ZA.mk ⟨by omega,by omega,by omega,by omega,by omega,by omega,by omega,by omega,by omega,by omega⟩ (by assumption) trivial) hn
theorem ZgS (s:Zm) (ok:Bool) (hl:s.Len) (hok:ok=true↔ZA s 3):
  evF Qa 40 35 [.agg (.int .i64 3::s.r)] ⟨0,[]⟩ (chK ok):=by
 refine @Eq.mpr _ (let g:=s.id;let a:=s.t;let n:=a.fund;let m:=decide (n.length=32/\(32:Nat)=32);let l:=a.k0;let k:=decide (l.length=32/\(32:Nat)=32);let j:=a.k1;let i:=decide (j.length=32/\(32:Nat)=32);let h:=decide (s.point.length=32/\(32:Nat)=32);let r:=decide (s.nxt.length=32/\(32:Nat)=32);let q:=decide (s.key.length=32/\(32:Nat)=32);let p:=decide (s.secret.length=32/\(32:Nat)=32);let f:=s.amount;let e:=s.number;let d:=s.expiry;let o:= !(true&&(n==Z0&&(a.index==0&&(a.cap==0&&(a.dust==0&&(a.fee==0&&(a.delay==0&&(l==Z0&&j==Z0))))))&&(s.reserve==0&&(f==0&&(s.point==Z0&&(s.nxt==Z0&&(s.key==Z0&&(true&&(true&&(s.secret==Z0&&(g==0&&(e==0&&(true&&(d==0&&(s.code==0&&ByteArray.toList s.route==ByteArray.toList ByteArray.empty)))))))))))))));let b:=Z5 m (Z5 k (Z5 i (Z5 h (Z5 r (Z5 q (Z5 p (Z7 o (ok=false) (ok=false))))))));let c:=s.index;
 Z7 (decide (0<=g)) (Z7 (!decide (g<=2147483647)) b (Z7 (decide (0<=e)) (Z7 (!decide (e<=2147483647)) b (Z7 (decide (0<=c)) (Z7 (!decide (c<=2147483647)) b (Z7 (decide (0<=d)) (Z7 (!decide (d<=2147483647)) b (Z5 m (Z5 k (Z5 i (Z5 h (Z5 r (Z5 q (Z5 p (Z7 o (ok=false) (Z7 (decide (f<0)) (ok=false) (Z7 (decide (f>1125899906842624)) (ok=false) (Z7 (!decide (c<24)) (ok=false) (ok=true))))))))))))) b)) b)) b)) b) (by kernel_rfl) ?_
 conv=>zeta
 try simp only [vcA]
 try simp only [vcB]
 try simp only [vcC]
 obtain ⟨h0,h1,h2,h3,h4,h5,h6,h7,h8,hb⟩:=hl
 simp only [h0,h1,h2,h3,h4,h5,h6,h7,h8,and_self,decide_true,true_and,forall_const,Ja,Ju,decide_eq_true_eq,decide_eq_false_iff_not,JM,JN,reduceCtorEq,false_implies,and_true]
 cases ok with
 | true=>
  obtain ⟨⟨w0,w1,w2,w3,w4,w5,w6,w7,w8,w9⟩,hr,hk⟩:=hok.1 rfl
  have hk':=hk
  simp only [kindOk] at hk
  repeat' first
   | trivial
   | apply Jt
   | intro
  all_goals first
   | omega
   | (exfalso;omega)
   | (rename_i hq;exact absurd (hr.symm.trans hq) (by decide))
   | (rename_i hq _;exact absurd (hr.symm.trans hq) (by decide))
   | (rename_i hq _ _;exact absurd (hr.symm.trans hq) (by decide))
 | false=>
  have hn:¬ZA s 3:=fun h=>absurd (hok.2 h) (by decide)
  repeat' first
   | trivial
   | apply Jt
   | intro
  all_goals first
   | exact absurd (ZA.mk ⟨by omega,by omega,by omega,by omega,by omega,by omega,by omega,by omega,by omega,by omega⟩ (by assumption) (by simp only [kindOk]<;>omega)) hn
   | exact absurd (ZA.mk ⟨by omega,by omega,by omega,by omega,by omega,by omega,by omega,by omega,by omega,by omega⟩ (by assumption) trivial) hn
theorem ZgT (s:Zm) (ok:Bool) (hl:s.Len) (hok:ok=true↔ZA s 4):
  evF Qa 40 35 [.agg (.int .i64 4::s.r)] ⟨0,[]⟩ (chK ok):=by
 refine @Eq.mpr _ (let g:=s.id;let a:=s.t;let n:=a.fund;let m:=decide (n.length=32/\(32:Nat)=32);let l:=a.k0;let k:=decide (l.length=32/\(32:Nat)=32);let j:=a.k1;let i:=decide (j.length=32/\(32:Nat)=32);let h:=decide (s.point.length=32/\(32:Nat)=32);let u:=decide (s.nxt.length=32/\(32:Nat)=32);let r:=decide (s.key.length=32/\(32:Nat)=32);let q:=decide (s.hash.length=32/\(32:Nat)=32);let p:=decide (s.secret.length=32/\(32:Nat)=32);let f:=s.amount;let e:=s.number;let d:=s.index;let c:=s.expiry;let o:= !(true&&(n==Z0&&(a.index==0&&(a.cap==0&&(a.dust==0&&(a.fee==0&&(a.delay==0&&(l==Z0&&j==Z0))))))&&(s.reserve==0&&(f==0&&(s.point==Z0&&(s.nxt==Z0&&(s.key==Z0&&(s.hash==Z0&&(true&&(s.secret==Z0&&(g==0&&(e==0&&(d==0&&(c==0&&(s.code==0&&ByteArray.toList s.route==ByteArray.toList ByteArray.empty)))))))))))))));let b:=Z5 m (Z5 k (Z5 i (Z5 h (Z5 u (Z5 r (Z5 q (Z5 p (Z7 o (ok=false) (ok=false)))))))));
 Z7 (decide (0<=g)) (Z7 (!decide (g<=2147483647)) b (Z7 (decide (0<=e)) (Z7 (!decide (e<=2147483647)) b (Z7 (decide (0<=d)) (Z7 (!decide (d<=2147483647)) b (Z7 (decide (0<=c)) (Z7 (!decide (c<=2147483647)) b (Z5 m (Z5 k (Z5 i (Z5 h (Z5 u (Z5 r (Z5 q (Z5 p (Z7 o (ok=false) (Z7 (decide (f<0)) (ok=false) (Z7 (decide (f>1125899906842624)) (ok=false) (ok=true))))))))))))) b)) b)) b)) b) (by kernel_rfl) ?_
 conv=>zeta
 try simp only [vcA]
 try simp only [vcB]
 try simp only [vcC]
 obtain ⟨h0,h1,h2,h3,h4,h5,h6,h7,h8,hb⟩:=hl
 simp only [h0,h1,h2,h3,h4,h5,h6,h7,h8,and_self,decide_true,true_and,forall_const,Ja,Ju,decide_eq_true_eq,decide_eq_false_iff_not,JM,JN,reduceCtorEq,false_implies,and_true]
 cases ok with
 | true=>
  obtain ⟨⟨w0,w1,w2,w3,w4,w5,w6,w7,w8,w9⟩,hr,hk⟩:=hok.1 rfl
  have hk':=hk
  simp only [kindOk] at hk
  repeat' first
   | trivial
   | apply Jt
   | intro
  all_goals first
   | omega
   | (exfalso;omega)
   | (rename_i hq;exact absurd (hr.symm.trans hq) (by decide))
   | (rename_i hq _;exact absurd (hr.symm.trans hq) (by decide))
   | (rename_i hq _ _;exact absurd (hr.symm.trans hq) (by decide))
 | false=>
  have hn:¬ZA s 4:=fun h=>absurd (hok.2 h) (by decide)
  repeat' first
   | trivial
   | apply Jt
   | intro
  all_goals first
   | exact absurd (ZA.mk ⟨by omega,by omega,by omega,by omega,by omega,by omega,by omega,by omega,by omega,by omega⟩ (by assumption) (by simp only [kindOk]<;>omega)) hn
   | exact absurd (ZA.mk ⟨by omega,by omega,by omega,by omega,by omega,by omega,by omega,by omega,by omega,by omega⟩ (by assumption) trivial) hn
theorem ZgU (s:Zm) (ok:Bool) (hl:s.Len) (hok:ok=true↔ZA s 5):
  evF Qa 40 35 [.agg (.int .i64 5::s.r)] ⟨0,[]⟩ (chK ok):=by
 refine @Eq.mpr _ (let g:=s.id;let b:=s.t;let n:=b.fund;let m:=decide (n.length=32/\(32:Nat)=32);let l:=b.k0;let k:=decide (l.length=32/\(32:Nat)=32);let j:=b.k1;let i:=decide (j.length=32/\(32:Nat)=32);let h:=decide (s.point.length=32/\(32:Nat)=32);let v:=decide (s.nxt.length=32/\(32:Nat)=32);let u:=decide (s.key.length=32/\(32:Nat)=32);let r:=decide (s.hash.length=32/\(32:Nat)=32);let q:=decide (s.tag.length=32/\(32:Nat)=32);let p:=decide (s.secret.length=32/\(32:Nat)=32);let f:=s.amount;let e:=s.number;let d:=s.index;let c:=s.expiry;let o:= !(true&&(n==Z0&&(b.index==0&&(b.cap==0&&(b.dust==0&&(b.fee==0&&(b.delay==0&&(l==Z0&&j==Z0))))))&&(s.reserve==0&&(f==0&&(s.point==Z0&&(s.nxt==Z0&&(s.key==Z0&&(s.hash==Z0&&(s.tag==Z0&&(s.secret==Z0&&(g==0&&(e==0&&(d==0&&(c==0&&(s.code==0&&ByteArray.toList s.route==ByteArray.toList ByteArray.empty)))))))))))))));let a:=Z5 m (Z5 k (Z5 i (Z5 h (Z5 v (Z5 u (Z5 r (Z5 q (Z5 p (Z7 o (ok=false) (ok=false))))))))));
 Z7 (decide (0<=g)) (Z7 (!decide (g<=2147483647)) a (Z7 (decide (0<=e)) (Z7 (!decide (e<=2147483647)) a (Z7 (decide (0<=d)) (Z7 (!decide (d<=2147483647)) a (Z7 (decide (0<=c)) (Z7 (!decide (c<=2147483647)) a (Z5 m (Z5 k (Z5 i (Z5 h (Z5 v (Z5 u (Z5 r (Z5 q (Z5 p (Z7 o (ok=false) (Z7 (decide (f<0)) (ok=false) (Z7 (decide (f>1125899906842624)) (ok=false) (ok=true)))))))))))))) a)) a)) a)) a) (by kernel_rfl) ?_
 conv=>zeta
 try simp only [vcA]
 try simp only [vcB]
 try simp only [vcC]
 obtain ⟨h0,h1,h2,h3,h4,h5,h6,h7,h8,hb⟩:=hl
 simp only [h0,h1,h2,h3,h4,h5,h6,h7,h8,and_self,decide_true,true_and,forall_const,Ja,Ju,decide_eq_true_eq,decide_eq_false_iff_not,JM,JN,reduceCtorEq,false_implies,and_true]
 cases ok with
 | true=>
  obtain ⟨⟨w0,w1,w2,w3,w4,w5,w6,w7,w8,w9⟩,hr,hk⟩:=hok.1 rfl
  have hk':=hk
  simp only [kindOk] at hk
  repeat' first
   | trivial
   | apply Jt
   | intro
  all_goals first
   | omega
   | (exfalso;omega)
   | (rename_i hq;exact absurd (hr.symm.trans hq) (by decide))
   | (rename_i hq _;exact absurd (hr.symm.trans hq) (by decide))
   | (rename_i hq _ _;exact absurd (hr.symm.trans hq) (by decide))
 | false=>
  have hn:¬ZA s 5:=fun h=>absurd (hok.2 h) (by decide)
  repeat' first
   | trivial
   | apply Jt
   | intro
  all_goals first
   | exact absurd (ZA.mk ⟨by omega,by omega,by omega,by omega,by omega,by omega,by omega,by omega,by omega,by omega⟩ (by assumption) (by simp only [kindOk]<;>omega)) hn
   | exact absurd (ZA.mk ⟨by omega,by omega,by omega,by omega,by omega,by omega,by omega,by omega,by omega,by omega⟩ (by assumption) trivial) hn
theorem ZgV (s:Zm) (ok:Bool) (hl:s.Len) (hok:ok=true↔ZA s 6):
  evF Qa 40 35 [.agg (.int .i64 6::s.r)] ⟨0,[]⟩ (chK ok):=by
 refine @Eq.mpr _ (let b:=s.t;let n:=b.fund;let m:=decide (n.length=32/\(32:Nat)=32);let l:=b.k0;let k:=decide (l.length=32/\(32:Nat)=32);let j:=b.k1;let i:=decide (j.length=32/\(32:Nat)=32);let h:=decide (s.point.length=32/\(32:Nat)=32);let g:=decide (s.nxt.length=32/\(32:Nat)=32);let r:=decide (s.key.length=32/\(32:Nat)=32);let q:=decide (s.tag.length=32/\(32:Nat)=32);let p:=decide (s.secret.length=32/\(32:Nat)=32);let f:=s.number;let e:=s.index;let o:= !(true&&(n==Z0&&(b.index==0&&(b.cap==0&&(b.dust==0&&(b.fee==0&&(b.delay==0&&(l==Z0&&j==Z0))))))&&(s.reserve==0&&(true&&(s.point==Z0&&(s.nxt==Z0&&(s.key==Z0&&(true&&(s.tag==Z0&&(s.secret==Z0&&(true&&(f==0&&(e==0&&(true&&(s.code==0&&true)))))))))))))));let a:=Z5 m (Z5 k (Z5 i (Z5 h (Z5 g (Z5 r (Z5 q (Z5 p (Z7 o (ok=false) (ok=false)))))))));let d:=s.expiry;let c:=s.amount;
 Z7 (decide (0<=s.id)) (Z7 (!decide (s.id<=2147483647)) a (Z7 (decide (0<=f)) (Z7 (!decide (f<=2147483647)) a (Z7 (decide (0<=e)) (Z7 (!decide (e<=2147483647)) a (Z7 (decide (0<=d)) (Z7 (!decide (d<=2147483647)) a (Z5 m (Z5 k (Z5 i (Z5 h (Z5 g (Z5 r (Z5 q (Z5 p (Z7 o (ok=false) (Z7 (decide (c<0)) (ok=false) (Z7 (decide (c>1125899906842624)) (ok=false) (Z7 (decide (c>0)) (Z7 (decide (d>0)) (Z7 (!decide ((↑(ByteArray.size s.route):Int)<=512)) (ok=false) (ok=true)) (ok=false)) (ok=false)))))))))))))) a)) a)) a)) a) (by kernel_rfl) ?_
 conv=>zeta
 try simp only [vcA]
 try simp only [vcB]
 try simp only [vcC]
 obtain ⟨h0,h1,h2,h3,h4,h5,h6,h7,h8,hb⟩:=hl
 simp only [h0,h1,h2,h3,h4,h5,h6,h7,h8,and_self,decide_true,true_and,forall_const,Ja,Ju,decide_eq_true_eq,decide_eq_false_iff_not,JM,JN,reduceCtorEq,false_implies,and_true]
 cases ok with
 | true=>
  obtain ⟨⟨w0,w1,w2,w3,w4,w5,w6,w7,w8,w9⟩,hr,hk⟩:=hok.1 rfl
  have hk':=hk
  simp only [kindOk] at hk
  repeat' first
   | trivial
   | apply Jt
   | intro
  all_goals first
   | omega
   | (exfalso;omega)
   | (rename_i hq;exact absurd (hr.symm.trans hq) (by decide))
   | (rename_i hq _;exact absurd (hr.symm.trans hq) (by decide))
   | (rename_i hq _ _;exact absurd (hr.symm.trans hq) (by decide))
 | false=>
  have hn:¬ZA s 6:=fun h=>absurd (hok.2 h) (by decide)
  repeat' first
   | trivial
   | apply Jt
   | intro
  all_goals first
   | exact absurd (ZA.mk ⟨by omega,by omega,by omega,by omega,by omega,by omega,by omega,by omega,by omega,by omega⟩ (by assumption) (by simp only [kindOk]<;>omega)) hn
   | exact absurd (ZA.mk ⟨by omega,by omega,by omega,by omega,by omega,by omega,by omega,by omega,by omega,by omega⟩ (by assumption) trivial) hn
theorem ZgW (s:Zm) (ok:Bool) (hl:s.Len) (hok:ok=true↔ZA s 7):
  evF Qa 40 35 [.agg (.int .i64 7::s.r)] ⟨0,[]⟩ (chK ok):=by
 refine @Eq.mpr _ (let b:=s.t;let n:=b.fund;let m:=decide (n.length=32/\(32:Nat)=32);let l:=b.k0;let k:=decide (l.length=32/\(32:Nat)=32);let j:=b.k1;let i:=decide (j.length=32/\(32:Nat)=32);let h:=decide (s.point.length=32/\(32:Nat)=32);let g:=decide (s.nxt.length=32/\(32:Nat)=32);let r:=decide (s.key.length=32/\(32:Nat)=32);let q:=decide (s.hash.length=32/\(32:Nat)=32);let p:=decide (s.tag.length=32/\(32:Nat)=32);let f:=s.amount;let e:=s.number;let d:=s.index;let c:=s.expiry;let o:= !(true&&(n==Z0&&(b.index==0&&(b.cap==0&&(b.dust==0&&(b.fee==0&&(b.delay==0&&(l==Z0&&j==Z0))))))&&(s.reserve==0&&(f==0&&(s.point==Z0&&(s.nxt==Z0&&(s.key==Z0&&(s.hash==Z0&&(s.tag==Z0&&(true&&(true&&(e==0&&(d==0&&(c==0&&(s.code==0&&ByteArray.toList s.route==ByteArray.toList ByteArray.empty)))))))))))))));let a:=Z5 m (Z5 k (Z5 i (Z5 h (Z5 g (Z5 r (Z5 q (Z5 p (Z7 o (ok=false) (ok=false)))))))));
 Z7 (decide (0<=s.id)) (Z7 (!decide (s.id<=2147483647)) a (Z7 (decide (0<=e)) (Z7 (!decide (e<=2147483647)) a (Z7 (decide (0<=d)) (Z7 (!decide (d<=2147483647)) a (Z7 (decide (0<=c)) (Z7 (!decide (c<=2147483647)) a (Z5 m (Z5 k (Z5 i (Z5 h (Z5 g (Z5 r (Z5 q (Z5 p (Z7 o (ok=false) (Z7 (decide (f<0)) (ok=false) (Z7 (decide (f>1125899906842624)) (ok=false) (ok=true))))))))))))) a)) a)) a)) a) (by kernel_rfl) ?_
 conv=>zeta
 try simp only [vcA]
 try simp only [vcB]
 try simp only [vcC]
 obtain ⟨h0,h1,h2,h3,h4,h5,h6,h7,h8,hb⟩:=hl
 simp only [h0,h1,h2,h3,h4,h5,h6,h7,h8,and_self,decide_true,true_and,forall_const,Ja,Ju,decide_eq_true_eq,decide_eq_false_iff_not,JM,JN,reduceCtorEq,false_implies,and_true]
 cases ok with
 | true=>
  obtain ⟨⟨w0,w1,w2,w3,w4,w5,w6,w7,w8,w9⟩,hr,hk⟩:=hok.1 rfl
  have hk':=hk
  simp only [kindOk] at hk
  repeat' first
   | trivial
   | apply Jt
   | intro
  all_goals first
   | omega
   | (exfalso;omega)
   | (rename_i hq;exact absurd (hr.symm.trans hq) (by decide))
   | (rename_i hq _;exact absurd (hr.symm.trans hq) (by decide))
   | (rename_i hq _ _;exact absurd (hr.symm.trans hq) (by decide))
 | false=>
  have hn:¬ZA s 7:=fun h=>absurd (hok.2 h) (by decide)
  repeat' first
   | trivial
   | apply Jt
   | intro
  all_goals first
   | exact absurd (ZA.mk ⟨by omega,by omega,by omega,by omega,by omega,by omega,by omega,by omega,by omega,by omega⟩ (by assumption) (by simp only [kindOk]<;>omega)) hn
   | exact absurd (ZA.mk ⟨by omega,by omega,by omega,by omega,by omega,by omega,by omega,by omega,by omega,by omega⟩ (by assumption) trivial) hn
theorem ZgX (s:Zm) (ok:Bool) (hl:s.Len) (hok:ok=true↔ZA s 8):
  evF Qa 40 35 [.agg (.int .i64 8::s.r)] ⟨0,[]⟩ (chK ok):=by
 refine @Eq.mpr _ (let b:=s.t;let n:=b.fund;let m:=decide (n.length=32/\(32:Nat)=32);let l:=b.k0;let k:=decide (l.length=32/\(32:Nat)=32);let j:=b.k1;let i:=decide (j.length=32/\(32:Nat)=32);let h:=decide (s.point.length=32/\(32:Nat)=32);let g:=decide (s.nxt.length=32/\(32:Nat)=32);let u:=decide (s.key.length=32/\(32:Nat)=32);let r:=decide (s.hash.length=32/\(32:Nat)=32);let q:=decide (s.tag.length=32/\(32:Nat)=32);let p:=decide (s.secret.length=32/\(32:Nat)=32);let f:=s.amount;let e:=s.number;let d:=s.index;let c:=s.expiry;let o:= !(true&&(n==Z0&&(b.index==0&&(b.cap==0&&(b.dust==0&&(b.fee==0&&(b.delay==0&&(l==Z0&&j==Z0))))))&&(s.reserve==0&&(f==0&&(s.point==Z0&&(s.nxt==Z0&&(s.key==Z0&&(s.hash==Z0&&(s.tag==Z0&&(s.secret==Z0&&(true&&(e==0&&(d==0&&(c==0&&(true&&ByteArray.toList s.route==ByteArray.toList ByteArray.empty)))))))))))))));let a:=Z5 m (Z5 k (Z5 i (Z5 h (Z5 g (Z5 u (Z5 r (Z5 q (Z5 p (Z7 o (ok=false) (ok=false))))))))));
 Z7 (decide (0<=s.id)) (Z7 (!decide (s.id<=2147483647)) a (Z7 (decide (0<=e)) (Z7 (!decide (e<=2147483647)) a (Z7 (decide (0<=d)) (Z7 (!decide (d<=2147483647)) a (Z7 (decide (0<=c)) (Z7 (!decide (c<=2147483647)) a (Z5 m (Z5 k (Z5 i (Z5 h (Z5 g (Z5 u (Z5 r (Z5 q (Z5 p (Z7 o (ok=false) (Z7 (decide (f<0)) (ok=false) (Z7 (decide (f>1125899906842624)) (ok=false) (Z7 (decide (1<=s.code)) (Z7 (!decide (s.code<=999)) (ok=false) (ok=true)) (ok=false))))))))))))))) a)) a)) a)) a) (by kernel_rfl) ?_
 conv=>zeta
 try simp only [vcA]
 try simp only [vcB]
 try simp only [vcC]
 obtain ⟨h0,h1,h2,h3,h4,h5,h6,h7,h8,hb⟩:=hl
 simp only [h0,h1,h2,h3,h4,h5,h6,h7,h8,and_self,decide_true,true_and,forall_const,Ja,Ju,decide_eq_true_eq,decide_eq_false_iff_not,JM,JN,reduceCtorEq,false_implies,and_true]
 cases ok with
 | true=>
  obtain ⟨⟨w0,w1,w2,w3,w4,w5,w6,w7,w8,w9⟩,hr,hk⟩:=hok.1 rfl
  have hk':=hk
  simp only [kindOk] at hk
  repeat' first
   | trivial
   | apply Jt
   | intro
  all_goals first
   | omega
   | (exfalso;omega)
   | (rename_i hq;exact absurd (hr.symm.trans hq) (by decide))
   | (rename_i hq _;exact absurd (hr.symm.trans hq) (by decide))
   | (rename_i hq _ _;exact absurd (hr.symm.trans hq) (by decide))
 | false=>
  have hn:¬ZA s 8:=fun h=>absurd (hok.2 h) (by decide)
  repeat' first
   | trivial
   | apply Jt
   | intro
  all_goals first
   | exact absurd (ZA.mk ⟨by omega,by omega,by omega,by omega,by omega,by omega,by omega,by omega,by omega,by omega⟩ (by assumption) (by simp only [kindOk]<;>omega)) hn
   | exact absurd (ZA.mk ⟨by omega,by omega,by omega,by omega,by omega,by omega,by omega,by omega,by omega,by omega⟩ (by assumption) trivial) hn
theorem ZgY (s:Zm) (ok:Bool) (hl:s.Len) (hok:ok=true↔ZA s 9):
  evF Qa 40 35 [.agg (.int .i64 9::s.r)] ⟨0,[]⟩ (chK ok):=by
 refine @Eq.mpr _ (let f:=s.id;let a:=s.t;let m:=a.fund;let l:=decide (m.length=32/\(32:Nat)=32);let k:=a.k0;let j:=decide (k.length=32/\(32:Nat)=32);let i:=a.k1;let h:=decide (i.length=32/\(32:Nat)=32);let g:=decide (s.point.length=32/\(32:Nat)=32);let r:=decide (s.nxt.length=32/\(32:Nat)=32);let q:=decide (s.key.length=32/\(32:Nat)=32);let p:=decide (s.hash.length=32/\(32:Nat)=32);let o:=decide (s.secret.length=32/\(32:Nat)=32);let e:=s.amount;let d:=s.index;let c:=s.expiry;let n:= !(true&&(m==Z0&&(a.index==0&&(a.cap==0&&(a.dust==0&&(a.fee==0&&(a.delay==0&&(k==Z0&&i==Z0))))))&&(s.reserve==0&&(e==0&&(s.point==Z0&&(s.nxt==Z0&&(s.key==Z0&&(s.hash==Z0&&(true&&(s.secret==Z0&&(f==0&&(true&&(d==0&&(c==0&&(s.code==0&&ByteArray.toList s.route==ByteArray.toList ByteArray.empty)))))))))))))));let b:=Z5 l (Z5 j (Z5 h (Z5 g (Z5 r (Z5 q (Z5 p (Z5 o (Z7 n (ok=false) (ok=false)))))))));
 Z7 (decide (0<=f)) (Z7 (!decide (f<=2147483647)) b (Z7 (decide (0<=s.number)) (Z7 (!decide (s.number<=2147483647)) b (Z7 (decide (0<=d)) (Z7 (!decide (d<=2147483647)) b (Z7 (decide (0<=c)) (Z7 (!decide (c<=2147483647)) b (Z5 l (Z5 j (Z5 h (Z5 g (Z5 r (Z5 q (Z5 p (Z5 o (Z7 n (ok=false) (Z7 (decide (e<0)) (ok=false) (Z7 (decide (e>1125899906842624)) (ok=false) (ok=true))))))))))))) b)) b)) b)) b) (by kernel_rfl) ?_
 conv=>zeta
 try simp only [vcA]
 try simp only [vcB]
 try simp only [vcC]
 obtain ⟨h0,h1,h2,h3,h4,h5,h6,h7,h8,hb⟩:=hl
 simp only [h0,h1,h2,h3,h4,h5,h6,h7,h8,and_self,decide_true,true_and,forall_const,Ja,Ju,decide_eq_true_eq,decide_eq_false_iff_not,JM,JN,reduceCtorEq,false_implies,and_true]
 cases ok with
 | true=>
  obtain ⟨⟨w0,w1,w2,w3,w4,w5,w6,w7,w8,w9⟩,hr,hk⟩:=hok.1 rfl
  have hk':=hk
  simp only [kindOk] at hk
  repeat' first
   | trivial
   | apply Jt
   | intro
  all_goals first
   | omega
   | (exfalso;omega)
   | (rename_i hq;exact absurd (hr.symm.trans hq) (by decide))
   | (rename_i hq _;exact absurd (hr.symm.trans hq) (by decide))
   | (rename_i hq _ _;exact absurd (hr.symm.trans hq) (by decide))
 | false=>
  have hn:¬ZA s 9:=fun h=>absurd (hok.2 h) (by decide)
  repeat' first
   | trivial
   | apply Jt
   | intro
  all_goals first
   | exact absurd (ZA.mk ⟨by omega,by omega,by omega,by omega,by omega,by omega,by omega,by omega,by omega,by omega⟩ (by assumption) (by simp only [kindOk]<;>omega)) hn
   | exact absurd (ZA.mk ⟨by omega,by omega,by omega,by omega,by omega,by omega,by omega,by omega,by omega,by omega⟩ (by assumption) trivial) hn
theorem ZeX (s:Zm) (ok:Bool) (hl:s.Len) (hok:ok=true↔ZA s 10):
  evF Qa 40 35 [.agg (.int .i64 10::s.r)] ⟨0,[]⟩ (chK ok):=by
 refine @Eq.mpr _ (let f:=s.id;let a:=s.t;let m:=a.fund;let l:=decide (m.length=32/\(32:Nat)=32);let k:=a.k0;let j:=decide (k.length=32/\(32:Nat)=32);let i:=a.k1;let h:=decide (i.length=32/\(32:Nat)=32);let g:=decide (s.point.length=32/\(32:Nat)=32);let q:=decide (s.key.length=32/\(32:Nat)=32);let p:=decide (s.hash.length=32/\(32:Nat)=32);let o:=decide (s.tag.length=32/\(32:Nat)=32);let e:=s.amount;let d:=s.index;let c:=s.expiry;let n:= !(true&&(m==Z0&&(a.index==0&&(a.cap==0&&(a.dust==0&&(a.fee==0&&(a.delay==0&&(k==Z0&&i==Z0))))))&&(s.reserve==0&&(e==0&&(s.point==Z0&&(true&&(s.key==Z0&&(s.hash==Z0&&(s.tag==Z0&&(true&&(f==0&&(true&&(d==0&&(c==0&&(s.code==0&&ByteArray.toList s.route==ByteArray.toList ByteArray.empty)))))))))))))));let b:=Z5 l (Z5 j (Z5 h (Z5 g (Z5 q (Z5 p (Z5 o (Z7 n (ok=false) (ok=false))))))));
 Z7 (decide (0<=f)) (Z7 (!decide (f<=2147483647)) b (Z7 (decide (0<=s.number)) (Z7 (!decide (s.number<=2147483647)) b (Z7 (decide (0<=d)) (Z7 (!decide (d<=2147483647)) b (Z7 (decide (0<=c)) (Z7 (!decide (c<=2147483647)) b (Z5 l (Z5 j (Z5 h (Z5 g (Z5 q (Z5 p (Z5 o (Z7 n (ok=false) (Z7 (decide (e<0)) (ok=false) (Z7 (decide (e>1125899906842624)) (ok=false) (ok=true)))))))))))) b)) b)) b)) b) (by kernel_rfl) ?_
 conv=>zeta
 try simp only [vcA]
 try simp only [vcB]
 try simp only [vcC]
 obtain ⟨h0,h1,h2,h3,h4,h5,h6,h7,h8,hb⟩:=hl
 simp only [h0,h1,h2,h3,h4,h5,h6,h7,h8,and_self,decide_true,true_and,forall_const,Ja,Ju,decide_eq_true_eq,decide_eq_false_iff_not,JM,JN,reduceCtorEq,false_implies,and_true]
 cases ok with
 | true=>
  obtain ⟨⟨w0,w1,w2,w3,w4,w5,w6,w7,w8,w9⟩,hr,hk⟩:=hok.1 rfl
  have hk':=hk
  simp only [kindOk] at hk
  repeat' first
   | trivial
   | apply Jt
   | intro
  all_goals first
   | omega
   | (exfalso;omega)
   | (rename_i hq;exact absurd (hr.symm.trans hq) (by decide))
   | (rename_i hq _;exact absurd (hr.symm.trans hq) (by decide))
   | (rename_i hq _ _;exact absurd (hr.symm.trans hq) (by decide))
 | false=>
  have hn:¬ZA s 10:=fun h=>absurd (hok.2 h) (by decide)
  repeat' first
   | trivial
   | apply Jt
   | intro
  all_goals first
   | exact absurd (ZA.mk ⟨by omega,by omega,by omega,by omega,by omega,by omega,by omega,by omega,by omega,by omega⟩ (by assumption) (by simp only [kindOk]<;>omega)) hn
   | exact absurd (ZA.mk ⟨by omega,by omega,by omega,by omega,by omega,by omega,by omega,by omega,by omega,by omega⟩ (by assumption) trivial) hn
theorem ZeY (s:Zm) (ok:Bool) (hl:s.Len) (hok:ok=true↔ZA s 11):
  evF Qa 40 35 [.agg (.int .i64 11::s.r)] ⟨0,[]⟩ (chK ok):=by
 refine @Eq.mpr _ (let b:=s.t;let m:=b.fund;let l:=decide (m.length=32/\(32:Nat)=32);let k:=b.k0;let j:=decide (k.length=32/\(32:Nat)=32);let i:=b.k1;let h:=decide (i.length=32/\(32:Nat)=32);let g:=decide (s.point.length=32/\(32:Nat)=32);let f:=decide (s.nxt.length=32/\(32:Nat)=32);let r:=decide (s.key.length=32/\(32:Nat)=32);let q:=decide (s.hash.length=32/\(32:Nat)=32);let p:=decide (s.tag.length=32/\(32:Nat)=32);let o:=decide (s.secret.length=32/\(32:Nat)=32);let e:=s.amount;let d:=s.index;let c:=s.expiry;let n:= !(true&&(m==Z0&&(b.index==0&&(b.cap==0&&(b.dust==0&&(b.fee==0&&(b.delay==0&&(k==Z0&&i==Z0))))))&&(s.reserve==0&&(e==0&&(s.point==Z0&&(s.nxt==Z0&&(s.key==Z0&&(s.hash==Z0&&(s.tag==Z0&&(s.secret==Z0&&(true&&(true&&(d==0&&(c==0&&(s.code==0&&ByteArray.toList s.route==ByteArray.toList ByteArray.empty)))))))))))))));let a:=Z5 l (Z5 j (Z5 h (Z5 g (Z5 f (Z5 r (Z5 q (Z5 p (Z5 o (Z7 n (ok=false) (ok=false))))))))));
 Z7 (decide (0<=s.id)) (Z7 (!decide (s.id<=2147483647)) a (Z7 (decide (0<=s.number)) (Z7 (!decide (s.number<=2147483647)) a (Z7 (decide (0<=d)) (Z7 (!decide (d<=2147483647)) a (Z7 (decide (0<=c)) (Z7 (!decide (c<=2147483647)) a (Z5 l (Z5 j (Z5 h (Z5 g (Z5 f (Z5 r (Z5 q (Z5 p (Z5 o (Z7 n (ok=false) (Z7 (decide (e<0)) (ok=false) (Z7 (decide (e>1125899906842624)) (ok=false) (ok=true)))))))))))))) a)) a)) a)) a) (by kernel_rfl) ?_
 conv=>zeta
 try simp only [vcA]
 try simp only [vcB]
 try simp only [vcC]
 obtain ⟨h0,h1,h2,h3,h4,h5,h6,h7,h8,hb⟩:=hl
 simp only [h0,h1,h2,h3,h4,h5,h6,h7,h8,and_self,decide_true,true_and,forall_const,Ja,Ju,decide_eq_true_eq,decide_eq_false_iff_not,JM,JN,reduceCtorEq,false_implies,and_true]
 cases ok with
 | true=>
  obtain ⟨⟨w0,w1,w2,w3,w4,w5,w6,w7,w8,w9⟩,hr,hk⟩:=hok.1 rfl
  have hk':=hk
  simp only [kindOk] at hk
  repeat' first
   | trivial
   | apply Jt
   | intro
  all_goals first
   | omega
   | (exfalso;omega)
   | (rename_i hq;exact absurd (hr.symm.trans hq) (by decide))
   | (rename_i hq _;exact absurd (hr.symm.trans hq) (by decide))
   | (rename_i hq _ _;exact absurd (hr.symm.trans hq) (by decide))
 | false=>
  have hn:¬ZA s 11:=fun h=>absurd (hok.2 h) (by decide)
  repeat' first
   | trivial
   | apply Jt
   | intro
  all_goals first
   | exact absurd (ZA.mk ⟨by omega,by omega,by omega,by omega,by omega,by omega,by omega,by omega,by omega,by omega⟩ (by assumption) (by simp only [kindOk]<;>omega)) hn
   | exact absurd (ZA.mk ⟨by omega,by omega,by omega,by omega,by omega,by omega,by omega,by omega,by omega,by omega⟩ (by assumption) trivial) hn
theorem ZeZ (s:Zm) (ok:Bool) (hl:s.Len) (hok:ok=true↔ZA s 12):
  evF Qa 40 35 [.agg (.int .i64 12::s.r)] ⟨0,[]⟩ (chK ok):=by
 refine @Eq.mpr _ (let g:=s.id;let b:=s.t;let n:=b.fund;let m:=decide (n.length=32/\(32:Nat)=32);let l:=b.k0;let k:=decide (l.length=32/\(32:Nat)=32);let j:=b.k1;let i:=decide (j.length=32/\(32:Nat)=32);let h:=decide (s.point.length=32/\(32:Nat)=32);let v:=decide (s.nxt.length=32/\(32:Nat)=32);let u:=decide (s.key.length=32/\(32:Nat)=32);let r:=decide (s.hash.length=32/\(32:Nat)=32);let q:=decide (s.tag.length=32/\(32:Nat)=32);let p:=decide (s.secret.length=32/\(32:Nat)=32);let f:=s.amount;let e:=s.number;let d:=s.index;let c:=s.expiry;let o:= !(true&&(n==Z0&&(b.index==0&&(b.cap==0&&(b.dust==0&&(b.fee==0&&(b.delay==0&&(l==Z0&&j==Z0))))))&&(s.reserve==0&&(f==0&&(s.point==Z0&&(s.nxt==Z0&&(s.key==Z0&&(s.hash==Z0&&(s.tag==Z0&&(s.secret==Z0&&(g==0&&(e==0&&(d==0&&(c==0&&(s.code==0&&ByteArray.toList s.route==ByteArray.toList ByteArray.empty)))))))))))))));let a:=Z5 m (Z5 k (Z5 i (Z5 h (Z5 v (Z5 u (Z5 r (Z5 q (Z5 p (Z7 o (ok=false) (ok=false))))))))));
 Z7 (decide (0<=g)) (Z7 (!decide (g<=2147483647)) a (Z7 (decide (0<=e)) (Z7 (!decide (e<=2147483647)) a (Z7 (decide (0<=d)) (Z7 (!decide (d<=2147483647)) a (Z7 (decide (0<=c)) (Z7 (!decide (c<=2147483647)) a (Z5 m (Z5 k (Z5 i (Z5 h (Z5 v (Z5 u (Z5 r (Z5 q (Z5 p (Z7 o (ok=false) (Z7 (decide (f<0)) (ok=false) (Z7 (decide (f>1125899906842624)) (ok=false) (ok=true)))))))))))))) a)) a)) a)) a) (by kernel_rfl) ?_
 conv=>zeta
 try simp only [vcA]
 try simp only [vcB]
 try simp only [vcC]
 obtain ⟨h0,h1,h2,h3,h4,h5,h6,h7,h8,hb⟩:=hl
 simp only [h0,h1,h2,h3,h4,h5,h6,h7,h8,and_self,decide_true,true_and,forall_const,Ja,Ju,decide_eq_true_eq,decide_eq_false_iff_not,JM,JN,reduceCtorEq,false_implies,and_true]
 cases ok with
 | true=>
  obtain ⟨⟨w0,w1,w2,w3,w4,w5,w6,w7,w8,w9⟩,hr,hk⟩:=hok.1 rfl
  have hk':=hk
  simp only [kindOk] at hk
  repeat' first
   | trivial
   | apply Jt
   | intro
  all_goals first
   | omega
   | (exfalso;omega)
   | (rename_i hq;exact absurd (hr.symm.trans hq) (by decide))
   | (rename_i hq _;exact absurd (hr.symm.trans hq) (by decide))
   | (rename_i hq _ _;exact absurd (hr.symm.trans hq) (by decide))
 | false=>
  have hn:¬ZA s 12:=fun h=>absurd (hok.2 h) (by decide)
  repeat' first
   | trivial
   | apply Jt
   | intro
  all_goals first
   | exact absurd (ZA.mk ⟨by omega,by omega,by omega,by omega,by omega,by omega,by omega,by omega,by omega,by omega⟩ (by assumption) (by simp only [kindOk]<;>omega)) hn
   | exact absurd (ZA.mk ⟨by omega,by omega,by omega,by omega,by omega,by omega,by omega,by omega,by omega,by omega⟩ (by assumption) trivial) hn
theorem ZgZ (s:Zm) (ok:Bool) (hl:s.Len) (hok:ok=true↔ZA s 13):
  evF Qa 40 35 [.agg (.int .i64 13::s.r)] ⟨0,[]⟩ (chK ok):=by
 refine @Eq.mpr _ (let f:=s.id;let a:=s.t;let m:=a.fund;let l:=decide (m.length=32/\(32:Nat)=32);let k:=a.k0;let j:=decide (k.length=32/\(32:Nat)=32);let i:=a.k1;let h:=decide (i.length=32/\(32:Nat)=32);let g:=decide (s.point.length=32/\(32:Nat)=32);let r:=decide (s.nxt.length=32/\(32:Nat)=32);let q:=decide (s.key.length=32/\(32:Nat)=32);let p:=decide (s.hash.length=32/\(32:Nat)=32);let o:=decide (s.secret.length=32/\(32:Nat)=32);let e:=s.number;let d:=s.index;let c:=s.expiry;let n:= !(true&&(m==Z0&&(a.index==0&&(a.cap==0&&(a.dust==0&&(a.fee==0&&(a.delay==0&&(k==Z0&&i==Z0))))))&&(s.reserve==0&&(true&&(s.point==Z0&&(s.nxt==Z0&&(s.key==Z0&&(s.hash==Z0&&(true&&(s.secret==Z0&&(f==0&&(e==0&&(d==0&&(c==0&&(s.code==0&&ByteArray.toList s.route==ByteArray.toList ByteArray.empty)))))))))))))));let b:=Z5 l (Z5 j (Z5 h (Z5 g (Z5 r (Z5 q (Z5 p (Z5 o (Z7 n (ok=false) (ok=false)))))))));
 Z7 (decide (0<=f)) (Z7 (!decide (f<=2147483647)) b (Z7 (decide (0<=e)) (Z7 (!decide (e<=2147483647)) b (Z7 (decide (0<=d)) (Z7 (!decide (d<=2147483647)) b (Z7 (decide (0<=c)) (Z7 (!decide (c<=2147483647)) b (Z5 l (Z5 j (Z5 h (Z5 g (Z5 r (Z5 q (Z5 p (Z5 o (Z7 n (ok=false) (Z7 (decide (s.amount<0)) (ok=false) (Z7 (decide (s.amount>1125899906842624)) (ok=false) (ok=true))))))))))))) b)) b)) b)) b) (by kernel_rfl) ?_
 conv=>zeta
 try simp only [vcA]
 try simp only [vcB]
 try simp only [vcC]
 obtain ⟨h0,h1,h2,h3,h4,h5,h6,h7,h8,hb⟩:=hl
 simp only [h0,h1,h2,h3,h4,h5,h6,h7,h8,and_self,decide_true,true_and,forall_const,Ja,Ju,decide_eq_true_eq,decide_eq_false_iff_not,JM,JN,reduceCtorEq,false_implies,and_true]
 cases ok with
 | true=>
  obtain ⟨⟨w0,w1,w2,w3,w4,w5,w6,w7,w8,w9⟩,hr,hk⟩:=hok.1 rfl
  have hk':=hk
  simp only [kindOk] at hk
  repeat' first
   | trivial
   | apply Jt
   | intro
  all_goals first
   | omega
   | (exfalso;omega)
   | (rename_i hq;exact absurd (hr.symm.trans hq) (by decide))
   | (rename_i hq _;exact absurd (hr.symm.trans hq) (by decide))
   | (rename_i hq _ _;exact absurd (hr.symm.trans hq) (by decide))
 | false=>
  have hn:¬ZA s 13:=fun h=>absurd (hok.2 h) (by decide)
  repeat' first
   | trivial
   | apply Jt
   | intro
  all_goals first
   | exact absurd (ZA.mk ⟨by omega,by omega,by omega,by omega,by omega,by omega,by omega,by omega,by omega,by omega⟩ (by assumption) (by simp only [kindOk]<;>omega)) hn
   | exact absurd (ZA.mk ⟨by omega,by omega,by omega,by omega,by omega,by omega,by omega,by omega,by omega,by omega⟩ (by assumption) trivial) hn
theorem Zh0 (s:Zm) (ok:Bool) (hl:s.Len) (hok:ok=true↔ZA s 14):
  evF Qa 40 35 [.agg (.int .i64 14::s.r)] ⟨0,[]⟩ (chK ok):=by
 refine @Eq.mpr _ (let g:=s.id;let b:=s.t;let n:=b.fund;let m:=decide (n.length=32/\(32:Nat)=32);let l:=b.k0;let k:=decide (l.length=32/\(32:Nat)=32);let j:=b.k1;let i:=decide (j.length=32/\(32:Nat)=32);let h:=decide (s.point.length=32/\(32:Nat)=32);let v:=decide (s.nxt.length=32/\(32:Nat)=32);let u:=decide (s.key.length=32/\(32:Nat)=32);let r:=decide (s.hash.length=32/\(32:Nat)=32);let q:=decide (s.tag.length=32/\(32:Nat)=32);let p:=decide (s.secret.length=32/\(32:Nat)=32);let f:=s.amount;let e:=s.number;let d:=s.index;let c:=s.expiry;let o:= !(true&&(n==Z0&&(b.index==0&&(b.cap==0&&(b.dust==0&&(b.fee==0&&(b.delay==0&&(l==Z0&&j==Z0))))))&&(s.reserve==0&&(f==0&&(s.point==Z0&&(s.nxt==Z0&&(s.key==Z0&&(s.hash==Z0&&(s.tag==Z0&&(s.secret==Z0&&(g==0&&(e==0&&(d==0&&(c==0&&(true&&ByteArray.toList s.route==ByteArray.toList ByteArray.empty)))))))))))))));let a:=Z5 m (Z5 k (Z5 i (Z5 h (Z5 v (Z5 u (Z5 r (Z5 q (Z5 p (Z7 o (ok=false) (ok=false))))))))));
 Z7 (decide (0<=g)) (Z7 (!decide (g<=2147483647)) a (Z7 (decide (0<=e)) (Z7 (!decide (e<=2147483647)) a (Z7 (decide (0<=d)) (Z7 (!decide (d<=2147483647)) a (Z7 (decide (0<=c)) (Z7 (!decide (c<=2147483647)) a (Z5 m (Z5 k (Z5 i (Z5 h (Z5 v (Z5 u (Z5 r (Z5 q (Z5 p (Z7 o (ok=false) (Z7 (decide (f<0)) (ok=false) (Z7 (decide (f>1125899906842624)) (ok=false) (Z7 (decide (1<=s.code)) (Z7 (!decide (s.code<=999)) (ok=false) (ok=true)) (ok=false))))))))))))))) a)) a)) a)) a) (by kernel_rfl) ?_
 conv=>zeta
 try simp only [vcA]
 try simp only [vcB]
 try simp only [vcC]
 obtain ⟨h0,h1,h2,h3,h4,h5,h6,h7,h8,hb⟩:=hl
 simp only [h0,h1,h2,h3,h4,h5,h6,h7,h8,and_self,decide_true,true_and,forall_const,Ja,Ju,decide_eq_true_eq,decide_eq_false_iff_not,JM,JN,reduceCtorEq,false_implies,and_true]
 cases ok with
 | true=>
  obtain ⟨⟨w0,w1,w2,w3,w4,w5,w6,w7,w8,w9⟩,hr,hk⟩:=hok.1 rfl
  have hk':=hk
  simp only [kindOk] at hk
  repeat' first
   | trivial
   | apply Jt
   | intro
  all_goals first
   | omega
   | (exfalso;omega)
   | (rename_i hq;exact absurd (hr.symm.trans hq) (by decide))
   | (rename_i hq _;exact absurd (hr.symm.trans hq) (by decide))
   | (rename_i hq _ _;exact absurd (hr.symm.trans hq) (by decide))
 | false=>
  have hn:¬ZA s 14:=fun h=>absurd (hok.2 h) (by decide)
  repeat' first
   | trivial
   | apply Jt
   | intro
  all_goals first
   | exact absurd (ZA.mk ⟨by omega,by omega,by omega,by omega,by omega,by omega,by omega,by omega,by omega,by omega⟩ (by assumption) (by simp only [kindOk]<;>omega)) hn
   | exact absurd (ZA.mk ⟨by omega,by omega,by omega,by omega,by omega,by omega,by omega,by omega,by omega,by omega⟩ (by assumption) trivial) hn
def noQ:Yb:=fun _ _ _=>False
theorem Z6P {f:FuncId} (args:List AV) (h:Z9) (K:KO) (hl:noQ args h K):Zh PP f args h K:=hl.elim
noncomputable def Zh1:Zf:=((G0.withF 227 noQ).withF 230 noQ).withF 235 noQ
theorem ZhQ (s:Zm) (k:Int) (hl:s.Len) (hk:k<1\/14<k):
  evF Zh1 40 35 [.agg (.int .i64 k::s.r)] ⟨0,[]⟩ (chK false):=by
 refine @Eq.mpr _ (let f:=s.id;let b:=s.t;let w:=b.fund;let l:=decide (w.length=32/\(32:Nat)=32);let v:=b.k0;let j:=decide (v.length=32/\(32:Nat)=32);let u:=b.k1;let i:=decide (u.length=32/\(32:Nat)=32);let h:=decide (s.point.length=32/\(32:Nat)=32);let r:=decide (s.nxt.length=32/\(32:Nat)=32);let q:=decide (s.key.length=32/\(32:Nat)=32);let p:=decide (s.hash.length=32/\(32:Nat)=32);let o:=decide (s.tag.length=32/\(32:Nat)=32);let n:=decide (s.secret.length=32/\(32:Nat)=32);let g:=s.amount;let e:=s.number;let d:=s.index;let c:=s.expiry;let m:= !(k==k&&(w==Z0&&(b.index==0&&(b.cap==0&&(b.dust==0&&(b.fee==0&&(b.delay==0&&(v==Z0&&u==Z0))))))&&(s.reserve==0&&(g==0&&(s.point==Z0&&(s.nxt==Z0&&(s.key==Z0&&(s.hash==Z0&&(s.tag==Z0&&(s.secret==Z0&&(f==0&&(e==0&&(d==0&&(c==0&&(s.code==0&&ByteArray.toList s.route==ByteArray.toList ByteArray.empty)))))))))))))));let a:=Z5 l (Z5 j (Z5 i (Z5 h (Z5 r (Z5 q (Z5 p (Z5 o (Z5 n (Z7 m (false=false) (false=false))))))))));
 Z6 (k=k) (Z7 (decide (k=1)) False (Z7 (decide (k=2)) False (Z7 (decide (k=3)) False (Z7 (decide (k=4)) False (Z7 (decide (k=5)) (Z7 (decide (0<=f)) (Z7 (!decide (f<=2147483647)) a (Z7 (decide (0<=e)) (Z7 (!decide (e<=2147483647)) a (Z7 (decide (0<=d)) (Z7 (!decide (d<=2147483647)) a (Z7 (decide (0<=c)) (Z7 (!decide (c<=2147483647)) a (Z5 l (Z5 j (Z5 i (Z5 h (Z5 r (Z5 q (Z5 p (Z5 o (Z5 n (Z7 m (false=false) (Z7 (decide (g<0)) (false=false) (Z7 (decide (g>1125899906842624)) (false=false) (false=true)))))))))))))) a)) a)) a)) a) (Z7 (decide (k=6)) False (Z7 (decide (k=7)) False (Z7 (decide (k=8)) False (Z7 (decide (k=9)) False (Z7 (decide (k=10)) False (Z7 (decide (k=11)) False (Z7 (decide (k=12)) (Z7 (decide (0<=f)) (Z7 (!decide (f<=2147483647)) a (Z7 (decide (0<=e)) (Z7 (!decide (e<=2147483647)) a (Z7 (decide (0<=d)) (Z7 (!decide (d<=2147483647)) a (Z7 (decide (0<=c)) (Z7 (!decide (c<=2147483647)) a (Z5 l (Z5 j (Z5 i (Z5 h (Z5 r (Z5 q (Z5 p (Z5 o (Z5 n (Z7 m (false=false) (Z7 (decide (g<0)) (false=false) (Z7 (decide (g>1125899906842624)) (false=false) (false=true)))))))))))))) a)) a)) a)) a) (Z7 (decide (k=13)) False (Z7 (decide (k=14)) False (Z7 (decide (0<=f)) (Z7 (!decide (f<=2147483647)) (false=false) (Z7 (decide (0<=e)) (Z7 (!decide (e<=2147483647)) (false=false) (Z7 (decide (0<=d)) (Z7 (!decide (d<=2147483647)) (false=false) (Z7 (decide (0<=c)) (Z7 (!decide (c<=2147483647)) (false=false) (false=false)) (false=false))) (false=false))) (false=false))) (false=false))))))))))))))))) (by kernel_rfl) ?_
 conv=>zeta
 try simp only [vcA]
 try simp only [vcB]
 try simp only [vcC]
 obtain ⟨h0,h1,h2,h3,h4,h5,h6,h7,h8,hb⟩:=hl
 simp only [h0,h1,h2,h3,h4,h5,h6,h7,h8,and_self,decide_true,true_and,forall_const,Ja,Ju,decide_eq_true_eq,decide_eq_false_iff_not,JM,JN,reduceCtorEq,false_implies,and_true]
 repeat' first
  | trivial
  | apply Jt
  | intro
 all_goals first
  | omega
  | (exfalso;omega)
theorem Zh.k {P:Program} {f:FuncId} {args:List AV} {h:Z9} {K K':KO} (hc:Zh P f args h K) (hk:∀o h,K o h->K' o h):Zh P f args h K':=fun E w rs he hl=>
 (hc E w rs he hl).mono (by
  rintro e w' ⟨E1,o,h',h1,h2,h3⟩
  exact ⟨E1,o,h',hk _ _ h1,h2,h3⟩)
theorem Zh2 {ok:Bool} {o:Out} {h:Z9} (hk:chK ok o h):Us (fun v=>v=.int .i64 (if ok=true then 0 else 2)) o h:=by
 unfold chK at hk
 split at hk
 ·subst hk;rfl
 ·subst hk;rfl
 ·exact hk.elim
theorem YU:Qa.Ok:=Zf.withP_ok Zu QC
theorem ZcW:Zh1.Ok:=Zf.withF_ok (Zf.withF_ok (Zf.withF_ok Zu (Z6P (f:=227))) (Z6P (f:=230))) (Z6P (f:=235))
theorem Z6Q {s:Zm} {k:Int} (hk:k<1\/14<k):¬ZA s k:=fun h=>by
 have hq:=h.k
 unfold kindOk at hq
 split at hq<;>first|omega|exact hq
theorem Zh3 {s:Zm} (hs:s.Len) {ok:Bool} (hok:ok=true↔ZA s s.kind):Zh PP 35 [.agg s.c] ⟨0,[]⟩ (chK ok):=by
 unfold Zm.c
 have h15:s.kind=1\/s.kind=2\/s.kind=3\/s.kind=4\/s.kind=5\/s.kind=6\/s.kind=7\/s.kind=8\/s.kind=9\/s.kind=10\/s.kind=11\/s.kind=12\/s.kind=13\/s.kind=14\/(s.kind<1\/14<s.kind):=by omega
 rcases h15 with h|h|h|h|h|h|h|h|h|h|h|h|h|h|h
 ·rw [h] at hok⊢;exact Yw YU (ZgQ s ok hs hok)
 ·rw [h] at hok⊢;exact Yw YU (ZgR s ok hs hok)
 ·rw [h] at hok⊢;exact Yw YU (ZgS s ok hs hok)
 ·rw [h] at hok⊢;exact Yw YU (ZgT s ok hs hok)
 ·rw [h] at hok⊢;exact Yw YU (ZgU s ok hs hok)
 ·rw [h] at hok⊢;exact Yw YU (ZgV s ok hs hok)
 ·rw [h] at hok⊢;exact Yw YU (ZgW s ok hs hok)
 ·rw [h] at hok⊢;exact Yw YU (ZgX s ok hs hok)
 ·rw [h] at hok⊢;exact Yw YU (ZgY s ok hs hok)
 ·rw [h] at hok⊢;exact Yw YU (ZeX s ok hs hok)
 ·rw [h] at hok⊢;exact Yw YU (ZeY s ok hs hok)
 ·rw [h] at hok⊢;exact Yw YU (ZeZ s ok hs hok)
 ·rw [h] at hok⊢;exact Yw YU (ZgZ s ok hs hok)
 ·rw [h] at hok⊢;exact Yw YU (Zh0 s ok hs hok)
 ·have e:ok=false:=Bool.eq_false_iff.2 fun e=>Z6Q h (hok.1 e)
  subst e
  exact Yw ZcW (ZhQ s s.kind hs h)
theorem Z6R (args:List AV) (h:Z9) (K:AV->Prop) (hl:ZcO X5 args h K):Zh PP 35 args h fun o h'=>∃v,o=.ret v/\h'=h/\K v:=by
 unfold ZcO at hl
 split at hl
 ·obtain ⟨s,⟨rfl⟩,hs,h1,h0⟩:=hl
  refine Z29 rfl ((Zh3 hs U3).k fun o h hk=>Zh2 hk) fun u hu=> ?_
  subst hu
  cases hq:X5 s with
  | true=>exact h1 hq
  | false=>exact h0 hq
 ·exact hl.elim
def ZaU (SB:Zm->Bool) (M:Int->Int->Int) (Tg:LI->TxS->LI):Yb:=fun args h K=>match args with
 | [.ptr (some ⟨x,0,0,0,0⟩),_]=>frA [x] h 60 args fun Bs a=>match Bs,a with
  | [.flat cs],[.ptr (some ⟨0,0,0,0,0⟩),.agg ss]=>∃k s,XP cs k/\QG ss s/\(XO k/\k.t.All)/\s.Len/\
   ∀r,r=Yl SB M Tg k s->K (.ret (.tuple [.agg (sdC r.kd r.am r.tg),.bool r.sy,.int .i64 r.e])) ⟨h.next,(x,.flat (clT k k.side r.of r.la r.ag r.fe))::Yu h.bs x⟩
  | _,_=>False
 | _=>False
theorem Z4n {s:Zm} (h:X5 s=true):0<=s.amount/\s.amount<=1125899906842624:=by
 have:=(U3.1 h).w
 exact ⟨this.i,this.j⟩
theorem ZaV (args:List AV) (h:Z9) (K:KO) (hl:ZaU X5 Y9 Zl args h K):Zh PP 13 args h K:=by
 unfold ZaU at hl
 split at hl
 ·refine Spec.fsumm hl fun Bs a hlen hK0=> ?_
  split at hK0
  ·obtain ⟨k,s,⟨rfl⟩,⟨rfl⟩,⟨hk,ht⟩,hs,hK⟩:=hK0
   exact ⟨_,_,_,_,_,Z0f Z6R hk ht hs Z4n rfl,by simp,.ret _ _ rfl,.cons _ _ _ _ _ _ rfl (.flat _ _ rfl) .nil,hK _ rfl⟩
  ·exact hK0.elim
 ·exact hl.elim
def Zdw (n:Int):LI:=n::List.replicate 31 0
def Z2x:Zi:=⟨Z0,0,1000,10,5,3,Zdw 1,Zdw 2⟩
def Zh4 (A:LI->Int×Int):Yb:=fun args h K=>ZD none h true 40 args fun x=>match x with
 | [.agg cs,.int .i64 sd,.agg [.arr .i64 2 ab],.int .i64 lo,.int .i64 hi]=>∃t a b,Z4m cs t/\ab=[a,b]/\t.Ok/\(match decide (lo<=hi) with
  | true=>Yt A (k0C t sd a b lo hi)=true/\K (.ret (.tuple [.ptr (some ⟨h.next,0,0,0,0⟩),.int .i64 0])) ⟨h.next+1,(h.next,.flat (clT (k0C t sd a b lo hi) sd false 0 false 0))::h.bs⟩
  | false=>Yt A (k0C t sd a b lo hi)=false/\K (.ret (.tuple [.ptr none,.int .i64 2])) h)
 | _=>False
theorem ZcX (args:List AV) (h:Z9) (K:KO) (hl:Zh4 ZB args h K):Zh PP 9 args h K:=Z5o args h K (Zk _ _ _ _ _ hl fun a ha=>by
 split at ha
 ·obtain ⟨t,a,b,h1,h2,h3,hm⟩:=ha
  refine ⟨t,a,b,h1,h2,h3,fun hq=> ?_,fun hq=> ?_⟩
  ·split at hm
   ·exact hm.2
   ·exact absurd (hq.symm.trans hm.1) (by decide)
  ·split at hm
   ·exact absurd (hq.symm.trans hm.1) (by decide)
   ·exact hm.2
 ·exact ha.elim)
def Zf0 (Tg:LI->TxS->LI):Yb:=fun args h K=>match args with
 | [.ptr (some ⟨x,0,0,0,0⟩)]=>frA [x] h 40 args fun Bs a=>match Bs,a with
  | [.flat cs],[.ptr (some ⟨0,0,0,0,0⟩)]=>∃k,XP cs k/\XQ k/\k.agrees=false/\(match ZcU cs 8,ZcU cs 12 with
   | .int .i64 0,.bool false=>ZG k.t k.a0 k.a1 k.least=0/\K (.ret (.tuple [.agg (sdC 13 k.least (Yh Tg k k.least k.side)),.int .i64 0])) ⟨h.next,(x,.flat (ZgM cs k.least))::Yu h.bs x⟩
   | .int .i64 _,.bool _=>(k.side≠0\/k.offers=true)/\K (.ret (.tuple [.agg (sdC 0 0 Z0),.int .i64 251])) ⟨h.next,(x,.flat cs)::Yu h.bs x⟩
   | _,_=>False)
  | _,_=>False
 | _=>False
theorem ZcY (args:List AV) (h:Z9) (K:KO) (hl:Zf0 Zl args h K):Zh PP 12 args h K:=by
 have hE:=Zf.withF_ok (f:=32) Zu Z4i
 unfold Zf0 at hl
 split at hl
 ·refine Spec.fsumm hl fun Bs a hlen hK0=> ?_
  split at hK0
  ·obtain ⟨k,⟨rfl⟩,hk,hg,hm⟩:=hK0
   obtain ⟨t,sd,a0,a1,le,mo,o0,l0,g0,f0⟩:=k
   have hg:g0=false:=hg
   subst hg
   split at hm
   ·rename_i h8 h12
    obtain ⟨hE0,hK⟩:=hm
    have e1:sd=0:=by cases h8;rfl
    have e2:o0=false:=by cases h12;rfl
    subst e1 e2
    exact ⟨_,_,_,_,_,.evM hE (ZeU Zl ⟨t,0,a0,a1,le,mo,false,l0,false,f0⟩ _ _ _ _ _ _ _ _ _ hk (Z6O rfl (by simp) hE0)),by simp,.ret _ _ rfl,.cons _ _ _ _ _ _ rfl (.flat _ _ rfl) .nil,hK⟩
   ·obtain ⟨hso,hK⟩:=hm
    exact ⟨_,_,_,_,_,.evM hE (ZeU Zl ⟨t,sd,a0,a1,le,mo,o0,l0,false,f0⟩ _ _ _ _ _ _ _ _ _ hk (Z6M rfl hso)),by simp,.ret _ _ rfl,.cons _ _ _ _ _ _ rfl (.flat _ _ rfl) .nil,hK⟩
   ·exact hm.elim
  ·exact hK0.elim
 ·exact hl.elim
def ZaW (SB:Zm->Bool) (Tg:LI->TxS->LI):Yb:=fun args h K=>match args with
 | [.ptr (some ⟨x,0,0,0,0⟩),_]=>frA [x] h 60 args fun Bs a=>match Bs,a with
  | [.flat cs],[.ptr (some ⟨0,0,0,0,0⟩),.agg ss]=>∃k s,XP cs k/\QG ss s/\(XO k/\k.t.All/\k.agrees=false)/\(s.Len/\SB s=true)/\(match ZcU ss 0 with
   | .int .i64 12=>K (.ret (.tuple [.agg (sdC 0 0 Z0),.bool false,.int .i64 210])) ⟨h.next,(x,.flat cs)::Yu h.bs x⟩
   | .int .i64 13=>(ZG k.t k.a0 k.a1 s.amount=0/\Yh Tg k s.amount (1-k.side)≠s.tag)/\K (.ret (.tuple [.agg (sdC 0 0 Z0),.bool false,.int .i64 221])) ⟨h.next,(x,.flat cs)::Yu h.bs x⟩
   | _=>False)
  | _,_=>False
 | _=>False
theorem ZaX (args:List AV) (h:Z9) (K:KO) (hl:ZaW X5 Zl args h K):Zh PP 13 args h K:=by
 unfold ZaW at hl
 split at hl
 ·refine Spec.fsumm hl fun Bs a hlen hK0=> ?_
  split at hK0
  ·obtain ⟨k,s,⟨rfl⟩,⟨rfl⟩,⟨hk,ht,hg⟩,⟨hs,hS⟩,hm⟩:=hK0
   split at hm
   ·rename_i h0
    have e:s.kind=12:=by
     have h:AV.int .i64 s.kind=AV.int .i64 12:=h0
     injection h
    exact ⟨_,_,_,_,_,Z0f Z6R hk ht hs Z4n (Z0Z hS (by rw [e];decide)),by simp,.ret _ _ rfl,.cons _ _ _ _ _ _ rfl (.flat _ _ rfl) .nil,hm⟩
   ·rename_i h0
    have e:s.kind=13:=by
     have h:AV.int .i64 s.kind=AV.int .i64 13:=h0
     injection h
    exact ⟨_,_,_,_,_,Z0f Z6R hk ht hs Z4n (Z4k ⟨hS,e,hg⟩ hm.1.1 hm.1.2),by simp,.ret _ _ rfl,.cons _ _ _ _ _ _ rfl (.flat _ _ rfl) .nil,hm.2⟩
   ·exact hm.elim
  ·exact hK0.elim
 ·exact hl.elim
noncomputable def Zh5 (A:LI->Int×Int) (SB:Zm->Bool) (Tg:LI->TxS->LI):Zf:=(((G0.withF 9 (Zh4 A)).withF 12 (Zf0 Tg)).withF 13 (ZaW SB Tg)).withF 15 (ZcV Tg)
theorem ZcZ:(Zh5 ZB X5 Zl).Ok:=Zf.withF_ok (Zf.withF_ok (Zf.withF_ok (Zf.withF_ok Zu ZcX) ZcY) ZaX) Z7L
theorem Z0g (h:∀x∈xs,0<=x/\x<=255):Bytes xs:=⟨fun i=>by
 rw [J2]
 rcases J7 i xs.length with q|q
 ·rw [Jd q];exact h _ (Kk q)
 ·rw [Jl q];exact ⟨by decide,by decide⟩⟩
theorem QH:Z2x.All:=⟨⟨rfl,rfl,Z0g (by decide),Z0g (by decide)⟩,rfl,Z0g (by decide)⟩
def kA:ClS:=k0C Z2x 1 600 400 0 9
def kB:ClS:=k0C Z2x 0 600 400 3 9
def kC:ClS:=clO kB true 3 false 0
theorem Z6S:XQ kA:=⟨QH,by decide,.inr rfl⟩
theorem Zf1:XQ kB:=⟨QH,by decide,.inl rfl⟩
theorem Z6T:XQ kC:=⟨QH,by decide,.inl rfl⟩
theorem ZaY:XO kC:=⟨⟨by kernel_rfl,.inl rfl,by decide,by decide,rfl,by decide,by decide,by decide⟩,fun _=>⟨by decide,by decide⟩,(fun h=>nomatch h),(fun h=>nomatch h),fun _=>rfl⟩
theorem Z11 {kd am:Int} {tg:LI} (h:tg.length=32):(sdN kd am tg).Len:=⟨rfl,rfl,rfl,rfl,rfl,rfl,rfl,h,rfl,Z6H⟩
theorem Zh6:X5 (sdN 12 0 Z0)=true:=U3.2 ⟨⟨by decide,by decide,by decide,by decide,by decide,by decide,by decide,by decide,by decide,by decide⟩,by kernel_rfl,trivial⟩
theorem Zh7:X5 (sdN 13 3 Z0)=true:=U3.2 ⟨⟨by decide,by decide,by decide,by decide,by decide,by decide,by decide,by decide,by decide,by decide⟩,by kernel_rfl,trivial⟩
theorem Zh8:Yh Zl kC 3 1≠Z0:=fun h=>by
 have e:(Yh Zl kC 3 1==Z0)=false:=by kernel_rfl
 rw [h] at e
 exact absurd e (by decide)
theorem ZaZ:ZG Z2x 600 400 3=0:=by kernel_rfl
theorem ZhR:Yt ZB (k0C Z2x 1 600 400 0 9)=true:=by kernel_rfl
theorem ZhS:Yt ZB (k0C Z2x 0 600 400 3 9)=true:=by kernel_rfl
theorem ZhT:Yt ZB (k0C Z2x 0 600 400 5 4)=false:=by kernel_rfl
theorem Zh9 (A:LI->Int×Int) (SB:Zm->Bool) (Tg:LI->TxS->LI) (hA:A=ZB) (hSB:SB=X5) (hT:Tg=Zl):
  evF (Zh5 A SB Tg) 40 11 [] ⟨0,[]⟩ (Us fun v=>v=.bool true):=by
 refine @Eq.mpr _ (let j:=[(600:Int),400];let p:=j=j;let d:=AV.arr u8 32 Z0;let c:=AV.int i64 0;let u:=[(0:Int),0,0,0,0,0,0,0,0,0,0,0,0,0,0,0,0,0,0,0,0,0,0,0,0,0,0,0,0,0,0];let l:=AV.bool false;let i:=AV.bool true;let r:=[l,c,i];let q:=l::c::r;let I:=[d,d,d,d,d,d,c,c,c,c,c,AV.str ByteArray.empty];
 p/\
 ∃(t:Zi),
 let o:=[d,c,AV.int i64 1000,AV.int i64 10,AV.int i64 5,AV.int i64 3,AV.arr u8 32 ((1:Int)::u),AV.arr u8 32 ((2:Int)::u)];
 ∃(a:Int),
 ∃(b:Int),
 let h:=k0C t 1 a b 0 9;let f:=h.t;
 Z4m o t/\
 j=[a,b]/\
 Zi.Ok t/\
 Yt A h=true/\
 ∃(k:ClS),
 let H:=AV.arr u8 32 f.fund::AV.int i64 f.index::AV.int i64 f.cap::AV.int i64 f.dust::AV.int i64 f.fee::AV.int i64 f.delay::AV.arr u8 32 f.k0::AV.arr u8 32 f.k1::AV.int i64 1::AV.arr i64 2 [h.a0,h.a1]::AV.int i64 h.least::AV.int i64 h.most::q;
 XP H k/\
 XQ k/\
 k.agrees=false/\
 (k.side≠0\/k.offers=true)/\
 ∃(k:ClS),
 XP H k/\
 TxK k/\
 p/\
 ∃(t:Zi),
 ∃(a:Int),
 ∃(b:Int),
 Z4m o t/\
 j=[a,b]/\
 Zi.Ok t/\
 Yt A (k0C t 0 a b 5 4)=false/\
 p/\
 ∃(t:Zi),
 ∃(a:Int),
 ∃(b:Int),
 let g:=k0C t 0 a b 3 9;let e:=g.t;let G:=AV.arr u8 32 e.fund;let F:=AV.int i64 e.index;let E:=AV.int i64 e.cap;let D:=AV.int i64 e.dust;let C:=AV.int i64 e.fee;let B:=AV.int i64 e.delay;let z:=AV.arr u8 32 e.k0;let y:=AV.arr u8 32 e.k1;let x:=AV.arr i64 2 [g.a0,g.a1];let w:=AV.int i64 g.least;let v:=AV.int i64 g.most;
 Z4m o t/\
 j=[a,b]/\
 Zi.Ok t/\
 Yt A g=true/\
 ∃(k:ClS),
 let n:=k.least;let m:=G::F::E::D::C::B::z::y::c::x::w::v::i::AV.int i64 n::r;
 XP (G::F::E::D::C::B::z::y::c::x::w::v::q) k/\XQ k/\k.agrees=false/\ZG k.t k.a0 k.a1 n=0/\∃(k:ClS),XP m k/\XQ k/\k.agrees=false/\(k.side≠0\/k.offers=true)/\∃(k:ClS),∃(s:Zm),XP m k/\QG (AV.int i64 12::d::c::c::c::c::c::d::d::c::c::I) s/\(XO k/\Zi.All k.t/\k.agrees=false)/\(Zm.Len s/\SB s=true)/\∃(k:ClS),∃(s:Zm),XP m k/\QG (AV.int i64 13::d::c::c::c::c::c::d::d::c::AV.int i64 3::I) s/\(XO k/\Zi.All k.t/\k.agrees=false)/\(Zm.Len s/\SB s=true)/\(ZG k.t k.a0 k.a1 s.amount=0/\Yh Tg k s.amount (1-k.side)≠s.tag)/\Z7 (n==3) (i=i) (l=i)) (by kernel_rfl) ?_
 conv=>zeta
 try simp only [vcA]
 try simp only [vcB]
 try simp only [vcC]
 subst hA hSB hT
 have hok:=QH.ok
 refine ⟨Z2x,600,400,⟨rfl⟩,rfl,hok,ZhR,kA,⟨rfl⟩,Z6S,rfl,.inl (by decide),kA,⟨rfl⟩,⟨Z6S.t,Z6S.a⟩,Z2x,600,400,⟨rfl⟩,rfl,hok,ZhT,Z2x,600,400,⟨rfl⟩,rfl,hok,ZhS,kB,⟨rfl⟩,Zf1,rfl,ZaZ,kC,⟨rfl⟩,Z6T,rfl,.inr rfl,kC,sdN 12 0 Z0,⟨rfl⟩,⟨rfl⟩,⟨ZaY,Z6T.t,rfl⟩,⟨Z11 rfl,Zh6⟩,kC,sdN 13 3 Z0,⟨rfl⟩,⟨rfl⟩,⟨ZaY,Z6T.t,rfl⟩,⟨Z11 rfl,Zh7⟩,⟨ZaZ,Zh8⟩,fun _=>trivial,fun h=> ?_⟩
 exact absurd (show (kB.least==3)=true from rfl) (by rw [h];decide)
def Zb0:ZJ:=fun args _ K=>match args with
 | []=>K (.bool true)
 | _=>False
theorem Zd0 (args:List AV) (h:Z9) (K:AV->Prop) (hl:Zb0 args h K):Zh PP 11 args h fun o h'=>∃v,o=.ret v/\h'=h/\K v:=by
 unfold Zb0 at hl
 split at hl
 ·exact W7 ZcZ rfl (Zh9 _ _ _ rfl rfl rfl) (fun u hu=>hu▸hl)
 ·exact hl.elim
theorem Z8K (t:TxS):Wt t t=true:=by
 unfold Wt Z2u Z2v
 simp [Z28,VZ]
structure Ww (k:ClS):Prop where
 i:XO k
 t:k.t.All
theorem Ww.a {k:ClS} (h:Ww k):k.a0<9223372036854775808:=by
 have:=XD h.i.made.t
 have:=h.i.made.a1
 have:=h.i.made.sum
 omega
theorem Ww.x {k:ClS} (h:Ww k):TxK k:=⟨h.t,h.a⟩
theorem Ww.o {k:ClS} (h:Ww k):XQ k:=⟨h.t,h.a,h.i.made.side⟩
theorem Ww.r {k:ClS} (h:Ww k):RwC k:=⟨h.i.num,h.t.fl,h.t.ok.k0,h.t.ok.k1⟩
def U4 (k:ClS) (r:HR):ClS:=⟨k.t,k.side,k.a0,k.a1,k.least,k.most,r.of,r.la,r.ag,r.fe⟩
theorem Qb {k:ClS} (h:Z4f k) (r:HR):Z4f (U4 k r):=⟨h.t,h.side,h.a0,h.a1,h.sum,h.lo,h.lm,h.hi⟩
theorem Zb1 {n lo hi:Int} (h:lo<=hi):lo<=Xu n lo hi/\Xu n lo hi<=hi:=by
 unfold Xu
 omega
theorem Z3n {M:Int->Int->Int} {k:ClS} (s:Zm) (hk:XO k):XO (U4 k (Yl SB M Tg k s)):=by
 unfold Yl
 split
 ·exact hk
 split
 ·exact hk
 split
 ·exact hk
 rename_i hg
 have hg:k.agrees=false:=by simpa using hg
 split
 ·exact hk
 rename_i ht
 have ht:ZG k.t k.a0 k.a1 s.amount=0:=Decidable.byContradiction ht
 split
 ·exact hk
 split
 ·rename_i ho
  exact ⟨Qb hk.made _,hk.off,hk.nof,fun _=>⟨ho.1,ho.2.symm,ht⟩,(fun h=>nomatch h)⟩
 split
 ·rename_i hi
  exact ⟨Qb hk.made _,fun _=>hi,(fun h=>nomatch h),fun _=>⟨rfl,rfl,ht⟩,(fun h=>nomatch h)⟩
 split
 ·exact hk
 split
 ·exact hk
 exact ⟨Qb hk.made _,fun _=>Zb1 hk.made.lm,(fun h=>nomatch h),fun h=>absurd (hg.symm.trans h) (by decide),fun _=>hk.nag hg⟩
def Zb2:ZJ:=fun args _ K=>match args with
 | [.agg [.arr .u8 32 fu,.int .i64 ix,.int .i64 ca,.int .i64 du,.int .i64 fe,.int .i64 de,.arr .u8 32 k0,.arr .u8 32 k1]]=>∃t:Zi,t=⟨fu,ix,ca,du,fe,de,k0,k1⟩/\t.Ok/\ZX t=true/\K (.tuple [.agg (Wv t).c,.int .i64 0])
 | _=>False
theorem Zb3 (args:List AV) (h:Z9) (K:AV->Prop) (hl:Zb2 args h K):Zh PP 16 args h fun o h'=>∃v,o=.ret v/\h'=h/\K v:=by
 unfold Zb2 at hl
 split at hl
 ·obtain ⟨t,rfl,h1,h2,hK⟩:=hl
  refine Zaw _ _ _ ⟨h1, ?_⟩
  rw [h2]
  exact hK
 ·exact hl.elim
noncomputable def Zd1 (A:LI->Int×Int) (SB:Zm->Bool) (M:Int->Int->Int) (Tg:LI->TxS->LI) (TS:TxS->TxS->Bool) (SP:TxS->Int->Zp->Int->Int->Int):Zf:=(((((((G0.withP 11 Zb0).withF 9 (Zdv A)).withF 12 (ZeV Tg)).withF 15 (ZcV Tg)).withP 16 Zb2).withP 17 (Zaq TS)).withP 18 (Z6B SP)).withF 13 (ZaU SB M Tg)
theorem Zd2:(Zd1 ZB X5 Y9 Zl Wt Xr).Ok:=Zf.withF_ok (Zf.withP_ok (Zf.withP_ok (Zf.withP_ok (Zf.withF_ok (Zf.withF_ok (Zf.withF_ok (Zf.withP_ok Zu Zd0) Z5o) ZcT) Z7L) Zb3) Z8B) Z8D) ZaV
def pA (b:Nat):AV:=.ptr (some ⟨b,0,0,0,0⟩)
def ZhU (t:Zi) (x y:ClS) (kd am:Int) (tg:LI):List (Nat×Blk):=[(0,.flat t.c),(1,.flat (x.c++[.bool true])),(2,.flat (y.c++[.bool true])),(3,.flat [pA 1,pA 2]),(4,.flat (sdC kd am tg))]
def lmS (w:Int) (t:Zi) (x y:ClS) (kd am:Int) (tg:LI) (mt:Bool) (said:Int):St:=⟨198,[(23,.int .i64 said),(24,.int .i64 w),(19,pA 3),(20,pA 4),(22,.bool mt),(15,pA 1),(17,pA 2),(7,pA 0)],⟨5,ZhU t x y kd am tg⟩,[]⟩
def agT (k:ClS):List AV:=clT k k.side k.offers k.last true k.fee
def lmX (t:Zi) (x y:ClS) (mt:Bool) (said:Int):St:=⟨198,[(23,.int .i64 said),(22,.bool mt),(15,pA 1),(17,pA 2),(7,pA 0)],⟨3,[(0,.flat t.c),(1,.flat (agT x)),(2,.flat (agT y))]⟩,[]⟩
def lmR:St:=⟨198,[(14,.bool true)],⟨0,[]⟩,[]⟩
structure LmR (r:HR) (mt g:Bool) (Z1 Z2 Z3:Prop):Prop where
 go:r.e=0->r.sy=true->Z1
 stop:r.e=0->r.sy=false->Z2
 few:r.e=180->Z3
 apart:r.e=252->(mt=false/\g=false/\r.ag=false)/\Z3
 e:r.e=0\/r.e=180\/r.e=252
theorem ZhV (A:LI->Int×Int) (SB:Zm->Bool) (M:Int->Int->Int) (Tg:LI->TxS->LI) (TS:TxS->TxS->Bool) (SP:TxS->Int->Zp->Int->Int->Int) (t:Zi) (x y N x2 y2:ClS) (kd am kd' am':Int) (tg tg':LI) (mt:Bool) (said said':Int) (r:HR) (Z1 Z2 Z3:Prop) (hs:1<=said/\said<=3) (hs':said'=said+1) (hy:Ww y) (hl:(sdN kd am tg).Len) (hr:r=Yl SB M Tg y (sdN kd am tg)) (hR:LmR r mt x.agrees ((N=U4 y r/\kd'=r.kd/\am'=r.am/\tg'=r.tg)/\Z1) ((x2=x/\x.agrees=true/\y2=U4 y r/\r.ag=true)/\Z2) Z3):
  ZW (Zd1 A SB M Tg TS SP) 20 3 0 0 (lmS 1 t x y kd am tg mt said) (rdM 0 0 9 (lmS 0 t x N kd' am' tg' mt said') (lmX t x2 y2 mt said) lmR lmR Z1 Z2 Z3 False):=by
 refine @Eq.mpr _ (let i:=y.t;let q2:=i.fund;let q3:=i.index;let q4:=i.cap;let q5:=i.dust;let q6:=i.fee;let U:=i.delay;let T:=i.k0;let S:=i.k1;let d2:=[y.a0,y.a1];let h:=AV.arr u8 32 Z0;let a:=AV.int i64 0;let j:=x.agrees;let c7:=decide (said=said);let R:=decide (mt=mt);let O:=t.fund=t.fund;let L:=decide (t.index=t.index);let K:=decide (t.cap=t.cap);let J:=decide (t.dust=t.dust);let I:=decide (t.fee=t.fee);let H:=decide (t.delay=t.delay);let G:=t.k0=t.k0;let F:=t.k1=t.k1;let g:=x.t;let E:=g.fund;let f:=x2.t;let c1:=E=f.fund;let D:=g.index;let c0:=decide (D=f.index);let C:=g.cap;let b9:=decide (C=f.cap);let B:=g.dust;let b8:=decide (B=f.dust);let A:=g.fee;let b7:=decide (A=f.fee);let z:=g.delay;let b6:=decide (z=f.delay);let w:=g.k0;let b5:=w=f.k0;let v:=g.k1;let b4:=v=f.k1;let u:=x.side;let b3:=decide (u=x2.side);let q:=[x.a0,x.a1];let b2:=q=[x2.a0,x2.a1];let p:=x.least;let b1:=decide (p=x2.least);let o:=x.most;let b0:=decide (o=x2.most);let n:=x.offers;let a9:=decide (n=x2.offers);let m:=x.last;let a8:=decide (m=x2.last);let a7:=decide (j=true);let l:=x.fee;let a6:=decide (l=x2.fee);let d:=y2.t;let a5:=d.fund;let a4:=d.index;let a3:=d.cap;let a2:=d.dust;let Z:=d.fee;let Y:=d.delay;let X:=d.k0;let W:=d.k1;let V:=[y2.a0,y2.a1];let c:=N.t;
 Z7 (decide (said<=60)) (∃(k:ClS),
 let b:=k.t;let d1:=b.fund;let d0:=b.index;let c9:=b.cap;let c8:=b.dust;let c6:=b.fee;let c5:=b.delay;let c4:=b.k0;let c3:=b.k1;let c2:=[k.a0,k.a1];
 ∃(s:Zm),
 XP [AV.arr u8 32 q2,AV.int i64 q3,AV.int i64 q4,AV.int i64 q5,AV.int i64 q6,AV.int i64 U,AV.arr u8 32 T,AV.arr u8 32 S,AV.int i64 y.side,AV.arr i64 2 d2,AV.int i64 y.least,AV.int i64 y.most,AV.bool y.offers,AV.int i64 y.last,AV.bool y.agrees,AV.int i64 y.fee,AV.bool true] k/\
 QG [AV.int i64 kd,h,a,a,a,a,a,h,h,a,AV.int i64 am,h,h,h,h,AV.arr u8 32 tg,h,a,a,a,a,a,AV.str ByteArray.empty] s/\
 (XO k/\Zi.All b)/\
 Zm.Len s/\
 ∀(r:HR),
 let Q:=r.e;let P:=r.ag;
 r=Yl SB M Tg k s->
 Z7 (Q==180) Z3 (Z7 (Q==252) (Z5 (!mt) (Z5 (!j) (Z5 (!P) Z3))) (Z7 (Q !=0) False (Z7 (!r.sy) (Z5 c7 (Z5 R (O/\Z5 L (Z5 K (Z5 J (Z5 I (Z5 H (G/\F/\c1/\Z5 c0 (Z5 b9 (Z5 b8 (Z5 b7 (Z5 b6 (b5/\b4/\Z5 b3 (b2/\Z5 b1 (Z5 b0 (Z5 a9 (Z5 a8 (Z5 a7 (Z5 a6 (d1=a5/\Z6 (d0=a4) (Z6 (c9=a3) (Z6 (c8=a2) (Z6 (c6=Z) (Z6 (c5=Y) (c4=X/\c3=W/\Z6 (k.side=y2.side) (c2=V/\Z6 (k.least=y2.least) (Z6 (k.most=y2.most) (Z6 (r.of=y2.offers) (Z6 (r.la=y2.last) (Z6 (P=true) (Z6 (r.fe=y2.fee) Z2))))))))))))))))))))))))))))))) (Z6 (wrap i64 (said+1)=said') (Z5 R (O/\
 Z5 L (Z5 K (Z5 J (Z5 I (Z5 H (G/\
 F/\
 E=E/\
 Z6 (D=D) (Z6 (C=C) (Z6 (B=B) (Z6 (A=A) (Z6 (z=z) (w=w/\
 v=v/\
 Z6 (u=u) (q=q/\
 Z6 (p=p) (Z6 (o=o) (Z6 (n=n) (Z6 (m=m) (Z6 (j=j) (Z6 (l=l) (d1=c.fund/\Z6 (d0=c.index) (Z6 (c9=c.cap) (Z6 (c8=c.dust) (Z6 (c6=c.fee) (Z6 (c5=c.delay) (c4=c.k0/\c3=c.k1/\Z6 (k.side=N.side) (c2=[N.a0,N.a1]/\Z6 (k.least=N.least) (Z6 (k.most=N.most) (Z6 (r.of=N.offers) (Z6 (r.la=N.last) (Z6 (P=N.agrees) (Z6 (r.fe=N.fee) (Z6 (r.kd=kd') (Z0=Z0/\Z0=Z0/\Z0=Z0/\Z6 (r.am=am') (Z0=Z0/\Z0=Z0/\Z0=Z0/\Z0=Z0/\r.tg=tg'/\Z0=Z0/\ByteArray.empty=ByteArray.empty/\Z1)))))))))))))))))))))))))))))))))))))) (Z5 c7 (Z5 R (O/\Z5 L (Z5 K (Z5 J (Z5 I (Z5 H (G/\F/\c1/\Z5 c0 (Z5 b9 (Z5 b8 (Z5 b7 (Z5 b6 (b5/\b4/\Z5 b3 (b2/\Z5 b1 (Z5 b0 (Z5 a9 (Z5 a8 (Z5 a7 (Z5 a6 (q2=a5/\Z6 (q3=a4) (Z6 (q4=a3) (Z6 (q5=a2) (Z6 (q6=Z) (Z6 (U=Y) (T=X/\S=W/\Z6 (y.side=y2.side) (d2=V/\Z6 (y.least=y2.least) (Z6 (y.most=y2.most) (Z6 (y.offers=y2.offers) (Z6 (y.last=y2.last) (Z6 (y.agrees=true) (Z6 (y.fee=y2.fee) Z2)))))))))))))))))))))))))))))))) (by kernel_rfl) ?_
 conv=>zeta
 try simp only [vcA]
 try simp only [vcB]
 try simp only [vcC]
 obtain ⟨h1,h2,h3,h4,h5⟩:=hR
 refine ⟨fun hc=> ?_,fun hc=>by omega⟩
 refine ⟨y,sdN kd am tg,⟨rfl⟩,⟨rfl⟩,⟨hy.i,hy.t⟩,hl,fun r0 hr0=> ?_⟩
 obtain rfl:r0=r:=hr0.trans hr.symm
 have hw:i64.wrap (said+1)=said':=by rw [w64 (by omega)];exact hs'.symm
 refine ⟨fun he=>h3 (beq_iff_eq.1 he),fun he=>⟨fun he2=> ?_,fun he2=> ?_⟩⟩
 ·obtain ⟨⟨g1,g2,g3⟩,hZ⟩:=h4 (beq_iff_eq.1 he2)
  simp [g1,g2,g3,hZ]
 ·have e0:r0.e=0:=by
   rcases h5 with h|h|h
   ·exact h
   ·rw [h] at he;cases he
   ·rw [h] at he2;cases he2
  refine ⟨by simp [e0],fun hs0=> ?_,fun hs0=> ?_⟩
  ·obtain ⟨⟨rfl,g2,rfl,g4⟩,hZ⟩:=h2 e0 (by simpa using hs0)
   and_intros<;>first|rfl|exact g2|exact g4|exact hZ
  ·obtain ⟨⟨rfl,rfl,rfl,rfl⟩,hZ⟩:=h1 e0 (by simpa using hs0)
   and_intros<;>first|rfl|exact hw|exact hZ
theorem ZhW (A:LI->Int×Int) (SB:Zm->Bool) (M:Int->Int->Int) (Tg:LI->TxS->LI) (TS:TxS->TxS->Bool) (SP:TxS->Int->Zp->Int->Int->Int) (t:Zi) (x y N x2 y2:ClS) (kd am kd' am':Int) (tg tg':LI) (mt:Bool) (said said':Int) (r:HR) (Z1 Z2 Z3:Prop) (hs:1<=said/\said<=3) (hs':said'=said+1) (hy:Ww x) (hl:(sdN kd am tg).Len) (hr:r=Yl SB M Tg x (sdN kd am tg)) (hR:LmR r mt y.agrees ((N=U4 x r/\kd'=r.kd/\am'=r.am/\tg'=r.tg)/\Z1) ((y2=y/\y.agrees=true/\x2=U4 x r/\r.ag=true)/\Z2) Z3):
  ZW (Zd1 A SB M Tg TS SP) 20 3 0 0 (lmS 0 t x y kd am tg mt said) (rdM 0 0 9 (lmS 1 t N y kd' am' tg' mt said') (lmX t x2 y2 mt said) lmR lmR Z1 Z2 Z3 False):=by
 refine @Eq.mpr _ (let i:=x.t;let q2:=i.fund;let q3:=i.index;let Y:=i.cap;let X:=i.dust;let V:=i.fee;let U:=i.delay;let T:=i.k0;let S:=i.k1;let c0:=[x.a0,x.a1];let h:=AV.arr u8 32 Z0;let a:=AV.int i64 0;let j:=y.agrees;let b0:=decide (said=said);let P:=decide (mt=mt);let O:=t.fund=t.fund;let L:=decide (t.index=t.index);let K:=decide (t.cap=t.cap);let J:=decide (t.dust=t.dust);let I:=decide (t.fee=t.fee);let H:=decide (t.delay=t.delay);let G:=t.k0=t.k0;let F:=t.k1=t.k1;let g:=x2.t;let a9:=g.fund;let a8:=g.index;let a7:=g.cap;let a6:=g.dust;let a5:=g.fee;let a4:=g.delay;let a3:=g.k0;let a2:=g.k1;let Z:=[x2.a0,x2.a1];let f:=y.t;let E:=f.fund;let d:=y2.t;let D:=f.index;let C:=f.cap;let B:=f.dust;let A:=f.fee;let z:=f.delay;let w:=f.k0;let v:=f.k1;let u:=y.side;let q:=[y.a0,y.a1];let p:=y.least;let o:=y.most;let n:=y.offers;let m:=y.last;let l:=y.fee;let W:=E=d.fund/\Z6 (D=d.index) (Z6 (C=d.cap) (Z6 (B=d.dust) (Z6 (A=d.fee) (Z6 (z=d.delay) (w=d.k0/\v=d.k1/\Z6 (u=y2.side) (q=[y2.a0,y2.a1]/\Z6 (p=y2.least) (Z6 (o=y2.most) (Z6 (n=y2.offers) (Z6 (m=y2.last) (Z6 (j=true) (Z6 (l=y2.fee) Z2)))))))))));let c:=N.t;
 Z7 (decide (said<=60)) (∃(k:ClS),
 let b:=k.t;let b9:=b.fund;let b8:=b.index;let b7:=b.cap;let b6:=b.dust;let b5:=b.fee;let b4:=b.delay;let b3:=b.k0;let b2:=b.k1;let b1:=[k.a0,k.a1];
 ∃(s:Zm),
 XP [AV.arr u8 32 q2,AV.int i64 q3,AV.int i64 Y,AV.int i64 X,AV.int i64 V,AV.int i64 U,AV.arr u8 32 T,AV.arr u8 32 S,AV.int i64 x.side,AV.arr i64 2 c0,AV.int i64 x.least,AV.int i64 x.most,AV.bool x.offers,AV.int i64 x.last,AV.bool x.agrees,AV.int i64 x.fee,AV.bool true] k/\
 QG [AV.int i64 kd,h,a,a,a,a,a,h,h,a,AV.int i64 am,h,h,h,h,AV.arr u8 32 tg,h,a,a,a,a,a,AV.str ByteArray.empty] s/\
 (XO k/\Zi.All b)/\
 Zm.Len s/\
 ∀(r:HR),
 let R:=r.e;let Q:=r.ag;
 r=Yl SB M Tg k s->
 Z7 (R==180) Z3 (Z7 (R==252) (Z5 (!mt) (Z5 (!Q) (Z5 (!j) Z3))) (Z7 (R !=0) False (Z7 (!r.sy) (Z5 b0 (Z5 P (O/\Z5 L (Z5 K (Z5 J (Z5 I (Z5 H (G/\F/\b9=a9/\Z6 (b8=a8) (Z6 (b7=a7) (Z6 (b6=a6) (Z6 (b5=a5) (Z6 (b4=a4) (b3=a3/\b2=a2/\Z6 (k.side=x2.side) (b1=Z/\Z6 (k.least=x2.least) (Z6 (k.most=x2.most) (Z6 (r.of=x2.offers) (Z6 (r.la=x2.last) (Z6 (Q=true) (Z6 (r.fe=x2.fee) W))))))))))))))))))) (Z6 (wrap i64 (said+1)=said') (Z5 P (O/\
 Z5 L (Z5 K (Z5 J (Z5 I (Z5 H (G/\
 F/\
 b9=c.fund/\
 Z6 (b8=c.index) (Z6 (b7=c.cap) (Z6 (b6=c.dust) (Z6 (b5=c.fee) (Z6 (b4=c.delay) (b3=c.k0/\
 b2=c.k1/\
 Z6 (k.side=N.side) (b1=[N.a0,N.a1]/\Z6 (k.least=N.least) (Z6 (k.most=N.most) (Z6 (r.of=N.offers) (Z6 (r.la=N.last) (Z6 (Q=N.agrees) (Z6 (r.fe=N.fee) (E=E/\Z6 (D=D) (Z6 (C=C) (Z6 (B=B) (Z6 (A=A) (Z6 (z=z) (w=w/\v=v/\Z6 (u=u) (q=q/\Z6 (p=p) (Z6 (o=o) (Z6 (n=n) (Z6 (m=m) (Z6 (j=j) (Z6 (l=l) (Z6 (r.kd=kd') (Z0=Z0/\Z0=Z0/\Z0=Z0/\Z6 (r.am=am') (Z0=Z0/\Z0=Z0/\Z0=Z0/\Z0=Z0/\r.tg=tg'/\Z0=Z0/\ByteArray.empty=ByteArray.empty/\Z1)))))))))))))))))))))))))))))))))))))) (Z5 b0 (Z5 P (O/\Z5 L (Z5 K (Z5 J (Z5 I (Z5 H (G/\F/\q2=a9/\Z6 (q3=a8) (Z6 (Y=a7) (Z6 (X=a6) (Z6 (V=a5) (Z6 (U=a4) (T=a3/\S=a2/\Z6 (x.side=x2.side) (c0=Z/\Z6 (x.least=x2.least) (Z6 (x.most=x2.most) (Z6 (x.offers=x2.offers) (Z6 (x.last=x2.last) (Z6 (x.agrees=true) (Z6 (x.fee=x2.fee) W)))))))))))))))))))) (by kernel_rfl) ?_
 conv=>zeta
 try simp only [vcA]
 try simp only [vcB]
 try simp only [vcC]
 obtain ⟨h1,h2,h3,h4,h5⟩:=hR
 refine ⟨fun hc=> ?_,fun hc=>by omega⟩
 refine ⟨x,sdN kd am tg,⟨rfl⟩,⟨rfl⟩,⟨hy.i,hy.t⟩,hl,fun r0 hr0=> ?_⟩
 obtain rfl:r0=r:=hr0.trans hr.symm
 have hw:i64.wrap (said+1)=said':=by rw [w64 (by omega)];exact hs'.symm
 refine ⟨fun he=>h3 (beq_iff_eq.1 he),fun he=>⟨fun he2=> ?_,fun he2=> ?_⟩⟩
 ·obtain ⟨⟨g1,g2,g3⟩,hZ⟩:=h4 (beq_iff_eq.1 he2)
  simp [g1,g2,g3,hZ]
 ·have e0:r0.e=0:=by
   rcases h5 with h|h|h
   ·exact h
   ·rw [h] at he;cases he
   ·rw [h] at he2;cases he2
  refine ⟨by simp [e0],fun hs0=> ?_,fun hs0=> ?_⟩
  ·obtain ⟨⟨rfl,g2,rfl,g4⟩,hZ⟩:=h2 e0 (by simpa using hs0)
   and_intros<;>first|rfl|exact g2|exact g4|exact hZ
  ·obtain ⟨⟨rfl,rfl,rfl,rfl⟩,hZ⟩:=h1 e0 (by simpa using hs0)
   and_intros<;>first|rfl|exact hw|exact hZ
theorem Zb4 (hT:∀a t,(Tg a t).length=32) (k:ClS) (fee sd:Int):(Yh Tg k fee sd).length=32:=by
 unfold Yh
 split
 ·exact hT _ _
 ·rfl
theorem Z5p {M:Int->Int->Int} (hT:∀a t,(Tg a t).length=32) (k:ClS) (s:Zm):(Yl SB M Tg k s).tg.length=32:=by
 unfold Yl
 repeat' split
 all_goals first
  | rfl
  | exact Zb4 hT _ _ _
theorem Zd3 {am:Int} {tg:LI} (h:0<=am/\am<=1125899906842624):X5 (sdN 13 am tg)=true:=
 have z:(0:Int)<=0:=JY 0
 have b:(0:Int)<=2147483647:=by decide
 U3.2 ⟨⟨z,b,z,b,z,b,z,b,h.1,h.2⟩,by kernel_rfl,trivial⟩
theorem Z7M {t:Zi} {a b fee:Int} (hm:ZX t=true) (ha:0<=fee/\fee<=a) (hb:0<=b) (hs:a+b=t.cap):ZG t a b fee=0\/ZG t a b fee=180:=by
 have hd:=XD hm
 have hc:clB ZB t a b fee=true:=Wa.2 ⟨hm,⟨⟨by omega,by omega⟩,⟨by omega,by omega⟩⟩,by omega,by omega⟩
 unfold ZG
 rw [if_pos hc]
 split
 ·exact .inr rfl
 ·exact .inl rfl
structure Mt where
 x:ClS
 y:ClS
 kd:Int
 am:Int
 tg:LI
noncomputable def mtR (e:Bool) (m:Mt):HR:=Yl X5 Y9 Zl (cond e m.y m.x) (sdN m.kd m.am m.tg)
noncomputable def mtN (e:Bool) (m:Mt):Mt:=⟨cond e m.x (U4 m.x (mtR e m)),cond e (U4 m.y (mtR e m)) m.y,(mtR e m).kd,(mtR e m).am,(mtR e m).tg⟩
structure Fee (k:ClS) (am:Int):Prop where
 ag:k.agrees=false
 lo:0<=am
 hi:am<=k.a0
 E:ZG k.t k.a0 k.a1 am=0
theorem Fee.ht {k:ClS} {am:Int} {tg:LI} (h:Fee k am) (hk:Ww k) (ht:Yh Zl k am (1-k.side)=tg):HtC X5 Zl k (sdN 13 am tg):=by
 have hd:=XD hk.i.made.t
 have h1:=hk.i.made.a1
 have h2:=hk.i.made.sum
 have:=h.lo
 have:=h.hi
 exact ⟨⟨Zd3 ⟨by omega,by omega⟩,rfl,h.ag⟩,h.E,ht⟩
theorem Z8L {k j:ClS} (h1:k.t=j.t) (h2:k.a0=j.a0) (h3:k.a1=j.a1) (fee sd:Int):Yh Zl k fee sd=Yh Zl j fee sd:=by
 unfold Yh
 rw [h1,h2,h3]
theorem Z2i {k:ClS} {am:Int} {tg:LI} (h:HtC X5 Zl k (sdN 13 am tg)):Yl X5 Y9 Zl k (sdN 13 am tg)=if k.offers=true/\k.last=am then ⟨0,0,0,Z0,false,k.offers,k.last,true,am⟩
  else if k.least<=am/\am<=k.most then ⟨0,13,am,Yh Zl k am k.side,true,true,am,true,am⟩
  else if k.offers=true/\Y4 Y9 k am=k.last then noR k 252
  else if ZG k.t k.a0 k.a1 (Y4 Y9 k am)≠0 then noR k (ZG k.t k.a0 k.a1 (Y4 Y9 k am))
  else ⟨0,13,Y4 Y9 k am,Yh Zl k (Y4 Y9 k am) k.side,true,true,Y4 Y9 k am,k.agrees,k.fee⟩:=Z4l h
theorem Zdx {k:ClS} {am:Int} {tg:LI} (h:HtC X5 Zl k (sdN 13 am tg)) (ho:k.offers=true) (hl:k.last=am):Yl X5 Y9 Zl k (sdN 13 am tg)=⟨0,0,0,Z0,false,true,am,true,am⟩:=by
 rw [Z2i h,if_pos ⟨ho,hl⟩,ho,hl]
theorem Zdy {k:ClS} {am:Int} {tg:LI} (h:HtC X5 Zl k (sdN 13 am tg)) (hn:¬(k.offers=true/\k.last=am)) (hi:k.least<=am/\am<=k.most):Yl X5 Y9 Zl k (sdN 13 am tg)=⟨0,13,am,Yh Zl k am k.side,true,true,am,true,am⟩:=by
 rw [Z2i h,if_neg hn,if_pos hi]
theorem Zb5 {k:ClS} {am:Int} {tg:LI} (h:HtC X5 Zl k (sdN 13 am tg)) (hn:¬(k.offers=true/\k.last=am)) (hi:¬(k.least<=am/\am<=k.most)) (ho:k.offers=true/\Y4 Y9 k am=k.last):Yl X5 Y9 Zl k (sdN 13 am tg)=noR k 252:=by
 rw [Z2i h,if_neg hn,if_neg hi,if_pos ho]
theorem Z3o {k:ClS} {am m:Int} {tg:LI} (h:HtC X5 Zl k (sdN 13 am tg)) (hn:¬(k.offers=true/\k.last=am)) (hi:¬(k.least<=am/\am<=k.most)) (ho:¬(k.offers=true/\Y4 Y9 k am=k.last)) (hm:Y4 Y9 k am=m) (hE:ZG k.t k.a0 k.a1 m=0):Yl X5 Y9 Zl k (sdN 13 am tg)=⟨0,13,m,Yh Zl k m k.side,true,true,m,k.agrees,k.fee⟩:=by
 rw [Z2i h,if_neg hn,if_neg hi,if_neg ho,hm,if_neg (fun q=>q hE)]
theorem Zb6 {k:ClS} {am m:Int} {tg:LI} (h:HtC X5 Zl k (sdN 13 am tg)) (hn:¬(k.offers=true/\k.last=am)) (hi:¬(k.least<=am/\am<=k.most)) (ho:¬(k.offers=true/\Y4 Y9 k am=k.last)) (hm:Y4 Y9 k am=m) (hE:ZG k.t k.a0 k.a1 m=180):Yl X5 Y9 Zl k (sdN 13 am tg)=noR k 180:=by
 rw [Z2i h,if_neg hn,if_neg hi,if_neg ho,hm,if_pos (by rw [hE];decide),hE]
inductive Run (mt:Bool):Nat->Bool->Mt->Prop
 | few (e:Bool) (m:Mt):(mtR e m).e=180->Run mt 0 e m
 | apart (e:Bool) (m:Mt):(mtR e m).e=252->mt=false->(cond e m.x m.y).agrees=false->(mtR e m).ag=false->Run mt 0 e m
 | stop (e:Bool) (m:Mt):(mtR e m).e=0->(mtR e m).sy=false->mt=true->(cond e m.x m.y).agrees=true->(mtR e m).ag=true->(cond e m.x m.y).fee=(mtR e m).fe->Run mt 0 e m
 | go (n:Nat) (e:Bool) (m:Mt):(mtR e m).e=0->(mtR e m).sy=true->Run mt n (!e) (mtN e m)->Run mt (n+1) e m
def QI (le mo lo hi:Int):Bool:=decide ((if lo>le then lo else le)<=if hi<mo then hi else mo)
theorem Run.go' {mt:Bool} {n:Nat} {e:Bool} {m:Mt} {r:HR} (hr:mtR e m=r) (h1:r.e=0) (h2:r.sy=true) (h:Run mt n (!e) ⟨cond e m.x (U4 m.x r),cond e (U4 m.y r) m.y,r.kd,r.am,r.tg⟩):Run mt (n+1) e m:=by
 subst hr
 exact .go n e m h1 h2 h
theorem Run.few' {mt e:Bool} {m:Mt} {r:HR} (hr:mtR e m=r) (h:r.e=180):Run mt 0 e m:=.few e m (hr▸h)
theorem Run.apart' {mt e:Bool} {m:Mt} {r:HR} (hr:mtR e m=r) (h:r.e=252) (h1:mt=false) (h2:(cond e m.x m.y).agrees=false) (h3:r.ag=false):Run mt 0 e m:=.apart e m (hr▸h) h1 h2 (hr▸h3)
theorem Run.stop' {mt e:Bool} {m:Mt} {r:HR} (hr:mtR e m=r) (h:r.e=0) (hs:r.sy=false) (h1:mt=true) (h2:(cond e m.x m.y).agrees=true) (h3:r.ag=true) (h4:(cond e m.x m.y).fee=r.fe):Run mt 0 e m:=.stop e m (hr▸h) (hr▸hs) h1 h2 (hr▸h3) (hr▸h4)
theorem Z4o {a b:Int} (ha:0<=a) (hb:0<=b):(a<=b->a<=Y9 a b/\Y9 a b<=b)/\(b<=a->b<=Y9 a b/\Y9 a b<=a):=by
 unfold Y9
 rw [Ka (by omega)]
 omega
theorem Zb7 {t:Zi} {a b le mo lo hi:Int} (hx:Ww (k0C t 0 a b le mo)) (hy:Ww (k0C t 1 a b lo hi)) (hE:ZG t a b le=0) {tg:LI} (ht:Yh Zl (k0C t 0 a b le mo) le 0=tg):∃n,n<=2/\Run (QI le mo lo hi) n true ⟨⟨t,0,a,b,le,mo,true,le,false,0⟩,k0C t 1 a b lo hi,13,le,tg⟩:=by
 have mx:=hx.i.made
 have my:=hy.i.made
 have x6:0<=le:=mx.lo
 have x7:le<=mo:=mx.lm
 have x8:mo<=a:=mx.hi
 have y6:0<=lo:=my.lo
 have y7:lo<=hi:=my.lm
 have y8:hi<=a:=my.hi
 have xs:a+b=t.cap:=mx.sum
 have xb:0<=b:=mx.a1
 have h02:∀fee,0<=fee->fee<=a->ZG t a b fee=0\/ZG t a b fee=180:=fun fee h1 h2=>Z7M mx.t ⟨h1,h2⟩ xb xs
 have hT:∀(k:ClS) fee sd,k.t=t->k.a0=a->k.a1=b->Yh Zl k fee sd=Yh Zl (k0C t 0 a b le mo) fee sd:=fun k fee sd h1 h2 h3=>Z8L h1 h2 h3 fee sd
 -- y hears the first fee
 have f0:HtC X5 Zl (k0C t 1 a b lo hi) (sdN 13 le tg):=Fee.ht ⟨rfl,x6,by show le<=a;omega,hE⟩ hy ((hT _ _ _ rfl rfl rfl).trans ht)
 have n0:¬((k0C t 1 a b lo hi).offers=true/\(k0C t 1 a b lo hi).last=le):=fun h=>nomatch h.1
 have hx1:Ww ⟨t,0,a,b,le,mo,true,le,false,0⟩:=⟨⟨⟨mx.t,mx.side,mx.a0,mx.a1,mx.sum,mx.lo,mx.lm,mx.hi⟩,fun _=>⟨JY _,x7⟩,(fun h=>nomatch h),(fun h=>nomatch h),fun _=>rfl⟩,hx.t⟩
 have hy1:∀f,lo<=f->f<=hi->Ww ⟨t,1,a,b,lo,hi,true,f,false,0⟩:=fun f h1 h2=>⟨⟨⟨my.t,my.side,my.a0,my.a1,my.sum,my.lo,my.lm,my.hi⟩,fun _=>⟨h1,h2⟩,(fun h=>nomatch h),(fun h=>nomatch h),fun _=>rfl⟩,hy.t⟩
 have fe:∀{k:ClS} {f:Int} {sd:Int} {tg:LI},Ww k->k.agrees=false->k.t=t->k.a0=a->k.a1=b->1-k.side=sd->0<=f->f<=a->ZG t a b f=0->Yh Zl (k0C t 0 a b le mo) f sd=tg->HtC X5 Zl k (sdN 13 f tg):=fun {k f sd tg} h1 h2 h3 h4 h5 h6 h7 h8 h9 h10=>by
  subst h3 h4 h5 h6
  exact Fee.ht ⟨h2,h7,h8,h9⟩ h1 ((hT k f _ rfl rfl rfl).trans h10)
 have hmt:∀c:Bool,((if lo>le then lo else le)<=(if hi<mo then hi else mo)↔c=true)->QI le mo lo hi=c:=fun c h=>by
  unfold QI
  exact Bool.eq_iff_iff.2 (decide_eq_true_iff.trans h)
 by_cases hin:lo<=le/\le<=hi
 ·-- it takes it
  refine ⟨1,by decide,.go' (Zdy f0 n0 hin) rfl rfl (.stop' (Zdx (fe (f:=le) hx1 rfl rfl rfl rfl rfl x6 (by omega) hE (hT _ _ _ rfl rfl rfl).symm) rfl rfl) rfl rfl (hmt true ?_) rfl rfl rfl)⟩
  split<;>split<;>(simp;omega)
 ·have ny:¬((k0C t 1 a b lo hi).offers=true/\Y4 Y9 (k0C t 1 a b lo hi) le=(k0C t 1 a b lo hi).last):=fun h=>nomatch h.1
  by_cases hlo:le<lo
  ·have e0:Y4 Y9 (k0C t 1 a b lo hi) le=lo:=by
    show Xu le lo hi=lo
    unfold Xu;omega
   rcases h02 lo y6 (by omega) with hL|hL
   ·have n1:¬((⟨t,0,a,b,le,mo,true,le,false,0⟩:ClS).offers=true/\(⟨t,0,a,b,le,mo,true,le,false,0⟩:ClS).last=lo):=fun h=>by
     have:le=lo:=h.2
     omega
    have f1:=fe (f:=lo) (tg:=Yh Zl (k0C t 1 a b lo hi) lo 1) hx1 rfl rfl rfl rfl rfl y6 (by omega) hL (hT _ _ _ rfl rfl rfl).symm
    by_cases hm:lo<=mo
    ·refine ⟨2,by decide,.go' (Z3o f0 n0 hin ny e0 hL) rfl rfl (.go' (Zdy f1 n1 ⟨Int.le_of_lt hlo,hm⟩) rfl rfl (.stop' (Zdx (fe (f:=lo) (hy1 lo (JY _) y7) rfl rfl rfl rfl rfl y6 (by omega) hL (hT _ _ _ rfl rfl rfl).symm) rfl rfl) rfl rfl (hmt true ?_) rfl rfl rfl))⟩
     split<;>split<;>(simp;omega)
    ·have hmf:QI le mo lo hi=false:=hmt false (by split<;>split<;>(simp;omega))
     have hq:=(Z4o x6 y6).1 (Int.le_of_lt hlo)
     have i1:¬((⟨t,0,a,b,le,mo,true,le,false,0⟩:ClS).least<=lo/\lo<=(⟨t,0,a,b,le,mo,true,le,false,0⟩:ClS).most):=fun h=>hm h.2
     have g:=Z5m (n:=Y9 le lo) x7
     generalize hf2:Xu (Y9 le lo) le mo=f2 at g
     have e1:Y4 Y9 ⟨t,0,a,b,le,mo,true,le,false,0⟩ lo=f2:=hf2
     by_cases hf:f2=le
     ·exact ⟨1,by decide,.go' (Z3o f0 n0 hin ny e0 hL) rfl rfl (.apart' (Zb5 f1 n1 i1 ⟨rfl,e1.trans hf⟩) rfl hmf rfl rfl)⟩
     ·have o1:¬((⟨t,0,a,b,le,mo,true,le,false,0⟩:ClS).offers=true/\Y4 Y9 ⟨t,0,a,b,le,mo,true,le,false,0⟩ lo=(⟨t,0,a,b,le,mo,true,le,false,0⟩:ClS).last):=fun h=>hf (e1.symm.trans h.2)
      rcases h02 f2 (by omega) (by omega) with hF|hF
      ·refine ⟨2,by decide,.go' (Z3o f0 n0 hin ny e0 hL) rfl rfl (.go' (Z3o f1 n1 i1 o1 e1 hF) rfl rfl (.apart' (Zb5 (fe (f:=f2) (hy1 lo (JY _) y7) rfl rfl rfl rfl rfl (by omega) (by omega) hF (hT _ _ _ rfl rfl rfl).symm) (fun h=> ?_) (fun h=> ?_) ⟨rfl, ?_⟩) rfl hmf rfl rfl))⟩
       ·have:lo=f2:=h.2
        omega
       ·have:lo<=f2:=h.1
        omega
       ·show Xu (Y9 lo f2) lo hi=lo
        have:=(Z4o (a:=lo) (b:=f2) y6 (by omega)).2 (by omega)
        unfold Xu;omega
      ·exact ⟨1,by decide,.go' (Z3o f0 n0 hin ny e0 hL) rfl rfl (.few' (Zb6 f1 n1 i1 o1 e1 hF) rfl)⟩
   ·exact ⟨0,by decide,.few' (Zb6 f0 n0 hin ny e0 hL) rfl⟩
  ·have hhi:hi<le:=by omega
   have hmf:QI le mo lo hi=false:=hmt false (by split<;>split<;>(simp;omega))
   have e0:Y4 Y9 (k0C t 1 a b lo hi) le=hi:=by
    show Xu le lo hi=hi
    unfold Xu;omega
   rcases h02 hi (by omega) y8 with hL|hL
   ·refine ⟨1,by decide,.go' (Z3o f0 n0 hin ny e0 hL) rfl rfl (.apart' (Zb5 (fe (f:=hi) hx1 rfl rfl rfl rfl rfl (by omega) y8 hL (hT _ _ _ rfl rfl rfl).symm) (fun h=> ?_) (fun h=> ?_) ⟨rfl, ?_⟩) rfl hmf rfl rfl)⟩
    ·have:le=hi:=h.2
     omega
    ·have:le<=hi:=h.1
     omega
    ·show Xu (Y9 le hi) le mo=le
     have:=(Z4o (a:=le) (b:=hi) x6 (by omega)).2 (by omega)
     unfold Xu;omega
   ·exact ⟨0,by decide,.few' (Zb6 f0 n0 hin ny e0 hL) rfl⟩
noncomputable def mtS (m:Mt):Nat->Bool×Mt
 | 0=>(true,m)
 | i+1=>(!(mtS m i).1,mtN (mtS m i).1 (mtS m i).2)
theorem Z7N {mt:Bool} {m:Mt}:∀(i n:Nat),Run mt (i+n) true m->Run mt n (mtS m i).1 (mtS m i).2
 | 0,n,h=>by rw [JE] at h;exact h
 | i+1,n,h=>by
  have h:=Z7N i (n+1) (by rw [show i+(n+1)=i+1+n by omega];exact h)
  cases h with
  | go _ _ _ _ _ h=>exact h
structure Z8M (t:Zi) (a b:Int) (m:Mt):Prop where
 x:Ww m.x
 y:Ww m.y
 kd:m.tg.length=32
 tx:m.x.t=t/\m.x.a0=a/\m.x.a1=b
 ty:m.y.t=t/\m.y.a0=a/\m.y.a1=b
theorem Z8M.nx {t:Zi} {a b:Int} {m:Mt} (h:Z8M t a b m) (e:Bool):Z8M t a b (mtN e m):=by
 cases e with
 | true=>exact ⟨h.x,⟨Z3n _ h.y.i,h.y.t⟩,Z5p Xf _ _,h.tx,h.ty⟩
 | false=>exact ⟨⟨Z3n _ h.x.i,h.x.t⟩,h.y,Z5p Xf _ _,h.tx,h.ty⟩
theorem Z6U {t:Zi} {a b:Int} {m:Mt} (h:Z8M t a b m):∀i,Z8M t a b (mtS m i).2
 | 0=>h
 | i+1=>(Z6U h i).nx _
theorem Z5q:∀{x y:LI},x.length=y.length->Bytes x->Bytes y->YI x=YI y->x=y
 | [],[],_,_,_,_=>rfl
 | [],b::s,h,_,_,_=>by simp at h
 | a::r,[],h,_,_,_=>by simp at h
 | a::r,b::s,h,hx,hy,he=>by
  have h':r.length=s.length:=by simpa using h
  have h1:=QD r
  have h2:=QD s
  rw [<-h'] at h2
  have ha:=hx.h 0
  have hb:=hy.h 0
  simp at ha hb
  have hu:∀z:Int,0<=z->z<=255->((W2 z).toNat:Int)=z:=fun z z1 z2=>by
   unfold W2
   simp
   omega
  simp only [YI] at he
  rw [<-h'] at he
  have ea:(W2 a).toNat=(W2 b).toNat:=by
   generalize (W2 a).toNat=u at*
   generalize (W2 b).toNat=v at*
   generalize 256^r.length=M at*
   rcases Nat.lt_trichotomy u v with g|g|g
   ·have:(u+1)*M<=v*M:=JA _ g
    rw [JD,Kh] at this;omega
   ·exact g
   ·have:(v+1)*M<=u*M:=JA _ g
    rw [JD,Kh] at this;omega
  have e1:=hu a ha.1 ha.2
  have e2:=hu b hb.1 hb.2
  have er:YI r=YI s:=by rw [ea] at he;omega
  have hx':Bytes r:=⟨fun i=>by have:=hx.h (i+1);simpa using this⟩
  have hy':Bytes s:=⟨fun i=>by have:=hy.h (i+1);simpa using this⟩
  rw [Z5q h' hx' hy' er,show a=b by omega]
theorem Qc {f g:Nat->LI}:∀n,(∀i,i<n->f i=g i)->V8 f n=V8 g n
 | 0,_=>rfl
 | n+1,h=>by
  simp only [V8]
  rw [Qc n (fun i hi=>h i (by omega)),h n (Nat.lt_succ_self _)]
theorem Z6V {a b:TxS} (h1:a.num=b.num) (h2:a.N=b.N) (h3:a.M=b.M) (h4:∀i,i<a.N->(a.ins i).name=(b.ins i).name/\(a.ins i).index=(b.ins i).index) (h5:∀i,i<a.M->a.outs i=b.outs i):XZ a=XZ b:=by
 have e1:V8 (fun j=>inW ZR true (a.ins j)) a.N=V8 (fun j=>inW ZR true (b.ins j)) b.N:=by
  rw [<-h2]
  refine Qc _ fun i hi=> ?_
  obtain ⟨g1,g2⟩:=h4 i hi
  unfold inW
  rw [g1,g2]
 have e2:V8 (fun j=>Z47 ZR (a.outs j)) a.M=V8 (fun j=>Z47 ZR (b.outs j)) b.M:=by
  rw [<-h3]
  exact Qc _ fun i hi=>by rw [h5 i hi]
 unfold XZ Qz Xc XM
 rw [e1,e2,h1,h2,h3]
def Z8N (t:TxS) (a b:LI):TxS:=⟨t.num,t.N,Z4d Zl t a b t.N,t.M,t.outs⟩
theorem QJ {t:TxS} {a b:LI} {j:Nat} (hj:j<t.N):(Z8N t a b).ins j=Vu (Zl (loH a b) t) (Zl (hiH a b) t) (Zl a t) (t.ins j):=if_pos hj
theorem Uq (tl th ta:LI) (x:InS):(Vu tl th ta x).name=x.name/\(Vu tl th ta x).index=x.index/\(Vu tl th ta x).way=x.way/\(Vu tl th ta x).secret=x.secret:=by
 unfold Vu
 split
 ·exact ⟨rfl,rfl,rfl,rfl⟩
 ·split<;>exact ⟨rfl,rfl,rfl,rfl⟩
theorem Z8O (t:TxS) (a b:LI):XZ (Z8N t a b)=XZ t:=
 Z6V rfl rfl rfl (fun i hi=>by
  have hi:i<t.N:=hi
  rw [QJ hi];exact ⟨(Uq _ _ _ _).1,(Uq _ _ _ _).2.1⟩) (fun _ _=>rfl)
theorem Zd4 {t:TxS} {a b:LI} (ht:t.Ok):(Z8N t a b).Ok:=⟨ht.n,ht.m,fun i hi=>by
 have hi:i<t.N:=hi
 rw [QJ hi]
 have h0:=ht.ins i hi
 unfold Vu
 split
 ·exact ⟨h0.name,Xf _ _,Xf _ _,h0.secret⟩
 ·split
  ·exact h0
  ·exact ⟨h0.name,Xf _ _,h0.also,h0.secret⟩,ht.outs⟩
theorem Z6W {tl th ta:LI} {x:InS} (h:ZU x=true):ZU (Vu tl th ta x)=true:=by
 unfold ZU at h⊢
 unfold Vu
 by_cases h1:x.way=1
 ·simp [h1] at h⊢;exact h
 ·by_cases h4:x.way=4
  ·rw [if_neg h1,if_pos h4];exact h
  ·rw [if_neg h1,if_neg h4]
   simp [h1,h4] at h⊢
   exact h
theorem Zd5 {t:TxS} {a b:LI} (h:Y5 ZB t=true):Y5 ZB (Z8N t a b)=true:=by
 rw [<-Z3d] at h⊢
 unfold Z49 at h⊢
 simp only [J3,decide_eq_true_eq,K5,Jq] at h⊢
 obtain ⟨⟨⟨⟨⟨h1,h2⟩,h3⟩,h4⟩,h5⟩,h6⟩:=h
 refine ⟨⟨⟨⟨⟨h1,h2⟩,h3⟩,fun i hi=> ?_⟩,h5⟩,h6⟩
 have hi:i<t.N:=hi
 have h:=h4 i hi
 unfold okI at h⊢
 rw [QJ hi]
 simp only [J3,Ja,JF,Jq] at h⊢
 refine ⟨Z6W h.1,fun j hj hs=> ?_⟩
 have hj':j<t.N:=by omega
 rw [Wu,QJ hj'] at hs
 obtain ⟨c1,c2,_⟩:=Uq (Zl (loH a b) t) (Zl (hiH a b) t) (Zl a t) (t.ins i)
 obtain ⟨c3,c4,_⟩:=Uq (Zl (loH a b) t) (Zl (hiH a b) t) (Zl a t) (t.ins j)
 rw [c1,c2,c3,c4] at hs
 exact h.2 j hj (Wu.2 hs)
theorem Zb8 {t:TxS} {at_:Int} {o:Zp} {height:Int} (h1:Y5 ZB t=true) (h2:0<=at_/\at_<t.N) (h3:ZH o=true) (h4:0<=height) (h5:Z0b WI Xb Wp (XZ t) (t.ins at_.toNat) o 0 height=true):Xr t at_ o 0 height=0:=by
 unfold Xr
 rw [Z5f (by
  rintro (h|h|h|h|h|h)
  ·rw [h1] at h;cases h
  ·omega
  ·omega
  ·rw [h3] at h;cases h
  ·omega
  ·omega),if_pos h5]
theorem Z3p {x y:LI} (h:x.length=y.length) (hx:Bytes x) (hy:Bytes y) (hne:x≠y):(Xh x y>0/\¬Xh y x>0)\/(¬Xh x y>0/\Xh y x>0):=by
 have h1:=Un h
 have h2:=Un h.symm
 have h3:YI x≠YI y:=fun e=>hne (Z5q h hx hy e)
 omega
theorem Z5r {t:Zi} (ht:t.Ok) (hb:ZX t=true):ZH (Wv t)=true/\(Wv t).Ok:=by
 obtain ⟨x,c,d,f,e,hk⟩:=XD hb
 have ha:=Z3p (ht.k0.trans ht.k1.symm) ht.b0 ht.b1 hk
 have hs:=Un (ht.k0.trans ht.k1.symm)
 constructor
 ·unfold ZH Wv
  rcases ha with ⟨a1,a2⟩|⟨a1,a2⟩
  ·simp only [if_pos a1]
   simp
   omega
  ·simp only [if_neg a1]
   simp
   omega
 ·unfold Wv
  refine ⟨?_, ?_,rfl,rfl⟩
  ·show (if Xh t.k0 t.k1>0 then t.k1 else t.k0).length=32
   split;exact ht.k1;exact ht.k0
  ·show (if Xh t.k0 t.k1>0 then t.k0 else t.k1).length=32
   split;exact ht.k0;exact ht.k1
theorem Z5s {t:Zi} {a b fee:Int} (ht:t.All) (h:ZG t a b fee=0):Xr (Z8N (txC t a b fee) t.k0 t.k1) 0 (Wv t) 0 0=0:=by
 have hb:=(Wa.1 (Z6J h).1).1
 obtain ⟨x,c,d,f,e,hk⟩:=XD hb
 have ha:=Z3p (ht.ok.k0.trans ht.ok.k1.symm) ht.ok.b0 ht.ok.b1 hk
 refine Zb8 (Zd5 (Z0d h)) ⟨JY _,by show (0:Int)<(1:Nat);decide⟩ (Z5r ht.ok hb).1 (JY _) ?_
 rw [Z8O,show ((0:Int).toNat)=0 from rfl,QJ (show 0<1 from JV)]
 show Z0b _ _ _ _ (Vu _ _ _ (Z0K t)) _ _ _=true
 unfold Vu Z0K Z0b Wv loH hiH
 rcases ha with ⟨a1,a2⟩|⟨a1,a2⟩
 ·simp [a1,a2,Z2c]
 ·simp [a1,a2,Z2c]
def tgC (Tg:LI->TxS->LI) (k:ClS):TxS:=⟨2147483647,1,ctG Tg k,(ZP (clL k.t k.a0 k.a1 k.fee)).length,Yk (ZP (clL k.t k.a0 k.a1 k.fee))⟩
theorem Z4p (k:ClS):tgC Zl k=Z8N (txC k.t k.a0 k.a1 k.fee) k.t.k0 k.t.k1:=rfl
def Zha (t:Zi) (mt:Bool) (p:Bool×Mt) (said:Int):St:=lmS (cond p.1 1 0) t p.2.x p.2.y p.2.kd p.2.am p.2.tg mt said
noncomputable def Zhb (A:LI->Int×Int) (SB:Zm->Bool) (M:Int->Int->Int) (Tg:LI->TxS->LI) (TS:TxS->TxS->Bool) (SP:TxS->Int->Zp->Int->Int->Int) (S0:St) (X:Nat->St) (n:Nat) (C:Prop) (Z2 Z3:Nat->Prop):Zf:=(Zd1 A SB M Tg TS SP).withL 3 0 (goM 0 S0 C (XY 0 n 9 (fun i=>i<n) Z2 Z3 (fun _=>False) X (fun _=>lmR) (fun _=>lmR)))
def agK (k:ClS):ClS:=clO k k.offers k.last true k.fee
theorem Z5t {k:ClS} (h:k.agrees=true):agK k=k:=by
 obtain ⟨t,sd,a0,a1,le,mo,o0,l0,g0,f0⟩:=k
 subst h
 rfl
structure CmE (SP:TxS->Int->Zp->Int->Int->Int) (TS:TxS->TxS->Bool) (Tg:LI->TxS->LI) (t:Zi) (mt:Bool) (x y:ClS):Prop where
 hmt:mt=true
 kx:TxK x
 ky:TxK y
 ex:ZG x.t x.a0 x.a1 x.fee=0
 ey:ZG y.t y.a0 y.a1 y.fee=0
 fee:x.fee=y.fee
 ok:(tgC Tg x).Ok/\(tgC Tg y).Ok
 same:TS (tgC Tg x) (tgC Tg y)=true
 sp:SP (tgC Tg x) 0 (Wv t) 0 0=0
 tb:ZX t=true
 fo:(Wv t).Ok
theorem Zhc (A:LI->Int×Int) (SB:Zm->Bool) (M:Int->Int->Int) (Tg:LI->TxS->LI) (TS:TxS->TxS->Bool) (SP:TxS->Int->Zp->Int->Int->Int) (t:Zi) (a b le mo lo hi:Int) (mt:Bool) (X Y:Nat->ClS) (n:Nat) (x0:ClS) (kd am:Int) (tg:LI) (C:Prop) (Z2 Z3:Nat->Prop) (hn:n<=2) (ht:t.Ok) (hO:Yt A (k0C t 0 a b le mo)=true->XQ (k0C t 0 a b le mo)) (hB:Yt A (k0C t 0 a b le mo)=true->Yt A (k0C t 1 a b lo hi)=true->∀r,r=Z0L Tg (k0C t 0 a b le mo)->(r.e=0\/r.e=180)/\(r.e=0->(U4 (k0C t 0 a b le mo) r=x0/\r.kd=kd/\r.am=am/\r.tg=tg/\QI le mo lo hi=mt)/\C)) (hZ:C->∀i,i<=n->Z2 i->CmE SP TS Tg t mt (agK (X i)) (agK (Y i))):
  evF (Zhb A SB M Tg TS SP (lmS 1 t x0 (k0C t 1 a b lo hi) kd am tg mt 1) (fun i=>lmX t (X i) (Y i) mt ((i:Int)+1)) n C Z2 Z3) 20 3 [.agg t.c,.int .i64 a,.int .i64 b,.int .i64 le,.int .i64 mo,.int .i64 lo,.int .i64 hi] ⟨0,[]⟩ (Us fun v=>v=.bool true):=by
 refine @Eq.mpr _ (let J:=t.fund;let I:=t.index;let H:=t.cap;let G:=t.dust;let F:=t.fee;let E:=t.delay;let D:=t.k0;let B:=t.k1;let K:=AV.int i64 0;let R:=AV.bool false;let y:=AV.bool true;let Q:=[y];let x:=y=y;let w:=R=y;let u:=x0.t;let z:=k0C t 1 a b lo hi;let s:=z.t;let V:=(-9223372036854775808:Int)<=0/\(0:Int)<9223372036854775808;
 ∃(t_1:Zi),
 let P:=[AV.arr u8 32 J,AV.int i64 I,AV.int i64 H,AV.int i64 G,AV.int i64 F,AV.int i64 E,AV.arr u8 32 D,AV.arr u8 32 B];
 ∃(a_1:Int),
 let O:=[a,b];
 ∃(b:Int),
 let v:=k0C t_1 0 a_1 b le mo;let U:=Yt A v;let q:=v.t;
 Z4m P t_1/\
 O=[a_1,b]/\
 Zi.Ok t_1/\
 (U=true->
 ∃(t_2:Zi),
 ∃(a:Int),
 ∃(b:Int),
 let f:=k0C t_2 1 a b lo hi;let T:=Yt A f;let p:=f.t;
 Z4m P t_2/\
 O=[a,b]/\
 Zi.Ok t_2/\
 (T=true->
 ∃(k:ClS),
 let m:=k.t;
 XP (AV.arr u8 32 q.fund::AV.int i64 q.index::AV.int i64 q.cap::AV.int i64 q.dust::AV.int i64 q.fee::AV.int i64 q.delay::AV.arr u8 32 q.k0::AV.arr u8 32 q.k1::K::AV.arr i64 2 [v.a0,v.a1]::AV.int i64 v.least::AV.int i64 v.most::R::K::R::K::Q) k/\
 XQ k/\
 ∀(r:HR),
 r=Z0L Tg k->
 Z7 (r.e !=0) (Z7 (r.e==180) x w) (Z6 (decide ((if lo>le then lo else le)<=if hi<mo then hi else mo)=mt) (J=J/\
 Z6 (I=I) (Z6 (H=H) (Z6 (G=G) (Z6 (F=F) (Z6 (E=E) (D=D/\
 B=B/\
 m.fund=u.fund/\
 Z6 (m.index=u.index) (Z6 (m.cap=u.cap) (Z6 (m.dust=u.dust) (Z6 (m.fee=u.fee) (Z6 (m.delay=u.delay) (m.k0=u.k0/\
 m.k1=u.k1/\
 Z6 (k.side=x0.side) ([k.a0,k.a1]=[x0.a0,x0.a1]/\
 Z6 (k.least=x0.least) (Z6 (k.most=x0.most) (Z6 (r.of=x0.offers) (Z6 (r.la=x0.last) (Z6 (r.ag=x0.agrees) (Z6 (r.fe=x0.fee) (p.fund=s.fund/\
 Z6 (p.index=s.index) (Z6 (p.cap=s.cap) (Z6 (p.dust=s.dust) (Z6 (p.fee=s.fee) (Z6 (p.delay=s.delay) (p.k0=s.k0/\
 p.k1=s.k1/\
 [f.a0,f.a1]=[z.a0,z.a1]/\
 Z6 (f.least=z.least) (Z6 (f.most=z.most) (Z6 (r.kd=kd) (Z0=Z0/\
 Z0=Z0/\
 Z0=Z0/\
 Z6 (r.am=am) (Z0=Z0/\
 Z0=Z0/\
 Z0=Z0/\
 Z0=Z0/\
 r.tg=tg/\
 Z0=Z0/\
 ByteArray.empty=ByteArray.empty/\
 C/\
 ∀(i:Nat),
 let l:=(X i).t;let h:=(Y i).t;
 i<=n->
 (∀(j:Nat),j<i->(fun (i:Nat)=>i<n) j)->
 (Z2 i->
 ∃(k:ClS),
 XP (AV.arr u8 32 l.fund::AV.int i64 l.index::AV.int i64 l.cap::AV.int i64 l.dust::AV.int i64 l.fee::AV.int i64 l.delay::AV.arr u8 32 l.k0::AV.arr u8 32 l.k1::AV.int i64 (X i).side::AV.arr i64 2 [(X i).a0,(X i).a1]::AV.int i64 (X i).least::AV.int i64 (X i).most::AV.bool (X i).offers::AV.int i64 (X i).last::y::AV.int i64 (X i).fee::Q) k/\
 TxK k/\
 ZG k.t k.a0 k.a1 k.fee=0/\
 ∀(n_1:Nat),
 let S:=decide (0+n_1<=n_1);
 ∀(L:List Zg),
 L=ZP (clL k.t k.a0 k.a1 k.fee)->
 n_1=L.length->
 n_1<=2->
 ∃(k_1:ClS),
 XP (AV.arr u8 32 h.fund::AV.int i64 h.index::AV.int i64 h.cap::AV.int i64 h.dust::AV.int i64 h.fee::AV.int i64 h.delay::AV.arr u8 32 h.k0::AV.arr u8 32 h.k1::AV.int i64 (Y i).side::AV.arr i64 2 [(Y i).a0,(Y i).a1]::AV.int i64 (Y i).least::AV.int i64 (Y i).most::AV.bool (Y i).offers::AV.int i64 (Y i).last::y::AV.int i64 (Y i).fee::Q) k_1/\
 TxK k_1/\
 ZG k_1.t k_1.a0 k_1.a1 k_1.fee=0/\
 ∀(n_2:Nat) (L_1:List Zg),
 L_1=ZP (clL k_1.t k_1.a0 k_1.a1 k_1.fee)->
 n_2=L_1.length->
 n_2<=2->
 ∃(t_3:Zi),
 let g:=Wv t_3;
 t_3=Zi.mk J I H G F E D B/\
 Zi.Ok t_3/\
 ZX t_3=true/\
 Z7 (!mt) w (Z7 (decide ((↑i:Int)+1>3)) w (Z7 ((X i).fee !=(Y i).fee) w ((∀(i:Nat),i<1->true=true)/\
 Z5 S ((∀(i:Nat),i<n_1->true=true)/\
 (∀(i:Nat),i<1->true=true)/\
 Z6 (0+n_2<=n_2) ((∀(i:Nat),i<n_2->true=true)/\
 ∃(a:TxS),
 ∃(b:TxS),
 (a.num=2147483647/\
 (((1:Nat)=1/\a.N=1)/\
 ∀(i:Nat),
 let d:=ctG Tg k i;
 i<1->[AV.arr u8 32 d.name,AV.int i64 d.index,AV.int i64 d.way,AV.arr u8 32 d.tag,AV.arr u8 32 d.also,AV.arr u8 32 d.secret]=InS.c (a.ins i))/\
 (n_1=n_1/\a.M=n_1)/\
 ∀(i:Nat),
 let d:=Yk L i;
 i<n_1->[AV.int i64 d.kind,AV.int i64 d.amount,AV.arr u8 32 d.owner,AV.arr u8 32 d.other,AV.arr u8 32 d.point,AV.arr u8 32 d.hash,AV.int i64 d.delay,AV.int i64 d.expiry]=Zp.c (a.outs i))/\
 (b.num=2147483647/\
 (((1:Nat)=1/\b.N=1)/\
 ∀(i:Nat),
 let d:=ctG Tg k_1 i;
 i<1->[AV.arr u8 32 d.name,AV.int i64 d.index,AV.int i64 d.way,AV.arr u8 32 d.tag,AV.arr u8 32 d.also,AV.arr u8 32 d.secret]=InS.c (b.ins i))/\
 (n_2=n_2/\b.M=n_2)/\
 ∀(i:Nat),
 let d:=Yk L_1 i;
 i<n_2->[AV.int i64 d.kind,AV.int i64 d.amount,AV.arr u8 32 d.owner,AV.arr u8 32 d.other,AV.arr u8 32 d.point,AV.arr u8 32 d.hash,AV.int i64 d.delay,AV.int i64 d.expiry]=Zp.c (b.outs i))/\
 (TxS.Ok a/\TxS.Ok b)/\
 Z7 (TS a b) ((∀(i:Nat),i<1->true=true)/\
 Z5 S ((∀(i:Nat),i<n_1->true=true)/\
 ∃(t:TxS),
 ∃(o:Zp),
 (t.num=2147483647/\
 (((1:Nat)=1/\t.N=1)/\
 ∀(i:Nat),
 let d:=ctG Tg k i;
 i<1->[AV.arr u8 32 d.name,AV.int i64 d.index,AV.int i64 d.way,AV.arr u8 32 d.tag,AV.arr u8 32 d.also,AV.arr u8 32 d.secret]=InS.c (t.ins i))/\
 (n_1=n_1/\t.M=n_1)/\
 ∀(i:Nat),
 let d:=Yk L i;
 i<n_1->[AV.int i64 d.kind,AV.int i64 d.amount,AV.arr u8 32 d.owner,AV.arr u8 32 d.other,AV.arr u8 32 d.point,AV.arr u8 32 d.hash,AV.int i64 d.delay,AV.int i64 d.expiry]=Zp.c (t.outs i))/\
 [AV.int i64 g.kind,AV.int i64 g.amount,AV.arr u8 32 g.owner,AV.arr u8 32 g.other,AV.arr u8 32 g.point,AV.arr u8 32 g.hash,AV.int i64 g.delay,AV.int i64 g.expiry]=Zp.c o/\(TxS.Ok t/\Zp.Ok o/\V/\V)/\Z7 (SP t 0 o 0 0==0) x w)) w))))))/\
 (Z3 i->x)/\(False->False))))))))))))))))))))))))))))))/\
 (T=false->x))/\
 (U=false->
 ∃(t:Zi),
 ∃(a:Int),
 ∃(b:Int),
 let f:=Yt A (k0C t 1 a b lo hi);
 Z4m P t/\O=[a,b]/\Zi.Ok t/\(f=true->x)/\(f=false->x))) (by kernel_rfl) ?_
 conv=>zeta
 try simp only [vcA]
 try simp only [vcB]
 try simp only [vcC]
 refine ⟨t,a,b,⟨rfl⟩,rfl,ht,fun h0=>⟨t,a,b,⟨rfl⟩,rfl,ht,fun h1=>⟨k0C t 0 a b le mo,⟨rfl⟩,hO h0,fun r hr=> ?_⟩,fun _=>trivial⟩,fun _=>⟨t,a,b,⟨rfl⟩,rfl,ht,fun _=>trivial,fun _=>trivial⟩⟩
 obtain ⟨he,hg⟩:=hB h0 h1 r hr
 refine ⟨fun h2=>⟨fun _=>trivial,fun h3=> ?_⟩,fun h2=> ?_⟩
 ·rcases he with he|he
  ·rw [he] at h2;cases h2
  ·rw [he] at h3;cases h3
 have e0:r.e=0:=by simpa using h2
 obtain ⟨⟨rfl,rfl,rfl,rfl,hm⟩,hC⟩:=hg e0
 refine ⟨hm, ?_⟩
 and_intros
 all_goals first
  | rfl
  | trivial
  | exact hC
  | skip
 intro i hi _
 refine ⟨fun hz=> ?_,fun _=>trivial,fun h=>h⟩
 obtain ⟨m1,tx,ty,ex,ey,fee,⟨ok1,ok2⟩,same,sp,tb,fo⟩:=hZ hC i hi hz
 refine ⟨agK (X i),⟨rfl⟩,tx,ex,fun n1 L1 hL1 hn1 hb1=>⟨agK (Y i),⟨rfl⟩,ty,ey,fun n2 L2 hL2 hn2 hb2=>⟨t,rfl,ht,tb,fun h=>by simp [m1] at h,fun _=>⟨fun h=>absurd h (by omega),fun _=>⟨fun h=>absurd fee (bne_iff_ne.1 h),fun _=> ?_⟩⟩⟩⟩⟩
 subst hL1 hn1 hL2 hn2
 refine ⟨fun _ _=>trivial,fun _ _=>trivial,fun _ _=>trivial,fun _ _=>trivial,tgC Tg (agK (X i)),tgC Tg (agK (Y i)),⟨rfl,⟨rfl,fun _ _=>rfl⟩,rfl,fun _ _=>rfl⟩,⟨rfl,⟨rfl,fun _ _=>rfl⟩,rfl,fun _ _=>rfl⟩,⟨ok1,ok2⟩,fun _=>⟨fun _ _=>trivial,fun _ _=>trivial,tgC Tg (agK (X i)),Wv t,⟨rfl,⟨rfl,fun _ _=>rfl⟩,rfl,fun _ _=>rfl⟩,rfl,⟨ok1,fo,⟨by decide,by decide⟩,by decide,by decide⟩,fun _=>trivial,fun h=> ?_⟩,fun h=>absurd (same.symm.trans h) (by decide)⟩
 rw [sp] at h
 cases h
theorem Run.lm {mt:Bool} {n i:Nat} {e:Bool} {m:Mt} (h:Run mt (n-i) e m) (hi:i<=n):LmR (mtR e m) mt (cond e m.x m.y).agrees (i<n) ((cond e m.x m.y).agrees=true/\(mtR e m).ag=true/\i=n/\mt=true/\(cond e m.x m.y).fee=(mtR e m).fe) True:=by
 generalize hq:n-i=q at h
 have no:∀{a b:Int},(mtR e m).e=a->a≠b->¬(mtR e m).e=b:=fun h1 h2 h3=>h2 (h1.symm.trans h3)
 cases h with
 | few _ _ h=>exact ⟨fun he=>absurd he (no h (by decide)),fun he=>absurd he (no h (by decide)),fun _=>trivial,fun he=>absurd he (no h (by decide)),.inr (.inl h)⟩
 | apart _ _ h h1 h2 h3=>exact ⟨fun he=>absurd he (no h (by decide)),fun he=>absurd he (no h (by decide)),fun _=>trivial,fun _=>⟨⟨h1,h2,h3⟩,trivial⟩,.inr (.inr h)⟩
 | stop _ _ h h1 h2 h3 h4 h5=>exact ⟨fun _ hs=>absurd (hs.symm.trans h1) (by decide),fun _ _=>⟨h3,h4,by omega,h2,h5⟩,fun _=>trivial,fun he=>absurd he (no h (by decide)),.inl h⟩
 | go _ _ _ h h1 _=>exact ⟨fun _ _=>by omega,fun _ hs=>absurd (h1.symm.trans hs) (by decide),fun _=>trivial,fun he=>absurd he (no h (by decide)),.inl h⟩
structure LpC (t:Zi) (a b:Int) (mt:Bool) (m:Mt) (n:Nat):Prop where
 run:Run mt n true m
 ok:Z8M t a b m
 n2:n<=2
def LpZ (mt:Bool) (m:Mt) (n i:Nat):Prop:=i=n/\mt=true/\(mtS m (i+1)).2.x.agrees=true/\(mtS m (i+1)).2.y.agrees=true/\(mtS m (i+1)).2.x.fee=(mtS m (i+1)).2.y.fee
theorem LmR.imp {r:HR} {mt g:Bool} {Z1 Z2 Z3 Y1 Y2:Prop} (h:LmR r mt g Z1 Z2 Z3) (h1:Z1->Y1) (h2:Z2->Y2):LmR r mt g Y1 Y2 Z3:=⟨fun a b=>h1 (h.go a b),fun a b=>h2 (h.stop a b),h.few,h.apart,h.e⟩
theorem Z7O (t:Zi) (a b:Int) (mt:Bool) (m:Mt) (n:Nat):(Zhb ZB X5 Y9 Zl Wt Xr (Zha t mt (true,m) 1) (fun i=>lmX t (mtS m (i+1)).2.x (mtS m (i+1)).2.y mt ((i:Int)+1)) n (LpC t a b mt m n) (LpZ mt m n) (fun _=>True)).Ok:=
 Zf.withGoM (N:=20) (S:=fun i=>Zha t mt (mtS m i) ((i:Int)+1)) Zd2 (by kernel_rfl) fun hC=>⟨rfl,fun i hi _=>by
  have hr:=Z7N (mt:=mt) (m:=m) i (n-i) (by rw [show i+(n-i)=n by omega];exact hC.run)
  have hok:=Z6U hC.ok i
  have h2:=hC.n2
  have hL:=hr.lm hi
  have hs:mtS m (i+1)=(!(mtS m i).1,mtN (mtS m i).1 (mtS m i).2):=rfl
  unfold LpZ
  simp only [hs]
  clear hs hr
  generalize mtS m i=p at*
  obtain ⟨e,⟨x,y,kd,am,tg⟩⟩:=p
  cases e with
  | true=>exact ZhV ZB X5 Y9 Zl Wt Xr t x y _ _ _ kd am _ _ tg _ mt _ _ _ _ _ _ (by omega) (by omega) hok.y (Z11 hok.kd) rfl (hL.imp (fun h=>⟨⟨rfl,rfl,rfl,rfl⟩,h,h⟩) fun ⟨q1,q2,q3,q4,q5⟩=>⟨⟨rfl,q1,rfl,q2⟩,q3,q4,q1,q2,q5⟩)
  | false=>exact ZhW ZB X5 Y9 Zl Wt Xr t x y _ _ _ kd am _ _ tg _ mt _ _ _ _ _ _ (by omega) (by omega) hok.x (Z11 hok.kd) rfl (hL.imp (fun h=>⟨⟨rfl,rfl,rfl,rfl⟩,h,h⟩) fun ⟨q1,q2,q3,q4,q5⟩=>⟨⟨rfl,q1,rfl,q2⟩,q3,q4,q2,q1,q5.symm⟩)⟩
structure Zdz where
 w:Int
 s:Zm
 fe:Int
 be:Int
def Zdz.c (a:Zdz):List AV:=.int .i64 a.w::(a.s.c++[.int .i64 a.fe,.int .u8 a.be])
theorem Z6X {t:Zi} {sd a b lo hi:Int} (ht:t.All) (h:Yt ZB (k0C t sd a b lo hi)=true):Ww (k0C t sd a b lo hi):=⟨⟨Z3m.1 h,(fun h=>nomatch h),fun _=>rfl,(fun h=>nomatch h),fun _=>rfl⟩,ht⟩
def ctermTy:List Ty:=[.arr .u8 32,.int .i64,.int .i64,.int .i64,.int .i64,.int .i64,.arr .u8 32,.arr .u8 32]
theorem Z5u {a:AV} (h:Z38 true ctermTy a):∃t:Zi,a=.agg t.c/\t.All:=by
 cases h with|agg _ u h=>
 unfold ctermTy at h
 cases h with|cons _ a1 _ u h1 h=>
 cases h with|cons _ a2 _ u h2 h=>
 cases h with|cons _ a3 _ u h3 h=>
 cases h with|cons _ a4 _ u h4 h=>
 cases h with|cons _ a5 _ u h5 h=>
 cases h with|cons _ a6 _ u h6 h=>
 cases h with|cons _ a7 _ u h7 h=>
 cases h with|cons _ a8 _ u h8 h=>
 cases h;cases h1;cases h2;cases h3;cases h4;cases h5;cases h6;cases h7;cases h8
 rename_i x1 l1 w1 x2 w2 x3 w3 x4 w4 x5 w5 x6 w6 x7 l7 w7 x8 l8 w8
 exact ⟨⟨x1,x2,x3,x4,x5,x6,x7,x8⟩,rfl,⟨⟨l7,l8,Z2b l7 w7,Z2b l8 w8⟩,l1,Z2b l1 w1⟩⟩
theorem Wb {a:AV} (h:Z38 false [.int .i64] a):∃n:Int,a=.int .i64 n:=by
 cases h with|one _ _ h=>
 cases h
 exact ⟨_,rfl⟩
end Go.Tk
end
section
namespace Go.Tk
open IntKind (i64 u8 u32 u64 wrap)
theorem Zb9 {t:Zi} {a b:Int} {mt:Bool} {m:Mt} {n:Nat} (ht:t.All) (hC:LpC t a b mt m n) (i:Nat) (hz:LpZ mt m n i):CmE Xr Wt Zl t mt (agK (mtS m (i+1)).2.x) (agK (mtS m (i+1)).2.y):=by
 obtain ⟨_,hm,ax,ay,hf⟩:=hz
 have hok:=Z6U hC.ok (i+1)
 generalize (mtS m (i+1)).2=p at*
 obtain ⟨x,y,kd,am,tg⟩:=p
 have ax:x.agrees=true:=ax
 have ay:y.agrees=true:=ay
 have hf:x.fee=y.fee:=hf
 obtain ⟨gx,gy,_,⟨x1,x2,x3⟩,y1,y2,y3⟩:=hok
 have gx:Ww x:=gx
 have gy:Ww y:=gy
 have x1:x.t=t:=x1
 have x2:x.a0=a:=x2
 have x3:x.a1=b:=x3
 have y1:y.t=t:=y1
 have y2:y.a0=a:=y2
 have y3:y.a1=b:=y3
 show CmE Xr Wt Zl t mt (agK x) (agK y)
 rw [Z5t ax,Z5t ay]
 have ok:∀k:ClS,Ww k->(tgC Zl k).Ok:=fun k hk=>by
  rw [Z4p]
  exact Zd4 (Z0c hk.t.ok hk.t.fl)
 have e:tgC Zl x=tgC Zl y:=by
  rw [Z4p,Z4p,x1,x2,x3,y1,y2,y3,hf]
 have ex:=(gx.i.agr ax).2.2
 have tb:ZX t=true:=by
  have:=gx.i.made.t
  rwa [x1] at this
 refine ⟨hm,gx.x,gy.x,ex,(gy.i.agr ay).2.2,hf,⟨ok x gx,ok y gy⟩, ?_, ?_,tb,(Z5r ht.ok tb).2⟩
 ·rw [e];exact Z8K _
 ·rw [Z4p,x1]
  rw [x1] at ex
  exact Z5s ht ex
theorem closemeets_walk {us:List AV} (h:Z39 [(true,ctermTy),(false,[.int .i64]),(false,[.int .i64]),(false,[.int .i64]),(false,[.int .i64]),(false,[.int .i64]),(false,[.int .i64])] us):Zh PP 3 us ⟨0,[]⟩ fun o h'=>∃v,o=.ret v/\h'=⟨0,[]⟩/\v=.bool true:=by
 cases h with|cons _ _ u1 _ _ h1 h=>
 cases h with|cons _ _ u2 _ _ h2 h=>
 cases h with|cons _ _ u3 _ _ h3 h=>
 cases h with|cons _ _ u4 _ _ h4 h=>
 cases h with|cons _ _ u5 _ _ h5 h=>
 cases h with|cons _ _ u6 _ _ h6 h=>
 cases h with|cons _ _ u7 _ _ h7 h=>
 cases h
 obtain ⟨t,rfl,ht⟩:=Z5u h1
 obtain ⟨a,rfl⟩:=Wb h2
 obtain ⟨b,rfl⟩:=Wb h3
 obtain ⟨le,rfl⟩:=Wb h4
 obtain ⟨mo,rfl⟩:=Wb h5
 obtain ⟨lo,rfl⟩:=Wb h6
 obtain ⟨hi,rfl⟩:=Wb h7
 have hO:Yt ZB (k0C t 0 a b le mo)=true->XQ (k0C t 0 a b le mo):=fun h=>(Z6X ht h).o
 have b0:(k0C t 0 a b le mo).agrees=false:=rfl
 have b1:¬((k0C t 0 a b le mo).side≠0\/(k0C t 0 a b le mo).offers=true):=fun h=>h.elim (fun q=>q rfl) (fun q=>nomatch q)
 by_cases hE:Yt ZB (k0C t 0 a b le mo)=true/\Yt ZB (k0C t 1 a b lo hi)=true/\ZG t a b le=0
 ·obtain ⟨m0,m1,e0⟩:=hE
  have gx:=Z6X ht m0
  have gy:=Z6X ht m1
  obtain ⟨n,hn,hr⟩:=Zb7 (tg:=Yh Zl (k0C t 0 a b le mo) le 0) gx gy e0 rfl
  have mx:=gx.i.made
  have gx1:Ww ⟨t,0,a,b,le,mo,true,le,false,0⟩:=⟨⟨⟨mx.t,mx.side,mx.a0,mx.a1,mx.sum,mx.lo,mx.lm,mx.hi⟩,fun _=>⟨JY _,mx.lm⟩,(fun h=>nomatch h),(fun h=>nomatch h),fun _=>rfl⟩,ht⟩
  have hC:LpC t a b (QI le mo lo hi) ⟨⟨t,0,a,b,le,mo,true,le,false,0⟩,k0C t 1 a b lo hi,13,le,Yh Zl (k0C t 0 a b le mo) le 0⟩ n:=⟨hr,⟨gx1,gy,by
   unfold Yh
   split
   ·exact Xf _ _
   ·rfl,⟨rfl,rfl,rfl⟩,⟨rfl,rfl,rfl⟩⟩,hn⟩
  exact W7 (h:=⟨0,[]⟩) (Z7O t a b (QI le mo lo hi) ⟨⟨t,0,a,b,le,mo,true,le,false,0⟩,k0C t 1 a b lo hi,13,le,Yh Zl (k0C t 0 a b le mo) le 0⟩ n) rfl (Zhc ZB X5 Y9 Zl Wt Xr t a b le mo lo hi _ _ _ n _ _ _ _ _ _ _ hn ht.ok hO (fun _ _ r hr=>by
   rw [Z6O b0 b1 e0] at hr
   subst hr
   exact ⟨.inl rfl,fun _=>⟨⟨rfl,rfl,rfl,rfl,rfl⟩,hC⟩⟩) (fun hC i _ hz=>Zb9 ht hC i hz)) (fun u hu=>hu)
 ·exact W7 (h:=⟨0,[]⟩) (Z7O t a b (QI le mo lo hi) ⟨k0C t 0 a b le mo,k0C t 1 a b lo hi,13,le,Z0⟩ 0) rfl (Zhc ZB X5 Y9 Zl Wt Xr t a b le mo lo hi _ _ _ 0 _ _ _ _ _ _ _ (by decide) ht.ok hO (fun m0 m1 r hr=>by
   have mx:=Z3m.1 m0
   have x6:0<=le:=mx.lo
   have x7:le<=mo:=mx.lm
   have x8:mo<=a:=mx.hi
   have e180:ZG t a b le=180:=(Z7M (t:=t) (a:=a) (b:=b) (fee:=le) mx.t ⟨x6,Int.le_trans x7 x8⟩ mx.a1 mx.sum).resolve_left fun e0=>hE ⟨m0,m1,e0⟩
   rw [Z6N b0 b1 e180 (by decide)] at hr
   subst hr
   exact ⟨.inr rfl,fun h=>nomatch h⟩) (fun hC i _ hz=>Zb9 ht hC i hz)) (fun u hu=>hu)
end Go.Tk
namespace Go.Proofs.YtdfjhgjefkkkbaaGreat.closeMeets
open Go.ChangeShapes Go.WideShapes Go.ChangeAt Go.RowKit
theorem own:ownKnob Tryz.prog.godebug=none:=by kernel_rfl
theorem laidOut:laidOutB Tryz.prog=true:=by kernel_rfl
theorem lifted (os:Os) (started:os.Started) (H:Type) (enc:TypeId×Value->H):
  ReturnsInHanded {} Tryz.checked os 3 .any (Rows.closeMeetsSpec.pre6 enc Tryz.prog Tryz.f3 Rows.closeMeetsRow.domain false) (Rows.closeMeetsSpec.post enc Tryz.prog Tryz.f3 false true false false):=
 Go.Tk.lifted_gen (C:=Tryz.checked) (m:=8) (τs:=[(true,Go.Tk.ctermTy),(false,[.int .i64]),(false,[.int .i64]),(false,[.int .i64]),(false,[.int .i64]),(false,[.int .i64]),(false,[.int .i64])]) own laidOut started (by kernel_rfl) Tryz.func3
  (ChangeSpec.witness6 (enc:=enc) (C:=Tryz.checked) false ⟨#[], #[.agg (Array.replicate 32 (.int .u8 0)++ #[.int .i64 0,.int .i64 0,.int .i64 0,.int .i64 0,.int .i64 0]++Array.replicate 64 (.int .u8 0)),.int .i64 0,.int .i64 0,.int .i64 0,.int .i64 0,.int .i64 0,.int .i64 0],[]⟩ 8 (by kernel_rfl) (by kernel_rfl) (by kernel_rfl) (by kernel_rfl))
  rfl (tb:=4) rfl Tryz.underlying4 (by kernel_rfl) (by kernel_rfl) (fun ds h=>by
   match ds,h with
   | [a,b,c,d,e,f,g],_=>rfl) fun us h=>Go.Tk.closemeets_walk h
theorem Zf2:Tryz.pinned.checked.prog.funcNamed Rows.closeMeetsRow.func=some 3:=by kernel_rfl
theorem closed:joinedFacts Tryz.pinned.checked.prog 3 Tryz.f3 Rows.closeMeetsSpec Rows.closeMeetsRow=true:=by
 unfold joinedFacts
 repeat' with_reducible refine Go.Tk.and_mk ?_ ?_
 all_goals as_aux_lemma=>kernel_rfl
theorem over:Rows.closeMeetsRow.holds Tryz.pinned (OpenSpec.ofChange Rows.closeMeetsSpec):=
 OpenClaim.holds_of_wide 3 Tryz.f3 rfl rfl rfl rfl rfl rfl rfl ⟨rfl,rfl,rfl,rfl,rfl⟩ rfl rfl rfl rfl rfl Zf2 Tryz.func3 closed
  (of_decide_eq_true (by kernel_rfl)) (by unfold Func.isWrapper;first|(rw [if_pos (by decide+kernel)];kernel_rfl)|(rw [if_neg (by decide+kernel)];exact ⟨rfl,rfl⟩))
  (fun os started H enc _=>lifted os started H enc)
theorem proved:Rows.CloseMeetsSaid:=over
end Go.Proofs.YtdfjhgjefkkkbaaGreat.closeMeets
end
