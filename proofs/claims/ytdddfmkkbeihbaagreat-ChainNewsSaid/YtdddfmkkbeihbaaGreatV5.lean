/- V: part 5 of an engine (a symbolic evaluator, proved against the model) and of the walk by it. -/
import Derived.Test.YtdddfmkkbeihbaaGreatV4
set_option linter.unusedVariables false
set_option linter.unusedSimpArgs false
set_option maxRecDepth 100000
set_option maxHeartbeats 0
section
namespace Go.Tk
open IntKind (i64 u8 u32 u64 wrap)
variable {bl ms xs ys:LI} {B j:Nat} {H:LI->LI} {T2:LI->LI->LI} {G:Zd} {args:List AV} {v:AV} {τ:Ren} {E:Env} {vs:List Value} {kf vf:Nat->AV} {A:LI->Int×Int}
noncomputable def E44 (W:Int->LI):Zd:=G0.withF 38 (Z8u W)
theorem Zc3:(E44 Zk).Ok:=Zd.withF_ok Zt Z5W
def rbS (t:TxS) (core:Bool) (i:Nat) (xs:LI) (n:Nat):St:=⟨133,[(6,.int .i64 i),(2,.ptr (some ⟨0,0,0,0,0⟩)),(5,.nslice ⟨4,0,0,0,0⟩ 1 n n),(1,.bool core)],⟨5,[(4,.ints .u8 xs),(0,.flat t.c)]⟩,[]⟩
def rbR (t:TxS) (xs:LI) (n:Nat):St:=⟨133,[(2,.ptr (some ⟨0,0,0,0,0⟩)),(5,.nslice ⟨4,0,0,0,0⟩ 1 n n)],⟨5,[(4,.ints .u8 xs),(0,.flat t.c)]⟩,[]⟩
def Zc4 (t:TxS) (i:Nat) (xs:LI) (n:Nat):St:=⟨133,[(9,.int .i64 i),(2,.ptr (some ⟨0,0,0,0,0⟩)),(5,.nslice ⟨4,0,0,0,0⟩ 1 n n)],⟨5,[(4,.ints .u8 xs),(0,.flat t.c)]⟩,[]⟩
theorem WH (xs:LI):List.take xs.length (ZP 0 xs)=xs:=by rw [Y0,JU,Js]
theorem ZhX (W:Int->LI) (t:TxS) (i:Nat) (xs ys:LI) (n m:Nat) (Z1 Z2:Prop) (ht:t.Ok) (hi:i<=t.N) (hr:∀j,j<t.N->ZY (t.ins j)=true) (hW:W=Zk) (hn:xs.length=n) (hs:n<10000000000000) (hy:ys=xs++inW W true (t.ins i)) (hm:ys.length=m) (h1:i<t.N->Z1) (h2:i=t.N->Z2):
  Zz (E44 W) 20 89 0 0 (rbS t true i xs n) (rdM 0 0 9 (rbS t true (i+1) ys m) (rbR t xs n) (rbR t xs n) (rbR t xs n) Z1 Z2 False False):=by
 refine @Eq.mpr _ (let d:=t.N;let o:=t.ins (Int.toNat (↑i:Int));let l:=o.name;let k:=xs++l;let f:=k.length;let a:=o.index;let j:=W a;let e:=j.length;let h:=k++List.take e (ZP 0 j);let g:=h.length;let u:=decide (t.num=t.num);let c:=decide (d=d);let s:=Zg t.ins;let r:=s=s;let b:=decide (t.M=t.M);let q:=ZA t.outs;let p:=q=q;
 Z6 (decide ((↑i:Int)<(↑d:Int))) (Z5 (0<=(↑i:Int)/\(↑i:Int)<(↑d:Int)) (Z5 (u8=u8/\l.length=32) (Z5 (u8=u8/\xs.length=n) (Z5 (f*1<=140737488355328) (Z5 (a=a) (Z5 (0<=a) (Z5 (u8=u8/\0+e<=e) (Z5 (u8=u8/\f=f) (Z5 (g*1<=140737488355328) (Z5 (wrap i64 ((↑i:Int)+1)=(↑(i+1):Int)) (Z5 (g=m) (Z5 (m<=g) (h=ys/\Z0 u (Z0 c (r/\Z0 c (Z0 b (p/\Z0 b Z1))))))))))))))))) (Z5 (n=n) (Z5 (n<=n) (xs=xs/\Z0 u (Z0 c (r/\Z0 c (Z0 b (p/\Z0 b Z2)))))))) (by kernel_rfl) ?_
 conv=>zeta
 try simp only [vcA]
 try simp only [vcB]
 try simp only [vcC]
 refine ⟨fun hlt=> ?_,fun hge=>h2 (by omega)⟩
 obtain ⟨⟨w1,w2⟩,w3,w4⟩:=WG (hr i (by omega))
 obtain ⟨l1,l2,l3,l4⟩:=ht.ins i (by omega)
 have hw:=h1 (by omega)
 have hnn:=ht.n
 have hwr:i64.wrap ((i:Int)+1)=((i+1:Nat):Int):=w64 (by omega)
 have u1:=Zp (t.ins i).index
 have u2:=Zp (t.ins i).way
 subst hW
 rw [hwr]
 unfold inW at hy
 generalize t.ins i=x at*
 simp only [J5,WH]
 repeat' (first|(refine Ju ?_ ?_)|intro _)
 all_goals (try simp only [beq_iff_eq,bne_iff_ne,ne_eq,beq_eq_false_iff_ne,bne_eq_false_iff_eq] at*)
 all_goals first|omega|assumption|trivial|skip
 all_goals first|(rw [hy];simp [*];done)|(rw [<-hm,hy];simp [*];try omega;done)|skip
theorem ZhY (W:Int->LI) (t:TxS) (i:Nat) (xs ys:LI) (n m:Nat) (Z1 Z2:Prop) (ht:t.Ok) (hi:i<=t.N) (hr:∀j,j<t.N->ZY (t.ins j)=true) (hW:W=Zk) (hn:xs.length=n) (hs:n<10000000000000) (hy:ys=xs++inW W false (t.ins i)) (hm:ys.length=m) (h1:i<t.N->Z1) (h2:i=t.N->Z2):
  Zz (E44 W) 20 89 0 0 (rbS t false i xs n) (rdM 0 0 9 (rbS t false (i+1) ys m) (rbR t xs n) (rbR t xs n) (rbR t xs n) Z1 Z2 False False):=by
 refine @Eq.mpr _ (let v:=t.N;let c:=t.ins (Int.toNat (↑i:Int));let q3:=c.name;let T:=xs++q3;let y:=T.length;let l:=c.index;let J:=W l;let w:=J.length;let I:=T++List.take w (ZP 0 J);let H:=I.length;let d:=c.way;let a5:=W d;let G:=a5.length;let k:=I++List.take G (ZP 0 a5);let j:=k.length;let a4:=c.tag;let F:=decide (u8=u8/\j=j);let u:=k++a4;let h:=u.length;let a3:=d==1;let E:=c.also;let a2:=decide (u8=u8/\E.length=32);let a1:=decide (u8=u8/\h=h);let D:=u++E;let g:=D.length;let s:=d==4;let f:=c.secret;let r:=decide (u8=u8/\f.length=32);let a0:=D++f;let C:=a0.length;let b:=decide (wrap i64 ((↑i:Int)+1)=(↑(i+1):Int));let Z:=decide (t.num=t.num);let q:=decide (v=v);let Y:=Zg t.ins;let X:=Y=Y;let p:=decide (t.M=t.M);let V:=ZA t.outs;let U:=V=V;let a:=Z0 Z (Z0 q (X/\Z0 q (Z0 p (U/\Z0 p Z1))));let S:=Z0 r (Z5 (u8=u8/\g=g) (Z5 (C*1<=140737488355328) (Z0 b (Z5 (C=m) (Z5 (m<=C) (a0=ys/\a))))));let o:=d==5;let R:=u++f;let B:=R.length;let Q:=Z0 r (Z0 a1 (Z5 (B*1<=140737488355328) (Z0 b (Z5 (B=m) (Z5 (m<=B) (R=ys/\a))))));let A:=k++E;let e:=A.length;let P:=A++f;let z:=P.length;let O:=Z0 r (Z5 (u8=u8/\e=e) (Z5 (z*1<=140737488355328) (Z0 b (Z5 (z=m) (Z5 (m<=z) (P=ys/\a))))));let L:=k++f;let x:=L.length;let K:=Z0 r (Z0 F (Z5 (x*1<=140737488355328) (Z0 b (Z5 (x=m) (Z5 (m<=x) (L=ys/\a))))));
 Z6 (decide ((↑i:Int)<(↑v:Int))) (Z5 (0<=(↑i:Int)/\(↑i:Int)<(↑v:Int)) (Z5 (u8=u8/\q3.length=32) (Z5 (u8=u8/\xs.length=n) (Z5 (y*1<=140737488355328) (Z5 (l=l) (Z5 (0<=l) (Z5 (u8=u8/\0+w<=w) (Z5 (u8=u8/\y=y) (Z5 (H*1<=140737488355328) (Z5 (0<=d) (Z5 (u8=u8/\0+G<=G) (Z5 (u8=u8/\H=H) (Z5 (j*1<=140737488355328) (Z6 (d !=4) (Z5 (u8=u8/\a4.length=32) (Z0 F (Z5 (h*1<=140737488355328) (Z6 a3 (Z0 a2 (Z0 a1 (Z5 (g*1<=140737488355328) (Z6 s S (Z6 o S (Z0 b (Z5 (g=m) (Z5 (m<=g) (D=ys/\a))))))))) (Z6 s Q (Z6 o Q (Z0 b (Z5 (h=m) (Z5 (m<=h) (u=ys/\a)))))))))) (Z6 a3 (Z0 a2 (Z0 F (Z5 (e*1<=140737488355328) (Z6 s O (Z6 o O (Z0 b (Z5 (e=m) (Z5 (m<=e) (A=ys/\a))))))))) (Z6 s K (Z6 o K (Z0 b (Z5 (j=m) (Z5 (m<=j) (k=ys/\a))))))))))))))))))))) (Z5 (n=n) (Z5 (n<=n) (xs=xs/\Z0 Z (Z0 q (X/\Z0 q (Z0 p (U/\Z0 p Z2)))))))) (by kernel_rfl) ?_
 conv=>zeta
 try simp only [vcA]
 try simp only [vcB]
 try simp only [vcC]
 refine ⟨fun hlt=> ?_,fun hge=>h2 (by omega)⟩
 obtain ⟨⟨w1,w2⟩,w3,w4⟩:=WG (hr i (by omega))
 obtain ⟨l1,l2,l3,l4⟩:=ht.ins i (by omega)
 have hw:=h1 (by omega)
 have hnn:=ht.n
 have hwr:i64.wrap ((i:Int)+1)=((i+1:Nat):Int):=w64 (by omega)
 have u1:=Zp (t.ins i).index
 have u2:=Zp (t.ins i).way
 subst hW
 rw [hwr]
 unfold inW at hy
 generalize t.ins i=x at*
 simp only [WH]
 repeat' (first|(refine Ju ?_ ?_)|intro _)
 all_goals grind
theorem ZhZ (W:Int->LI) (t:TxS) (i:Nat) (xs ys:LI) (n m:Nat) (Z1 Z2:Prop) (ht:t.Ok) (hi:i<=t.M) (hr:∀j,j<t.M->Zu (t.outs j)=true) (hW:W=Zk) (hn:xs.length=n) (hs:n<10000000000000) (hy:ys=xs++Z2q W (t.outs i)) (hm:ys.length=m) (h1:i<t.M->Z1) (h2:i=t.M->Z2):
  Zz (E44 W) 20 89 2 0 (Zc4 t i xs n) (rdM 0 2 9 (Zc4 t (i+1) ys m) (rbR t xs n) (rbR t xs n) (rbR t xs n) Z1 Z2 False False):=by
 refine @Eq.mpr _ (let q1:=t.M;let D:=t.outs (Int.toNat (↑i:Int));let E:=D.kind;let q4:=W E;let q5:=q4.length;let q6:=xs++List.take q5 (ZP 0 q4);let q7:=q6.length;let q8:=D.owner;let q9:=q8=q8;let a9:=D.amount;let h8:=W a9;let e2:=h8.length;let h1:=q6++List.take e2 (ZP 0 h8);let d5:=h1.length;let G:=h1++q8;let S:=G.length;let g8:=D.other;let d4:=decide (u8=u8/\g8.length=32);let F:=decide (u8=u8/\S=S);let J:=G++g8;let R:=J.length;let d3:=decide (R*1<=140737488355328);let g:=decide (E>=3);let d2:=D.point;let a6:=decide (u8=u8/\d2.length=32);let q:=decide (u8=u8/\R=R);let Q:=J++d2;let P:=Q.length;let d1:=decide (P*1<=140737488355328);let c:=decide (E>=4);let O:=D.hash;let C:=decide (u8=u8/\O.length=32);let A:=decide (u8=u8/\P=P);let a5:=Q++O;let L:=a5.length;let d0:=decide (L*1<=140737488355328);let g7:=D.delay;let j:=decide (0<=g7);let g6:=W g7;let d:=g6.length;let I:=decide (u8=u8/\L=L);let B:=List.take d (ZP 0 g6);let c9:=a5++B;let p:=c9.length;let g5:=D.expiry;let f:=decide (0<=g5);let g4:=W g5;let a:=g4.length;let h:=List.take a (ZP 0 g4);let g3:=c9++h;let z:=g3.length;let b:=decide (wrap i64 ((↑i:Int)+1)=(↑(i+1):Int));let g2:=decide (t.num=t.num);let a4:=decide (t.N=t.N);let g1:=Zg t.ins;let g0:=g1=g1;let a3:=decide (q1=q1);let f9:=ZA t.outs;let f8:=f9=f9;let e:=Z0 g2 (Z0 a4 (g0/\Z0 a4 (Z0 a3 (f8/\Z0 a3 Z1))));let c8:=g3=ys/\e;let c7:=c9=ys/\e;let f7:=a5++h;let y:=f7.length;let c6:=f7=ys/\e;let c5:=Z0 b (Z5 (L=m) (Z5 (m<=L) (a5=ys/\e)));let c4:=Q++B;let o:=c4.length;let f6:=c4++h;let x:=f6.length;let c3:=f6=ys/\e;let c2:=c4=ys/\e;let f5:=Q++h;let w:=f5.length;let c1:=f5=ys/\e;let c0:=Z0 b (Z5 (P=m) (Z5 (m<=P) (Q=ys/\e)));let a2:=J++O;let K:=a2.length;let b9:=decide (K*1<=140737488355328);let H:=decide (u8=u8/\K=K);let b8:=a2++B;let l:=b8.length;let f4:=b8++h;let v:=f4.length;let b7:=f4=ys/\e;let b6:=b8=ys/\e;let f3:=a2++h;let u:=f3.length;let b5:=f3=ys/\e;let b4:=Z0 b (Z5 (K=m) (Z5 (m<=K) (a2=ys/\e)));let b3:=J++B;let k:=b3.length;let f2:=b3++h;let s:=f2.length;let b2:=f2=ys/\e;let b1:=b3=ys/\e;let f1:=J++h;let r:=f1.length;let b0:=f1=ys/\e;let f0:=Z0 b (Z5 (R=m) (Z5 (m<=R) (J=ys/\e)));let a1:=G++d2;let a0:=a1.length;let e9:=decide (u8=u8/\a0=a0);let a8:=a1++O;let Z:=a8.length;let i0:=decide (u8=u8/\Z=Z);let e8:=a8++B;let Y:=e8.length;let h9:=e8++h;let e7:=h9.length;let h7:=a8++h;let e6:=h7.length;let e5:=a1++B;let X:=e5.length;let h6:=e5++h;let e4:=h6.length;let h5:=a1++h;let e3:=h5.length;let a7:=G++O;let V:=a7.length;let h4:=decide (u8=u8/\V=V);let e1:=a7++B;let U:=e1.length;let h3:=e1++h;let e0:=h3.length;let h2:=a7++h;let d9:=h2.length;let d8:=G++B;let T:=d8.length;let h0:=d8++h;let d7:=h0.length;let g9:=G++h;let d6:=g9.length;
 Z6 (decide ((↑i:Int)<(↑q1:Int))) (Z5 (0<=(↑i:Int)/\(↑i:Int)<(↑q1:Int)) (Z5 (0<=E) (Z5 (u8=u8/\0+q5<=q5) (Z5 (u8=u8/\xs.length=n) (Z5 (q7*1<=140737488355328) (q9/\
 Z5 (a9=a9) (Z5 (0<=a9) (Z5 (u8=u8/\0+e2<=e2) (Z5 (u8=u8/\q7=q7) (Z5 (d5*1<=140737488355328) (q9/\
 Z5 (u8=u8/\q8.length=32) (Z5 (u8=u8/\d5=d5) (Z5 (S*1<=140737488355328) (Z6 (E==2) (Z0 d4 (Z0 F (Z0 d3 (Z6 g (Z0 a6 (Z0 q (Z0 d1 (Z6 c (Z0 C (Z0 A (Z0 d0 (Z6 g (Z0 j (Z5 (u8=u8/\0+d<=d) (Z0 I (Z5 (p*1<=140737488355328) (Z6 c (Z0 f (Z5 (u8=u8/\0+a<=a) (Z5 (u8=u8/\p=p) (Z5 (z*1<=140737488355328) (Z0 b (Z5 (z=m) (Z5 (m<=z) c8))))))) (Z0 b (Z5 (p=m) (Z5 (m<=p) c7)))))))) (Z6 c (Z0 f (Z5 (u8=u8/\0+a<=a) (Z0 I (Z5 (y*1<=140737488355328) (Z0 b (Z5 (y=m) (Z5 (m<=y) c6))))))) c5))))) (Z6 g (Z0 j (Z5 (u8=u8/\0+d<=d) (Z0 A (Z5 (o*1<=140737488355328) (Z6 c (Z0 f (Z5 (u8=u8/\0+a<=a) (Z5 (u8=u8/\o=o) (Z5 (x*1<=140737488355328) (Z0 b (Z5 (x=m) (Z5 (m<=x) c3))))))) (Z0 b (Z5 (o=m) (Z5 (m<=o) c2)))))))) (Z6 c (Z0 f (Z5 (u8=u8/\0+a<=a) (Z0 A (Z5 (w*1<=140737488355328) (Z0 b (Z5 (w=m) (Z5 (m<=w) c1))))))) c0)))))) (Z6 c (Z0 C (Z0 q (Z0 b9 (Z6 g (Z0 j (Z5 (u8=u8/\0+d<=d) (Z0 H (Z5 (l*1<=140737488355328) (Z6 c (Z0 f (Z5 (u8=u8/\0+a<=a) (Z5 (u8=u8/\l=l) (Z5 (v*1<=140737488355328) (Z0 b (Z5 (v=m) (Z5 (m<=v) b7))))))) (Z0 b (Z5 (l=m) (Z5 (m<=l) b6)))))))) (Z6 c (Z0 f (Z5 (u8=u8/\0+a<=a) (Z0 H (Z5 (u*1<=140737488355328) (Z0 b (Z5 (u=m) (Z5 (m<=u) b5))))))) b4))))) (Z6 g (Z0 j (Z5 (u8=u8/\0+d<=d) (Z0 q (Z5 (k*1<=140737488355328) (Z6 c (Z0 f (Z5 (u8=u8/\0+a<=a) (Z5 (u8=u8/\k=k) (Z5 (s*1<=140737488355328) (Z0 b (Z5 (s=m) (Z5 (m<=s) b2))))))) (Z0 b (Z5 (k=m) (Z5 (m<=k) b1)))))))) (Z6 c (Z0 f (Z5 (u8=u8/\0+a<=a) (Z0 q (Z5 (r*1<=140737488355328) (Z0 b (Z5 (r=m) (Z5 (m<=r) b0))))))) f0))))))) (Z6 (E==4) (Z0 d4 (Z0 F (Z0 d3 (Z6 g (Z0 a6 (Z0 q (Z0 d1 (Z6 c (Z0 C (Z0 A (Z0 d0 (Z6 g (Z0 j (Z5 (u8=u8/\0+d<=d) (Z0 I (Z5 (p*1<=140737488355328) (Z6 c (Z0 f (Z5 (u8=u8/\0+a<=a) (Z5 (u8=u8/\p=p) (Z5 (z*1<=140737488355328) (Z0 b (Z5 (z=m) (Z5 (m<=z) c8))))))) (Z0 b (Z5 (p=m) (Z5 (m<=p) c7)))))))) (Z6 c (Z0 f (Z5 (u8=u8/\0+a<=a) (Z0 I (Z5 (y*1<=140737488355328) (Z0 b (Z5 (y=m) (Z5 (m<=y) c6))))))) c5))))) (Z6 g (Z0 j (Z5 (u8=u8/\0+d<=d) (Z0 A (Z5 (o*1<=140737488355328) (Z6 c (Z0 f (Z5 (u8=u8/\0+a<=a) (Z5 (u8=u8/\o=o) (Z5 (x*1<=140737488355328) (Z0 b (Z5 (x=m) (Z5 (m<=x) c3))))))) (Z0 b (Z5 (o=m) (Z5 (m<=o) c2)))))))) (Z6 c (Z0 f (Z5 (u8=u8/\0+a<=a) (Z0 A (Z5 (w*1<=140737488355328) (Z0 b (Z5 (w=m) (Z5 (m<=w) c1))))))) c0)))))) (Z6 c (Z0 C (Z0 q (Z0 b9 (Z6 g (Z0 j (Z5 (u8=u8/\0+d<=d) (Z0 H (Z5 (l*1<=140737488355328) (Z6 c (Z0 f (Z5 (u8=u8/\0+a<=a) (Z5 (u8=u8/\l=l) (Z5 (v*1<=140737488355328) (Z0 b (Z5 (v=m) (Z5 (m<=v) b7))))))) (Z0 b (Z5 (l=m) (Z5 (m<=l) b6)))))))) (Z6 c (Z0 f (Z5 (u8=u8/\0+a<=a) (Z0 H (Z5 (u*1<=140737488355328) (Z0 b (Z5 (u=m) (Z5 (m<=u) b5))))))) b4))))) (Z6 g (Z0 j (Z5 (u8=u8/\0+d<=d) (Z0 q (Z5 (k*1<=140737488355328) (Z6 c (Z0 f (Z5 (u8=u8/\0+a<=a) (Z5 (u8=u8/\k=k) (Z5 (s*1<=140737488355328) (Z0 b (Z5 (s=m) (Z5 (m<=s) b2))))))) (Z0 b (Z5 (k=m) (Z5 (m<=k) b1)))))))) (Z6 c (Z0 f (Z5 (u8=u8/\0+a<=a) (Z0 q (Z5 (r*1<=140737488355328) (Z0 b (Z5 (r=m) (Z5 (m<=r) b0))))))) f0))))))) (Z6 (E==5) (Z0 d4 (Z0 F (Z0 d3 (Z6 g (Z0 a6 (Z0 q (Z0 d1 (Z6 c (Z0 C (Z0 A (Z0 d0 (Z6 g (Z0 j (Z5 (u8=u8/\0+d<=d) (Z0 I (Z5 (p*1<=140737488355328) (Z6 c (Z0 f (Z5 (u8=u8/\0+a<=a) (Z5 (u8=u8/\p=p) (Z5 (z*1<=140737488355328) (Z0 b (Z5 (z=m) (Z5 (m<=z) c8))))))) (Z0 b (Z5 (p=m) (Z5 (m<=p) c7)))))))) (Z6 c (Z0 f (Z5 (u8=u8/\0+a<=a) (Z0 I (Z5 (y*1<=140737488355328) (Z0 b (Z5 (y=m) (Z5 (m<=y) c6))))))) c5))))) (Z6 g (Z0 j (Z5 (u8=u8/\0+d<=d) (Z0 A (Z5 (o*1<=140737488355328) (Z6 c (Z0 f (Z5 (u8=u8/\0+a<=a) (Z5 (u8=u8/\o=o) (Z5 (x*1<=140737488355328) (Z0 b (Z5 (x=m) (Z5 (m<=x) c3))))))) (Z0 b (Z5 (o=m) (Z5 (m<=o) c2)))))))) (Z6 c (Z0 f (Z5 (u8=u8/\0+a<=a) (Z0 A (Z5 (w*1<=140737488355328) (Z0 b (Z5 (w=m) (Z5 (m<=w) c1))))))) c0)))))) (Z6 c (Z0 C (Z0 q (Z0 b9 (Z6 g (Z0 j (Z5 (u8=u8/\0+d<=d) (Z0 H (Z5 (l*1<=140737488355328) (Z6 c (Z0 f (Z5 (u8=u8/\0+a<=a) (Z5 (u8=u8/\l=l) (Z5 (v*1<=140737488355328) (Z0 b (Z5 (v=m) (Z5 (m<=v) b7))))))) (Z0 b (Z5 (l=m) (Z5 (m<=l) b6)))))))) (Z6 c (Z0 f (Z5 (u8=u8/\0+a<=a) (Z0 H (Z5 (u*1<=140737488355328) (Z0 b (Z5 (u=m) (Z5 (m<=u) b5))))))) b4))))) (Z6 g (Z0 j (Z5 (u8=u8/\0+d<=d) (Z0 q (Z5 (k*1<=140737488355328) (Z6 c (Z0 f (Z5 (u8=u8/\0+a<=a) (Z5 (u8=u8/\k=k) (Z5 (s*1<=140737488355328) (Z0 b (Z5 (s=m) (Z5 (m<=s) b2))))))) (Z0 b (Z5 (k=m) (Z5 (m<=k) b1)))))))) (Z6 c (Z0 f (Z5 (u8=u8/\0+a<=a) (Z0 q (Z5 (r*1<=140737488355328) (Z0 b (Z5 (r=m) (Z5 (m<=r) b0))))))) f0))))))) (Z6 g (Z0 a6 (Z0 F (Z5 (a0*1<=140737488355328) (Z6 c (Z0 C (Z0 e9 (Z5 (Z*1<=140737488355328) (Z6 g (Z0 j (Z5 (u8=u8/\0+d<=d) (Z0 i0 (Z5 (Y*1<=140737488355328) (Z6 c (Z0 f (Z5 (u8=u8/\0+a<=a) (Z5 (u8=u8/\Y=Y) (Z5 (e7*1<=140737488355328) (Z0 b (Z5 (e7=m) (Z5 (m<=e7) (h9=ys/\e)))))))) (Z0 b (Z5 (Y=m) (Z5 (m<=Y) (e8=ys/\e))))))))) (Z6 c (Z0 f (Z5 (u8=u8/\0+a<=a) (Z0 i0 (Z5 (e6*1<=140737488355328) (Z0 b (Z5 (e6=m) (Z5 (m<=e6) (h7=ys/\e)))))))) (Z0 b (Z5 (Z=m) (Z5 (m<=Z) (a8=ys/\e))))))))) (Z6 g (Z0 j (Z5 (u8=u8/\0+d<=d) (Z0 e9 (Z5 (X*1<=140737488355328) (Z6 c (Z0 f (Z5 (u8=u8/\0+a<=a) (Z5 (u8=u8/\X=X) (Z5 (e4*1<=140737488355328) (Z0 b (Z5 (e4=m) (Z5 (m<=e4) (h6=ys/\e)))))))) (Z0 b (Z5 (X=m) (Z5 (m<=X) (e5=ys/\e))))))))) (Z6 c (Z0 f (Z5 (u8=u8/\0+a<=a) (Z0 e9 (Z5 (e3*1<=140737488355328) (Z0 b (Z5 (e3=m) (Z5 (m<=e3) (h5=ys/\e)))))))) (Z0 b (Z5 (a0=m) (Z5 (m<=a0) (a1=ys/\e)))))))))) (Z6 c (Z0 C (Z0 F (Z5 (V*1<=140737488355328) (Z6 g (Z0 j (Z5 (u8=u8/\0+d<=d) (Z0 h4 (Z5 (U*1<=140737488355328) (Z6 c (Z0 f (Z5 (u8=u8/\0+a<=a) (Z5 (u8=u8/\U=U) (Z5 (e0*1<=140737488355328) (Z0 b (Z5 (e0=m) (Z5 (m<=e0) (h3=ys/\e)))))))) (Z0 b (Z5 (U=m) (Z5 (m<=U) (e1=ys/\e))))))))) (Z6 c (Z0 f (Z5 (u8=u8/\0+a<=a) (Z0 h4 (Z5 (d9*1<=140737488355328) (Z0 b (Z5 (d9=m) (Z5 (m<=d9) (h2=ys/\e)))))))) (Z0 b (Z5 (V=m) (Z5 (m<=V) (a7=ys/\e))))))))) (Z6 g (Z0 j (Z5 (u8=u8/\0+d<=d) (Z0 F (Z5 (T*1<=140737488355328) (Z6 c (Z0 f (Z5 (u8=u8/\0+a<=a) (Z5 (u8=u8/\T=T) (Z5 (d7*1<=140737488355328) (Z0 b (Z5 (d7=m) (Z5 (m<=d7) (h0=ys/\e)))))))) (Z0 b (Z5 (T=m) (Z5 (m<=T) (d8=ys/\e))))))))) (Z6 c (Z0 f (Z5 (u8=u8/\0+a<=a) (Z0 F (Z5 (d6*1<=140737488355328) (Z0 b (Z5 (d6=m) (Z5 (m<=d6) (g9=ys/\e)))))))) (Z0 b (Z5 (S=m) (Z5 (m<=S) (G=ys/\e)))))))))))))))))))))))) (Z5 (n=n) (Z5 (n<=n) (xs=xs/\Z0 g2 (Z0 a4 (g0/\Z0 a4 (Z0 a3 (f8/\Z0 a3 Z2)))))))) (by kernel_rfl) ?_
 conv=>zeta
 try simp only [vcA]
 try simp only [vcB]
 try simp only [vcC]
 refine ⟨fun hlt=> ?_,fun hge=>h2 (by omega)⟩
 obtain ⟨⟨w1,w2⟩,⟨w3,w4⟩,⟨w5,w6⟩,w7,w8⟩:=Yj (hr i (by omega))
 obtain ⟨l1,l2,l3,l4⟩:=ht.outs i (by omega)
 have hw:=h1 (by omega)
 have hnn:=ht.m
 have hwr:i64.wrap ((i:Int)+1)=((i+1:Nat):Int):=w64 (by omega)
 have u1:=Zp (t.outs i).kind
 have u2:=Zp (t.outs i).amount
 have u3:=Zp (t.outs i).delay
 have u4:=Zp (t.outs i).expiry
 subst hW
 rw [hwr]
 unfold Z2q at hy
 generalize t.outs i=x at*
 simp only [J5,WH]
 repeat' (first|(refine Ju ?_ ?_)|intro _)
 all_goals (try simp only [beq_iff_eq,bne_iff_ne,ne_eq,beq_eq_false_iff_ne,bne_eq_false_iff_eq] at*)
 all_goals first|omega|assumption|trivial|skip
 all_goals first|(rw [hy];grind)|(rw [<-hm,hy];simp [*];try omega;done)|skip
noncomputable def Zgo (W:Int->LI) (t:TxS) (core:Bool):Zd:=
 (E44 W).withL 89 0 (goM 0 (rbS t core 0 (Yn W t core 0) (Yn W t core 0).length) t.Fine (Y9 0 t.N 9 (fun i=>i<t.N) (fun i=>i=t.N) (fun _=>False) (fun _=>False) (fun i=>rbR t (Yn W t core i) (Yn W t core i).length) (fun i=>rbR t (Yn W t core i) (Yn W t core i).length) (fun i=>rbR t (Yn W t core i) (Yn W t core i).length)))
noncomputable def Zj3 (W:Int->LI) (t:TxS) (core:Bool):Zd:=
 (E44 W).withL 89 2 (goM 0 (Zc4 t 0 (Y7 W t core 0) (Y7 W t core 0).length) t.Fine (Y9 2 t.M 9 (fun i=>i<t.M) (fun i=>i=t.M) (fun _=>False) (fun _=>False) (fun i=>rbR t (Y7 W t core i) (Y7 W t core i).length) (fun i=>rbR t (Y7 W t core i) (Y7 W t core i).length) (fun i=>rbR t (Y7 W t core i) (Y7 W t core i).length)))
theorem Zei (t:TxS) (core:Bool):(Zgo Zk t core).Ok:=by
 refine Zd.withGoM (N:=20) (S:=fun i=>rbS t core i (Yn Zk t core i) (Yn Zk t core i).length) Zc3 (by kernel_rfl) fun hC=>⟨rfl,fun i hi hgo=> ?_⟩
 have h1:=Vf hC core hi
 cases core
 ·exact ZhY Zk t i (Yn Zk t false i) (Yn Zk t false (i+1)) _ _ _ _ hC.ok hi hC.ins rfl rfl (by omega) (Ur _ _ _ _) rfl (fun h=>⟨h,h⟩) (fun h=>h)
 ·exact ZhX Zk t i (Yn Zk t true i) (Yn Zk t true (i+1)) _ _ _ _ hC.ok hi hC.ins rfl rfl (by omega) (Ur _ _ _ _) rfl (fun h=>⟨h,h⟩) (fun h=>h)
theorem Zej (t:TxS) (core:Bool):(Zj3 Zk t core).Ok:=by
 refine Zd.withGoM (N:=20) (S:=fun i=>Zc4 t i (Y7 Zk t core i) (Y7 Zk t core i).length) Zc3 (by kernel_rfl) fun hC=>⟨rfl,fun i hi hgo=> ?_⟩
 have h1:=XN hC core hi
 exact ZhZ Zk t i (Y7 Zk t core i) (Y7 Zk t core (i+1)) _ _ _ _ hC.ok hi hC.outs rfl rfl (by omega) (Z3E _ _ _ _) rfl (fun h=>⟨h,h⟩) (fun h=>h)
noncomputable def Zi0 (W:Int->LI) (t:TxS) (core:Bool):Zd:=
 (Zgo W t core).withL 89 2 (goM 0 (Zc4 t 0 (Y7 W t core 0) (Y7 W t core 0).length) t.Fine (Y9 2 t.M 9 (fun i=>i<t.M) (fun i=>i=t.M) (fun _=>False) (fun _=>False) (fun i=>rbR t (Y7 W t core i) (Y7 W t core i).length) (fun i=>rbR t (Y7 W t core i) (Y7 W t core i).length) (fun i=>rbR t (Y7 W t core i) (Y7 W t core i).length)))
theorem Zc5 (W:Int->LI) (t:TxS) (core:Bool) (ys:LI) (L:Nat) (hW:W=Zk) (ht:t.Fine) (hy:ys=Ws W t core) (hL:L=ys.length):
  evF (Zi0 W t core) 20 89 [.agg t.c,.bool core] ⟨0,[]⟩ (YU 0 (.ret (.nslice ⟨0,0,0,0,0⟩ 1 L L)) 1 [(0,.ints .u8 ys)]):=by
 refine @Eq.mpr _ (let d:=t.num;let m:=List.length (W d);let w:=[]++List.take m (ZP 0 (W d));let k:=w.length;let b:=t.N;let g:=↑b;let a:=decide (b=b);let p:=Zg t.ins;let f:=p=p;let H:=W g;let o:=H.length;let G:=w++List.take o (ZP 0 H);let n:=G.length;let F:=Yn W t core 0;let E:=F.length;let D:=decide (d=d);let c:=t.M;let e:=decide (c=c);let C:=ZA t.outs;let B:=C=C;let A:=W ↑c;let l:=A.length;let z:=Y7 W t core 0;let y:=z.length;let x:=(False->False)/\(False->False);
 Z5 (0<=d) (Z5 (u8=u8/\0+m<=m) (Z5 (k*1<=140737488355328) (Z5 (g=g) (Z0 a (f/\
 Z0 a (Z5 (u8=u8/\0+o<=o) (Z5 (u8=u8/\k=k) (Z5 (n*1<=140737488355328) (Z5 (n=E) (Z5 (E<=n) (Z5 (core=core) (G=F/\
 Z0 D (Z0 a (f/\
 Z0 a (Z0 e (B/\
 Z0 e (TxS.Fine t/\
 ∀(i:Nat),
 let v:=Yn W t core i;let u:=v.length;let s:=v++List.take l (ZP 0 A);let h:=s.length;
 i<=b->
 (∀(j:Nat),j<i->(fun (i:Nat)=>i<b) j)->
 (i=b->
 Z5 (u8=u8/\0+l<=l) (Z5 (u8=u8/\u=u) (Z5 (h*1<=140737488355328) (Z5 (h=y) (Z5 (y<=h) (s=z/\
 Z0 D (Z0 a (f/\
 Z0 a (Z0 e (B/\
 Z0 e (TxS.Fine t/\
 ∀(i:Nat),
 let r:=Y7 W t core i;let q:=r.length;
 i<=c->(∀(j:Nat),j<i->(fun (i:Nat)=>i<c) j)->(i=c->Z5 (q=L) (Z5 (L<=q) (r=ys/\True)))/\x)))))))))))/\
 x)))))))))))))))))) (by kernel_rfl) ?_
 conv=>zeta
 try simp only [vcA]
 try simp only [vcB]
 try simp only [vcC]
 subst hW hy hL
 have e1:Zk t.num++Zk ↑t.N=Yn Zk t core 0:=by unfold Yn;simp [W6]
 have e2:Yn Zk t core t.N++Zk ↑t.M=Y7 Zk t core 0:=by unfold Y7;simp [W6]
 have b1:=Vf ht core (J2 t.N)
 have b2:=XN ht core (J2 t.M)
 have hN:=ht.n
 have hM:=ht.m
 have hq:=ht.num
 simp only [WH,JE,e1,JB]
 have b0:=Vf ht core (JI t.N)
 have c0:=XN ht core (JI t.M)
 have d1:=Zp t.num
 refine ⟨hq.1,by omega,by omega,trivial,J2 _,trivial,ht,fun i hi _=>⟨fun he=> ?_,fun h=>h,fun h=>h⟩⟩
 subst he
 rw [e2]
 refine ⟨by omega,rfl,J2 _,rfl,ht,fun i hi _=>⟨fun he=> ?_,fun h=>h,fun h=>h⟩⟩
 subst he
 exact ⟨rfl,J2 _,rfl⟩
theorem Zek (t:TxS) (core:Bool):(Zi0 Zk t core).Ok:=by
 exact Zd.withL_join (G:=Zgo Zk t core) (H:=E44 Zk) (Zei t core) rfl (Zej t core)
theorem Z5Y (t:TxS) (core:Bool) (ht:t.Fine):Zv PP 89 [.agg t.c,.bool core] (.nslice ⟨0,0,0,0,0⟩ 1 (Ws Zk t core).length (Ws Zk t core).length) 1 [(0,.ints .u8 (Ws Zk t core))]:=.evM (Zek t core) (Zc5 _ t core _ _ rfl ht rfl rfl)
theorem Z7y (args:List AV) (h:Z8) (K:KO) (hl:ZbV (Ws Zk) args h K):Zf PP 89 args h K:=by
 refine Zv.fsumm (d:=20) (Zi _ _ _ _ _ hl fun a ha=> ?_)
 split at ha
 ·obtain ⟨t,h1,h2,hK⟩:=ha
  exact ⟨_,_,_,_,(Z5Y t _ h2).conv fun E r hr=>hr.head (fun _ hc=>h1.rel hc) (fun _ hc=>hc),rfl,⟨Jx,.ints _ _,trivial⟩,hK⟩
 simp_all
def Zgp:List Ty:=[.arr .u8 32,.int .i64,.int .i64,.arr .u8 32,.arr .u8 32,.arr .u8 32]
def Z8w:List Ty:=[.int .i64,.int .i64,.arr .u8 32,.arr .u8 32,.arr .u8 32,.arr .u8 32,.int .i64,.int .i64]
def Zel:List Ty:=[.int .i64,.rows 130 Zgp,.rows 132 Z8w]
theorem Xh {n:Nat} (h:xs.length=n) (hw:∀i,i<n->(Lit.int .u8 (xs.getD i 0)).wf=true):Bytes xs:=⟨fun i=>by
 by_cases hi:i<n
 ·have:=hw i hi
  simp [Lit.wf] at this
  have m1:u8.min=0:=rfl
  have m2:u8.max=255:=rfl
  simp
  omega
 ·rw [Jb,JT (by omega)];simp⟩
structure InS.By (x:InS):Prop where
 name:Bytes x.name
 tag:Bytes x.tag
 also:Bytes x.also
 secret:Bytes x.secret
structure ZR.By (x:ZR):Prop where
 owner:Bytes x.owner
 other:Bytes x.other
 point:Bytes x.point
 hash:Bytes x.hash
structure Z2t (t:TxS):Prop where
 ins:∀i,i<t.N->(t.ins i).By
 outs:∀i,i<t.M->(t.outs i).By
theorem Z2t.b {t:TxS} (h:Z2t t):TxB t:=⟨fun i hi=>⟨(h.outs i hi).owner,(h.outs i hi).other⟩⟩
theorem Zem {l:List AV} (h:Fits Zgp l):∃x:InS,l=x.c/\x.Ok/\x.By:=by
 unfold Zgp at h
 cases h with|cons _ a _ u h1 h=>
 cases h with|cons _ b _ u h2 h=>
 cases h with|cons _ c _ u h3 h=>
 cases h with|cons _ d _ u h4 h=>
 cases h with|cons _ e _ u h5 h=>
 cases h with|cons _ f _ u h6 h=>
 cases h;cases h1;cases h2;cases h3;cases h4;cases h5;cases h6
 rename_i x1 l1 w1 x2 w2 x3 w3 x4 l4 w4 x5 l5 w5 x6 l6 w6
 exact ⟨⟨x1,x2,x3,x4,x5,x6⟩,rfl,⟨l1,l4,l5,l6⟩,⟨Xh l1 w1,Xh l4 w4,Xh l5 w5,Xh l6 w6⟩⟩
theorem Z5Z {l:List AV} (h:Fits Z8w l):∃x:ZR,l=x.c/\x.Ok/\x.By:=by
 unfold Z8w at h
 cases h with|cons _ a _ u h1 h=>
 cases h with|cons _ b _ u h2 h=>
 cases h with|cons _ c _ u h3 h=>
 cases h with|cons _ d _ u h4 h=>
 cases h with|cons _ e _ u h5 h=>
 cases h with|cons _ f _ u h6 h=>
 cases h with|cons _ g _ u h7 h=>
 cases h with|cons _ i _ u h8 h=>
 cases h;cases h1;cases h2;cases h3;cases h4;cases h5;cases h6;cases h7;cases h8
 rename_i x1 w1 x2 w2 x3 l3 w3 x4 l4 w4 x5 l5 w5 x6 l6 w6 x7 w7 x8 w8
 exact ⟨⟨x1,x2,x3,x4,x5,x6,x7,x8⟩,rfl,⟨l3,l4,l5,l6⟩,⟨Xh l3 w3,Xh l4 w4,Xh l5 w5,Xh l6 w6⟩⟩
theorem pick {α:Type} [Inhabited α] {n:Nat} {p:Nat->α->Prop} (h:∀i,i<n->∃a,p i a):∃f:Nat->α,∀i,i<n->p i (f i):=
 ⟨fun i=>if hi:i<n then Classical.choose (h i hi) else default,fun i hi=>by
  simp only [hi,dite_true]
  exact Classical.choose_spec (h i hi)⟩
instance:Inhabited InS:=⟨inZ⟩
instance:Inhabited ZR:=⟨ZhO⟩
theorem Zen {a:AV} (h:Z3F true Zel a):∃(l:List AV) (t:TxS),a=.agg l/\Z0V l t/\(t.N<900000000000->t.M<900000000000->t.Ok)/\Z2t t:=by
 cases h with|agg _ u h=>
 unfold Zel at h
 cases h with|cons _ a _ u h1 h=>
 cases h with|cons _ b _ u h2 h=>
 cases h with|cons _ c _ u h3 h=>
 cases h;cases h1;cases h2;cases h3
 rename_i x1 w1 n f hn hf m g hm hg
 obtain ⟨ins,hi⟩:=pick fun i hi=>Zem (hf i hi)
 obtain ⟨outs,ho⟩:=pick fun i hi=>Z5Z (hg i hi)
 exact ⟨_,⟨x1,n,ins,m,outs⟩,rfl,⟨rfl,⟨⟨rfl,rfl⟩,fun i h=>(hi i h).1⟩,⟨⟨rfl,rfl⟩,fun i h=>(ho i h).1⟩⟩,fun h1 h2=>⟨h1,h2,fun i h=>(hi i h).2.1,fun i h=>(ho i h).2.1⟩,⟨fun i h=>(hi i h).2.2,fun i h=>(ho i h).2.2⟩⟩
theorem Zf.conv {P:Program} {f:FuncId} {us bs:List AV} {h:Z8} {K:KO} (hc:Zf P f bs h K) (hr:∀E rs,Zs E us rs->Zs E bs rs):Zf P f us h K:=
 fun E w rs he hl=>hc E w rs he (hr E rs hl)
theorem Bytes.nil:Bytes []:=⟨fun i=>by simp⟩
theorem Bytes.cons {x:Int} (hx:0<=x/\x<=255) (h:Bytes xs):Bytes (x::xs):=⟨fun i=>by
 cases i with
 | zero=>simpa using hx
 | succ i=>have:=h.h i;simpa using this⟩
theorem Bytes.append (h:Bytes xs) (k:Bytes ys):Bytes (xs++ys):=⟨fun i=>by
 rw [Jb,List.getElem?_append]
 split
 ·have:=h.h i;rwa [Jb] at this
 ·have:=k.h (i-xs.length);rwa [Jb] at this⟩
theorem Bytes.ite {p:Prop} [Decidable p] (h:Bytes xs) (k:Bytes ys):Bytes (if p then xs else ys):=by split<;>assumption
theorem Zi1 (x:Int):0<=u8.wrap x/\u8.wrap x<=255:=by
 unfold wrap
 simp [IntKind.bits,IntKind.signed]
 omega
theorem YF (n:Int):Bytes (Zk n):=by
 have hb:∀k,0<=b8 n k/\b8 n k<=255:=fun k=>Zi1 _
 unfold Zk
 split
 ·exact .cons (Zi1 _) .nil
 split
 ·exact .cons (by omega) (.cons (hb _) (.cons (hb _) .nil))
 split
 ·exact .cons (by omega) (.cons (hb _) (.cons (hb _) (.cons (hb _) (.cons (hb _) .nil))))
 ·exact .cons (by omega) (.cons (hb _) (.cons (hb _) (.cons (hb _) (.cons (hb _) (.cons (hb _) (.cons (hb _) (.cons (hb _) (.cons (hb _) .nil))))))))
theorem Z9T {x:InS} (h:x.By) (core:Bool):Bytes (inW Zk core x):=by
 unfold inW
 refine (h.name.append (YF _)).append ?_
 cases core
 ·exact (YF _).append (((Bytes.nil.ite h.tag).append (h.also.ite .nil)).append (h.secret.ite .nil))
 ·exact .nil
theorem Z7z {x:ZR} (h:x.By):Bytes (Z2q Zk x):=by
 unfold Z2q
 exact (((((((YF _).append (YF _)).append h.owner).append (h.other.ite .nil)).append (h.point.ite .nil)).append (h.hash.ite .nil)).append ((YF _).ite .nil)).append ((YF _).ite .nil)
theorem Qg {f:Nat->LI}:∀n,(∀i,i<n->Bytes (f i))->Bytes (W6 f n)
 | 0,_=>.nil
 | n+1,h=>(Qg n fun i hi=>h i (by omega)).append (h n (by omega))
theorem Z7A {t:TxS} (h:Z2t t) (core:Bool):Bytes (Ws Zk t core):=by
 unfold Ws Y7 Yn
 exact ((((YF _).append (YF _)).append (Qg _ fun i hi=>Z9T (h.ins i hi) core)).append (YF _)).append (Qg _ fun i hi=>Z7z (h.outs i hi))
def Vg (a b c:Int):Nat->Int
 | 0=>0
 | i+1=>if 2<=u32.wrap (u32.wrap (Int.tmod (Zm .u32 a i) 2+Int.tmod (Zm .u32 b i) 2)+Int.tmod (Zm .u32 c i) 2) then u32.wrap (Vg a b c i+ZB .u32 1 i) else Vg a b c i
def Vx (a b c:Int):Nat->Int
 | 0=>0
 | i+1=>u32.wrap (Vx a b c i+ZB .u32 (if Int.tmod (Zm .u32 a i) 2=1 then Int.tmod (Zm .u32 b i) 2 else Int.tmod (Zm .u32 c i) 2) i)
def moS (a b c:Int) (o:Int) (i:Nat):St:=⟨33,[(8,.int .u64 i),(0,.int .u32 a),(1,.int .u32 b),(2,.int .u32 c),(7,.int .u32 o)],⟨0,[]⟩,[]⟩
def moR (o:Int):St:=⟨33,[(7,.int .u32 o)],⟨0,[]⟩,[]⟩
theorem Zfg {x:Int} (h:0<=x/\x<18446744073709551616):u64.wrap x=x:=by
 grind [wrap,IntKind.bits,IntKind.signed]
theorem Zgq (a b c o o':Int) (i:Nat) (Z1 Z2:Prop) (hi:i<=32) (ho:o'=if 2<=u32.wrap (u32.wrap (Int.tmod (Zm .u32 a i) 2+Int.tmod (Zm .u32 b i) 2)+Int.tmod (Zm .u32 c i) 2) then u32.wrap (o+ZB .u32 1 i) else o) (h1:i<32->Z1) (h2:i=32->Z2):
  Zz G0 20 155 0 0 (moS a b c o i) (rdM 0 0 9 (moS a b c o' (i+1)) (moR o) (moR o) (moR o) Z1 Z2 False False):=by
 refine @Eq.mpr _ (let g:=decide (wrap u64 ((↑i:Int)+1)=(↑(i+1):Int));let f:=decide (a=a);let e:=decide (b=b);let d:=decide (c=c);
 Z6 (decide ((↑i:Int)<32)) (Z6 (decide (wrap u32 (wrap u32 (Int.tmod (Zm u32 a (↑i:Int)) 2+Int.tmod (Zm u32 b (↑i:Int)) 2)+Int.tmod (Zm u32 c (↑i:Int)) 2)>=2)) (Z0 g (Z0 f (Z0 e (Z0 d (Z5 (wrap u32 (o+ZB u32 1 (↑i:Int))=o') Z1))))) (Z0 g (Z0 f (Z0 e (Z0 d (Z5 (o=o') Z1)))))) (Z5 (o=o) Z2)) (by kernel_rfl) ?_
 conv=>zeta
 try simp only [vcA]
 try simp only [vcB]
 try simp only [vcC]
 have hw:u64.wrap ((i:Int)+1)=((i+1:Nat):Int):=Zfg (by omega)
 refine ⟨fun hlt=>⟨fun hc=> ?_,fun hc=> ?_⟩,fun hge=>h2 (by omega)⟩
 ·rw [if_pos hc] at ho
  exact ⟨hw,ho.symm,h1 (by omega)⟩
 ·rw [if_neg hc] at ho
  exact ⟨hw,ho.symm,h1 (by omega)⟩
theorem Zgr (a b c o o':Int) (i:Nat) (Z1 Z2:Prop) (hi:i<=32) (ho:o'=u32.wrap (o+ZB .u32 (if Int.tmod (Zm .u32 a i) 2=1 then Int.tmod (Zm .u32 b i) 2 else Int.tmod (Zm .u32 c i) 2) i)) (h1:i<32->Z1) (h2:i=32->Z2):
  Zz G0 20 154 0 0 (moS a b c o i) (rdM 0 0 9 (moS a b c o' (i+1)) (moR o) (moR o) (moR o) Z1 Z2 False False):=by
 refine @Eq.mpr _ (let g:=decide (wrap u64 ((↑i:Int)+1)=(↑(i+1):Int));let f:=decide (a=a);let e:=decide (b=b);let d:=decide (c=c);
 Z6 (decide ((↑i:Int)<32)) (Z6 (Int.tmod (Zm u32 a (↑i:Int)) 2==1) (Z0 g (Z0 f (Z0 e (Z0 d (Z5 (wrap u32 (o+ZB u32 (Int.tmod (Zm u32 b (↑i:Int)) 2) (↑i:Int))=o') Z1))))) (Z0 g (Z0 f (Z0 e (Z0 d (Z5 (wrap u32 (o+ZB u32 (Int.tmod (Zm u32 c (↑i:Int)) 2) (↑i:Int))=o') Z1)))))) (Z5 (o=o) Z2)) (by kernel_rfl) ?_
 conv=>zeta
 try simp only [vcA]
 try simp only [vcB]
 try simp only [vcC]
 have hw:u64.wrap ((i:Int)+1)=((i+1:Nat):Int):=Zfg (by omega)
 refine ⟨fun hlt=>⟨fun hc=> ?_,fun hc=> ?_⟩,fun hge=>h2 (by omega)⟩
 ·rw [if_pos (by simpa using hc)] at ho
  exact ⟨hw,ho.symm,h1 (by omega)⟩
 ·rw [if_neg (by simpa using hc)] at ho
  exact ⟨hw,ho.symm,h1 (by omega)⟩
@[irreducible] def YZ (a b c:Int):Int:=Vg a b c 32
@[irreducible] def YT (a b c:Int):Int:=Vx a b c 32
noncomputable def Zi2 (a b c:Int):Zd:=G0.withL 155 0 (goM 0 (moS a b c 0 0) True (Y9 0 32 9 (fun i=>i<32) (fun i=>i=32) (fun _=>False) (fun _=>False) (fun i=>moR (Vg a b c i)) (fun i=>moR (Vg a b c i)) (fun i=>moR (Vg a b c i))))
theorem Zeo (a b c:Int):(Zi2 a b c).Ok:=by
 refine Zd.withGoM (N:=20) (S:=fun i=>moS a b c (Vg a b c i) i) Zt (by kernel_rfl) fun hC=>⟨rfl,fun i hi hgo=> ?_⟩
 simp_all [Zgq,Vg]
noncomputable def Zi3 (a b c:Int):Zd:=G0.withL 154 0 (goM 0 (moS a b c 0 0) True (Y9 0 32 9 (fun i=>i<32) (fun i=>i=32) (fun _=>False) (fun _=>False) (fun i=>moR (Vx a b c i)) (fun i=>moR (Vx a b c i)) (fun i=>moR (Vx a b c i))))
theorem Zep (a b c:Int):(Zi3 a b c).Ok:=by
 refine Zd.withGoM (N:=20) (S:=fun i=>moS a b c (Vx a b c i) i) Zt (by kernel_rfl) fun hC=>⟨rfl,fun i hi hgo=> ?_⟩
 simp_all [Zgr,Vx]
theorem Zgs (a b c:Int) (o:Int) (ho:o=Vg a b c 32):
  evF (Zi2 a b c) 20 155 [.int .u32 a,.int .u32 b,.int .u32 c] ⟨0,[]⟩ (Y8 0 [] (.int .u32 o) 0 []):=by
 refine @Eq.mpr _ (Z5 (a=a) (Z5 (b=b) (Z5 (c=c) (True/\∀(i:Nat),i<=32->(∀(j:Nat),j<i->(fun (i:Nat)=>i<32) j)->(i=32->Z5 (Vg a b c i=o) True)/\(False->False)/\(False->False))))) (by kernel_rfl) ?_
 try simp only [vcA]
 try simp only [vcB]
 try simp only [vcC]
 subst ho
 exact fun i hi _=>⟨fun he=>by subst he;rfl,fun h=>h,fun h=>h⟩
theorem Zgt (a b c:Int) (o:Int) (ho:o=Vx a b c 32):
  evF (Zi3 a b c) 20 154 [.int .u32 a,.int .u32 b,.int .u32 c] ⟨0,[]⟩ (Y8 0 [] (.int .u32 o) 0 []):=by
 refine @Eq.mpr _ (Z5 (a=a) (Z5 (b=b) (Z5 (c=c) (True/\∀(i:Nat),i<=32->(∀(j:Nat),j<i->(fun (i:Nat)=>i<32) j)->(i=32->Z5 (Vx a b c i=o) True)/\(False->False)/\(False->False))))) (by kernel_rfl) ?_
 try simp only [vcA]
 try simp only [vcB]
 try simp only [vcC]
 subst ho
 exact fun i hi _=>⟨fun he=>by subst he;rfl,fun h=>h,fun h=>h⟩
def Z1e (F:Int->Int->Int->Int):ZM:=fun args _ K=>match args with
 | [.int .u32 a,.int .u32 b,.int .u32 c]=>K (.int .u32 (F a b c))
 | _=>False
theorem Z2u {f:FuncId} {F:Int->Int->Int->Int} (hp:∀a b c,Zv PP f [.int .u32 a,.int .u32 b,.int .u32 c] (.int .u32 (F a b c)) 0 []) (args:List AV) (h:Z8) (K:AV->Prop) (hl:Z1e F args h K):Zf PP f args h fun o h'=>∃v,o=.ret v/\h'=h/\K v:=by
 unfold Z1e at hl
 split at hl
 ·rename_i a b c
  refine U1 (d:=20) (K0:=fun l=>l=[.int .u32 a,.int .u32 b,.int .u32 c]) ?_ fun l e=>⟨_,by simp_all,fun _=>rfl,hl⟩
  rfl
 simp_all
def sg3 (a b c:Int) (w:Int):Int:=Yk .u32 (Yk .u32 (Z78 w (32-a)) (Z78 w (32-b))) (Z78 w (32-c))
def rg3 (a b n:Int) (w:Int):Int:=Yk .u32 (Yk .u32 (Z78 w (32-a)) (Z78 w (32-b))) (Zm .u32 w n)
def Z7B (bl:LI) (t:Nat):Int:=u32.wrap (u32.wrap (u32.wrap (ZB .u32 (u32.wrap (bl.getD (4*t) 0)) 24+ZB .u32 (u32.wrap (bl.getD (4*t+1) 0)) 16)+ZB .u32 (u32.wrap (bl.getD (4*t+2) 0)) 8)+u32.wrap (bl.getD (4*t+3) 0))
def Zc6 (m:LI) (t:Nat):Int:=u32.wrap (u32.wrap (u32.wrap (rg3 17 19 10 (m.getD (t-2) 0)+m.getD (t-7) 0)+rg3 7 18 3 (m.getD (t-15) 0))+m.getD (t-16) 0)
def XT (bl:LI):Nat->LI
 | 0=>List.replicate 64 0
 | t+1=>(XT bl t).set t (if t<16 then Z7B bl t else Zc6 (XT bl t) t)
theorem Z2v (bl:LI):∀t,(XT bl t).length=64
 | 0=>rfl
 | t+1=>by simp [XT,Z2v bl t]
def prS (st bl m:LI) (i:Nat):St:=⟨146,[(6,.int .i64 i),(3,pt 1),(5,pt 3),(2,pt 0),(4,pt 2)],⟨4,[(3,.flat [.arr .u32 64 m]),(2,.flat [.arr .u32 8 [0,0,0,0,0,0,0,0]]),(1,.flat [.arr .u8 64 bl]),(0,.flat [.arr .u32 8 st])]⟩,[]⟩
theorem Zj4 (st bl m m':LI) (i:Nat) (Z1 Z2:Prop) (hi:i<=64) (hm:m.length=64) (hm':m'=m.set i (if i<16 then Z7B bl i else Zc6 m i)) (h1:i<64->Z1) (h2:i=64->Z2):
  Zz G0 20 122 0 0 (prS st bl m i) (rdM 0 0 9 (prS st bl m' (i+1)) (prS st bl m i) (prS st bl m i) (prS st bl m i) Z1 Z2 False False):=by
 refine @Eq.mpr _ (let b:=wrap i64 (4*(↑i:Int));let A:=0+Int.toNat b;let h:=wrap i64 (b+1);let u:=0+Int.toNat h;let f:=wrap i64 (b+2);let t:=0+Int.toNat f;let e:=wrap i64 (b+3);let s:=0+Int.toNat e;let r:=decide (0<=(↑i:Int)/\(↑i:Int)<64);let d:=0+Int.toNat (↑i:Int);let H:=decide (u32=u32/\d<64/\d<m.length);let G:=decide (wrap i64 ((↑i:Int)+1)=(↑(i+1):Int));let F:=[(0:Int),0,0,0,0,0,0,0];let E:=F=F;let D:=E/\bl=bl/\st=st/\Z1;let q:=wrap i64 ((↑i:Int)-2);let C:=0+Int.toNat q;let p:=wrap i64 ((↑i:Int)-7);let B:=0+Int.toNat p;let o:=decide (B<64);let n:=wrap i64 ((↑i:Int)-15);let z:=0+Int.toNat n;let y:=decide (z<64);let l:=wrap i64 ((↑i:Int)-16);let x:=0+Int.toNat l;let k:=decide (x<64);let j:=List.getD m x 0;let w:=decide (j=j);let a:=List.getD m z 0;let g:=List.getD m B 0;let v:=decide (g=g);let c:=List.getD m C 0;
 Z6 (decide ((↑i:Int)<64)) (Z6 (decide ((↑i:Int)<16)) (Z5 (0<=b/\b<64) (Z5 (A<64) (Z5 (0<=h/\h<64) (Z5 (u<64) (Z5 (0<=f/\f<64) (Z5 (t<64) (Z5 (0<=e/\e<64) (Z5 (s<64) (Z0 r (Z0 H (Z0 G (List.set m d (wrap u32 (wrap u32 (wrap u32 (ZB u32 (wrap u32 (List.getD bl A 0)) 24+ZB u32 (wrap u32 (List.getD bl u 0)) 16)+ZB u32 (wrap u32 (List.getD bl t 0)) 8)+wrap u32 (List.getD bl s 0)))=m'/\D)))))))))))) (Z5 (0<=q/\q<64) (Z5 (C<64) (Z5 (0<=p/\p<64) (Z0 o (Z5 (0<=n/\n<64) (Z0 y (Z5 (0<=l/\l<64) (Z0 k (Z0 k (Z0 w (Z0 y (Z5 (a=a) (Z0 o (Z0 v (Z0 k (Z0 w (Z0 o (Z0 v (Z0 r (Z0 H (Z0 G (List.set m d (wrap u32 (wrap u32 (wrap u32 (Yk u32 (Yk u32 (bOr u32 (ZB u32 c 15) (Zm u32 c 17)) (bOr u32 (ZB u32 c 13) (Zm u32 c 19))) (Zm u32 c 10)+g)+Yk u32 (Yk u32 (bOr u32 (ZB u32 a 25) (Zm u32 a 7)) (bOr u32 (ZB u32 a 14) (Zm u32 a 18))) (Zm u32 a 3))+j))=m'/\D))))))))))))))))))))))) (Z5 ((↑i:Int)=(↑i:Int)) (m=m/\E/\bl=bl/\st=st/\Z2))) (by kernel_rfl) ?_
 conv=>zeta
 try simp only [vcA]
 try simp only [vcB]
 try simp only [vcC]
 have hw:i64.wrap ((i:Int)+1)=((i+1:Nat):Int):=w64 (by omega)
 refine ⟨fun hlt=>⟨fun h16=> ?_,fun h16=> ?_⟩,fun hge=>h2 (by omega)⟩
 ·have e0:i64.wrap (4*(i:Int))=((4*i:Nat):Int):=by rw [w64 (by omega)];omega
  have e1:i64.wrap (((4*i:Nat):Int)+1)=((4*i+1:Nat):Int):=by rw [w64 (by omega)];omega
  have e2:i64.wrap (((4*i:Nat):Int)+2)=((4*i+2:Nat):Int):=by rw [w64 (by omega)];omega
  have e3:i64.wrap (((4*i:Nat):Int)+3)=((4*i+3:Nat):Int):=by rw [w64 (by omega)];omega
  rw [if_pos (by omega)] at hm'
  simp only [e0,e1,e2,e3,hw,JK]
  repeat' (first|(refine Ju ?_ ?_)|intro _)
  all_goals first|omega|exact hm'.symm|exact h1 (by omega)|trivial
 ·have e0:i64.wrap ((i:Int)-2)=((i-2:Nat):Int):=by rw [w64 (by omega)];omega
  have e1:i64.wrap ((i:Int)-7)=((i-7:Nat):Int):=by rw [w64 (by omega)];omega
  have e2:i64.wrap ((i:Int)-15)=((i-15:Nat):Int):=by rw [w64 (by omega)];omega
  have e3:i64.wrap ((i:Int)-16)=((i-16:Nat):Int):=by rw [w64 (by omega)];omega
  rw [if_neg (by omega)] at hm'
  simp only [e0,e1,e2,e3,hw]
  repeat' (first|(refine Ju ?_ ?_))
  all_goals first|omega|exact hm'.symm|exact h1 (by omega)|trivial
noncomputable def Zi4 (st bl:LI):Zd:=G0.withL 122 0 (goM 0 (prS st bl (List.replicate 64 0) 0) True (Y9 0 64 9 (fun i=>i<64) (fun i=>i=64) (fun _=>False) (fun _=>False) (fun i=>prS st bl (XT bl i) i) (fun i=>prS st bl (XT bl i) i) (fun i=>prS st bl (XT bl i) i)))
theorem Zeq (st bl:LI):(Zi4 st bl).Ok:=by
 refine Zd.withGoM (N:=20) (S:=fun i=>prS st bl (XT bl i) i) Zt (by kernel_rfl) fun hC=>⟨rfl,fun i hi hgo=> ?_⟩
 simp_all [Zj4,XT,Z2v]
noncomputable def E54 (M P:Int->Int->Int->Int):Zd:=(G0.withP 155 (Z1e M)).withP 154 (Z1e P)
theorem Zgu:(E54 YZ YT).Ok:=Zd.withP_ok (Zd.withP_ok Zt (Z2u fun a b c=>by unfold YZ;exact .ev (Zeo a b c) (Zgs a b c _ rfl))) (Z2u fun a b c=>by unfold YT;exact .ev (Zep a b c) (Zgt a b c _ rfl))
def Z0K (M P:Int->Int->Int->Int) (k m:Int) (x:LI):LI:=
 let one:=u32.wrap (u32.wrap (u32.wrap (u32.wrap (x.getD 7 0+sg3 6 11 25 (x.getD 4 0))+P (x.getD 4 0) (x.getD 5 0) (x.getD 6 0))+k)+m)
 [u32.wrap (one+u32.wrap (sg3 2 13 22 (x.getD 0 0)+M (x.getD 0 0) (x.getD 1 0) (x.getD 2 0))),x.getD 0 0,x.getD 1 0,x.getD 2 0,u32.wrap (x.getD 3 0+one),x.getD 4 0,x.getD 5 0,x.getD 6 0]
def U6 (M P:Int->Int->Int->Int) (m st:LI):Nat->LI
 | 0=>st
 | t+1=>Z0K M P (WV.getD t 0) (m.getD t 0) (U6 M P m st t)
theorem Z9U (M P:Int->Int->Int->Int) (m st:LI) (t:Nat):U6 M P m st (t+1)=Z0K M P (WV.getD t 0) (m.getD t 0) (U6 M P m st t):=rfl
theorem Z9V (M P:Int->Int->Int->Int) (m st:LI):U6 M P m st 0=st:=rfl
theorem QO {M P:Int->Int->Int->Int} {m st:LI} (h:st.length=8):∀t,(U6 M P m st t).length=8
 | 0=>h
 | _+1=>rfl
def prT (st k m x:LI) (i:Nat):St:=⟨146,[(9,.int .i64 i),(8,pt 6),(7,pt 5),(5,pt 3),(2,pt 0),(4,pt 2)],⟨7,[(6,.flat [.arr .u32 8 x]),(5,.flat [.arr .u32 64 k]),(3,.flat [.arr .u32 64 m]),(2,.flat [.arr .u32 8 [0,0,0,0,0,0,0,0]]),(0,.flat [.arr .u32 8 st])]⟩,[]⟩
def prU (st x:LI):St:=⟨146,[(8,pt 6),(2,pt 0),(4,pt 2)],⟨7,[(6,.flat [.arr .u32 8 x]),(2,.flat [.arr .u32 8 [0,0,0,0,0,0,0,0]]),(0,.flat [.arr .u32 8 st])]⟩,[]⟩
theorem Zj5 (M P:Int->Int->Int->Int) (st k m x':LI) (x0 x1 x2 x3 x4 x5 x6 x7:Int) (i:Nat) (Z1 Z2:Prop) (hi:i<=64) (hx:x'=Z0K M P (k.getD i 0) (m.getD i 0) [x0,x1,x2,x3,x4,x5,x6,x7]) (h1:i<64->Z1) (h2:i=64->Z2):
  Zz (E54 M P) 20 122 2 0 (prT st k m [x0,x1,x2,x3,x4,x5,x6,x7] i) (rdM 0 2 9 (prT st k m x' (i+1)) (prU st [x0,x1,x2,x3,x4,x5,x6,x7]) (prU st [x0,x1,x2,x3,x4,x5,x6,x7]) (prU st [x0,x1,x2,x3,x4,x5,x6,x7]) Z1 Z2 False False):=by
 refine @Eq.mpr _ (let l:=decide (0<=(↑i:Int)/\(↑i:Int)<64);let a:=0+Int.toNat (↑i:Int);let h:=decide (a<64);let g:=decide (a<64);let c:=List.getD m a 0;let b:=List.getD k a 0;let f:=wrap u32 (wrap u32 (wrap u32 (wrap u32 (x7+Yk u32 (Yk u32 (bOr u32 (ZB u32 x4 26) (Zm u32 x4 6)) (bOr u32 (ZB u32 x4 21) (Zm u32 x4 11))) (bOr u32 (ZB u32 x4 7) (Zm u32 x4 25)))+P x4 x5 x6)+b)+c);let e:=[(0:Int),0,0,0,0,0,0,0];let d:=e=e;let j:=[x0,x1,x2,x3,x4,x5,x6,x7];
 Z6 (decide ((↑i:Int)<64)) (Z0 l (Z0 h (Z0 l (Z0 g (Z0 g (Z5 (c=c) (Z0 h (Z5 (b=b) (Z5 (x6=x6) (Z5 (x5=x5) (Z5 (x4=x4) (Z5 (x7=x7) (Z5 (x2=x2) (Z5 (x1=x1) (Z5 (x0=x0) (Z5 (wrap i64 ((↑i:Int)+1)=(↑(i+1):Int)) ([wrap u32 (f+wrap u32 (Yk u32 (Yk u32 (bOr u32 (ZB u32 x0 30) (Zm u32 x0 2)) (bOr u32 (ZB u32 x0 19) (Zm u32 x0 13))) (bOr u32 (ZB u32 x0 10) (Zm u32 x0 22))+M x0 x1 x2)),x0,x1,x2,wrap u32 (x3+f),x4,x5,x6]=x'/\k=k/\m=m/\d/\st=st/\Z1))))))))))))))))) (j=j/\d/\st=st/\Z2)) (by kernel_rfl) ?_
 conv=>zeta
 try simp only [vcA]
 try simp only [vcB]
 try simp only [vcC]
 have hw:i64.wrap ((i:Int)+1)=((i+1:Nat):Int):=w64 (by omega)
 refine ⟨fun hlt=> ?_,fun hge=>h2 (by omega)⟩
 rw [hw]
 repeat' (first|(refine Ju ?_ ?_)|intro _)
 all_goals first|omega|exact hx.symm|exact h1 (by omega)|trivial
def prV (st x:LI) (i:Nat):St:=⟨146,[(12,.int .i64 i),(8,pt 6),(2,pt 0),(4,pt 2)],⟨7,[(6,.flat [.arr .u32 8 x]),(2,.flat [.arr .u32 8 [0,0,0,0,0,0,0,0]]),(0,.flat [.arr .u32 8 st])]⟩,[]⟩
def Vh (st x:LI):Nat->LI
 | 0=>x
 | i+1=>(Vh st x i).set i (u32.wrap ((Vh st x i).getD i 0+st.getD i 0))
theorem Z2w {st x:LI} (h:x.length=8):∀i,(Vh st x i).length=8
 | 0=>h
 | i+1=>by simp [Vh,Z2w h i]
theorem Zj6 (st x x':LI) (i:Nat) (Z1 Z2:Prop) (hi:i<=8) (hl:x.length=8) (hs:st.length=8) (hx:x'=x.set i (u32.wrap (x.getD i 0+st.getD i 0))) (h1:i<8->Z1) (h2:i=8->Z2):
  Zz G0 20 122 4 0 (prV st x i) (rdM 0 4 9 (prV st x' (i+1)) (prU st x) (prU st x) (prU st x) Z1 Z2 False False):=by
 refine @Eq.mpr _ (let b:=decide (0<=(↑i:Int)/\(↑i:Int)<8);let a:=0+Int.toNat (↑i:Int);let d:=[(0:Int),0,0,0,0,0,0,0];let c:=d=d;
 Z6 (decide ((↑i:Int)<8)) (Z0 b (Z5 (a<8) (Z0 b (Z5 (a<8) (Z0 b (Z5 (u32=u32/\a<8/\a<x.length) (Z5 (wrap i64 ((↑i:Int)+1)=(↑(i+1):Int)) (List.set x a (wrap u32 (List.getD x a 0+List.getD st a 0))=x'/\c/\st=st/\Z1)))))))) (x=x/\c/\st=st/\Z2)) (by kernel_rfl) ?_
 conv=>zeta
 try simp only [vcA]
 try simp only [vcB]
 try simp only [vcC]
 have hw:i64.wrap ((i:Int)+1)=((i+1:Nat):Int):=w64 (by omega)
 refine ⟨fun hlt=> ?_,fun hge=>h2 (by omega)⟩
 rw [hw]
 repeat' (first|(refine Ju ?_ ?_)|intro _)
 all_goals first|omega|exact hx.symm|exact h1 (by omega)|trivial
def Zi5 (M P:Int->Int->Int->Int) (st m:LI):Nat->St->KE->Prop:=goM 0 (prT st WV m st 0) (st.length=8) (Y9 2 64 9 (fun i=>i<64) (fun i=>i=64) (fun _=>False) (fun _=>False) (fun i=>prU st (U6 M P m st i)) (fun i=>prU st (U6 M P m st i)) (fun i=>prU st (U6 M P m st i)))
theorem Zer (st m:LI):((E54 YZ YT).withL 122 2 (Zi5 YZ YT st m)).Ok:=by
 refine Zd.withGoM (N:=20) (S:=fun i=>prT st WV m (U6 YZ YT m st i) i) Zgu (by kernel_rfl) fun hC=>⟨rfl,fun i hi hgo=> ?_⟩
 obtain ⟨x0,x1,x2,x3,x4,x5,x6,x7,e⟩:=eight _ (QO (M:=YZ) (P:=YT) (m:=m) hC i)
 show Zz _ 20 122 2 0 (prT st WV m (U6 YZ YT m st i) i) (rdM 0 2 9 (prT st WV m (Z0K YZ YT (WV.getD i 0) (m.getD i 0) (U6 YZ YT m st i)) (i+1)) _ _ _ _ _ _ _)
 rw [e]
 exact Zj5 YZ YT st WV m _ x0 x1 x2 x3 x4 x5 x6 x7 i _ _ hi rfl (fun h=>⟨h,h⟩) (fun h=>h)
def Zi6 (st x:LI):Nat->St->KE->Prop:=goM 0 (prV st x 0) (st.length=8/\x.length=8) (Y9 4 8 9 (fun i=>i<8) (fun i=>i=8) (fun _=>False) (fun _=>False) (fun i=>prU st (Vh st x i)) (fun i=>prU st (Vh st x i)) (fun i=>prU st (Vh st x i)))
theorem Zes (st x:LI):(G0.withL 122 4 (Zi6 st x)).Ok:=by
 refine Zd.withGoM (N:=20) (S:=fun i=>prV st (Vh st x i) i) Zt (by kernel_rfl) fun hC=>⟨rfl,fun i hi hgo=> ?_⟩
 simp_all [Zj6,Vh,Z2w]
noncomputable def Zi7 (M P:Int->Int->Int->Int) (st bl m x:LI):Zd:=((Zi4 st bl).withL 122 2 (Zi5 M P st m)).withL 122 4 (Zi6 st x)
theorem Zet (st bl m x:LI):(Zi7 YZ YT st bl m x).Ok:=by
 exact Zd.withL_join (H:=G0) (Zd.withL_join (H:=E54 YZ YT) (Zeq st bl) rfl (Zer st m)) rfl (Zes st x)
@[irreducible] def Xi (st bl:LI):LI:=Vh st (U6 YZ YT (XT bl 64) st 64) 8
attribute [irreducible] XT U6 Vh
theorem Zj7 (M P:Int->Int->Int->Int) (st bl m x r:LI) (hst:st.length=8) (hm:m=XT bl 64) (hx:x=U6 M P m st 64) (hr:r=Vh st x 8):
  evF (Zi7 M P st bl m x) 20 122 [.agg [.arr .u32 8 st],.agg [.arr .u8 64 bl]] ⟨0,[]⟩ (Y8 0 [] (.agg [.arr .u32 8 r]) 0 []):=by
 refine @Eq.mpr _ ((0:Int)::(0:Int)::(0:Int)::(0:Int)::(0:Int)::(0:Int)::(0:Int)::(0:Int)::(0:Int)::(0:Int)::(0:Int)::(0:Int)::(0:Int)::(0:Int)::(0:Int)::(0:Int)::(0:Int)::(0:Int)::(0:Int)::(0:Int)::(0:Int)::(0:Int)::(0:Int)::(0:Int)::(0:Int)::(0:Int)::(0:Int)::(0:Int)::(0:Int)::(0:Int)::(0:Int)::(0:Int)::Z7=(0:Int)::(0:Int)::(0:Int)::(0:Int)::(0:Int)::(0:Int)::(0:Int)::(0:Int)::(0:Int)::(0:Int)::(0:Int)::(0:Int)::(0:Int)::(0:Int)::(0:Int)::(0:Int)::(0:Int)::(0:Int)::(0:Int)::(0:Int)::(0:Int)::(0:Int)::(0:Int)::(0:Int)::(0:Int)::(0:Int)::(0:Int)::(0:Int)::(0:Int)::(0:Int)::(0:Int)::(0:Int)::Z7/\
 [(0:Int),(0:Int),(0:Int),(0:Int),(0:Int),(0:Int),(0:Int),(0:Int)]=[(0:Int),(0:Int),(0:Int),(0:Int),(0:Int),(0:Int),(0:Int),(0:Int)]/\
 bl=bl/\
 st=st/\
 True/\
 ∀(i:Nat),
 i<=(64:Nat)->
 (∀(j:Nat),j<i->(fun (i:Nat)=>i<(64:Nat)) j)->
 (i=(64:Nat)->
 st=st/\
 [(1116352408:Int),(1899447441:Int),(3049323471:Int),(3921009573:Int),(961987163:Int),(1508970993:Int),(2453635748:Int),(2870763221:Int),(3624381080:Int),(310598401:Int),(607225278:Int),(1426881987:Int),(1925078388:Int),(2162078206:Int),(2614888103:Int),(3248222580:Int),(3835390401:Int),(4022224774:Int),(264347078:Int),(604807628:Int),(770255983:Int),(1249150122:Int),(1555081692:Int),(1996064986:Int),(2554220882:Int),(2821834349:Int),(2952996808:Int),(3210313671:Int),(3336571891:Int),(3584528711:Int),(113926993:Int),(338241895:Int),(666307205:Int),(773529912:Int),(1294757372:Int),(1396182291:Int),(1695183700:Int),(1986661051:Int),(2177026350:Int),(2456956037:Int),(2730485921:Int),(2820302411:Int),(3259730800:Int),(3345764771:Int),(3516065817:Int),(3600352804:Int),(4094571909:Int),(275423344:Int),(430227734:Int),(506948616:Int),
 (659060556:Int),(883997877:Int),(958139571:Int),(1322822218:Int),(1537002063:Int),(1747873779:Int),(1955562222:Int),(2024104815:Int),(2227730452:Int),(2361852424:Int),(2428436474:Int),(2756734187:Int),(3204031479:Int),(3329325298:Int)]=
 WV/\
 XT bl i=m/\
 [(0:Int),(0:Int),(0:Int),(0:Int),(0:Int),(0:Int),(0:Int),(0:Int)]=[(0:Int),(0:Int),(0:Int),(0:Int),(0:Int),(0:Int),(0:Int),(0:Int)]/\st=st/\st.length=(8:Nat)/\∀(i:Nat),i<=(64:Nat)->(∀(j:Nat),j<i->(fun (i:Nat)=>i<(64:Nat)) j)->(i=(64:Nat)->U6 M P m st i=x/\[(0:Int),(0:Int),(0:Int),(0:Int),(0:Int),(0:Int),(0:Int),(0:Int)]=[(0:Int),(0:Int),(0:Int),(0:Int),(0:Int),(0:Int),(0:Int),(0:Int)]/\st=st/\(st.length=(8:Nat)/\x.length=(8:Nat))/\∀(i:Nat),i<=(8:Nat)->(∀(j:Nat),j<i->(fun (i:Nat)=>i<(8:Nat)) j)->(i=(8:Nat)->Vh st x i=r/\True)/\(False->[(0:Int),(0:Int),(0:Int),(0:Int),(0:Int),(0:Int),(0:Int),(0:Int)]=r/\True)/\(False->False))/\(False->[(0:Int),(0:Int),(0:Int),(0:Int),(0:Int),(0:Int),(0:Int),(0:Int)]=r/\True)/\(False->False))/\
 (False->[(0:Int),(0:Int),(0:Int),(0:Int),(0:Int),(0:Int),(0:Int),(0:Int)]=r/\True)/\(False->False)) (by kernel_rfl) ?_
 try simp only [vcA]
 try simp only [vcB]
 try simp only [vcC]
 subst hm
 have hl:x.length=8:=by rw [hx];exact QO hst _
 exact fun i _ _=>⟨fun he=>⟨by kernel_rfl,by rw [he],hst,fun j _ _=>⟨fun hj=>⟨by rw [hj,hx],⟨hst,hl⟩,fun q _ _=>⟨fun hq=>by rw [hq,hr],fun h=>h.elim,fun h=>h⟩⟩,fun h=>h.elim,fun h=>h⟩⟩,fun h=>h.elim,fun h=>h⟩
theorem Z60 (st bl:LI) (h:st.length=8):Zv PP 122 [.agg [.arr .u32 8 st],.agg [.arr .u8 64 bl]] (.agg [.arr .u32 8 (Xi st bl)]) 0 []:=by
 unfold Xi
 exact .ev (Zet st bl _ _) (Zj7 YZ YT st bl _ _ _ h rfl rfl rfl)
theorem Z4Q {st:LI} (h:st.length=8):(Xi st bl).length=8:=by simp_all [Xi,Z2w,QO]
def Zeu (n i:Int):Int:=u8.wrap (Int.tmod (Zm .u64 (u64.wrap (u64.wrap n*8)) (u64.wrap (i64.wrap (56-i64.wrap (8*i))))) 256)
def XU (n:Int):Nat->LI
 | 0=>[]
 | i+1=>XU n i++[Zeu n i]
theorem Z2x (n:Int):∀i,(XU n i).length=i
 | 0=>rfl
 | i+1=>by rw [XU,J5,Z2x n i];rfl
def paS (bs ys:LI) (n L i:Nat):St:=⟨39,[(5,.int .i64 i),(4,.nslice ⟨3,0,0,0,0⟩ 1 L L),(0,.vints .u8 bs n)],⟨4,[(3,.ints .u8 ys)]⟩,[]⟩
theorem Zi8 (bs ys zs:LI) (n L L' i:Nat) (Z1 Z2:Prop) (hi:i<=8) (hL:ys.length=L) (hb:L<10000000000000) (hz:zs=ys++[Zeu n i]) (hL':L'=zs.length) (h1:i<8->Z1) (h2:i=8->Z2):
  Zz G0 20 121 0 0 (paS bs ys n L i) (rdM 0 0 9 (paS bs zs n L' (i+1)) (paS bs ys n L i) (paS bs ys n L i) (paS bs ys n L i) Z1 Z2 False False):=by
 refine @Eq.mpr _ (let d:=wrap u64 (wrap i64 (56-wrap i64 (8*(↑i:Int))));let c:=ys++[wrap u8 (Int.tmod (Zm u64 (wrap u64 (wrap u64 (↑n:Int)*8)) d) 256)];let a:=c.length;let b:=decide (n=n);
 Z6 (decide ((↑i:Int)<8)) (Z5 (0<=d) (Z5 (u8=u8/\ys.length=L) (Z5 (a*1<=140737488355328) (Z5 (wrap i64 ((↑i:Int)+1)=(↑(i+1):Int)) (Z5 (a=L') (Z5 (L'<=a) (bs=bs/\Z0 b (c=zs/\Z1)))))))) (Z5 ((↑i:Int)=(↑i:Int)) (Z5 (L=L) (Z5 (L<=L) (bs=bs/\Z0 b (ys=ys/\Z2)))))) (by kernel_rfl) ?_
 conv=>zeta
 try simp only [vcA]
 try simp only [vcB]
 try simp only [vcC]
 have hw:i64.wrap ((i:Int)+1)=((i+1:Nat):Int):=w64 (by omega)
 refine ⟨fun hlt=> ?_,fun hge=>h2 (by omega)⟩
 have hz':zs.length=L+1:=by rw [hz,J5,hL];rfl
 have h0:0<=u64.wrap (i64.wrap (56-i64.wrap (8*(i:Int)))):=by
  unfold wrap
  simp [IntKind.bits,IntKind.signed]
  omega
 simp only [J5,Jh,JD]
 rw [hw]
 repeat' (first|(refine Ju ?_ ?_)|intro _)
 all_goals first|exact h0|omega|exact hz.symm|exact h1 (by omega)|trivial
noncomputable def Zi9 (bs y:LI) (n:Nat):Zd:=G0.withL 121 0 (goM 0 (paS bs (y++XU n 0) n (y++XU n 0).length 0) (y.length<=1000000000000) (Y9 0 8 9 (fun i=>i<8) (fun i=>i=8) (fun _=>False) (fun _=>False) (fun i=>paS bs (y++XU n i) n (y++XU n i).length i) (fun i=>paS bs (y++XU n i) n (y++XU n i).length i) (fun i=>paS bs (y++XU n i) n (y++XU n i).length i)))
theorem Zev (bs y:LI) (n:Nat):(Zi9 bs y n).Ok:=by
 refine Zd.withGoM (N:=20) (S:=fun i=>paS bs (y++XU n i) n (y++XU n i).length i) Zt (by kernel_rfl) fun hC=>⟨rfl,fun i hi hgo=> ?_⟩
 grind [XU,Z2x,Zi8]
def Z0X (n:Nat):LI:=List.replicate (Int.tmod (i64.wrap (128-Int.tmod (i64.wrap ((n:Int)+9)) 64)) 64).toNat 0
@[irreducible] def Qh (bs:LI):LI:=(bs++[128]++Z0X bs.length)++XU bs.length 8
theorem Zgv (n:Nat) (h:n<=100000000000):Int.tmod (i64.wrap (128-Int.tmod (i64.wrap ((n:Int)+9)) 64)) 64=(128-((n:Int)+9)%64)%64:=by
 have e1:i64.wrap ((n:Int)+9)=(n:Int)+9:=w64 (by omega)
 have e2:Int.tmod ((n:Int)+9) 64=((n:Int)+9)%64:=tm (by omega)
 have e3:i64.wrap (128-((n:Int)+9)%64)=128-((n:Int)+9)%64:=w64 (by omega)
 rw [e1,e2,e3,tm (by omega)]
theorem Zc7 (n:Nat) (h:n<=100000000000):(Z0X n).length<=64:=by
 grind [Z0X]
theorem Zia (bs y r:LI) (n L:Nat) (hn:bs.length=n) (hb:n<=100000000000) (hy:y=bs++[128]++Z0X n) (hr:r=y++XU n 8) (hL:L=r.length):
  evF (Zi9 bs y n) 20 121 [.vints .u8 bs n] ⟨0,[]⟩ (YU 0 (.ret (.nslice ⟨0,0,0,0,0⟩ 1 L L)) 1 [(0,.ints .u8 r)]):=by
 refine @Eq.mpr _ (let o:=[]++List.take n bs;let b:=o.length;let h:=o++[(128:Int)];let a:=h.length;let g:=Int.tmod (wrap i64 (128-Int.tmod (wrap i64 (↑n+9)) 64)) 64;let f:=Int.toNat g;let e:=h++List.replicate f 0;let d:=e.length;let c:=y++XU (↑n) 0;let m:=c.length;
 Z5 (b*1<=140737488355328) (Z5 (u8=u8/\b=b) (Z5 (a*1<=140737488355328) (Z5 (u8=u8/\a=a) (Z5 ((0:Int)=0/\0<=g/\(a+f)*1<=140737488355328) (Z5 (d=m) (Z5 (m<=d) (bs=bs/\
 Z5 (n=n) (e=c/\
 y.length<=1000000000000/\
 ∀(i:Nat),
 let l:=y++XU (↑n) i;let k:=l.length;
 i<=8->(∀(j:Nat),j<i->(fun (i:Nat)=>i<8) j)->(i=8->Z5 (k=L) (Z5 (L<=k) (l=r/\True)))/\(False->False)/\(False->False)))))))))) (by kernel_rfl) ?_
 conv=>zeta
 try simp only [vcA]
 try simp only [vcB]
 try simp only [vcC]
 have ht:List.take n bs=bs:=by rw [<-hn];exact Js
 have hz:=Zc7 n hb
 have hx:=Zgv n hb
 have e0:[]++List.take n bs++[128]++List.replicate (Int.tmod (i64.wrap (128-Int.tmod (i64.wrap ((n:Int)+9)) 64)) 64).toNat 0=y++XU n 0:=by rw [ht,hy];simp [Z0X,XU]
 have hyl:y.length=n+1+(Z0X n).length:=by rw [hy,J5,J5,hn];rfl
 subst hL hr
 simp only [e0,ht,J5,Jh,JD,hn,JE]
 refine ⟨by omega,by omega,⟨by omega,by omega⟩, ?_, ?_, ?_,by omega,fun i hi _=>⟨fun he=>by subst he;exact ⟨rfl,J2 _,rfl⟩,fun h=>h,fun h=>h⟩⟩
 ·rw [hyl];unfold Z0X XU;rfl
 ·rw [hyl];unfold Z0X XU;exact J2 _
 ·rw [hy];simp [Z0X,XU]
theorem Z9W (bs:LI) (h:bs.length<=100000000000):Zv PP 121 [.vints .u8 bs bs.length] (.nslice ⟨0,0,0,0,0⟩ 1 (Qh bs).length (Qh bs).length) 1 [(0,.ints .u8 (Qh bs))]:=.evM (Zev bs _ _) (Zia bs _ _ _ _ rfl h rfl (by unfold Qh;rfl) rfl)
def Zfh (P:LI->LI) (B:Nat):YA:=fun args h K=>ZL none h true 20 args fun a=>Vs a fun xs=>Z5 (xs.length<=B) (K (.ret (.nslice ⟨h.next,0,0,0,0⟩ 1 (P xs).length (P xs).length)) ⟨h.next+1,(h.next,.ints .u8 (P xs))::h.bs⟩)
theorem Zc8 (B:Nat) (hB:B<=100000000000) (args:List AV) (h:Z8) (K:KO) (hl:Zfh Qh B args h K):Zf PP 121 args h K:=by
 refine Zv.fsumm (d:=20) (Zi _ _ _ _ _ hl fun a ha=> ?_)
 obtain ⟨xs,rfl,hK⟩:=Xv ha
 obtain ⟨hx,hK⟩:=Zc hK
 exact ⟨_,_,_,_,Z9W xs (K4 hx hB),rfl,⟨Jx,.ints _ _,trivial⟩,hK⟩
def toE (x d:Int):Int:=u8.wrap (Int.tmod (u32.wrap (Int.tdiv x d)) 256)
def toN (x:LI):Nat->LI
 | 0=>Z7
 | i+1=>((((toN x i).set (4*i) (u8.wrap (u32.wrap (Int.tdiv (x.getD i 0) 16777216)))).set (4*i+1) (toE (x.getD i 0) 65536)).set (4*i+2) (toE (x.getD i 0) 256)).set (4*i+3) (u8.wrap (Int.tmod (x.getD i 0) 256))
theorem Z4R (x:LI):∀i,(toN x i).length=32
 | 0=>rfl
 | i+1=>by simp [toN,Z4R x i]
def toS (x h:LI) (i:Nat):St:=⟨47,[(4,.int .i64 i),(1,pt 0),(3,pt 2),(2,pt 1)],⟨3,[(2,.flat [.arr .u8 32 h]),(1,.flat [.arr .u8 32 Z7]),(0,.flat [.arr .u32 8 x])]⟩,[]⟩
theorem Zj8 (x h h':LI) (i:Nat) (Z1 Z2:Prop) (hi:i<=8) (hl:h.length=32) (hh:h'=(((h.set (4*i) (u8.wrap (u32.wrap (Int.tdiv (x.getD i 0) 16777216)))).set (4*i+1) (toE (x.getD i 0) 65536)).set (4*i+2) (toE (x.getD i 0) 256)).set (4*i+3) (u8.wrap (Int.tmod (x.getD i 0) 256))) (h1:i<8->Z1) (h2:i=8->Z2):
  Zz G0 20 123 0 0 (toS x h i) (rdM 0 0 9 (toS x h' (i+1)) (toS x h i) (toS x h i) (toS x h i) Z1 Z2 False False):=by
 refine @Eq.mpr _ (let d:=decide (0<=(↑i:Int)/\(↑i:Int)<8);let o:=0+Int.toNat (↑i:Int);let c:=decide (o<8);let a:=wrap i64 (4*(↑i:Int));let g:=0+Int.toNat a;let f:=wrap i64 (a+1);let e:=0+Int.toNat f;let b:=List.getD x o 0;let n:=List.set h g (wrap u8 (wrap u32 (Int.tdiv b 16777216)));let m:=wrap i64 (a+2);let l:=0+Int.toNat m;let q:=List.set n e (wrap u8 (Int.tmod (wrap u32 (Int.tdiv b 65536)) 256));let k:=wrap i64 (a+3);let j:=0+Int.toNat k;let p:=List.set q l (wrap u8 (Int.tmod (wrap u32 (Int.tdiv b 256)) 256));
 Z6 (decide ((↑i:Int)<8)) (Z0 d (Z0 c (Z5 (0<=a/\a<32) (Z5 (u8=u8/\g<32/\g<h.length) (Z0 d (Z0 c (Z5 (0<=f/\f<32) (Z5 (u8=u8/\e<32/\e<n.length) (Z0 d (Z0 c (Z5 (0<=m/\m<32) (Z5 (u8=u8/\l<32/\l<q.length) (Z0 d (Z0 c (Z5 (0<=k/\k<32) (Z5 (u8=u8/\j<32/\j<p.length) (Z5 (wrap i64 ((↑i:Int)+1)=(↑(i+1):Int)) (List.set p j (wrap u8 (Int.tmod b 256))=h'/\Z7=Z7/\x=x/\Z1)))))))))))))))))) (Z5 ((↑i:Int)=(↑i:Int)) (h=h/\Z7=Z7/\x=x/\Z2))) (by kernel_rfl) ?_
 conv=>zeta
 try simp only [vcA]
 try simp only [vcB]
 try simp only [vcC]
 have hw:i64.wrap ((i:Int)+1)=((i+1:Nat):Int):=w64 (by omega)
 refine ⟨fun hlt=> ?_,fun hge=>h2 (by omega)⟩
 have e0:i64.wrap (4*(i:Int))=((4*i:Nat):Int):=by rw [w64 (by omega)];omega
 have e1:i64.wrap (((4*i:Nat):Int)+1)=((4*i+1:Nat):Int):=by rw [w64 (by omega)];omega
 have e2:i64.wrap (((4*i:Nat):Int)+2)=((4*i+2:Nat):Int):=by rw [w64 (by omega)];omega
 have e3:i64.wrap (((4*i:Nat):Int)+3)=((4*i+3:Nat):Int):=by rw [w64 (by omega)];omega
 simp only [e0,e1,e2,e3,hw,JK,List.length_set]
 repeat' (first|(refine Ju ?_ ?_)|intro _)
 all_goals first|omega|exact hh.symm|exact h1 (by omega)|trivial
noncomputable def Zib (x:LI):Zd:=G0.withL 123 0 (goM 0 (toS x Z7 0) True (Y9 0 8 9 (fun i=>i<8) (fun i=>i=8) (fun _=>False) (fun _=>False) (fun i=>toS x (toN x i) i) (fun i=>toS x (toN x i) i) (fun i=>toS x (toN x i) i)))
theorem Zew (x:LI):(Zib x).Ok:=by
 refine Zd.withGoM (N:=20) (S:=fun i=>toS x (toN x i) i) Zt (by kernel_rfl) fun hC=>⟨rfl,fun i hi hgo=> ?_⟩
 simp_all [Zj8,toN,Z4R]
@[irreducible] def UK (x:LI):LI:=toN x 8
attribute [irreducible] toN
theorem Zj9 (x r:LI) (hr:r=toN x 8):
  evF (Zib x) 20 123 [.agg [.arr .u32 8 x]] ⟨0,[]⟩ (Y8 0 [] (.agg [.arr .u8 32 r]) 0 []):=by
 refine @Eq.mpr _ (Z7=Z7/\Z7=Z7/\x=x/\True/\∀(i:Nat),i<=8->(∀(j:Nat),j<i->(fun (i:Nat)=>i<8) j)->(i=8->toN x i=r/\True)/\(False->Z7=r/\True)/\(False->False)) (by kernel_rfl) ?_
 try simp only [vcA]
 try simp only [vcB]
 try simp only [vcC]
 subst hr
 exact fun i hi _=>⟨fun he=>by subst he;rfl,fun h=>h.elim,fun h=>h⟩
def Zc9 (T:LI->LI):ZM:=fun args _ K=>match args with
 | [.agg [.arr .u32 8 x]]=>K (.agg [.arr .u8 32 (T x)])
 | _=>False
theorem Zca (args:List AV) (h:Z8) (K:AV->Prop) (hl:Zc9 UK args h K):Zf PP 123 args h fun o h'=>∃v,o=.ret v/\h'=h/\K v:=by
 unfold Zc9 at hl
 split at hl
 ·rename_i x
  refine U1 (d:=20) (K0:=fun l=>l=[.agg [.arr .u32 8 x]]) ?_ fun l e=>⟨_,by rw [e];exact (by unfold UK;exact .ev (Zew x) (Zj9 x _ rfl)),fun _=>rfl,hl⟩
  rfl
 simp_all
def Z4S (P:LI->LI->LI):ZM:=fun args _ K=>match args with
 | [.agg [.arr .u32 8 st],.agg [.arr .u8 64 bl]]=>Z5 (st.length=8) (K (.agg [.arr .u32 8 (P st bl)]))
 | _=>False
structure Uu (P:LI->LI->LI):Prop where
 pure:∀st bl,st.length=8->Zv PP 122 [.agg [.arr .u32 8 st],.agg [.arr .u8 64 bl]] (.agg [.arr .u32 8 (P st bl)]) 0 []
 len:∀st bl,st.length=8->(P st bl).length=8
theorem Z7C {P:LI->LI->LI} (hP:Uu P) (args:List AV) (h:Z8) (K:AV->Prop) (hl:Z4S P args h K):Zf PP 122 args h fun o h'=>∃v,o=.ret v/\h'=h/\K v:=by
 unfold Z4S at hl
 split at hl
 ·rename_i st bl
  obtain ⟨hs,hK⟩:=Zc hl
  refine U1 (d:=20) (K0:=fun l=>l=[.agg [.arr .u32 8 st],.agg [.arr .u8 64 bl]]) ?_ fun l e=>⟨_,by rw [e];exact hP.pure st bl hs,fun _=>rfl,hK⟩
  rfl
 simp_all
noncomputable def E56 (P:LI->LI->LI) (Q:LI->LI) (T:LI->LI) (B:Nat):Zd:=((G0.withP 122 (Z4S P)).withF 121 (Zfh Q B)).withP 123 (Zc9 T)
theorem Zgw {P:LI->LI->LI} (hP:Uu P) (hB:B<=100000000000):(E56 P Qh UK B).Ok:=Zd.withP_ok (Zd.withF_ok (Zd.withP_ok Zt (Z7C hP)) (Zc8 B hB)) Zca
def Zex (ys st:LI) (o n:Nat):St:=⟨21,[(4,.nslice ⟨3,0,0,0,o⟩ 1 n n),(3,pt 2),(2,pt 0)],⟨4,[(3,.ints .u8 ys),(2,.flat [.arr .u32 8 st]),(0,.flat [.arr .u8 32 Z7])]⟩,[]⟩
def Z9X (st:LI):St:=⟨21,[(3,pt 2),(2,pt 0)],⟨4,[(2,.flat [.arr .u32 8 st]),(0,.flat [.arr .u8 32 Z7])]⟩,[]⟩
theorem Zic (P:LI->LI->LI) (Q:LI->LI) (T:LI->LI) (B:Nat) (ys st st':LI) (o o' n n' k i:Nat) (Z1 Z2:Prop) (hi:i<=k) (hk:ys.length=64*k) (ho:o=64*i) (ho':o'=64*(i+1)) (hn:n=64*k-64*i) (hn':n'=64*k-64*(i+1)) (hs:st.length=8) (hst:st'=P st ((ys.drop o).take 64)) (h1:i<k->Z1) (h2:i=k->Z2):
  Zz (E56 P Q T B) 20 90 0 0 (Zex ys st o n) (rdM 0 0 9 (Zex ys st' o' n') (Z9X st) (Z9X st) (Z9X st) Z1 Z2 False False):=by
 refine @Eq.mpr _ (let c:=decide (n<=n);let b:=decide ((0:Int)<=64/\64<=(↑n:Int));let a:=Qr n (some 64);
 Z6 (decide ((↑n:Int)>0)) (Z0 c (Z0 b (Z5 (o+0+64<=ys.length) (Z5 (st.length=8) (Z0 c (Z0 b (Z5 (o+64=o') (Z5 (a=n') (Z5 (n'<=a) (ys=ys/\P st (List.take 64 (List.drop (o+0) ys))=st'/\Z7=Z7/\Z1)))))))))) (st=st/\Z7=Z7/\Z2)) (by kernel_rfl) ?_
 conv=>zeta
 try simp only [vcA]
 try simp only [vcB]
 try simp only [vcC]
 refine ⟨fun hlt=> ?_,fun hge=>h2 (by omega)⟩
 have e1:n-64=n':=by omega
 have e2:o+64=o':=by omega
 simp only [Qr,e1,e2,K6]
 repeat' (first|(refine Ju ?_ ?_)|intro _)
 all_goals first|omega|exact hst.symm|exact h1 (by omega)|trivial
def QP (P:LI->LI->LI) (ys:LI):Nat->LI
 | 0=>Yc.st
 | i+1=>P (QP P ys i) ((ys.drop (64*i)).take 64)
theorem Z61 {P:LI->LI->LI} (hP:Uu P) (ys:LI):∀i,(QP P ys i).length=8
 | 0=>rfl
 | i+1=>hP.len _ _ (Z61 hP ys i)
theorem Z3K (P:LI->LI->LI) (ys:LI):QP P ys 0=Yc.st:=rfl
theorem Z3L (P:LI->LI->LI) (ys:LI) (i:Nat):QP P ys (i+1)=P (QP P ys i) ((ys.drop (64*i)).take 64):=rfl
attribute [irreducible] QP
noncomputable def Zid (P:LI->LI->LI) (Q:LI->LI) (T:LI->LI) (B:Nat) (ys:LI) (L k:Nat):Zd:=(E56 P Q T B).withL 90 0 (goM 0 (Zex ys [1779033703,3144134277,1013904242,2773480762,1359893119,2600822924,528734635,1541459225] 0 L) (ys.length=64*k/\L=64*k) (Y9 0 k 9 (fun i=>i<k) (fun i=>i=k) (fun _=>False) (fun _=>False) (fun i=>Z9X (QP P ys i)) (fun i=>Z9X (QP P ys i)) (fun i=>Z9X (QP P ys i))))
theorem Zey {P:LI->LI->LI} (hP:Uu P) (hB:B<=100000000000) (ys:LI) (L k:Nat):(Zid P Qh UK B ys L k).Ok:=by
 refine Zd.withGoM (N:=20) (S:=fun i=>Zex ys (QP P ys i) (64*i) (64*k-64*i)) (Zgw hP hB) (by kernel_rfl) fun hC=>⟨?_,fun i hi hgo=> ?_⟩
 ·rw [hC.2,Z3K];rfl
 grind [Zic,Z61,Z3L]
theorem Zie (P:LI->LI->LI) (Q:LI->LI) (T:LI->LI) (B:Nat) (bs ys r:LI) (n L k:Nat) (hn:n=bs.length) (hB:n<=B) (hy:ys=Q bs) (hL:L=ys.length) (hk:ys.length=64*k) (hr:r=T (QP P ys k)):
  evF (Zid P Q T B ys L k) 20 90 [.vints .u8 bs n] ⟨0,[]⟩ (Y8 0 [] (.agg [.arr .u8 32 r]) 0 []):=by
 refine @Eq.mpr _ (let a:=[(1779033703:Int),3144134277,1013904242,2773480762,1359893119,2600822924,528734635,1541459225];
 Z5 (n=bs.length) (Z5 (bs.length<=B) (Z5 (List.length (Q bs)=L) (Z5 (L<=List.length (Q bs)) (Q bs=ys/\a=a/\Z7=Z7/\(ys.length=64*k/\L=64*k)/\∀(i:Nat),i<=k->(∀(j:Nat),j<i->(fun (i:Nat)=>i<k) j)->(i=k->T (QP P ys i)=r/\True)/\(False->Z7=r/\True)/\(False->False)))))) (by kernel_rfl) ?_
 conv=>zeta
 try simp only [vcA]
 try simp only [vcB]
 try simp only [vcC]
 subst hy hr
 refine ⟨hn,by omega, ?_⟩
 exact ⟨hL.symm,by omega,rfl,⟨hk,by omega⟩,fun i hi _=>⟨fun he=>by rw [he],fun h=>h.elim,fun h=>h⟩⟩
theorem Zcb (bs:LI) (h:bs.length<=100000000000):(Qh bs).length=64*((Qh bs).length/64):=by
 grind [Qh,Z0X,Zgv,Z2x]
@[irreducible] def Zcc (P:LI->LI->LI) (bs:LI):LI:=UK (QP P (Qh bs) ((Qh bs).length/64))
theorem Z9Y {P:LI->LI->LI} (hP:Uu P) (bs:LI) (h:bs.length<=100000000000):Zv PP 90 [.vints .u8 bs bs.length] (.agg [.arr .u8 32 (Zcc P bs)]) 0 []:=by
 unfold Zcc
 exact .ev (Zey hP (J2 _) _ _ _) (Zie P Qh UK 100000000000 bs _ _ _ _ _ rfl h rfl rfl (Zcb bs h) rfl)
def Z3M (H:LI->LI) (B:Nat):ZM:=fun args h K=>ZL none h true 20 args fun a=>Vs a fun xs=>Z5 (xs.length<=B) (K (.agg [.arr .u8 32 (H xs)]))
theorem Z62 {f:FuncId} (hp:∀xs:LI,xs.length<=B->Zv PP f [.vints .u8 xs xs.length] (.agg [.arr .u8 32 (H xs)]) 0 []) (args:List AV) (h:Z8) (K:AV->Prop) (hl:Z3M H B args h K):Zf PP f args h fun o h'=>∃v,o=.ret v/\h'=h/\K v:=by
 refine Zv.psumm (d:=20) (Zi _ _ _ _ _ hl fun a ha=> ?_)
 obtain ⟨xs,rfl,hK⟩:=Xv ha
 obtain ⟨hx,hK⟩:=Zc hK
 exact ⟨_,hp xs hx,fun _=>rfl,hK⟩
noncomputable def Zgx (H:LI->LI) (B:Nat):Zd:=G0.withP 90 (Z3M H B)
theorem Zif (H:LI->LI) (B:Nat) (bs r:LI) (n:Nat) (hn:n=bs.length) (hb:n<=B) (h32:32<=B) (hl:(H bs).length=32) (hr:r=H (H bs)):
  evF (Zgx H B) 20 41 [.vints .u8 bs n] ⟨0,[]⟩ (Y8 0 [] (.agg [.arr .u8 32 r]) 0 []):=by
 refine @Eq.mpr _ (let a:=List.length (H bs);
 Z5 (n=bs.length) (Z5 (bs.length<=B) (Z5 (a=32) (Z5 (32=a) (Z5 (a<=B) (H (H bs)=r/\True)))))) (by kernel_rfl) ?_
 conv=>zeta
 try simp only [vcA]
 try simp only [vcB]
 try simp only [vcC]
 subst hr
 exact ⟨hn,by omega,hl,hl.symm,by omega,rfl⟩
theorem Z8x (hp:∀xs:LI,xs.length<=B->Zv PP 90 [.vints .u8 xs xs.length] (.agg [.arr .u8 32 (H xs)]) 0 []):(Zgx H B).Ok:=Zd.withP_ok Zt (Z62 hp)
def kxE (key:LI) (c:Int) (i:Nat):Int:=if (i:Int)<32 then Yk .u8 (key.getD i 0) c else c
def kxR (key:LI) (c:Int):Nat->LI
 | 0=>[]
 | i+1=>kxR key c i++[kxE key c i]
theorem Z1f (key:LI) (c:Int):∀i,(kxR key c i).length=i
 | 0=>rfl
 | i+1=>by rw [kxR,J5,Z1f key c i];rfl
def tgS (key ms xs ys:LI) (i:Nat):St:=⟨47,[(8,.int .i64 i),(0,.vints .u8 key 32),(6,.nslice ⟨1,0,0,0,0⟩ 1 i i),(7,.nslice ⟨2,0,0,0,0⟩ 1 i i),(1,.vints .u8 ms 32),(4,pt 0)],⟨3,[(2,.ints .u8 ys),(1,.ints .u8 xs),(0,.flat [.arr .u8 32 Z7])]⟩,[]⟩
def tgE (ms xs ys:LI) (i:Nat):St:=⟨47,[(6,.nslice ⟨1,0,0,0,0⟩ 1 i i),(7,.nslice ⟨2,0,0,0,0⟩ 1 i i),(1,.vints .u8 ms 32),(4,pt 0)],⟨3,[(2,.ints .u8 ys),(1,.ints .u8 xs),(0,.flat [.arr .u8 32 Z7])]⟩,[]⟩
theorem Zja (key ms xs ys xs' ys':LI) (i:Nat) (Z1 Z2:Prop) (hi:i<=64) (hx:xs.length=i) (hy:ys.length=i) (hx':xs'=xs++[kxE key 54 i]) (hy':ys'=ys++[kxE key 92 i]) (h1:i<64->Z1) (h2:i=64->Z2):
  Zz G0 20 199 0 0 (tgS key ms xs ys i) (rdM 0 0 9 (tgS key ms xs' ys' (i+1)) (tgE ms xs ys i) (tgE ms xs ys i) (tgE ms xs ys i) Z1 Z2 False False):=by
 refine @Eq.mpr _ (let p:=decide (u8=u8/\xs.length=i);let k:=List.getD key (Int.toNat (↑i:Int)) 0;let j:=xs++[Yk u8 k 54];let c:=j.length;let h:=decide (u8=u8/\ys.length=i);let g:=ys++[Yk u8 k 92];let b:=g.length;let a:=i+1;let f:=decide (wrap i64 ((↑i:Int)+1)=(↑a:Int));let o:=xs++[(54:Int)];let e:=o.length;let n:=ys++[(92:Int)];let d:=n.length;let m:=decide (i=i);let l:=decide (i<=i);
 Z6 (decide ((↑i:Int)<64)) (Z6 (decide ((↑i:Int)<32)) (Z5 (0<=(↑i:Int)/\(↑i:Int)<32) (Z0 p (Z5 (c*1<=140737488355328) (Z0 h (Z5 (b*1<=140737488355328) (Z0 f (key=key/\Z5 (c=a) (Z5 (a<=c) (Z5 (b=a) (Z5 (a<=b) (ms=ms/\g=ys'/\j=xs'/\Z7=Z7/\Z1))))))))))) (Z0 p (Z5 (e*1<=140737488355328) (Z0 h (Z5 (d*1<=140737488355328) (Z0 f (key=key/\Z5 (e=a) (Z5 (a<=e) (Z5 (d=a) (Z5 (a<=d) (ms=ms/\n=ys'/\o=xs'/\Z7=Z7/\Z1))))))))))) (Z0 m (Z0 l (Z0 m (Z0 l (ms=ms/\ys=ys/\xs=xs/\Z7=Z7/\Z2)))))) (by kernel_rfl) ?_
 conv=>zeta
 try simp only [vcA]
 try simp only [vcB]
 try simp only [vcC]
 have hw:i64.wrap ((i:Int)+1)=((i+1:Nat):Int):=w64 (by omega)
 refine ⟨fun hlt=>⟨fun h32=> ?_,fun h32=> ?_⟩,fun hge=> ?_⟩
 ·unfold kxE at hx' hy'
  rw [if_pos h32] at hx' hy'
  simp only [hw,J5,Jh,JD,hx,hy]
  repeat' (first|(refine Ju ?_ ?_)|intro _)
  all_goals first|omega|exact hx'.symm|exact hy'.symm|exact h1 (by omega)|trivial
 ·unfold kxE at hx' hy'
  rw [if_neg h32] at hx' hy'
  simp only [hw,J5,Jh,JD,hx,hy]
  repeat' (first|(refine Ju ?_ ?_)|intro _)
  all_goals first|omega|exact hx'.symm|exact hy'.symm|exact h1 (by omega)|trivial
 ·exact h2 (by omega)
noncomputable def E57 (H:LI->LI) (B:Nat) (key ms:LI):Zd:=(Zgx H B).withL 199 0 (goM 0 (tgS key ms [] [] 0) True (Y9 0 64 9 (fun i=>i<64) (fun i=>i=64) (fun _=>False) (fun _=>False) (fun i=>tgE ms (kxR key 54 i) (kxR key 92 i) i) (fun i=>tgE ms (kxR key 54 i) (kxR key 92 i) i) (fun i=>tgE ms (kxR key 54 i) (kxR key 92 i) i)))
theorem Zgy (hp:∀xs:LI,xs.length<=B->Zv PP 90 [.vints .u8 xs xs.length] (.agg [.arr .u8 32 (H xs)]) 0 []) (key ms:LI):(E57 H B key ms).Ok:=by
 refine Zd.withL_join (H:=G0) (Z8x hp) rfl ?_
 refine Zd.withGoM (N:=20) (S:=fun i=>tgS key ms (kxR key 54 i) (kxR key 92 i) i) Zt (by kernel_rfl) fun hC=>⟨rfl,fun i hi hgo=> ?_⟩
 simp_all [Zja,kxR,Z1f]
attribute [irreducible] kxR
theorem Z1g {n:Nat} (h:xs.length=n):List.take n (ZP 0 xs)=xs:=by subst h;rw [Y0,JU,Js]
theorem Zjb (H:LI->LI) (B:Nat) (key ms r:LI) (hk:key.length=32) (hm:ms.length=32) (hB:128<=B) (hl:∀x,(H x).length=32) (hr:r=H (kxR key 92 64++H (kxR key 54 64++ms))):
  evF (E57 H B key ms) 20 199 [.vints .u8 key 32,.vints .u8 ms 32] ⟨0,[]⟩ (Y8 0 [] (.agg [.arr .u8 32 r]) 0 []):=by
 refine @Eq.mpr _ (key=key/\
 ms=ms/\
 ([]:LI)=[]/\
 ([]:LI)=[]/\
 Z7=Z7/\
 True/\
 ∀(i:Nat),
 let o:=[]++List.take i (ZP 0 (kxR key 54 i));let d:=o.length;let k:=o++List.take 32 ms;let a:=k.length;let h:=List.take a (ZP 0 k);let g:=h.length;let f:=[]++List.take i (ZP 0 (kxR key 92 i));let c:=f.length;let e:=H h;let n:=f++e;let b:=n.length;let m:=List.take b (ZP 0 n);let l:=m.length;
 i<=64->(∀(j:Nat),j<i->(fun (i:Nat)=>i<64) j)->(i=64->Z5 (u8=u8/\0+i<=List.length (kxR key 54 i)) (Z5 (d*1<=140737488355328) (Z5 (u8=u8/\d=d) (Z5 (a*1<=140737488355328) (Z5 (0+a<=a) (Z5 (a=g) (Z5 (g<=B) (Z5 (u8=u8/\0+i<=List.length (kxR key 92 i)) (Z5 (c*1<=140737488355328) (Z5 (u8=u8/\e.length=32) (Z5 (u8=u8/\c=c) (Z5 (b*1<=140737488355328) (Z5 (0+b<=b) (Z5 (b=l) (Z5 (l<=B) (H m=r/\True))))))))))))))))/\(False->Z7=r/\True)/\(False->False)) (by kernel_rfl) ?_
 conv=>zeta
 try simp only [vcA]
 try simp only [vcB]
 try simp only [vcC]
 refine fun i hi _=>⟨fun he=> ?_,fun h=>h.elim,fun h=>h⟩
 subst he
 have a1:=Z1f key 54 64
 have a2:=Z1f key 92 64
 have e1:=Z1g a1
 have e2:=Z1g a2
 have e3:List.take 32 ms=ms:=by rw [<-hm];exact Js
 simp only [e1,e2,e3,JE,Z1g rfl]
 have l1:=hl (kxR key 54 64++ms)
 subst hr
 simp only [J5,a1,a2,hm,l1]
 repeat' (first|(refine Ju ?_ ?_)|intro _)
 all_goals first|omega|trivial
@[irreducible] def Z8y (H:LI->LI) (key ms:LI):LI:=H (kxR key 92 64++H (kxR key 54 64++ms))
theorem Z9Z (hp:∀xs:LI,xs.length<=B->Zv PP 90 [.vints .u8 xs xs.length] (.agg [.arr .u8 32 (H xs)]) 0 []) (hB:128<=B) (hl:∀x,(H x).length=32) (key ms:LI) (h1:key.length=32) (h2:ms.length=32):Zv PP 199 [.vints .u8 key 32,.vints .u8 ms 32] (.agg [.arr .u8 32 (Z8y H key ms)]) 0 []:=by
 unfold Z8y
 exact .ev (Zgy hp _ _) (Zjb H B _ _ _ h1 h2 hB hl rfl)
def Zcd (T:LI->LI->LI):ZM:=fun args h K=>ZL none h true 20 args fun a=>match a with
 | [.vints .u8 key len,.vints .u8 ms len']=>Z5 (key.length=32/\len=32/\ms.length=32/\len'=32) (K (.agg [.arr .u8 32 (T key ms)]))
 | _=>False
theorem Zce (hp:∀xs:LI,xs.length<=B->Zv PP 90 [.vints .u8 xs xs.length] (.agg [.arr .u8 32 (H xs)]) 0 []) (hB:128<=B) (hl:∀x,(H x).length=32) (args:List AV) (h:Z8) (K:AV->Prop) (hl':Zcd (Z8y H) args h K):Zf PP 199 args h fun o h'=>∃v,o=.ret v/\h'=h/\K v:=by
 refine Zv.psumm (d:=20) (Zi _ _ _ _ _ hl' fun a ha=> ?_)
 split at ha
 ·obtain ⟨⟨h1,rfl,h2,rfl⟩,hK⟩:=Zc ha
  exact ⟨_,Z9Z hp hB hl _ _ h1 h2,fun _=>rfl,hK⟩
 simp_all
@[irreducible] def X4 (H:LI->LI) (bs:LI):LI:=H (H bs)
theorem Za0 (hp:∀xs:LI,xs.length<=B->Zv PP 90 [.vints .u8 xs xs.length] (.agg [.arr .u8 32 (H xs)]) 0 []) (hB:128<=B) (hl:∀x,(H x).length=32) (args:List AV) (h:Z8) (K:AV->Prop) (hl':Z3M (X4 H) B args h K):Zf PP 41 args h fun o h'=>∃v,o=.ret v/\h'=h/\K v:=by
 refine Z62 (fun xs hx=> ?_) args h K hl'
 unfold X4
 exact .ev (Z8x hp) (Zif H B xs _ _ rfl hx (by omega) (hl xs) rfl)
def U32 (x:Int):Prop:=0<=x/\x<4294967296
theorem Z63 (x:Int):u32.wrap x=x%4294967296:=by
 simp_all [wrap,IntKind.bits,IntKind.signed]
theorem Z2y (x:Int):U32 (u32.wrap x):=by rw [Z63];unfold U32;omega
theorem Xj {x:Int} (h:U32 x):u32.wrap x=x:=by rw [Z63];unfold U32 at h;omega
theorem wr8 (x:Int):u8.wrap x=x%256:=by
 simp_all [wrap,IntKind.bits,IntKind.signed]
theorem Zig (x y:Int):U32 (bOr .u32 x y):=Z2y _
theorem Wq (x y:Nat) (hx:x<4294967296) (hy:y<4294967296):Yk .u32 x y=((x^^^y:Nat):Int):=by
 unfold Yk
 rw [Xj]
 all_goals grind [U32,IntKind.bits]
theorem Z4T (x y:Nat) (hx:x<4294967296) (hy:y<4294967296):bOr .u32 x y=((x|||y:Nat):Int):=by
 unfold bOr
 rw [Xj]
 ·show (((BitVec.ofInt 32 (x:Int)|||BitVec.ofInt 32 (y:Int)).toNat:Nat):Int)=_
  rw [BitVec.toNat_or,BitVec.ofInt_natCast,BitVec.ofInt_natCast,BitVec.toNat_ofNat,BitVec.toNat_ofNat,K1 hx,K1 hy]
 grind [U32,IntKind.bits]
theorem Z2z (x y:Nat) (hx:x<4294967296) (hy:y<4294967296):Z0N .u32 x y=((x&&&y:Nat):Int):=by
 unfold Z0N
 rw [Xj]
 ·show (((BitVec.ofInt 32 (x:Int)&&&BitVec.ofInt 32 (y:Int)).toNat:Nat):Int)=_
  rw [BitVec.toNat_and,BitVec.ofInt_natCast,BitVec.ofInt_natCast,BitVec.toNat_ofNat,BitVec.toNat_ofNat,K1 hx,K1 hy]
 grind [U32,IntKind.bits]
theorem U32.nat {x:Int} (h:U32 x):∃n:Nat,x=n/\n<4294967296:=⟨x.toNat,by unfold U32 at h;omega,by unfold U32 at h;omega⟩
theorem U32.of {n:Nat} (h:n<4294967296):U32 (n:Int):=by unfold U32;omega
theorem Za1 {x y:Int}:Yk .u32 x y=Yk .u32 y x:=by unfold Yk;rw [BitVec.xor_comm]
theorem Z7D {x y z:Int} (hx:U32 x) (hy:U32 y) (hz:U32 z):Yk .u32 (Yk .u32 x y) z=Yk .u32 x (Yk .u32 y z):=by
 obtain ⟨x,rfl,gx⟩:=hx.nat
 obtain ⟨y,rfl,gy⟩:=hy.nat
 obtain ⟨z,rfl,gz⟩:=hz.nat
 rw [Wq x y gx gy,Wq y z gy gz,Wq _ z (K9 (n:=32) gx gy) gz,Wq x _ gx (K9 (n:=32) gy gz),Nat.xor_assoc]
theorem Za2 {x:Int} (hx:U32 x):Yk .u32 0 x=x:=by
 obtain ⟨x,rfl,gx⟩:=hx.nat
 have:=Wq 0 x (by omega) gx
 simp_all
theorem Z4U (x n:Nat) (hn:n<=32):Zm .u32 x n=((x/2^n:Nat):Int):=by
 grind [Zm,IntKind.bits]
theorem Zih {x:Int} (hx:U32 x) (n:Nat) (hn:n<=32):U32 (Zm .u32 x n):=by
 obtain ⟨x,rfl,gx⟩:=hx.nat
 rw [Z4U x n hn]
 exact U32.of (Jz (Nat.div_le_self x (2^n)) gx)
theorem Z7E (w n:Int):U32 (Z78 w n):=Zig _ _
theorem Z8z {w:Int} (hw:U32 w) (a b c:Int):sg3 a b c w=W2 32 [a,b,c] w:=by
 obtain ⟨x,rfl,gx⟩:=hw.nat
 have h0:Zm .u32 (x:Int) 32=0:=by
  rw [show (32:Int)=((32:Nat):Int) from rfl,Z4U x 32 (by omega),Nat.div_eq_of_lt gx]
  rfl
 simp_all [sg3,W2,Za2,Z7E]
theorem Z8A {w:Int} (hw:U32 w) (a b:Int) (n:Nat) (hn:n<=32):rg3 a b n w=W2 n [a,b] w:=by
 have hs:=Zih hw n hn
 unfold rg3 W2
 simp only [List.foldl_cons,List.foldl_nil]
 rw [Za1,Z7D hs (Z7E _ _) (Z7E _ _)]
theorem Wb (x i:Nat) (hi:i<=32):Int.tmod (Zm .u32 x i) 2=(((x.testBit i).toNat:Nat):Int):=by
 rw [Z4U x i hi]
 rw [Int.tmod_eq_emod_of_nonneg (Int.natCast_nonneg _),Nat.toNat_testBit]
 rfl
theorem Z4V (b:Bool) (i:Nat) (hi:i<32):ZB .u32 ((b.toNat:Nat):Int) i=((2^i*b.toNat:Nat):Int):=by
 unfold ZB
 have:min (i:Int).toNat u32.bits=i:=by simp [IntKind.bits];omega
 rw [this]
 have h2:(2:Nat)^i<2^32:=Nat.pow_lt_pow_right (by decide) hi
 have h3:((2:Nat)^i*b.toNat)<4294967296:=by cases b<;>simp_all
 rw [show ((b.toNat:Nat):Int)*2^i=((2^i*b.toNat:Nat):Int) by push_cast;rw [Int.mul_comm]]
 exact Xj (U32.of h3)
theorem Z8B (x i:Nat):x%2^(i+1)=x%2^i+2^i*(x.testBit i).toNat:=by
 rw [Nat.toNat_testBit,Nat.mod_pow_succ]
theorem Z8C (x i:Nat) (hx:x<4294967296) (hi:i<32):u32.wrap (((x%2^i:Nat):Int)+((2^i*(x.testBit i).toNat:Nat):Int))=((x%2^(i+1):Nat):Int):=by
 rw [Z8B]
 rw [Xj]
 ·omega
 ·rw [show ((x%2^i:Nat):Int)+((2^i*(x.testBit i).toNat:Nat):Int)=((x%2^i+2^i*(x.testBit i).toNat:Nat):Int) by omega,<-Z8B]
  exact U32.of (Jz (Nat.mod_le _ _) hx)
theorem Z3N (a b c:Nat) (ha:a<4294967296) (hb:b<4294967296) (hc:c<4294967296):∀i,i<=32->Vg a b c i=(((a&&&(b|||c)|||b&&&c)%2^i:Nat):Int)
 | 0,_=>by simp [Vg]
 | i+1,hi=>by
  have hm:(a&&&(b|||c)|||b&&&c)<4294967296:=Nat.or_lt_two_pow (n:=32) (Jz Ka ha) (Jz Ka hb)
  rw [Vg,Z3N a b c ha hb hc i (by omega),Wb a i (by omega),Wb b i (by omega),Wb c i (by omega),<-Z8C _ i hm (by omega)]
  have ht:(a&&&(b|||c)|||b&&&c).testBit i=(a.testBit i&&(b.testBit i||c.testBit i)||b.testBit i&&c.testBit i):=by simp
  rw [ht]
  have h1:=Z4V true i (by omega)
  have hx:u32.wrap (((a&&&(b|||c)|||b&&&c)%2^i:Nat):Int)=(((a&&&(b|||c)|||b&&&c)%2^i:Nat):Int):=Xj (U32.of (Jz (Nat.mod_le _ _) hm))
  rw [Z63,Z63]
  cases a.testBit i<;>cases b.testBit i<;>cases c.testBit i<;>simp at h1 hx⊢ <;>first|rw [h1]|rw [hx]
theorem Zez {a b c:Int} (ha:U32 a) (hb:U32 b) (hc:U32 c):YZ a b c=bOr .u32 (Z0N .u32 a (bOr .u32 b c)) (Z0N .u32 b c):=by
 obtain ⟨a,rfl,ga⟩:=ha.nat
 obtain ⟨b,rfl,gb⟩:=hb.nat
 obtain ⟨c,rfl,gc⟩:=hc.nat
 have h1:=Nat.or_lt_two_pow (n:=32) gb gc
 have h2:a&&&(b|||c)<4294967296:=Jz Ka ga
 have h3:b&&&c<4294967296:=Jz Ka gb
 rw [Z4T b c gb gc,Z2z a _ ga h1,Z2z b c gb gc,Z4T _ _ h2 h3]
 unfold YZ
 rw [Z3N a b c ga gb gc 32 (by omega),K1]
 exact Nat.or_lt_two_pow (n:=32) h2 h3
theorem Z3O (a b c:Nat) (ha:a<4294967296) (hb:b<4294967296) (hc:c<4294967296):∀i,i<=32->Vx a b c i=(((c^^^(a&&&(b^^^c)))%2^i:Nat):Int)
 | 0,_=>by simp [Vx]
 | i+1,hi=>by
  have hm:(c^^^(a&&&(b^^^c)))<4294967296:=K9 (n:=32) hc (Jz Ka ha)
  rw [Vx,Z3O a b c ha hb hc i (by omega),Wb a i (by omega),Wb b i (by omega),Wb c i (by omega),<-Z8C _ i hm (by omega)]
  have ht:(c^^^(a&&&(b^^^c))).testBit i=(c.testBit i^^(a.testBit i&&(b.testBit i^^c.testBit i))):=by simp
  rw [ht]
  have h1:=Z4V true i (by omega)
  have h0:=Z4V false i (by omega)
  cases a.testBit i<;>cases b.testBit i<;>cases c.testBit i<;>simp at h1 h0⊢ <;>first|rw [h1]|rw [h0,Int.add_zero]
theorem ZeA {a b c:Int} (ha:U32 a) (hb:U32 b) (hc:U32 c):YT a b c=Yk .u32 c (Z0N .u32 a (Yk .u32 b c)):=by
 obtain ⟨a,rfl,ga⟩:=ha.nat
 obtain ⟨b,rfl,gb⟩:=hb.nat
 obtain ⟨c,rfl,gc⟩:=hc.nat
 have h1:=K9 (n:=32) gb gc
 have h2:a&&&(b^^^c)<4294967296:=Jz Ka ga
 rw [Wq b c gb gc,Z2z a _ ga h1,Wq _ _ gc h2]
 unfold YT
 rw [Z3O a b c ga gb gc 32 (by omega),K1]
 exact K9 (n:=32) gc h2
theorem Z3P (bl:LI) (t:Nat):XT bl (t+1)=(XT bl t).set t (if t<16 then Z7B bl t else Zc6 (XT bl t) t):=by rw [XT]
theorem Z3Q (bl:LI) (s t:Nat) (hs:s<t):∀u,(XT bl (t+u)).getD s 0=(XT bl t).getD s 0
 | 0=>rfl
 | u+1=>by
  rw [<-Nat.add_assoc,Z3P,<-Z3Q bl s t hs u]
  simp only [Jb]
  rw [List.getElem?_set_ne (by omega)]
@[irreducible] def Z0Y (bl:LI) (t:Nat):Int:=(XT bl 64).getD t 0
theorem QQ (bl:LI) {s t:Nat} (hs:s<t) (ht:t<=64):(XT bl t).getD s 0=Z0Y bl s:=by
 unfold Z0Y
 have:=Z3Q bl s t hs (64-t)
 rw [show t+(64-t)=64 by omega] at this
 omega
theorem Z8D (bl:LI) {t:Nat} (ht:t<64):Z0Y bl t=if t<16 then Z7B bl t else Zc6 (XT bl t) t:=by
 rw [<-QQ bl (Nat.lt_succ_self t) (by omega),Z3P]
 simp_all [Z2v]
theorem Z8E (bl:LI) {t:Nat} (ht:t<16):Z0Y bl t=Z7B bl t:=by rw [Z8D bl (by omega),if_pos ht]
theorem Z8F (bl:LI) {t:Nat} (h16:16<=t) (ht:t<64):Z0Y bl t=u32.wrap (u32.wrap (u32.wrap (rg3 17 19 10 (Z0Y bl (t-2))+Z0Y bl (t-7))+rg3 7 18 3 (Z0Y bl (t-15)))+Z0Y bl (t-16)):=by
 rw [Z8D bl (by omega),if_neg (by omega)]
 unfold Zc6
 rw [QQ bl (by omega) (by omega),QQ bl (by omega) (by omega),QQ bl (by omega) (by omega),QQ bl (by omega) (by omega)]
theorem Zcf (bl:LI) {t:Nat} (ht:t<64):U32 (Z0Y bl t):=by
 by_cases h:t<16
 ·rw [Z8E bl h];exact Z2y _
 simp_all [Z8F,Z2y]
theorem QR (t:Nat):mAt (t:Int)=t%16:=by
 unfold mAt
 rw [tm (by omega)]
 omega
theorem WI (i t:Nat) (hi:i<8) (ht:t<=64):atI (i:Int) (t:Int)=(i+64-t)%8:=by
 grind [atI,w64]
theorem Z2A (l:LI) (i j:Nat) (x:Int) (hi:i<l.length):(l.set i x).getD j 0=if i=j then x else l.getD j 0:=by
 grind
def Ring (bl r:LI) (t:Nat):Prop:=r.length=16/\∀s,s<max 16 t->max 16 t<=s+16->r.getD (s%16) 0=Z0Y bl s
theorem Ring.step {r:LI} {t:Nat} (h:Ring bl r t) (ht:t<64):Ring bl (Q6 t r) (t+1):=by
 obtain ⟨hl,hr⟩:=h
 refine ⟨by rw [Z5N,hl],fun s h1 h2=> ?_⟩
 unfold Q6
 by_cases h16:t<16
 ·grind
 ·rw [if_pos (by omega)]
  have w1:i64.wrap ((t:Int)+1)=((t+1:Nat):Int):=by rw [w64 (by omega)];omega
  have w9:i64.wrap ((t:Int)+9)=((t+9:Nat):Int):=by rw [w64 (by omega)];omega
  have w14:i64.wrap ((t:Int)+14)=((t+14:Nat):Int):=by rw [w64 (by omega)];omega
  have r0:=hr (t-16) (by omega) (by omega)
  have r1:=hr (t-15) (by omega) (by omega)
  have r9:=hr (t-7) (by omega) (by omega)
  have r14:=hr (t-2) (by omega) (by omega)
  rw [show (t-16)%16=t%16 by omega] at r0
  rw [show (t-15)%16=(t+1)%16 by omega] at r1
  rw [show (t-7)%16=(t+9)%16 by omega] at r9
  rw [show (t-2)%16=(t+14)%16 by omega] at r14
  rw [w1,w9,w14,QR,QR,QR,QR,r0,r1,r9,r14,Z2A _ _ _ _ (by omega)]
  by_cases hs:s=t
  ·subst hs
   rw [if_pos rfl,Z8F bl (by omega) ht]
   have e1:=Z8A (Zcf bl (t:=s-2) (by omega)) 17 19 10 (by omega)
   have e2:=Z8A (Zcf bl (t:=s-15) (by omega)) 7 18 3 (by omega)
   rw [show ((10:Nat):Int)=10 from rfl] at e1
   rw [show ((3:Nat):Int)=3 from rfl] at e2
   simp only [Z63]
   omega
  grind
def U8 (x:Int):Prop:=0<=x/\x<256
theorem Z1h (x n:Nat) (hn:n<=32) (h:x*2^n<4294967296):ZB .u32 x n=((x*2^n:Nat):Int):=by
 unfold ZB
 have:min (n:Int).toNat u32.bits=n:=by simp [IntKind.bits];omega
 rw [this,show (x:Int)*2^n=((x*2^n:Nat):Int) by simp_all]
 exact Xj (U32.of h)
theorem Z1i (x y:Nat) (hx:x<16777216) (hy:y<256):bOr .u32 (ZB .u32 x 8) y=((x*256+y:Nat):Int):=by
 have:=Z1h x 8 (by omega) (by omega)
 rw [show ((8:Nat):Int)=8 from rfl] at this
 rw [this,Z4T _ _ (by omega) (by omega),<-Nat.shiftLeft_eq,<-Nat.shiftLeft_add_eq_or_of_lt (by omega),Nat.shiftLeft_eq]
theorem Vi {P:Int->Prop} {l:LI} (h:∀x∈l,P x) (h0:P 0) (i:Nat):P (l.getD i 0):=by
 grind
theorem U8.nat {x:Int} (h:U8 x):∃n:Nat,x=n/\n<256:=⟨x.toNat,by unfold U8 at h;omega,by unfold U8 at h;omega⟩
theorem ZeB (bl:LI) (hb:∀x∈bl,U8 x) (t:Nat):Xm bl (4*t)=Z7B bl t:=by
 unfold Xm Z7B
 obtain ⟨a,ea,ha⟩:=(Vi (P:=U8) hb (by unfold U8;omega) (4*t)).nat
 obtain ⟨b,eb,hb'⟩:=(Vi (P:=U8) hb (by unfold U8;omega) (4*t+1)).nat
 obtain ⟨c,ec,hc⟩:=(Vi (P:=U8) hb (by unfold U8;omega) (4*t+2)).nat
 obtain ⟨d,ed,hd⟩:=(Vi (P:=U8) hb (by unfold U8;omega) (4*t+3)).nat
 rw [ea,eb,ec,ed]
 rw [Xj (x:=(a:Int)) (U32.of (by omega)),Xj (x:=(b:Int)) (U32.of (by omega)),Xj (x:=(c:Int)) (U32.of (by omega)),Xj (x:=(d:Int)) (U32.of (by omega))]
 have z:=Z1i 0 a (by omega) ha
 have s0:ZB .u32 0 8=0:=by decide
 rw [show ZB .u32 ((0:Nat):Int) 8=0 from s0] at z
 rw [z,Z1i _ b (by omega) hb',Z1i _ c (by omega) hc,Z1i _ d (by omega) hd]
 have g1:=Z1h a 24 (by omega) (by omega)
 have g2:=Z1h b 16 (by omega) (by omega)
 have g3:=Z1h c 8 (by omega) (by omega)
 rw [show ((24:Nat):Int)=24 from rfl] at g1
 rw [show ((16:Nat):Int)=16 from rfl] at g2
 rw [show ((8:Nat):Int)=8 from rfl] at g3
 simp only [Z63]
 omega
theorem Ring.first (bl:LI) (hb:∀x∈bl,U8 x):Ring bl (WW bl) 0:=by
 refine ⟨rfl,fun s h1 _=> ?_⟩
 have h16:s<16:=by omega
 rw [Z8E bl h16,<-ZeB bl hb,K1 h16]
 have:s=0\/s=1\/s=2\/s=3\/s=4\/s=5\/s=6\/s=7\/s=8\/s=9\/s=10\/s=11\/s=12\/s=13\/s=14\/s=15:=by omega
 rcases this with rfl|rfl|rfl|rfl|rfl|rfl|rfl|rfl|rfl|rfl|rfl|rfl|rfl|rfl|rfl|rfl<;>rfl
def Z2B (x y:LI) (t:Nat):Prop:=x.length=8/\∀i,i<8->x.getD ((i+64-t)%8) 0=y.getD i 0
theorem Z2B.step {x y m:LI} {w:Int} {t:Nat} (h:Z2B x y t) (hU:∀i,i<8->U32 (y.getD i 0)) (ht:t<64) (hm:m.getD (t%16) 0=w):
  Z2B (Z5M t m x) (Z0K YZ YT (WV.getD t 0) w y) (t+1):=by
 obtain ⟨hl,hr⟩:=h
 have a0:=WI 0 t (by omega) (by omega)
 have a1:=WI 1 t (by omega) (by omega)
 have a2:=WI 2 t (by omega) (by omega)
 have a3:=WI 3 t (by omega) (by omega)
 have a4:=WI 4 t (by omega) (by omega)
 have a5:=WI 5 t (by omega) (by omega)
 have a6:=WI 6 t (by omega) (by omega)
 have a7:=WI 7 t (by omega) (by omega)
 have h0:=hr 0 (by omega)
 have h1:=hr 1 (by omega)
 have h2:=hr 2 (by omega)
 have h3:=hr 3 (by omega)
 have h4:=hr 4 (by omega)
 have h5:=hr 5 (by omega)
 have h6:=hr 6 (by omega)
 have h7:=hr 7 (by omega)
 rw [<-a0] at h0
 rw [<-a1] at h1
 rw [<-a2] at h2
 rw [<-a3] at h3
 rw [<-a4] at h4
 rw [<-a5] at h5
 rw [<-a6] at h6
 rw [<-a7] at h7
 refine ⟨by rw [Z5O,hl], ?_⟩
 have hadd:Z4D t m x=u32.wrap (u32.wrap (u32.wrap (u32.wrap (y.getD 7 0+sg3 6 11 25 (y.getD 4 0))+YT (y.getD 4 0) (y.getD 5 0) (y.getD 6 0))+WV.getD t 0)+w):=by
  unfold Z4D
  rw [QR,hm]
  rw [show atI 7 (t:Int)=atI ((7:Nat):Int) t from rfl,show atI 4 (t:Int)=atI ((4:Nat):Int) t from rfl,show atI 5 (t:Int)=atI ((5:Nat):Int) t from rfl,show atI 6 (t:Int)=atI ((6:Nat):Int) t from rfl]
  rw [h4,h5,h6,h7,Z8z (hU 4 (by omega)),ZeA (hU 4 (by omega)) (hU 5 (by omega)) (hU 6 (by omega))]
  rw [Jq,JK]
 unfold Z5M
 rw [hadd]
 rw [show atI 7 (t:Int)=atI ((7:Nat):Int) t from rfl,show atI 3 (t:Int)=atI ((3:Nat):Int) t from rfl,show atI 0 (t:Int)=atI ((0:Nat):Int) t from rfl,show atI 1 (t:Int)=atI ((1:Nat):Int) t from rfl,show atI 2 (t:Int)=atI ((2:Nat):Int) t from rfl]
 rw [h0,h1,h2,h3,<-Zez (hU 0 (by omega)) (hU 1 (by omega)) (hU 2 (by omega)),<-Z8z (hU 0 (by omega)),a3,a7]
 intro i hi
 rw [Z2A _ _ _ _ (by rw [List.length_set,hl];omega),Z2A _ _ _ _ (by omega)]
 unfold Z0K
 have:i=0\/i=1\/i=2\/i=3\/i=4\/i=5\/i=6\/i=7:=by omega
 rcases this with rfl|rfl|rfl|rfl|rfl|rfl|rfl|rfl
 ·grind [Z63]
 ·rw [if_neg (by omega),if_neg (by omega),show (1+64-(t+1))%8=(0+64-t)%8 by omega,hr 0 (by omega)];rfl
 ·rw [if_neg (by omega),if_neg (by omega),show (2+64-(t+1))%8=(1+64-t)%8 by omega,hr 1 (by omega)];rfl
 ·rw [if_neg (by omega),if_neg (by omega),show (3+64-(t+1))%8=(2+64-t)%8 by omega,hr 2 (by omega)];rfl
 ·rw [if_neg (by omega),if_pos (by omega)];rfl
 ·rw [if_neg (by omega),if_neg (by omega),show (5+64-(t+1))%8=(4+64-t)%8 by omega,hr 4 (by omega)];rfl
 ·rw [if_neg (by omega),if_neg (by omega),show (6+64-(t+1))%8=(5+64-t)%8 by omega,hr 5 (by omega)];rfl
 ·rw [if_neg (by omega),if_neg (by omega),show (7+64-(t+1))%8=(6+64-t)%8 by omega,hr 6 (by omega)];rfl
theorem ZeC {k w:Int} {y:LI} (hU:∀i,i<8->U32 (y.getD i 0)):∀i,i<8->U32 ((Z0K YZ YT k w y).getD i 0):=by
 intro i hi
 unfold Z0K
 have:i=0\/i=1\/i=2\/i=3\/i=4\/i=5\/i=6\/i=7:=by omega
 rcases this with rfl|rfl|rfl|rfl|rfl|rfl|rfl|rfl
 all_goals simp_all [Z2y]
def W8 (st:LI):Prop:=st.length=8/\∀x∈st,U32 x
theorem W8.get {st:LI} (h:W8 st) (i:Nat):U32 (st.getD i 0):=Vi h.2 (by unfold U32;omega) i
theorem Z64 (bl st:LI) (hb:∀x∈bl,U8 x) (hs:W8 st):∀t,t<=64->Ring bl (Va (WW bl) st t).1 t/\Z2B (Va (WW bl) st t).2 (U6 YZ YT (XT bl 64) st t) t/\∀i,i<8->U32 ((U6 YZ YT (XT bl 64) st t).getD i 0)
 | 0,_=>by
  rw [Z3r,Z9V]
  refine ⟨Ring.first bl hb,⟨hs.1,fun i hi=> ?_⟩,fun i _=>hs.get i⟩
  rw [show (i+64-0)%8=i by omega]
 | t+1,h=>by
  obtain ⟨h1,h2,h3⟩:=Z64 bl st hb hs t (by omega)
  rw [Z3s,Z9U]
  have hR:=h1.step (by omega)
  refine ⟨hR,h2.step h3 (by omega) ?_,ZeC h3⟩
  rw [hR.2 t (by omega) (by omega)]
  unfold Z0Y
  rfl
theorem Za3 (st x:LI) (i:Nat):Vh st x (i+1)=(Vh st x i).set i (u32.wrap ((Vh st x i).getD i 0+st.getD i 0)):=by rw [Vh]
theorem Za4 (st x:LI):Vh st x 0=x:=by rw [Vh]
theorem ZeD (st x:LI) (hs:st.length=8) (hx:x.length=8):Vh st x 8=Z9z st x:=by
 obtain ⟨a0,a1,a2,a3,a4,a5,a6,a7,rfl⟩:=eight st hs
 obtain ⟨b0,b1,b2,b3,b4,b5,b6,b7,rfl⟩:=eight x hx
 simp_all [Za3,Za4,Z9z,Int.add_comm]
theorem Z7F {x y:LI} (h:Z2B x y 64) (hy:y.length=8):y=x:=by
 obtain ⟨h4,h5⟩:=h
 obtain ⟨a0,a1,a2,a3,a4,a5,a6,a7,rfl⟩:=eight _ hy
 obtain ⟨b0,b1,b2,b3,b4,b5,b6,b7,rfl⟩:=eight _ h4
 have g0:=h5 0 (by omega)
 have g1:=h5 1 (by omega)
 have g2:=h5 2 (by omega)
 have g3:=h5 3 (by omega)
 have g4:=h5 4 (by omega)
 have g5:=h5 5 (by omega)
 have g6:=h5 6 (by omega)
 have g7:=h5 7 (by omega)
 simp_all
theorem Z65 (st bl:LI) (hb:∀x∈bl,U8 x) (hs:W8 st):Xi st bl=XI st bl:=by
 obtain ⟨_,h2,h3⟩:=Z64 bl st hb hs 64 (by omega)
 have hl:=QO (M:=YZ) (P:=YT) (m:=XT bl 64) hs.1 64
 unfold Xi XI
 rw [ZeD _ _ hs.1 hl]
 congr 1
 exact Z7F h2 hl
theorem Z66 (st bl:LI) (hs:st.length=8):W8 (XI st bl):=by
 refine ⟨Z3t st bl hs,fun x hx=> ?_⟩
 grind [XI,Z9z,K7,Z2y]
def Ux (P:LI->LI->LI):Nat->LI->LI->LI
 | 0,st,_=>st
 | n+1,st,ms=>Ux P n (P st (ms.take 64)) (ms.drop 64)
theorem Z0o (P:LI->LI->LI):∀(n:Nat) (st ms:LI),Ux P (n+1) st ms=P (Ux P n st ms) ((ms.drop (64*n)).take 64)
 | 0,_,_=>rfl
 | n+1,st,ms=>by
  rw [Ux,Z0o P n,List.drop_drop]
  rw [show 64+64*n=64*(n+1) by omega]
  rfl
theorem Z2C (P:LI->LI->LI):∀(n:Nat) (st ms more:LI),64*n<=ms.length->Ux P n st (ms++more)=Ux P n st ms
 | 0,_,_,_,_=>rfl
 | n+1,st,ms,more,h=>by
  rw [Ux,Ux,List.take_append_of_le_length (by omega),JZ (by omega),Z2C P n _ _ _ (by rw [Je];omega)]
theorem Z2D:∀(n:Nat) (st ms:LI),W8 st->(∀x∈ms,U8 x)->Ux Xi n st ms=Ux XI n st ms
 | 0,_,_,_,_=>rfl
 | n+1,st,ms,hs,hm=>by
  rw [Ux,Ux,Z65 st _ (fun x hx=>hm x (List.mem_of_mem_take hx)) hs]
  exact Z2D n _ _ (Z66 st _ hs.1) fun x hx=>hm x (List.mem_of_mem_drop hx)
structure Rep (r:Zr) (ms:LI):Prop where
 came:r.came=ms.length
 st:r.st=Ux XI (ms.length/64) Yc.st ms
 len:r.part.length=64
 part:r.part.take (ms.length%64)=ms.drop (64*(ms.length/64))
theorem Rep.ok {r:Zr} (h:Rep r ms) (h8:r.st.length=8):r.Ok:=⟨h8,h.len,by rw [h.came];omega⟩
theorem Rep.one {r:Zr} (h:Rep r ms) (bs:LI):Rep (r.one bs) (ms++wTk r.came bs):=by
 have ha:wAt r.came=ms.length%64:=by
  unfold wAt
  rw [h.came,tm (by omega)]
  omega
 have hk:(wTk r.came bs).length<=64-ms.length%64:=by
  grind [wTk]
 have hdl:(ms.drop (64*(ms.length/64))).length=ms.length%64:=by rw [Je];omega
 have hp:U2 r.part r.came bs=ms.drop (64*(ms.length/64))++wTk r.came bs++r.part.drop (ms.length%64+(wTk r.came bs).length):=by
  unfold U2 spl
  rw [ha,h.part]
 have hl:(U2 r.part r.came bs).length=64:=by
  rw [hp,J5,J5,hdl,Je,h.len]
  omega
 have hst:(r.one bs).st=if ms.length%64+(wTk r.came bs).length=64 then XI r.st (U2 r.part r.came bs) else r.st:=by
  show wSt _ _ _ _=_
  unfold wSt
  rw [ha]
 have hca:(r.one bs).came=r.came+(wTk r.came bs).length:=rfl
 have hpa:(r.one bs).part=U2 r.part r.came bs:=rfl
 generalize wTk r.came bs=tk at*
 have hal:(ms++tk).length=ms.length+tk.length:=J5
 refine ⟨by rw [hca,h.came,hal];omega, ?_,by rw [hpa];exact hl, ?_⟩
 ·rw [hst,h.st]
  by_cases h64:ms.length%64+tk.length=64
  ·rw [if_pos h64,hal,show (ms.length+tk.length)/64=ms.length/64+1 by omega,Z0o,Z2C _ _ _ _ _ (by omega)]
   rw [JZ (by omega),hp,show r.part.drop (ms.length%64+tk.length)=[] from K3 (by rw [h.len];omega),Jw,K2 (by rw [J5,hdl];omega)]
  grind [Z2C]
 ·rw [hpa,hal]
  by_cases h64:ms.length%64+tk.length=64
  ·rw [show (ms.length+tk.length)%64=0 by omega,List.take_zero,K3 (by omega)]
  ·rw [show (ms.length+tk.length)/64=ms.length/64 by omega,show (ms.length+tk.length)%64=ms.length%64+tk.length by omega,hp,JZ (by omega)]
   grind
theorem Rep.many:∀(n:Nat) (r:Zr) (ms bs:LI),r.Ok->Rep r ms->bs.length<=n->Rep (Zr.many n r bs).1 (ms++bs)
 | 0,r,ms,bs,_,h,hn=>by
  have:bs=[]:=JF (by omega)
  subst this
  rw [Jw]
  exact h
 | n+1,r,ms,bs,hr,h,hn=>by
  unfold Zr.many
  split
  ·rw [Jw];exact h
  ·rename_i b bs
   have hp:=Uo hr (bs:=b::bs) (by simp)
   have hb:(b::bs)=wTk r.came (b::bs)++(b::bs).drop (wTk r.came (b::bs)).length:=by
    grind [wTk,List.take_append_drop]
   have:=Rep.many n _ _ ((b::bs).drop (wTk r.came (b::bs)).length) (hr.one _) (h.one (b::bs)) (by rw [Je];omega)
   rw [Jv,<-hb] at this
   exact this
theorem Rep.write {r:Zr} (hr:r.Ok) (h:Rep r ms) (bs:LI):Rep (r.write bs) (ms++bs):=by
 simp_all [Zr.write,Rep.many]
theorem Rep.init:Rep Yc []:=⟨rfl,rfl,rfl,rfl⟩
def Z0p (bs:LI):LI:=bs++Uw bs.length++len8 bs.length
def Z7G (P:LI->LI->LI) (bs:LI):LI:=Z3w (Ux P ((Z0p bs).length/64) Yc.st (Z0p bs))
theorem Rep.fin {r:Zr} (hr:r.Ok) (h:Rep r ms):r.fin=Z7G XI ms:=by
 have h1:=h.write hr (Uw r.came)
 have h2:=h1.write (XJ _ _ hr) (len8 r.came)
 unfold Zr.fin Z7G
 rw [h2.st,h.came]
 rfl
theorem Z67 (bs:LI):Q8 bs=Z7G XI bs:=by
 unfold Q8
 have:=Rep.init.write XK bs
 exact this.fin (XJ _ _ XK)
theorem Z68:W8 Yc.st:=by
 refine ⟨rfl,fun x hx=> ?_⟩
 simp only [Yc,J6,JQ,or_false] at hx
 unfold U32
 rcases hx with rfl|rfl|rfl|rfl|rfl|rfl|rfl|rfl<;>omega
theorem ZeE (n:Int):∀x∈Uw n,U8 x:=by
 grind [Uw,U8]
theorem Zcg (x:Int):U8 (u8.wrap x):=by rw [wr8];unfold U8;omega
theorem ZeF (n:Int):∀x∈len8 n,U8 x:=by
 intro x hx
 unfold len8 QL at hx
 simp only [J6,JQ,or_false] at hx
 rcases hx with h|h|h|h|h|h|h|h<;>rw [h]<;>exact Zcg _
theorem Za5 {bs:LI} (h:∀x∈bs,U8 x):∀x∈Z0p bs,U8 x:=by
 grind [Z0p,ZeE,ZeF]
theorem Zch (n:Int):∀x∈WE n,U8 x:=by
 intro x hx
 unfold WE at hx
 simp only [J6,JQ,or_false] at hx
 rcases hx with h|h|h|h<;>rw [h]<;>exact Zcg _
theorem Zci (st:LI):∀x∈Z3w st,U8 x:=by
 intro x hx
 unfold Z3w at hx
 simp only [Jt] at hx
 rcases hx with (((((((h|h)|h)|h)|h)|h)|h)|h)<;>exact Zch _ x h
theorem Z8G (bs:LI):∀x∈Q8 bs,U8 x:=by rw [Z67];exact Zci _
theorem ZeG:Uu Xi:=⟨fun st bl h=>Z60 st bl h,fun _ _ h=>Z4Q h⟩
def four (x:Int):LI:=[u8.wrap (u32.wrap (Int.tdiv x 16777216)),toE x 65536,toE x 256,u8.wrap (Int.tmod x 256)]
theorem Za6 (x:LI):(UK x).length=32:=by unfold UK;exact Z4R x 8
theorem Z7H (x:LI) (h:x.length=8):UK x=four (x.getD 0 0)++four (x.getD 1 0)++four (x.getD 2 0)++four (x.getD 3 0)++four (x.getD 4 0)++four (x.getD 5 0)++four (x.getD 6 0)++four (x.getD 7 0):=by
 kernel_rfl
theorem Zii (x:Int):u64.wrap x=x%18446744073709551616:=by
 simp_all [wrap,IntKind.bits,IntKind.signed]
theorem Z8H (x n:Nat) (hn:n<=64):Zm .u64 x n=((x/2^n:Nat):Int):=by
 grind [Zm,IntKind.bits]
theorem X8 {x:Int} (h:U32 x):four x=WE (u64.wrap x):=by
 obtain ⟨x,rfl,gx⟩:=h.nat
 have e:u64.wrap (x:Int)=x:=by rw [Zii];omega
 have s24:=Z8H x 24 (by omega)
 have s16:=Z8H x 16 (by omega)
 have s8:=Z8H x 8 (by omega)
 have s0:=Z8H x 0 (by omega)
 rw [show ((24:Nat):Int)=24 from rfl] at s24
 rw [show ((16:Nat):Int)=16 from rfl] at s16
 rw [show ((8:Nat):Int)=8 from rfl] at s8
 rw [show ((0:Nat):Int)=0 from rfl] at s0
 have d1:Int.tdiv (x:Int) 16777216=(x:Int)/16777216:=Int.tdiv_eq_ediv_of_nonneg (by omega)
 have d2:Int.tdiv (x:Int) 65536=(x:Int)/65536:=Int.tdiv_eq_ediv_of_nonneg (by omega)
 have d3:Int.tdiv (x:Int) 256=(x:Int)/256:=Int.tdiv_eq_ediv_of_nonneg (by omega)
 unfold four WE toE
 rw [e,s24,s16,s8,s0,d1,d2,d3]
 simp only [wr8,Z63]
 rw [tm (a:=(x:Int)/65536%4294967296) (by omega),tm (a:=(x:Int)/256%4294967296) (by omega),tm (a:=(x:Int)) (by omega)]
 simp_all
theorem Z7I {x:LI} (h:W8 x):UK x=Z3w x:=by
 rw [Z7H x h.1]
 unfold Z3w
 rw [X8 (h.get 0),X8 (h.get 1),X8 (h.get 2),X8 (h.get 3),X8 (h.get 4),X8 (h.get 5),X8 (h.get 6),X8 (h.get 7)]
theorem X9 (n:Nat) (i:Nat) (hi:i<8):Zeu n i=u8.wrap (Zm .u64 (u64.wrap (u64.wrap n*8)) ((56-8*i:Nat):Int)):=by
 grind [Zeu,w64,Zii,wr8]
theorem Za7 (n:Nat):XU n 8=len8 n:=by
 simp only [XU,JE]
 rw [X9 n 0 (by omega),X9 n 1 (by omega),X9 n 2 (by omega),X9 n 3 (by omega),X9 n 4 (by omega),X9 n 5 (by omega),X9 n 6 (by omega),X9 n 7 (by omega)]
 rfl
theorem Za8 (n:Nat) (h:n<=100000000000):[128]++Z0X n=Uw n:=by
 unfold Z0X Uw
 have e1:Int.tmod (n:Int) 64=(n:Int)%64:=tm (by omega)
 have e2:i64.wrap (119-(n:Int)%64)=119-(n:Int)%64:=w64 (by omega)
 rw [Zgv n h,e1,e2,tm (by omega)]
 grind
theorem Zcj (bs:LI) (h:bs.length<=100000000000):Qh bs=Z0p bs:=by
 unfold Qh Z0p
 rw [Za7,Jv bs,Za8 _ h]
theorem Z3R (P:LI->LI->LI) (ys:LI):∀i,QP P ys i=Ux P i Yc.st ys
 | 0=>Z3K P ys
 | i+1=>by rw [Z3L,Z0o,Z3R P ys i]
theorem Z8I:∀(n:Nat) (st ms:LI),W8 st->W8 (Ux XI n st ms)
 | 0,_,_,h=>h
 | n+1,st,_,h=>Z8I n _ _ (Z66 st _ h.1)
@[irreducible] def U7 (bs:LI):LI:=Zcc Xi bs
theorem QS (bs:LI):(U7 bs).length=32:=by unfold U7 Zcc;exact Za6 _
theorem Z8J {bs:LI} (h:∀x∈bs,U8 x) (hl:bs.length<=100000000000):U7 bs=Q8 bs:=by
 unfold U7 Zcc
 rw [Z3R,Zcj bs hl,Z2D _ _ _ Z68 (Za5 h),Z7I (Z8I _ _ _ Z68),Z67]
 rfl
theorem Z3S (xs:LI) (h:xs.length<=100000000000):Zv PP 90 [.vints .u8 xs xs.length] (.agg [.arr .u8 32 (U7 xs)]) 0 []:=by
 unfold U7
 exact Z9Y ZeG xs h
theorem Z2E {bs:LI} (h:∀x∈bs,U8 x) (hl:bs.length<=100000000000):X4 U7 bs=Xn bs:=by
 unfold X4 Xn
 rw [Z8J h hl,Z8J (Z8G _) (by rw [Z2e];decide)]
noncomputable def E60 (R:TxS->Bool->LI) (H:LI->LI) (T2:LI->LI->LI) (B:Nat):Zd:=((G0.withF 89 (ZbV R)).withP 41 (Z3M H B)).withP 199 (Zcd T2)
theorem Zij (R:TxS->Bool->LI) (H:LI->LI) (T2:LI->LI->LI) (B:Nat) (t:TxS) (r:LI) (ht:t.Fine) (hb:(R t true).length<=B) (hr:r=H (R t true)):
  evF (E60 R H T2 B) 20 40 [.agg t.c] ⟨0,[]⟩ (YU 0 (.ret (.agg [.arr .u8 32 r])) 0 []):=by
 refine @Eq.mpr _ (let d:=t.N;let b:=t.M;
 ∃(t_1:TxS),
 let a:=List.length (R t_1 true);let f:=List.take a (ZP 0 (R t_1 true));let e:=f.length;
 (t_1.num=t.num/\((d=d/\t_1.N=d)/\∀(i:Nat),i<d->Zg t.ins i=InS.c (t_1.ins i))/\(b=b/\t_1.M=b)/\∀(i:Nat),i<b->ZA t.outs i=ZR.c (t_1.outs i))/\TxS.Fine t_1/\Z5 (0+a<=a) (Z5 (a=e) (Z5 (e<=B) (H f=r/\True)))) (by kernel_rfl) ?_
 conv=>zeta
 try simp only [vcA]
 try simp only [vcB]
 try simp only [vcC]
 refine ⟨t,⟨rfl,⟨rfl,fun _ _=>rfl⟩,rfl,fun _ _=>rfl⟩,ht, ?_⟩
 rw [Z1g rfl]
 exact ⟨rfl,hb,hr.symm⟩
def Z7J (Nm:TxS->LI):ZM:=fun args h K=>ZL none h true 20 args fun a=>match a with
 | [.agg l]=>∃t,Z0V l t/\t.Fine/\K (.agg [.arr .u8 32 (Nm t)])
 | _=>False
structure Z4W (H:LI->LI) (T2:LI->LI->LI):Prop where
 h:∀args h K,Z3M H 100000 args h K->Zf PP 41 args h fun o h'=>∃v,o=.ret v/\h'=h/\K v
 t:∀args h K,Zcd T2 args h K->Zf PP 199 args h fun o h'=>∃v,o=.ret v/\h'=h/\K v
 r:∀args h K,ZbV (Ws Zk) args h K->Zf PP 89 args h K
 hl:∀x,(H x).length=32
theorem Zgz (hp:Z4W H T2):(E60 (Ws Zk) H T2 100000).Ok:=Zd.withP_ok (Zd.withP_ok (Zd.withF_ok Zt hp.r) hp.h) hp.t
@[irreducible] def Z2F (H:LI->LI) (t:TxS):LI:=H (Ws Zk t true)
theorem Z7K (hp:Z4W H T2) (t:TxS) (ht:t.Fine):Zv PP 40 [.agg t.c] (.agg [.arr .u8 32 (Z2F H t)]) 0 []:=by
 unfold Z2F
 have:=XN ht true (J2 t.M)
 exact .evM (Zgz hp) (Zij (Ws Zk) H T2 100000 t _ ht (by have hb':(Ws Zk t true).length<=20000:=this;omega) rfl)
theorem Za9 (hp:Z4W H T2) (args:List AV) (h:Z8) (K:AV->Prop) (hl:Z7J (Z2F H) args h K):Zf PP 40 args h fun o h'=>∃v,o=.ret v/\h'=h/\K v:=by
 refine Zv.psumm (d:=20) (Zi _ _ _ _ _ hl fun a ha=> ?_)
 split at ha
 ·obtain ⟨t,h1,h2,hK⟩:=ha
  exact ⟨_,(Z7K hp t h2).conv fun E r hr=>hr.head (fun _ hc=>h1.rel hc) (fun _ hc=>hc),fun _=>rfl,hK⟩
 simp_all
theorem Bytes.u8 (h:Bytes xs):∀x∈xs,U8 x:=by
 intro x hx
 obtain ⟨i,hi,rfl⟩:=K7 hx
 have:=h.h i
 rw [Jb,J8 hi] at this
 simp at this
 unfold U8
 omega
theorem Bytes.of (h:∀x∈xs,U8 x):Bytes xs:=⟨fun i=>by
 have:=Vi (P:=U8) h (by unfold U8;omega) i
 unfold U8 at this
 omega⟩
theorem Zck:Z4W (X4 U7) (Z8y U7) where
 h:=fun args h K hl=>Za0 (B:=100000) (fun xs hx=>Z3S xs (by omega)) (by decide) QS args h K hl
 t:=fun args h K hl=>Zce (B:=100000) (fun xs hx=>Z3S xs (by omega)) (by decide) QS args h K hl
 r:=Z7y
 hl:=fun x=>by unfold X4;exact QS _
@[irreducible] def XO (t:TxS):LI:=Z2F (X4 U7) t
theorem Z0q (t:TxS):(XO t).length=32:=by unfold XO Z2F X4;exact QS _
theorem Zcl (args:List AV) (h:Z8) (K:AV->Prop) (hl:Z7J XO args h K):Zf PP 40 args h fun o h'=>∃v,o=.ret v/\h'=h/\K v:=Za9 Zck args h K (by
 have e:XO=Z2F (X4 U7):=by unfold XO;rfl
 rw [e] at hl;exact hl)
theorem Zcm {t:TxS} (hf:t.Fine) (hb:Z2t t):XO t=X7 t:=by
 have h1:=XN hf true (J2 t.M)
 have h2:(Ws Zk t true).length<=20000:=h1
 unfold XO Z2F X7
 exact Z2E (Z7A hb true).u8 (by omega)
theorem Zcn (bs:LI):∀x∈Xn bs,U8 x:=by unfold Xn;exact Z8G _
theorem Zco (t:TxS):∀x∈X7 t,U8 x:=by unfold X7;exact Zcn _
def Z0r (W:Int->LI) (b:LI) (s:Int):LI:=b++(W s++W 0)
noncomputable def Zcp (W:Int->LI) (T:Int) (H:LI->LI) (B:Nat):Zd:=((G0.withF 33 (Z8s W T)).withF 86 Z4L).withP 35 (Z8k H B)
theorem ZeH:(Zcp Zk 4611686018427387904 Xn 100).Ok:=Zd.withP_ok (Zd.withF_ok (Zd.withF_ok Zt Z2p) Qf) (Z2f 100 (by decide) (by decide))
theorem Zjc (W:Int->LI) (T:Int) (H:LI->LI) (B:Nat) (b z:LI) (s:Int) (hW:W=Zk) (hT:T=4611686018427387904) (hB:B=100) (hb:b.length=32) (hs:0<=s/\s<=2147483647) (hz:z=H (Z0r W b s)):
  evF (Zcp W T H B) 20 8 [.agg [.arr .u8 32 b,.int .i64 s,.nilslice]] ⟨0,[]⟩ (Xf (fun v=>v=.tuple [.agg [.arr .u8 32 z],.int .i64 0])):=by
 refine @Eq.mpr _ (let m:=[]++b;let c:=m.length;let i:=m++W s++W 0;let a:=i.length;let h:=0+a;let g:=List.take a (ZP 0 i);let f:=g.length;let e:=List.take a (ZP 0 g);let d:=e.length;let l:=[AV.int i64 0];let k:=AV.tuple (AV.agg [AV.arr u8 32 z]::l);let j:=AV.tuple [AV.agg [AV.arr u8 32 Z7],AV.int i64 2]=k;
 Z6 (decide (0<=s)) (Z6 (decide (s<=2147483647)) (Z5 (u8=u8/\b.length=32) (Z5 (c*1<=140737488355328) (Z5 (c=c/\c<80000000000000/\(0<=s/\s<=T)/\(0:Int)<=0/\0<=T) (Z5 (h<=a) (Z5 (f=a/\a<90000000000000) (Z5 (h<=f) (Z5 (a=d) (Z5 (d<=B) (AV.tuple (AV.agg [AV.arr u8 32 (H e)]::l)=k))))))))) j) j) (by kernel_rfl) ?_
 conv=>zeta
 try simp only [vcA]
 try simp only [vcB]
 try simp only [vcC]
 subst hW
 have l1:=Zp s
 have l0:=Zp 0
 simp only [Y0,JU,Js,JE]
 have e:b++Zk s++Zk 0=Z0r Zk b s:=by unfold Z0r;rw [Jv]
 have el:(Z0r Zk b s).length=32+(Zk s).length+(Zk 0).length:=by rw [<-e];simp only [J5];omega
 simp only [e,el,<-hz,J5]
 refine ⟨fun h1=>⟨fun h2=> ?_,fun h=>by omega⟩,fun h=>by omega⟩
 repeat' apply Ju
 all_goals first|trivial|rfl|omega|(rw [el];omega)
noncomputable def Z8K (W:Int->LI) (H:LI->LI) (B:Nat):Zd:=(G0.withF 38 (Z8u W)).withP 41 (Z3M H B)
theorem Z69:(Z8K Zk (X4 U7) 100000).Ok:=Zd.withP_ok (Zd.withF_ok Zt Z5W) Zck.h
theorem Zik (W:Int->LI) (H:LI->LI) (B:Nat) (b z:LI) (s:Int) (hW:W=Zk) (hB:B=100000) (hb:b.length=32) (hs:0<=s/\s<=2147483647) (hz:z=H (Z0r W b s)):
  evF (Z8K W H B) 20 9 [.agg [.arr .u8 32 b,.int .i64 s,.nilslice]] ⟨0,[]⟩ (Xf (fun v=>v=.tuple [.agg [.arr .u8 32 z],.int .i64 0])):=by
 refine @Eq.mpr _ (let n:=[]++b;let f:=n.length;let e:=List.length (W s);let i:=n++List.take e (ZP 0 (W s));let d:=i.length;let c:=List.length (W 0);let h:=i++List.take c (ZP 0 (W 0));let a:=h.length;let g:=List.take a (ZP 0 h);let m:=g.length;let l:=[AV.int i64 0];let k:=AV.tuple (AV.agg [AV.arr u8 32 z]::l);let j:=AV.tuple [AV.agg [AV.arr u8 32 Z7],AV.int i64 2]=k;
 Z6 (decide (s>=0)) (Z6 (decide (s<=2147483647)) (Z5 (u8=u8/\b.length=32) (Z5 (f*1<=140737488355328) (Z5 (0<=s) (Z5 (u8=u8/\0+e<=e) (Z5 (u8=u8/\f=f) (Z5 (d*1<=140737488355328) (Z5 (u8=u8/\0+c<=c) (Z5 (u8=u8/\d=d) (Z5 (a*1<=140737488355328) (Z5 (0+a<=a) (Z5 (a=m) (Z5 (m<=B) (AV.tuple (AV.agg [AV.arr u8 32 (H g)]::l)=k))))))))))))) j) j) (by kernel_rfl) ?_
 conv=>zeta
 try simp only [vcA]
 try simp only [vcB]
 try simp only [vcC]
 subst hW
 have l1:=Zp s
 have l0:=Zp 0
 simp only [Y0,JU,Js,JE]
 have e:b++Zk s++Zk 0=Z0r Zk b s:=by unfold Z0r;rw [Jv]
 have el:(Z0r Zk b s).length=32+(Zk s).length+(Zk 0).length:=by rw [<-e];simp only [J5];omega
 simp only [e,el,<-hz,J5]
 refine ⟨fun h1=>⟨fun h2=> ?_,fun h=>by omega⟩,fun h=>by omega⟩
 repeat' apply Ju
 all_goals first|trivial|rfl|omega|(rw [el];omega)
theorem Zv.evW (hG:G.Ok) {n:Nat} {f:FuncId} (h:evF G n f args ⟨0,[]⟩ (Xf fun u=>u=v)):Zv G.P f args v 0 []:=by
 intro E w rs he hr
 refine (UY hG h E w rs he hr).mono ?_
 rintro e w' ⟨E₁,o,h',hK0,hev,hor⟩
 cases hor with
 | panic u r hr=>exact hK0.elim
 | ret u r hr=>
  unfold Xf at hK0
  simp only at hK0
  split at hK0
  ·rename_i hu
   subst hK0
   refine ⟨E,r,rfl,⟨.refl E,⟨he.fresh,fun x B hx=>by simp [Z8.get,ZF] at hx,fun x B hx=>by simp [Z8.get,ZF] at hx,fun x y B B' b N N' hx=>by simp [Z8.get,ZF] at hx,fun a c hi=>hev.emb.imm a c (hev.le.imm a c hi),fun a c x B N _ hx=>by simp [Z8.get,ZF] at hx⟩,hev.size,hev.os,hev.tape,hev.output,hev.keep,fun b hb=> ?_,fun _ _ h=>h⟩,Za.vplain (E:=E₁) (E':=E) (fun a c hi=>hev.imm a c hi) _ _ hu hr⟩
   obtain ⟨x,B,N,hx,_⟩:=hb
   simp [Z8.get,ZF] at hx
  ·exact hK0.elim
def YK (e:Nat) (a:AV) (K:Nat->(Nat->List AV)->Prop):Prop:=match a with
 | .vrows e' n f m=>Z5 (e'=e/\m=n) (K n f)
 | .nilslice=>K 0 (fun _=>[])
 | _=>False
theorem ZX {e:Nat} {a:AV} {K:Nat->(Nat->List AV)->Prop} (h:YK e a K):∃n f,K n f/\a.isCell=true/\∀E r,Za E a r->Za E (.vrows e n f n) r:=by
 unfold YK at h
 split at h
 ·obtain ⟨⟨rfl,rfl⟩,hK⟩:=Zc h
  exact ⟨_,_,hK,rfl,fun _ _ h=>h⟩
 ·refine ⟨_,_,h,rfl,fun E r hr=> ?_⟩
  cases hr
  exact .vrowsNil _ _ _ _ rfl rfl
 ·exact h.elim
structure Ze where
 name:LI
 index:Int
 out:ZR
variable {L:List Ze}
def Ze.c (x:Ze):List AV:=[.arr .u8 32 x.name,.int .i64 x.index,.int .i64 x.out.kind,.int .i64 x.out.amount,.arr .u8 32 x.out.owner,.arr .u8 32 x.out.other,.arr .u8 32 x.out.point,.arr .u8 32 x.out.hash,.int .i64 x.out.delay,.int .i64 x.out.expiry]
def Zn:Ze:=⟨Z7,0,⟨0,0,Z7,Z7,Z7,Z7,0,0⟩⟩
def Zo (L:List Ze) (i:Nat):List AV:=(L.getD i Zn).c
theorem WJ (L:List Ze) (i:Nat):plainC (Zo L i)=true:=rfl
theorem Wr {k:Nat} {n:Nat} {f:Nat->List AV} (h:∀i,i<n->f i=Zo L i):ZD k τ n (Zo L) f:=
 Wa h (fun i _=>WJ L i) (fun i _ v hv=>by
  simp only [Zo,Ze.c,J6,JQ,or_false] at hv
  rcases hv with rfl|rfl|rfl|rfl|rfl|rfl|rfl|rfl|rfl|rfl<;>first|exact .inl rfl|exact .inr ⟨_,_,_,rfl⟩)
theorem Zil (N:Nat) (L:List Ze) (hN:N+1<1000000):
  evF G0 20 24 [.vrows 165 (N+1) (Zo L) (N+1)] ⟨0,[]⟩ (YU 0 (.ret (.nslice ⟨0,0,165,0,0⟩ 165 (N+1) (N+1))) 1 [(0,.rows 165 (N+1) (Zo L))]):=by
 refine @Eq.mpr _ (let a:=N+1;let b:=0+a;let c:=decide (b=a);
 Z5 (b*200<=140737488355328) (Z0 c (Z5 (a<=b) (Z0 c (ZD 0 [(0,0)] a (Zo L) (Vy 0 (fun (x:Nat)=>[]) (Zo L))/\True))))) (by kernel_rfl) ?_
 conv=>zeta
 try simp only [vcA]
 try simp only [vcB]
 try simp only [vcC]
 repeat' apply Ju
 all_goals first|omega|exact Wr fun i hi=>by rw [Z4J (JI _)];rfl
theorem Zim (L:List Ze) :
  evF G0 20 24 [.nilslice] ⟨0,[]⟩ (YU 0 (.ret (.nslice ⟨0,0,165,0,0⟩ 165 0 0)) 1 [(0,.rows 165 0 (Zo L))]):=by
 refine @Eq.mpr _ (True) (by kernel_rfl) ?_
 trivial
theorem Zin (L:List Ze) :
  evF G0 20 24 [.fslice] ⟨0,[]⟩ (YU 0 (.ret (.nslice ⟨0,0,165,0,0⟩ 165 0 0)) 1 [(0,.rows 165 0 (Zo L))]):=by
 refine @Eq.mpr _ (ZD 0 [(0,0)] 0 (Zo L) (Vy 0 (fun (x:Nat)=>[]) fun (x:Nat)=>[])/\True) (by kernel_rfl) ?_
 try simp only [vcA]
 try simp only [vcB]
 try simp only [vcC]
 first|exact Wr fun i hi=>by omega|exact ⟨Wr fun i hi=>by omega,trivial⟩
theorem Zcq (N:Nat) (L:List Ze) (hN:N<1000000):Zv PP 24 [.vrows 165 N (Zo L) N] (.nslice ⟨0,0,165,0,0⟩ 165 N N) 1 [(0,.rows 165 N (Zo L))]:=by
 cases N with
 | zero=>exact Zv.vrows0 (.evM Zt (Zim L)) (.evM Zt (Zin L))
 | succ n=>exact .evM Zt (Zil n L hN)
inductive Qi (f:Nat->List AV) (L:List Ze) (n:Nat):Prop
 | mk:(∀i,i<n->f i=Zo L i)->Qi f L n
def ZgA (L:List Ze):YA:=fun args h K=>ZL none h true 60 args fun a=>match a with
 | [x]=>YK 165 x fun n f=>Qi f L n/\n<1000000/\K (.ret (.nslice ⟨h.next,0,165,0,0⟩ 165 n n)) ⟨h.next+1,(h.next,.rows 165 n (Zo L))::h.bs⟩
 | _=>False
theorem Z8L (L:List Ze) (args:List AV) (h:Z8) (K:KO) (hl:ZgA L args h K):Zf PP 24 args h K:=by
 refine Zv.fsumm (d:=60) (Zi _ _ _ _ _ hl fun a ha=> ?_)
 split at ha
 ·obtain ⟨n,f,ha,hx,hx2⟩:=ZX ha
  obtain ⟨⟨hf⟩,hN,hK⟩:=ha
  exact ⟨_,_,_,_,(Zcq _ L hN).conv fun E r hr=>hr.head (fun _ hc=>(hx2 E _ hc).rowsC fun i hi=>hf i hi) fun _ hc=>hc,rfl,⟨Jx,.rows _ _ _ (fun i _=>WJ _ i),trivial⟩,hK⟩
 ·exact ha.elim
def nmA (N:LI->Int->LI) (s:Nat->Int):Nat->LI
 | 0=>Z7
 | i+1=>N (nmA N s i) (s i)
def bkR (M:Nat->LI) (s:Nat->Int) (i:Nat):List AV:=[.arr .u8 32 (M i),.int .i64 (s i),.nilslice]
def kpR (M:Nat->LI) (s:Nat->Int) (i:Nat):List AV:=[.arr .u8 32 (M i),.int .i64 (s i),.nilslice,.arr .u8 32 (M (i+1))]
theorem Z3T (M:Nat->LI) (s:Nat->Int) (i:Nat):plainC (kpR M s i)=true:=rfl
inductive Z7L (f:Nat->List AV) (M:Nat->LI) (s:Nat->Int) (n:Nat):Prop
 | mk:(∀i,i<n->f i=kpR M s i)->Z7L f M s n
theorem Z7L.rows {f:Nat->List AV} {M:Nat->LI} {s:Nat->Int} {n k:Nat} (h:Z7L f M s n) {g:Nat->List AV} (hg:∀i,i<n->g i=f i):ZD k τ n f g:=by
 obtain ⟨hf⟩:=h
 refine Wa hg (fun i hi=>by rw [hf i hi];exact Z3T M s i) (fun i hi v hv=> ?_)
 rw [hf i hi] at hv
 simp only [kpR,J6,JQ,or_false] at hv
 rcases hv with rfl|rfl|rfl|rfl<;>first|exact .inl rfl|exact .inr ⟨_,_,_,rfl⟩
theorem Zio (N:Nat) (f:Nat->List AV) (M:Nat->LI) (s:Nat->Int) (hN:N+1<1000000) (hf:Z7L f M s (N+1)):
  evF G0 20 49 [.vrows 66 (N+1) f (N+1)] ⟨0,[]⟩ (YU 0 (.ret (.nslice ⟨0,0,66,0,0⟩ 66 (N+1) (N+1))) 1 [(0,.rows 66 (N+1) f)]):=by
 refine @Eq.mpr _ (let a:=N+1;let b:=0+a;let c:=decide (b=a);
 Z5 (b*96<=140737488355328) (Z0 c (Z5 (a<=b) (Z0 c (ZD 0 [(0,0)] a f (Vy 0 (fun (x:Nat)=>[]) f)/\True))))) (by kernel_rfl) ?_
 conv=>zeta
 try simp only [vcA]
 try simp only [vcB]
 try simp only [vcC]
 repeat' apply Ju
 all_goals first|omega|exact hf.rows fun i hi=>by rw [Z4J (JI _)];rfl
theorem Zip (f:Nat->List AV) :
  evF G0 20 49 [.nilslice] ⟨0,[]⟩ (YU 0 (.ret (.nslice ⟨0,0,66,0,0⟩ 66 0 0)) 1 [(0,.rows 66 0 f)]):=by
 refine @Eq.mpr _ (True) (by kernel_rfl) ?_
 trivial
theorem Ziq (f:Nat->List AV) :
  evF G0 20 49 [.fslice] ⟨0,[]⟩ (YU 0 (.ret (.nslice ⟨0,0,66,0,0⟩ 66 0 0)) 1 [(0,.rows 66 0 f)]):=by
 refine @Eq.mpr _ (ZD 0 [(0,0)] 0 f (Vy 0 (fun (x:Nat)=>[]) fun (x:Nat)=>[])/\True) (by kernel_rfl) ?_
 try simp only [vcA]
 try simp only [vcB]
 try simp only [vcC]
 first|exact Wa (fun i hi=>by omega) (fun i hi=>by omega) (fun i hi=>by omega)|exact ⟨Wa (fun i hi=>by omega) (fun i hi=>by omega) (fun i hi=>by omega),trivial⟩
theorem Zcr (N:Nat) (f:Nat->List AV) (M:Nat->LI) (s:Nat->Int) (hN:N<1000000) (hf:Z7L f M s N):Zv PP 49 [.vrows 66 N f N] (.nslice ⟨0,0,66,0,0⟩ 66 N N) 1 [(0,.rows 66 N f)]:=by
 cases N with
 | zero=>exact Zv.vrows0 (.evM Zt (Zip f)) (.evM Zt (Ziq f))
 | succ n=>exact .evM Zt (Zio n f M s hN hf)
def Zir (M:Nat->LI) (s:Nat->Int) (o:Nat->Nat):YA:=fun args h K=>ZL none h true 40 args fun a=>match a with
 | [x]=>YK 66 x fun n f=>Z7L f (fun i=>M (o n+i)) (fun i=>s (o n+i)) n/\n<1000000/\K (.ret (.nslice ⟨h.next,0,66,0,0⟩ 66 n n)) ⟨h.next+1,(h.next,.rows 66 n (kpR (fun i=>M (o n+i)) (fun i=>s (o n+i))))::h.bs⟩
 | _=>False
theorem ZeI (M:Nat->LI) (s:Nat->Int) (o:Nat->Nat) (args:List AV) (h:Z8) (K:KO) (hl:Zir M s o args h K):Zf PP 49 args h K:=by
 refine Zv.fsumm (d:=40) (Zi _ _ _ _ _ hl fun a ha=> ?_)
 split at ha
 ·obtain ⟨n,f,ha,hx,hx2⟩:=ZX ha
  obtain ⟨⟨hf⟩,hN,hK⟩:=ha
  exact ⟨_,_,_,_,(Zcr _ _ _ _ hN ⟨fun _ _=>rfl⟩).conv fun E r hr=>hr.head (fun _ hc=>(hx2 E _ hc).rowsC fun i hi=>hf i hi) fun _ hc=>hc,rfl,⟨Jx,.rows _ _ _ (fun i _=>Z3T _ _ i),trivial⟩,hK⟩
 ·exact ha.elim
theorem Zcs {a b a' b':AV} {l:Int} (h:Zl E [a,b,.int .i64 l] vs) (ha:a.isCell=true) (hb:b.isCell=true) (ha':a'.isCell=true) (hb':b'.isCell=true) (h1:∀r,Za E a r->Za E a' r) (h2:∀r,Za E b r->Za E b' r):Zl E [a',b',.int .i64 l] vs:=by
 cases h with
 | one v c vs cs h0 hc hv t=>cases t with
  | one v c vs cs h0 hc' hv' t=>exact .one _ _ _ _ ha' hc (h1 _ hv) (.one _ _ _ _ hb' hc' (h2 _ hv') t)
  | arr k n xs vs cs t=>cases hb
 | arr k n xs vs cs t=>cases ha
structure Zaa (b:LI) (s:Int):Prop where
 l:b.length=32
 b:∀x∈b,U8 x
 s:0<=s/\s<=2147483647
structure ChM (N:LI->Int->LI) (M:Nat->LI) (s:Nat->Int) (m:Nat):Prop where
 zero:M 0=Z7
 step:∀i,i<m->M (i+1)=N (M i) (s i)
 ok:∀i,i<m->Zaa (M i) (s i)
inductive ZeJ (f:Nat->List AV) (M:Nat->LI) (s:Nat->Int) (n:Nat):Prop
 | mk:(∀i,i<n->f i=bkR M s i)->ZeJ f M s n
def nmF (N:LI->Int->LI):ZM:=fun args h K=>match args with
 | [.agg [.arr .u8 32 b,.int .i64 s,.nilslice]]=>Zaa b s/\K (.tuple [.agg [.arr .u8 32 (N b s)],.int .i64 0])
 | _=>False
@[irreducible] def Z0s (b:LI) (s:Int):LI:=Xn (Z0r Zk b s)
theorem Z1j (n:Int):∀x∈Zk n,U8 x:=by
 have h8:∀y,U8 (u8.wrap y):=fun y=>by rw [wr8];unfold U8;omega
 have hb:∀y,U8 (b8 n y):=fun y=>h8 _
 intro x hx
 unfold Zk at hx
 split at hx
 ·simp at hx;subst hx;exact h8 _
 ·split at hx
  ·simp at hx;rcases hx with rfl|rfl|rfl<;>first|exact hb _|(unfold U8;omega)
  ·split at hx
   ·simp at hx;rcases hx with rfl|rfl|rfl|rfl|rfl<;>first|exact hb _|(unfold U8;omega)
   ·simp at hx;rcases hx with rfl|rfl|rfl|rfl|rfl|rfl|rfl|rfl|rfl<;>first|exact hb _|(unfold U8;omega)
theorem ZgB (args:List AV) (h:Z8) (K:AV->Prop) (hl:nmF Z0s args h K):Zf PP 8 args h fun o h'=>∃v,o=.ret v/\h'=h/\K v:=by
 unfold nmF at hl
 split at hl
 ·exact W7 ZeH rfl (Zjc Zk 4611686018427387904 Xn 100 _ _ _ rfl rfl rfl hl.1.l hl.1.s rfl) fun u hu=>by rw [hu];have:=hl.2;unfold Z0s at this;exact this
 ·exact hl.elim
theorem Z8M (args:List AV) (h:Z8) (K:AV->Prop) (hl:nmF Z0s args h K):Zf PP 9 args h fun o h'=>∃v,o=.ret v/\h'=h/\K v:=by
 unfold nmF at hl
 split at hl
 ·rename_i b s
  have e:X4 U7 (Z0r Zk b s)=Xn (Z0r Zk b s):=by
   refine Z2E (fun x hx=> ?_) ?_
   ·unfold Z0r at hx
    rcases Jt.1 hx with hx|hx
    ·exact hl.1.b x hx
    ·rcases Jt.1 hx with hx|hx
     ·exact Z1j _ x hx
     ·exact Z1j _ x hx
   ·have l1:=Zp s
    have l0:=Zp 0
    have:=hl.1.l
    unfold Z0r
    simp only [J5]
    omega
  exact W7 Z69 rfl (Zik Zk (X4 U7) 100000 _ _ _ rfl rfl hl.1.l hl.1.s rfl) fun u hu=>by rw [hu,e];have:=hl.2;unfold Z0s at this;exact this
 ·exact hl.elim
noncomputable def ZgC (N:LI->Int->LI):Zd:=G0.withP 9 (nmF N)
theorem Z8N:(ZgC Z0s).Ok:=Zd.withP_ok Zt Z8M
theorem Zis (N:LI->Int->LI) (n:Nat) (f0 f:Nat->List AV) (l:Int) :
  evF (ZgC N) 20 59 [.agg [.vrows 165 n f0 n,.vrows 34 0 f 0,.int .i64 l]] ⟨0,[]⟩ (Xf (fun v=>v=.tuple [.agg [.arr .u8 32 Z7],.int .i64 0])):=by
 refine @Eq.mpr _ (let a:=AV.tuple [AV.agg [AV.arr u8 32 Z7],AV.int i64 0];
 a=a) (by kernel_rfl) ?_
 conv=>zeta
 try simp only [vcA]
 try simp only [vcB]
 try simp only [vcC]
theorem Zit (N:LI->Int->LI) (n m:Nat) (f0:Nat->List AV) (M:Nat->LI) (s:Nat->Int) (l:Int) (z:LI) (hm:m<1000) (hM:Zaa (M m) (s m)) (hz:z=N (M m) (s m)):
  evF (ZgC N) 20 59 [.agg [.vrows 165 n f0 n,.vrows 34 (m+1) (bkR M s) (m+1),.int .i64 l]] ⟨0,[]⟩ (Xf (fun v=>v=.tuple [.agg [.arr .u8 32 z],.int .i64 (m+1:Nat)])):=by
 refine @Eq.mpr _ (let c:=m+1;let a:=↑c;let b:=wrap i64 (a-1);let h:=Int.toNat b;let g:=M h;let f:=s h;let e:=decide (c=c);let d:=[AV.int i64 a];
 Z5 (0<=b/\b<a) (Zaa g f/\Z5 (a=a) (Z0 e (bkR M s=bkR M s/\Z0 e (AV.tuple (AV.agg [AV.arr u8 32 (N g f)]::d)=AV.tuple (AV.agg [AV.arr u8 32 z]::d)))))) (by kernel_rfl) ?_
 conv=>zeta
 try simp only [vcA]
 try simp only [vcB]
 try simp only [vcC]
 have e:i64.wrap (((m+1:Nat):Int)-1)=(m:Int):=by rw [w64 (by omega)];omega
 rw [e]
 simp only [JK]
 exact ⟨by omega,hM,by rw [hz]⟩
def Ziu (N:LI->Int->LI) (M:Nat->LI) (s:Nat->Int):ZM:=fun args h K=>ZL none h true 60 args fun a=>match a with
 | [.agg [x,y,.int .i64 _]]=>YK 165 x fun n f=>YK 34 y fun m g=>ZeJ g M s m/\m<1000/\ChM N M s m/\K (.tuple [.agg [.arr .u8 32 (M m)],.int .i64 m])
 | _=>False
theorem ZeK (M:Nat->LI) (s:Nat->Int) (args:List AV) (h:Z8) (K:AV->Prop) (hl:Ziu Z0s M s args h K):Zf PP 59 args h fun o h'=>∃v,o=.ret v/\h'=h/\K v:=by
 refine Zv.psumm (d:=60) (Zi _ _ _ _ _ hl fun a ha=> ?_)
 split at ha
 ·rename_i x y l
  obtain ⟨n,f,ha,hx,hx2⟩:=ZX ha
  obtain ⟨m,g,ha,hy,hy2⟩:=ZX ha
  obtain ⟨⟨hg⟩,hm,hM,hK⟩:=ha
  have hcv:∀E r,Za E (.agg [x,y,.int .i64 l]) r->Za E (.agg [.vrows 165 n f n,.vrows 34 m (bkR M s) m,.int .i64 l]) r:=fun E r hr=>by
   cases hr with
   | agg _ vs hc=>exact .agg _ vs (Zcs hc hx hy rfl rfl (fun r hr=>hx2 E r hr) (fun r hr=>(hy2 E r hr).rowsC hg))
  cases m with
  | zero=>
   refine ⟨_,(Zv.evW (Z8N) (Zis Z0s n f (bkR M s) l)).conv fun E r hr=>hr.head (fun _ hc=>hcv E _ hc) fun _ hc=>hc,fun _=>rfl, ?_⟩
   rw [hM.zero] at hK
   exact hK
  | succ m=>
   refine ⟨_,(Zv.evW (Z8N) (Zit Z0s n m f M s l _ (by omega) (hM.ok m (by omega)) rfl)).conv fun E r hr=>hr.head (fun _ hc=>hcv E _ hc) fun _ hc=>hc,fun _=>rfl, ?_⟩
   rw [hM.step m (by omega)] at hK
   exact hK
 ·exact ha.elim
def stR (L:List Ze) (i:Nat):List AV:=(L.getD i Zn).c++[.int .i64 0,.int .i64 (-1),.int .i64 0,.nilslice,.nilslice]
theorem Z3U (L:List Ze) (i:Nat):plainC (stR L i)=true:=rfl
theorem U9 {k:Nat} {n:Nat} {f:Nat->List AV} (h:∀i,i<n->f i=stR L i):ZD k τ n (stR L) f:=
 Wa h (fun i _=>Z3U L i) (fun i _ v hv=>by
  simp only [stR,Ze.c,List.cons_append,JE,J6,JQ,or_false] at hv
  rcases hv with rfl|rfl|rfl|rfl|rfl|rfl|rfl|rfl|rfl|rfl|rfl|rfl|rfl|rfl|rfl<;>first|exact .inl rfl|exact .inr ⟨_,_,_,rfl⟩)
def alB (L:List Ze) (n m:Nat) (M:Nat->LI) (s:Nat->Int) (l:Int):Nat×Blk:=(0,.flat [.vrows 165 n (Zo L) n,.vrows 34 m (bkR M s) m,.int .i64 l])
def alS (L:List Ze) (n m:Nat) (M:Nat->LI) (s:Nat->Int) (l:Int) (i:Nat):St:=⟨59,[(4,.int .i64 i),(1,pt 0),(3,.nslice ⟨1,0,170,0,0⟩ 170 i i)],⟨2,[(1,.rows 170 i (stR L)),alB L n m M s l]⟩,[]⟩
def alE (L:List Ze) (n m:Nat) (M:Nat->LI) (s:Nat->Int) (l:Int):St:=⟨59,[(1,pt 0),(3,.nslice ⟨1,0,170,0,0⟩ 170 n n)],⟨2,[(1,.rows 170 n (stR L)),alB L n m M s l]⟩,[]⟩
def alN:St:=⟨59,[],⟨0,[]⟩,[]⟩
def alT (L:List Ze) (n m:Nat) (M:Nat->LI) (s:Nat->Int) (l:Int) (j:Nat):St:=⟨59,[(5,.int .i64 j),(1,pt 0),(3,.nslice ⟨1,0,170,0,0⟩ 170 n n)],⟨2,[(1,.rows 170 n (stR L)),alB L n m M s l]⟩,[]⟩
theorem Zjd (L:List Ze) (n m:Nat) (M:Nat->LI) (s:Nat->Int) (l:Int) (i:Nat) (Z1 Z2:Prop) (hn:n<1000) (hi:i<=n) (h1:i<n->Z1) (h2:i=n->Z2):
  Zz G0 20 60 0 0 (alS L n m M s l i) (rdM 0 0 9 (alS L n m M s l (i+1)) (alE L n m M s l) alN alN Z1 Z2 False False):=by
 refine @Eq.mpr _ (let b:=i+1;let j:=decide (b=b);let h:=[(0,0)];let e:=stR L;let f:=List.getD L (Int.toNat (↑i:Int)) Zn;let a:=f.out;let d:=decide (n=n);let g:=Zo L=Zo L;let c:=decide (m=m);let p:=bkR M s=bkR M s;let o:=decide (l=l);let k:=decide (i=n);
 Z6 (decide ((↑i:Int)<(↑n:Int))) (Z5 (0<=(↑i:Int)/\(↑i:Int)<(↑n:Int)) (Z5 (i=i) (Z5 (b*272<=140737488355328) (Z5 (wrap i64 ((↑i:Int)+1)=(↑b:Int)) (Z0 j (Z5 (b<=b) (Z0 j (ZD 0 ((1,3)::h) b e (Vy i e (Z0M [AV.arr u8 32 f.name,AV.int i64 f.index,AV.int i64 a.kind,AV.int i64 a.amount,AV.arr u8 32 a.owner,AV.arr u8 32 a.other,AV.arr u8 32 a.point,AV.arr u8 32 a.hash,AV.int i64 a.delay,AV.int i64 a.expiry,AV.int i64 0,AV.int i64 (-1),AV.int i64 0,AV.nilslice,AV.nilslice] 0 170))/\Z0 d (g/\Z0 d (Z0 c (p/\Z0 c (Z0 o Z1)))))))))))) (Z0 k (Z5 (n<=i) (Z0 k (ZD 0 ((1,1)::h) n e e/\Z0 d (g/\Z0 d (Z0 c (p/\Z0 c (Z0 o Z2))))))))) (by kernel_rfl) ?_
 conv=>zeta
 try simp only [vcA]
 try simp only [vcB]
 try simp only [vcC]
 refine ⟨fun hc=> ?_,fun hc=> ?_⟩
 ·have hlt:i<n:=by omega
  have hwr:i64.wrap ((i:Int)+1)=((i+1:Nat):Int):=by rw [w64 (by omega)];omega
  refine ⟨by omega,by omega,hwr,U9 fun k hk=> ?_,h1 hlt⟩
  rcases Jk k i with h|h
  ·rw [ZdA h]
  ·obtain rfl:k=i:=by omega
   rw [Z4J (J2 _),Nat.sub_self]
   rfl
 ·have:i=n:=by omega
  subst this
  exact ⟨rfl,J2 _,rfl,U9 fun _ _=>rfl,h2 rfl⟩
theorem Zje (L:List Ze) (n m:Nat) (M:Nat->LI) (s:Nat->Int) (l:Int) (j:Nat) (Z1 Z2:Prop) (hn:n<1000) (hm:m<1000) (hj:j<=m) (h1:j<m->Z1) (h2:j=m->Z2):
  Zz G0 20 60 2 0 (alT L n m M s l j) (rdM 0 2 9 (alT L n m M s l (j+1)) (alE L n m M s l) alN alN Z1 Z2 False False):=by
 refine @Eq.mpr _ (let a:=decide (n=n);let g:=decide (n<=n);let f:=ZD 0 [(1,1),(0,0)] n (stR L) (stR L);let e:=Zo L=Zo L;let b:=decide (m=m);let d:=bkR M s=bkR M s;let c:=decide (l=l);
 Z6 (decide ((↑j:Int)<(↑m:Int))) (Z5 (0<=(↑j:Int)/\(↑j:Int)<(↑m:Int)) (Z5 (wrap i64 ((↑j:Int)+1)=(↑(j+1):Int)) (Z0 a (Z0 g (Z0 a (f/\Z0 a (e/\Z0 a (Z0 b (d/\Z0 b (Z0 c Z1)))))))))) (Z0 a (Z0 g (Z0 a (f/\Z0 a (e/\Z0 a (Z0 b (d/\Z0 b (Z0 c Z2))))))))) (by kernel_rfl) ?_
 conv=>zeta
 try simp only [vcA]
 try simp only [vcB]
 try simp only [vcC]
 refine ⟨fun hc=> ?_,fun hc=>⟨U9 fun _ _=>rfl,h2 (by omega)⟩⟩
 have hwr:i64.wrap ((j:Int)+1)=((j+1:Nat):Int):=by rw [w64 (by omega)];omega
 exact ⟨by omega,hwr,U9 fun _ _=>rfl,h1 (by omega)⟩
noncomputable def Zct (L:List Ze) (n m:Nat) (M:Nat->LI) (s:Nat->Int) (l:Int):Zd:=G0.withL 60 0 (goM 0 (alS L n m M s l 0) (n<1000) (Y9 0 n 9 (fun i=>i<n) (fun i=>i=n) (fun _=>False) (fun _=>False) (fun _=>alE L n m M s l) (fun _=>alN) (fun _=>alN)))
theorem Zcu (L:List Ze) (n m:Nat) (M:Nat->LI) (s:Nat->Int) (l:Int):(Zct L n m M s l).Ok:=
 Zd.withGoM (N:=20) (S:=alS L n m M s l) Zt (by kernel_rfl) fun hC=>⟨rfl,fun i hi _=>Zjd L n m M s l i _ _ hC hi (fun h=>⟨h,h⟩) fun h=>h⟩
theorem Zab (G:Zd) (f:FuncId) (id:Nat) (S:Nat->St->KE->Prop):(G.withL f id S).P=G.P:=rfl
noncomputable def Ziv (L:List Ze) (n m:Nat) (M:Nat->LI) (s:Nat->Int) (l:Int):Zd:=(Zct L n m M s l).withL 60 2 (goM 0 (alT L n m M s l 0) (n<1000/\m<1000) (Y9 2 m 9 (fun i=>i<m) (fun i=>i=m) (fun _=>False) (fun _=>False) (fun _=>alE L n m M s l) (fun _=>alN) (fun _=>alN)))
theorem ZeL (L:List Ze) (n m:Nat) (M:Nat->LI) (s:Nat->Int) (l:Int):(Ziv L n m M s l).Ok:=
 Zd.withL_join (H:=G0) (Zcu _ _ _ _ _ _) (by unfold Zct;simp only [Zab]) (Zd.withGoM (N:=20) (k:=0) (n:=m) (l:=9) (S:=alT L n m M s l) Zt (by kernel_rfl) fun hC=>⟨rfl,fun i hi _=>Zje L n m M s l i _ _ hC.1 hC.2 hi (fun h=>⟨h,h⟩) fun h=>h⟩)
theorem Zjf (L:List Ze) (n m:Nat) (M:Nat->LI) (s:Nat->Int) (l:Int) (hn:n<1000) (hm:m<1000):
  evF (Ziv L n m M s l) 20 60 [.agg [.vrows 165 n (Zo L) n,.vrows 34 m (bkR M s) m,.int .i64 l]] ⟨0,[]⟩ (YU 0 (.ret (.nslice ⟨0,0,170,0,0⟩ 170 n n)) 1 [(0,.rows 170 n (stR L))]):=by
 refine @Eq.mpr _ (let a:=decide (n=n);let h:=Zo L=Zo L;let c:=decide (m=m);let g:=bkR M s=bkR M s;let f:=decide (l=l);let e:=decide (n<=n);let b:=stR L;let d:=(False->False)/\(False->False);
 Z0 a (h/\Z0 a (Z0 c (g/\Z0 c (Z0 f (n<1000/\∀(i:Nat),i<=n->(∀(j:Nat),j<i->(fun (i:Nat)=>i<n) j)->(i=n->Z0 a (Z0 e (Z0 a (ZD 0 [(1,1),(0,0)] n b b/\Z0 a (h/\Z0 a (Z0 c (g/\Z0 c (Z0 f ((n<1000/\m<1000)/\∀(i:Nat),i<=m->(∀(j:Nat),j<i->(fun (i:Nat)=>i<m) j)->(i=m->Z0 a (Z0 e (Z0 a (ZD 0 [(0,1)] n b b/\True))))/\d)))))))))/\d)))))) (by kernel_rfl) ?_
 conv=>zeta
 try simp only [vcA]
 try simp only [vcB]
 try simp only [vcC]
 exact ⟨hn,fun i hi _=>⟨fun _=>⟨U9 fun _ _=>rfl,⟨hn,hm⟩,fun j hj _=>⟨fun _=>U9 fun _ _=>rfl,fun h=>h,fun h=>h⟩⟩,fun h=>h,fun h=>h⟩⟩
def ZgD (L:List Ze) (M:Nat->LI) (s:Nat->Int):YA:=fun args h K=>ZL none h true 60 args fun a=>match a with
 | [.agg [x,y,.int .i64 _]]=>YK 165 x fun n f=>YK 34 y fun m g=>Qi f L n/\ZeJ g M s m/\n<1000/\m<1000/\K (.ret (.nslice ⟨h.next,0,170,0,0⟩ 170 n n)) ⟨h.next+1,(h.next,.rows 170 n (stR L))::h.bs⟩
 | _=>False
theorem Z8O (L:List Ze) (M:Nat->LI) (s:Nat->Int) (args:List AV) (h:Z8) (K:KO) (hl:ZgD L M s args h K):Zf PP 60 args h K:=by
 refine Zv.fsumm (d:=60) (Zi _ _ _ _ _ hl fun a ha=> ?_)
 split at ha
 ·rename_i x y l
  obtain ⟨n,f,ha,hx,hx2⟩:=ZX ha
  obtain ⟨m,g,ha,hy,hy2⟩:=ZX ha
  obtain ⟨⟨hf⟩,⟨hg⟩,hn,hm,hK⟩:=ha
  have hcv:∀E r,Za E (.agg [x,y,.int .i64 l]) r->Za E (.agg [.vrows 165 n (Zo L) n,.vrows 34 m (bkR M s) m,.int .i64 l]) r:=fun E r hr=>by
   cases hr with
   | agg _ vs hc=>exact .agg _ vs (Zcs hc hx hy rfl rfl (fun r hr=>(hx2 E r hr).rowsC hf) (fun r hr=>(hy2 E r hr).rowsC hg))
  exact ⟨_,_,_,_,(Zv.evM (ZeL L n m M s l) (Zjf L n m M s l hn hm)).conv fun E r hr=>hr.head (fun _ hc=>hcv E _ hc) fun _ hc=>hc,rfl,⟨Jx,.rows _ _ _ (fun i _=>Z3U _ i),trivial⟩,hK⟩
 ·exact ha.elim
def ZgE (s:St) (g:Nat):Option (List Nat):=match s.h.get g with
 | some (.git _ _ js)=>some js
 | _=>none
def rdS (k id g:Nat) (S En:List Nat->St) (js:List Nat) (go:Nat->Prop) (ex:Prop):KE:=fun e s=>match e with
 | .normal=>(match ZgE s g with
  | some (j::js')=>UI k (S (j::js')) s (js'=js/\go j)
  | _=>False)
 | .exit x=>(match Nat.beq x id with|true=>UI k (En js) s ex|false=>False)
 | _=>False
def Zfi (id:Nat) (I ex:List Nat->Prop) (En:List Nat->St):KE->Prop:=fun X=>∀js,I js->ex js->X (.exit id) (En js)
theorem Zd.withGoS (hG:G.Ok) {f:FuncId} {id k N g n:Nat} {S En:List Nat->St} {S0:St} {C:Prop} {I ex:List Nat->Prop} (h1:Wm G.P f id=true) (hC:C->S []=S0/\I []/\∀js,I js->
   js.length<=n/\Zz G N f id k (S js) (rdS k id g S En js (fun j=>I (j::js)) (ex js))):
  (G.withL f id (goM k S0 C (Zfi id I ex En))).Ok:=by
 refine Zd.withL_ok hG h1 ?_
 intro k' s X hl
 unfold goM at hl
 split at hl
 ·rename_i hk
  have:=J0 hk
  subst this
  obtain ⟨⟨hc,hX⟩,hw⟩:=XM hl
  obtain ⟨e0,hI,hr⟩:=hC hc
  refine ⟨{ js:List Nat//I js},fun t=>n-t.1.length,fun t=>S t.1,⟨[],hI⟩,N,by simp_all, ?_⟩
  rintro ⟨js,hjs⟩
  refine ⟨_,(hr js hjs).2, ?_⟩
  intro e s' hY
  unfold rdS at hY
  split at hY
  ·split at hY
   ·rename_i j js' _
    obtain ⟨⟨e1,hg⟩,hw'⟩:=XM hY
    subst e1
    refine ⟨⟨j::js',hg⟩, ?_,hw'⟩
    have:=(hr _ hg).1
    simp only [Jh] at this⊢
    omega
   ·exact hY.elim
  ·split at hY
   ·rename_i hi
    have:=J0 hi
    subst this
    obtain ⟨hex,hw'⟩:=XM hY
    exact ⟨_,hw',hX js hjs hex⟩
   ·exact hY.elim
  ·exact hY.elim
 ·exact hl.elim
structure Xy (n:Nat) (js:List Nat):Prop where
 nd:js.Nodup
 lt:∀j∈js,j<n
theorem Xy.nil (n:Nat):Xy n []:=⟨.nil,fun _ h=>by cases h⟩
theorem Xy.cons {n:Nat} {js:List Nat} (h:Xy n js) (hj:j<n) (hn:j∉js):Xy n (j::js):=
 ⟨List.nodup_cons.2 ⟨hn,h.nd⟩,fun i hi=>by rcases J6.1 hi with rfl|hi;exact hj;exact h.lt i hi⟩
theorem nodup_range (n:Nat):(List.range n).Nodup:=List.nodup_range
theorem Xy.perm {n:Nat} {js:List Nat} (h:Xy n js) (ha:∀j,j<n->j∈js):js.Perm (List.range n):=
 (List.perm_ext_iff_of_nodup h.nd (nodup_range n)).2 fun a=>⟨fun hh=>Jl.2 (h.lt a hh),fun hh=>ha a (Jl.1 hh)⟩
theorem Xy.len {n:Nat} {js:List Nat} (h:Xy n js):js.length<=n:=by
 have:=h.nd.length_le_of_subset (l₂:=List.range n) fun j hj=>Jl.2 (h.lt j hj)
 simpa using this
def stV (L:List Ze) (i:Nat):AV:=.agg [.int .i64 (L.getD i Zn).out.kind,.int .i64 (L.getD i Zn).out.amount,.arr .u8 32 (L.getD i Zn).out.owner,.arr .u8 32 (L.getD i Zn).out.other,.arr .u8 32 (L.getD i Zn).out.point,.arr .u8 32 (L.getD i Zn).out.hash,.int .i64 (L.getD i Zn).out.delay,.int .i64 (L.getD i Zn).out.expiry,.int .i64 0,.int .i64 (-1),.int .i64 0,.nilslice,.nilslice]
def Yl (L:List Ze) (i:Nat):AV:=.agg [.arr .u8 32 (L.getD i Zn).name,.int .i64 (L.getD i Zn).index]
def WX (a:Nat->Int):List Nat->Int
 | []=>0
 | j::js=>WX a js+a j
theorem Zac {a:Nat->Int} {l l':List Nat} (h:l.Perm l'):WX a l=WX a l':=by
 induction h with
 | nil=>rfl
 | cons x _ ih=>simp [WX,ih]
 | swap x y l=>simp only [WX];omega
 | trans _ _ h1 h2=>exact h1.trans h2
theorem Z8P {a:Nat->Int} {n:Nat} {B:Int} (hB:0<=B) (ha:∀j,j<n->0<=a j/\a j<=B):∀js:List Nat,(∀j∈js,j<n)->0<=WX a js/\WX a js<=js.length*B
 | [],_=>by simp [WX]
 | j::js,h=>by
  obtain ⟨h1,h2⟩:=Z8P hB ha js fun i hi=>h i (Jj _ hi)
  obtain ⟨h3,h4⟩:=ha j (h j (Jy ..))
  simp only [WX,Jh]
  have:((js.length+1:Nat):Int)*B=js.length*B+B:=by push_cast;rw [Int.add_mul,Int.one_mul]
  omega
def amC (L:List Ze) (i:Nat):Int:=(L.getD i Zn).out.amount
theorem Zad (L:List Ze) (i:Nat):∃cs,stV L i=.agg cs/\plainC cs=true/\∀v∈cs,v.isCell=true\/∃k n xs,v=.arr k n xs:=by
 refine ⟨_,rfl,rfl,fun v hv=> ?_⟩
 simp only [J6,JQ,or_false] at hv
 rcases hv with rfl|rfl|rfl|rfl|rfl|rfl|rfl|rfl|rfl|rfl|rfl|rfl|rfl<;>first|exact .inl rfl|exact .inr ⟨_,_,_,rfl⟩
theorem Z7M (L:List Ze) (i:Nat):∃cs,Yl L i=.agg cs/\plainC cs=true/\∀v∈cs,v.isCell=true\/∃k n xs,v=.arr k n xs:=by
 refine ⟨_,rfl,rfl,fun v hv=> ?_⟩
 simp only [J6,JQ,or_false] at hv
 rcases hv with rfl|rfl<;>first|exact .inl rfl|exact .inr ⟨_,_,_,rfl⟩
theorem Z4X {k:Nat} (h:∃cs,v=.agg cs/\plainC cs=true/\∀v∈cs,v.isCell=true\/∃k n xs,v=.arr k n xs):eqV k τ v v True:=by
 obtain ⟨cs,rfl,h1,h2⟩:=h
 unfold eqV
 exact Z0j h1 trivial h2
theorem Z2G {k:Nat} {n:Nat} (h:∀j,j<n->kf j=Yl L j/\vf j=stV L j):ZC k τ n (Yl L) (stV L) kf vf:=
 ⟨fun j hj=>by
  obtain ⟨e1,e2⟩:=h j hj
  rw [e1,e2]
  exact ⟨Z4X (Z7M L j),Z4X (Zad L j)⟩⟩
def UL (x:Ze):Bool:=decide (0<=x.index/\x.index<=23)&&Zu x.out
theorem Z2H {x:Ze} (h0:0<=x.index) (h1:x.index<=23) (h2:Zu x.out=true):UL x=true:=by
 unfold UL
 rw [h2,decide_eq_true ⟨h0,h1⟩]
 rfl
theorem Zae {js:List Nat} {i:Nat} (h:j<js.length):(js++[i]).getD j 0=js.getD j 0:=by
 rw [Jb,Jb,J7 h]
theorem Zaf {js:List Nat} {i:Nat}:(js++[i]).getD js.length 0=i:=by
 rw [Jb,Ji (J2 _),Nat.sub_self]
 rfl
structure Ze.Ok (x:Ze):Prop where
 name:x.name.length=32
 out:x.out.Ok
 ob:x.out.By
structure Zw (L:List Ze) (n:Nat):Prop where
 h:∀i,i<n->(L.getD i Zn).Ok
def Z4Y (L:List Ze) (i:Nat):Nat:=Zy (fun j=>ZJ (Yl L i) (Yl L j)) i
def Z0Z (L:List Ze) (i:Nat):Prop:=UL (L.getD i Zn)=true/\Z4Y L i=i
def plI (L:List Ze):Nat->List Nat
 | 0=>[]
 | i+1=>match (plI L i).any (fun j=>(L.getD i Zn).name==(L.getD j Zn).name) with
  | true=>plI L i
  | false=>plI L i++[i]
def hkV (x:LI):AV:=.agg [.arr .u8 32 x]
def plC (L:List Ze) (js:List Nat) (j:Nat):AV:=hkV (L.getD (js.getD j 0) Zn).name
def plW:Nat->AV:=fun _=>.int .i64 (-1)
theorem Zjg (a b:LI) (ha:a.length=32) (hb:b.length=32):
  Z80 PP 24 (hkV a) (hkV b):=by
 refine @Eq.mpr _ (Z5 (a.length=32/\b.length=32) ((a==b)=ZJ (AV.agg [AV.arr u8 32 a]) (AV.agg [AV.arr u8 32 b]))) (by kernel_rfl) ?_
 try simp only [vcA]
 try simp only [vcB]
 try simp only [vcC]
 exact ⟨⟨ha,hb⟩,rfl⟩
theorem Ziw (a b:LI) (i j:Int) (ha:a.length=32) (hb:b.length=32):
  Z80 PP 88 (.agg [.arr .u8 32 a,.int .i64 i]) (.agg [.arr .u8 32 b,.int .i64 j]):=by
 refine @Eq.mpr _ (Z5 (a.length=32/\b.length=32) ((a==b&&i==j)=ZJ (AV.agg [AV.arr u8 32 a,AV.int i64 i]) (AV.agg [AV.arr u8 32 b,AV.int i64 j]))) (by kernel_rfl) ?_
 try simp only [vcA]
 try simp only [vcB]
 try simp only [vcC]
 exact ⟨⟨ha,hb⟩,rfl⟩
theorem Z2I (p:Nat->Bool) (n:Nat):Nat.blt (Zy p n) n=(List.range n).any p:=by
 rw [JX,JP]
 rcases W0 p n with ⟨h1,h2⟩|⟨h1,h2,h3⟩
 ·rw [h1]
  constructor
  ·intro h;have:=Z7j h;omega
  ·rintro ⟨j,hj,hp⟩;rw [h2 j (Jl.1 hj)] at hp;cases hp
 ·exact ⟨fun _=>⟨_,Jl.2 h1,h2⟩,fun _=>Z4I h1⟩
theorem ZeM (a b:LI):ZJ (hkV a) (hkV b)=(a==b):=by simp [hkV,ZJ,Wx,VK]
theorem ZeN (L:List Ze) (i j:Nat):ZJ (Yl L i) (Yl L j)=((L.getD i Zn).name==(L.getD j Zn).name&&(L.getD i Zn).index==(L.getD j Zn).index):=by simp [Yl,ZJ,Wx,VK]
theorem Z4Z (L:List Ze):∀i,∀j∈plI L i,j<i
 | 0,j,h=>by cases h
 | i+1,j,h=>by
  unfold plI at h
  split at h
  ·have:=Z4Z L i j h;omega
  ·rcases Jt.1 h with h|h
   ·have:=Z4Z L i j h;omega
   ·simp at h;omega
theorem Zcv (js:List Nat) (q:Nat->Bool):(List.range js.length).any (fun j=>q (js.getD j 0))=js.any q:=by
 rw [JX,JP,JP]
 constructor
 ·rintro ⟨j,hj,hq⟩
  have hj:=Jl.1 hj
  exact ⟨_,List.getElem_mem hj,by rw [Jb,J8 hj] at hq;exact hq⟩
 ·rintro ⟨x,hx,hq⟩
  obtain ⟨j,hj,rfl⟩:=K7 hx
  exact ⟨j,Jl.2 hj,by rw [Jb,J8 hj];exact hq⟩
theorem Zcw (L:List Ze) (js:List Nat) (x:LI):Nat.blt (Zy (fun j=>ZJ (hkV x) (plC L js j)) js.length) js.length=js.any (fun j=>x==(L.getD j Zn).name):=by
 rw [Z2I,<-Zcv js (fun j=>x==(L.getD j Zn).name)]
 simp only [plC,ZeM]
theorem Zcx (L:List Ze) (i:Nat):plI L (i+1)=match (plI L i).any (fun j=>(L.getD i Zn).name==(L.getD j Zn).name) with
  | true=>plI L i
  | false=>plI L i++[i]:=rfl
theorem Z8Q (L:List Ze) (x:LI):∀n,(plI L n).any (fun j=>x==(L.getD j Zn).name)=(List.range n).any (fun j=>x==(L.getD j Zn).name)
 | 0=>rfl
 | n+1=>by
  rw [List.range_succ,List.any_append,<-Z8Q L x n,Zcx]
  split
  ·rename_i h
   rw [JP] at h
   obtain ⟨j,hj,h⟩:=h
   simp only [List.any_cons,List.any_nil,Bool.or_false]
   rw [JX,JL]
   refine ⟨.inl,fun h2=>h2.elim id fun h2=>JP.2 ⟨j,hj, ?_⟩⟩
   rw [beq_iff_eq] at h h2⊢
   rw [h2,h]
  ·rw [List.any_append]
theorem QT {k:Nat} {js:List Nat} (h:∀j,j<js.length->kf j=plC L js j/\vf j=plW j):ZC k τ js.length (plC L js) plW kf vf:=⟨fun j hj=>by
 obtain ⟨h1,h2⟩:=h j hj
 rw [h1,h2]
 exact ⟨Z4X ⟨_,rfl,rfl,fun v hv=>by simp at hv;subst hv;exact .inr ⟨_,_,_,rfl⟩⟩,by simp [plW,eqV,Z5,Z6]⟩⟩
theorem Zix {n i:Nat} (hO:Zw L n) (hi:i<n) {m:Nat} (hm:m<=n):Yz PP 88 (Yl L i) m (Yl L):=⟨fun j hj=>Ziw _ _ _ _ (hO.h i hi).name (hO.h j (by omega)).name⟩
theorem Zfj {n:Nat} (hO:Zw L n) {x:LI} (hx:x.length=32) {js:List Nat} (hj:∀j∈js,j<n):Yz PP 24 (hkV x) js.length (plC L js):=⟨fun j h=>Zjg _ _ hx (hO.h _ (hj _ (by rw [Jb,J8 h];exact List.getElem_mem h))).name⟩
def UM (o:ZR):TxS:=⟨0,1,fun _=>⟨Z7,0,2,Z7,Z7,Z7⟩,1,fun _=>o⟩
theorem Zcy {o:ZR} (h:o.Ok):(UM o).Ok:=⟨by show (1:Nat)<_;omega,by show (1:Nat)<_;omega,fun _ _=>⟨rfl,rfl,rfl,rfl⟩,fun _ _=>h⟩
theorem Zcz:Yt 1 (UM Zn.out).ins 0=false:=by kernel_rfl
theorem Z2J (o:ZR):Yh Yd (UM o)=Zu o:=by
 have hi:(UM o).ins=(UM Zn.out).ins:=rfl
 have hN:(UM o).N=1:=rfl
 have hM:(UM o).M=1:=rfl
 have hn:(UM o).num=0:=rfl
 have ho:(UM o).outs=fun _=>o:=rfl
 unfold Yh
 rw [hi,hN,hM,hn,ho]
 simp only [List.range_one,List.any_cons,List.any_nil,Bool.or_false,Zcz]
 have hw:Ya (fun _=>o) 0= !Zu o:=rfl
 rw [hw]
 cases h:Zu o with
 | false=>simp
 | true=>
  have ha:=(Yj h).2.1
  have e:amL (fun _=>o) 1=[o.amount]:=rfl
  rw [e]
  have:(Yd [o.amount]).2=0:=by
   unfold Yd
   have h1:allIn 1125899906842624 [o.amount]=true:=by simp [allIn,Yf,Vw,List.range_succ];omega
   have h2:[o.amount].sum<=1125899906842624:=by simp;omega
   rw [if_pos h1,if_pos h2]
  simp [this]
def nwH (L:List Ze) (n i:Nat) (js:List Nat):Z8:=⟨4,[(3,.flat [.map (some 0),.map (some 1),.nslice ⟨2,0,165,0,0⟩ 165 n n,.arr .u8 32 Z7,.int .i64 0,.nilslice,.int .i64 0]),(2,.rows 165 n (Zo L)),(1,.fmap js.length (plC L js) plW),(0,.fmap i (Yl L) (stV L))]⟩
def nwS (L:List Ze) (n i:Nat) (js:List Nat):St:=⟨74,[(19,.int .i64 i),(18,.int .i64 n),(17,.vrows 165 n (Zo L) n),(4,pt 3),(0,.vrows 165 n (Zo L) n)],nwH L n i js,[]⟩
def nwE (L:List Ze) (n i:Nat) (js:List Nat):St:=⟨74,[(4,pt 3),(0,.vrows 165 n (Zo L) n)],nwH L n i js,[]⟩
def nwR:St:=⟨74,[(2,.ptr none),(3,.int .i64 2)],⟨0,[]⟩,[]⟩
noncomputable def ZcA (A:LI->Int×Int):Zd:=G0.withP 26 (ckS A)
theorem Z8R:(ZcA Yd).Ok:=Zd.withP_ok Zt Z7s
theorem Zjh (A:LI->Int×Int) (L:List Ze) (n i:Nat) (js js':List Nat) (Z1 Z2 Z3:Prop) (hA:A=Yd) (hn:n<1000) (hi:i<=n) (hO:Zw L n) (hjs:js=plI L i) (hjs':js'=plI L (i+1)) (h1:i<n->Z0Z L i->Z1) (h2:i=n->Z2) (h3:i<n->¬Z0Z L i->Z3):
  Zz (ZcA A) 40 6 0 0 (nwS L n i js) (rdM 0 0 9 (nwS L n (i+1) js') (nwE L n i js) nwR nwR Z1 Z2 Z3 False):=by
 refine @Eq.mpr _ (let J:=List.getD L (Int.toNat (↑i:Int)) Zn;let D:=J.name;let q3:=AV.arr u8 (32:Nat) D;let m:=J.index;let v:=AV.agg [q3,AV.int i64 m];let f:=Yl L;let P:=Yz PP (88:Nat) v i f;let O:=Zy (fun (i:Nat)=>ZJ v (AV.agg [AV.arr u8 (32:Nat) (List.getD L i Zn).name,AV.int i64 (List.getD L i Zn).index])) i;let K:=Nat.blt O i;let u:=AV.arr u8 (32:Nat) Z7;let I:=AV.int i64 (0:Int);let e:=J.out;let H:=e.kind;let a7:=AV.int i64 H;let G:=e.amount;let a6:=AV.int i64 G;let F:=e.owner;let a5:=AV.arr u8 (32:Nat) F;let E:=e.other;let a4:=AV.arr u8 (32:Nat) E;let C:=e.point;let a3:=AV.arr u8 (32:Nat) C;let B:=e.hash;let a2:=AV.arr u8 (32:Nat) B;let z:=e.delay;let a1:=AV.int i64 z;let y:=e.expiry;let a0:=AV.int i64 y;let x:=AV.agg [q3];let b:=js.length;let o:=plC L js;let Z:=Yz PP (24:Nat) x b o;let Y:=Zy (fun (i:Nat)=>ZJ x (AV.agg [AV.arr u8 (32:Nat) (List.getD L (List.getD js i (0:Nat)) Zn).name])) b;let X:=Nat.blt Y b;let j:=i+(1:Nat);let s:=decide (wrap i64 ((↑i:Int)+(1:Int))=(↑j:Int));let r:=decide ((↑n:Int)=(↑n:Int));let a:=decide (n=n);let q:=Zo L;let d:=q=q;let l:=decide (n<=n);let g:=[((2:Nat),(2:Nat)),((1:Nat),(1:Nat)),((0:Nat),(0:Nat)),((3:Nat),(3:Nat))];let k:=ZD (0:Nat) g n q q;let p:=js'.length;let W:=decide (b=p);let w:=AV.int i64 (-1:Int);let V:=ZC (0:Nat) g p (plC L js') plW o (WS plW Y w);let h:=stV L;let U:=AV.agg [a7,a6,a5,a4,a3,a2,a1,a0,I,w,I,AV.nilslice,AV.nilslice];let T:=Z5 (i=j) (ZC (0:Nat) g j f h f (WS h O U)/\Z1);let S:=decide (b+(1:Nat)=p);let R:=ZC (0:Nat) g p (plC L js') plW (WS o b x) (WS plW b w);let Q:=Z5 (j=j) (ZC (0:Nat) g j f h (WS f i v) (WS h i U)/\Z1);
 Z6 (decide ((↑i:Int)<(↑n:Int))) (Z5 ((0:Int)<=(↑i:Int)/\(↑i:Int)<(↑n:Int)) (P/\
 Z6 K Z3 (Z6 (decide ((0:Int)<=m)) (Z6 (!decide (m<=(23:Int))) Z3 (∃(t:TxS),
 (t.num=(0:Int)/\(((1:Nat)=(1:Nat)/\t.N=(1:Nat))/\∀(i:Nat),i<(1:Nat)->Z0M [u,I,AV.int i64 (2:Int),u,u,u] (0:Nat) (130:Nat) i=InS.c (t.ins i))/\((1:Nat)=(1:Nat)/\t.M=(1:Nat))/\∀(i:Nat),i<(1:Nat)->Z0M [a7,a6,a5,a4,a3,a2,a1,a0] (0:Nat) (132:Nat) i=ZR.c (t.outs i))/\
 TxS.Ok t/\
 Z6 (Yh A t) (Z5 (H=H) (Z5 (G=G) (F=F/\
 E=E/\
 C=C/\
 B=B/\
 Z5 (z=z) (Z5 (y=y) (D=D/\Z5 (m=m) (P/\Z6 K (Z/\Z6 X (Z0 s (Z0 r (Z0 a (d/\Z0 a (Z0 a (d/\Z0 a (Z0 a (Z0 l (Z7=Z7/\Z0 a (k/\Z0 W (V/\T))))))))))) (Z0 s (Z0 r (Z0 a (d/\Z0 a (Z0 a (d/\Z0 a (Z0 a (Z0 l (Z7=Z7/\Z0 a (k/\Z0 S (R/\T)))))))))))) (Z/\Z6 X (Z0 s (Z0 r (Z0 a (d/\Z0 a (Z0 a (d/\Z0 a (Z0 a (Z0 l (Z7=Z7/\Z0 a (k/\Z0 W (V/\Q))))))))))) (Z0 s (Z0 r (Z0 a (d/\Z0 a (Z0 a (d/\Z0 a (Z0 a (Z0 l (Z7=Z7/\Z0 a (k/\Z0 S (R/\Q)))))))))))))))))) Z3)) Z3))) (Z0 a (d/\Z0 a (Z0 a (Z0 l (Z7=Z7/\Z0 a (k/\Z5 (b=b) (ZC (0:Nat) g b o plW o plW/\Z5 (i=i) (ZC (0:Nat) g i f h f h/\Z2))))))))) (by kernel_rfl) ?_
 conv=>zeta
 try simp only [vcA]
 try simp only [vcB]
 try simp only [vcC]
 subst hA
 have hcR:∀k τ,ZD k τ n (Zo L) (Zo L):=fun k τ=>Wr fun _ _=>rfl
 have hwi:i<n->i64.wrap ((i:Int)+1)=((i+1:Nat):Int):=fun h=>by rw [w64 (by omega)];omega
 refine ⟨fun hc=> ?_,fun hc=>⟨hcR _ _,QT fun _ _=>⟨rfl,rfl⟩,Z2G fun _ _=>⟨rfl,rfl⟩,h2 (by omega)⟩⟩
 have hlt:i<n:=by omega
 have hx:=hO.h i hlt
 have hK:Yz PP 88 (Yl L i) i (Yl L):=Zix hO hlt (by omega)
 have hjl:∀j∈js,j<n:=fun j hj=>by rw [hjs] at hj;have:=Z4Z L i j hj;omega
 have hP:Yz PP 24 (hkV (L.getD i Zn).name) js.length (plC L js):=Zfj hO hx.name hjl
 have hany:=Zcw L js (L.getD i Zn).name
 have hD:∀b,Nat.blt (Z4Y L i) i=b->(b=true↔Z4Y L i<i):=fun b h=>by
  subst h
  exact ⟨Z7j,Z4I⟩
 have hle:Z4Y L i<=i:=by
  rcases W0 (fun j=>ZJ (Yl L i) (Yl L j)) i with h|h
  ·exact Nat.le_of_eq h.1
  ·exact Nat.le_of_lt h.1
 refine ⟨by omega,hK,fun hb=>h3 hlt fun hg=> ?_,fun hb=> ?_⟩
 ·have:=(hD true hb).1 rfl
  have:=hg.2
  omega
 have hd:Z4Y L i=i:=by
  have h:¬Z4Y L i<i:=fun h=>by have:=(hD false hb).2 h;cases this
  omega
 refine ⟨fun h0=>⟨fun h23=>h3 hlt fun hg=> ?_,fun h23=>⟨UM (L.getD i Zn).out,⟨rfl,⟨rfl,fun k hk=> ?_⟩,rfl,fun k hk=> ?_⟩,Zcy hx.out,fun hck=>⟨hK,fun hb'=> ?_,fun _=>⟨hP,fun hf=> ?_,fun hf=> ?_⟩⟩,fun hck=>h3 hlt fun hg=> ?_⟩⟩,fun h0=>h3 hlt fun hg=> ?_⟩
 ·have:=hg.1
  unfold UL at this
  simp only [J1,decide_eq_true_eq] at this
  simp only [Jg,decide_eq_false_iff_not] at h23
  omega
 ·obtain rfl:k=0:=by omega
  rfl
 ·obtain rfl:k=0:=by omega
  rfl
 ·have hb:Nat.blt (Z4Y L i) i=false:=hb
  have hb':Nat.blt (Z4Y L i) i=true:=hb'
  rw [hb] at hb'
  cases hb'
 ·have hf:js.any (fun j=>(L.getD i Zn).name==(L.getD j Zn).name)=true:=hany.symm.trans hf
  have e:js'=js:=by
   rw [hjs',plI,<-hjs,hf]
  have hg:Z0Z L i:=⟨Z2H h0 (by simpa using h23) (by rw [Z2J] at hck;exact hck),hd⟩
  rw [e]
  refine ⟨hwi hlt,hcR _ _,rfl,QT fun j hj=>⟨rfl, ?_⟩,Z2G fun j hj=> ?_,h1 hlt hg⟩
  ·unfold WS
   split<;>rfl
  ·unfold WS
   rcases Jk j i with h|h
   ·rw [Zq (by omega)];exact ⟨rfl,rfl⟩
   ·obtain rfl:j=i:=by omega
    rw [Jf]
    exact ⟨rfl,rfl⟩
 ·have hf:js.any (fun j=>(L.getD i Zn).name==(L.getD j Zn).name)=false:=hany.symm.trans hf
  have e:js'=js++[i]:=by
   rw [hjs',plI,<-hjs,hf]
  have el:js.length+1=js'.length:=by rw [e];simp
  have hg:Z0Z L i:=⟨Z2H h0 (by simpa using h23) (by rw [Z2J] at hck;exact hck),hd⟩
  refine ⟨hwi hlt,hcR _ _,el,QT fun j hj=> ?_,Z2G fun j hj=> ?_,h1 hlt hg⟩
  ·rw [e]
   unfold WS plC
   rcases Jk j js.length with h|h
   ·rw [Zq (by omega),Zae h];exact ⟨rfl,rfl⟩
   ·obtain rfl:j=js.length:=by omega
    rw [Jf,Zaf]
    exact ⟨rfl,rfl⟩
  ·unfold WS
   rcases Jk j i with h|h
   ·rw [Zq (by omega)];exact ⟨rfl,rfl⟩
   ·obtain rfl:j=i:=by omega
    rw [Jf]
    exact ⟨rfl,rfl⟩
 ·have:=hg.1
  unfold UL at this
  rw [Z2J] at hck
  rw [hck] at this
  simp at this
 ·have:=hg.1
  unfold UL at this
  simp only [J1,decide_eq_true_eq] at this
  omega
def Z10 (L:List Ze) (i k:Nat):Bool:=(L.getD k Zn).name==(L.getD i Zn).name&&(L.getD k Zn).index==(L.getD i Zn).index
def rnB:Nat×Blk:=(0,.flat [.nilslice,.nilslice,.int .i64 0])
def rn0 (L:List Ze) (n i:Nat):St:=⟨62,[(4,.int .i64 i),(0,.vrows 165 n (Zo L) n),(2,pt 0)],⟨1,[rnB]⟩,[]⟩
def Ziy (L:List Ze) (n:Nat):St:=⟨62,[(0,.vrows 165 n (Zo L) n),(2,pt 0)],⟨1,[rnB]⟩,[]⟩
def rn2 (L:List Ze) (n i k:Nat):St:=⟨62,[(6,.int .i64 k),(4,.int .i64 i),(0,.vrows 165 n (Zo L) n),(5,pt 1),(2,pt 0)],⟨2,[(1,.flat (Zo L i)),rnB]⟩,[]⟩
def Ziz (L:List Ze) (n i:Nat):St:=⟨62,[(4,.int .i64 i),(0,.vrows 165 n (Zo L) n),(2,pt 0)],⟨1,[rnB]⟩,[]⟩
def rnR:St:=⟨62,[(2,pt 0),(3,.int .i64 2)],⟨1,[rnB]⟩,[]⟩
noncomputable def ZgF:Zd:=G0.withP 29 (Z4O Zu)
theorem Z8S:ZgF.Ok:=Zd.withP_ok Zt Z5X
theorem Zji (L:List Ze) (n i k:Nat) (Z1 Z2 Z3:Prop) (hn:n<1000) (hi:i<n) (hO:Zw L n) (hk:k<=i) (h1:k<i->Z10 L i k=false->Z1) (h2:k=i->Z2) (h3:k<i->Z10 L i k=true->Z3):
  Zz ZgF 20 7 2 0 (rn2 L n i k) (rdM 0 2 9 (rn2 L n i (k+1)) (Ziz L n i) rnR rnR Z1 Z2 Z3 False):=by
 refine @Eq.mpr _ (let v:=decide (0<=(↑k:Int)/\(↑k:Int)<(↑n:Int));let j:=List.getD L (Int.toNat (↑k:Int)) Zn;let h:=j.name;let e:=List.getD L i Zn;let c:=e.name;let d:=e.index;let g:=decide ((↑i:Int)=(↑i:Int));let b:=decide (n=n);let f:=Zo L=Zo L;let a:=e.out;let u:=a.kind;let t:=a.amount;let s:=a.owner;let r:=a.other;let q:=a.point;let p:=a.hash;let o:=a.delay;let m:=a.expiry;let l:=Z5 (wrap i64 ((↑k:Int)+1)=(↑(k+1):Int)) (Z0 g (Z0 b (f/\Z0 b (c=c/\Z5 (d=d) (Z5 (u=u) (Z5 (t=t) (s=s/\r=r/\q=q/\p=p/\Z5 (o=o) (Z5 (m=m) Z1))))))));
 Z6 (decide ((↑k:Int)<(↑i:Int))) (Z0 v (Z5 (h.length=32/\c.length=32) (Z6 (h==c) (Z0 v (Z6 (j.index==d) Z3 l)) l))) (Z0 g (Z0 b (f/\Z0 b Z2)))) (by kernel_rfl) ?_
 conv=>zeta
 try simp only [vcA]
 try simp only [vcB]
 try simp only [vcC]
 refine ⟨fun hc=> ?_,fun hc=>h2 (by omega)⟩
 have hlt:k<i:=by omega
 have hw:i64.wrap ((k:Int)+1)=((k+1:Nat):Int):=by rw [w64 (by omega)];omega
 unfold Z10 at h1 h3
 exact ⟨by omega,⟨(hO.h k (by omega)).name,(hO.h i hi).name⟩,fun k1=>⟨by omega,fun k2=>h3 hlt (by rw [k1,k2];rfl),fun k2=>⟨hw,h1 hlt (by rw [k1,k2];rfl)⟩⟩,fun k1=>⟨hw,h1 hlt (by rw [k1];rfl)⟩⟩
noncomputable def ZcB (L:List Ze) (n:Nat):Zd:=ZgF.withL 7 2 (Zgm fun i:Nat=>goM 0 (rn2 L n i 0) (i<n/\n<1000/\Zw L n) (Y9 2 i 9 (fun k=>Z10 L i k=false) (fun k=>k=i) (fun k=>k<i/\Z10 L i k=true) (fun _=>False) (fun _=>Ziz L n i) (fun _=>rnR) (fun _=>rnR)))
theorem ZcC (L:List Ze) (n:Nat):(ZcB L n).Ok:=
 Zd.withL_ex Z8S fun i=>Zd.withGoM (N:=20) (S:=fun k=>rn2 L n i k) Z8S (by kernel_rfl) fun hC=>⟨rfl,fun k hk hgo=>Zji L n i k _ _ _ hC.2.1 hC.1 hC.2.2 hk (fun h1 h2=>⟨h2,h1⟩) (fun h=>h) (fun h1 h2=>⟨h1,h2⟩)⟩
theorem QU {x:Ze} (h:UL x=true):(0<=x.index/\x.index<=23)/\Zu x.out=true:=by
 unfold UL at h
 rw [J1,decide_eq_true_eq] at h
 exact h
def WK (L:List Ze) (i:Nat):Prop:=UL (L.getD i Zn)=true/\∀k,k<i->Z10 L i k=false
theorem Zjj (L:List Ze) (n i:Nat) (Z1 Z2 Z3:Prop) (hn:n<1000) (hi:i<=n) (hO:Zw L n) (h1:i<n->WK L i->Z1) (h2:i=n->Z2) (h3:i<n->¬WK L i->Z3):
  Zz (ZcB L n) 20 7 0 0 (rn0 L n i) (rdM 0 0 9 (rn0 L n (i+1)) (Ziy L n) rnR rnR Z1 Z2 Z3 False):=by
 refine @Eq.mpr _ (let o:=List.getD L (Int.toNat (↑i:Int)) Zn;let l:=o.index;let a:=o.out;let e:=a.owner;let d:=a.other;let g:=a.point;let f:=a.hash;let q:=a.kind;let p:=a.amount;let s:=a.delay;let r:=a.expiry;let c:=decide (n=n);let m:=Zo L=Zo L;
 Z6 (decide ((↑i:Int)<(↑n:Int))) (Z5 (0<=(↑i:Int)/\(↑i:Int)<(↑n:Int)) (Z6 (decide (l<0)) Z3 (Z6 (decide (l>23)) Z3 (Z5 (e.length=32/\d.length=32/\g.length=32/\f.length=32) ((Bytes e/\Bytes d)/\
 Z6 (!Zu (ZR.mk q p e d g f s r)) Z3 (∃(i_1:Nat),
 let h:=List.getD L i_1 Zn;let b:=h.out;
 Z5 ((↑i:Int)=(↑i_1:Int)) (Z0 c (m/\Z0 c (o.name=h.name/\Z5 (l=h.index) (Z5 (q=b.kind) (Z5 (p=b.amount) (e=b.owner/\d=b.other/\g=b.point/\f=b.hash/\Z5 (s=b.delay) (Z5 (r=b.expiry) ((i_1<n/\n<1000/\Zw L n)/\∀(i_2:Nat),i_2<=i_1->(∀(j:Nat),j<i_2->(fun (k:Nat)=>Z10 L i_1 k=false) j)->(i_2=i_1->Z5 (wrap i64 ((↑i_1:Int)+1)=(↑(i+1):Int)) (Z0 c (m/\Z0 c Z1)))/\(i_2<i_1/\Z10 L i_1 i_2=true->Z3)/\(False->False))))))))))))))) (Z0 c (m/\Z0 c Z2))) (by kernel_rfl) ?_
 conv=>zeta
 try simp only [vcA]
 try simp only [vcB]
 try simp only [vcC]
 refine ⟨fun hc=> ?_,fun hc=>h2 (by omega)⟩
 have hlt:i<n:=by omega
 have hx:=hO.h i hlt
 have hw:i64.wrap ((i:Int)+1)=((i+1:Nat):Int):=by rw [w64 (by omega)];omega
 refine ⟨by omega,fun k1=>h3 hlt fun hg=> ?_,fun k1=>⟨fun k2=>h3 hlt fun hg=> ?_,fun k2=>⟨⟨hx.out.owner,hx.out.other,hx.out.point,hx.out.hash⟩,⟨hx.ob.owner,hx.ob.other⟩,fun k3=>h3 hlt fun hg=> ?_,fun k3=>⟨i,rfl,rfl,rfl,rfl,rfl,rfl,rfl,rfl,rfl,rfl,rfl,⟨hlt,hn,hO⟩,fun m hm hd=>⟨fun e=> ?_,fun e=>h3 hlt fun hg=> ?_,fun h=>h⟩⟩⟩⟩⟩
 ·have:=(QU hg.1).1
  omega
 ·have:=(QU hg.1).1
  omega
 ·have h:Zu (L.getD i Zn).out=true:=(QU hg.1).2
  have k3:(!Zu (L.getD i Zn).out)=true:=k3
  rw [h] at k3
  cases k3
 ·subst e
  have k3:(!Zu (L.getD m Zn).out)=false:=k3
  exact ⟨hw,h1 hlt ⟨Z2H (by omega) (by omega) (by simpa using k3),hd⟩⟩
 ·have:=hg.2 m e.1
  rw [e.2] at this
  cases this
def txR (t:Nat->TxS):Nat->List AV:=fun i=>(t i).c
def fwC (m:Nat) (t:Nat->TxS):Nat->List AV:=fun _=>[.int .i64 0,.int .i64 0,.vrows 3 m (txR t) m,.bool false,.bool false]
def fwT (n m:Nat) (fc:Nat->List AV) (t:Nat->TxS):ZT:=[(1,.vrows 5 1 (fwC m t) 1),(2,.int .i64 1),(0,.vrows 165 n fc n)]
def fw0 (n m:Nat) (fc:Nat->List AV) (t:Nat->TxS) (i:Nat):St:=⟨65,(7,.int .i64 i)::fwT n m fc t,⟨0,[]⟩,[]⟩
def fwE (n m:Nat) (fc:Nat->List AV) (t:Nat->TxS):St:=⟨65,fwT n m fc t,⟨0,[]⟩,[]⟩
def fw2 (n m:Nat) (fc:Nat->List AV) (t:Nat->TxS) (k:Nat):St:=⟨65,(8,.int .i64 k)::(7,.int .i64 0)::fwT n m fc t,⟨0,[]⟩,[]⟩
def ZiA (n m:Nat) (fc:Nat->List AV) (t:Nat->TxS):St:=⟨65,(7,.int .i64 0)::fwT n m fc t,⟨0,[]⟩,[]⟩
def fwR:St:=⟨65,[(6,.bool false)],⟨0,[]⟩,[]⟩
def fwB (t:TxS):Bool:=decide (t.N<=30)&&decide (t.M<=30)
theorem Zjk (n m:Nat) (fc:Nat->List AV) (t:Nat->TxS) (k:Nat) (Z1 Z2 Z3:Prop) (hm:m<=40) (hk:k<=m) (h1:k<m->fwB (t k)=true->Z1) (h2:k=m->Z2) (h3:k<m->fwB (t k)=false->Z3):
  Zz G0 20 4 2 0 (fw2 n m fc t k) (rdM 0 2 9 (fw2 n m fc t (k+1)) (ZiA n m fc t) fwR fwR Z1 Z2 Z3 False):=by
 refine @Eq.mpr _ (let d:=decide (0<=(↑k:Int)/\(↑k:Int)<(↑m:Int));let c:=t (Int.toNat (↑k:Int));let b:=fwC m t=fwC m t;let a:=decide (n=n);
 Z6 (decide ((↑k:Int)<(↑m:Int))) (Z0 d (Z6 (decide ((↑c.N:Int)>30)) Z3 (Z0 d (Z6 (decide ((↑c.M:Int)>30)) Z3 (Z5 (wrap i64 ((↑k:Int)+1)=(↑(k+1):Int)) (b/\Z0 a (fc=fc/\Z0 a Z1))))))) (b/\Z0 a (fc=fc/\Z0 a Z2))) (by kernel_rfl) ?_
 conv=>zeta
 try simp only [vcA]
 try simp only [vcB]
 try simp only [vcC]
 refine ⟨fun hc=> ?_,fun hc=>h2 (by omega)⟩
 have hlt:k<m:=by omega
 have hw:i64.wrap ((k:Int)+1)=((k+1:Nat):Int):=by rw [w64 (by omega)];omega
 refine ⟨by omega,fun k1=>h3 hlt ?_,fun k1=>⟨by omega,fun k2=>h3 hlt ?_,fun k2=>⟨hw,h1 hlt ?_⟩⟩⟩
 ·unfold fwB;rw [decide_eq_false (by omega)];rfl
 ·unfold fwB;rw [decide_eq_false (p:=(t k).M<=30) (by omega)];simp
 ·unfold fwB;rw [decide_eq_true (by omega),decide_eq_true (by omega)];rfl
noncomputable def ZcD (n m:Nat) (fc:Nat->List AV) (t:Nat->TxS):Zd:=G0.withL 4 2 (goM 0 (fw2 n m fc t 0) (m<=40) (Y9 2 m 9 (fun k=>fwB (t k)=true) (fun k=>k=m) (fun k=>k<m/\fwB (t k)=false) (fun _=>False) (fun _=>ZiA n m fc t) (fun _=>fwR) (fun _=>fwR)))
theorem ZcE (n m:Nat) (fc:Nat->List AV) (t:Nat->TxS):(ZcD n m fc t).Ok:=
 Zd.withGoM (N:=20) (S:=fun k=>fw2 n m fc t k) Zt (by kernel_rfl) fun hC=>⟨rfl,fun k hk _=>Zjk n m fc t k _ _ _ hC hk (fun h1 h2=>⟨h2,h1⟩) (fun h=>h) fun h1 h2=>⟨h1,h2⟩⟩
def Z11 (n m:Nat) (t:Nat->TxS):Bool:=decide (m<=40)&&(List.range m).all (fun k=>fwB (t k))&&decide (n<=70)
theorem Zjl (n m:Nat) (fc:Nat->List AV) (t:Nat->TxS) (i:Nat) (Z1 Z2 Z3:Prop) (hi:i<=1) (h1:i<1->m<=40->(∀k,k<m->fwB (t k)=true)->Z1) (h2:i=1->Z2) (h3:i<1->¬(m<=40/\∀k,k<m->fwB (t k)=true)->Z3):
  Zz (ZcD n m fc t) 20 4 0 0 (fw0 n m fc t i) (rdM 0 0 9 (fw0 n m fc t (i+1)) (fwE n m fc t) fwR fwR Z1 Z2 Z3 False):=by
 refine @Eq.mpr _ (let b:=fwC m t=fwC m t;let a:=decide (n=n);
 Z6 (decide ((↑i:Int)<1)) (Z5 (0<=(↑i:Int)/\(↑i:Int)<1) (Z6 (decide ((↑m:Int)>40)) Z3 (Z5 ((↑i:Int)=0) (b/\Z0 a (fc=fc/\Z0 a (m<=40/\∀(i_1:Nat),i_1<=m->(∀(j:Nat),j<i_1->(fun (k:Nat)=>fwB (t k)=true) j)->(i_1=m->Z5 (1=(↑(i+1):Int)) (b/\Z0 a (fc=fc/\Z0 a Z1)))/\(i_1<m/\fwB (t i_1)=false->Z3)/\(False->False))))))) (b/\Z0 a (fc=fc/\Z0 a Z2))) (by kernel_rfl) ?_
 conv=>zeta
 try simp only [vcA]
 try simp only [vcB]
 try simp only [vcC]
 refine ⟨fun hc=> ?_,fun hc=>h2 (by omega)⟩
 have hlt:i<1:=by omega
 refine ⟨by omega,fun k1=>h3 hlt fun h=>by omega,fun k1=>⟨by omega,by omega,fun q hq hg=>⟨fun e=> ?_,fun e=>h3 hlt fun h=> ?_,fun h=>h⟩⟩⟩
 ·subst e
  exact ⟨by omega,h1 hlt (by omega) hg⟩
 ·have:=h.2 q e.1
  rw [e.2] at this
  cases this
noncomputable def ZiB (n m:Nat) (fc:Nat->List AV) (t:Nat->TxS):Zd:=(ZcD n m fc t).withL 4 0 (goM 0 (fw0 n m fc t 0) True (Y9 0 1 9 (fun _=>m<=40/\∀k,k<m->fwB (t k)=true) (fun i=>i=1) (fun _=>¬(m<=40/\∀k,k<m->fwB (t k)=true)) (fun _=>False) (fun _=>fwE n m fc t) (fun _=>fwR) (fun _=>fwR)))
theorem ZeO (n m:Nat) (fc:Nat->List AV) (t:Nat->TxS):(ZiB n m fc t).Ok:=
 Zd.withGoM (N:=20) (k:=0) (n:=1) (l:=9) (S:=fun i=>fw0 n m fc t i) (ZcE n m fc t) (by kernel_rfl) fun _=>⟨rfl,fun i hi _=>Zjl n m fc t i _ _ _ hi (fun h1 h2 h3=>⟨⟨h2,h3⟩,h1⟩) (fun h=>h) fun _ h2=>h2⟩
theorem QV {n m:Nat} {t:Nat->TxS}:Z11 n m t=true↔(m<=40/\∀k,k<m->fwB (t k)=true)/\n<=70:=by
 unfold Z11
 simp only [J1,decide_eq_true_eq,JO,Jl]
theorem Zjm (n m:Nat) (fc:Nat->List AV) (t:Nat->TxS) (b:Bool) (hb:b=Z11 n m t):
  evF (ZiB n m fc t) 20 4 [.vrows 165 n fc n,.vrows 5 1 (fwC m t) 1,.int .i64 1] ⟨0,[]⟩ (Xf (fun v=>v=.bool b)):=by
 refine @Eq.mpr _ (let c:=decide (n=n);let a:=m<=40/\∀(k:Nat),k<m->fwB (t k)=true;
 fwC m t=fwC m t/\Z0 c (fc=fc/\Z0 c (True/\∀(i:Nat),i<=1->(∀(j:Nat),j<i->(fun (x:Nat)=>a) j)->(i=1->AV.bool (decide ((↑n:Int)<=70))=AV.bool b)/\(¬a->AV.bool false=AV.bool b)/\(False->False)))) (by kernel_rfl) ?_
 conv=>zeta
 try simp only [vcA]
 try simp only [vcB]
 try simp only [vcC]
 refine fun i hi hg=>⟨fun e=> ?_,fun e=> ?_,fun h=>h⟩
 ·subst e
  have h0:=hg 0 (by omega)
  rw [hb]
  congr 1
  rw [JX,decide_eq_true_eq,QV]
  exact ⟨fun h=>⟨h0,by omega⟩,fun h=>by omega⟩
 ·have:Z11 n m t=false:=by
   cases h:Z11 n m t with
   | false=>rfl
   | true=>exact absurd (QV.1 h).1 e
  rw [hb,this]
def Zjn (f:Nat->List AV) (m:Nat) (t:Nat->TxS):Prop:=f 0=fwC m t 0
def ZiC (m:Nat) (t:Nat->TxS):ZM:=fun args h K=>ZL none h true 60 args fun a=>match a with
 | [x,.vrows 5 l g l',.int .i64 o]=>YK 165 x fun n _=>(l=1/\l'=1/\o=1)/\Zjn g m t/\K (.bool (Z11 n m t))
 | _=>False
theorem ZeP (m:Nat) (t:Nat->TxS) (args:List AV) (h:Z8) (K:AV->Prop) (hl:ZiC m t args h K):Zf PP 4 args h fun o h'=>∃v,o=.ret v/\h'=h/\K v:=by
 refine Zv.psumm (d:=60) (Zi _ _ _ _ _ hl fun a ha=> ?_)
 split at ha
 ·obtain ⟨n,f,ha,hx,hx2⟩:=ZX ha
  obtain ⟨⟨rfl,rfl,rfl⟩,hg,hK⟩:=ha
  exact ⟨_,(Zv.evW (ZeO n m f t) (Zjm n m f t _ rfl)).conv fun E r hr=>hr.head (fun _ hc=>hx2 E _ hc) fun _ hc=>hc.head (fun _ hc=>hc.rowsC fun i hi=>by
   obtain rfl:i=0:=by omega
   exact hg) fun _ hc=>hc,fun _=>rfl,hK⟩
 ·exact ha.elim
theorem Zag (G:Zd) (f:FuncId) (S:ZM):(G.withP f S).P=G.P:=rfl
theorem Zah (G:Zd) (f:FuncId) (S:YA):(G.withF f S).P=G.P:=rfl
def QW (L:List Ze) (n:Nat):Bool:=decide (n<=64)&&(List.range n).all fun i=>UL (L.getD i Zn)&&(List.range i).all fun k=> !Z10 L i k
theorem Ua {n:Nat}:QW L n=true↔n<=64/\∀i,i<n->WK L i:=by
 unfold QW WK
 simp only [J1,decide_eq_true_eq,JO,Jl,Jg]
theorem ZeQ (L:List Ze) (i k:Nat):ZJ (Yl L i) (Yl L k)=Z10 L i k:=by
 rw [ZeN]
 unfold Z10
 rw [JX]
 simp only [J1,beq_iff_eq]
 exact ⟨fun h=>⟨h.1.symm,h.2.symm⟩,fun h=>⟨h.1.symm,h.2.symm⟩⟩
theorem Z6a {i:Nat}:Z0Z L i↔WK L i:=by
 unfold Z0Z WK Z4Y
 simp only [ZeQ]
 refine and_congr_right fun _=> ?_
 rcases W0 (fun k=>Z10 L i k) i with ⟨h1,h2⟩|⟨h1,h2,h3⟩
 ·exact ⟨fun _=>h2,fun _=>h1⟩
 ·refine ⟨fun h=>by omega,fun h=> ?_⟩
  have:=h _ h1
  rw [h2] at this
  cases this
noncomputable def ZgG (A:LI->Int×Int) (L:List Ze) (n:Nat):Zd:=((ZcA A).withF 24 (ZgA L)).withL 6 0 (goM 0 (nwS L n 0 []) (n<1000/\Zw L n) (Y9 0 n 9 (Z0Z L) (fun i=>i=n) (fun i=>i<n/\¬Z0Z L i) (fun _=>False) (fun i=>nwE L n i (plI L i)) (fun _=>nwR) (fun _=>nwR)))
theorem Z8T (L:List Ze) (n:Nat):(ZgG Yd L n).Ok:=
 Zd.withL_join (H:=ZcA Yd) (Zd.withF_ok Z8R (Z8L L)) (by unfold ZcA;simp only [Zag,Zah]) (Zd.withGoM (N:=40) (k:=0) (n:=n) (l:=9) (S:=fun i=>nwS L n i (plI L i)) Z8R (by kernel_rfl) fun hC=>⟨rfl,fun i hi _=>Zjh Yd L n i _ _ _ _ _ rfl hC.1 hi hC.2 rfl rfl (fun h1 h2=>⟨h2,h1⟩) (fun h=>h) fun h1 h2=>⟨h1,h2⟩⟩)
def nwO (L:List Ze) (n:Nat):List (Nat×Blk):=[(3,.flat [.map (some 0),.map (some 1),.nslice ⟨2,0,165,0,0⟩ 165 n n,.arr .u8 32 Z7,.int .i64 0,.nilslice,.int .i64 0]),(2,.rows 165 n (Zo L)),(1,.fmap (plI L n).length (plC L (plI L n)) plW),(0,.fmap n (Yl L) (stV L))]
theorem Zjo (A:LI->Int×Int) (L:List Ze) (n:Nat) (hn:n<1000) (hO:Zw L n) (hb:QW L n=true):
  evF (ZgG A L n) 40 6 [.vrows 165 n (Zo L) n] ⟨0,[]⟩ (YU 0 (.ret (.tuple [.ptr (some ⟨3,0,0,0,0⟩),.int .i64 0])) 4 (nwO L n)):=by
 refine @Eq.mpr _ (let c:=Zo L;let a:=decide (n=n);let h:=c=c;let g:=decide (n<=n);let b:=[(2,2),(1,1),(0,0),(3,3)];let f:=ZD 0 b n c c;let d:=Yl L;let e:=List.length (plI L n);
 Z5 ((165:Nat)=165/\n=n) (Qi c L n/\n<1000000/\Z5 ((↑n:Int)=(↑n:Int)) (Z0 a (h/\Z0 a (Z0 a (h/\Z0 a (Z0 a (Z0 g (Z7=Z7/\Z0 a (f/\(ZC 0 b 0 (plC L []) plW (fun (i:Nat)=>AV.top) fun (i:Nat)=>AV.top)/\(ZC 0 b 0 d (stV L) (fun (i:Nat)=>AV.top) fun (i:Nat)=>AV.top)/\(n<1000/\Zw L n)/\∀(i:Nat),i<=n->(∀(j:Nat),j<i->Z0Z L j)->(i=n->Z6 (decide ((↑n:Int)>64)) False (Z0 a (Z0 g (Z7=Z7/\Z0 a (f/\Z5 (List.length (plI L i)=e) (ZC 0 b e (plC L (plI L n)) plW (plC L (plI L i)) plW/\Z5 (i=n) (ZC 0 b n d (stV L) d (stV L)/\True)))))))/\(i<n/\¬Z0Z L i->False)/\(False->False))))))))))) (by kernel_rfl) ?_
 conv=>zeta
 try simp only [vcA]
 try simp only [vcB]
 try simp only [vcC]
 obtain ⟨h64,hgo⟩:=Ua.1 hb
 have hcR:∀k τ,ZD k τ n (Zo L) (Zo L):=fun k τ=>Wr fun _ _=>rfl
 have hm1:∀k τ f g,ZC k τ 0 (plC L []) plW f g:=fun k τ f g=>⟨fun j hj=>absurd hj (JM j)⟩
 have hm2:∀k τ f g,ZC k τ 0 (Yl L) (stV L) f g:=fun k τ f g=>⟨fun j hj=>absurd hj (JM j)⟩
 refine ⟨⟨fun _ _=>rfl⟩,by omega,hcR _ _,hm1 _ _ _ _,hm2 _ _ _ _,⟨hn,hO⟩,fun i hi hg=>⟨fun e=> ?_,fun e=>e.2 (Z6a.2 (hgo i e.1)),fun h=>h⟩⟩
 subst e
 exact ⟨by omega,hcR _ _,rfl,QT fun _ _=>⟨rfl,rfl⟩,rfl,Z2G fun _ _=>⟨rfl,rfl⟩⟩
theorem Zjp (A:LI->Int×Int) (L:List Ze) (n:Nat) (hn:n<1000) (hO:Zw L n) (hb:QW L n=false):
  evF (ZgG A L n) 40 6 [.vrows 165 n (Zo L) n] ⟨0,[]⟩ (YU 0 (.ret (.tuple [.ptr none,.int .i64 2])) 0 []):=by
 refine @Eq.mpr _ (let b:=Zo L;let a:=decide (n=n);let d:=b=b;let c:=[(2,2),(1,1),(0,0),(3,3)];
 Z5 ((165:Nat)=165/\n=n) (Qi b L n/\n<1000000/\Z5 ((↑n:Int)=(↑n:Int)) (Z0 a (d/\Z0 a (Z0 a (d/\Z0 a (Z0 a (Z5 (n<=n) (Z7=Z7/\Z0 a (ZD 0 c n b b/\(ZC 0 c 0 (plC L []) plW (fun (i:Nat)=>AV.top) fun (i:Nat)=>AV.top)/\(ZC 0 c 0 (Yl L) (stV L) (fun (i:Nat)=>AV.top) fun (i:Nat)=>AV.top)/\(n<1000/\Zw L n)/\∀(i:Nat),i<=n->(∀(j:Nat),j<i->Z0Z L j)->(i=n->Z5 ((↑n:Int)>64) True)/\(i<n/\¬Z0Z L i->True)/\(False->False))))))))))) (by kernel_rfl) ?_
 conv=>zeta
 try simp only [vcA]
 try simp only [vcB]
 try simp only [vcC]
 have hno:¬(n<=64/\∀i,i<n->WK L i):=fun h=>by
  have:=Ua.2 h
  rw [hb] at this
  cases this
 have hcR:∀k τ,ZD k τ n (Zo L) (Zo L):=fun k τ=>Wr fun _ _=>rfl
 have hm1:∀k τ f g,ZC k τ 0 (plC L []) plW f g:=fun k τ f g=>⟨fun j hj=>absurd hj (JM j)⟩
 have hm2:∀k τ f g,ZC k τ 0 (Yl L) (stV L) f g:=fun k τ f g=>⟨fun j hj=>absurd hj (JM j)⟩
 refine ⟨⟨fun _ _=>rfl⟩,by omega,hcR _ _,hm1 _ _ _ _,hm2 _ _ _ _,⟨hn,hO⟩,fun i hi hg=>⟨fun e=> ?_,fun _=>trivial,fun h=>h⟩⟩
 subst e
 have:¬i<=64:=fun h=>hno ⟨h,fun j hj=>Z6a.1 (hg j hj)⟩
 omega
noncomputable def ZcF (L:List Ze) (n:Nat):Zd:=(ZcB L n).withL 7 0 (goM 0 (rn0 L n 0) (n<1000/\Zw L n) (Y9 0 n 9 (WK L) (fun i=>i=n) (fun i=>i<n/\¬WK L i) (fun _=>False) (fun _=>Ziy L n) (fun _=>rnR) (fun _=>rnR)))
theorem Z6b (L:List Ze) (n:Nat):(ZcF L n).Ok:=
 Zd.withGoM (N:=20) (k:=0) (n:=n) (l:=9) (S:=fun i=>rn0 L n i) (ZcC L n) (by kernel_rfl) fun hC=>⟨rfl,fun i hi _=>Zjj L n i _ _ _ hC.1 hi hC.2 (fun h1 h2=>⟨h2,h1⟩) (fun h=>h) fun h1 h2=>⟨h1,h2⟩⟩
theorem Zjq (L:List Ze) (n:Nat) (hn:n<1000) (hO:Zw L n) (hb:QW L n=true):
  evF (ZcF L n) 40 7 [.vrows 165 n (Zo L) n] ⟨0,[]⟩ (Xf fun v=>v=.tuple [.agg [.vrows 165 n (Zo L) n,.nilslice,.int .i64 0],.int .i64 0]):=by
 refine @Eq.mpr _ (let f:=[AV.int i64 0];let e:=AV.nilslice::f;let b:=Zo L;let a:=AV.tuple (AV.agg (AV.vrows 165 n b n::e)::f);let d:=AV.tuple [AV.agg (AV.nilslice::e),AV.int i64 2]=a;let c:=decide (n=n);
 Z6 (decide ((↑n:Int)>64)) d (Z0 c (b=b/\Z0 c ((n<1000/\Zw L n)/\∀(i:Nat),i<=n->(∀(j:Nat),j<i->WK L j)->(i=n->a=a)/\(i<n/\¬WK L i->d)/\(False->False))))) (by kernel_rfl) ?_
 conv=>zeta
 try simp only [vcA]
 try simp only [vcB]
 try simp only [vcC]
 obtain ⟨h64,hgo⟩:=Ua.1 hb
 exact ⟨fun k=>absurd k (by omega),fun _=>⟨⟨hn,hO⟩,fun i hi hg=>⟨fun _=>trivial,fun e=>absurd (hgo i e.1) e.2,fun h=>h⟩⟩⟩
theorem Zjr (L:List Ze) (n:Nat) (hn:n<1000) (hO:Zw L n) (hb:QW L n=false):
  evF (ZcF L n) 40 7 [.vrows 165 n (Zo L) n] ⟨0,[]⟩ (Xf fun v=>v=.tuple [.agg [.nilslice,.nilslice,.int .i64 0],.int .i64 2]):=by
 refine @Eq.mpr _ (let f:=[AV.int i64 0];let e:=AV.nilslice::f;let b:=AV.tuple [AV.agg (AV.nilslice::e),AV.int i64 2];let d:=b=b;let c:=decide (n=n);let a:=Zo L;
 Z6 (decide ((↑n:Int)>64)) d (Z0 c (a=a/\Z0 c ((n<1000/\Zw L n)/\∀(i:Nat),i<=n->(∀(j:Nat),j<i->WK L j)->(i=n->AV.tuple (AV.agg (AV.vrows 165 n a n::e)::f)=b)/\(i<n/\¬WK L i->d)/\(False->False))))) (by kernel_rfl) ?_
 conv=>zeta
 try simp only [vcA]
 try simp only [vcB]
 try simp only [vcC]
 have hno:¬(n<=64/\∀i,i<n->WK L i):=fun h=>by
  have:=Ua.2 h
  rw [hb] at this
  cases this
 refine ⟨fun _=>trivial,fun k1=>⟨⟨hn,hO⟩,fun i hi hg=>⟨fun e=>absurd ⟨by omega,fun j hj=>hg j (by omega)⟩ hno,fun _=>trivial,fun h=>h⟩⟩⟩
def ZiD (L:List Ze) (c:Bool):YA:=fun args h K=>frA [] h 60 args fun Bs a=>match Bs,a with
 | [],[x]=>YK 165 x fun n f=>Qi f L n/\(n<1000/\Zw L n)/\QW L n=c/\(match c with
  | true=>K (.ret (.tuple [.ptr (some ⟨h.next+3,0,0,0,0⟩),.int .i64 0])) ⟨h.next+4,(h.next+3,.flat [.map (some h.next),.map (some (h.next+1)),.nslice ⟨h.next+2,0,165,0,0⟩ 165 n n,.arr .u8 32 Z7,.int .i64 0,.nilslice,.int .i64 0])::(h.next+2,.rows 165 n (Zo L))::(h.next+1,.fmap (plI L n).length (plC L (plI L n)) plW)::(h.next,.fmap n (Yl L) (stV L))::h.bs⟩
  | false=>K (.ret (.tuple [.ptr none,.int .i64 2])) ⟨h.next,h.bs⟩)
 | _,_=>False
theorem Z2K (L:List Ze) (i:Nat):plainW (Yl L i)=true:=rfl
theorem Z3V (L:List Ze) (i:Nat):plainW (stV L i)=true:=rfl
theorem Z3W (L:List Ze) (js:List Nat) (i:Nat):plainW (plC L js i)=true:=rfl
theorem ZeR (L:List Ze) (c:Bool) (args:List AV) (h:Z8) (K:KO) (hl:ZiD L c args h K):Zf PP 6 args h K:=by
 refine Spec.fsumm hl fun Bs a hlen hK0=> ?_
 split at hK0
 ·obtain ⟨n,f,ha,hx,hx2⟩:=ZX hK0
  obtain ⟨⟨hf⟩,⟨hn,hO⟩,hc,hK⟩:=ha
  have hcv:∀{o nx bs},Spec PP 6 [.vrows 165 n (Zo L) n] ⟨0,[]⟩ o nx bs->Spec PP 6 _ ⟨0,[]⟩ o nx bs:=fun hs E w rs he hr=>hs E w rs he (hr.head (fun _ hc=>(hx2 E _ hc).rowsC hf) fun _ hc=>hc)
  cases c with
  | true=>exact ⟨_,_,_,_,_,hcv (.evM (Z8T L n) (Zjo Yd L n hn hO hc)),by simp,.ret _ _ rfl,.cons _ _ _ _ _ _ rfl (.flat _ _ rfl) (.cons _ _ _ _ _ _ rfl (.rows _ _ _ (fun i _=>WJ L i)) (.cons _ _ _ _ _ _ rfl (.fmap _ _ _ (fun i _=>⟨Z3W L _ i,rfl⟩)) (.cons _ _ _ _ _ _ rfl (.fmap _ _ _ (fun i _=>⟨Z2K L i,Z3V L i⟩)) .nil))),hK⟩
  | false=>exact ⟨_,_,_,_,_,hcv (.evM (Z8T L n) (Zjp Yd L n hn hO hc)),by simp,.ret _ _ rfl,.nil,hK⟩
 ·exact hK0.elim
theorem ZcG (hG:G.Ok) {n:Nat} {f:FuncId} (h:evF G n f args ⟨0,[]⟩ (Xf fun u=>u=v)) (hp:XB args=true) (hh:Z8) {K:AV->Prop} (hK:K v):Zf G.P f args hh fun o h'=>∃u,o=.ret u/\h'=hh/\K u:=by
 intro E w rs he hl
 have hl0:Zs ⟨fun _=>none,E.imm⟩ args rs:=Zs.vplain (E:=E) (E':=⟨fun _=>none,E.imm⟩) (fun _ _ h=>h) args rs hp hl
 have he0:Emb ⟨fun _=>none,E.imm⟩ ⟨0,[]⟩ w:=⟨fun _ _=>rfl,fun x B hx=>by simp [Z8.get,ZF] at hx,fun x B hx=>by simp [Z8.get,ZF] at hx,fun x y B B' b N N' hx=>by simp [Z8.get,ZF] at hx,he.imm,fun a c x B N _ hx=>by simp [Z8.get,ZF] at hx⟩
 refine (UY hG h _ w rs he0 hl0).mono ?_
 rintro e w' ⟨E₁,o,h',hK0,hev,hor⟩
 have hkeep:∀b,b<w.heap.size->w'.heap[b]? =w.heap[b]?:=fun b hb=>hev.keep b hb (fun ⟨x,B,N,hx,_⟩=>by simp [Z8.get,ZF] at hx)
 cases hor with
 | panic u r hr=>exact hK0.elim
 | ret u r hr=>
  unfold Xf at hK0
  simp only at hK0
  split at hK0
  ·rename_i hu
   subst hK0
   exact ⟨E,.ret u,hh,⟨u,rfl,rfl,hK⟩,⟨.refl E,⟨he.fresh,he.lt,fun x B hx=>(he.own x B hx).congr fun b N hb=>hkeep b ((he.own x B hx).lt hb),he.disj,fun a c hi=>hev.emb.imm a c (hev.le.imm a c hi),he.sep⟩,hev.size,hev.os,hev.tape,hev.output,fun b hb _=>hkeep b hb,fun _ h=>.inl h,fun _ _ h=>h⟩,.ret _ _ (Za.vplain (E:=E₁) (E':=E) (fun a c hi=>hev.imm a c hi) _ _ hu hr)⟩
  ·exact hK0.elim
def ZcH (L:List Ze) (c:Bool):ZM:=fun args _ K=>match args with
 | [x]=>YK 165 x fun n f=>Qi f L n/\(n<1000/\Zw L n)/\QW L n=c/\(match c with
  | true=>K (.tuple [.agg [.vrows 165 n (Zo L) n,.nilslice,.int .i64 0],.int .i64 0])
  | false=>K (.tuple [.agg [.nilslice,.nilslice,.int .i64 0],.int .i64 2]))
 | _=>False
theorem ZcI (L:List Ze) (c:Bool) (args:List AV) (h:Z8) (K:AV->Prop) (hl:ZcH L c args h K):Zf PP 7 args h fun o h'=>∃v,o=.ret v/\h'=h/\K v:=by
 unfold ZcH at hl
 split at hl
 ·obtain ⟨n,f,ha,hx,hx2⟩:=ZX hl
  obtain ⟨⟨hf⟩,⟨hn,hO⟩,hc,hK⟩:=ha
  have hcv:∀E rs,Zs E [_] rs->Zs E [.vrows 165 n (Zo L) n] rs:=fun E r hr=>hr.head (fun _ hc=>(hx2 E _ hc).rowsC hf) fun _ hc=>hc
  cases c with
  | true=>exact (ZcG (Z6b L n) (Zjq L n hn hO hc) rfl h hK).conv hcv
  | false=>exact (ZcG (Z6b L n) (Zjr L n hn hO hc) rfl h hK).conv hcv
 ·exact hl.elim
structure YV where
 before:LI
 salt:Int
 m:Nat
 t:Nat->TxS
def YV.c (x:YV):List AV:=[.arr .u8 32 x.before,.int .i64 x.salt,.vrows 3 x.m (txR x.t) x.m]
structure ZcJ (m:Nat) (t:Nat->TxS):Prop where
 ok:∀i,i<m->(t i).Ok
 all:∀i,i<m->Z2t (t i)
structure YV.Ok (x:YV):Prop where
 l:x.before.length=32
 b:Bytes x.before
 t:ZcJ x.m x.t
def nmB (W:Int->LI) (Nm:TxS->LI) (x:YV) (i:Nat):LI:=x.before++W x.salt++W x.m++W6 (fun k=>Nm (x.t k)) i
theorem Z6c (W:Int->LI) (Nm:TxS->LI) (x:YV) (i:Nat):nmB W Nm x (i+1)=nmB W Nm x i++Nm (x.t i):=by
 unfold nmB
 simp only [W6,Jv]
def bnS (t:Nat->TxS) (m:Nat) (xs:LI) (n i:Nat):St:=⟨52,[(30,.int .i64 i),(29,.int .i64 m),(28,.vrows 3 m (txR t) m),(2,pt 0),(4,pt 1)],⟨3,[(2,.ints .u8 xs),(1,.flat [.nslice ⟨2,0,0,0,0⟩ 1 n n,.bool true]),(0,.flat [.arr .u8 32 Z7])]⟩,[]⟩
def bnE (xs:LI) (n:Nat):St:=⟨52,[(2,pt 0),(4,pt 1)],⟨3,[(2,.ints .u8 xs),(1,.flat [.nslice ⟨2,0,0,0,0⟩ 1 n n,.bool true]),(0,.flat [.arr .u8 32 Z7])]⟩,[]⟩
def bnR:St:=⟨52,[(2,pt 0),(3,.int .i64 2)],⟨1,[(0,.flat [.arr .u8 32 Z7])]⟩,[]⟩
noncomputable def ZeS (A:LI->Int×Int) (Nm:TxS->LI):Zd:=(G0.withP 34 (Zff A Nm)).withF 32 Z4N
theorem ZeT:(ZeS Yd X7).Ok:=Zd.withF_ok (Zd.withP_ok Zt ZbX) Z3D
theorem Zjs (A:LI->Int×Int) (Nm:TxS->LI) (t:Nat->TxS) (m:Nat) (xs ys:LI) (n n' i:Nat) (Z1 Z2 Z3:Prop) (hi:i<=m) (hm:m<=32) (ht:ZcJ m t) (hn:xs.length=n) (hn':ys.length=n') (hb:n<10000) (hN:∀t,(Nm t).length=32) (hy:ys=xs++Nm (t i)) (h1:i<m->Yh A (t i)=true->Z1) (h2:i=m->Z2) (h3:i<m->Yh A (t i)=false->Z3):
  Zz (ZeS A Nm) 40 8 0 0 (bnS t m xs n i) (rdM 0 0 9 (bnS t m ys n' (i+1)) (bnE xs n) bnR bnR Z1 Z2 Z3 False):=by
 refine @Eq.mpr _ (let a:=t (Int.toNat (↑i:Int));let d:=a.N;let b:=a.M;let f:=decide (m=m);
 Z6 (decide ((↑i:Int)<(↑m:Int))) (Z5 (0<=(↑i:Int)/\(↑i:Int)<(↑m:Int)) (∃(t_1:TxS),
 let e:=xs++Nm t_1;let g:=e.length;
 (t_1.num=a.num/\((d=d/\t_1.N=d)/\∀(i:Nat),i<d->Zg a.ins i=InS.c (t_1.ins i))/\(b=b/\t_1.M=b)/\∀(i:Nat),i<b->ZA a.outs i=ZR.c (t_1.outs i))/\TxS.Ok t_1/\Z6 (Yh A t_1) (Z5 (xs.length=n/\n<80000000000000/\List.length (Nm t_1)=32) (Z5 (wrap i64 ((↑i:Int)+1)=(↑(i+1):Int)) (Z5 ((↑m:Int)=(↑m:Int)) (Z0 f (txR t=txR t/\Z0 f (e=ys/\Z5 (g=n') (Z5 (n'<=g) (Z7=Z7/\Z1)))))))) (Z7=Z7/\Z3))) (xs=xs/\Z5 (n=n) (Z5 (n<=n) (Z7=Z7/\Z2)))) (by kernel_rfl) ?_
 conv=>zeta
 try simp only [vcA]
 try simp only [vcB]
 try simp only [vcC]
 refine ⟨fun hc=> ?_,fun hc=>h2 (by omega)⟩
 have hlt:i<m:=by omega
 have hw:i64.wrap ((i:Int)+1)=((i+1:Nat):Int):=by rw [w64 (by omega)];omega
 subst hy
 refine ⟨by omega,t i,⟨rfl,⟨rfl,fun _ _=>rfl⟩,rfl,fun _ _=>rfl⟩,ht.ok i hlt,fun hck=>⟨⟨hn,by omega,hN _⟩,hw,rfl,hn',Nat.le_of_eq hn'.symm,h1 hlt hck⟩,fun hck=>h3 hlt hck⟩
def bdS (b:LI) (s:Int) (t:Nat->TxS) (m:Nat) (xs:LI) (n i:Nat):St:=⟨51,[(5,.int .i64 i),(1,pt 0),(2,pt 1),(4,.nslice ⟨2,0,0,0,0⟩ 1 n n)],⟨3,[(2,.ints .u8 xs),(1,.flat [.arr .u8 32 Z7]),(0,.flat [.arr .u8 32 b,.int .i64 s,.vrows 3 m (txR t) m])]⟩,[]⟩
def bdE (xs:LI) (n:Nat):St:=⟨51,[(2,pt 0),(4,.nslice ⟨1,0,0,0,0⟩ 1 n n)],⟨2,[(1,.ints .u8 xs),(0,.flat [.arr .u8 32 Z7])]⟩,[]⟩
def bdR:St:=⟨51,[(2,pt 0),(3,.int .i64 2)],⟨1,[(0,.flat [.arr .u8 32 Z7])]⟩,[]⟩
noncomputable def Z8U (A:LI->Int×Int) (Nm:TxS->LI):Zd:=(G0.withP 39 (Zc2 A)).withP 40 (Z7J Nm)
theorem ZcK:(Z8U Yd XO).Ok:=Zd.withP_ok (Zd.withP_ok Zt Z9S) Zcl
theorem Zjt (A:LI->Int×Int) (Nm:TxS->LI) (b:LI) (s:Int) (t:Nat->TxS) (m:Nat) (xs ys:LI) (n n' i:Nat) (Z1 Z2 Z3:Prop) (hA:A=Yd) (hi:i<=m) (hm:m<=32) (ht:ZcJ m t) (hn:xs.length=n) (hn':ys.length=n') (hb:n<10000) (hN:∀t,(Nm t).length=32) (hy:ys=xs++Nm (t i)) (h1:i<m->Yh A (t i)=true->Z1) (h2:i=m->Z2) (h3:i<m->Yh A (t i)=false->Z3):
  Zz (Z8U A Nm) 40 9 0 0 (bdS b s t m xs n i) (rdM 0 0 9 (bdS b s t m ys n' (i+1)) (bdE xs n) bdR bdR Z1 Z2 Z3 False):=by
 refine @Eq.mpr _ (let j:=decide (0<=(↑i:Int)/\(↑i:Int)<(↑m:Int));let e:=t (Int.toNat (↑i:Int));let d:=e.N;let a:=e.M;let g:=decide (m=m);
 Z6 (decide ((↑i:Int)<(↑m:Int))) (Z0 j (∃(t_1:TxS),
 (t_1.num=e.num/\((d=d/\t_1.N=d)/\∀(i:Nat),i<d->Zg e.ins i=InS.c (t_1.ins i))/\(a=a/\t_1.M=a)/\∀(i:Nat),i<a->ZA e.outs i=ZR.c (t_1.outs i))/\
 TxS.Ok t_1/\
 TxB t_1/\
 Z6 (!Yh A t_1) (Z7=Z7/\Z3) (Z0 j (∃(t_2:TxS),
 let h:=xs++Nm t_2;let f:=h.length;
 (t_2.num=e.num/\((d=d/\t_2.N=d)/\∀(i:Nat),i<d->Zg e.ins i=InS.c (t_2.ins i))/\(a=a/\t_2.M=a)/\∀(i:Nat),i<a->ZA e.outs i=ZR.c (t_2.outs i))/\TxS.Fine t_2/\Z5 (u8=u8/\List.length (Nm t_2)=32) (Z5 (u8=u8/\xs.length=n) (Z5 (f*1<=140737488355328) (Z5 (wrap i64 ((↑i:Int)+1)=(↑(i+1):Int)) (Z5 (f=n') (Z5 (n'<=f) (h=ys/\Z7=Z7/\b=b/\Z5 (s=s) (Z0 g (txR t=txR t/\Z0 g Z1)))))))))))) (Z5 (n=n) (Z5 (n<=n) (xs=xs/\Z7=Z7/\Z2)))) (by kernel_rfl) ?_
 conv=>zeta
 try simp only [vcA]
 try simp only [vcB]
 try simp only [vcC]
 refine ⟨fun hc=> ?_,fun hc=>h2 (by omega)⟩
 have hlt:i<m:=by omega
 have hw:i64.wrap ((i:Int)+1)=((i+1:Nat):Int):=by rw [w64 (by omega)];omega
 subst hy
 have hl:(xs++Nm (t i)).length=n+32:=by rw [J5,hn,hN]
 refine ⟨by omega,t i,⟨rfl,⟨rfl,fun _ _=>rfl⟩,rfl,fun _ _=>rfl⟩,ht.ok i hlt,(ht.all i hlt).b,fun hck=>h3 hlt (by simpa using hck),fun hck=>⟨by omega,t i,⟨rfl,⟨rfl,fun _ _=>rfl⟩,rfl,fun _ _=>rfl⟩,Us (ht.ok i hlt) (by subst hA;simpa using hck),hN _,hn,by omega,hw,hn',Nat.le_of_eq hn'.symm,rfl,h1 hlt (by simpa using hck)⟩⟩
theorem Z2L {f:Nat->LI} (h:∀i,(f i).length=32):∀n,(W6 f n).length=n*32
 | 0=>rfl
 | n+1=>by rw [W6,J5,Z2L h n,h];omega
theorem QX (Nm:TxS->LI) (x:YV) (hl:x.before.length=32) (hN:∀t,(Nm t).length=32) (i:Nat):(nmB Zk Nm x i).length=32+(Zk x.salt).length+(Zk x.m).length+i*32:=by
 unfold nmB
 rw [J5,J5,J5,hl,Z2L fun k=>hN _]
def Vu (A:LI->Int×Int) (x:YV):Bool:=decide (0<=x.salt/\x.salt<=2147483647)&&decide (x.m<=32)&&(List.range x.m).all fun k=>Yh A (x.t k)
theorem Ub {x:YV}:Vu A x=true↔(0<=x.salt/\x.salt<=2147483647)/\x.m<=32/\∀k,k<x.m->Yh A (x.t k)=true:=by
 unfold Vu
 simp only [J1,decide_eq_true_eq,JO,Jl,and_assoc]
theorem WL {x:YV} (h:¬((0<=x.salt/\x.salt<=2147483647)/\x.m<=32/\∀k,k<x.m->Yh A (x.t k)=true)):Vu A x=false:=by
 cases hb:Vu A x with
 | false=>rfl
 | true=>exact absurd (Ub.1 hb) h
theorem Z3X (G:Zd) (f:FuncId) (S:ZM):(G.withP f S).P=G.P:=rfl
theorem Z3Y (G:Zd) (f:FuncId) (S:YA):(G.withF f S).P=G.P:=rfl
noncomputable def Zfk (A:LI->Int×Int) (Nm:TxS->LI) (W:Int->LI) (T:Int) (H:LI->LI) (B:Nat) (x:YV):Zd:=(Zcp W T H B).withL 8 0 (goM 0 (bnS x.t x.m (nmB W Nm x 0) (nmB W Nm x 0).length 0) (x.Ok/\x.m<=32) (Y9 0 x.m 9 (fun k=>Yh A (x.t k)=true) (fun k=>k=x.m) (fun k=>k<x.m/\Yh A (x.t k)=false) (fun _=>False) (fun k=>bnE (nmB W Nm x k) (nmB W Nm x k).length) (fun _=>bnR) (fun _=>bnR)))
theorem ZcL (x:YV):(Zfk Yd X7 Zk 4611686018427387904 Xn 2000 x).Ok:=by
 have h0:(Zcp Zk 4611686018427387904 Xn 2000).Ok:=Zd.withP_ok (Zd.withF_ok (Zd.withF_ok Zt Z2p) Qf) (Z2f 2000 (by decide) (by decide))
 refine Zd.withL_join (H:=ZeS Yd X7) h0 (by unfold Zcp ZeS;simp only [Z3X,Z3Y]) (Zd.withGoM (N:=40) (k:=0) (n:=x.m) (l:=9) (S:=fun i=>bnS x.t x.m (nmB Zk X7 x i) (nmB Zk X7 x i).length i) ZeT (by kernel_rfl) fun hC=>⟨rfl,fun i hi _=> ?_⟩)
 have l1:=Zp x.salt
 have l2:=Zp x.m
 have hl:=QX X7 x hC.1.l Ut i
 exact Zjs Yd X7 x.t x.m _ _ _ _ i _ _ _ hi hC.2 hC.1.t rfl rfl (by omega) Ut (Z6c _ _ _ _) (fun h1 h2=>⟨h2,h1⟩) (fun h=>h) fun h1 h2=>⟨h1,h2⟩
theorem Zju (A:LI->Int×Int) (Nm:TxS->LI) (W:Int->LI) (T:Int) (H:LI->LI) (B:Nat) (x:YV) (z:LI) (e:Int) (hW:W=Zk) (hT:T=4611686018427387904) (hB:B=2000) (hx:x.Ok) (hN:∀t,(Nm t).length=32) (he:e=if Vu A x=true then 0 else 2) (hz:z=if Vu A x=true then H (nmB W Nm x x.m) else Z7):
  evF (Zfk A Nm W T H B x) 20 8 [.agg x.c] ⟨0,[]⟩ (Xf (fun v=>v=.tuple [.agg [.arr .u8 32 z],.int .i64 e])):=by
 refine @Eq.mpr _ (let d:=x.salt;let b:=x.m;let c:=↑b;let o:=AV.tuple [AV.agg [AV.arr u8 32 z],AV.int i64 e];let g:=AV.tuple [AV.agg [AV.arr u8 32 Z7],AV.int i64 2]=o;let n:=[]++x.before;let f:=n.length;let l:=decide (b=b);let h:=txR x.t;let D:=n++W d++W c;let C:=nmB W Nm x 0;let y:=D.length;let w:=C.length;
 Z6 (decide (0<=d)) (Z6 (decide (d<=2147483647)) (Z6 (!decide (c<=32)) g (Z5 (u8=u8/\x.before.length=32) (Z5 (f*1<=140737488355328) (Z5 (f=f/\f<80000000000000/\(0<=d/\d<=T)/\0<=c/\c<=T) (Z5 (c=c) (Z0 l (h=h/\
 Z0 l (D=C/\
 Z5 (y=w) (Z5 (w<=y) (Z7=Z7/\
 (YV.Ok x/\b<=32)/\
 ∀(i:Nat),
 let v:=nmB W Nm x i;let a:=v.length;let u:=0+a;let s:=List.take a (ZP 0 v);let r:=s.length;let q:=List.take a (ZP 0 s);let p:=q.length;
 i<=b->(∀(j:Nat),j<i->(fun (k:Nat)=>Yh A (x.t k)=true) j)->(i=b->Z5 (u<=a) (Z5 (r=a/\a<90000000000000) (Z5 (u<=r) (Z5 (a=p) (Z5 (p<=B) (AV.tuple [AV.agg [AV.arr u8 32 (H q)],AV.int i64 0]=o))))))/\(i<b/\Yh A (x.t i)=false->g)/\(False->False))))))))))) g) g) (by kernel_rfl) ?_
 conv=>zeta
 try simp only [vcA]
 try simp only [vcB]
 try simp only [vcC]
 subst hW hT hB
 have no:Vu A x=false->AV.tuple [.agg [.arr .u8 32 Z7],.int .i64 2]=.tuple [.agg [.arr .u8 32 z],.int .i64 e]:=fun h=>by rw [he,hz,h];rfl
 have l1:=Zp x.salt
 have l2:=Zp x.m
 have hlen:=QX Nm x hx.l hN
 have h0:=hlen 0
 simp only [Y0,JU,Js,JE]
 have e0:x.before++Zk x.salt++Zk x.m=nmB Zk Nm x 0:=by unfold nmB W6;rw [Jw]
 rw [e0]
 have yes:Vu A x=true->AV.tuple [.agg [.arr .u8 32 (H (nmB Zk Nm x x.m))],.int .i64 0]=.tuple [.agg [.arr .u8 32 z],.int .i64 e]:=fun h=>by rw [he,hz,h];rfl
 refine ⟨fun k1=>⟨fun k2=>⟨fun k3=>no (WL fun h=> ?_),fun k3=> ?_⟩,fun k2=>no (WL fun h=> ?_)⟩,fun k1=>no (WL fun h=> ?_)⟩
 ·simp only [Jg,decide_eq_false_iff_not] at k3
  omega
 ·simp only [Bool.not_eq_false',decide_eq_true_eq] at k3
  refine ⟨hx.l,by rw [hx.l];omega,⟨by rw [hx.l];omega,by omega,by omega⟩,rfl,rfl,J2 _,⟨hx,by omega⟩,fun i hi hg=>⟨fun h=> ?_,fun h=>no (WL fun hh=> ?_),fun h=>h⟩⟩
  ·subst h
   have:=hlen x.m
   exact ⟨⟨trivial,by omega⟩,J2 _,trivial,by omega,yes (Ub.2 ⟨⟨k1,k2⟩,by omega,hg⟩)⟩
  ·have:=hh.2.2 i h.1
   rw [h.2] at this
   cases this
 ·omega
 ·omega
noncomputable def Zfl (A:LI->Int×Int) (Nm:TxS->LI) (W:Int->LI) (H:LI->LI) (B:Nat) (x:YV):Zd:=(Z8K W H B).withL 9 0 (goM 0 (bdS x.before x.salt x.t x.m (nmB W Nm x 0) (nmB W Nm x 0).length 0) (x.Ok/\x.m<=32) (Y9 0 x.m 9 (fun k=>Yh A (x.t k)=true) (fun k=>k=x.m) (fun k=>k<x.m/\Yh A (x.t k)=false) (fun _=>False) (fun k=>bdE (nmB W Nm x k) (nmB W Nm x k).length) (fun _=>bdR) (fun _=>bdR)))
theorem ZcM (x:YV):(Zfl Yd XO Zk (X4 U7) 100000 x).Ok:=by
 refine Zd.withL_join (H:=Z8U Yd XO) Z69 (by unfold Z8K Z8U;simp only [Z3X,Z3Y]) (Zd.withGoM (N:=40) (k:=0) (n:=x.m) (l:=9) (S:=fun i=>bdS x.before x.salt x.t x.m (nmB Zk XO x i) (nmB Zk XO x i).length i) ZcK (by kernel_rfl) fun hC=>⟨rfl,fun i hi _=> ?_⟩)
 have l1:=Zp x.salt
 have l2:=Zp x.m
 have hl:=QX XO x hC.1.l Z0q i
 exact Zjt Yd XO x.before x.salt x.t x.m _ _ _ _ i _ _ _ rfl hi hC.2 hC.1.t rfl rfl (by omega) Z0q (Z6c _ _ _ _) (fun h1 h2=>⟨h2,h1⟩) (fun h=>h) fun h1 h2=>⟨h1,h2⟩
theorem Zjv (A:LI->Int×Int) (Nm:TxS->LI) (W:Int->LI) (H:LI->LI) (B:Nat) (x:YV) (z:LI) (e:Int) (hW:W=Zk) (hB:B=100000) (hx:x.Ok) (hN:∀t,(Nm t).length=32) (he:e=if Vu A x=true then 0 else 2) (hz:z=if Vu A x=true then H (nmB W Nm x x.m) else Z7):
  evF (Zfl A Nm W H B x) 20 9 [.agg x.c] ⟨0,[]⟩ (Xf (fun v=>v=.tuple [.agg [.arr .u8 32 z],.int .i64 e])):=by
 refine @Eq.mpr _ (let b:=x.salt;let a:=x.m;let h:=↑a;let C:=AV.tuple [AV.agg [AV.arr u8 32 z],AV.int i64 e];let f:=AV.tuple [AV.agg [AV.arr u8 32 Z7],AV.int i64 2]=C;let d:=x.before;let u:=[]++d;let l:=u.length;let s:=decide (h=h);let c:=decide (a=a);let J:=txR x.t;let r:=J=J;let q:=List.length (W b);let I:=u++List.take q (ZP 0 (W b));let p:=I.length;let G:=W h;let o:=G.length;let F:=I++List.take o (ZP 0 G);let n:=F.length;let E:=nmB W Nm x 0;let D:=E.length;
 Z6 (decide (b>=0)) (Z6 (decide (b<=2147483647)) (Z6 (!decide (h<=32)) f (Z5 (u8=u8/\d.length=32) (Z5 (l*1<=140737488355328) (Z5 (0<=b) (Z0 s (Z0 c (r/\
 Z0 c (Z5 (u8=u8/\0+q<=q) (Z5 (u8=u8/\l=l) (Z5 (p*1<=140737488355328) (Z0 s (Z0 c (r/\
 Z0 c (Z5 (u8=u8/\0+o<=o) (Z5 (u8=u8/\p=p) (Z5 (n*1<=140737488355328) (Z5 (n=D) (Z5 (D<=n) (F=E/\
 Z7=Z7/\
 d=d/\
 Z5 (b=b) (Z0 c (r/\
 Z0 c ((YV.Ok x/\a<=32)/\
 ∀(i:Nat),
 let y:=nmB W Nm x i;let g:=y.length;let w:=List.take g (ZP 0 y);let v:=w.length;
 i<=a->(∀(j:Nat),j<i->(fun (k:Nat)=>Yh A (x.t k)=true) j)->(i=a->Z5 (0+g<=g) (Z5 (g=v) (Z5 (v<=B) (AV.tuple [AV.agg [AV.arr u8 32 (H w)],AV.int i64 0]=C))))/\(i<a/\Yh A (x.t i)=false->f)/\(False->False))))))))))))))))))))))) f) f) (by kernel_rfl) ?_
 conv=>zeta
 try simp only [vcA]
 try simp only [vcB]
 try simp only [vcC]
 subst hW hB
 have no:Vu A x=false->AV.tuple [.agg [.arr .u8 32 Z7],.int .i64 2]=.tuple [.agg [.arr .u8 32 z],.int .i64 e]:=fun h=>by rw [he,hz,h];rfl
 have l1:=Zp x.salt
 have l2:=Zp x.m
 have hlen:=QX Nm x hx.l hN
 have h0:=hlen 0
 simp only [Y0,JU,Js,JE]
 have e0:x.before++Zk x.salt++Zk x.m=nmB Zk Nm x 0:=by unfold nmB W6;rw [Jw]
 rw [e0]
 have yes:Vu A x=true->AV.tuple [.agg [.arr .u8 32 (H (nmB Zk Nm x x.m))],.int .i64 0]=.tuple [.agg [.arr .u8 32 z],.int .i64 e]:=fun h=>by rw [he,hz,h];rfl
 refine ⟨fun k1=>⟨fun k2=>⟨fun k3=>no (WL fun h=> ?_),fun k3=> ?_⟩,fun k2=>no (WL fun h=> ?_)⟩,fun k1=>no (WL fun h=> ?_)⟩
 ·simp only [Jg,decide_eq_false_iff_not] at k3
  omega
 ·simp only [Bool.not_eq_false',decide_eq_true_eq] at k3
  have h1:(x.before++Zk x.salt).length=32+(Zk x.salt).length:=by rw [J5,hx.l]
  refine ⟨hx.l,by rw [hx.l];omega,k1,by omega,by omega,rfl,J2 _,rfl,⟨hx,by omega⟩,fun i hi hg=>⟨fun h=> ?_,fun h=>no (WL fun hh=> ?_),fun h=>h⟩⟩
  ·subst h
   have:=hlen x.m
   exact ⟨trivial,by omega,yes (Ub.2 ⟨⟨k1,k2⟩,by omega,hg⟩)⟩
  ·have:=hh.2.2 i h.1
   rw [h.2] at this
   cases this
 ·omega
 ·omega
@[irreducible] def bnV (x:YV):LI:=if Vu Yd x=true then Xn (nmB Zk X7 x x.m) else Z7
theorem Z2M {f g:Nat->LI}:∀n,(∀k,k<n->f k=g k)->W6 f n=W6 g n
 | 0,_=>rfl
 | n+1,h=>by rw [W6,W6,Z2M n fun k hk=>h k (by omega),h n (by omega)]
theorem Zai {x:YV} (hx:x.Ok) (h:Vu Yd x=true):nmB Zk XO x x.m=nmB Zk X7 x x.m:=by
 have hk:=(Ub.1 h).2.2
 unfold nmB
 rw [Z2M x.m fun k hq=>Zcm (Us (hx.t.ok k hq) (hk k hq)) (hx.t.all k hq)]
theorem Z8V {f:Nat->LI} (h:∀i,∀v∈f i,U8 v):∀n,∀v∈W6 f n,U8 v
 | 0,v,hv=>by cases hv
 | n+1,v,hv=>by
  rcases Jt.1 hv with hv|hv
  ·exact Z8V h n v hv
  ·exact h n v hv
theorem ZgH {x:YV} (hx:x.Ok) (i:Nat):∀v∈nmB Zk X7 x i,U8 v:=fun v hv=>by
 unfold nmB at hv
 rcases Jt.1 hv with hv|hv
 ·rcases Jt.1 hv with hv|hv
  ·rcases Jt.1 hv with hv|hv
   ·exact hx.b.u8 v hv
   ·exact Z1j _ v hv
  ·exact Z1j _ v hv
 ·exact Z8V (fun k=>Zco _) i v hv
theorem ZiE {x:YV} (hx:x.Ok):bnV x=if Vu Yd x=true then X4 U7 (nmB Zk XO x x.m) else Z7:=by
 unfold bnV
 by_cases h:Vu Yd x=true
 ·rw [if_pos h,if_pos h,Zai hx h]
  have l1:=Zp x.salt
  have l2:=Zp x.m
  have:=QX X7 x hx.l Ut x.m
  have hm:=(Ub.1 h).2.1
  exact (Z2E (ZgH hx _) (by omega)).symm
 ·rw [if_neg h,if_neg h]
theorem Z8W (x:YV):(bnV x).length=32:=by
 unfold bnV
 split
 ·exact Up _
 ·rfl
def Z50 (x:YV) (z:LI) (e:Int):ZM:=fun args h K=>ZL none h true 60 args fun a=>match a with
 | [.agg [.arr .u8 32 b,.int .i64 s,l]]=>YK 3 l fun n f=>((b=x.before/\s=x.salt/\n=x.m)/\∀i,i<n->f i=txR x.t i)/\K (.tuple [.agg [.arr .u8 32 z],.int .i64 e])
 | _=>False
theorem ZcN {b:LI} {s:Int} {l l':AV} (h:Zl E [.arr .u8 32 b,.int .i64 s,l] vs) (hl:l.isCell=true) (hl':l'.isCell=true) (h1:∀r,Za E l r->Za E l' r):Zl E [.arr .u8 32 b,.int .i64 s,l'] vs:=by
 obtain ⟨ws,rfl,t⟩:=Zl.cons_arr h
 refine .arr _ _ _ _ _ ?_
 cases t with
 | one v c vs cs h0 hc hv t=>cases t with
  | one v c vs cs h0 hc' hv' t=>exact .one _ _ _ _ rfl hc hv (.one _ _ _ _ hl' hc' (h1 _ hv') t)
  | arr k n xs vs cs t=>cases hl
theorem Z2N {x:YV} {b:LI} {s:Int} {l:AV} {n:Nat} {f:Nat->List AV} (hl:l.isCell=true) (h2:∀E r,Za E l r->Za E (.vrows 3 n f n) r) (hb:(b=x.before/\s=x.salt/\n=x.m)/\∀i,i<n->f i=txR x.t i):∀E r,Zs E [.agg [.arr .u8 32 b,.int .i64 s,l]] r->Zs E [.agg x.c] r:=by
 obtain ⟨⟨rfl,rfl,rfl⟩,hf⟩:=hb
 exact fun E r hr=>hr.head (fun _ hc=>by
  cases hc with
  | agg _ vs hc=>exact .agg _ vs (ZcN hc hl rfl fun r hr=>(h2 E r hr).rowsC hf)) fun _ hc=>hc
theorem Zaj (x:YV) (hx:x.Ok) (args:List AV) (h:Z8) (K:AV->Prop) (hl:Z50 x (bnV x) (if Vu Yd x=true then 0 else 2) args h K):Zf PP 8 args h fun o h'=>∃v,o=.ret v/\h'=h/\K v:=by
 refine Zv.psumm (d:=60) (Zi _ _ _ _ _ hl fun a ha=> ?_)
 split at ha
 ·obtain ⟨n,f,ha,h1,h2⟩:=ZX ha
  obtain ⟨hb,hK⟩:=ha
  exact ⟨_,(Zv.evW (ZcL x) (Zju Yd X7 Zk _ Xn _ x _ _ rfl rfl rfl hx Ut rfl (by unfold bnV;rfl))).conv (Z2N h1 h2 hb),fun _=>rfl,hK⟩
 ·exact ha.elim
theorem Zak (x:YV) (hx:x.Ok) (args:List AV) (h:Z8) (K:AV->Prop) (hl:Z50 x (bnV x) (if Vu Yd x=true then 0 else 2) args h K):Zf PP 9 args h fun o h'=>∃v,o=.ret v/\h'=h/\K v:=by
 refine Zv.psumm (d:=60) (Zi _ _ _ _ _ hl fun a ha=> ?_)
 split at ha
 ·obtain ⟨n,f,ha,h1,h2⟩:=ZX ha
  obtain ⟨hb,hK⟩:=ha
  exact ⟨_,(Zv.evW (ZcM x) (Zjv Yd XO Zk (X4 U7) _ x _ _ rfl rfl hx Z0q rfl (ZiE hx))).conv (Z2N h1 h2 hb),fun _=>rfl,hK⟩
 ·exact ha.elim
end Go.Tk
end
