/- W: part 5 of an engine (a symbolic evaluator, proved against the model) and of the walk by it. -/
import Derived.Test.YtdfjhgjefkkkbaaGreatW4
set_option linter.unusedVariables false
set_option linter.unusedSimpArgs false
set_option maxRecDepth 100000
set_option maxHeartbeats 0
section
namespace Go.Tk
open IntKind (i64 u8 u32 u64 wrap)
variable {bl ms xs ys:LI} {B:Nat} {H:LI->LI} {T2:LI->LI->LI}
noncomputable def E44 (W:Int->LI):Za:=G0.withF 137 (Z7p W)
theorem Zes:(E44 Zt).Ok:=Za.withF_ok Zr Z3H
def rbS (t:TxS) (core:Bool) (i:Nat) (xs:LI) (n:Nat):St:=⟨133,[(6,.int .i64 i),(2,.ptr (some ⟨0,0,0,0,0⟩)),(5,.nslice ⟨4,0,0,0,0⟩ 1 n n),(1,.bool core)],⟨5,[(4,.ints .u8 xs),(0,.flat t.c)]⟩,[]⟩
def rbR (t:TxS) (xs:LI) (n:Nat):St:=⟨133,[(2,.ptr (some ⟨0,0,0,0,0⟩)),(5,.nslice ⟨4,0,0,0,0⟩ 1 n n)],⟨5,[(4,.ints .u8 xs),(0,.flat t.c)]⟩,[]⟩
def Zet (t:TxS) (i:Nat) (xs:LI) (n:Nat):St:=⟨133,[(9,.int .i64 i),(2,.ptr (some ⟨0,0,0,0,0⟩)),(5,.nslice ⟨4,0,0,0,0⟩ 1 n n)],⟨5,[(4,.ints .u8 xs),(0,.flat t.c)]⟩,[]⟩
theorem Vx (xs:LI):List.take xs.length (ZV 0 xs)=xs:=by rw [Y6,JU,Jv]
theorem ZmO (W:Int->LI) (t:TxS) (i:Nat) (xs ys:LI) (n m:Nat) (Z1 Z2:Prop) (ht:t.Ok) (hi:i<=t.N) (hr:∀j,j<t.N->Yh (t.ins j)=true) (hW:W=Zt) (hn:xs.length=n) (hs:n<10000000000000) (hy:ys=xs++inW W true (t.ins i)) (hm:ys.length=m) (h1:i<t.N->Z1) (h2:i=t.N->Z2):
  ZL (E44 W) 20 207 0 0 (rbS t true i xs n) (rdM 0 0 9 (rbS t true (i+1) ys m) (rbR t xs n) (rbR t xs n) (rbR t xs n) Z1 Z2 False False):=by
 refine @Eq.mpr _ (let d:=t.N;let o:=t.ins (Int.toNat (↑i:Int));let l:=o.name;let k:=xs++l;let f:=k.length;let a:=o.index;let j:=W a;let e:=j.length;let h:=k++List.take e (ZV 0 j);let g:=h.length;let u:=decide (t.num=t.num);let c:=decide (d=d);let s:=Zj t.ins;let r:=s=s;let b:=decide (t.M=t.M);let q:=Zi t.outs;let p:=q=q;
 Z0 (decide ((↑i:Int)<(↑d:Int))) (Z0 (decide (0<=(↑i:Int)/\(↑i:Int)<(↑d:Int))) (Z0 (decide (u8=u8/\l.length=32)) (Z0 (decide (u8=u8/\xs.length=n)) (Z0 (decide (f*1<=140737488355328)) (Z0 (decide (a=a)) (Z0 (decide (0<=a)) (Z0 (decide (u8=u8/\0+e<=e)) (Z0 (decide (u8=u8/\f=f)) (Z0 (decide (g*1<=140737488355328)) (Z0 (decide (wrap i64 ((↑i:Int)+1)=(↑(i+1):Int))) (Z0 (decide (g=m)) (Z0 (decide (m<=g)) (h=ys/\Z0 u (Z0 c (r/\Z0 c (Z0 b (p/\Z0 b Z1 False) False) False) False) False) False) False) False) False) False) False) False) False) False) False) False) False) (Z0 (decide (n=n)) (Z0 (decide (n<=n)) (xs=xs/\Z0 u (Z0 c (r/\Z0 c (Z0 b (p/\Z0 b Z2 False) False) False) False) False) False) False)) (by kernel_rfl) ?_
 conv=>zeta
 try simp only [Zc]
 try simp only [Zl]
 try simp only [Zg]
 try simp only [Zm]
 try simp only [Zn]
 try simp only [Zh]
 try simp only [true_and,J2]
 refine ⟨fun hlt=> ?_,fun hge=>h2 (by omega)⟩
 obtain ⟨⟨w1,w2⟩,w3,w4⟩:=Vv (hr i (by omega))
 obtain ⟨l1,l2,l3,l4⟩:=ht.ins i (by omega)
 have hnn:=ht.n
 have hwr:i64.wrap ((i:Int)+1)=((i+1:Nat):Int):=w64 (by omega)
 have u1:=Y1 (t.ins i).index
 subst hW
 unfold inW at hy
 simp only [Vx]
 grind
theorem ZmP (W:Int->LI) (t:TxS) (i:Nat) (xs ys:LI) (n m:Nat) (Z1 Z2:Prop) (ht:t.Ok) (hi:i<=t.N) (hr:∀j,j<t.N->Yh (t.ins j)=true) (hW:W=Zt) (hn:xs.length=n) (hs:n<10000000000000) (hy:ys=xs++inW W false (t.ins i)) (hm:ys.length=m) (h1:i<t.N->Z1) (h2:i=t.N->Z2):
  ZL (E44 W) 20 207 0 0 (rbS t false i xs n) (rdM 0 0 9 (rbS t false (i+1) ys m) (rbR t xs n) (rbR t xs n) (rbR t xs n) Z1 Z2 False False):=by
 refine @Eq.mpr _ (let v:=t.N;let c:=t.ins (Int.toNat (↑i:Int));let q3:=c.name;let T:=xs++q3;let y:=T.length;let l:=c.index;let J:=W l;let w:=J.length;let I:=T++List.take w (ZV 0 J);let H:=I.length;let d:=c.way;let a5:=W d;let G:=a5.length;let k:=I++List.take G (ZV 0 a5);let j:=k.length;let a4:=c.tag;let F:=decide (u8=u8/\j=j);let u:=k++a4;let h:=u.length;let a3:=d==1;let E:=c.also;let a2:=decide (u8=u8/\E.length=32);let a1:=decide (u8=u8/\h=h);let D:=u++E;let g:=D.length;let s:=d==4;let f:=c.secret;let r:=decide (u8=u8/\f.length=32);let a0:=D++f;let C:=a0.length;let b:=decide (wrap i64 ((↑i:Int)+1)=(↑(i+1):Int));let Z:=decide (t.num=t.num);let q:=decide (v=v);let Y:=Zj t.ins;let X:=Y=Y;let p:=decide (t.M=t.M);let V:=Zi t.outs;let U:=V=V;let a:=Z7 Z (Z7 q (X/\Z7 q (Z7 p (U/\Z7 p Z1))));let S:=Z7 r (Z6 (u8=u8/\g=g) (Z6 (C*1<=140737488355328) (Z7 b (Z6 (C=m) (Z6 (m<=C) (a0=ys/\a))))));let o:=d==5;let R:=u++f;let B:=R.length;let Q:=Z7 r (Z7 a1 (Z6 (B*1<=140737488355328) (Z7 b (Z6 (B=m) (Z6 (m<=B) (R=ys/\a))))));let A:=k++E;let e:=A.length;let P:=A++f;let z:=P.length;let O:=Z7 r (Z6 (u8=u8/\e=e) (Z6 (z*1<=140737488355328) (Z7 b (Z6 (z=m) (Z6 (m<=z) (P=ys/\a))))));let L:=k++f;let x:=L.length;let K:=Z7 r (Z7 F (Z6 (x*1<=140737488355328) (Z7 b (Z6 (x=m) (Z6 (m<=x) (L=ys/\a))))));
 Z0 (decide ((↑i:Int)<(↑v:Int))) (Z6 (0<=(↑i:Int)/\(↑i:Int)<(↑v:Int)) (Z6 (u8=u8/\q3.length=32) (Z6 (u8=u8/\xs.length=n) (Z6 (y*1<=140737488355328) (Z6 (l=l) (Z6 (0<=l) (Z6 (u8=u8/\0+w<=w) (Z6 (u8=u8/\y=y) (Z6 (H*1<=140737488355328) (Z6 (0<=d) (Z6 (u8=u8/\0+G<=G) (Z6 (u8=u8/\H=H) (Z6 (j*1<=140737488355328) (Z0 (d !=4) (Z6 (u8=u8/\a4.length=32) (Z7 F (Z6 (h*1<=140737488355328) (Z0 a3 (Z7 a2 (Z7 a1 (Z6 (g*1<=140737488355328) (Z0 s S (Z0 o S (Z7 b (Z6 (g=m) (Z6 (m<=g) (D=ys/\a))))))))) (Z0 s Q (Z0 o Q (Z7 b (Z6 (h=m) (Z6 (m<=h) (u=ys/\a)))))))))) (Z0 a3 (Z7 a2 (Z7 F (Z6 (e*1<=140737488355328) (Z0 s O (Z0 o O (Z7 b (Z6 (e=m) (Z6 (m<=e) (A=ys/\a))))))))) (Z0 s K (Z0 o K (Z7 b (Z6 (j=m) (Z6 (m<=j) (k=ys/\a))))))))))))))))))))) (Z6 (n=n) (Z6 (n<=n) (xs=xs/\Z7 Z (Z7 q (X/\Z7 q (Z7 p (U/\Z7 p Z2)))))))) (by kernel_rfl) ?_
 conv=>zeta
 try simp only [vcA]
 try simp only [vcB]
 try simp only [vcC]
 refine ⟨fun hlt=> ?_,fun hge=>h2 (by omega)⟩
 obtain ⟨⟨w1,w2⟩,w3,w4⟩:=Vv (hr i (by omega))
 obtain ⟨l1,l2,l3,l4⟩:=ht.ins i (by omega)
 have hw:=h1 (by omega)
 have hnn:=ht.n
 have hwr:i64.wrap ((i:Int)+1)=((i+1:Nat):Int):=w64 (by omega)
 have u1:=Y1 (t.ins i).index
 have u2:=Y1 (t.ins i).way
 subst hW
 rw [hwr]
 unfold inW at hy
 generalize t.ins i=x at*
 simp only [Vx]
 repeat' (first|(refine Ja ?_ ?_)|intro _)
 all_goals grind
theorem ZmQ (W:Int->LI) (t:TxS) (i:Nat) (xs ys:LI) (n m:Nat) (Z1 Z2:Prop) (ht:t.Ok) (hi:i<=t.M) (hr:∀j,j<t.M->ZP (t.outs j)=true) (hW:W=Zt) (hn:xs.length=n) (hs:n<10000000000000) (hy:ys=xs++Z3F W (t.outs i)) (hm:ys.length=m) (h1:i<t.M->Z1) (h2:i=t.M->Z2):
  ZL (E44 W) 20 207 2 0 (Zet t i xs n) (rdM 0 2 9 (Zet t (i+1) ys m) (rbR t xs n) (rbR t xs n) (rbR t xs n) Z1 Z2 False False):=by
 refine @Eq.mpr _ (let q1:=t.M;let D:=t.outs (Int.toNat (↑i:Int));let E:=D.kind;let q4:=W E;let q5:=q4.length;let q6:=xs++List.take q5 (ZV 0 q4);let q7:=q6.length;let q8:=D.owner;let q9:=q8=q8;let a9:=D.amount;let h8:=W a9;let e2:=h8.length;let h1:=q6++List.take e2 (ZV 0 h8);let d5:=h1.length;let G:=h1++q8;let S:=G.length;let g8:=D.other;let d4:=decide (u8=u8/\g8.length=32);let F:=decide (u8=u8/\S=S);let J:=G++g8;let R:=J.length;let d3:=decide (R*1<=140737488355328);let g:=decide (E>=3);let d2:=D.point;let a6:=decide (u8=u8/\d2.length=32);let q:=decide (u8=u8/\R=R);let Q:=J++d2;let P:=Q.length;let d1:=decide (P*1<=140737488355328);let c:=decide (E>=4);let O:=D.hash;let C:=decide (u8=u8/\O.length=32);let A:=decide (u8=u8/\P=P);let a5:=Q++O;let L:=a5.length;let d0:=decide (L*1<=140737488355328);let g7:=D.delay;let j:=decide (0<=g7);let g6:=W g7;let d:=g6.length;let I:=decide (u8=u8/\L=L);let B:=List.take d (ZV 0 g6);let c9:=a5++B;let p:=c9.length;let g5:=D.expiry;let f:=decide (0<=g5);let g4:=W g5;let a:=g4.length;let h:=List.take a (ZV 0 g4);let g3:=c9++h;let z:=g3.length;let b:=decide (wrap i64 ((↑i:Int)+1)=(↑(i+1):Int));let g2:=decide (t.num=t.num);let a4:=decide (t.N=t.N);let g1:=Zj t.ins;let g0:=g1=g1;let a3:=decide (q1=q1);let f9:=Zi t.outs;let f8:=f9=f9;let e:=Z7 g2 (Z7 a4 (g0/\Z7 a4 (Z7 a3 (f8/\Z7 a3 Z1))));let c8:=g3=ys/\e;let c7:=c9=ys/\e;let f7:=a5++h;let y:=f7.length;let c6:=f7=ys/\e;let c5:=Z7 b (Z6 (L=m) (Z6 (m<=L) (a5=ys/\e)));let c4:=Q++B;let o:=c4.length;let f6:=c4++h;let x:=f6.length;let c3:=f6=ys/\e;let c2:=c4=ys/\e;let f5:=Q++h;let w:=f5.length;let c1:=f5=ys/\e;let c0:=Z7 b (Z6 (P=m) (Z6 (m<=P) (Q=ys/\e)));let a2:=J++O;let K:=a2.length;let b9:=decide (K*1<=140737488355328);let H:=decide (u8=u8/\K=K);let b8:=a2++B;let l:=b8.length;let f4:=b8++h;let v:=f4.length;let b7:=f4=ys/\e;let b6:=b8=ys/\e;let f3:=a2++h;let u:=f3.length;let b5:=f3=ys/\e;let b4:=Z7 b (Z6 (K=m) (Z6 (m<=K) (a2=ys/\e)));let b3:=J++B;let k:=b3.length;let f2:=b3++h;let s:=f2.length;let b2:=f2=ys/\e;let b1:=b3=ys/\e;let f1:=J++h;let r:=f1.length;let b0:=f1=ys/\e;let f0:=Z7 b (Z6 (R=m) (Z6 (m<=R) (J=ys/\e)));let a1:=G++d2;let a0:=a1.length;let e9:=decide (u8=u8/\a0=a0);let a8:=a1++O;let Z:=a8.length;let i0:=decide (u8=u8/\Z=Z);let e8:=a8++B;let Y:=e8.length;let h9:=e8++h;let e7:=h9.length;let h7:=a8++h;let e6:=h7.length;let e5:=a1++B;let X:=e5.length;let h6:=e5++h;let e4:=h6.length;let h5:=a1++h;let e3:=h5.length;let a7:=G++O;let V:=a7.length;let h4:=decide (u8=u8/\V=V);let e1:=a7++B;let U:=e1.length;let h3:=e1++h;let e0:=h3.length;let h2:=a7++h;let d9:=h2.length;let d8:=G++B;let T:=d8.length;let h0:=d8++h;let d7:=h0.length;let g9:=G++h;let d6:=g9.length;
 Z0 (decide ((↑i:Int)<(↑q1:Int))) (Z6 (0<=(↑i:Int)/\(↑i:Int)<(↑q1:Int)) (Z6 (0<=E) (Z6 (u8=u8/\0+q5<=q5) (Z6 (u8=u8/\xs.length=n) (Z6 (q7*1<=140737488355328) (q9/\
 Z6 (a9=a9) (Z6 (0<=a9) (Z6 (u8=u8/\0+e2<=e2) (Z6 (u8=u8/\q7=q7) (Z6 (d5*1<=140737488355328) (q9/\
 Z6 (u8=u8/\q8.length=32) (Z6 (u8=u8/\d5=d5) (Z6 (S*1<=140737488355328) (Z0 (E==2) (Z7 d4 (Z7 F (Z7 d3 (Z0 g (Z7 a6 (Z7 q (Z7 d1 (Z0 c (Z7 C (Z7 A (Z7 d0 (Z0 g (Z7 j (Z6 (u8=u8/\0+d<=d) (Z7 I (Z6 (p*1<=140737488355328) (Z0 c (Z7 f (Z6 (u8=u8/\0+a<=a) (Z6 (u8=u8/\p=p) (Z6 (z*1<=140737488355328) (Z7 b (Z6 (z=m) (Z6 (m<=z) c8))))))) (Z7 b (Z6 (p=m) (Z6 (m<=p) c7)))))))) (Z0 c (Z7 f (Z6 (u8=u8/\0+a<=a) (Z7 I (Z6 (y*1<=140737488355328) (Z7 b (Z6 (y=m) (Z6 (m<=y) c6))))))) c5))))) (Z0 g (Z7 j (Z6 (u8=u8/\0+d<=d) (Z7 A (Z6 (o*1<=140737488355328) (Z0 c (Z7 f (Z6 (u8=u8/\0+a<=a) (Z6 (u8=u8/\o=o) (Z6 (x*1<=140737488355328) (Z7 b (Z6 (x=m) (Z6 (m<=x) c3))))))) (Z7 b (Z6 (o=m) (Z6 (m<=o) c2)))))))) (Z0 c (Z7 f (Z6 (u8=u8/\0+a<=a) (Z7 A (Z6 (w*1<=140737488355328) (Z7 b (Z6 (w=m) (Z6 (m<=w) c1))))))) c0)))))) (Z0 c (Z7 C (Z7 q (Z7 b9 (Z0 g (Z7 j (Z6 (u8=u8/\0+d<=d) (Z7 H (Z6 (l*1<=140737488355328) (Z0 c (Z7 f (Z6 (u8=u8/\0+a<=a) (Z6 (u8=u8/\l=l) (Z6 (v*1<=140737488355328) (Z7 b (Z6 (v=m) (Z6 (m<=v) b7))))))) (Z7 b (Z6 (l=m) (Z6 (m<=l) b6)))))))) (Z0 c (Z7 f (Z6 (u8=u8/\0+a<=a) (Z7 H (Z6 (u*1<=140737488355328) (Z7 b (Z6 (u=m) (Z6 (m<=u) b5))))))) b4))))) (Z0 g (Z7 j (Z6 (u8=u8/\0+d<=d) (Z7 q (Z6 (k*1<=140737488355328) (Z0 c (Z7 f (Z6 (u8=u8/\0+a<=a) (Z6 (u8=u8/\k=k) (Z6 (s*1<=140737488355328) (Z7 b (Z6 (s=m) (Z6 (m<=s) b2))))))) (Z7 b (Z6 (k=m) (Z6 (m<=k) b1)))))))) (Z0 c (Z7 f (Z6 (u8=u8/\0+a<=a) (Z7 q (Z6 (r*1<=140737488355328) (Z7 b (Z6 (r=m) (Z6 (m<=r) b0))))))) f0))))))) (Z0 (E==4) (Z7 d4 (Z7 F (Z7 d3 (Z0 g (Z7 a6 (Z7 q (Z7 d1 (Z0 c (Z7 C (Z7 A (Z7 d0 (Z0 g (Z7 j (Z6 (u8=u8/\0+d<=d) (Z7 I (Z6 (p*1<=140737488355328) (Z0 c (Z7 f (Z6 (u8=u8/\0+a<=a) (Z6 (u8=u8/\p=p) (Z6 (z*1<=140737488355328) (Z7 b (Z6 (z=m) (Z6 (m<=z) c8))))))) (Z7 b (Z6 (p=m) (Z6 (m<=p) c7)))))))) (Z0 c (Z7 f (Z6 (u8=u8/\0+a<=a) (Z7 I (Z6 (y*1<=140737488355328) (Z7 b (Z6 (y=m) (Z6 (m<=y) c6))))))) c5))))) (Z0 g (Z7 j (Z6 (u8=u8/\0+d<=d) (Z7 A (Z6 (o*1<=140737488355328) (Z0 c (Z7 f (Z6 (u8=u8/\0+a<=a) (Z6 (u8=u8/\o=o) (Z6 (x*1<=140737488355328) (Z7 b (Z6 (x=m) (Z6 (m<=x) c3))))))) (Z7 b (Z6 (o=m) (Z6 (m<=o) c2)))))))) (Z0 c (Z7 f (Z6 (u8=u8/\0+a<=a) (Z7 A (Z6 (w*1<=140737488355328) (Z7 b (Z6 (w=m) (Z6 (m<=w) c1))))))) c0)))))) (Z0 c (Z7 C (Z7 q (Z7 b9 (Z0 g (Z7 j (Z6 (u8=u8/\0+d<=d) (Z7 H (Z6 (l*1<=140737488355328) (Z0 c (Z7 f (Z6 (u8=u8/\0+a<=a) (Z6 (u8=u8/\l=l) (Z6 (v*1<=140737488355328) (Z7 b (Z6 (v=m) (Z6 (m<=v) b7))))))) (Z7 b (Z6 (l=m) (Z6 (m<=l) b6)))))))) (Z0 c (Z7 f (Z6 (u8=u8/\0+a<=a) (Z7 H (Z6 (u*1<=140737488355328) (Z7 b (Z6 (u=m) (Z6 (m<=u) b5))))))) b4))))) (Z0 g (Z7 j (Z6 (u8=u8/\0+d<=d) (Z7 q (Z6 (k*1<=140737488355328) (Z0 c (Z7 f (Z6 (u8=u8/\0+a<=a) (Z6 (u8=u8/\k=k) (Z6 (s*1<=140737488355328) (Z7 b (Z6 (s=m) (Z6 (m<=s) b2))))))) (Z7 b (Z6 (k=m) (Z6 (m<=k) b1)))))))) (Z0 c (Z7 f (Z6 (u8=u8/\0+a<=a) (Z7 q (Z6 (r*1<=140737488355328) (Z7 b (Z6 (r=m) (Z6 (m<=r) b0))))))) f0))))))) (Z0 (E==5) (Z7 d4 (Z7 F (Z7 d3 (Z0 g (Z7 a6 (Z7 q (Z7 d1 (Z0 c (Z7 C (Z7 A (Z7 d0 (Z0 g (Z7 j (Z6 (u8=u8/\0+d<=d) (Z7 I (Z6 (p*1<=140737488355328) (Z0 c (Z7 f (Z6 (u8=u8/\0+a<=a) (Z6 (u8=u8/\p=p) (Z6 (z*1<=140737488355328) (Z7 b (Z6 (z=m) (Z6 (m<=z) c8))))))) (Z7 b (Z6 (p=m) (Z6 (m<=p) c7)))))))) (Z0 c (Z7 f (Z6 (u8=u8/\0+a<=a) (Z7 I (Z6 (y*1<=140737488355328) (Z7 b (Z6 (y=m) (Z6 (m<=y) c6))))))) c5))))) (Z0 g (Z7 j (Z6 (u8=u8/\0+d<=d) (Z7 A (Z6 (o*1<=140737488355328) (Z0 c (Z7 f (Z6 (u8=u8/\0+a<=a) (Z6 (u8=u8/\o=o) (Z6 (x*1<=140737488355328) (Z7 b (Z6 (x=m) (Z6 (m<=x) c3))))))) (Z7 b (Z6 (o=m) (Z6 (m<=o) c2)))))))) (Z0 c (Z7 f (Z6 (u8=u8/\0+a<=a) (Z7 A (Z6 (w*1<=140737488355328) (Z7 b (Z6 (w=m) (Z6 (m<=w) c1))))))) c0)))))) (Z0 c (Z7 C (Z7 q (Z7 b9 (Z0 g (Z7 j (Z6 (u8=u8/\0+d<=d) (Z7 H (Z6 (l*1<=140737488355328) (Z0 c (Z7 f (Z6 (u8=u8/\0+a<=a) (Z6 (u8=u8/\l=l) (Z6 (v*1<=140737488355328) (Z7 b (Z6 (v=m) (Z6 (m<=v) b7))))))) (Z7 b (Z6 (l=m) (Z6 (m<=l) b6)))))))) (Z0 c (Z7 f (Z6 (u8=u8/\0+a<=a) (Z7 H (Z6 (u*1<=140737488355328) (Z7 b (Z6 (u=m) (Z6 (m<=u) b5))))))) b4))))) (Z0 g (Z7 j (Z6 (u8=u8/\0+d<=d) (Z7 q (Z6 (k*1<=140737488355328) (Z0 c (Z7 f (Z6 (u8=u8/\0+a<=a) (Z6 (u8=u8/\k=k) (Z6 (s*1<=140737488355328) (Z7 b (Z6 (s=m) (Z6 (m<=s) b2))))))) (Z7 b (Z6 (k=m) (Z6 (m<=k) b1)))))))) (Z0 c (Z7 f (Z6 (u8=u8/\0+a<=a) (Z7 q (Z6 (r*1<=140737488355328) (Z7 b (Z6 (r=m) (Z6 (m<=r) b0))))))) f0))))))) (Z0 g (Z7 a6 (Z7 F (Z6 (a0*1<=140737488355328) (Z0 c (Z7 C (Z7 e9 (Z6 (Z*1<=140737488355328) (Z0 g (Z7 j (Z6 (u8=u8/\0+d<=d) (Z7 i0 (Z6 (Y*1<=140737488355328) (Z0 c (Z7 f (Z6 (u8=u8/\0+a<=a) (Z6 (u8=u8/\Y=Y) (Z6 (e7*1<=140737488355328) (Z7 b (Z6 (e7=m) (Z6 (m<=e7) (h9=ys/\e)))))))) (Z7 b (Z6 (Y=m) (Z6 (m<=Y) (e8=ys/\e))))))))) (Z0 c (Z7 f (Z6 (u8=u8/\0+a<=a) (Z7 i0 (Z6 (e6*1<=140737488355328) (Z7 b (Z6 (e6=m) (Z6 (m<=e6) (h7=ys/\e)))))))) (Z7 b (Z6 (Z=m) (Z6 (m<=Z) (a8=ys/\e))))))))) (Z0 g (Z7 j (Z6 (u8=u8/\0+d<=d) (Z7 e9 (Z6 (X*1<=140737488355328) (Z0 c (Z7 f (Z6 (u8=u8/\0+a<=a) (Z6 (u8=u8/\X=X) (Z6 (e4*1<=140737488355328) (Z7 b (Z6 (e4=m) (Z6 (m<=e4) (h6=ys/\e)))))))) (Z7 b (Z6 (X=m) (Z6 (m<=X) (e5=ys/\e))))))))) (Z0 c (Z7 f (Z6 (u8=u8/\0+a<=a) (Z7 e9 (Z6 (e3*1<=140737488355328) (Z7 b (Z6 (e3=m) (Z6 (m<=e3) (h5=ys/\e)))))))) (Z7 b (Z6 (a0=m) (Z6 (m<=a0) (a1=ys/\e)))))))))) (Z0 c (Z7 C (Z7 F (Z6 (V*1<=140737488355328) (Z0 g (Z7 j (Z6 (u8=u8/\0+d<=d) (Z7 h4 (Z6 (U*1<=140737488355328) (Z0 c (Z7 f (Z6 (u8=u8/\0+a<=a) (Z6 (u8=u8/\U=U) (Z6 (e0*1<=140737488355328) (Z7 b (Z6 (e0=m) (Z6 (m<=e0) (h3=ys/\e)))))))) (Z7 b (Z6 (U=m) (Z6 (m<=U) (e1=ys/\e))))))))) (Z0 c (Z7 f (Z6 (u8=u8/\0+a<=a) (Z7 h4 (Z6 (d9*1<=140737488355328) (Z7 b (Z6 (d9=m) (Z6 (m<=d9) (h2=ys/\e)))))))) (Z7 b (Z6 (V=m) (Z6 (m<=V) (a7=ys/\e))))))))) (Z0 g (Z7 j (Z6 (u8=u8/\0+d<=d) (Z7 F (Z6 (T*1<=140737488355328) (Z0 c (Z7 f (Z6 (u8=u8/\0+a<=a) (Z6 (u8=u8/\T=T) (Z6 (d7*1<=140737488355328) (Z7 b (Z6 (d7=m) (Z6 (m<=d7) (h0=ys/\e)))))))) (Z7 b (Z6 (T=m) (Z6 (m<=T) (d8=ys/\e))))))))) (Z0 c (Z7 f (Z6 (u8=u8/\0+a<=a) (Z7 F (Z6 (d6*1<=140737488355328) (Z7 b (Z6 (d6=m) (Z6 (m<=d6) (g9=ys/\e)))))))) (Z7 b (Z6 (S=m) (Z6 (m<=S) (G=ys/\e)))))))))))))))))))))))) (Z6 (n=n) (Z6 (n<=n) (xs=xs/\Z7 g2 (Z7 a4 (g0/\Z7 a4 (Z7 a3 (f8/\Z7 a3 Z2)))))))) (by kernel_rfl) ?_
 conv=>zeta
 try simp only [vcA]
 try simp only [vcB]
 try simp only [vcC]
 refine ⟨fun hlt=> ?_,fun hge=>h2 (by omega)⟩
 obtain ⟨⟨w1,w2⟩,⟨w3,w4⟩,⟨w5,w6⟩,w7,w8⟩:=XY (hr i (by omega))
 obtain ⟨l1,l2,l3,l4⟩:=ht.outs i (by omega)
 have hw:=h1 (by omega)
 have hnn:=ht.m
 have hwr:i64.wrap ((i:Int)+1)=((i+1:Nat):Int):=w64 (by omega)
 have u1:=Y1 (t.outs i).kind
 have u2:=Y1 (t.outs i).amount
 have u3:=Y1 (t.outs i).delay
 have u4:=Y1 (t.outs i).expiry
 subst hW
 rw [hwr]
 unfold Z3F at hy
 generalize t.outs i=x at*
 simp only [J9,Vx]
 repeat' (first|(refine Ja ?_ ?_)|intro _)
 all_goals (try simp only [beq_iff_eq,bne_iff_ne,ne_eq,beq_eq_false_iff_ne,bne_eq_false_iff_eq] at*)
 all_goals first|omega|assumption|trivial|skip
 all_goals first|(rw [hy];grind)|(rw [<-hm,hy];simp [*];try omega;done)|skip
noncomputable def Zkj (W:Int->LI) (t:TxS) (core:Bool):Za:=
 (E44 W).withL 207 0 (goM 0 (rbS t core 0 (YR W t core 0) (YR W t core 0).length) t.Fine (YB 0 t.N 9 (fun i=>i<t.N) (fun i=>i=t.N) (fun _=>False) (fun _=>False) (fun i=>rbR t (YR W t core i) (YR W t core i).length) (fun i=>rbR t (YR W t core i) (YR W t core i).length) (fun i=>rbR t (YR W t core i) (YR W t core i).length)))
noncomputable def Zpl (W:Int->LI) (t:TxS) (core:Bool):Za:=
 (E44 W).withL 207 2 (goM 0 (Zet t 0 (Yz W t core 0) (Yz W t core 0).length) t.Fine (YB 2 t.M 9 (fun i=>i<t.M) (fun i=>i=t.M) (fun _=>False) (fun _=>False) (fun i=>rbR t (Yz W t core i) (Yz W t core i).length) (fun i=>rbR t (Yz W t core i) (Yz W t core i).length) (fun i=>rbR t (Yz W t core i) (Yz W t core i).length)))
theorem Zhw (t:TxS) (core:Bool):(Zkj Zt t core).Ok:=by
 refine Za.withGoM (N:=20) (S:=fun i=>rbS t core i (YR Zt t core i) (YR Zt t core i).length) Zes (by kernel_rfl) fun hC=>⟨rfl,fun i hi hgo=> ?_⟩
 have h1:=Qb hC core hi
 cases core
 ·exact ZmP Zt t i (YR Zt t false i) (YR Zt t false (i+1)) _ _ _ _ hC.ok hi hC.ins rfl rfl (by omega) (QC _ _ _ _) rfl (fun h=>⟨h,h⟩) (fun h=>h)
 ·exact ZmO Zt t i (YR Zt t true i) (YR Zt t true (i+1)) _ _ _ _ hC.ok hi hC.ins rfl rfl (by omega) (QC _ _ _ _) rfl (fun h=>⟨h,h⟩) (fun h=>h)
theorem Zhx (t:TxS) (core:Bool):(Zpl Zt t core).Ok:=by
 refine Za.withGoM (N:=20) (S:=fun i=>Zet t i (Yz Zt t core i) (Yz Zt t core i).length) Zes (by kernel_rfl) fun hC=>⟨rfl,fun i hi hgo=> ?_⟩
 have h1:=Wv hC core hi
 exact ZmQ Zt t i (Yz Zt t core i) (Yz Zt t core (i+1)) _ _ _ _ hC.ok hi hC.outs rfl rfl (by omega) (Z53 _ _ _ _) rfl (fun h=>⟨h,h⟩) (fun h=>h)
noncomputable def ZmR (W:Int->LI) (t:TxS) (core:Bool):Za:=
 (Zkj W t core).withL 207 2 (goM 0 (Zet t 0 (Yz W t core 0) (Yz W t core 0).length) t.Fine (YB 2 t.M 9 (fun i=>i<t.M) (fun i=>i=t.M) (fun _=>False) (fun _=>False) (fun i=>rbR t (Yz W t core i) (Yz W t core i).length) (fun i=>rbR t (Yz W t core i) (Yz W t core i).length) (fun i=>rbR t (Yz W t core i) (Yz W t core i).length)))
theorem Zeu (W:Int->LI) (t:TxS) (core:Bool) (ys:LI) (L:Nat) (hW:W=Zt) (ht:t.Fine) (hy:ys=Wh W t core) (hL:L=ys.length):
  evF (ZmR W t core) 20 207 [.agg t.c,.bool core] ⟨0,[]⟩ (ZK 0 (.ret (.nslice ⟨0,0,0,0,0⟩ 1 L L)) 1 [(0,.ints .u8 ys)]):=by
 refine @Eq.mpr _ (let d:=t.num;let m:=List.length (W d);let w:=[]++List.take m (ZV 0 (W d));let k:=w.length;let b:=t.N;let g:=↑b;let a:=decide (b=b);let p:=Zj t.ins;let f:=p=p;let H:=W g;let o:=H.length;let G:=w++List.take o (ZV 0 H);let n:=G.length;let F:=YR W t core 0;let E:=F.length;let D:=decide (d=d);let c:=t.M;let e:=decide (c=c);let C:=Zi t.outs;let B:=C=C;let A:=W ↑c;let l:=A.length;let z:=Yz W t core 0;let y:=z.length;let x:=(False->False)/\(False->False);
 Z0 (decide (0<=d))
 (Z0 (decide (u8=u8/\0+m<=m))
 (Z0 (decide (k*1<=140737488355328))
 (Z0 (decide (g=g))
 (Z0 a
 (f/\
 Z0 a
 (Z0 (decide (u8=u8/\0+o<=o))
 (Z0 (decide (u8=u8/\k=k))
 (Z0 (decide (n*1<=140737488355328))
 (Z0 (decide (n=E))
 (Z0 (decide (E<=n))
 (Z0 (decide (core=core))
 (G=F/\
 Z0 D
 (Z0 a
 (f/\
 Z0 a
 (Z0 e
 (B/\
 Z0 e
 (TxS.Fine t/\
 ∀(i:Nat),
 let v:=YR W t core i;let u:=v.length;let s:=v++List.take l (ZV 0 A);let h:=s.length;
 i<=b->
 (∀(j:Nat),j<i->(fun (i:Nat)=>i<b) j)->
 (i=b->
 Z0 (decide (u8=u8/\0+l<=l))
 (Z0 (decide (u8=u8/\u=u))
 (Z0 (decide (h*1<=140737488355328))
 (Z0 (decide (h=y))
 (Z0 (decide (y<=h))
 (s=z/\
 Z0 D
 (Z0 a
 (f/\
 Z0 a
 (Z0 e
 (B/\
 Z0 e
 (TxS.Fine t/\
 ∀(i:Nat),
 let r:=Yz W t core i;let q:=r.length;
 i<=c->(∀(j:Nat),j<i->(fun (i:Nat)=>i<c) j)->(i=c->Z0 (decide (q=L)) (Z0 (decide (L<=q)) (r=ys/\True) False) False)/\x)
 False)
 False)
 False)
 False)
 False)
 False)
 False)
 False)
 False)
 False)/\
 x)
 False)
 False)
 False)
 False)
 False)
 False)
 False)
 False)
 False)
 False)
 False)
 False)
 False)
 False)
 False)
 False)
 False) (by kernel_rfl) ?_
 conv=>zeta
 try simp only [Zc]
 try simp only [Zl]
 try simp only [Zg]
 try simp only [Zm]
 try simp only [Zn]
 try simp only [Zh]
 try simp only [Jf,true_and,and_true,J2]
 subst hW hy hL
 have e1:Zt t.num++Zt ↑t.N=YR Zt t core 0:=by unfold YR;simp [QJ]
 have e2:YR Zt t core t.N++Zt ↑t.M=Yz Zt t core 0:=by unfold Yz;simp [QJ]
 have hq:=ht.num
 simp only [Vx,Kg,e1]
 have b0:=Qb ht core (JB t.N)
 have c0:=Wv ht core (JB t.M)
 have d1:=Y1 t.num
 refine ⟨hq.1,by omega,by omega,trivial,J2 _,trivial,ht,fun i hi _=>⟨fun he=> ?_,fun h=>h,fun h=>h⟩⟩
 subst he
 rw [e2]
 refine ⟨by omega,rfl,J2 _,rfl,ht,fun i hi _=>⟨fun he=> ?_,fun h=>h,fun h=>h⟩⟩
 subst he
 exact ⟨rfl,J2 _,rfl⟩
theorem Zhy (t:TxS) (core:Bool):(ZmR Zt t core).Ok:=by
 exact Za.withL_join (G:=Zkj Zt t core) (H:=E44 Zt) (Zhw t core) rfl (Zhx t core)
theorem Z7q (t:TxS) (core:Bool) (ht:t.Fine):Zx PP 207 [.agg t.c,.bool core] (.nslice ⟨0,0,0,0,0⟩ 1 (Wh Zt t core).length (Wh Zt t core).length) 1 [(0,.ints .u8 (Wh Zt t core))]:=.evM (Zhy t core) (Zeu _ t core _ _ rfl ht rfl rfl)
theorem Z9f (args:List AV) (h:Z8) (K:KO) (hl:Zei (Wh Zt) args h K):Zd PP 207 args h K:=by
 refine Zx.fsumm (d:=20) (Zq _ _ _ _ _ hl fun a ha=> ?_)
 split at ha
 ·obtain ⟨t,h1,h2,hK⟩:=ha
  exact ⟨_,_,_,_,(Z7q t _ h2).conv fun E r hr=>hr.head (fun _ hc=>h1.rel hc) (fun _ hc=>hc),rfl,⟨JC,.ints _ _,trivial⟩,hK⟩
 simp_all
theorem Z11 {n:Nat} (h:xs.length=n) (hw:∀i,i<n->(Lit.int .u8 (xs.getD i 0)).wf=true):Bytes xs:=⟨fun i=>by
 by_cases hi:i<n
 ·have:=hw i hi
  simp [Lit.wf] at this
  have m1:u8.min=0:=rfl
  have m2:u8.max=255:=rfl
  simp
  omega
 ·rw [J5,JP (by omega)];simp⟩
structure InS.By (x:InS):Prop where
 name:Bytes x.name
 tag:Bytes x.tag
 also:Bytes x.also
 secret:Bytes x.secret
structure ZM.By (x:ZM):Prop where
 owner:Bytes x.owner
 other:Bytes x.other
 point:Bytes x.point
 hash:Bytes x.hash
structure Z00 (t:TxS):Prop where
 ins:∀i,i<t.N->(t.ins i).By
 outs:∀i,i<t.M->(t.outs i).By
theorem Z00.b {t:TxS} (h:Z00 t):TxB t:=⟨fun i hi=>⟨(h.outs i hi).owner,(h.outs i hi).other⟩⟩
theorem pick {α:Type} [Inhabited α] {n:Nat} {p:Nat->α->Prop} (h:∀i,i<n->∃a,p i a):∃f:Nat->α,∀i,i<n->p i (f i):=
 ⟨fun i=>if hi:i<n then Classical.choose (h i hi) else default,fun i hi=>by
  simp only [hi,dite_true]
  exact Classical.choose_spec (h i hi)⟩
instance:Inhabited InS:=⟨inZ⟩
instance:Inhabited ZM:=⟨Zpd⟩
theorem Zd.conv {P:Program} {f:FuncId} {us bs:List AV} {h:Z8} {K:KO} (hc:Zd P f bs h K) (hr:∀E rs,ZH E us rs->ZH E bs rs):Zd P f us h K:=
 fun E w rs he hl=>hc E w rs he (hr E rs hl)
theorem Bytes.nil:Bytes []:=⟨fun i=>by simp⟩
theorem Bytes.cons {x:Int} (hx:0<=x/\x<=255) (h:Bytes xs):Bytes (x::xs):=⟨fun i=>by
 cases i with
 | zero=>simpa using hx
 | succ i=>have:=h.h i;simpa using this⟩
theorem Bytes.append (h:Bytes xs) (k:Bytes ys):Bytes (xs++ys):=⟨fun i=>by
 rw [J5,List.getElem?_append]
 split
 ·have:=h.h i;rwa [J5] at this
 ·have:=k.h (i-xs.length);rwa [J5] at this⟩
theorem Bytes.ite {p:Prop} [Decidable p] (h:Bytes xs) (k:Bytes ys):Bytes (if p then xs else ys):=by split<;>assumption
theorem Zc2 (x:Int):0<=u8.wrap x/\u8.wrap x<=255:=by
 unfold wrap
 simp [IntKind.bits,IntKind.signed]
 omega
theorem Xc (n:Int):Bytes (Zt n):=by
 have hb:∀k,0<=b8 n k/\b8 n k<=255:=fun k=>Zc2 _
 unfold Zt
 split
 ·exact .cons (Zc2 _) .nil
 split
 ·exact .cons (by omega) (.cons (hb _) (.cons (hb _) .nil))
 split
 ·exact .cons (by omega) (.cons (hb _) (.cons (hb _) (.cons (hb _) (.cons (hb _) .nil))))
 ·exact .cons (by omega) (.cons (hb _) (.cons (hb _) (.cons (hb _) (.cons (hb _) (.cons (hb _) (.cons (hb _) (.cons (hb _) (.cons (hb _) .nil))))))))
theorem Zc3 {x:InS} (h:x.By) (core:Bool):Bytes (inW Zt core x):=by
 unfold inW
 refine (h.name.append (Xc _)).append ?_
 cases core
 ·exact (Xc _).append (((Bytes.nil.ite h.tag).append (h.also.ite .nil)).append (h.secret.ite .nil))
 ·exact .nil
theorem Z9g {x:ZM} (h:x.By):Bytes (Z3F Zt x):=by
 unfold Z3F
 exact (((((((Xc _).append (Xc _)).append h.owner).append (h.other.ite .nil)).append (h.point.ite .nil)).append (h.hash.ite .nil)).append ((Xc _).ite .nil)).append ((Xc _).ite .nil)
theorem Z0w {f:Nat->LI}:∀n,(∀i,i<n->Bytes (f i))->Bytes (QJ f n)
 | 0,_=>.nil
 | n+1,h=>(Z0w n fun i hi=>h i (by omega)).append (h n (by omega))
theorem Z9h {t:TxS} (h:Z00 t) (core:Bool):Bytes (Wh Zt t core):=by
 unfold Wh Yz YR
 exact ((((Xc _).append (Xc _)).append (Z0w _ fun i hi=>Zc3 (h.ins i hi) core)).append (Xc _)).append (Z0w _ fun i hi=>Z9g (h.outs i hi))
def Vy (a b c:Int):Nat->Int
 | 0=>0
 | i+1=>if 2<=u32.wrap (u32.wrap (Int.tmod (Zw .u32 a i) 2+Int.tmod (Zw .u32 b i) 2)+Int.tmod (Zw .u32 c i) 2) then u32.wrap (Vy a b c i+ZI .u32 1 i) else Vy a b c i
def U6 (a b c:Int):Nat->Int
 | 0=>0
 | i+1=>u32.wrap (U6 a b c i+ZI .u32 (if Int.tmod (Zw .u32 a i) 2=1 then Int.tmod (Zw .u32 b i) 2 else Int.tmod (Zw .u32 c i) 2) i)
def moS (a b c:Int) (o:Int) (i:Nat):St:=⟨33,[(8,.int .u64 i),(0,.int .u32 a),(1,.int .u32 b),(2,.int .u32 c),(7,.int .u32 o)],⟨0,[]⟩,[]⟩
def moR (o:Int):St:=⟨33,[(7,.int .u32 o)],⟨0,[]⟩,[]⟩
theorem Zj3 {x:Int} (h:0<=x/\x<18446744073709551616):u64.wrap x=x:=by
 unfold wrap
 simp [IntKind.bits,IntKind.signed]
 omega
theorem Zkk (a b c o o':Int) (i:Nat) (Z1 Z2:Prop) (hi:i<=32) (ho:o'=if 2<=u32.wrap (u32.wrap (Int.tmod (Zw .u32 a i) 2+Int.tmod (Zw .u32 b i) 2)+Int.tmod (Zw .u32 c i) 2) then u32.wrap (o+ZI .u32 1 i) else o) (h1:i<32->Z1) (h2:i=32->Z2):
  ZL G0 20 291 0 0 (moS a b c o i) (rdM 0 0 9 (moS a b c o' (i+1)) (moR o) (moR o) (moR o) Z1 Z2 False False):=by
 refine @Eq.mpr _ (let g:=decide (wrap u64 ((↑i:Int)+1)=(↑(i+1):Int));let f:=decide (a=a);let e:=decide (b=b);let d:=decide (c=c);
 Z0 (decide ((↑i:Int)<32)) (Z0 (decide (wrap u32 (wrap u32 (Int.tmod (Zw u32 a (↑i:Int)) 2+Int.tmod (Zw u32 b (↑i:Int)) 2)+Int.tmod (Zw u32 c (↑i:Int)) 2)>=2)) (Z7 g (Z7 f (Z7 e (Z7 d (Z6 (wrap u32 (o+ZI u32 1 (↑i:Int))=o') Z1))))) (Z7 g (Z7 f (Z7 e (Z7 d (Z6 (o=o') Z1)))))) (Z6 (o=o) Z2)) (by kernel_rfl) ?_
 conv=>zeta
 try simp only [vcA]
 try simp only [vcB]
 try simp only [vcC]
 have hw:u64.wrap ((i:Int)+1)=((i+1:Nat):Int):=Zj3 (by omega)
 refine ⟨fun hlt=>⟨fun hc=> ?_,fun hc=> ?_⟩,fun hge=>h2 (by omega)⟩
 ·rw [if_pos hc] at ho
  exact ⟨hw,ho.symm,h1 (by omega)⟩
 ·rw [if_neg hc] at ho
  exact ⟨hw,ho.symm,h1 (by omega)⟩
theorem Zkl (a b c o o':Int) (i:Nat) (Z1 Z2:Prop) (hi:i<=32) (ho:o'=u32.wrap (o+ZI .u32 (if Int.tmod (Zw .u32 a i) 2=1 then Int.tmod (Zw .u32 b i) 2 else Int.tmod (Zw .u32 c i) 2) i)) (h1:i<32->Z1) (h2:i=32->Z2):
  ZL G0 20 290 0 0 (moS a b c o i) (rdM 0 0 9 (moS a b c o' (i+1)) (moR o) (moR o) (moR o) Z1 Z2 False False):=by
 refine @Eq.mpr _ (let g:=decide (wrap u64 ((↑i:Int)+1)=(↑(i+1):Int));let f:=decide (a=a);let e:=decide (b=b);let d:=decide (c=c);
 Z0 (decide ((↑i:Int)<32)) (Z0 (Int.tmod (Zw u32 a (↑i:Int)) 2==1) (Z7 g (Z7 f (Z7 e (Z7 d (Z6 (wrap u32 (o+ZI u32 (Int.tmod (Zw u32 b (↑i:Int)) 2) (↑i:Int))=o') Z1))))) (Z7 g (Z7 f (Z7 e (Z7 d (Z6 (wrap u32 (o+ZI u32 (Int.tmod (Zw u32 c (↑i:Int)) 2) (↑i:Int))=o') Z1)))))) (Z6 (o=o) Z2)) (by kernel_rfl) ?_
 conv=>zeta
 try simp only [vcA]
 try simp only [vcB]
 try simp only [vcC]
 have hw:u64.wrap ((i:Int)+1)=((i+1:Nat):Int):=Zj3 (by omega)
 refine ⟨fun hlt=>⟨fun hc=> ?_,fun hc=> ?_⟩,fun hge=>h2 (by omega)⟩
 ·rw [if_pos (by simpa using hc)] at ho
  exact ⟨hw,ho.symm,h1 (by omega)⟩
 ·rw [if_neg (by simpa using hc)] at ho
  exact ⟨hw,ho.symm,h1 (by omega)⟩
@[irreducible] def XJ (a b c:Int):Int:=Vy a b c 32
@[irreducible] def XE (a b c:Int):Int:=U6 a b c 32
noncomputable def Zkm (a b c:Int):Za:=G0.withL 291 0 (goM 0 (moS a b c 0 0) True (YB 0 32 9 (fun i=>i<32) (fun i=>i=32) (fun _=>False) (fun _=>False) (fun i=>moR (Vy a b c i)) (fun i=>moR (Vy a b c i)) (fun i=>moR (Vy a b c i))))
theorem Zhz (a b c:Int):(Zkm a b c).Ok:=by
 unfold Zkm
 refine Za.withGoM (N:=20) (S:=fun i=>moS a b c (Vy a b c i) i) Zr (by kernel_rfl) fun hC=>⟨rfl,fun i hi hgo=> ?_⟩
 exact Zkk a b c (Vy a b c i) (Vy a b c (i+1)) i _ _ hi rfl (fun h=>⟨h,h⟩) (fun h=>h)
noncomputable def Zkn (a b c:Int):Za:=G0.withL 290 0 (goM 0 (moS a b c 0 0) True (YB 0 32 9 (fun i=>i<32) (fun i=>i=32) (fun _=>False) (fun _=>False) (fun i=>moR (U6 a b c i)) (fun i=>moR (U6 a b c i)) (fun i=>moR (U6 a b c i))))
theorem ZhA (a b c:Int):(Zkn a b c).Ok:=by
 unfold Zkn
 refine Za.withGoM (N:=20) (S:=fun i=>moS a b c (U6 a b c i) i) Zr (by kernel_rfl) fun hC=>⟨rfl,fun i hi hgo=> ?_⟩
 exact Zkl a b c (U6 a b c i) (U6 a b c (i+1)) i _ _ hi rfl (fun h=>⟨h,h⟩) (fun h=>h)
theorem Zko (a b c:Int) (o:Int) (ho:o=Vy a b c 32):
  evF (Zkm a b c) 20 291 [.int .u32 a,.int .u32 b,.int .u32 c] ⟨0,[]⟩ (YC 0 [] (.int .u32 o) 0 []):=by
 refine @Eq.mpr _ (Z6 (a=a) (Z6 (b=b) (Z6 (c=c) (True/\∀(i:Nat),i<=32->(∀(j:Nat),j<i->(fun (i:Nat)=>i<32) j)->(i=32->Z6 (Vy a b c i=o) True)/\(False->False)/\(False->False))))) (by kernel_rfl) ?_
 try simp only [vcA]
 try simp only [vcB]
 try simp only [vcC]
 subst ho
 exact fun i hi _=>⟨fun he=>by subst he;rfl,fun h=>h,fun h=>h⟩
theorem Zkp (a b c:Int) (o:Int) (ho:o=U6 a b c 32):
  evF (Zkn a b c) 20 290 [.int .u32 a,.int .u32 b,.int .u32 c] ⟨0,[]⟩ (YC 0 [] (.int .u32 o) 0 []):=by
 refine @Eq.mpr _ (Z6 (a=a) (Z6 (b=b) (Z6 (c=c) (True/\∀(i:Nat),i<=32->(∀(j:Nat),j<i->(fun (i:Nat)=>i<32) j)->(i=32->Z6 (U6 a b c i=o) True)/\(False->False)/\(False->False))))) (by kernel_rfl) ?_
 try simp only [vcA]
 try simp only [vcB]
 try simp only [vcC]
 subst ho
 exact fun i hi _=>⟨fun he=>by subst he;rfl,fun h=>h,fun h=>h⟩
def Z2o (F:Int->Int->Int->Int):ZF:=fun args _ K=>match args with
 | [.int .u32 a,.int .u32 b,.int .u32 c]=>K (.int .u32 (F a b c))
 | _=>False
theorem Z3J {f:FuncId} {F:Int->Int->Int->Int} (hp:∀a b c,Zx PP f [.int .u32 a,.int .u32 b,.int .u32 c] (.int .u32 (F a b c)) 0 []) (args:List AV) (h:Z8) (K:AV->Prop) (hl:Z2o F args h K):Zd PP f args h fun o h'=>∃v,o=.ret v/\h'=h/\K v:=by
 unfold Z2o at hl
 split at hl
 ·rename_i a b c
  refine Q4 (d:=20) (K0:=fun l=>l=[.int .u32 a,.int .u32 b,.int .u32 c]) ?_ fun l e=>⟨_,by rw [e];exact hp a b c,fun _=>rfl,hl⟩
  rfl
 ·exact hl.elim
def sg3 (a b c:Int) (w:Int):Int:=Yu .u32 (Yu .u32 (Z8Q w (32-a)) (Z8Q w (32-b))) (Z8Q w (32-c))
def rg3 (a b n:Int) (w:Int):Int:=Yu .u32 (Yu .u32 (Z8Q w (32-a)) (Z8Q w (32-b))) (Zw .u32 w n)
def Z9i (bl:LI) (t:Nat):Int:=u32.wrap (u32.wrap (u32.wrap (ZI .u32 (u32.wrap (bl.getD (4*t) 0)) 24+ZI .u32 (u32.wrap (bl.getD (4*t+1) 0)) 16)+ZI .u32 (u32.wrap (bl.getD (4*t+2) 0)) 8)+u32.wrap (bl.getD (4*t+3) 0))
def Zev (m:LI) (t:Nat):Int:=u32.wrap (u32.wrap (u32.wrap (rg3 17 19 10 (m.getD (t-2) 0)+m.getD (t-7) 0)+rg3 7 18 3 (m.getD (t-15) 0))+m.getD (t-16) 0)
def WD (bl:LI):Nat->LI
 | 0=>List.replicate 64 0
 | t+1=>(WD bl t).set t (if t<16 then Z9i bl t else Zev (WD bl t) t)
theorem Z3K (bl:LI):∀t,(WD bl t).length=64
 | 0=>rfl
 | t+1=>by simp [WD,Z3K bl t]
def prS (st bl m:LI) (i:Nat):St:=⟨146,[(6,.int .i64 i),(3,pt 1),(5,pt 3),(2,pt 0),(4,pt 2)],⟨4,[(3,.flat [.arr .u32 64 m]),(2,.flat [.arr .u32 8 [0,0,0,0,0,0,0,0]]),(1,.flat [.arr .u8 64 bl]),(0,.flat [.arr .u32 8 st])]⟩,[]⟩
theorem Zpm (st bl m m':LI) (i:Nat) (Z1 Z2:Prop) (hi:i<=64) (hm:m.length=64) (hm':m'=m.set i (if i<16 then Z9i bl i else Zev m i)) (h1:i<64->Z1) (h2:i=64->Z2):
  ZL G0 20 269 0 0 (prS st bl m i) (rdM 0 0 9 (prS st bl m' (i+1)) (prS st bl m i) (prS st bl m i) (prS st bl m i) Z1 Z2 False False):=by
 refine @Eq.mpr _ (let b:=wrap i64 (4*(↑i:Int));let A:=0+Int.toNat b;let h:=wrap i64 (b+1);let u:=0+Int.toNat h;let f:=wrap i64 (b+2);let t:=0+Int.toNat f;let e:=wrap i64 (b+3);let s:=0+Int.toNat e;let r:=decide (0<=(↑i:Int)/\(↑i:Int)<64);let d:=0+Int.toNat (↑i:Int);let H:=decide (u32=u32/\d<64/\d<m.length);let G:=decide (wrap i64 ((↑i:Int)+1)=(↑(i+1):Int));let F:=[(0:Int),0,0,0,0,0,0,0];let E:=F=F;let D:=E/\bl=bl/\st=st/\Z1;let q:=wrap i64 ((↑i:Int)-2);let C:=0+Int.toNat q;let p:=wrap i64 ((↑i:Int)-7);let B:=0+Int.toNat p;let o:=decide (B<64);let n:=wrap i64 ((↑i:Int)-15);let z:=0+Int.toNat n;let y:=decide (z<64);let l:=wrap i64 ((↑i:Int)-16);let x:=0+Int.toNat l;let k:=decide (x<64);let j:=List.getD m x 0;let w:=decide (j=j);let a:=List.getD m z 0;let g:=List.getD m B 0;let v:=decide (g=g);let c:=List.getD m C 0;
 Z0 (decide ((↑i:Int)<64)) (Z0 (decide ((↑i:Int)<16)) (Z6 (0<=b/\b<64) (Z6 (A<64) (Z6 (0<=h/\h<64) (Z6 (u<64) (Z6 (0<=f/\f<64) (Z6 (t<64) (Z6 (0<=e/\e<64) (Z6 (s<64) (Z7 r (Z7 H (Z7 G (List.set m d (wrap u32 (wrap u32 (wrap u32 (ZI u32 (wrap u32 (List.getD bl A 0)) 24+ZI u32 (wrap u32 (List.getD bl u 0)) 16)+ZI u32 (wrap u32 (List.getD bl t 0)) 8)+wrap u32 (List.getD bl s 0)))=m'/\D)))))))))))) (Z6 (0<=q/\q<64) (Z6 (C<64) (Z6 (0<=p/\p<64) (Z7 o (Z6 (0<=n/\n<64) (Z7 y (Z6 (0<=l/\l<64) (Z7 k (Z7 k (Z7 w (Z7 y (Z6 (a=a) (Z7 o (Z7 v (Z7 k (Z7 w (Z7 o (Z7 v (Z7 r (Z7 H (Z7 G (List.set m d (wrap u32 (wrap u32 (wrap u32 (Yu u32 (Yu u32 (bOr u32 (ZI u32 c 15) (Zw u32 c 17)) (bOr u32 (ZI u32 c 13) (Zw u32 c 19))) (Zw u32 c 10)+g)+Yu u32 (Yu u32 (bOr u32 (ZI u32 a 25) (Zw u32 a 7)) (bOr u32 (ZI u32 a 14) (Zw u32 a 18))) (Zw u32 a 3))+j))=m'/\D))))))))))))))))))))))) (Z6 ((↑i:Int)=(↑i:Int)) (m=m/\E/\bl=bl/\st=st/\Z2))) (by kernel_rfl) ?_
 conv=>zeta
 try simp only [vcA]
 try simp only [vcB]
 try simp only [vcC]
 have hw:i64.wrap ((i:Int)+1)=((i+1:Nat):Int):=w64 (by omega)
 refine ⟨fun hlt=>⟨fun h16=> ?_,fun h16=> ?_⟩,fun hge=>h2 (by omega)⟩
 ·have e0:i64.wrap (4*(i:Int))=((4*i:Nat):Int):=by rw [w64 (by omega)];omega
  have e1:i64.wrap (((4*i:Nat):Int)+1)=((4*i+1:Nat):Int):=by rw [w64 (by omega)];omega
  have e2:i64.wrap (((4*i:Nat):Int)+2)=((4*i+2:Nat):Int):=by rw [w64 (by omega)];omega
  have e3:i64.wrap (((4*i:Nat):Int)+3)=((4*i+3:Nat):Int):=by rw [w64 (by omega)];omega
  rw [if_pos (by omega)] at hm'
  simp only [e0,e1,e2,e3,hw,Jk]
  repeat' (first|(refine Ja ?_ ?_)|intro _)
  all_goals first|omega|exact hm'.symm|exact h1 (by omega)|trivial
 ·have e0:i64.wrap ((i:Int)-2)=((i-2:Nat):Int):=by rw [w64 (by omega)];omega
  have e1:i64.wrap ((i:Int)-7)=((i-7:Nat):Int):=by rw [w64 (by omega)];omega
  have e2:i64.wrap ((i:Int)-15)=((i-15:Nat):Int):=by rw [w64 (by omega)];omega
  have e3:i64.wrap ((i:Int)-16)=((i-16:Nat):Int):=by rw [w64 (by omega)];omega
  rw [if_neg (by omega)] at hm'
  simp only [e0,e1,e2,e3,hw]
  repeat' (first|(refine Ja ?_ ?_))
  all_goals first|omega|exact hm'.symm|exact h1 (by omega)|trivial
noncomputable def ZmS (st bl:LI):Za:=G0.withL 269 0 (goM 0 (prS st bl (List.replicate 64 0) 0) True (YB 0 64 9 (fun i=>i<64) (fun i=>i=64) (fun _=>False) (fun _=>False) (fun i=>prS st bl (WD bl i) i) (fun i=>prS st bl (WD bl i) i) (fun i=>prS st bl (WD bl i) i)))
theorem ZhB (st bl:LI):(ZmS st bl).Ok:=by
 refine Za.withGoM (N:=20) (S:=fun i=>prS st bl (WD bl i) i) Zr (by kernel_rfl) fun hC=>⟨rfl,fun i hi hgo=> ?_⟩
 simp_all [Zpm,WD,Z3K]
noncomputable def E54 (M P:Int->Int->Int->Int):Za:=(G0.withP 291 (Z2o M)).withP 290 (Z2o P)
theorem Zkq:(E54 XJ XE).Ok:=Za.withP_ok (Za.withP_ok Zr (Z3J fun a b c=>by unfold XJ;exact .ev (Zhz a b c) (Zko a b c _ rfl))) (Z3J fun a b c=>by unfold XE;exact .ev (ZhA a b c) (Zkp a b c _ rfl))
def Z22 (M P:Int->Int->Int->Int) (k m:Int) (x:LI):LI:=
 let one:=u32.wrap (u32.wrap (u32.wrap (u32.wrap (x.getD 7 0+sg3 6 11 25 (x.getD 4 0))+P (x.getD 4 0) (x.getD 5 0) (x.getD 6 0))+k)+m)
 [u32.wrap (one+u32.wrap (sg3 2 13 22 (x.getD 0 0)+M (x.getD 0 0) (x.getD 1 0) (x.getD 2 0))),x.getD 0 0,x.getD 1 0,x.getD 2 0,u32.wrap (x.getD 3 0+one),x.getD 4 0,x.getD 5 0,x.getD 6 0]
def Qd (M P:Int->Int->Int->Int) (m st:LI):Nat->LI
 | 0=>st
 | t+1=>Z22 M P (VI.getD t 0) (m.getD t 0) (Qd M P m st t)
theorem Zc4 (M P:Int->Int->Int->Int) (m st:LI) (t:Nat):Qd M P m st (t+1)=Z22 M P (VI.getD t 0) (m.getD t 0) (Qd M P m st t):=rfl
theorem Zc5 (M P:Int->Int->Int->Int) (m st:LI):Qd M P m st 0=st:=rfl
theorem Z12 {M P:Int->Int->Int->Int} {m st:LI} (h:st.length=8):∀t,(Qd M P m st t).length=8
 | 0=>h
 | _+1=>rfl
def prT (st k m x:LI) (i:Nat):St:=⟨146,[(9,.int .i64 i),(8,pt 6),(7,pt 5),(5,pt 3),(2,pt 0),(4,pt 2)],⟨7,[(6,.flat [.arr .u32 8 x]),(5,.flat [.arr .u32 64 k]),(3,.flat [.arr .u32 64 m]),(2,.flat [.arr .u32 8 [0,0,0,0,0,0,0,0]]),(0,.flat [.arr .u32 8 st])]⟩,[]⟩
def prU (st x:LI):St:=⟨146,[(8,pt 6),(2,pt 0),(4,pt 2)],⟨7,[(6,.flat [.arr .u32 8 x]),(2,.flat [.arr .u32 8 [0,0,0,0,0,0,0,0]]),(0,.flat [.arr .u32 8 st])]⟩,[]⟩
theorem Zpn (M P:Int->Int->Int->Int) (st k m x':LI) (x0 x1 x2 x3 x4 x5 x6 x7:Int) (i:Nat) (Z1 Z2:Prop) (hi:i<=64) (hx:x'=Z22 M P (k.getD i 0) (m.getD i 0) [x0,x1,x2,x3,x4,x5,x6,x7]) (h1:i<64->Z1) (h2:i=64->Z2):
  ZL (E54 M P) 20 269 2 0 (prT st k m [x0,x1,x2,x3,x4,x5,x6,x7] i) (rdM 0 2 9 (prT st k m x' (i+1)) (prU st [x0,x1,x2,x3,x4,x5,x6,x7]) (prU st [x0,x1,x2,x3,x4,x5,x6,x7]) (prU st [x0,x1,x2,x3,x4,x5,x6,x7]) Z1 Z2 False False):=by
 refine @Eq.mpr _ (let l:=decide (0<=(↑i:Int)/\(↑i:Int)<64);let a:=0+Int.toNat (↑i:Int);let h:=decide (a<64);let g:=decide (a<64);let c:=List.getD m a 0;let b:=List.getD k a 0;let f:=wrap u32 (wrap u32 (wrap u32 (wrap u32 (x7+Yu u32 (Yu u32 (bOr u32 (ZI u32 x4 26) (Zw u32 x4 6)) (bOr u32 (ZI u32 x4 21) (Zw u32 x4 11))) (bOr u32 (ZI u32 x4 7) (Zw u32 x4 25)))+P x4 x5 x6)+b)+c);let e:=[(0:Int),0,0,0,0,0,0,0];let d:=e=e;let j:=[x0,x1,x2,x3,x4,x5,x6,x7];
 Z0 (decide ((↑i:Int)<64)) (Z0 l (Z0 h (Z0 l (Z0 g (Z0 g (Z0 (decide (c=c)) (Z0 h (Z0 (decide (b=b)) (Z0 (decide (x6=x6)) (Z0 (decide (x5=x5)) (Z0 (decide (x4=x4)) (Z0 (decide (x7=x7)) (Z0 (decide (x2=x2)) (Z0 (decide (x1=x1)) (Z0 (decide (x0=x0)) (Z0 (decide (wrap i64 ((↑i:Int)+1)=(↑(i+1):Int))) ([wrap u32 (f+wrap u32 (Yu u32 (Yu u32 (bOr u32 (ZI u32 x0 30) (Zw u32 x0 2)) (bOr u32 (ZI u32 x0 19) (Zw u32 x0 13))) (bOr u32 (ZI u32 x0 10) (Zw u32 x0 22))+M x0 x1 x2)),x0,x1,x2,wrap u32 (x3+f),x4,x5,x6]=x'/\k=k/\m=m/\d/\st=st/\Z1) False) False) False) False) False) False) False) False) False) False) False) False) False) False) False) False) (j=j/\d/\st=st/\Z2)) (by kernel_rfl) ?_
 conv=>zeta
 try simp only [Zc]
 try simp only [Zl]
 try simp only [Zg]
 try simp only [Zm]
 try simp only [Zn]
 try simp only [Zh]
 try simp only [Jf,true_and,and_true]
 have hw:i64.wrap ((i:Int)+1)=((i+1:Nat):Int):=w64 (by omega)
 refine ⟨fun hlt=> ?_,fun hge=>h2 (by omega)⟩
 repeat' (first|(refine Ja ?_ ?_))
 all_goals first|exact hx.symm|grind
def prV (st x:LI) (i:Nat):St:=⟨146,[(12,.int .i64 i),(8,pt 6),(2,pt 0),(4,pt 2)],⟨7,[(6,.flat [.arr .u32 8 x]),(2,.flat [.arr .u32 8 [0,0,0,0,0,0,0,0]]),(0,.flat [.arr .u32 8 st])]⟩,[]⟩
def U7 (st x:LI):Nat->LI
 | 0=>x
 | i+1=>(U7 st x i).set i (u32.wrap ((U7 st x i).getD i 0+st.getD i 0))
theorem Z3L {st x:LI} (h:x.length=8):∀i,(U7 st x i).length=8
 | 0=>h
 | i+1=>by simp [U7,Z3L h i]
theorem Zpo (st x x':LI) (i:Nat) (Z1 Z2:Prop) (hi:i<=8) (hl:x.length=8) (hs:st.length=8) (hx:x'=x.set i (u32.wrap (x.getD i 0+st.getD i 0))) (h1:i<8->Z1) (h2:i=8->Z2):
  ZL G0 20 269 4 0 (prV st x i) (rdM 0 4 9 (prV st x' (i+1)) (prU st x) (prU st x) (prU st x) Z1 Z2 False False):=by
 refine @Eq.mpr _ (let b:=decide (0<=(↑i:Int)/\(↑i:Int)<8);let a:=0+Int.toNat (↑i:Int);let d:=[(0:Int),0,0,0,0,0,0,0];let c:=d=d;
 Z0 (decide ((↑i:Int)<8)) (Z0 b (Z0 (decide (a<8)) (Z0 b (Z0 (decide (a<8)) (Z0 b (Z0 (decide (u32=u32/\a<8/\a<x.length)) (Z0 (decide (wrap i64 ((↑i:Int)+1)=(↑(i+1):Int))) (List.set x a (wrap u32 (List.getD x a 0+List.getD st a 0))=x'/\c/\st=st/\Z1) False) False) False) False) False) False) False) (x=x/\c/\st=st/\Z2)) (by kernel_rfl) ?_
 conv=>zeta
 try simp only [Zc]
 try simp only [Zl]
 try simp only [Zg]
 try simp only [Zm]
 try simp only [Zn]
 try simp only [Zh]
 try simp only [and_true]
 have hw:i64.wrap ((i:Int)+1)=((i+1:Nat):Int):=w64 (by omega)
 grind
def ZmT (M P:Int->Int->Int->Int) (st m:LI):Nat->St->KE->Prop:=goM 0 (prT st VI m st 0) (st.length=8) (YB 2 64 9 (fun i=>i<64) (fun i=>i=64) (fun _=>False) (fun _=>False) (fun i=>prU st (Qd M P m st i)) (fun i=>prU st (Qd M P m st i)) (fun i=>prU st (Qd M P m st i)))
theorem ZhC (st m:LI):((E54 XJ XE).withL 269 2 (ZmT XJ XE st m)).Ok:=by
 refine Za.withGoM (N:=20) (S:=fun i=>prT st VI m (Qd XJ XE m st i) i) Zkq (by kernel_rfl) fun hC=>⟨rfl,fun i hi hgo=> ?_⟩
 obtain ⟨x0,x1,x2,x3,x4,x5,x6,x7,e⟩:=eight _ (Z12 (M:=XJ) (P:=XE) (m:=m) hC i)
 show ZL _ 20 269 2 0 (prT st VI m (Qd XJ XE m st i) i) (rdM 0 2 9 (prT st VI m (Z22 XJ XE (VI.getD i 0) (m.getD i 0) (Qd XJ XE m st i)) (i+1)) _ _ _ _ _ _ _)
 rw [e]
 exact Zpn XJ XE st VI m _ x0 x1 x2 x3 x4 x5 x6 x7 i _ _ hi rfl (fun h=>⟨h,h⟩) (fun h=>h)
def ZmU (st x:LI):Nat->St->KE->Prop:=goM 0 (prV st x 0) (st.length=8/\x.length=8) (YB 4 8 9 (fun i=>i<8) (fun i=>i=8) (fun _=>False) (fun _=>False) (fun i=>prU st (U7 st x i)) (fun i=>prU st (U7 st x i)) (fun i=>prU st (U7 st x i)))
theorem ZhD (st x:LI):(G0.withL 269 4 (ZmU st x)).Ok:=by
 refine Za.withGoM (N:=20) (S:=fun i=>prV st (U7 st x i) i) Zr (by kernel_rfl) fun hC=>⟨rfl,fun i hi hgo=> ?_⟩
 simp_all [Zpo,U7,Z3L]
noncomputable def ZmV (M P:Int->Int->Int->Int) (st bl m x:LI):Za:=((ZmS st bl).withL 269 2 (ZmT M P st m)).withL 269 4 (ZmU st x)
theorem ZhE (st bl m x:LI):(ZmV XJ XE st bl m x).Ok:=by
 exact Za.withL_join (H:=G0) (Za.withL_join (H:=E54 XJ XE) (ZhB st bl) rfl (ZhC st m)) rfl (ZhD st x)
@[irreducible] def XZ (st bl:LI):LI:=U7 st (Qd XJ XE (WD bl 64) st 64) 8
attribute [irreducible] WD Qd U7
theorem Zpp (M P:Int->Int->Int->Int) (st bl m x r:LI) (hst:st.length=8) (hm:m=WD bl 64) (hx:x=Qd M P m st 64) (hr:r=U7 st x 8):
  evF (ZmV M P st bl m x) 20 269 [.agg [.arr .u32 8 st],.agg [.arr .u8 64 bl]] ⟨0,[]⟩ (YC 0 [] (.agg [.arr .u32 8 r]) 0 []):=by
 refine @Eq.mpr _ ((0:Int)::(0:Int)::(0:Int)::(0:Int)::(0:Int)::(0:Int)::(0:Int)::(0:Int)::(0:Int)::(0:Int)::(0:Int)::(0:Int)::(0:Int)::(0:Int)::(0:Int)::(0:Int)::(0:Int)::(0:Int)::(0:Int)::(0:Int)::(0:Int)::(0:Int)::(0:Int)::(0:Int)::(0:Int)::(0:Int)::(0:Int)::(0:Int)::(0:Int)::(0:Int)::(0:Int)::(0:Int)::Z5=(0:Int)::(0:Int)::(0:Int)::(0:Int)::(0:Int)::(0:Int)::(0:Int)::(0:Int)::(0:Int)::(0:Int)::(0:Int)::(0:Int)::(0:Int)::(0:Int)::(0:Int)::(0:Int)::(0:Int)::(0:Int)::(0:Int)::(0:Int)::(0:Int)::(0:Int)::(0:Int)::(0:Int)::(0:Int)::(0:Int)::(0:Int)::(0:Int)::(0:Int)::(0:Int)::(0:Int)::(0:Int)::Z5/\
 [(0:Int),(0:Int),(0:Int),(0:Int),(0:Int),(0:Int),(0:Int),(0:Int)]=[(0:Int),(0:Int),(0:Int),(0:Int),(0:Int),(0:Int),(0:Int),(0:Int)]/\
 bl=bl/\
 st=st/\
 True/\
 ∀(i:Nat),
 i<=(64:Nat)->
 (∀(j:Nat),j<i->(fun (i:Nat)=>i<(64:Nat)) j)->
 (i=(64:Nat)->
 st=st/\
 [(1116352408:Int),(1899447441:Int),(3049323471:Int),(3921009573:Int),(961987163:Int),(1508970993:Int),(2453635748:Int),(2870763221:Int),(3624381080:Int),(310598401:Int),(607225278:Int),(1426881987:Int),(1925078388:Int),(2162078206:Int),(2614888103:Int),(3248222580:Int),(3835390401:Int),(4022224774:Int),(264347078:Int),(604807628:Int),(770255983:Int),(1249150122:Int),(1555081692:Int),(1996064986:Int),(2554220882:Int),(2821834349:Int),(2952996808:Int),(3210313671:Int),(3336571891:Int),(3584528711:Int),(113926993:Int),(338241895:Int),(666307205:Int),(773529912:Int),(1294757372:Int),(1396182291:Int),(1695183700:Int),(1986661051:Int),(2177026350:Int),(2456956037:Int),(2730485921:Int),(2820302411:Int),(3259730800:Int),(3345764771:Int),(3516065817:Int),(3600352804:Int),(4094571909:Int),(275423344:Int),(430227734:Int),(506948616:Int),
 (659060556:Int),(883997877:Int),(958139571:Int),(1322822218:Int),(1537002063:Int),(1747873779:Int),(1955562222:Int),(2024104815:Int),(2227730452:Int),(2361852424:Int),(2428436474:Int),(2756734187:Int),(3204031479:Int),(3329325298:Int)]=
 VI/\
 WD bl i=m/\
 [(0:Int),(0:Int),(0:Int),(0:Int),(0:Int),(0:Int),(0:Int),(0:Int)]=[(0:Int),(0:Int),(0:Int),(0:Int),(0:Int),(0:Int),(0:Int),(0:Int)]/\st=st/\st.length=(8:Nat)/\∀(i:Nat),i<=(64:Nat)->(∀(j:Nat),j<i->(fun (i:Nat)=>i<(64:Nat)) j)->(i=(64:Nat)->Qd M P m st i=x/\[(0:Int),(0:Int),(0:Int),(0:Int),(0:Int),(0:Int),(0:Int),(0:Int)]=[(0:Int),(0:Int),(0:Int),(0:Int),(0:Int),(0:Int),(0:Int),(0:Int)]/\st=st/\(st.length=(8:Nat)/\x.length=(8:Nat))/\∀(i:Nat),i<=(8:Nat)->(∀(j:Nat),j<i->(fun (i:Nat)=>i<(8:Nat)) j)->(i=(8:Nat)->U7 st x i=r/\True)/\(False->[(0:Int),(0:Int),(0:Int),(0:Int),(0:Int),(0:Int),(0:Int),(0:Int)]=r/\True)/\(False->False))/\(False->[(0:Int),(0:Int),(0:Int),(0:Int),(0:Int),(0:Int),(0:Int),(0:Int)]=r/\True)/\(False->False))/\
 (False->[(0:Int),(0:Int),(0:Int),(0:Int),(0:Int),(0:Int),(0:Int),(0:Int)]=r/\True)/\(False->False)) (by kernel_rfl) ?_
 try simp only [Zc]
 try simp only [Zl]
 try simp only [Zg]
 try simp only [Zm]
 try simp only [Zn]
 try simp only [Zh]
 try simp only [true_and,and_true]
 subst hm
 have hl:x.length=8:=by rw [hx];exact Z12 hst _
 exact fun i _ _=>⟨fun he=>⟨by kernel_rfl,by rw [he],hst,fun j _ _=>⟨fun hj=>⟨by rw [hj,hx],⟨hst,hl⟩,fun q _ _=>⟨fun hq=>by rw [hq,hr],fun h=>h.elim,fun h=>h⟩⟩,fun h=>h.elim,fun h=>h⟩⟩,fun h=>h.elim,fun h=>h⟩
theorem Z7r (st bl:LI) (h:st.length=8):Zx PP 269 [.agg [.arr .u32 8 st],.agg [.arr .u8 64 bl]] (.agg [.arr .u32 8 (XZ st bl)]) 0 []:=by
 unfold XZ
 exact .ev (ZhE st bl _ _) (Zpp XJ XE st bl _ _ _ h rfl rfl rfl)
theorem Z69 {st:LI} (h:st.length=8):(XZ st bl).length=8:=by simp_all [XZ,Z3L,Z12]
def ZhF (n i:Int):Int:=u8.wrap (Int.tmod (Zw .u64 (u64.wrap (u64.wrap n*8)) (u64.wrap (i64.wrap (56-i64.wrap (8*i))))) 256)
def Vh (n:Int):Nat->LI
 | 0=>[]
 | i+1=>Vh n i++[ZhF n i]
theorem Z3M (n:Int):∀i,(Vh n i).length=i
 | 0=>rfl
 | i+1=>by rw [Vh,J9,Z3M n i];rfl
def paS (bs ys:LI) (n L i:Nat):St:=⟨39,[(5,.int .i64 i),(4,.nslice ⟨3,0,0,0,0⟩ 1 L L),(0,.vints .u8 bs n)],⟨4,[(3,.ints .u8 ys)]⟩,[]⟩
theorem ZmW (bs ys zs:LI) (n L L' i:Nat) (Z1 Z2:Prop) (hi:i<=8) (hL:ys.length=L) (hb:L<10000000000000) (hz:zs=ys++[ZhF n i]) (hL':L'=zs.length) (h1:i<8->Z1) (h2:i=8->Z2):
  ZL G0 20 268 0 0 (paS bs ys n L i) (rdM 0 0 9 (paS bs zs n L' (i+1)) (paS bs ys n L i) (paS bs ys n L i) (paS bs ys n L i) Z1 Z2 False False):=by
 refine @Eq.mpr _ (let d:=wrap u64 (wrap i64 (56-wrap i64 (8*(↑i:Int))));let c:=ys++[wrap u8 (Int.tmod (Zw u64 (wrap u64 (wrap u64 (↑n:Int)*8)) d) 256)];let a:=c.length;let b:=decide (n=n);
 Z0 (decide ((↑i:Int)<8)) (Z0 (decide (0<=d)) (Z0 (decide (u8=u8/\ys.length=L)) (Z0 (decide (a*1<=140737488355328)) (Z0 (decide (wrap i64 ((↑i:Int)+1)=(↑(i+1):Int))) (Z0 (decide (a=L')) (Z0 (decide (L'<=a)) (bs=bs/\Z0 b (c=zs/\Z1) False) False) False) False) False) False) False) (Z0 (decide ((↑i:Int)=(↑i:Int))) (Z0 (decide (L=L)) (Z0 (decide (L<=L)) (bs=bs/\Z0 b (ys=ys/\Z2) False) False) False) False)) (by kernel_rfl) ?_
 conv=>zeta
 try simp only [Zc]
 try simp only [Zl]
 try simp only [Zg]
 try simp only [Zm]
 try simp only [Zn]
 try simp only [Zh]
 try simp only [true_and,J2]
 have hw:i64.wrap ((i:Int)+1)=((i+1:Nat):Int):=w64 (by omega)
 refine ⟨fun hlt=> ?_,fun hge=>h2 (by omega)⟩
 have h0:0<=u64.wrap (i64.wrap (56-i64.wrap (8*(i:Int)))):=by
  grind [wrap,IntKind.bits]
 repeat' (first|(refine Ja ?_ ?_))
 all_goals first|exact hz.symm|grind
noncomputable def ZmX (bs y:LI) (n:Nat):Za:=G0.withL 268 0 (goM 0 (paS bs (y++Vh n 0) n (y++Vh n 0).length 0) (y.length<=1000000000000) (YB 0 8 9 (fun i=>i<8) (fun i=>i=8) (fun _=>False) (fun _=>False) (fun i=>paS bs (y++Vh n i) n (y++Vh n i).length i) (fun i=>paS bs (y++Vh n i) n (y++Vh n i).length i) (fun i=>paS bs (y++Vh n i) n (y++Vh n i).length i)))
theorem ZhG (bs y:LI) (n:Nat):(ZmX bs y n).Ok:=by
 refine Za.withGoM (N:=20) (S:=fun i=>paS bs (y++Vh n i) n (y++Vh n i).length i) Zr (by kernel_rfl) fun hC=>⟨rfl,fun i hi hgo=> ?_⟩
 grind [Vh,Z3M,ZmW]
def Z7s (n:Nat):LI:=List.replicate (Int.tmod (i64.wrap (128-Int.tmod (i64.wrap ((n:Int)+9)) 64)) 64).toNat 0
@[irreducible] def Qe (bs:LI):LI:=(bs++[128]++Z7s bs.length)++Vh bs.length 8
theorem Zkr (n:Nat) (h:n<=100000000000):Int.tmod (i64.wrap (128-Int.tmod (i64.wrap ((n:Int)+9)) 64)) 64=(128-((n:Int)+9)%64)%64:=by
 have e1:i64.wrap ((n:Int)+9)=(n:Int)+9:=w64 (by omega)
 have e2:Int.tmod ((n:Int)+9) 64=((n:Int)+9)%64:=tm (by omega)
 have e3:i64.wrap (128-((n:Int)+9)%64)=128-((n:Int)+9)%64:=w64 (by omega)
 rw [e1,e2,e3,tm (by omega)]
theorem ZmY (n:Nat) (h:n<=100000000000):(Z7s n).length<=64:=by
 grind [Z7s]
theorem ZmZ (bs y r:LI) (n L:Nat) (hn:bs.length=n) (hb:n<=100000000000) (hy:y=bs++[128]++Z7s n) (hr:r=y++Vh n 8) (hL:L=r.length):
  evF (ZmX bs y n) 20 268 [.vints .u8 bs n] ⟨0,[]⟩ (ZK 0 (.ret (.nslice ⟨0,0,0,0,0⟩ 1 L L)) 1 [(0,.ints .u8 r)]):=by
 refine @Eq.mpr _ (let o:=[]++List.take n bs;let b:=o.length;let h:=o++[(128:Int)];let a:=h.length;let g:=Int.tmod (wrap i64 (128-Int.tmod (wrap i64 (↑n+9)) 64)) 64;let f:=Int.toNat g;let e:=h++List.replicate f 0;let d:=e.length;let c:=y++Vh (↑n) 0;let m:=c.length;
 Z0 (decide (b*1<=140737488355328))
 (Z0 (decide (u8=u8/\b=b))
 (Z0 (decide (a*1<=140737488355328))
 (Z0 (decide (u8=u8/\a=a))
 (Z0 (decide ((0:Int)=0/\0<=g/\(a+f)*1<=140737488355328))
 (Z0 (decide (d=m))
 (Z0 (decide (m<=d))
 (bs=bs/\
 Z0 (decide (n=n))
 (e=c/\
 y.length<=1000000000000/\
 ∀(i:Nat),
 let l:=y++Vh (↑n) i;let k:=l.length;
 i<=8->(∀(j:Nat),j<i->(fun (i:Nat)=>i<8) j)->(i=8->Z0 (decide (k=L)) (Z0 (decide (L<=k)) (l=r/\True) False) False)/\(False->False)/\(False->False))
 False)
 False)
 False)
 False)
 False)
 False)
 False)
 False) (by kernel_rfl) ?_
 conv=>zeta
 try simp only [Zc]
 try simp only [Zl]
 try simp only [Zg]
 try simp only [Zm]
 try simp only [Zn]
 try simp only [Zh]
 try simp only [and_true]
 have ht:List.take n bs=bs:=by grind
 have hx:=Zkr n hb
 have e0:[]++List.take n bs++[128]++List.replicate (Int.tmod (i64.wrap (128-Int.tmod (i64.wrap ((n:Int)+9)) 64)) 64).toNat 0=y++Vh n 0:=by rw [ht,hy];simp [Z7s,Vh]
 grind
theorem Zc6 (bs:LI) (h:bs.length<=100000000000):Zx PP 268 [.vints .u8 bs bs.length] (.nslice ⟨0,0,0,0,0⟩ 1 (Qe bs).length (Qe bs).length) 1 [(0,.ints .u8 (Qe bs))]:=.evM (ZhG bs _ _) (ZmZ bs _ _ _ _ rfl h rfl (by unfold Qe;rfl) rfl)
def Zj4 (P:LI->LI) (B:Nat):ZQ:=fun args h K=>ZG none h true 20 args fun a=>Up a fun xs=>Z6 (xs.length<=B) (K (.ret (.nslice ⟨h.next,0,0,0,0⟩ 1 (P xs).length (P xs).length)) ⟨h.next+1,(h.next,.ints .u8 (P xs))::h.bs⟩)
theorem Zew (B:Nat) (hB:B<=100000000000) (args:List AV) (h:Z8) (K:KO) (hl:Zj4 Qe B args h K):Zd PP 268 args h K:=by
 refine Zx.fsumm (d:=20) (Zq _ _ _ _ _ hl fun a ha=> ?_)
 obtain ⟨xs,rfl,hK⟩:=Wd ha
 obtain ⟨hx,hK⟩:=Zf hK
 exact ⟨_,_,_,_,Zc6 xs (K3 hx hB),rfl,⟨JC,.ints _ _,trivial⟩,hK⟩
def toE (x d:Int):Int:=u8.wrap (Int.tmod (u32.wrap (Int.tdiv x d)) 256)
def toN (x:LI):Nat->LI
 | 0=>Z5
 | i+1=>((((toN x i).set (4*i) (u8.wrap (u32.wrap (Int.tdiv (x.getD i 0) 16777216)))).set (4*i+1) (toE (x.getD i 0) 65536)).set (4*i+2) (toE (x.getD i 0) 256)).set (4*i+3) (u8.wrap (Int.tmod (x.getD i 0) 256))
theorem Z6a (x:LI):∀i,(toN x i).length=32
 | 0=>rfl
 | i+1=>by simp [toN,Z6a x i]
def toS (x h:LI) (i:Nat):St:=⟨47,[(4,.int .i64 i),(1,pt 0),(3,pt 2),(2,pt 1)],⟨3,[(2,.flat [.arr .u8 32 h]),(1,.flat [.arr .u8 32 Z5]),(0,.flat [.arr .u32 8 x])]⟩,[]⟩
theorem Zpq (x h h':LI) (i:Nat) (Z1 Z2:Prop) (hi:i<=8) (hl:h.length=32) (hh:h'=(((h.set (4*i) (u8.wrap (u32.wrap (Int.tdiv (x.getD i 0) 16777216)))).set (4*i+1) (toE (x.getD i 0) 65536)).set (4*i+2) (toE (x.getD i 0) 256)).set (4*i+3) (u8.wrap (Int.tmod (x.getD i 0) 256))) (h1:i<8->Z1) (h2:i=8->Z2):
  ZL G0 20 270 0 0 (toS x h i) (rdM 0 0 9 (toS x h' (i+1)) (toS x h i) (toS x h i) (toS x h i) Z1 Z2 False False):=by
 refine @Eq.mpr _ (let d:=decide (0<=(↑i:Int)/\(↑i:Int)<8);let o:=0+Int.toNat (↑i:Int);let c:=decide (o<8);let a:=wrap i64 (4*(↑i:Int));let g:=0+Int.toNat a;let f:=wrap i64 (a+1);let e:=0+Int.toNat f;let b:=List.getD x o 0;let n:=List.set h g (wrap u8 (wrap u32 (Int.tdiv b 16777216)));let m:=wrap i64 (a+2);let l:=0+Int.toNat m;let q:=List.set n e (wrap u8 (Int.tmod (wrap u32 (Int.tdiv b 65536)) 256));let k:=wrap i64 (a+3);let j:=0+Int.toNat k;let p:=List.set q l (wrap u8 (Int.tmod (wrap u32 (Int.tdiv b 256)) 256));
 Z0 (decide ((↑i:Int)<8)) (Z0 d (Z0 c (Z0 (decide (0<=a/\a<32)) (Z0 (decide (u8=u8/\g<32/\g<h.length)) (Z0 d (Z0 c (Z0 (decide (0<=f/\f<32)) (Z0 (decide (u8=u8/\e<32/\e<n.length)) (Z0 d (Z0 c (Z0 (decide (0<=m/\m<32)) (Z0 (decide (u8=u8/\l<32/\l<q.length)) (Z0 d (Z0 c (Z0 (decide (0<=k/\k<32)) (Z0 (decide (u8=u8/\j<32/\j<p.length)) (Z0 (decide (wrap i64 ((↑i:Int)+1)=(↑(i+1):Int))) (List.set p j (wrap u8 (Int.tmod b 256))=h'/\Z5=Z5/\x=x/\Z1) False) False) False) False) False) False) False) False) False) False) False) False) False) False) False) False) False) (Z0 (decide ((↑i:Int)=(↑i:Int))) (h=h/\Z5=Z5/\x=x/\Z2) False)) (by kernel_rfl) ?_
 conv=>zeta
 try simp only [Zc]
 try simp only [Zl]
 try simp only [Zg]
 try simp only [Zm]
 try simp only [Zn]
 try simp only [Zh]
 try simp only [Jf,true_and,and_true]
 have hw:i64.wrap ((i:Int)+1)=((i+1:Nat):Int):=w64 (by omega)
 refine ⟨fun hlt=> ?_,fun hge=>h2 (by omega)⟩
 have e0:i64.wrap (4*(i:Int))=((4*i:Nat):Int):=by rw [w64 (by omega)];omega
 have e1:i64.wrap (((4*i:Nat):Int)+1)=((4*i+1:Nat):Int):=by rw [w64 (by omega)];omega
 have e2:i64.wrap (((4*i:Nat):Int)+2)=((4*i+2:Nat):Int):=by rw [w64 (by omega)];omega
 have e3:i64.wrap (((4*i:Nat):Int)+3)=((4*i+3:Nat):Int):=by rw [w64 (by omega)];omega
 simp only [e0,e1,e2,e3,K5]
 repeat' (first|(refine Ja ?_ ?_))
 all_goals first|omega|exact hh.symm|exact h1 (by omega)|trivial
noncomputable def Zn0 (x:LI):Za:=G0.withL 270 0 (goM 0 (toS x Z5 0) True (YB 0 8 9 (fun i=>i<8) (fun i=>i=8) (fun _=>False) (fun _=>False) (fun i=>toS x (toN x i) i) (fun i=>toS x (toN x i) i) (fun i=>toS x (toN x i) i)))
theorem ZhH (x:LI):(Zn0 x).Ok:=by
 refine Za.withGoM (N:=20) (S:=fun i=>toS x (toN x i) i) Zr (by kernel_rfl) fun hC=>⟨rfl,fun i hi hgo=> ?_⟩
 simp_all [Zpq,toN,Z6a]
@[irreducible] def Qf (x:LI):LI:=toN x 8
attribute [irreducible] toN
theorem Zpr (x r:LI) (hr:r=toN x 8):
  evF (Zn0 x) 20 270 [.agg [.arr .u32 8 x]] ⟨0,[]⟩ (YC 0 [] (.agg [.arr .u8 32 r]) 0 []):=by
 refine @Eq.mpr _ (Z5=Z5/\Z5=Z5/\x=x/\True/\∀(i:Nat),i<=8->(∀(j:Nat),j<i->(fun (i:Nat)=>i<8) j)->(i=8->toN x i=r/\True)/\(False->Z5=r/\True)/\(False->False)) (by kernel_rfl) ?_
 try simp only [Zc]
 try simp only [Zl]
 try simp only [Zg]
 try simp only [Zm]
 try simp only [Zn]
 try simp only [Zh]
 try simp only [and_true]
 simp_all
def Zex (T:LI->LI):ZF:=fun args _ K=>match args with
 | [.agg [.arr .u32 8 x]]=>K (.agg [.arr .u8 32 (T x)])
 | _=>False
theorem Zey (args:List AV) (h:Z8) (K:AV->Prop) (hl:Zex Qf args h K):Zd PP 270 args h fun o h'=>∃v,o=.ret v/\h'=h/\K v:=by
 unfold Zex at hl
 split at hl
 ·rename_i x
  refine Q4 (d:=20) (K0:=fun l=>l=[.agg [.arr .u32 8 x]]) ?_ fun l e=>⟨_,by rw [e];exact (by unfold Qf;exact .ev (ZhH x) (Zpr x _ rfl)),fun _=>rfl,hl⟩
  rfl
 simp_all
def Z6b (P:LI->LI->LI):ZF:=fun args _ K=>match args with
 | [.agg [.arr .u32 8 st],.agg [.arr .u8 64 bl]]=>Z6 (st.length=8) (K (.agg [.arr .u32 8 (P st bl)]))
 | _=>False
structure QD (P:LI->LI->LI):Prop where
 pure:∀st bl,st.length=8->Zx PP 269 [.agg [.arr .u32 8 st],.agg [.arr .u8 64 bl]] (.agg [.arr .u32 8 (P st bl)]) 0 []
 len:∀st bl,st.length=8->(P st bl).length=8
theorem Z9j {P:LI->LI->LI} (hP:QD P) (args:List AV) (h:Z8) (K:AV->Prop) (hl:Z6b P args h K):Zd PP 269 args h fun o h'=>∃v,o=.ret v/\h'=h/\K v:=by
 unfold Z6b at hl
 split at hl
 ·rename_i st bl
  obtain ⟨hs,hK⟩:=Zf hl
  refine Q4 (d:=20) (K0:=fun l=>l=[.agg [.arr .u32 8 st],.agg [.arr .u8 64 bl]]) ?_ fun l e=>⟨_,by rw [e];exact hP.pure st bl hs,fun _=>rfl,hK⟩
  rfl
 ·exact hl.elim
noncomputable def E56 (P:LI->LI->LI) (Q:LI->LI) (T:LI->LI) (B:Nat):Za:=((G0.withP 269 (Z6b P)).withF 268 (Zj4 Q B)).withP 270 (Zex T)
theorem Zks {P:LI->LI->LI} (hP:QD P) (hB:B<=100000000000):(E56 P Qe Qf B).Ok:=Za.withP_ok (Za.withF_ok (Za.withP_ok Zr (Z9j hP)) (Zew B hB)) Zey
def ZhI (ys st:LI) (o n:Nat):St:=⟨21,[(4,.nslice ⟨3,0,0,0,o⟩ 1 n n),(3,pt 2),(2,pt 0)],⟨4,[(3,.ints .u8 ys),(2,.flat [.arr .u32 8 st]),(0,.flat [.arr .u8 32 Z5])]⟩,[]⟩
def Zc7 (st:LI):St:=⟨21,[(3,pt 2),(2,pt 0)],⟨4,[(2,.flat [.arr .u32 8 st]),(0,.flat [.arr .u8 32 Z5])]⟩,[]⟩
theorem Zn1 (P:LI->LI->LI) (Q:LI->LI) (T:LI->LI) (B:Nat) (ys st st':LI) (o o' n n' k i:Nat) (Z1 Z2:Prop) (hi:i<=k) (hk:ys.length=64*k) (ho:o=64*i) (ho':o'=64*(i+1)) (hn:n=64*k-64*i) (hn':n'=64*k-64*(i+1)) (hs:st.length=8) (hst:st'=P st ((ys.drop o).take 64)) (h1:i<k->Z1) (h2:i=k->Z2):
  ZL (E56 P Q T B) 20 208 0 0 (ZhI ys st o n) (rdM 0 0 9 (ZhI ys st' o' n') (Zc7 st) (Zc7 st) (Zc7 st) Z1 Z2 False False):=by
 refine @Eq.mpr _ (let c:=decide (n<=n);let b:=decide ((0:Int)<=64/\64<=(↑n:Int));let a:=WW n (some 64);
 Z0 (decide ((↑n:Int)>0)) (Z7 c (Z7 b (Z6 (o+0+64<=ys.length) (Z6 (st.length=8) (Z7 c (Z7 b (Z6 (o+64=o') (Z6 (a=n') (Z6 (n'<=a) (ys=ys/\P st (List.take 64 (List.drop (o+0) ys))=st'/\Z5=Z5/\Z1)))))))))) (st=st/\Z5=Z5/\Z2)) (by kernel_rfl) ?_
 conv=>zeta
 try simp only [vcA]
 try simp only [vcB]
 try simp only [vcC]
 refine ⟨fun hlt=> ?_,fun hge=>h2 (by omega)⟩
 have e1:n-64=n':=by omega
 have e2:o+64=o':=by omega
 simp only [WW,e1,e2,Ka]
 repeat' (first|(refine Ja ?_ ?_)|intro _)
 all_goals first|omega|exact hst.symm|exact h1 (by omega)|trivial
def QL (P:LI->LI->LI) (ys:LI):Nat->LI
 | 0=>YE.st
 | i+1=>P (QL P ys i) ((ys.drop (64*i)).take 64)
theorem Z7t {P:LI->LI->LI} (hP:QD P) (ys:LI):∀i,(QL P ys i).length=8
 | 0=>rfl
 | i+1=>hP.len _ _ (Z7t hP ys i)
theorem Z5a (P:LI->LI->LI) (ys:LI):QL P ys 0=YE.st:=rfl
theorem Z5b (P:LI->LI->LI) (ys:LI) (i:Nat):QL P ys (i+1)=P (QL P ys i) ((ys.drop (64*i)).take 64):=rfl
attribute [irreducible] QL
noncomputable def Zkt (P:LI->LI->LI) (Q:LI->LI) (T:LI->LI) (B:Nat) (ys:LI) (L k:Nat):Za:=(E56 P Q T B).withL 208 0 (goM 0 (ZhI ys [1779033703,3144134277,1013904242,2773480762,1359893119,2600822924,528734635,1541459225] 0 L) (ys.length=64*k/\L=64*k) (YB 0 k 9 (fun i=>i<k) (fun i=>i=k) (fun _=>False) (fun _=>False) (fun i=>Zc7 (QL P ys i)) (fun i=>Zc7 (QL P ys i)) (fun i=>Zc7 (QL P ys i))))
theorem ZhJ {P:LI->LI->LI} (hP:QD P) (hB:B<=100000000000) (ys:LI) (L k:Nat):(Zkt P Qe Qf B ys L k).Ok:=by
 unfold Zkt
 refine Za.withGoM (N:=20) (S:=fun i=>ZhI ys (QL P ys i) (64*i) (64*k-64*i)) (Zks hP hB) (by kernel_rfl) fun hC=>⟨?_,fun i hi hgo=> ?_⟩
 ·rw [hC.2,Z5a];rfl
 ·exact Zn1 P Qe Qf B ys (QL P ys i) (QL P ys (i+1)) _ _ _ _ k i _ _ hi hC.1 rfl rfl rfl rfl (Z7t hP ys i) (Z5b _ _ _) (fun h=>⟨h,h⟩) (fun h=>h)
theorem Zn2 (P:LI->LI->LI) (Q:LI->LI) (T:LI->LI) (B:Nat) (bs ys r:LI) (n L k:Nat) (hn:n=bs.length) (hB:n<=B) (hy:ys=Q bs) (hL:L=ys.length) (hk:ys.length=64*k) (hr:r=T (QL P ys k)):
  evF (Zkt P Q T B ys L k) 20 208 [.vints .u8 bs n] ⟨0,[]⟩ (YC 0 [] (.agg [.arr .u8 32 r]) 0 []):=by
 refine @Eq.mpr _ (let a:=[(1779033703:Int),3144134277,1013904242,2773480762,1359893119,2600822924,528734635,1541459225];
 Z6 (n=bs.length) (Z6 (bs.length<=B) (Z6 (List.length (Q bs)=L) (Z6 (L<=List.length (Q bs)) (Q bs=ys/\a=a/\Z5=Z5/\(ys.length=64*k/\L=64*k)/\∀(i:Nat),i<=k->(∀(j:Nat),j<i->(fun (i:Nat)=>i<k) j)->(i=k->T (QL P ys i)=r/\True)/\(False->Z5=r/\True)/\(False->False)))))) (by kernel_rfl) ?_
 conv=>zeta
 try simp only [vcA]
 try simp only [vcB]
 try simp only [vcC]
 subst hy hr
 refine ⟨hn,by omega, ?_⟩
 exact ⟨hL.symm,by omega,rfl,⟨hk,by omega⟩,fun i hi _=>⟨fun he=>by rw [he],fun h=>h.elim,fun h=>h⟩⟩
theorem Zez (bs:LI) (h:bs.length<=100000000000):(Qe bs).length=64*((Qe bs).length/64):=by
 have:(Qe bs).length=bs.length+1+((128-((bs.length:Int)+9)%64)%64).toNat+8:=by
  unfold Qe Z7s
  rw [Zkr _ h]
  simp only [J9,Jl,JD,Z3M,List.length_replicate]
 omega
@[irreducible] def ZeA (P:LI->LI->LI) (bs:LI):LI:=Qf (QL P (Qe bs) ((Qe bs).length/64))
theorem Zc8 {P:LI->LI->LI} (hP:QD P) (bs:LI) (h:bs.length<=100000000000):Zx PP 208 [.vints .u8 bs bs.length] (.agg [.arr .u8 32 (ZeA P bs)]) 0 []:=by
 unfold ZeA
 exact .ev (ZhJ hP (J2 _) _ _ _) (Zn2 P Qe Qf 100000000000 bs _ _ _ _ _ rfl h rfl rfl (Zez bs h) rfl)
def Z7u (H:LI->LI) (B:Nat):ZF:=fun args h K=>ZG none h true 20 args fun a=>Up a fun xs=>Z6 (xs.length<=B) (K (.agg [.arr .u8 32 (H xs)]))
theorem Z7v {f:FuncId} (hp:∀xs:LI,xs.length<=B->Zx PP f [.vints .u8 xs xs.length] (.agg [.arr .u8 32 (H xs)]) 0 []) (args:List AV) (h:Z8) (K:AV->Prop) (hl:Z7u H B args h K):Zd PP f args h fun o h'=>∃v,o=.ret v/\h'=h/\K v:=by
 refine Zx.psumm (d:=20) (Zq _ _ _ _ _ hl fun a ha=> ?_)
 obtain ⟨xs,rfl,hK⟩:=Wd ha
 obtain ⟨hx,hK⟩:=Zf hK
 exact ⟨_,hp xs hx,fun _=>rfl,hK⟩
noncomputable def Zku (H:LI->LI) (B:Nat):Za:=G0.withP 208 (Z7u H B)
theorem Zn3 (H:LI->LI) (B:Nat) (bs r:LI) (n:Nat) (hn:n=bs.length) (hb:n<=B) (h32:32<=B) (hl:(H bs).length=32) (hr:r=H (H bs)):
  evF (Zku H B) 20 206 [.vints .u8 bs n] ⟨0,[]⟩ (YC 0 [] (.agg [.arr .u8 32 r]) 0 []):=by
 refine @Eq.mpr _ (let a:=List.length (H bs);
 Z6 (n=bs.length) (Z6 (bs.length<=B) (Z6 (a=32) (Z6 (32=a) (Z6 (a<=B) (H (H bs)=r/\True)))))) (by kernel_rfl) ?_
 conv=>zeta
 try simp only [vcA]
 try simp only [vcB]
 try simp only [vcC]
 subst hr
 exact ⟨hn,by omega,hl,hl.symm,by omega,rfl⟩
theorem Zat (hp:∀xs:LI,xs.length<=B->Zx PP 208 [.vints .u8 xs xs.length] (.agg [.arr .u8 32 (H xs)]) 0 []):(Zku H B).Ok:=Za.withP_ok Zr (Z7v hp)
def kxE (key:LI) (c:Int) (i:Nat):Int:=if (i:Int)<32 then Yu .u8 (key.getD i 0) c else c
def kxR (key:LI) (c:Int):Nat->LI
 | 0=>[]
 | i+1=>kxR key c i++[kxE key c i]
theorem Z13 (key:LI) (c:Int):∀i,(kxR key c i).length=i
 | 0=>rfl
 | i+1=>by rw [kxR,J9,Z13 key c i];rfl
def tgS (key ms xs ys:LI) (i:Nat):St:=⟨47,[(8,.int .i64 i),(0,.vints .u8 key 32),(6,.nslice ⟨1,0,0,0,0⟩ 1 i i),(7,.nslice ⟨2,0,0,0,0⟩ 1 i i),(1,.vints .u8 ms 32),(4,pt 0)],⟨3,[(2,.ints .u8 ys),(1,.ints .u8 xs),(0,.flat [.arr .u8 32 Z5])]⟩,[]⟩
def tgE (ms xs ys:LI) (i:Nat):St:=⟨47,[(6,.nslice ⟨1,0,0,0,0⟩ 1 i i),(7,.nslice ⟨2,0,0,0,0⟩ 1 i i),(1,.vints .u8 ms 32),(4,pt 0)],⟨3,[(2,.ints .u8 ys),(1,.ints .u8 xs),(0,.flat [.arr .u8 32 Z5])]⟩,[]⟩
theorem Zps (key ms xs ys xs' ys':LI) (i:Nat) (Z1 Z2:Prop) (hi:i<=64) (hx:xs.length=i) (hy:ys.length=i) (hx':xs'=xs++[kxE key 54 i]) (hy':ys'=ys++[kxE key 92 i]) (h1:i<64->Z1) (h2:i=64->Z2):
  ZL G0 20 125 0 0 (tgS key ms xs ys i) (rdM 0 0 9 (tgS key ms xs' ys' (i+1)) (tgE ms xs ys i) (tgE ms xs ys i) (tgE ms xs ys i) Z1 Z2 False False):=by
 refine @Eq.mpr _ (let p:=decide (u8=u8/\xs.length=i);let k:=List.getD key (Int.toNat (↑i:Int)) 0;let j:=xs++[Yu u8 k 54];let c:=j.length;let h:=decide (u8=u8/\ys.length=i);let g:=ys++[Yu u8 k 92];let b:=g.length;let a:=i+1;let f:=decide (wrap i64 ((↑i:Int)+1)=(↑a:Int));let o:=xs++[(54:Int)];let e:=o.length;let n:=ys++[(92:Int)];let d:=n.length;let m:=decide (i=i);let l:=decide (i<=i);
 Z0 (decide ((↑i:Int)<64)) (Z0 (decide ((↑i:Int)<32)) (Z6 (0<=(↑i:Int)/\(↑i:Int)<32) (Z7 p (Z6 (c*1<=140737488355328) (Z7 h (Z6 (b*1<=140737488355328) (Z7 f (key=key/\Z6 (c=a) (Z6 (a<=c) (Z6 (b=a) (Z6 (a<=b) (ms=ms/\g=ys'/\j=xs'/\Z5=Z5/\Z1))))))))))) (Z7 p (Z6 (e*1<=140737488355328) (Z7 h (Z6 (d*1<=140737488355328) (Z7 f (key=key/\Z6 (e=a) (Z6 (a<=e) (Z6 (d=a) (Z6 (a<=d) (ms=ms/\n=ys'/\o=xs'/\Z5=Z5/\Z1))))))))))) (Z7 m (Z7 l (Z7 m (Z7 l (ms=ms/\ys=ys/\xs=xs/\Z5=Z5/\Z2)))))) (by kernel_rfl) ?_
 conv=>zeta
 try simp only [vcA]
 try simp only [vcB]
 try simp only [vcC]
 have hw:i64.wrap ((i:Int)+1)=((i+1:Nat):Int):=w64 (by omega)
 refine ⟨fun hlt=>⟨fun h32=> ?_,fun h32=> ?_⟩,fun hge=> ?_⟩
 ·unfold kxE at hx' hy'
  rw [if_pos h32] at hx' hy'
  simp only [hw,J9,Jl,JD,hx,hy]
  repeat' (first|(refine Ja ?_ ?_)|intro _)
  all_goals first|omega|exact hx'.symm|exact hy'.symm|exact h1 (by omega)|trivial
 ·unfold kxE at hx' hy'
  rw [if_neg h32] at hx' hy'
  simp only [hw,J9,Jl,JD,hx,hy]
  repeat' (first|(refine Ja ?_ ?_)|intro _)
  all_goals first|omega|exact hx'.symm|exact hy'.symm|exact h1 (by omega)|trivial
 ·exact h2 (by omega)
noncomputable def E57 (H:LI->LI) (B:Nat) (key ms:LI):Za:=(Zku H B).withL 125 0 (goM 0 (tgS key ms [] [] 0) True (YB 0 64 9 (fun i=>i<64) (fun i=>i=64) (fun _=>False) (fun _=>False) (fun i=>tgE ms (kxR key 54 i) (kxR key 92 i) i) (fun i=>tgE ms (kxR key 54 i) (kxR key 92 i) i) (fun i=>tgE ms (kxR key 54 i) (kxR key 92 i) i)))
theorem Zkv (hp:∀xs:LI,xs.length<=B->Zx PP 208 [.vints .u8 xs xs.length] (.agg [.arr .u8 32 (H xs)]) 0 []) (key ms:LI):(E57 H B key ms).Ok:=by
 unfold E57
 refine Za.withL_join (H:=G0) (Zat hp) rfl ?_
 refine Za.withGoM (N:=20) (S:=fun i=>tgS key ms (kxR key 54 i) (kxR key 92 i) i) Zr (by kernel_rfl) fun hC=>⟨rfl,fun i hi hgo=> ?_⟩
 exact Zps key ms _ _ (kxR key 54 (i+1)) (kxR key 92 (i+1)) i _ _ hi (Z13 _ _ _) (Z13 _ _ _) rfl rfl (fun h=>⟨h,h⟩) (fun h=>h)
attribute [irreducible] kxR
theorem Z14 {n:Nat} (h:xs.length=n):List.take n (ZV 0 xs)=xs:=by subst h;rw [Y6,JU,Jv]
theorem Zpt (H:LI->LI) (B:Nat) (key ms r:LI) (hk:key.length=32) (hm:ms.length=32) (hB:128<=B) (hl:∀x,(H x).length=32) (hr:r=H (kxR key 92 64++H (kxR key 54 64++ms))):
  evF (E57 H B key ms) 20 125 [.vints .u8 key 32,.vints .u8 ms 32] ⟨0,[]⟩ (YC 0 [] (.agg [.arr .u8 32 r]) 0 []):=by
 refine @Eq.mpr _ (key=key/\
 ms=ms/\
 ([]:LI)=[]/\
 ([]:LI)=[]/\
 Z5=Z5/\
 True/\
 ∀(i:Nat),
 let o:=[]++List.take i (ZV 0 (kxR key 54 i));let d:=o.length;let k:=o++List.take 32 ms;let a:=k.length;let h:=List.take a (ZV 0 k);let g:=h.length;let f:=[]++List.take i (ZV 0 (kxR key 92 i));let c:=f.length;let e:=H h;let n:=f++e;let b:=n.length;let m:=List.take b (ZV 0 n);let l:=m.length;
 i<=64->(∀(j:Nat),j<i->(fun (i:Nat)=>i<64) j)->(i=64->Z6 (u8=u8/\0+i<=List.length (kxR key 54 i)) (Z6 (d*1<=140737488355328) (Z6 (u8=u8/\d=d) (Z6 (a*1<=140737488355328) (Z6 (0+a<=a) (Z6 (a=g) (Z6 (g<=B) (Z6 (u8=u8/\0+i<=List.length (kxR key 92 i)) (Z6 (c*1<=140737488355328) (Z6 (u8=u8/\e.length=32) (Z6 (u8=u8/\c=c) (Z6 (b*1<=140737488355328) (Z6 (0+b<=b) (Z6 (b=l) (Z6 (l<=B) (H m=r/\True))))))))))))))))/\(False->Z5=r/\True)/\(False->False)) (by kernel_rfl) ?_
 conv=>zeta
 try simp only [vcA]
 try simp only [vcB]
 try simp only [vcC]
 refine fun i hi _=>⟨fun he=> ?_,fun h=>h.elim,fun h=>h⟩
 subst he
 have a1:=Z13 key 54 64
 have a2:=Z13 key 92 64
 have e1:=Z14 a1
 have e2:=Z14 a2
 have e3:List.take 32 ms=ms:=by rw [<-hm];exact Jv
 simp only [e1,e2,e3,Kg,Z14 rfl]
 have l1:=hl (kxR key 54 64++ms)
 subst hr
 simp only [J9,a1,a2,hm,l1]
 repeat' (first|(refine Ja ?_ ?_)|intro _)
 all_goals first|omega|trivial
@[irreducible] def Qg (H:LI->LI) (key ms:LI):LI:=H (kxR key 92 64++H (kxR key 54 64++ms))
theorem Zc9 (hp:∀xs:LI,xs.length<=B->Zx PP 208 [.vints .u8 xs xs.length] (.agg [.arr .u8 32 (H xs)]) 0 []) (hB:128<=B) (hl:∀x,(H x).length=32) (key ms:LI) (h1:key.length=32) (h2:ms.length=32):Zx PP 125 [.vints .u8 key 32,.vints .u8 ms 32] (.agg [.arr .u8 32 (Qg H key ms)]) 0 []:=by
 unfold Qg
 exact .ev (Zkv hp _ _) (Zpt H B _ _ _ h1 h2 hB hl rfl)
def ZeB (T:LI->LI->LI):ZF:=fun args h K=>ZG none h true 20 args fun a=>match a with
 | [.vints .u8 key len,.vints .u8 ms len']=>Z6 (key.length=32/\len=32/\ms.length=32/\len'=32) (K (.agg [.arr .u8 32 (T key ms)]))
 | _=>False
theorem ZeC (hp:∀xs:LI,xs.length<=B->Zx PP 208 [.vints .u8 xs xs.length] (.agg [.arr .u8 32 (H xs)]) 0 []) (hB:128<=B) (hl:∀x,(H x).length=32) (args:List AV) (h:Z8) (K:AV->Prop) (hl':ZeB (Qg H) args h K):Zd PP 125 args h fun o h'=>∃v,o=.ret v/\h'=h/\K v:=by
 refine Zx.psumm (d:=20) (Zq _ _ _ _ _ hl' fun a ha=> ?_)
 split at ha
 ·obtain ⟨⟨h1,rfl,h2,rfl⟩,hK⟩:=Zf ha
  exact ⟨_,Zc9 hp hB hl _ _ h1 h2,fun _=>rfl,hK⟩
 ·exact ha.elim
@[irreducible] def Ur (H:LI->LI) (bs:LI):LI:=H (H bs)
theorem Zca (hp:∀xs:LI,xs.length<=B->Zx PP 208 [.vints .u8 xs xs.length] (.agg [.arr .u8 32 (H xs)]) 0 []) (hB:128<=B) (hl:∀x,(H x).length=32) (args:List AV) (h:Z8) (K:AV->Prop) (hl':Z7u (Ur H) B args h K):Zd PP 206 args h fun o h'=>∃v,o=.ret v/\h'=h/\K v:=by
 refine Z7v (fun xs hx=> ?_) args h K hl'
 unfold Ur
 exact .ev (Zat hp) (Zn3 H B xs _ _ rfl hx (by omega) (hl xs) rfl)
def U32 (x:Int):Prop:=0<=x/\x<4294967296
theorem Z7w (x:Int):u32.wrap x=x%4294967296:=by
 simp_all [wrap,IntKind.bits,IntKind.signed]
theorem Z3N (x:Int):U32 (u32.wrap x):=by rw [Z7w];unfold U32;omega
theorem W0 {x:Int} (h:U32 x):u32.wrap x=x:=by rw [Z7w];unfold U32 at h;omega
theorem wr8 (x:Int):u8.wrap x=x%256:=by
 simp_all [wrap,IntKind.bits,IntKind.signed]
theorem Zn4 (x y:Int):U32 (bOr .u32 x y):=Z3N _
theorem Ve (x y:Nat) (hx:x<4294967296) (hy:y<4294967296):Yu .u32 x y=((x^^^y:Nat):Int):=by
 unfold Yu
 rw [W0]
 all_goals grind [U32,IntKind.bits]
theorem Z6c (x y:Nat) (hx:x<4294967296) (hy:y<4294967296):bOr .u32 x y=((x|||y:Nat):Int):=by
 unfold bOr
 rw [W0]
 ·show (((BitVec.ofInt 32 (x:Int)|||BitVec.ofInt 32 (y:Int)).toNat:Nat):Int)=_
  rw [BitVec.toNat_or,JF,JF,JG,JG,Jx hx,Jx hy]
 grind [U32,IntKind.bits]
theorem Z3O (x y:Nat) (hx:x<4294967296) (hy:y<4294967296):QG .u32 x y=((x&&&y:Nat):Int):=by
 unfold QG
 rw [W0]
 ·show (((BitVec.ofInt 32 (x:Int)&&&BitVec.ofInt 32 (y:Int)).toNat:Nat):Int)=_
  rw [BitVec.toNat_and,JF,JF,JG,JG,Jx hx,Jx hy]
 grind [U32,IntKind.bits]
theorem U32.nat {x:Int} (h:U32 x):∃n:Nat,x=n/\n<4294967296:=⟨x.toNat,by unfold U32 at h;omega,by unfold U32 at h;omega⟩
theorem U32.of {n:Nat} (h:n<4294967296):U32 (n:Int):=by unfold U32;omega
theorem Zcb {x y:Int}:Yu .u32 x y=Yu .u32 y x:=by unfold Yu;rw [BitVec.xor_comm]
theorem Z9k {x y z:Int} (hx:U32 x) (hy:U32 y) (hz:U32 z):Yu .u32 (Yu .u32 x y) z=Yu .u32 x (Yu .u32 y z):=by
 obtain ⟨x,rfl,gx⟩:=hx.nat
 obtain ⟨y,rfl,gy⟩:=hy.nat
 obtain ⟨z,rfl,gz⟩:=hz.nat
 rw [Ve x y gx gy,Ve y z gy gz,Ve _ z (Kh (n:=32) gx gy) gz,Ve x _ gx (Kh (n:=32) gy gz),Nat.xor_assoc]
theorem Zcc {x:Int} (hx:U32 x):Yu .u32 0 x=x:=by
 obtain ⟨x,rfl,gx⟩:=hx.nat
 have:=Ve 0 x (by omega) gx
 simp_all
theorem Z6d (x n:Nat) (hn:n<=32):Zw .u32 x n=((x/2^n:Nat):Int):=by
 grind [Zw,IntKind.bits]
theorem Zn5 {x:Int} (hx:U32 x) (n:Nat) (hn:n<=32):U32 (Zw .u32 x n):=by
 obtain ⟨x,rfl,gx⟩:=hx.nat
 rw [Z6d x n hn]
 exact U32.of (JI (Nat.div_le_self x (2^n)) gx)
theorem Z9l (w n:Int):U32 (Z8Q w n):=Zn4 _ _
theorem Zau {w:Int} (hw:U32 w) (a b c:Int):sg3 a b c w=WM 32 [a,b,c] w:=by
 obtain ⟨x,rfl,gx⟩:=hw.nat
 have h0:Zw .u32 (x:Int) 32=0:=by
  rw [show (32:Int)=((32:Nat):Int) from rfl,Z6d x 32 (by omega),Nat.div_eq_of_lt gx]
  rfl
 simp_all [sg3,WM,Zcc,Z9l]
theorem Zav {w:Int} (hw:U32 w) (a b:Int) (n:Nat) (hn:n<=32):rg3 a b n w=WM n [a,b] w:=by
 have hs:=Zn5 hw n hn
 unfold rg3 WM
 simp only [List.foldl_cons,List.foldl_nil]
 rw [Zcb,Z9k hs (Z9l _ _) (Z9l _ _)]
theorem WT (x i:Nat) (hi:i<=32):Int.tmod (Zw .u32 x i) 2=(((x.testBit i).toNat:Nat):Int):=by
 rw [Z6d x i hi]
 rw [Int.tmod_eq_emod_of_nonneg (Int.natCast_nonneg _),Nat.toNat_testBit]
 rfl
theorem Z6e (b:Bool) (i:Nat) (hi:i<32):ZI .u32 ((b.toNat:Nat):Int) i=((2^i*b.toNat:Nat):Int):=by
 unfold ZI
 have:min (i:Int).toNat u32.bits=i:=by simp [IntKind.bits];omega
 rw [this]
 have h2:(2:Nat)^i<2^32:=Nat.pow_lt_pow_right (by decide) hi
 have h3:((2:Nat)^i*b.toNat)<4294967296:=by cases b<;>simp_all
 rw [show ((b.toNat:Nat):Int)*2^i=((2^i*b.toNat:Nat):Int) by push_cast;rw [Int.mul_comm]]
 exact W0 (U32.of h3)
theorem Zaw (x i:Nat):x%2^(i+1)=x%2^i+2^i*(x.testBit i).toNat:=by
 rw [Nat.toNat_testBit,Nat.mod_pow_succ]
theorem Zax (x i:Nat) (hx:x<4294967296) (hi:i<32):u32.wrap (((x%2^i:Nat):Int)+((2^i*(x.testBit i).toNat:Nat):Int))=((x%2^(i+1):Nat):Int):=by
 rw [Zaw]
 rw [W0]
 ·omega
 ·rw [show ((x%2^i:Nat):Int)+((2^i*(x.testBit i).toNat:Nat):Int)=((x%2^i+2^i*(x.testBit i).toNat:Nat):Int) by omega,<-Zaw]
  exact U32.of (JI (Nat.mod_le _ _) hx)
theorem Z5c (a b c:Nat) (ha:a<4294967296) (hb:b<4294967296) (hc:c<4294967296):∀i,i<=32->Vy a b c i=(((a&&&(b|||c)|||b&&&c)%2^i:Nat):Int)
 | 0,_=>by simp [Vy]
 | i+1,hi=>by
  have hm:(a&&&(b|||c)|||b&&&c)<4294967296:=Nat.or_lt_two_pow (n:=32) (JI Ki ha) (JI Ki hb)
  rw [Vy,Z5c a b c ha hb hc i (by omega),WT a i (by omega),WT b i (by omega),WT c i (by omega),<-Zax _ i hm (by omega)]
  have ht:(a&&&(b|||c)|||b&&&c).testBit i=(a.testBit i&&(b.testBit i||c.testBit i)||b.testBit i&&c.testBit i):=by simp
  rw [ht]
  have h1:=Z6e true i (by omega)
  have hx:u32.wrap (((a&&&(b|||c)|||b&&&c)%2^i:Nat):Int)=(((a&&&(b|||c)|||b&&&c)%2^i:Nat):Int):=W0 (U32.of (JI (Nat.mod_le _ _) hm))
  rw [Z7w,Z7w]
  cases a.testBit i<;>cases b.testBit i<;>cases c.testBit i<;>simp at h1 hx⊢ <;>first|rw [h1]|rw [hx]
theorem ZhK {a b c:Int} (ha:U32 a) (hb:U32 b) (hc:U32 c):XJ a b c=bOr .u32 (QG .u32 a (bOr .u32 b c)) (QG .u32 b c):=by
 obtain ⟨a,rfl,ga⟩:=ha.nat
 obtain ⟨b,rfl,gb⟩:=hb.nat
 obtain ⟨c,rfl,gc⟩:=hc.nat
 have h1:=Nat.or_lt_two_pow (n:=32) gb gc
 have h2:a&&&(b|||c)<4294967296:=JI Ki ga
 have h3:b&&&c<4294967296:=JI Ki gb
 rw [Z6c b c gb gc,Z3O a _ ga h1,Z3O b c gb gc,Z6c _ _ h2 h3]
 unfold XJ
 rw [Z5c a b c ga gb gc 32 (by omega),Jx]
 exact Nat.or_lt_two_pow (n:=32) h2 h3
theorem Z5d (a b c:Nat) (ha:a<4294967296) (hb:b<4294967296) (hc:c<4294967296):∀i,i<=32->U6 a b c i=(((c^^^(a&&&(b^^^c)))%2^i:Nat):Int)
 | 0,_=>by simp [U6]
 | i+1,hi=>by
  have hm:(c^^^(a&&&(b^^^c)))<4294967296:=Kh (n:=32) hc (JI Ki ha)
  rw [U6,Z5d a b c ha hb hc i (by omega),WT a i (by omega),WT b i (by omega),WT c i (by omega),<-Zax _ i hm (by omega)]
  have ht:(c^^^(a&&&(b^^^c))).testBit i=(c.testBit i^^(a.testBit i&&(b.testBit i^^c.testBit i))):=by simp
  rw [ht]
  have h1:=Z6e true i (by omega)
  have h0:=Z6e false i (by omega)
  cases a.testBit i<;>cases b.testBit i<;>cases c.testBit i<;>simp at h1 h0⊢ <;>first|rw [h1]|rw [h0,Int.add_zero]
theorem ZhL {a b c:Int} (ha:U32 a) (hb:U32 b) (hc:U32 c):XE a b c=Yu .u32 c (QG .u32 a (Yu .u32 b c)):=by
 obtain ⟨a,rfl,ga⟩:=ha.nat
 obtain ⟨b,rfl,gb⟩:=hb.nat
 obtain ⟨c,rfl,gc⟩:=hc.nat
 have h1:=Kh (n:=32) gb gc
 have h2:a&&&(b^^^c)<4294967296:=JI Ki ga
 rw [Ve b c gb gc,Z3O a _ ga h1,Ve _ _ gc h2]
 unfold XE
 rw [Z5d a b c ga gb gc 32 (by omega),Jx]
 exact Kh (n:=32) gc h2
theorem Z5e (bl:LI) (t:Nat):WD bl (t+1)=(WD bl t).set t (if t<16 then Z9i bl t else Zev (WD bl t) t):=by rw [WD]
theorem Z5f (bl:LI) (s t:Nat) (hs:s<t):∀u,(WD bl (t+u)).getD s 0=(WD bl t).getD s 0
 | 0=>rfl
 | u+1=>by
  rw [<-Nat.add_assoc,Z5e,<-Z5f bl s t hs u]
  simp only [J5]
  rw [List.getElem?_set_ne (by omega)]
@[irreducible] def Z2b (bl:LI) (t:Nat):Int:=(WD bl 64).getD t 0
theorem Z15 (bl:LI) {s t:Nat} (hs:s<t) (ht:t<=64):(WD bl t).getD s 0=Z2b bl s:=by
 unfold Z2b
 have:=Z5f bl s t hs (64-t)
 rw [show t+(64-t)=64 by omega] at this
 omega
theorem Zay (bl:LI) {t:Nat} (ht:t<64):Z2b bl t=if t<16 then Z9i bl t else Zev (WD bl t) t:=by
 rw [<-Z15 bl (Nat.lt_succ_self t) (by omega),Z5e]
 simp_all [Z3K]
theorem Zaz (bl:LI) {t:Nat} (ht:t<16):Z2b bl t=Z9i bl t:=by rw [Zay bl (by omega),if_pos ht]
theorem ZaA (bl:LI) {t:Nat} (h16:16<=t) (ht:t<64):Z2b bl t=u32.wrap (u32.wrap (u32.wrap (rg3 17 19 10 (Z2b bl (t-2))+Z2b bl (t-7))+rg3 7 18 3 (Z2b bl (t-15)))+Z2b bl (t-16)):=by
 rw [Zay bl (by omega),if_neg (by omega)]
 unfold Zev
 rw [Z15 bl (by omega) (by omega),Z15 bl (by omega) (by omega),Z15 bl (by omega) (by omega),Z15 bl (by omega) (by omega)]
theorem ZeD (bl:LI) {t:Nat} (ht:t<64):U32 (Z2b bl t):=by
 by_cases h:t<16
 ·rw [Zaz bl h];exact Z3N _
 simp_all [ZaA,Z3N]
theorem Z16 (t:Nat):mAt (t:Int)=t%16:=by
 unfold mAt
 rw [tm (by omega)]
 omega
theorem Vz (i t:Nat) (hi:i<8) (ht:t<=64):atI (i:Int) (t:Int)=(i+64-t)%8:=by
 grind [atI,w64]
theorem Z3P (l:LI) (i j:Nat) (x:Int) (hi:i<l.length):(l.set i x).getD j 0=if i=j then x else l.getD j 0:=by
 grind
def Ring (bl r:LI) (t:Nat):Prop:=r.length=16/\∀s,s<max 16 t->max 16 t<=s+16->r.getD (s%16) 0=Z2b bl s
theorem Ring.step {r:LI} {t:Nat} (h:Ring bl r t) (ht:t<64):Ring bl (Z0k t r) (t+1):=by
 obtain ⟨hl,hr⟩:=h
 refine ⟨by rw [Z7j,hl],fun s h1 h2=> ?_⟩
 unfold Z0k
 by_cases h16:t<16
 ·grind
 ·rw [if_pos (by omega)]
  have w1:i64.wrap ((t:Int)+1)=((t+1:Nat):Int):=by rw [w64 (by omega)];omega
  have w9:i64.wrap ((t:Int)+9)=((t+9:Nat):Int):=by rw [w64 (by omega)];omega
  have w14:i64.wrap ((t:Int)+14)=((t+14:Nat):Int):=by rw [w64 (by omega)];omega
  have r0:=hr (t-16) (by omega) (by omega)
  have r1:=hr (t-15) (by omega) (by omega)
  have r9:=hr (t-7) (by omega) (by omega)
  have r14:=hr (t-2) (by omega) (by omega)
  rw [show (t-16)%16=t%16 by omega] at r0
  rw [show (t-15)%16=(t+1)%16 by omega] at r1
  rw [show (t-7)%16=(t+9)%16 by omega] at r9
  rw [show (t-2)%16=(t+14)%16 by omega] at r14
  rw [w1,w9,w14,Z16,Z16,Z16,Z16,r0,r1,r9,r14,Z3P _ _ _ _ (by omega)]
  by_cases hs:s=t
  ·subst hs
   rw [if_pos rfl,ZaA bl (by omega) ht]
   have e1:=Zav (ZeD bl (t:=s-2) (by omega)) 17 19 10 (by omega)
   have e2:=Zav (ZeD bl (t:=s-15) (by omega)) 7 18 3 (by omega)
   rw [show ((10:Nat):Int)=10 from rfl] at e1
   rw [show ((3:Nat):Int)=3 from rfl] at e2
   simp only [Z7w]
   omega
  grind
def U8 (x:Int):Prop:=0<=x/\x<256
theorem Z2p (x n:Nat) (hn:n<=32) (h:x*2^n<4294967296):ZI .u32 x n=((x*2^n:Nat):Int):=by
 unfold ZI
 have:min (n:Int).toNat u32.bits=n:=by simp [IntKind.bits];omega
 rw [this,show (x:Int)*2^n=((x*2^n:Nat):Int) by simp_all]
 exact W0 (U32.of h)
theorem Z2q (x y:Nat) (hx:x<16777216) (hy:y<256):bOr .u32 (ZI .u32 x 8) y=((x*256+y:Nat):Int):=by
 have:=Z2p x 8 (by omega) (by omega)
 rw [show ((8:Nat):Int)=8 from rfl] at this
 rw [this,Z6c _ _ (by omega) (by omega),<-Nat.shiftLeft_eq,<-Nat.shiftLeft_add_eq_or_of_lt (by omega),Nat.shiftLeft_eq]
theorem Qh {P:Int->Prop} {l:LI} (h:∀x∈l,P x) (h0:P 0) (i:Nat):P (l.getD i 0):=by
 grind
theorem U8.nat {x:Int} (h:U8 x):∃n:Nat,x=n/\n<256:=⟨x.toNat,by unfold U8 at h;omega,by unfold U8 at h;omega⟩
theorem ZhM (bl:LI) (hb:∀x∈bl,U8 x) (t:Nat):W3 bl (4*t)=Z9i bl t:=by
 unfold W3 Z9i
 obtain ⟨a,ea,ha⟩:=(Qh (P:=U8) hb (by unfold U8;omega) (4*t)).nat
 obtain ⟨b,eb,hb'⟩:=(Qh (P:=U8) hb (by unfold U8;omega) (4*t+1)).nat
 obtain ⟨c,ec,hc⟩:=(Qh (P:=U8) hb (by unfold U8;omega) (4*t+2)).nat
 obtain ⟨d,ed,hd⟩:=(Qh (P:=U8) hb (by unfold U8;omega) (4*t+3)).nat
 rw [ea,eb,ec,ed]
 rw [W0 (x:=(a:Int)) (U32.of (by omega)),W0 (x:=(b:Int)) (U32.of (by omega)),W0 (x:=(c:Int)) (U32.of (by omega)),W0 (x:=(d:Int)) (U32.of (by omega))]
 have z:=Z2q 0 a (by omega) ha
 have s0:ZI .u32 0 8=0:=by decide
 rw [show ZI .u32 ((0:Nat):Int) 8=0 from s0] at z
 rw [z,Z2q _ b (by omega) hb',Z2q _ c (by omega) hc,Z2q _ d (by omega) hd]
 have g1:=Z2p a 24 (by omega) (by omega)
 have g2:=Z2p b 16 (by omega) (by omega)
 have g3:=Z2p c 8 (by omega) (by omega)
 rw [show ((24:Nat):Int)=24 from rfl] at g1
 rw [show ((16:Nat):Int)=16 from rfl] at g2
 rw [show ((8:Nat):Int)=8 from rfl] at g3
 simp only [Z7w]
 omega
theorem Ring.first (bl:LI) (hb:∀x∈bl,U8 x):Ring bl (VJ bl) 0:=by
 refine ⟨rfl,fun s h1 _=> ?_⟩
 have h16:s<16:=by omega
 rw [Zaz bl h16,<-ZhM bl hb,Jx h16]
 have:s=0\/s=1\/s=2\/s=3\/s=4\/s=5\/s=6\/s=7\/s=8\/s=9\/s=10\/s=11\/s=12\/s=13\/s=14\/s=15:=by omega
 rcases this with rfl|rfl|rfl|rfl|rfl|rfl|rfl|rfl|rfl|rfl|rfl|rfl|rfl|rfl|rfl|rfl<;>rfl
def Z3Q (x y:LI) (t:Nat):Prop:=x.length=8/\∀i,i<8->x.getD ((i+64-t)%8) 0=y.getD i 0
theorem Z3Q.step {x y m:LI} {w:Int} {t:Nat} (h:Z3Q x y t) (hU:∀i,i<8->U32 (y.getD i 0)) (ht:t<64) (hm:m.getD (t%16) 0=w):
  Z3Q (Z7i t m x) (Z22 XJ XE (VI.getD t 0) w y) (t+1):=by
 obtain ⟨hl,hr⟩:=h
 have a0:=Vz 0 t (by omega) (by omega)
 have a1:=Vz 1 t (by omega) (by omega)
 have a2:=Vz 2 t (by omega) (by omega)
 have a3:=Vz 3 t (by omega) (by omega)
 have a4:=Vz 4 t (by omega) (by omega)
 have a5:=Vz 5 t (by omega) (by omega)
 have a6:=Vz 6 t (by omega) (by omega)
 have a7:=Vz 7 t (by omega) (by omega)
 have h0:=hr 0 (by omega)
 have h1:=hr 1 (by omega)
 have h2:=hr 2 (by omega)
 have h3:=hr 3 (by omega)
 have h4:=hr 4 (by omega)
 have h5:=hr 5 (by omega)
 have h6:=hr 6 (by omega)
 have h7:=hr 7 (by omega)
 rw [<-a0] at h0
 rw [<-a1] at h1
 rw [<-a2] at h2
 rw [<-a3] at h3
 rw [<-a4] at h4
 rw [<-a5] at h5
 rw [<-a6] at h6
 rw [<-a7] at h7
 refine ⟨by rw [Z7k,hl], ?_⟩
 have hadd:Z62 t m x=u32.wrap (u32.wrap (u32.wrap (u32.wrap (y.getD 7 0+sg3 6 11 25 (y.getD 4 0))+XE (y.getD 4 0) (y.getD 5 0) (y.getD 6 0))+VI.getD t 0)+w):=by
  unfold Z62
  rw [Z16,hm]
  rw [show atI 7 (t:Int)=atI ((7:Nat):Int) t from rfl,show atI 4 (t:Int)=atI ((4:Nat):Int) t from rfl,show atI 5 (t:Int)=atI ((5:Nat):Int) t from rfl,show atI 6 (t:Int)=atI ((6:Nat):Int) t from rfl]
  rw [h4,h5,h6,h7,Zau (hU 4 (by omega)),ZhL (hU 4 (by omega)) (hU 5 (by omega)) (hU 6 (by omega))]
  rw [Jf,Jk]
 unfold Z7i
 rw [hadd]
 rw [show atI 7 (t:Int)=atI ((7:Nat):Int) t from rfl,show atI 3 (t:Int)=atI ((3:Nat):Int) t from rfl,show atI 0 (t:Int)=atI ((0:Nat):Int) t from rfl,show atI 1 (t:Int)=atI ((1:Nat):Int) t from rfl,show atI 2 (t:Int)=atI ((2:Nat):Int) t from rfl]
 rw [h0,h1,h2,h3,<-ZhK (hU 0 (by omega)) (hU 1 (by omega)) (hU 2 (by omega)),<-Zau (hU 0 (by omega)),a3,a7]
 intro i hi
 rw [Z3P _ _ _ _ (by rw [K5,hl];omega),Z3P _ _ _ _ (by omega)]
 unfold Z22
 have:i=0\/i=1\/i=2\/i=3\/i=4\/i=5\/i=6\/i=7:=by omega
 rcases this with rfl|rfl|rfl|rfl|rfl|rfl|rfl|rfl
 ·grind [Z7w]
 ·rw [if_neg (by omega),if_neg (by omega),show (1+64-(t+1))%8=(0+64-t)%8 by omega,hr 0 (by omega)];rfl
 ·rw [if_neg (by omega),if_neg (by omega),show (2+64-(t+1))%8=(1+64-t)%8 by omega,hr 1 (by omega)];rfl
 ·rw [if_neg (by omega),if_neg (by omega),show (3+64-(t+1))%8=(2+64-t)%8 by omega,hr 2 (by omega)];rfl
 ·rw [if_neg (by omega),if_pos (by omega)];rfl
 ·rw [if_neg (by omega),if_neg (by omega),show (5+64-(t+1))%8=(4+64-t)%8 by omega,hr 4 (by omega)];rfl
 ·rw [if_neg (by omega),if_neg (by omega),show (6+64-(t+1))%8=(5+64-t)%8 by omega,hr 5 (by omega)];rfl
 ·rw [if_neg (by omega),if_neg (by omega),show (7+64-(t+1))%8=(6+64-t)%8 by omega,hr 6 (by omega)];rfl
theorem ZhN {k w:Int} {y:LI} (hU:∀i,i<8->U32 (y.getD i 0)):∀i,i<8->U32 ((Z22 XJ XE k w y).getD i 0):=by
 intro i hi
 unfold Z22
 have:i=0\/i=1\/i=2\/i=3\/i=4\/i=5\/i=6\/i=7:=by omega
 rcases this with rfl|rfl|rfl|rfl|rfl|rfl|rfl|rfl
 all_goals simp_all [Z3N]
def W8 (st:LI):Prop:=st.length=8/\∀x∈st,U32 x
theorem W8.get {st:LI} (h:W8 st) (i:Nat):U32 (st.getD i 0):=Qh h.2 (by unfold U32;omega) i
theorem Z7x (bl st:LI) (hb:∀x∈bl,U8 x) (hs:W8 st):∀t,t<=64->Ring bl (U0 (VJ bl) st t).1 t/\Z3Q (U0 (VJ bl) st t).2 (Qd XJ XE (WD bl 64) st t) t/\∀i,i<8->U32 ((Qd XJ XE (WD bl 64) st t).getD i 0)
 | 0,_=>by
  rw [Z4Q,Zc5]
  refine ⟨Ring.first bl hb,⟨hs.1,fun i hi=> ?_⟩,fun i _=>hs.get i⟩
  rw [show (i+64-0)%8=i by omega]
 | t+1,h=>by
  obtain ⟨h1,h2,h3⟩:=Z7x bl st hb hs t (by omega)
  rw [Z4R,Zc4]
  have hR:=h1.step (by omega)
  refine ⟨hR,h2.step h3 (by omega) ?_,ZhN h3⟩
  rw [hR.2 t (by omega) (by omega)]
  unfold Z2b
  rfl
theorem Zcd (st x:LI) (i:Nat):U7 st x (i+1)=(U7 st x i).set i (u32.wrap ((U7 st x i).getD i 0+st.getD i 0)):=by rw [U7]
theorem Zce (st x:LI):U7 st x 0=x:=by rw [U7]
theorem ZhO (st x:LI) (hs:st.length=8) (hx:x.length=8):U7 st x 8=ZbE st x:=by
 obtain ⟨a0,a1,a2,a3,a4,a5,a6,a7,rfl⟩:=eight st hs
 obtain ⟨b0,b1,b2,b3,b4,b5,b6,b7,rfl⟩:=eight x hx
 simp_all [Zcd,Zce,ZbE,Int.add_comm]
theorem Z9m {x y:LI} (h:Z3Q x y 64) (hy:y.length=8):y=x:=by
 obtain ⟨h4,h5⟩:=h
 obtain ⟨a0,a1,a2,a3,a4,a5,a6,a7,rfl⟩:=eight _ hy
 obtain ⟨b0,b1,b2,b3,b4,b5,b6,b7,rfl⟩:=eight _ h4
 have g0:=h5 0 (by omega)
 have g1:=h5 1 (by omega)
 have g2:=h5 2 (by omega)
 have g3:=h5 3 (by omega)
 have g4:=h5 4 (by omega)
 have g5:=h5 5 (by omega)
 have g6:=h5 6 (by omega)
 have g7:=h5 7 (by omega)
 simp_all
theorem Z7y (st bl:LI) (hb:∀x∈bl,U8 x) (hs:W8 st):XZ st bl=Wu st bl:=by
 obtain ⟨_,h2,h3⟩:=Z7x bl st hb hs 64 (by omega)
 have hl:=Z12 (M:=XJ) (P:=XE) (m:=WD bl 64) hs.1 64
 unfold XZ Wu
 rw [ZhO _ _ hs.1 hl]
 congr 1
 exact Z9m h2 hl
theorem Z7z (st bl:LI) (hs:st.length=8):W8 (Wu st bl):=by
 refine ⟨Z4S st bl hs,fun x hx=> ?_⟩
 grind [Wu,ZbE,Kb,Z3N]
def QM (P:LI->LI->LI):Nat->LI->LI->LI
 | 0,st,_=>st
 | n+1,st,ms=>QM P n (P st (ms.take 64)) (ms.drop 64)
theorem Z1D (P:LI->LI->LI):∀(n:Nat) (st ms:LI),QM P (n+1) st ms=P (QM P n st ms) ((ms.drop (64*n)).take 64)
 | 0,_,_=>rfl
 | n+1,st,ms=>by
  rw [QM,Z1D P n,Km]
  rw [show 64+64*n=64*(n+1) by omega]
  rfl
theorem Z3R (P:LI->LI->LI):∀(n:Nat) (st ms more:LI),64*n<=ms.length->QM P n st (ms++more)=QM P n st ms
 | 0,_,_,_,_=>rfl
 | n+1,st,ms,more,h=>by
  rw [QM,QM,List.take_append_of_le_length (by omega),K2 (by omega),Z3R P n _ _ _ (by rw [Jb];omega)]
theorem Z3S:∀(n:Nat) (st ms:LI),W8 st->(∀x∈ms,U8 x)->QM XZ n st ms=QM Wu n st ms
 | 0,_,_,_,_=>rfl
 | n+1,st,ms,hs,hm=>by
  rw [QM,QM,Z7y st _ (fun x hx=>hm x (List.mem_of_mem_take hx)) hs]
  exact Z3S n _ _ (Z7z st _ hs.1) fun x hx=>hm x (List.mem_of_mem_drop hx)
structure Rep (r:ZB) (ms:LI):Prop where
 came:r.came=ms.length
 st:r.st=QM Wu (ms.length/64) YE.st ms
 len:r.part.length=64
 part:r.part.take (ms.length%64)=ms.drop (64*(ms.length/64))
theorem Rep.ok {r:ZB} (h:Rep r ms) (h8:r.st.length=8):r.Ok:=⟨h8,h.len,by rw [h.came];omega⟩
theorem Rep.one {r:ZB} (h:Rep r ms) (bs:LI):Rep (r.one bs) (ms++wTk r.came bs):=by
 have ha:wAt r.came=ms.length%64:=by
  unfold wAt
  rw [h.came,tm (by omega)]
  omega
 have hk:(wTk r.came bs).length<=64-ms.length%64:=by
  grind [wTk]
 have hdl:(ms.drop (64*(ms.length/64))).length=ms.length%64:=by rw [Jb];omega
 have hp:Q5 r.part r.came bs=ms.drop (64*(ms.length/64))++wTk r.came bs++r.part.drop (ms.length%64+(wTk r.came bs).length):=by
  unfold Q5 spl
  rw [ha,h.part]
 have hl:(Q5 r.part r.came bs).length=64:=by
  rw [hp,J9,J9,hdl,Jb,h.len]
  omega
 have hst:(r.one bs).st=if ms.length%64+(wTk r.came bs).length=64 then Wu r.st (Q5 r.part r.came bs) else r.st:=by
  show wSt _ _ _ _=_
  unfold wSt
  rw [ha]
 have hca:(r.one bs).came=r.came+(wTk r.came bs).length:=rfl
 have hpa:(r.one bs).part=Q5 r.part r.came bs:=rfl
 generalize wTk r.came bs=tk at*
 have hal:(ms++tk).length=ms.length+tk.length:=J9
 refine ⟨by rw [hca,h.came,hal];omega, ?_,by rw [hpa];exact hl, ?_⟩
 ·rw [hst,h.st]
  by_cases h64:ms.length%64+tk.length=64
  ·rw [if_pos h64,hal,show (ms.length+tk.length)/64=ms.length/64+1 by omega,Z1D,Z3R _ _ _ _ _ (by omega)]
   rw [K2 (by omega),hp,show r.part.drop (ms.length%64+tk.length)=[] from JL (by rw [h.len];omega),JN,Ju (by rw [J9,hdl];omega)]
  grind [Z3R]
 ·rw [hpa,hal]
  by_cases h64:ms.length%64+tk.length=64
  ·rw [show (ms.length+tk.length)%64=0 by omega,List.take_zero,JL (by omega)]
  ·rw [show (ms.length+tk.length)/64=ms.length/64 by omega,show (ms.length+tk.length)%64=ms.length%64+tk.length by omega,hp,K2 (by omega)]
   grind
theorem Rep.many:∀(n:Nat) (r:ZB) (ms bs:LI),r.Ok->Rep r ms->bs.length<=n->Rep (ZB.many n r bs).1 (ms++bs)
 | 0,r,ms,bs,_,h,hn=>by
  have:bs=[]:=JQ (by omega)
  subst this
  rw [JN]
  exact h
 | n+1,r,ms,bs,hr,h,hn=>by
  unfold ZB.many
  split
  ·rw [JN];exact h
  ·rename_i b bs
   have hp:=Qz hr (bs:=b::bs) (by simp)
   have hb:(b::bs)=wTk r.came (b::bs)++(b::bs).drop (wTk r.came (b::bs)).length:=by
    grind [wTk,List.take_append_drop]
   have:=Rep.many n _ _ ((b::bs).drop (wTk r.came (b::bs)).length) (hr.one _) (h.one (b::bs)) (by rw [Jb];omega)
   rw [K1,<-hb] at this
   exact this
theorem Rep.write {r:ZB} (hr:r.Ok) (h:Rep r ms) (bs:LI):Rep (r.write bs) (ms++bs):=by
 simp_all [ZB.write,Rep.many]
theorem Rep.init:Rep YE []:=⟨rfl,rfl,rfl,rfl⟩
def Z1E (bs:LI):LI:=bs++QI bs.length++len8 bs.length
def Z9n (P:LI->LI->LI) (bs:LI):LI:=Z4V (QM P ((Z1E bs).length/64) YE.st (Z1E bs))
theorem Rep.fin {r:ZB} (hr:r.Ok) (h:Rep r ms):r.fin=Z9n Wu ms:=by
 have h1:=h.write hr (QI r.came)
 have h2:=h1.write (Xz _ _ hr) (len8 r.came)
 unfold ZB.fin Z9n
 rw [h2.st,h.came]
 rfl
theorem Z3T (bs:LI):UC bs=Z9n Wu bs:=by
 unfold UC
 have:=Rep.init.write XA bs
 exact this.fin (Xz _ _ XA)
theorem Z7A (a b:LI):Z0m a b=UC (a++b):=by
 rw [Z3T]
 unfold Z0m
 have h1:=Rep.init.write XA a
 have h2:=h1.write (Xz _ _ XA) b
 exact h2.fin (Xz _ _ (Xz _ _ XA))
theorem Z7B:W8 YE.st:=by
 refine ⟨rfl,fun x hx=> ?_⟩
 simp only [YE,J8,Kp,or_false] at hx
 unfold U32
 rcases hx with rfl|rfl|rfl|rfl|rfl|rfl|rfl|rfl<;>omega
theorem ZhP (n:Int):∀x∈QI n,U8 x:=by
 grind [QI,U8]
theorem Z9o (x:Int):U8 (u8.wrap x):=by rw [wr8];unfold U8;omega
theorem ZhQ (n:Int):∀x∈len8 n,U8 x:=by
 intro x hx
 unfold len8 Z0V at hx
 simp only [J8,Kp,or_false] at hx
 rcases hx with h|h|h|h|h|h|h|h<;>rw [h]<;>exact Z9o _
theorem Zcf {bs:LI} (h:∀x∈bs,U8 x):∀x∈Z1E bs,U8 x:=by
 grind [Z1E,ZhP,ZhQ]
theorem ZeE (n:Int):∀x∈Vt n,U8 x:=by
 intro x hx
 unfold Vt at hx
 simp only [J8,Kp,or_false] at hx
 rcases hx with h|h|h|h<;>rw [h]<;>exact Z9o _
theorem ZeF (st:LI):∀x∈Z4V st,U8 x:=by
 intro x hx
 unfold Z4V at hx
 simp only [JW] at hx
 rcases hx with (((((((h|h)|h)|h)|h)|h)|h)|h)<;>exact ZeE _ x h
theorem Z6f (bs:LI):∀x∈UC bs,U8 x:=by rw [Z3T];exact ZeF _
theorem ZhR:QD XZ:=⟨fun st bl h=>Z7r st bl h,fun _ _ h=>Z69 h⟩
theorem Zn6 (x:LI) (i:Nat):toN x (i+1)=((((toN x i).set (4*i) (u8.wrap (u32.wrap (Int.tdiv (x.getD i 0) 16777216)))).set (4*i+1) (toE (x.getD i 0) 65536)).set (4*i+2) (toE (x.getD i 0) 256)).set (4*i+3) (u8.wrap (Int.tmod (x.getD i 0) 256)):=by rw [toN]
theorem Zn7 (x:LI):toN x 0=Z5:=by rw [toN]
def four (x:Int):LI:=[u8.wrap (u32.wrap (Int.tdiv x 16777216)),toE x 65536,toE x 256,u8.wrap (Int.tmod x 256)]
theorem Zcg (x:LI):(Qf x).length=32:=by unfold Qf;exact Z6a x 8
theorem Z9p (x:LI) (h:x.length=8):Qf x=four (x.getD 0 0)++four (x.getD 1 0)++four (x.getD 2 0)++four (x.getD 3 0)++four (x.getD 4 0)++four (x.getD 5 0)++four (x.getD 6 0)++four (x.getD 7 0):=by
 kernel_rfl
theorem Zn8 (x:Int):u64.wrap x=x%18446744073709551616:=by
 simp_all [wrap,IntKind.bits,IntKind.signed]
theorem ZaB (x n:Nat) (hn:n<=64):Zw .u64 x n=((x/2^n:Nat):Int):=by
 grind [Zw,IntKind.bits]
theorem XR {x:Int} (h:U32 x):four x=Vt (u64.wrap x):=by
 obtain ⟨x,rfl,gx⟩:=h.nat
 have e:u64.wrap (x:Int)=x:=by rw [Zn8];omega
 have s24:=ZaB x 24 (by omega)
 have s16:=ZaB x 16 (by omega)
 have s8:=ZaB x 8 (by omega)
 have s0:=ZaB x 0 (by omega)
 rw [show ((24:Nat):Int)=24 from rfl] at s24
 rw [show ((16:Nat):Int)=16 from rfl] at s16
 rw [show ((8:Nat):Int)=8 from rfl] at s8
 rw [show ((0:Nat):Int)=0 from rfl] at s0
 have d1:Int.tdiv (x:Int) 16777216=(x:Int)/16777216:=JK (by omega)
 have d2:Int.tdiv (x:Int) 65536=(x:Int)/65536:=JK (by omega)
 have d3:Int.tdiv (x:Int) 256=(x:Int)/256:=JK (by omega)
 unfold four Vt toE
 rw [e,s24,s16,s8,s0,d1,d2,d3]
 simp only [wr8,Z7w]
 rw [tm (a:=(x:Int)/65536%4294967296) (by omega),tm (a:=(x:Int)/256%4294967296) (by omega),tm (a:=(x:Int)) (by omega)]
 simp_all
theorem Z9q {x:LI} (h:W8 x):Qf x=Z4V x:=by
 rw [Z9p x h.1]
 unfold Z4V
 rw [XR (h.get 0),XR (h.get 1),XR (h.get 2),XR (h.get 3),XR (h.get 4),XR (h.get 5),XR (h.get 6),XR (h.get 7)]
theorem XS (n:Nat) (i:Nat) (hi:i<8):ZhF n i=u8.wrap (Zw .u64 (u64.wrap (u64.wrap n*8)) ((56-8*i:Nat):Int)):=by
 grind [ZhF,w64,Zn8,wr8]
theorem Zch (n:Nat):Vh n 8=len8 n:=by
 simp only [Vh,Kg]
 rw [XS n 0 (by omega),XS n 1 (by omega),XS n 2 (by omega),XS n 3 (by omega),XS n 4 (by omega),XS n 5 (by omega),XS n 6 (by omega),XS n 7 (by omega)]
 rfl
theorem Zci (n:Nat) (h:n<=100000000000):[128]++Z7s n=QI n:=by
 unfold Z7s QI
 have e1:Int.tmod (n:Int) 64=(n:Int)%64:=tm (by omega)
 have e2:i64.wrap (119-(n:Int)%64)=119-(n:Int)%64:=w64 (by omega)
 rw [Zkr n h,e1,e2,tm (by omega)]
 grind
theorem ZeG (bs:LI) (h:bs.length<=100000000000):Qe bs=Z1E bs:=by
 unfold Qe Z1E
 rw [Zch,K1 bs,Zci _ h]
theorem Z5g (P:LI->LI->LI) (ys:LI):∀i,QL P ys i=QM P i YE.st ys
 | 0=>Z5a P ys
 | i+1=>by rw [Z5b,Z1D,Z5g P ys i]
theorem ZaC:∀(n:Nat) (st ms:LI),W8 st->W8 (QM Wu n st ms)
 | 0,_,_,h=>h
 | n+1,st,_,h=>ZaC n _ _ (Z7z st _ h.1)
@[irreducible] def Qi (bs:LI):LI:=ZeA XZ bs
theorem Z17 (bs:LI):(Qi bs).length=32:=by unfold Qi ZeA;exact Zcg _
theorem Z2r {bs:LI} (h:∀x∈bs,U8 x) (hl:bs.length<=100000000000):Qi bs=UC bs:=by
 unfold Qi ZeA
 rw [Z5g,ZeG bs hl,Z3S _ _ _ Z7B (Zcf h),Z9q (ZaC _ _ _ Z7B),Z3T]
 rfl
theorem Z5h (xs:LI) (h:xs.length<=100000000000):Zx PP 208 [.vints .u8 xs xs.length] (.agg [.arr .u8 32 (Qi xs)]) 0 []:=by
 unfold Qi
 exact Zc8 ZhR xs h
theorem ZaD (c:Int) (b:LI):∀i,i<=b.length->Z4j c b i=(b.take i).map (fun x=>Yu .u8 x c)++b.drop i
 | 0,_=>by rw [Z4X];simp
 | i+1,h=>by
  rw [Z1v,ZaD c b i (by omega)]
  unfold Z3u
  have hl:((b.take i).map (fun x=>Yu .u8 x c)).length=i:=by rw [List.length_map,Ji];omega
  obtain ⟨y,hy⟩:∃y,b[i]? =some y:=⟨b[i],Jd (by omega)⟩
  have hd:b.drop i=y::b.drop (i+1):=by
   rw [JV (by omega)]
   grind
  rw [hd,Jf,J5,Jg (by omega),hl,Nat.sub_self,List.set_append_right _ _ (by omega),hl,Nat.sub_self]
  rw [List.take_add_one,hy]
  simp
theorem Z3U (c:Int) (b:LI) (h:b.length=64):V8 c b=b.map (fun x=>Yu .u8 x c):=by
 unfold V8
 rw [ZaD c b 64 (by omega),<-h,Jv,List.drop_length,JN]
theorem ZaE (key:LI) (c:Int) (hk:key.length=32) (h0:Yu .u8 0 c=c):∀i,i<=64->kxR key c i=((key++List.replicate 32 0).take i).map (fun x=>Yu .u8 x c)
 | 0,_=>by rw [kxR];rfl
 | i+1,h=>by
  rw [kxR,ZaE key c hk h0 i (by omega),List.take_add_one,JY]
  congr 1
  grind [kxE]
theorem ZeH (key:LI) (hk:key.length=32):VK key=key++List.replicate 32 0:=by
 have e1:List.take 32 key=key:=Ju (by omega)
 have e2:List.take 64 key=key:=Ju (by omega)
 unfold VK spl
 rw [e1,e2,hk]
 rfl
theorem ZeI (key:LI) (c:Int) (hk:key.length=32) (h0:Yu .u8 0 c=c):kxR key c 64=V8 c (VK key):=by
 rw [Z3U c _ (U1 key),ZaE key c hk h0 64 (by omega),ZeH key hk,Ju (by simp [hk])]
theorem ZeJ (c:Int) (b:LI):∀x∈b.map (fun x=>Yu .u8 x c),U8 x:=by
 intro x hx
 obtain ⟨y,_,rfl⟩:=List.mem_map.mp hx
 exact Z9o _
theorem ZeK {a b:LI} (ha:∀x∈a,U8 x) (hb:∀x∈b,U8 x):∀x∈a++b,U8 x:=fun x hx=>(JW.mp hx).elim (ha x) (hb x)
theorem ZhS {key:LI} (hk:key.length=32) (hm:ms.length=32) (hU:∀x∈ms,U8 x):Qg Qi key ms=Q7 key ms:=by
 have k1:=ZeI key 92 hk (by decide)
 have k2:=ZeI key 54 hk (by decide)
 have l1:=Z0X 92 _ (U1 key)
 have l2:=Z0X 54 _ (U1 key)
 have u1:∀x∈V8 92 (VK key),U8 x:=by rw [Z3U _ _ (U1 key)];exact ZeJ _ _
 have u2:∀x∈V8 54 (VK key),U8 x:=by rw [Z3U _ _ (U1 key)];exact ZeJ _ _
 unfold Qg Q7
 rw [k1,k2,Z7A]
 have h2:((YE.write (V8 54 (VK key))).write ms).fin=UC (V8 54 (VK key)++ms):=by
  rw [<-Z7A];unfold Z0m;rfl
 rw [h2,Z2r (bs:=V8 54 (VK key)++ms) (ZeK u2 hU) (by rw [J9,l2,hm];decide)]
 rw [Z2r (ZeK u1 (Z6f _)) (by rw [J9,l1,Z0W];decide)]
theorem ZeL {bs:LI} (h:∀x∈bs,U8 x) (hl:bs.length<=100000000000):Ur Qi bs=Q6 bs:=by
 unfold Ur Q6
 rw [Z2r h hl,Z2r (Z6f _) (by rw [Z0W];decide)]
noncomputable def E60 (R:TxS->Bool->LI) (H:LI->LI) (T2:LI->LI->LI) (B:Nat):Za:=((G0.withF 207 (Zei R)).withP 206 (Z7u H B)).withP 125 (ZeB T2)
theorem Zqm (R:TxS->Bool->LI) (H:LI->LI) (T2:LI->LI->LI) (B:Nat) (t:TxS) (r:LI) (ht:t.Fine) (hb:(R t true).length<=B) (hr:r=H (R t true)):
  evF (E60 R H T2 B) 20 124 [.agg t.c] ⟨0,[]⟩ (ZK 0 (.ret (.agg [.arr .u8 32 r])) 0 []):=by
 refine @Eq.mpr _ (let d:=t.N;let b:=t.M;
 ∃(t_1:TxS),
 let a:=List.length (R t_1 true);let f:=List.take a (ZV 0 (R t_1 true));let e:=f.length;
 (t_1.num=t.num/\((d=d/\t_1.N=d)/\∀(i:Nat),i<d->Zj t.ins i=InS.c (t_1.ins i))/\(b=b/\t_1.M=b)/\∀(i:Nat),i<b->Zi t.outs i=ZM.c (t_1.outs i))/\TxS.Fine t_1/\Z6 (0+a<=a) (Z6 (a=e) (Z6 (e<=B) (H f=r/\True)))) (by kernel_rfl) ?_
 conv=>zeta
 try simp only [vcA]
 try simp only [vcB]
 try simp only [vcC]
 refine ⟨t,⟨rfl,⟨rfl,fun _ _=>rfl⟩,rfl,fun _ _=>rfl⟩,ht, ?_⟩
 rw [Z14 rfl]
 exact ⟨rfl,hb,hr.symm⟩
theorem Zn9 (R:TxS->Bool->LI) (H:LI->LI) (T2:LI->LI->LI) (B:Nat) (t:TxS) (key r:LI) (ht:t.Fine) (hk:key.length=32) (hb:(R t true).length<=B) (hl:(H (R t true)).length=32) (hr:r=T2 key (H (R t true))):
  evF (E60 R H T2 B) 20 62 [.agg t.c,.agg [.arr .u8 32 key]] ⟨0,[]⟩ (ZK 0 (.ret (.agg [.arr .u8 32 r])) 0 []):=by
 refine @Eq.mpr _ (let d:=t.N;let b:=t.M;
 ∃(t_1:TxS),
 let a:=List.length (R t_1 true);let g:=List.take a (ZV 0 (R t_1 true));let f:=g.length;let e:=H g;
 (t_1.num=t.num/\((d=d/\t_1.N=d)/\∀(i:Nat),i<d->Zj t.ins i=InS.c (t_1.ins i))/\(b=b/\t_1.M=b)/\∀(i:Nat),i<b->Zi t.outs i=ZM.c (t_1.outs i))/\TxS.Fine t_1/\Z6 (0+a<=a) (Z6 (a=f) (Z6 (f<=B) (Z6 (key.length=32) (Z6 (e.length=32) (Z6 (key.length=32/\(32:Nat)=32/\e.length=32/\(32:Nat)=32) (T2 key e=r/\True))))))) (by kernel_rfl) ?_
 conv=>zeta
 try simp only [vcA]
 try simp only [vcB]
 try simp only [vcC]
 refine ⟨t,⟨rfl,⟨rfl,fun _ _=>rfl⟩,rfl,fun _ _=>rfl⟩,ht, ?_⟩
 rw [Z14 rfl]
 repeat' (first|(refine Ja ?_ ?_)|intro _)
 all_goals first|omega|assumption|trivial|exact hr.symm
def Zpu (Nm:TxS->LI):ZF:=fun args h K=>ZG none h true 20 args fun a=>match a with
 | [.agg l]=>∃t,Z0s l t/\t.Fine/\K (.agg [.arr .u8 32 (Nm t)])
 | _=>False
def Z3V (Tg:LI->TxS->LI):ZF:=fun args h K=>ZG none h true 20 args fun a=>match a with
 | [.agg l,.agg [.arr .u8 32 key]]=>∃t,Z0s l t/\(t.Fine/\key.length=32)/\K (.agg [.arr .u8 32 (Tg key t)])
 | _=>False
structure Z6g (H:LI->LI) (T2:LI->LI->LI):Prop where
 h:∀args h K,Z7u H 100000 args h K->Zd PP 206 args h fun o h'=>∃v,o=.ret v/\h'=h/\K v
 t:∀args h K,ZeB T2 args h K->Zd PP 125 args h fun o h'=>∃v,o=.ret v/\h'=h/\K v
 r:∀args h K,Zei (Wh Zt) args h K->Zd PP 207 args h K
 hl:∀x,(H x).length=32
theorem Zkw (hp:Z6g H T2):(E60 (Wh Zt) H T2 100000).Ok:=Za.withP_ok (Za.withP_ok (Za.withF_ok Zr hp.r) hp.h) hp.t
@[irreducible] def ZeM (H:LI->LI) (t:TxS):LI:=H (Wh Zt t true)
@[irreducible] def Z3W (H:LI->LI) (T2:LI->LI->LI) (key:LI) (t:TxS):LI:=T2 key (H (Wh Zt t true))
theorem Z9r (hp:Z6g H T2) (t:TxS) (key:LI) (ht:t.Fine) (hk:key.length=32):Zx PP 62 [.agg t.c,.agg [.arr .u8 32 key]] (.agg [.arr .u8 32 (Z3W H T2 key t)]) 0 []:=by
 unfold Z3W
 have:=Wv ht true (J2 t.M)
 exact .evM (Zkw hp) (Zn9 (Wh Zt) H T2 100000 t key _ ht hk (by have hb':(Wh Zt t true).length<=20000:=this;omega) (hp.hl _) rfl)
theorem Zcj (hp:Z6g H T2) (args:List AV) (h:Z8) (K:AV->Prop) (hl:Z3V (Z3W H T2) args h K):Zd PP 62 args h fun o h'=>∃v,o=.ret v/\h'=h/\K v:=by
 refine Zx.psumm (d:=20) (Zq _ _ _ _ _ hl fun a ha=> ?_)
 split at ha
 ·obtain ⟨t,h1,⟨h2,h3⟩,hK⟩:=ha
  exact ⟨_,(Z9r hp t _ h2 h3).conv fun E r hr=>hr.head (fun _ hc=>h1.rel hc) (fun _ hc=>hc),fun _=>rfl,hK⟩
 ·exact ha.elim
theorem Bytes.u8 (h:Bytes xs):∀x∈xs,U8 x:=by
 intro x hx
 obtain ⟨i,hi,rfl⟩:=Kb hx
 have:=h.h i
 rw [J5,Jd hi] at this
 simp at this
 unfold U8
 omega
theorem Zkx:Z6g (Ur Qi) (Qg Qi) where
 h:=fun args h K hl=>Zca (B:=100000) (fun xs hx=>Z5h xs (by omega)) (by decide) Z17 args h K hl
 t:=fun args h K hl=>ZeC (B:=100000) (fun xs hx=>Z5h xs (by omega)) (by decide) Z17 args h K hl
 r:=Z9f
 hl:=fun x=>by unfold Ur;exact Z17 _
theorem Zck (a b:LI):(Qg Qi a b).length=32:=by unfold Qg;exact Z17 _
@[irreducible] def ZaF (t:TxS):LI:=ZeM (Ur Qi) t
@[irreducible] def Wj (key:LI) (t:TxS):LI:=Z3W (Ur Qi) (Qg Qi) key t
theorem Z7C (k:LI) (t:TxS):(Wj k t).length=32:=by unfold Wj Z3W;exact Zck _ _
theorem Z6h (args:List AV) (h:Z8) (K:AV->Prop) (hl:Z3V Wj args h K):Zd PP 62 args h fun o h'=>∃v,o=.ret v/\h'=h/\K v:=Zcj Zkx args h K (by
 have e:Wj=Z3W (Ur Qi) (Qg Qi):=by funext k t;unfold Wj;rfl
 rw [e] at hl;exact hl)
theorem ZeN {t:TxS} (hf:t.Fine) (hb:Z00 t):ZaF t=Z1Z t:=by
 have h1:=Wv hf true (J2 t.M)
 have h2:(Wh Zt t true).length<=20000:=h1
 unfold ZaF ZeM Z1Z
 exact ZeL (Z9h hb true).u8 (by omega)
theorem ZeO (bs:LI):∀x∈Q6 bs,U8 x:=by unfold Q6;exact Z6f _
theorem ZeP (t:TxS):∀x∈Z1Z t,U8 x:=by unfold Z1Z;exact ZeO _
theorem Zcl (key:LI) (t:TxS):Wj key t=Qg Qi key (ZaF t):=by unfold Wj Z3W ZaF ZeM;rfl
theorem Z9s (key:LI) (t:TxS):ZC key t=Q7 key (Z1Z t):=by unfold ZC Z1Z;rfl
theorem Z2s {key:LI} {t:TxS} (hf:t.Fine) (hb:Z00 t) (hk:key.length=32):Wj key t=ZC key t:=by
 rw [Zcl,Z9s,ZeN hf hb,ZhS hk (ZbV t) (ZeP t)]
structure Zp where
 fund:LI
 index:Int
 cap:Int
 dust:Int
 fee:Int
 delay:Int
 k0:LI
 k1:LI
def Zp.c (t:Zp):List AV:=[.arr .u8 32 t.fund,.int .i64 t.index,.int .i64 t.cap,.int .i64 t.dust,.int .i64 t.fee,.int .i64 t.delay,.arr .u8 32 t.k0,.arr .u8 32 t.k1]
structure Zp.Ok (t:Zp):Prop where
 k0:t.k0.length=32
 k1:t.k1.length=32
 b0:Bytes t.k0
 b1:Bytes t.k1
def Yj (t:Zp):Bool:=decide (0<=t.index/\t.index<=23)&&decide (1000<=t.cap/\t.cap<=1125899906842624)&&decide (1<=t.dust/\t.dust<=500)&&decide (0<=t.fee/\t.fee<=400)&&decide (1<=t.delay/\t.delay<=1000)&&(t.k0 !=t.k1)
theorem Z7D (b:Bool) (x y:Prop):Z0 b x y=((b=true->x)/\(b=false->y)):=by cases b<;>simp [Z0]
theorem Zna (n a b:Int) (r:Bool) (hr:r=decide (a<=n/\n<=b)):
  evF G0 20 86 [.int .i64 n,.int .i64 a,.int .i64 b] ⟨0,[]⟩ (Xr (fun v=>v=.bool r)):=by
 refine @Eq.mpr _ (Z0 (decide (a<=n)) (AV.bool (decide (n<=b))=AV.bool r) (AV.bool false=AV.bool r)) (by kernel_rfl) ?_
 simp only [Z7D]
 subst hr
 by_cases h1:a<=n<;>by_cases h2:n<=b<;>simp [h1]
def inQ:ZF:=fun args _ K=>match args with
 | [.int .i64 n,.int .i64 a,.int .i64 b]=>K (.bool (decide (a<=n/\n<=b)))
 | _=>False
theorem ZeQ (args:List AV) (h:Z8) (K:AV->Prop) (hl:inQ args h K):Zd PP 86 args h fun o h'=>∃v,o=.ret v/\h'=h/\K v:=by
 unfold inQ at hl
 split at hl
 ·exact YD Zr rfl (Zna _ _ _ _ rfl) (fun u hu=>hu▸hl)
 simp_all
noncomputable def E71:Za:=G0.withP 86 inQ
theorem Zky:E71.Ok:=Za.withP_ok Zr ZeQ
theorem Znb (t:Zp) (e:Int) (ht:t.Ok) (he:e=if Yj t=true then 0 else 2):
  evF E71 20 44 [.agg t.c] ⟨0,[]⟩ (Xr (fun v=>v=.int .i64 e)):=by
 refine @Eq.mpr _ (let a:=AV.int i64 2=AV.int i64 e;
 Z0 (decide (t.k0.length=32/\t.k1.length=32)) (Z0 (false==decide (0<=t.index/\t.index<=23)) a (Z0 (false==decide (1000<=t.cap/\t.cap<=1125899906842624)) a (Z0 (false==decide (1<=t.dust/\t.dust<=500)) a (Z0 (false==decide (0<=t.fee/\t.fee<=400)) a (Z0 (false==decide (1<=t.delay/\t.delay<=1000)) a (Z0 (false== !t.k0==t.k1) a (AV.int i64 0=AV.int i64 e))))))) False) (by kernel_rfl) ?_
 conv=>zeta
 try simp only [Zc]
 try simp only [Zl]
 try simp only [Zg]
 try simp only [Zm]
 try simp only [Zn]
 try simp only [Zh]
 try simp only [and_true]
 unfold Yj at he
 refine ⟨⟨ht.k0,ht.k1⟩, ?_⟩
 generalize decide (0<=t.index/\t.index<=23)=c1 at*
 generalize decide (1000<=t.cap/\t.cap<=1125899906842624)=c2 at*
 generalize decide (1<=t.dust/\t.dust<=500)=c3 at*
 generalize decide (0<=t.fee/\t.fee<=400)=c4 at*
 generalize decide (1<=t.delay/\t.delay<=1000)=c5 at*
 have h6:(t.k0 !=t.k1)= !(t.k0==t.k1):=rfl
 generalize (t.k0==t.k1)=c6 at*
 cases c1<;>cases c2<;>cases c3<;>cases c4<;>cases c5<;>cases c6<;>simp_all
theorem Znc (t:Zp) (b:Bool) (ht:t.Ok) (hb:b=Yj t):
  evF G0 20 112 [.agg t.c] ⟨0,[]⟩ (Xr (fun v=>v=.bool b)):=by
 refine @Eq.mpr _ (let c:=t.cap;let a:=AV.bool false=AV.bool b;
 Z0 (decide (t.index>=0)) (Z0 (decide (t.index<24)) (Z0 (decide (c>=1000)) (Z0 (decide (c>=0)) (Z0 (decide (c<=1125899906842624)) (Z0 (decide (t.dust>=1)) (Z0 (decide (t.dust<=500)) (Z0 (decide (t.fee>=0)) (Z0 (decide (t.fee<=400)) (Z0 (decide (t.delay>=1)) (Z0 (decide (t.delay<=1000)) (Z0 (decide (t.k0.length=32/\t.k1.length=32)) ((AV.bool !t.k0==t.k1)=AV.bool b) False) a) a) a) a) a) a) a) a) a) a) a) (by kernel_rfl) ?_
 conv=>zeta
 try simp only [Zc]
 try simp only [Zl]
 try simp only [Zg]
 try simp only [Zm]
 try simp only [Zn]
 try simp only [Zh]
 try simp only [and_true]
 subst hb
 unfold Yj
 repeat' (first|(refine Ja ?_ ?_)|intro _)
 all_goals first
  | exact ht.k0
  | exact ht.k1
  | grind
theorem ZeR (b:Bool) (x y:Prop):Z0 b x y=((b=true->x)/\(b=false->y)):=by cases b<;>simp [Z0]
theorem Zkz {x y:LI} {b:Int} {i:Nat} {P:Prop} (hx:i<x.length) (hy:i<y.length) (bx:Bytes x) (yb:Bytes y) (hb:b=Xf (x.drop i) (y.drop i)) (hP:b=Xf (x.drop (i+1)) (y.drop (i+1))->P):
  Z0 (decide (x.getD i 0<y.getD i 0)) (AV.int .i64 (-1)=AV.int .i64 b) (Z0 (decide (x.getD i 0>y.getD i 0)) (AV.int .i64 1=AV.int .i64 b) P):=by
 have e1:x.drop i=x.getD i 0::x.drop (i+1):=by simp_all
 have e2:y.drop i=y.getD i 0::y.drop (i+1):=by rw [JV hy];grind
 have k1:=Z67 (bx.getD i) (yb.getD i)
 grind [Xf,Lib.compareBytes,ZeR]
theorem Znd (x y:LI) (b:Int) (hx:x.length=32) (hy:y.length=32) (bx:Bytes x) (yb:Bytes y) (hb:b=Xf (x.drop 0) (y.drop 0)):
  evF G0 20 204 [.agg [.arr .u8 32 x],.agg [.arr .u8 32 y]] ⟨0,[]⟩ (Xr (fun v=>v=.int .i64 b)):=by
 refine @Eq.mpr _ (let d:=AV.int i64 b;let c:=AV.int i64 (-1)=d;let a:=AV.int i64 1=d;
 Z0 (decide (List.getD x 0 0<List.getD y 0 0)) c
 (Z0 (decide (List.getD x 0 0>List.getD y 0 0)) a
 (Z0 (decide (List.getD x 1 0<List.getD y 1 0)) c
 (Z0 (decide (List.getD x 1 0>List.getD y 1 0)) a
 (Z0 (decide (List.getD x 2 0<List.getD y 2 0)) c
 (Z0 (decide (List.getD x 2 0>List.getD y 2 0)) a
 (Z0 (decide (List.getD x 3 0<List.getD y 3 0)) c
 (Z0 (decide (List.getD x 3 0>List.getD y 3 0)) a
 (Z0 (decide (List.getD x 4 0<List.getD y 4 0)) c
 (Z0 (decide (List.getD x 4 0>List.getD y 4 0)) a
 (Z0 (decide (List.getD x 5 0<List.getD y 5 0)) c
 (Z0 (decide (List.getD x 5 0>List.getD y 5 0)) a
 (Z0 (decide (List.getD x 6 0<List.getD y 6 0)) c
 (Z0 (decide (List.getD x 6 0>List.getD y 6 0)) a
 (Z0 (decide (List.getD x 7 0<List.getD y 7 0)) c
 (Z0 (decide (List.getD x 7 0>List.getD y 7 0)) a
 (Z0 (decide (List.getD x 8 0<List.getD y 8 0)) c
 (Z0 (decide (List.getD x 8 0>List.getD y 8 0)) a
 (Z0 (decide (List.getD x 9 0<List.getD y 9 0)) c
 (Z0 (decide (List.getD x 9 0>List.getD y 9 0)) a
 (Z0 (decide (List.getD x 10 0<List.getD y 10 0)) c
 (Z0 (decide (List.getD x 10 0>List.getD y 10 0)) a
 (Z0 (decide (List.getD x 11 0<List.getD y 11 0)) c
 (Z0 (decide (List.getD x 11 0>List.getD y 11 0)) a
 (Z0 (decide (List.getD x 12 0<List.getD y 12 0)) c
 (Z0 (decide (List.getD x 12 0>List.getD y 12 0)) a
 (Z0 (decide (List.getD x 13 0<List.getD y 13 0)) c
 (Z0 (decide (List.getD x 13 0>List.getD y 13 0)) a
 (Z0 (decide (List.getD x 14 0<List.getD y 14 0)) c
 (Z0 (decide (List.getD x 14 0>List.getD y 14 0)) a
 (Z0 (decide (List.getD x 15 0<List.getD y 15 0)) c
 (Z0 (decide (List.getD x 15 0>List.getD y 15 0)) a
 (Z0 (decide (List.getD x 16 0<List.getD y 16 0)) c
 (Z0 (decide (List.getD x 16 0>List.getD y 16 0)) a
 (Z0 (decide (List.getD x 17 0<List.getD y 17 0)) c
 (Z0 (decide (List.getD x 17 0>List.getD y 17 0)) a
 (Z0 (decide (List.getD x 18 0<List.getD y 18 0)) c
 (Z0 (decide (List.getD x 18 0>List.getD y 18 0)) a
 (Z0 (decide (List.getD x 19 0<List.getD y 19 0)) c
 (Z0 (decide (List.getD x 19 0>List.getD y 19 0)) a
 (Z0 (decide (List.getD x 20 0<List.getD y 20 0)) c
 (Z0 (decide (List.getD x 20 0>List.getD y 20 0)) a
 (Z0 (decide (List.getD x 21 0<List.getD y 21 0)) c
 (Z0 (decide (List.getD x 21 0>List.getD y 21 0)) a
 (Z0 (decide (List.getD x 22 0<List.getD y 22 0)) c
 (Z0 (decide (List.getD x 22 0>List.getD y 22 0)) a
 (Z0 (decide (List.getD x 23 0<List.getD y 23 0)) c
 (Z0 (decide (List.getD x 23 0>List.getD y 23 0)) a
 (Z0 (decide (List.getD x 24 0<List.getD y 24 0)) c (Z0 (decide (List.getD x 24 0>List.getD y 24 0)) a (Z0 (decide (List.getD x 25 0<List.getD y 25 0)) c (Z0 (decide (List.getD x 25 0>List.getD y 25 0)) a (Z0 (decide (List.getD x 26 0<List.getD y 26 0)) c (Z0 (decide (List.getD x 26 0>List.getD y 26 0)) a (Z0 (decide (List.getD x 27 0<List.getD y 27 0)) c (Z0 (decide (List.getD x 27 0>List.getD y 27 0)) a (Z0 (decide (List.getD x 28 0<List.getD y 28 0)) c (Z0 (decide (List.getD x 28 0>List.getD y 28 0)) a (Z0 (decide (List.getD x 29 0<List.getD y 29 0)) c (Z0 (decide (List.getD x 29 0>List.getD y 29 0)) a (Z0 (decide (List.getD x 30 0<List.getD y 30 0)) c (Z0 (decide (List.getD x 30 0>List.getD y 30 0)) a (Z0 (decide (List.getD x 31 0<List.getD y 31 0)) c (Z0 (decide (List.getD x 31 0>List.getD y 31 0)) a (AV.int i64 0=d))))))))))))))))))))))))))))))))))))))))))))))))))))))))))))))))) (by kernel_rfl) ?_
 conv=>zeta
 iterate 32 refine Zkz (by omega) (by omega) bx yb hb fun hb=> ?_
 rw [JL (by omega),JL (by omega)] at hb
 have h0:Xf [] []=0:=rfl
 rw [hb,h0]
def Z7E:ZF:=fun args _ K=>match args with
 | [.agg [.arr .u8 32 fu,.int .i64 ix,.int .i64 ca,.int .i64 du,.int .i64 fe,.int .i64 de,.arr .u8 32 k0,.arr .u8 32 k1]]=>(Zp.Ok ⟨fu,ix,ca,du,fe,de,k0,k1⟩)/\K (.int .i64 (if Yj ⟨fu,ix,ca,du,fe,de,k0,k1⟩=true then 0 else 2))
 | _=>False
theorem Z3X (args:List AV) (h:Z8) (K:AV->Prop) (hl:Z7E args h K):Zd PP 44 args h fun o h'=>∃v,o=.ret v/\h'=h/\K v:=by
 unfold Z7E at hl
 split at hl
 ·obtain ⟨ht,hK⟩:=hl
  exact YD Zky rfl (Znb ⟨_,_,_,_,_,_,_,_⟩ _ ht rfl) (fun u hu=>hu▸hK)
 simp_all
def Z3Y:ZF:=fun args _ K=>match args with
 | [.agg [.arr .u8 32 fu,.int .i64 ix,.int .i64 ca,.int .i64 du,.int .i64 fe,.int .i64 de,.arr .u8 32 k0,.arr .u8 32 k1]]=>(Zp.Ok ⟨fu,ix,ca,du,fe,de,k0,k1⟩)/\K (.bool (Yj ⟨fu,ix,ca,du,fe,de,k0,k1⟩))
 | _=>False
theorem Z1F (args:List AV) (h:Z8) (K:AV->Prop) (hl:Z3Y args h K):Zd PP 112 args h fun o h'=>∃v,o=.ret v/\h'=h/\K v:=by
 unfold Z3Y at hl
 split at hl
 ·obtain ⟨ht,hK⟩:=hl
  exact YD Zr rfl (Znc ⟨_,_,_,_,_,_,_,_⟩ _ ht rfl) (fun u hu=>hu▸hK)
 simp_all
def ZeS:ZF:=fun args _ K=>match args with
 | [.agg [.arr .u8 32 x],.agg [.arr .u8 32 y]]=>(x.length=32/\y.length=32)/\Bytes x/\Bytes y/\K (.int .i64 (Xf x y))
 | _=>False
theorem ZaG (args:List AV) (h:Z8) (K:AV->Prop) (hl:ZeS args h K):Zd PP 204 args h fun o h'=>∃v,o=.ret v/\h'=h/\K v:=by
 unfold ZeS at hl
 split at hl
 ·obtain ⟨⟨h1,h2⟩,b1,b2,hK⟩:=hl
  exact YD Zr rfl (Znd _ _ _ h1 h2 b1 b2 rfl) (fun u hu=>hu▸hK)
 simp_all
structure Zo where
 kind:Int
 t:Zp
 reserve:Int
 amount:Int
 point:LI
 nxt:LI
 key:LI
 hash:LI
 tag:LI
 secret:LI
 id:Int
 number:Int
 index:Int
 expiry:Int
 code:Int
 route:ByteArray
def Zo.r (s:Zo):List AV:=[.arr .u8 32 s.t.fund,.int .i64 s.t.index,.int .i64 s.t.cap,.int .i64 s.t.dust,.int .i64 s.t.fee,.int .i64 s.t.delay,.arr .u8 32 s.t.k0,.arr .u8 32 s.t.k1,.int .i64 s.reserve,.int .i64 s.amount,.arr .u8 32 s.point,.arr .u8 32 s.nxt,.arr .u8 32 s.key,.arr .u8 32 s.hash,.arr .u8 32 s.tag,.arr .u8 32 s.secret,.int .i64 s.id,.int .i64 s.number,.int .i64 s.index,.int .i64 s.expiry,.int .i64 s.code,.str s.route]
def Zo.c (s:Zo):List AV:=.int .i64 s.kind::s.r
structure Zo.Len (s:Zo):Prop where
 h0:s.t.fund.length=32
 h1:s.t.k0.length=32
 h2:s.t.k1.length=32
 h3:s.point.length=32
 h4:s.nxt.length=32
 h5:s.key.length=32
 h6:s.hash.length=32
 h7:s.tag.length=32
 h8:s.secret.length=32
 hb:Bytes s.t.k0
def okF (m:List Nat) (i:Nat) (z:Bool):Bool:=Z8H i m||z
def Zj5 (m:List Nat) (s:Zo):Bool:=
 true&&(okF m 0 (s.t.fund==Z5)&&(okF m 1 (s.t.index==0)&&(okF m 2 (s.t.cap==0)&&(okF m 3 (s.t.dust==0)&&(okF m 4 (s.t.fee==0)&&(okF m 5 (s.t.delay==0)&&(okF m 6 (s.t.k0==Z5)&&okF m 7 (s.t.k1==Z5))))))))&&(okF m 8 (s.reserve==0)&&(okF m 9 (s.amount==0)&&(okF m 10 (s.point==Z5)&&(okF m 11 (s.nxt==Z5)&&(okF m 12 (s.key==Z5)&&(okF m 13 (s.hash==Z5)&&(okF m 14 (s.tag==Z5)&&(okF m 15 (s.secret==Z5)&&(okF m 16 (s.id==0)&&(okF m 17 (s.number==0)&&(okF m 18 (s.index==0)&&(okF m 19 (s.expiry==0)&&(okF m 20 (s.code==0)&&okF m 21 (ByteArray.toList s.route==ByteArray.toList ByteArray.empty))))))))))))))
def nmd:Int->List Nat
 | 1=>[2,3,4,5,6,8,9,10,11]
 | 2=>[12,10,11]
 | 3=>[13,18,14]
 | 4=>[14]
 | 5=>[]
 | 6=>[16,9,13,19,21]
 | 7=>[16,15]
 | 8=>[16,20]
 | 9=>[17,14]
 | 10=>[17,15,11]
 | 11=>[17,16]
 | 12=>[]
 | 13=>[9,14]
 | 14=>[20]
 | _=>[]
structure ZkA (s:Zo):Prop where
 a:0<=s.id
 b:s.id<=2147483647
 c:0<=s.number
 d:s.number<=2147483647
 e:0<=s.index
 f:s.index<=2147483647
 g:0<=s.expiry
 h:s.expiry<=2147483647
 i:0<=s.amount
 j:s.amount<=1125899906842624
def W4 (t:Zp):Zp:={ t with k1:=t.k0.set 0 (wrap .u8 (t.k0.getD 0 0+1))}
structure Z9t (s:Zo):Prop where
 t:Yj (W4 s.t)=true
 lo:0<=s.reserve
 hi:s.reserve<=s.t.cap.tdiv 10
 am:s.amount<=s.t.cap-s.t.fee-s.reserve
def kindOk (s:Zo):Int->Prop
 | 1=>Z9t s
 | 2=>True
 | 3=>s.index<24
 | 4=>True
 | 5=>True
 | 6=>0<s.amount/\0<s.expiry/\s.route.size<=512
 | 7=>True
 | 8=>1<=s.code/\s.code<=999
 | 9=>True
 | 10=>True
 | 11=>True
 | 12=>True
 | 13=>True
 | 14=>1<=s.code/\s.code<=999
 | _=>False
structure Zy (s:Zo) (k:Int):Prop where
 w:ZkA s
 r:Zj5 (nmd k) s=true
 k:kindOk s k
def chK (ok:Bool):KO:=fun o _=>match o with
 | .ret (.int .i64 0)=>ok=true
 | .ret (.int .i64 2)=>ok=false
 | _=>False
noncomputable def Z0x:Za:=G0.withP 44 Z7E
theorem Z5i (h:Bytes xs) (i:Nat) {v:Int} (hv:0<=v/\v<=255):Bytes (xs.set i v):=⟨fun k=>by
 have hx:=h.h k
 grind⟩
theorem Zne (s:Zo) (ok:Bool) (hl:s.Len) (hok:ok=true↔Zy s 1):
  evF Z0x 40 35 [.agg (.int .i64 1::s.r)] ⟨0,[]⟩ (chK ok):=by
 refine @Eq.mpr _ (let k:=s.id;let a:=s.t;let d:=a.fund;let q:=decide (d.length=(32:Nat)/\(32:Nat)=(32:Nat));let p:=a.k1;let o:=decide (p.length=(32:Nat)/\(32:Nat)=(32:Nat));let n:=decide (s.key.length=(32:Nat)/\(32:Nat)=(32:Nat));let m:=decide (s.hash.length=(32:Nat)/\(32:Nat)=(32:Nat));let l:=decide (s.tag.length=(32:Nat)/\(32:Nat)=(32:Nat));let x:=decide (s.secret.length=(32:Nat)/\(32:Nat)=(32:Nat));let w:=a.index;let j:=s.number;let i:=s.index;let h:=s.expiry;let v:= !(true&&(d==Z5&&(w==(0:Int)&&(true&&(true&&(true&&(true&&(true&&p==Z5))))))&&(true&&(true&&(true&&(true&&(s.key==Z5&&(s.hash==Z5&&(s.tag==Z5&&(s.secret==Z5&&(k==(0:Int)&&(j==(0:Int)&&(i==(0:Int)&&(h==(0:Int)&&(s.code==(0:Int)&&ByteArray.toList s.route==ByteArray.toList ByteArray.empty)))))))))))))));let b:=Z7 q (Z7 o (Z7 n (Z7 m (Z7 l (Z7 x (Z0 v (ok=false) (ok=false)))))));let g:=s.amount;let c:=a.k0;let f:=a.cap;let u:=a.fee;let r:=Zp.mk d w f a.dust u a.delay c (List.set c (0:Nat) (wrap u8 (List.getD c (0:Nat) (0:Int)+(1:Int))));let e:=s.reserve;
 Z0 (decide ((0:Int)<=k)) (Z0 (!decide (k<=(2147483647:Int))) b (Z0 (decide ((0:Int)<=j)) (Z0 (!decide (j<=(2147483647:Int))) b (Z0 (decide ((0:Int)<=i)) (Z0 (!decide (i<=(2147483647:Int))) b (Z0 (decide ((0:Int)<=h)) (Z0 (!decide (h<=(2147483647:Int))) b (Z7 q (Z7 o (Z7 n (Z7 m (Z7 l (Z7 x (Z0 v (ok=false) (Z0 (decide (g<(0:Int))) (ok=false) (Z0 (decide (g>(1125899906842624:Int))) (ok=false) (Z6 (u8=u8/\(0:Nat)<(32:Nat)/\(0:Nat)<c.length) (Zp.Ok r/\Z0 ((if Yj r=true then (0:Int) else (2:Int))==(0:Int)) (Z0 (decide ((0:Int)<=e)) (Z0 (decide (e<=wrap i64 (Int.tdiv f (10:Int)))) (Z0 (!decide (g<=wrap i64 (wrap i64 (f-u)-e))) (ok=false) (ok=true)) (ok=false)) (ok=false)) (ok=false))))))))))))) b)) b)) b)) b) (by kernel_rfl) ?_
 conv=>zeta
 try simp only [vcA]
 try simp only [vcB]
 try simp only [vcC]
 obtain ⟨h0,h1,h2,h3,h4,h5,h6,h7,h8,hb⟩:=hl
 simp only [h0,h1,h2,h3,h4,h5,h6,h7,h8,and_self,decide_true,true_and,forall_const,J6,Je,decide_eq_true_eq,decide_eq_false_iff_not,Jm,JH,reduceCtorEq,false_implies,and_true]
 have hte:((if Yj (W4 s.t)=true then (0:Int) else 2)==0)=Yj (W4 s.t):=by cases Yj (W4 s.t)<;>rfl
 have hOk:(W4 s.t).Ok:=⟨h1,by show (List.set _ _ _).length=32;rw [K5];exact h1,hb,Z5i hb 0 (Zc2 _)⟩
 have hd:Yj (W4 s.t)=true->(1000<=s.t.cap/\s.t.cap<=1125899906842624)/\(0<=s.t.fee/\s.t.fee<=400):=fun h=>by
  simp_all [Yj,W4]
 have htd:Yj (W4 s.t)=true->0<=s.t.cap.tdiv 10/\s.t.cap.tdiv 10<=s.t.cap:=fun h=>by
  have:=hd h
  rw [JK (by omega)]
  omega
 have hw1:Yj (W4 s.t)=true->i64.wrap (s.t.cap.tdiv 10)=s.t.cap.tdiv 10:=fun h=>by
  have:=hd h
  have:=htd h
  exact w64 (by omega)
 have hw2:Yj (W4 s.t)=true->0<=s.reserve->s.reserve<=s.t.cap.tdiv 10->i64.wrap (i64.wrap (s.t.cap-s.t.fee)-s.reserve)=s.t.cap-s.t.fee-s.reserve:=fun h g1 g2=>by
  have:=hd h
  have:=htd h
  rw [w64 (x:=s.t.cap-s.t.fee) (by omega)]
  exact w64 (by omega)
 cases ok with
 | true=>
  obtain ⟨⟨w0,w1,w2,w3,w4,w5,w6,w7,w8,w9⟩,hr,hk⟩:=hok.1 rfl
  obtain ⟨k1,k2,k3,k4⟩:=hk
  have e1:=hw1 k1
  have e2:=hw2 k1 k2 k3
  repeat' first
   | trivial
   | apply Ja
   | intro
  all_goals first
   | omega
   | (rename_i hq;exact absurd (hr.symm.trans hq) (by decide))
   | (rename_i hq;exact absurd ((hte.trans k1).symm.trans hq) (by decide))
 | false=>
  have hn:¬Zy s 1:=fun h=>absurd (hok.2 h) (by decide)
  repeat' first
   | trivial
   | apply Ja
   | intro
  rename_i hq1 hq2 hq3 hq4
  have k1:Yj (W4 s.t)=true:=hte.symm.trans hq1
  have e1:=hw1 k1
  rw [e1] at hq3
  have e2:=hw2 k1 hq2 hq3
  rw [e2] at hq4
  exact absurd (Zy.mk ⟨by omega,by omega,by omega,by omega,by omega,by omega,by omega,by omega,by omega,by omega⟩ (by assumption) (show kindOk s 1 from Z9t.mk k1 hq2 hq3 hq4)) hn
theorem Znf (s:Zo) (ok:Bool) (hl:s.Len) (hok:ok=true↔Zy s 2):
  evF Z0x 40 35 [.agg (.int .i64 2::s.r)] ⟨0,[]⟩ (chK ok):=by
 refine @Eq.mpr _ (let g:=s.id;let a:=s.t;let n:=a.fund;let m:=decide (n.length=32/\(32:Nat)=32);let l:=a.k0;let k:=decide (l.length=32/\(32:Nat)=32);let j:=a.k1;let i:=decide (j.length=32/\(32:Nat)=32);let h:=decide (s.hash.length=32/\(32:Nat)=32);let q:=decide (s.tag.length=32/\(32:Nat)=32);let p:=decide (s.secret.length=32/\(32:Nat)=32);let f:=s.amount;let e:=s.number;let d:=s.index;let c:=s.expiry;let o:= !(true&&(n==Z5&&(a.index==0&&(a.cap==0&&(a.dust==0&&(a.fee==0&&(a.delay==0&&(l==Z5&&j==Z5))))))&&(s.reserve==0&&(f==0&&(true&&(true&&(true&&(s.hash==Z5&&(s.tag==Z5&&(s.secret==Z5&&(g==0&&(e==0&&(d==0&&(c==0&&(s.code==0&&ByteArray.toList s.route==ByteArray.toList ByteArray.empty)))))))))))))));let b:=Z7 m (Z7 k (Z7 i (Z7 h (Z7 q (Z7 p (Z0 o (ok=false) (ok=false)))))));
 Z0 (decide (0<=g)) (Z0 (!decide (g<=2147483647)) b (Z0 (decide (0<=e)) (Z0 (!decide (e<=2147483647)) b (Z0 (decide (0<=d)) (Z0 (!decide (d<=2147483647)) b (Z0 (decide (0<=c)) (Z0 (!decide (c<=2147483647)) b (Z7 m (Z7 k (Z7 i (Z7 h (Z7 q (Z7 p (Z0 o (ok=false) (Z0 (decide (f<0)) (ok=false) (Z0 (decide (f>1125899906842624)) (ok=false) (ok=true))))))))))) b)) b)) b)) b) (by kernel_rfl) ?_
 conv=>zeta
 try simp only [vcA]
 try simp only [vcB]
 try simp only [vcC]
 obtain ⟨h0,h1,h2,h3,h4,h5,h6,h7,h8,hb⟩:=hl
 simp only [h0,h1,h2,h4,h6,h8,J6,Je,decide_eq_true_eq,decide_eq_false_iff_not,false_implies]
 cases ok with
 | true=>
  obtain ⟨⟨w0,w1,w2,w3,w4,w5,w6,w7,w8,w9⟩,hr,hk⟩:=hok.1 rfl
  repeat' first
   | trivial
   | apply Ja
   | intro
  all_goals first
   | omega
   | (rename_i hq;exact absurd (hr.symm.trans hq) (by decide))
   | (rename_i hq _)
 | false=>
  have hn:¬Zy s 2:=fun h=>absurd (hok.2 h) (by decide)
  repeat' first
   | trivial
   | apply Ja
   | intro
  all_goals first
   | exact absurd (Zy.mk ⟨by omega,by omega,by omega,by omega,by omega,by omega,by omega,by omega,by omega,by omega⟩ (by assumption) (by simp only [kindOk]<;>omega)) hn
theorem Zng (s:Zo) (ok:Bool) (hl:s.Len) (hok:ok=true↔Zy s 3):
  evF Z0x 40 35 [.agg (.int .i64 3::s.r)] ⟨0,[]⟩ (chK ok):=by
 refine @Eq.mpr _ (let g:=s.id;let a:=s.t;let n:=a.fund;let m:=decide (n.length=32/\(32:Nat)=32);let l:=a.k0;let k:=decide (l.length=32/\(32:Nat)=32);let j:=a.k1;let i:=decide (j.length=32/\(32:Nat)=32);let h:=decide (s.point.length=32/\(32:Nat)=32);let r:=decide (s.nxt.length=32/\(32:Nat)=32);let q:=decide (s.key.length=32/\(32:Nat)=32);let p:=decide (s.secret.length=32/\(32:Nat)=32);let f:=s.amount;let e:=s.number;let d:=s.expiry;let o:= !(true&&(n==Z5&&(a.index==0&&(a.cap==0&&(a.dust==0&&(a.fee==0&&(a.delay==0&&(l==Z5&&j==Z5))))))&&(s.reserve==0&&(f==0&&(s.point==Z5&&(s.nxt==Z5&&(s.key==Z5&&(true&&(true&&(s.secret==Z5&&(g==0&&(e==0&&(true&&(d==0&&(s.code==0&&ByteArray.toList s.route==ByteArray.toList ByteArray.empty)))))))))))))));let b:=Z0 m (Z0 k (Z0 i (Z0 h (Z0 r (Z0 q (Z0 p (Z0 o (ok=false) (ok=false)) False) False) False) False) False) False) False;let c:=s.index;
 Z0 (decide (0<=g)) (Z0 (!decide (g<=2147483647)) b (Z0 (decide (0<=e)) (Z0 (!decide (e<=2147483647)) b (Z0 (decide (0<=c)) (Z0 (!decide (c<=2147483647)) b (Z0 (decide (0<=d)) (Z0 (!decide (d<=2147483647)) b (Z0 m (Z0 k (Z0 i (Z0 h (Z0 r (Z0 q (Z0 p (Z0 o (ok=false) (Z0 (decide (f<0)) (ok=false) (Z0 (decide (f>1125899906842624)) (ok=false) (Z0 (!decide (c<24)) (ok=false) (ok=true))))) False) False) False) False) False) False) False)) b)) b)) b)) b) (by kernel_rfl) ?_
 conv=>zeta
 try simp only [Zc]
 try simp only [Zl]
 try simp only [Zg]
 try simp only [Zm]
 try simp only [Zn]
 try simp only [Zh]
 try simp only [and_true]
 obtain ⟨h0,h1,h2,h3,h4,h5,h6,h7,h8,hb⟩:=hl
 simp only [h0,h1,h2,h3,h4,h5,h8,J6,Je,decide_eq_true_eq,decide_eq_false_iff_not,false_implies]
 cases ok with
 | true=>
  obtain ⟨⟨w0,w1,w2,w3,w4,w5,w6,w7,w8,w9⟩,hr,hk⟩:=hok.1 rfl
  simp only [kindOk] at hk
  repeat' first
   | trivial
   | apply Ja
   | intro
  all_goals first
   | omega
   | (rename_i hq;exact absurd (hr.symm.trans hq) (by decide))
   | (rename_i hq _)
 | false=>
  have hn:¬Zy s 3:=fun h=>absurd (hok.2 h) (by decide)
  repeat' first
   | trivial
   | apply Ja
   | intro
  all_goals first
   | exact absurd (Zy.mk ⟨by omega,by omega,by omega,by omega,by omega,by omega,by omega,by omega,by omega,by omega⟩ (by assumption) (by simp only [kindOk]<;>omega)) hn
theorem Znh (s:Zo) (ok:Bool) (hl:s.Len) (hok:ok=true↔Zy s 4):
  evF Z0x 40 35 [.agg (.int .i64 4::s.r)] ⟨0,[]⟩ (chK ok):=by
 refine @Eq.mpr _ (let g:=s.id;let a:=s.t;let n:=a.fund;let m:=decide (n.length=32/\(32:Nat)=32);let l:=a.k0;let k:=decide (l.length=32/\(32:Nat)=32);let j:=a.k1;let i:=decide (j.length=32/\(32:Nat)=32);let h:=decide (s.point.length=32/\(32:Nat)=32);let u:=decide (s.nxt.length=32/\(32:Nat)=32);let r:=decide (s.key.length=32/\(32:Nat)=32);let q:=decide (s.hash.length=32/\(32:Nat)=32);let p:=decide (s.secret.length=32/\(32:Nat)=32);let f:=s.amount;let e:=s.number;let d:=s.index;let c:=s.expiry;let o:= !(true&&(n==Z5&&(a.index==0&&(a.cap==0&&(a.dust==0&&(a.fee==0&&(a.delay==0&&(l==Z5&&j==Z5))))))&&(s.reserve==0&&(f==0&&(s.point==Z5&&(s.nxt==Z5&&(s.key==Z5&&(s.hash==Z5&&(true&&(s.secret==Z5&&(g==0&&(e==0&&(d==0&&(c==0&&(s.code==0&&ByteArray.toList s.route==ByteArray.toList ByteArray.empty)))))))))))))));let b:=Z0 m (Z0 k (Z0 i (Z0 h (Z0 u (Z0 r (Z0 q (Z0 p (Z0 o (ok=false) (ok=false)) False) False) False) False) False) False) False) False;
 Z0 (decide (0<=g)) (Z0 (!decide (g<=2147483647)) b (Z0 (decide (0<=e)) (Z0 (!decide (e<=2147483647)) b (Z0 (decide (0<=d)) (Z0 (!decide (d<=2147483647)) b (Z0 (decide (0<=c)) (Z0 (!decide (c<=2147483647)) b (Z0 m (Z0 k (Z0 i (Z0 h (Z0 u (Z0 r (Z0 q (Z0 p (Z0 o (ok=false) (Z0 (decide (f<0)) (ok=false) (Z0 (decide (f>1125899906842624)) (ok=false) (ok=true)))) False) False) False) False) False) False) False) False)) b)) b)) b)) b) (by kernel_rfl) ?_
 conv=>zeta
 try simp only [Zc]
 try simp only [Zl]
 try simp only [Zg]
 try simp only [Zm]
 try simp only [Zn]
 try simp only [Zh]
 try simp only [Jk,Jf,and_true,J2]
 obtain ⟨h0,h1,h2,h3,h4,h5,h6,h7,h8,hb⟩:=hl
 simp only [h0,h1,h2,h4,true_and,J6,Je,decide_eq_true_eq,decide_eq_false_iff_not,false_implies]
 cases ok with
 | true=>
  obtain ⟨⟨w0,w1,w2,w3,w4,w5,w6,w7,w8,w9⟩,hr,hk⟩:=hok.1 rfl
  repeat' first
   | trivial
   | apply Ja
   | intro
  all_goals first
   | omega
   | (rename_i hq;exact absurd (hr.symm.trans hq) (by decide))
   | (rename_i hq _)
 | false=>
  have hn:¬Zy s 4:=fun h=>absurd (hok.2 h) (by decide)
  repeat' first
   | trivial
   | apply Ja
   | intro
  all_goals first
   | exact absurd (Zy.mk ⟨by omega,by omega,by omega,by omega,by omega,by omega,by omega,by omega,by omega,by omega⟩ (by assumption) (by simp only [kindOk]<;>omega)) hn
noncomputable def QN:Za:=G0.withP 112 Z3Y
theorem Xd:QN.Ok:=Za.withP_ok Zr Z1F
def rtK (ok:Bool):KO:=fun o _=>match o with
 | .ret (.bool b)=>b=ok
 | _=>False
theorem Zni (s:Zo) (ok:Bool) (hl:s.Len) (hok:ok=true↔Zy s 1):
  evF QN 40 126 [.agg (.int .i64 1::s.r)] ⟨0,[]⟩ (rtK ok):=by
 refine @Eq.mpr _ (let k:=s.nxt;let p:=k=k;let h:=s.point;let u:=h=h;let f:=s.amount;let z:=decide (f=f);let e:=s.reserve;let D:=decide (e=e);let b:=s.t;let a:=b.fund;let j:=b.index;let g:=b.cap;let r:=b.dust;let i:=b.fee;let q:=b.delay;let d:=b.k0;let c:=b.k1;let y:=s.key;let x:=s.hash;let w:=s.tag;let v:=s.secret;let o:=s.id;let n:=s.number;let m:=s.index;let l:=s.expiry;let C:=s.code;let B:=s.route;let A:=d.length;let E:=Zp.mk a j g r i q d (List.set d 0 (wrap u8 (List.getD d 0 0+1)));
 p/\
 u/\
 Z0 z
 (Z0 D
 (p/\
 u/\
 Z0 z
 (p/\
 u/\
 p/\
 a=a/\
 Z0 (decide (j=j))
 (Z0 (decide (g=g))
 (Z0 (decide (r=r))
 (Z0 (decide (i=i))
 (Z0 (decide (q=q))
 (d=d/\
 c=c/\
 Z0 D
 (Z0 z
 (u/\
 p/\
 y=y/\
 x=x/\
 w=w/\
 v=v/\
 Z0 (decide (o=o))
 (Z0 (decide (n=n))
 (Z0 (decide (m=m))
 (Z0 (decide (l=l))
 (Z0 (decide (C=C))
 (B=B/\
 Z0 (decide (a.length=32/\a.length=32))
 (Z0 (decide (A=32/\A=32))
 (Z0 (decide (c.length=32/\c.length=32))
 (Z0 (decide (h.length=32/\h.length=32))
 (Z0 (decide (k.length=32/\k.length=32))
 (Z0 (decide (y.length=32/\(32:Nat)=32))
 (Z0 (decide (x.length=32/\(32:Nat)=32))
 (Z0 (decide (w.length=32/\(32:Nat)=32))
 (Z0 (decide (v.length=32/\(32:Nat)=32))
 (Z0 (!(true&&(a==a&&(j==j&&(g==g&&(r==r&&(i==i&&(q==q&&(d==d&&c==c))))))&&(e==e&&(f==f&&(h==h&&(k==k&&(y==Z5&&(x==Z5&&(w==Z5&&(v==Z5&&(o==0&&(n==0&&(m==0&&(l==0&&(C==0&&ByteArray.toList B==ByteArray.toList ByteArray.empty)))))))))))))))) (false=ok)
 (Z0 (decide (o>=0)) (Z0 (!decide (o<=2147483647)) (false=ok) (Z0 (decide (n>=0)) (Z0 (!decide (n<=2147483647)) (false=ok) (Z0 (decide (m>=0)) (Z0 (!decide (m<=2147483647)) (false=ok) (Z0 (decide (l>=0)) (Z0 (!decide (l<=2147483647)) (false=ok) (Z0 (decide (f>=0)) (Z0 (!decide (f<=1125899906842624)) (false=ok) (Z0 (decide (u8=u8/\(0:Nat)<32/\0<A)) (Z0 (decide (a.length=32/\(32:Nat)=32)) (Z0 (a==Z5) (Z0 (j==0) (Z0 (decide (c.length=32/\(32:Nat)=32)) (Z0 (c==Z5) (Zp.Ok E/\Z0 (Yj E) (Z0 (decide (e>=0)) (Z0 (decide (e<=wrap i64 (Int.tdiv g 10))) (decide (f<=wrap i64 (wrap i64 (g-i)-e))=ok) (false=ok)) (false=ok)) (false=ok)) (false=ok)) False) (false=ok)) (false=ok)) False) False)) (false=ok))) (false=ok))) (false=ok))) (false=ok)))
 (false=ok)))
 False)
 False)
 False)
 False)
 False)
 False)
 False)
 False)
 False)
 False)
 False)
 False)
 False)
 False)
 False)
 False)
 False)
 False)
 False)
 False)
 False)
 False)
 False)
 False) (by kernel_rfl) ?_
 conv=>zeta
 try simp only [Zc]
 try simp only [Zl]
 try simp only [Zg]
 try simp only [Zm]
 try simp only [Zn]
 try simp only [Zh]
 try simp only [Jk,Jf,true_and,and_true]
 obtain ⟨h0,h1,h2,h3,h4,h5,h6,h7,h8,hb⟩:=hl
 have hOk:(W4 s.t).Ok:=⟨h1,by show (List.set _ _ _).length=32;rw [K5];exact h1,hb,Z5i hb 0 (Zc2 _)⟩
 have hd:Yj (W4 s.t)=true->(1000<=s.t.cap/\s.t.cap<=1125899906842624)/\(0<=s.t.fee/\s.t.fee<=400):=fun h=>by
  simp_all [Yj,W4]
 have htd:Yj (W4 s.t)=true->0<=s.t.cap.tdiv 10/\s.t.cap.tdiv 10<=s.t.cap:=fun h=>by
  have:=hd h
  rw [JK (by omega)]
  omega
 have hw1:Yj (W4 s.t)=true->i64.wrap (s.t.cap.tdiv 10)=s.t.cap.tdiv 10:=fun h=>by
  have:=hd h
  have:=htd h
  exact w64 (by omega)
 have hw2:Yj (W4 s.t)=true->0<=s.reserve->s.reserve<=s.t.cap.tdiv 10->i64.wrap (i64.wrap (s.t.cap-s.t.fee)-s.reserve)=s.t.cap-s.t.fee-s.reserve:=fun h g1 g2=>by
  have:=hd h
  have:=htd h
  rw [w64 (x:=s.t.cap-s.t.fee) (by omega)]
  exact w64 (by omega)
 have hI:Zj5 (nmd 1) s=true↔((s.t.fund==Z5)=true/\(s.t.index==0)=true/\(s.t.k1==Z5)=true)/\(s.key==Z5&&(s.hash==Z5&&(s.tag==Z5&&(s.secret==Z5&&(s.id==0&&(s.number==0&&(s.index==0&&(s.expiry==0&&(s.code==0&&ByteArray.toList s.route==ByteArray.toList ByteArray.empty)))))))))=true:=by
  show (true&&((s.t.fund==Z5)&&((s.t.index==0)&&(true&&(true&&(true&&(true&&(true&&(s.t.k1==Z5))))))))&&(true&&(true&&(true&&(true&&(s.key==Z5&&(s.hash==Z5&&(s.tag==Z5&&(s.secret==Z5&&(s.id==0&&(s.number==0&&(s.index==0&&(s.expiry==0&&(s.code==0&&ByteArray.toList s.route==ByteArray.toList ByteArray.empty))))))))))))))=true↔_
  simp_all
 have hT:Zp.mk s.t.fund s.t.index s.t.cap s.t.dust s.t.fee s.t.delay s.t.k0 (List.set s.t.k0 0 (wrap u8 (List.getD s.t.k0 0 0+1)))=W4 s.t:=rfl
 cases ok with
 | true=>
  obtain ⟨⟨w0,w1,w2,w3,w4,w5,w6,w7,w8,w9⟩,hr,hk⟩:=hok.1 rfl
  obtain ⟨k1,k2,k3,k4⟩:=hk
  simp_all
 | false=>
  have hn:¬Zy s 1:=fun h=>absurd (hok.2 h) (by decide)
  simp only [h1,beq_self_eq_true,Je,decide_eq_true_eq,decide_eq_false_iff_not,Jm,implies_true]
  repeat' first
   | trivial
   | apply Ja
   | intro
  refine Jm.1 fun hq4=> ?_
  rename_i hB _ _ _ _ _ _ _ _ _ _ f0 f1 f7 k1 g1 hq3
  have e1:=hw1 k1
  rw [e1] at hq3
  have e2:=hw2 k1 g1 hq3
  rw [e2] at hq4
  exact hn (Zy.mk ⟨by omega,by omega,by omega,by omega,by omega,by omega,by omega,by omega,by omega,by omega⟩ (hI.2 ⟨⟨f0,f1,f7⟩,hB⟩) (show kindOk s 1 from Z9t.mk k1 g1 hq3 hq4))
theorem Znj (s:Zo) (ok:Bool) (hl:s.Len) (hok:ok=true↔Zy s 2):
  evF QN 40 126 [.agg (.int .i64 2::s.r)] ⟨0,[]⟩ (rtK ok):=by
 refine @Eq.mpr _ (let d:=s.nxt;let w:=d=d;let b:=s.point;let A:=b=b;let a:=s.t;let j:=a.fund;let r:=a.index;let q:=a.cap;let p:=a.dust;let z:=a.fee;let y:=a.delay;let o:=a.k0;let n:=a.k1;let x:=s.reserve;let i:=s.amount;let c:=s.key;let m:=s.hash;let l:=s.tag;let k:=s.secret;let h:=s.id;let g:=s.number;let f:=s.index;let e:=s.expiry;let v:=s.code;let u:=s.route;
 w/\
 A/\
 w/\
 j=j/\
 Z6 (r=r) (Z6 (q=q) (Z6 (p=p) (Z6 (z=z) (Z6 (y=y) (o=o/\
 n=n/\
 Z6 (x=x) (Z6 (i=i) (A/\
 w/\
 c=c/\
 m=m/\
 l=l/\
 k=k/\
 Z6 (h=h) (Z6 (g=g) (Z6 (f=f) (Z6 (e=e) (Z6 (v=v) (u=u/\
 Z6 (j.length=32/\(32:Nat)=32) (Z6 (o.length=32/\(32:Nat)=32) (Z6 (n.length=32/\(32:Nat)=32) (Z6 (b.length=32/\b.length=32) (Z6 (d.length=32/\d.length=32) (Z6 (c.length=32/\c.length=32) (Z6 (m.length=32/\(32:Nat)=32) (Z6 (l.length=32/\(32:Nat)=32) (Z6 (k.length=32/\(32:Nat)=32) (Z0 (!(true&&(j==Z5&&(r==0&&(q==0&&(p==0&&(z==0&&(y==0&&(o==Z5&&n==Z5))))))&&(x==0&&(i==0&&(b==b&&(d==d&&(c==c&&(m==Z5&&(l==Z5&&(k==Z5&&(h==0&&(g==0&&(f==0&&(e==0&&(v==0&&ByteArray.toList u==ByteArray.toList ByteArray.empty)))))))))))))))) (false=ok) (Z0 (decide (h>=0)) (Z0 (!decide (h<=2147483647)) (false=ok) (Z0 (decide (g>=0)) (Z0 (!decide (g<=2147483647)) (false=ok) (Z0 (decide (f>=0)) (Z0 (!decide (f<=2147483647)) (false=ok) (Z0 (decide (e>=0)) (Z0 (!decide (e<=2147483647)) (false=ok) (Z0 (decide (i>=0)) (Z0 (!decide (i<=1125899906842624)) (false=ok) (true=ok)) (false=ok))) (false=ok))) (false=ok))) (false=ok))) (false=ok)))))))))))))))))))))))) (by kernel_rfl) ?_
 conv=>zeta
 try simp only [vcA]
 try simp only [vcB]
 try simp only [vcC]
 obtain ⟨h0,h1,h2,h3,h4,h5,h6,h7,h8,hb⟩:=hl
 cases ok with
 | true=>
  obtain ⟨⟨w0,w1,w2,w3,w4,w5,w6,w7,w8,w9⟩,hr,hk⟩:=hok.1 rfl
  have hk':=hk
  simp only [kindOk] at hk
  simp only [h0,h1,h2,h3,h4,h5,h6,beq_self_eq_true,J6,decide_eq_false_iff_not,JH,reduceCtorEq,imp_false,and_true]
  repeat' first
   | trivial
   | apply Ja
   | intro
  all_goals first
   | (rename_i hq;exact absurd (hr.symm.trans hq) (by decide))
   | (rename_i hq _)
 | false=>
  have hn:¬Zy s 2:=fun h=>absurd (hok.2 h) (by decide)
  simp only [h0,h1,h2,h3,h4,h5,h6,h7,h8,beq_self_eq_true,true_and,Je,decide_eq_true_eq,Jm,reduceCtorEq,imp_false,and_true,implies_true]
  repeat' first
   | intro
  all_goals first
   | refine Jm.1 fun hq=> ?_
  all_goals first
   | exact absurd (Zy.mk ⟨by omega,by omega,by omega,by omega,by omega,by omega,by omega,by omega,by omega,by omega⟩ (by assumption) (by simp only [kindOk]<;>omega)) hn
theorem Znk (s:Zo) (ok:Bool) (hl:s.Len) (hok:ok=true↔Zy s 3):
  evF QN 40 126 [.agg (.int .i64 3::s.r)] ⟨0,[]⟩ (rtK ok):=by
 refine @Eq.mpr _ (let d:=s.tag;let w:=d=d;let b:=s.index;let A:=decide (b=b);let a:=s.t;let i:=a.fund;let r:=a.index;let q:=a.cap;let p:=a.dust;let z:=a.fee;let y:=a.delay;let o:=a.k0;let n:=a.k1;let x:=s.reserve;let h:=s.amount;let m:=s.point;let l:=s.nxt;let k:=s.key;let c:=s.hash;let j:=s.secret;let g:=s.id;let f:=s.number;let e:=s.expiry;let v:=s.code;let u:=s.route;
 w/\
 Z7 A (w/\
 i=i/\
 Z6 (r=r) (Z6 (q=q) (Z6 (p=p) (Z6 (z=z) (Z6 (y=y) (o=o/\
 n=n/\
 Z6 (x=x) (Z6 (h=h) (m=m/\
 l=l/\
 k=k/\
 c=c/\
 w/\
 j=j/\
 Z6 (g=g) (Z6 (f=f) (Z7 A (Z6 (e=e) (Z6 (v=v) (u=u/\
 Z6 (i.length=32/\(32:Nat)=32) (Z6 (o.length=32/\(32:Nat)=32) (Z6 (n.length=32/\(32:Nat)=32) (Z6 (m.length=32/\(32:Nat)=32) (Z6 (l.length=32/\(32:Nat)=32) (Z6 (k.length=32/\(32:Nat)=32) (Z6 (c.length=32/\c.length=32) (Z6 (d.length=32/\d.length=32) (Z6 (j.length=32/\(32:Nat)=32) (Z0 (!(true&&(i==Z5&&(r==0&&(q==0&&(p==0&&(z==0&&(y==0&&(o==Z5&&n==Z5))))))&&(x==0&&(h==0&&(m==Z5&&(l==Z5&&(k==Z5&&(c==c&&(d==d&&(j==Z5&&(g==0&&(f==0&&(b==b&&(e==0&&(v==0&&ByteArray.toList u==ByteArray.toList ByteArray.empty)))))))))))))))) (false=ok) (Z0 (decide (g>=0)) (Z0 (!decide (g<=2147483647)) (false=ok) (Z0 (decide (f>=0)) (Z0 (!decide (f<=2147483647)) (false=ok) (Z0 (decide (b>=0)) (Z0 (!decide (b<=2147483647)) (false=ok) (Z0 (decide (e>=0)) (Z0 (!decide (e<=2147483647)) (false=ok) (Z0 (decide (h>=0)) (Z0 (!decide (h<=1125899906842624)) (false=ok) (decide (b<24)=ok)) (false=ok))) (false=ok))) (false=ok))) (false=ok))) (false=ok))))))))))))))))))))))))) (by kernel_rfl) ?_
 conv=>zeta
 try simp only [vcA]
 try simp only [vcB]
 try simp only [vcC]
 obtain ⟨h0,h1,h2,h3,h4,h5,h6,h7,h8,hb⟩:=hl
 cases ok with
 | true=>
  obtain ⟨⟨w0,w1,w2,w3,w4,w5,w6,w7,w8,w9⟩,hr,hk⟩:=hok.1 rfl
  have hk':=hk
  simp only [kindOk] at hk
  simp only [h0,h1,h2,h3,h4,h5,h6,h7,h8,and_self,beq_self_eq_true,decide_true,true_and,forall_const,J6,decide_eq_true_eq,decide_eq_false_iff_not,JH,reduceCtorEq,imp_false,and_true]
  repeat' first
   | trivial
   | apply Ja
   | intro
  all_goals first
   | (rename_i hq;exact absurd (hr.symm.trans hq) (by decide))
   | (rename_i hq _)
 | false=>
  have hn:¬Zy s 3:=fun h=>absurd (hok.2 h) (by decide)
  simp only [h0,h1,h2,h3,h4,h5,h6,h7,h8,beq_self_eq_true,true_and,Je,decide_eq_true_eq,decide_eq_false_iff_not,JH,and_true,implies_true]
  repeat' first
   | intro
  all_goals first
   | refine JH.1 fun hq=> ?_
   | refine Jm.1 fun hq=> ?_
  all_goals first
   | exact absurd (Zy.mk ⟨by omega,by omega,by omega,by omega,by omega,by omega,by omega,by omega,by omega,by omega⟩ (by assumption) (by simp only [kindOk]<;>omega)) hn
theorem Znl (s:Zo) (ok:Bool) (hl:s.Len) (hok:ok=true↔Zy s 4):
  evF QN 40 126 [.agg (.int .i64 4::s.r)] ⟨0,[]⟩ (rtK ok):=by
 refine @Eq.mpr _ (let a:=s.t;let j:=a.fund;let v:=a.index;let u:=a.cap;let r:=a.dust;let q:=a.fee;let p:=a.delay;let i:=a.k0;let h:=a.k1;let y:=s.reserve;let g:=s.amount;let o:=s.point;let n:=s.nxt;let m:=s.key;let l:=s.hash;let b:=s.tag;let k:=s.secret;let f:=s.id;let e:=s.number;let d:=s.index;let c:=s.expiry;let x:=s.code;let w:=s.route;
 j=j/\
 Z6 (v=v) (Z6 (u=u) (Z6 (r=r) (Z6 (q=q) (Z6 (p=p) (i=i/\
 h=h/\
 Z6 (y=y) (Z6 (g=g) (o=o/\
 n=n/\
 m=m/\
 l=l/\
 b=b/\
 k=k/\
 Z6 (f=f) (Z6 (e=e) (Z6 (d=d) (Z6 (c=c) (Z6 (x=x) (w=w/\
 Z6 (j.length=32/\(32:Nat)=32) (Z6 (i.length=32/\(32:Nat)=32) (Z6 (h.length=32/\(32:Nat)=32) (Z6 (o.length=32/\(32:Nat)=32) (Z6 (n.length=32/\(32:Nat)=32) (Z6 (m.length=32/\(32:Nat)=32) (Z6 (l.length=32/\(32:Nat)=32) (Z6 (b.length=32/\b.length=32) (Z6 (k.length=32/\(32:Nat)=32) (Z0 (!(true&&(j==Z5&&(v==0&&(u==0&&(r==0&&(q==0&&(p==0&&(i==Z5&&h==Z5))))))&&(y==0&&(g==0&&(o==Z5&&(n==Z5&&(m==Z5&&(l==Z5&&(b==b&&(k==Z5&&(f==0&&(e==0&&(d==0&&(c==0&&(x==0&&ByteArray.toList w==ByteArray.toList ByteArray.empty)))))))))))))))) (false=ok) (Z0 (decide (f>=0)) (Z0 (!decide (f<=2147483647)) (false=ok) (Z0 (decide (e>=0)) (Z0 (!decide (e<=2147483647)) (false=ok) (Z0 (decide (d>=0)) (Z0 (!decide (d<=2147483647)) (false=ok) (Z0 (decide (c>=0)) (Z0 (!decide (c<=2147483647)) (false=ok) (Z0 (decide (g>=0)) (Z0 (!decide (g<=1125899906842624)) (false=ok) (true=ok)) (false=ok))) (false=ok))) (false=ok))) (false=ok))) (false=ok)))))))))))))))))))))))) (by kernel_rfl) ?_
 conv=>zeta
 try simp only [vcA]
 try simp only [vcB]
 try simp only [vcC]
 obtain ⟨h0,h1,h2,h3,h4,h5,h6,h7,h8,hb⟩:=hl
 cases ok with
 | true=>
  obtain ⟨⟨w0,w1,w2,w3,w4,w5,w6,w7,w8,w9⟩,hr,hk⟩:=hok.1 rfl
  have hk':=hk
  simp only [kindOk] at hk
  simp only [h0,h1,h2,h3,h4,h5,h6,beq_self_eq_true,J6,decide_eq_false_iff_not,JH,reduceCtorEq,imp_false,and_true]
  repeat' first
   | trivial
   | apply Ja
   | intro
  all_goals first
   | (rename_i hq;exact absurd (hr.symm.trans hq) (by decide))
   | (rename_i hq _)
 | false=>
  have hn:¬Zy s 4:=fun h=>absurd (hok.2 h) (by decide)
  simp only [h0,h1,h2,h3,h4,h5,h6,h7,h8,beq_self_eq_true,true_and,Je,decide_eq_true_eq,Jm,reduceCtorEq,imp_false,and_true,implies_true]
  repeat' first
   | intro
  all_goals first
   | refine Jm.1 fun hq=> ?_
  all_goals first
   | exact absurd (Zy.mk ⟨by omega,by omega,by omega,by omega,by omega,by omega,by omega,by omega,by omega,by omega⟩ (by assumption) (by simp only [kindOk]<;>omega)) hn
theorem Znm (s:Zo) (ok:Bool) (hl:s.Len) (hok:ok=true↔Zy s 5):
  evF QN 40 126 [.agg (.int .i64 5::s.r)] ⟨0,[]⟩ (rtK ok):=by
 refine @Eq.mpr _ (let a:=s.t;let i:=a.fund;let v:=a.index;let u:=a.cap;let r:=a.dust;let q:=a.fee;let p:=a.delay;let h:=a.k0;let g:=a.k1;let y:=s.reserve;let f:=s.amount;let o:=s.point;let n:=s.nxt;let m:=s.key;let l:=s.hash;let k:=s.tag;let j:=s.secret;let e:=s.id;let d:=s.number;let c:=s.index;let b:=s.expiry;let x:=s.code;let w:=s.route;
 i=i/\
 Z6 (v=v) (Z6 (u=u) (Z6 (r=r) (Z6 (q=q) (Z6 (p=p) (h=h/\
 g=g/\
 Z6 (y=y) (Z6 (f=f) (o=o/\
 n=n/\
 m=m/\
 l=l/\
 k=k/\
 j=j/\
 Z6 (e=e) (Z6 (d=d) (Z6 (c=c) (Z6 (b=b) (Z6 (x=x) (w=w/\
 Z6 (i.length=32/\(32:Nat)=32) (Z6 (h.length=32/\(32:Nat)=32) (Z6 (g.length=32/\(32:Nat)=32) (Z6 (o.length=32/\(32:Nat)=32) (Z6 (n.length=32/\(32:Nat)=32) (Z6 (m.length=32/\(32:Nat)=32) (Z6 (l.length=32/\(32:Nat)=32) (Z6 (k.length=32/\(32:Nat)=32) (Z6 (j.length=32/\(32:Nat)=32) (Z0 (!(true&&(i==Z5&&(v==0&&(u==0&&(r==0&&(q==0&&(p==0&&(h==Z5&&g==Z5))))))&&(y==0&&(f==0&&(o==Z5&&(n==Z5&&(m==Z5&&(l==Z5&&(k==Z5&&(j==Z5&&(e==0&&(d==0&&(c==0&&(b==0&&(x==0&&ByteArray.toList w==ByteArray.toList ByteArray.empty)))))))))))))))) (false=ok) (Z0 (decide (e>=0)) (Z0 (!decide (e<=2147483647)) (false=ok) (Z0 (decide (d>=0)) (Z0 (!decide (d<=2147483647)) (false=ok) (Z0 (decide (c>=0)) (Z0 (!decide (c<=2147483647)) (false=ok) (Z0 (decide (b>=0)) (Z0 (!decide (b<=2147483647)) (false=ok) (Z0 (decide (f>=0)) (Z0 (!decide (f<=1125899906842624)) (false=ok) (true=ok)) (false=ok))) (false=ok))) (false=ok))) (false=ok))) (false=ok)))))))))))))))))))))))) (by kernel_rfl) ?_
 conv=>zeta
 try simp only [vcA]
 try simp only [vcB]
 try simp only [vcC]
 obtain ⟨h0,h1,h2,h3,h4,h5,h6,h7,h8,hb⟩:=hl
 cases ok with
 | true=>
  obtain ⟨⟨w0,w1,w2,w3,w4,w5,w6,w7,w8,w9⟩,hr,hk⟩:=hok.1 rfl
  have hk':=hk
  simp only [kindOk] at hk
  simp only [h0,h1,h2,h3,h4,h5,h6,h7,J6,decide_eq_false_iff_not,JH,reduceCtorEq,imp_false,and_true]
  repeat' first
   | trivial
   | apply Ja
   | intro
  all_goals first
   | (rename_i hq;exact absurd (hr.symm.trans hq) (by decide))
   | (rename_i hq _)
 | false=>
  have hn:¬Zy s 5:=fun h=>absurd (hok.2 h) (by decide)
  simp only [h0,h1,h2,h3,h4,h5,h6,h7,h8,true_and,Je,decide_eq_true_eq,Jm,reduceCtorEq,imp_false,and_true,implies_true]
  repeat' first
   | intro
  all_goals first
   | refine Jm.1 fun hq=> ?_
  all_goals first
   | exact absurd (Zy.mk ⟨by omega,by omega,by omega,by omega,by omega,by omega,by omega,by omega,by omega,by omega⟩ (by assumption) (by simp only [kindOk]<;>omega)) hn
theorem Znn (s:Zo) (ok:Bool) (hl:s.Len) (hok:ok=true↔Zy s 6):
  evF QN 40 126 [.agg (.int .i64 6::s.r)] ⟨0,[]⟩ (rtK ok):=by
 refine @Eq.mpr _ (let r:=s.route;let h:=r=r;let c:=s.expiry;let i:=decide (c=c);let d:=s.hash;let u:=d=d;let b:=s.amount;let C:=decide (b=b);let a:=s.t;let q:=a.fund;let B:=a.index;let A:=a.cap;let z:=a.dust;let y:=a.fee;let x:=a.delay;let p:=a.k0;let o:=a.k1;let w:=s.reserve;let n:=s.point;let m:=s.nxt;let l:=s.key;let k:=s.tag;let j:=s.secret;let e:=s.id;let g:=s.number;let f:=s.index;let v:=s.code;let D:=ByteArray.toList r;
 h/\
 Z7 i (u/\
 Z7 C (h/\
 Z7 i (u/\
 h/\
 Z7 i (h/\
 q=q/\
 Z6 (B=B) (Z6 (A=A) (Z6 (z=z) (Z6 (y=y) (Z6 (x=x) (p=p/\
 o=o/\
 Z6 (w=w) (Z7 C (n=n/\
 m=m/\
 l=l/\
 u/\
 k=k/\
 j=j/\
 Z6 (e=e) (Z6 (g=g) (Z6 (f=f) (Z7 i (Z6 (v=v) (h/\
 Z6 (q.length=32/\(32:Nat)=32) (Z6 (p.length=32/\(32:Nat)=32) (Z6 (o.length=32/\(32:Nat)=32) (Z6 (n.length=32/\(32:Nat)=32) (Z6 (m.length=32/\(32:Nat)=32) (Z6 (l.length=32/\(32:Nat)=32) (Z6 (d.length=32/\d.length=32) (Z6 (k.length=32/\(32:Nat)=32) (Z6 (j.length=32/\(32:Nat)=32) (Z0 (!(true&&(q==Z5&&(B==0&&(A==0&&(z==0&&(y==0&&(x==0&&(p==Z5&&o==Z5))))))&&(w==0&&(b==b&&(n==Z5&&(m==Z5&&(l==Z5&&(d==d&&(k==Z5&&(j==Z5&&(e==e&&(g==0&&(f==0&&(c==c&&(v==0&&D==D)))))))))))))))) (false=ok) (Z0 (decide (e>=0)) (Z0 (!decide (e<=2147483647)) (false=ok) (Z0 (decide (g>=0)) (Z0 (!decide (g<=2147483647)) (false=ok) (Z0 (decide (f>=0)) (Z0 (!decide (f<=2147483647)) (false=ok) (Z0 (decide (c>=0)) (Z0 (!decide (c<=2147483647)) (false=ok) (Z0 (decide (b>=0)) (Z0 (!decide (b<=1125899906842624)) (false=ok) (Z0 (decide (b>0)) (Z0 (decide (c>0)) (decide ((↑(ByteArray.size r):Int)<=512)=ok) (false=ok)) (false=ok))) (false=ok))) (false=ok))) (false=ok))) (false=ok))) (false=ok)))))))))))))))))))))))))))) (by kernel_rfl) ?_
 conv=>zeta
 try simp only [vcA]
 try simp only [vcB]
 try simp only [vcC]
 obtain ⟨h0,h1,h2,h3,h4,h5,h6,h7,h8,hb⟩:=hl
 cases ok with
 | true=>
  obtain ⟨⟨w0,w1,w2,w3,w4,w5,w6,w7,w8,w9⟩,hr,hk⟩:=hok.1 rfl
  have hk':=hk
  simp only [kindOk] at hk
  simp only [h0,h1,h2,h3,h4,h5,h6,beq_self_eq_true,true_and,J6,decide_eq_true_eq,decide_eq_false_iff_not,and_true]
  repeat' first
   | apply Ja
   | intro
  all_goals first
   | omega
   | (rename_i hq;exact absurd (hr.symm.trans hq) (by decide))
   | (rename_i hq _)
 | false=>
  have hn:¬Zy s 6:=fun h=>absurd (hok.2 h) (by decide)
  simp only [h0,h1,h2,h3,h4,h5,h6,h7,h8,beq_self_eq_true,true_and,Je,decide_eq_true_eq,decide_eq_false_iff_not,Jm,and_true,implies_true]
  repeat' first
   | intro
  all_goals first
   | refine Jm.1 fun hq=> ?_
  all_goals first
   | exact absurd (Zy.mk ⟨by omega,by omega,by omega,by omega,by omega,by omega,by omega,by omega,by omega,by omega⟩ (by assumption) (by simp only [kindOk]<;>omega)) hn
theorem Zno (s:Zo) (ok:Bool) (hl:s.Len) (hok:ok=true↔Zy s 7):
  evF QN 40 126 [.agg (.int .i64 7::s.r)] ⟨0,[]⟩ (rtK ok):=by
 refine @Eq.mpr _ (let c:=s.secret;let z:=c=c;let a:=s.t;let h:=a.fund;let v:=a.index;let u:=a.cap;let r:=a.dust;let q:=a.fee;let p:=a.delay;let o:=a.k0;let n:=a.k1;let y:=s.reserve;let g:=s.amount;let m:=s.point;let l:=s.nxt;let k:=s.key;let j:=s.hash;let i:=s.tag;let b:=s.id;let f:=s.number;let e:=s.index;let d:=s.expiry;let x:=s.code;let w:=s.route;
 z/\
 h=h/\
 Z6 (v=v) (Z6 (u=u) (Z6 (r=r) (Z6 (q=q) (Z6 (p=p) (o=o/\
 n=n/\
 Z6 (y=y) (Z6 (g=g) (m=m/\
 l=l/\
 k=k/\
 j=j/\
 i=i/\
 z/\
 Z6 (b=b) (Z6 (f=f) (Z6 (e=e) (Z6 (d=d) (Z6 (x=x) (w=w/\
 Z6 (h.length=32/\(32:Nat)=32) (Z6 (o.length=32/\(32:Nat)=32) (Z6 (n.length=32/\(32:Nat)=32) (Z6 (m.length=32/\(32:Nat)=32) (Z6 (l.length=32/\(32:Nat)=32) (Z6 (k.length=32/\(32:Nat)=32) (Z6 (j.length=32/\(32:Nat)=32) (Z6 (i.length=32/\(32:Nat)=32) (Z6 (c.length=32/\c.length=32) (Z0 (!(true&&(h==Z5&&(v==0&&(u==0&&(r==0&&(q==0&&(p==0&&(o==Z5&&n==Z5))))))&&(y==0&&(g==0&&(m==Z5&&(l==Z5&&(k==Z5&&(j==Z5&&(i==Z5&&(c==c&&(b==b&&(f==0&&(e==0&&(d==0&&(x==0&&ByteArray.toList w==ByteArray.toList ByteArray.empty)))))))))))))))) (false=ok) (Z0 (decide (b>=0)) (Z0 (!decide (b<=2147483647)) (false=ok) (Z0 (decide (f>=0)) (Z0 (!decide (f<=2147483647)) (false=ok) (Z0 (decide (e>=0)) (Z0 (!decide (e<=2147483647)) (false=ok) (Z0 (decide (d>=0)) (Z0 (!decide (d<=2147483647)) (false=ok) (Z0 (decide (g>=0)) (Z0 (!decide (g<=1125899906842624)) (false=ok) (true=ok)) (false=ok))) (false=ok))) (false=ok))) (false=ok))) (false=ok)))))))))))))))))))))))) (by kernel_rfl) ?_
 conv=>zeta
 try simp only [vcA]
 try simp only [vcB]
 try simp only [vcC]
 obtain ⟨h0,h1,h2,h3,h4,h5,h6,h7,h8,hb⟩:=hl
 cases ok with
 | true=>
  obtain ⟨⟨w0,w1,w2,w3,w4,w5,w6,w7,w8,w9⟩,hr,hk⟩:=hok.1 rfl
  have hk':=hk
  simp only [kindOk] at hk
  simp only [h0,h1,h2,h3,h4,h5,h6,h7,h8,and_self,beq_self_eq_true,J6,decide_eq_false_iff_not,JH,reduceCtorEq,imp_false,and_true]
  repeat' first
   | trivial
   | apply Ja
   | intro
  all_goals first
   | (rename_i hq;exact absurd (hr.symm.trans hq) (by decide))
   | (rename_i hq _)
 | false=>
  have hn:¬Zy s 7:=fun h=>absurd (hok.2 h) (by decide)
  simp only [h0,h1,h2,h3,h4,h5,h6,h7,h8,beq_self_eq_true,true_and,Je,decide_eq_true_eq,Jm,reduceCtorEq,imp_false,and_true,implies_true]
  repeat' first
   | intro
  all_goals first
   | refine Jm.1 fun hq=> ?_
  all_goals first
   | exact absurd (Zy.mk ⟨by omega,by omega,by omega,by omega,by omega,by omega,by omega,by omega,by omega,by omega⟩ (by assumption) (by simp only [kindOk]<;>omega)) hn
theorem Znp (s:Zo) (ok:Bool) (hl:s.Len) (hok:ok=true↔Zy s 8):
  evF QN 40 126 [.agg (.int .i64 8::s.r)] ⟨0,[]⟩ (rtK ok):=by
 refine @Eq.mpr _ (let c:=s.code;let z:=decide (c=c);let a:=s.t;let h:=a.fund;let w:=a.index;let v:=a.cap;let u:=a.dust;let r:=a.fee;let q:=a.delay;let p:=a.k0;let o:=a.k1;let y:=s.reserve;let g:=s.amount;let n:=s.point;let m:=s.nxt;let l:=s.key;let k:=s.hash;let j:=s.tag;let i:=s.secret;let b:=s.id;let f:=s.number;let e:=s.index;let d:=s.expiry;let x:=s.route;
 Z0 z
 (h=h/\
 Z0 (decide (w=w))
 (Z0 (decide (v=v))
 (Z0 (decide (u=u))
 (Z0 (decide (r=r))
 (Z0 (decide (q=q))
 (p=p/\
 o=o/\
 Z0 (decide (y=y))
 (Z0 (decide (g=g))
 (n=n/\
 m=m/\
 l=l/\
 k=k/\
 j=j/\
 i=i/\
 Z0 (decide (b=b))
 (Z0 (decide (f=f))
 (Z0 (decide (e=e))
 (Z0 (decide (d=d))
 (Z0 z
 (x=x/\
 Z0 (decide (h.length=32/\(32:Nat)=32))
 (Z0 (decide (p.length=32/\(32:Nat)=32))
 (Z0 (decide (o.length=32/\(32:Nat)=32))
 (Z0 (decide (n.length=32/\(32:Nat)=32))
 (Z0 (decide (m.length=32/\(32:Nat)=32))
 (Z0 (decide (l.length=32/\(32:Nat)=32))
 (Z0 (decide (k.length=32/\(32:Nat)=32))
 (Z0 (decide (j.length=32/\(32:Nat)=32))
 (Z0 (decide (i.length=32/\(32:Nat)=32)) (Z0 (!(true&&(h==Z5&&(w==0&&(v==0&&(u==0&&(r==0&&(q==0&&(p==Z5&&o==Z5))))))&&(y==0&&(g==0&&(n==Z5&&(m==Z5&&(l==Z5&&(k==Z5&&(j==Z5&&(i==Z5&&(b==b&&(f==0&&(e==0&&(d==0&&(c==c&&ByteArray.toList x==ByteArray.toList ByteArray.empty)))))))))))))))) (false=ok) (Z0 (decide (b>=0)) (Z0 (!decide (b<=2147483647)) (false=ok) (Z0 (decide (f>=0)) (Z0 (!decide (f<=2147483647)) (false=ok) (Z0 (decide (e>=0)) (Z0 (!decide (e<=2147483647)) (false=ok) (Z0 (decide (d>=0)) (Z0 (!decide (d<=2147483647)) (false=ok) (Z0 (decide (g>=0)) (Z0 (!decide (g<=1125899906842624)) (false=ok) (Z0 (decide (c>=1)) (decide (c<=999)=ok) (false=ok))) (false=ok))) (false=ok))) (false=ok))) (false=ok))) (false=ok))) False)
 False)
 False)
 False)
 False)
 False)
 False)
 False)
 False)
 False)
 False)
 False)
 False)
 False)
 False)
 False)
 False)
 False)
 False)
 False)
 False)
 False) (by kernel_rfl) ?_
 conv=>zeta
 try simp only [Zc]
 try simp only [Zl]
 try simp only [Zg]
 try simp only [Zm]
 try simp only [Zn]
 try simp only [Zh]
 try simp only [Jk,and_true]
 obtain ⟨h0,h1,h2,h3,h4,h5,h6,h7,h8,hb⟩:=hl
 cases ok with
 | true=>
  obtain ⟨⟨w0,w1,w2,w3,w4,w5,w6,w7,w8,w9⟩,hr,hk⟩:=hok.1 rfl
  simp only [kindOk] at hk
  simp only [beq_self_eq_true,true_and,J6,decide_eq_true_eq,decide_eq_false_iff_not,and_true]
  repeat' first
   | apply Ja
   | intro
  all_goals first
   | omega
   | (rename_i hq;exact absurd (hr.symm.trans hq) (by decide))
   | (rename_i hq _)
 | false=>
  have hn:¬Zy s 8:=fun h=>absurd (hok.2 h) (by decide)
  simp only [h0,h1,h2,h3,h4,h5,h6,h7,h8,beq_self_eq_true,true_and,Je,decide_eq_true_eq,decide_eq_false_iff_not,Jm,and_true,implies_true]
  repeat' first
   | intro
  all_goals first
   | refine Jm.1 fun hq=> ?_
  all_goals first
   | exact absurd (Zy.mk ⟨by omega,by omega,by omega,by omega,by omega,by omega,by omega,by omega,by omega,by omega⟩ (by assumption) (by simp only [kindOk]<;>omega)) hn
theorem Znq (s:Zo) (ok:Bool) (hl:s.Len) (hok:ok=true↔Zy s 9):
  evF QN 40 126 [.agg (.int .i64 9::s.r)] ⟨0,[]⟩ (rtK ok):=by
 refine @Eq.mpr _ (let c:=s.tag;let z:=c=c;let a:=s.t;let h:=a.fund;let v:=a.index;let u:=a.cap;let r:=a.dust;let q:=a.fee;let p:=a.delay;let o:=a.k0;let n:=a.k1;let y:=s.reserve;let g:=s.amount;let m:=s.point;let l:=s.nxt;let k:=s.key;let j:=s.hash;let i:=s.secret;let f:=s.id;let b:=s.number;let e:=s.index;let d:=s.expiry;let x:=s.code;let w:=s.route;
 z/\
 h=h/\
 Z6 (v=v) (Z6 (u=u) (Z6 (r=r) (Z6 (q=q) (Z6 (p=p) (o=o/\
 n=n/\
 Z6 (y=y) (Z6 (g=g) (m=m/\
 l=l/\
 k=k/\
 j=j/\
 z/\
 i=i/\
 Z6 (f=f) (Z6 (b=b) (Z6 (e=e) (Z6 (d=d) (Z6 (x=x) (w=w/\
 Z6 (h.length=32/\(32:Nat)=32) (Z6 (o.length=32/\(32:Nat)=32) (Z6 (n.length=32/\(32:Nat)=32) (Z6 (m.length=32/\(32:Nat)=32) (Z6 (l.length=32/\(32:Nat)=32) (Z6 (k.length=32/\(32:Nat)=32) (Z6 (j.length=32/\(32:Nat)=32) (Z6 (c.length=32/\c.length=32) (Z6 (i.length=32/\(32:Nat)=32) (Z0 (!(true&&(h==Z5&&(v==0&&(u==0&&(r==0&&(q==0&&(p==0&&(o==Z5&&n==Z5))))))&&(y==0&&(g==0&&(m==Z5&&(l==Z5&&(k==Z5&&(j==Z5&&(c==c&&(i==Z5&&(f==0&&(b==b&&(e==0&&(d==0&&(x==0&&ByteArray.toList w==ByteArray.toList ByteArray.empty)))))))))))))))) (false=ok) (Z0 (decide (f>=0)) (Z0 (!decide (f<=2147483647)) (false=ok) (Z0 (decide (b>=0)) (Z0 (!decide (b<=2147483647)) (false=ok) (Z0 (decide (e>=0)) (Z0 (!decide (e<=2147483647)) (false=ok) (Z0 (decide (d>=0)) (Z0 (!decide (d<=2147483647)) (false=ok) (Z0 (decide (g>=0)) (Z0 (!decide (g<=1125899906842624)) (false=ok) (true=ok)) (false=ok))) (false=ok))) (false=ok))) (false=ok))) (false=ok)))))))))))))))))))))))) (by kernel_rfl) ?_
 conv=>zeta
 try simp only [vcA]
 try simp only [vcB]
 try simp only [vcC]
 obtain ⟨h0,h1,h2,h3,h4,h5,h6,h7,h8,hb⟩:=hl
 cases ok with
 | true=>
  obtain ⟨⟨w0,w1,w2,w3,w4,w5,w6,w7,w8,w9⟩,hr,hk⟩:=hok.1 rfl
  have hk':=hk
  simp only [kindOk] at hk
  simp only [h0,h1,h2,h3,h4,h5,h6,h7,beq_self_eq_true,J6,decide_eq_false_iff_not,JH,reduceCtorEq,imp_false,and_true]
  repeat' first
   | trivial
   | apply Ja
   | intro
  all_goals first
   | (rename_i hq;exact absurd (hr.symm.trans hq) (by decide))
   | (rename_i hq _)
 | false=>
  have hn:¬Zy s 9:=fun h=>absurd (hok.2 h) (by decide)
  simp only [h0,h1,h2,h3,h4,h5,h6,h7,h8,beq_self_eq_true,true_and,Je,decide_eq_true_eq,Jm,reduceCtorEq,imp_false,and_true,implies_true]
  repeat' first
   | intro
  all_goals first
   | refine Jm.1 fun hq=> ?_
  all_goals first
   | exact absurd (Zy.mk ⟨by omega,by omega,by omega,by omega,by omega,by omega,by omega,by omega,by omega,by omega⟩ (by assumption) (by simp only [kindOk]<;>omega)) hn
theorem ZkB (s:Zo) (ok:Bool) (hl:s.Len) (hok:ok=true↔Zy s 10):
  evF QN 40 126 [.agg (.int .i64 10::s.r)] ⟨0,[]⟩ (rtK ok):=by
 refine @Eq.mpr _ (let d:=s.nxt;let w:=d=d;let b:=s.secret;let A:=b=b;let a:=s.t;let i:=a.fund;let r:=a.index;let q:=a.cap;let p:=a.dust;let z:=a.fee;let y:=a.delay;let o:=a.k0;let n:=a.k1;let x:=s.reserve;let h:=s.amount;let m:=s.point;let l:=s.key;let k:=s.hash;let j:=s.tag;let g:=s.id;let c:=s.number;let f:=s.index;let e:=s.expiry;let v:=s.code;let u:=s.route;
 w/\
 A/\
 w/\
 i=i/\
 Z6 (r=r) (Z6 (q=q) (Z6 (p=p) (Z6 (z=z) (Z6 (y=y) (o=o/\
 n=n/\
 Z6 (x=x) (Z6 (h=h) (m=m/\
 w/\
 l=l/\
 k=k/\
 j=j/\
 A/\
 Z6 (g=g) (Z6 (c=c) (Z6 (f=f) (Z6 (e=e) (Z6 (v=v) (u=u/\
 Z6 (i.length=32/\(32:Nat)=32) (Z6 (o.length=32/\(32:Nat)=32) (Z6 (n.length=32/\(32:Nat)=32) (Z6 (m.length=32/\(32:Nat)=32) (Z6 (d.length=32/\d.length=32) (Z6 (l.length=32/\(32:Nat)=32) (Z6 (k.length=32/\(32:Nat)=32) (Z6 (j.length=32/\(32:Nat)=32) (Z6 (b.length=32/\b.length=32) (Z0 (!(true&&(i==Z5&&(r==0&&(q==0&&(p==0&&(z==0&&(y==0&&(o==Z5&&n==Z5))))))&&(x==0&&(h==0&&(m==Z5&&(d==d&&(l==Z5&&(k==Z5&&(j==Z5&&(b==b&&(g==0&&(c==c&&(f==0&&(e==0&&(v==0&&ByteArray.toList u==ByteArray.toList ByteArray.empty)))))))))))))))) (false=ok) (Z0 (decide (g>=0)) (Z0 (!decide (g<=2147483647)) (false=ok) (Z0 (decide (c>=0)) (Z0 (!decide (c<=2147483647)) (false=ok) (Z0 (decide (f>=0)) (Z0 (!decide (f<=2147483647)) (false=ok) (Z0 (decide (e>=0)) (Z0 (!decide (e<=2147483647)) (false=ok) (Z0 (decide (h>=0)) (Z0 (!decide (h<=1125899906842624)) (false=ok) (true=ok)) (false=ok))) (false=ok))) (false=ok))) (false=ok))) (false=ok)))))))))))))))))))))))) (by kernel_rfl) ?_
 conv=>zeta
 try simp only [vcA]
 try simp only [vcB]
 try simp only [vcC]
 obtain ⟨h0,h1,h2,h3,h4,h5,h6,h7,h8,hb⟩:=hl
 cases ok with
 | true=>
  obtain ⟨⟨w0,w1,w2,w3,w4,w5,w6,w7,w8,w9⟩,hr,hk⟩:=hok.1 rfl
  have hk':=hk
  simp only [kindOk] at hk
  simp only [h0,h1,h2,h3,h4,h5,h6,h7,h8,and_self,beq_self_eq_true,J6,decide_eq_false_iff_not,JH,reduceCtorEq,imp_false,and_true]
  repeat' first
   | trivial
   | apply Ja
   | intro
  all_goals first
   | (rename_i hq;exact absurd (hr.symm.trans hq) (by decide))
   | (rename_i hq _)
 | false=>
  have hn:¬Zy s 10:=fun h=>absurd (hok.2 h) (by decide)
  simp only [h0,h1,h2,h3,h4,h5,h6,h7,h8,beq_self_eq_true,true_and,Je,decide_eq_true_eq,Jm,reduceCtorEq,imp_false,and_true,implies_true]
  repeat' first
   | intro
  all_goals first
   | refine Jm.1 fun hq=> ?_
  all_goals first
   | exact absurd (Zy.mk ⟨by omega,by omega,by omega,by omega,by omega,by omega,by omega,by omega,by omega,by omega⟩ (by assumption) (by simp only [kindOk]<;>omega)) hn
theorem ZkC (s:Zo) (ok:Bool) (hl:s.Len) (hok:ok=true↔Zy s 11):
  evF QN 40 126 [.agg (.int .i64 11::s.r)] ⟨0,[]⟩ (rtK ok):=by
 refine @Eq.mpr _ (let c:=s.id;let z:=decide (c=c);let a:=s.t;let g:=a.fund;let v:=a.index;let u:=a.cap;let r:=a.dust;let q:=a.fee;let p:=a.delay;let o:=a.k0;let n:=a.k1;let y:=s.reserve;let f:=s.amount;let m:=s.point;let l:=s.nxt;let k:=s.key;let j:=s.hash;let i:=s.tag;let h:=s.secret;let b:=s.number;let e:=s.index;let d:=s.expiry;let x:=s.code;let w:=s.route;
 Z7 z (g=g/\
 Z6 (v=v) (Z6 (u=u) (Z6 (r=r) (Z6 (q=q) (Z6 (p=p) (o=o/\
 n=n/\
 Z6 (y=y) (Z6 (f=f) (m=m/\
 l=l/\
 k=k/\
 j=j/\
 i=i/\
 h=h/\
 Z7 z (Z6 (b=b) (Z6 (e=e) (Z6 (d=d) (Z6 (x=x) (w=w/\
 Z6 (g.length=32/\(32:Nat)=32) (Z6 (o.length=32/\(32:Nat)=32) (Z6 (n.length=32/\(32:Nat)=32) (Z6 (m.length=32/\(32:Nat)=32) (Z6 (l.length=32/\(32:Nat)=32) (Z6 (k.length=32/\(32:Nat)=32) (Z6 (j.length=32/\(32:Nat)=32) (Z6 (i.length=32/\(32:Nat)=32) (Z6 (h.length=32/\(32:Nat)=32) (Z0 (!(true&&(g==Z5&&(v==0&&(u==0&&(r==0&&(q==0&&(p==0&&(o==Z5&&n==Z5))))))&&(y==0&&(f==0&&(m==Z5&&(l==Z5&&(k==Z5&&(j==Z5&&(i==Z5&&(h==Z5&&(c==c&&(b==b&&(e==0&&(d==0&&(x==0&&ByteArray.toList w==ByteArray.toList ByteArray.empty)))))))))))))))) (false=ok) (Z0 (decide (c>=0)) (Z0 (!decide (c<=2147483647)) (false=ok) (Z0 (decide (b>=0)) (Z0 (!decide (b<=2147483647)) (false=ok) (Z0 (decide (e>=0)) (Z0 (!decide (e<=2147483647)) (false=ok) (Z0 (decide (d>=0)) (Z0 (!decide (d<=2147483647)) (false=ok) (Z0 (decide (f>=0)) (Z0 (!decide (f<=1125899906842624)) (false=ok) (true=ok)) (false=ok))) (false=ok))) (false=ok))) (false=ok))) (false=ok))))))))))))))))))))))))) (by kernel_rfl) ?_
 conv=>zeta
 try simp only [vcA]
 try simp only [vcB]
 try simp only [vcC]
 obtain ⟨h0,h1,h2,h3,h4,h5,h6,h7,h8,hb⟩:=hl
 cases ok with
 | true=>
  obtain ⟨⟨w0,w1,w2,w3,w4,w5,w6,w7,w8,w9⟩,hr,hk⟩:=hok.1 rfl
  have hk':=hk
  simp only [kindOk] at hk
  simp only [h0,h1,h2,h3,h4,h5,h6,h7,h8,beq_self_eq_true,J6,decide_eq_false_iff_not,JH,reduceCtorEq,imp_false,and_true]
  repeat' first
   | trivial
   | apply Ja
   | intro
  all_goals first
   | (rename_i hq;exact absurd (hr.symm.trans hq) (by decide))
   | (rename_i hq _)
 | false=>
  have hn:¬Zy s 11:=fun h=>absurd (hok.2 h) (by decide)
  simp only [h0,h1,h2,h3,h4,h5,h6,h7,h8,beq_self_eq_true,true_and,Je,decide_eq_true_eq,Jm,reduceCtorEq,imp_false,and_true,implies_true]
  repeat' first
   | intro
  all_goals first
   | refine Jm.1 fun hq=> ?_
  all_goals first
   | exact absurd (Zy.mk ⟨by omega,by omega,by omega,by omega,by omega,by omega,by omega,by omega,by omega,by omega⟩ (by assumption) (by simp only [kindOk]<;>omega)) hn
theorem ZkD (s:Zo) (ok:Bool) (hl:s.Len) (hok:ok=true↔Zy s 12):
  evF QN 40 126 [.agg (.int .i64 12::s.r)] ⟨0,[]⟩ (rtK ok):=by
 refine @Eq.mpr _ (let a:=s.t;let i:=a.fund;let v:=a.index;let u:=a.cap;let r:=a.dust;let q:=a.fee;let p:=a.delay;let h:=a.k0;let g:=a.k1;let y:=s.reserve;let f:=s.amount;let o:=s.point;let n:=s.nxt;let m:=s.key;let l:=s.hash;let k:=s.tag;let j:=s.secret;let e:=s.id;let d:=s.number;let c:=s.index;let b:=s.expiry;let x:=s.code;let w:=s.route;
 i=i/\
 Z6 (v=v) (Z6 (u=u) (Z6 (r=r) (Z6 (q=q) (Z6 (p=p) (h=h/\
 g=g/\
 Z6 (y=y) (Z6 (f=f) (o=o/\
 n=n/\
 m=m/\
 l=l/\
 k=k/\
 j=j/\
 Z6 (e=e) (Z6 (d=d) (Z6 (c=c) (Z6 (b=b) (Z6 (x=x) (w=w/\
 Z6 (i.length=32/\(32:Nat)=32) (Z6 (h.length=32/\(32:Nat)=32) (Z6 (g.length=32/\(32:Nat)=32) (Z6 (o.length=32/\(32:Nat)=32) (Z6 (n.length=32/\(32:Nat)=32) (Z6 (m.length=32/\(32:Nat)=32) (Z6 (l.length=32/\(32:Nat)=32) (Z6 (k.length=32/\(32:Nat)=32) (Z6 (j.length=32/\(32:Nat)=32) (Z0 (!(true&&(i==Z5&&(v==0&&(u==0&&(r==0&&(q==0&&(p==0&&(h==Z5&&g==Z5))))))&&(y==0&&(f==0&&(o==Z5&&(n==Z5&&(m==Z5&&(l==Z5&&(k==Z5&&(j==Z5&&(e==0&&(d==0&&(c==0&&(b==0&&(x==0&&ByteArray.toList w==ByteArray.toList ByteArray.empty)))))))))))))))) (false=ok) (Z0 (decide (e>=0)) (Z0 (!decide (e<=2147483647)) (false=ok) (Z0 (decide (d>=0)) (Z0 (!decide (d<=2147483647)) (false=ok) (Z0 (decide (c>=0)) (Z0 (!decide (c<=2147483647)) (false=ok) (Z0 (decide (b>=0)) (Z0 (!decide (b<=2147483647)) (false=ok) (Z0 (decide (f>=0)) (Z0 (!decide (f<=1125899906842624)) (false=ok) (true=ok)) (false=ok))) (false=ok))) (false=ok))) (false=ok))) (false=ok)))))))))))))))))))))))) (by kernel_rfl) ?_
 conv=>zeta
 try simp only [vcA]
 try simp only [vcB]
 try simp only [vcC]
 obtain ⟨h0,h1,h2,h3,h4,h5,h6,h7,h8,hb⟩:=hl
 cases ok with
 | true=>
  obtain ⟨⟨w0,w1,w2,w3,w4,w5,w6,w7,w8,w9⟩,hr,hk⟩:=hok.1 rfl
  have hk':=hk
  simp only [kindOk] at hk
  simp only [h0,h1,h2,h3,h4,h5,h6,h7,h8,and_self,J6,decide_eq_false_iff_not,JH,reduceCtorEq,imp_false,and_true]
  repeat' first
   | trivial
   | apply Ja
   | intro
  all_goals first
   | (rename_i hq;exact absurd (hr.symm.trans hq) (by decide))
   | (rename_i hq _)
 | false=>
  have hn:¬Zy s 12:=fun h=>absurd (hok.2 h) (by decide)
  simp only [h0,h1,h2,h3,h4,h5,h6,h7,h8,true_and,Je,decide_eq_true_eq,Jm,reduceCtorEq,imp_false,and_true,implies_true]
  repeat' first
   | intro
  all_goals first
   | refine Jm.1 fun hq=> ?_
  all_goals first
   | exact absurd (Zy.mk ⟨by omega,by omega,by omega,by omega,by omega,by omega,by omega,by omega,by omega,by omega⟩ (by assumption) (by simp only [kindOk]<;>omega)) hn
theorem ZkE (s:Zo) (ok:Bool) (hl:s.Len) (hok:ok=true↔Zy s 13):
  evF QN 40 126 [.agg (.int .i64 13::s.r)] ⟨0,[]⟩ (rtK ok):=by
 refine @Eq.mpr _ (let c:=s.tag;let z:=c=c;let a:=s.t;let h:=a.fund;let v:=a.index;let u:=a.cap;let r:=a.dust;let q:=a.fee;let p:=a.delay;let o:=a.k0;let n:=a.k1;let y:=s.reserve;let b:=s.amount;let m:=s.point;let l:=s.nxt;let k:=s.key;let j:=s.hash;let i:=s.secret;let g:=s.id;let f:=s.number;let e:=s.index;let d:=s.expiry;let x:=s.code;let w:=s.route;
 z/\
 h=h/\
 Z6 (v=v) (Z6 (u=u) (Z6 (r=r) (Z6 (q=q) (Z6 (p=p) (o=o/\
 n=n/\
 Z6 (y=y) (Z6 (b=b) (m=m/\
 l=l/\
 k=k/\
 j=j/\
 z/\
 i=i/\
 Z6 (g=g) (Z6 (f=f) (Z6 (e=e) (Z6 (d=d) (Z6 (x=x) (w=w/\
 Z6 (h.length=32/\(32:Nat)=32) (Z6 (o.length=32/\(32:Nat)=32) (Z6 (n.length=32/\(32:Nat)=32) (Z6 (m.length=32/\(32:Nat)=32) (Z6 (l.length=32/\(32:Nat)=32) (Z6 (k.length=32/\(32:Nat)=32) (Z6 (j.length=32/\(32:Nat)=32) (Z6 (c.length=32/\c.length=32) (Z6 (i.length=32/\(32:Nat)=32) (Z0 (!(true&&(h==Z5&&(v==0&&(u==0&&(r==0&&(q==0&&(p==0&&(o==Z5&&n==Z5))))))&&(y==0&&(b==b&&(m==Z5&&(l==Z5&&(k==Z5&&(j==Z5&&(c==c&&(i==Z5&&(g==0&&(f==0&&(e==0&&(d==0&&(x==0&&ByteArray.toList w==ByteArray.toList ByteArray.empty)))))))))))))))) (false=ok) (Z0 (decide (g>=0)) (Z0 (!decide (g<=2147483647)) (false=ok) (Z0 (decide (f>=0)) (Z0 (!decide (f<=2147483647)) (false=ok) (Z0 (decide (e>=0)) (Z0 (!decide (e<=2147483647)) (false=ok) (Z0 (decide (d>=0)) (Z0 (!decide (d<=2147483647)) (false=ok) (Z0 (decide (b>=0)) (Z0 (!decide (b<=1125899906842624)) (false=ok) (true=ok)) (false=ok))) (false=ok))) (false=ok))) (false=ok))) (false=ok)))))))))))))))))))))))) (by kernel_rfl) ?_
 conv=>zeta
 try simp only [vcA]
 try simp only [vcB]
 try simp only [vcC]
 obtain ⟨h0,h1,h2,h3,h4,h5,h6,h7,h8,hb⟩:=hl
 cases ok with
 | true=>
  obtain ⟨⟨w0,w1,w2,w3,w4,w5,w6,w7,w8,w9⟩,hr,hk⟩:=hok.1 rfl
  have hk':=hk
  simp only [kindOk] at hk
  simp only [h0,h1,h2,h3,h4,h5,h6,h7,h8,and_self,beq_self_eq_true,J6,decide_eq_false_iff_not,JH,reduceCtorEq,imp_false,and_true]
  repeat' first
   | trivial
   | apply Ja
   | intro
  all_goals first
   | (rename_i hq;exact absurd (hr.symm.trans hq) (by decide))
   | (rename_i hq _)
 | false=>
  have hn:¬Zy s 13:=fun h=>absurd (hok.2 h) (by decide)
  simp only [h0,h1,h2,h3,h4,h5,h6,h7,h8,beq_self_eq_true,true_and,Je,decide_eq_true_eq,Jm,reduceCtorEq,imp_false,and_true,implies_true]
  repeat' first
   | intro
  all_goals first
   | refine Jm.1 fun hq=> ?_
  all_goals first
   | exact absurd (Zy.mk ⟨by omega,by omega,by omega,by omega,by omega,by omega,by omega,by omega,by omega,by omega⟩ (by assumption) (by simp only [kindOk]<;>omega)) hn
theorem ZkF (s:Zo) (ok:Bool) (hl:s.Len) (hok:ok=true↔Zy s 14):
  evF QN 40 126 [.agg (.int .i64 14::s.r)] ⟨0,[]⟩ (rtK ok):=by
 refine @Eq.mpr _ (let a:=s.t;let j:=a.fund;let w:=a.index;let v:=a.cap;let u:=a.dust;let r:=a.fee;let q:=a.delay;let i:=a.k0;let h:=a.k1;let y:=s.reserve;let g:=s.amount;let p:=s.point;let o:=s.nxt;let n:=s.key;let m:=s.hash;let l:=s.tag;let k:=s.secret;let f:=s.id;let e:=s.number;let d:=s.index;let c:=s.expiry;let b:=s.code;let x:=s.route;
 j=j/\
 Z6 (w=w) (Z6 (v=v) (Z6 (u=u) (Z6 (r=r) (Z6 (q=q) (i=i/\
 h=h/\
 Z6 (y=y) (Z6 (g=g) (p=p/\
 o=o/\
 n=n/\
 m=m/\
 l=l/\
 k=k/\
 Z6 (f=f) (Z6 (e=e) (Z6 (d=d) (Z6 (c=c) (Z6 (b=b) (x=x/\
 Z6 (j.length=32/\(32:Nat)=32) (Z6 (i.length=32/\(32:Nat)=32) (Z6 (h.length=32/\(32:Nat)=32) (Z6 (p.length=32/\(32:Nat)=32) (Z6 (o.length=32/\(32:Nat)=32) (Z6 (n.length=32/\(32:Nat)=32) (Z6 (m.length=32/\(32:Nat)=32) (Z6 (l.length=32/\(32:Nat)=32) (Z6 (k.length=32/\(32:Nat)=32) (Z0 (!(true&&(j==Z5&&(w==0&&(v==0&&(u==0&&(r==0&&(q==0&&(i==Z5&&h==Z5))))))&&(y==0&&(g==0&&(p==Z5&&(o==Z5&&(n==Z5&&(m==Z5&&(l==Z5&&(k==Z5&&(f==0&&(e==0&&(d==0&&(c==0&&(b==b&&ByteArray.toList x==ByteArray.toList ByteArray.empty)))))))))))))))) (false=ok) (Z0 (decide (f>=0)) (Z0 (!decide (f<=2147483647)) (false=ok) (Z0 (decide (e>=0)) (Z0 (!decide (e<=2147483647)) (false=ok) (Z0 (decide (d>=0)) (Z0 (!decide (d<=2147483647)) (false=ok) (Z0 (decide (c>=0)) (Z0 (!decide (c<=2147483647)) (false=ok) (Z0 (decide (g>=0)) (Z0 (!decide (g<=1125899906842624)) (false=ok) (Z0 (decide (b>=1)) (decide (b<=999)=ok) (false=ok))) (false=ok))) (false=ok))) (false=ok))) (false=ok))) (false=ok)))))))))))))))))))))))) (by kernel_rfl) ?_
 conv=>zeta
 try simp only [vcA]
 try simp only [vcB]
 try simp only [vcC]
 obtain ⟨h0,h1,h2,h3,h4,h5,h6,h7,h8,hb⟩:=hl
 cases ok with
 | true=>
  obtain ⟨⟨w0,w1,w2,w3,w4,w5,w6,w7,w8,w9⟩,hr,hk⟩:=hok.1 rfl
  have hk':=hk
  simp only [kindOk] at hk
  simp only [beq_self_eq_true,true_and,J6,decide_eq_true_eq,decide_eq_false_iff_not,and_true]
  repeat' first
   | apply Ja
   | intro
  all_goals first
   | omega
   | (rename_i hq;exact absurd (hr.symm.trans hq) (by decide))
   | (rename_i hq _)
 | false=>
  have hn:¬Zy s 14:=fun h=>absurd (hok.2 h) (by decide)
  simp only [h0,h1,h2,h3,h4,h5,h6,h7,h8,beq_self_eq_true,true_and,Je,decide_eq_true_eq,decide_eq_false_iff_not,Jm,and_true,implies_true]
  repeat' first
   | intro
  all_goals first
   | refine Jm.1 fun hq=> ?_
  all_goals first
   | exact absurd (Zy.mk ⟨by omega,by omega,by omega,by omega,by omega,by omega,by omega,by omega,by omega,by omega⟩ (by assumption) (by simp only [kindOk]<;>omega)) hn
theorem Znr (s:Zo) (k:Int) (hl:s.Len) (hk:k<1\/14<k):
  evF QN 40 126 [.agg (.int .i64 k::s.r)] ⟨0,[]⟩ (rtK false):=by
 refine @Eq.mpr _ (let o:=k==1;let q2:=s.nxt;let a:=q2=q2;let q4:=s.point;let b:=q4=q4;let q6:=s.amount;let e:=decide (q6=q6);let q8:=s.reserve;let j:=decide (q8=q8);let Q:=decide (k=k);let b5:=s.t;let a4:=b5.fund;let P:=a4=a4;let c4:=b5.index;let O:=decide (c4=c4);let b4:=b5.cap;let N:=decide (b4=b4);let c3:=b5.dust;let M:=decide (c3=c3);let c1:=b5.fee;let L:=decide (c1=c1);let c2:=b5.delay;let K:=decide (c2=c2);let a3:=b5.k0;let J:=a3=a3;let b3:=b5.k1;let I:=b3=b3;let b2:=s.key;let H:=b2=b2;let b1:=s.hash;let i:=b1=b1;let b0:=s.tag;let d:=b0=b0;let a9:=s.secret;let h:=a9=a9;let c0:=s.id;let n:=decide (c0=c0);let b9:=s.number;let G:=decide (b9=b9);let a8:=s.index;let m:=decide (a8=a8);let a7:=s.expiry;let g:=decide (a7=a7);let b8:=s.code;let l:=decide (b8=b8);let c7:=s.route;let c:=c7=c7;let f:=a3.length;let f2:=decide (q4.length=32/\q4.length=32);let d5:=decide (q2.length=32/\q2.length=32);let U:=decide (b2.length=32/\(32:Nat)=32);let W:=decide (b1.length=32/\(32:Nat)=32);let a2:=decide (b0.length=32/\(32:Nat)=32);let V:=decide (a9.length=32/\(32:Nat)=32);let F:=k==k;let d4:=q6==q6;let f1:=q4==q4;let d3:=q2==q2;let Z:=b2==Z5;let a6:=b1==Z5;let b7:=b0==Z5;let b6:=a9==Z5;let c6:=c0==0;let c5:=b9==0;let d2:=a8==0;let f0:=a7==0;let e9:=b8==0;let d1:=ByteArray.toList c7;let e8:=d1==ByteArray.toList ByteArray.empty;let e7:=f0&&(e9&&e8);let e6:=d2&&e7;let e5:=c5&&e6;let e4:=b6&&(c6&&e5);let e3:=a6&&(b7&&e4);let e2:=Z&&e3;let E:=decide (c0>=0);let D:= !decide (c0<=2147483647);let C:=decide (b9>=0);let B:= !decide (b9<=2147483647);let A:=decide (a8>=0);let z:= !decide (a8<=2147483647);let y:=decide (a7>=0);let x:= !decide (a7<=2147483647);let w:=decide (q6>=0);let v:= !decide (q6<=1125899906842624);let u:=decide (a4.length=32/\(32:Nat)=32);let e1:=a4==Z5;let e0:=c4==0;let r:=decide (b3.length=32/\(32:Nat)=32);let d9:=b3==Z5;let d8:=Zp.mk a4 c4 b4 c3 c1 c2 a3 (List.set a3 0 (wrap u8 (List.getD a3 0 0+1)));let q:=Z0 u (Z0 e1 (Z0 e0 (Z0 r (Z0 d9 (Zp.Ok d8/\Z0 (Yj d8) (Z0 (decide (q8>=0)) (Z0 (decide (q8<=wrap i64 (Int.tdiv b4 10))) (decide (q6<=wrap i64 (wrap i64 (b4-c1)-q8))=false) (false=false)) (false=false)) (false=false)) (false=false)) False) (false=false)) (false=false)) False;let d0:=k==8;let d7:=Z0 (decide (b8>=1)) (decide (b8<=999)=false) (false=false);let p:=Z0 (k==3) (decide (a8<24)=false) (Z0 (k==6) (Z0 (decide (q6>0)) (Z0 (decide (a7>0)) (decide ((↑(ByteArray.size c7):Int)<=512)=false) (false=false)) (false=false)) (Z0 d0 (Z0 d0 d7 (true=false)) (Z0 (k==14) d7 (true=false))));let T:=decide (f=32/\(32:Nat)=32);let S:=e1&&(e0&&(b4==0&&(c3==0&&(c1==0&&(c2==0&&(a3==Z5&&d9))))));let R:=q8==0;let Y:=q6==0;let X:=decide (q4.length=32/\(32:Nat)=32);let a1:=decide (q2.length=32/\(32:Nat)=32);let g0:=decide (b1.length=32/\b1.length=32);let c9:=decide (b0.length=32/\b0.length=32);let a0:=q4==Z5;let a5:=q2==Z5;let f9:=b1==b1;let d6:=b0==b0;let f8:=a0&&(a5&&(Z&&(a6&&(d6&&e4))));let c8:=c0==c0;let f7:=decide (a9.length=32/\a9.length=32);let f6:=a9==a9;let f5:=c5&&(d2&&(f0&&(b8==b8&&e8)));let f4:=b9==b9&&e6;let f3:=c6&&f4;
 Z0 (decide (k<1)) (false=false)
 (Z0 (decide (k>14)) (false=false)
 (Z0 o
 (a/\
 b/\
 Z0 e
 (Z0 j
 (a/\
 b/\
 Z0 e
 (a/\
 b/\
 a/\
 Z0 Q
 (P/\
 Z0 O
 (Z0 N
 (Z0 M
 (Z0 L
 (Z0 K
 (J/\
 I/\
 Z0 j (Z0 e (b/\a/\H/\i/\d/\h/\Z0 n (Z0 G (Z0 m (Z0 g (Z0 l (c/\Z0 (decide (a4.length=32/\a4.length=32)) (Z0 (decide (f=32/\f=32)) (Z0 (decide (b3.length=32/\b3.length=32)) (Z0 f2 (Z0 d5 (Z0 U (Z0 W (Z0 a2 (Z0 V (Z0 (!(F&&(a4==a4&&(c4==c4&&(b4==b4&&(c3==c3&&(c1==c1&&(c2==c2&&(a3==a3&&b3==b3))))))&&(q8==q8&&(d4&&(f1&&(d3&&e2))))))) (false=false) (Z0 E (Z0 D (false=false) (Z0 C (Z0 B (false=false) (Z0 A (Z0 z (false=false) (Z0 y (Z0 x (false=false) (Z0 w (Z0 v (false=false) (Z0 o (Z0 (decide (u8=u8/\(0:Nat)<32/\0<f)) q False) p)) (false=false))) (false=false))) (false=false))) (false=false))) (false=false))) False) False) False) False) False) False) False) False) False) False) False) False) False) False) False)
 False)
 False)
 False)
 False)
 False)
 False)
 False)
 False)
 False)
 False)
 (Z0 (k==2) (a/\b/\a/\Z0 Q (P/\Z0 O (Z0 N (Z0 M (Z0 L (Z0 K (J/\I/\Z0 j (Z0 e (b/\a/\H/\i/\d/\h/\Z0 n (Z0 G (Z0 m (Z0 g (Z0 l (c/\Z0 u (Z0 T (Z0 r (Z0 f2 (Z0 d5 (Z0 (decide (b2.length=32/\b2.length=32)) (Z0 W (Z0 a2 (Z0 V (Z0 (!(F&&(S&&(R&&(Y&&(f1&&(d3&&(b2==b2&&e3)))))))) (false=false) (Z0 E (Z0 D (false=false) (Z0 C (Z0 B (false=false) (Z0 A (Z0 z (false=false) (Z0 y (Z0 x (false=false) (Z0 w (Z0 v (false=false) (Z0 o (Z0 (decide (u8=u8/\(0:Nat)<32/\0<f)) q False) p)) (false=false))) (false=false))) (false=false))) (false=false))) (false=false))) False) False) False) False) False) False) False) False) False) False) False) False) False) False) False) False) False) False) False) False) False) False)
 (Z0 (k==3) (d/\Z0 m (d/\Z0 Q (P/\Z0 O (Z0 N (Z0 M (Z0 L (Z0 K (J/\I/\Z0 j (Z0 e (b/\a/\H/\i/\d/\h/\Z0 n (Z0 G (Z0 m (Z0 g (Z0 l (c/\Z0 u (Z0 T (Z0 r (Z0 X (Z0 a1 (Z0 U (Z0 g0 (Z0 c9 (Z0 V (Z0 (!(F&&(S&&(R&&(Y&&(a0&&(a5&&(Z&&(f9&&(d6&&(b6&&(c6&&(c5&&(a8==a8&&e7)))))))))))))) (false=false) (Z0 E (Z0 D (false=false) (Z0 C (Z0 B (false=false) (Z0 A (Z0 z (false=false) (Z0 y (Z0 x (false=false) (Z0 w (Z0 v (false=false) (Z0 o (Z0 (decide (u8=u8/\(0:Nat)<32/\0<f)) q False) p)) (false=false))) (false=false))) (false=false))) (false=false))) (false=false))) False) False) False) False) False) False) False) False) False) False) False) False) False) False) False) False) False) False) False) False) False) False) False)
 (Z0 (k==4) (Z0 Q (P/\Z0 O (Z0 N (Z0 M (Z0 L (Z0 K (J/\I/\Z0 j (Z0 e (b/\a/\H/\i/\d/\h/\Z0 n (Z0 G (Z0 m (Z0 g (Z0 l (c/\Z0 u (Z0 T (Z0 r (Z0 X (Z0 a1 (Z0 U (Z0 W (Z0 c9 (Z0 V (Z0 (!(F&&(S&&(R&&(Y&&f8))))) (false=false) (Z0 E (Z0 D (false=false) (Z0 C (Z0 B (false=false) (Z0 A (Z0 z (false=false) (Z0 y (Z0 x (false=false) (Z0 w (Z0 v (false=false) (Z0 o (Z0 (decide (u8=u8/\(0:Nat)<32/\0<f)) q False) p)) (false=false))) (false=false))) (false=false))) (false=false))) (false=false))) False) False) False) False) False) False) False) False) False) False) False) False) False) False) False) False) False) False) False) False) False) False)
 (Z0 (k==6)
 (c/\
 Z0 g
 (i/\
 Z0 e
 (c/\
 Z0 g
 (i/\
 c/\
 Z0 g (c/\Z0 Q (P/\Z0 O (Z0 N (Z0 M (Z0 L (Z0 K (J/\I/\Z0 j (Z0 e (b/\a/\H/\i/\d/\h/\Z0 n (Z0 G (Z0 m (Z0 g (Z0 l (c/\Z0 u (Z0 T (Z0 r (Z0 X (Z0 a1 (Z0 U (Z0 g0 (Z0 a2 (Z0 V (Z0 (!(F&&(S&&(R&&(d4&&(a0&&(a5&&(Z&&(f9&&(b7&&(b6&&(c8&&(c5&&(d2&&(a7==a7&&(e9&&d1==d1)))))))))))))))) (false=false) (Z0 E (Z0 D (false=false) (Z0 C (Z0 B (false=false) (Z0 A (Z0 z (false=false) (Z0 y (Z0 x (false=false) (Z0 w (Z0 v (false=false) (Z0 o (Z0 (decide (u8=u8/\(0:Nat)<32/\0<f)) q False) p)) (false=false))) (false=false))) (false=false))) (false=false))) (false=false))) False) False) False) False) False) False) False) False) False) False) False) False) False) False) False) False) False) False) False) False) False) False) False)
 False)
 False)
 False)
 (Z0 (k==7) (h/\Z0 Q (P/\Z0 O (Z0 N (Z0 M (Z0 L (Z0 K (J/\I/\Z0 j (Z0 e (b/\a/\H/\i/\d/\h/\Z0 n (Z0 G (Z0 m (Z0 g (Z0 l (c/\Z0 u (Z0 T (Z0 r (Z0 X (Z0 a1 (Z0 U (Z0 W (Z0 a2 (Z0 f7 (Z0 (!(F&&(S&&(R&&(Y&&(a0&&(a5&&(Z&&(a6&&(b7&&(f6&&(c8&&e5)))))))))))) (false=false) (Z0 E (Z0 D (false=false) (Z0 C (Z0 B (false=false) (Z0 A (Z0 z (false=false) (Z0 y (Z0 x (false=false) (Z0 w (Z0 v (false=false) (Z0 o (Z0 (decide (u8=u8/\(0:Nat)<32/\0<f)) q False) p)) (false=false))) (false=false))) (false=false))) (false=false))) (false=false))) False) False) False) False) False) False) False) False) False) False) False) False) False) False) False) False) False) False) False) False) False) False)
 (Z0 d0 (Z0 l (Z0 Q (P/\Z0 O (Z0 N (Z0 M (Z0 L (Z0 K (J/\I/\Z0 j (Z0 e (b/\a/\H/\i/\d/\h/\Z0 n (Z0 G (Z0 m (Z0 g (Z0 l (c/\Z0 u (Z0 T (Z0 r (Z0 X (Z0 a1 (Z0 U (Z0 W (Z0 a2 (Z0 V (Z0 (!(F&&(S&&(R&&(Y&&(a0&&(a5&&(Z&&(a6&&(b7&&(b6&&(c8&&f5)))))))))))) (false=false) (Z0 E (Z0 D (false=false) (Z0 C (Z0 B (false=false) (Z0 A (Z0 z (false=false) (Z0 y (Z0 x (false=false) (Z0 w (Z0 v (false=false) (Z0 o (Z0 (decide (u8=u8/\(0:Nat)<32/\0<f)) q False) p)) (false=false))) (false=false))) (false=false))) (false=false))) (false=false))) False) False) False) False) False) False) False) False) False) False) False) False) False) False) False) False) False) False) False) False) False) False) False)
 (Z0 (k==9) (d/\Z0 Q (P/\Z0 O (Z0 N (Z0 M (Z0 L (Z0 K (J/\I/\Z0 j (Z0 e (b/\a/\H/\i/\d/\h/\Z0 n (Z0 G (Z0 m (Z0 g (Z0 l (c/\Z0 u (Z0 T (Z0 r (Z0 X (Z0 a1 (Z0 U (Z0 W (Z0 c9 (Z0 V (Z0 (!(F&&(S&&(R&&(Y&&(a0&&(a5&&(Z&&(a6&&(d6&&(b6&&f3))))))))))) (false=false) (Z0 E (Z0 D (false=false) (Z0 C (Z0 B (false=false) (Z0 A (Z0 z (false=false) (Z0 y (Z0 x (false=false) (Z0 w (Z0 v (false=false) (Z0 o (Z0 (decide (u8=u8/\(0:Nat)<32/\0<f)) q False) p)) (false=false))) (false=false))) (false=false))) (false=false))) (false=false))) False) False) False) False) False) False) False) False) False) False) False) False) False) False) False) False) False) False) False) False) False) False)
 (Z0 (k==10) (a/\h/\a/\Z0 Q (P/\Z0 O (Z0 N (Z0 M (Z0 L (Z0 K (J/\I/\Z0 j (Z0 e (b/\a/\H/\i/\d/\h/\Z0 n (Z0 G (Z0 m (Z0 g (Z0 l (c/\Z0 u (Z0 T (Z0 r (Z0 X (Z0 d5 (Z0 U (Z0 W (Z0 a2 (Z0 f7 (Z0 (!(F&&(S&&(R&&(Y&&(a0&&(d3&&(Z&&(a6&&(b7&&(f6&&f3))))))))))) (false=false) (Z0 E (Z0 D (false=false) (Z0 C (Z0 B (false=false) (Z0 A (Z0 z (false=false) (Z0 y (Z0 x (false=false) (Z0 w (Z0 v (false=false) (Z0 o (Z0 (decide (u8=u8/\(0:Nat)<32/\0<f)) q False) p)) (false=false))) (false=false))) (false=false))) (false=false))) (false=false))) False) False) False) False) False) False) False) False) False) False) False) False) False) False) False) False) False) False) False) False) False) False)
 (Z0 (k==11) (Z0 n (Z0 Q (P/\Z0 O (Z0 N (Z0 M (Z0 L (Z0 K (J/\I/\Z0 j (Z0 e (b/\a/\H/\i/\d/\h/\Z0 n (Z0 G (Z0 m (Z0 g (Z0 l (c/\Z0 u (Z0 T (Z0 r (Z0 X (Z0 a1 (Z0 U (Z0 W (Z0 a2 (Z0 V (Z0 (!(F&&(S&&(R&&(Y&&(a0&&(a5&&(Z&&(a6&&(b7&&(b6&&(c8&&f4)))))))))))) (false=false) (Z0 E (Z0 D (false=false) (Z0 C (Z0 B (false=false) (Z0 A (Z0 z (false=false) (Z0 y (Z0 x (false=false) (Z0 w (Z0 v (false=false) (Z0 o (Z0 (decide (u8=u8/\(0:Nat)<32/\0<f)) q False) p)) (false=false))) (false=false))) (false=false))) (false=false))) (false=false))) False) False) False) False) False) False) False) False) False) False) False) False) False) False) False) False) False) False) False) False) False) False) False)
 (Z0 (k==13) (d/\Z0 Q (P/\Z0 O (Z0 N (Z0 M (Z0 L (Z0 K (J/\I/\Z0 j (Z0 e (b/\a/\H/\i/\d/\h/\Z0 n (Z0 G (Z0 m (Z0 g (Z0 l (c/\Z0 u (Z0 T (Z0 r (Z0 X (Z0 a1 (Z0 U (Z0 W (Z0 c9 (Z0 V (Z0 (!(F&&(S&&(R&&(d4&&f8))))) (false=false) (Z0 E (Z0 D (false=false) (Z0 C (Z0 B (false=false) (Z0 A (Z0 z (false=false) (Z0 y (Z0 x (false=false) (Z0 w (Z0 v (false=false) (Z0 o (Z0 (decide (u8=u8/\(0:Nat)<32/\0<f)) q False) p)) (false=false))) (false=false))) (false=false))) (false=false))) (false=false))) False) False) False) False) False) False) False) False) False) False) False) False) False) False) False) False) False) False) False) False) False) False)
 (Z0 (k==14) (Z0 Q (P/\Z0 O (Z0 N (Z0 M (Z0 L (Z0 K (J/\I/\Z0 j (Z0 e (b/\a/\H/\i/\d/\h/\Z0 n (Z0 G (Z0 m (Z0 g (Z0 l (c/\Z0 u (Z0 T (Z0 r (Z0 X (Z0 a1 (Z0 U (Z0 W (Z0 a2 (Z0 V (Z0 (!(F&&(S&&(R&&(Y&&(a0&&(a5&&(Z&&(a6&&(b7&&(b6&&(c6&&f5)))))))))))) (false=false) (Z0 E (Z0 D (false=false) (Z0 C (Z0 B (false=false) (Z0 A (Z0 z (false=false) (Z0 y (Z0 x (false=false) (Z0 w (Z0 v (false=false) (Z0 o (Z0 (decide (u8=u8/\(0:Nat)<32/\0<f)) q False) p)) (false=false))) (false=false))) (false=false))) (false=false))) (false=false))) False) False) False) False) False) False) False) False) False) False) False) False) False) False) False) False) False) False) False) False) False) False)
 (Z0 Q (P/\Z0 O (Z0 N (Z0 M (Z0 L (Z0 K (J/\I/\Z0 j (Z0 e (b/\a/\H/\i/\d/\h/\Z0 n (Z0 G (Z0 m (Z0 g (Z0 l (c/\Z0 u (Z0 T (Z0 r (Z0 X (Z0 a1 (Z0 U (Z0 W (Z0 a2 (Z0 V (Z0 (!(F&&(S&&(R&&(Y&&(a0&&(a5&&e2))))))) (false=false) (Z0 E (Z0 D (false=false) (Z0 C (Z0 B (false=false) (Z0 A (Z0 z (false=false) (Z0 y (Z0 x (false=false) (Z0 w (Z0 v (false=false) (Z0 o (Z0 (decide (u8=u8/\(0:Nat)<32/\0<f)) q False) p)) (false=false))) (false=false))) (false=false))) (false=false))) (false=false))) False) False) False) False) False) False) False) False) False) False) False) False) False) False) False) False) False) False) False) False) False) False))))))))))))))) (by kernel_rfl) ?_
 conv=>zeta
 rw [Zg]
 refine ⟨fun _=>rfl,fun h1=> ?_⟩
 rw [Zg]
 exact ⟨fun _=>rfl,fun h2=>by omega⟩
end Go.Tk
end
