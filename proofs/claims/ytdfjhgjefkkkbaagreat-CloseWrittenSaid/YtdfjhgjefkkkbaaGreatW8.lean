/- W: part 8 of an engine (a symbolic evaluator, proved against the model) and of the walk by it. -/
import Derived.Test.YtdfjhgjefkkkbaaGreatW7
import Derived.Test.YtdfjhgjefkkkbaaGreatRows
import Derived.ChangeOld
set_option linter.unusedVariables false
set_option linter.unusedSimpArgs false
set_option maxRecDepth 100000
set_option maxHeartbeats 0
section
namespace Go.Tk
open IntKind (i64 u8 u32 u64 wrap)
variable {Tg:LI->TxS->LI} {SB:Zo->Bool} {G:Za} {R:Option ClS} {ls xs:LI}
noncomputable def Zg8 (A:LI->Int×Int) (SB:Zo->Bool) (M:Int->Int->Int) (Tg Td:LI->TxS->LI):Za:=(((((G0.withF 12 (Zlb Tg)).withP 60 (Zjh Tg)).withF 13 (ZfW SB M Tg)).withP 63 (Zg5 SB M Tg)).withF 61 (clF A)).withP 62 (Z3V Td)
theorem Z2A:(Zg8 ZJ WQ Xe ZC Wj).Ok:=Za.withP_ok (Za.withF_ok (Za.withP_ok (Za.withF_ok (Za.withP_ok (Za.withF_ok Zr ZiA) ZfT) ZfX) ZcD) Z6o) Z6h
def YP (l:LI) (b:Int):LI:=l.set 0 (wrap .u8 (l.getD 0 0+b))
theorem Z7X (hT:∀a t,(Tg a t).length=32) (k:ClS) (fee sd:Int):(Yi Tg k fee sd).length=32:=by
 unfold Yi
 split
 ·simp_all
 ·rfl
theorem ZiI (hT:∀a t,(Tg a t).length=32) (k:ClS):(WG Tg k).tg.length=32:=by
 unfold WG
 repeat' split
 all_goals first
  | rfl
  | exact Z7X hT _ _ _
theorem Vg {M:Int->Int->Int} (hT:∀a t,(Tg a t).length=32) (k:ClS) (s:Zo):(Ya SB M Tg k s).tg.length=32:=by
 unfold Ya
 repeat' split
 all_goals first
  | rfl
  | exact Z7X hT _ _ _
theorem ZoQ (A:LI->Int×Int) (SB:Zo->Bool) (M:Int->Int->Int) (Tg Td:LI->TxS->LI) (k:ClS) (s:Zo) (fe be:Int) (r:HR) (hk:Xo k) (hT:∀a t,(Tg a t).length=32) (hl:s.Len) (hr:r=WG Tg k):
  evF (Zg8 A SB M Tg Td) 20 25 [.ptr (some ⟨0,0,0,0,0⟩),.agg (clU k k.side k.offers k.last k.agrees k.fee),.agg (.int .i64 0::(s.c++[.int .i64 fe,.int .u8 be]))] ⟨1,[(0,.flat (clT k k.side k.offers k.last k.agrees k.fee))]⟩ (ZK 1 (.ret (.tuple [.agg (clU k k.side r.of r.la r.ag r.fe),.bool true])) 1 [(0,.flat (clT k k.side r.of r.la r.ag r.fe))]):=by
 refine @Eq.mpr _ (let c:=k.t;let z:=c.fund;let Y:=AV.arr u8 32 z;let v:=c.index;let X:=AV.int i64 v;let u:=c.cap;let W:=AV.int i64 u;let d:=c.dust;let J:=AV.int i64 d;let I:=c.fee;let b6:=AV.int i64 I;let D:=c.delay;let b1:=AV.int i64 D;let C:=c.k0;let b0:=AV.arr u8 32 C;let B:=c.k1;let a9:=AV.arr u8 32 B;let A:=k.side;let a8:=AV.int i64 A;let y:=[k.a0,k.a1];let a7:=AV.arr i64 2 y;let x:=k.least;let a6:=AV.int i64 x;let w:=k.most;let a5:=AV.int i64 w;let a4:=AV.bool k.offers;let a3:=AV.int i64 k.last;let a2:=AV.bool k.agrees;let Z:=AV.int i64 k.fee;
 ∃(k:ClS),
 let a:=k.t;let s:=a.fund;let q:=a.index;let p:=a.cap;let o:=a.dust;let n:=a.fee;let m:=a.delay;let l:=a.k0;let j:=a.k1;let i:=k.side;let h:=[k.a0,k.a1];let g:=k.least;let f:=k.most;let V:=s=z;let U:=decide (q=v);let T:=decide (p=u);let S:=decide (o=d);let R:=decide (n=I);let Q:=decide (m=D);let P:=l=C;let O:=j=B;let N:=decide (i=A);let M:=h=y;let L:=decide (g=x);let K:=decide (f=w);
 Yv [Y,X,W,J,b6,b1,b0,a9,a8,a7,a6,a5,a4,a3,a2,Z] k/\
 XN k/\
 ∀(r_1:HR),
 let H:=r_1.of;let G:=r_1.la;let F:=r_1.ag;let E:=r_1.fe;let b5:=decide (H=r.of);let b4:=decide (G=r.la);let b3:=decide (F=r.ag);let b2:=decide (E=r.fe);
 r_1=WG Tg k->
 ∃(k:ClS),
 let b:=k.t;
 X7 [Y,X,W,J,b6,b1,b0,a9,a8,a7,a6,a5,a4,a3,a2,Z,AV.bool true] k/\
 XN k/\
 ∀(r_2:HR),
 r_2=WG Tg k->
 Z0 (decide (r_2.tg.length=32/\r_1.tg.length=32))
 (Z0 (r_2.kd==r_1.kd&&(true&&(true&&(r_2.am==r_1.am&&(true&&(true&&(true&&(true&&(r_2.tg==r_1.tg&&true)))))))))
 (s=s/\
 Z0 (decide (q=q))
 (Z0 (decide (p=p))
 (Z0 (decide (o=o))
 (Z0 (decide (n=n))
 (Z0 (decide (m=m))
 (l=l/\
 j=j/\
 Z0 (decide (i=i))
 (h=h/\
 Z0 (decide (g=g))
 (Z0 (decide (f=f)) (Z0 (decide (H=H)) (Z0 (decide (G=G)) (Z0 (decide (F=F)) (Z0 (decide (E=E)) (V/\Z0 U (Z0 T (Z0 S (Z0 R (Z0 Q (P/\O/\Z0 N (M/\Z0 L (Z0 K (Z0 b5 (Z0 b4 (Z0 b3 (Z0 b2 (Z0 (decide ((r_2.e==r_1.e)=true)) (b.fund=z/\Z0 (decide (b.index=v)) (Z0 (decide (b.cap=u)) (Z0 (decide (b.dust=d)) (Z0 (decide (b.fee=I)) (Z0 (decide (b.delay=D)) (b.k0=C/\b.k1=B/\Z0 (decide (k.side=A)) ([k.a0,k.a1]=y/\Z0 (decide (k.least=x)) (Z0 (decide (k.most=w)) (Z0 (decide (r_2.of=r.of)) (Z0 (decide (r_2.la=r.la)) (Z0 (decide (r_2.ag=r.ag)) (Z0 (decide (r_2.fe=r.fe)) True False) False) False) False) False) False) False) False) False) False) False) False) False) False) False) False) False) False) False) False) False) False) False) False) False) False) False) False) False) False) False)
 False)
 False)
 False)
 False)
 False)
 False)
 (V/\Z0 U (Z0 T (Z0 S (Z0 R (Z0 Q (P/\O/\Z0 N (M/\Z0 L (Z0 K (Z0 b5 (Z0 b4 (Z0 b3 (Z0 b2 False False) False) False) False) False) False) False) False) False) False) False) False))
 False) (by kernel_rfl) ?_
 conv=>zeta
 try simp only [Zc]
 try simp only [Zl]
 try simp only [Zg]
 try simp only [Zm]
 try simp only [Zn]
 try simp only [Zh]
 try simp only [and_true]
 have ht:=ZiI hT k
 refine ⟨k,⟨rfl⟩,hk.o,fun r1 h1=>⟨k,⟨rfl⟩,hk.o,fun r2 h2=> ?_⟩⟩
 simp_all
theorem ZoR (A:LI->Int×Int) (SB:Zo->Bool) (M:Int->Int->Int) (Tg Td:LI->TxS->LI) (k:ClS) (s:Zo) (fe be:Int) (r:HR) (hk:Xo k) (hT:∀a t,(Tg a t).length=32) (hl:s.Len) (hr:r=Ya SB M Tg k s):
  evF (Zg8 A SB M Tg Td) 20 25 [.ptr (some ⟨0,0,0,0,0⟩),.agg (clU k k.side k.offers k.last k.agrees k.fee),.agg (.int .i64 1::(s.c++[.int .i64 fe,.int .u8 be]))] ⟨1,[(0,.flat (clT k k.side k.offers k.last k.agrees k.fee))]⟩ (ZK 1 (.ret (.tuple [.agg (clU k k.side r.of r.la r.ag r.fe),.bool true])) 1 [(0,.flat (clT k k.side r.of r.la r.ag r.fe))]):=by
 refine @Eq.mpr _ (let d:=k.t;let B:=d.fund;let q3:=AV.arr u8 32 B;let x:=d.index;let q5:=AV.int i64 x;let w:=d.cap;let Z:=AV.int i64 w;let f:=d.dust;let L:=AV.int i64 f;let K:=d.fee;let b9:=AV.int i64 K;let F:=d.delay;let b2:=AV.int i64 F;let E:=d.k0;let b1:=AV.arr u8 32 E;let D:=d.k1;let b0:=AV.arr u8 32 D;let C:=k.side;let a9:=AV.int i64 C;let A:=[k.a0,k.a1];let a8:=AV.arr i64 2 A;let z:=k.least;let a7:=AV.int i64 z;let y:=k.most;let a6:=AV.int i64 y;let a5:=AV.bool k.offers;let a4:=AV.int i64 k.last;let a3:=AV.bool k.agrees;let a2:=AV.int i64 k.fee;let c:=s.t;
 ∃(k:ClS),
 let a:=k.t;let v:=a.fund;let u:=a.index;let q:=a.cap;let p:=a.dust;let o:=a.fee;let n:=a.delay;let m:=a.k0;let l:=a.k1;let j:=k.side;let i:=[k.a0,k.a1];let h:=k.least;let g:=k.most;let Y:=v=B;let X:=decide (u=x);let W:=decide (q=w);let V:=decide (p=f);let U:=decide (o=K);let T:=decide (n=F);let S:=m=E;let R:=l=D;let Q:=decide (j=C);let P:=i=A;let O:=decide (h=z);let N:=decide (g=y);
 ∃(s_1:Zo),
 let b8:=[AV.int i64 s.kind,AV.arr u8 32 c.fund,AV.int i64 c.index,AV.int i64 c.cap,AV.int i64 c.dust,AV.int i64 c.fee,AV.int i64 c.delay,AV.arr u8 32 c.k0,AV.arr u8 32 c.k1,AV.int i64 s.reserve,AV.int i64 s.amount,AV.arr u8 32 s.point,AV.arr u8 32 s.nxt,AV.arr u8 32 s.key,AV.arr u8 32 s.hash,AV.arr u8 32 s.tag,AV.arr u8 32 s.secret,AV.int i64 s.id,AV.int i64 s.number,AV.int i64 s.index,AV.int i64 s.expiry,AV.int i64 s.code,AV.str s.route];
 Yv [q3,q5,Z,L,b9,b2,b1,b0,a9,a8,a7,a6,a5,a4,a3,a2] k/\
 XO b8 s_1/\
 (Y0 k/\Zp.All a)/\
 Zo.Len s_1/\
 ∀(r_1:HR),
 let J:=r_1.of;let I:=r_1.la;let H:=r_1.ag;let G:=r_1.fe;let b7:=decide (J=r.of);let b6:=decide (I=r.la);let b5:=decide (H=r.ag);let b4:=decide (G=r.fe);let b3:=Y/\Z0 X (Z0 W (Z0 V (Z0 U (Z0 T (S/\R/\Z0 Q (P/\Z0 O (Z0 N (Z0 b7 (Z0 b6 (Z0 b5 (Z0 b4 False False) False) False) False) False) False) False) False) False) False) False) False;
 r_1=Ya SB M Tg k s_1->
 ∃(k:ClS),
 let b:=k.t;
 ∃(s:Zo),
 X7 [q3,q5,Z,L,b9,b2,b1,b0,a9,a8,a7,a6,a5,a4,a3,a2,AV.bool true] k/\
 XO b8 s/\
 (Y0 k/\Zp.All b)/\
 Zo.Len s/\
 ∀(r_2:HR),
 r_2=Ya SB M Tg k s->
 Z0 (decide (r_2.tg.length=32/\r_1.tg.length=32))
 (Z0 (r_2.kd==r_1.kd&&(true&&(true&&(r_2.am==r_1.am&&(true&&(true&&(true&&(true&&(r_2.tg==r_1.tg&&true)))))))))
 (Z0 (r_2.sy==r_1.sy)
 (v=v/\
 Z0 (decide (u=u))
 (Z0 (decide (q=q))
 (Z0 (decide (p=p))
 (Z0 (decide (o=o))
 (Z0 (decide (n=n))
 (m=m/\
 l=l/\
 Z0 (decide (j=j))
 (i=i/\
 Z0 (decide (h=h))
 (Z0 (decide (g=g)) (Z0 (decide (J=J)) (Z0 (decide (I=I)) (Z0 (decide (H=H)) (Z0 (decide (G=G)) (Y/\Z0 X (Z0 W (Z0 V (Z0 U (Z0 T (S/\R/\Z0 Q (P/\Z0 O (Z0 N (Z0 b7 (Z0 b6 (Z0 b5 (Z0 b4 (Z0 (decide ((r_2.e==r_1.e)=true)) (b.fund=B/\Z0 (decide (b.index=x)) (Z0 (decide (b.cap=w)) (Z0 (decide (b.dust=f)) (Z0 (decide (b.fee=K)) (Z0 (decide (b.delay=F)) (b.k0=E/\b.k1=D/\Z0 (decide (k.side=C)) ([k.a0,k.a1]=A/\Z0 (decide (k.least=z)) (Z0 (decide (k.most=y)) (Z0 (decide (r_2.of=r.of)) (Z0 (decide (r_2.la=r.la)) (Z0 (decide (r_2.ag=r.ag)) (Z0 (decide (r_2.fe=r.fe)) True False) False) False) False) False) False) False) False) False) False) False) False) False) False) False) False) False) False) False) False) False) False) False) False) False) False) False) False) False) False) False)
 False)
 False)
 False)
 False)
 False)
 False)
 b3)
 b3)
 False) (by kernel_rfl) ?_
 conv=>zeta
 try simp only [Zc]
 try simp only [Zl]
 try simp only [Zg]
 try simp only [Zm]
 try simp only [Zn]
 try simp only [Zh]
 try simp only [and_true]
 have ht:=Vg (SB:=SB) (M:=M) hT k s
 refine ⟨k,s,⟨rfl⟩,⟨rfl⟩,⟨hk.i,hk.t⟩,hl,fun r1 h1=>⟨k,s,⟨rfl⟩,⟨rfl⟩,⟨hk.i,hk.t⟩,hl,fun r2 h2=> ?_⟩⟩
 simp_all
theorem WU {l:LI} (h:l.length=32) (b:Int):(YP l b).length=32:=by
 unfold YP
 rw [K5]
 exact h
theorem Zlh (A:LI->Int×Int) (SB:Zo->Bool) (M:Int->Int->Int) (Tg Td:LI->TxS->LI) (k:ClS) (s:Zo) (w fe be:Int) (r:HR) (tg:LI) (hA:A=ZJ) (hw0:w≠0) (hw1:w≠1) (hk:Xo (clD k 0)) (hT:∀a t,(Tg a t).length=32) (hTd:∀a t,(Td a t).length=32) (hl:s.Len) (htg:tg=YP (Yi Td (clD k 0) fe 1) be) (hr:r=Ya SB M Tg (clD k 0) (sdN 13 fe tg)):
  evF (Zg8 A SB M Tg Td) 20 25 [.ptr (some ⟨0,0,0,0,0⟩),.agg (clU k 0 k.offers k.last k.agrees k.fee),.agg (.int .i64 w::(s.c++[.int .i64 fe,.int .u8 be]))] ⟨1,[(0,.flat (clT k 0 k.offers k.last k.agrees k.fee))]⟩ (ZK 1 (.ret (.tuple [.agg (clU k 0 r.of r.la r.ag r.fe),.bool true])) 1 [(0,.flat (clT k 0 r.of r.la r.ag r.fe))]):=by
 refine @Eq.mpr _ (let q1:=k.t;let m:=q1.fund;let q3:=AV.arr u8 32 m;let l:=q1.index;let q5:=AV.int i64 l;let p:=q1.cap;let q7:=AV.int i64 p;let o:=q1.dust;let q9:=AV.int i64 o;let x:=q1.fee;let e8:=AV.int i64 x;let v:=q1.delay;let e3:=AV.int i64 v;let u:=q1.k0;let d8:=AV.arr u8 32 u;let j:=q1.k1;let d7:=AV.arr u8 32 j;let f:=AV.int i64 0;let q:=[k.a0,k.a1];let d6:=AV.arr i64 2 q;let I:=k.least;let d5:=AV.int i64 I;let H:=k.most;let d4:=AV.int i64 H;let d3:=AV.bool k.offers;let d2:=AV.int i64 k.last;let d1:=AV.bool k.agrees;let d0:=AV.int i64 k.fee;let c3:=[q3,q5,q7,q9,e8,e3,d8,d7,f,d6,d5,d4,d3,d2,d1,d0];let c2:=[q3,q5,q7,q9,e8,e3,d8,d7,f,d6,d5,d4,d3,d2,d1,d0,AV.bool true];let Q:=r.of;let P:=r.la;let O:=r.ag;let K:=r.fe;let c7:=Zp.mk m l p o x v u j;let c6:=AV.int i64 13;let g:=AV.arr u8 32 Z5;let c5:=AV.int i64 fe;let c4:=[g,f,f,f,f,f,AV.str ByteArray.empty];let c9:=(∃(k:ClS),
 ∃(s:Zo),
 Yv c3 k/\
 XO (c6::g::f::f::f::f::f::g::g::f::c5::g::g::g::g::AV.arr u8 32 [wrap u8 (0+be),(0:Int),0,0,0,0,0,0,0,0,0,0,0,0,0,0,0,0,0,0,0,0,0,0,0,0,0,0,0,0,0,0]::c4) s/\
 (Y0 k/\Zp.All k.t)/\
 Zo.Len s/\
 ∀(r:HR),
 r=Ya SB M Tg k s->
 ∃(k_1:ClS),
 ∃(s:Zo),
 X7 c2 k_1/\
 XO (c6::g::f::f::f::f::f::g::g::f::c5::g::g::g::g::AV.arr u8 32 [wrap u8 (0+be),(0:Int),0,0,0,0,0,0,0,0,0,0,0,0,0,0,0,0,0,0,0,0,0,0,0,0,0,0,0,0,0,0]::c4) s/\
 (Y0 k_1/\Zp.All k_1.t)/\
 Zo.Len s/\
 ∀(r_1:HR),
 r_1=Ya SB M Tg k_1 s->
 Z6 (r_1.tg.length=32/\r.tg.length=32) (Z0 (r_1.kd==r.kd&&(true&&(true&&(r_1.am==r.am&&(true&&(true&&(true&&(true&&(r_1.tg==r.tg&&true))))))))) (Z0 (r_1.sy==r.sy) (k.t.fund=k.t.fund/\
 Z6 (k.t.index=k.t.index) (Z6 (k.t.cap=k.t.cap) (Z6 (k.t.dust=k.t.dust) (Z6 (k.t.fee=k.t.fee) (Z6 (k.t.delay=k.t.delay) (k.t.k0=k.t.k0/\
 k.t.k1=k.t.k1/\
 Z6 (k.side=k.side) ([k.a0,k.a1]=[k.a0,k.a1]/\
 Z6 (k.least=k.least) (Z6 (k.most=k.most) (Z6 (r.of=r.of) (Z6 (r.la=r.la) (Z6 (r.ag=r.ag) (Z6 (r.fe=r.fe) (k.t.fund=m/\
 Z6 (k.t.index=l) (Z6 (k.t.cap=p) (Z6 (k.t.dust=o) (Z6 (k.t.fee=x) (Z6 (k.t.delay=v) (k.t.k0=u/\k.t.k1=j/\Z6 (k.side=0) ([k.a0,k.a1]=q/\Z6 (k.least=I) (Z6 (k.most=H) (Z6 (r.of=Q) (Z6 (r.la=P) (Z6 (r.ag=O) (Z6 (r.fe=K) (Z6 ((r_1.e==r.e)=true) (k_1.t.fund=m/\Z6 (k_1.t.index=l) (Z6 (k_1.t.cap=p) (Z6 (k_1.t.dust=o) (Z6 (k_1.t.fee=x) (Z6 (k_1.t.delay=v) (k_1.t.k0=u/\k_1.t.k1=j/\Z6 (k_1.side=0) ([k_1.a0,k_1.a1]=q/\Z6 (k_1.least=I) (Z6 (k_1.most=H) (Z6 (r_1.of=Q) (Z6 (r_1.la=P) (Z6 (r_1.ag=O) (Z6 (r_1.fe=K) True))))))))))))))))))))))))))))))))))))) (k.t.fund=m/\Z6 (k.t.index=l) (Z6 (k.t.cap=p) (Z6 (k.t.dust=o) (Z6 (k.t.fee=x) (Z6 (k.t.delay=v) (k.t.k0=u/\k.t.k1=j/\Z6 (k.side=0) ([k.a0,k.a1]=q/\Z6 (k.least=I) (Z6 (k.most=H) (Z6 (r.of=Q) (Z6 (r.la=P) (Z6 (r.ag=O) (Z0 (decide (r.fe=K)) False False))))))))))))) (k.t.fund=m/\Z6 (k.t.index=l) (Z6 (k.t.cap=p) (Z6 (k.t.dust=o) (Z6 (k.t.fee=x) (Z6 (k.t.delay=v) (k.t.k0=u/\k.t.k1=j/\Z6 (k.side=0) ([k.a0,k.a1]=q/\Z6 (k.least=I) (Z6 (k.most=H) (Z6 (r.of=Q) (Z6 (r.la=P) (Z6 (r.ag=O) (Z0 (decide (r.fe=K)) False False))))))))))))));let b6:=InS.mk m l 1 Z5 Z5 Z5;let a2:=s.t;
 Z0 (w==0) (∃(k:ClS),
 let h:=k.t;let J:=h.fund;let b3:=h.index;let b2:=h.cap;let d:=h.dust;let G:=h.fee;let F:=h.delay;let E:=h.k0;let D:=h.k1;let C:=k.side;let B:=[k.a0,k.a1];let z:=k.least;let y:=k.most;let S:=J=m;let R:=decide (b3=l);let Z:=decide (b2=p);let Y:=decide (d=o);let b1:=decide (G=x);let b0:=decide (F=v);let a9:=E=u;let a8:=D=j;let a7:=decide (C=0);let a6:=B=q;let a5:=decide (z=I);let a4:=decide (y=H);
 Yv c3 k/\
 XN k/\
 ∀(r:HR),
 let c0:=r.of;let c8:=r.la;let b5:=r.ag;let b4:=r.fe;let X:=decide (c0=Q);let b9:=decide (c8=P);let W:=decide (b5=O);let V:=decide (b4=K);
 r=WG Tg k->
 ∃(k:ClS),
 let a3:=k.t;
 X7 c2 k/\
 XN k/\
 ∀(r_1:HR),
 r_1=WG Tg k->
 Z6 (r_1.tg.length=32/\r.tg.length=32) (Z0 (r_1.kd==r.kd&&(true&&(true&&(r_1.am==r.am&&(true&&(true&&(true&&(true&&(r_1.tg==r.tg&&true))))))))) (J=J/\
 Z6 (b3=b3) (Z6 (b2=b2) (Z6 (d=d) (Z6 (G=G) (Z6 (F=F) (E=E/\
 D=D/\
 Z6 (C=C) (B=B/\
 Z6 (z=z) (Z6 (y=y) (Z6 (c0=c0) (Z6 (c8=c8) (Z6 (b5=b5) (Z6 (b4=b4) (S/\Z7 R (Z7 Z (Z7 Y (Z7 b1 (Z7 b0 (a9/\a8/\Z7 a7 (a6/\Z7 a5 (Z7 a4 (Z7 X (Z7 b9 (Z7 W (Z7 V (Z6 ((r_1.e==r.e)=true) (a3.fund=m/\Z6 (a3.index=l) (Z6 (a3.cap=p) (Z6 (a3.dust=o) (Z6 (a3.fee=x) (Z6 (a3.delay=v) (a3.k0=u/\a3.k1=j/\Z6 (k.side=0) ([k.a0,k.a1]=q/\Z6 (k.least=I) (Z6 (k.most=H) (Z6 (r_1.of=Q) (Z6 (r_1.la=P) (Z6 (r_1.ag=O) (Z6 (r_1.fe=K) True))))))))))))))))))))))))))))))))))))) (S/\Z7 R (Z7 Z (Z7 Y (Z7 b1 (Z7 b0 (a9/\a8/\Z7 a7 (a6/\Z7 a5 (Z7 a4 (Z7 X (Z7 b9 (Z7 W (Z0 V False False)))))))))))))) (Z0 (w !=1) (Zp.Ok c7/\
 ∃(a:Int),
 ∃(b:Int),
 let h:=clB A c7 a b fe;let J:=clL c7 a b fe;
 q=[a,b]/\
 a<9223372036854775808/\
 (h=false->c9)/\
 (h=true->
 (J.length=0->c9)/\
 ∀(n:Nat) (L:List Z9),
 L=ZW J->
 n=L.length->
 n≠0->
 Z6 (0+n<=n) ((∀(i:Nat),i<n->true=true)/\
 ∃(t:TxS),
 (t.num=2147483647/\
 (((1:Nat)=1/\t.N=1)/\∀(i:Nat),i<1->Yg [AV.arr u8 32 b6.name,AV.int i64 b6.index,AV.int i64 b6.way,AV.arr u8 32 b6.tag,AV.arr u8 32 b6.also,AV.arr u8 32 b6.secret] 0 130 i=InS.c (t.ins i))/\
 (n=n/\t.M=n)/\
 ∀(i:Nat),
 let d:=Y4 L i;
 i<n->[AV.int i64 d.kind,AV.int i64 d.amount,AV.arr u8 32 d.owner,AV.arr u8 32 d.other,AV.arr u8 32 d.point,AV.arr u8 32 d.hash,AV.int i64 d.delay,AV.int i64 d.expiry]=ZM.c (t.outs i))/\
 (TxS.Fine t/\j.length=32)/\
 Z6 (u8=u8/\(0:Nat)<32/\0<List.length (Td j t)) (∃(k:ClS),
 let d:=k.t;let G:=d.fund;let F:=d.index;let E:=d.cap;let D:=d.dust;let C:=d.fee;let B:=d.delay;let z:=d.k0;let y:=d.k1;let S:=k.side;let R:=[k.a0,k.a1];let Z:=k.least;let Y:=k.most;let b1:=G=m;let b0:=decide (F=l);let a9:=decide (E=p);let a8:=decide (D=o);let a7:=decide (C=x);let a6:=decide (B=v);let a5:=z=u;let a4:=y=j;let e7:=decide (S=0);let e6:=R=q;let e5:=decide (Z=I);let e4:=decide (Y=H);
 ∃(s:Zo),
 let X:=c6::g::f::f::f::f::f::g::g::f::c5::g::g::g::g::AV.arr u8 32 (List.set (Td j t) 0 (wrap u8 (List.getD (Td j t) 0 0+be)))::c4;
 Yv c3 k/\
 XO X s/\
 (Y0 k/\Zp.All d)/\
 Zo.Len s/\
 ∀(r:HR),
 let W:=r.of;let V:=r.la;let b8:=r.ag;let b7:=r.fe;let c1:=decide (W=Q);let e2:=decide (V=P);let e1:=decide (b8=O);let e0:=decide (b7=K);let d9:=b1/\Z7 b0 (Z7 a9 (Z7 a8 (Z7 a7 (Z7 a6 (a5/\a4/\Z7 e7 (e6/\Z7 e5 (Z7 e4 (Z7 c1 (Z7 e2 (Z7 e1 (Z0 e0 False False)))))))))));
 r=Ya SB M Tg k s->
 ∃(k:ClS),
 let T:=k.t;
 ∃(s:Zo),
 X7 c2 k/\
 XO X s/\
 (Y0 k/\Zp.All T)/\
 Zo.Len s/\
 ∀(r_1:HR),
 r_1=Ya SB M Tg k s->
 Z6 (r_1.tg.length=32/\r.tg.length=32) (Z0 (r_1.kd==r.kd&&(true&&(true&&(r_1.am==r.am&&(true&&(true&&(true&&(true&&(r_1.tg==r.tg&&true))))))))) (Z0 (r_1.sy==r.sy) (G=G/\
 Z6 (F=F) (Z6 (E=E) (Z6 (D=D) (Z6 (C=C) (Z6 (B=B) (z=z/\
 y=y/\
 Z6 (S=S) (R=R/\
 Z6 (Z=Z) (Z6 (Y=Y) (Z6 (W=W) (Z6 (V=V) (Z6 (b8=b8) (Z6 (b7=b7) (b1/\Z7 b0 (Z7 a9 (Z7 a8 (Z7 a7 (Z7 a6 (a5/\a4/\Z7 e7 (e6/\Z7 e5 (Z7 e4 (Z7 c1 (Z7 e2 (Z7 e1 (Z7 e0 (Z6 ((r_1.e==r.e)=true) (T.fund=m/\Z6 (T.index=l) (Z6 (T.cap=p) (Z6 (T.dust=o) (Z6 (T.fee=x) (Z6 (T.delay=v) (T.k0=u/\T.k1=j/\Z6 (k.side=0) ([k.a0,k.a1]=q/\Z6 (k.least=I) (Z6 (k.most=H) (Z6 (r_1.of=Q) (Z6 (r_1.la=P) (Z6 (r_1.ag=O) (Z6 (r_1.fe=K) True))))))))))))))))))))))))))))))))))))) d9) d9))))) (∃(k:ClS),
 let h:=k.t;let J:=h.fund;let b3:=h.index;let b2:=h.cap;let d:=h.dust;let G:=h.fee;let F:=h.delay;let E:=h.k0;let D:=h.k1;let C:=k.side;let B:=[k.a0,k.a1];let z:=k.least;let y:=k.most;let S:=J=m;let R:=decide (b3=l);let Z:=decide (b2=p);let Y:=decide (d=o);let b1:=decide (G=x);let b0:=decide (F=v);let a9:=E=u;let a8:=D=j;let a7:=decide (C=0);let a6:=B=q;let a5:=decide (z=I);let a4:=decide (y=H);
 ∃(s_1:Zo),
 let c0:=[AV.int i64 s.kind,AV.arr u8 32 a2.fund,AV.int i64 a2.index,AV.int i64 a2.cap,AV.int i64 a2.dust,AV.int i64 a2.fee,AV.int i64 a2.delay,AV.arr u8 32 a2.k0,AV.arr u8 32 a2.k1,AV.int i64 s.reserve,AV.int i64 s.amount,AV.arr u8 32 s.point,AV.arr u8 32 s.nxt,AV.arr u8 32 s.key,AV.arr u8 32 s.hash,AV.arr u8 32 s.tag,AV.arr u8 32 s.secret,AV.int i64 s.id,AV.int i64 s.number,AV.int i64 s.index,AV.int i64 s.expiry,AV.int i64 s.code,AV.str s.route];
 Yv c3 k/\
 XO c0 s_1/\
 (Y0 k/\Zp.All h)/\
 Zo.Len s_1/\
 ∀(r:HR),
 let b5:=r.of;let b4:=r.la;let X:=r.ag;let b9:=r.fe;let W:=decide (b5=Q);let V:=decide (b4=P);let b8:=decide (X=O);let b7:=decide (b9=K);let c1:=S/\Z7 R (Z7 Z (Z7 Y (Z7 b1 (Z7 b0 (a9/\a8/\Z7 a7 (a6/\Z7 a5 (Z7 a4 (Z7 W (Z7 V (Z7 b8 (Z0 b7 False False)))))))))));
 r=Ya SB M Tg k s_1->
 ∃(k:ClS),
 let U:=k.t;
 ∃(s:Zo),
 X7 c2 k/\
 XO c0 s/\
 (Y0 k/\Zp.All U)/\
 Zo.Len s/\
 ∀(r_1:HR),
 r_1=Ya SB M Tg k s->
 Z6 (r_1.tg.length=32/\r.tg.length=32) (Z0 (r_1.kd==r.kd&&(true&&(true&&(r_1.am==r.am&&(true&&(true&&(true&&(true&&(r_1.tg==r.tg&&true))))))))) (Z0 (r_1.sy==r.sy) (J=J/\
 Z6 (b3=b3) (Z6 (b2=b2) (Z6 (d=d) (Z6 (G=G) (Z6 (F=F) (E=E/\
 D=D/\
 Z6 (C=C) (B=B/\
 Z6 (z=z) (Z6 (y=y) (Z6 (b5=b5) (Z6 (b4=b4) (Z6 (X=X) (Z6 (b9=b9) (S/\Z7 R (Z7 Z (Z7 Y (Z7 b1 (Z7 b0 (a9/\a8/\Z7 a7 (a6/\Z7 a5 (Z7 a4 (Z7 W (Z7 V (Z7 b8 (Z7 b7 (Z6 ((r_1.e==r.e)=true) (U.fund=m/\Z6 (U.index=l) (Z6 (U.cap=p) (Z6 (U.dust=o) (Z6 (U.fee=x) (Z6 (U.delay=v) (U.k0=u/\U.k1=j/\Z6 (k.side=0) ([k.a0,k.a1]=q/\Z6 (k.least=I) (Z6 (k.most=H) (Z6 (r_1.of=Q) (Z6 (r_1.la=P) (Z6 (r_1.ag=O) (Z6 (r_1.fe=K) True))))))))))))))))))))))))))))))))))))) c1) c1)))) (by kernel_rfl) ?_
 conv=>zeta
 try simp only [vcA]
 try simp only [vcB]
 try simp only [vcC]
 subst hA
 have hx:=hk.t
 have ha:k.a0<9223372036854775808:=hk.a
 refine ⟨fun h=>absurd (beq_iff_eq.1 h) hw0,fun _=>⟨fun _=> ?_,fun h=>absurd (bne_eq_false_iff_eq.1 h) hw1⟩⟩
 refine ⟨hx.ok,k.a0,k.a1,rfl,ha,fun h1=> ?_,fun h1=>⟨fun h2=> ?_,fun n L hL hn hn0=> ?_⟩⟩
 ·have e:=Ql (k:=clD k 0) h1
  have eT:tg=YP Z5 be:=by rw [htg,WP (by rw [e];decide)]
  have hS:=VB (kd:=13) (am:=fe) (WU (l:=Z5) rfl be)
  have ht:=Vg (SB:=SB) (M:=M) hT (clD k 0) (sdN 13 fe (YP Z5 be))
  rw [eT] at hr
  subst hr
  refine ⟨clD k 0,sdN 13 fe (YP Z5 be),⟨rfl⟩,⟨rfl⟩,⟨hk.i,hk.t⟩,hS,fun r1 q1=>⟨clD k 0,sdN 13 fe (YP Z5 be),⟨rfl⟩,⟨rfl⟩,⟨hk.i,hk.t⟩,hS,fun r2 q2=> ?_⟩⟩
  subst q1
  subst q2
  simp only [ht,beq_self_eq_true,Ke,Bool.true_and,and_self,decide_true,true_and,and_true,forall_const,reduceCtorEq,false_implies,implies_true]
  try (and_intros<;>rfl)
 ·have e:=Ww (k:=clD k 0) h1 h2
  have eT:tg=YP Z5 be:=by rw [htg,WP (by rw [e];decide)]
  have hS:=VB (kd:=13) (am:=fe) (WU (l:=Z5) rfl be)
  have ht:=Vg (SB:=SB) (M:=M) hT (clD k 0) (sdN 13 fe (YP Z5 be))
  rw [eT] at hr
  subst hr
  refine ⟨clD k 0,sdN 13 fe (YP Z5 be),⟨rfl⟩,⟨rfl⟩,⟨hk.i,hk.t⟩,hS,fun r1 q1=>⟨clD k 0,sdN 13 fe (YP Z5 be),⟨rfl⟩,⟨rfl⟩,⟨hk.i,hk.t⟩,hS,fun r2 q2=> ?_⟩⟩
  subst q1
  subst q2
  simp only [ht,beq_self_eq_true,Ke,true_and,and_true,forall_const,reduceCtorEq,false_implies]
  try (and_intros<;>rfl)
 ·have e:=Wx (k:=clD k 0) h1 hL hn hn0
  subst hn hL
  have eT:tg=YP (Td k.t.k1 (txC k.t k.a0 k.a1 fe)) be:=by rw [htg,Uw e];rfl
  have hS:=VB (kd:=13) (am:=fe) (WU (hTd k.t.k1 (txC k.t k.a0 k.a1 fe)) be)
  have ht:=Vg (SB:=SB) (M:=M) hT (clD k 0) (sdN 13 fe (YP (Td k.t.k1 (txC k.t k.a0 k.a1 fe)) be))
  rw [eT] at hr
  subst hr
  refine ⟨fun _ _=>trivial,txC k.t k.a0 k.a1 fe,⟨rfl,⟨rfl,fun i hi=>VM _ i hi⟩,rfl,fun _ _=>rfl⟩,⟨X4 (WF hx.ok hx.fl) (Vf e),hx.ok.k1⟩,⟨by decide,by rw [hTd];decide⟩,clD k 0,sdN 13 fe (YP (Td k.t.k1 (txC k.t k.a0 k.a1 fe)) be),⟨rfl⟩,⟨rfl⟩,⟨hk.i,hk.t⟩,hS,fun r1 q1=>⟨clD k 0,sdN 13 fe (YP (Td k.t.k1 (txC k.t k.a0 k.a1 fe)) be),⟨rfl⟩,⟨rfl⟩,⟨hk.i,hk.t⟩,hS,fun r2 q2=> ?_⟩⟩
  subst q1
  subst q2
  simp only [ht,beq_self_eq_true,Ke,true_and,and_true,forall_const,reduceCtorEq,false_implies]
  try (and_intros<;>rfl)
theorem Zli (A:LI->Int×Int) (SB:Zo->Bool) (M:Int->Int->Int) (Tg Td:LI->TxS->LI) (k:ClS) (s:Zo) (w fe be:Int) (r:HR) (tg:LI) (hA:A=ZJ) (hw0:w≠0) (hw1:w≠1) (hk:Xo (clD k 1)) (hT:∀a t,(Tg a t).length=32) (hTd:∀a t,(Td a t).length=32) (hl:s.Len) (htg:tg=YP (Yi Td (clD k 1) fe 0) be) (hr:r=Ya SB M Tg (clD k 1) (sdN 13 fe tg)):
  evF (Zg8 A SB M Tg Td) 20 25 [.ptr (some ⟨0,0,0,0,0⟩),.agg (clU k 1 k.offers k.last k.agrees k.fee),.agg (.int .i64 w::(s.c++[.int .i64 fe,.int .u8 be]))] ⟨1,[(0,.flat (clT k 1 k.offers k.last k.agrees k.fee))]⟩ (ZK 1 (.ret (.tuple [.agg (clU k 1 r.of r.la r.ag r.fe),.bool true])) 1 [(0,.flat (clT k 1 r.of r.la r.ag r.fe))]):=by
 refine @Eq.mpr _ (let q1:=k.t;let m:=q1.fund;let q3:=AV.arr u8 32 m;let l:=q1.index;let q5:=AV.int i64 l;let p:=q1.cap;let q7:=AV.int i64 p;let o:=q1.dust;let q9:=AV.int i64 o;let x:=q1.fee;let e8:=AV.int i64 x;let v:=q1.delay;let e3:=AV.int i64 v;let j:=q1.k0;let d8:=AV.arr u8 32 j;let u:=q1.k1;let d7:=AV.arr u8 32 u;let q:=[k.a0,k.a1];let d6:=AV.arr i64 2 q;let I:=k.least;let d5:=AV.int i64 I;let H:=k.most;let d4:=AV.int i64 H;let d3:=AV.bool k.offers;let d2:=AV.int i64 k.last;let d1:=AV.bool k.agrees;let d0:=AV.int i64 k.fee;let c3:=[q3,q5,q7,q9,e8,e3,d8,d7,AV.int i64 1,d6,d5,d4,d3,d2,d1,d0];let c2:=[q3,q5,q7,q9,e8,e3,d8,d7,AV.int i64 1,d6,d5,d4,d3,d2,d1,d0,AV.bool true];let Q:=r.of;let P:=r.la;let O:=r.ag;let K:=r.fe;let c7:=Zp.mk m l p o x v j u;let c6:=AV.int i64 13;let g:=AV.arr u8 32 Z5;let f:=AV.int i64 0;let c5:=AV.int i64 fe;let c4:=[g,f,f,f,f,f,AV.str ByteArray.empty];let c9:=(∃(k:ClS),
 ∃(s:Zo),
 Yv c3 k/\
 XO (c6::g::f::f::f::f::f::g::g::f::c5::g::g::g::g::AV.arr u8 32 [wrap u8 (0+be),(0:Int),0,0,0,0,0,0,0,0,0,0,0,0,0,0,0,0,0,0,0,0,0,0,0,0,0,0,0,0,0,0]::c4) s/\
 (Y0 k/\Zp.All k.t)/\
 Zo.Len s/\
 ∀(r:HR),
 r=Ya SB M Tg k s->
 ∃(k_1:ClS),
 ∃(s:Zo),
 X7 c2 k_1/\
 XO (c6::g::f::f::f::f::f::g::g::f::c5::g::g::g::g::AV.arr u8 32 [wrap u8 (0+be),(0:Int),0,0,0,0,0,0,0,0,0,0,0,0,0,0,0,0,0,0,0,0,0,0,0,0,0,0,0,0,0,0]::c4) s/\
 (Y0 k_1/\Zp.All k_1.t)/\
 Zo.Len s/\
 ∀(r_1:HR),
 r_1=Ya SB M Tg k_1 s->
 Z6 (r_1.tg.length=32/\r.tg.length=32) (Z0 (r_1.kd==r.kd&&(true&&(true&&(r_1.am==r.am&&(true&&(true&&(true&&(true&&(r_1.tg==r.tg&&true))))))))) (Z0 (r_1.sy==r.sy) (k.t.fund=k.t.fund/\
 Z6 (k.t.index=k.t.index) (Z6 (k.t.cap=k.t.cap) (Z6 (k.t.dust=k.t.dust) (Z6 (k.t.fee=k.t.fee) (Z6 (k.t.delay=k.t.delay) (k.t.k0=k.t.k0/\
 k.t.k1=k.t.k1/\
 Z6 (k.side=k.side) ([k.a0,k.a1]=[k.a0,k.a1]/\
 Z6 (k.least=k.least) (Z6 (k.most=k.most) (Z6 (r.of=r.of) (Z6 (r.la=r.la) (Z6 (r.ag=r.ag) (Z6 (r.fe=r.fe) (k.t.fund=m/\
 Z6 (k.t.index=l) (Z6 (k.t.cap=p) (Z6 (k.t.dust=o) (Z6 (k.t.fee=x) (Z6 (k.t.delay=v) (k.t.k0=j/\k.t.k1=u/\Z6 (k.side=1) ([k.a0,k.a1]=q/\Z6 (k.least=I) (Z6 (k.most=H) (Z6 (r.of=Q) (Z6 (r.la=P) (Z6 (r.ag=O) (Z6 (r.fe=K) (Z6 ((r_1.e==r.e)=true) (k_1.t.fund=m/\Z6 (k_1.t.index=l) (Z6 (k_1.t.cap=p) (Z6 (k_1.t.dust=o) (Z6 (k_1.t.fee=x) (Z6 (k_1.t.delay=v) (k_1.t.k0=j/\k_1.t.k1=u/\Z6 (k_1.side=1) ([k_1.a0,k_1.a1]=q/\Z6 (k_1.least=I) (Z6 (k_1.most=H) (Z6 (r_1.of=Q) (Z6 (r_1.la=P) (Z6 (r_1.ag=O) (Z6 (r_1.fe=K) True))))))))))))))))))))))))))))))))))))) (k.t.fund=m/\Z6 (k.t.index=l) (Z6 (k.t.cap=p) (Z6 (k.t.dust=o) (Z6 (k.t.fee=x) (Z6 (k.t.delay=v) (k.t.k0=j/\k.t.k1=u/\Z6 (k.side=1) ([k.a0,k.a1]=q/\Z6 (k.least=I) (Z6 (k.most=H) (Z6 (r.of=Q) (Z6 (r.la=P) (Z6 (r.ag=O) (Z0 (decide (r.fe=K)) False False))))))))))))) (k.t.fund=m/\Z6 (k.t.index=l) (Z6 (k.t.cap=p) (Z6 (k.t.dust=o) (Z6 (k.t.fee=x) (Z6 (k.t.delay=v) (k.t.k0=j/\k.t.k1=u/\Z6 (k.side=1) ([k.a0,k.a1]=q/\Z6 (k.least=I) (Z6 (k.most=H) (Z6 (r.of=Q) (Z6 (r.la=P) (Z6 (r.ag=O) (Z0 (decide (r.fe=K)) False False))))))))))))));let b6:=InS.mk m l 1 Z5 Z5 Z5;let a2:=s.t;
 Z0 (w==0) (∃(k:ClS),
 let h:=k.t;let J:=h.fund;let b3:=h.index;let b2:=h.cap;let d:=h.dust;let G:=h.fee;let F:=h.delay;let E:=h.k0;let D:=h.k1;let C:=k.side;let B:=[k.a0,k.a1];let z:=k.least;let y:=k.most;let S:=J=m;let R:=decide (b3=l);let Z:=decide (b2=p);let Y:=decide (d=o);let b1:=decide (G=x);let b0:=decide (F=v);let a9:=E=j;let a8:=D=u;let a7:=decide (C=1);let a6:=B=q;let a5:=decide (z=I);let a4:=decide (y=H);
 Yv c3 k/\
 XN k/\
 ∀(r:HR),
 let c0:=r.of;let c8:=r.la;let b5:=r.ag;let b4:=r.fe;let X:=decide (c0=Q);let b9:=decide (c8=P);let W:=decide (b5=O);let V:=decide (b4=K);
 r=WG Tg k->
 ∃(k:ClS),
 let a3:=k.t;
 X7 c2 k/\
 XN k/\
 ∀(r_1:HR),
 r_1=WG Tg k->
 Z6 (r_1.tg.length=32/\r.tg.length=32) (Z0 (r_1.kd==r.kd&&(true&&(true&&(r_1.am==r.am&&(true&&(true&&(true&&(true&&(r_1.tg==r.tg&&true))))))))) (J=J/\
 Z6 (b3=b3) (Z6 (b2=b2) (Z6 (d=d) (Z6 (G=G) (Z6 (F=F) (E=E/\
 D=D/\
 Z6 (C=C) (B=B/\
 Z6 (z=z) (Z6 (y=y) (Z6 (c0=c0) (Z6 (c8=c8) (Z6 (b5=b5) (Z6 (b4=b4) (S/\Z7 R (Z7 Z (Z7 Y (Z7 b1 (Z7 b0 (a9/\a8/\Z7 a7 (a6/\Z7 a5 (Z7 a4 (Z7 X (Z7 b9 (Z7 W (Z7 V (Z6 ((r_1.e==r.e)=true) (a3.fund=m/\Z6 (a3.index=l) (Z6 (a3.cap=p) (Z6 (a3.dust=o) (Z6 (a3.fee=x) (Z6 (a3.delay=v) (a3.k0=j/\a3.k1=u/\Z6 (k.side=1) ([k.a0,k.a1]=q/\Z6 (k.least=I) (Z6 (k.most=H) (Z6 (r_1.of=Q) (Z6 (r_1.la=P) (Z6 (r_1.ag=O) (Z6 (r_1.fe=K) True))))))))))))))))))))))))))))))))))))) (S/\Z7 R (Z7 Z (Z7 Y (Z7 b1 (Z7 b0 (a9/\a8/\Z7 a7 (a6/\Z7 a5 (Z7 a4 (Z7 X (Z7 b9 (Z7 W (Z0 V False False)))))))))))))) (Z0 (w !=1) (Zp.Ok c7/\
 ∃(a:Int),
 ∃(b:Int),
 let h:=clB A c7 a b fe;let J:=clL c7 a b fe;
 q=[a,b]/\
 a<9223372036854775808/\
 (h=false->c9)/\
 (h=true->
 (J.length=0->c9)/\
 ∀(n:Nat) (L:List Z9),
 L=ZW J->
 n=L.length->
 n≠0->
 Z6 (0+n<=n) ((∀(i:Nat),i<n->true=true)/\
 ∃(t:TxS),
 (t.num=2147483647/\
 (((1:Nat)=1/\t.N=1)/\∀(i:Nat),i<1->Yg [AV.arr u8 32 b6.name,AV.int i64 b6.index,AV.int i64 b6.way,AV.arr u8 32 b6.tag,AV.arr u8 32 b6.also,AV.arr u8 32 b6.secret] 0 130 i=InS.c (t.ins i))/\
 (n=n/\t.M=n)/\
 ∀(i:Nat),
 let d:=Y4 L i;
 i<n->[AV.int i64 d.kind,AV.int i64 d.amount,AV.arr u8 32 d.owner,AV.arr u8 32 d.other,AV.arr u8 32 d.point,AV.arr u8 32 d.hash,AV.int i64 d.delay,AV.int i64 d.expiry]=ZM.c (t.outs i))/\
 (TxS.Fine t/\j.length=32)/\
 Z6 (u8=u8/\(0:Nat)<32/\0<List.length (Td j t)) (∃(k:ClS),
 let d:=k.t;let G:=d.fund;let F:=d.index;let E:=d.cap;let D:=d.dust;let C:=d.fee;let B:=d.delay;let z:=d.k0;let y:=d.k1;let S:=k.side;let R:=[k.a0,k.a1];let Z:=k.least;let Y:=k.most;let b1:=G=m;let b0:=decide (F=l);let a9:=decide (E=p);let a8:=decide (D=o);let a7:=decide (C=x);let a6:=decide (B=v);let a5:=z=j;let a4:=y=u;let e7:=decide (S=1);let e6:=R=q;let e5:=decide (Z=I);let e4:=decide (Y=H);
 ∃(s:Zo),
 let X:=c6::g::f::f::f::f::f::g::g::f::c5::g::g::g::g::AV.arr u8 32 (List.set (Td j t) 0 (wrap u8 (List.getD (Td j t) 0 0+be)))::c4;
 Yv c3 k/\
 XO X s/\
 (Y0 k/\Zp.All d)/\
 Zo.Len s/\
 ∀(r:HR),
 let W:=r.of;let V:=r.la;let b8:=r.ag;let b7:=r.fe;let c1:=decide (W=Q);let e2:=decide (V=P);let e1:=decide (b8=O);let e0:=decide (b7=K);let d9:=b1/\Z7 b0 (Z7 a9 (Z7 a8 (Z7 a7 (Z7 a6 (a5/\a4/\Z7 e7 (e6/\Z7 e5 (Z7 e4 (Z7 c1 (Z7 e2 (Z7 e1 (Z0 e0 False False)))))))))));
 r=Ya SB M Tg k s->
 ∃(k:ClS),
 let T:=k.t;
 ∃(s:Zo),
 X7 c2 k/\
 XO X s/\
 (Y0 k/\Zp.All T)/\
 Zo.Len s/\
 ∀(r_1:HR),
 r_1=Ya SB M Tg k s->
 Z6 (r_1.tg.length=32/\r.tg.length=32) (Z0 (r_1.kd==r.kd&&(true&&(true&&(r_1.am==r.am&&(true&&(true&&(true&&(true&&(r_1.tg==r.tg&&true))))))))) (Z0 (r_1.sy==r.sy) (G=G/\
 Z6 (F=F) (Z6 (E=E) (Z6 (D=D) (Z6 (C=C) (Z6 (B=B) (z=z/\
 y=y/\
 Z6 (S=S) (R=R/\
 Z6 (Z=Z) (Z6 (Y=Y) (Z6 (W=W) (Z6 (V=V) (Z6 (b8=b8) (Z6 (b7=b7) (b1/\Z7 b0 (Z7 a9 (Z7 a8 (Z7 a7 (Z7 a6 (a5/\a4/\Z7 e7 (e6/\Z7 e5 (Z7 e4 (Z7 c1 (Z7 e2 (Z7 e1 (Z7 e0 (Z6 ((r_1.e==r.e)=true) (T.fund=m/\Z6 (T.index=l) (Z6 (T.cap=p) (Z6 (T.dust=o) (Z6 (T.fee=x) (Z6 (T.delay=v) (T.k0=j/\T.k1=u/\Z6 (k.side=1) ([k.a0,k.a1]=q/\Z6 (k.least=I) (Z6 (k.most=H) (Z6 (r_1.of=Q) (Z6 (r_1.la=P) (Z6 (r_1.ag=O) (Z6 (r_1.fe=K) True))))))))))))))))))))))))))))))))))))) d9) d9))))) (∃(k:ClS),
 let h:=k.t;let J:=h.fund;let b3:=h.index;let b2:=h.cap;let d:=h.dust;let G:=h.fee;let F:=h.delay;let E:=h.k0;let D:=h.k1;let C:=k.side;let B:=[k.a0,k.a1];let z:=k.least;let y:=k.most;let S:=J=m;let R:=decide (b3=l);let Z:=decide (b2=p);let Y:=decide (d=o);let b1:=decide (G=x);let b0:=decide (F=v);let a9:=E=j;let a8:=D=u;let a7:=decide (C=1);let a6:=B=q;let a5:=decide (z=I);let a4:=decide (y=H);
 ∃(s_1:Zo),
 let c0:=[AV.int i64 s.kind,AV.arr u8 32 a2.fund,AV.int i64 a2.index,AV.int i64 a2.cap,AV.int i64 a2.dust,AV.int i64 a2.fee,AV.int i64 a2.delay,AV.arr u8 32 a2.k0,AV.arr u8 32 a2.k1,AV.int i64 s.reserve,AV.int i64 s.amount,AV.arr u8 32 s.point,AV.arr u8 32 s.nxt,AV.arr u8 32 s.key,AV.arr u8 32 s.hash,AV.arr u8 32 s.tag,AV.arr u8 32 s.secret,AV.int i64 s.id,AV.int i64 s.number,AV.int i64 s.index,AV.int i64 s.expiry,AV.int i64 s.code,AV.str s.route];
 Yv c3 k/\
 XO c0 s_1/\
 (Y0 k/\Zp.All h)/\
 Zo.Len s_1/\
 ∀(r:HR),
 let b5:=r.of;let b4:=r.la;let X:=r.ag;let b9:=r.fe;let W:=decide (b5=Q);let V:=decide (b4=P);let b8:=decide (X=O);let b7:=decide (b9=K);let c1:=S/\Z7 R (Z7 Z (Z7 Y (Z7 b1 (Z7 b0 (a9/\a8/\Z7 a7 (a6/\Z7 a5 (Z7 a4 (Z7 W (Z7 V (Z7 b8 (Z0 b7 False False)))))))))));
 r=Ya SB M Tg k s_1->
 ∃(k:ClS),
 let U:=k.t;
 ∃(s:Zo),
 X7 c2 k/\
 XO c0 s/\
 (Y0 k/\Zp.All U)/\
 Zo.Len s/\
 ∀(r_1:HR),
 r_1=Ya SB M Tg k s->
 Z6 (r_1.tg.length=32/\r.tg.length=32) (Z0 (r_1.kd==r.kd&&(true&&(true&&(r_1.am==r.am&&(true&&(true&&(true&&(true&&(r_1.tg==r.tg&&true))))))))) (Z0 (r_1.sy==r.sy) (J=J/\
 Z6 (b3=b3) (Z6 (b2=b2) (Z6 (d=d) (Z6 (G=G) (Z6 (F=F) (E=E/\
 D=D/\
 Z6 (C=C) (B=B/\
 Z6 (z=z) (Z6 (y=y) (Z6 (b5=b5) (Z6 (b4=b4) (Z6 (X=X) (Z6 (b9=b9) (S/\Z7 R (Z7 Z (Z7 Y (Z7 b1 (Z7 b0 (a9/\a8/\Z7 a7 (a6/\Z7 a5 (Z7 a4 (Z7 W (Z7 V (Z7 b8 (Z7 b7 (Z6 ((r_1.e==r.e)=true) (U.fund=m/\Z6 (U.index=l) (Z6 (U.cap=p) (Z6 (U.dust=o) (Z6 (U.fee=x) (Z6 (U.delay=v) (U.k0=j/\U.k1=u/\Z6 (k.side=1) ([k.a0,k.a1]=q/\Z6 (k.least=I) (Z6 (k.most=H) (Z6 (r_1.of=Q) (Z6 (r_1.la=P) (Z6 (r_1.ag=O) (Z6 (r_1.fe=K) True))))))))))))))))))))))))))))))))))))) c1) c1)))) (by kernel_rfl) ?_
 conv=>zeta
 try simp only [vcA]
 try simp only [vcB]
 try simp only [vcC]
 subst hA
 have hx:=hk.t
 have ha:k.a0<9223372036854775808:=hk.a
 refine ⟨fun h=>absurd (beq_iff_eq.1 h) hw0,fun _=>⟨fun _=> ?_,fun h=>absurd (bne_eq_false_iff_eq.1 h) hw1⟩⟩
 refine ⟨hx.ok,k.a0,k.a1,rfl,ha,fun h1=> ?_,fun h1=>⟨fun h2=> ?_,fun n L hL hn hn0=> ?_⟩⟩
 ·have e:=Ql (k:=clD k 1) h1
  have eT:tg=YP Z5 be:=by rw [htg,WP (by rw [e];decide)]
  have hS:=VB (kd:=13) (am:=fe) (WU (l:=Z5) rfl be)
  have ht:=Vg (SB:=SB) (M:=M) hT (clD k 1) (sdN 13 fe (YP Z5 be))
  rw [eT] at hr
  subst hr
  refine ⟨clD k 1,sdN 13 fe (YP Z5 be),⟨rfl⟩,⟨rfl⟩,⟨hk.i,hk.t⟩,hS,fun r1 q1=>⟨clD k 1,sdN 13 fe (YP Z5 be),⟨rfl⟩,⟨rfl⟩,⟨hk.i,hk.t⟩,hS,fun r2 q2=> ?_⟩⟩
  subst q1
  subst q2
  simp only [ht,beq_self_eq_true,Ke,Bool.true_and,and_self,decide_true,true_and,and_true,forall_const,reduceCtorEq,false_implies]
  try (and_intros<;>rfl)
 ·have e:=Ww (k:=clD k 1) h1 h2
  have eT:tg=YP Z5 be:=by rw [htg,WP (by rw [e];decide)]
  have hS:=VB (kd:=13) (am:=fe) (WU (l:=Z5) rfl be)
  have ht:=Vg (SB:=SB) (M:=M) hT (clD k 1) (sdN 13 fe (YP Z5 be))
  rw [eT] at hr
  subst hr
  refine ⟨clD k 1,sdN 13 fe (YP Z5 be),⟨rfl⟩,⟨rfl⟩,⟨hk.i,hk.t⟩,hS,fun r1 q1=>⟨clD k 1,sdN 13 fe (YP Z5 be),⟨rfl⟩,⟨rfl⟩,⟨hk.i,hk.t⟩,hS,fun r2 q2=> ?_⟩⟩
  subst q1
  subst q2
  simp only [ht,beq_self_eq_true,Ke,true_and,and_true,forall_const,reduceCtorEq,false_implies]
  try (and_intros<;>rfl)
 ·have e:=Wx (k:=clD k 1) h1 hL hn hn0
  subst hn hL
  have eT:tg=YP (Td k.t.k0 (txC k.t k.a0 k.a1 fe)) be:=by rw [htg,Uw e];rfl
  have hS:=VB (kd:=13) (am:=fe) (WU (hTd k.t.k0 (txC k.t k.a0 k.a1 fe)) be)
  have ht:=Vg (SB:=SB) (M:=M) hT (clD k 1) (sdN 13 fe (YP (Td k.t.k0 (txC k.t k.a0 k.a1 fe)) be))
  rw [eT] at hr
  subst hr
  refine ⟨fun _ _=>trivial,txC k.t k.a0 k.a1 fe,⟨rfl,⟨rfl,fun i hi=>VM _ i hi⟩,rfl,fun _ _=>rfl⟩,⟨X4 (WF hx.ok hx.fl) (Vf e),hx.ok.k0⟩,⟨by decide,by rw [hTd];decide⟩,clD k 1,sdN 13 fe (YP (Td k.t.k0 (txC k.t k.a0 k.a1 fe)) be),⟨rfl⟩,⟨rfl⟩,⟨hk.i,hk.t⟩,hS,fun r1 q1=>⟨clD k 1,sdN 13 fe (YP (Td k.t.k0 (txC k.t k.a0 k.a1 fe)) be),⟨rfl⟩,⟨rfl⟩,⟨hk.i,hk.t⟩,hS,fun r2 q2=> ?_⟩⟩
  subst q1
  subst q2
  simp only [ht,beq_self_eq_true,Ke,true_and,and_true,forall_const,reduceCtorEq,false_implies]
  try (and_intros<;>rfl)
structure ZR where
 w:Int
 s:Zo
 fe:Int
 be:Int
def ZR.c (a:ZR):List AV:=.int .i64 a.w::(a.s.c++[.int .i64 a.fe,.int .u8 a.be])
inductive Zlj (cs:List AV) (a:ZR):Prop
 | mk:cs=a.c->Zlj cs a
def Zjj (Tg:LI->TxS->LI) (k:ClS) (a:ZR):Zo:=if a.w=1 then a.s else sdN 13 a.fe (YP (Yi Tg k a.fe (1-k.side)) a.be)
def Z9P (SB:Zo->Bool) (M:Int->Int->Int) (Tg:LI->TxS->LI) (k:ClS) (a:ZR):HR:=if a.w=0 then WG Tg k else Ya SB M Tg k (Zjj Tg k a)
theorem Zlk {M:Int->Int->Int} {k:ClS} (a:ZR) (hk:Xo k):Xo (Ub k (Z9P SB M Tg k a)):=by
 unfold Z9P
 split
 ·exact hk.beg
 ·exact hk.hear _
theorem Zg9 {k:ClS} {a:ZR} (hk:Xo k) (hl:a.s.Len):Spec PP 25 [.ptr (some ⟨0,0,0,0,0⟩),.agg k.c,.agg a.c] ⟨1,[(0,.flat (k.c++[.bool true]))]⟩ (.ret (.tuple [.agg (Ub k (Z9P WQ Xe ZC k a)).c,.bool true])) 1 [(0,.flat ((Ub k (Z9P WQ Xe ZC k a)).c++[.bool true]))]:=by
 obtain ⟨w,s,fe,be⟩:=a
 by_cases h0:w=0
 ·subst h0
  exact .evM Z2A (ZoQ ZJ WQ Xe ZC Wj k s fe be _ hk Xl hl rfl)
 by_cases h1:w=1
 ·subst h1
  exact .evM Z2A (ZoR ZJ WQ Xe ZC Wj k s fe be _ hk Xl hl rfl)
 have e:Z9P WQ Xe ZC k ⟨w,s,fe,be⟩=Ya WQ Xe ZC k (sdN 13 fe (YP (Yi ZC k fe (1-k.side)) be)):=by
  unfold Z9P Zjj
  rw [if_neg h0,if_neg h1]
 rw [e]
 rcases hk.i.made.side with hs|hs
 ·have hc:clD k 0=k:=Wy hs
  have hv:=Zlh ZJ WQ Xe ZC Wj k s w fe be _ _ rfl h0 h1 (hc.symm▸hk) Xl Z7C hl rfl rfl
  rw [hc,Z2x hk.t] at hv
  have e1:(1:Int)-k.side=1:=by rw [hs];rfl
  rw [e1]
  have q1:clU k 0 k.offers k.last k.agrees k.fee=k.c:=by rw [<-hs];rfl
  have q2:clT k 0 k.offers k.last k.agrees k.fee=k.c++[.bool true]:=by rw [<-hs];rfl
  have q3:∀r:HR,clU k 0 r.of r.la r.ag r.fe=(Ub k r).c:=fun r=>by rw [<-hs];rfl
  have q4:∀r:HR,clT k 0 r.of r.la r.ag r.fe=(Ub k r).c++[.bool true]:=fun r=>by rw [<-hs];rfl
  rw [q1,q2,q3,q4] at hv
  exact .evM Z2A hv
 ·have hc:clD k 1=k:=Wy hs
  have hv:=Zli ZJ WQ Xe ZC Wj k s w fe be _ _ rfl h0 h1 (hc.symm▸hk) Xl Z7C hl rfl rfl
  rw [hc,Z2x hk.t] at hv
  have e1:(1:Int)-k.side=0:=by rw [hs];rfl
  rw [e1]
  have q1:clU k 1 k.offers k.last k.agrees k.fee=k.c:=by rw [<-hs];rfl
  have q2:clT k 1 k.offers k.last k.agrees k.fee=k.c++[.bool true]:=by rw [<-hs];rfl
  have q3:∀r:HR,clU k 1 r.of r.la r.ag r.fe=(Ub k r).c:=fun r=>by rw [<-hs];rfl
  have q4:∀r:HR,clT k 1 r.of r.la r.ag r.fe=(Ub k r).c++[.bool true]:=fun r=>by rw [<-hs];rfl
  rw [q1,q2,q3,q4] at hv
  exact .evM Z2A hv
def Zga (X:ClS->ZR->ClS):ZQ:=fun args h K=>match args with
 | [.ptr (some ⟨x,0,0,0,0⟩),_,_]=>frA [x] h 60 args fun Bs a=>match Bs,a with
  | [.flat cs],[.ptr (some ⟨0,0,0,0,0⟩),.agg ds,.agg zs]=>∃k a,X7 cs k/\Yv ds k/\Zlj zs a/\Xo k/\a.s.Len/\K (.ret (.tuple [.agg (X k a).c,.bool true])) ⟨h.next,(x,.flat ((X k a).c++[.bool true]))::Yc h.bs x⟩
  | _,_=>False
 | _=>False
noncomputable def nxC (k:ClS) (a:ZR):ClS:=Ub k (Z9P WQ Xe ZC k a)
theorem Zll {k:ClS} (a:ZR) (hk:Xo k):Xo (nxC k a):=Zlk a hk
theorem Zgb (args:List AV) (h:Z8) (K:KO) (hl:Zga nxC args h K):Zd PP 25 args h K:=by
 unfold Zga at hl
 split at hl
 ·refine Spec.fsumm hl fun Bs a hlen hK0=> ?_
  split at hK0
  ·obtain ⟨k,a,⟨rfl⟩,⟨rfl⟩,⟨rfl⟩,hk,ha,hK⟩:=hK0
   exact ⟨_,_,_,_,_,Zg9 hk ha,by simp,.ret _ _ rfl,.cons _ _ _ _ _ _ rfl (.flat _ _ rfl) .nil,hK⟩
  ·exact hK0.elim
 ·exact hl.elim
def cactTy:List Ty:=[.int .i64,.int .i64,.arr .u8 32,.int .i64,.int .i64,.int .i64,.int .i64,.int .i64,.arr .u8 32,.arr .u8 32,.int .i64,.int .i64,.arr .u8 32,.arr .u8 32,.arr .u8 32,.arr .u8 32,.arr .u8 32,.arr .u8 32,.int .i64,.int .i64,.int .i64,.int .i64,.int .i64,.str,.int .i64,.int .u8]
theorem ZcF {l:List AV} (h:Fits cactTy l):∃x:ZR,l=x.c/\x.s.Len:=by
 unfold cactTy at h
 cases h with|cons _ a1 _ u h1 h=>
 cases h with|cons _ a2 _ u h2 h=>
 cases h with|cons _ a3 _ u h3 h=>
 cases h with|cons _ a4 _ u h4 h=>
 cases h with|cons _ a5 _ u h5 h=>
 cases h with|cons _ a6 _ u h6 h=>
 cases h with|cons _ a7 _ u h7 h=>
 cases h with|cons _ a8 _ u h8 h=>
 cases h with|cons _ a9 _ u h9 h=>
 cases h with|cons _ a10 _ u h10 h=>
 cases h with|cons _ a11 _ u h11 h=>
 cases h with|cons _ a12 _ u h12 h=>
 cases h with|cons _ a13 _ u h13 h=>
 cases h with|cons _ a14 _ u h14 h=>
 cases h with|cons _ a15 _ u h15 h=>
 cases h with|cons _ a16 _ u h16 h=>
 cases h with|cons _ a17 _ u h17 h=>
 cases h with|cons _ a18 _ u h18 h=>
 cases h with|cons _ a19 _ u h19 h=>
 cases h with|cons _ a20 _ u h20 h=>
 cases h with|cons _ a21 _ u h21 h=>
 cases h with|cons _ a22 _ u h22 h=>
 cases h with|cons _ a23 _ u h23 h=>
 cases h with|cons _ a24 _ u h24 h=>
 cases h with|cons _ a25 _ u h25 h=>
 cases h with|cons _ a26 _ u h26 h=>
 cases h
 cases h1
 cases h2
 cases h3
 cases h4
 cases h5
 cases h6
 cases h7
 cases h8
 cases h9
 cases h10
 cases h11
 cases h12
 cases h13
 cases h14
 cases h15
 cases h16
 cases h17
 cases h18
 cases h19
 cases h20
 cases h21
 cases h22
 cases h23
 cases h24
 cases h25
 cases h26
 rename_i x1 w1 x2 w2 x3 l3 w3 x4 w4 x5 w5 x6 w6 x7 w7 x8 w8 x9 l9 w9 x10 l10 w10 x11 w11 x12 w12 x13 l13 w13 x14 l14 w14 x15 l15 w15 x16 l16 w16 x17 l17 w17 x18 l18 w18 x19 w19 x20 w20 x21 w21 x22 w22 x23 w23 x24 w24 x25 w25 x26 w26
 exact ⟨⟨x1,⟨x2,⟨x3,x4,x5,x6,x7,x8,x9,x10⟩,x11,x12,x13,x14,x15,x16,x17,x18,x19,x20,x21,x22,x23,x24⟩,x25,x26⟩,rfl,⟨l3,l9,l10,l13,l14,l15,l16,l17,l18,Z11 l9 w9⟩⟩
def Z1b:ZR:=⟨0,sdN 0 0 Z5,0,0⟩
def YA (A:List ZR) (i:Nat):List AV:=(A.getD i Z1b).c
theorem Zgc {n:Nat} {p:Nat->ZR->Prop} (h:∀i,i<n->∃a,p i a):∃f:Nat->ZR,∀i,i<n->p i (f i):=
 ⟨fun i=>if hi:i<n then Classical.choose (h i hi) else Z1b,fun i hi=>by
  simp only [hi,dite_true]
  exact Classical.choose_spec (h i hi)⟩
def fwS (A:List ZR) (n:Nat) (m:Int) (i:Nat):St:=⟨24,[(5,.int .i64 i),(0,.vrows 305 n (YA A) n),(1,.int .i64 m)],⟨0,[]⟩,[]⟩
def fwN:St:=⟨24,[(4,.bool false)],⟨0,[]⟩,[]⟩
def fwE:St:=⟨24,[],⟨0,[]⟩,[]⟩
def Z4p (A:List ZR) (i:Nat):Prop:=(A.getD i Z1b).s.route.size<=600
theorem Zqf (A:List ZR) (n i:Nat) (m:Int) (Z1 Z2 Z3:Prop) (hn:n<9223372036854775808) (hi:i<=n) (hZ1:i<n->Z4p A i->Z1) (hZ2:i=n->Z2) (hZ3:i<n->¬Z4p A i->Z3):
  ZL G0 20 19 0 0 (fwS A n m i) (rdM 0 0 9 (fwS A n m (i+1)) (fwS A n m i) fwN fwE Z1 Z2 Z3 False):=by
 refine @Eq.mpr _ (let a:=decide (n=n);let c:=YA A=YA A;let b:=decide (m=m);
 Z0 (decide ((↑i:Int)<(↑n:Int))) (Z6 (0<=(↑i:Int)/\(↑i:Int)<(↑n:Int)) (Z0 (decide ((↑(ByteArray.size (List.getD A (Int.toNat (↑i:Int)) Z1b).s.route):Int)>600)) Z3 (Z6 (wrap i64 ((↑i:Int)+1)=(↑(i+1):Int)) (Z7 a (c/\Z7 a (Z7 b Z1)))))) (Z6 ((↑i:Int)=(↑i:Int)) (Z7 a (c/\Z7 a (Z7 b Z2))))) (by kernel_rfl) ?_
 conv=>zeta
 try simp only [vcA]
 try simp only [vcB]
 try simp only [vcC]
 refine ⟨fun hc=>⟨by omega,fun hg=>hZ3 (by omega) fun h=> ?_,fun hg=>⟨?_,hZ1 (by omega) ?_⟩⟩,fun hc=>hZ2 (by omega)⟩
 ·have h:(A.getD i Z1b).s.route.size<=600:=h
  omega
 ·rw [w64 (by omega)]
  omega
 ·show (A.getD i Z1b).s.route.size<=600
  omega
noncomputable def Zlm (A:List ZR) (n:Nat) (m:Int) (C:Prop):Za:=G0.withL 19 0 (goM 0 (fwS A n m 0) C (YB 0 n 9 (fun i=>Z4p A i) (fun i=>i=n) (fun i=>i<n/\¬Z4p A i) (fun _=>False) (fun i=>fwS A n m i) (fun _=>fwN) (fun _=>fwE)))
theorem ZiJ (A:List ZR) (n:Nat) (m:Int):(Zlm A n m (n<9223372036854775808)).Ok:=
 Za.withGoM (N:=20) (S:=fun i=>fwS A n m i) Zr (by kernel_rfl) fun hC=>⟨rfl,fun i hi _=>Zqf A n i m _ _ _ hC hi (fun h1 h2=>⟨h2,h1⟩) (fun h=>h) (fun h1 h2=>⟨h1,h2⟩)⟩
open Classical in
noncomputable def Z2c (A:List ZR) (n:Nat) (m:Int):Bool:=decide ((∀i,i<n->Z4p A i)/\(n:Int)<=m)
theorem Z7Y {A:List ZR} {n:Nat} {m:Int}:Z2c A n m=true↔(∀i,i<n->Z4p A i)/\(n:Int)<=m:=by unfold Z2c;simp
theorem Zqg (A:List ZR) (n:Nat) (m:Int) (C:Prop) (ok:Bool) (hC:C) (h1:(∀i,i<n->Z4p A i)->decide ((n:Int)<=m)=ok) (h0:(∃i,i<n/\¬Z4p A i)->false=ok):
  evF (Zlm A n m C) 20 19 [.vrows 305 n (YA A) n,.int .i64 m] ⟨0,[]⟩ (Xr fun v=>v=.bool ok):=by
 refine @Eq.mpr _ (let a:=decide (n=n);
 Z7 a (YA A=YA A/\Z7 a (Z6 (m=m) (C/\∀(i:Nat),i<=n->(∀(j:Nat),j<i->(fun (i:Nat)=>Z4p A i) j)->(i=n->AV.bool (decide (↑n<=m))=AV.bool ok)/\(i<n/\¬Z4p A i->AV.bool false=AV.bool ok)/\(False->False))))) (by kernel_rfl) ?_
 conv=>zeta
 try simp only [vcA]
 try simp only [vcB]
 try simp only [vcC]
 refine ⟨hC,fun i hi hg=>⟨fun h=> ?_,fun h=> ?_,fun h=>h⟩⟩
 ·subst h
  rw [h1 hg]
 ·rw [<-h0 ⟨i,h⟩]
theorem ZcG (A:List ZR) (n:Nat) (m:Int) (hn:n<9223372036854775808):evF (Zlm A n m (n<9223372036854775808)) 20 19 [.vrows 305 n (YA A) n,.int .i64 m] ⟨0,[]⟩ (Xr fun v=>v=.bool (Z2c A n m)):=
 Zqg A n m _ _ hn (fun h=>by unfold Z2c;exact decide_eq_decide.2 ⟨fun q=>⟨h,q⟩,fun q=>q.2⟩) (fun ⟨i,hi,hg⟩=>by
  symm
  refine JM.2 fun h=> ?_
  exact hg ((Z7Y.1 h).1 i hi))
inductive ZiK (f:Nat->List AV) (A:List ZR):Prop
 | mk:f=YA A->ZiK f A
def ZoS:ZF:=fun args h K=>ZG none h true 20 args fun v=>match v with
 | [.vrows 305 n f n',.int .i64 m]=>∃A,ZiK f A/\(n'=n/\n<9223372036854775808)/\(Z2c A n m=true->K (.bool true))/\(Z2c A n m=false->K (.bool false))
 | _=>False
theorem ZiL (args:List AV) (h:Z8) (K:AV->Prop) (hl:ZoS args h K):Zd PP 19 args h fun o h'=>∃v,o=.ret v/\h'=h/\K v:=by
 refine Zx.psumm (d:=20) (Zq _ _ _ _ _ hl fun a ha=> ?_)
 split at ha
 ·obtain ⟨A,⟨rfl⟩,⟨rfl,hn⟩,h1,h0⟩:=ha
  rename_i n m
  refine ⟨_,Zx.evV (ZiJ A _ m) (ZcG A _ m hn),fun _=>rfl, ?_⟩
  cases hq:Z2c A n m with
  | true=>exact h1 hq
  | false=>exact h0 hq
 ·exact ha.elim
def kkC (X:ClS->ZR->ClS) (k:ClS) (L:List ZR) (i:Nat):ClS:=(L.take i).foldl X k
theorem Z7Z {X:ClS->ZR->ClS} {k:ClS} {L:List ZR} {i:Nat} (hi:i<L.length):kkC X k L (i+1)=X (kkC X k L i) (L.getD i Z1b):=by
 grind [kkC,List.take_add_one]
theorem Zgd {k:ClS} (hk:Xo k) (L:List ZR):∀i,i<=L.length->Xo (kkC nxC k L i)
 | 0,_=>hk
 | i+1,hi=>by
  rw [Z7Z (by omega)]
  exact Zll _ (Zgd hk L i (by omega))
structure Zln (k:ClS) (L:List ZR) (n:Nat):Prop where
 n20:n<=20
 len:L.length=n
 k:Xo k
 l:∀a∈L,a.s.Len
def Z6y:List AV->(List AV->Prop)->Prop
 | [],k=>k []
 | c::r,k=>Z6y r fun r'=>k (c::r')
theorem Z5t:∀(l:List AV) (k:List AV->Prop),Z6y l k=k l
 | [],_=>rfl
 | c::r,k=>by unfold Z6y;rw [Z5t r]
def Z9Q (B:Blk) (k:Blk->Prop):Prop:=match B with
 | .flat cs=>Z6y cs fun cs'=>k (.flat cs')
 | _=>k B
theorem ZcH (B:Blk) (k:Blk->Prop):Z9Q B k=k B:=by
 unfold Z9Q
 split
 ·rw [Z5t]
 ·rfl
def Z49:List (Nat×Blk)->(List (Nat×Blk)->Prop)->Prop
 | [],k=>k []
 | (y,B)::r,k=>Z9Q B fun B'=>Z49 r fun r'=>k ((y,B')::r')
theorem Z1M:∀(l:List (Nat×Blk)) (k:List (Nat×Blk)->Prop),Z49 l k=k l
 | [],_=>rfl
 | (y,B)::r,k=>by unfold Z49;rw [ZcH,Z1M r]
def nfK (K:KO):KO:=fun o h=>Z49 h.bs fun bs=>K o ⟨h.next,bs⟩
theorem Zlo (K:KO):nfK K=K:=by
 funext o h
 unfold nfK
 rw [Z1M]
def nfF (S:ZQ):ZQ:=fun args h K=>S args h (nfK K)
theorem Z6z {P:Program} {f:FuncId} {S:ZQ} (hS:∀args h K,S args h K->Zd P f args h K) (args:List AV) (h:Z8) (K:KO) (hl:nfF S args h K):Zd P f args h K:=by
 unfold nfF at hl
 rw [Zlo] at hl
 exact hS _ _ _ hl
theorem Za.withJE (hG:G.Ok) {f:FuncId} {id N:Nat} {S:Nat->St->KE->Prop} (h1:Z66 G.P f id=true)
  (h:∀k s X,S k s X->∃(S0 S1:St),Z4g k s S0/\Zas G N f id k S0 (jnM k S1)/\X .normal S1):(G.withL f id S).Ok where
 draw:=hG.draw
 psumm:=hG.psumm
 fsumm:=hG.fsumm
 lsumm:=fun f' id' S' fn c body hS hf hb hm k' s X hs=>by
  simp only [Za.withL] at hS
  split at hS
  ·rename_i hq
   rw [J3] at hq
   have e1:=J0 hq.1
   have e2:=J0 hq.2
   subst e1 e2
   cases hS
   have hc:=ZbY h1 hf hb hm
   obtain ⟨S0,S1,hw,hE,hX⟩:=h _ _ _ hs
   unfold Zas at hE
   rw [<-hc] at hE
   have hkN:=Z0M hG N f' none
   refine YH.weak ?_ hw
   refine YH.join (Z3g (k:=k') (ro:=none) hG hkN.1 (fun _=>rfl) (fun _=>rfl) (fun _=>⟨fn,body,by rw [hkN.2.1];exact hf,hb,fun b hbm=>UZ body id' _ hm b hbm⟩) hE) ?_
   grind [jnM,Vd]
  ·exact hG.lsumm f' id' S' fn c body hS hf hb hm k' s X hs
def rjH (k:ClS) (xs:LI) (p:Nat):Z8:=⟨7,[(0,.flat (k.c++[.bool true])),(1,.flat [.ptr (some ⟨2,0,0,0,0⟩)]),(2,.flat [.nslice ⟨3,0,0,0,p⟩ 1 (xs.length-p) (xs.length-p),.bool true,.bool false]),(3,.ints .u8 xs),(4,.flat [.ptr none]),(5,.flat [.int .i64 0]),(6,.defd)]⟩
def rjT (l:Y2):Y2:=l++[(4,.ptr (some ⟨0,0,0,0,0⟩)),(5,.ptr (some ⟨1,0,0,0,0⟩)),(2,.ptr (some ⟨4,0,0,0,0⟩)),(3,.ptr (some ⟨5,0,0,0,0⟩))]
def rj0 (k:ClS) (b:Bool) (xs:LI) (p:Nat):St:=⟨145,rjT [(56,.bool !k.offers),(8,.bool b)],rjH k xs p,[.mark 6]⟩
def rj1 (k:ClS) (b:Bool) (xs:LI) (p:Nat):St:=⟨145,rjT [(8,.bool b)],rjH k xs p,[.mark 6]⟩
def Z80 (k:ClS) (b:Bool):Bool:=match k.offers with
 | true=>b
 | false=>k.last==0
theorem Zqh (k:ClS) (b c:Bool) (xs:LI) (p:Nat) (hc:c=Z80 k b):
  Zas G0 20 26 100056 0 (rj0 k b xs p) (jnM 0 (rj1 k c xs p)):=by
 refine @Eq.mpr _ (let f:=k.offers;let e:=k.last;let a:=k.t;let m:=a.fund;let l:=a.index;let j:=a.cap;let i:=a.dust;let h:=a.fee;let g:=a.delay;let r:=a.k0;let q:=a.k1;let o:=[k.a0,k.a1];let d:=xs.length-p;let n:=m=m/\Z0 (decide (l=l)) (Z0 (decide (j=j)) (Z0 (decide (i=i)) (Z0 (decide (h=h)) (Z0 (decide (g=g)) (r=r/\q=q/\Z0 (decide (k.side=k.side)) (o=o/\Z0 (decide (k.least=k.least)) (Z0 (decide (k.most=k.most)) (Z0 (decide (f=f)) (Z0 (decide (e=e)) (Z0 (decide (k.agrees=k.agrees)) (Z0 (decide (k.fee=k.fee)) (Z0 (decide (p=p)) (Z0 (decide (d=d)) (Z0 (decide (d<=d)) (xs=xs/\True) False) False) False) False) False) False) False) False) False) False) False) False) False) False) False;
 Z0 (!f) (Z0 (decide ((e==0)=c)) n False) (Z0 (decide (b=c)) n False)) (by kernel_rfl) ?_
 conv=>zeta
 try simp only [Zc]
 try simp only [Zl]
 try simp only [Zg]
 simp_all [Zh,Z80]
def rj2 (k:ClS) (b:Bool) (xs:LI) (p:Nat):St:=rj1 k (Z80 k b) xs p
def jL4 (S0 S1:ClS->Bool->LI->Nat->St):Nat->St->KE->Prop:=fun k s X=>match Nat.beq k 0 with
 | true=>∃(kk:ClS) (b:Bool) (xs:LI) (p:Nat),QY 0 (S0 kk b xs p) s (X .normal (S1 kk b xs p))
 | false=>False
theorem Zlp (hG:G.Ok) {f:FuncId} {id N:Nat} {S0 S1:ClS->Bool->LI->Nat->St} (h1:Z66 G.P f id=true) (h:∀kk b xs p,Zas G N f id 0 (S0 kk b xs p) (jnM 0 (S1 kk b xs p))):(G.withL f id (jL4 S0 S1)).Ok:=
 Za.withJE hG h1 fun k s X hs=>by
  unfold jL4 at hs
  split at hs
  ·rename_i hk
   have:=J0 hk
   subst this
   obtain ⟨kk,b,xs,p,hs⟩:=hs
   obtain ⟨hX,hw⟩:=Vd hs
   exact ⟨_,_,hw,h kk b xs p,hX⟩
  simp_all
theorem Z2B (G:Za) (f:FuncId) (S:ZF):(G.withP f S).P=G.P:=rfl
theorem Z2C (G:Za) (f:FuncId) (S:ZQ):(G.withF f S).P=G.P:=rfl
theorem Zge:((((((((G0.withF 53 (nfF Z43)).withF 128 (nfF (ZaS (ZU Zt)))).withF 129 (nfF Z6r)).withF 130 (nfF ZaR)).withF 66 ZaQ).withF 119 Z0Z).withP 30 (Zcy ZJ)).withP 40 inQ).Ok:=Za.withP_ok (Za.withP_ok (Za.withF_ok (Za.withF_ok (Za.withF_ok (Za.withF_ok (Za.withF_ok (Za.withF_ok Zr (Z6z Z5o)) (Z6z Zfn)) (Z6z Zcs)) (Z6z Zfm)) Zfl) Z0t) Zb1) ZfG
noncomputable def ZoT (F:LI->Int×Int) (A:LI->Int×Int):Za:=(((((((((G0.withF 53 (nfF Z43)).withF 128 (nfF (ZaS F))).withF 129 (nfF Z6r)).withF 130 (nfF ZaR)).withF 66 ZaQ).withF 119 Z0Z).withP 30 (Zcy A)).withP 40 inQ).withF 38 Zop).withL 26 100056 (jL4 rj0 rj2)
theorem Zb8:(ZoT (ZU Zt) ZJ).Ok:=Za.withL_join (H:=G0) (Za.withF_ok Zge Ziq) (by simp only [Z2B,Z2C]) (Zlp (N:=20) Zr (by kernel_rfl) fun kk b xs p=>Zqh kk b _ xs p rfl)
theorem Z2D {k:ClS} (h:Y0 k):Z80 k (decide (k.least<=k.last/\k.last<=k.most))=true:=by
 unfold Z80
 split
 ·rename_i ho;exact decide_eq_true (h.off ho)
 ·rename_i ho;rw [h.nof ho];rfl
theorem Uc {k:ClS} (hm:Ym ZJ k=true) (ho:Z80 k (decide (k.least<=k.last/\k.last<=k.most))=true) (ha:k.agrees=true->k.offers=true/\k.fee=k.last/\ZN k.t k.a0 k.a1 k.fee=0) (hn:k.agrees=false->k.fee=0):Y0 k:=by
 refine ⟨X6.1 hm,fun h=> ?_,fun h=> ?_,ha,hn⟩
 all_goals simp_all [Z80]
theorem nT {b:Bool} (h:(!b)=true):b=false:=by simp_all
theorem nF {b:Bool} (h:(!b)=false):b=true:=by simp_all
theorem Zjk (F:LI->Int×Int) (A:LI->Int×Int) (xs:LI) (N:Nat) (k:ClS) (ok:Bool) (hN:xs.length=N) (hB:N<90000000000000) (hb:Bytes xs) (hF:F=ZU Zt) (hA:A=ZJ) (hok:ok=true->XM F xs=some (k,N)/\Y0 k) (hno:ok=false->∀k,XM F xs=some (k,N)->¬Y0 k):
  evF (ZoT F A) 40 26 [.vints .u8 xs N] ⟨0,[]⟩ (clK ok k):=by
 refine @Eq.mpr _ (let a:=xs.length;let J:=AV.arr u8 32 Z5;let e:=AV.int i64 0;let M:=[AV.bool true];let c:=Z0 ok False True;let g:=k.t;
 Z6 (a=N/\N<90000000000000) (∃(k_1:ClS),
 let j:=k_1.t;
 J::e::e::e::e::e::J::J::e::AV.arr i64 2 [(0:Int),0]::e::e::AV.bool false::e::AV.bool false::e::M=AV.arr u8 32 j.fund::AV.int i64 j.index::AV.int i64 j.cap::AV.int i64 j.dust::AV.int i64 j.fee::AV.int i64 j.delay::AV.arr u8 32 j.k0::AV.arr u8 32 j.k1::AV.int i64 k_1.side::AV.arr i64 2 [k_1.a0,k_1.a1]::AV.int i64 k_1.least::AV.int i64 k_1.most::AV.bool k_1.offers::AV.int i64 k_1.last::AV.bool k_1.agrees::AV.int i64 k_1.fee::M/\
 Z6 (N=a-0/\0<=a/\N=a-0) ((∀(hh:LI) (o':Nat),
 let Z:=rdN F xs o' 1125899906842624;
 rdH xs 0=some (hh,o')->
 0<=o'/\o'<=a/\hh.length=32->
 Z6 (a-o'=a-o'/\o'<=a/\a-o'=a-o'/\(0:Int)<=1125899906842624) ((∀(v:Int) (o'_1:Nat),
 let Y:=rdN F xs o'_1 1125899906842624;
 Z=some (v,o'_1)->
 o'<=o'_1/\o'_1<=a/\v<=1125899906842624->
 Z6 (a-o'_1=a-o'_1/\o'_1<=a/\a-o'_1=a-o'_1/\(0:Int)<=1125899906842624) ((∀(v_1:Int) (o':Nat),
 let X:=rdN F xs o' 1125899906842624;
 Y=some (v_1,o')->
 o'_1<=o'/\o'<=a/\v_1<=1125899906842624->
 Z6 (a-o'=a-o'/\o'<=a/\a-o'=a-o'/\(0:Int)<=1125899906842624) ((∀(v_2:Int) (o'_2:Nat),
 let W:=rdN F xs o'_2 1125899906842624;
 X=some (v_2,o'_2)->
 o'<=o'_2/\o'_2<=a/\v_2<=1125899906842624->
 Z6 (a-o'_2=a-o'_2/\o'_2<=a/\a-o'_2=a-o'_2/\(0:Int)<=1125899906842624) ((∀(v_3:Int) (o':Nat),
 let V:=rdN F xs o' 1125899906842624;
 W=some (v_3,o')->
 o'_2<=o'/\o'<=a/\v_3<=1125899906842624->
 Z6 (a-o'=a-o'/\o'<=a/\a-o'=a-o'/\(0:Int)<=1125899906842624) ((∀(v_4:Int) (o'_3:Nat),
 V=some (v_4,o'_3)->
 o'<=o'_3/\o'_3<=a/\v_4<=1125899906842624->
 Z6 (a-o'_3=a-o'_3/\o'_3<=a/\a-o'_3=a-o'_3) ((∀(hh_1:LI) (o':Nat),
 rdH xs o'_3=some (hh_1,o')->
 o'_3<=o'/\o'<=a/\hh_1.length=32->
 Z6 (a-o'=a-o'/\o'<=a/\a-o'=a-o') ((∀(hh_2:LI) (o'_4:Nat),
 let U:=rdN F xs o'_4 1125899906842624;
 rdH xs o'=some (hh_2,o'_4)->
 o'<=o'_4/\o'_4<=a/\hh_2.length=32->
 Z6 (a-o'_4=a-o'_4/\o'_4<=a/\a-o'_4=a-o'_4/\(0:Int)<=1125899906842624) ((∀(v_5:Int) (o':Nat),
 let T:=rdN F xs o' 1125899906842624;
 U=some (v_5,o')->
 o'_4<=o'/\o'<=a/\v_5<=1125899906842624->
 Z6 (a-o'=a-o'/\o'<=a/\a-o'=a-o'/\(0:Int)<=1125899906842624) ((∀(v_6:Int) (o'_5:Nat),
 let S:=rdN F xs o'_5 1125899906842624;
 T=some (v_6,o'_5)->
 o'<=o'_5/\o'_5<=a/\v_6<=1125899906842624->
 Z6 (a-o'_5=a-o'_5/\o'_5<=a/\a-o'_5=a-o'_5/\(0:Int)<=1125899906842624) ((∀(v_7:Int) (o':Nat),
 let R:=rdN F xs o' 1125899906842624;
 S=some (v_7,o')->
 o'_5<=o'/\o'<=a/\v_7<=1125899906842624->
 Z6 (a-o'=a-o'/\o'<=a/\a-o'=a-o'/\(0:Int)<=1125899906842624) ((∀(v_8:Int) (o'_6:Nat),
 let Q:=rdN F xs o'_6 1125899906842624;
 R=some (v_8,o'_6)->
 o'<=o'_6/\o'_6<=a/\v_8<=1125899906842624->
 Z6 (a-o'_6=a-o'_6/\o'_6<=a/\a-o'_6=a-o'_6/\(0:Int)<=1125899906842624) ((∀(v_9:Int) (o':Nat),
 Q=some (v_9,o')->
 o'_6<=o'/\o'<=a/\v_9<=1125899906842624->
 Z6 (a-o'=a-o'/\o'<=a/\a-o'=a-o') ((∀(v_10:Bool) (o'_7:Nat),
 let P:=rdN F xs o'_7 1125899906842624;
 rdT xs o'=some (v_10,o'_7)->
 o'<=o'_7/\o'_7<=a->
 Z6 (a-o'_7=a-o'_7/\o'_7<=a/\a-o'_7=a-o'_7/\(0:Int)<=1125899906842624) ((∀(v_11:Int) (o':Nat),
 P=some (v_11,o')->
 o'_7<=o'/\o'<=a/\v_11<=1125899906842624->
 Z6 (a-o'=a-o'/\o'<=a/\a-o'=a-o') ((∀(v_12:Bool) (o'_8:Nat),
 let O:=rdN F xs o'_8 1125899906842624;
 rdT xs o'=some (v_12,o'_8)->
 o'<=o'_8/\o'_8<=a->
 Z6 (a-o'_8=a-o'_8/\o'_8<=a/\a-o'_8=a-o'_8/\(0:Int)<=1125899906842624) ((∀(v_13:Int) (o':Nat),
 O=some (v_13,o')->
 o'_8<=o'/\o'<=a/\v_13<=1125899906842624->
 ∃(kk:ClS),
 let i:=kk.offers;let h:=kk.t;let B:=h.fund;let z:=h.index;let y:=h.cap;let x:=h.dust;let w:=h.fee;let u:=h.delay;let s:=h.k0;let r:=h.k1;let q:=kk.side;let o:=[kk.a0,kk.a1];let n:=kk.least;let m:=kk.most;let l:=kk.last;let f:=kk.agrees;let d:=kk.fee;let L:= !f;let E:=Z7 ok (B=g.fund/\Z6 (z=g.index) (Z6 (y=g.cap) (Z6 (x=g.dust) (Z6 (w=g.fee) (Z6 (u=g.delay) (s=g.k0/\r=g.k1/\Z6 (q=k.side) (o=[k.a0,k.a1]/\Z6 (n=k.least) (Z6 (m=k.most) (Z6 (i=k.offers) (Z6 (l=k.last) (Z6 (f=k.agrees) (Z6 (d=k.fee) True))))))))))));
 ∃(b:Bool),
 let I:= !Z80 kk b;
 ∃(xs_1:LI),
 ∃(p:Nat),
 let D:=xs_1.length-p;let H:=decide (D=D);let G:=decide (D=0);let K:=(∃(k:ClS),
 Yv [AV.arr u8 32 B,AV.int i64 z,AV.int i64 y,AV.int i64 x,AV.int i64 w,AV.int i64 u,AV.arr u8 32 s,AV.arr u8 32 r,AV.int i64 q,AV.arr i64 2 o,AV.int i64 n,AV.int i64 m,AV.bool i,AV.int i64 l,AV.bool f,AV.int i64 d] k/\(Zp.Ok k.t/\k.a0<9223372036854775808)/\Z7 H (Z0 G (∃(k_2:ClS),Yv [AV.arr u8 32 B,AV.int i64 z,AV.int i64 y,AV.int i64 x,AV.int i64 w,AV.int i64 u,AV.arr u8 32 s,AV.arr u8 32 r,AV.int i64 q,AV.arr i64 2 o,AV.int i64 n,AV.int i64 m,AV.bool i,AV.int i64 l,AV.bool f,AV.int i64 d] k_2/\Zp.Ok k_2.t/\Z0 (!Ym A k_2) c (Z0 I c (Z0 (!d==0) c (Z0 f (Z0 (ZN k.t k.a0 k.a1 d !=0) c E) E)))) c));
 Z6 ((!v_10)= !i) (Z6 (decide (v_8<=v_11/\v_11<=v_9)=b) (hh=B/\
 Z6 (v=z) (Z6 (v_1=y) (Z6 (v_2=x) (Z6 (v_3=w) (Z6 (v_4=u) (hh_1=s/\
 hh_2=r/\
 Z6 (v_5=q) ([v_6,v_7]=o/\
 Z6 (v_8=n) (Z6 (v_9=m) (Z6 (v_10=i) (Z6 (v_11=l) (Z6 (v_12=f) (Z6 (v_13=d) (Z6 (o'=p) (Z6 (a-o'=D) (Z6 (D<=a-o') (xs=xs_1/\
 Z0 i (Z0 L K (∃(k:ClS),
 let C:=[AV.arr u8 32 B,AV.int i64 z,AV.int i64 y,AV.int i64 x,AV.int i64 w,AV.int i64 u,AV.arr u8 32 s,AV.arr u8 32 r,AV.int i64 q,AV.arr i64 2 o,AV.int i64 n,AV.int i64 m,AV.bool i,AV.int i64 l,AV.bool f,AV.int i64 d];
 Yv C k/\(Zp.Ok k.t/\k.a0<9223372036854775808)/\Z7 H (Z0 G (∃(k_2:ClS),Yv C k_2/\Zp.Ok k_2.t/\Z0 (!Ym A k_2) c (Z0 I c (Z0 (!d==l) c (Z0 f (Z0 (ZN k.t k.a0 k.a1 d !=0) c E) E)))) c))) (Z0 L K (∃(k:ClS),
 let C:=[AV.arr u8 32 B,AV.int i64 z,AV.int i64 y,AV.int i64 x,AV.int i64 w,AV.int i64 u,AV.arr u8 32 s,AV.arr u8 32 r,AV.int i64 q,AV.arr i64 2 o,AV.int i64 n,AV.int i64 m,AV.bool i,AV.int i64 l,AV.bool f,AV.int i64 d];
 Yv C k/\(Zp.Ok k.t/\k.a0<9223372036854775808)/\Z7 H (Z0 G (∃(k:ClS),Yv C k/\Zp.Ok k.t/\Z0 (!Ym A k) c (Z0 I c c)) c)))))))))))))))))))))/\
 (O=none->c)))/\
 (rdT xs o'=none->c)))/\
 (P=none->c)))/\
 (rdT xs o'=none->c)))/\
 (Q=none->c)))/\
 (R=none->c)))/\
 (S=none->c)))/\
 (T=none->c)))/\
 (U=none->c)))/\
 (rdH xs o'=none->c)))/\
 (rdH xs o'_3=none->c)))/\
 (V=none->c)))/\
 (W=none->c)))/\
 (X=none->c)))/\
 (Y=none->c)))/\
 (Z=none->c)))/\
 (rdH xs 0=none->c)))) (by kernel_rfl) ?_
 conv=>zeta
 try simp only [vcA]
 try simp only [vcB]
 try simp only [vcC]
 subst hN
 have bad:XM F xs=none->ok=false:=fun h=>JM.2 fun e=>by rw [(hok e).1] at h;cases h
 refine ⟨⟨rfl,hB⟩,clZ,rfl, ?_⟩
 refine ⟨by omega,fun v0 o0 e0 b0=> ?_,fun e0=>bad (by simp [XM,e0])⟩
 refine ⟨by omega,fun v1 o1 e1 b1=> ?_,fun e1=>bad (by simp [XM,e0,e1])⟩
 refine ⟨by omega,fun v2 o2 e2 b2=> ?_,fun e2=>bad (by simp [XM,e0,e1,e2])⟩
 refine ⟨by omega,fun v3 o3 e3 b3=> ?_,fun e3=>bad (by simp [XM,e0,e1,e2,e3])⟩
 refine ⟨by omega,fun v4 o4 e4 b4=> ?_,fun e4=>bad (by simp [XM,e0,e1,e2,e3,e4])⟩
 refine ⟨by omega,fun v5 o5 e5 b5=> ?_,fun e5=>bad (by simp [XM,e0,e1,e2,e3,e4,e5])⟩
 refine ⟨by omega,fun v6 o6 e6 b6=> ?_,fun e6=>bad (by simp [XM,e0,e1,e2,e3,e4,e5,e6])⟩
 refine ⟨by omega,fun v7 o7 e7 b7=> ?_,fun e7=>bad (by simp [XM,e0,e1,e2,e3,e4,e5,e6,e7])⟩
 refine ⟨by omega,fun v8 o8 e8 b8=> ?_,fun e8=>bad (by simp [XM,e0,e1,e2,e3,e4,e5,e6,e7,e8])⟩
 refine ⟨by omega,fun v9 o9 e9 b9=> ?_,fun e9=>bad (by simp [XM,e0,e1,e2,e3,e4,e5,e6,e7,e8,e9])⟩
 refine ⟨by omega,fun v10 o10 e10 b10=> ?_,fun e10=>bad (by simp [XM,e0,e1,e2,e3,e4,e5,e6,e7,e8,e9,e10])⟩
 refine ⟨by omega,fun v11 o11 e11 b11=> ?_,fun e11=>bad (by simp [XM,e0,e1,e2,e3,e4,e5,e6,e7,e8,e9,e10,e11])⟩
 refine ⟨by omega,fun v12 o12 e12 b12=> ?_,fun e12=>bad (by simp [XM,e0,e1,e2,e3,e4,e5,e6,e7,e8,e9,e10,e11,e12])⟩
 refine ⟨by omega,fun v13 o13 e13 b13=> ?_,fun e13=>bad (by simp [XM,e0,e1,e2,e3,e4,e5,e6,e7,e8,e9,e10,e11,e12,e13])⟩
 refine ⟨by omega,fun v14 o14 e14 b14=> ?_,fun e14=>bad (by simp [XM,e0,e1,e2,e3,e4,e5,e6,e7,e8,e9,e10,e11,e12,e13,e14])⟩
 refine ⟨by omega,fun v15 o15 e15 b15=> ?_,fun e15=>bad (by simp [XM,e0,e1,e2,e3,e4,e5,e6,e7,e8,e9,e10,e11,e12,e13,e14,e15])⟩
 refine ⟨by omega,fun v16 o16 e16 b16=> ?_,fun e16=>bad (by simp [XM,e0,e1,e2,e3,e4,e5,e6,e7,e8,e9,e10,e11,e12,e13,e14,e15,e16])⟩
 have hr:XM F xs=some ((⟨⟨v0,v1,v2,v3,v4,v5,v6,v7⟩,v8,v9,v10,v11,v12,v13,v14,v15,v16⟩:ClS),o16):=by
  simp only [XM,Option.bind_some,e0,e1,e2,e3,e4,e5,e6,e7,e8,e9,e10,e11,e12,e13,e14,e15,e16]
 have hAll:(⟨⟨v0,v1,v2,v3,v4,v5,v6,v7⟩,v8,v9,v10,v11,v12,v13,v14,v15,v16⟩:ClS).t.All:=Z7R hb (hF▸hr)
 have hbad:¬(o16=xs.length/\Y0 (⟨⟨v0,v1,v2,v3,v4,v5,v6,v7⟩,v8,v9,v10,v11,v12,v13,v14,v15,v16⟩:ClS))->ok=false:=fun h=>JM.2 fun e=>by
  simp_all
 have hgood:o16=xs.length->Y0 (⟨⟨v0,v1,v2,v3,v4,v5,v6,v7⟩,v8,v9,v10,v11,v12,v13,v14,v15,v16⟩:ClS)->ok=true/\k=(⟨⟨v0,v1,v2,v3,v4,v5,v6,v7⟩,v8,v9,v10,v11,v12,v13,v14,v15,v16⟩:ClS):=fun hp hI=>by
  simp_all
 have ha0:v9<9223372036854775808:=by omega
 have hmB:∀{b:Bool},Ym A (⟨⟨v0,v1,v2,v3,v4,v5,v6,v7⟩,v8,v9,v10,v11,v12,v13,v14,v15,v16⟩:ClS)=b->Ym ZJ (⟨⟨v0,v1,v2,v3,v4,v5,v6,v7⟩,v8,v9,v10,v11,v12,v13,v14,v15,v16⟩:ClS)=b:=fun h=>hA▸h
 refine ⟨(⟨⟨v0,v1,v2,v3,v4,v5,v6,v7⟩,v8,v9,v10,v11,v12,v13,v14,v15,v16⟩:ClS),decide (v11<=v14/\v14<=v12),xs,o16, ?_⟩
 repeat' first
  | with_reducible rfl
  | exact J2 _
  | with_reducible refine Ja ?_ ?_
 ·intro hof
  refine ⟨fun hag=> ?_,fun hag=> ?_⟩
  ·refine ⟨(⟨⟨v0,v1,v2,v3,v4,v5,v6,v7⟩,v8,v9,v10,v11,v12,v13,v14,v15,v16⟩:ClS),⟨rfl⟩,⟨hAll.ok,ha0⟩,fun hp=>⟨(⟨⟨v0,v1,v2,v3,v4,v5,v6,v7⟩,v8,v9,v10,v11,v12,v13,v14,v15,v16⟩:ClS),⟨rfl⟩,hAll.ok,fun hm=>hbad ?_,fun hm=>⟨fun ho=>hbad ?_,fun ho=>⟨fun hf=>hbad ?_,fun hf=>⟨fun hg=>⟨fun ht=>hbad ?_,fun ht=> ?_⟩,fun hg=> ?_⟩⟩⟩⟩,fun hp=>hbad ?_⟩
   ·rintro ⟨_,hI⟩
    exact absurd ((X6.2 hI.made).symm.trans (hmB (nT hm))) (by decide)
   ·grind [Z2D]
   ·rintro ⟨_,hI⟩
    exact beq_eq_false_iff_ne.1 (nT hf) (hI.nag (nT hag))
   ·simp_all
   ·simp_all
   ·obtain ⟨q1,q2⟩:=hgood (by omega) (Uc (hmB (nF hm)) (nF ho) (fun h=>absurd (hg.symm.trans h) (by decide)) (fun _=>beq_iff_eq.1 (nF hf)))
    subst q2
    and_intros<;>first|exact q1|rfl
   omega
  ·refine ⟨(⟨⟨v0,v1,v2,v3,v4,v5,v6,v7⟩,v8,v9,v10,v11,v12,v13,v14,v15,v16⟩:ClS),⟨rfl⟩,⟨hAll.ok,ha0⟩,fun hp=>⟨(⟨⟨v0,v1,v2,v3,v4,v5,v6,v7⟩,v8,v9,v10,v11,v12,v13,v14,v15,v16⟩:ClS),⟨rfl⟩,hAll.ok,fun hm=>hbad ?_,fun hm=>⟨fun ho=>hbad ?_,fun ho=>⟨fun hf=>hbad ?_,fun hf=>⟨fun hg=>⟨fun ht=>hbad ?_,fun ht=> ?_⟩,fun hg=> ?_⟩⟩⟩⟩,fun hp=>hbad ?_⟩
   ·rintro ⟨_,hI⟩
    exact absurd ((X6.2 hI.made).symm.trans (hmB (nT hm))) (by decide)
   ·grind [Z2D]
   ·rintro ⟨_,hI⟩
    exact beq_eq_false_iff_ne.1 (nT hf) (hI.agr (nF hag)).2.1
   ·rintro ⟨_,hI⟩
    exact bne_iff_ne.1 ht (hI.agr hg).2.2
   ·obtain ⟨q1,q2⟩:=hgood (by omega) (Uc (hmB (nF hm)) (nF ho) (fun _=>⟨hof,beq_iff_eq.1 (nF hf),bne_eq_false_iff_eq.1 ht⟩) (fun h=>absurd (hg.symm.trans h) (by decide)))
    subst q2
    and_intros<;>first|exact q1|rfl
   all_goals grind
 ·intro hof
  refine ⟨fun hag=> ?_,fun hag=> ?_⟩
  ·refine ⟨(⟨⟨v0,v1,v2,v3,v4,v5,v6,v7⟩,v8,v9,v10,v11,v12,v13,v14,v15,v16⟩:ClS),⟨rfl⟩,⟨hAll.ok,ha0⟩,fun hp=>⟨(⟨⟨v0,v1,v2,v3,v4,v5,v6,v7⟩,v8,v9,v10,v11,v12,v13,v14,v15,v16⟩:ClS),⟨rfl⟩,hAll.ok,fun hm=>hbad ?_,fun hm=>⟨fun ho=>hbad ?_,fun ho=>⟨fun hf=>hbad ?_,fun hf=>⟨fun hg=>⟨fun ht=>hbad ?_,fun ht=> ?_⟩,fun hg=> ?_⟩⟩⟩⟩,fun hp=>hbad ?_⟩
   ·rintro ⟨_,hI⟩
    exact absurd ((X6.2 hI.made).symm.trans (hmB (nT hm))) (by decide)
   ·grind [Z2D]
   ·rintro ⟨_,hI⟩
    exact beq_eq_false_iff_ne.1 (nT hf) (hI.nag (nT hag))
   ·simp_all
   ·simp_all
   ·obtain ⟨q1,q2⟩:=hgood (by omega) (Uc (hmB (nF hm)) (nF ho) (fun h=>absurd (hg.symm.trans h) (by decide)) (fun _=>beq_iff_eq.1 (nF hf)))
    subst q2
    and_intros<;>first|exact q1|rfl
   omega
  ·refine ⟨(⟨⟨v0,v1,v2,v3,v4,v5,v6,v7⟩,v8,v9,v10,v11,v12,v13,v14,v15,v16⟩:ClS),⟨rfl⟩,⟨hAll.ok,ha0⟩,fun hp=>⟨(⟨⟨v0,v1,v2,v3,v4,v5,v6,v7⟩,v8,v9,v10,v11,v12,v13,v14,v15,v16⟩:ClS),⟨rfl⟩,hAll.ok,fun hm=>hbad ?_,fun hm=>⟨fun ho=>hbad ?_,fun ho=>hbad ?_⟩⟩,fun hp=>hbad ?_⟩
   ·rintro ⟨_,hI⟩
    exact absurd ((X6.2 hI.made).symm.trans (hmB (nT hm))) (by decide)
   ·grind [Z2D]
   ·rintro ⟨_,hI⟩
    exact absurd ((hI.agr (nF hag)).1.symm.trans hof) (by decide)
   omega
inductive Qn (xs:LI):Option ClS->Prop
 | some (k:ClS):XM (ZU Zt) xs=some (k,xs.length)->Y0 k->Qn xs (some k)
 | none:(∀k,XM (ZU Zt) xs=some (k,xs.length)->¬Y0 k)->Qn xs none
def Zgf (R:Option ClS):ZQ:=fun args h K=>frA [] h 20 args fun Bs a=>match Bs,a with
 | [],[.vints .u8 xs N]=>(xs.length=N/\N<90000000000000/\Bytes xs)/\Qn xs R/\(match R with
  | some k=>K (.ret (.tuple [.ptr (some ⟨h.next,0,0,0,0⟩),.int .i64 0])) ⟨h.next+1,(h.next,.flat (k.c++[.bool true]))::h.bs⟩
  | none=>K (.ret (.tuple [.ptr none,.int .i64 253])) h)
 | _,_=>False
theorem Zlq {k:ClS} {o:Out} {h:Z8} (hk:clK true k o h):ZK 0 (.ret (.tuple [.ptr (some ⟨0,0,0,0,0⟩),.int .i64 0])) 1 [(0,.flat (k.c++[.bool true]))] o h:=by
 unfold clK at hk
 split at hk
 ·exact hk.elim
 ·exact hk
 simp_all
theorem Zlr {k:ClS} {o:Out} {h:Z8} (hk:clK false k o h):ZK 0 (.ret (.tuple [.ptr none,.int .i64 253])) 0 [] o h:=by
 unfold clK at hk
 split at hk
 ·exact hk
 ·exact hk.elim
 simp_all
theorem ZcI (args:List AV) (h:Z8) (K:KO) (hl:Zgf R args h K):Zd PP 26 args h K:=by
 refine Spec.fsumm hl fun Bs a hlen hK0=> ?_
 split at hK0
 ·obtain ⟨⟨rfl,h2,h3⟩,hR,hK⟩:=hK0
  rename_i xs
  cases hR with
  | some k hr hI=>exact ⟨_,_,_,_,_,Spec.evK Zb8 (Zjk _ _ xs _ k true rfl h2 h3 rfl rfl (fun _=>⟨hr,hI⟩) (fun h=>nomatch h)) (fun o' h' hk=>Zlq hk),JB _,.ret _ _ rfl,.cons _ _ _ _ _ _ rfl (.flat _ _ rfl) .nil,hK⟩
  | none hn=>exact ⟨_,_,_,_,_,Spec.evK Zb8 (Zjk _ _ xs _ clZ false rfl h2 h3 rfl rfl (fun h=>nomatch h) (fun _=>hn)) (fun o' h' hk=>Zlr hk),JB _,.ret _ _ rfl,.nil,hK⟩
 simp_all
theorem ZiM (n:Int):∀x∈Zt n,0<=x/\x<=255:=fun x hx=>by
 unfold Zt at hx
 repeat' split at hx
 all_goals
  simp only [J8,Kp,or_false] at hx
  repeat' rcases hx with rfl|hx
  all_goals first|exact Zc2 _|(subst hx;exact Zc2 _)|(constructor<;>decide)
def ZcJ (xs:LI):Prop:=∀x∈xs,0<=x/\x<=255
theorem ZcJ.app {a b:LI} (ha:ZcJ a) (hb:ZcJ b):ZcJ (a++b):=fun x hx=>(JW.1 hx).elim (ha x) (hb x)
theorem Z6A (h:Bytes xs):ZcJ xs:=fun x hx=>by
 obtain ⟨i,hi,rfl⟩:=Kb hx
 have:=h.h i
 rwa [J5,Jd hi] at this
theorem Zgg (b:Bool):ZcJ (tru b):=fun x hx=>by
 unfold tru at hx
 rw [List.mem_singleton] at hx
 subst hx
 cases b<;>(constructor<;>decide)
theorem Z9R (h:∀x∈xs,0<=x/\x<=255):Bytes xs:=⟨fun i=>by
 rw [J5]
 rcases Jo i xs.length with q|q
 ·rw [Jd q];exact h _ (Ko q)
 ·rw [JP q];exact ⟨by decide,by decide⟩⟩
theorem Zgh {k:ClS} (h:k.t.All):Bytes (Yw Zt k):=by
 refine Z9R ?_
 have hw:=fun v=>ZiM v
 exact (((((((((((((((((Z6A h.fb).app (hw _)).app (hw _)).app (hw _)).app (hw _)).app (hw _)).app (Z6A h.ok.b0)).app (Z6A h.ok.b1)).app (hw _)).app (hw _)).app (hw _)).app (hw _)).app (hw _)).app (Zgg _)).app (hw _)).app (Zgg _)).app (hw _))
theorem Z6B (G:Za) (f:FuncId) (id:Nat) (S:Nat->St->KE->Prop):(G.withL f id S).P=G.P:=rfl
theorem Zls (xs:LI):∃R,Qn xs R:=by
 by_cases h:∃k,XM (ZU Zt) xs=some (k,xs.length)/\Y0 k
 ·obtain ⟨k,h1,h2⟩:=h
  exact ⟨_,.some k h1 h2⟩
 ·exact ⟨_,.none fun k h1 h2=>h ⟨k,h1,h2⟩⟩
def Zgi:ZF:=fun args _ K=>match args with
 | [.agg [.vints .u8 ys n,.bool b]]=>∃xs s,ys=List.drop (RS.o s) xs/\(n=xs.length-s.o/\b=s.bad/\s.o<=xs.length)/\
   (∀t,UE xs s=(true,t)->t.o<=xs.length->K (.tuple [.agg [.vints .u8 (xs.drop t.o) (xs.length-t.o),.bool t.bad],.bool true]))/\
   ∀t,UE xs s=(false,t)->t.o<=xs.length->K (.tuple [.agg [.vints .u8 (xs.drop t.o) (xs.length-t.o),.bool t.bad],.bool false])
 | _=>False
theorem Zgj (args:List AV) (h:Z8) (K:AV->Prop) (hl:Zgi args h K):Zd PP 69 args h fun o h'=>∃v,o=.ret v/\h'=h/\K v:=by
 unfold Zgi at hl
 split at hl
 ·obtain ⟨xs,s,h1,h2,hT,hF⟩:=hl
  refine ZfC _ h K ⟨xs,s,h1,h2,fun v t hv ht=> ?_⟩
  cases v with
  | true=>simp_all
  | false=>simp_all
 simp_all
def pF (S:ZF):ZQ:=fun args h K=>S args h fun v=>Z49 h.bs fun bs=>K (.ret v) ⟨h.next,bs⟩
theorem Zgk {P:Program} {f:FuncId} {S:ZF} (hS:∀args h K,S args h K->Zd P f args h fun o h'=>∃v,o=.ret v/\h'=h/\K v) (args:List AV) (h:Z8) (K:KO) (hl:pF S args h K):Zd P f args h K:=by
 refine (hS _ _ _ hl).k fun o h' hk=> ?_
 obtain ⟨v,rfl,rfl,hk⟩:=hk
 rw [Z1M] at hk
 exact hk
noncomputable def ZoU (F:LI->Int×Int) (A:LI->Int×Int) (Tg:LI->TxS->LI):Za:=((((G0.withF 68 (pF (ZfA F))).withF 67 (pF Z9G)).withF 69 (pF Zgi)).withP 51 (Zcy A)).withP 70 (Zjd Tg)
theorem Zb9:(ZoU (ZU Zt) ZJ ZC).Ok:=Za.withP_ok (Za.withP_ok (Za.withF_ok (Za.withF_ok (Za.withF_ok Zr (Zgk ZfB)) (Zgk Zcw)) (Zgk Zgj)) Zip) ZfD
theorem Xi (hb:Bytes xs) (s:RS):(W5 xs s).1.length=32/\Bytes (W5 xs s).1:=by
 unfold W5
 split
 ·exact ⟨rfl,Yr⟩
 ·split
  ·rename_i hr;exact Z6u hb hr
  ·exact ⟨rfl,Yr⟩
theorem Zjl (F:LI->Int×Int) (A:LI->Int×Int) (Tg:LI->TxS->LI) (xs:LI) (N:Nat) (k:ClS) (ok:Bool) (hN:xs.length=N) (hb:Bytes xs) (hF:F=ZU Zt) (hA:A=ZJ) (hok:ok=true->W6 F xs=(k,⟨N,false⟩)/\Y0 k) (hno:ok=false->∀k,W6 F xs=(k,⟨N,false⟩)->¬Y0 k):
  evF (ZoU F A Tg) 40 27 [.vints .u8 xs N] ⟨0,[]⟩ (ZfE ok k):=by
 refine @Eq.mpr _ (let q1:=clZ.t;let a:=Z0 ok False (Z5=q1.fund/\Z5=q1.k0/\Z5=q1.k1/\[(0:Int),0]=[clZ.a0,clZ.a1]/\True);let M:=AV.bool true;let h:=k.t;let q5:=decide (true=k.offers);let E:=AV.bool false;
 ∃(xs_1:LI),
 let T:=xs_1.length;
 ∃(s:RS),
 let c7:=s.o;
 xs=List.drop c7 xs_1/\
 (N=T-c7/\false=s.bad/\c7<=T)/\
 ∀(v:LI),
 let Q:=AV.arr u8 32 v;let c5:=v=h.fund;
 ∀(t:RS),
 let c4:=t.o;
 W5 xs_1 s=(v,t)->
 c4<=T->
 ∃(xs:LI),
 let P:=xs.length;
 ∃(s:RS),
 let c3:=s.o;
 List.drop c4 xs_1=List.drop c3 xs/\
 (T-c4=P-c3/\t.bad=s.bad/\c3<=P/\Bytes xs/\(0:Int)<=23)/\
 ∀(v:Int),
 let O:=AV.int i64 v;let c2:=decide (v=h.index);
 ∀(t:RS),
 let c1:=t.o;
 YL F xs s 23=(v,t)->
 c1<=P->
 ∃(xs_2:LI),
 let L:=xs_2.length;
 ∃(s:RS),
 let c0:=s.o;
 List.drop c1 xs=List.drop c0 xs_2/\
 (P-c1=L-c0/\t.bad=s.bad/\c0<=L/\Bytes xs_2/\(0:Int)<=1125899906842624)/\
 ∀(v:Int),
 let K:=AV.int i64 v;let b9:=decide (v=h.cap);
 ∀(t:RS),
 let b8:=t.o;
 YL F xs_2 s 1125899906842624=(v,t)->
 b8<=L->
 ∃(xs:LI),
 let J:=xs.length;
 ∃(s:RS),
 let b7:=s.o;
 List.drop b8 xs_2=List.drop b7 xs/\
 (L-b8=J-b7/\t.bad=s.bad/\b7<=J/\Bytes xs/\(0:Int)<=500)/\
 ∀(v:Int),
 let I:=AV.int i64 v;let b6:=decide (v=h.dust);
 ∀(t:RS),
 let b5:=t.o;
 YL F xs s 500=(v,t)->
 b5<=J->
 ∃(xs_3:LI),
 let H:=xs_3.length;
 ∃(s:RS),
 let b4:=s.o;
 List.drop b5 xs=List.drop b4 xs_3/\
 (J-b5=H-b4/\t.bad=s.bad/\b4<=H/\Bytes xs_3/\(0:Int)<=400)/\
 ∀(v:Int),
 let G:=AV.int i64 v;let b3:=decide (v=h.fee);
 ∀(t:RS),
 let b2:=t.o;
 YL F xs_3 s 400=(v,t)->
 b2<=H->
 ∃(xs:LI),
 let D:=xs.length;
 ∃(s:RS),
 let b1:=s.o;
 List.drop b2 xs_3=List.drop b1 xs/\
 (H-b2=D-b1/\t.bad=s.bad/\b1<=D/\Bytes xs/\(0:Int)<=1000)/\
 ∀(v:Int),
 let C:=AV.int i64 v;let b0:=decide (v=h.delay);
 ∀(t:RS),
 let a9:=t.o;
 YL F xs s 1000=(v,t)->
 a9<=D->
 ∃(xs_4:LI),
 let B:=xs_4.length;
 ∃(s:RS),
 let a8:=s.o;
 List.drop a9 xs=List.drop a8 xs_4/\
 (D-a9=B-a8/\t.bad=s.bad/\a8<=B)/\
 ∀(v:LI),
 let z:=AV.arr u8 32 v;let a7:=v=h.k0;
 ∀(t:RS),
 let a6:=t.o;
 W5 xs_4 s=(v,t)->
 a6<=B->
 ∃(xs:LI),
 let y:=xs.length;
 ∃(s:RS),
 let a5:=s.o;
 List.drop a6 xs_4=List.drop a5 xs/\
 (B-a6=y-a5/\t.bad=s.bad/\a5<=y)/\
 ∀(v:LI),
 let x:=AV.arr u8 32 v;let a4:=v=h.k1;
 ∀(t:RS),
 let a3:=t.o;
 W5 xs s=(v,t)->
 a3<=y->
 ∃(xs_5:LI),
 let w:=xs_5.length;
 ∃(s:RS),
 let a2:=s.o;
 List.drop a3 xs=List.drop a2 xs_5/\
 (y-a3=w-a2/\t.bad=s.bad/\a2<=w/\Bytes xs_5/\(0:Int)<=1)/\
 ∀(v:Int),
 let u:=AV.int i64 v;let Z:=decide (v=k.side);
 ∀(t:RS),
 let e0:=t.o;
 YL F xs_5 s 1=(v,t)->
 e0<=w->
 ∃(xs:LI),
 let Y:=xs.length;
 ∃(s:RS),
 let d9:=s.o;
 List.drop e0 xs_5=List.drop d9 xs/\
 (w-e0=Y-d9/\t.bad=s.bad/\d9<=Y/\Bytes xs/\(0:Int)<=1125899906842624)/\
 ∀(v:Int) (t:RS),
 let d8:=t.o;
 YL F xs s 1125899906842624=(v,t)->
 d8<=Y->
 ∃(xs_6:LI),
 let X:=xs_6.length;
 ∃(s:RS),
 let d7:=s.o;
 List.drop d8 xs=List.drop d7 xs_6/\
 (Y-d8=X-d7/\t.bad=s.bad/\d7<=X/\Bytes xs_6/\(0:Int)<=1125899906842624)/\
 ∀(v_1:Int),
 let e3:=[v,v_1];let W:=AV.arr i64 2 e3;let d6:=e3=[k.a0,k.a1];
 ∀(t:RS),
 let d5:=t.o;
 YL F xs_6 s 1125899906842624=(v_1,t)->
 d5<=X->
 ∃(xs:LI),
 let V:=xs.length;
 ∃(s:RS),
 let d4:=s.o;
 List.drop d5 xs_6=List.drop d4 xs/\
 (X-d5=V-d4/\t.bad=s.bad/\d4<=V/\Bytes xs/\(0:Int)<=1125899906842624)/\
 ∀(v:Int),
 let U:=AV.int i64 v;let d3:=decide (v=k.least);
 ∀(t:RS),
 let d2:=t.o;
 YL F xs s 1125899906842624=(v,t)->
 d2<=V->
 ∃(xs_7:LI),
 let S:=xs_7.length;
 ∃(s:RS),
 let d1:=s.o;
 List.drop d2 xs=List.drop d1 xs_7/\
 (V-d2=S-d1/\t.bad=s.bad/\d1<=S/\Bytes xs_7/\(0:Int)<=1125899906842624)/\
 ∀(v_2:Int),
 let R:=AV.int i64 v_2;let d0:=decide (v_2=k.most);
 ∀(t:RS),
 let c9:=t.o;
 YL F xs_7 s 1125899906842624=(v_2,t)->
 c9<=S->
 ∃(xs:LI),
 let p:=xs.length;
 ∃(s:RS),
 let c8:=s.o;
 List.drop c9 xs_7=List.drop c8 xs/\
 (S-c9=p-c8/\t.bad=s.bad/\c8<=p)/\
 (∀(t:RS),
 let l:=t.o;
 UE xs s=(true,t)->
 l<=p->
 ∃(xs_8:LI),
 let g:=xs_8.length;
 ∃(s:RS),
 let j:=s.o;
 List.drop l xs=List.drop j xs_8/\
 (p-l=g-j/\t.bad=s.bad/\j<=g/\Bytes xs_8/\(0:Int)<=1125899906842624)/\
 ∀(v_3:Int),
 let r:=AV.int i64 v_3;let e2:=decide (v_3<v);let n:=decide (v_3>v_2);let e1:=decide (v_3=k.last);
 ∀(t:RS),
 let d:=t.o;
 YL F xs_8 s 1125899906842624=(v_3,t)->
 d<=g->
 ∃(xs:LI),
 let b:=xs.length;
 ∃(s:RS),
 let c:=s.o;
 List.drop d xs_8=List.drop c xs/\
 (g-d=b-c/\t.bad=s.bad/\c<=b)/\
 (∀(t:RS),
 let e:=t.o;
 UE xs s=(true,t)->
 e<=b->
 ∃(xs_9:LI),
 let f:=xs_9.length;
 ∃(s:RS),
 let i:=s.o;
 List.drop e xs=List.drop i xs_9/\
 (b-e=f-i/\t.bad=s.bad/\i<=f/\Bytes xs_9/\(0:Int)<=1125899906842624)/\
 ∀(v:Int) (t:RS),
 YL F xs_9 s 1125899906842624=(v,t)->
 t.o<=f->
 Z0 t.bad a (Z0 (decide ((↑(f-t.o):Int)>0)) a (∃(k_1:ClS),
 let q:=[Q,O,K,I,G,C,z,x,u,W,U,R,M,r,M,AV.int i64 v];
 Yv q k_1/\Zp.Ok k_1.t/\Z0 (!Ym A k_1) a (Z0 e2 a (Z0 n a (Z0 (v !=v_3) a (∃(k_2:ClS),Yv q k_2/\(Zp.All k_2.t/\k_2.a0<9223372036854775808/\((0:Int)=0\/(0:Int)=1))/\Z0 (ZN k_2.t k_2.a0 k_2.a1 v !=0) a (Z7 ok (c5/\Z7 c2 (Z7 b9 (Z7 b6 (Z7 b3 (Z7 b0 (a7/\a4/\Z7 Z (d6/\Z7 d3 (Z7 d0 (Z7 q5 (Z7 e1 (Z6 (true=k.agrees) (Z6 (v=k.fee) True))))))))))))))))))))/\
 ∀(t:RS),
 let e:=t.o;
 UE xs s=(false,t)->
 e<=b->
 ∃(xs_9:LI),
 let f:=xs_9.length;
 ∃(s:RS),
 let i:=s.o;
 List.drop e xs=List.drop i xs_9/\
 (b-e=f-i/\t.bad=s.bad/\i<=f/\Bytes xs_9/\(0:Int)<=1125899906842624)/\
 ∀(v:Int) (t:RS),
 YL F xs_9 s 1125899906842624=(v,t)->
 t.o<=f->
 Z0 t.bad a (Z0 (decide ((↑(f-t.o):Int)>0)) a (∃(k_1:ClS),
 let q:=[Q,O,K,I,G,C,z,x,u,W,U,R,M,r,E,AV.int i64 v];
 Yv q k_1/\Zp.Ok k_1.t/\Z0 (!Ym A k_1) a (Z0 e2 a (Z0 n a (Z0 (v !=0) a (∃(k_2:ClS),Yv q k_2/\(Zp.All k_2.t/\k_2.a0<9223372036854775808/\((0:Int)=0\/(0:Int)=1))/\Z7 ok (c5/\Z7 c2 (Z7 b9 (Z7 b6 (Z7 b3 (Z7 b0 (a7/\a4/\Z7 Z (d6/\Z7 d3 (Z7 d0 (Z7 q5 (Z7 e1 (Z6 (false=k.agrees) (Z6 (v=k.fee) True)))))))))))))))))))/\
 ∀(t:RS),
 let l:=t.o;
 UE xs s=(false,t)->
 l<=p->
 ∃(xs_8:LI),
 let g:=xs_8.length;
 ∃(s:RS),
 let j:=s.o;
 List.drop l xs=List.drop j xs_8/\
 (p-l=g-j/\t.bad=s.bad/\j<=g/\Bytes xs_8/\(0:Int)<=1125899906842624)/\
 ∀(v:Int),
 let r:=AV.int i64 v;
 ∀(t:RS),
 let n:=t.o;
 YL F xs_8 s 1125899906842624=(v,t)->
 n<=g->
 ∃(xs:LI),
 let m:=xs.length;
 ∃(s:RS),
 let c6:=s.o;
 List.drop n xs_8=List.drop c6 xs/\
 (g-n=m-c6/\t.bad=s.bad/\c6<=m)/\
 (∀(t:RS),
 let d:=t.o;
 UE xs s=(true,t)->
 d<=m->
 ∃(xs_9:LI),
 let b:=xs_9.length;
 ∃(s:RS),
 let c:=s.o;
 List.drop d xs=List.drop c xs_9/\(m-d=b-c/\t.bad=s.bad/\c<=b/\Bytes xs_9/\(0:Int)<=1125899906842624)/\∀(v_3:Int) (t:RS),YL F xs_9 s 1125899906842624=(v_3,t)->t.o<=b->Z0 t.bad a (Z0 (decide ((↑(b-t.o):Int)>0)) a (∃(k:ClS),Yv [Q,O,K,I,G,C,z,x,u,W,U,R,E,r,M,AV.int i64 v_3] k/\Zp.Ok k.t/\Z0 (!Ym A k) a (Z0 (v !=0) a a))))/\
 ∀(t:RS),
 let d:=t.o;
 UE xs s=(false,t)->
 d<=m->
 ∃(xs_9:LI),
 let b:=xs_9.length;
 ∃(s:RS),
 let c:=s.o;
 List.drop d xs=List.drop c xs_9/\
 (m-d=b-c/\t.bad=s.bad/\c<=b/\Bytes xs_9/\(0:Int)<=1125899906842624)/\
 ∀(v_3:Int) (t:RS),
 YL F xs_9 s 1125899906842624=(v_3,t)->
 t.o<=b->
 Z0 t.bad a (Z0 (decide ((↑(b-t.o):Int)>0)) a (∃(k_1:ClS),
 let e:=[Q,O,K,I,G,C,z,x,u,W,U,R,E,r,E,AV.int i64 v_3];
 Yv e k_1/\Zp.Ok k_1.t/\Z0 (!Ym A k_1) a (Z0 (v !=0) a (Z0 (v_3 !=0) a (∃(k_2:ClS),Yv e k_2/\(Zp.All k_2.t/\k_2.a0<9223372036854775808/\((0:Int)=0\/(0:Int)=1))/\Z7 ok (c5/\Z7 c2 (Z7 b9 (Z7 b6 (Z7 b3 (Z7 b0 (a7/\a4/\Z7 Z (d6/\Z7 d3 (Z7 d0 (Z6 (false=k.offers) (Z6 (v=k.last) (Z6 (false=k.agrees) (Z6 (v_3=k.fee) True)))))))))))))))))) (by kernel_rfl) ?_
 conv=>zeta
 try simp only [vcA]
 try simp only [vcB]
 try simp only [vcC]
 subst hN
 refine ⟨xs,⟨0,false⟩,rfl,⟨rfl,rfl,JB _⟩,fun v0 t0 e0 b0=> ?_⟩
 refine ⟨xs,t0,rfl,⟨rfl,rfl,b0,hb,by decide⟩,fun v1 t1 e1 b1=> ?_⟩
 refine ⟨xs,t1,rfl,⟨rfl,rfl,b1,hb,by decide⟩,fun v2 t2 e2 b2=> ?_⟩
 refine ⟨xs,t2,rfl,⟨rfl,rfl,b2,hb,by decide⟩,fun v3 t3 e3 b3=> ?_⟩
 refine ⟨xs,t3,rfl,⟨rfl,rfl,b3,hb,by decide⟩,fun v4 t4 e4 b4=> ?_⟩
 refine ⟨xs,t4,rfl,⟨rfl,rfl,b4,hb,by decide⟩,fun v5 t5 e5 b5=> ?_⟩
 refine ⟨xs,t5,rfl,⟨rfl,rfl,b5⟩,fun v6 t6 e6 b6=> ?_⟩
 refine ⟨xs,t6,rfl,⟨rfl,rfl,b6⟩,fun v7 t7 e7 b7=> ?_⟩
 refine ⟨xs,t7,rfl,⟨rfl,rfl,b7,hb,by decide⟩,fun v8 t8 e8 b8=> ?_⟩
 refine ⟨xs,t8,rfl,⟨rfl,rfl,b8,hb,by decide⟩,fun v9 t9 e9 b9=> ?_⟩
 refine ⟨xs,t9,rfl,⟨rfl,rfl,b9,hb,by decide⟩,fun v10 t10 e10 b10=> ?_⟩
 refine ⟨xs,t10,rfl,⟨rfl,rfl,b10,hb,by decide⟩,fun v11 t11 e11 b11=> ?_⟩
 refine ⟨xs,t11,rfl,⟨rfl,rfl,b11,hb,by decide⟩,fun v12 t12 e12 b12=> ?_⟩
 refine ⟨xs,t12,rfl,⟨rfl,rfl,b12⟩,fun t13 e13 b13=> ?_,fun t13 e13 b13=> ?_⟩
 ·refine ⟨xs,t13,rfl,⟨rfl,rfl,b13,hb,by decide⟩,fun v14 t14 e14 b14=> ?_⟩
  refine ⟨xs,t14,rfl,⟨rfl,rfl,b14⟩,fun t15 e15 b15=> ?_,fun t15 e15 b15=> ?_⟩
  ·refine ⟨xs,t15,rfl,⟨rfl,rfl,b15,hb,by decide⟩,fun v16 t16 e16 b16=> ?_⟩
   have hr:W6 F xs=((⟨⟨v0,v1,v2,v3,v4,v5,v6,v7⟩,v8,v9,v10,v11,v12,true,v14,true,v16⟩:ClS),t16):=by
    simp_all [W6]
   have c0:=Xi hb ⟨0,false⟩
   have c6:=Xi hb t5
   have c7:=Xi hb t6
   rw [e0] at c0
   rw [e6] at c6
   rw [e7] at c7
   have hAll:Zp.All (⟨⟨v0,v1,v2,v3,v4,v5,v6,v7⟩,v8,v9,v10,v11,v12,true,v14,true,v16⟩:ClS).t:=⟨⟨c6.1,c7.1,c6.2,c7.2⟩,c0.1,c0.2⟩
   have hbad:¬(t16.bad=false/\t16.o=xs.length/\Y0 (⟨⟨v0,v1,v2,v3,v4,v5,v6,v7⟩,v8,v9,v10,v11,v12,true,v14,true,v16⟩:ClS))->ok=false:=fun h=>JM.2 fun e=>by
    grind
   have hgood:t16.bad=false->t16.o=xs.length->Y0 (⟨⟨v0,v1,v2,v3,v4,v5,v6,v7⟩,v8,v9,v10,v11,v12,true,v14,true,v16⟩:ClS)->ok=true/\k=(⟨⟨v0,v1,v2,v3,v4,v5,v6,v7⟩,v8,v9,v10,v11,v12,true,v14,true,v16⟩:ClS):=fun h1 h2 hI=>by
    have hr2:W6 F xs=((⟨⟨v0,v1,v2,v3,v4,v5,v6,v7⟩,v8,v9,v10,v11,v12,true,v14,true,v16⟩:ClS),⟨xs.length,false⟩):=by rw [hr,<-h1,<-h2]
    simp_all
   have ha9:v9<=1125899906842624:=Z2v (by decide) e9
   have ha0:(⟨⟨v0,v1,v2,v3,v4,v5,v6,v7⟩,v8,v9,v10,v11,v12,true,v14,true,v16⟩:ClS).a0<9223372036854775808:=by grind
   have hmB:∀{b:Bool},Ym A (⟨⟨v0,v1,v2,v3,v4,v5,v6,v7⟩,v8,v9,v10,v11,v12,true,v14,true,v16⟩:ClS)=b->Ym ZJ (⟨⟨v0,v1,v2,v3,v4,v5,v6,v7⟩,v8,v9,v10,v11,v12,true,v14,true,v16⟩:ClS)=b:=fun h=>hA▸h
   have Q2:ok=false->ok=false/\Z5=clZ.t.fund/\Z5=clZ.t.k0/\Z5=clZ.t.k1/\[(0:Int),0]=[clZ.a0,clZ.a1]:=fun h=>⟨h,rfl,rfl,rfl,rfl⟩
   refine ⟨fun hz=>Q2 (hbad fun h=> ?_),fun hz=>⟨fun hl=>Q2 (hbad fun h=> ?_),fun hl=>⟨(⟨⟨v0,v1,v2,v3,v4,v5,v6,v7⟩,v8,v9,v10,v11,v12,true,v14,true,v16⟩:ClS),⟨rfl⟩,hAll.ok,fun hm=>Q2 (hbad fun h=> ?_),fun hm=> ?_⟩⟩⟩
   ·simp_all
   ·have:=h.2.1
    omega
   ·exact absurd ((X6.2 h.2.2.made).symm.trans (hmB (nT hm))) (by decide)
   have hlen:t16.o=xs.length:=by omega
   refine ⟨fun h1=>Q2 (hbad fun h=> ?_),fun h1=>⟨fun h2=>Q2 (hbad fun h=> ?_),fun h2=>⟨fun h3=>Q2 (hbad fun h=> ?_),fun h3=>⟨(⟨⟨v0,v1,v2,v3,v4,v5,v6,v7⟩,v8,v9,v10,v11,v12,true,v14,true,v16⟩:ClS),⟨rfl⟩,⟨hAll,ha0,.inl True.intro⟩,fun h4=>Q2 (hbad fun h=> ?_),fun h4=> ?_⟩⟩⟩⟩
   ·have h5:v11<=v14:=(h.2.2.off rfl).1
    omega
   ·have h5:v14<=v12:=(h.2.2.off rfl).2
    omega
   ·exact bne_iff_ne.1 h3 (h.2.2.agr rfl).2.1
   ·exact bne_iff_ne.1 h4 (h.2.2.agr rfl).2.2
   ·obtain ⟨q1,q2⟩:=hgood hz hlen (Uc (hmB (nF hm)) (decide_eq_true (show v11<=v14/\v14<=v12 by omega)) (fun _=>⟨rfl,bne_eq_false_iff_eq.1 h3,bne_eq_false_iff_eq.1 h4⟩) (fun h=>nomatch h))
    subst q2
    and_intros<;>first|exact q1|rfl
  ·refine ⟨xs,t15,rfl,⟨rfl,rfl,b15,hb,by decide⟩,fun v16 t16 e16 b16=> ?_⟩
   have hr:W6 F xs=((⟨⟨v0,v1,v2,v3,v4,v5,v6,v7⟩,v8,v9,v10,v11,v12,true,v14,false,v16⟩:ClS),t16):=by
    simp_all [W6]
   have c0:=Xi hb ⟨0,false⟩
   have c6:=Xi hb t5
   have c7:=Xi hb t6
   rw [e0] at c0
   rw [e6] at c6
   rw [e7] at c7
   have hAll:Zp.All (⟨⟨v0,v1,v2,v3,v4,v5,v6,v7⟩,v8,v9,v10,v11,v12,true,v14,false,v16⟩:ClS).t:=⟨⟨c6.1,c7.1,c6.2,c7.2⟩,c0.1,c0.2⟩
   have hbad:¬(t16.bad=false/\t16.o=xs.length/\Y0 (⟨⟨v0,v1,v2,v3,v4,v5,v6,v7⟩,v8,v9,v10,v11,v12,true,v14,false,v16⟩:ClS))->ok=false:=fun h=>JM.2 fun e=>by
    grind
   have hgood:t16.bad=false->t16.o=xs.length->Y0 (⟨⟨v0,v1,v2,v3,v4,v5,v6,v7⟩,v8,v9,v10,v11,v12,true,v14,false,v16⟩:ClS)->ok=true/\k=(⟨⟨v0,v1,v2,v3,v4,v5,v6,v7⟩,v8,v9,v10,v11,v12,true,v14,false,v16⟩:ClS):=fun h1 h2 hI=>by
    have hr2:W6 F xs=((⟨⟨v0,v1,v2,v3,v4,v5,v6,v7⟩,v8,v9,v10,v11,v12,true,v14,false,v16⟩:ClS),⟨xs.length,false⟩):=by rw [hr,<-h1,<-h2]
    simp_all
   have ha9:v9<=1125899906842624:=Z2v (by decide) e9
   have ha0:(⟨⟨v0,v1,v2,v3,v4,v5,v6,v7⟩,v8,v9,v10,v11,v12,true,v14,false,v16⟩:ClS).a0<9223372036854775808:=by grind
   have hmB:∀{b:Bool},Ym A (⟨⟨v0,v1,v2,v3,v4,v5,v6,v7⟩,v8,v9,v10,v11,v12,true,v14,false,v16⟩:ClS)=b->Ym ZJ (⟨⟨v0,v1,v2,v3,v4,v5,v6,v7⟩,v8,v9,v10,v11,v12,true,v14,false,v16⟩:ClS)=b:=fun h=>hA▸h
   have Q2:ok=false->ok=false/\Z5=clZ.t.fund/\Z5=clZ.t.k0/\Z5=clZ.t.k1/\[(0:Int),0]=[clZ.a0,clZ.a1]:=fun h=>⟨h,rfl,rfl,rfl,rfl⟩
   refine ⟨fun hz=>Q2 (hbad fun h=> ?_),fun hz=>⟨fun hl=>Q2 (hbad fun h=> ?_),fun hl=>⟨(⟨⟨v0,v1,v2,v3,v4,v5,v6,v7⟩,v8,v9,v10,v11,v12,true,v14,false,v16⟩:ClS),⟨rfl⟩,hAll.ok,fun hm=>Q2 (hbad fun h=> ?_),fun hm=> ?_⟩⟩⟩
   ·simp_all
   ·have:=h.2.1
    omega
   ·exact absurd ((X6.2 h.2.2.made).symm.trans (hmB (nT hm))) (by decide)
   have hlen:t16.o=xs.length:=by omega
   refine ⟨fun h1=>Q2 (hbad fun h=> ?_),fun h1=>⟨fun h2=>Q2 (hbad fun h=> ?_),fun h2=>⟨fun h3=>Q2 (hbad fun h=> ?_),fun h3=>⟨(⟨⟨v0,v1,v2,v3,v4,v5,v6,v7⟩,v8,v9,v10,v11,v12,true,v14,false,v16⟩:ClS),⟨rfl⟩,⟨hAll,ha0,.inl True.intro⟩, ?_⟩⟩⟩⟩
   ·have h5:v11<=v14:=(h.2.2.off rfl).1
    omega
   ·have h5:v14<=v12:=(h.2.2.off rfl).2
    omega
   ·exact bne_iff_ne.1 h3 (h.2.2.nag rfl)
   ·obtain ⟨q1,q2⟩:=hgood hz hlen (Uc (hmB (nF hm)) (decide_eq_true (show v11<=v14/\v14<=v12 by omega)) (fun h=>nomatch h) (fun _=>bne_eq_false_iff_eq.1 h3))
    subst q2
    and_intros<;>first|exact q1|rfl
 ·refine ⟨xs,t13,rfl,⟨rfl,rfl,b13,hb,by decide⟩,fun v14 t14 e14 b14=> ?_⟩
  refine ⟨xs,t14,rfl,⟨rfl,rfl,b14⟩,fun t15 e15 b15=> ?_,fun t15 e15 b15=> ?_⟩
  ·refine ⟨xs,t15,rfl,⟨rfl,rfl,b15,hb,by decide⟩,fun v16 t16 e16 b16=> ?_⟩
   have hr:W6 F xs=((⟨⟨v0,v1,v2,v3,v4,v5,v6,v7⟩,v8,v9,v10,v11,v12,false,v14,true,v16⟩:ClS),t16):=by
    simp_all [W6]
   have c0:=Xi hb ⟨0,false⟩
   have c6:=Xi hb t5
   have c7:=Xi hb t6
   rw [e0] at c0
   rw [e6] at c6
   rw [e7] at c7
   have hAll:Zp.All (⟨⟨v0,v1,v2,v3,v4,v5,v6,v7⟩,v8,v9,v10,v11,v12,false,v14,true,v16⟩:ClS).t:=⟨⟨c6.1,c7.1,c6.2,c7.2⟩,c0.1,c0.2⟩
   have hbad:¬(t16.bad=false/\t16.o=xs.length/\Y0 (⟨⟨v0,v1,v2,v3,v4,v5,v6,v7⟩,v8,v9,v10,v11,v12,false,v14,true,v16⟩:ClS))->ok=false:=fun h=>JM.2 fun e=>by
    grind
   have hgood:t16.bad=false->t16.o=xs.length->Y0 (⟨⟨v0,v1,v2,v3,v4,v5,v6,v7⟩,v8,v9,v10,v11,v12,false,v14,true,v16⟩:ClS)->ok=true/\k=(⟨⟨v0,v1,v2,v3,v4,v5,v6,v7⟩,v8,v9,v10,v11,v12,false,v14,true,v16⟩:ClS):=fun h1 h2 hI=>by
    have hr2:W6 F xs=((⟨⟨v0,v1,v2,v3,v4,v5,v6,v7⟩,v8,v9,v10,v11,v12,false,v14,true,v16⟩:ClS),⟨xs.length,false⟩):=by rw [hr,<-h1,<-h2]
    simp_all
   have ha9:v9<=1125899906842624:=Z2v (by decide) e9
   have ha0:(⟨⟨v0,v1,v2,v3,v4,v5,v6,v7⟩,v8,v9,v10,v11,v12,false,v14,true,v16⟩:ClS).a0<9223372036854775808:=by grind
   have hmB:∀{b:Bool},Ym A (⟨⟨v0,v1,v2,v3,v4,v5,v6,v7⟩,v8,v9,v10,v11,v12,false,v14,true,v16⟩:ClS)=b->Ym ZJ (⟨⟨v0,v1,v2,v3,v4,v5,v6,v7⟩,v8,v9,v10,v11,v12,false,v14,true,v16⟩:ClS)=b:=fun h=>hA▸h
   have Q2:ok=false->ok=false/\Z5=clZ.t.fund/\Z5=clZ.t.k0/\Z5=clZ.t.k1/\[(0:Int),0]=[clZ.a0,clZ.a1]:=fun h=>⟨h,rfl,rfl,rfl,rfl⟩
   refine ⟨fun hz=>Q2 (hbad fun h=> ?_),fun hz=>⟨fun hl=>Q2 (hbad fun h=> ?_),fun hl=>⟨(⟨⟨v0,v1,v2,v3,v4,v5,v6,v7⟩,v8,v9,v10,v11,v12,false,v14,true,v16⟩:ClS),⟨rfl⟩,hAll.ok,fun hm=>Q2 (hbad fun h=> ?_),fun hm=> ?_⟩⟩⟩
   ·simp_all
   ·have:=h.2.1
    omega
   ·exact absurd ((X6.2 h.2.2.made).symm.trans (hmB (nT hm))) (by decide)
   have hlen:t16.o=xs.length:=by omega
   refine ⟨fun h1=>Q2 (hbad fun h=> ?_),fun h1=>Q2 (hbad fun h=> ?_)⟩
   ·exact nomatch (h.2.2.agr rfl).1
   ·exact nomatch (h.2.2.agr rfl).1
  ·refine ⟨xs,t15,rfl,⟨rfl,rfl,b15,hb,by decide⟩,fun v16 t16 e16 b16=> ?_⟩
   have hr:W6 F xs=((⟨⟨v0,v1,v2,v3,v4,v5,v6,v7⟩,v8,v9,v10,v11,v12,false,v14,false,v16⟩:ClS),t16):=by
    simp_all [W6]
   have c0:=Xi hb ⟨0,false⟩
   have c6:=Xi hb t5
   have c7:=Xi hb t6
   rw [e0] at c0
   rw [e6] at c6
   rw [e7] at c7
   have hAll:Zp.All (⟨⟨v0,v1,v2,v3,v4,v5,v6,v7⟩,v8,v9,v10,v11,v12,false,v14,false,v16⟩:ClS).t:=⟨⟨c6.1,c7.1,c6.2,c7.2⟩,c0.1,c0.2⟩
   have hbad:¬(t16.bad=false/\t16.o=xs.length/\Y0 (⟨⟨v0,v1,v2,v3,v4,v5,v6,v7⟩,v8,v9,v10,v11,v12,false,v14,false,v16⟩:ClS))->ok=false:=fun h=>JM.2 fun e=>by
    grind
   have hgood:t16.bad=false->t16.o=xs.length->Y0 (⟨⟨v0,v1,v2,v3,v4,v5,v6,v7⟩,v8,v9,v10,v11,v12,false,v14,false,v16⟩:ClS)->ok=true/\k=(⟨⟨v0,v1,v2,v3,v4,v5,v6,v7⟩,v8,v9,v10,v11,v12,false,v14,false,v16⟩:ClS):=fun h1 h2 hI=>by
    have hr2:W6 F xs=((⟨⟨v0,v1,v2,v3,v4,v5,v6,v7⟩,v8,v9,v10,v11,v12,false,v14,false,v16⟩:ClS),⟨xs.length,false⟩):=by rw [hr,<-h1,<-h2]
    simp_all
   have ha9:v9<=1125899906842624:=Z2v (by decide) e9
   have ha0:(⟨⟨v0,v1,v2,v3,v4,v5,v6,v7⟩,v8,v9,v10,v11,v12,false,v14,false,v16⟩:ClS).a0<9223372036854775808:=by grind
   have hmB:∀{b:Bool},Ym A (⟨⟨v0,v1,v2,v3,v4,v5,v6,v7⟩,v8,v9,v10,v11,v12,false,v14,false,v16⟩:ClS)=b->Ym ZJ (⟨⟨v0,v1,v2,v3,v4,v5,v6,v7⟩,v8,v9,v10,v11,v12,false,v14,false,v16⟩:ClS)=b:=fun h=>hA▸h
   have Q2:ok=false->ok=false/\Z5=clZ.t.fund/\Z5=clZ.t.k0/\Z5=clZ.t.k1/\[(0:Int),0]=[clZ.a0,clZ.a1]:=fun h=>⟨h,rfl,rfl,rfl,rfl⟩
   refine ⟨fun hz=>Q2 (hbad fun h=> ?_),fun hz=>⟨fun hl=>Q2 (hbad fun h=> ?_),fun hl=>⟨(⟨⟨v0,v1,v2,v3,v4,v5,v6,v7⟩,v8,v9,v10,v11,v12,false,v14,false,v16⟩:ClS),⟨rfl⟩,hAll.ok,fun hm=>Q2 (hbad fun h=> ?_),fun hm=> ?_⟩⟩⟩
   ·simp_all
   ·have:=h.2.1
    omega
   ·exact absurd ((X6.2 h.2.2.made).symm.trans (hmB (nT hm))) (by decide)
   have hlen:t16.o=xs.length:=by omega
   refine ⟨fun h1=>Q2 (hbad fun h=> ?_),fun h1=>⟨fun h2=>Q2 (hbad fun h=> ?_),fun h2=>⟨(⟨⟨v0,v1,v2,v3,v4,v5,v6,v7⟩,v8,v9,v10,v11,v12,false,v14,false,v16⟩:ClS),⟨rfl⟩,⟨hAll,ha0,.inl True.intro⟩, ?_⟩⟩⟩
   ·exact bne_iff_ne.1 h1 (h.2.2.nof rfl)
   ·exact bne_iff_ne.1 h2 (h.2.2.nag rfl)
   ·obtain ⟨q1,q2⟩:=hgood hz hlen (Uc (hmB (nF hm)) (beq_iff_eq.2 (bne_eq_false_iff_eq.1 h1)) (fun h=>nomatch h) (fun _=>bne_eq_false_iff_eq.1 h2))
    subst q2
    and_intros<;>first|exact q1|rfl
def Zba (R:Option ClS):ZF:=fun args h K=>ZG none h true 20 args fun a=>match a with
 | [.vints .u8 xs N]=>(xs.length=N/\Bytes xs)/\Qn xs R/\(match R with
  | some k=>K (.tuple [.agg k.c,.int .i64 0])
  | none=>K (.tuple [.agg clZ.c,.int .i64 253]))
 | _=>False
theorem Zlt {k:ClS} {o:Out} {h:Z8} (hk:ZfE true k o h):ZK 0 (.ret (.tuple [.agg k.c,.int .i64 0])) 0 [] o h:=by
 unfold ZfE at hk
 split at hk
 ·split at hk
  ·exact hk
  ·exact hk.elim
 simp_all
theorem Zlu {k:ClS} {o:Out} {h:Z8} (hk:ZfE false k o h):ZK 0 (.ret (.tuple [.agg clZ.c,.int .i64 253])) 0 [] o h:=by
 unfold ZfE at hk
 split at hk
 ·split at hk
  ·exact hk.elim
  ·exact hk
 simp_all
theorem Z9S (args:List AV) (h:Z8) (K:AV->Prop) (hl:Zba R args h K):Zd PP 27 args h fun o h'=>∃v,o=.ret v/\h'=h/\K v:=by
 refine Zx.psumm (d:=20) (Zq _ _ _ _ _ hl fun a ha=> ?_)
 split at ha
 ·obtain ⟨⟨rfl,hb⟩,hR,hK⟩:=ha
  rename_i xs
  cases hR with
  | some k hr hI=>exact ⟨_,Spec.pure (Spec.evK Zb9 (Zjl _ _ _ xs _ k true rfl hb rfl rfl (fun _=>⟨Zio hr hI.made,hI⟩) (fun h=>nomatch h)) (fun o' h' hk=>Zlt hk)),fun _=>rfl,hK⟩
  | none hn=>exact ⟨_,Spec.pure (Spec.evK Zb9 (Zjl _ _ _ xs _ clZ false rfl hb rfl rfl (fun h=>nomatch h) (fun _ k hk=>hn k (Zcx hk rfl))) (fun o' h' hk=>Zlu hk)),fun _=>rfl,hK⟩
 simp_all
noncomputable def ZcK (W:Int->LI) (X:ClS->ZR->ClS) (R:Option ClS):Za:=((((((G0.withP 11 Zg2).withP 19 ZoS).withF 28 (ZfQ W)).withF 26 (Zgf R)).withP 27 (Zba R)).withF 24 Zg3).withF 25 (Zga X)
theorem ZiN (R:Option ClS):(ZcK Zt nxC R).Ok:=Za.withF_ok (Za.withF_ok (Za.withP_ok (Za.withF_ok (Za.withF_ok (Za.withP_ok (Za.withP_ok Zr ZiG) ZiL) Z7W) ZcI) Z9S) Zg4) Zgb
def cwS (k:ClS) (A:List ZR) (n i:Nat):St:=⟨127,[(11,.int .i64 i),(1,.vrows 305 n (YA A) n),(7,.ptr (some ⟨0,0,0,0,0⟩)),(9,.ptr (some ⟨1,0,0,0,0⟩))],⟨2,[(0,.flat (k.c++[.bool true])),(1,.flat k.c)]⟩,[]⟩
def cwX (k:ClS):St:=⟨127,[(7,.ptr (some ⟨0,0,0,0,0⟩)),(9,.ptr (some ⟨1,0,0,0,0⟩))],⟨2,[(0,.flat (k.c++[.bool true])),(1,.flat k.c)]⟩,[]⟩
def wlN:St:=⟨127,[],⟨0,[]⟩,[]⟩
def wlR:St:=⟨127,[(4,.bool true)],⟨0,[]⟩,[]⟩
def wlS (k:ClS) (A:List ZR) (n:Nat) (ls:LI) (i:Nat):St:=⟨127,[(6,.int .i64 i),(5,.nslice ⟨1,0,0,0,0⟩ 1 12 12),(1,.vrows 305 n (YA A) n),(2,.ptr (some ⟨0,0,0,0,0⟩))],⟨2,[(0,.flat k.c),(1,.ints .i64 ls)]⟩,[]⟩
def wlX (k:ClS) (A:List ZR) (n:Nat):St:=⟨127,[(1,.vrows 305 n (YA A) n),(2,.ptr (some ⟨0,0,0,0,0⟩))],⟨1,[(0,.flat k.c)]⟩,[]⟩
def Z6C (k:ClS):LI:=[k.t.index,k.t.cap,k.t.dust,k.t.fee,k.t.delay,k.side,k.a0,k.a1,k.least,k.most,k.last,k.fee]
def Z1c (n:Int):Bool:=decide (0<=n)&&decide (n<=4611686018427387904)
theorem Zqi (W:Int->LI) (X:ClS->ZR->ClS) (R:Option ClS) (k k':ClS) (L:List ZR) (n i:Nat) (a:ZR) (Z1 Z2:Prop) (hn:n<=20) (hi:i<=n) (hk:Xo k) (hx:i<n->L.getD i Z1b=a) (ha:i<n->a.s.Len) (hk':i<n->k'=X k a/\Xo k') (hZ1:i<n->Z1) (hZ2:i=n->Z2):
  ZL (ZcK W X R) 20 7 2 0 (cwS k L n i) (rdM 0 2 9 (cwS k' L n (i+1)) (cwX k) wlN wlN Z1 Z2 False False):=by
 refine @Eq.mpr _ (let f:=k.t;let x:=f.fund;let q3:=AV.arr u8 32 x;let l:=f.index;let M:=AV.int i64 l;let j:=f.cap;let E:=AV.int i64 j;let h:=f.dust;let D:=AV.int i64 h;let C:=f.fee;let g1:=AV.int i64 C;let B:=f.delay;let e2:=AV.int i64 B;let A:=f.k0;let c1:=AV.arr u8 32 A;let z:=f.k1;let b0:=AV.arr u8 32 z;let y:=k.side;let a9:=AV.int i64 y;let v:=[k.a0,k.a1];let a8:=AV.arr i64 2 v;let u:=k.least;let a7:=AV.int i64 u;let r:=k.most;let a6:=AV.int i64 r;let q:=k.offers;let a5:=AV.bool q;let p:=k.last;let a4:=AV.int i64 p;let o:=k.agrees;let a3:=AV.bool o;let m:=k.fee;let a2:=AV.int i64 m;let Z:=[AV.bool true];let g:=List.getD L (Int.toNat (↑i:Int)) Z1b;let b:=g.s;let d:=b.t;let Y:=decide (n=n);let c:=k'.t;let W:=x=x;let V:=decide (l=l);let U:=decide (j=j);let T:=decide (h=h);let S:=decide (C=C);let R:=decide (B=B);let Q:=A=A;let P:=z=z;let O:=decide (y=y);let N:=v=v;let K:=decide (u=u);let J:=decide (r=r);let I:=decide (q=q);let H:=decide (p=p);let G:=decide (o=o);let F:=decide (m=m);
 Z0 (decide ((↑i:Int)<(↑n:Int)))
 (Z0 (decide (0<=(↑i:Int)/\(↑i:Int)<(↑n:Int)))
 (∃(k:ClS),
 ∃(a:ZR),
 let e:=(X k a).t;let g0:=e.fund;let f9:=AV.arr u8 32 g0;let f8:=e.index;let f7:=AV.int i64 f8;let f6:=e.cap;let f5:=AV.int i64 f6;let f4:=e.dust;let f3:=AV.int i64 f4;let f2:=e.fee;let f1:=AV.int i64 f2;let f0:=e.delay;let e9:=AV.int i64 f0;let e8:=e.k0;let e7:=AV.arr u8 32 e8;let e6:=e.k1;let e5:=AV.arr u8 32 e6;let e4:=(X k a).side;let e3:=AV.int i64 e4;let e1:=[(X k a).a0,(X k a).a1];let e0:=AV.arr i64 2 e1;let d9:=(X k a).least;let d8:=AV.int i64 d9;let d7:=(X k a).most;let d6:=AV.int i64 d7;let d5:=(X k a).offers;let d4:=AV.bool d5;let d3:=(X k a).last;let d2:=AV.int i64 d3;let d1:=(X k a).agrees;let d0:=AV.bool d1;let c9:=(X k a).fee;let c8:=AV.int i64 c9;let c7:=g0=c.fund;let c6:=decide (f8=c.index);let c5:=decide (f6=c.cap);let c4:=decide (f4=c.dust);let c3:=decide (f2=c.fee);let c2:=decide (f0=c.delay);let c0:=e8=c.k0;let b9:=e6=c.k1;let b8:=decide (e4=k'.side);let b7:=e1=[k'.a0,k'.a1];let b6:=decide (d9=k'.least);let b5:=decide (d7=k'.most);let b4:=decide (d5=k'.offers);let b3:=decide (d3=k'.last);let b2:=decide (d1=k'.agrees);let b1:=decide (c9=k'.fee);
 X7 (q3::M::E::D::g1::e2::c1::b0::a9::a8::a7::a6::a5::a4::a3::a2::Z) k/\
 Yv [q3,M,E,D,g1,e2,c1,b0,a9,a8,a7,a6,a5,a4,a3,a2] k/\
 Zlj [AV.int i64 g.w,AV.int i64 b.kind,AV.arr u8 32 d.fund,AV.int i64 d.index,AV.int i64 d.cap,AV.int i64 d.dust,AV.int i64 d.fee,AV.int i64 d.delay,AV.arr u8 32 d.k0,AV.arr u8 32 d.k1,AV.int i64 b.reserve,AV.int i64 b.amount,AV.arr u8 32 b.point,AV.arr u8 32 b.nxt,AV.arr u8 32 b.key,AV.arr u8 32 b.hash,AV.arr u8 32 b.tag,AV.arr u8 32 b.secret,AV.int i64 b.id,AV.int i64 b.number,AV.int i64 b.index,AV.int i64 b.expiry,AV.int i64 b.code,AV.str b.route,AV.int i64 g.fe,AV.int u8 g.be] a/\
 Xo k/\Zo.Len a.s/\∃(k:ClS),X7 (f9::f7::f5::f3::f1::e9::e7::e5::e3::e0::d8::d6::d4::d2::d0::c8::Z) k/\Yv [f9,f7,f5,f3,f1,e9,e7,e5,e3,e0,d8,d6,d4,d2,d0,c8] k/\Xo k/\Z0 (decide (wrap i64 ((↑i:Int)+1)=(↑(i+1):Int))) (Z0 Y (YA L=YA L/\Z0 Y (c7/\Z0 c6 (Z0 c5 (Z0 c4 (Z0 c3 (Z0 c2 (c0/\b9/\Z0 b8 (b7/\Z0 b6 (Z0 b5 (Z0 b4 (Z0 b3 (Z0 b2 (Z0 b1 (c7/\Z0 c6 (Z0 c5 (Z0 c4 (Z0 c3 (Z0 c2 (c0/\b9/\Z0 b8 (b7/\Z0 b6 (Z0 b5 (Z0 b4 (Z0 b3 (Z0 b2 (Z0 b1 Z1 False) False) False) False) False) False) False) False) False) False) False) False) False) False) False) False) False) False) False) False) False) False) False) False) False) False) False)
 False)
 (W/\Z0 V (Z0 U (Z0 T (Z0 S (Z0 R (Q/\P/\Z0 O (N/\Z0 K (Z0 J (Z0 I (Z0 H (Z0 G (Z0 F (W/\Z0 V (Z0 U (Z0 T (Z0 S (Z0 R (Q/\P/\Z0 O (N/\Z0 K (Z0 J (Z0 I (Z0 H (Z0 G (Z0 F Z2 False) False) False) False) False) False) False) False) False) False) False) False) False) False) False) False) False) False) False) False) False) False) False) False)) (by kernel_rfl) ?_
 conv=>zeta
 try simp only [Zc]
 try simp only [Zl]
 try simp only [Zg]
 try simp only [Zm]
 try simp only [Zn]
 try simp only [Zh]
 try simp only [true_and,and_true]
 refine ⟨fun hc=> ?_,fun hc=>hZ2 (by omega)⟩
 have hlt:i<n:=by omega
 obtain ⟨e,hk2⟩:=hk' hlt
 subst e
 have ew:i64.wrap ((i:Int)+1)=((i+1:Nat):Int):=by rw [w64 (by omega)];omega
 refine ⟨by omega,k,a,⟨rfl⟩,⟨rfl⟩,⟨?_⟩,hk,ha hlt,X k a,⟨rfl⟩,⟨rfl⟩,hk2,ew, ?_⟩
 ·rw [<-hx hlt]
  rfl
 and_intros<;>first|simp_all
noncomputable def Z81 (W:Int->LI) (X:ClS->ZR->ClS) (R:Option ClS) (G:Nat->ClS) (L:List ZR) (n:Nat) (C:Prop):Za:=(ZcK W X R).withL 7 2 (goM 0 (cwS (G 0) L n 0) C (YB 2 n 9 (fun i=>i<n) (fun i=>i=n/\Xo (G i)) (fun _=>False) (fun _=>False) (fun i=>cwX (G i)) (fun _=>wlN) (fun _=>wlN)))
theorem Zbb (R:Option ClS) (k:ClS) (L:List ZR) (n:Nat):(Z81 Zt nxC R (kkC nxC k L) L n (Zln k L n)).Ok:=
 Za.withGoM (N:=20) (S:=fun i=>cwS (kkC nxC k L i) L n i) (ZiN R) (by kernel_rfl) fun hC=>⟨rfl,fun i hi _=>by
  obtain ⟨h1,h2,h3,h4⟩:=hC
  have hg:=fun j (hj:j<=n)=>Zgd h3 L j (by omega)
  exact Zqi Zt nxC R (kkC nxC k L i) (kkC nxC k L (i+1)) L n i _ _ _ h1 hi (hg i hi) (fun _=>rfl) (fun h=>h4 _ (by simp_all)) (fun h=>⟨Z7Z (by omega),hg (i+1) h⟩) (fun h=>⟨h,h⟩) (fun h=>⟨h,hg i hi⟩)⟩
theorem Zqj (W:Int->LI) (X:ClS->ZR->ClS) (R:Option ClS) (G:Nat->ClS) (L:List ZR) (n:Nat) (C:Prop) (k:ClS) (ls:LI) (i:Nat) (Z1 Z2 Z3:Prop) (hm:ls.length=12) (hi:i<=12) (h1:i<12->Z1c (ls.getD i 0)=true->Z1) (h2:i=12->Z2) (h3:i<12->Z1c (ls.getD i 0)=false->Z3):
  ZL (Z81 W X R G L n C) 20 7 0 0 (wlS k L n ls i) (rdM 0 0 9 (wlS k L n ls (i+1)) (wlX k L n) wlR wlR Z1 Z2 Z3 False):=by
 refine @Eq.mpr _ (let I:=decide (0<=(↑i:Int)/\(↑i:Int)<12);let c:=0+Int.toNat (↑i:Int);let l:=List.getD ls c 0;let b:=decide (n=n);let g:=YA L=YA L;let a:=k.t;let f:=a.fund;let e:=f=f;let d:=a.index;let H:=decide (d=d);let G:=a.cap;let F:=decide (G=G);let E:=a.dust;let D:=decide (E=E);let C:=a.fee;let B:=decide (C=C);let A:=a.delay;let z:=decide (A=A);let y:=a.k0;let x:=y=y;let w:=a.k1;let v:=w=w;let u:=decide (k.side=k.side);let s:=[k.a0,k.a1];let r:=s=s;let q:=decide (k.least=k.least);let p:=decide (k.most=k.most);let o:=decide (k.offers=k.offers);let m:=decide (k.last=k.last);let j:=decide (k.agrees=k.agrees);let h:=decide (k.fee=k.fee);
 Z0 (decide ((↑i:Int)<12)) (Z0 I (Z0 (decide (c<ls.length)) (Z0 (decide (l<0)) Z3 (Z0 I (Z0 (decide (c<ls.length)) (Z0 (decide (l>4611686018427387904)) Z3 (Z0 (decide (wrap i64 ((↑i:Int)+1)=(↑(i+1):Int))) (Z0 b (g/\Z0 b (e/\Z0 H (Z0 F (Z0 D (Z0 B (Z0 z (x/\v/\Z0 u (r/\Z0 q (Z0 p (Z0 o (Z0 m (Z0 j (Z0 h (ls=ls/\Z1) False) False) False) False) False) False) False) False) False) False) False) False) False) False) False)) False) False)) False) False) (Z0 b (g/\Z0 b (e/\Z0 H (Z0 F (Z0 D (Z0 B (Z0 z (x/\v/\Z0 u (r/\Z0 q (Z0 p (Z0 o (Z0 m (Z0 j (Z0 h Z2 False) False) False) False) False) False) False) False) False) False) False) False) False) False)) (by kernel_rfl) ?_
 conv=>zeta
 try simp only [Zc]
 try simp only [Zl]
 try simp only [Zg]
 try simp only [Zm]
 try simp only [Zn]
 try simp only [Zh]
 try simp only [and_true]
 grind [w64,Z1c]
theorem Zqk (W:Int->LI) (X:ClS->ZR->ClS) (R:Option ClS) (G:Nat->ClS) (L:List ZR) (n:Nat) (C:Prop) (k:ClS) (ls:LI) (i:Nat) (Z1 Z3:Prop) (hm:ls.length=12) (hi:i<12) (h1:i<12->Z1c (ls.getD i 0)=true->Z1) (h3:i<12->Z1c (ls.getD i 0)=false->Z3):
  ZL (Z81 W X R G L n C) 20 7 0 0 (wlS k L n ls i) (rdM 0 0 9 (wlS k L n ls (i+1)) wlN wlR wlR Z1 False Z3 False):=by
 refine @Eq.mpr _ (let q:=decide (0<=(↑i:Int)/\(↑i:Int)<12);let b:=0+Int.toNat (↑i:Int);let h:=List.getD ls b 0;let g:=decide (n=n);let a:=k.t;let f:=a.fund;let e:=a.index;let d:=a.cap;let c:=a.dust;let p:=a.fee;let o:=a.delay;let m:=a.k0;let l:=a.k1;let j:=[k.a0,k.a1];
 Z0 (decide ((↑i:Int)<12)) (Z0 q (Z0 (decide (b<ls.length)) (Z0 (decide (h<0)) Z3 (Z0 q (Z0 (decide (b<ls.length)) (Z0 (decide (h>4611686018427387904)) Z3 (Z0 (decide (wrap i64 ((↑i:Int)+1)=(↑(i+1):Int))) (Z0 g (YA L=YA L/\Z0 g (f=f/\Z0 (decide (e=e)) (Z0 (decide (d=d)) (Z0 (decide (c=c)) (Z0 (decide (p=p)) (Z0 (decide (o=o)) (m=m/\l=l/\Z0 (decide (k.side=k.side)) (j=j/\Z0 (decide (k.least=k.least)) (Z0 (decide (k.most=k.most)) (Z0 (decide (k.offers=k.offers)) (Z0 (decide (k.last=k.last)) (Z0 (decide (k.agrees=k.agrees)) (Z0 (decide (k.fee=k.fee)) (ls=ls/\Z1) False) False) False) False) False) False) False) False) False) False) False) False) False) False) False)) False) False)) False) False) False) (by kernel_rfl) ?_
 conv=>zeta
 try simp only [Zc]
 try simp only [Zl]
 try simp only [Zg]
 try simp only [Zm]
 try simp only [Zn]
 try simp only [Zh]
 try simp only [and_true]
 grind [w64,Z1c]
structure ZiO (ls:LI):Prop where
 l:ls.length=12
 h:∀i,i<12->Z1c (ls.getD i 0)=true
structure Z9T (ls:LI) (j:Nat):Prop where
 l:ls.length=12
 jl:j<12
 h:∀i,i<j->Z1c (ls.getD i 0)=true
 n:Z1c (ls.getD j 0)=false
noncomputable def Zgl (W:Int->LI) (X:ClS->ZR->ClS) (R:Option ClS) (G:Nat->ClS) (L:List ZR) (n:Nat) (C:Prop) (k:ClS) (ls:LI) (C2:Prop):Za:=(Z81 W X R G L n C).withL 7 0 (goM 0 (wlS k L n ls 0) C2 (YB 0 12 9 (fun i=>i<12) (fun i=>i=12) (fun _=>False) (fun _=>False) (fun _=>wlX k L n) (fun _=>wlR) (fun _=>wlR)))
theorem Zbc (R:Option ClS) (Y:ClS) (L:List ZR) (n:Nat) (k:ClS) (ls:LI):(Zgl Zt nxC R (kkC nxC Y L) L n (Zln Y L n) k ls (ZiO ls)).Ok:=
 Za.withGoM (N:=20) (S:=fun i=>wlS k L n ls i) (Zbb R Y L n) (by kernel_rfl) fun hC=>⟨rfl,fun i hi _=>Zqj Zt nxC R _ L n _ k ls i _ _ _ hC.l hi (fun h _=>⟨h,h⟩) (fun h=>h) (fun h hx=>absurd ((hC.h i h).symm.trans hx) (by decide))⟩
noncomputable def Zlv (W:Int->LI) (X:ClS->ZR->ClS) (G:Nat->ClS) (L:List ZR) (n:Nat) (C:Prop) (k:ClS) (ls:LI) (j:Nat) (C2:Prop):Za:=(Z81 W X none G L n C).withL 7 0 (goM 0 (wlS k L n ls 0) C2 (YB 0 j 9 (fun i=>i<j) (fun _=>False) (fun i=>i=j) (fun _=>False) (fun _=>wlN) (fun _=>wlR) (fun _=>wlR)))
theorem Z9T.lt {j i:Nat} (hC:Z9T ls j) (hi:i<=j) (hx:Z1c (ls.getD i 0)=true):i<j:=by
 rcases Jo i j with q|q
 ·exact q
 ·have e:i=j:=by omega
  subst e
  exact absurd (hC.n.symm.trans hx) (by decide)
theorem Z9T.eq {j i:Nat} (hC:Z9T ls j) (hi:i<=j) (hx:Z1c (ls.getD i 0)=false):i=j:=by
 rcases Jo i j with q|q
 ·exact absurd ((hC.h i q).symm.trans hx) (by decide)
 ·omega
theorem Z9T.n12 {j i:Nat} (hC:Z9T ls j) (hi:i<=j):i<12:=by have:=hC.jl;omega
theorem ZiP (Y:ClS) (L:List ZR) (n:Nat) (k:ClS) (ls:LI) (j:Nat):(Zlv Zt nxC (kkC nxC Y L) L n (Zln Y L n) k ls j (Z9T ls j)).Ok:=
 Za.withGoM (N:=20) (S:=fun i=>wlS k L n ls i) (Zbb none Y L n) (by kernel_rfl) fun hC=>⟨rfl,fun i hi _=>Zqk Zt nxC none _ L n _ k ls i _ _ hC.l (hC.n12 hi) (fun _ hx=>⟨hC.lt hi hx,hC.lt hi hx⟩) (fun _ hx=>hC.eq hi hx)⟩
theorem ZoV (W:Int->LI) (X:ClS->ZR->ClS) (G:Nat->ClS) (L:List ZR) (n:Nat) (C:Prop) (k:ClS) (ls:LI) (j:Nat) (C2:Prop) (hls:ls=Z6C k) (hC2:C2):
  evF (Zlv W X G L n C k ls j C2) 20 7 [.agg k.c,.vrows 305 n (YA L) n] ⟨0,[]⟩ (Xr fun v=>v=.bool true):=by
 refine @Eq.mpr _ (let u:=decide (n=n);let a:=k.t;let q:=a.fund;let f:=a.index;let e:=a.cap;let d:=a.dust;let c:=a.fee;let b:=a.delay;let p:=a.k0;let s:=a.k1;let o:=k.side;let r:=[k.a0,k.a1];let m:=k.least;let l:=k.most;let h:=k.last;let g:=k.fee;
 Z7 u (YA L=YA L/\Z7 u (q=q/\Z6 (f=f) (Z6 (e=e) (Z6 (d=d) (Z6 (c=c) (Z6 (b=b) (p=p/\s=s/\Z6 (o=o) (r=r/\Z6 (m=m) (Z6 (l=l) (Z6 (k.offers=k.offers) (Z6 (h=h) (Z6 (k.agrees=k.agrees) (Z6 (g=g) ([f,e,d,c,b,o,k.a0,k.a1,m,l,h,g]=ls/\C2/\∀(i:Nat),i<=j->(∀(j_1:Nat),j_1<i->(fun (i:Nat)=>i<j) j_1)->(False->False)/\(i=j->AV.bool true=AV.bool true)/\(False->False)))))))))))))))) (by kernel_rfl) ?_
 conv=>zeta
 try simp only [vcA]
 try simp only [vcB]
 try simp only [vcC]
 exact ⟨hls.symm,hC2,fun i hi _=>⟨fun h=>h,fun _=>trivial,fun h=>h⟩⟩
theorem ZoW (W:Int->LI) (X:ClS->ZR->ClS) (G:Nat->ClS) (L:List ZR) (n:Nat) (C:Prop) (k:ClS) (ls:LI) (C2:Prop) (hn:n<9223372036854775808) (hls:ls=Z6C k) (hC2:C2) (hk:RwC k) (hB:(Yw W k).length<90000000000000/\Bytes (Yw W k)) (hR:Qn (Yw W k) none):
  evF (Zgl W X none G L n C k ls C2) 20 7 [.agg k.c,.vrows 305 n (YA L) n] ⟨0,[]⟩ (Xr fun v=>v=.bool true):=by
 refine @Eq.mpr _ (let E:=decide (n=n);let w:=YA L;let a:=k.t;let u:=a.fund;let g:=a.index;let f:=a.cap;let e:=a.dust;let d:=a.fee;let c:=a.delay;let C:=a.k0;let B:=a.k1;let q:=k.side;let z:=[k.a0,k.a1];let p:=k.least;let o:=k.most;let y:=k.offers;let m:=k.last;let x:=k.agrees;let l:=k.fee;let v:=AV.bool true=AV.bool true;
 Z7 E (w=w/\
 Z7 E (u=u/\
 Z6 (g=g) (Z6 (f=f) (Z6 (e=e) (Z6 (d=d) (Z6 (c=c) (C=C/\
 B=B/\
 Z6 (q=q) (z=z/\
 Z6 (p=p) (Z6 (o=o) (Z6 (y=y) (Z6 (m=m) (Z6 (x=x) (Z6 (l=l) ([g,f,e,d,c,q,k.a0,k.a1,p,o,m,l]=ls/\
 C2/\
 ∀(i:Nat),
 i<=12->
 (∀(j:Nat),j<i->(fun (i:Nat)=>i<12) j)->
 (i=12->
 ∃(A:List ZR),
 ZiK w A/\
 (n=n/\n<9223372036854775808)/\
 (Z2c A n 8=true->
 ∃(k_1:ClS),
 let D:=[AV.arr u8 32 u,AV.int i64 g,AV.int i64 f,AV.int i64 e,AV.int i64 d,AV.int i64 c,AV.arr u8 32 C,AV.arr u8 32 B,AV.int i64 q,AV.arr i64 2 z,AV.int i64 p,AV.int i64 o,AV.bool y,AV.int i64 m,AV.bool x,AV.int i64 l];let b:=List.length (Yw W k_1);let s:=List.take b (ZV 0 (Yw W k_1));
 Yv D k_1/\
 RwC k_1/\
 Z6 (0+b<=b) ((s.length=b/\b<90000000000000/\Bytes s)/\
 Qn s none/\
 ∃(k_2:ClS),
 let h:=List.length (Yw W k_2);let r:=List.take h (ZV 0 (Yw W k_2));
 Yv D k_2/\RwC k_2/\Z6 (0+h<=h) ((r.length=h/\Bytes r)/\Qn r none/\v)))/\
 (Z2c A n 8=false->v))/\
 (False->v)/\(False->False)))))))))))))))) (by kernel_rfl) ?_
 conv=>zeta
 try simp only [vcA]
 try simp only [vcB]
 try simp only [vcC]
 try simp only [Y6,JU,Jv]
 refine ⟨hls.symm,hC2,fun i hi _=>⟨fun _=>⟨L,⟨rfl⟩,hn,fun _=>⟨k,⟨rfl⟩,hk, ?_⟩,fun _=>trivial⟩,fun _=>trivial,fun h=>h⟩⟩
 refine ⟨⟨trivial,hB⟩,hR,k,⟨rfl⟩,hk,⟨trivial,hB.2⟩,hR⟩
theorem ZoX (W:Int->LI) (X:ClS->ZR->ClS) (Y:ClS) (G:Nat->ClS) (L:List ZR) (n:Nat) (C:Prop) (k:ClS) (ls:LI) (C2:Prop) (hn:n<9223372036854775808) (hls:ls=Z6C k) (hC2:C2) (hk:RwC k) (hB:(Yw W k).length<90000000000000/\Bytes (Yw W k)) (hR:Qn (Yw W k) (some Y)) (hG:G 0=Y) (hC:Z2c L n 8=true->C):
  evF (Zgl W X (some Y) G L n C k ls C2) 20 7 [.agg k.c,.vrows 305 n (YA L) n] ⟨0,[]⟩ (Xr fun v=>v=.bool true):=by
 refine @Eq.mpr _ (let v:=decide (n=n);let D:=YA L;let q3:=D=D;let b:=k.t;let y:=b.fund;let m:=b.index;let l:=b.cap;let h:=b.dust;let f:=b.fee;let u:=b.delay;let J:=b.k0;let I:=b.k1;let s:=k.side;let H:=[k.a0,k.a1];let r:=k.least;let q:=k.most;let F:=k.offers;let p:=k.last;let E:=k.agrees;let o:=k.fee;let d:=Y.t;let c:=(G 0).t;let b3:=d.fund=c.fund;let b2:=decide (d.index=c.index);let b1:=decide (d.cap=c.cap);let b0:=decide (d.dust=c.dust);let a9:=decide (d.fee=c.fee);let a8:=decide (d.delay=c.delay);let a7:=d.k0=c.k0;let a6:=d.k1=c.k1;let a5:=decide (Y.side=(G 0).side);let a4:=[Y.a0,Y.a1]=[(G 0).a0,(G 0).a1];let a3:=decide (Y.least=(G 0).least);let a2:=decide (Y.most=(G 0).most);let Z:=decide (Y.offers=(G 0).offers);let X:=decide (Y.last=(G 0).last);let V:=decide (Y.agrees=(G 0).agrees);let U:=decide (Y.fee=(G 0).fee);let B:=AV.bool true;let z:=B=B;
 Z7 v (q3/\
 Z7 v (y=y/\
 Z6 (m=m) (Z6 (l=l) (Z6 (h=h) (Z6 (f=f) (Z6 (u=u) (J=J/\
 I=I/\
 Z6 (s=s) (H=H/\
 Z6 (r=r) (Z6 (q=q) (Z6 (F=F) (Z6 (p=p) (Z6 (E=E) (Z6 (o=o) ([m,l,h,f,u,s,k.a0,k.a1,r,q,p,o]=ls/\
 C2/\
 ∀(i:Nat),
 i<=12->
 (∀(j:Nat),j<i->(fun (i:Nat)=>i<12) j)->
 (i=12->
 ∃(A:List ZR),
 ZiK D A/\
 (n=n/\n<9223372036854775808)/\
 (Z2c A n 8=true->
 ∃(k_1:ClS),
 let T:=[AV.arr u8 32 y,AV.int i64 m,AV.int i64 l,AV.int i64 h,AV.int i64 f,AV.int i64 u,AV.arr u8 32 J,AV.arr u8 32 I,AV.int i64 s,AV.arr i64 2 H,AV.int i64 r,AV.int i64 q,AV.bool F,AV.int i64 p,AV.bool E,AV.int i64 o];let e:=List.length (Yw W k_1);let x:=List.take e (ZV 0 (Yw W k_1));
 Yv T k_1/\
 RwC k_1/\
 Z6 (0+e<=e) ((x.length=e/\e<90000000000000/\Bytes x)/\
 Qn x (some Y)/\
 ∃(k_2:ClS),
 let g:=List.length (Yw W k_2);let w:=List.take g (ZV 0 (Yw W k_2));
 Yv T k_2/\
 RwC k_2/\
 Z6 (0+g<=g) ((w.length=g/\Bytes w)/\
 Qn w (some Y)/\
 Z7 v (q3/\
 Z7 v (b3/\
 Z7 b2 (Z7 b1 (Z7 b0 (Z7 a9 (Z7 a8 (a7/\
 a6/\
 Z7 a5 (a4/\
 Z7 a3 (Z7 a2 (Z7 Z (Z7 X (Z7 V (Z7 U (b3/\
 Z7 b2 (Z7 b1 (Z7 b0 (Z7 a9 (Z7 a8 (a7/\
 a6/\
 Z7 a5 (a4/\
 Z7 a3 (Z7 a2 (Z7 Z (Z7 X (Z7 V (Z7 U (C/\
 ∀(i:Nat),
 let a:=(G i).t;let S:=AV.arr u8 32 a.fund;let R:=AV.int i64 a.index;let Q:=AV.int i64 a.cap;let P:=AV.int i64 a.dust;let O:=AV.int i64 a.fee;let N:=AV.int i64 a.delay;let M:=AV.arr u8 32 a.k0;let K:=AV.arr u8 32 a.k1;let c1:=AV.int i64 (G i).side;let c0:=AV.arr i64 2 [(G i).a0,(G i).a1];let b9:=AV.int i64 (G i).least;let b8:=AV.int i64 (G i).most;let b7:=AV.bool (G i).offers;let b6:=AV.int i64 (G i).last;let b5:=AV.bool (G i).agrees;let b4:=AV.int i64 (G i).fee;
 i<=n->(∀(j:Nat),j<i->(fun (i:Nat)=>i<n) j)->(i=n/\Xo (G i)->∃(k:ClS),X7 [S,R,Q,P,O,N,M,K,c1,c0,b9,b8,b7,b6,b5,b4,B] k/\Yv [S,R,Q,P,O,N,M,K,c1,c0,b9,b8,b7,b6,b5,b4] k/\Xo k/\z)/\(False->False)/\(False->False))))))))))))))))))))))))))))))/\
 (Z2c A n 8=false->z))/\
 (False->z)/\(False->False)))))))))))))))) (by kernel_rfl) ?_
 conv=>zeta
 try simp only [vcA]
 try simp only [vcB]
 try simp only [vcC]
 try simp only [Y6,JU,Jv]
 subst hG
 refine ⟨hls.symm,hC2,fun i hi _=>⟨fun _=>⟨L,⟨rfl⟩,hn,fun hf=>⟨k,⟨rfl⟩,hk, ?_⟩,fun _=>trivial⟩,fun _=>trivial,fun h=>h⟩⟩
 refine ⟨⟨trivial,hB⟩,hR,k,⟨rfl⟩,hk,⟨trivial,hB.2⟩,hR, ?_⟩
 and_intros
 all_goals first
  | rfl
  | exact hC hf
  | exact fun j hj _=>⟨fun hx=>⟨G j,⟨rfl⟩,⟨rfl⟩,hx.2⟩,fun h=>h,fun h=>h⟩
theorem Z82 {a:AV} (h:Z54 false [.rows 305 cactTy] a):∃(n:Nat) (A:List ZR),A.length=n/\n<9223372036854775808/\(∀m∈A,m.s.Len)/\∀(E:Env) (r:Value),Zk E a r->Zk E (.vrows 305 n (YA A) n) r:=by
 cases h with|one _ _ h=>
 cases h with|rows esz ts n f hm h=>
 obtain ⟨g,hg⟩:=Zgc fun i hi=>ZcF (h i hi)
 refine ⟨n,(List.range n).map g,by simp, ?_,fun m hm=> ?_,fun E r hr=>hr.rowsC fun i hi=> ?_⟩
 ·unfold maxLen at hm
  omega
 ·obtain ⟨i,hi,rfl⟩:=List.mem_map.1 hm
  exact (hg i (K9.1 hi)).2
 ·unfold YA
  rw [(hg i hi).1,J5,List.getElem?_map,List.getElem?_range hi]
  rfl
end Go.Tk
end
section
namespace Go.Tk
open IntKind (i64 u8 u32 u64 wrap)
def closTy:List Ty:=[.arr .u8 32,.int .i64,.int .i64,.int .i64,.int .i64,.int .i64,.arr .u8 32,.arr .u8 32,.int .i64,.arr .i64 2,.int .i64,.int .i64,.bool,.int .i64,.bool,.int .i64]
theorem ZcL {a:AV} (h:Z54 true closTy a):∃k:ClS,a=.agg k.c/\k.t.All:=by
 cases h with|agg _ u h=>
 unfold closTy at h
 cases h with|cons _ a1 _ u h1 h=>
 cases h with|cons _ a2 _ u h2 h=>
 cases h with|cons _ a3 _ u h3 h=>
 cases h with|cons _ a4 _ u h4 h=>
 cases h with|cons _ a5 _ u h5 h=>
 cases h with|cons _ a6 _ u h6 h=>
 cases h with|cons _ a7 _ u h7 h=>
 cases h with|cons _ a8 _ u h8 h=>
 cases h with|cons _ a9 _ u h9 h=>
 cases h with|cons _ b1 _ u g1 h=>
 cases h with|cons _ b2 _ u g2 h=>
 cases h with|cons _ b3 _ u g3 h=>
 cases h with|cons _ b4 _ u g4 h=>
 cases h with|cons _ b5 _ u g5 h=>
 cases h with|cons _ b6 _ u g6 h=>
 cases h with|cons _ b7 _ u g7 h=>
 cases h;cases h1;cases h2;cases h3;cases h4;cases h5;cases h6;cases h7;cases h8;cases h9;cases g1;cases g2;cases g3;cases g4;cases g5;cases g6;cases g7
 rename_i x1 l1 w1 x2 w2 x3 w3 x4 w4 x5 w5 x6 w6 x7 l7 w7 x8 l8 w8 sd wd ab lab wab lo wlo hi whi of la wla ag fe wfe
 match ab,lab with
 | [a0,a1],_=>exact ⟨⟨⟨x1,x2,x3,x4,x5,x6,x7,x8⟩,sd,a0,a1,lo,hi,of,la,ag,fe⟩,rfl,⟨⟨l7,l8,Z11 l7 w7,Z11 l8 w8⟩,l1,Z11 l1 w1⟩⟩
theorem Z5u {p:Nat->Bool}:∀m,(∀i,i<m->p i=true)\/∃j,j<m/\(∀i,i<j->p i=true)/\p j=false
 | 0=>.inl fun i hi=>absurd hi (JS i)
 | m+1=>by
  rcases Z5u (p:=p) m with h|⟨j,h1,h2⟩
  ·cases hp:p m with
   | true=>
    refine .inl fun i hi=> ?_
    rcases Nat.lt_succ_iff_lt_or_eq.1 hi with q|q
    ·exact h i q
    ·rw [q];exact hp
   | false=>exact .inr ⟨m,Nat.lt_succ_self m,h,hp⟩
  ·exact .inr ⟨j,Nat.lt_succ_of_lt h1,h2⟩
theorem Zgm {n:Int}:Z1c n=true↔0<=n/\n<=4611686018427387904:=by unfold Z1c;simp
theorem ZiO.rw_ {k:ClS} (h:ZiO (Z6C k)) (ht:k.t.All):RwC k:=by
 have g:=fun i hi=>Zgm.1 (h.h i hi)
 exact ⟨⟨g 0 (by decide),g 1 (by decide),g 2 (by decide),g 3 (by decide),g 4 (by decide),g 5 (by decide),g 6 (by decide),g 7 (by decide),g 8 (by decide),g 9 (by decide),g 10 (by decide),g 11 (by decide)⟩,ht.fl,ht.ok.k0,ht.ok.k1⟩
theorem closewritten_walk {us:List AV} (h:Z55 [(true,closTy),(false,[.rows 305 cactTy])] us):Zd PP 7 us ⟨0,[]⟩ fun o h'=>∃v,o=.ret v/\h'=⟨0,[]⟩/\v=.bool true:=by
 cases h with|cons _ _ a _ _ h1 h=>
 cases h with|cons _ _ l _ _ h2 h=>
 cases h
 obtain ⟨k,rfl,ht⟩:=ZcL h1
 obtain ⟨n,A,hn,hm,hA,hr⟩:=Z82 h2
 have conv:∀{G:Za},G.Ok->G.P=PP->evF G 20 7 [.agg k.c,.vrows 305 n (YA A) n] ⟨0,[]⟩ (Xr fun v=>v=.bool true)->Zd PP 7 [.agg k.c,l] ⟨0,[]⟩ fun o h'=>∃v,o=.ret v/\h'=⟨0,[]⟩/\v=.bool true:=fun hG hp hv=>
  hp▸(YD (h:=⟨0,[]⟩) hG rfl hv (fun u hu=>hu)).conv fun E r hr0=>hr0.head (fun _ hc=>hc) fun _ hc=>hc.head (fun _ hc=>hr E _ hc) fun _ hc=>hc
 rcases Z5u (p:=fun i=>Z1c ((Z6C k).getD i 0)) 12 with hg|⟨j,hj,hg,hb⟩
 ·have hW:ZiO (Z6C k):=⟨rfl,hg⟩
  have hk:=hW.rw_ ht
  have hb:=Zgh ht
  have hB:(Yw Zt k).length<90000000000000/\Bytes (Yw Zt k):=⟨by have:=ZcB Z7V hk.f hk.h0 hk.h1;omega,hb⟩
  obtain ⟨R,hR⟩:=Zls (Yw Zt k)
  cases R with
  | none=>exact conv (Zbc none clZ A n k (Z6C k)) (by unfold Zgl Z81 ZcK;simp only [Z6B,Z2B,Z2C];rfl) (ZoW Zt nxC _ A n _ k _ _ hm rfl hW hk hB hR)
  | some Y=>
   have hR':=hR
   cases hR' with
   | some _ h1 hI=>
    have hY:Xo Y:=⟨hI,Z7R hb h1⟩
    exact conv (Zbc (some Y) Y A n k (Z6C k)) (by unfold Zgl Z81 ZcK;simp only [Z6B,Z2B,Z2C];rfl) (ZoX Zt nxC Y _ A n _ k _ _ hm rfl hW hk hB hR rfl fun hf=>⟨by have:=(Z7Y.1 hf).2;omega,hn,hY,hA⟩)
 ·exact conv (ZiP clZ A n k (Z6C k) j) (by unfold Zlv Z81 ZcK;simp only [Z6B,Z2B,Z2C];rfl) (ZoV Zt nxC _ A n _ k _ j _ rfl ⟨rfl,hj,hg,hb⟩)
end Go.Tk
namespace Go.Proofs.YtdfjhgjefkkkbaaGreat.closeWritten
open Go.ChangeShapes Go.WideShapes Go.ChangeAt Go.RowKit
theorem own:ownKnob Tryz.prog.godebug=none:=by kernel_rfl
theorem laidOut:laidOutB Tryz.prog=true:=by kernel_rfl
theorem lifted (os:Os) (started:os.Started) (H:Type) (enc:TypeId×Value->H):
  ReturnsInHanded {} Tryz.checked os 7 .any (Rows.closeWrittenSpec.pre6 enc Tryz.prog Tryz.f7 Rows.closeWrittenRow.domain false) (Rows.closeWrittenSpec.post enc Tryz.prog Tryz.f7 false true false false):=
 Go.Tk.lifted_gen (C:=Tryz.checked) (m:=8) (τs:=[(true,Go.Tk.closTy),(false,[.rows 305 Go.Tk.cactTy])]) own laidOut started (by kernel_rfl) Tryz.func7
  (ChangeSpec.witness6 (enc:=enc) (C:=Tryz.checked) false ⟨#[], #[.agg (Array.replicate 32 (.int .u8 0)++ #[.int .i64 0,.int .i64 0,.int .i64 0,.int .i64 0,.int .i64 0]++Array.replicate 64 (.int .u8 0)++ #[.int .i64 0,.int .i64 0,.int .i64 0,.int .i64 0,.int .i64 0,.bool false,.int .i64 0,.bool false,.int .i64 0]),.slice none 0 0],[]⟩ 8 (by kernel_rfl) (by kernel_rfl) (by kernel_rfl) (by kernel_rfl))
  rfl (tb:=4) rfl Tryz.underlying4 (by kernel_rfl) (by kernel_rfl) (fun ds h=>by
   match ds,h with
   | [a,b],_=>rfl) fun us h=>Go.Tk.closewritten_walk h
theorem Zlw:Tryz.pinned.checked.prog.funcNamed Rows.closeWrittenRow.func=some 7:=by kernel_rfl
theorem closed:joinedFacts Tryz.pinned.checked.prog 7 Tryz.f7 Rows.closeWrittenSpec Rows.closeWrittenRow=true:=by
 unfold joinedFacts
 repeat' with_reducible refine Go.Tk.and_mk ?_ ?_
 all_goals as_aux_lemma=>kernel_rfl
theorem over:Rows.closeWrittenRow.holds Tryz.pinned (OpenSpec.ofChange Rows.closeWrittenSpec):=
 OpenClaim.holds_of_wide 7 Tryz.f7 rfl rfl rfl rfl rfl rfl rfl ⟨rfl,rfl,rfl,rfl,rfl⟩ rfl rfl rfl rfl rfl Zlw Tryz.func7 closed
  (of_decide_eq_true (by kernel_rfl)) (by unfold Func.isWrapper;first|(rw [if_pos (by decide+kernel)];kernel_rfl)|(rw [if_neg (by decide+kernel)];exact ⟨rfl,rfl⟩))
  (fun os started H enc _=>lifted os started H enc)
theorem proved:Rows.CloseWrittenSaid:=over
end Go.Proofs.YtdfjhgjefkkkbaaGreat.closeWritten
end
