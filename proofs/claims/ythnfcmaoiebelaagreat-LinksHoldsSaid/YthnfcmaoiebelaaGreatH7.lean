/- H: part 7 of an engine (a symbolic evaluator, proved against the model) and of the walk by it. -/
import Derived.Test.YthnfcmaoiebelaaGreatH6
import Derived.Test.YthnfcmaoiebelaaGreatRows
import Derived.ChangeOld
set_option linter.unusedVariables false
set_option linter.unusedSimpArgs false
set_option maxRecDepth 100000
set_option maxHeartbeats 0
section
namespace Go.Tk
open IntKind (i64 u8 u32 u64 wrap)
variable {L:List Zk} {j nx:Nat} {τ:Ren} {bs₂:List (Nat×Blk)} {G:Zf} {X:Zb}
noncomputable def W2:Code:=rfA PP 5 0
noncomputable def W3:Code:=rfB PP 5 0
def kIn (x:Zk):AV:=.agg [.arr .u8 32 x.inn.v,.int .i64 x.inID,.arr .u8 32 Ze,.int .i64 0]
def Z7Y (x:Zk):AV:=.agg [.arr .u8 32 Ze,.int .i64 0,.arr .u8 32 x.out.v,.int .i64 x.outID]
def kiF (L:List Zk) (j:Nat):AV:=kIn (L.getD j Zq)
def koF (L:List Zk) (j:Nat):AV:=Z7Y (L.getD j Zq)
def X9:Nat->AV:=fun _=>.int .i64 1
def hiT (A:List ZQ) (n i:Nat):ZO:=(19,pt 206)::(18,pt 205)::(17,.int .i64 i)::hoT A n
noncomputable def hiB (X D:Zb) (A:List ZQ) (n i:Nat) (L:List Zk) (j:Nat):List (Nat×Blk):=[(212,.loop ⟨.ready,none,5,190,hiT A n i,[149],W2,W3,211⟩),(211,.defd),(209,.rows 66 L.length (tiR L)),(206,.flat [.map (some 204)]),(205,.flat [.map (some 203)]),(204,.fmap j (koF L) X9),(203,.fmap j (kiF L) X9),(202,.rows 98 D.Q.length (quR D.Q)),(201,.rows 32 D.S.length (seR D.S)),(200,.rows 66 D.T.length (tiR D.T)),(9,.flat [.nslice ⟨200,0,66,0,0⟩ 66 D.T.length D.T.length,.nslice ⟨201,0,32,0,0⟩ 32 D.S.length D.S.length,.nslice ⟨202,0,98,0,0⟩ 98 D.Q.length D.Q.length]),(8,.flat [.map (some 4),.map (some 5),.map (some 6),.map (some 7)]),(7,.fmap X.Q.length (qkV X.Q) (quV X.Q)),(6,.fmap X.S.length (skV Zh X.S) (seV X.S)),(5,.fmap X.T.length (tkI X.T) (tiV X.T)),(4,.fmap X.T.length (tkO X.T) (tiV X.T)),(3,.flat [.bool false])]
noncomputable def hiS (X D:Zb) (A:List ZQ) (n i:Nat) (L:List Zk) (j:Nat):St:=⟨16,[(7,.int .i64 j),(6,.int .i64 L.length),(5,.nslice ⟨209,0,66,0,0⟩ 66 L.length L.length),(0,.yield 212)],⟨213,hiB X D A n i L j⟩,[]⟩
noncomputable def hiE (X D:Zb) (A:List ZQ) (n i:Nat) (L:List Zk) (j:Nat):St:=⟨16,[(0,.yield 212)],⟨213,hiB X D A n i L j⟩,[]⟩
theorem Zla (a b a' b':LI) (i j i' j':Int) (ha:a.length=32) (hb:b.length=32) (ha':a'.length=32) (hb':b'.length=32):
  Z6O PP 33 (.agg [.arr .u8 32 a,.int .i64 i,.arr .u8 32 b,.int .i64 j]) (.agg [.arr .u8 32 a',.int .i64 i',.arr .u8 32 b',.int .i64 j']):=by
 refine @Eq.mpr _ (Z5 (a.length=32/\a'.length=32) (Z5 (b.length=32/\b'.length=32) ((a==a'&&(i==i'&&(b==b'&&j==j')))=Zz (AV.agg [AV.arr u8 32 a,AV.int i64 i,AV.arr u8 32 b,AV.int i64 j]) (AV.agg [AV.arr u8 32 a',AV.int i64 i',AV.arr u8 32 b',AV.int i64 j'])))) (by kernel_rfl) ?_
 try simp only [vcA]
 try simp only [vcB]
 try simp only [vcC]
 exact ⟨⟨ha,ha'⟩,⟨hb,hb'⟩,rfl⟩
theorem z32:Ze.length=32:=rfl
theorem Zjc (L:List Zk) (x:Zk) (j:Nat):ZU PP 33 (kIn x) j (kiF L):=⟨fun _ _=>Zla _ _ _ _ _ _ _ _ x.inn.l z32 (L.getD _ Zq).inn.l z32⟩
theorem Zjd (L:List Zk) (x:Zk) (j:Nat):ZU PP 33 (Z7Y x) j (koF L):=⟨fun _ _=>Zla _ _ _ _ _ _ _ _ z32 x.out.l z32 (L.getD _ Zq).out.l⟩
theorem Zh1 (x y:Zk):Zz (kIn x) (kIn y)=XH x.inn.v x.inID y:=by
 unfold XH
 rw [JE]
 simp only [kIn,Zz,V9,UD,decide_true,Jj,Bool.true_and,J1,beq_iff_eq]
 exact ⟨fun h=>⟨h.1.symm,h.2.1.symm⟩,fun h=>⟨h.1.symm,h.2.symm,trivial,trivial⟩⟩
theorem Zh2 (x y:Zk):Zz (Z7Y x) (Z7Y y)=Y9 x.out.v x.outID y:=by
 unfold Y9
 rw [JE]
 simp only [Z7Y,Zz,V9,UD,decide_true,Jj,Bool.true_and,J1,beq_iff_eq]
 exact ⟨fun h=>⟨h.2.2.1.symm,h.2.2.2.symm⟩,fun h=>⟨trivial,trivial,h.1.symm,h.2.symm⟩⟩
structure Z9t (L:List Zk):Prop where
 o:L.Pairwise fun a b=>Y9 b.out.v b.outID a=false
 i:L.Pairwise fun a b=>XH b.inn.v b.inID a=false
theorem Zje (h:Z9t L) (hj:j<L.length):Zo (fun i=>Zz (kIn (L.getD j Zq)) (kIn (L.getD i Zq))) j=j:=Xm fun i hi=>by
 have:=Ji.1 h.i i j (by omega) hj hi
 rw [Zh1,getD_at hj,getD_at (by omega)]
 exact this
theorem Zjf (h:Z9t L) (hj:j<L.length):Zo (fun i=>Zz (Z7Y (L.getD j Zq)) (Z7Y (L.getD i Zq))) j=j:=Xm fun i hi=>by
 have:=Ji.1 h.o i j (by omega) hj hi
 rw [Zh2,getD_at hj,getD_at (by omega)]
 exact this
theorem ZaE {k:Nat} {n:Nat} {kf kf' vf':Nat->AV} (hp:∀j,agP (kf j)) (h:∀j,j<n->kf' j=kf j/\vf' j=.int .i64 1):Z8 k τ n kf X9 kf' vf':=⟨fun j hj=>by
 obtain ⟨e1,e2⟩:=h j hj
 rw [e1,e2]
 exact ⟨Z6o (hp j),by simp [X9,eqV,Z5,Z6]⟩⟩
theorem ZeW (L:List Zk) (j:Nat):agP (kiF L j):=by
 refine ⟨_,rfl,rfl,fun v hv=> ?_⟩
 simp only [J7,JB,or_false] at hv
 rcases hv with rfl|rfl|rfl|rfl<;>first|exact .inl rfl|exact .inr ⟨_,_,_,rfl⟩
theorem ZeX (L:List Zk) (j:Nat):agP (koF L j):=by
 refine ⟨_,rfl,rfl,fun v hv=> ?_⟩
 simp only [J7,JB,or_false] at hv
 rcases hv with rfl|rfl|rfl|rfl<;>first|exact .inl rfl|exact .inr ⟨_,_,_,rfl⟩
theorem Z2M {f:Nat->AV} {n:Nat} {v:AV} {g:Nat->AV} (h:∀i,i<n->f i=g i) (hv:v=g n) (hj:j<n+1):YV f n v j=g j:=by
 unfold YV
 split
 ·rename_i hb
  rw [J0 hb]
  exact hv
 ·rename_i hb
  have hne:j≠n:=fun e=>by subst e;simp at hb
  exact h j (by omega)
theorem XY {x y:Nat} {B:Blk} {l:List (Nat×Blk)} (h:x≠y):Zr ((x,B)::l) y=Zr l y:=by
 rw [Zr,Zu h]
theorem Ul {x y:Nat} {l:List (Nat×Blk)} (h:x≠y):Zr (Zy l x) y=Zr l y:=YX _ _ _ h
def Zh3 (bs:List (Nat×Blk)):Bool:=bs.all fun p=>Nat.blt p.1 100||Nat.ble 160 p.1
theorem Z6x {bs:List (Nat×Blk)} (h:Zh3 bs=true) {i:Nat} (hi:i<=60):∀p∈bs,∀j,j<i->p.1≠100+j:=fun p hp j hj=>by
 have:=Ku.1 h p hp
 rw [JK] at this
 rcases this with h|h
 ·have:=J9 h
  omega
 ·have:=J9 h
  omega
theorem ZeY {k i:Nat} {bs:List (Nat×Blk)} (hi:i<=60) (hk:160<=nx) (hg:∀j,j<i->Zr bs (100+j)=some .defd) (hn:Zh3 bs₂=true):Wv k [] YS i nx bs bs₂ none:=
 ⟨nofun,hg,by omega,fun a b _ _ (h:100+a=100+b)=>by omega,fun p hp=>(JB hp).elim,fun j _=>⟨fun _=>rfl,fun _=>rfl⟩,Z6x hn hi⟩
theorem ZmH (X D:Zb) (A:List ZQ) (n i:Nat) (F:List (Nat×Blk)) (Dl:List X4) (L:List Zk) (j:Nat) (r r0:Nat->Nat) (go ex:Prop) (hi:i<=60) (hF:F=tlB YS i) (hr:r=YS) (hr0:r0=YS) (hL:L.length<=48) (hj:j<=L.length) (ho:Z9t L) (hg:j<L.length->go) (hx:j=L.length->ex):
  ZF G0 40 63 0 213 (tlV false F Dl (hiS X D A n i L j)) (rdT 213 0 false r r0 i i (hiS X D A n i L (j+1)) (hiE X D A n i L j) go ex):=by
 refine @Eq.mpr _ (let u:=L.length;let q2:=(↑u:Int);let q3:=(0:Nat)+Int.toNat (↑j:Int);let q4:=List.getD L q3 Zq;let q5:=q4.outID;let q6:=decide (q5=q5);let q7:=q4.out.v;let U:=q7=q7;let q9:=AV.arr u8 (32:Nat) q4.inn.v;let h5:=AV.int i64 q4.inID;let e3:=AV.arr u8 (32:Nat) Ze;let e2:=AV.int i64 (0:Int);let g1:=[e3,e2];let g0:=q9::h5::g1;let e1:=AV.agg g0;let k:=kiF L;let f9:=ZU PP (33:Nat) e1 j k;let f8:=Zo (fun (i:Nat)=>Zz e1 (AV.agg (AV.arr u8 (32:Nat) (List.getD L i Zq).inn.v::AV.int i64 (List.getD L i Zq).inID::g1))) j;let f7:=Nat.blt f8 j;let a0:=[(149:Nat)];let f6:=(5:FuncId)=(5:FuncId)/\(190:Nat)=(190:Nat)/\a0=a0/\W2=W2/\W3=W3;let R:=decide ((↑i:Int)=(↑i:Int));let f:=decide (n=n);let P:=haR A=haR A;let h:=decide (u=u);let O:=Z9 (213:Nat) [] u (tiR L) (tiR L);let b5:=decide (j=j);let g:=koF L;let f5:=Z8 (213:Nat) [] j g X9 g X9;let f4:=Z8 (213:Nat) [] j k X9 k X9;let t:=D.Q.length;let e:=decide (t=t);let e0:=quR D.Q;let N:=Z9 (213:Nat) [] t e0 e0;let s:=D.S.length;let d:=decide (s=s);let d9:=seR D.S;let M:=Z9 (213:Nat) [] s d9 d9;let q:=D.T.length;let c:=decide (q=q);let d8:=tiR D.T;let K:=Z9 (213:Nat) [] q d8 d8;let J:=decide (q<=q);let I:=decide (s<=s);let H:=decide (t<=t);let d7:=X.Q;let b4:=d7.length;let G:=decide (b4=b4);let d6:=qkV d7;let d5:=quV d7;let E:=Z8 (213:Nat) [] b4 d6 d5 d6 d5;let d4:=X.S;let b3:=d4.length;let C:=decide (b3=b3);let d3:=skV Zh d4;let d2:=seV d4;let B:=Z8 (213:Nat) [] b3 d3 d2 d3 d2;let b2:=X.T;let z:=b2.length;let b:=decide (z=z);let d1:=tkI b2;let y:=tiV b2;let x:=Z8 (213:Nat) [] z d1 y d1 y;let d0:=tkO b2;let w:=Z8 (213:Nat) [] z d0 y d0 y;let f3:=[AV.arr u8 (32:Nat) q7,AV.int i64 q5];let f2:=e3::e2::f3;let Z:=((216:Nat),Blk.flat f2);let Y:=((215:Nat),Blk.flat g0);let f1:=Blk.flat (q9::h5::f3);let W:=((214:Nat),f1);let V:=((213:Nat),f1);let f0:=((19:Nat),AV.ptr (some (ZD.mk (206:Nat) (0:Nat) (0:Nat) (0:Nat) (0:Nat))))::((18:Nat),AV.ptr (some (ZD.mk (205:Nat) (0:Nat) (0:Nat) (0:Nat) (0:Nat))))::((17:Nat),AV.int i64 (↑i:Int))::hoT A n;let p:=((211:Nat),Blk.defd);let o:=((209:Nat),Blk.rows (66:Nat) u (tiR L));let m:=((206:Nat),Blk.flat [AV.map (some (204:Nat))]);let l:=((205:Nat),Blk.flat [AV.map (some (203:Nat))]);let c9:=((204:Nat),Blk.fmap j g X9);let c8:=((203:Nat),Blk.fmap j k X9);let b1:=((202:Nat),Blk.rows (98:Nat) t e0);let b0:=((201:Nat),Blk.rows (32:Nat) s d9);let a9:=((200:Nat),Blk.rows (66:Nat) q d8);let a8:=((9:Nat),Blk.flat [AV.nslice (ZD.mk (200:Nat) (0:Nat) (66:Nat) (0:Nat) (0:Nat)) (66:Nat) q q,AV.nslice (ZD.mk (201:Nat) (0:Nat) (32:Nat) (0:Nat) (0:Nat)) (32:Nat) s s,AV.nslice (ZD.mk (202:Nat) (0:Nat) (98:Nat) (0:Nat) (0:Nat)) (98:Nat) t t]);let a7:=((8:Nat),Blk.flat [AV.map (some (4:Nat)),AV.map (some (5:Nat)),AV.map (some (6:Nat)),AV.map (some (7:Nat))]);let a6:=((7:Nat),Blk.fmap b4 d6 d5);let a5:=((6:Nat),Blk.fmap b3 d3 d2);let a4:=((5:Nat),Blk.fmap z d1 y);let a3:=((4:Nat),Blk.fmap z d0 y);let a2:=((3:Nat),Blk.flat [AV.bool false]);let e9:=Zy (Zy (Zy (Zy (Zy F (213:Nat)) (214:Nat)) (212:Nat)) (215:Nat)) (216:Nat);let c7:=((212:Nat),Blk.loop (Uv.mk LoopState.ready none (5:FuncId) (190:Nat) (hiT A n i) a0 W2 W3 (211:Nat)));let e8:=[b1,b0,a9,a8,a7,a6,a5,a4,a3,a2];let e7:=c7::p::o::m::l::c9::c8::e8;let e6:=(LoopState.done=LoopState.ready/\some Code.ret=none/\f6)/\Z4 R (Z4 f (P/\Z4 f (Z4 h (O/\Z4 b5 (f5/\Z4 b5 (f4/\Z4 e (N/\Z4 d (M/\Z4 c (K/\Z4 c (Z4 J (Z4 d (Z4 I (Z4 e (Z4 H (Z4 G (E/\Z4 C (B/\Z4 b (x/\Z4 b (w/\Wv (213:Nat) [] r0 i (213:Nat) (Z::Y::W::V::((212:Nat),Blk.loop (Uv.mk LoopState.done (some Code.ret) (5:FuncId) (190:Nat) f0 a0 W2 W3 (211:Nat)))::p::o::m::l::c9::c8::b1::b0::a9::a8::a7::a6::a5::a4::a3::a2::Zy (Zy e9 (3:Nat)) (212:Nat)) e7 none/\ex)))))))))))))))))));let c6:=AV.agg f2;let c5:=ZU PP (33:Nat) c6 j g;let e5:=Zo (fun (i:Nat)=>Zz c6 (AV.agg [e3,e2,AV.arr u8 (32:Nat) (List.getD L i Zq).out.v,AV.int i64 (List.getD L i Zq).outID])) j;let c4:=Nat.blt e5 j;let a:=j+(1:Nat);let c3:=decide (wrap i64 ((↑j:Int)+(1:Int))=(↑a:Int));let c2:=decide (q2=q2);let c1:=decide (u<=u);let a1:=LoopState.ready=LoopState.ready/\(none:Option Code)=none/\f6;let c0:=decide (j=a);let e4:=AV.int i64 (1:Int);let h4:=YV X9 e5 e4;let h3:=Z8 (213:Nat) [] a g X9 g h4;let h2:=YV X9 f8 e4;let h1:=Z8 (213:Nat) [] a k X9 k h2;let b9:=((212:Nat),Blk.loop (Uv.mk LoopState.ready none (5:FuncId) (190:Nat) f0 a0 W2 W3 (211:Nat)));let h0:=((204:Nat),Blk.fmap j g h4);let g9:=b1::b0::a9::a8::a7::a6::a5::a4::a3::a2::Zy (Zy (Zy e9 (203:Nat)) (204:Nat)) (212:Nat);let g8:=((203:Nat),Blk.fmap j k h2)::g9;let b8:=c7::p::o::m::l::((204:Nat),Blk.fmap a g X9)::((203:Nat),Blk.fmap a k X9)::e8;let b7:=decide (a=a);let g7:=YV g j c6;let b6:=YV X9 j e4;let g6:=Z8 (213:Nat) [] a g X9 g7 b6;let g5:=((204:Nat),Blk.fmap a g7 b6);let g4:=YV k j e1;let g3:=Z8 (213:Nat) [] a k X9 g4 b6;let g2:=((203:Nat),Blk.fmap a g4 b6)::g9;
 Z6 (decide ((↑j:Int)<q2)) (Z5 ((0:Int)<=(↑j:Int)/\(↑j:Int)<q2) (Z5 (q3<u) (Z4 q6 (U/\
 Z4 q6 (U/\
 Z4 q6 (U/\
 f9/\
 Z6 f7 e6 (c5/\
 Z6 c4 e6 (f9/\
 Z6 f7 (Ze=Ze/\
 U/\
 Z4 q6 (c5/\
 Z6 c4 (Z4 c3 (Z4 c2 (Z4 h (Z4 c1 (a1/\Z4 R (Z4 f (P/\Z4 f (Z4 h (O/\Z4 c0 (h3/\Z4 c0 (h1/\Z4 e (N/\Z4 d (M/\Z4 c (K/\Z4 c (Z4 J (Z4 d (Z4 I (Z4 e (Z4 H (Z4 G (E/\Z4 C (B/\Z4 b (x/\Z4 b (w/\Wv (213:Nat) [] r i (213:Nat) (Z::Y::W::V::b9::p::o::m::l::h0::g8) b8 none/\go)))))))))))))))))))))))) (Z4 c3 (Z4 c2 (Z4 h (Z4 c1 (a1/\Z4 R (Z4 f (P/\Z4 f (Z4 h (O/\Z4 b7 (g6/\Z4 c0 (h1/\Z4 e (N/\Z4 d (M/\Z4 c (K/\Z4 c (Z4 J (Z4 d (Z4 I (Z4 e (Z4 H (Z4 G (E/\Z4 C (B/\Z4 b (x/\Z4 b (w/\Wv (213:Nat) [] r i (213:Nat) (Z::Y::W::V::b9::p::o::m::l::g5::g8) b8 none/\go)))))))))))))))))))))))))) (Ze=Ze/\
 U/\
 Z4 q6 (c5/\
 Z6 c4 (Z4 c3 (Z4 c2 (Z4 h (Z4 c1 (a1/\Z4 R (Z4 f (P/\Z4 f (Z4 h (O/\Z4 c0 (h3/\Z4 b7 (g3/\Z4 e (N/\Z4 d (M/\Z4 c (K/\Z4 c (Z4 J (Z4 d (Z4 I (Z4 e (Z4 H (Z4 G (E/\Z4 C (B/\Z4 b (x/\Z4 b (w/\Wv (213:Nat) [] r i (213:Nat) (Z::Y::W::V::b9::p::o::m::l::h0::g2) b8 none/\go)))))))))))))))))))))))) (Z4 c3 (Z4 c2 (Z4 h (Z4 c1 (a1/\Z4 R (Z4 f (P/\Z4 f (Z4 h (O/\Z4 b7 (g6/\Z4 b7 (g3/\Z4 e (N/\Z4 d (M/\Z4 c (K/\Z4 c (Z4 J (Z4 d (Z4 I (Z4 e (Z4 H (Z4 G (E/\Z4 C (B/\Z4 b (x/\Z4 b (w/\Wv (213:Nat) [] r i (213:Nat) (Z::Y::W::V::b9::p::o::m::l::g5::g2) b8 none/\go)))))))))))))))))))))))))))))))))) (a1/\Z4 R (Z4 f (P/\Z4 f (Z4 h (O/\Z4 b5 (f5/\Z4 b5 (f4/\Z4 e (N/\Z4 d (M/\Z4 c (K/\Z4 c (Z4 J (Z4 d (Z4 I (Z4 e (Z4 H (Z4 G (E/\Z4 C (B/\Z4 b (x/\Z4 b (w/\Wv (213:Nat) [] r0 i (213:Nat) (c7::p::o::m::l::c9::c8::b1::b0::a9::a8::a7::a6::a5::a4::a3::a2::F) e7 none/\ex))))))))))))))))))))) (by kernel_rfl) ?_
 conv=>zeta
 try simp only [vcA]
 try simp only [vcB]
 try simp only [vcC]
 subst hr hr0
 have hq:∀a τ,Z9 a τ L.length (tiR L) (tiR L):=fun a τ=>Zj ZX fun _ _=>rfl
 obtain ⟨⟨m1,m2,m3,m4⟩,d1,d2,d3⟩:=JH (Xr Zh X 213 []) (Z0j D 213 [])
 have hm:∀j,j<i->Zr F (100+j)=some .defd:=fun j h=>by subst hF;exact Z6u h
 have hM:∀{kf vf:Nat->AV},(∀i,i<j->kf i=koF L i/\vf i=.int .i64 1)->Z8 213 [] j (koF L) X9 kf vf:=fun h=>ZaE (ZeX L) h
 have hM':∀{kf vf:Nat->AV},(∀i,i<j->kf i=kiF L i/\vf i=.int .i64 1)->Z8 213 [] j (kiF L) X9 kf vf:=fun h=>ZaE (ZeW L) h
 have hN:Z8 213 [] (j+1) (koF L) X9 (YV (koF L) j (Z7Y (L.getD j Zq))) (YV X9 j (.int .i64 1)):=ZaE (ZeX L) fun i hi=>⟨Z2M (fun _ _=>rfl) rfl hi,Z2M (g:=X9) (fun _ _=>rfl) rfl hi⟩
 have hN':Z8 213 [] (j+1) (kiF L) X9 (YV (kiF L) j (kIn (L.getD j Zq))) (YV X9 j (.int .i64 1)):=ZaE (ZeW L) fun i hi=>⟨Z2M (fun _ _=>rfl) rfl hi,Z2M (g:=X9) (fun _ _=>rfl) rfl hi⟩
 have hnI:∀{p:Nat->Bool},Zo p j=j->¬Nat.blt (Zo p j) j=true:=fun h hb=>by rw [h] at hb;simp at hb
 refine ⟨fun hlt=> ?_,fun hge=> ?_⟩
 ·have hlt':j<L.length:=by omega
  have kI:=Zje ho hlt'
  have kO:=Zjf ho hlt'
  have yI:=Zjc L (L.getD j Zq) j
  have yO:=Zjd L (L.getD j Zq) j
  have hw:i64.wrap ((j:Int)+1)=((j+1:Nat):Int):=by rw [w64 (by omega)];omega
  refine ⟨⟨by omega,hlt⟩,hlt',yI,fun hb=>absurd hb (hnI kI),fun _=>⟨yO,fun hb=>absurd hb (hnI kO),fun _=>⟨yI,fun hb=>absurd hb (hnI kI),fun _=> ?_⟩⟩⟩
  exact ⟨yO,fun hb=>absurd hb (hnI kO),fun _=>⟨hw,hq _ _,hN,hN',d3,d2,d1,m4,m3,m2,m1,ZeY hi (by decide) (fun j hj=>by simp (disch:=omega) only [XY,Ul];exact hm j hj) rfl,hg hlt'⟩⟩
 ·exact ⟨hq _ _,hM fun _ _=>⟨rfl,rfl⟩,hM' fun _ _=>⟨rfl,rfl⟩,d3,d2,d1,m4,m3,m2,m1,ZeY hi (by decide) (fun j hj=>by simp (disch:=omega) only [XY,Ul];exact hm j hj) rfl,hx (by omega)⟩
structure HiC (F:List (Nat×Blk)) (r:Nat->Nat) (i:Nat) (L:List Zk):Prop where
 f:F=tlB YS i
 r:r=YS
 i:i<=60
 l:L.length<=48
 o:Z9t L
theorem Zf.withL_imp (hG:G.Ok) {f:FuncId} {id:Nat} {S S':Nat->St->KE->Prop} (h1:(G.withL f id S).Ok) (hS:∀k s X,S' k s X->S k s X):(G.withL f id S').Ok where
 draw:=hG.draw
 psumm:=hG.psumm
 fsumm:=hG.fsumm
 lsumm:=fun f' id' S0 fn c body hS0 hf hb hm k s X hs=>by
  simp only [Zf.withL] at hS0
  split at hS0
  ·cases hS0
   have hs:=hS _ _ _ hs
   have a1:=h1.lsumm f' id' S fn c body
   simp_all [Zf.withL]
  ·exact hG.lsumm f' id' S0 fn c body hS0 hf hb hm k s X hs
noncomputable def hiG (X D:Zb) (A:List ZQ) (n i:Nat) (L:List Zk) (F:List (Nat×Blk)) (r:Nat->Nat):Nat->St->KE->Prop:=goT 213 false r i (hiS X D A n i L 0) (HiC F r i L) (Yx 0 L.length 9 (fun j=>j<L.length) (fun j=>j=L.length) (fun _=>False) (fun _=>False) (fun j=>tlV false F [] (hiE X D A n i L j)) (fun _=>dtN) (fun _=>dtN))
noncomputable def hiL:Nat->St->KE->Prop:=fun k s Y=>∃(X D:Zb) (A:List ZQ) (n i:Nat) (L:List Zk) (F:List (Nat×Blk)) (r:Nat->Nat),hiG X D A n i L F r k s Y
theorem Zjg (hG:G.Ok) (hP:G.P=G0.P):(G.withL 63 0 hiL).Ok:=by
 refine Zf.withL_join (H:=G0) hG hP ?_
 refine Zf.withL_imp Zt (S:=ZjH fun p:(Zb×Zb)×(List ZQ×Nat×Nat)×List Zk×List (Nat×Blk)×(Nat->Nat)=>hiG p.1.1 p.1.2 p.2.1.1 p.2.1.2.1 p.2.1.2.2 p.2.2.1 p.2.2.2.1 p.2.2.2.2) (Zf.withL_ex Zt fun p=> ?_) fun k s X ⟨a,b,c,d,e,f,g,h,hh⟩=>⟨((a,b),(c,d,e),f,g,h),hh⟩
 obtain ⟨⟨X,D⟩,⟨A,n,i⟩,L,F,r⟩:=p
 refine Zf.withGoW (N:=40) (k:=213) (n:=L.length) (l:=9) (C:=HiC F r i L) (S:=fun j=>tlS false i (hiS X D A n i L j)) (En:=fun j=>tlV false F [] (hiE X D A n i L j)) (Rn:=fun _=>dtN) (Jn:=fun _=>dtN) (go:=fun j=>j<L.length) (ex:=fun j=>j=L.length) (re:=fun _=>False) (jm:=fun _=>False) Zt (by kernel_rfl) (fun k' s Y h=> ?_) fun hC j hj _=> ?_
 ·exact Zl8 h
 ·obtain ⟨hF,hr,hi,hl,ho⟩:=hC
  subst hF hr
  exact ⟨_,ZmH X D A n i _ (tlD YS i) L j YS YS (j<L.length/\j<L.length) (j=L.length) hi rfl rfl rfl hl hj ho (fun h=>⟨h,h⟩) fun h=>h,fun e s h=>ZhM h⟩
def rZ (i z j:Nat):Nat:=if j=i then z else 100+j
def Zlb (z:Nat) (τ:Ren):Bool:=τ.all fun p=>(Nat.blt p.1 100||Nat.ble 160 p.1)&&((Nat.blt p.2 100||Nat.ble 160 p.2)&& !Nat.beq p.2 z)
theorem Z6y {a i:Nat} (h:(Nat.blt a 100||Nat.ble 160 a)=true) (hi:i<60):a≠100+i:=by
 rw [JK] at h
 rcases h with h|h
 ·have:=J9 h
  omega
 ·have:=J9 h
  omega
theorem ZeZ {i z:Nat}:∀{n:Nat},n<=i->tlD (rZ i z) n=tlD YS n
 | 0,_=>rfl
 | n+1,h=>by
  rw [tlD,tlD,ZeZ (by omega)]
  unfold rZ YS
  rw [if_neg (by omega)]
theorem Zlc {i z:Nat} {bs:List (Nat×Blk)} {d:List X4} (hi:i+1<=60) (hk:160<=nx) (hz:160<=z) (hd:d=.mark z::tlD YS i) (hg:∀j,j<i->Zr bs (100+j)=some .defd) (hgz:Zr bs z=some .defd) (hτ:Zlb z τ=true) (hn:Zh3 bs₂=true):Wv 0 τ (rZ i z) (i+1) nx bs bs₂ (some d) where
 d l h:=by
  cases h
  rw [hd,tlD,ZeZ (J2 _)]
  unfold rZ
  rw [if_pos rfl]
 g j hj:=by
  unfold rZ
  split
  ·exact hgz
  ·exact hg j (by omega)
 lt:=by omega
 inj a b ha hb h:=by
  unfold rZ at h
  split at h<;>split at h<;>omega
 key p hp j hj:=by
  have:=Ku.1 hτ p hp
  rw [J1,J1] at this
  refine ⟨Z6y this.1 (by omega), ?_⟩
  unfold rZ
  split
  ·intro e
   rw [e] at this
   simp at this
  ·exact Z6y this.2.1 (by omega)
 low j hj:=⟨fun h=>absurd h (Js _),fun h=>absurd h (Js _)⟩
 nf:=Z6x hn hi
theorem Zld {i:Nat} {bs:List (Nat×Blk)} {d:List X4} (hi:i<=60) (hk:160<=nx) (hd:d=tlD YS i) (hg:∀j,j<i->Zr bs (100+j)=some .defd) (hτ:Zlb 160 τ=true) (hn:Zh3 bs₂=true):Wv 0 τ YS i nx bs bs₂ (some d) where
 d l h:=by cases h;exact hd
 g:=hg
 lt:=by omega
 inj a b ha hb h:=by
  have h:100+a=100+b:=h
  omega
 key p hp j hj:=by
  have:=Ku.1 hτ p hp
  rw [J1,J1] at this
  exact ⟨Z6y this.1 (by omega),Z6y this.2.1 (by omega)⟩
 low j hj:=⟨fun h=>absurd h (Js _),fun h=>absurd h (Js _)⟩
 nf:=Z6x hn hi
noncomputable def Zh4 (R:LI->Option Zb):Zf:=(Zjb R).withL 63 0 hiL
theorem Zh5:(Zh4 (rdX (ZB ZC))).Ok:=Zjg ZaD rfl
theorem Z9t.of {H:LI->LI} (h:X.Inv H):Z9t (srt ltT X.T):=⟨h.tr.dOuts,Y5.pairwise_iff (fun {a b} hab=>by rw [Z7P];exact hab)|>.2 h.lim.ki⟩
theorem Zf0 (h:X.Inv Zh):(Yf X).length<80000000000000:=by
 have h1:=Z4j Z0n (X:=X) h.raw.lim (Yg X).Q.length
 have h2:=h.raw.lim.q
 show (Q7 ZC X (Yg X) (Yg X).Q.length).length<_
 omega
theorem ZmI (R:LI->Option Zb) (X D X' D':Zb) (A:List ZQ) (n i:Nat) (F:List (Nat×Blk)) (Dl:List X4) (r r0:Nat->Nat) (go ex:Prop) (hi:i<=n) (hn:n<=60) (hX:X.Inv Zh) (hD:ZP D) (eX:X'=acX Zh Yj hhD (A.getD i Z2a) X) (eD:D'=acD Yj hhD (A.getD i Z2a) D) (hR:∀Z:Zb,Z.Inv Zh->R (Yf Z)=some (Yg Z)) (hF:F=tlB YS i) (hDl:Dl=tlD YS i) (hr:r=rZ i 211) (hr0:r0=YS) (hg:i<n->go) (hx:i=n->ex):
  ZF (Zh4 R) 40 5 0 0 (tlV true F Dl (hoS X D A n i)) (rdT 0 0 true r r0 i (i+1) (hoS X' D' A n (i+1)) hoE go ex):=by
 refine @Eq.mpr _ (let q1:=decide ((↑i:Int)<(↑n:Int));let q2:=X.T;let w:=q2.length;let a:=true=true/\true=true;let q5:=X.S;let q6:=q5.length;let q7:=X.Q;let q8:=q7.length;let l:=D.T.length;let o:=D.S.length;let m:=D.Q.length;let n1:=AV.map (some (4:Nat));let f2:=[AV.map (some (1:Nat)),AV.map (some (2:Nat)),AV.map (some (3:Nat)),n1];let n0:=tkO q2;let a9:=tiV q2;let m3:=tkI q2;let l3:=skV Zh q5;let l1:=seV q5;let l0:=qkV q7;let k9:=quV q7;let k8:=tiR D.T;let k7:=seR D.S;let k6:=quR D.Q;let f:=List.getD A (Int.toNat (↑i:Int)) Z2a;let a7:=f.tie;let a6:=f.i;let d:=f.p;let a2:=f.q;let i8:=[AV.int i64 f.what,AV.arr u8 (32:Nat) a7.inn.v,AV.int i64 a7.inID,AV.arr u8 (32:Nat) a7.out.v,AV.int i64 a7.outID,AV.arr u8 (32:Nat) f.secret.v,AV.arr u8 (32:Nat) a6.hash.v,AV.arr u8 (32:Nat) a6.key.v,AV.int i64 a6.amount,AV.int i64 a6.least,AV.bool f.own,AV.bool d.own,AV.int i64 d.id,AV.int i64 d.amount,AV.arr u8 (32:Nat) d.hash.v,AV.int i64 d.expiry,AV.int i64 d.stage,AV.int i64 d.fin,AV.arr u8 (32:Nat) d.secret.v,AV.arr u8 (32:Nat) a2.key.v,AV.arr u8 (32:Nat) a2.next.v,AV.int i64 a2.amount,AV.int i64 a2.expiry,AV.int i64 f.ht];let Z:=[(149:Nat)];let E:=haR A;let V:=AV.ptr (some (ZD.mk (8:Nat) (0:Nat) (0:Nat) (0:Nat) (0:Nat)));let h4:=AV.map (some (204:Nat));let h2:=AV.map (some (203:Nat));let h1:=ZD.mk (200:Nat) (0:Nat) (66:Nat) (0:Nat) (0:Nat);let h0:=ZD.mk (201:Nat) (0:Nat) (32:Nat) (0:Nat) (0:Nat);let g9:=ZD.mk (202:Nat) (0:Nat) (98:Nat) (0:Nat) (0:Nat);let c1:=AV.int i64 (↑i:Int);let c0:=AV.vrows (303:Nat) n E n;let g8:=ZD.mk (10:Nat) (0:Nat) (66:Nat) (0:Nat) (0:Nat);let g7:=ZD.mk (11:Nat) (0:Nat) (32:Nat) (0:Nat) (0:Nat);let g6:=ZD.mk (12:Nat) (0:Nat) (98:Nat) (0:Nat) (0:Nat);let g5:=[AV.nslice g8 (66:Nat) l l,AV.nslice g7 (32:Nat) o o,AV.nslice g6 (98:Nat) m m];let b9:=((211:Nat),Blk.defd);let b8:=((206:Nat),Blk.flat [h4]);let b7:=((205:Nat),Blk.flat [h2]);let g4:=AV.map (some (6:Nat));let g3:=AV.map (some (7:Nat));let C:=((8:Nat),Blk.flat [n1,AV.map (some (5:Nat)),g4,g3]);let O:=((3:Nat),Blk.flat [AV.bool false]);let b6:=[O];let g2:=decide (n=n);let u:=D'.Q.length;let c:=[((7:Nat),(7:Nat)),((6:Nat),(6:Nat)),((5:Nat),(5:Nat)),((4:Nat),(4:Nat)),((12:Nat),(202:Nat)),((11:Nat),(201:Nat)),((10:Nat),(200:Nat)),((3:Nat),(3:Nat)),((9:Nat),(9:Nat)),((8:Nat),(8:Nat))];let g1:=quR D'.Q;let t:=D'.S.length;let g0:=seR D'.S;let s:=D'.T.length;let f9:=tiR D'.T;let b5:=X'.Q;let b4:=b5.length;let f8:=qkV b5;let f7:=quV b5;let b3:=X'.S;let b2:=b3.length;let f6:=skV Zh b3;let f5:=seV b3;let N:=X'.T;let B:=N.length;let f4:=tkI N;let M:=tiV N;let f3:=tkO N;
 Z6 q1 (Z5 ((0:Int)<=(↑i:Int)/\(↑i:Int)<(↑n:Int)) ((∀(i:Nat),i<w->a)/\
 (∀(i:Nat),i<w->a)/\
 (∀(i:Nat),i<q6->a)/\
 (∀(i:Nat),i<q8->a)/\
 (∀(i:Nat),i<l->true=true)/\
 (∀(i:Nat),i<o->true=true)/\
 (∀(i:Nat),i<m->true=true)/\
 ∃(X_1:Zb),
 ∃(D_1:Zb),
 ∃(x:ZQ),
 let f1:=acX Zh Yj hhD x X_1;let b1:=f1.T;let b0:=b1.length;let f0:=tiV b1;let e9:=acD Yj hhD x D_1;let m9:=e9.Q;let K:=m9.length;let m8:=quR m9;let m7:=e9.S;let J:=m7.length;let m6:=seR m7;let m5:=e9.T;let I:=m5.length;let m4:=tiR m5;let e8:=f1.Q;let m2:=e8.length;let m1:=qkV e8;let m0:=quV e8;let e7:=f1.S;let l9:=e7.length;let l8:=skV Zh e7;let l7:=seV e7;let l6:=tkI b1;let l5:=[AV.nslice h1 (66:Nat) I I,AV.nslice h0 (32:Nat) J J,AV.nslice g9 (98:Nat) K K];let l4:=AV.agg l5;let l2:=AV.tuple [l4,AV.top];
 YN Zh X_1 f2 w n0 a9 w m3 a9 q6 l3 l1 q8 l0 k9/\
 QO D_1 l k8 o k7 m k6/\
 ZhE D_1 l l o o m m/\
 QP i8 x/\
 ∃(T:List Zk),
 let e6:=T.length;
 ∃(D_2:List Zk),
 let e5:=D_2.length;
 (∀(i:Nat),i<b0->a)/\
 (b0=e6/\tkO b1=tkO T/\f0=tiV T)/\
 TR T D_2/\
 ∃(T_1:List Zk),
 let e4:=T_1.length;
 ∃(D_3:List Zk),
 let z:=D_3.length;
 (∀(i:Nat),i<e6->a)/\
 (e6=e4/\tkO T=tkO T_1/\tiV T=tiV T_1)/\
 TR T_1 D_3/\
 ∃(X_2:Zb),
 let e3:=X_2.Q;let H:=e3.length;let e2:=qkV e3;let e1:=quV e3;let e0:=X_2.S;let G:=e0.length;let d9:=skV Zh e0;let d8:=seV e0;let a8:=X_2.T;let b:=a8.length;let d7:=tkI a8;let y:=tiV a8;let d6:=tkO a8;
 ∃(D_4:Zb),
 let k:=D_4.Q.length;let k5:=decide (K=k);let d5:=quR D_4.Q;let h:=D_4.S.length;let k4:=decide (J=h);let d4:=seR D_4.S;let g:=D_4.T.length;let k3:=decide (I=g);let d3:=tiR D_4.T;let k2:=((202:Nat),Blk.rows (98:Nat) k d5);let k1:=((201:Nat),Blk.rows (32:Nat) h d4);let k0:=((200:Nat),Blk.rows (66:Nat) g d3);let j9:=((9:Nat),Blk.flat [AV.nslice h1 (66:Nat) g g,AV.nslice h0 (32:Nat) h h,AV.nslice g9 (98:Nat) k k]);let j8:=decide (k=u);let j7:=decide (h=t);let j6:=decide (g=s);
 ∃(A_1:List ZQ),
 ∃(n_1:Nat),
 let j5:=decide (n=n_1);
 ∃(i_1:Nat),
 ∃(L:List Zk),
 let e:=L.length;let j4:=decide (z=e);let j3:=((209:Nat),Blk.rows (66:Nat) e (tiR L));
 ∃(F_1:List (Nat×Blk)),
 ∃(r_1:Nat->Nat),
 Z5 ((↑z:Int)=(↑e:Int)) (Z4 j4 (Z5 (e<=z) ((LoopState.ready=LoopState.ready/\(none:Option Code)=none/\(5:FuncId)=(5:FuncId)/\(190:Nat)=(190:Nat)/\Z=Z/\W2=W2/\W3=W3)/\
 Z5 ((↑i:Int)=(↑i_1:Int)) (Z4 j5 (E=haR A_1/\
 Z4 j5 (Z4 j4 (Z9 (213:Nat) [] e (tiR L) (tiR D_3)/\
 (Z8 (213:Nat) [] (0:Nat) (koF L) X9 (fun (i:Nat)=>AV.top) fun (i:Nat)=>AV.top)/\
 (Z8 (213:Nat) [] (0:Nat) (kiF L) X9 (fun (i:Nat)=>AV.top) fun (i:Nat)=>AV.top)/\
 Z4 k5 (Z9 (213:Nat) [] k d5 m8/\
 Z4 k4 (Z9 (213:Nat) [] h d4 m6/\
 Z4 k3 (Z9 (213:Nat) [] g d3 m4/\
 Z4 k3 (Z5 (g<=I) (Z4 k4 (Z5 (h<=J) (Z4 k5 (Z5 (k<=K) (Z5 (m2=H) (Z8 (213:Nat) [] H e2 e1 m1 m0/\
 Z5 (l9=G) (Z8 (213:Nat) [] G d9 d8 l8 l7/\
 Z5 (b0=b) (Z8 (213:Nat) [] b d7 y l6 f0/\
 Z5 (e4=b) (Z8 (213:Nat) [] b d6 y (tkO T_1) (tiV T_1)/\
 Wv (213:Nat) [] r_1 i_1 (213:Nat)
 (((212:Nat),
 Blk.loop
 (Uv.mk LoopState.ready none (5:FuncId) (190:Nat)
 [((148:Nat),AV.func (Fn.func (63:Nat)) [] [AV.ptr (some (ZD.mk (210:Nat) (0:Nat) (0:Nat) (0:Nat) (0:Nat)))]),((147:Nat),V),((146:Nat),AV.bool false),((145:Nat),AV.func (Fn.func (63:Nat)) [] [AV.ptr (some (ZD.mk (208:Nat) (0:Nat) (0:Nat) (0:Nat) (0:Nat)))]),((144:Nat),V),((19:Nat),AV.ptr (some (ZD.mk (206:Nat) (0:Nat) (0:Nat) (0:Nat) (0:Nat)))),((18:Nat),AV.ptr (some (ZD.mk (205:Nat) (0:Nat) (0:Nat) (0:Nat) (0:Nat)))),((143:Nat),h4),((142:Nat),h2),((141:Nat),AV.top),((140:Nat),l4),((132:Nat),l2),((139:Nat),l2),((138:Nat),AV.agg i8),((137:Nat),AV.pview (E (Int.toNat (↑i:Int))) (0:Nat)),((136:Nat),c1),((135:Nat),c0),((134:Nat),AV.agg g5),((133:Nat),V),((129:Nat),AV.bool q1),((128:Nat),AV.int i64 (↑n:Int)),((127:Nat),c0),((126:Nat),c1),((17:Nat),c1),((4:Nat),c0),((15:Nat),V),
 ((16:Nat),AV.ptr (some (ZD.mk (9:Nat) (0:Nat) (0:Nat) (0:Nat) (0:Nat)))),((12:Nat),AV.ptr (some (ZD.mk (3:Nat) (0:Nat) (0:Nat) (0:Nat) (0:Nat))))]
 Z W2 W3 (211:Nat)))::
 b9::
 ((210:Nat),Blk.flat [AV.nslice (ZD.mk (209:Nat) (0:Nat) (66:Nat) (0:Nat) (0:Nat)) (66:Nat) z z])::
 ((4:Nat),Blk.fmap e4 (tkO T_1) (tiV T_1))::((209:Nat),Blk.rows (66:Nat) z (tiR D_3))::((208:Nat),Blk.flat [AV.nslice (ZD.mk (207:Nat) (0:Nat) (66:Nat) (0:Nat) (0:Nat)) (66:Nat) e5 e5])::((207:Nat),Blk.rows (66:Nat) e5 (tiR D_2))::b8::b7::((204:Nat),Blk.map [])::((203:Nat),Blk.map [])::C::((5:Nat),Blk.fmap b0 l6 f0)::((6:Nat),Blk.fmap l9 l8 l7)::((7:Nat),Blk.fmap m2 m1 m0)::((200:Nat),Blk.rows (66:Nat) I m4)::((201:Nat),Blk.rows (32:Nat) J m6)::((202:Nat),Blk.rows (98:Nat) K m8)::((9:Nat),Blk.flat l5)::O::Zy (Zy (Zy (Zy (Zy (Zy (Zy (Zy (Zy (Zy (Zy (Zy (Zy (Zy (Zy F (8:Nat)) (4:Nat)) (5:Nat)) (6:Nat)) (7:Nat)) (10:Nat)) (11:Nat)) (12:Nat)) (9:Nat)) (205:Nat)) (206:Nat)) (4:Nat)) (208:Nat)) (4:Nat)) (210:Nat))
 (((212:Nat),Blk.loop (Uv.mk LoopState.ready none (5:FuncId) (190:Nat) (hiT A_1 n_1 i_1) Z W2 W3 (211:Nat)))::b9::j3::b8::b7::((204:Nat),Blk.fmap (0:Nat) (koF L) X9)::((203:Nat),Blk.fmap (0:Nat) (kiF L) X9)::k2::k1::k0::j9::C::((7:Nat),Blk.fmap H e2 e1)::((6:Nat),Blk.fmap G d9 d8)::((5:Nat),Blk.fmap b d7 y)::((4:Nat),Blk.fmap b d6 y)::b6) none/\
 HiC F_1 r_1 i_1 L/\
 ∀(i_2:Nat),
 i_2<=e->
 (∀(j:Nat),j<i_2->(fun (j:Nat)=>j<e) j)->
 (i_2=e->
 (∀(i:Nat),i<b->a)/\
 (∀(i:Nat),i<b->a)/\
 (∀(i:Nat),i<G->a)/\
 (∀(i:Nat),i<H->a)/\
 ∃(X_3:Zb),
 let d2:=Yf X_3;let a5:=d2.length;let d1:=List.take a5 (Yi (0:Nat) d2);let j2:=R d1;let a4:=X_3.T;let a3:=a4.length;let d0:=X_3.S;let j1:=d0.length;let c9:=X_3.Q;let j0:=c9.length;let i9:=tiV a4;
 YN Zh X_3 f2 b d6 y b d7 y G d9 d8 H e2 e1/\
 Zb.Inv Zh X_3/\
 Z5 ((0:Nat)+a5<=a5) (Zez d1 a5/\
 (∀(X:Zb),
 let a1:=X.T;let a0:=a1.length;let c8:=X.S;let i7:=c8.length;let c7:=X.Q;let i6:=c7.length;let i5:=tiV a1;
 j2=some X->
 ZgI d1 X->
 (∀(i:Nat),i<a0->a)/\
 (∀(i:Nat),i<a0->a)/\
 (∀(i:Nat),i<i7->a)/\
 (∀(i:Nat),i<i6->a)/\
 (∀(i:Nat),i<a3->a)/\
 (∀(i:Nat),i<a3->a)/\
 (∀(i:Nat),i<j1->a)/\
 (∀(i:Nat),i<j0->a)/\
 ∃(X:Zb),
 let W:=X.T;let i4:=W.length;let i3:=tiV W;let c6:=X.S;let c5:=X.Q;
 ∃(Y:Zb),
 let c4:=Y.Q;let i2:=c4.length;let i1:=qkV c4;let i0:=quV c4;let c3:=Y.S;let h9:=c3.length;let h8:=skV Zh c3;let h7:=seV c3;let U:=Y.T;let c2:=U.length;let h6:=decide (c2=B);let h5:=tkI U;let P:=tiV U;let h3:=tkO U;
 ZgK X (0:Nat) f2 a0 (tkO a1) i5 a0 (tkI a1) i5 i7 (skV Zh c8) (seV c8) i6 (qkV c7) (quV c7)/\
 ZgK Y (5:Nat) [g4,g3,AV.map (some (8:Nat)),AV.map (some (9:Nat))] a3 (tkO a4) i9 a3 (tkI a4) i9 j1 (skV Zh d0) (seV d0) j0 (qkV c9) (quV c9)/\
 Z6 (!ByteArray.toList (strOf (Yf X))==ByteArray.toList (strOf (Yf Y))) False (Z5 (wrap i64 ((↑i:Int)+(1:Int))=(↑(i+(1:Nat)):Int)) (Z4 g2 (E=E/\
 Z4 g2 (Z4 j8 (Z9 (0:Nat) c u g1 d5/\
 Z4 j7 (Z9 (0:Nat) c t g0 d4/\
 Z4 j6 (Z9 (0:Nat) c s f9 d3/\
 Z4 j6 (Z5 (s<=g) (Z4 j7 (Z5 (t<=h) (Z4 j8 (Z5 (u<=k) (Z5 (i2=b4) (Z8 (0:Nat) c b4 f8 f7 i1 i0/\
 Z5 (h9=b2) (Z8 (0:Nat) c b2 f6 f5 h8 h7/\
 Z4 h6 (Z8 (0:Nat) c B f4 M h5 P/\
 Z4 h6 (Z8 (0:Nat) c B f3 M h3 P/\
 Wv (0:Nat) c r (i+(1:Nat)) (200:Nat)
 (((214:Nat),Blk.flat [AV.map (some (215:Nat)),AV.map (some (216:Nat)),AV.map (some (217:Nat)),AV.map (some (218:Nat))])::
 ((215:Nat),Blk.fmap i4 (tkO W) i3)::((216:Nat),Blk.fmap i4 (tkI W) i3)::((217:Nat),Blk.fmap (c6.length) (skV Zh c6) (seV c6))::((218:Nat),Blk.fmap (c5.length) (qkV c5) (quV c5))::C::((4:Nat),Blk.fmap c2 h3 P)::((5:Nat),Blk.fmap c2 h5 P)::((6:Nat),Blk.fmap h9 h8 h7)::((7:Nat),Blk.fmap i2 i1 i0)::((213:Nat),Blk.ints u8 d2)::b9::j3::b8::b7::((204:Nat),Blk.fmap i_2 (koF L) X9)::((203:Nat),Blk.fmap i_2 (kiF L) X9)::k2::k1::k0::j9::O::Zy (Zy (Zy (Zy (Zy (Zy (Zy (Zy (Zy (Zy (Zy (Zy (Zy (Zy (Zy (Zy F_1 (212:Nat)) (8:Nat)) (4:Nat)) (5:Nat)) (6:Nat)) (7:Nat)) (214:Nat)) (215:Nat)) (216:Nat)) (217:Nat)) (218:Nat)) (8:Nat)) (4:Nat)) (5:Nat)) (6:Nat)) (7:Nat))
 (((12:Nat),Blk.rows (98:Nat) u g1)::((11:Nat),Blk.rows (32:Nat) t g0)::((10:Nat),Blk.rows (66:Nat) s f9)::((9:Nat),Blk.flat [AV.nslice g8 (66:Nat) s s,AV.nslice g7 (32:Nat) t t,AV.nslice g6 (98:Nat) u u])::C::((7:Nat),Blk.fmap b4 f8 f7)::((6:Nat),Blk.fmap b2 f6 f5)::((5:Nat),Blk.fmap B f4 M)::((4:Nat),Blk.fmap B f3 M)::b6) (some (X4.mark (211:Nat)::Dl))/\
 go))))))))))))))))))/\
 (j2=none->False)))/\
 (False->False)/\(False->False))))))))))))))))))))))) (Wv (0:Nat) [((3:Nat),(3:Nat))] r0 i (200:Nat) (((12:Nat),Blk.rows (98:Nat) m k6)::((11:Nat),Blk.rows (32:Nat) o k7)::((10:Nat),Blk.rows (66:Nat) l k8)::((9:Nat),Blk.flat g5)::C::((7:Nat),Blk.fmap q8 l0 k9)::((6:Nat),Blk.fmap q6 l3 l1)::((5:Nat),Blk.fmap w m3 a9)::((4:Nat),Blk.fmap w n0 a9)::O::F) b6 (some Dl)/\ex)) (by kernel_rfl) ?_
 conv=>zeta
 try simp only [vcA]
 try simp only [vcB]
 try simp only [vcC]
 subst hr hr0
 have tr:∀{n:Nat} (i:Nat),i<n->True:=fun _ _=>trivial
 have hm:∀j,j<i->Zr F (100+j)=some .defd:=fun j h=>by subst hF;exact Z6u h
 refine ⟨fun hlt=> ?_,fun hge=> ?_⟩
 ·have hlt':i<n:=by omega
  have hw:i64.wrap ((i:Int)+1)=((i+1:Nat):Int):=by rw [w64 (by omega)];omega
  have hX':X'.Inv Zh:=by rw [eX];exact ZaC hX
  have hD':ZP D':=by rw [eD];exact Zaq hD
  have hl:(srt ltT X'.T).length<=48:=by rw [W1];exact hX'.lim.t
  refine ⟨⟨by omega,hlt⟩,tr,tr,tr,tr,tr,tr,tr,X,D,A.getD i Z2a,Wf Zh hX.lim,Z4d hD,⟨⟨rfl,rfl,rfl,rfl,rfl,rfl⟩⟩,⟨rfl⟩,X'.T,srt ltT X'.T, ?_⟩
  rw [<-eX,<-eD]
  refine ⟨tr,⟨rfl,rfl,rfl⟩,hX'.tr,X'.T,srt ltT X'.T,tr,⟨rfl,rfl,rfl⟩,hX'.tr,X',D',A,n,i,srt ltT X'.T,F,YS, ?_⟩
  have m:=fun k τ=>Xr Zh X' k τ
  have d:=fun k τ=>Z0j D' k τ
  have hq:∀a τ,Z9 a τ (srt ltT X'.T).length (tiR (srt ltT X'.T)) (tiR (srt ltT X'.T)):=fun a τ=>Zj ZX fun _ _=>rfl
  have m0:∀{τ:Ren} {k:Nat} {kf vf kf' vf':Nat->AV},Z8 k τ 0 kf vf kf' vf':=⟨fun i hi=>absurd hi (Js i)⟩
  have e4:List.take (Yf X').length (Yi 0 (Yf X'))=Yf X':=by rw [ZZ,Kj,Jp]
  refine ⟨rfl,rfl,J2 _,rfl,rfl,rfl,rfl,rfl,hq _ _,m0,m0,rfl,(d _ _).2.2,rfl,(d _ _).2.1,rfl,(d _ _).1,rfl,J2 _,rfl,J2 _,rfl,J2 _,rfl,(m _ _).2.2.2,rfl,(m _ _).2.2.1,rfl,(m _ _).2.1,rfl,(m _ _).1,ZeY (by omega) (show 160<=213 by decide) (fun j hj=>by simp (disch:=omega) only [XY,Ul];exact hm j hj) rfl,⟨hF,rfl,by omega,hl,Z9t.of hX'⟩,fun i2 hi2 _=>⟨fun e=> ?_,fun h=>h,fun h=>h⟩⟩
  subst e
  refine ⟨tr,tr,tr,tr,X',Wf Zh hX'.lim,hX', ?_⟩
  rw [e4,hR X' hX']
  refine ⟨⟨rfl,Zf0 hX',Zax X'⟩,fun Z hZ hok=> ?_,fun h=>by cases h⟩
  obtain rfl:Yg X'=Z:=Option.some.inj hZ
  refine ⟨tr,tr,tr,tr,tr,tr,tr,tr,Yg X',X',⟨rfl,⟨rfl,rfl,rfl⟩,⟨rfl,rfl,rfl⟩,⟨rfl,rfl,rfl⟩,⟨rfl,rfl,rfl⟩,hX'.sorted⟩,⟨rfl,⟨rfl,rfl,rfl⟩,⟨rfl,rfl,rfl⟩,⟨rfl,rfl,rfl⟩,⟨rfl,rfl,rfl⟩,hX'⟩, ?_⟩
  exact ⟨by rw [ZeG hX'];rfl,hw,rfl,(d _ _).2.2,rfl,(d _ _).2.1,rfl,(d _ _).1,rfl,J2 _,rfl,J2 _,rfl,J2 _,rfl,(m _ _).2.2.2,rfl,(m _ _).2.2.1,rfl,(m _ _).2.1,rfl,(m _ _).1,Zlc (by omega) (show 160<=200 by decide) (show 160<=211 by decide) (by rw [hDl]) (fun j hj=>by simp (disch:=omega) only [XY,Ul];exact hm j hj) rfl rfl rfl,hg hlt'⟩
 ·exact ⟨Zld (by omega) (show 160<=200 by decide) hDl (fun j hj=>by simp (disch:=omega) only [XY,Ul];exact hm j hj) rfl rfl,hx (by omega)⟩
structure HoC (F:List (Nat×Blk)) (Dl:List X4) (n:Nat):Prop where
 le:n<=60
 f:F=tlB YS n
 d:Dl=tlD YS n
noncomputable def hoL (F:List (Nat×Blk)) (Dl:List X4) (A:List ZQ) (n:Nat):Nat->St->KE->Prop:=goM 0 (hoS ⟨[],[],[]⟩ ⟨[],[],[]⟩ A n 0) (HoC F Dl n) (Yx 0 n 9 (fun i=>i<n) (fun i=>i=n) (fun _=>False) (fun _=>False) (fun _=>tlV true F Dl hoE) (fun _=>dtN) (fun _=>dtN))
theorem Zjh (F:List (Nat×Blk)) (Dl:List X4) (A:List ZQ) (n:Nat):((Zh4 (rdX (ZB ZC))).withL 5 0 (hoL F Dl A n)).Ok:=by
 refine Zf.withGoW (N:=40) (k:=0) (n:=n) (l:=9) (C:=HoC F Dl n) (S:=fun i=>tlS true i (hoS (ZgZ A i) (Zh0 A i) A n i)) (En:=fun _=>tlV true F Dl hoE) (Rn:=fun _=>dtN) (Jn:=fun _=>dtN) (go:=fun i=>i<n) (ex:=fun i=>i=n) (re:=fun _=>False) (jm:=fun _=>False) Zh5 (by kernel_rfl) (fun k' s Y h=> ?_) fun hC i hi _=> ?_
 ·exact Zl9 h
 ·obtain ⟨hn,hF,hD⟩:=hC
  refine ⟨_,ZmI _ (ZgZ A i) (Zh0 A i) _ _ A n i _ _ (rZ i 211) YS (i<n/\i<n) (i=n) hi hn (Z7W A i) (Z7X A i) rfl rfl (fun Z hZ=>ZgP hZ) rfl rfl rfl rfl (fun h=>⟨h,h⟩) (fun h=>h),fun e s h=> ?_⟩
  have hw:=ZhM (l:=9) (Rn:=dtN) (Jn:=dtN) (re:=False) (jm:=False) h
  cases e with
  | normal=>exact hw
  | exit x=>
   obtain ⟨h1,h2,h3⟩:=hw
   refine ⟨h1,h2, ?_⟩
   subst h2 hF hD
   exact h3
  | ret=>exact hw
  | goto x=>exact hw
  | panic v=>exact hw
noncomputable def Zle (R:LI->Option Zb) (V:WH->Int) (Pb:WG->Bool) (F:List (Nat×Blk)) (Dl:List X4) (A:List ZQ) (n:Nat):Zf:=(ZhN R V Pb).withL 5 0 (hoL F Dl A n)
theorem Zh6 (F:List (Nat×Blk)) (Dl:List X4) (A:List ZQ) (n:Nat):(Zle (rdX (ZB ZC)) goZ Z1O F Dl A n).Ok:=Zf.withL_join (H:=Zh4 (rdX (ZB ZC))) ZeV rfl (Zjh F Dl A n)
theorem Z5C {V:WH->Int} {Pb:WG->Bool} {g:WH} (hI:g.I) (hG:V g=0->Pb g.p=true->ZeU g) {bad go:Prop} (hgo:go):((V g==0)=true->((Z7S (Pb g.p)==0)=true->(g.amount>=0->(g.ham>=0->(g.expiry>=0->(g.hex>=0->(g.height>=0->(g.amount<g.ham->bad)/\(¬g.amount<g.ham->(i64.wrap (g.amount-g.ham)<g.p.base->bad)/\(¬i64.wrap (g.amount-g.ham)<g.p.base->(g.expiry<g.hex->bad)/\(¬g.expiry<g.hex->(i64.wrap (g.expiry-g.hex)<g.p.delta->bad)/\(¬i64.wrap (g.expiry-g.hex)<g.p.delta->(g.hex<=g.height->bad)/\(¬g.hex<=g.height->go))))))/\(¬g.height>=0->go))/\(¬g.hex>=0->go))/\(¬g.expiry>=0->go))/\(¬g.ham>=0->go))/\(¬g.amount>=0->go))/\((Z7S (Pb g.p)==0)=false->go))/\((V g==0)=false->go):=by
 refine ⟨fun a1=>⟨fun a2=>⟨fun a3=>⟨fun a4=>⟨fun a5=>⟨fun a6=>⟨fun a7=> ?_,fun _=>hgo⟩,fun _=>hgo⟩,fun _=>hgo⟩,fun _=>hgo⟩,fun _=>hgo⟩,fun _=>hgo⟩,fun _=>hgo⟩
 have hp:Pb g.p=true:=by
  cases hb:Pb g.p with
  | true=>rfl
  | false=>rw [hb] at a2;cases a2
 obtain ⟨r1,r2,r3,r4,r5⟩:=hG (eq_of_beq a1) hp
 have i1:=hI.a
 have i2:=hI.b
 have l1:=i1.lo
 have l2:=i1.hi
 have l3:=i2.lo
 have l4:=i2.hi
 have w1:i64.wrap (g.amount-g.ham)=g.amount-g.ham:=Z9p (by omega) (by omega)
 have w2:i64.wrap (g.expiry-g.hex)=g.expiry-g.hex:=Z9p (by omega) (by omega)
 rw [w1,w2]
 exact ⟨fun h=>absurd h (by omega),fun _=>⟨fun h=>absurd h (by omega),fun _=>⟨fun h=>absurd h (by omega),fun _=>⟨fun h=>absurd h (by omega),fun _=>⟨fun h=>absurd h (by omega),fun _=>hgo⟩⟩⟩⟩⟩
theorem ZmJ (R:LI->Option Zb) (V:WH->Int) (Pb:WG->Bool) (g:WH) (F:List (Nat×Blk)) (Dl:List X4) (A:List ZQ) (n:Nat) (xs:LI) (N:Nat) (hI:g.I) (hB:N<=3000->Zez xs N) (hF:F=tlB YS n) (hDl:Dl=tlD YS n) (hG:V g=0->Pb g.p=true->ZeU g):
  evX (Zle R V Pb F Dl A n) 40 5 [.agg g.p.c,.agg g.hc,.agg g.oc,.int .i64 g.height,.vrows 303 n (haR A) n,.vints .u8 xs N] ⟨0,[]⟩ (fun v=>v=.bool true):=by
 refine @Eq.mpr _ (let x:=AV.bool true;let q2:=x=x;let q3:=(3,Blk.flat [x]);let d:=g.p;let O:=[(2,Blk.flat (WH.oc g)),(1,Blk.flat (WH.hc g)),(0,Blk.flat (WG.c d))];let M:=q2/\ZbV (q3::O) [];let k:=true=true/\true=true;let y:=strOf (List.take N xs);let L:=AV.bool false=x;let c7:=(3,Blk.flat [AV.bool false])::O;let c3:=d.base;let c2:=d.delta;let b9:=WG.mk c3 d.rate c2 d.soon d.far;let t:=g.amount;let s:=g.expiry;let r:=g.ham;let h:=g.hex;let C:=g.height;let b8:=WH.mk b9 g.own g.id t g.hash s g.stage g.fin g.secret g.key g.next r h C;let b7:=WH.I b8;let b6:=V b8==0;let b5:=Z7S (Pb b9)==0;let b4:=decide (t>=0);let b3:=decide (r>=0);let b2:=decide (s>=0);let b1:=decide (h>=0);let b0:=decide (C>=0);let a9:=decide (t<r);let a8:=decide (wrap i64 (t-r)<c3);let a7:=decide (s<h);let a6:=decide (wrap i64 (s-h)<c2);let a5:=decide (h<=C);let q:=decide (n=n);let a4:=haR A=haR A;let o:=[(7,13),(6,12),(5,11),(4,10),(3,3),(9,15),(8,14)];let B:=Zb.mk [] [] [];let a3:=B.Q;let a2:=qkV a3;let a1:=quV a3;let a0:=B.S;let Z:=skV Zh a0;let Y:=seV a0;let z:=B.T;let W:=tkI z;let m:=tiV z;let U:=tkO z;let P:=HoC F Dl n/\∀(i:Nat),i<=n->(∀(j:Nat),j<i->(fun (i:Nat)=>i<n) j)->(i=n->q2/\ZbV (q3::Zy F 3) Dl)/\(False->False/\ZbV [] [])/\(False->False);let b:=Z4 q (a4/\Z4 q ((Z8 0 o 0 a2 a1 (fun (i:Nat)=>AV.top) fun (i:Nat)=>AV.top)/\(Z8 0 o 0 Z Y (fun (i:Nat)=>AV.top) fun (i:Nat)=>AV.top)/\(Z8 0 o 0 W m (fun (i:Nat)=>AV.top) fun (i:Nat)=>AV.top)/\(Z8 0 o 0 U m (fun (i:Nat)=>AV.top) fun (i:Nat)=>AV.top)/\P));let f:=L/\ZbV c7 [];let l:=[(7,7),(6,6),(5,5),(4,4),(3,3),(9,9),(8,8)];let a:=Z4 q (a4/\Z4 q ((Z8 0 l 0 a2 a1 (fun (i:Nat)=>AV.top) fun (i:Nat)=>AV.top)/\(Z8 0 l 0 Z Y (fun (i:Nat)=>AV.top) fun (i:Nat)=>AV.top)/\(Z8 0 l 0 W m (fun (i:Nat)=>AV.top) fun (i:Nat)=>AV.top)/\(Z8 0 l 0 U m (fun (i:Nat)=>AV.top) fun (i:Nat)=>AV.top)/\P));
 Z6 (decide ((↑n:Int)>60)) M (Z6 (decide ((↑N:Int)>3000)) M (Zez xs N/\
 (∀(X:Zb),
 let w:=X.T;let v:=w.length;let K:=X.S;let c6:=K.length;let J:=X.Q;let c5:=J.length;let c4:=tiV w;
 R xs=some X->
 ZgI xs X->
 (∀(i:Nat),i<v->k)/\
 (∀(i:Nat),i<v->k)/\
 (∀(i:Nat),i<c6->k)/\
 (∀(i:Nat),i<c5->k)/\
 ∃(X_1:Zb),
 let H:=Yf X_1;let G:=H.length;let u:=X_1.T;let c1:=u.length;let c0:=tiV u;let E:=X_1.S;let D:=X_1.Q;let e:=L/\ZbV ((9,Blk.ints u8 H)::(4,Blk.flat [AV.map (some 5),AV.map (some 6),AV.map (some 7),AV.map (some 8)])::(5,Blk.fmap c1 (tkO u) c0)::(6,Blk.fmap c1 (tkI u) c0)::(7,Blk.fmap (E.length) (skV Zh E) (seV E))::(8,Blk.fmap (D.length) (qkV D) (quV D))::c7) [];
 YN Zh X_1 [AV.map (some 1),AV.map (some 2),AV.map (some 3),AV.map (some 4)] v (tkO w) c4 v (tkI w) c4 c6 (skV Zh K) (seV K) c5 (qkV J) (quV J)/\Zb.Inv Zh X_1/\y=y/\Z5 (u8=u8/\0+G<=G) (Z6 (!ByteArray.toList (strOf (List.take G (Yi 0 H)))==ByteArray.toList y) e (b7/\Z6 b6 (Z6 b5 (Z6 b4 (Z6 b3 (Z6 b2 (Z6 b1 (Z6 b0 (Z6 a9 e (Z6 a8 e (Z6 a7 e (Z6 a6 e (Z6 a5 e b))))) b) b) b) b) b) b) b)))/\
 (R xs=none->b7/\Z6 b6 (Z6 b5 (Z6 b4 (Z6 b3 (Z6 b2 (Z6 b1 (Z6 b0 (Z6 a9 f (Z6 a8 f (Z6 a7 f (Z6 a6 f (Z6 a5 f a))))) a) a) a) a) a) a) a)))) (by kernel_rfl) ?_
 conv=>zeta
 try simp only [vcA]
 try simp only [vcB]
 try simp only [vcC]
 have tr:∀{n:Nat} (i:Nat),i<n->True:=fun _ _=>trivial
 have m0:∀{τ:Ren} {kf vf kf' vf':Nat->AV},Z8 0 τ 0 kf vf kf' vf':=⟨fun i hi=>absurd hi (Js i)⟩
 have hm:∀j,j<n->Zr F (100+j)=some .defd:=fun j h=>by subst hF;exact Z6u h
 refine ⟨fun _=>⟨⟨0,rfl,nofun⟩⟩,fun h1=>⟨fun _=>⟨⟨0,rfl,nofun⟩⟩,fun h2=> ?_⟩⟩
 have hb:=hB (by omega)
 have eN:List.take N xs=xs:=by rw [hb.n,Jp]
 refine ⟨hb,fun X hX hok=>⟨tr,tr,tr,tr,X,Wf Zh hok.i.lim,hok.i,fun hq=> ?_,fun _=>⟨hI,Z5C hI hG ?_⟩⟩,fun hX=>⟨hI,Z5C hI hG ?_⟩⟩
 ·have e4:List.take (Yf X).length (Yi 0 (Yf X))=Yf X:=by rw [ZZ,Kj,Jp]
  rw [e4,eN,hok.e] at hq
  cases hq
 ·refine ⟨m0,m0,m0,m0,⟨by omega,hF,hDl⟩,fun i hi _=> ?_⟩
  exact ⟨fun _=>⟨⟨n,hDl,fun j hj=>by simp (disch:=omega) only [XY,Ul];exact hm j hj⟩⟩,False.elim,False.elim⟩
 ·refine ⟨m0,m0,m0,m0,⟨by omega,hF,hDl⟩,fun i hi _=> ?_⟩
  exact ⟨fun _=>⟨⟨n,hDl,fun j hj=>by simp (disch:=omega) only [XY,Ul];exact hm j hj⟩⟩,False.elim,False.elim⟩
end Go.Tk
end
section
namespace Go.Tk
open IntKind (i64 u8 u32 u64 wrap)
def polTy:List Ty:=[.int .i64,.int .i64,.int .i64,.int .i64,.int .i64]
def payTy:List Ty:=[.bool,.int .i64,.int .i64,.arr .u8 32,.int .i64,.int .i64,.int .i64,.arr .u8 32]
def hopTy:List Ty:=[.arr .u8 32,.arr .u8 32,.int .i64,.int .i64]
theorem Zf1 {x:Int} (h:(Lit.int .i64 x).wf=true):I64 x:=by
 simp only [Lit.wf,IntKind.min,IntKind.max,IntKind.signed,IntKind.bits,J1,decide_eq_true_eq,if_true] at h
 exact ⟨by omega,by omega⟩
theorem Zf2 {a:AV} (h:Z0S true polTy a):∃p:WG,a=.agg p.c:=by
 cases h with|agg _ u h=>
 unfold polTy at h
 cases h with|cons _ a1 _ u h1 h=>
 cases h with|cons _ a2 _ u h2 h=>
 cases h with|cons _ a3 _ u h3 h=>
 cases h with|cons _ a4 _ u h4 h=>
 cases h with|cons _ a5 _ u h5 h=>
 cases h;cases h1;cases h2;cases h3;cases h4;cases h5
 exact ⟨⟨_,_,_,_,_⟩,rfl⟩
theorem Zf3 {a:AV} (h:Z0S true payTy a):∃(o:Bool) (i am:Int) (ha:LI) (ex st fi:Int) (se:LI),a=.agg [.bool o,.int .i64 i,.int .i64 am,.arr .u8 32 ha,.int .i64 ex,.int .i64 st,.int .i64 fi,.arr .u8 32 se]/\I64 am/\I64 ex:=by
 cases h with|agg _ u h=>
 unfold payTy at h
 cases h with|cons _ a1 _ u h1 h=>
 cases h with|cons _ a2 _ u h2 h=>
 cases h with|cons _ a3 _ u h3 h=>
 cases h with|cons _ a4 _ u h4 h=>
 cases h with|cons _ a5 _ u h5 h=>
 cases h with|cons _ a6 _ u h6 h=>
 cases h with|cons _ a7 _ u h7 h=>
 cases h with|cons _ a8 _ u h8 h=>
 cases h;cases h1;cases h2;cases h3;cases h4;cases h5;cases h6;cases h7;cases h8
 exact ⟨_,_,_,_,_,_,_,_,rfl,Zf1 ‹(Lit.int .i64 _).wf=true›,Zf1 ‹(Lit.int .i64 _).wf=true›⟩
theorem Zf4 {a:AV} (h:Z0S true hopTy a):∃(ke ne:LI) (hm hx:Int),a=.agg [.arr .u8 32 ke,.arr .u8 32 ne,.int .i64 hm,.int .i64 hx]/\I64 hm/\I64 hx:=by
 cases h with|agg _ u h=>
 unfold hopTy at h
 cases h with|cons _ a1 _ u h1 h=>
 cases h with|cons _ a2 _ u h2 h=>
 cases h with|cons _ a3 _ u h3 h=>
 cases h with|cons _ a4 _ u h4 h=>
 cases h;cases h1;cases h2;cases h3;cases h4
 exact ⟨_,_,_,_,rfl,Zf1 ‹(Lit.int .i64 _).wf=true›,Zf1 ‹(Lit.int .i64 _).wf=true›⟩
def lactTy:List Ty:=[.int .i64,.arr .u8 32,.int .i64,.arr .u8 32,.int .i64,.arr .u8 32,.arr .u8 32,.arr .u8 32,.int .i64,.int .i64,.bool,.bool,.int .i64,.int .i64,.arr .u8 32,.int .i64,.int .i64,.int .i64,.arr .u8 32,.arr .u8 32,.arr .u8 32,.int .i64,.int .i64,.int .i64]
instance:Inhabited ZQ:=⟨Z2a⟩
theorem b32 {xs:LI} (h:xs.length=32) (hw:∀i,i<32->(Lit.int .u8 (xs.getD i 0)).wf=true):∀x∈xs,0<=x/\x<=255:=fun x hx=>by
 obtain ⟨i,hi,rfl⟩:=Jr hx
 have:=hw i (by omega)
 rw [J5,J8 hi] at this
 simp [Lit.wf] at this
 have m1:u8.min=0:=rfl
 have m2:u8.max=255:=rfl
 omega
def h32 (xs:LI) (h:xs.length=32) (hw:∀i,i<32->(Lit.int .u8 (xs.getD i 0)).wf=true):H32:=⟨xs,h,b32 h hw⟩
theorem ZbX {l:List AV} (h:Fits lactTy l):∃x:ZQ,l=x.c:=by
 unfold lactTy at h
 cases h with|cons _ a1 _ u h1 h=>
 cases h with|cons _ a2 _ u h2 h=>
 cases h with|cons _ a3 _ u h3 h=>
 cases h with|cons _ a4 _ u h4 h=>
 cases h with|cons _ a5 _ u h5 h=>
 cases h with|cons _ a6 _ u h6 h=>
 cases h with|cons _ a7 _ u h7 h=>
 cases h with|cons _ a8 _ u h8 h=>
 cases h with|cons _ a9 _ u h9 h=>
 cases h with|cons _ a10 _ u h10 h=>
 cases h with|cons _ a11 _ u h11 h=>
 cases h with|cons _ a12 _ u h12 h=>
 cases h with|cons _ a13 _ u h13 h=>
 cases h with|cons _ a14 _ u h14 h=>
 cases h with|cons _ a15 _ u h15 h=>
 cases h with|cons _ a16 _ u h16 h=>
 cases h with|cons _ a17 _ u h17 h=>
 cases h with|cons _ a18 _ u h18 h=>
 cases h with|cons _ a19 _ u h19 h=>
 cases h with|cons _ a20 _ u h20 h=>
 cases h with|cons _ a21 _ u h21 h=>
 cases h with|cons _ a22 _ u h22 h=>
 cases h with|cons _ a23 _ u h23 h=>
 cases h with|cons _ a24 _ u h24 h=>
 cases h;cases h1;cases h2;cases h3;cases h4;cases h5;cases h6;cases h7;cases h8;cases h9;cases h10;cases h11;cases h12;cases h13;cases h14;cases h15;cases h16;cases h17;cases h18;cases h19;cases h20;cases h21;cases h22;cases h23;cases h24
 rename_i x1 _ x2 l2 w2 x3 _ x4 l4 w4 x5 _ x6 l6 w6 x7 l7 w7 x8 l8 w8 x9 _ x10 _ x11 x12 x13 _ x14 _ x15 l15 w15 x16 _ x17 _ x18 _ x19 l19 w19 x20 l20 w20 x21 l21 w21 x22 _ x23 _ x24 _
 exact ⟨⟨x1,⟨h32 x2 l2 w2,x3,h32 x4 l4 w4,x5⟩,h32 x6 l6 w6,⟨h32 x7 l7 w7,h32 x8 l8 w8,x9,x10,h0⟩,x11,⟨x12,x13,x14,h32 x15 l15 w15,x16,x17,x18,h32 x19 l19 w19⟩,⟨h32 x20 l20 w20,h32 x21 l21 w21,x22,x23⟩,x24⟩,rfl⟩
theorem Z9u {a:AV} (h:Z0S false [.rows 303 lactTy] a):∃(n:Nat) (A:List ZQ),∀(E:Env) (r:Value),Zd E a r->Zd E (.vrows 303 n (haR A) n) r:=by
 cases h with|one _ _ h=>
 cases h with|rows esz ts n f hm h=>
 obtain ⟨g,hg⟩:=pick fun i hi=>ZbX (h i hi)
 refine ⟨n,(List.range n).map g,fun E r hr=>hr.rowsC fun i hi=> ?_⟩
 unfold haR Vl
 rw [hg i hi,J5,List.getElem?_map,List.getElem?_range hi]
 rfl
theorem Z9v {a:AV} (h:Z0S false [.ints .u8] a):∃(xs:LI) (n:Nat),a=.vints .u8 xs n/\xs.length=n/\Bytes xs:=by
 cases h with|one _ _ h=>
 cases h
 rename_i xs n w l m
 exact ⟨xs,n,rfl,w,Zdc w m⟩
theorem linksholds_walk {us:List AV} (h:Z5e [(true,polTy),(true,payTy),(true,hopTy),(false,[.int .i64]),(false,[.rows 303 lactTy]),(false,[.ints .u8])] us):Zi PP 5 us ⟨0,[]⟩ fun o h'=>∃v,o=.ret v/\h'=⟨0,[]⟩/\v=.bool true:=by
 cases h with|cons _ _ a _ _ h1 h=>
 cases h with|cons _ _ b _ _ h2 h=>
 cases h with|cons _ _ c _ _ h3 h=>
 cases h with|cons _ _ d _ _ h4 h=>
 cases h with|cons _ _ e _ _ h5 h=>
 cases h with|cons _ _ f _ _ h6 h=>
 cases h
 obtain ⟨p,rfl⟩:=Zf2 h1
 obtain ⟨o,i,am,ha,ex,st,fi,se,rfl,g1,g2⟩:=Zf3 h2
 obtain ⟨ke,ne,hm,hx,rfl,g3,g4⟩:=Zf4 h3
 cases h4 with|one _ _ h4=>
 cases h4
 rename_i he hw
 obtain ⟨n,A,hr⟩:=Z9u h5
 obtain ⟨xs,N,rfl,hn,hb⟩:=Z9v h6
 have hB:N<=3000->Zez xs N:=fun hN=>⟨hn.symm,by omega,⟨fun x hx=>by
  obtain ⟨i,hi,rfl⟩:=Jr hx
  have:=hb.h i
  rwa [J5,J8 hi] at this⟩⟩
 have:=ZmJ (rdX (ZB ZC)) goZ Z1O ⟨p,o,i,am,ha,ex,st,fi,se,ke,ne,hm,hx,he⟩ (tlB YS n) (tlD YS n) A n xs N ⟨g1,g2,g3,g4,Zf1 hw⟩ hB rfl rfl fun h1 h2=>Zj8 h1 h2
 have hc:=Zj9 (Zh6 (tlB YS n) (tlD YS n) A n) this
 refine (Z3P (R:=fun v=>v=.bool true) rfl (fun E w rs he hr=>(hc E w rs he hr).mono ?_) fun u hu=>hu).conv fun E r hr0=>hr0.head (fun _ hc=>hc) fun _ hc=>hc.head (fun _ hc=>hc) fun _ hc=>hc.head (fun _ hc=>hc) fun _ hc=>hc.head (fun _ hc=>hc) fun _ hc=>hc.head (fun _ hc=>hr E _ hc) fun _ hc=>hc
 rintro e w' ⟨E',o,h',hK,hev,hor⟩
 refine ⟨E',o,h', ?_,hev,hor⟩
 cases o with
 | ret v=>
  have hK:v=.bool true:=hK
  subst hK
  rfl
 | panic v=>exact hK.elim
end Go.Tk
namespace Go.Proofs.YthnfcmaoiebelaaGreat.linksHolds
open Go.ChangeShapes Go.WideShapes Go.ChangeAt Go.RowKit
theorem own:ownKnob Tryz.prog.godebug=none:=by kernel_rfl
theorem laidOut:laidOutB Tryz.prog=true:=by kernel_rfl
theorem lifted (os:Os) (started:os.Started) (H:Type) (enc:TypeId×Value->H):
  ReturnsInHanded {} Tryz.checked os 5 .any (Rows.linksHoldsSpec.pre6 enc Tryz.prog Tryz.f5 Rows.linksHoldsRow.domain false) (Rows.linksHoldsSpec.post enc Tryz.prog Tryz.f5 false true false false):=
 Go.Tk.lifted_gen (C:=Tryz.checked) (m:=8) (τs:=[(true,Go.Tk.polTy),(true,Go.Tk.payTy),(true,Go.Tk.hopTy),(false,[.int .i64]),(false,[.rows 303 Go.Tk.lactTy]),(false,[.ints .u8])]) own laidOut started (by kernel_rfl) Tryz.func5
  (ChangeSpec.witness6 (enc:=enc) (C:=Tryz.checked) false ⟨#[], #[.agg #[.int .i64 0,.int .i64 0,.int .i64 0,.int .i64 0,.int .i64 0],.agg (#[.bool false,.int .i64 0,.int .i64 0]++Array.replicate 32 (.int .u8 0)++ #[.int .i64 0,.int .i64 0,.int .i64 0]++Array.replicate 32 (.int .u8 0)),.agg (Array.replicate 64 (.int .u8 0)++ #[.int .i64 0,.int .i64 0]),.int .i64 0,.slice none 0 0,.slice none 0 0],[]⟩ 8 (by kernel_rfl) (by kernel_rfl) (by kernel_rfl) (by kernel_rfl))
  rfl (tb:=4) rfl Tryz.underlying4 (by kernel_rfl) (by kernel_rfl) (fun ds h=>by
   match ds,h with
   | [a,b,c,d,e,f],_=>rfl) fun us h=>Go.Tk.linksholds_walk h
theorem Zji:Tryz.pinned.checked.prog.funcNamed Rows.linksHoldsRow.func=some 5:=by kernel_rfl
theorem closed:joinedFacts Tryz.pinned.checked.prog 5 Tryz.f5 Rows.linksHoldsSpec Rows.linksHoldsRow=true:=by
 unfold joinedFacts
 repeat' with_reducible refine Go.Tk.and_mk ?_ ?_
 all_goals as_aux_lemma=>kernel_rfl
theorem over:Rows.linksHoldsRow.holds Tryz.pinned (OpenSpec.ofChange Rows.linksHoldsSpec):=
 OpenClaim.holds_of_wide 5 Tryz.f5 rfl rfl rfl rfl rfl rfl rfl ⟨rfl,rfl,rfl,rfl,rfl⟩ rfl rfl rfl rfl rfl Zji Tryz.func5 closed
  (of_decide_eq_true (by kernel_rfl)) (by unfold Func.isWrapper;first|(rw [if_pos (by decide+kernel)];kernel_rfl)|(rw [if_neg (by decide+kernel)];exact ⟨rfl,rfl⟩))
  (fun os started H enc _=>lifted os started H enc)
theorem proved:Rows.LinksHoldsSaid:=over
end Go.Proofs.YthnfcmaoiebelaaGreat.linksHolds
end
