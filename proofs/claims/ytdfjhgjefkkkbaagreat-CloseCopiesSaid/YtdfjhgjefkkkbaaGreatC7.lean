/- C: part 7 of an engine (a symbolic evaluator, proved against the model) and of the walk by it. -/
import Derived.Test.YtdfjhgjefkkkbaaGreatC6
set_option linter.unusedVariables false
set_option linter.unusedSimpArgs false
set_option maxRecDepth 100000
set_option maxHeartbeats 0
section
namespace Go.Tk
open IntKind (i64 u8 u32 u64 wrap)
variable {G:Zb} {args:List AV} {W:Int->LI} {xs ys:LI} {Tg:LI->TxS->LI} {SB:Zi->Bool}
def Z10 (tl th ta:LI) (x:InS):InS:=if x.way=1 then ⟨x.name,x.index,x.way,tl,th,x.secret⟩ else if x.way=4 then x else ⟨x.name,x.index,x.way,ta,x.also,x.secret⟩
def ZoN (t:TxS) (a b:LI) (G:Nat->InS):Z8:=⟨7,[(0,.flat [.int .i64 t.num,.nslice ⟨5,0,130,0,0⟩ 130 t.N t.N,.nslice ⟨6,0,132,0,0⟩ 132 t.M t.M]),(1,.flat [.arr .u8 32 a]),(2,.flat [.arr .u8 32 b]),(3,.flat t.c),(4,.flat txZ),(5,.rows 130 t.N (Zg G)),(6,.rows 132 t.M (Zf t.outs))]⟩
def ZoO:ZZ:=[(10,.ptr (some ⟨0,0,0,0,0⟩)),(4,.ptr (some ⟨1,0,0,0,0⟩)),(5,.ptr (some ⟨2,0,0,0,0⟩)),(9,.func (.func 90) [] [.ptr (some ⟨3,0,0,0,0⟩)]),(6,.ptr (some ⟨4,0,0,0,0⟩))]
def ZhA (t:TxS) (a b:LI) (G:Nat->InS) (i:Nat):St:=⟨75,(34,.int .i64 i)::(33,.int .i64 t.N)::ZoO,ZoN t a b G,[]⟩
def Zc3 (t:TxS) (G:Nat->InS):St:=⟨75,[(10,.ptr (some ⟨0,0,0,0,0⟩)),(6,.ptr (some ⟨1,0,0,0,0⟩))],⟨4,[(0,.flat [.int .i64 t.num,.nslice ⟨2,0,130,0,0⟩ 130 t.N t.N,.nslice ⟨3,0,132,0,0⟩ 132 t.M t.M]),(1,.flat txZ),(2,.rows 130 t.N (Zg G)),(3,.rows 132 t.M (Zf t.outs))]⟩,[]⟩
def Z9n (A:LI->Int×Int) (Tg:LI->TxS->LI):ZI:=fun args h K=>Zz none h true 20 args fun a=>match a with
 | [.agg l,.agg [.arr .u8 32 key]]=>∃t,Z0j l t/\(t.Ok/\key.length=32/\Yp A t=true)/\K (.tuple [.agg [.arr .u8 32 (Tg key t)],.int .i64 0])
 | _=>False
theorem Z5a (args:List AV) (h:Z8) (K:AV->Prop) (hl:Z9n ZA Zy args h K):Ze PP 83 args h fun o h'=>∃v,o=.ret v/\h'=h/\K v:=by
 refine ZbB args h K (Zk _ _ _ _ _ hl fun a ha=> ?_)
 split at ha
 ·obtain ⟨t,h1,⟨h2,h3,h4⟩,hK⟩:=ha
  refine ⟨t,h1,⟨h2,h3⟩, ?_⟩
  rw [h4];exact hK
 ·exact ha.elim
noncomputable def ZeF (A:LI->Int×Int) (Tg:LI->TxS->LI):Zb:=(G0.withP 45 Zki).withP 83 (Z9n A Tg)
theorem Zaz:(ZeF ZA Zy).Ok:=Zb.withP_ok (Zb.withP_ok Zm Zhx) Z5a
theorem Zn7 (A:LI->Int×Int) (Tg:LI->TxS->LI) (t:TxS) (a b tl th ta:LI) (G G1:Nat->InS) (i:Nat) (Z1 Z2:Prop) (ht:t.Ok) (hN:t.N<=24) (hc:Yp A t=true) (ha:a.length=32) (hb:b.length=32) (htl:tl=Tg (loH a b) t) (hth:th=Tg (hiH a b) t) (hta:ta=Tg a t) (hi:i<=t.N) (hG:∀j,i<=j->G j=t.ins j) (hG1:i<t.N->∀j,j<t.N->G1 j=if j=i then Z10 tl th ta (t.ins i) else G j) (h1:i<t.N->Z1) (h2:i=t.N->Z2):
  ZG (ZeF A Tg) 20 43 0 0 (ZhA t a b G i) (rdM 0 0 9 (ZhA t a b G1 (i+1)) (Zc3 t G) (Zc3 t G) (Zc3 t G) Z1 Z2 False False):=by
 refine @Eq.mpr _ (Z5 (decide ((↑i:Int)<(↑t.N:Int))) (Z7 ((0:Int)<=(↑i:Int)/\(↑i:Int)<(↑t.N:Int)) (Z7 ((0:Nat)+Int.toNat (↑i:Int)<t.N) (Z5 ((G ((0:Nat)+Int.toNat (↑i:Int))).way==(1:Int)) ((a.length=(32:Nat)/\b.length=(32:Nat))/\
 ∃(t_1:TxS),
 (t_1.num=t.num/\((t.N=t.N/\t_1.N=t.N)/\∀(i:Nat),i<t.N->Zg t.ins i=InS.c (t_1.ins i))/\(t.M=t.M/\t_1.M=t.M)/\∀(i:Nat),i<t.M->Zf t.outs i=ZF.c (t_1.outs i))/\
 (TxS.Ok t_1/\List.length (loH a b)=(32:Nat)/\Yp A t_1=true)/\
 hiH a b=hiH a b/\
 ∃(t_2:TxS),
 (t_2.num=t.num/\((t.N=t.N/\t_2.N=t.N)/\∀(i:Nat),i<t.N->Zg t.ins i=InS.c (t_2.ins i))/\(t.M=t.M/\t_2.M=t.M)/\∀(i:Nat),i<t.M->Zf t.outs i=ZF.c (t_2.outs i))/\
 (TxS.Ok t_2/\List.length (hiH a b)=(32:Nat)/\Yp A t_2=true)/\
 Z7 ((0:Nat)+Int.toNat (↑i:Int)<t.N) (Z7 ((0:Nat)+Int.toNat (↑i:Int)<t.N) (Z7 (wrap i64 ((↑i:Int)+(1:Int))=(↑(i+(1:Nat)):Int)) (Z7 ((↑t.N:Int)=(↑t.N:Int)) (Z7 (t.num=t.num) (Z7 (t.N=t.N) (Z7 (t.N<=t.N) (Z7 (t.M=t.M) (Z7 (t.M<=t.M) (a=a/\
 b=b/\
 Z7 (t.num=t.num) (Z7 (t.N=t.N) (Zg t.ins=Zg t.ins/\
 Z7 (t.N=t.N) (Z7 (t.M=t.M) (Zf t.outs=Zf t.outs/\
 Z7 (t.M=t.M) (Z7 (t.N=t.N) (Zo (0:Nat) [((6:Nat),(6:Nat)),((5:Nat),(5:Nat)),((4:Nat),(4:Nat)),((3:Nat),(3:Nat)),((2:Nat),(2:Nat)),((1:Nat),(1:Nat)),((0:Nat),(0:Nat))] t.N (Zg G1)
 (QT (QT (Zg G) ((0:Nat)+Int.toNat (↑i:Int)) [AV.arr u8 (32:Nat) (G ((0:Nat)+Int.toNat (↑i:Int))).name,AV.int i64 (G ((0:Nat)+Int.toNat (↑i:Int))).index,AV.int i64 (G ((0:Nat)+Int.toNat (↑i:Int))).way,AV.arr u8 (32:Nat) (Tg (loH a b) t_1),AV.arr u8 (32:Nat) (G ((0:Nat)+Int.toNat (↑i:Int))).also,AV.arr u8 (32:Nat) (G ((0:Nat)+Int.toNat (↑i:Int))).secret]) ((0:Nat)+Int.toNat (↑i:Int))
 [AV.arr u8 (32:Nat)
 (match Nat.beq ((0:Nat)+Int.toNat (↑i:Int)) ((0:Nat)+Int.toNat (↑i:Int)) with
 | true=>(G ((0:Nat)+Int.toNat (↑i:Int))).name
 | false=>(G ((0:Nat)+Int.toNat (↑i:Int))).name),
 AV.int i64
 (match Nat.beq ((0:Nat)+Int.toNat (↑i:Int)) ((0:Nat)+Int.toNat (↑i:Int)) with
 | true=>(G ((0:Nat)+Int.toNat (↑i:Int))).index
 | false=>(G ((0:Nat)+Int.toNat (↑i:Int))).index),
 AV.int i64
 (match Nat.beq ((0:Nat)+Int.toNat (↑i:Int)) ((0:Nat)+Int.toNat (↑i:Int)) with
 | true=>(G ((0:Nat)+Int.toNat (↑i:Int))).way
 | false=>(G ((0:Nat)+Int.toNat (↑i:Int))).way),
 AV.arr u8 (32:Nat)
 (match Nat.beq ((0:Nat)+Int.toNat (↑i:Int)) ((0:Nat)+Int.toNat (↑i:Int)) with
 | true=>Tg (loH a b) t_1
 | false=>(G ((0:Nat)+Int.toNat (↑i:Int))).tag),
 AV.arr u8 (32:Nat) (Tg (hiH a b) t_2),
 AV.arr u8 (32:Nat)
 (match Nat.beq ((0:Nat)+Int.toNat (↑i:Int)) ((0:Nat)+Int.toNat (↑i:Int)) with
 | true=>(G ((0:Nat)+Int.toNat (↑i:Int))).secret
 | false=>(G ((0:Nat)+Int.toNat (↑i:Int))).secret)])/\
 Z7 (t.M=t.M) (Zo (0:Nat) [((6:Nat),(6:Nat)),((5:Nat),(5:Nat)),((4:Nat),(4:Nat)),((3:Nat),(3:Nat)),((2:Nat),(2:Nat)),((1:Nat),(1:Nat)),((0:Nat),(0:Nat))] t.M (Zf t.outs) (Zf t.outs)/\Z1))))))))))))))))) (Z5 ((G ((0:Nat)+Int.toNat (↑i:Int))).way==(4:Int)) (Z7 (wrap i64 ((↑i:Int)+(1:Int))=(↑(i+(1:Nat)):Int)) (Z7 ((↑t.N:Int)=(↑t.N:Int)) (Z7 (t.num=t.num) (Z7 (t.N=t.N) (Z7 (t.N<=t.N) (Z7 (t.M=t.M) (Z7 (t.M<=t.M) (a=a/\b=b/\Z7 (t.num=t.num) (Z7 (t.N=t.N) (Zg t.ins=Zg t.ins/\Z7 (t.N=t.N) (Z7 (t.M=t.M) (Zf t.outs=Zf t.outs/\Z7 (t.M=t.M) (Z7 (t.N=t.N) (Zo (0:Nat) [((6:Nat),(6:Nat)),((5:Nat),(5:Nat)),((4:Nat),(4:Nat)),((3:Nat),(3:Nat)),((2:Nat),(2:Nat)),((1:Nat),(1:Nat)),((0:Nat),(0:Nat))] t.N (Zg G1) (Zg G)/\Z7 (t.M=t.M) (Zo (0:Nat) [((6:Nat),(6:Nat)),((5:Nat),(5:Nat)),((4:Nat),(4:Nat)),((3:Nat),(3:Nat)),((2:Nat),(2:Nat)),((1:Nat),(1:Nat)),((0:Nat),(0:Nat))] t.M (Zf t.outs) (Zf t.outs)/\Z1))))))))))))))) (∃(t_1:TxS),
 (t_1.num=t.num/\((t.N=t.N/\t_1.N=t.N)/\∀(i:Nat),i<t.N->Zg t.ins i=InS.c (t_1.ins i))/\(t.M=t.M/\t_1.M=t.M)/\∀(i:Nat),i<t.M->Zf t.outs i=ZF.c (t_1.outs i))/\
 (TxS.Ok t_1/\a.length=(32:Nat)/\Yp A t_1=true)/\
 Z7 ((0:Nat)+Int.toNat (↑i:Int)<t.N) (Z7 (wrap i64 ((↑i:Int)+(1:Int))=(↑(i+(1:Nat)):Int)) (Z7 ((↑t.N:Int)=(↑t.N:Int)) (Z7 (t.num=t.num) (Z7 (t.N=t.N) (Z7 (t.N<=t.N) (Z7 (t.M=t.M) (Z7 (t.M<=t.M) (a=a/\
 b=b/\
 Z7 (t.num=t.num) (Z7 (t.N=t.N) (Zg t.ins=Zg t.ins/\
 Z7 (t.N=t.N) (Z7 (t.M=t.M) (Zf t.outs=Zf t.outs/\
 Z7 (t.M=t.M) (Z7 (t.N=t.N) (Zo (0:Nat) [((6:Nat),(6:Nat)),((5:Nat),(5:Nat)),((4:Nat),(4:Nat)),((3:Nat),(3:Nat)),((2:Nat),(2:Nat)),((1:Nat),(1:Nat)),((0:Nat),(0:Nat))] t.N (Zg G1) (QT (Zg G) ((0:Nat)+Int.toNat (↑i:Int)) [AV.arr u8 (32:Nat) (G ((0:Nat)+Int.toNat (↑i:Int))).name,AV.int i64 (G ((0:Nat)+Int.toNat (↑i:Int))).index,AV.int i64 (G ((0:Nat)+Int.toNat (↑i:Int))).way,AV.arr u8 (32:Nat) (Tg a t_1),AV.arr u8 (32:Nat) (G ((0:Nat)+Int.toNat (↑i:Int))).also,AV.arr u8 (32:Nat) (G ((0:Nat)+Int.toNat (↑i:Int))).secret])/\Z7 (t.M=t.M) (Zo (0:Nat) [((6:Nat),(6:Nat)),((5:Nat),(5:Nat)),((4:Nat),(4:Nat)),((3:Nat),(3:Nat)),((2:Nat),(2:Nat)),((1:Nat),(1:Nat)),((0:Nat),(0:Nat))] t.M (Zf t.outs) (Zf t.outs)/\Z1)))))))))))))))))))) (Z7 (t.num=t.num) (Z7 (t.N=t.N) (Z7 (t.N<=t.N) (Z7 (t.M=t.M) (Z7 (t.M<=t.M) (Z7 (t.N=t.N) (Zo (0:Nat) [((3:Nat),(6:Nat)),((2:Nat),(5:Nat)),((1:Nat),(4:Nat)),((0:Nat),(0:Nat))] t.N (Zg G) (Zg G)/\Z7 (t.M=t.M) (Zo (0:Nat) [((3:Nat),(6:Nat)),((2:Nat),(5:Nat)),((1:Nat),(4:Nat)),((0:Nat),(0:Nat))] t.M (Zf t.outs) (Zf t.outs)/\Z2))))))))) (by kernel_rfl) ?_
 try simp only [vcA]
 try simp only [vcB]
 try simp only [vcC]
 refine ⟨fun hlt'=> ?_,fun hge=>⟨Ym fun _ _=>rfl,ZP fun _ _=>rfl,h2 (by omega)⟩⟩
 have hlt:i<t.N:=by omega
 have hwr:i64.wrap ((i:Int)+1)=((i+1:Nat):Int):=by rw [w64 (by omega)];omega
 have hG1:=hG1 hlt
 have hZ:=h1 hlt
 have hO:∀τ,Zo 0 τ t.M (Zf t.outs) (Zf t.outs):=fun τ=>ZP fun _ _=>rfl
 have e1:=hG i (J4 _)
 rw [e1]
 have hU:∀(A1:List AV) j,A1=(Z10 tl th ta (t.ins i)).c->j<t.N->QT (Zg G) i A1 j=(G1 j).c:=fun A1 j hA hj=>by
  rw [Vf,hG1 j hj]
  by_cases e:j=i
  ·subst e;rw [Jl,if_pos rfl];exact hA
  ·rw [Zw e,if_neg e];rfl
 have hU2:∀(A1 B1:List AV) j,B1=(Z10 tl th ta (t.ins i)).c->j<t.N->QT (QT (Zg G) i A1) i B1 j=(G1 j).c:=fun A1 B1 j hB hj=>by
  rw [Vf,Vf,hG1 j hj]
  by_cases e:j=i
  ·subst e;rw [Jl,if_pos rfl];exact hB
  ·rw [Zw e,if_neg e];rfl
 refine ⟨by omega,hlt,fun k1=>⟨⟨ha,hb⟩,t,⟨rfl,⟨rfl,fun _ _=>rfl⟩,rfl,fun _ _=>rfl⟩,⟨ht,Z6b ha hb,hc⟩,t,⟨rfl,⟨rfl,fun _ _=>rfl⟩,rfl,fun _ _=>rfl⟩,⟨ht,Z6c ha hb,hc⟩,hlt,hlt,hwr,Ym fun j hj=>hU2 _ _ j ?_ hj,hO _,hZ⟩,fun k1=>⟨fun k2=>⟨hwr,Ym fun j hj=> ?_,hO _,hZ⟩,fun k2=>⟨t,⟨rfl,⟨rfl,fun _ _=>rfl⟩,rfl,fun _ _=>rfl⟩,⟨ht,ha,hc⟩,hlt,hwr,Ym fun j hj=>hU _ j ?_ hj,hO _,hZ⟩⟩⟩
 ·have k1:(t.ins i).way=1:=by simpa using k1
  unfold Z10
  rw [if_pos k1,<-htl,<-hth]
  simp only [Jl]
  rfl
 ·have k1:¬(t.ins i).way=1:=by simpa using k1
  have k2:(t.ins i).way=4:=by simpa using k2
  rw [hG1 j hj]
  split
  ·rename_i e
   subst e
   unfold Z10
   rw [if_neg k1,if_pos k2,<-e1];rfl
  ·rfl
 ·have k1:¬(t.ins i).way=1:=by simpa using k1
  have k2:¬(t.ins i).way=4:=by simpa using k2
  unfold Z10
  rw [if_neg k1,if_neg k2,<-hta]
  rfl
def Z4b (Tg:LI->TxS->LI) (t:TxS) (a b:LI) (i j:Nat):InS:=if j<i then Z10 (Tg (loH a b) t) (Tg (hiH a b) t) (Tg a t) (t.ins j) else t.ins j
def Z7A (Tg:LI->TxS->LI) (t:TxS) (a b:LI):TxS:=⟨t.num,t.N,fun j=>Z10 (Tg (loH a b) t) (Tg (hiH a b) t) (Tg a t) (t.ins j),t.M,t.outs⟩
structure ZhB (A:LI->Int×Int) (Tg:LI->TxS->LI) (t:TxS) (a b:LI) (G:Nat->Nat->InS):Prop where
 ht:t.Ok
 hN:t.N<=24
 hc:Yp A t=true
 ha:a.length=32
 hb:b.length=32
 hG:G=Z4b Tg t a b
noncomputable def ZeG (A:LI->Int×Int) (Tg:LI->TxS->LI) (t:TxS) (a b:LI) (G:Nat->Nat->InS):Zb:=((((ZeF A Tg).withP 89 (ckS A)).withF 91 Zkj).withF 92 Zkk).withL 43 0 (goM 0 (ZhA t a b t.ins 0) (ZhB A Tg t a b G) (YD 0 t.N 9 (fun i=>i<t.N) (fun i=>i=t.N) (fun _=>False) (fun _=>False) (fun i=>Zc3 t (G i)) (fun i=>Zc3 t (G i)) (fun i=>Zc3 t (G i))))
theorem Z7B (t:TxS) (a b:LI) (G:Nat->Nat->InS):(ZeG ZA Zy t a b G).Ok:=by
 have h0:((((ZeF ZA Zy).withP 89 (ckS ZA)).withF 91 Zkj).withF 92 Zkk).Ok:=Zb.withF_ok (Zb.withF_ok (Zb.withP_ok Zaz ZdB) Zhy) Zhz
 refine Zb.withL_join (H:=ZeF ZA Zy) h0 rfl ?_
 exact Zb.withGoM (N:=20) (S:=fun i=>ZhA t a b (Z4b Zy t a b i) i) Zaz (by kernel_rfl) fun hC=>by
  obtain ⟨c1,c2,c3,c4,c5,c6⟩:=hC
  subst c6
  refine ⟨?_,fun i hi _=>Zn7 ZA Zy t a b _ _ _ _ _ i _ _ c1 c2 c3 c4 c5 rfl rfl rfl hi (fun j hj=>if_neg (by omega)) (fun hlt j hj=> ?_) (fun h=>⟨h,h⟩) (fun h=>h)⟩
  ·have e:Z4b Zy t a b 0=t.ins:=funext fun j=>if_neg (K6 j)
   rw [e]
  ·unfold Z4b
   by_cases e:j=i
   ·subst e;rw [if_pos (Nat.lt_succ_self _),if_pos rfl]
   ·rw [if_neg e]
    by_cases h:j<i
    ·rw [if_pos h,if_pos (by omega)]
    ·rw [if_neg h,if_neg (by omega)]
theorem Zn8 (A:LI->Int×Int) (Tg:LI->TxS->LI) (t:TxS) (a b:LI) (G:Nat->Nat->InS) (ht:t.Ok) (hb:Yp A t=false):
  evF (ZeG A Tg t a b G) 20 43 [.agg t.c,.agg [.arr .u8 32 a],.agg [.arr .u8 32 b]] ⟨0,[]⟩ (ZH 0 (.ret (.tuple [.agg txZ,.int .i64 2])) 0 []):=by
 refine @Eq.mpr _ (let m:=t.num;let d:=t.N;let e:=t.M;let l:=decide (e=e);let h:=Zf t.outs;let o:=h=h;let k:=decide (m=m);let n:=decide (d=d);let f:=Zg t.ins;let r:=[(6,5),(5,4),(4,3),(3,0),(2,2),(1,1),(0,6)];
 ∃(t_1:TxS),
 (t_1.num=m/\((d=d/\t_1.N=d)/\∀(i:Nat),i<d->f i=InS.c (t_1.ins i))/\(e=e/\t_1.M=e)/\∀(i:Nat),i<e->h i=ZF.c (t_1.outs i))/\
 TxS.Ok t_1/\
 Z5 (Yp A t_1) (∃(N:Nat),
 let q:=decide (N=d);
 ∃(g:Nat->InS),
 ((d=d/\N=d)/\∀(i:Nat),i<d->f i=InS.c (g i))/\
 N<1000/\
 Z6 l (o/\
 Z6 l (Z6 k (∃(N_1:Nat),
 let p:=decide (N_1=e);
 ∃(g_1:Nat->ZF),((e=e/\N_1=e)/\∀(i:Nat),i<e->h i=ZF.c (g_1 i))/\N_1<1000/\Z6 k (Z7 ((↑N:Int)=(↑d:Int)) (Z6 k (Z6 q (Z7 (d<=N) (Z6 p (Z7 (e<=N_1) (a=a/\b=b/\Z6 k (Z6 n (f=f/\Z6 n (Z6 l (o/\Z6 l (Z6 q (Zo 0 r d f (Zg g)/\Z6 p (Zo 0 r e h (Zf g_1)/\ZhB A Tg t a b G/\∀(i:Nat),i<=d->(∀(j:Nat),j<i->(fun (i:Nat)=>i<d) j)->(i=d->Z5 (decide (m=0)) False False)/\(False->False)/\(False->False))))))))))))))))))) True) (by kernel_rfl) ?_
 conv=>zeta
 try simp only [vcA]
 try simp only [vcB]
 try simp only [vcC]
 exact ⟨t,⟨rfl,⟨rfl,fun _ _=>rfl⟩,rfl,fun _ _=>rfl⟩,ht,fun k=>(by rw [hb] at k;cases k),fun _=>trivial⟩
theorem Zn9 (A:LI->Int×Int) (Tg:LI->TxS->LI) (t:TxS) (a b:LI) (G:Nat->Nat->InS) (g:Nat->InS) (hC:ZhB A Tg t a b G) (hM:t.M<=24) (hg:g=G t.N):
  evF (ZeG A Tg t a b G) 20 43 [.agg t.c,.agg [.arr .u8 32 a],.agg [.arr .u8 32 b]] ⟨0,[]⟩ (ZH 0 (.ret (.tuple [.agg [.int .i64 t.num,.nslice ⟨0,0,130,0,0⟩ 130 t.N t.N,.nslice ⟨1,0,132,0,0⟩ 132 t.M t.M],.int .i64 0])) 2 [(0,.rows 130 t.N (Zg g)),(1,.rows 132 t.M (Zf t.outs))]):=by
 refine @Eq.mpr _ (let n:=t.num;let d:=t.N;let e:=t.M;let h:=decide (e=e);let f:=Zf t.outs;let o:=f=f;let l:=decide (n=n);let m:=decide (d=d);let k:=Zg t.ins;let v:=[(6,5),(5,4),(4,3),(3,0),(2,2),(1,1),(0,6)];let u:=[(1,3),(0,2)];let s:=decide (d=0);let r:=decide (e=0);
 ∃(t_1:TxS),
 (t_1.num=n/\((d=d/\t_1.N=d)/\∀(i:Nat),i<d->k i=InS.c (t_1.ins i))/\(e=e/\t_1.M=e)/\∀(i:Nat),i<e->f i=ZF.c (t_1.outs i))/\
 TxS.Ok t_1/\
 Z5 (Yp A t_1) (∃(N:Nat),
 let q:=decide (N=d);
 ∃(g_1:Nat->InS),
 ((d=d/\N=d)/\∀(i:Nat),i<d->k i=InS.c (g_1 i))/\
 N<1000/\
 Z6 h (o/\
 Z6 h (Z6 l (∃(N_1:Nat),
 let p:=decide (N_1=e);
 ∃(g_2:Nat->ZF),((e=e/\N_1=e)/\∀(i:Nat),i<e->f i=ZF.c (g_2 i))/\N_1<1000/\Z6 l (Z7 ((↑N:Int)=(↑d:Int)) (Z6 l (Z6 q (Z7 (d<=N) (Z6 p (Z7 (e<=N_1) (a=a/\b=b/\Z6 l (Z6 m (k=k/\Z6 m (Z6 h (o/\Z6 h (Z6 q (Zo 0 v d k (Zg g_1)/\Z6 p (Zo 0 v e f (Zf g_2)/\ZhB A Tg t a b G/\∀(i:Nat),i<=d->(∀(j:Nat),j<i->(fun (i:Nat)=>i<d) j)->(i=d->Z6 l (Z6 m (Z7 (d<=d) (Z6 h (Z7 (e<=e) (Z6 m (Zo 0 u d (Zg g) (Zg (G i))/\Z6 h (Zo 0 u e f f/\True))))))))/\(False->False)/\(False->False))))))))))))))))))) (Z7 (0=n) (Z6 s (Z6 s (Z6 r (Z5 r False False)))))) (by kernel_rfl) ?_
 conv=>zeta
 try simp only [vcA]
 try simp only [vcB]
 try simp only [vcC]
 have hN:=hC.hN
 refine ⟨t,⟨rfl,⟨rfl,fun _ _=>rfl⟩,rfl,fun _ _=>rfl⟩,hC.ht,fun _=>⟨t.N,t.ins,⟨rfl,fun _ _=>rfl⟩,by omega,t.M,t.outs,⟨rfl,fun _ _=>rfl⟩,by omega,rfl,rfl,J4 _,rfl,J4 _,rfl,Ym fun _ _=>rfl,rfl,ZP fun _ _=>rfl,hC,fun i hi _=>⟨fun he=>⟨Ym fun _ _=>by rw [he,hg];rfl,ZP fun _ _=>rfl⟩,fun h=>h,fun h=>h⟩⟩,fun k=> ?_⟩
 rw [hC.hc] at k;cases k
def Zit (A:LI->Int×Int) (Tg:LI->TxS->LI):ZO:=fun args h K=>Zz none h true 20 args fun a=>match a with
 | [.agg l,.agg [.arr .u8 32 a],.agg [.arr .u8 32 b]]=>∃t,Z0j l t/\(t.Ok/\a.length=32/\b.length=32)/\(Yp A t=false->K (.ret (.tuple [.agg txZ,.int .i64 2])) h)/\
  (Yp A t=true->K (.ret (.tuple [.agg [.int .i64 t.num,.nslice ⟨h.next,0,130,0,0⟩ 130 t.N t.N,.nslice ⟨h.next+1,0,132,0,0⟩ 132 t.M t.M],.int .i64 0])) ⟨h.next+2,(h.next,.rows 130 t.N (Zg (Z4b Tg t a b t.N)))::(h.next+1,.rows 132 t.M (Zf t.outs))::h.bs⟩)
 | _=>False
theorem ZeH (args:List AV) (h:Z8) (K:KO) (hl:Zit ZA Zy args h K):Ze PP 43 args h K:=by
 refine Zs.fsumm (d:=20) (Zk _ _ _ _ _ hl fun a ha=> ?_)
 split at ha
 ·obtain ⟨t,h1,⟨h2,h3,h4⟩,k1,k2⟩:=ha
  cases hc:Yp ZA t with
  | false=>exact ⟨_,_,_,_,(Zs.evM (Z7B t _ _ (fun _=>t.ins)) (Zn8 _ _ t _ _ _ h2 hc)).conv (fun E r hr=>hr.head (fun _ hc=>h1.rel hc) (fun _ hc=>hc)),rfl,trivial,k1 hc⟩
  | true=>
   have hf:=X2 h2 hc
   exact ⟨_,_,_,_,(Zs.evM (Z7B t _ _ _) (Zn9 _ _ t _ _ _ _ ⟨h2,hf.n,hc,h3,h4,rfl⟩ hf.m rfl)).conv (fun E r hr=>hr.head (fun _ hc=>h1.rel hc) (fun _ hc=>hc)),rfl,⟨by decide,.rows _ _ _ (fun i _=>(Z4b Zy t _ _ t.N i).plainC),by decide,.rows _ _ _ (fun i _=>(t.outs i).plainC),trivial⟩,k2 hc⟩
 ·exact ha.elim
def ZoP (t:TxS) (a lo hi:LI) (G:Nat->InS) (i:Nat):Z8:=⟨8,[(0,.flat t.c),(1,.flat [.arr .u8 32 lo]),(2,.flat [.arr .u8 32 hi]),(3,.flat [.int .i64 t.num,.nslice ⟨6,0,130,0,0⟩ 130 i i,.nslice ⟨7,0,132,0,0⟩ 132 t.M t.M]),(4,.flat [.arr .u8 32 a]),(5,.flat txZ),(6,.rows 130 i (Zg G)),(7,.rows 132 t.M (Zf t.outs))]⟩
def ZoQ:ZZ:=[(3,.ptr (some ⟨0,0,0,0,0⟩)),(8,.ptr (some ⟨1,0,0,0,0⟩)),(9,.ptr (some ⟨2,0,0,0,0⟩)),(10,.ptr (some ⟨3,0,0,0,0⟩)),(4,.ptr (some ⟨4,0,0,0,0⟩)),(6,.ptr (some ⟨5,0,0,0,0⟩))]
def ZhC (t:TxS) (a lo hi:LI) (G:Nat->InS) (i:Nat):St:=⟨69,(11,.int .i64 i)::ZoQ,ZoP t a lo hi G i,[]⟩
def Zc4 (t:TxS) (G:Nat->InS) (i:Nat):St:=⟨69,[(10,.ptr (some ⟨0,0,0,0,0⟩)),(6,.ptr (some ⟨1,0,0,0,0⟩))],⟨4,[(0,.flat [.int .i64 t.num,.nslice ⟨2,0,130,0,0⟩ 130 i i,.nslice ⟨3,0,132,0,0⟩ 132 t.M t.M]),(1,.flat txZ),(2,.rows 130 i (Zg G)),(3,.rows 132 t.M (Zf t.outs))]⟩,[]⟩
noncomputable def ZeI (Tg:LI->TxS->LI):Zb:=G0.withP 62 (Z3I Tg)
theorem ZaA:(ZeI Wz).Ok:=Zb.withP_ok Zm Z63
theorem Zna (G:Nat->InS) (x:InS) {i j:Nat} (hj:j<i+1):Y1 i (Zg G) (Ye x.c 0 130) j=(if j=i then x else G j).c:=by
 by_cases e:j=i
 ·subst e;rw [if_pos rfl,Vr (J4 _),Nat.sub_self];rfl
 ·rw [if_neg e,Z2d (by omega)];rfl
theorem Znb (Tg:LI->TxS->LI) (t:TxS) (a lo hj tl th ta:LI) (G G1:Nat->InS) (i:Nat) (Z1 Z2:Prop) (ht:t.Fine) (ha:a.length=32) (hlo:lo.length=32) (hhj:hj.length=32) (htl:tl=Tg lo t) (hth:th=Tg hj t) (hta:ta=Tg a t) (hi:i<=t.N) (hG1:i<t.N->∀j,j<i+1->G1 j=if j=i then Z10 tl th ta (t.ins i) else G j) (h1:i<t.N->Z1) (h2:i=t.N->Z2):
  ZG (ZeI Tg) 20 120 0 0 (ZhC t a lo hj G i) (rdM 0 0 9 (ZhC t a lo hj G1 (i+1)) (Zc4 t G i) (Zc4 t G i) (Zc4 t G i) Z1 Z2 False False):=by
 refine @Eq.mpr _ (let d:=t.N;let j:=t.ins (Int.toNat (↑i:Int));let v:=j.way;let n:=t.num;let b:=t.M;let m:=decide (i=i);let f:=i+1;let u:=decide (f*144<=140737488355328);let s:=decide (wrap i64 ((↑i:Int)+1)=(↑f:Int));let h:=decide (n=n);let l:=decide (d=d);let p:=Zg t.ins;let D:=p=p;let e:=decide (b=b);let g:=Zf t.outs;let C:=g=g;let k:=decide (f=f);let B:=decide (f<=f);let r:=decide (b<=b);let q:=[(7,7),(6,10),(5,5),(4,4),(3,3),(2,2),(1,1),(0,0)];let A:=Zg G1;let o:=Zg G;let z:=AV.arr u8 32 j.name;let y:=AV.int i64 j.index;let x:=AV.int i64 v;let H:=[AV.arr u8 32 j.secret];let w:=Z6 e (Zo 0 q b g g/\Z1);let F:=AV.arr u8 32 j.also::H;let E:=[(3,7),(2,6),(1,5),(0,3)];
 Z5 (decide ((↑i:Int)<(↑d:Int))) (Z7 (0<=(↑i:Int)/\(↑i:Int)<(↑d:Int)) (Z5 (v==1) (∃(t:TxS),(t.num=n/\((d=d/\t.N=d)/\∀(i:Nat),i<d->p i=InS.c (t.ins i))/\(b=b/\t.M=b)/\∀(i:Nat),i<b->g i=ZF.c (t.outs i))/\(TxS.Fine t/\lo.length=32)/\∃(t_1:TxS),(t_1.num=n/\((d=d/\t_1.N=d)/\∀(i:Nat),i<d->p i=InS.c (t_1.ins i))/\(b=b/\t_1.M=b)/\∀(i:Nat),i<b->g i=ZF.c (t_1.outs i))/\(TxS.Fine t_1/\hj.length=32)/\Z6 m (Z6 u (Z6 s (Z6 h (Z6 l (D/\Z6 l (Z6 e (C/\Z6 e (lo=lo/\hj=hj/\Z6 h (Z6 k (Z6 B (Z6 e (Z6 r (a=a/\Z6 k (Zo 0 q f A (Y1 i o (Ye (z::y::x::AV.arr u8 32 (Tg lo t)::AV.arr u8 32 (Tg hj t_1)::H) 0 130))/\w))))))))))))))) (Z5 (v==4) (Z6 m (Z6 u (Z6 s (Z6 h (Z6 l (D/\Z6 l (Z6 e (C/\Z6 e (lo=lo/\hj=hj/\Z6 h (Z6 k (Z6 B (Z6 e (Z6 r (a=a/\Z6 k (Zo 0 q f A (Y1 i o (Ye (z::y::x::AV.arr u8 32 j.tag::F) 0 130))/\w))))))))))))))) (∃(t:TxS),(t.num=n/\((d=d/\t.N=d)/\∀(i:Nat),i<d->p i=InS.c (t.ins i))/\(b=b/\t.M=b)/\∀(i:Nat),i<b->g i=ZF.c (t.outs i))/\(TxS.Fine t/\a.length=32)/\Z6 m (Z6 u (Z6 s (Z6 h (Z6 l (D/\Z6 l (Z6 e (C/\Z6 e (lo=lo/\hj=hj/\Z6 h (Z6 k (Z6 B (Z6 e (Z6 r (a=a/\Z6 k (Zo 0 q f A (Y1 i o (Ye (z::y::x::AV.arr u8 32 (Tg a t)::F) 0 130))/\w)))))))))))))))))) (Z6 h (Z6 m (Z7 (i<=i) (Z6 e (Z6 r (Z6 m (Zo 0 E i o o/\Z6 e (Zo 0 E b g g/\Z2))))))))) (by kernel_rfl) ?_
 conv=>zeta
 try simp only [vcA]
 try simp only [vcB]
 try simp only [vcC]
 refine ⟨fun hlt'=> ?_,fun hge=>⟨Ym fun _ _=>rfl,ZP fun _ _=>rfl,h2 (by omega)⟩⟩
 have hlt:i<t.N:=by omega
 have hN:=ht.n
 have hwr:i64.wrap ((i:Int)+1)=((i+1:Nat):Int):=by rw [w64 (by omega)];omega
 have hG1:=hG1 hlt
 have hZ:=h1 hlt
 have hO:∀τ,Zo 0 τ t.M (Zf t.outs) (Zf t.outs):=fun τ=>ZP fun _ _=>rfl
 have hI:∀(τ:Ren) (X:List AV),X=(Z10 tl th ta (t.ins i)).c->Zo 0 τ (i+1) (Zg G1) (Y1 i (Zg G) (Ye X 0 130)):=fun τ X hX=>Ym fun j hj=>by
  rw [hX,Zna G _ hj,hG1 j hj]
 refine ⟨by omega,fun k1=>⟨t,⟨rfl,⟨rfl,fun _ _=>rfl⟩,rfl,fun _ _=>rfl⟩,⟨ht,hlo⟩,t,⟨rfl,⟨rfl,fun _ _=>rfl⟩,rfl,fun _ _=>rfl⟩,⟨ht,hhj⟩,by omega,hwr,hI _ _ ?_,hO _,hZ⟩,fun k1=>⟨fun k2=>⟨by omega,hwr,hI _ _ ?_,hO _,hZ⟩,fun k2=>⟨t,⟨rfl,⟨rfl,fun _ _=>rfl⟩,rfl,fun _ _=>rfl⟩,⟨ht,ha⟩,by omega,hwr,hI _ _ ?_,hO _,hZ⟩⟩⟩
 ·have k1:(t.ins i).way=1:=by simpa using k1
  unfold Z10
  rw [if_pos k1,<-htl,<-hth];rfl
 ·have k1:¬(t.ins i).way=1:=by simpa using k1
  have k2:(t.ins i).way=4:=by simpa using k2
  unfold Z10
  rw [if_neg k1,if_pos k2];rfl
 ·have k1:¬(t.ins i).way=1:=by simpa using k1
  have k2:¬(t.ins i).way=4:=by simpa using k2
  unfold Z10
  rw [if_neg k1,if_neg k2,<-hta];rfl
structure ZhD (Tg:LI->TxS->LI) (t:TxS) (a b lo hj:LI) (G:Nat->InS):Prop where
 ht:t.Fine
 ha:a.length=32
 hb:b.length=32
 hlo:lo=loH a b
 hhj:hj=hiH a b
 hG:G=(Z7A Tg t a b).ins
noncomputable def ZeJ (A:LI->Int×Int) (Tg:LI->TxS->LI) (t:TxS) (a b lo hj:LI) (G:Nat->InS):Zb:=(((ZeI Tg).withP 203 (Z92 A)).withP 204 Zep).withL 120 0 (goM 0 (ZhC t a lo hj G 0) (ZhD Tg t a b lo hj G) (YD 0 t.N 9 (fun i=>i<t.N) (fun i=>i=t.N) (fun _=>False) (fun _=>False) (fun i=>Zc4 t G i) (fun i=>Zc4 t G i) (fun i=>Zc4 t G i)))
theorem Z7C (t:TxS) (a b lo hj:LI) (G:Nat->InS):(ZeJ ZA Wz t a b lo hj G).Ok:=by
 have h0:(((ZeI Wz).withP 203 (Z92 ZA)).withP 204 Zep).Ok:=Zb.withP_ok (Zb.withP_ok ZaA ZbG) Zar
 refine Zb.withL_join (H:=ZeI Wz) h0 rfl ?_
 exact Zb.withGoM (N:=20) (S:=fun i=>ZhC t a lo hj G i) ZaA (by kernel_rfl) fun hC=>⟨rfl,fun i hi _=>by
  obtain ⟨c1,c2,c3,c4,c5,c6⟩:=hC
  subst c4 c5
  refine Znb Wz t a _ _ _ _ _ G _ i _ _ c1 c2 (Z6b c2 c3) (Z6c c2 c3) rfl rfl rfl hi (fun hlt j hj=> ?_) (fun h=>⟨h,h⟩) (fun h=>h)
  by_cases e:j=i
  ·rw [if_pos e,e,c6];rfl
  ·rw [if_neg e]⟩
theorem Znc (A:LI->Int×Int) (Tg:LI->TxS->LI) (t:TxS) (a b lo hj:LI) (G:Nat->InS) (ht:t.Ok) (hB:TxB t) (hb:Yp A t=false):
  evF (ZeJ A Tg t a b lo hj G) 20 120 [.agg t.c,.agg [.arr .u8 32 a],.agg [.arr .u8 32 b]] ⟨0,[]⟩ (ZH 0 (.ret (.tuple [.agg txZ,.int .i64 2])) 0 []):=by
 refine @Eq.mpr _ (let m:=t.num;let e:=t.N;let d:=t.M;let f:=decide (d=d);let h:=Zf t.outs;let k:=h=h;let g:=decide (m=m);let n:=0+d;let p:=decide (n*160<=140737488355328);let l:=decide (e=e);let o:=Zg t.ins;let s:=o=o;let r:=decide (n=d);let q:=Z6 g (Z6 r (Z7 (d<=n) (a=a/\Z6 r (Zo 0 [(7,6),(5,3),(4,1),(3,7),(2,5),(1,4),(0,0)] d h (Y1 0 (fun (x:Nat)=>[]) h)/\ZhD Tg t a b lo hj G/\∀(i:Nat),i<=e->(∀(j:Nat),j<i->(fun (i:Nat)=>i<e) j)->(i=e->Z5 (decide (m=0)) False False)/\(False->False)/\(False->False)))));
 ∃(t:TxS),(t.num=m/\((e=e/\t.N=e)/\∀(i:Nat),i<e->o i=InS.c (t.ins i))/\(d=d/\t.M=d)/\∀(i:Nat),i<d->h i=ZF.c (t.outs i))/\TxS.Ok t/\TxB t/\Z5 (!Yp A t) True (b=b/\b=b/\b=b/\(a.length=32/\b.length=32)/\Bytes a/\Bytes b/\Z5 (decide (X7 a b>0)) (a=a/\Z6 f (k/\Z6 f (Z6 g (Z6 p (Z6 g (Z6 g (Z6 l (s/\Z6 l (Z6 f (k/\Z6 f (b=lo/\a=hj/\q))))))))))) (Z6 f (k/\Z6 f (Z6 g (Z6 p (Z6 g (Z6 g (Z6 l (s/\Z6 l (Z6 f (k/\Z6 f (a=lo/\b=hj/\q))))))))))))) (by kernel_rfl) ?_
 conv=>zeta
 try simp only [vcA]
 try simp only [vcB]
 try simp only [vcC]
 exact ⟨t,⟨rfl,⟨rfl,fun _ _=>rfl⟩,rfl,fun _ _=>rfl⟩,ht,hB,fun _=>trivial,fun k=>by rw [hb] at k;cases k⟩
theorem Znd (A:LI->Int×Int) (Tg:LI->TxS->LI) (t:TxS) (a b lo hj:LI) (G:Nat->InS) (hC:ZhD Tg t a b lo hj G) (ht:t.Ok) (hB:TxB t) (hc:Yp A t=true) (hba:Bytes a) (hbb:Bytes b):
  evF (ZeJ A Tg t a b lo hj G) 20 120 [.agg t.c,.agg [.arr .u8 32 a],.agg [.arr .u8 32 b]] ⟨0,[]⟩ (ZH 0 (.ret (.tuple [.agg [.int .i64 t.num,.nslice ⟨0,0,130,0,0⟩ 130 t.N t.N,.nslice ⟨1,0,132,0,0⟩ 132 t.M t.M],.int .i64 0])) 2 [(0,.rows 130 t.N (Zg G)),(1,.rows 132 t.M (Zf t.outs))]):=by
 refine @Eq.mpr _ (let m:=t.num;let e:=t.N;let d:=t.M;let q:=decide (e=0);let p:=decide (d=0);let f:=decide (d=d);let h:=Zf t.outs;let k:=h=h;let g:=decide (m=m);let o:=0+d;let w:=decide (o*160<=140737488355328);let l:=decide (e=e);let n:=Zg t.ins;let v:=n=n;let u:=decide (o=d);let s:=[(1,3),(0,2)];let r:=Z6 g (Z6 u (Z7 (d<=o) (a=a/\Z6 u (Zo 0 [(7,6),(5,3),(4,1),(3,7),(2,5),(1,4),(0,0)] d h (Y1 0 (fun (x:Nat)=>[]) h)/\ZhD Tg t a b lo hj G/\∀(i:Nat),i<=e->(∀(j:Nat),j<i->(fun (i:Nat)=>i<e) j)->(i=e->Z6 g (Z7 (i=e) (Z7 (e<=i) (Z6 f (Z7 (d<=d) (Z7 (i=e) (Zo 0 s e (Zg G) (Zg G)/\Z6 f (Zo 0 s d h h/\True))))))))/\(False->False)/\(False->False)))));
 ∃(t:TxS),(t.num=m/\((e=e/\t.N=e)/\∀(i:Nat),i<e->n i=InS.c (t.ins i))/\(d=d/\t.M=d)/\∀(i:Nat),i<d->h i=ZF.c (t.outs i))/\TxS.Ok t/\TxB t/\Z5 (!Yp A t) (Z7 (0=m) (Z6 q (Z6 q (Z6 p (Z5 p False False))))) (b=b/\b=b/\b=b/\(a.length=32/\b.length=32)/\Bytes a/\Bytes b/\Z5 (decide (X7 a b>0)) (a=a/\Z6 f (k/\Z6 f (Z6 g (Z6 w (Z6 g (Z6 g (Z6 l (v/\Z6 l (Z6 f (k/\Z6 f (b=lo/\a=hj/\r))))))))))) (Z6 f (k/\Z6 f (Z6 g (Z6 w (Z6 g (Z6 g (Z6 l (v/\Z6 l (Z6 f (k/\Z6 f (a=lo/\b=hj/\r))))))))))))) (by kernel_rfl) ?_
 conv=>zeta
 try simp only [vcA]
 try simp only [vcB]
 try simp only [vcC]
 have hM:=hC.ht.m
 have hlo:=hC.hlo
 have hhj:=hC.hhj
 unfold loH at hlo
 unfold hiH at hhj
 have hO:∀τ,Zo 0 τ t.M (Zf t.outs) (Y1 0 (fun _=>[]) (Zf t.outs)):=fun τ=>ZP fun j _=>by rw [Vr (JF _)];rfl
 refine ⟨t,⟨rfl,⟨rfl,fun _ _=>rfl⟩,rfl,fun _ _=>rfl⟩,ht,hB,fun k=> ?_,fun _=>⟨⟨hC.ha,hC.hb⟩,hba,hbb,fun k=> ?_,fun k=> ?_⟩⟩
 ·rw [hc] at k;cases k
 ·rw [if_pos k] at hlo hhj
  exact ⟨by omega,hlo.symm,hhj.symm,hO _,hC,fun i hi _=>⟨fun he=>⟨he,by omega,he,Ym fun _ _=>rfl,ZP fun _ _=>rfl⟩,fun h=>h,fun h=>h⟩⟩
 ·rw [if_neg k] at hlo hhj
  exact ⟨by omega,hlo.symm,hhj.symm,hO _,hC,fun i hi _=>⟨fun he=>⟨he,by omega,he,Ym fun _ _=>rfl,ZP fun _ _=>rfl⟩,fun h=>h,fun h=>h⟩⟩
theorem ZhE {t:TxS} {a b:LI} (hf:t.Fine) (hA:QS t) (ha:a.length=32) (hb:b.length=32):Z7A Wz t a b=Z7A Zy t a b:=by
 unfold Z7A
 rw [Z2k hf hA ha,Z2k hf hA (Z6b ha hb),Z2k hf hA (Z6c ha hb)]
def Ziu (A:LI->Int×Int) (Tg:LI->TxS->LI):ZO:=fun args h K=>Zz none h true 20 args fun a=>match a with
 | [.agg l,.agg [.arr .u8 32 a],.agg [.arr .u8 32 b]]=>∃t,Z0j l t/\(t.Ok/\QS t/\(a.length=32/\b.length=32)/\Bytes a/\Bytes b)/\(Yp A t=false->K (.ret (.tuple [.agg txZ,.int .i64 2])) h)/\
  (Yp A t=true->K (.ret (.tuple [.agg [.int .i64 t.num,.nslice ⟨h.next,0,130,0,0⟩ 130 t.N t.N,.nslice ⟨h.next+1,0,132,0,0⟩ 132 t.M t.M],.int .i64 0])) ⟨h.next+2,(h.next,.rows 130 t.N (Zg (Z7A Tg t a b).ins))::(h.next+1,.rows 132 t.M (Zf t.outs))::h.bs⟩)
 | _=>False
theorem ZeK (args:List AV) (h:Z8) (K:KO) (hl:Ziu ZA Zy args h K):Ze PP 120 args h K:=by
 refine Zs.fsumm (d:=20) (Zk _ _ _ _ _ hl fun a ha=> ?_)
 split at ha
 ·rename_i l a b
  obtain ⟨t,h1,⟨h2,h3,⟨h4,h5⟩,h6,h7⟩,k1,k2⟩:=ha
  cases hc:Yp ZA t with
  | false=>exact ⟨_,_,_,_,(Zs.evM (Z7C t a b (loH a b) (hiH a b) t.ins) (Znc _ _ t _ _ _ _ _ h2 h3.b hc)).conv (fun E r hr=>hr.head (fun _ hc=>h1.rel hc) (fun _ hc=>hc)),rfl,trivial,k1 hc⟩
  | true=>
   have hf:=X2 h2 hc
   refine ⟨_,_,_,_,(Zs.evM (Z7C t a b (loH a b) (hiH a b) _) (Znd _ _ t _ _ _ _ _ ⟨hf,h4,h5,rfl,rfl,rfl⟩ h2 h3.b hc h6 h7)).conv (fun E r hr=>hr.head (fun _ hc=>h1.rel hc) (fun _ hc=>hc)),rfl,⟨by decide,.rows _ _ _ (fun i _=>((Z7A Wz t a b).ins i).plainC),by decide,.rows _ _ _ (fun i _=>(t.outs i).plainC),trivial⟩, ?_⟩
   rw [ZhE hf h3 h4 h5]
   exact k2 hc
 ·exact ha.elim
theorem Spec.evK (hG:G.Ok) {n:Nat} {f:FuncId} {h0:Z8} {o:Out} {nx:Nat} {bs:List (Nat×Blk)} {K:KO} (h:evF G n f args h0 K) (hk:∀o' h',K o' h'->ZH h0.next o nx bs o' h'):Spec G.P f args h0 o nx bs:=by
 intro E w rs he hl
 refine (Y3 hG h E w rs he hl).mono ?_
 rintro e w' ⟨E',o',h',hK0,hev,hor⟩
 have hK:=hk _ _ hK0
 unfold ZH at hK
 cases o with
 | ret v=>
  cases hor with
  | ret u r hr=>
   obtain ⟨E₂,h1,h2⟩:=Z2c rfl hK he hev hr
   exact ⟨E₂,h1,.ret _ _ h2⟩
  | panic u r hr=>simp_all
 | panic v=>
  cases hor with
  | panic u r hr=>
   obtain ⟨E₂,h1,h2⟩:=Z2c rfl hK he hev hr
   exact ⟨E₂,h1,.panic _ _ h2⟩
  | ret u r hr=>simp_all
def wrH (N:Nat) (xs:LI):Z8:=⟨2,[(0,.flat [.nslice ⟨1,0,0,0,0⟩ 1 N N,.bool true]),(1,.ints .u8 xs)]⟩
theorem ZoR (hh:LI) (hq:hh.length=32):
  evF G0 20 55 [.ptr (some ⟨0,0,0,0,0⟩),.vrows 32 1 (fun _=>[.arr .u8 32 hh]) 1] ⟨1,[(0,.flat [.nilslice,.bool true])]⟩ (ZH 1 (.ret (.int .i64 0)) 2 [(0,.flat [.nslice ⟨1,0,0,0,0⟩ 1 32 32,.bool true]),(1,.ints .u8 hh)]):=by
 refine @Eq.mpr _ (let b:=[]++hh;let a:=b.length;
 Z7 (u8=u8/\hh.length=32) (Z7 (a*1<=140737488355328) (Z7 (a=32) (Z7 (32<=a) (b=hh/\True))))) (by kernel_rfl) ?_
 conv=>zeta
 try simp only [vcA]
 try simp only [vcB]
 try simp only [vcC]
 simp only [K5]
 repeat' apply J9
 all_goals first|trivial|omega|rfl|assumption
theorem ZoS (xs ys:LI) (N L:Nat) (b:Bool) (hN:xs.length=N) (hB:N<80000000000000) (hy:ys=xs++[cond b 1 0]) (hL:L=ys.length):
  evF G0 20 56 [.ptr (some ⟨0,0,0,0,0⟩),.vrows 1 1 (fun _=>[.bool b]) 1] (wrH N xs) (ZH 2 (.ret (.int .i64 0)) 3 [(0,.flat [.nslice ⟨2,0,0,0,0⟩ 1 L L,.bool true]),(2,.ints .u8 ys)]):=by
 refine @Eq.mpr _ (let f:=decide (u8=u8/\xs.length=N);let e:=xs++[(1:Int)];let c:=e.length;let d:=xs++[(0:Int)];let a:=d.length;
 Z5 b (Z6 f (Z7 (c*1<=140737488355328) (Z7 (c=L) (Z7 (L<=c) (e=ys/\True))))) (Z6 f (Z7 (a*1<=140737488355328) (Z7 (a=L) (Z7 (L<=a) (d=ys/\True)))))) (by kernel_rfl) ?_
 conv=>zeta
 try simp only [vcA]
 try simp only [vcB]
 try simp only [vcC]
 subst hN hy hL
 refine ⟨fun h=> ?_,fun h=> ?_⟩
 all_goals subst h
 all_goals repeat' apply J9
 all_goals first|omega|rfl|(simp only [J6,Jk,Jr]<;>omega)
def ZeL (h:Z8) (w b:Nat) (ys:LI):Z8:=⟨h.next+1,(w,.flat [.nslice ⟨h.next,0,0,0,0⟩ 1 ys.length ys.length,.bool true])::(h.next,.ints .u8 ys)::Ya (Ya h.bs w) b⟩
def Zkl (W:Int->LI) (T:Int) (B:Nat):ZO:=fun args h K=>match args with
 | [.ptr (some ⟨w,0,0,0,0⟩),_]=>match h.get w with
  |some (.flat [.nslice ⟨b,0,0,0,0⟩ 1 _ _,.bool true])=>frA [w,b] h 20 args fun Bs a=>match Bs,a with
   | [.flat [.nslice ⟨1,0,0,0,0⟩ 1 N M,.bool true],.ints .u8 xs],[.ptr (some ⟨0,0,0,0,0⟩),.vints .i64 [x] 1]=>
    Z7 (xs.length=N/\M=N/\N<B/\0<=x/\x<=T) (K (.ret (.int .i64 0)) (ZeL h w b (xs++W x)))
   | _,_=>False
  | _=>False
 | _=>False
theorem ZhF (args:List AV) (h:Z8) (K:KO) (hl:Zkl Zn 4611686018427387904 80000000000000 args h K):Ze PP 54 args h K:=by
 unfold Zkl at hl
 split at hl
 ·split at hl
  ·refine Spec.fsumm hl fun Bs a hlen hK0=> ?_
   split at hK0
   ·obtain ⟨⟨h1,rfl,h2,k0⟩,hK⟩:=Zd hK0
    exact ⟨_,_,_,_,_,.evM Z0S (ZdH _ _ _ _ _ _ _ _ rfl h1 (by omega) k0 rfl rfl),by simp,.ret _ _ rfl,.cons _ _ _ _ _ _ rfl (.flat _ _ rfl) (.cons _ _ _ _ _ _ rfl (.ints _ _) .nil),hK⟩
   ·exact hK0.elim
  ·exact hl.elim
 ·exact hl.elim
def Zkm (B:Nat):ZO:=fun args h K=>match args with
 | [.ptr (some ⟨w,0,0,0,0⟩),_]=>match h.get w with
  |some (.flat [.nslice ⟨b,0,0,0,0⟩ 1 _ _,.bool true])=>frA [w,b] h 20 args fun Bs a=>match Bs,a with
   | [.flat [.nslice ⟨1,0,0,0,0⟩ 1 N M,.bool true],.ints .u8 xs],[.ptr (some ⟨0,0,0,0,0⟩),.vrows 32 1 f 1]=>match f 0 with
    | [.arr .u8 32 hh]=>Z7 (xs.length=N/\M=N/\N<B/\hh.length=32) (K (.ret (.int .i64 0)) (ZeL h w b (xs++hh)))
    | _=>False
   | _,_=>False
  | some (.flat [.nilslice,.bool true])=>frA [w] h 20 args fun Bs a=>match Bs,a with
   | [.flat [.nilslice,.bool true]],[.ptr (some ⟨0,0,0,0,0⟩),.vrows 32 1 f 1]=>match f 0 with
    | [.arr .u8 32 hh]=>Z7 (hh.length=32) (K (.ret (.int .i64 0)) ⟨h.next+1,(w,.flat [.nslice ⟨h.next,0,0,0,0⟩ 1 32 32,.bool true])::(h.next,.ints .u8 hh)::Ya h.bs w⟩)
    | _=>False
   | _,_=>False
  | _=>False
 | _=>False
theorem ZhG (args:List AV) (h:Z8) (K:KO) (hl:Zkm 80000000000000 args h K):Ze PP 55 args h K:=by
 unfold Zkm at hl
 split at hl
 ·split at hl
  ·refine Spec.fsumm hl fun Bs a hlen hK0=> ?_
   split at hK0
   ·split at hK0
    case h_2=>exact hK0.elim
    rename_i hh hf
    obtain ⟨⟨h1,rfl,h2,h3⟩,hK⟩:=Zd hK0
    refine ⟨_,_,_,_,_,(Spec.evM Zm (Zab _ hh _ _ _ _ h1 (by omega) h3 rfl rfl)).conv fun E r hr=>hr.head (fun _ hc=>hc) fun _ hc=>hc.head (fun _ hc=>hc.rowsC ?_) fun _ hc=>hc,by simp,.ret _ _ rfl,.cons _ _ _ _ _ _ rfl (.flat _ _ rfl) (.cons _ _ _ _ _ _ rfl (.ints _ _) .nil),hK⟩
    intro i hi
    have:i=0:=by omega
    subst this
    exact hf
   ·exact hK0.elim
  ·refine Spec.fsumm hl fun Bs a hlen hK0=> ?_
   split at hK0
   ·split at hK0
    case h_2=>exact hK0.elim
    rename_i hh hf
    obtain ⟨h3,hK⟩:=Zd hK0
    refine ⟨_,_,_,_,_,(Spec.evM Zm (ZoR hh h3)).conv fun E r hr=>hr.head (fun _ hc=>hc) fun _ hc=>hc.head (fun _ hc=>hc.rowsC ?_) fun _ hc=>hc,by simp,.ret _ _ rfl,.cons _ _ _ _ _ _ rfl (.flat _ _ rfl) (.cons _ _ _ _ _ _ rfl (.ints _ _) .nil),hK⟩
    intro i hi
    have:i=0:=by omega
    subst this
    exact hf
   ·exact hK0.elim
  ·exact hl.elim
 ·exact hl.elim
def wtG (B:Nat):ZO:=fun args h K=>match args with
 | [.ptr (some ⟨w,0,0,0,0⟩),_]=>match h.get w with
  |some (.flat [.nslice ⟨b,0,0,0,0⟩ 1 _ _,.bool true])=>frA [w,b] h 20 args fun Bs a=>match Bs,a with
   | [.flat [.nslice ⟨1,0,0,0,0⟩ 1 N M,.bool true],.ints .u8 xs],[.ptr (some ⟨0,0,0,0,0⟩),.vrows 1 1 f 1]=>match f 0 with
    | [.bool t]=>Z7 (xs.length=N/\M=N/\N<B) (K (.ret (.int .i64 0)) (ZeL h w b (xs++[cond t 1 0])))
    | _=>False
   | _,_=>False
  | _=>False
 | _=>False
theorem Zkn (args:List AV) (h:Z8) (K:KO) (hl:wtG 80000000000000 args h K):Ze PP 56 args h K:=by
 unfold wtG at hl
 split at hl
 ·split at hl
  ·refine Spec.fsumm hl fun Bs a hlen hK0=> ?_
   split at hK0
   ·split at hK0
    case h_2=>exact hK0.elim
    rename_i t hf
    obtain ⟨⟨h1,rfl,h2⟩,hK⟩:=Zd hK0
    refine ⟨_,_,_,_,_,(Spec.evM Zm (ZoS _ _ _ _ t h1 h2 rfl rfl)).conv fun E r hr=>hr.head (fun _ hc=>hc) fun _ hc=>hc.head (fun _ hc=>hc.rowsC ?_) fun _ hc=>hc,by simp,.ret _ _ rfl,.cons _ _ _ _ _ _ rfl (.flat _ _ rfl) (.cons _ _ _ _ _ _ rfl (.ints _ _) .nil),hK⟩
    intro i hi
    have:i=0:=by omega
    subst this
    exact hf
   ·exact hK0.elim
  ·exact hl.elim
 ·exact hl.elim
structure ClS where
 t:Zj
 side:Int
 a0:Int
 a1:Int
 least:Int
 most:Int
 offers:Bool
 last:Int
 agrees:Bool
 fee:Int
def ClS.c (k:ClS):List AV:=k.t.c++[.int .i64 k.side,.arr .i64 2 [k.a0,k.a1],.int .i64 k.least,.int .i64 k.most,.bool k.offers,.int .i64 k.last,.bool k.agrees,.int .i64 k.fee]
def nP:AV:=.ptr none
def ptA (x o i:Nat):AV:=.ptr (some ⟨x,0,0,o,i⟩)
def Zne (x y:Nat):List (List AV):=[[nP,ptA x 0 0,nP],[ptA x 32 0,nP,nP],[ptA x 33 0,nP,nP],[ptA x 34 0,nP,nP],[ptA x 35 0,nP,nP],[ptA x 36 0,nP,nP],[nP,ptA x 37 0,nP],[nP,ptA x 69 0,nP],
 [ptA y 0 0,nP,nP],[ptA x 102 0,nP,nP],[ptA x 102 1,nP,nP],[ptA x 104 0,nP,nP],[ptA x 105 0,nP,nP],[nP,nP,ptA x 106 0],[ptA x 107 0,nP,nP],[nP,nP,ptA x 108 0],[ptA x 109 0,nP,nP]]
def PF (x y i:Nat):List AV:=(Zne x y).getD i []
def clH (k:ClS) (s:Int):List (Nat×Blk):=[(0,.flat (k.c++[.bool true])),(1,.flat [.int .i64 s])]
theorem ZoT (k:ClS) (s:Int) :
  evF G0 20 53 [.ptr (some ⟨0,0,0,0,0⟩),.ptr (some ⟨1,0,0,0,0⟩)] ⟨2,clH k s⟩ (ZH 2 (.ret (.func (.func 115) [] [.ptr (some ⟨2,0,0,0,0⟩)])) 4 (clH k s++[(2,.flat [.nslice ⟨3,0,3,0,0⟩ 3 17 17]),(3,.rows 3 17 (PF 0 1))])):=by
 refine @Eq.mpr _ (let c:=k.t;let n:=c.fund;let m:=c.index;let l:=c.cap;let j:=c.dust;let i:=c.fee;let h:=c.delay;let g:=c.k0;let f:=c.k1;let o:=[k.a0,k.a1];let a:=AV.ptr none;let e:=[a];let b:=a::e;let d:=( n=n/\
 Z7 (m=m) (Z7 (l=l) (Z7 (j=j) (Z7 (i=i) (Z7 (h=h) (g=g/\
 f=f/\
 Z7 (k.side=k.side) (o=o/\
 Z7 (k.least=k.least) (Z7 (k.most=k.most) (Z7 (k.offers=k.offers) (Z7 (k.last=k.last) (Z7 (k.agrees=k.agrees) (Z7 (k.fee=k.fee) (Z7 (s=s) (Zo 2 [(3,31),(2,15)] 17 (PF 0 1)
 (Y1 13 (Y1 8 (Y1 6 (Y1 1 (Ye (a::AV.ptr (some (ZK.mk 0 0 0 0 0))::e) 0 3) (Yu 0 (Y1 4 (Y1 3 (Y1 2 (Y1 1 (Y1 0 (fun (x:Nat)=>[]) (Ye (AV.ptr (some (ZK.mk 0 0 0 32 0))::b) 0 3)) (Ye (AV.ptr (some (ZK.mk 0 0 0 33 0))::b) 0 3)) (Ye (AV.ptr (some (ZK.mk 0 0 0 34 0))::b) 0 3)) (Ye (AV.ptr (some (ZK.mk 0 0 0 35 0))::b) 0 3)) (Ye (AV.ptr (some (ZK.mk 0 0 0 36 0))::b) 0 3)))) (Ye (a::AV.ptr (some (ZK.mk 0 0 0 37 0))::a::a::AV.ptr (some (ZK.mk 0 0 0 69 0))::e) 0 3)) (Yu 0 (Y1 4 (Y1 3 (Y1 2 (Y1 1 (Y1 0 (fun (x:Nat)=>[]) (Ye (AV.ptr (some (ZK.mk 1 0 0 0 0))::b) 0 3)) (Ye (AV.ptr (some (ZK.mk 0 0 0 102 0))::b) 0 3)) (Ye (AV.ptr (some (ZK.mk 0 0 0 102 1))::b) 0 3)) (Ye (AV.ptr (some (ZK.mk 0 0 0 104 0))::b) 0 3)) (Ye (AV.ptr (some (ZK.mk 0 0 0 105 0))::b) 0 3))))
 (Ye (a::a::AV.ptr (some (ZK.mk 0 0 0 106 0))::AV.ptr (some (ZK.mk 0 0 0 107 0))::a::a::a::a::AV.ptr (some (ZK.mk 0 0 0 108 0))::AV.ptr (some (ZK.mk 0 0 0 109 0))::b) 0 3))/\
 True))))))))))))));
 d/\d/\d) (by kernel_rfl) ?_
 conv=>zeta
 try simp only [vcA]
 try simp only [vcB]
 try simp only [vcC]
 repeat' apply J9
 all_goals first
  | rfl
  | trivial
  |exact .mk fun i hi=>by
    have h17:i=0\/i=1\/i=2\/i=3\/i=4\/i=5\/i=6\/i=7\/i=8\/i=9\/i=10\/i=11\/i=12\/i=13\/i=14\/i=15\/i=16:=by omega
    rcases h17 with h|h|h|h|h|h|h|h|h|h|h|h|h|h|h|h|h<;>subst h<;>(refine Eq.mpr (?_:_=True) trivial;kernel_rfl)
def Z3R:ZO:=fun args h K=>match args with
 | [.ptr (some ⟨x,0,0,0,0⟩),.ptr (some ⟨y,0,0,0,0⟩)]=>frA [x,y] h 20 args fun Bs a=>match Bs,a with
  | [.flat cs,.flat [.int .i64 s]],[.ptr (some ⟨0,0,0,0,0⟩),.ptr (some ⟨1,0,0,0,0⟩)]=>∃k:ClS,cs=k.c++[.bool true]/\
   K (.ret (.func (.func 115) [] [.ptr (some ⟨h.next,0,0,0,0⟩)])) ⟨h.next+2,(x,.flat (k.c++[.bool true]))::(y,.flat [.int .i64 s])::(h.next,.flat [.nslice ⟨h.next+1,0,3,0,0⟩ 3 17 17])::(h.next+1,.rows 3 17 (PF x y))::Ya (Ya h.bs x) y⟩
  | _,_=>False
 | _=>False
theorem Znf (x y d i:Nat) (hi:i<17):mvC [x,y] d (PF 0 1 i)=some (PF x y i):=by
 have h17:i=0\/i=1\/i=2\/i=3\/i=4\/i=5\/i=6\/i=7\/i=8\/i=9\/i=10\/i=11\/i=12\/i=13\/i=14\/i=15\/i=16:=by omega
 rcases h17 with h|h|h|h|h|h|h|h|h|h|h|h|h|h|h|h|h<;>subst h<;>rfl
theorem Z5b (args:List AV) (h:Z8) (K:KO) (hl:Z3R args h K):Ze PP 53 args h K:=by
 unfold Z3R at hl
 split at hl
 ·refine Spec.fsumm hl fun Bs a hlen hK0=> ?_
  split at hK0
  ·rename_i cs s
   obtain ⟨k,rfl,hK⟩:=hK0
   exact ⟨_,_,_,_,_,.evM Zm (ZoT k s),by simp,.ret _ _ rfl,.cons _ _ _ _ _ _ rfl (.flat _ _ rfl) (.cons _ _ _ _ _ _ rfl (.flat _ _ rfl) (.cons _ _ _ _ _ _ rfl (.flat _ _ rfl) (.cons _ _ _ _ _ _ rfl (.rowsM _ _ _ _ fun i hi=>Znf _ _ _ i hi) .nil))),hK⟩
  ·exact hK0.elim
 ·exact hl.elim
def tru (b:Bool):LI:=[cond b 1 0]
def YB (W:Int->LI) (k:ClS):LI:=k.t.fund++W k.t.index++W k.t.cap++W k.t.dust++W k.t.fee++W k.t.delay++k.t.k0++k.t.k1++W k.side++W k.a0++W k.a1++W k.least++W k.most++tru k.offers++W k.last++tru k.agrees++W k.fee
noncomputable def Zng (W:Int->LI) (T:Int) (B:Nat):Zb:=((((G0.withF 53 Z3R).withF 54 (Zkl W T B)).withF 55 (Zkm B)).withF 56 (wtG B)).withF 119 Z0R
theorem ZhH:(Zng Zn 4611686018427387904 80000000000000).Ok:=Zb.withF_ok (Zb.withF_ok (Zb.withF_ok (Zb.withF_ok (Zb.withF_ok Zm Z5b) ZhF) ZhG) Zkn) Z0k
structure ZeM (T:Int) (k:ClS):Prop where
 ix:0<=k.t.index/\k.t.index<=T
 ca:0<=k.t.cap/\k.t.cap<=T
 du:0<=k.t.dust/\k.t.dust<=T
 fe:0<=k.t.fee/\k.t.fee<=T
 de:0<=k.t.delay/\k.t.delay<=T
 sd:0<=k.side/\k.side<=T
 a0:0<=k.a0/\k.a0<=T
 a1:0<=k.a1/\k.a1<=T
 le:0<=k.least/\k.least<=T
 mo:0<=k.most/\k.most<=T
 la:0<=k.last/\k.last<=T
 fee:0<=k.fee/\k.fee<=T
theorem Znh (W:Int->LI) (T:Int) (B n:Nat) (k:ClS) (ys:LI) (hk:ZeM T k) (hf:k.t.fund.length=32) (h0:k.t.k0.length=32) (h1:k.t.k1.length=32) (hy:ys=YB W k) (hn:n=ys.length) (h9:∀v,(W v).length<=9) (hB:1000<B) (hB2:B<90000000000000):
  evF (Zng W T B) 20 21 [.ptr (some ⟨0,0,0,0,0⟩)] ⟨1,[(0,.flat (k.c++[.bool true]))]⟩ (ZH 1 (.ret (.nslice ⟨1,0,0,0,0⟩ 1 n n)) 2 [(0,.flat (k.c++[.bool true])),(1,.ints .u8 ys)]):=by
 refine @Eq.mpr _ (let d:=k.side;let L:=decide (d=d);let a:=k.t;let q4:=a.fund;let q5:=a.index;let q6:=a.cap;let V:=a.dust;let P:=a.fee;let O:=a.delay;let b6:=a.k0;let b5:=a.k1;let b4:=[k.a0,k.a1];let b3:=[AV.bool true];
 Z6 L (Z6 L (Z6 L (Z6 L (∃(k_1:ClS),
 let b:=k_1.t;let G:=b.fund;let F:=b.index;let E:=b.cap;let D:=b.dust;let C:=b.fee;let A:=b.delay;let K:=b.k0;let J:=b.k1;let I:=k_1.a0;let H:=k_1.a1;let b2:=[I,H];let z:=k_1.least;let y:=k_1.most;let N:=k_1.offers;let x:=k_1.last;let M:=k_1.agrees;let w:=k_1.fee;let b1:=G++W F;let v:=b1.length;let b0:=b1++W E;let u:=b0.length;let a9:=b0++W D;let s:=a9.length;let a8:=a9++W C;let r:=a8.length;let a7:=a8++W A;let q:=a7.length;let a6:=a7++K;let p:=a6.length;let a5:=a6++J;let o:=a5.length;let a4:=a5++W d;let m:=a4.length;let a3:=a4++W I;let l:=a3.length;let a2:=a3++W H;let j:=a2.length;let Z:=a2++W z;let i:=Z.length;let Y:=Z++W y;let h:=Y.length;let X:=Y++[bif N then 1 else 0];let g:=X.length;let U:=X++W x;let f:=U.length;let S:=U++[bif M then 1 else 0];let e:=S.length;let R:=S++W w;let c:=R.length;let Q:=List.take c (ZX 0 R);
 AV.arr u8 32 q4::AV.int i64 q5::AV.int i64 q6::AV.int i64 V::AV.int i64 P::AV.int i64 O::AV.arr u8 32 b6::AV.arr u8 32 b5::AV.int i64 d::AV.arr i64 2 b4::AV.int i64 k.least::AV.int i64 k.most::AV.bool k.offers::AV.int i64 k.last::AV.bool k.agrees::AV.int i64 k.fee::b3=AV.arr u8 32 G::AV.int i64 F::AV.int i64 E::AV.int i64 D::AV.int i64 C::AV.int i64 A::AV.arr u8 32 K::AV.arr u8 32 J::AV.int i64 k_1.side::AV.arr i64 2 b2::AV.int i64 z::AV.int i64 y::AV.bool N::AV.int i64 x::AV.bool M::AV.int i64 w::b3/\
 Z7 (G.length=32) (Z7 (G.length=32/\(32:Nat)=32/\32<B/\0<=F/\F<=T) (Z7 (v=v/\v=v/\v<B/\0<=E/\E<=T) (Z7 (u=u/\u=u/\u<B/\0<=D/\D<=T) (Z7 (s=s/\s=s/\s<B/\0<=C/\C<=T) (Z7 (r=r/\r=r/\r<B/\0<=A/\A<=T) (Z7 (q=q/\q=q/\q<B/\K.length=32) (Z7 (p=p/\p=p/\p<B/\J.length=32) (Z7 (o=o/\o=o/\o<B/\0<=d/\d<=T) (Z7 (m=m/\m=m/\m<B/\0<=I/\I<=T) (Z7 (l=l/\l=l/\l<B/\0<=H/\H<=T) (Z7 (j=j/\j=j/\j<B/\0<=z/\z<=T) (Z7 (i=i/\i=i/\i<B/\0<=y/\y<=T) (Z7 (h=h/\h=h/\h<B) (Z7 (g=g/\g=g/\g<B/\0<=x/\x<=T) (Z7 (f=f/\f=f/\f<B) (Z7 (e=e/\e=e/\e<B/\0<=w/\w<=T) (Z7 (0+c<=c) (Z7 (Q.length=c/\c<90000000000000) (Z7 (c=n) (Z7 (n<=c) (G=q4/\Z7 (F=q5) (Z7 (E=q6) (Z7 (D=V) (Z7 (C=P) (Z7 (A=O) (K=b6/\J=b5/\Z7 (k_1.side=d) (b2=b4/\Z7 (z=k.least) (Z7 (y=k.most) (Z7 (N=k.offers) (Z7 (x=k.last) (Z7 (M=k.agrees) (Z7 (w=k.fee) (Q=ys/\True)))))))))))))))))))))))))))))))))))))) (by kernel_rfl) ?_
 conv=>zeta
 try simp only [vcA]
 try simp only [vcB]
 try simp only [vcC]
 obtain ⟨⟨a1,b1⟩,⟨a2,b2⟩,⟨a3,b3⟩,⟨a4,b4⟩,⟨a5,b5⟩,⟨a6,b6⟩,⟨a7,b7⟩,⟨a8,b8⟩,⟨a9,b9⟩,⟨a10,b10⟩,⟨a11,b11⟩,⟨a12,b12⟩⟩:=hk
 have l1:=h9 k.t.index
 have l2:=h9 k.t.cap
 have l3:=h9 k.t.dust
 have l4:=h9 k.t.fee
 have l5:=h9 k.t.delay
 have l6:=h9 k.side
 have l7:=h9 k.a0
 have l8:=h9 k.a1
 have l9:=h9 k.least
 have l10:=h9 k.most
 have l11:=h9 k.last
 have l12:=h9 k.fee
 have hz:∀l:LI,List.take l.length (ZX 0 l)=l:=fun l=>by rw [Yb,JV,Jq]
 simp only [hz]
 subst hy hn
 repeat' first
  | with_reducible rfl
  | exact True.intro
  | with_reducible assumption
  | with_reducible refine J9 ?_ ?_
  | with_reducible refine Exists.intro k ?_
 all_goals first
  | ((try simp only [J6,Jk,Jr,hf,h0,h1]);omega)
  | rfl
  | (show List.length (YB W k)<=_;exact J4 _)
def Z1T (n c:Int):Int:=bOr .i64 (ZC .i64 n 8) c
theorem Zko:ZC .i64 0 8=0:=by decide
def goN:Nat->LI->Nat->Int->Option Int
 | 0,_,_,n=>some n
 | m+1,xs,k,n=>if n>36028797018963968 then none else goN m xs (k+1) (Z1T n (i64.wrap (xs.getD k 0)))
def Xw (c:Int):Nat:=if c=253 then 2 else if c=254 then 4 else if c=255 then 8 else 0
@[irreducible] def Yk (W:Int->LI) (xs:LI):Int×Int:=
 if xs.length=0 then (0,0)
 else if Xw (xs.getD 0 0)=0 then (i64.wrap (xs.getD 0 0),1)
 else if xs.length<=Xw (xs.getD 0 0) then (0,0)
 else match goN (Xw (xs.getD 0 0)) (xs.drop 1) 0 0 with
  | none=>(0, -1)
  | some n=>if n>4611686018427387904 then (0, -1) else if (W n).length=1+Xw (xs.getD 0 0) then (n,1+Xw (xs.getD 0 0)) else (0, -1)
theorem Z3S (h:xs.length=0):Yk W xs=(0,0):=by unfold Yk;rw [if_pos h]
theorem Z0r (h:xs.length≠0) (hm:Xw (xs.getD 0 0)=0):Yk W xs=(i64.wrap (xs.getD 0 0),1):=by unfold Yk;rw [if_neg h,if_pos hm]
theorem Vy {m:Nat} (h:xs.length≠0) (hm:Xw (xs.getD 0 0)=m) (hm0:m≠0) (hl:xs.length<=m):Yk W xs=(0,0):=by unfold Yk;rw [if_neg h,if_neg (by omega),if_pos (by omega)]
theorem U7 {m:Nat} (h:xs.length≠0) (hm:Xw (xs.getD 0 0)=m) (hm0:m≠0) (hl:m<xs.length):Yk W xs=match goN m (xs.drop 1) 0 0 with
  | none=>(0, -1)
  | some n=>if n>4611686018427387904 then (0, -1) else if (W n).length=1+m then (n,1+m) else (0, -1):=by
 unfold Yk;rw [if_neg h,if_neg (by omega),if_neg (by omega),hm]
theorem ZeN {c:Int} (h:c=253):Xw c=2:=by unfold Xw;rw [if_pos h]
theorem ZeO {c:Int} (h:¬c=253) (h2:c=254):Xw c=4:=by unfold Xw;rw [if_neg h,if_pos h2]
theorem ZeP {c:Int} (h:¬c=253) (h2:¬c=254) (h3:c=255):Xw c=8:=by unfold Xw;rw [if_neg h,if_neg h2,if_pos h3]
theorem Ziv {c:Int} (h:¬c=253) (h2:¬c=254) (h3:¬c=255):Xw c=0:=by unfold Xw;rw [if_neg h,if_neg h2,if_neg h3]
theorem Zkp:¬((0:Int)>36028797018963968):=by decide
theorem ZhI (W:Int->LI) (xs:LI) (N:Nat) (F:Int×Int) (hN:xs.length=N) (hF:F=Yk W xs):
  evF (ZdG W) 20 271 [.vints .u8 xs N] ⟨0,[]⟩ (ZH 0 (.ret (.tuple [.int .i64 F.1,.int .i64 F.2])) 0 []):=by
 refine @Eq.mpr _ (let s:=decide (0=F.fst);let f:=Z6 s (Z7 (0=F.snd) True);let l:=decide ((0:Int)<=0/\0<(↑N:Int));let e:=List.getD xs 0 0;let i:=decide (N<=xs.length);let h:=(↑(xs.length):Int);let b:=Z2B (some 1) xs;let k:=bOr i64 0 (wrap i64 (List.getD b 0 0));let g:=decide (k>36028797018963968);let a:=Z6 s (Z7 (-1=F.snd) True);let d:=bOr i64 (ZC i64 k 8) (wrap i64 (List.getD b 1 0));let r:=decide (d>36028797018963968);let q:=bOr i64 (ZC i64 d 8) (wrap i64 (List.getD b 2 0));let p:=decide (q>36028797018963968);let c:=bOr i64 (ZC i64 q 8) (wrap i64 (List.getD b 3 0));let o:=bOr i64 (ZC i64 c 8) (wrap i64 (List.getD b 4 0));let n:=bOr i64 (ZC i64 o 8) (wrap i64 (List.getD b 5 0));let m:=bOr i64 (ZC i64 n 8) (wrap i64 (List.getD b 6 0));let j:=bOr i64 (ZC i64 m 8) (wrap i64 (List.getD b 7 0));
 Z5 ((↑N:Int)==0) f (Z6 l (Z5 (decide (e=253)) (Z5 (decide ((↑N:Int)<=2)) f (Z6 i (Z7 ((0:Int)<=1/\(1:Int)<=3/\3<=h) (Z5 g a (Z5 (decide (d>4611686018427387904)) a (Z5 ((↑(List.length (W d)):Int) !=3) a (Z7 (d=F.fst) (Z7 (3=F.snd) True)))))))) (Z5 (decide (e=254)) (Z5 (decide ((↑N:Int)<=4)) f (Z6 i (Z7 ((0:Int)<=1/\(1:Int)<=5/\5<=h) (Z5 g a (Z5 r a (Z5 p a (Z5 (decide (c>4611686018427387904)) a (Z5 ((↑(List.length (W c)):Int) !=5) a (Z7 (c=F.fst) (Z7 (5=F.snd) True)))))))))) (Z5 (decide (e=255)) (Z5 (decide ((↑N:Int)<=8)) f (Z6 i (Z7 ((0:Int)<=1/\(1:Int)<=9/\9<=h) (Z5 g a (Z5 r a (Z5 p a (Z5 (decide (c>36028797018963968)) a (Z5 (decide (o>36028797018963968)) a (Z5 (decide (n>36028797018963968)) a (Z5 (decide (m>36028797018963968)) a (Z5 (decide (j>4611686018427387904)) a (Z5 ((↑(List.length (W j)):Int) !=9) a (Z7 (j=F.fst) (Z7 (9=F.snd) True)))))))))))))) (Z6 l (Z7 (wrap i64 e=F.fst) (Z7 (1=F.snd) True)))))))) (by kernel_rfl) ?_
 conv=>zeta
 try simp only [vcA]
 try simp only [vcB]
 try simp only [vcC]
 subst hN
 refine ⟨fun h0=> ?_,fun h0=> ?_⟩
 ·rw [hF,Z3S (by simp at h0;simp [h0])];exact ⟨rfl,rfl⟩
 have h0:xs.length≠0:=by simp at h0;intro h;rw [Ki] at h;exact h0 h
 have ed:Z2B (some 1) xs=xs.drop 1:=rfl
 rw [ed]
 refine ⟨by omega,fun c1=>⟨fun l1=> ?_,fun l1=>⟨by omega, ?_⟩⟩,fun c1=>⟨fun c2=>⟨fun l1=> ?_,fun l1=>⟨by omega, ?_⟩⟩,fun c2=>⟨fun c3=>⟨fun l1=> ?_,fun l1=>⟨by omega, ?_⟩⟩,fun c3=> ?_⟩⟩⟩
 ·rw [hF,Vy h0 (ZeN c1) (by decide) (by omega)];exact ⟨rfl,rfl⟩
 ·rw [hF,U7 h0 (ZeN c1) (by decide) (by omega)]
  simp only [goN,Z1T,Zko,Zkp,if_false,Jx,Nat.reduceAdd]
  repeat' (first|(refine J9 ?_ ?_)|intro _)
  all_goals first|omega|(simp only [*,if_true,if_false];done)|(simp only [*,if_true,if_false];rfl)|skip
  all_goals rename_i hb
  all_goals first|rw [bne_iff_ne] at hb|rw [bne_eq_false_iff_eq] at hb
  all_goals simp only [*,if_false]
  all_goals first|rfl|(split<;>first|rfl|omega)
 ·rw [hF,Vy h0 (ZeO c1 c2) (by decide) (by omega)];exact ⟨rfl,rfl⟩
 ·rw [hF,U7 h0 (ZeO c1 c2) (by decide) (by omega)]
  simp only [goN,Z1T,Zko,Zkp,if_false,Jx,Nat.reduceAdd]
  repeat' (first|(refine J9 ?_ ?_)|intro _)
  all_goals first|omega|(simp only [*,if_true,if_false];done)|(simp only [*,if_true,if_false];rfl)|skip
  all_goals rename_i hb
  all_goals first|rw [bne_iff_ne] at hb|rw [bne_eq_false_iff_eq] at hb
  all_goals simp only [*,if_false]
  all_goals first|rfl|(split<;>first|rfl|omega)
 ·rw [hF,Vy h0 (ZeP c1 c2 c3) (by decide) (by omega)];exact ⟨rfl,rfl⟩
 ·rw [hF,U7 h0 (ZeP c1 c2 c3) (by decide) (by omega)]
  simp only [goN,Z1T,Zko,Zkp,if_false,Jx,Nat.reduceAdd]
  repeat' (first|(refine J9 ?_ ?_)|intro _)
  all_goals first|omega|(simp only [*,if_true,if_false];done)|(simp only [*,if_true,if_false];rfl)|skip
  all_goals rename_i hb
  all_goals first|rw [bne_iff_ne] at hb|rw [bne_eq_false_iff_eq] at hb
  all_goals simp only [*,if_false]
  all_goals first|rfl|(split<;>first|rfl|omega)
 ·rw [hF,Z0r h0 (Ziv c1 c2 c3)];exact ⟨by omega,rfl,rfl⟩
def ZeQ (F:LI->Int×Int):ZI:=fun args h K=>Zz none h true 20 args fun a=>match a with
 | [.vints .u8 xs n]=>Z7 (xs.length=n) (K (.tuple [.int .i64 (F xs).1,.int .i64 (F xs).2]))
 | _=>False
theorem Zc5 (args:List AV) (h:Z8) (K:AV->Prop) (hl:ZeQ (Yk Zn) args h K):Ze PP 271 args h fun o h'=>∃v,o=.ret v/\h'=h/\K v:=by
 refine Zs.psumm (d:=20) (Zk _ _ _ _ _ hl fun a ha=> ?_)
 split at ha
 ·obtain ⟨h1,hK⟩:=Zd ha
  exact ⟨_,.evM Z0S (ZhI _ _ _ _ h1 rfl),fun _=>rfl,hK⟩
 ·exact ha.elim
noncomputable def E23 (F:LI->Int×Int):Zb:=G0.withP 271 (ZeQ F)
theorem ZeR:(E23 (Yk Zn)).Ok:=Zb.withP_ok Zm Zc5
theorem ZoU (xs:LI) (o n:Nat) (h2:n=0):
  evF G0 20 66 [.ptr (some ⟨0,0,0,0,0⟩)] ⟨2,[(0,.flat [.nslice ⟨1,0,0,0,o⟩ 1 n n,.bool true,.bool false]),(1,.ints .u8 xs)]⟩ (ZH 2 (.ret (.int .i64 0)) 2 [(0,.flat [.nslice ⟨1,0,0,0,o⟩ 1 n n,.bool true,.bool false]),(1,.ints .u8 xs)]):=by
 refine @Eq.mpr _ (Z5 (!(↑n:Int)==0) False (Z5 (decide (o=o)) (Z5 (decide (n=n)) (Z5 (decide (n<=n)) (xs=xs/\True) False) False) False)) (by kernel_rfl) ?_
 try simp only [ZD]
 try simp only [ZU]
 simp_all [ZN]
theorem ZoV (xs:LI) (o n:Nat) (h2:n≠0):
  evF G0 20 66 [.ptr (some ⟨0,0,0,0,0⟩)] ⟨2,[(0,.flat [.nslice ⟨1,0,0,0,o⟩ 1 n n,.bool true,.bool false]),(1,.ints .u8 xs)]⟩ (ZH 2 (.ret (.int .i64 140)) 2 [(0,.flat [.nslice ⟨1,0,0,0,o⟩ 1 n n,.bool true,.bool true]),(1,.ints .u8 xs)]):=by
 refine @Eq.mpr _ (Z5 (!(↑n:Int)==0) (Z5 (decide (o=o)) (Z5 (decide (n=n)) (Z5 (decide (n<=n)) (xs=xs/\True) False) False) False) False) (by kernel_rfl) ?_
 try simp only [ZD]
 try simp only [ZU]
 simp_all [ZN]
theorem Z5c (W:Int->LI) (xs:LI):(Yk W xs).2<=xs.length:=by
 by_cases h0:xs.length=0
 ·rw [Z3S h0];omega
 by_cases hm:Xw (xs.getD 0 0)=0
 ·rw [Z0r h0 hm];omega
 by_cases hl:xs.length<=Xw (xs.getD 0 0)
 all_goals grind [Vy,U7]
def rdN (F:LI->Int×Int) (xs:LI) (o:Nat) (most:Int):Option (Int×Nat):=
 if 0<(F (xs.drop o)).2/\(F (xs.drop o)).1<=most then some ((F (xs.drop o)).1,o+(F (xs.drop o)).2.toNat) else none
def rdH (xs:LI) (o:Nat):Option (LI×Nat):=if o+32<=xs.length then some ((xs.drop o).take 32,o+32) else none
def ZaB:ZO:=fun args h K=>match args with
 | [.ptr (some ⟨r,0,0,0,0⟩)]=>match h.get r with
  |some (.flat [.nslice ⟨b,0,0,0,_⟩ 1 _ _,.bool true,.bool false])=>frA [r,b] h 20 args fun Bs a=>match Bs,a with
   | [.flat [.nslice ⟨1,0,0,0,o⟩ 1 n n2,.bool true,.bool false],.ints .u8 xs],[.ptr (some ⟨0,0,0,0,0⟩)]=>
    Z7 (n2=n) (Z5 (decide (n=0))
     (K (.ret (.int .i64 0)) ⟨h.next,(r,.flat [.nslice ⟨b,0,0,0,o⟩ 1 n n,.bool true,.bool false])::(b,.ints .u8 xs)::Ya (Ya h.bs r) b⟩)
     (K (.ret (.int .i64 140)) ⟨h.next,(r,.flat [.nslice ⟨b,0,0,0,o⟩ 1 n n,.bool true,.bool true])::(b,.ints .u8 xs)::Ya (Ya h.bs r) b⟩))
   | _,_=>False
  | _=>False
 | _=>False
theorem ZeS (args:List AV) (h:Z8) (K:KO) (hl:ZaB args h K):Ze PP 66 args h K:=by
 unfold ZaB at hl
 split at hl
 ·split at hl
  ·refine Spec.fsumm hl fun Bs a hlen hK0=> ?_
   split at hK0
   ·rename_i o n n2 xs
    obtain ⟨rfl,hK⟩:=Zd hK0
    rw [ZM] at hK
    by_cases hc:n2=0
    ·exact ⟨_,_,_,_,_,.evM Zm (ZoU xs o _ hc),by simp,.ret _ _ rfl,.cons _ _ _ _ _ _ rfl (.flat _ _ rfl) (.cons _ _ _ _ _ _ rfl (.ints _ _) .nil),hK.1 hc⟩
    ·exact ⟨_,_,_,_,_,.evM Zm (ZoV xs o _ hc),by simp,.ret _ _ rfl,.cons _ _ _ _ _ _ rfl (.flat _ _ rfl) (.cons _ _ _ _ _ _ rfl (.ints _ _) .nil),hK.2 hc⟩
   simp_all
  simp_all
 simp_all
def rdT (xs:LI) (o:Nat):Option (Bool×Nat):=if o<xs.length/\xs.getD o 0<=1 then some (xs.getD o 0==1,o+1) else none
theorem ZoW (xs:LI) (o n o' n':Nat) (b:Bool) (hn:o+n=xs.length) (h0:0<n) (h1:xs.getD o 0<=1) (hb:b=(xs.getD o 0==1)) (ho:o'=o+1) (hn':n'=n-1):
  evF G0 20 130 [.ptr (some ⟨0,0,0,0,0⟩)] ⟨2,[(0,.flat [.nslice ⟨1,0,0,0,o⟩ 1 n n,.bool true,.bool false]),(1,.ints .u8 xs)]⟩ (ZH 2 (.ret (.tuple [.bool b,.int .i64 0])) 2 [(0,.flat [.nslice ⟨1,0,0,0,o'⟩ 1 n' n',.bool true,.bool false]),(1,.ints .u8 xs)]):=by
 refine @Eq.mpr _ (let g:=Z5 (decide (false=b)) False False;let f:=decide (n<=n);let e:=decide ((0:Int)<=1/\1<=(↑n:Int));let d:=o+0+0;let c:=List.getD xs d 0;let a:=VQ n (some 1);
 Z5 (!decide (1<=(↑n:Int))) g (Z5 f (Z5 e (Z5 f (Z5 e (Z5 (decide (d<xs.length)) (Z5 (!decide (c<=1)) g (Z5 (decide ((c==1)=b)) (Z5 (decide (o+1=o')) (Z5 (decide (a=n')) (Z5 (decide (n'<=a)) (xs=xs/\True) False) False) False) False)) False) False) False) False) False)) (by kernel_rfl) ?_
 conv=>zeta
 try simp only [ZD]
 try simp only [ZU]
 try simp only [ZM]
 try simp only [ZY]
 try simp only [Y0]
 try simp only [ZN]
 try simp only [and_true]
 have e:VQ n (some 1)=n-1:=rfl
 grind
theorem ZoX (xs:LI) (o n:Nat) (hn:o+n=xs.length) (h1:0<n->1<xs.getD o 0):
  evF G0 20 130 [.ptr (some ⟨0,0,0,0,0⟩)] ⟨2,[(0,.flat [.nslice ⟨1,0,0,0,o⟩ 1 n n,.bool true,.bool false]),(1,.ints .u8 xs)]⟩ (ZH 2 (.ret (.tuple [.bool false,.int .i64 140])) 2 [(0,.flat [.nslice ⟨1,0,0,0,o⟩ 1 n n,.bool true,.bool true]),(1,.ints .u8 xs)]):=by
 refine @Eq.mpr _ (let a:=decide (n<=n);let e:=Z5 (decide (o=o)) (Z5 (decide (n=n)) (Z5 a (xs=xs/\True) False) False) False;let d:=decide ((0:Int)<=1/\1<=(↑n:Int));let c:=o+0+0;let b:=List.getD xs c 0;
 Z5 (!decide (1<=(↑n:Int))) e (Z5 a (Z5 d (Z5 a (Z5 d (Z5 (decide (c<xs.length)) (Z5 (!decide (b<=1)) e (Z5 (decide ((b==1)=false)) False False)) False) False) False) False) False)) (by kernel_rfl) ?_
 conv=>zeta
 try simp only [ZD]
 try simp only [ZU]
 try simp only [ZM]
 try simp only [ZY]
 try simp only [Y0]
 try simp only [ZN]
 grind
def ZaC:ZO:=fun args h K=>match args with
 | [.ptr (some ⟨r,0,0,0,0⟩)]=>match h.get r with
  |some (.flat [.nslice ⟨b,0,0,0,_⟩ 1 _ _,.bool true,.bool false])=>frA [r,b] h 20 args fun Bs a=>match Bs,a with
   | [.flat [.nslice ⟨1,0,0,0,o⟩ 1 n n2,.bool true,.bool false],.ints .u8 xs],[.ptr (some ⟨0,0,0,0,0⟩)]=>
    Z7 (n=xs.length-o/\o<=xs.length/\n2=xs.length-o) ((∀v o',rdT xs o=some (v,o')->(o<=o'/\o'<=xs.length)->
     K (.ret (.tuple [.bool v,.int .i64 0])) ⟨h.next,(r,.flat [.nslice ⟨b,0,0,0,o'⟩ 1 (xs.length-o') (xs.length-o'),.bool true,.bool false])::(b,.ints .u8 xs)::Ya (Ya h.bs r) b⟩)/\
     (rdT xs o=none->K (.ret (.tuple [.bool false,.int .i64 140])) ⟨h.next,(r,.flat [.nslice ⟨b,0,0,0,o⟩ 1 (xs.length-o) (xs.length-o),.bool true,.bool true])::(b,.ints .u8 xs)::Ya (Ya h.bs r) b⟩))
   | _,_=>False
  | _=>False
 | _=>False
theorem ZeT (args:List AV) (h:Z8) (K:KO) (hl:ZaC args h K):Ze PP 130 args h K:=by
 unfold ZaC at hl
 split at hl
 ·split at hl
  ·refine Spec.fsumm hl fun Bs a hlen hK0=> ?_
   split at hK0
   ·rename_i o n n2 xs
    obtain ⟨⟨rfl,h1,rfl⟩,hK,hK'⟩:=Zd hK0
    by_cases hc:o<xs.length/\xs.getD o 0<=1
    ·exact ⟨_,_,_,_,_,.evM Zm (ZoW xs o (xs.length-o) (o+1) (xs.length-(o+1)) _ (by omega) (by omega) hc.2 rfl rfl (by omega)),by simp,.ret _ _ rfl,.cons _ _ _ _ _ _ rfl (.flat _ _ rfl) (.cons _ _ _ _ _ _ rfl (.ints _ _) .nil),hK _ (o+1) (by unfold rdT;rw [if_pos hc]) ⟨by omega,by omega⟩⟩
    ·exact ⟨_,_,_,_,_,.evM Zm (ZoX xs o _ (by omega) (fun h=>by omega)),by simp,.ret _ _ rfl,.cons _ _ _ _ _ _ rfl (.flat _ _ rfl) (.cons _ _ _ _ _ _ rfl (.ints _ _) .nil),hK' (by unfold rdT;rw [if_neg hc])⟩
   simp_all
  simp_all
 simp_all
theorem Zni (F:LI->Int×Int) (xs:LI) (o n o' n':Nat) (most v:Int) (hn:o+n=xs.length) (hm:0<=most) (h2:0<(F (xs.drop o)).2/\(F (xs.drop o)).2<=n) (h1:(F (xs.drop o)).1<=most) (hv:(F (xs.drop o)).1=v) (ho:o'=o+(F (xs.drop o)).2.toNat) (hn':n'=n-(F (xs.drop o)).2.toNat):
  evF (E23 F) 20 128 [.ptr (some ⟨0,0,0,0,0⟩),.int .i64 most] ⟨2,[(0,.flat [.nslice ⟨1,0,0,0,o⟩ 1 n n,.bool true,.bool false]),(1,.ints .u8 xs)]⟩ (ZH 2 (.ret (.tuple [.int .i64 v,.int .i64 0])) 2 [(0,.flat [.nslice ⟨1,0,0,0,o'⟩ 1 n' n',.bool true,.bool false]),(1,.ints .u8 xs)]):=by
 refine @Eq.mpr _ (let b:=Z5 (decide (0=v)) False False;let i:=ZK.tot (ZK.mk 1 0 0 0 o);let h:=List.take n (ZX i xs);let g:=F h;let a:=g.snd;let f:=g.fst;let e:=decide (n<=n);let d:=decide (0<=a/\a<= ↑n);let c:=some (Int.toNat a);let j:=VQ n c;
 Z5 (decide (most<0)) b (Z5 (decide (i+n<=xs.length)) (Z5 (decide (h.length=n)) (Z5 (decide (a>0)) (Z5 (!decide (f<=most)) b (Z5 (!decide (a<= ↑n)) b (Z5 e (Z5 d (Z5 e (Z5 d (Z5 (decide (f=v)) (Z5 (decide (o+Yd c=o')) (Z5 (decide (j=n')) (Z5 (decide (n'<=j)) (xs=xs/\True) False) False) False) False) False) False) False) False))) b) False) False)) (by kernel_rfl) ?_
 conv=>zeta
 try simp only [ZD]
 try simp only [ZU]
 try simp only [ZM]
 try simp only [ZY]
 try simp only [Y0]
 try simp only [ZN]
 try simp only [and_true]
 have ht:(ZK.mk 1 0 0 0 o).tot=o:=by simp [ZK.tot]
 have hd:List.take n (ZX o xs)=xs.drop o:=by rw [Yb,Jv (by rw [Jg];omega)]
 simp only [ht,hd]
 generalize F (xs.drop o)=p at*
 have e3:Yd (some p.2.toNat)=p.2.toNat:=rfl
 have e4:VQ n (some p.2.toNat)=n-p.2.toNat:=rfl
 grind
theorem Znj (F:LI->Int×Int) (xs:LI) (o n:Nat) (most:Int) (hn:o+n=xs.length) (hm:0<=most) (h2:0<(F (xs.drop o)).2->most<(F (xs.drop o)).1):
  evF (E23 F) 20 128 [.ptr (some ⟨0,0,0,0,0⟩),.int .i64 most] ⟨2,[(0,.flat [.nslice ⟨1,0,0,0,o⟩ 1 n n,.bool true,.bool false]),(1,.ints .u8 xs)]⟩ (ZH 2 (.ret (.tuple [.int .i64 0,.int .i64 140])) 2 [(0,.flat [.nslice ⟨1,0,0,0,o⟩ 1 n n,.bool true,.bool true]),(1,.ints .u8 xs)]):=by
 refine @Eq.mpr _ (let h:=ZK.tot (ZK.mk 1 0 0 0 o);let g:=List.take n (ZX h xs);let f:=F g;let a:=f.snd;let e:=f.fst;let c:=decide (n<=n);let b:=Z5 (decide (o=o)) (Z5 (decide (n=n)) (Z5 c (xs=xs/\True) False) False) False;let d:=decide (0<=a/\a<= ↑n);
 Z5 (decide (most<0)) False (Z5 (decide (h+n<=xs.length)) (Z5 (decide (g.length=n)) (Z5 (decide (a>0)) (Z5 (!decide (e<=most)) b (Z5 (!decide (a<= ↑n)) b (Z5 c (Z5 d (Z5 c (Z5 d (Z5 (decide (e=0)) False False) False) False) False) False))) b) False) False)) (by kernel_rfl) ?_
 conv=>zeta
 try simp only [ZD]
 try simp only [ZU]
 try simp only [ZM]
 try simp only [ZY]
 try simp only [Y0]
 try simp only [ZN]
 try simp only [and_true]
 have ht:(ZK.mk 1 0 0 0 o).tot=o:=by simp [ZK.tot]
 have hd:List.take n (ZX o xs)=xs.drop o:=by rw [Yb,Jv (by rw [Jg];omega)]
 grind
theorem Znk (xs hh:LI) (o n o' n':Nat) (hn:o+n=xs.length) (h2:32<=n) (hh':hh=(xs.drop o).take 32) (ho:o'=o+32) (hn':n'=n-32):
  evF G0 20 129 [.ptr (some ⟨0,0,0,0,0⟩)] ⟨2,[(0,.flat [.nslice ⟨1,0,0,0,o⟩ 1 n n,.bool true,.bool false]),(1,.ints .u8 xs)]⟩ (ZH 2 (.ret (.tuple [.agg [.arr .u8 32 hh],.int .i64 0])) 2 [(0,.flat [.nslice ⟨1,0,0,0,o'⟩ 1 n' n',.bool true,.bool false]),(1,.ints .u8 xs)]):=by
 refine @Eq.mpr _ (let d:=decide (n<=n);let c:=decide ((0:Int)<=32/\32<=(↑n:Int));let b:=ZK.tot (ZK.mk 1 0 0 0 (o+0));let a:=VQ n (some 32);
 Z5 (!decide (32<=(↑n:Int))) (Z0=hh/\False) (Z5 d (Z5 c (Z5 d (Z5 c (Z5 (decide (u8=u8/\b+32<=xs.length)) (spl Z0 0 (List.take 32 (List.take 32 (ZX b xs)))=hh/\Z5 (decide (o+32=o')) (Z5 (decide (a=n')) (Z5 (decide (n'<=a)) (xs=xs/\True) False) False) False) False) False) False) False) False)) (by kernel_rfl) ?_
 conv=>zeta
 try simp only [ZD]
 try simp only [ZU]
 try simp only [ZM]
 try simp only [ZY]
 try simp only [Y0]
 try simp only [ZN]
 try simp only [and_true]
 have ht:(ZK.mk 1 0 0 0 (o+0)).tot=o:=by simp [ZK.tot]
 have e4:VQ n (some 32)=n-32:=rfl
 have hl:((xs.drop o).take 32).length=32:=by rw [Ji,Jg];omega
 have hd:List.take 32 (List.take 32 (ZX o xs))=(xs.drop o).take 32:=by rw [Yb,List.take_take];rfl
 have hs:spl Z0 0 ((xs.drop o).take 32)=(xs.drop o).take 32:=by
  simp_all [spl,Z0]
 grind
theorem Znl (xs:LI) (o n:Nat) (hn:o+n=xs.length) (h2:n<32):
  evF G0 20 129 [.ptr (some ⟨0,0,0,0,0⟩)] ⟨2,[(0,.flat [.nslice ⟨1,0,0,0,o⟩ 1 n n,.bool true,.bool false]),(1,.ints .u8 xs)]⟩ (ZH 2 (.ret (.tuple [.agg [.arr .u8 32 Z0],.int .i64 140])) 2 [(0,.flat [.nslice ⟨1,0,0,0,o⟩ 1 n n,.bool true,.bool true]),(1,.ints .u8 xs)]):=by
 refine @Eq.mpr _ (let a:=decide (n<=n);let c:=decide ((0:Int)<=32/\32<=(↑n:Int));let b:=ZK.tot (ZK.mk 1 0 0 0 (o+0));
 Z5 (!decide (32<=(↑n:Int))) (Z0=Z0/\Z5 (decide (o=o)) (Z5 (decide (n=n)) (Z5 a (xs=xs/\True) False) False) False) (Z5 a (Z5 c (Z5 a (Z5 c (Z5 (decide (u8=u8/\b+32<=xs.length)) (spl Z0 0 (List.take 32 (List.take 32 (ZX b xs)))=Z0/\False) False) False) False) False) False)) (by kernel_rfl) ?_
 conv=>zeta
 try simp only [ZD]
 try simp only [ZU]
 try simp only [ZM]
 try simp only [ZY]
 try simp only [Y0]
 try simp only [ZN]
 grind
def ZaD (F:LI->Int×Int):ZO:=fun args h K=>match args with
 | [.ptr (some ⟨r,0,0,0,0⟩),.int .i64 _]=>match h.get r with
  |some (.flat [.nslice ⟨b,0,0,0,_⟩ 1 _ _,.bool true,.bool false])=>frA [r,b] h 20 args fun Bs a=>match Bs,a with
   | [.flat [.nslice ⟨1,0,0,0,o⟩ 1 n n2,.bool true,.bool false],.ints .u8 xs],[.ptr (some ⟨0,0,0,0,0⟩),.int .i64 most]=>
    Z7 (n=xs.length-o/\o<=xs.length/\n2=xs.length-o/\0<=most) ((∀v o',rdN F xs o most=some (v,o')->(o<=o'/\o'<=xs.length/\v<=most)->
     K (.ret (.tuple [.int .i64 v,.int .i64 0])) ⟨h.next,(r,.flat [.nslice ⟨b,0,0,0,o'⟩ 1 (xs.length-o') (xs.length-o'),.bool true,.bool false])::(b,.ints .u8 xs)::Ya (Ya h.bs r) b⟩)/\
     (rdN F xs o most=none->K (.ret (.tuple [.int .i64 0,.int .i64 140])) ⟨h.next,(r,.flat [.nslice ⟨b,0,0,0,o⟩ 1 (xs.length-o) (xs.length-o),.bool true,.bool true])::(b,.ints .u8 xs)::Ya (Ya h.bs r) b⟩))
   | _,_=>False
  | _=>False
 | _=>False
theorem ZeU (args:List AV) (h:Z8) (K:KO) (hl:ZaD (Yk Zn) args h K):Ze PP 128 args h K:=by
 unfold ZaD at hl
 split at hl
 ·split at hl
  ·refine Spec.fsumm hl fun Bs a hlen hK0=> ?_
   split at hK0
   ·rename_i o n n2 xs most
    obtain ⟨⟨rfl,h1,rfl,h3⟩,hK,hK'⟩:=Zd hK0
    have hle:=Z5c Zn (xs.drop o)
    rw [Jg] at hle
    by_cases hc:0<(Yk Zn (xs.drop o)).2/\(Yk Zn (xs.drop o)).1<=most
    ·have f1:o<=o+(Yk Zn (xs.drop o)).2.toNat/\o+(Yk Zn (xs.drop o)).2.toNat<=xs.length/\(Yk Zn (xs.drop o)).1<=most:=⟨by omega,by omega,hc.2⟩
     exact ⟨_,_,_,_,_,.evM ZeR (Zni _ xs o (xs.length-o) (o+(Yk Zn (xs.drop o)).2.toNat) (xs.length-(o+(Yk Zn (xs.drop o)).2.toNat)) most _ (by omega) h3 ⟨hc.1,by omega⟩ hc.2 rfl rfl (by omega)),by simp,.ret _ _ rfl,.cons _ _ _ _ _ _ rfl (.flat _ _ rfl) (.cons _ _ _ _ _ _ rfl (.ints _ _) .nil),hK _ _ (by unfold rdN;rw [if_pos hc]) f1⟩
    ·exact ⟨_,_,_,_,_,.evM ZeR (Znj _ xs o _ most (by omega) h3 (fun h=>by omega)),by simp,.ret _ _ rfl,.cons _ _ _ _ _ _ rfl (.flat _ _ rfl) (.cons _ _ _ _ _ _ rfl (.ints _ _) .nil),hK' (by unfold rdN;rw [if_neg hc])⟩
   simp_all
  simp_all
 simp_all
def Z6d:ZO:=fun args h K=>match args with
 | [.ptr (some ⟨r,0,0,0,0⟩)]=>match h.get r with
  |some (.flat [.nslice ⟨b,0,0,0,_⟩ 1 _ _,.bool true,.bool false])=>frA [r,b] h 20 args fun Bs a=>match Bs,a with
   | [.flat [.nslice ⟨1,0,0,0,o⟩ 1 n n2,.bool true,.bool false],.ints .u8 xs],[.ptr (some ⟨0,0,0,0,0⟩)]=>
    Z7 (n=xs.length-o/\o<=xs.length/\n2=xs.length-o) ((∀hh o',rdH xs o=some (hh,o')->(o<=o'/\o'<=xs.length/\hh.length=32)->
     K (.ret (.tuple [.agg [.arr .u8 32 hh],.int .i64 0])) ⟨h.next,(r,.flat [.nslice ⟨b,0,0,0,o'⟩ 1 (xs.length-o') (xs.length-o'),.bool true,.bool false])::(b,.ints .u8 xs)::Ya (Ya h.bs r) b⟩)/\
     (rdH xs o=none->K (.ret (.tuple [.agg [.arr .u8 32 Z0],.int .i64 140])) ⟨h.next,(r,.flat [.nslice ⟨b,0,0,0,o⟩ 1 (xs.length-o) (xs.length-o),.bool true,.bool true])::(b,.ints .u8 xs)::Ya (Ya h.bs r) b⟩))
   | _,_=>False
  | _=>False
 | _=>False
theorem Zc6 (args:List AV) (h:Z8) (K:KO) (hl:Z6d args h K):Ze PP 129 args h K:=by
 unfold Z6d at hl
 split at hl
 ·split at hl
  ·refine Spec.fsumm hl fun Bs a hlen hK0=> ?_
   split at hK0
   ·rename_i o n n2 xs
    obtain ⟨⟨rfl,h1,rfl⟩,hK,hK'⟩:=Zd hK0
    by_cases hc:o+32<=xs.length
    ·have f1:o<=o+32/\o+32<=xs.length/\((xs.drop o).take 32).length=32:=⟨by omega,hc,by rw [Ji,Jg];omega⟩
     exact ⟨_,_,_,_,_,.evM Zm (Znk xs _ o (xs.length-o) (o+32) (xs.length-(o+32)) (by omega) (by omega) rfl rfl (by omega)),by simp,.ret _ _ rfl,.cons _ _ _ _ _ _ rfl (.flat _ _ rfl) (.cons _ _ _ _ _ _ rfl (.ints _ _) .nil),hK _ _ (by unfold rdH;rw [if_pos hc]) f1⟩
    ·exact ⟨_,_,_,_,_,.evM Zm (Znl xs o _ (by omega) (by omega)),by simp,.ret _ _ rfl,.cons _ _ _ _ _ _ rfl (.flat _ _ rfl) (.cons _ _ _ _ _ _ rfl (.ints _ _) .nil),hK' (by unfold rdH;rw [if_neg hc])⟩
   simp_all
  simp_all
 simp_all
theorem ZeV {n c:Int} (h0:0<=n) (h1:n<36028797018963968) (h2:0<=c) (h3:c<=255):Z1T n c=256*n+c:=by
 unfold Z1T bOr ZC
 have e1:(n*2^(min (8:Int).toNat i64.bits))=n*256:=by simp [IntKind.bits]
 rw [e1,w64 (x:=n*256) (by omega)]
 obtain ⟨a,rfl⟩:=Kj h0
 obtain ⟨b,rfl⟩:=Kj h2
 have e2:((BitVec.ofInt i64.bits ((a:Int)*256))|||(BitVec.ofInt i64.bits (b:Int))).toNat=256*a+b:=by
  have ea:BitVec.ofInt 64 ((a:Int)*256)=BitVec.ofNat 64 (a*256):=by
   rw [<-BitVec.ofInt_natCast];rfl
  have eb:BitVec.ofInt 64 (b:Int)=BitVec.ofNat 64 b:=JK 64 b
  show (BitVec.ofInt 64 ((a:Int)*256)|||BitVec.ofInt 64 (b:Int)).toNat=_
  rw [ea,eb,BitVec.toNat_or,JL,JL,Jz (by omega),Jz (by omega)]
  have:=Nat.shiftLeft_add_eq_or_of_lt (a:=a) (b:=b) (i:=8) (by omega)
  rw [Nat.shiftLeft_eq] at this
  rw [<-this];omega
 rw [e2,w64 (by omega)]
 omega
theorem Z9o {c:Int} (h2:0<=c) (h3:c<=255):Z1T 36028797018963968 c<0:=by
 have h:∀b:Fin 256,Z1T 36028797018963968 (b.val:Int)<0:=by decide+kernel
 have:=h ⟨c.toNat,by omega⟩
 have e:((c.toNat:Nat):Int)=c:=Int.toNat_of_nonneg h2
 rw [show ((⟨c.toNat,by omega⟩:Fin 256).val:Int)=c from e] at this
 exact this
theorem ZaE:∀(m:Nat) (xs:LI) (k:Nat) (n:Int),Bytes xs->0<=n->n*256^m<=Q8 m xs k n
 | 0,xs,k,n,hb,hn=>by simp [Q8]
 | m+1,xs,k,n,hb,hn=>by
  have hc:=hb.h k
  have:=ZaE m xs (k+1) (256*n+xs.getD k 0) hb (by omega)
  unfold Q8
  refine Int.le_trans ?_ this
  rw [Int.pow_succ,Int.mul_comm (256^m) 256,<-Int.mul_assoc]
  exact Int.mul_le_mul_of_nonneg_right (by omega) (Int.le_of_lt (Int.pow_pos (by decide)))
theorem ZeW {a b:Nat} (h:a<=b):(256:Int)^a<=256^b:=by
 have h1:=Nat.pow_le_pow_right (n:=256) (by decide) h
 have h2:((256^a:Nat):Int)<=((256^b:Nat):Int):=Int.ofNat_le.2 h1
 rw [Int.natCast_pow,Int.natCast_pow] at h2
 exact h2
theorem Znm (m:Nat):(1:Int)<=256^m:=Int.pow_pos (by decide)
theorem ZaF:∀(m:Nat) (xs:LI) (k:Nat) (n:Int),Bytes xs->0<=n->m<=8->n<256^(8-m)->
  (goN m xs k n=none/\Q8 m xs k n>4611686018427387904)\/(∃v,goN m xs k n=some v/\((v=Q8 m xs k n/\0<=v)\/(v<0/\Q8 m xs k n>4611686018427387904)))
 | 0,xs,k,n,hb,hn,hm,hl=>.inr ⟨n,rfl,.inl ⟨rfl,hn⟩⟩
 | m+1,xs,k,n,hb,hn,hm,hl=>by
  have hc:=hb.h k
  have hge:=ZaE (m+1) xs k n hb hn
  by_cases h1:n>36028797018963968
  ·left
   refine ⟨by unfold goN;rw [if_pos h1], ?_⟩
   have:=Znm m
   rw [Int.pow_succ] at hge
   have h2:n*(1*256)<=n*(256^m*256):=Int.mul_le_mul_of_nonneg_left (Int.mul_le_mul_of_nonneg_right this (by decide)) hn
   omega
  ·unfold goN Q8
   rw [if_neg h1]
   have hw:i64.wrap (xs.getD k 0)=xs.getD k 0:=w64 (by omega)
   rw [hw]
   by_cases h2:n=36028797018963968
   ·subst h2
    have hm0:m=0:=by
     have hq:(36028797018963968:Int)=256^6*128:=by decide
     rcases JE m with h|h
     ·exact h
     ·exfalso
      have hle:(256:Int)^(8-(m+1))<=256^6:=ZeW (by omega)
      have:(256:Int)^6=281474976710656:=by decide
      omega
    subst hm0
    right
    refine ⟨_,rfl,.inr ⟨Z9o hc.1 hc.2, ?_⟩⟩
    show 256*36028797018963968+xs.getD k 0>_
    omega
   ·rw [ZeV hn (by omega) hc.1 hc.2]
    refine ZaF m xs (k+1) _ hb (by omega) (by omega) ?_
    have e:8-m=(8-(m+1))+1:=by omega
    rw [e,Int.pow_succ]
    omega
theorem Z1x (hb:Bytes xs) {m:Nat} (h:xs.length≠0) (hm:Xw (xs.getD 0 0)=m) (hm0:m≠0) (h8:m<=8) (hl:m<xs.length):
  Yk Zn xs=if Q8 m xs 1 0>4611686018427387904 then ((0:Int),(-1:Int)) else if (Zn (Q8 m xs 1 0)).length=1+m then (Q8 m xs 1 0,1+(m:Int)) else ((0:Int),(-1:Int)):=by
 rw [U7 h hm hm0 hl]
 have hv:∀(m k:Nat) (n:Int),Q8 m (xs.drop 1) k n=Q8 m xs (k+1) n:=by
  intro m
  induction m with
  | zero=>intro k n;rfl
  | succ m ih=>
   intro k n
   unfold Q8
   rw [ih]
   congr 2
   rw [J3,J3,JD,Nat.add_comm]
 have hv:=hv m 0 0
 rcases ZaF m (xs.drop 1) 0 0 (hb.drop 1) (by decide) h8 (Znm _) with ⟨h1,h2⟩|⟨v,h1,h2⟩
 ·rw [h1,if_pos (by rw [<-hv];exact h2)]
 ·rw [h1]
  rcases h2 with ⟨rfl,h0⟩|⟨h0,h2⟩
  ·rw [hv]
  ·show (if v>4611686018427387904 then ((0:Int),(-1:Int)) else if (Zn v).length=1+m then (v,1+(m:Int)) else (0, -1))=_
   rw [if_neg (by omega),if_neg,if_pos (by rw [<-hv];exact h2)]
   rw [Z7b (by omega)]
   simp
   omega
theorem Znn (x:Int):u8.wrap x=x%256:=by
 have h:=Z94 x
 unfold wrap at*
 simp only [IntKind.signed,IntKind.bits] at*
 first|rfl|omega|simp
theorem Vz {n:Int} {k:Nat} (hk:k<=56):b8 n k=(n/2^k)%256:=by
 unfold b8 Zr
 have e:(2:Int)^(min ((k:Int)).toNat (IntKind.bits .i64))=2^k:=by
  have:min ((k:Int)).toNat (IntKind.bits .i64)=k:=by
   rw [JA]
   show min k 64=k
   omega
  rw [this]
 rw [e,Kc _ (Int.le_of_lt (Int.pow_pos (by decide)))]
 exact Znn _
theorem Z7D {n:Int} (h0:0<=n) (h1:n<=4611686018427387904) (hb:Bytes (Zn n++ys)):Yk Zn (Zn n++ys)=(n,((Zn n).length:Int)):=by
 by_cases c1:n<253
 ·have e:=Z7b c1
  have ew:u8.wrap n=n:=by rw [Znn];omega
  rw [e,ew] at hb⊢
  have hm:Xw (([n]++ys).getD 0 0)=0:=Ziv (by show ¬n=253;omega) (by show ¬n=254;omega) (by show ¬n=255;omega)
  rw [Z0r (by simp) hm]
  have:i64.wrap (([n]++ys).getD 0 0)=n:=w64 (x:=n) (by omega)
  rw [this];rfl
 by_cases c2:n<65536
 ·have e:=Za8 c1 c2
  have hl:=(congrArg List.length e)
  rw [e] at hb⊢
  have hm:Xw (([253,b8 n 8,b8 n 0]++ys).getD 0 0)=2:=ZeN rfl
  have hv:Q8 2 ([253,b8 n 8,b8 n 0]++ys) 1 0=n:=by
   show 256*(256*0+b8 n 8)+b8 n 0=n
   rw [show b8 n 8=(n/2^8)%256 from Vz (k:=8) (by decide),show b8 n 0=(n/2^0)%256 from Vz (k:=0) (by decide)]
   omega
  rw [Z1x hb (by simp) hm (by decide) (by decide) (by simp),hv,if_neg (by omega),if_pos (by rw [hl];rfl)]
  rfl
 by_cases c3:n<4294967296
 ·have e:=Za9 c1 c2 c3
  have hl:=(congrArg List.length e)
  rw [e] at hb⊢
  have hm:Xw (([254,b8 n 24,b8 n 16,b8 n 8,b8 n 0]++ys).getD 0 0)=4:=ZeO (by show ¬(254:Int)=253;decide) rfl
  have hv:Q8 4 ([254,b8 n 24,b8 n 16,b8 n 8,b8 n 0]++ys) 1 0=n:=by
   show 256*(256*(256*(256*0+b8 n 24)+b8 n 16)+b8 n 8)+b8 n 0=n
   rw [show b8 n 24=(n/2^24)%256 from Vz (k:=24) (by decide),show b8 n 16=(n/2^16)%256 from Vz (k:=16) (by decide),show b8 n 8=(n/2^8)%256 from Vz (k:=8) (by decide),show b8 n 0=(n/2^0)%256 from Vz (k:=0) (by decide)]
   omega
  rw [Z1x hb (by simp) hm (by decide) (by decide) (by simp),hv,if_neg (by omega),if_pos (by rw [hl];rfl)]
  rfl
 ·have e:=Zaa c1 c2 c3
  have hl:=(congrArg List.length e)
  rw [e] at hb⊢
  have hm:Xw (([255,b8 n 56,b8 n 48,b8 n 40,b8 n 32,b8 n 24,b8 n 16,b8 n 8,b8 n 0]++ys).getD 0 0)=8:=ZeP (by show ¬(255:Int)=253;decide) (by show ¬(255:Int)=254;decide) rfl
  have hv:Q8 8 ([255,b8 n 56,b8 n 48,b8 n 40,b8 n 32,b8 n 24,b8 n 16,b8 n 8,b8 n 0]++ys) 1 0=n:=by
   show 256*(256*(256*(256*(256*(256*(256*(256*0+b8 n 56)+b8 n 48)+b8 n 40)+b8 n 32)+b8 n 24)+b8 n 16)+b8 n 8)+b8 n 0=n
   rw [show b8 n 56=(n/2^56)%256 from Vz (k:=56) (by decide),show b8 n 48=(n/2^48)%256 from Vz (k:=48) (by decide),show b8 n 40=(n/2^40)%256 from Vz (k:=40) (by decide),show b8 n 32=(n/2^32)%256 from Vz (k:=32) (by decide),show b8 n 24=(n/2^24)%256 from Vz (k:=24) (by decide),show b8 n 16=(n/2^16)%256 from Vz (k:=16) (by decide),show b8 n 8=(n/2^8)%256 from Vz (k:=8) (by decide),show b8 n 0=(n/2^0)%256 from Vz (k:=0) (by decide)]
   omega
  rw [Z1x hb (by simp) hm (by decide) (by decide) (by simp),hv,if_neg (by omega),if_pos (by rw [hl];rfl)]
  rfl
theorem Xd {n most:Int} {o:Nat} (hb:Bytes xs) (hd:xs.drop o=Zn n++ys) (h0:0<=n) (hm:n<=most) (h1:n<=4611686018427387904):rdN (Yk Zn) xs o most=some (n,o+(Zn n).length)/\xs.drop (o+(Zn n).length)=ys:=by
 have hb2:Bytes (Zn n++ys):=by rw [<-hd];exact hb.drop o
 have hf:=Z7D h0 h1 hb2
 have hl:=(ZL n).1
 refine ⟨?_,by rw [<-List.drop_drop,hd,List.drop_left]⟩
 unfold rdN
 rw [hd,hf]
 rw [if_pos ⟨by show (0:Int)<((Zn n).length:Int);omega,hm⟩]
 show some (n,o+((Zn n).length:Int).toNat)=_
 rw [JA]
theorem Z3T {hh:LI} {o:Nat} (hl:hh.length=32) (hd:xs.drop o=hh++ys):rdH xs o=some (hh,o+32)/\xs.drop (o+32)=ys:=by
 have hx:o+32<=xs.length:=by
  have:=congrArg List.length hd
  rw [Jg,J6,hl] at this
  omega
 refine ⟨?_,by rw [<-List.drop_drop,hd,<-hl,List.drop_left]⟩
 unfold rdH
 rw [if_pos hx,hd,<-hl,List.take_left,hl]
theorem ZaG {b:Bool} {o:Nat} (hd:xs.drop o=[cond b 1 0]++ys):rdT xs o=some (b,o+1)/\xs.drop (o+1)=ys:=by
 have hx:o<xs.length:=by
  have:=congrArg List.length hd
  rw [Jg,J6] at this
  simp at this
  omega
 rw [JC hx] at hd
 have h1:xs[o]=cond b 1 0:=(List.cons.inj hd).1
 have h2:xs.drop (o+1)=ys:=(List.cons.inj hd).2
 refine ⟨?_,h2⟩
 unfold rdT
 have e:xs.getD o 0=cond b 1 0:=by rw [J3,Ja hx];exact h1
 rw [e]
 cases b
 ·rw [if_pos ⟨hx,by decide⟩];rfl
 ·rw [if_pos ⟨hx,by decide⟩];rfl
def amM (l:List Z9):Int:=(l.map fun m=>m.o.amount).sum
theorem Z3U (l:List Z9):(ZR l).Perm l:=by
 have:=Uq (lt:=ltM) (l:=l) (acc:=[])
 rwa [K5] at this
theorem ZeX {l m:LI} (h:l.Perm m):l.sum=m.sum:=by
 induction h with
 | nil=>rfl
 | cons x _ ih=>simp [ih]
 | swap x y l=>simp;omega
 | trans _ _ h1 h2=>exact h1.trans h2
theorem ZeY (l:List Z9):amM (ZR l)=amM l:=by
 unfold amM
 exact ZeX ((Z3U l).map _)
theorem Zc7 (L:List Z9):amL (Y2 L) L.length=L.map fun m=>m.o.amount:=by
 unfold amL Y2
 refine List.ext_getElem (by simp) fun k h1 h2=> ?_
 simp at h1 h2
 simp [J3,h1]
theorem Zc8 {t:TxS} (h1:0<=t.num/\t.num<=2147483647) (h2:1<=t.N/\t.N<=24) (h3:1<=t.M/\t.M<=24) (h4:∀i,i<t.N->Y9 (t.ins i)=true) (h5:∀i j,i<t.N->j<i->(t.ins j).index≠(t.ins i).index) (h6:∀i,i<t.M->ZE (t.outs i)=true) (h7:VK t t.M<=1125899906842624):Yp ZA t=true:=by
 rw [<-Z4W]
 unfold XG
 simp only [J2,decide_eq_true_eq,JY,Jw]
 refine ⟨⟨⟨⟨⟨h1,h2⟩,h3⟩,fun i hi=> ?_⟩,h6⟩,h7⟩
 unfold okI
 rw [h4 i hi,Kk]
 simp only [J5,JM,Jw]
 intro j hj hs
 exact h5 i j hi hj (Z0m.1 hs).2
structure Zj.All (t:Zj):Prop where
 ok:t.Ok
 fl:t.fund.length=32
 fb:Bytes t.fund
def txC (t:Zj) (a b fee:Int):TxS:=⟨2147483647,1,fun _=>Z0p t,(ZR (clL t a b fee)).length,Y2 (ZR (clL t a b fee))⟩
def ZJ (t:Zj) (a b fee:Int):Int:=if clB ZA t a b fee=true then (if (clL t a b fee).length=0 then 180 else 0) else 2
theorem Z9p {t:Zj} {a b fee:Int} (h:ZJ t a b fee=0):clB ZA t a b fee=true/\(clL t a b fee).length≠0:=by
 unfold ZJ at h
 split at h
 ·rename_i h1
  split at h
  ·cases h
  ·exact ⟨h1,by assumption⟩
 ·cases h
theorem ZaH {t:Zj} {a b fee:Int} (h1:clB ZA t a b fee=true) (h2:(clL t a b fee).length≠0):ZJ t a b fee=0:=by
 unfold ZJ;rw [if_pos h1,if_neg h2]
theorem Wi {t:Zj} (h:Yi t=true):(0<=t.index/\t.index<=23)/\(1000<=t.cap/\t.cap<=1125899906842624)/\(1<=t.dust/\t.dust<=500)/\(0<=t.fee/\t.fee<=400)/\(1<=t.delay/\t.delay<=1000)/\t.k0≠t.k1:=by
 unfold Yi at h
 simp only [J2,decide_eq_true_eq,bne_iff_ne,ne_eq] at h
 obtain ⟨⟨⟨⟨⟨h1,h2⟩,h3⟩,h4⟩,h5⟩,h6⟩:=h
 exact ⟨h1,h2,h3,h4,h5,h6⟩
theorem Z6e {t:Zj} {a b fee:Int} {m:Z9} (h:m∈clL t a b fee):(t.dust<=a-fee/\m=⟨⟨1,a-fee,t.k0,Z0,Z0,Z0,0,0⟩,0,0⟩)\/(t.dust<=b/\m=⟨⟨1,b,t.k1,Z0,Z0,Z0,0,0⟩,1,0⟩):=by
 unfold clL at h
 rw [K2] at h
 rcases h with h|h<;>split at h<;>simp at h
 ·exact .inl ⟨by assumption,h⟩
 ·exact .inr ⟨by assumption,h⟩
theorem Z2l {t:Zj} {a b fee:Int}:(clL t a b fee).length<=2:=by
 unfold clL
 rw [J6]
 split<;>split<;>simp
theorem ZhJ {t:Zj} {a b fee:Int} (h:clB ZA t a b fee=true):amM (clL t a b fee)<=t.cap:=by
 obtain ⟨k1,⟨⟨k2,_⟩,⟨k3,_⟩⟩,k4,k5⟩:=Wf.1 h
 unfold clL amM
 split<;>split<;>simp<;>omega
theorem ZeZ {L:List Z9} {i:Nat} (h:i<L.length):∃m∈L,Y2 L i=m.o:=⟨L[i],Kg h,by
 show (L.getD i Yq).o=_
 rw [J3,Ja h];rfl⟩
theorem Z6f {t:Zj} {a b fee:Int} {i:Nat} (h:i<(txC t a b fee).M):∃m∈clL t a b fee,(txC t a b fee).outs i=m.o:=by
 obtain ⟨m,hm,e⟩:=ZeZ (L:=ZR (clL t a b fee)) h
 exact ⟨m,(Z3U _).mem_iff.1 hm,e⟩
theorem WB {t:Zj} {a b fee:Int} (ht:t.Ok) (hf:t.fund.length=32):(txC t a b fee).Ok:=by
 have hl:(ZR (clL t a b fee)).length<=2:=by rw [X3];exact Z2l
 refine ⟨by show (1:Nat)<_;decide,by show (ZR _).length<_;omega,fun i _=>⟨hf,rfl,rfl,rfl⟩,fun i hi=> ?_⟩
 obtain ⟨m,hm,e⟩:=Z6f hi
 rw [e]
 rcases Z6e hm with ⟨_,rfl⟩|⟨_,rfl⟩
 ·exact ⟨ht.k0,rfl,rfl,rfl⟩
 ·exact ⟨ht.k1,rfl,rfl,rfl⟩
theorem ZaI {t:Zj} {a b fee:Int} (ht:t.All):QS (txC t a b fee):=by
 refine ⟨fun i _=>⟨ht.fb,YE,YE,YE⟩,fun i hi=> ?_⟩
 obtain ⟨m,hm,e⟩:=Z6f hi
 rw [e]
 rcases Z6e hm with ⟨_,rfl⟩|⟨_,rfl⟩
 ·exact ⟨ht.ok.b0,YE,YE,YE⟩
 ·exact ⟨ht.ok.b1,YE,YE,YE⟩
theorem Vd {t:Zj} {a b fee:Int} (h:ZJ t a b fee=0):Yp ZA (txC t a b fee)=true:=by
 obtain ⟨hb,hn⟩:=Z9p h
 obtain ⟨kt,⟨⟨k2,k2'⟩,⟨k3,k3'⟩⟩,k4,k5⟩:=Wf.1 hb
 have kd:=Wi kt
 have hl:(ZR (clL t a b fee)).length=(clL t a b fee).length:=X3
 have hl2:=Z2l (t:=t) (a:=a) (b:=b) (fee:=fee)
 refine Zc8 ⟨by show (0:Int)<=2147483647;decide,by show (2147483647:Int)<=2147483647;decide⟩ ⟨J4 _,by show (1:Nat)<=24;decide⟩ ⟨by show 1<=(ZR (clL t a b fee)).length;omega,by show (ZR (clL t a b fee)).length<=24;omega⟩ (fun i hi=> ?_) (fun i j hi hj=> ?_) (fun i hi=> ?_) ?_
 ·show Y9 (Z0p t)=true
  unfold Y9 Z0p
  simp
  omega
 ·have hi:i<1:=hi
  omega
 ·obtain ⟨m,hm,e⟩:=Z6f hi
  rw [e]
  rcases Z6e hm with ⟨_,rfl⟩|⟨_,rfl⟩
  ·unfold ZE;simp;omega
  ·unfold ZE;simp;omega
 ·show (amL (Y2 (ZR (clL t a b fee))) (ZR (clL t a b fee)).length).sum<=_
  rw [Zc7]
  have e:amM (ZR (clL t a b fee))=((ZR (clL t a b fee)).map fun m=>m.o.amount).sum:=rfl
  have:=ZhJ hb
  rw [<-e,ZeY]
  omega
def Z9q (t:Zj) (side:Int):LI:=if side=0 then t.k0 else t.k1
theorem Zf0 {t:Zj} (ht:t.Ok) (s:Int):(Z9q t s).length=32:=by unfold Z9q;split;exact ht.k0;exact ht.k1
def Qf (n least most:Int):Int:=max least (min most n)
structure Z3V (k:ClS):Prop where
 t:Yi k.t=true
 side:k.side=0\/k.side=1
 a0:0<=k.a0
 a1:0<=k.a1
 sum:k.a0+k.a1=k.t.cap
 lo:0<=k.least
 lm:k.least<=k.most
 hi:k.most<=k.a0
structure Yc (k:ClS):Prop where
 made:Z3V k
 off:k.offers=true->k.least<=k.last/\k.last<=k.most
 nof:k.offers=false->k.last=0
 agr:k.agrees=true->k.offers=true/\k.fee=k.last/\ZJ k.t k.a0 k.a1 k.fee=0
 nag:k.agrees=false->k.fee=0
theorem Yc.fee_le {k:ClS} (h:Yc k):(0<=k.last/\k.last<=k.a0)/\(0<=k.fee/\k.fee<=k.a0):=by
 obtain ⟨⟨h1,h2,h3,h4,h5,h6,h7,h8⟩,ho,hn,ha,hg⟩:=h
 have q1:0<=k.last/\k.last<=k.a0:=by
  cases e:k.offers
  ·have:=hn e;omega
  ·have:=ho e;omega
 refine ⟨q1, ?_⟩
 cases e:k.agrees
 ·have:=hg e;omega
 ·have:=ha e;omega
theorem Yc.num {k:ClS} (h:Yc k):ZeM 4611686018427387904 k:=by
 have hf:=h.fee_le
 obtain ⟨h1,h2,h3,h4,h5,h6,h7,h8⟩:=h.made
 have hd:=Wi h1
 refine ⟨?_, ?_, ?_, ?_, ?_, ?_, ?_, ?_, ?_, ?_, ?_, ?_⟩<;>omega
theorem Zs.evV (hG:G.Ok) {n:Nat} {f:FuncId} {v:AV} (h:evF G n f args ⟨0,[]⟩ (XY fun u=>u=v)):Zs G.P f args v 0 []:=by
 intro E w rs he hr
 refine (Y3 hG h E w rs he hr).mono ?_
 rintro e w' ⟨E₁,o,h',hK0,hev,hor⟩
 cases hor with
 | panic u r hr=>exact hK0.elim
 | ret u r hr=>
  unfold XY at hK0
  simp only at hK0
  split at hK0
  ·rename_i hu
   subst hK0
   refine ⟨E,r,rfl,⟨.refl E,⟨he.fresh,fun x B hx=>by simp [Z8.get,ZW] at hx,fun x B hx=>by simp [Z8.get,ZW] at hx,fun x y B B' b N N' hx=>by simp [Z8.get,ZW] at hx,fun a c hi=>hev.emb.imm a c (hev.le.imm a c hi),fun a c x B N _ hx=>by simp [Z8.get,ZW] at hx⟩,hev.size,hev.os,hev.tape,hev.output,hev.keep,fun b hb=> ?_,fun _ _ h=>h⟩,Zh.vplain (E:=E₁) (E':=E) (fun a c hi=>hev.imm a c hi) _ _ hu hr⟩
   obtain ⟨x,B,N,hx,_⟩:=hb
   simp [Z8.get,ZW] at hx
  ·exact hK0.elim
def Yh (A:LI->Int×Int) (k:ClS):Bool:=Yi k.t&&decide (0<=k.side/\k.side<=1)&&decide ((A [k.a0,k.a1]).2=0)&&decide ((A [k.a0,k.a1]).1=k.t.cap)&&decide (0<=k.least/\k.least<=k.most)&&decide (k.most<=k.a0)
theorem XO {k:ClS}:Yh ZA k=true↔Z3V k:=by
 unfold Yh
 simp only [J2,decide_eq_true_eq]
 constructor
 ·rintro ⟨⟨⟨⟨⟨h1,h2⟩,h3⟩,h4⟩,h5⟩,h6⟩
  have:=Wf.1 (Z0Z.2 ⟨h1,h3,h4,(⟨Int.le_refl 0,by omega⟩:(0:Int)<=0/\0<=k.a0)⟩)
  exact ⟨h1,by omega,this.2.1.1.1,this.2.1.2.1,this.2.2.1,h5.1,h5.2,h6⟩
 ·rintro ⟨h1,h2,h3,h4,h5,h6,h7,h8⟩
  have hd:=Wi h1
  have:=Z0Z.1 (Wf.2 ⟨h1,⟨⟨h3,by omega⟩,h4,by omega⟩,h5,(⟨Int.le_refl 0,h3⟩:(0:Int)<=0/\0<=k.a0)⟩)
  exact ⟨⟨⟨⟨⟨h1,by omega⟩,this.2.1⟩,this.2.2.1⟩,⟨h6,h7⟩⟩,h8⟩
noncomputable def Zno (A:LI->Int×Int):Zb:=(G0.withP 44 Z7u).withP 74 (Za7 A)
theorem ZhK:(Zno ZA).Ok:=Zb.withP_ok (Zb.withP_ok Zm Z3K) Z3q
theorem Znp (A:LI->Int×Int) (k:ClS) (b:Bool) (ht:k.t.Ok) (hb:b=Yh A k):
  evF (Zno A) 20 30 [.agg k.c] ⟨0,[]⟩ (XY fun v=>v=.bool b):=by
 refine @Eq.mpr _ (let a:=k.t;let f:=a.cap;let e:=Zj.mk a.fund a.index f a.dust a.fee a.delay a.k0 a.k1;let d:=A [k.a0,k.a1];let c:=AV.bool false=AV.bool b;
 Zj.Ok e/\Z5 ((if Yi e=true then (0:Int) else (2:Int))==(0:Int)) (Z5 (decide ((0:Int)<=k.side)) (Z5 (decide (k.side<=(1:Int))) (Z5 (d.snd==(0:Int)) (Z5 (d.fst==f) (Z5 (decide ((0:Int)<=k.least)) (Z5 (decide (k.least<=k.most)) (AV.bool (decide (k.most<=k.a0))=AV.bool b) c) c) c) c) c) c) c) (by kernel_rfl) ?_
 conv=>zeta
 try simp only [vcA]
 try simp only [vcB]
 try simp only [vcC]
 have e0:Zj.mk k.t.fund k.t.index k.t.cap k.t.dust k.t.fee k.t.delay k.t.k0 k.t.k1=k.t:=rfl
 simp only [e0]
 subst hb
 refine ⟨ht, ?_⟩
 unfold Yh
 cases Yi k.t<;>by_cases c1:0<=k.side<;>by_cases c2:k.side<=1<;>by_cases c3:(A [k.a0,k.a1]).2=0<;>by_cases c4:(A [k.a0,k.a1]).1=k.t.cap<;>by_cases c5:0<=k.least<;>by_cases c6:k.least<=k.most<;>simp [c1,c2,c3,c4,c5,c6]
theorem Znq (A:LI->Int×Int) (k:ClS) (b:Bool) (hA:A=ZA) (ht:k.t.Ok) (hb:b=Yh A k):
  evF (G0.withP 112 Z3L) 20 51 [.agg k.c] ⟨0,[]⟩ (XY fun v=>v=.bool b):=by
 refine @Eq.mpr _ (let c:=k.t;let h:=c.cap;let g:=Zj.mk c.fund c.index h c.dust c.fee c.delay c.k0 c.k1;let d:=k.a0;let e:=k.a1;let a:=AV.bool false=AV.bool b;let f:=Z5 (decide (d>=0)) (Z5 (decide (d<=1125899906842624)) (Z5 (decide (e>=0)) (Z5 (decide (e<=1125899906842624)) (Z5 (wrap i64 (d+e)==h) (Z5 (decide (k.least>=0)) (Z5 (decide (k.least<=k.most)) (AV.bool (decide (k.most<=d))=AV.bool b) a) a) a) a) a) a) a;
 Zj.Ok g/\Z5 (Yi g) (Z5 (k.side==0) f (Z5 (k.side==1) f a)) a) (by kernel_rfl) ?_
 conv=>zeta
 try simp only [vcA]
 try simp only [vcB]
 try simp only [vcC]
 have e0:Zj.mk k.t.fund k.t.index k.t.cap k.t.dust k.t.fee k.t.delay k.t.k0 k.t.k1=k.t:=rfl
 simp only [e0]
 subst hA hb
 refine ⟨ht, ?_⟩
 cases hb:Yh ZA k with
 | true=>
  obtain ⟨m1,m2,m3,m4,m5,m6,m7,m8⟩:=XO.1 hb
  have hd:=Wi m1
  have hw:i64.wrap (k.a0+k.a1)=k.t.cap:=by rw [w64 (by omega)];exact m5
  have q1:k.a0<=1125899906842624:=by omega
  have q2:k.a1<=1125899906842624:=by omega
  rcases m2 with m2|m2<;>simp [m1,m2,m3,m4,m6,m7,m8,hw,q1,q2]
 | false=>
  have hn:¬Z3V k:=fun h=>by rw [XO.2 h] at hb;cases hb
  repeat' (first|(refine J9 ?_ ?_)|intro _)
  all_goals first|rfl|skip
  all_goals
   congr 1
   refine decide_eq_false fun h=>hn ?_
   have hw:0<=k.a0->k.a0<=1125899906842624->0<=k.a1->k.a1<=1125899906842624->i64.wrap (k.a0+k.a1)=k.a0+k.a1:=fun _ _ _ _=>w64 (by omega)
   simp only [beq_iff_eq] at*
   exact ⟨by assumption,by omega,by omega,by omega,by omega,by omega,by omega,by omega⟩
theorem Bytes.takeB (h:Bytes xs) (n:Nat):Bytes (xs.take n):=⟨fun i=>by
 by_cases hi:i<n
 ·have:=h.h i
  rwa [J3,List.getElem?_take_of_lt hi,<-List.getD_eq_getElem?_getD]
 ·rw [J3,JG (by rw [Ji];omega)]
  exact ⟨Int.le_refl 0,by decide⟩⟩
def XX (F:LI->Int×Int) (xs:LI):Option (ClS×Nat):=
 (rdH xs 0).bind fun v0=>
 (rdN F xs v0.2 1125899906842624).bind fun v1=>
 (rdN F xs v1.2 1125899906842624).bind fun v2=>
 (rdN F xs v2.2 1125899906842624).bind fun v3=>
 (rdN F xs v3.2 1125899906842624).bind fun v4=>
 (rdN F xs v4.2 1125899906842624).bind fun v5=>
 (rdH xs v5.2).bind fun v6=>
 (rdH xs v6.2).bind fun v7=>
 (rdN F xs v7.2 1125899906842624).bind fun v8=>
 (rdN F xs v8.2 1125899906842624).bind fun v9=>
 (rdN F xs v9.2 1125899906842624).bind fun v10=>
 (rdN F xs v10.2 1125899906842624).bind fun v11=>
 (rdN F xs v11.2 1125899906842624).bind fun v12=>
 (rdT xs v12.2).bind fun v13=>
 (rdN F xs v13.2 1125899906842624).bind fun v14=>
 (rdT xs v14.2).bind fun v15=>
 (rdN F xs v15.2 1125899906842624).bind fun v16=>
 some (⟨⟨v0.1,v1.1,v2.1,v3.1,v4.1,v5.1,v6.1,v7.1⟩,v8.1,v9.1,v10.1,v11.1,v12.1,v13.1,v14.1,v15.1,v16.1⟩,v16.2)
theorem Zf1 {F:LI->Int×Int} {k:ClS} {p:Nat} (h:XX F xs=some (k,p)):∃o0 o1 o2 o3 o4 o5 o6 o7 o8 o9 o10 o11 o12 o13 o14 o15 o16,rdH xs 0=some (k.t.fund,o0)/\rdN F xs o0 1125899906842624=some (k.t.index,o1)/\rdN F xs o1 1125899906842624=some (k.t.cap,o2)/\rdN F xs o2 1125899906842624=some (k.t.dust,o3)/\rdN F xs o3 1125899906842624=some (k.t.fee,o4)/\rdN F xs o4 1125899906842624=some (k.t.delay,o5)/\rdH xs o5=some (k.t.k0,o6)/\rdH xs o6=some (k.t.k1,o7)/\rdN F xs o7 1125899906842624=some (k.side,o8)/\rdN F xs o8 1125899906842624=some (k.a0,o9)/\rdN F xs o9 1125899906842624=some (k.a1,o10)/\rdN F xs o10 1125899906842624=some (k.least,o11)/\rdN F xs o11 1125899906842624=some (k.most,o12)/\rdT xs o12=some (k.offers,o13)/\rdN F xs o13 1125899906842624=some (k.last,o14)/\rdT xs o14=some (k.agrees,o15)/\rdN F xs o15 1125899906842624=some (k.fee,o16)/\o16=p:=by
 unfold XX at h
 simp only [Js] at h
 obtain ⟨⟨v0,o0⟩,h0,⟨v1,o1⟩,h1,⟨v2,o2⟩,h2,⟨v3,o3⟩,h3,⟨v4,o4⟩,h4,⟨v5,o5⟩,h5,⟨v6,o6⟩,h6,⟨v7,o7⟩,h7,⟨v8,o8⟩,h8,⟨v9,o9⟩,h9,⟨v10,o10⟩,h10,⟨v11,o11⟩,h11,⟨v12,o12⟩,h12,⟨v13,o13⟩,h13,⟨v14,o14⟩,h14,⟨v15,o15⟩,h15,⟨v16,o16⟩,h16,he⟩:=h
 cases he
 exact ⟨o0,o1,o2,o3,o4,o5,o6,o7,o8,o9,o10,o11,o12,o13,o14,o15,o16,h0,h1,h2,h3,h4,h5,h6,h7,h8,h9,h10,h11,h12,h13,h14,h15,h16,rfl⟩
theorem Z6g {p:Nat} (h:xs.drop p=[]):xs.length<=p:=by
 have:=congrArg List.length h
 rw [Jg] at this
 exact Nat.le_of_sub_eq_zero this
theorem ZhL {o p:Nat} {v most:Int} (h:rdN (Yk Zn) xs o most=some (v,p)):p<=xs.length:=by
 unfold rdN at h
 split at h
 ·rename_i hc
  simp only [Option.some.injEq,Prod.mk.injEq] at h
  have hle:=Z5c Zn (xs.drop o)
  rw [Jg] at hle
  omega
 ·cases h
theorem ZhM {k:ClS} (hk:Yc k) (hf:k.t.fund.length=32) (h0:k.t.k0.length=32) (h1:k.t.k1.length=32) (hb:Bytes (YB Zn k)):XX (Yk Zn) (YB Zn k)=some (k,(YB Zn k).length):=by
 have hm:=hk.made
 have hd:=Wi hm.t
 have hs:=hm.side
 have hfl:=hk.fee_le
 obtain ⟨m1,m2,m3,m4,m5,m6,m7,m8⟩:=hm
 have e0:(YB Zn k).drop 0=k.t.fund++(Zn k.t.index++(Zn k.t.cap++(Zn k.t.dust++(Zn k.t.fee++(Zn k.t.delay++(k.t.k0++(k.t.k1++(Zn k.side++(Zn k.a0++(Zn k.a1++(Zn k.least++(Zn k.most++([cond k.offers 1 0]++(Zn k.last++([cond k.agrees 1 0]++(Zn k.fee++[])))))))))))))))):=by
  rw [JV];unfold YB tru;simp only [JR,JN]
 generalize he:YB Zn k=xs at hb e0⊢
 have q0:=Z3T hf e0
 have q1:=Xd (most:=1125899906842624) hb q0.2 (by omega) (by omega) (by omega)
 have q2:=Xd (most:=1125899906842624) hb q1.2 (by omega) (by omega) (by omega)
 have q3:=Xd (most:=1125899906842624) hb q2.2 (by omega) (by omega) (by omega)
 have q4:=Xd (most:=1125899906842624) hb q3.2 (by omega) (by omega) (by omega)
 have q5:=Xd (most:=1125899906842624) hb q4.2 (by omega) (by omega) (by omega)
 have q6:=Z3T h0 q5.2
 have q7:=Z3T h1 q6.2
 have q8:=Xd (most:=1125899906842624) hb q7.2 (by omega) (by omega) (by omega)
 have q9:=Xd (most:=1125899906842624) hb q8.2 (by omega) (by omega) (by omega)
 have q10:=Xd (most:=1125899906842624) hb q9.2 (by omega) (by omega) (by omega)
 have q11:=Xd (most:=1125899906842624) hb q10.2 (by omega) (by omega) (by omega)
 have q12:=Xd (most:=1125899906842624) hb q11.2 (by omega) (by omega) (by omega)
 have q13:=ZaG q12.2
 have q14:=Xd (most:=1125899906842624) hb q13.2 (by omega) (by omega) (by omega)
 have q15:=ZaG q14.2
 have q16:=Xd (most:=1125899906842624) hb q15.2 (by omega) (by omega) (by omega)
 have hle:=Z6g q16.2
 have hge:=(ZhL q16.1)
 unfold XX
 simp only [Option.bind_some,q0.1,q1.1,q2.1,q3.1,q4.1,q5.1,q6.1,q7.1,q8.1,q9.1,q10.1,q11.1,q12.1,q13.1,q14.1,q15.1,q16.1]
 congr 2
 exact Nat.le_antisymm hge hle
theorem Z9r {v:LI} {o p:Nat} (hb:Bytes xs) (h:rdH xs o=some (v,p)):v.length=32/\Bytes v:=by
 unfold rdH at h
 split at h
 ·cases h
  exact ⟨by rw [Ji,Jg];omega,(hb.drop o).takeB 32⟩
 ·cases h
theorem Zf2 {k:ClS} {p:Nat} (hb:Bytes xs) (h:XX (Yk Zn) xs=some (k,p)):k.t.All:=by
 obtain ⟨o0,o1,o2,o3,o4,o5,o6,o7,o8,o9,o10,o11,o12,o13,o14,o15,o16,r0,r1,r2,r3,r4,r5,r6,r7,r8,r9,r10,r11,r12,r13,r14,r15,r16,he⟩:=Zf1 h
 have a:=Z9r hb r0
 have b:=Z9r hb r6
 have c:=Z9r hb r7
 exact ⟨⟨b.1,c.1,b.2,c.2⟩,a.1,a.2⟩
inductive YJ (cs:List AV) (k:ClS):Prop
 | mk:cs=k.c->YJ cs k
def Zc9 (A:LI->Int×Int):ZI:=fun args h K=>Zz none h true 20 args fun a=>match a with
 | [.agg cs]=>∃k,YJ cs k/\k.t.Ok/\K (.bool (Yh A k))
 | _=>False
theorem ZaJ (args:List AV) (h:Z8) (K:AV->Prop) (hl:Zc9 ZA args h K):Ze PP 30 args h fun o h'=>∃v,o=.ret v/\h'=h/\K v:=by
 refine Zs.psumm (d:=20) (Zk _ _ _ _ _ hl fun a ha=> ?_)
 split at ha
 ·obtain ⟨k,⟨rfl⟩,ht,hK⟩:=ha
  exact ⟨_,Zs.evV ZhK (Znp _ k _ ht rfl),fun _=>rfl,hK⟩
 ·exact ha.elim
theorem ZhN (args:List AV) (h:Z8) (K:AV->Prop) (hl:Zc9 ZA args h K):Ze PP 51 args h fun o h'=>∃v,o=.ret v/\h'=h/\K v:=by
 refine Zs.psumm (d:=20) (Zk _ _ _ _ _ hl fun a ha=> ?_)
 split at ha
 ·obtain ⟨k,⟨rfl⟩,ht,hK⟩:=ha
  exact ⟨_,Zs.evV (Zb.withP_ok Zm Z1w) (Znq _ k _ rfl ht rfl),fun _=>rfl,hK⟩
 ·exact ha.elim
theorem Znr (A:LI->Int×Int) (k:ClS) (fee e:Int) (hA:A=ZA) (ht:k.t.Ok) (ha:k.a0<9223372036854775808) (he:e=ZJ k.t k.a0 k.a1 fee):
  evF (G0.withF 42 (clF A)) 20 38 [.agg k.c,.int .i64 fee] ⟨0,[]⟩ (ZH 0 (.ret (.tuple [.top,.int .i64 e])) 0 []):=by
 refine @Eq.mpr _ (let c:=k.t;let d:=Zj.mk c.fund c.index c.cap c.dust c.fee c.delay c.k0 c.k1;
 Zj.Ok d/\
 ∃(a:Int),
 ∃(b:Int),
 let g:=clB A d a b fee;let f:=clL d a b fee;
 [k.a0,k.a1]=[a,b]/\a<9223372036854775808/\(g=false->Z7 (2=e) True)/\(g=true->(f.length=0->Z7 (180=e) True)/\∀(n:Nat) (L:List Z9),L=ZR f->n=L.length->n≠0->Z7 (0=e) True)) (by kernel_rfl) ?_
 conv=>zeta
 try simp only [vcA]
 try simp only [vcB]
 try simp only [vcC]
 subst hA he
 refine ⟨ht,k.a0,k.a1,rfl,ha,fun h=> ?_,fun h=>⟨fun h2=> ?_,fun n L hL hn hn0=> ?_⟩⟩
 ·have h:clB ZA k.t k.a0 k.a1 fee=false:=h
  unfold ZJ
  rw [h];rfl
 ·unfold ZJ
  rw [if_pos h,if_pos h2]
 ·refine (ZaH h ?_).symm
  subst hn hL
  rw [X3] at hn0
  exact hn0
def Zns:ZO:=fun args h K=>Zz none h true 20 args fun a=>match a with
 | [.agg cs,.int .i64 fee]=>∃k,YJ cs k/\(k.t.Ok/\k.a0<9223372036854775808)/\K (.ret (.tuple [.top,.int .i64 (ZJ k.t k.a0 k.a1 fee)])) h
 | _=>False
theorem ZhO (args:List AV) (h:Z8) (K:KO) (hl:Zns args h K):Ze PP 38 args h K:=by
 refine Zs.fsumm (d:=20) (Zk _ _ _ _ _ hl fun a ha=> ?_)
 split at ha
 ·obtain ⟨k,⟨rfl⟩,⟨ht,ha⟩,hK⟩:=ha
  exact ⟨_,_,_,_,.evM (Zb.withF_ok Zm Z9m) (Znr _ k _ _ rfl ht ha rfl),rfl,trivial,hK⟩
 ·exact ha.elim
def clK (ok:Bool) (k:ClS):KO:=fun o h=>match o with
 | .ret (.tuple [.ptr none,.int .i64 _])=>Z5 ok False (ZH 0 (.ret (.tuple [.ptr none,.int .i64 253])) 0 [] o h)
 | .ret (.tuple [.ptr (some _),.int .i64 _])=>Z5 ok (ZH 0 (.ret (.tuple [.ptr (some ⟨0,0,0,0,0⟩),.int .i64 0])) 1 [(0,.flat (k.c++[.bool true]))] o h) False
 | _=>False
def Yl (Tg:LI->TxS->LI) (k:ClS) (fee sd:Int):LI:=if ZJ k.t k.a0 k.a1 fee=0 then Tg (Z9q k.t sd) (txC k.t k.a0 k.a1 fee) else Z0
theorem Ur {k:ClS} {fee sd:Int} (h:ZJ k.t k.a0 k.a1 fee=0):Yl Tg k fee sd=Tg (Z9q k.t sd) (txC k.t k.a0 k.a1 fee):=if_pos h
theorem WN {k:ClS} {fee sd:Int} (h:ZJ k.t k.a0 k.a1 fee≠0):Yl Tg k fee sd=Z0:=if_neg h
theorem Qg {k:ClS} {fee:Int} (h:clB ZA k.t k.a0 k.a1 fee=false):ZJ k.t k.a0 k.a1 fee=2:=by unfold ZJ;rw [h];rfl
theorem Ws {k:ClS} {fee:Int} (h:clB ZA k.t k.a0 k.a1 fee=true) (h2:(clL k.t k.a0 k.a1 fee).length=0):ZJ k.t k.a0 k.a1 fee=180:=by unfold ZJ;rw [if_pos h,if_pos h2]
theorem Wt {k:ClS} {fee:Int} {n:Nat} {L:List Z9} (h:clB ZA k.t k.a0 k.a1 fee=true) (hL:L=ZR (clL k.t k.a0 k.a1 fee)) (hn:n=L.length) (h0:n≠0):ZJ k.t k.a0 k.a1 fee=0:=ZaH h (by subst hn hL;rw [X3] at h0;exact h0)
theorem VM (t:Zj) (i:Nat) (hi:i<1):Ye [AV.arr u8 32 t.fund,AV.int i64 t.index,AV.int i64 1,AV.arr u8 32 Z0,AV.arr u8 32 Z0,AV.arr u8 32 Z0] 0 130 i=InS.c (Z0p t):=by
 have:i=0:=by omega
 subst this;rfl
noncomputable def Zkq (A:LI->Int×Int) (Tg:LI->TxS->LI):Zb:=(G0.withF 61 (clF A)).withP 62 (Z3I Tg)
theorem ZaK:(Zkq ZA Wz).Ok:=Zb.withP_ok (Zb.withF_ok Zm Z6a) Z63
theorem Znt (A:LI->Int×Int) (Tg:LI->TxS->LI) (k:ClS) (fee e:Int) (h:LI) (hA:A=ZA) (ht:k.t.All) (ha:k.a0<9223372036854775808) (he:e=ZJ k.t k.a0 k.a1 fee) (hh:h=Yl Tg k fee 0):
  evF (Zkq A Tg) 20 70 [.agg k.c,.int .i64 fee,.int .i64 0] ⟨0,[]⟩ (ZH 0 (.ret (.tuple [.agg [.arr .u8 32 h],.int .i64 e])) 0 []):=by
 refine @Eq.mpr _ (let f:=k.t;let o:=f.fund;let m:=f.index;let l:=f.k0;let j:=Zj.mk o m f.cap f.dust f.fee f.delay l f.k1;let g:=InS.mk o m 1 Z0 Z0 Z0;
 Zj.Ok j/\
 ∃(a:Int),
 ∃(b:Int),
 let q:=clB A j a b fee;let p:=clL j a b fee;
 [k.a0,k.a1]=[a,b]/\
 a<9223372036854775808/\
 (q=false->Z0=h/\Z7 (2=e) True)/\
 (q=true->
 (p.length=0->Z0=h/\Z7 (180=e) True)/\
 ∀(n:Nat) (L:List Z9),
 L=ZR p->
 n=L.length->
 n≠0->
 Z7 (0+n<=n) ((∀(i:Nat),i<n->true=true)/\
 ∃(t:TxS),
 (t.num=2147483647/\
 (((1:Nat)=1/\t.N=1)/\∀(i:Nat),i<1->Ye [AV.arr u8 32 g.name,AV.int i64 g.index,AV.int i64 g.way,AV.arr u8 32 g.tag,AV.arr u8 32 g.also,AV.arr u8 32 g.secret] 0 130 i=InS.c (t.ins i))/\
 (n=n/\t.M=n)/\
 ∀(i:Nat),
 let d:=Y2 L i;
 i<n->[AV.int i64 d.kind,AV.int i64 d.amount,AV.arr u8 32 d.owner,AV.arr u8 32 d.other,AV.arr u8 32 d.point,AV.arr u8 32 d.hash,AV.int i64 d.delay,AV.int i64 d.expiry]=ZF.c (t.outs i))/\
 (TxS.Fine t/\l.length=32)/\Tg l t=h/\Z7 (0=e) True))) (by kernel_rfl) ?_
 conv=>zeta
 try simp only [vcA]
 try simp only [vcB]
 try simp only [vcC]
 subst hA he hh
 refine ⟨ht.ok,k.a0,k.a1,rfl,ha,fun h1=> ?_,fun h1=>⟨fun h2=> ?_,fun n L hL hn hn0=> ?_⟩⟩
 ·have e:=Qg h1
  exact ⟨(WN (by rw [e];decide)).symm,e.symm⟩
 ·have e:=Ws h1 h2
  exact ⟨(WN (by rw [e];decide)).symm,e.symm⟩
 ·have e:=Wt h1 hL hn hn0
  subst hn hL
  exact ⟨fun _ _=>trivial,txC k.t k.a0 k.a1 fee,⟨rfl,⟨rfl,fun i hi=>VM _ i hi⟩,rfl,fun _ _=>rfl⟩,⟨X2 (WB ht.ok ht.fl) (Vd e),ht.ok.k0⟩,(Ur (Tg:=Tg) (sd:=0) e).symm,e.symm⟩
theorem Znu (A:LI->Int×Int) (Tg:LI->TxS->LI) (k:ClS) (fee e:Int) (h:LI) (hA:A=ZA) (ht:k.t.All) (ha:k.a0<9223372036854775808) (he:e=ZJ k.t k.a0 k.a1 fee) (hh:h=Yl Tg k fee 1):
  evF (Zkq A Tg) 20 70 [.agg k.c,.int .i64 fee,.int .i64 1] ⟨0,[]⟩ (ZH 0 (.ret (.tuple [.agg [.arr .u8 32 h],.int .i64 e])) 0 []):=by
 refine @Eq.mpr _ (let f:=k.t;let o:=f.fund;let m:=f.index;let l:=f.k1;let j:=Zj.mk o m f.cap f.dust f.fee f.delay f.k0 l;let g:=InS.mk o m 1 Z0 Z0 Z0;
 Zj.Ok j/\
 ∃(a:Int),
 ∃(b:Int),
 let q:=clB A j a b fee;let p:=clL j a b fee;
 [k.a0,k.a1]=[a,b]/\
 a<9223372036854775808/\
 (q=false->Z0=h/\Z7 (2=e) True)/\
 (q=true->
 (p.length=0->Z0=h/\Z7 (180=e) True)/\
 ∀(n:Nat) (L:List Z9),
 L=ZR p->
 n=L.length->
 n≠0->
 Z7 (0+n<=n) ((∀(i:Nat),i<n->true=true)/\
 ∃(t:TxS),
 (t.num=2147483647/\
 (((1:Nat)=1/\t.N=1)/\∀(i:Nat),i<1->Ye [AV.arr u8 32 g.name,AV.int i64 g.index,AV.int i64 g.way,AV.arr u8 32 g.tag,AV.arr u8 32 g.also,AV.arr u8 32 g.secret] 0 130 i=InS.c (t.ins i))/\
 (n=n/\t.M=n)/\
 ∀(i:Nat),
 let d:=Y2 L i;
 i<n->[AV.int i64 d.kind,AV.int i64 d.amount,AV.arr u8 32 d.owner,AV.arr u8 32 d.other,AV.arr u8 32 d.point,AV.arr u8 32 d.hash,AV.int i64 d.delay,AV.int i64 d.expiry]=ZF.c (t.outs i))/\
 (TxS.Fine t/\l.length=32)/\Tg l t=h/\Z7 (0=e) True))) (by kernel_rfl) ?_
 conv=>zeta
 try simp only [vcA]
 try simp only [vcB]
 try simp only [vcC]
 subst hA he hh
 refine ⟨ht.ok,k.a0,k.a1,rfl,ha,fun h1=> ?_,fun h1=>⟨fun h2=> ?_,fun n L hL hn hn0=> ?_⟩⟩
 ·have e:=Qg h1
  exact ⟨(WN (by rw [e];decide)).symm,e.symm⟩
 ·have e:=Ws h1 h2
  exact ⟨(WN (by rw [e];decide)).symm,e.symm⟩
 ·have e:=Wt h1 hL hn hn0
  subst hn hL
  exact ⟨fun _ _=>trivial,txC k.t k.a0 k.a1 fee,⟨rfl,⟨rfl,fun i hi=>VM _ i hi⟩,rfl,fun _ _=>rfl⟩,⟨X2 (WB ht.ok ht.fl) (Vd e),ht.ok.k1⟩,(Ur (Tg:=Tg) (sd:=1) e).symm,e.symm⟩
theorem Z6h {k:ClS} {fee sd:Int} (ht:k.t.All):Yl Wz k fee sd=Yl Zy k fee sd:=by
 unfold Yl
 split
 ·rename_i h
  exact Z2k (X2 (WB ht.ok ht.fl) (Vd h)) (ZaI ht) (Zf0 ht.ok _)
 ·rfl
def clZ:ClS:=⟨⟨Z0,0,0,0,0,0,Z0,Z0⟩,0,0,0,0,0,false,0,false,0⟩
theorem ZaL:∀(n a b:Nat),a<2^n->b<2^n->2*(a&&&b)+(a^^^b)=a+b
 | 0,a,b,ha,hb=>by
  have:a=0:=by simpa using ha
  have:b=0:=by simpa using hb
  subst_vars;rfl
 | n+1,a,b,ha,hb=>by
  have ih:=ZaL n (a/2) (b/2) (by rw [Nat.pow_succ] at ha;omega) (by rw [Nat.pow_succ] at hb;omega)
  have h1:(a&&&b)/2=(a/2)&&&(b/2):=Nat.and_div_two
  have h2:(a^^^b)/2=(a/2)^^^(b/2):=Nat.xor_div_two
  rw [<-h1,<-h2] at ih
  have h3:(a^^^b)%2^1=(a%2^1)^^^(b%2^1):=Nat.xor_mod_two_pow
  rw [Nat.pow_one] at h3
  have h6:(a%2)^^^(b%2)=(a%2+b%2)%2:=by
   rcases Nat.mod_two_eq_zero_or_one a with e|e<;>rcases Nat.mod_two_eq_zero_or_one b with f|f<;>rw [e,f]<;>rfl
  rw [h6] at h3
  have h4:(a&&&b)%2=1↔a%2=1/\b%2=1:=Nat.and_mod_two_eq_one
  have h5:(a&&&b)%2<2:=Nat.mod_lt _ (by decide)
  omega
theorem Zkr {a b:Int} (ha:0<=a/\a<=1125899906842624) (hb:0<=b/\b<=1125899906842624):i64.wrap (UH .i64 a b+Zr .i64 (Ys .i64 a b) 1)=(a+b).tdiv 2:=by
 obtain ⟨x,rfl⟩:=Kj ha.1
 obtain ⟨y,rfl⟩:=Kj hb.1
 have hx:x<2^51:=by have:=ha.2;omega
 have hy:y<2^51:=by have:=hb.2;omega
 have hm:=ZaL 51 x y hx hy
 have hand:x&&&y<2^51:=Nat.and_lt_two_pow x hy
 have hxor:x^^^y<2^51:=Kb hx hy
 have e1:UH .i64 (x:Int) (y:Int)=((x&&&y:Nat):Int):=by
  unfold UH
  show i64.wrap (((BitVec.ofInt 64 (x:Int)&&&BitVec.ofInt 64 (y:Int)).toNat:Nat):Int)=_
  rw [JK,JK,BitVec.toNat_and,JL,JL,Jz (by omega),Jz (by omega)]
  rw [w64 (by omega)]
 have e2:Ys .i64 (x:Int) (y:Int)=((x^^^y:Nat):Int):=by
  unfold Ys
  show i64.wrap (((BitVec.ofInt 64 (x:Int)^^^BitVec.ofInt 64 (y:Int)).toNat:Nat):Int)=_
  rw [JK,JK,BitVec.toNat_xor,JL,JL,Jz (by omega),Jz (by omega)]
  rw [w64 (by omega)]
 have e3:Zr .i64 ((x^^^y:Nat):Int) 1=((x^^^y:Nat):Int)/2:=by
  unfold Zr
  show Int.fdiv _ (2^1)=_
  rw [Kc _ (by decide)]
  rfl
 rw [e1,e2,e3,JI (by omega),w64 (by omega)]
 omega
def Xa (a b:Int):Int:=(a+b).tdiv 2
theorem ZaM {a b m:Int} (ha:0<=a/\a<=m) (hb:0<=b/\b<=m):0<=Xa a b/\Xa a b<=m:=by
 unfold Xa
 rw [JI (by omega)]
 omega
theorem Znv (M:Int->Int->Int) (a b:Int) (hM:M=Xa) (ha:0<=a/\a<=1125899906842624) (hb:0<=b/\b<=1125899906842624):
  evF G0 30 84 [.int .i64 a,.int .i64 b] ⟨0,[]⟩ (XY fun v=>v=.tuple [.int .i64 (M a b),.int .i64 0]):=by
 refine @Eq.mpr _ (let k:=wrap i64 (UH i64 a b+Zr i64 (Ys i64 a b) 1);let j:=AV.int i64 (wrap i64 (k*0));let i:=[AV.int i64 2];let g:=[AV.int i64 0];let f:=AV.tuple (AV.int i64 (M a b)::g);let c:=AV.tuple (j::i)=f;let e:=AV.tuple (j::g)=f;let h:=AV.int i64 (wrap i64 (k*1));let d:=AV.tuple (h::i)=f;
 Z5 (decide (a<0)) (Z5 (decide (a<0)) c (Z5 (decide (a>1125899906842624)) c (Z5 (decide (b<0)) c (Z5 (decide (b>1125899906842624)) c e)))) (Z5 (decide (a>1125899906842624)) (Z5 (decide (a<0)) c (Z5 (decide (a>1125899906842624)) c (Z5 (decide (b<0)) c (Z5 (decide (b>1125899906842624)) c e)))) (Z5 (decide (b<0)) (Z5 (decide (a<0)) c (Z5 (decide (a>1125899906842624)) c (Z5 (decide (b<0)) c (Z5 (decide (b>1125899906842624)) c e)))) (Z5 (decide (b>1125899906842624)) (Z5 (decide (a<0)) c (Z5 (decide (a>1125899906842624)) c (Z5 (decide (b<0)) c (Z5 (decide (b>1125899906842624)) c e)))) (Z5 (decide (a<0)) d (Z5 (decide (a>1125899906842624)) d (Z5 (decide (b<0)) d (Z5 (decide (b>1125899906842624)) d (AV.tuple (h::g)=f))))))))) (by kernel_rfl) ?_
 conv=>zeta
 try simp only [vcA]
 try simp only [vcB]
 try simp only [vcC]
 subst hM
 have hm:=Zkr ha hb
 have hq:0<=Xa a b/\Xa a b<=1125899906842624:=ZaM ha hb
 have hw:i64.wrap (Xa a b)=Xa a b:=w64 (by omega)
 have hm:i64.wrap (UH i64 a b+Zr i64 (Ys i64 a b) 1)=Xa a b:=hm
 simp only [hm,Int.mul_one,hw]
 repeat' (first|(refine J9 ?_ ?_)|intro _)
 all_goals first|exact True.intro|rfl|(exfalso;omega)
theorem Zks (M:Int->Int->Int) (a b:Int) (hM:M=Xa) (ha:0<=a/\a<=1125899906842624) (hb:0<=b/\b<=1125899906842624):
  evF G0 30 127 [.int .i64 a,.int .i64 b] ⟨0,[]⟩ (XY fun v=>v=.tuple [.int .i64 (M a b),.int .i64 0]):=by
 refine @Eq.mpr _ (let e:=[AV.int i64 0];let d:=AV.tuple (AV.int i64 (M a b)::e);let c:=AV.tuple [AV.int i64 0,AV.int i64 2]=d;
 Z5 (decide (a>=0)) (Z5 (!decide (a<=1125899906842624)) c (Z5 (decide (b>=0)) (Z5 (!decide (b<=1125899906842624)) c (AV.tuple (AV.int i64 (wrap i64 (Int.tdiv (wrap i64 (a+b)) 2))::e)=d)) c)) c) (by kernel_rfl) ?_
 conv=>zeta
 try simp only [vcA]
 try simp only [vcB]
 try simp only [vcC]
 subst hM
 have hw:i64.wrap (a+b)=a+b:=w64 (by omega)
 have hq:0<=Xa a b/\Xa a b<=1125899906842624:=ZaM ha hb
 have hw2:i64.wrap ((a+b).tdiv 2)=Xa a b:=w64 (x:=Xa a b) (by omega)
 simp only [hw,hw2]
 repeat' (first|(refine J9 ?_ ?_)|intro _)
 all_goals first|exact True.intro|rfl|(exfalso;omega)|(exfalso;simp at*;omega)
def Zca (M:Int->Int->Int):ZI:=fun args _ K=>match args with
 | [.int .i64 a,.int .i64 b]=>((0<=a/\a<=1125899906842624)/\(0<=b/\b<=1125899906842624))/\K (.tuple [.int .i64 (M a b),.int .i64 0])
 | _=>False
theorem ZhP (args:List AV) (h:Z8) (K:AV->Prop) (hl:Zca Xa args h K):Ze PP 84 args h fun o h'=>∃v,o=.ret v/\h'=h/\K v:=by
 unfold Zca at hl
 split at hl
 ·obtain ⟨⟨h1,h2⟩,hK⟩:=hl
  exact Xk Zm rfl (Znv _ _ _ rfl h1 h2) (fun u hu=>hu▸hK)
 ·exact hl.elim
theorem Zf3 (args:List AV) (h:Z8) (K:AV->Prop) (hl:Zca Xa args h K):Ze PP 127 args h fun o h'=>∃v,o=.ret v/\h'=h/\K v:=by
 unfold Zca at hl
 split at hl
 ·obtain ⟨⟨h1,h2⟩,hK⟩:=hl
  exact Xk Zm rfl (Zks _ _ _ rfl h1 h2) (fun u hu=>hu▸hK)
 ·exact hl.elim
def YL (M:Int->Int->Int) (k:ClS) (x:Int):Int:=Qf (match k.offers with|true=>M k.last x|false=>x) k.least k.most
theorem ZoY (M:Int->Int->Int) (k:ClS) (x r:Int) (hl:0<=k.last/\k.last<=1125899906842624) (hx:0<=x/\x<=1125899906842624) (hr:r=YL M k x):
  evF (G0.withP 84 (Zca M)) 20 41 [.agg k.c,.int .i64 x] ⟨0,[]⟩ (XY fun v=>v=.int .i64 r):=by
 refine @Eq.mpr _ (let c:=k.last;let f:=M c x;let b:=k.most;let e:=if f<b then f else b;let a:=k.least;let d:=if x<b then x else b;
 Z5 k.offers (((0<=c/\c<=1125899906842624)/\0<=x/\x<=1125899906842624)/\AV.int i64 (if e>a then e else a)=AV.int i64 r) (AV.int i64 (if d>a then d else a)=AV.int i64 r)) (by kernel_rfl) ?_
 conv=>zeta
 try simp only [vcA]
 try simp only [vcB]
 try simp only [vcC]
 subst hr
 have hz:∀y:Int,(if (if y<k.most then y else k.most)>k.least then (if y<k.most then y else k.most) else k.least)=Qf y k.least k.most:=fun y=>by
  unfold Qf
  rw [Int.max_def,Int.min_def]
  split<;>split<;>(try split)<;>(try split)<;>omega
 simp only [hz]
 unfold YL
 cases k.offers
 ·exact ⟨(fun h=>nomatch h),fun _=>rfl⟩
 ·exact ⟨fun _=>⟨⟨hl,hx⟩,rfl⟩,(fun h=>nomatch h)⟩
def nxS (M:Int->Int->Int):ZI:=fun args h K=>Zz none h true 20 args fun a=>match a with
 | [.agg cs,.int .i64 x]=>∃k,YJ cs k/\((0<=k.last/\k.last<=1125899906842624)/\(0<=x/\x<=1125899906842624))/\K (.int .i64 (YL M k x))
 | _=>False
theorem Zkt (args:List AV) (h:Z8) (K:AV->Prop) (hl:nxS Xa args h K):Ze PP 41 args h fun o h'=>∃v,o=.ret v/\h'=h/\K v:=by
 refine Zs.psumm (d:=20) (Zk _ _ _ _ _ hl fun a ha=> ?_)
 split at ha
 ·obtain ⟨k,⟨rfl⟩,⟨h1,h2⟩,hK⟩:=ha
  exact ⟨_,Zs.evV (Zb.withP_ok Zm ZhP) (ZoY _ k _ _ h1 h2 rfl),fun _=>rfl,hK⟩
 ·exact ha.elim
theorem ZoZ (n a b:Int) (r:Bool) (hr:r=decide (a<=n/\n<=b)):
  evF G0 20 40 [.int .i64 n,.int .i64 a,.int .i64 b] ⟨0,[]⟩ (XY (fun v=>v=.bool r)):=by
 refine @Eq.mpr _ (Z5 (decide (a<=n)) (AV.bool (decide (n<=b))=AV.bool r) (AV.bool false=AV.bool r)) (by kernel_rfl) ?_
 simp only [Z7s]
 subst hr
 by_cases h1:a<=n<;>by_cases h2:n<=b<;>simp [h1,h2]
theorem Zf4 (args:List AV) (h:Z8) (K:AV->Prop) (hl:inQ args h K):Ze PP 40 args h fun o h'=>∃v,o=.ret v/\h'=h/\K v:=by
 unfold inQ at hl
 split at hl
 ·exact Xk Zm rfl (ZoZ _ _ _ _ rfl) (fun u hu=>hu▸hl)
 ·exact hl.elim
def sdN (kd am:Int) (tg:LI):Zi:=⟨kd,⟨Z0,0,0,0,0,0,Z0,Z0⟩,0,am,Z0,Z0,Z0,Z0,tg,Z0,0,0,0,0,0,ByteArray.empty⟩
def clO (k:ClS) (of:Bool) (la:Int) (ag:Bool) (fe:Int):ClS:=⟨k.t,k.side,k.a0,k.a1,k.least,k.most,of,la,ag,fe⟩
def clD (k:ClS) (s:Int):ClS:=⟨k.t,s,k.a0,k.a1,k.least,k.most,k.offers,k.last,k.agrees,k.fee⟩
theorem Wu {k:ClS} {s:Int} (h:k.side=s):clD k s=k:=by subst h;rfl
noncomputable def Zf5 (A:LI->Int×Int) (Tg:LI->TxS->LI):Zb:=(G0.withF 42 (clF A)).withP 83 (Z9n A Tg)
theorem Qx:(Zf5 ZA Zy).Ok:=Zb.withP_ok (Zb.withF_ok Zm Z9m) Z5a
structure OfR (Tg:LI->TxS->LI) (k:ClS) (s fee e kd am la:Int) (tg:LI) (of:Bool):Prop where
 he:e=ZJ k.t k.a0 k.a1 fee
 go:e=0->kd=13/\am=fee/\tg=Tg (Z9q k.t s) (txC k.t k.a0 k.a1 fee)/\of=true/\la=fee
 no:e≠0->kd=0/\am=0/\tg=Z0/\of=k.offers/\la=k.last
theorem Ziw (A:LI->Int×Int) (Tg:LI->TxS->LI) (k:ClS) (fee e kd am la:Int) (tg:LI) (of:Bool) (hA:A=ZA) (ht:k.t.All) (ha:k.a0<9223372036854775808) (hr:OfR Tg k 0 fee e kd am la tg of):
  evF (Zf5 A Tg) 20 32 [.ptr (some ⟨0,0,0,0,0⟩),.int .i64 fee] ⟨1,[(0,.flat ((clD k 0).c++[.bool true]))]⟩ (ZH 1 (.ret (.tuple [.agg (sdN kd am tg).c,.int .i64 e])) 1 [(0,.flat ((clO (clD k 0) of la k.agrees k.fee).c++[.bool true]))]):=by
 refine @Eq.mpr _ (let f:=clD k 0;let l:=f.t;let q:=l.fund;let p:=l.index;let J:=l.cap;let I:=l.dust;let H:=l.fee;let G:=l.delay;let o:=l.k0;let b1:=l.k1;let D:=Zj.mk q p J I H G o b1;let b0:=[f.a0,f.a1];let d:=sdN kd am tg;let a9:=d.kind;let a8:=decide (0=a9);let C:=d.t;let B:=Z0=C.fund;let z:=Z0=C.k0;let y:=Z0=C.k1;let a7:=d.amount;let a6:=decide (0=a7);let x:=Z0=d.point;let w:=Z0=d.nxt;let v:=Z0=d.key;let u:=Z0=d.hash;let a5:=d.tag;let a4:=Z0=a5;let s:=Z0=d.secret;let r:=ByteArray.empty=d.route;let g:=clO f of la k.agrees k.fee;let j:=g.t;let a3:=q=j.fund;let a2:=decide (p=j.index);let Z:=decide (J=j.cap);let Y:=decide (I=j.dust);let X:=decide (H=j.fee);let W:=decide (G=j.delay);let V:=o=j.k0;let U:=b1=j.k1;let T:=b0=[g.a0,g.a1];let S:=decide (f.least=g.least);let R:=decide (f.most=g.most);let Q:=g.offers;let P:=g.last;let O:=Z7 (f.agrees=g.agrees) (Z7 (f.fee=g.fee) True);let K:=a3/\Z6 a2 (Z6 Z (Z6 Y (Z6 X (Z6 W (V/\U/\T/\Z6 S (Z6 R (Z7 (f.offers=Q) (Z7 (f.last=P) O))))))));let m:=InS.mk q p 1 Z0 Z0 Z0;
 Zj.Ok D/\
 ∃(a:Int),
 ∃(b:Int),
 let F:=clB A D a b fee;let E:=clL D a b fee;
 b0=[a,b]/\
 a<9223372036854775808/\
 (F=false->Z6 a8 (B/\z/\y/\Z6 a6 (x/\w/\v/\u/\a4/\s/\r/\Z7 (2=e) K)))/\
 (F=true->
 (E.length=0->Z6 a8 (B/\z/\y/\Z6 a6 (x/\w/\v/\u/\a4/\s/\r/\Z7 (180=e) K)))/\
 ∀(n:Nat) (L:List Z9),
 L=ZR E->
 n=L.length->
 n≠0->
 Z7 (0+n<=n) ((∀(i:Nat),i<n->true=true)/\
 ∃(t:TxS),
 (t.num=2147483647/\
 (((1:Nat)=1/\t.N=1)/\∀(i:Nat),i<1->Ye [AV.arr u8 32 m.name,AV.int i64 m.index,AV.int i64 m.way,AV.arr u8 32 m.tag,AV.arr u8 32 m.also,AV.arr u8 32 m.secret] 0 130 i=InS.c (t.ins i))/\
 (n=n/\t.M=n)/\
 ∀(i:Nat),
 let h:=Y2 L i;
 i<n->[AV.int i64 h.kind,AV.int i64 h.amount,AV.arr u8 32 h.owner,AV.arr u8 32 h.other,AV.arr u8 32 h.point,AV.arr u8 32 h.hash,AV.int i64 h.delay,AV.int i64 h.expiry]=ZF.c (t.outs i))/\
 (TxS.Ok t/\o.length=32/\Yp A t=true)/\Z7 (13=a9) (B/\z/\y/\Z7 (fee=a7) (x/\w/\v/\u/\Tg o t=a5/\s/\r/\Z7 (0=e) (a3/\Z6 a2 (Z6 Z (Z6 Y (Z6 X (Z6 W (V/\U/\T/\Z6 S (Z6 R (Z7 (true=Q) (Z7 (fee=P) O)))))))))))))) (by kernel_rfl) ?_
 conv=>zeta
 try simp only [vcA]
 try simp only [vcB]
 try simp only [vcC]
 subst hA
 obtain ⟨he,go,no⟩:=hr
 refine ⟨ht.ok,k.a0,k.a1,rfl,ha,fun h1=> ?_,fun h1=>⟨fun h2=> ?_,fun n L hL hn hn0=> ?_⟩⟩
 ·have e2:e=2:=he.trans (Qg (k:=k) h1)
  obtain ⟨rfl,rfl,rfl,rfl,rfl⟩:=no (by rw [e2];decide)
  and_intros<;>first|rfl|exact e2.symm
 ·have e2:e=180:=he.trans (Ws (k:=k) h1 h2)
  obtain ⟨rfl,rfl,rfl,rfl,rfl⟩:=no (by rw [e2];decide)
  and_intros<;>first|rfl|exact e2.symm
 ·have e1:=Wt (k:=k) h1 hL hn hn0
  have e2:e=0:=he.trans e1
  obtain ⟨rfl,rfl,rfl,rfl,rfl⟩:=go e2
  subst hn hL
  refine ⟨fun _ _=>trivial,txC k.t k.a0 k.a1 _,⟨rfl,⟨rfl,fun i hi=>VM _ i hi⟩,rfl,fun _ _=>rfl⟩,⟨WB ht.ok ht.fl,ht.ok.k0,Vd e1⟩, ?_⟩
  and_intros<;>first|rfl|exact e2.symm
theorem Zix (A:LI->Int×Int) (Tg:LI->TxS->LI) (k:ClS) (fee e kd am la:Int) (tg:LI) (of:Bool) (hA:A=ZA) (ht:k.t.All) (ha:k.a0<9223372036854775808) (hr:OfR Tg k 1 fee e kd am la tg of):
  evF (Zf5 A Tg) 20 32 [.ptr (some ⟨0,0,0,0,0⟩),.int .i64 fee] ⟨1,[(0,.flat ((clD k 1).c++[.bool true]))]⟩ (ZH 1 (.ret (.tuple [.agg (sdN kd am tg).c,.int .i64 e])) 1 [(0,.flat ((clO (clD k 1) of la k.agrees k.fee).c++[.bool true]))]):=by
 refine @Eq.mpr _ (let f:=clD k 1;let l:=f.t;let q:=l.fund;let p:=l.index;let K:=l.cap;let J:=l.dust;let I:=l.fee;let H:=l.delay;let G:=l.k0;let o:=l.k1;let D:=Zj.mk q p K J I H G o;let b1:=[f.a0,f.a1];let d:=sdN kd am tg;let b0:=d.kind;let a9:=decide (0=b0);let C:=d.t;let B:=Z0=C.fund;let z:=Z0=C.k0;let y:=Z0=C.k1;let a8:=d.amount;let a7:=decide (0=a8);let x:=Z0=d.point;let w:=Z0=d.nxt;let v:=Z0=d.key;let u:=Z0=d.hash;let a6:=d.tag;let a5:=Z0=a6;let s:=Z0=d.secret;let r:=ByteArray.empty=d.route;let g:=clO f of la k.agrees k.fee;let j:=g.t;let a4:=q=j.fund;let a3:=decide (p=j.index);let a2:=decide (K=j.cap);let Z:=decide (J=j.dust);let Y:=decide (I=j.fee);let X:=decide (H=j.delay);let W:=G=j.k0;let V:=o=j.k1;let U:=b1=[g.a0,g.a1];let T:=decide (f.least=g.least);let S:=decide (f.most=g.most);let R:=g.offers;let Q:=g.last;let P:=Z7 (f.agrees=g.agrees) (Z7 (f.fee=g.fee) True);let O:=a4/\Z6 a3 (Z6 a2 (Z6 Z (Z6 Y (Z6 X (W/\V/\U/\Z6 T (Z6 S (Z7 (f.offers=R) (Z7 (f.last=Q) P))))))));let m:=InS.mk q p 1 Z0 Z0 Z0;
 Zj.Ok D/\
 ∃(a:Int),
 ∃(b:Int),
 let F:=clB A D a b fee;let E:=clL D a b fee;
 b1=[a,b]/\
 a<9223372036854775808/\
 (F=false->Z6 a9 (B/\z/\y/\Z6 a7 (x/\w/\v/\u/\a5/\s/\r/\Z7 (2=e) O)))/\
 (F=true->
 (E.length=0->Z6 a9 (B/\z/\y/\Z6 a7 (x/\w/\v/\u/\a5/\s/\r/\Z7 (180=e) O)))/\
 ∀(n:Nat) (L:List Z9),
 L=ZR E->
 n=L.length->
 n≠0->
 Z7 (0+n<=n) ((∀(i:Nat),i<n->true=true)/\
 ∃(t:TxS),
 (t.num=2147483647/\
 (((1:Nat)=1/\t.N=1)/\∀(i:Nat),i<1->Ye [AV.arr u8 32 m.name,AV.int i64 m.index,AV.int i64 m.way,AV.arr u8 32 m.tag,AV.arr u8 32 m.also,AV.arr u8 32 m.secret] 0 130 i=InS.c (t.ins i))/\
 (n=n/\t.M=n)/\
 ∀(i:Nat),
 let h:=Y2 L i;
 i<n->[AV.int i64 h.kind,AV.int i64 h.amount,AV.arr u8 32 h.owner,AV.arr u8 32 h.other,AV.arr u8 32 h.point,AV.arr u8 32 h.hash,AV.int i64 h.delay,AV.int i64 h.expiry]=ZF.c (t.outs i))/\
 (TxS.Ok t/\o.length=32/\Yp A t=true)/\Z7 (13=b0) (B/\z/\y/\Z7 (fee=a8) (x/\w/\v/\u/\Tg o t=a6/\s/\r/\Z7 (0=e) (a4/\Z6 a3 (Z6 a2 (Z6 Z (Z6 Y (Z6 X (W/\V/\U/\Z6 T (Z6 S (Z7 (true=R) (Z7 (fee=Q) P)))))))))))))) (by kernel_rfl) ?_
 conv=>zeta
 try simp only [vcA]
 try simp only [vcB]
 try simp only [vcC]
 subst hA
 obtain ⟨he,go,no⟩:=hr
 refine ⟨ht.ok,k.a0,k.a1,rfl,ha,fun h1=> ?_,fun h1=>⟨fun h2=> ?_,fun n L hL hn hn0=> ?_⟩⟩
 ·have e2:e=2:=he.trans (Qg (k:=k) h1)
  obtain ⟨rfl,rfl,rfl,rfl,rfl⟩:=no (by rw [e2];decide)
  and_intros<;>first|rfl|exact e2.symm
 ·have e2:e=180:=he.trans (Ws (k:=k) h1 h2)
  obtain ⟨rfl,rfl,rfl,rfl,rfl⟩:=no (by rw [e2];decide)
  and_intros<;>first|rfl|exact e2.symm
 ·have e1:=Wt (k:=k) h1 hL hn hn0
  have e2:e=0:=he.trans e1
  obtain ⟨rfl,rfl,rfl,rfl,rfl⟩:=go e2
  subst hn hL
  refine ⟨fun _ _=>trivial,txC k.t k.a0 k.a1 _,⟨rfl,⟨rfl,fun i hi=>VM _ i hi⟩,rfl,fun _ _=>rfl⟩,⟨WB ht.ok ht.fl,ht.ok.k1,Vd e1⟩, ?_⟩
  and_intros<;>first|rfl|exact e2.symm
inductive Yy (cs:List AV) (k:ClS):Prop
 | mk:cs=k.c++[.bool true]->Yy cs k
structure XH (k:ClS):Prop where
 t:k.t.All
 a:k.a0<9223372036854775808
 s:k.side=0\/k.side=1
theorem Zf6 {k:ClS} (hk:XH k) (fee:Int):(ZJ k.t k.a0 k.a1 fee=0->Spec PP 32 [.ptr (some ⟨0,0,0,0,0⟩),.int .i64 fee] ⟨1,[(0,.flat (k.c++[.bool true]))]⟩ (.ret (.tuple [.agg (sdN 13 fee (Yl Zy k fee k.side)).c,.int .i64 0])) 1 [(0,.flat ((clO k true fee k.agrees k.fee).c++[.bool true]))])/\
  (ZJ k.t k.a0 k.a1 fee≠0->Spec PP 32 [.ptr (some ⟨0,0,0,0,0⟩),.int .i64 fee] ⟨1,[(0,.flat (k.c++[.bool true]))]⟩ (.ret (.tuple [.agg (sdN 0 0 Z0).c,.int .i64 (ZJ k.t k.a0 k.a1 fee)])) 1 [(0,.flat (k.c++[.bool true]))]):=by
 obtain ⟨ht,ha,hs⟩:=hk
 refine ⟨fun he=> ?_,fun he=> ?_⟩
 ·rw [Ur he]
  rcases hs with hs|hs
  ·have hv:=Ziw ZA Zy k fee 0 13 fee fee (Zy (Z9q k.t 0) (txC k.t k.a0 k.a1 fee)) true rfl ht ha ⟨he.symm,fun _=>⟨rfl,rfl,rfl,rfl,rfl⟩,fun h=>absurd rfl h⟩
   rw [Wu hs] at hv
   rw [hs]
   exact .evM Qx hv
  ·have hv:=Zix ZA Zy k fee 0 13 fee fee (Zy (Z9q k.t 1) (txC k.t k.a0 k.a1 fee)) true rfl ht ha ⟨he.symm,fun _=>⟨rfl,rfl,rfl,rfl,rfl⟩,fun h=>absurd rfl h⟩
   rw [Wu hs] at hv
   rw [hs]
   exact .evM Qx hv
 ·rcases hs with hs|hs
  ·have hv:=Ziw ZA Zy k fee (ZJ k.t k.a0 k.a1 fee) 0 0 k.last Z0 k.offers rfl ht ha ⟨rfl,fun h=>absurd h he,fun _=>⟨rfl,rfl,rfl,rfl,rfl⟩⟩
   rw [Wu hs] at hv
   exact .evM Qx hv
  ·have hv:=Zix ZA Zy k fee (ZJ k.t k.a0 k.a1 fee) 0 0 k.last Z0 k.offers rfl ht ha ⟨rfl,fun h=>absurd h he,fun _=>⟨rfl,rfl,rfl,rfl,rfl⟩⟩
   rw [Wu hs] at hv
   exact .evM Qx hv
inductive XI (cs:List AV) (s:Zi):Prop
 | mk:cs=s.c->XI cs s
open Classical in
noncomputable def WP (s:Zi):Bool:=decide (Zp s s.kind)
theorem Qh {s:Zi}:WP s=true↔Zp s s.kind:=by unfold WP;simp
def ZhQ (SB:Zi->Bool):ZI:=fun args _ K=>match args with
 | [.agg cs]=>∃s,XI cs s/\s.Len/\(SB s=true->K (.int .i64 0))/\(SB s=false->K (.int .i64 2))
 | _=>False
structure HR where
 e:Int
 kd:Int
 am:Int
 tg:LI
 sy:Bool
 of:Bool
 la:Int
 ag:Bool
 fe:Int
def noR (k:ClS) (e:Int):HR:=⟨e,0,0,Z0,false,k.offers,k.last,k.agrees,k.fee⟩
def Y7 (SB:Zi->Bool) (M:Int->Int->Int) (Tg:LI->TxS->LI) (k:ClS) (s:Zi):HR:=
 if SB s=false then noR k 2 else if s.kind≠13 then noR k 210 else if k.agrees=true then noR k 250
 else if ZJ k.t k.a0 k.a1 s.amount≠0 then noR k (ZJ k.t k.a0 k.a1 s.amount)
 else if Yl Tg k s.amount (1-k.side)≠s.tag then noR k 221
 else if k.offers=true/\k.last=s.amount then ⟨0,0,0,Z0,false,k.offers,k.last,true,s.amount⟩
 else if k.least<=s.amount/\s.amount<=k.most then ⟨0,13,s.amount,Yl Tg k s.amount k.side,true,true,s.amount,true,s.amount⟩
 else if k.offers=true/\YL M k s.amount=k.last then noR k 252
 else if ZJ k.t k.a0 k.a1 (YL M k s.amount)≠0 then noR k (ZJ k.t k.a0 k.a1 (YL M k s.amount))
 else ⟨0,13,YL M k s.amount,Yl Tg k (YL M k s.amount) k.side,true,true,YL M k s.amount,k.agrees,k.fee⟩
def h2E (Tg:LI->TxS->LI) (k:ClS) (s:Zi):Int:=if ZJ k.t k.a0 k.a1 s.amount=0 then (if Yl Tg k s.amount (1-k.side)=s.tag then 0 else 221) else ZJ k.t k.a0 k.a1 s.amount
theorem Z1y {k:ClS} {s:Zi} {m:Int} (h:ZJ k.t k.a0 k.a1 s.amount=m) (hm:m≠0):h2E Tg k s=m:=by
 unfold h2E
 rw [h,if_neg hm]
theorem Z9s {k:ClS} {s:Zi} (h:ZJ k.t k.a0 k.a1 s.amount=0):h2E Tg k s=if Yl Tg k s.amount (1-k.side)=s.tag then 0 else 221:=by
 unfold h2E
 rw [if_pos h]
theorem Zp0 (A:LI->Int×Int) (Tg:LI->TxS->LI) (k:ClS) (s:Zi) (e:Int) (hA:A=ZA) (ht:k.t.All) (ha:k.a0<9223372036854775808) (hl:s.Len) (hT:∀a t,(Tg a t).length=32) (he:e=h2E Tg (clD k 0) s):
  evF (Zf5 A Tg) 20 37 [.ptr (some ⟨1,0,0,0,0⟩),.ptr (some ⟨2,0,0,0,0⟩)] ⟨3,[(0,.flat ((clD k 0).c++[.bool true])),(1,.flat [.ptr (some ⟨0,0,0,0,0⟩)]),(2,.flat s.c)]⟩ (ZH 3 (.ret (.int .i64 e)) 3 [(0,.flat ((clD k 0).c++[.bool true])),(1,.flat [.ptr (some ⟨0,0,0,0,0⟩)]),(2,.flat s.c)]):=by
 refine @Eq.mpr _ (let d:=clD k 0;let h:=d.t;let q:=h.fund;let m:=h.index;let y:=h.cap;let x:=h.dust;let w:=h.fee;let v:=h.delay;let u:=h.k0;let l:=h.k1;let B:=Zj.mk q m y x w v u l;let z:=[d.a0,d.a1];let r:=s.amount;let W:=d.least;let V:=d.most;let U:=d.offers;let T:=d.last;let S:=d.agrees;let R:=d.fee;let g:=s.t;let Q:=g.fund;let P:=g.index;let O:=g.cap;let K:=g.dust;let J:=g.fee;let I:=g.delay;let H:=g.k0;let G:=g.k1;let F:=s.reserve;let p:=s.tag;let E:=p=p;let o:=( q=q/\
 Z7 (m=m) (Z7 (y=y) (Z7 (x=x) (Z7 (w=w) (Z7 (v=v) (u=u/\l=l/\z=z/\Z7 (W=W) (Z7 (V=V) (Z7 (U=U) (Z7 (T=T) (Z7 (S=S) (Z7 (R=R) (Z7 (s.kind=s.kind) (Q=Q/\Z7 (P=P) (Z7 (O=O) (Z7 (K=K) (Z7 (J=J) (Z7 (I=I) (H=H/\G=G/\Z7 (F=F) (Z7 (r=r) (s.point=s.point/\s.nxt=s.nxt/\s.key=s.key/\s.hash=s.hash/\E/\s.secret=s.secret/\Z7 (s.id=s.id) (Z7 (s.number=s.number) (Z7 (s.index=s.index) (Z7 (s.expiry=s.expiry) (Z7 (s.code=s.code) (s.route=s.route/\True)))))))))))))))))))))))));let j:=InS.mk q m 1 Z0 Z0 Z0;
 Zj.Ok B/\
 ∃(a:Int),
 ∃(b:Int),
 let D:=clB A B a b r;let C:=clL B a b r;
 z=[a,b]/\
 a<9223372036854775808/\
 (D=false->Z7 (2=e) o)/\
 (D=true->
 (C.length=0->Z7 (180=e) o)/\
 ∀(n:Nat) (L:List Z9),
 L=ZR C->
 n=L.length->
 n≠0->
 Z7 (0+n<=n) ((∀(i:Nat),i<n->true=true)/\
 ∃(t:TxS),
 (t.num=2147483647/\
 (((1:Nat)=1/\t.N=1)/\∀(i:Nat),i<1->Ye [AV.arr u8 32 j.name,AV.int i64 j.index,AV.int i64 j.way,AV.arr u8 32 j.tag,AV.arr u8 32 j.also,AV.arr u8 32 j.secret] 0 130 i=InS.c (t.ins i))/\
 (n=n/\t.M=n)/\
 ∀(i:Nat),
 let f:=Y2 L i;
 i<n->[AV.int i64 f.kind,AV.int i64 f.amount,AV.arr u8 32 f.owner,AV.arr u8 32 f.other,AV.arr u8 32 f.point,AV.arr u8 32 f.hash,AV.int i64 f.delay,AV.int i64 f.expiry]=ZF.c (t.outs i))/\
 (TxS.Ok t/\l.length=32/\Yp A t=true)/\E/\Z7 (List.length (Tg l t)=32/\p.length=32) (Z5 (Tg l t==p) (Z7 (0=e) o) (Z7 (221=e) o))))) (by kernel_rfl) ?_
 conv=>zeta
 try simp only [vcA]
 try simp only [vcB]
 try simp only [vcC]
 subst hA
 have hg:=fun (m:Int) (hm:h2E Tg (clD k 0) s=m)=>he.trans hm
 refine ⟨ht.ok,k.a0,k.a1,rfl,ha,fun h1=> ?_,fun h1=>⟨fun h2=> ?_,fun n L hL hn hn0=> ?_⟩⟩
 ·have e1:=Qg (k:=k) h1
  have e2:=hg 2 (Z1y (k:=clD k 0) e1 (by decide))
  and_intros<;>first|rfl|exact e2.symm
 ·have e1:=Ws (k:=k) h1 h2
  have e2:=hg 180 (Z1y (k:=clD k 0) e1 (by decide))
  and_intros<;>first|rfl|exact e2.symm
 ·have e1:=Wt (k:=k) h1 hL hn hn0
  subst hn hL
  have hv:Yl Tg (clD k 0) s.amount (1-(clD k 0).side)=Tg k.t.k1 (txC k.t k.a0 k.a1 s.amount):=Ur (k:=k) (sd:=1) e1
  refine ⟨fun _ _=>trivial,txC k.t k.a0 k.a1 s.amount,⟨rfl,⟨rfl,fun i hi=>VM _ i hi⟩,rfl,fun _ _=>rfl⟩,⟨WB ht.ok ht.fl,ht.ok.k1,Vd e1⟩, ?_⟩
  have e2:=he.trans (Z9s (Tg:=Tg) (k:=clD k 0) e1)
  rw [hv] at e2
  refine ⟨⟨hT _ _,hl.h7⟩,fun h=> ?_,fun h=> ?_⟩
  ·have h:Tg k.t.k1 (txC k.t k.a0 k.a1 s.amount)=s.tag:=beq_iff_eq.1 h
   rw [if_pos h] at e2
   and_intros<;>first|rfl|exact e2.symm
  ·have h:¬Tg k.t.k1 (txC k.t k.a0 k.a1 s.amount)=s.tag:=beq_eq_false_iff_ne.1 h
   rw [if_neg h] at e2
   and_intros<;>first|rfl|exact e2.symm
theorem Zp1 (A:LI->Int×Int) (Tg:LI->TxS->LI) (k:ClS) (s:Zi) (e:Int) (hA:A=ZA) (ht:k.t.All) (ha:k.a0<9223372036854775808) (hl:s.Len) (hT:∀a t,(Tg a t).length=32) (he:e=h2E Tg (clD k 1) s):
  evF (Zf5 A Tg) 20 37 [.ptr (some ⟨1,0,0,0,0⟩),.ptr (some ⟨2,0,0,0,0⟩)] ⟨3,[(0,.flat ((clD k 1).c++[.bool true])),(1,.flat [.ptr (some ⟨0,0,0,0,0⟩)]),(2,.flat s.c)]⟩ (ZH 3 (.ret (.int .i64 e)) 3 [(0,.flat ((clD k 1).c++[.bool true])),(1,.flat [.ptr (some ⟨0,0,0,0,0⟩)]),(2,.flat s.c)]):=by
 refine @Eq.mpr _ (let d:=clD k 1;let h:=d.t;let q:=h.fund;let m:=h.index;let x:=h.cap;let w:=h.dust;let v:=h.fee;let u:=h.delay;let j:=h.k0;let B:=h.k1;let z:=Zj.mk q m x w v u j B;let y:=[d.a0,d.a1];let r:=s.amount;let W:=d.least;let V:=d.most;let U:=d.offers;let T:=d.last;let S:=d.agrees;let R:=d.fee;let g:=s.t;let Q:=g.fund;let P:=g.index;let O:=g.cap;let K:=g.dust;let J:=g.fee;let I:=g.delay;let H:=g.k0;let G:=g.k1;let F:=s.reserve;let p:=s.tag;let E:=p=p;let o:=( q=q/\
 Z7 (m=m) (Z7 (x=x) (Z7 (w=w) (Z7 (v=v) (Z7 (u=u) (j=j/\B=B/\y=y/\Z7 (W=W) (Z7 (V=V) (Z7 (U=U) (Z7 (T=T) (Z7 (S=S) (Z7 (R=R) (Z7 (s.kind=s.kind) (Q=Q/\Z7 (P=P) (Z7 (O=O) (Z7 (K=K) (Z7 (J=J) (Z7 (I=I) (H=H/\G=G/\Z7 (F=F) (Z7 (r=r) (s.point=s.point/\s.nxt=s.nxt/\s.key=s.key/\s.hash=s.hash/\E/\s.secret=s.secret/\Z7 (s.id=s.id) (Z7 (s.number=s.number) (Z7 (s.index=s.index) (Z7 (s.expiry=s.expiry) (Z7 (s.code=s.code) (s.route=s.route/\True)))))))))))))))))))))))));let l:=InS.mk q m 1 Z0 Z0 Z0;
 Zj.Ok z/\
 ∃(a:Int),
 ∃(b:Int),
 let D:=clB A z a b r;let C:=clL z a b r;
 y=[a,b]/\
 a<9223372036854775808/\
 (D=false->Z7 (2=e) o)/\
 (D=true->
 (C.length=0->Z7 (180=e) o)/\
 ∀(n:Nat) (L:List Z9),
 L=ZR C->
 n=L.length->
 n≠0->
 Z7 (0+n<=n) ((∀(i:Nat),i<n->true=true)/\
 ∃(t:TxS),
 (t.num=2147483647/\
 (((1:Nat)=1/\t.N=1)/\∀(i:Nat),i<1->Ye [AV.arr u8 32 l.name,AV.int i64 l.index,AV.int i64 l.way,AV.arr u8 32 l.tag,AV.arr u8 32 l.also,AV.arr u8 32 l.secret] 0 130 i=InS.c (t.ins i))/\
 (n=n/\t.M=n)/\
 ∀(i:Nat),
 let f:=Y2 L i;
 i<n->[AV.int i64 f.kind,AV.int i64 f.amount,AV.arr u8 32 f.owner,AV.arr u8 32 f.other,AV.arr u8 32 f.point,AV.arr u8 32 f.hash,AV.int i64 f.delay,AV.int i64 f.expiry]=ZF.c (t.outs i))/\
 (TxS.Ok t/\j.length=32/\Yp A t=true)/\E/\Z7 (List.length (Tg j t)=32/\p.length=32) (Z5 (Tg j t==p) (Z7 (0=e) o) (Z7 (221=e) o))))) (by kernel_rfl) ?_
 conv=>zeta
 try simp only [vcA]
 try simp only [vcB]
 try simp only [vcC]
 subst hA
 have hg:=fun (m:Int) (hm:h2E Tg (clD k 1) s=m)=>he.trans hm
 refine ⟨ht.ok,k.a0,k.a1,rfl,ha,fun h1=> ?_,fun h1=>⟨fun h2=> ?_,fun n L hL hn hn0=> ?_⟩⟩
 ·have e1:=Qg (k:=k) h1
  have e2:=hg 2 (Z1y (k:=clD k 1) e1 (by decide))
  and_intros<;>first|rfl|exact e2.symm
 ·have e1:=Ws (k:=k) h1 h2
  have e2:=hg 180 (Z1y (k:=clD k 1) e1 (by decide))
  and_intros<;>first|rfl|exact e2.symm
 ·have e1:=Wt (k:=k) h1 hL hn hn0
  subst hn hL
  have hv:Yl Tg (clD k 1) s.amount (1-(clD k 1).side)=Tg k.t.k0 (txC k.t k.a0 k.a1 s.amount):=Ur (k:=k) (sd:=0) e1
  refine ⟨fun _ _=>trivial,txC k.t k.a0 k.a1 s.amount,⟨rfl,⟨rfl,fun i hi=>VM _ i hi⟩,rfl,fun _ _=>rfl⟩,⟨WB ht.ok ht.fl,ht.ok.k0,Vd e1⟩, ?_⟩
  have e2:=he.trans (Z9s (Tg:=Tg) (k:=clD k 1) e1)
  rw [hv] at e2
  refine ⟨⟨hT _ _,hl.h7⟩,fun h=> ?_,fun h=> ?_⟩
  ·have h:Tg k.t.k0 (txC k.t k.a0 k.a1 s.amount)=s.tag:=beq_iff_eq.1 h
   rw [if_pos h] at e2
   and_intros<;>first|rfl|exact e2.symm
  ·have h:¬Tg k.t.k0 (txC k.t k.a0 k.a1 s.amount)=s.tag:=beq_eq_false_iff_ne.1 h
   rw [if_neg h] at e2
   and_intros<;>first|rfl|exact e2.symm
def h2S (Tg:LI->TxS->LI):ZO:=fun args h K=>match args with
 | [.ptr (some ⟨a,0,0,0,0⟩),.ptr (some ⟨b,0,0,0,0⟩)]=>match h.get a with
  | some (.flat [.ptr (some ⟨x,0,0,0,0⟩)])=>frA [x,a,b] h 40 args fun Bs aa=>match Bs,aa with
   | [.flat cs,.flat [.ptr (some ⟨0,0,0,0,0⟩)],.flat ss],[.ptr (some ⟨1,0,0,0,0⟩),.ptr (some ⟨2,0,0,0,0⟩)]=>∃k s,Yy cs k/\XI ss s/\XH k/\s.Len/\
    (ZJ k.t k.a0 k.a1 s.amount=2->K (.ret (.int .i64 2)) ⟨h.next,(x,.flat cs)::(a,.flat [.ptr (some ⟨x,0,0,0,0⟩)])::(b,.flat ss)::Ya (Ya (Ya h.bs x) a) b⟩)/\
    (ZJ k.t k.a0 k.a1 s.amount=180->K (.ret (.int .i64 180)) ⟨h.next,(x,.flat cs)::(a,.flat [.ptr (some ⟨x,0,0,0,0⟩)])::(b,.flat ss)::Ya (Ya (Ya h.bs x) a) b⟩)/\
    (ZJ k.t k.a0 k.a1 s.amount=0->(Yl Tg k s.amount (1-k.side)≠s.tag->K (.ret (.int .i64 221)) ⟨h.next,(x,.flat cs)::(a,.flat [.ptr (some ⟨x,0,0,0,0⟩)])::(b,.flat ss)::Ya (Ya (Ya h.bs x) a) b⟩)/\
     (Yl Tg k s.amount (1-k.side)=s.tag->K (.ret (.int .i64 0)) ⟨h.next,(x,.flat cs)::(a,.flat [.ptr (some ⟨x,0,0,0,0⟩)])::(b,.flat ss)::Ya (Ya (Ya h.bs x) a) b⟩))
   | _,_=>False
  | _=>False
 | _=>False
theorem Z6i (t:Zj) (a b fee:Int):ZJ t a b fee=2\/ZJ t a b fee=180\/ZJ t a b fee=0:=by
 unfold ZJ
 split
 ·split
  ·exact .inr (.inl rfl)
  ·exact .inr (.inr rfl)
 ·exact .inl rfl
theorem ZhR {k:ClS} {s:Zi} (hk:XH k) (hl:s.Len):Spec PP 37 [.ptr (some ⟨1,0,0,0,0⟩),.ptr (some ⟨2,0,0,0,0⟩)] ⟨3,[(0,.flat (k.c++[.bool true])),(1,.flat [.ptr (some ⟨0,0,0,0,0⟩)]),(2,.flat s.c)]⟩ (.ret (.int .i64 (h2E Zy k s))) 3 [(0,.flat (k.c++[.bool true])),(1,.flat [.ptr (some ⟨0,0,0,0,0⟩)]),(2,.flat s.c)]:=by
 obtain ⟨ht,ha,hs|hs⟩:=hk
 ·have hv:=Zp0 ZA Zy k s _ rfl ht ha hl Xg rfl
  rw [Wu hs] at hv
  exact .evM Qx hv
 ·have hv:=Zp1 ZA Zy k s _ rfl ht ha hl Xg rfl
  rw [Wu hs] at hv
  exact .evM Qx hv
theorem Zku (args:List AV) (h:Z8) (K:KO) (hl:h2S Zy args h K):Ze PP 37 args h K:=by
 unfold h2S at hl
 split at hl
 ·split at hl
  ·refine Spec.fsumm hl fun Bs a hlen hK0=> ?_
   split at hK0
   ·obtain ⟨k,s,⟨rfl⟩,⟨rfl⟩,hk,hs,k1,k2,k3⟩:=hK0
    refine ⟨_,_,_,_,_,ZhR hk hs,by simp,.ret _ _ rfl,.cons _ _ _ _ _ _ rfl (.flat _ _ rfl) (.cons _ _ _ _ _ _ rfl (.flat _ _ rfl) (.cons _ _ _ _ _ _ rfl (.flat _ _ rfl) .nil)), ?_⟩
    rcases Z6i k.t k.a0 k.a1 s.amount with e|e|e
    ·rw [Z1y e (by decide)];exact k1 e
    ·rw [Z1y e (by decide)];exact k2 e
    ·rw [Z9s e]
     split
     ·exact (k3 e).2 (by assumption)
     ·exact (k3 e).1 (by assumption)
   ·exact hK0.elim
  ·exact hl.elim
 ·exact hl.elim
def sdC (kd am:Int) (tg:LI):List AV:=[.int .i64 kd,.arr .u8 32 Z0,.int .i64 0,.int .i64 0,.int .i64 0,.int .i64 0,.int .i64 0,.arr .u8 32 Z0,.arr .u8 32 Z0,.int .i64 0,.int .i64 am,.arr .u8 32 Z0,.arr .u8 32 Z0,.arr .u8 32 Z0,.arr .u8 32 Z0,.arr .u8 32 tg,.arr .u8 32 Z0,.int .i64 0,.int .i64 0,.int .i64 0,.int .i64 0,.int .i64 0,.str ByteArray.empty]
def Znw (cs:List AV) (fee:Int):List AV:=match cs with
 | [a,b,c,d,e,f,g,h,i,j,k,l,_,_,o,p,q]=>[a,b,c,d,e,f,g,h,i,j,k,l,.bool true,.int .i64 fee,o,p,q]
 | _=>[]
def ZhS (Tg:LI->TxS->LI):ZO:=fun args h K=>match args with
 | [.ptr (some ⟨x,0,0,0,0⟩),_]=>frA [x] h 20 args fun Bs a=>match Bs,a with
  | [.flat cs],[.ptr (some ⟨0,0,0,0,0⟩),.int .i64 fee]=>∃k,Yy cs k/\XH k/\
   (ZJ k.t k.a0 k.a1 fee=0->K (.ret (.tuple [.agg (sdC 13 fee (Yl Tg k fee k.side)),.int .i64 0])) ⟨h.next,(x,.flat (Znw cs fee))::Ya h.bs x⟩)/\
   (ZJ k.t k.a0 k.a1 fee=2->K (.ret (.tuple [.agg (sdC 0 0 Z0),.int .i64 2])) ⟨h.next,(x,.flat cs)::Ya h.bs x⟩)/\
   (ZJ k.t k.a0 k.a1 fee=180->K (.ret (.tuple [.agg (sdC 0 0 Z0),.int .i64 180])) ⟨h.next,(x,.flat cs)::Ya h.bs x⟩)
  | _,_=>False
 | _=>False
theorem Z6j (args:List AV) (h:Z8) (K:KO) (hl:ZhS Zy args h K):Ze PP 32 args h K:=by
 unfold ZhS at hl
 split at hl
 ·refine Spec.fsumm hl fun Bs a hlen hK0=> ?_
  split at hK0
  ·rename_i cs fee
   obtain ⟨k,⟨rfl⟩,hk,h1,h2,h3⟩:=hK0
   have hs:=Zf6 hk fee
   rcases Z6i k.t k.a0 k.a1 fee with e|e|e
   ·exact ⟨_,_,_,_,_,(hs.2 (by rw [e];decide)),by simp,.ret _ _ rfl,.cons _ _ _ _ _ _ rfl (.flat _ _ rfl) .nil,e▸h2 e⟩
   ·exact ⟨_,_,_,_,_,(hs.2 (by rw [e];decide)),by simp,.ret _ _ rfl,.cons _ _ _ _ _ _ rfl (.flat _ _ rfl) .nil,e▸h3 e⟩
   ·exact ⟨_,_,_,_,_,hs.1 e,by simp,.ret _ _ rfl,.cons _ _ _ _ _ _ rfl (.flat _ _ rfl) .nil,h1 e⟩
  ·exact hK0.elim
 ·exact hl.elim
theorem Ze.k {P:Program} {f:FuncId} {h:Z8} {K K':KO} (hc:Ze P f args h K) (hk:∀o h,K o h->K' o h):Ze P f args h K':=fun E w rs he hl=>
 (hc E w rs he hl).mono (by
  rintro e w' ⟨E1,o,h',h1,h2,h3⟩
  exact ⟨E1,o,h',hk _ _ h1,h2,h3⟩)
theorem Znx {ok:Bool} {o:Out} {h:Z8} (hk:chK ok o h):XY (fun v=>v=.int .i64 (if ok=true then 0 else 2)) o h:=by
 unfold chK at hk
 split at hk
 ·subst hk;rfl
 ·subst hk;rfl
 ·exact hk.elim
theorem Xl:Z0o.Ok:=Zb.withP_ok Zm Z3K
theorem ZhT:ZmI.Ok:=Zb.withF_ok (Zb.withF_ok (Zb.withF_ok Zm (Z9i (f:=227))) (Z9i (f:=230))) (Z9i (f:=235))
theorem Z3W {s:Zi} {k:Int} (hk:k<1\/14<k):¬Zp s k:=fun h=>by
 have hq:=h.k
 unfold kindOk at hq
 split at hq<;>first|omega|exact hq
theorem Zny {s:Zi} (hs:s.Len) {ok:Bool} (hok:ok=true↔Zp s s.kind):Ze PP 35 [.agg s.c] ⟨0,[]⟩ (chK ok):=by
 unfold Zi.c
 have h15:s.kind=1\/s.kind=2\/s.kind=3\/s.kind=4\/s.kind=5\/s.kind=6\/s.kind=7\/s.kind=8\/s.kind=9\/s.kind=10\/s.kind=11\/s.kind=12\/s.kind=13\/s.kind=14\/(s.kind<1\/14<s.kind):=by omega
 rcases h15 with h|h|h|h|h|h|h|h|h|h|h|h|h|h|h
 ·rw [h] at hok⊢;exact Y3 Xl (Zmn s ok hs hok)
 ·rw [h] at hok⊢;exact Y3 Xl (Zmo s ok hs hok)
 ·rw [h] at hok⊢;exact Y3 Xl (Zmp s ok hs hok)
 ·rw [h] at hok⊢;exact Y3 Xl (Zmq s ok hs hok)
 ·rw [h] at hok⊢;exact Y3 Xl (ZmB s ok hs hok)
 ·rw [h] at hok⊢;exact Y3 Xl (ZmC s ok hs hok)
 ·rw [h] at hok⊢;exact Y3 Xl (ZmD s ok hs hok)
 ·rw [h] at hok⊢;exact Y3 Xl (ZmE s ok hs hok)
 ·rw [h] at hok⊢;exact Y3 Xl (ZmF s ok hs hok)
 ·rw [h] at hok⊢;exact Y3 Xl (Zk5 s ok hs hok)
 ·rw [h] at hok⊢;exact Y3 Xl (Zk6 s ok hs hok)
 ·rw [h] at hok⊢;exact Y3 Xl (Zk7 s ok hs hok)
 ·rw [h] at hok⊢;exact Y3 Xl (ZmG s ok hs hok)
 ·rw [h] at hok⊢;exact Y3 Xl (ZmH s ok hs hok)
 ·have e:ok=false:=Kd.2 fun e=>Z3W h (hok.1 e)
  subst e
  exact Y3 ZhT (Zow s s.kind hs h)
theorem Z9t (args:List AV) (h:Z8) (K:AV->Prop) (hl:ZhQ WP args h K):Ze PP 35 args h fun o h'=>∃v,o=.ret v/\h'=h/\K v:=by
 unfold ZhQ at hl
 split at hl
 ·obtain ⟨s,⟨rfl⟩,hs,h1,h0⟩:=hl
  refine Z0l rfl ((Zny hs Qh).k fun o h hk=>Znx hk) fun u hu=> ?_
  subst hu
  cases hq:WP s with
  | true=>exact h1 hq
  | false=>exact h0 hq
 ·exact hl.elim
def clP (k:ClS) (s:Int) (o g:Bool):ClS:=⟨k.t,s,k.a0,k.a1,k.least,k.most,o,k.last,g,k.fee⟩
def clT (k:ClS) (sd:Int) (o:Bool) (la:Int) (g:Bool) (fe:Int):List AV:=[.arr .u8 32 k.t.fund,.int .i64 k.t.index,.int .i64 k.t.cap,.int .i64 k.t.dust,.int .i64 k.t.fee,.int .i64 k.t.delay,.arr .u8 32 k.t.k0,.arr .u8 32 k.t.k1,.int .i64 sd,.arr .i64 2 [k.a0,k.a1],.int .i64 k.least,.int .i64 k.most,.bool o,.int .i64 la,.bool g,.int .i64 fe,.bool true]
theorem ndT {P:Prop} [Decidable P] (h:(!decide P)=true):¬P:=by simp_all
theorem ndF {P:Prop} [Decidable P] (h:(!decide P)=false):P:=by simp_all
structure HdC (SB:Zi->Bool) (k:ClS) (s:Zi):Prop where
 S:SB s=true
 K:s.kind=13
 A:k.agrees=false
structure HtC (SB:Zi->Bool) (Tg:LI->TxS->LI) (k:ClS) (s:Zi):Prop where
 h:HdC SB k s
 E:ZJ k.t k.a0 k.a1 s.amount=0
 T:Yl Tg k s.amount (1-k.side)=s.tag
theorem Qy {M:Int->Int->Int} {k:ClS} {s:Zi} (h:SB s=false):Y7 SB M Tg k s=noR k 2:=by unfold Y7;rw [if_pos h]
theorem Us {M:Int->Int->Int} {k:ClS} {s:Zi} (h:SB s=true) (h2:s.kind≠13):Y7 SB M Tg k s=noR k 210:=by
 unfold Y7;rw [if_neg (by rw [h];decide),if_pos h2]
theorem ZaN {M:Int->Int->Int} {k:ClS} {s:Zi} (h:SB s=true) (h2:s.kind=13) (h3:k.agrees=true):Y7 SB M Tg k s=noR k 250:=by
 unfold Y7;rw [if_neg (by rw [h];decide),if_neg (fun h=>h h2),if_pos h3]
theorem VA {M:Int->Int->Int} {k:ClS} {s:Zi} {m:Int} (h:HdC SB k s) (he:ZJ k.t k.a0 k.a1 s.amount=m) (hm:m≠0):Y7 SB M Tg k s=noR k m:=by
 unfold Y7;rw [if_neg (by rw [h.S];decide),if_neg (fun q=>q h.K),if_neg (by rw [h.A];decide),if_pos (by rw [he];exact hm),he]
theorem Z11 {M:Int->Int->Int} {k:ClS} {s:Zi} (h:HdC SB k s) (he:ZJ k.t k.a0 k.a1 s.amount=0) (ht:Yl Tg k s.amount (1-k.side)≠s.tag):Y7 SB M Tg k s=noR k 221:=by
 unfold Y7;rw [if_neg (by rw [h.S];decide),if_neg (fun q=>q h.K),if_neg (by rw [h.A];decide),if_neg (fun q=>q he),if_pos ht]
theorem Z2m {M:Int->Int->Int} {k:ClS} {s:Zi} (h:HtC SB Tg k s):Y7 SB M Tg k s=if k.offers=true/\k.last=s.amount then ⟨0,0,0,Z0,false,k.offers,k.last,true,s.amount⟩
  else if k.least<=s.amount/\s.amount<=k.most then ⟨0,13,s.amount,Yl Tg k s.amount k.side,true,true,s.amount,true,s.amount⟩
  else if k.offers=true/\YL M k s.amount=k.last then noR k 252
  else if ZJ k.t k.a0 k.a1 (YL M k s.amount)≠0 then noR k (ZJ k.t k.a0 k.a1 (YL M k s.amount))
  else ⟨0,13,YL M k s.amount,Yl Tg k (YL M k s.amount) k.side,true,true,YL M k s.amount,k.agrees,k.fee⟩:=by
 obtain ⟨h,he,ht⟩:=h
 unfold Y7;rw [if_neg (by rw [h.S];decide),if_neg (fun q=>q h.K),if_neg (by rw [h.A];decide),if_neg (fun q=>q he),if_neg (fun q=>q ht)]
theorem Zf7 {n a b:Int} (h:a<=b):a<=Qf n a b/\Qf n a b<=b:=by unfold Qf;omega
theorem Z7E {M:Int->Int->Int} {k:ClS} {x:Int} (h:k.least<=k.most):k.least<=YL M k x/\YL M k x<=k.most:=Zf7 h
noncomputable def ZhU (SB:Zi->Bool) (M:Int->Int->Int) (Tg:LI->TxS->LI):Zb:=((((G0.withP 35 (ZhQ SB)).withF 37 (h2S Tg)).withF 32 (ZhS Tg)).withP 40 inQ).withP 41 (nxS M)
theorem Zp2 (SB:Zi->Bool) (M:Int->Int->Int) (Tg:LI->TxS->LI) (k:ClS) (s:Zi) (sd e kd am:Int) (tg:LI) (sy of:Bool) (la:Int) (ag:Bool) (fe:Int) (hk:Yc (clP k sd false false)) (ht:k.t.All) (hl:s.Len) (hSB:SB s=true->0<=s.amount/\s.amount<=1125899906842624) (hR:Y7 SB M Tg (clP k sd false false) s=⟨e,kd,am,tg,sy,of,la,ag,fe⟩):
  evF (ZhU SB M Tg) 20 13 [.ptr (some ⟨0,0,0,0,0⟩),.agg s.c] ⟨1,[(0,.flat (clT k sd false k.last false k.fee))]⟩ (ZH 1 (.ret (.tuple [.agg (sdC kd am tg),.bool sy,.int .i64 e])) 1 [(0,.flat (clT k sd of la ag fe))]):=by
 refine @Eq.mpr _ (let d:=s.t;let a:=s.amount;let c:=k.t;let L:=c.fund;let q5:=AV.arr u8 32 L;let I:=c.index;let X:=AV.int i64 I;let H:=c.cap;let W:=AV.int i64 H;let V:=c.dust;let b6:=AV.int i64 V;let T:=c.fee;let b1:=AV.int i64 T;let R:=c.delay;let b0:=AV.int i64 R;let Q:=c.k0;let a9:=AV.arr u8 32 Q;let P:=c.k1;let a8:=AV.arr u8 32 P;let O:=[k.a0,k.a1];let a7:=AV.arr i64 2 O;let G:=k.least;let a6:=AV.int i64 G;let F:=k.most;let a5:=AV.int i64 F;let E:=AV.bool false;let a4:=AV.int i64 k.last;let a3:=AV.int i64 k.fee;let N:=[q5,X,W,b6,b1,b0,a9,a8,AV.int i64 sd,a7,a6,a5,E,a4,E,a3,AV.bool true];let D:=decide (0=kd);let C:=decide (0=am);let B:=decide (false=sy);let r:=L=L;let q:=decide (I=I);let p:=decide (H=H);let o:=decide (V=V);let n:=decide (T=T);let m:=decide (R=R);let l:=Q=Q;let j:=P=P;let i:=decide (sd=sd);let h:=O=O;let g:=decide (G=G);let f:=decide (F=F);let K:=Z5 (decide (false=ag)) (Z5 (decide (k.fee=fe)) True False) False;let A:=r/\Z5 q (Z5 p (Z5 o (Z5 n (Z5 m (l/\j/\Z5 i (h/\Z5 g (Z5 f (Z5 (decide (false=of)) (Z5 (decide (k.last=la)) K False) False) False) False) False) False) False) False) False) False;let z:=Z5 D (Z0=Z0/\Z0=Z0/\Z0=Z0/\Z5 C (Z0=Z0/\Z0=Z0/\Z0=Z0/\Z0=Z0/\Z0=tg/\Z0=Z0/\ByteArray.empty=ByteArray.empty/\Z5 B (Z5 (decide (2=e)) A False) False) False) False;let J:=Z5 D (Z0=Z0/\Z0=Z0/\Z0=Z0/\Z5 C (Z0=Z0/\Z0=Z0/\Z0=Z0/\Z0=Z0/\Z0=tg/\Z0=Z0/\ByteArray.empty=ByteArray.empty/\Z5 B (Z5 (decide (180=e)) A False) False) False) False;let y:=decide (13=kd);let x:=decide (true=sy);let w:=decide (0=e);let v:=decide (true=of);let a2:=decide (true=ag);let Z:=decide (a=am);let Y:=decide (a=la);
 ∃(s_1:Zi),
 let b5:=[AV.int i64 s.kind,AV.arr u8 32 d.fund,AV.int i64 d.index,AV.int i64 d.cap,AV.int i64 d.dust,AV.int i64 d.fee,AV.int i64 d.delay,AV.arr u8 32 d.k0,AV.arr u8 32 d.k1,AV.int i64 s.reserve,AV.int i64 a,AV.arr u8 32 s.point,AV.arr u8 32 s.nxt,AV.arr u8 32 s.key,AV.arr u8 32 s.hash,AV.arr u8 32 s.tag,AV.arr u8 32 s.secret,AV.int i64 s.id,AV.int i64 s.number,AV.int i64 s.index,AV.int i64 s.expiry,AV.int i64 s.code,AV.str s.route];
 XI b5 s_1/\
 Zi.Len s_1/\
 (SB s_1=true->
 Z5 (s.kind==13)
 (∃(k:ClS),
 ∃(s:Zi),
 let U:=ZJ k.t k.a0 k.a1 s.amount;let b4:=Yl Tg k s.amount (1-k.side);
 Yy N k/\
 XI b5 s/\
 XH k/\
 Zi.Len s/\
 (U=2->z)/\
 (U=180->J)/\
 (U=0->
 (b4≠s.tag->Z5 D (Z0=Z0/\Z0=Z0/\Z0=Z0/\Z5 C (Z0=Z0/\Z0=Z0/\Z0=Z0/\Z0=Z0/\Z0=tg/\Z0=Z0/\ByteArray.empty=ByteArray.empty/\Z5 B (Z5 (decide (221=e)) A False) False) False) False)/\
 (b4=s.tag->
 Z5 (!decide (G<=a/\a<=F))
 (∃(k:ClS),
 let b:=YL M k a;let u:=decide (b=am);let b3:=decide (b=la);
 YJ [q5,X,W,b6,b1,b0,a9,a8,AV.int i64 sd,a7,a6,a5,E,a4,E,a3] k/\
 ((0<=k.last/\k.last<=1125899906842624)/\0<=a/\a<=1125899906842624)/\
 ∃(k:ClS),
 let S:=ZJ k.t k.a0 k.a1 b;let b2:=Yl Tg k b k.side=tg;
 Yy N k/\
 XH k/\
 (S=0->Z5 (b==a) (Z5 y (Z0=Z0/\Z0=Z0/\Z0=Z0/\Z5 u (Z0=Z0/\Z0=Z0/\Z0=Z0/\Z0=Z0/\b2/\Z0=Z0/\ByteArray.empty=ByteArray.empty/\Z5 x (Z5 w (r/\Z5 q (Z5 p (Z5 o (Z5 n (Z5 m (l/\j/\Z5 i (h/\Z5 g (Z5 f (Z5 v (Z5 b3 (Z5 a2 (Z5 (decide (b=fe)) True False) False) False) False) False) False) False) False) False) False) False) False) False) False) False) False) (Z5 y (Z0=Z0/\Z0=Z0/\Z0=Z0/\Z5 u (Z0=Z0/\Z0=Z0/\Z0=Z0/\Z0=Z0/\b2/\Z0=Z0/\ByteArray.empty=ByteArray.empty/\Z5 x (Z5 w (r/\Z5 q (Z5 p (Z5 o (Z5 n (Z5 m (l/\j/\Z5 i (h/\Z5 g (Z5 f (Z5 v (Z5 b3 K False) False) False) False) False) False) False) False) False) False) False) False) False) False))/\
 (S=2->z)/\(S=180->J))
 (∃(k:ClS),
 let b:=ZJ k.t k.a0 k.a1 a;let u:=Yl Tg k a k.side=tg;
 Yy N k/\
 XH k/\
 (b=0->Z5 (a==a) (Z5 y (Z0=Z0/\Z0=Z0/\Z0=Z0/\Z5 Z (Z0=Z0/\Z0=Z0/\Z0=Z0/\Z0=Z0/\u/\Z0=Z0/\ByteArray.empty=ByteArray.empty/\Z5 x (Z5 w (r/\Z5 q (Z5 p (Z5 o (Z5 n (Z5 m (l/\j/\Z5 i (h/\Z5 g (Z5 f (Z5 v (Z5 Y (Z5 a2 (Z5 (decide (a=fe)) True False) False) False) False) False) False) False) False) False) False) False) False) False) False) False) False) (Z5 y (Z0=Z0/\Z0=Z0/\Z0=Z0/\Z5 Z (Z0=Z0/\Z0=Z0/\Z0=Z0/\Z0=Z0/\u/\Z0=Z0/\ByteArray.empty=ByteArray.empty/\Z5 x (Z5 w (r/\Z5 q (Z5 p (Z5 o (Z5 n (Z5 m (l/\j/\Z5 i (h/\Z5 g (Z5 f (Z5 v (Z5 Y K False) False) False) False) False) False) False) False) False) False) False) False) False) False))/\
 (b=2->z)/\(b=180->J)))))
 (Z5 D (Z0=Z0/\Z0=Z0/\Z0=Z0/\Z5 C (Z0=Z0/\Z0=Z0/\Z0=Z0/\Z0=Z0/\Z0=tg/\Z0=Z0/\ByteArray.empty=ByteArray.empty/\Z5 B (Z5 (decide (210=e)) A False) False) False) False))/\
 (SB s_1=false->z)) (by kernel_rfl) ?_
 conv=>zeta
 try simp only [ZD]
 try simp only [ZU]
 try simp only [ZM]
 try simp only [ZY]
 try simp only [Y0]
 try simp only [ZN]
 try simp only [true_and,and_true]
 have hm:=hk.made
 have hd:=Wi hm.t
 have hfe:=hk.fee_le
 have q3:=hm.a1
 have q4:=hm.sum
 have hlast:0<=(clP k sd false false).last/\(clP k sd false false).last<=1125899906842624:=by omega
 have hOff:XH (clP k sd false false):=⟨ht,by omega,hm.side⟩
 have hnx:=fun x=>Z7E (M:=M) (x:=x) hm.lm
 refine ⟨s,⟨rfl⟩,hl,fun hS=>⟨fun hK=> ?_,fun hK=> ?_⟩,fun hS=> ?_⟩
 rotate_left
 ·cases hR.symm.trans (Us hS (beq_eq_false_iff_ne.1 hK))
  and_intros<;>rfl
 ·cases hR.symm.trans (Qy hS)
  and_intros<;>rfl
 have hd:HdC SB (clP k sd false false) s:=⟨hS,beq_iff_eq.1 hK,rfl⟩
 refine ⟨(clP k sd false false),s,⟨rfl⟩,⟨rfl⟩,hOff,hl,fun hE=> ?_,fun hE=> ?_,fun hE=>⟨fun hT=> ?_,fun hT=> ?_⟩⟩
 ·cases hR.symm.trans (VA hd hE (by decide))
  and_intros<;>rfl
 ·cases hR.symm.trans (VA hd hE (by decide))
  and_intros<;>rfl
 ·cases hR.symm.trans (Z11 hd hE hT)
  and_intros<;>rfl
 have hx:=hR.symm.trans (Z2m ⟨hd,hE,hT⟩)
 have hno:¬((clP k sd false false).offers=true/\(clP k sd false false).last=s.amount):=fun h=>nomatch h.1
 refine ⟨fun hi=> ?_,fun hi=> ?_⟩
 ·have hi:¬((clP k sd false false).least<=s.amount/\s.amount<=(clP k sd false false).most):=ndT hi
  rw [if_neg hno,if_neg hi] at hx
  have hq2:¬((clP k sd false false).offers=true/\YL M (clP k sd false false) s.amount=(clP k sd false false).last):=fun h=>nomatch h.1
  refine ⟨(clP k sd false false),⟨rfl⟩,⟨hlast,hSB hS⟩,(clP k sd false false),⟨rfl⟩,hOff,fun hN=>⟨fun hq=> ?_,fun _=> ?_⟩,fun hN=> ?_,fun hN=> ?_⟩
  ·have:=hnx s.amount
   rw [beq_iff_eq.1 hq] at this
   omega
  ·rw [if_neg hq2,if_neg (fun q=>q hN)] at hx
   cases hx
   and_intros<;>rfl
  ·rw [if_neg hq2,if_pos (by rw [hN];decide),hN] at hx
   cases hx
   and_intros<;>rfl
  ·rw [if_neg hq2,if_pos (by rw [hN];decide),hN] at hx
   cases hx
   and_intros<;>rfl
 ·have hi:(clP k sd false false).least<=s.amount/\s.amount<=(clP k sd false false).most:=ndF hi
  refine ⟨(clP k sd false false),⟨rfl⟩,hOff,fun hN=>⟨fun _=> ?_,fun hq=> ?_⟩,fun hN=> ?_,fun hN=> ?_⟩
  all_goals simp_all
theorem Zp3 (SB:Zi->Bool) (M:Int->Int->Int) (Tg:LI->TxS->LI) (k:ClS) (s:Zi) (sd e kd am:Int) (tg:LI) (sy of:Bool) (la:Int) (ag:Bool) (fe:Int) (hk:Yc (clP k sd true false)) (ht:k.t.All) (hl:s.Len) (hSB:SB s=true->0<=s.amount/\s.amount<=1125899906842624) (hR:Y7 SB M Tg (clP k sd true false) s=⟨e,kd,am,tg,sy,of,la,ag,fe⟩):
  evF (ZhU SB M Tg) 20 13 [.ptr (some ⟨0,0,0,0,0⟩),.agg s.c] ⟨1,[(0,.flat (clT k sd true k.last false k.fee))]⟩ (ZH 1 (.ret (.tuple [.agg (sdC kd am tg),.bool sy,.int .i64 e])) 1 [(0,.flat (clT k sd of la ag fe))]):=by
 refine @Eq.mpr _ (let d:=s.t;let a:=s.amount;let c:=k.t;let L:=c.fund;let q5:=AV.arr u8 32 L;let I:=c.index;let Y:=AV.int i64 I;let H:=c.cap;let X:=AV.int i64 H;let W:=c.dust;let b9:=AV.int i64 W;let U:=c.fee;let b5:=AV.int i64 U;let S:=c.delay;let b3:=AV.int i64 S;let R:=c.k0;let b2:=AV.arr u8 32 R;let Q:=c.k1;let b1:=AV.arr u8 32 Q;let P:=[k.a0,k.a1];let b0:=AV.arr i64 2 P;let G:=k.least;let a9:=AV.int i64 G;let F:=k.most;let a8:=AV.int i64 F;let O:=AV.bool true;let E:=k.last;let a7:=AV.int i64 E;let a6:=AV.int i64 k.fee;let N:=[q5,Y,X,b9,b5,b3,b2,b1,AV.int i64 sd,b0,a9,a8,O,a7,AV.bool false,a6,O];let x:=decide (0=kd);let w:=decide (0=am);let v:=decide (false=sy);let u:=L=L;let r:=decide (I=I);let q:=decide (H=H);let p:=decide (W=W);let o:=decide (U=U);let n:=decide (S=S);let m:=R=R;let l:=Q=Q;let j:=decide (sd=sd);let i:=P=P;let h:=decide (G=G);let g:=decide (F=F);let f:=decide (true=of);let a5:=decide (E=la);let K:=Z5 (decide (false=ag)) (Z5 (decide (k.fee=fe)) True False) False;let z:=u/\Z5 r (Z5 q (Z5 p (Z5 o (Z5 n (m/\l/\Z5 j (i/\Z5 h (Z5 g (Z5 f (Z5 a5 K False) False) False) False) False) False) False) False) False) False;let D:=Z5 x (Z0=Z0/\Z0=Z0/\Z0=Z0/\Z5 w (Z0=Z0/\Z0=Z0/\Z0=Z0/\Z0=Z0/\Z0=tg/\Z0=Z0/\ByteArray.empty=ByteArray.empty/\Z5 v (Z5 (decide (2=e)) z False) False) False) False;let J:=Z5 x (Z0=Z0/\Z0=Z0/\Z0=Z0/\Z5 w (Z0=Z0/\Z0=Z0/\Z0=Z0/\Z0=Z0/\Z0=tg/\Z0=Z0/\ByteArray.empty=ByteArray.empty/\Z5 v (Z5 (decide (180=e)) z False) False) False) False;let y:=decide (0=e);let a4:=decide (true=ag);let a3:=Z5 a4 (Z5 (decide (a=fe)) True False) False;let C:=decide (13=kd);let B:=decide (true=sy);let a2:=decide (a=am);let Z:=decide (a=la);
 ∃(s_1:Zi),
 let b8:=[AV.int i64 s.kind,AV.arr u8 32 d.fund,AV.int i64 d.index,AV.int i64 d.cap,AV.int i64 d.dust,AV.int i64 d.fee,AV.int i64 d.delay,AV.arr u8 32 d.k0,AV.arr u8 32 d.k1,AV.int i64 s.reserve,AV.int i64 a,AV.arr u8 32 s.point,AV.arr u8 32 s.nxt,AV.arr u8 32 s.key,AV.arr u8 32 s.hash,AV.arr u8 32 s.tag,AV.arr u8 32 s.secret,AV.int i64 s.id,AV.int i64 s.number,AV.int i64 s.index,AV.int i64 s.expiry,AV.int i64 s.code,AV.str s.route];
 XI b8 s_1/\
 Zi.Len s_1/\
 (SB s_1=true->
 Z5 (s.kind==13)
 (∃(k:ClS),
 ∃(s:Zi),
 let V:=ZJ k.t k.a0 k.a1 s.amount;let b7:=Yl Tg k s.amount (1-k.side);
 Yy N k/\
 XI b8 s/\
 XH k/\
 Zi.Len s/\
 (V=2->D)/\
 (V=180->J)/\
 (V=0->
 (b7≠s.tag->Z5 x (Z0=Z0/\Z0=Z0/\Z0=Z0/\Z5 w (Z0=Z0/\Z0=Z0/\Z0=Z0/\Z0=Z0/\Z0=tg/\Z0=Z0/\ByteArray.empty=ByteArray.empty/\Z5 v (Z5 (decide (221=e)) z False) False) False) False)/\
 (b7=s.tag->
 Z5 (E==a) (Z5 x (Z0=Z0/\Z0=Z0/\Z0=Z0/\Z5 w (Z0=Z0/\Z0=Z0/\Z0=Z0/\Z0=Z0/\Z0=tg/\Z0=Z0/\ByteArray.empty=ByteArray.empty/\Z5 v (Z5 y (u/\Z5 r (Z5 q (Z5 p (Z5 o (Z5 n (m/\l/\Z5 j (i/\Z5 h (Z5 g (Z5 f (Z5 a5 a3 False) False) False) False) False) False) False) False) False) False) False) False) False) False)
 (Z5 (!decide (G<=a/\a<=F))
 (∃(k:ClS),
 let b:=YL M k a;let A:=decide (b=am);let b6:=decide (b=la);
 YJ [q5,Y,X,b9,b5,b3,b2,b1,AV.int i64 sd,b0,a9,a8,O,a7,AV.bool false,a6] k/\
 ((0<=k.last/\k.last<=1125899906842624)/\0<=a/\a<=1125899906842624)/\
 Z5 (b==E) (Z5 x (Z0=Z0/\Z0=Z0/\Z0=Z0/\Z5 w (Z0=Z0/\Z0=Z0/\Z0=Z0/\Z0=Z0/\Z0=tg/\Z0=Z0/\ByteArray.empty=ByteArray.empty/\Z5 v (Z5 (decide (252=e)) z False) False) False) False)
 (∃(k:ClS),
 let T:=ZJ k.t k.a0 k.a1 b;let b4:=Yl Tg k b k.side=tg;
 Yy N k/\
 XH k/\
 (T=0->Z5 (b==a) (Z5 C (Z0=Z0/\Z0=Z0/\Z0=Z0/\Z5 A (Z0=Z0/\Z0=Z0/\Z0=Z0/\Z0=Z0/\b4/\Z0=Z0/\ByteArray.empty=ByteArray.empty/\Z5 B (Z5 y (u/\Z5 r (Z5 q (Z5 p (Z5 o (Z5 n (m/\l/\Z5 j (i/\Z5 h (Z5 g (Z5 f (Z5 b6 (Z5 a4 (Z5 (decide (b=fe)) True False) False) False) False) False) False) False) False) False) False) False) False) False) False) False) False) (Z5 C (Z0=Z0/\Z0=Z0/\Z0=Z0/\Z5 A (Z0=Z0/\Z0=Z0/\Z0=Z0/\Z0=Z0/\b4/\Z0=Z0/\ByteArray.empty=ByteArray.empty/\Z5 B (Z5 y (u/\Z5 r (Z5 q (Z5 p (Z5 o (Z5 n (m/\l/\Z5 j (i/\Z5 h (Z5 g (Z5 f (Z5 b6 K False) False) False) False) False) False) False) False) False) False) False) False) False) False))/\
 (T=2->D)/\(T=180->J)))
 (∃(k:ClS),
 let b:=ZJ k.t k.a0 k.a1 a;let A:=Yl Tg k a k.side=tg;
 Yy N k/\
 XH k/\(b=0->Z5 (a==a) (Z5 C (Z0=Z0/\Z0=Z0/\Z0=Z0/\Z5 a2 (Z0=Z0/\Z0=Z0/\Z0=Z0/\Z0=Z0/\A/\Z0=Z0/\ByteArray.empty=ByteArray.empty/\Z5 B (Z5 y (u/\Z5 r (Z5 q (Z5 p (Z5 o (Z5 n (m/\l/\Z5 j (i/\Z5 h (Z5 g (Z5 f (Z5 Z a3 False) False) False) False) False) False) False) False) False) False) False) False) False) False) (Z5 C (Z0=Z0/\Z0=Z0/\Z0=Z0/\Z5 a2 (Z0=Z0/\Z0=Z0/\Z0=Z0/\Z0=Z0/\A/\Z0=Z0/\ByteArray.empty=ByteArray.empty/\Z5 B (Z5 y (u/\Z5 r (Z5 q (Z5 p (Z5 o (Z5 n (m/\l/\Z5 j (i/\Z5 h (Z5 g (Z5 f (Z5 Z K False) False) False) False) False) False) False) False) False) False) False) False) False) False))/\(b=2->D)/\(b=180->J))))))
 (Z5 x (Z0=Z0/\Z0=Z0/\Z0=Z0/\Z5 w (Z0=Z0/\Z0=Z0/\Z0=Z0/\Z0=Z0/\Z0=tg/\Z0=Z0/\ByteArray.empty=ByteArray.empty/\Z5 v (Z5 (decide (210=e)) z False) False) False) False))/\
 (SB s_1=false->D)) (by kernel_rfl) ?_
 conv=>zeta
 try simp only [ZD]
 try simp only [ZU]
 try simp only [ZM]
 try simp only [ZY]
 try simp only [Y0]
 try simp only [ZN]
 try simp only [true_and,and_true]
 have hm:=hk.made
 have hd:=Wi hm.t
 have hfe:=hk.fee_le
 have q3:=hm.a1
 have q4:=hm.sum
 have hlast:0<=(clP k sd true false).last/\(clP k sd true false).last<=1125899906842624:=by omega
 have hOff:XH (clP k sd true false):=⟨ht,by omega,hm.side⟩
 have hnx:=fun x=>Z7E (M:=M) (x:=x) hm.lm
 refine ⟨s,⟨rfl⟩,hl,fun hS=>⟨fun hK=> ?_,fun hK=> ?_⟩,fun hS=> ?_⟩
 rotate_left
 ·cases hR.symm.trans (Us hS (beq_eq_false_iff_ne.1 hK))
  and_intros<;>rfl
 ·cases hR.symm.trans (Qy hS)
  and_intros<;>rfl
 have hd:HdC SB (clP k sd true false) s:=⟨hS,beq_iff_eq.1 hK,rfl⟩
 refine ⟨(clP k sd true false),s,⟨rfl⟩,⟨rfl⟩,hOff,hl,fun hE=> ?_,fun hE=> ?_,fun hE=>⟨fun hT=> ?_,fun hT=> ?_⟩⟩
 ·cases hR.symm.trans (VA hd hE (by decide))
  and_intros<;>rfl
 ·cases hR.symm.trans (VA hd hE (by decide))
  and_intros<;>rfl
 ·cases hR.symm.trans (Z11 hd hE hT)
  and_intros<;>rfl
 have hx:=hR.symm.trans (Z2m ⟨hd,hE,hT⟩)
 refine ⟨fun hlt=> ?_,fun hlt=> ?_⟩
 ·rw [if_pos (⟨rfl,beq_iff_eq.1 hlt⟩:(clP k sd true false).offers=true/\(clP k sd true false).last=s.amount)] at hx
  cases hx
  and_intros<;>rfl
 have hno:¬((clP k sd true false).offers=true/\(clP k sd true false).last=s.amount):=fun h=>beq_eq_false_iff_ne.1 hlt h.2
 refine ⟨fun hi=> ?_,fun hi=> ?_⟩
 ·have hi:¬((clP k sd true false).least<=s.amount/\s.amount<=(clP k sd true false).most):=ndT hi
  rw [if_neg hno,if_neg hi] at hx
  refine ⟨(clP k sd true false),⟨rfl⟩,⟨hlast,hSB hS⟩,fun ha=> ?_,fun ha=> ?_⟩
  ·rw [if_pos (⟨rfl,beq_iff_eq.1 ha⟩:(clP k sd true false).offers=true/\YL M (clP k sd true false) s.amount=(clP k sd true false).last)] at hx
   cases hx
   and_intros<;>rfl
  have hq2:¬((clP k sd true false).offers=true/\YL M (clP k sd true false) s.amount=(clP k sd true false).last):=fun h=>beq_eq_false_iff_ne.1 ha h.2
  refine ⟨(clP k sd true false),⟨rfl⟩,hOff,fun hN=>⟨fun hq=> ?_,fun _=> ?_⟩,fun hN=> ?_,fun hN=> ?_⟩
  ·have:=hnx s.amount
   rw [beq_iff_eq.1 hq] at this
   omega
  ·rw [if_neg hq2,if_neg (fun q=>q hN)] at hx
   cases hx
   and_intros<;>rfl
  ·rw [if_neg hq2,if_pos (by rw [hN];decide),hN] at hx
   cases hx
   and_intros<;>rfl
  ·rw [if_neg hq2,if_pos (by rw [hN];decide),hN] at hx
   cases hx
   and_intros<;>rfl
 ·have hi:(clP k sd true false).least<=s.amount/\s.amount<=(clP k sd true false).most:=ndF hi
  refine ⟨(clP k sd true false),⟨rfl⟩,hOff,fun hN=>⟨fun _=> ?_,fun hq=> ?_⟩,fun hN=> ?_,fun hN=> ?_⟩
  all_goals simp_all
theorem Zp4 (SB:Zi->Bool) (M:Int->Int->Int) (Tg:LI->TxS->LI) (k:ClS) (s:Zi) (sd e kd am:Int) (of0:Bool) (tg:LI) (sy of:Bool) (la:Int) (ag:Bool) (fe:Int) (hl:s.Len) (hR:Y7 SB M Tg (clP k sd of0 true) s=⟨e,kd,am,tg,sy,of,la,ag,fe⟩):
  evF (ZhU SB M Tg) 20 13 [.ptr (some ⟨0,0,0,0,0⟩),.agg s.c] ⟨1,[(0,.flat (clT k sd of0 k.last true k.fee))]⟩ (ZH 1 (.ret (.tuple [.agg (sdC kd am tg),.bool sy,.int .i64 e])) 1 [(0,.flat (clT k sd of la ag fe))]):=by
 refine @Eq.mpr _ (let b:=s.t;let f:=decide (0=kd);let d:=decide (0=am);let c:=decide (false=sy);let a:=k.t;let l:=a.fund;let j:=a.index;let i:=a.cap;let h:=a.dust;let q:=a.fee;let p:=a.delay;let o:=a.k0;let n:=a.k1;let m:=[k.a0,k.a1];let g:=l=l/\Z5 (decide (j=j)) (Z5 (decide (i=i)) (Z5 (decide (h=h)) (Z5 (decide (q=q)) (Z5 (decide (p=p)) (o=o/\n=n/\Z5 (decide (sd=sd)) (m=m/\Z5 (decide (k.least=k.least)) (Z5 (decide (k.most=k.most)) (Z5 (decide (of0=of)) (Z5 (decide (k.last=la)) (Z5 (decide (true=ag)) (Z5 (decide (k.fee=fe)) True False) False) False) False) False) False) False) False) False) False) False) False;
 ∃(s_1:Zi),
 XI [AV.int i64 s.kind,AV.arr u8 32 b.fund,AV.int i64 b.index,AV.int i64 b.cap,AV.int i64 b.dust,AV.int i64 b.fee,AV.int i64 b.delay,AV.arr u8 32 b.k0,AV.arr u8 32 b.k1,AV.int i64 s.reserve,AV.int i64 s.amount,AV.arr u8 32 s.point,AV.arr u8 32 s.nxt,AV.arr u8 32 s.key,AV.arr u8 32 s.hash,AV.arr u8 32 s.tag,AV.arr u8 32 s.secret,AV.int i64 s.id,AV.int i64 s.number,AV.int i64 s.index,AV.int i64 s.expiry,AV.int i64 s.code,AV.str s.route] s_1/\
 Zi.Len s_1/\(SB s_1=true->Z5 (s.kind==13) (Z5 f (Z0=Z0/\Z0=Z0/\Z0=Z0/\Z5 d (Z0=Z0/\Z0=Z0/\Z0=Z0/\Z0=Z0/\Z0=tg/\Z0=Z0/\ByteArray.empty=ByteArray.empty/\Z5 c (Z5 (decide (250=e)) g False) False) False) False) (Z5 f (Z0=Z0/\Z0=Z0/\Z0=Z0/\Z5 d (Z0=Z0/\Z0=Z0/\Z0=Z0/\Z0=Z0/\Z0=tg/\Z0=Z0/\ByteArray.empty=ByteArray.empty/\Z5 c (Z5 (decide (210=e)) g False) False) False) False))/\(SB s_1=false->Z5 f (Z0=Z0/\Z0=Z0/\Z0=Z0/\Z5 d (Z0=Z0/\Z0=Z0/\Z0=Z0/\Z0=Z0/\Z0=tg/\Z0=Z0/\ByteArray.empty=ByteArray.empty/\Z5 c (Z5 (decide (2=e)) g False) False) False) False)) (by kernel_rfl) ?_
 conv=>zeta
 try simp only [ZD]
 try simp only [ZU]
 try simp only [ZM]
 try simp only [ZY]
 try simp only [Y0]
 try simp only [ZN]
 try simp only [true_and,and_true]
 refine ⟨s,⟨rfl⟩,hl,fun hS=>⟨fun hK=> ?_,fun hK=> ?_⟩,fun hS=> ?_⟩
 ·cases hR.symm.trans (ZaN hS (beq_iff_eq.1 hK) rfl)
  and_intros<;>rfl
 ·cases hR.symm.trans (Us hS (beq_eq_false_iff_ne.1 hK))
  and_intros<;>rfl
 ·cases hR.symm.trans (Qy hS)
  and_intros<;>rfl
theorem Z1z {k:ClS} {s:Zi} (hc:∀args h K,ZhQ SB args h K->Ze PP 35 args h fun o h'=>∃v,o=.ret v/\h'=h/\K v) (hk:Yc k) (ht:k.t.All) (hl:s.Len) (hSB:SB s=true->0<=s.amount/\s.amount<=1125899906842624) {r:HR} (hR:Y7 SB Xa Zy k s=r):
  Spec PP 13 [.ptr (some ⟨0,0,0,0,0⟩),.agg s.c] ⟨1,[(0,.flat (clT k k.side k.offers k.last k.agrees k.fee))]⟩ (.ret (.tuple [.agg (sdC r.kd r.am r.tg),.bool r.sy,.int .i64 r.e])) 1 [(0,.flat (clT k k.side r.of r.la r.ag r.fe))]:=by
 have hE:(ZhU SB Xa Zy).Ok:=Zb.withP_ok (Zb.withP_ok (Zb.withF_ok (Zb.withF_ok (Zb.withP_ok Zm hc) Zku) Z6j) Zf4) Zkt
 obtain ⟨e,kd,am,tg,sy,of,la,ag,fe⟩:=r
 obtain ⟨t,sd,a0,a1,le,mo,o0,l0,g0,f0⟩:=k
 cases g0 with
 | true=>exact .evM hE (Zp4 SB Xa Zy ⟨t,sd,a0,a1,le,mo,o0,l0,true,f0⟩ s sd e kd am o0 tg sy of la ag fe hl hR)
 | false=>cases o0 with
  | true=>exact .evM hE (Zp3 SB Xa Zy ⟨t,sd,a0,a1,le,mo,true,l0,false,f0⟩ s sd e kd am tg sy of la ag fe hk ht hl hSB hR)
  | false=>exact .evM hE (Zp2 SB Xa Zy ⟨t,sd,a0,a1,le,mo,false,l0,false,f0⟩ s sd e kd am tg sy of la ag fe hk ht hl hSB hR)
def Zf8 (Tg:LI->TxS->LI):ZI:=fun args h K=>Zz none h true 40 args fun a=>match a with
 | [.agg cs,.int .i64 fee,.int .i64 sd]=>∃k,YJ cs k/\(k.t.All/\k.a0<9223372036854775808/\(sd=0\/sd=1))/\
  (ZJ k.t k.a0 k.a1 fee=2->K (.tuple [.agg [.arr .u8 32 Z0],.int .i64 2]))/\(ZJ k.t k.a0 k.a1 fee=180->K (.tuple [.agg [.arr .u8 32 Z0],.int .i64 180]))/\
  (ZJ k.t k.a0 k.a1 fee=0->K (.tuple [.agg [.arr .u8 32 (Yl Tg k fee sd)],.int .i64 0]))
 | _=>False
theorem Z7F (args:List AV) (h:Z8) (K:AV->Prop) (hl:Zf8 Zy args h K):Ze PP 70 args h fun o h'=>∃v,o=.ret v/\h'=h/\K v:=by
 refine Zs.psumm (d:=40) (Zk _ _ _ _ _ hl fun a ha=> ?_)
 split at ha
 ·obtain ⟨k,⟨rfl⟩,⟨ht,ha,hs⟩,h1,h2,h3⟩:=ha
  rename_i fee sd
  have hK:K (.tuple [.agg [.arr .u8 32 (Yl Wz k fee sd)],.int .i64 (ZJ k.t k.a0 k.a1 fee)]):=by
   rw [Z6h ht]
   grind [Z6i,WN]
  rcases hs with rfl|rfl
  ·exact ⟨_,.evM ZaK (Znt _ Wz k _ _ _ rfl ht ha rfl rfl),fun _=>rfl,hK⟩
  ·exact ⟨_,.evM ZaK (Znu _ Wz k _ _ _ rfl ht ha rfl rfl),fun _=>rfl,hK⟩
 simp_all
def rtS (SB:Zi->Bool):ZI:=fun args _ K=>match args with
 | [.agg cs]=>∃s,XI cs s/\s.Len/\(SB s=true->K (.bool true))/\(SB s=false->K (.bool false))
 | _=>False
def clU (k:ClS) (sd:Int) (o:Bool) (la:Int) (g:Bool) (fe:Int):List AV:=[.arr .u8 32 k.t.fund,.int .i64 k.t.index,.int .i64 k.t.cap,.int .i64 k.t.dust,.int .i64 k.t.fee,.int .i64 k.t.delay,.arr .u8 32 k.t.k0,.arr .u8 32 k.t.k1,.int .i64 sd,.arr .i64 2 [k.a0,k.a1],.int .i64 k.least,.int .i64 k.most,.bool o,.int .i64 la,.bool g,.int .i64 fe]
theorem Z7G (y lo hi:Int):(if (if y<hi then y else hi)>lo then (if y<hi then y else hi) else lo)=Qf y lo hi:=by
 unfold Qf
 split<;>split<;>(try split)<;>(try split)<;>omega
theorem nbT {a b:LI} (h:(!a==b)=true):a≠b:=by simp_all
theorem nbF {a b:LI} (h:(!a==b)=false):a=b:=by simp_all
noncomputable def ZhV (SB:Zi->Bool) (M:Int->Int->Int) (Tg:LI->TxS->LI):Zb:=((G0.withP 126 (rtS SB)).withP 70 (Zf8 Tg)).withP 127 (Zca M)
theorem Zp5 (SB:Zi->Bool) (M:Int->Int->Int) (Tg:LI->TxS->LI) (k:ClS) (s:Zi) (sd e kd am:Int) (tg:LI) (sy of:Bool) (la:Int) (ag:Bool) (fe:Int) (hT32:∀a t,(Tg a t).length=32) (hk:Yc (clP k sd false false)) (ht:k.t.All) (hl:s.Len) (hSB:SB s=true->0<=s.amount/\s.amount<=1125899906842624) (hR:Y7 SB M Tg (clP k sd false false) s=⟨e,kd,am,tg,sy,of,la,ag,fe⟩):
  evF (ZhV SB M Tg) 20 63 [.agg (clU k sd false k.last false k.fee),.agg s.c] ⟨0,[]⟩ (ZH 0 (.ret (.tuple [.agg (clU k sd of la ag fe),.agg (sdC kd am tg),.bool sy,.int .i64 e])) 0 []):=by
 refine @Eq.mpr _ (let r:=s.t;let a:=s.amount;let Q:=s.tag;let f:=k.t;let E:=f.fund;let d:=E=E;let D:=f.index;let c:=decide (D=D);let C:=f.cap;let q:=decide (C=C);let L:=f.dust;let p:=decide (L=L);let K:=f.fee;let o:=decide (K=K);let J:=f.delay;let n:=decide (J=J);let I:=f.k0;let m:=I=I;let H:=f.k1;let l:=H=H;let j:=decide (sd=sd);let G:=[k.a0,k.a1];let i:=G=G;let x:=k.least;let h:=decide (x=x);let w:=k.most;let g:=decide (w=w);let B:=decide (false=of);let A:=decide (k.last=la);let v:=decide (false=ag);let u:=decide (k.fee=fe);let z:=decide (0=kd);let y:=decide (0=am);let F:=decide (false=sy);let P:=wrap i64 (1-sd);let a4:=Z5 (decide (2=e)) True False;let O:=d/\Z5 c (Z5 q (Z5 p (Z5 o (Z5 n (m/\l/\Z5 j (i/\Z5 h (Z5 g (Z5 B (Z5 A (Z5 v (Z5 u (Z5 z (Z0=Z0/\Z0=Z0/\Z0=Z0/\Z5 y (Z0=Z0/\Z0=Z0/\Z0=Z0/\Z0=Z0/\Z0=tg/\Z0=Z0/\ByteArray.empty=ByteArray.empty/\Z5 F a4 False) False) False) False) False) False) False) False) False) False) False) False) False) False) False;let a3:=Z5 (decide (180=e)) True False;let a2:=decide (a=a);let Z:=decide (true=of);let Y:=decide (13=kd);let X:=Z5 (decide (0=e)) True False;let W:=if a<w then a else w;let b:=if W>x then W else x;let V:=(∃(k_1:ClS),
 YJ [AV.arr u8 32 E,AV.int i64 D,AV.int i64 C,AV.int i64 L,AV.int i64 K,AV.int i64 J,AV.arr u8 32 I,AV.arr u8 32 H,AV.int i64 sd,AV.arr i64 2 G,AV.int i64 x,AV.int i64 w,AV.bool false,AV.int i64 k.last,AV.bool false,AV.int i64 k.fee] k_1/\
 (Zj.All k_1.t/\k_1.a0<9223372036854775808/\(sd=0\/sd=1))/\
 (ZJ k_1.t k_1.a0 k_1.a1 b=2->Z0=Z0/\Z0=Z0/\Z0=Z0/\Z0=Z0/\Z0=Z0/\Z0=Z0/\Z0=Z0/\Z0=Z0/\Z0=Z0/\ByteArray.empty=ByteArray.empty/\d/\Z5 c (Z5 q (Z5 p (Z5 o (Z5 n (m/\l/\Z5 j (i/\Z5 h (Z5 g (Z5 B (Z5 A (Z5 v (Z5 u (Z5 z (Z0=Z0/\Z0=Z0/\Z0=Z0/\Z5 y (Z0=Z0/\Z0=Z0/\Z0=Z0/\Z0=Z0/\Z0=tg/\Z0=Z0/\ByteArray.empty=ByteArray.empty/\Z5 (decide (false=sy)) a4 False) False) False) False) False) False) False) False) False) False) False) False) False) False) False)/\
 (ZJ k_1.t k_1.a0 k_1.a1 b=180->Z0=Z0/\Z0=Z0/\Z0=Z0/\Z0=Z0/\Z0=Z0/\Z0=Z0/\Z0=Z0/\Z0=Z0/\Z0=Z0/\ByteArray.empty=ByteArray.empty/\d/\Z5 c (Z5 q (Z5 p (Z5 o (Z5 n (m/\l/\Z5 j (i/\Z5 h (Z5 g (Z5 B (Z5 A (Z5 v (Z5 u (Z5 z (Z0=Z0/\Z0=Z0/\Z0=Z0/\Z5 y (Z0=Z0/\Z0=Z0/\Z0=Z0/\Z0=Z0/\Z0=tg/\Z0=Z0/\ByteArray.empty=ByteArray.empty/\Z5 (decide (false=sy)) a3 False) False) False) False) False) False) False) False) False) False) False) False) False) False) False)/\
 (ZJ k_1.t k_1.a0 k_1.a1 b=0->Yl Tg k_1 b sd=Yl Tg k_1 b sd/\Z0=Z0/\Z0=Z0/\Z0=Z0/\Z5 (decide (b=b)) (Z0=Z0/\Z0=Z0/\Z0=Z0/\Z0=Z0/\Yl Tg k_1 b sd=Yl Tg k_1 b sd/\Z0=Z0/\ByteArray.empty=ByteArray.empty/\d/\Z5 c (Z5 q (Z5 p (Z5 o (Z5 n (m/\l/\Z5 j (i/\Z5 h (Z5 g (Z5 Z (Z5 (decide (b=la)) (Z5 v (Z5 u (Z5 Y (Z0=Z0/\Z0=Z0/\Z0=Z0/\Z5 (decide (b=am)) (Z0=Z0/\Z0=Z0/\Z0=Z0/\Z0=Z0/\Yl Tg k_1 b sd=tg/\Z0=Z0/\ByteArray.empty=ByteArray.empty/\Z5 (decide (true=sy)) X False) False) False) False) False) False) False) False) False) False) False) False) False) False) False) False));
 ∃(s_1:Zi),
 XI [AV.int i64 s.kind,AV.arr u8 32 r.fund,AV.int i64 r.index,AV.int i64 r.cap,AV.int i64 r.dust,AV.int i64 r.fee,AV.int i64 r.delay,AV.arr u8 32 r.k0,AV.arr u8 32 r.k1,AV.int i64 s.reserve,AV.int i64 a,AV.arr u8 32 s.point,AV.arr u8 32 s.nxt,AV.arr u8 32 s.key,AV.arr u8 32 s.hash,AV.arr u8 32 Q,AV.arr u8 32 s.secret,AV.int i64 s.id,AV.int i64 s.number,AV.int i64 s.index,AV.int i64 s.expiry,AV.int i64 s.code,AV.str s.route] s_1/\
 Zi.Len s_1/\
 (SB s_1=true->
 Z5 (s.kind !=13) (d/\Z5 c (Z5 q (Z5 p (Z5 o (Z5 n (m/\l/\Z5 j (i/\Z5 h (Z5 g (Z5 B (Z5 A (Z5 v (Z5 u (Z5 z (Z0=Z0/\Z0=Z0/\Z0=Z0/\Z5 y (Z0=Z0/\Z0=Z0/\Z0=Z0/\Z0=Z0/\Z0=tg/\Z0=Z0/\ByteArray.empty=ByteArray.empty/\Z5 F (Z5 (decide (210=e)) True False) False) False) False) False) False) False) False) False) False) False) False) False) False) False) False)
 (∃(k_1:ClS),
 let U:=[AV.arr u8 32 E,AV.int i64 D,AV.int i64 C,AV.int i64 L,AV.int i64 K,AV.int i64 J,AV.arr u8 32 I,AV.arr u8 32 H,AV.int i64 sd,AV.arr i64 2 G,AV.int i64 x,AV.int i64 w,AV.bool false,AV.int i64 k.last,AV.bool false,AV.int i64 k.fee];let N:=ZJ k_1.t k_1.a0 k_1.a1 a;let T:=d/\Z5 c (Z5 q (Z5 p (Z5 o (Z5 n (m/\l/\Z5 j (i/\Z5 h (Z5 g (Z5 B (Z5 A (Z5 v (Z5 u (Z5 z (Z0=Z0/\Z0=Z0/\Z0=Z0/\Z5 y (Z0=Z0/\Z0=Z0/\Z0=Z0/\Z0=Z0/\Z0=tg/\Z0=Z0/\ByteArray.empty=ByteArray.empty/\Z5 F a3 False) False) False) False) False) False) False) False) False) False) False) False) False) False) False;let S:=Yl Tg k_1 a P;
 YJ U k_1/\
 (Zj.All k_1.t/\k_1.a0<9223372036854775808/\(P=0\/P=1))/\
 (N=2->O)/\
 (N=180->T)/\
 (N=0->
 Z5 (decide (S.length=32/\Q.length=32))
 (Z5 (!S==Q) (d/\Z5 c (Z5 q (Z5 p (Z5 o (Z5 n (m/\l/\Z5 j (i/\Z5 h (Z5 g (Z5 B (Z5 A (Z5 v (Z5 u (Z5 z (Z0=Z0/\Z0=Z0/\Z0=Z0/\Z5 y (Z0=Z0/\Z0=Z0/\Z0=Z0/\Z0=Z0/\Z0=tg/\Z0=Z0/\ByteArray.empty=ByteArray.empty/\Z5 F (Z5 (decide (221=e)) True False) False) False) False) False) False) False) False) False) False) False) False) False) False) False) False)
 (Z5 (decide (a>=x))
 (Z5 (decide (a<=w))
 (∃(k:ClS),
 let M:=ZJ k.t k.a0 k.a1 a;let R:=Yl Tg k a sd;let a5:=R=R;
 YJ U k/\(Zj.All k.t/\k.a0<9223372036854775808/\(sd=0\/sd=1))/\(M=2->O)/\(M=180->T)/\(M=0->a5/\Z5 a2 (Z0=Z0/\Z0=Z0/\Z0=Z0/\Z5 a2 (Z0=Z0/\Z0=Z0/\Z0=Z0/\Z0=Z0/\a5/\Z0=Z0/\ByteArray.empty=ByteArray.empty/\d/\Z5 c (Z5 q (Z5 p (Z5 o (Z5 n (m/\l/\Z5 j (i/\Z5 h (Z5 g (Z5 Z (Z5 (decide (a=la)) (Z5 (decide (true=ag)) (Z5 (decide (a=fe)) (Z5 Y (Z0=Z0/\Z0=Z0/\Z0=Z0/\Z5 (decide (a=am)) (Z0=Z0/\Z0=Z0/\Z0=Z0/\Z0=Z0/\R=tg/\Z0=Z0/\ByteArray.empty=ByteArray.empty/\Z5 (decide (true=sy)) X False) False) False) False) False) False) False) False) False) False) False) False) False) False) False) False) False))
 V)
 V))
 False)))/\
 (SB s_1=false->O)) (by kernel_rfl) ?_
 conv=>zeta
 try simp only [ZD]
 try simp only [ZU]
 try simp only [ZM]
 try simp only [ZY]
 try simp only [Y0]
 try simp only [ZN]
 try simp only [true_and,and_true]
 have hm:=hk.made
 have hdd:=Wi hm.t
 have q3:=hm.a1
 have q4:=hm.sum
 have hsd:sd=0\/sd=1:=hm.side
 have hw:i64.wrap (1-sd)=1-sd:=w64 (by omega)
 have ha0:k.a0<9223372036854775808:=by
  grind [clP]
 have hOff:k.t.All/\k.a0<9223372036854775808/\(sd=0\/sd=1):=⟨ht,ha0,hsd⟩
 simp only [Z7G,hw]
 refine ⟨s,⟨rfl⟩,hl,fun hS=>⟨fun hK=> ?_,fun hK=> ?_⟩,fun hS=> ?_⟩
 rotate_left
 rotate_left
 ·cases hR.symm.trans (Qy hS)
  and_intros<;>rfl
 ·cases hR.symm.trans (Us hS (bne_iff_ne.1 hK))
  and_intros<;>rfl
 have hd:HdC SB (clP k sd false false) s:=⟨hS,bne_eq_false_iff_eq.1 hK,rfl⟩
 have hv:(Yl Tg (clP k sd false false) s.amount (1-sd)).length=32:=by
  unfold Yl
  split
  ·simp_all
  ·rfl
 refine ⟨(clP k sd false false),⟨rfl⟩,⟨ht,ha0,by omega⟩,fun hE=> ?_,fun hE=> ?_,fun hE=>⟨⟨hv,hl.h7⟩,fun hT=> ?_,fun hT=> ?_⟩⟩
 ·cases hR.symm.trans (VA hd hE (by decide))
  and_intros<;>rfl
 ·cases hR.symm.trans (VA hd hE (by decide))
  and_intros<;>rfl
 ·cases hR.symm.trans (Z11 hd hE (nbT hT))
  and_intros<;>rfl
 have hx:=hR.symm.trans (Z2m ⟨hd,hE,nbF hT⟩)
 have hno:¬((clP k sd false false).offers=true/\(clP k sd false false).last=s.amount):=fun h=>nomatch h.1
 refine ⟨fun h1=>⟨fun h2=> ?_,fun h2=> ?_⟩,fun h1=> ?_⟩
 ·have hi:(clP k sd false false).least<=s.amount/\s.amount<=(clP k sd false false).most:=⟨h1,h2⟩
  rw [if_neg hno,if_pos hi] at hx
  refine ⟨(clP k sd false false),⟨rfl⟩,hOff,fun hN=> ?_,fun hN=> ?_,fun hN=> ?_⟩
  ·omega
  ·omega
  ·cases hx
   and_intros<;>rfl
 ·have hi:¬((clP k sd false false).least<=s.amount/\s.amount<=(clP k sd false false).most):=fun h=>absurd h.2 h2
  rw [if_neg hno,if_neg hi] at hx
  have hq2:¬((clP k sd false false).offers=true/\YL M (clP k sd false false) s.amount=(clP k sd false false).last):=fun h=>nomatch h.1
  refine ⟨(clP k sd false false),⟨rfl⟩,hOff,fun hN=> ?_,fun hN=> ?_,fun hN=> ?_⟩
  all_goals replace hN:ZJ (clP k sd false false).t (clP k sd false false).a0 (clP k sd false false).a1 (YL M (clP k sd false false) s.amount)=_:=hN
  ·rw [if_neg hq2,if_pos (by rw [hN];decide),hN] at hx
   cases hx
   and_intros<;>rfl
  ·rw [if_neg hq2,if_pos (by rw [hN];decide),hN] at hx
   cases hx
   and_intros<;>rfl
  ·rw [if_neg hq2,if_neg (fun q=>q hN)] at hx
   cases hx
   and_intros<;>rfl
 ·have hi:¬((clP k sd false false).least<=s.amount/\s.amount<=(clP k sd false false).most):=fun h=>absurd h.1 h1
  rw [if_neg hno,if_neg hi] at hx
  have hq2:¬((clP k sd false false).offers=true/\YL M (clP k sd false false) s.amount=(clP k sd false false).last):=fun h=>nomatch h.1
  refine ⟨(clP k sd false false),⟨rfl⟩,hOff,fun hN=> ?_,fun hN=> ?_,fun hN=> ?_⟩
  all_goals replace hN:ZJ (clP k sd false false).t (clP k sd false false).a0 (clP k sd false false).a1 (YL M (clP k sd false false) s.amount)=_:=hN
  ·rw [if_neg hq2,if_pos (by rw [hN];decide),hN] at hx
   cases hx
   and_intros<;>rfl
  ·rw [if_neg hq2,if_pos (by rw [hN];decide),hN] at hx
   cases hx
   and_intros<;>rfl
  ·rw [if_neg hq2,if_neg (fun q=>q hN)] at hx
   cases hx
   and_intros<;>rfl
theorem Zp6 (SB:Zi->Bool) (M:Int->Int->Int) (Tg:LI->TxS->LI) (k:ClS) (s:Zi) (sd e kd am:Int) (tg:LI) (sy of:Bool) (la:Int) (ag:Bool) (fe:Int) (hT32:∀a t,(Tg a t).length=32) (hk:Yc (clP k sd true false)) (ht:k.t.All) (hl:s.Len) (hSB:SB s=true->0<=s.amount/\s.amount<=1125899906842624) (hR:Y7 SB M Tg (clP k sd true false) s=⟨e,kd,am,tg,sy,of,la,ag,fe⟩):
  evF (ZhV SB M Tg) 20 63 [.agg (clU k sd true k.last false k.fee),.agg s.c] ⟨0,[]⟩ (ZH 0 (.ret (.tuple [.agg (clU k sd of la ag fe),.agg (sdC kd am tg),.bool sy,.int .i64 e])) 0 []):=by
 refine @Eq.mpr _ (let A:=s.t;let a:=s.amount;let T:=s.tag;let r:=k.t;let G:=r.fund;let d:=G=G;let F:=r.index;let c:=decide (F=F);let E:=r.cap;let q:=decide (E=E);let N:=r.dust;let p:=decide (N=N);let L:=r.fee;let o:=decide (L=L);let K:=r.delay;let n:=decide (K=K);let J:=r.k0;let m:=J=J;let I:=r.k1;let l:=I=I;let j:=decide (sd=sd);let H:=[k.a0,k.a1];let i:=H=H;let C:=k.least;let h:=decide (C=C);let B:=k.most;let g:=decide (B=B);let f:=decide (true=of);let z:=k.last;let y:=decide (z=la);let x:=decide (false=ag);let w:=decide (k.fee=fe);let v:=decide (0=kd);let u:=decide (0=am);let D:=decide (false=sy);let S:=wrap i64 (1-sd);let a7:=Z7 (2=e) True;let R:=d/\Z6 c (Z6 q (Z6 p (Z6 o (Z6 n (m/\l/\Z6 j (i/\Z6 h (Z6 g (Z6 f (Z6 y (Z6 x (Z6 w (Z6 v (Z0=Z0/\Z0=Z0/\Z0=Z0/\Z6 u (Z0=Z0/\Z0=Z0/\Z0=Z0/\Z0=Z0/\Z0=tg/\Z0=Z0/\ByteArray.empty=ByteArray.empty/\Z6 D a7))))))))))))));let a6:=Z7 (180=e) True;let Q:=decide (a=a);let a5:=decide (true=ag);let a4:=decide (a=fe);let P:=Z7 (0=e) True;let a3:=decide (13=kd);let a2:=M z a;let Z:=if a2<B then a2 else B;let b:=if Z>C then Z else C;let Y:=( ((0<=z/\z<=1125899906842624)/\0<=a/\a<=1125899906842624)/\
 Z5 (b==z) (d/\Z6 c (Z6 q (Z6 p (Z6 o (Z6 n (m/\l/\Z6 j (i/\Z6 h (Z6 g (Z6 f (Z6 y (Z6 x (Z6 w (Z6 v (Z0=Z0/\Z0=Z0/\Z0=Z0/\Z6 u (Z0=Z0/\Z0=Z0/\Z0=Z0/\Z0=Z0/\Z0=tg/\Z0=Z0/\ByteArray.empty=ByteArray.empty/\Z6 D (Z7 (252=e) True)))))))))))))))) (∃(k_1:ClS),
 YJ [AV.arr u8 32 G,AV.int i64 F,AV.int i64 E,AV.int i64 N,AV.int i64 L,AV.int i64 K,AV.arr u8 32 J,AV.arr u8 32 I,AV.int i64 sd,AV.arr i64 2 H,AV.int i64 C,AV.int i64 B,AV.bool true,AV.int i64 z,AV.bool false,AV.int i64 k.fee] k_1/\
 (Zj.All k_1.t/\k_1.a0<9223372036854775808/\(sd=0\/sd=1))/\
 (ZJ k_1.t k_1.a0 k_1.a1 b=2->Z0=Z0/\Z0=Z0/\Z0=Z0/\Z0=Z0/\Z0=Z0/\Z0=Z0/\Z0=Z0/\Z0=Z0/\Z0=Z0/\ByteArray.empty=ByteArray.empty/\d/\Z6 c (Z6 q (Z6 p (Z6 o (Z6 n (m/\l/\Z6 j (i/\Z6 h (Z6 g (Z6 f (Z6 y (Z6 x (Z6 w (Z6 v (Z0=Z0/\Z0=Z0/\Z0=Z0/\Z6 u (Z0=Z0/\Z0=Z0/\Z0=Z0/\Z0=Z0/\Z0=tg/\Z0=Z0/\ByteArray.empty=ByteArray.empty/\Z7 (false=sy) a7)))))))))))))))/\
 (ZJ k_1.t k_1.a0 k_1.a1 b=180->Z0=Z0/\Z0=Z0/\Z0=Z0/\Z0=Z0/\Z0=Z0/\Z0=Z0/\Z0=Z0/\Z0=Z0/\Z0=Z0/\ByteArray.empty=ByteArray.empty/\d/\Z6 c (Z6 q (Z6 p (Z6 o (Z6 n (m/\l/\Z6 j (i/\Z6 h (Z6 g (Z6 f (Z6 y (Z6 x (Z6 w (Z6 v (Z0=Z0/\Z0=Z0/\Z0=Z0/\Z6 u (Z0=Z0/\Z0=Z0/\Z0=Z0/\Z0=Z0/\Z0=tg/\Z0=Z0/\ByteArray.empty=ByteArray.empty/\Z7 (false=sy) a6)))))))))))))))/\
 (ZJ k_1.t k_1.a0 k_1.a1 b=0->Yl Tg k_1 b sd=Yl Tg k_1 b sd/\Z0=Z0/\Z0=Z0/\Z0=Z0/\Z7 (b=b) (Z0=Z0/\Z0=Z0/\Z0=Z0/\Z0=Z0/\Yl Tg k_1 b sd=Yl Tg k_1 b sd/\Z0=Z0/\ByteArray.empty=ByteArray.empty/\d/\Z6 c (Z6 q (Z6 p (Z6 o (Z6 n (m/\l/\Z6 j (i/\Z6 h (Z6 g (Z6 f (Z7 (b=la) (Z6 x (Z6 w (Z6 a3 (Z0=Z0/\Z0=Z0/\Z0=Z0/\Z7 (b=am) (Z0=Z0/\Z0=Z0/\Z0=Z0/\Z0=Z0/\Yl Tg k_1 b sd=tg/\Z0=Z0/\ByteArray.empty=ByteArray.empty/\Z7 (true=sy) P))))))))))))))))));
 ∃(s_1:Zi),
 XI [AV.int i64 s.kind,AV.arr u8 32 A.fund,AV.int i64 A.index,AV.int i64 A.cap,AV.int i64 A.dust,AV.int i64 A.fee,AV.int i64 A.delay,AV.arr u8 32 A.k0,AV.arr u8 32 A.k1,AV.int i64 s.reserve,AV.int i64 a,AV.arr u8 32 s.point,AV.arr u8 32 s.nxt,AV.arr u8 32 s.key,AV.arr u8 32 s.hash,AV.arr u8 32 T,AV.arr u8 32 s.secret,AV.int i64 s.id,AV.int i64 s.number,AV.int i64 s.index,AV.int i64 s.expiry,AV.int i64 s.code,AV.str s.route] s_1/\
 Zi.Len s_1/\
 (SB s_1=true->
 Z5 (s.kind !=13) (d/\Z6 c (Z6 q (Z6 p (Z6 o (Z6 n (m/\l/\Z6 j (i/\Z6 h (Z6 g (Z6 f (Z6 y (Z6 x (Z6 w (Z6 v (Z0=Z0/\Z0=Z0/\Z0=Z0/\Z6 u (Z0=Z0/\Z0=Z0/\Z0=Z0/\Z0=Z0/\Z0=tg/\Z0=Z0/\ByteArray.empty=ByteArray.empty/\Z6 D (Z7 (210=e) True)))))))))))))))) (∃(k_1:ClS),
 let X:=[AV.arr u8 32 G,AV.int i64 F,AV.int i64 E,AV.int i64 N,AV.int i64 L,AV.int i64 K,AV.arr u8 32 J,AV.arr u8 32 I,AV.int i64 sd,AV.arr i64 2 H,AV.int i64 C,AV.int i64 B,AV.bool true,AV.int i64 z,AV.bool false,AV.int i64 k.fee];let O:=ZJ k_1.t k_1.a0 k_1.a1 a;let W:=d/\Z6 c (Z6 q (Z6 p (Z6 o (Z6 n (m/\l/\Z6 j (i/\Z6 h (Z6 g (Z6 f (Z6 y (Z6 x (Z6 w (Z6 v (Z0=Z0/\Z0=Z0/\Z0=Z0/\Z6 u (Z0=Z0/\Z0=Z0/\Z0=Z0/\Z0=Z0/\Z0=tg/\Z0=Z0/\ByteArray.empty=ByteArray.empty/\Z6 D a6))))))))))))));let a9:=Yl Tg k_1 a S;
 YJ X k_1/\
 (Zj.All k_1.t/\k_1.a0<9223372036854775808/\(S=0\/S=1))/\
 (O=2->R)/\
 (O=180->W)/\
 (O=0->
 Z7 (a9.length=32/\T.length=32) (Z5 (!a9==T) (d/\Z6 c (Z6 q (Z6 p (Z6 o (Z6 n (m/\l/\Z6 j (i/\Z6 h (Z6 g (Z6 f (Z6 y (Z6 x (Z6 w (Z6 v (Z0=Z0/\Z0=Z0/\Z0=Z0/\Z6 u (Z0=Z0/\Z0=Z0/\Z0=Z0/\Z0=Z0/\Z0=tg/\Z0=Z0/\ByteArray.empty=ByteArray.empty/\Z6 D (Z7 (221=e) True)))))))))))))))) (Z5 (z==a) (Z6 Q (d/\Z6 c (Z6 q (Z6 p (Z6 o (Z6 n (m/\l/\Z6 j (i/\Z6 h (Z6 g (Z6 f (Z6 y (Z6 a5 (Z6 a4 (Z6 v (Z0=Z0/\Z0=Z0/\Z0=Z0/\Z6 u (Z0=Z0/\Z0=Z0/\Z0=Z0/\Z0=Z0/\Z0=tg/\Z0=Z0/\ByteArray.empty=ByteArray.empty/\Z6 D P)))))))))))))))) (Z5 (decide (a>=C)) (Z5 (decide (a<=B)) (∃(k:ClS),
 let V:=ZJ k.t k.a0 k.a1 a;let U:=Yl Tg k a sd;let a8:=U=U;
 YJ X k/\(Zj.All k.t/\k.a0<9223372036854775808/\(sd=0\/sd=1))/\(V=2->R)/\(V=180->W)/\(V=0->a8/\Z6 Q (Z0=Z0/\Z0=Z0/\Z0=Z0/\Z6 Q (Z0=Z0/\Z0=Z0/\Z0=Z0/\Z0=Z0/\a8/\Z0=Z0/\ByteArray.empty=ByteArray.empty/\d/\Z6 c (Z6 q (Z6 p (Z6 o (Z6 n (m/\l/\Z6 j (i/\Z6 h (Z6 g (Z6 f (Z7 (a=la) (Z6 a5 (Z6 a4 (Z6 a3 (Z0=Z0/\Z0=Z0/\Z0=Z0/\Z7 (a=am) (Z0=Z0/\Z0=Z0/\Z0=Z0/\Z0=Z0/\U=tg/\Z0=Z0/\ByteArray.empty=ByteArray.empty/\Z7 (true=sy) P)))))))))))))))))) Y) Y))))))/\
 (SB s_1=false->R)) (by kernel_rfl) ?_
 conv=>zeta
 try simp only [vcA]
 try simp only [vcB]
 try simp only [vcC]
 have hm:=hk.made
 have hdd:=Wi hm.t
 have hfe:=hk.fee_le
 have q3:=hm.a1
 have q4:=hm.sum
 have hsd:sd=0\/sd=1:=hm.side
 have hw:i64.wrap (1-sd)=1-sd:=w64 (by omega)
 have hlast:0<=k.last/\k.last<=1125899906842624:=by
  grind [clP]
 have ha0:k.a0<9223372036854775808:=by
  grind [clP]
 have hOff:k.t.All/\k.a0<9223372036854775808/\(sd=0\/sd=1):=⟨ht,ha0,hsd⟩
 simp only [Z7G,hw]
 refine ⟨s,⟨rfl⟩,hl,fun hS=>⟨fun hK=> ?_,fun hK=> ?_⟩,fun hS=> ?_⟩
 rotate_left
 rotate_left
 ·cases hR.symm.trans (Qy hS)
  and_intros<;>rfl
 ·cases hR.symm.trans (Us hS (bne_iff_ne.1 hK))
  and_intros<;>rfl
 have hd:HdC SB (clP k sd true false) s:=⟨hS,bne_eq_false_iff_eq.1 hK,rfl⟩
 have hv:(Yl Tg (clP k sd true false) s.amount (1-sd)).length=32:=by
  unfold Yl
  split
  ·simp_all
  ·rfl
 refine ⟨(clP k sd true false),⟨rfl⟩,⟨ht,ha0,by omega⟩,fun hE=> ?_,fun hE=> ?_,fun hE=>⟨⟨hv,hl.h7⟩,fun hT=> ?_,fun hT=> ?_⟩⟩
 ·cases hR.symm.trans (VA hd hE (by decide))
  and_intros<;>rfl
 ·cases hR.symm.trans (VA hd hE (by decide))
  and_intros<;>rfl
 ·cases hR.symm.trans (Z11 hd hE (nbT hT))
  and_intros<;>rfl
 have hx:=hR.symm.trans (Z2m ⟨hd,hE,nbF hT⟩)
 refine ⟨fun hlt=> ?_,fun hlt=> ?_⟩
 ·rw [if_pos (⟨rfl,beq_iff_eq.1 hlt⟩:(clP k sd true false).offers=true/\(clP k sd true false).last=s.amount)] at hx
  cases hx
  and_intros<;>rfl
 have hno:¬((clP k sd true false).offers=true/\(clP k sd true false).last=s.amount):=fun h=>beq_eq_false_iff_ne.1 hlt h.2
 refine ⟨fun h1=>⟨fun h2=> ?_,fun h2=> ?_⟩,fun h1=> ?_⟩
 ·have hi:(clP k sd true false).least<=s.amount/\s.amount<=(clP k sd true false).most:=⟨h1,h2⟩
  rw [if_neg hno,if_pos hi] at hx
  refine ⟨(clP k sd true false),⟨rfl⟩,hOff,fun hN=> ?_,fun hN=> ?_,fun hN=> ?_⟩
  ·omega
  ·omega
  ·cases hx
   and_intros<;>rfl
 ·have hi:¬((clP k sd true false).least<=s.amount/\s.amount<=(clP k sd true false).most):=fun h=>absurd h.2 h2
  rw [if_neg hno,if_neg hi] at hx
  refine ⟨⟨hlast,hSB hS⟩,fun ha=> ?_,fun ha=> ?_⟩
  ·rw [if_pos (⟨rfl,beq_iff_eq.1 ha⟩:(clP k sd true false).offers=true/\YL M (clP k sd true false) s.amount=(clP k sd true false).last)] at hx
   cases hx
   and_intros<;>rfl
  have hq2:¬((clP k sd true false).offers=true/\YL M (clP k sd true false) s.amount=(clP k sd true false).last):=fun h=>beq_eq_false_iff_ne.1 ha h.2
  refine ⟨(clP k sd true false),⟨rfl⟩,hOff,fun hN=> ?_,fun hN=> ?_,fun hN=> ?_⟩
  all_goals replace hN:ZJ (clP k sd true false).t (clP k sd true false).a0 (clP k sd true false).a1 (YL M (clP k sd true false) s.amount)=_:=hN
  ·rw [if_neg hq2,if_pos (by rw [hN];decide),hN] at hx
   cases hx
   and_intros<;>rfl
  ·rw [if_neg hq2,if_pos (by rw [hN];decide),hN] at hx
   cases hx
   and_intros<;>rfl
  ·rw [if_neg hq2,if_neg (fun q=>q hN)] at hx
   cases hx
   and_intros<;>rfl
 ·have hi:¬((clP k sd true false).least<=s.amount/\s.amount<=(clP k sd true false).most):=fun h=>absurd h.1 h1
  rw [if_neg hno,if_neg hi] at hx
  refine ⟨⟨hlast,hSB hS⟩,fun ha=> ?_,fun ha=> ?_⟩
  ·rw [if_pos (⟨rfl,beq_iff_eq.1 ha⟩:(clP k sd true false).offers=true/\YL M (clP k sd true false) s.amount=(clP k sd true false).last)] at hx
   cases hx
   and_intros<;>rfl
  have hq2:¬((clP k sd true false).offers=true/\YL M (clP k sd true false) s.amount=(clP k sd true false).last):=fun h=>beq_eq_false_iff_ne.1 ha h.2
  refine ⟨(clP k sd true false),⟨rfl⟩,hOff,fun hN=> ?_,fun hN=> ?_,fun hN=> ?_⟩
  all_goals replace hN:ZJ (clP k sd true false).t (clP k sd true false).a0 (clP k sd true false).a1 (YL M (clP k sd true false) s.amount)=_:=hN
  ·rw [if_neg hq2,if_pos (by rw [hN];decide),hN] at hx
   cases hx
   and_intros<;>rfl
  ·rw [if_neg hq2,if_pos (by rw [hN];decide),hN] at hx
   cases hx
   and_intros<;>rfl
  ·rw [if_neg hq2,if_neg (fun q=>q hN)] at hx
   cases hx
   and_intros<;>rfl
theorem Zp7 (SB:Zi->Bool) (M:Int->Int->Int) (Tg:LI->TxS->LI) (k:ClS) (s:Zi) (sd e kd am:Int) (of0:Bool) (tg:LI) (sy of:Bool) (la:Int) (ag:Bool) (fe:Int) (hl:s.Len) (hR:Y7 SB M Tg (clP k sd of0 true) s=⟨e,kd,am,tg,sy,of,la,ag,fe⟩):
  evF (ZhV SB M Tg) 20 63 [.agg (clU k sd of0 k.last true k.fee),.agg s.c] ⟨0,[]⟩ (ZH 0 (.ret (.tuple [.agg (clU k sd of la ag fe),.agg (sdC kd am tg),.bool sy,.int .i64 e])) 0 []):=by
 refine @Eq.mpr _ (let b:=s.t;let a:=k.t;let C:=a.fund;let f:=C=C;let B:=a.index;let d:=decide (B=B);let A:=a.cap;let c:=decide (A=A);let z:=a.dust;let y:=decide (z=z);let H:=a.fee;let x:=decide (H=H);let G:=a.delay;let w:=decide (G=G);let F:=a.k0;let v:=F=F;let E:=a.k1;let u:=E=E;let r:=decide (sd=sd);let D:=[k.a0,k.a1];let q:=D=D;let p:=decide (k.least=k.least);let o:=decide (k.most=k.most);let n:=decide (of0=of);let m:=decide (k.last=la);let l:=decide (true=ag);let j:=decide (k.fee=fe);let i:=decide (0=kd);let h:=decide (0=am);let g:=decide (false=sy);
 ∃(s_1:Zi),
 XI [AV.int i64 s.kind,AV.arr u8 32 b.fund,AV.int i64 b.index,AV.int i64 b.cap,AV.int i64 b.dust,AV.int i64 b.fee,AV.int i64 b.delay,AV.arr u8 32 b.k0,AV.arr u8 32 b.k1,AV.int i64 s.reserve,AV.int i64 s.amount,AV.arr u8 32 s.point,AV.arr u8 32 s.nxt,AV.arr u8 32 s.key,AV.arr u8 32 s.hash,AV.arr u8 32 s.tag,AV.arr u8 32 s.secret,AV.int i64 s.id,AV.int i64 s.number,AV.int i64 s.index,AV.int i64 s.expiry,AV.int i64 s.code,AV.str s.route] s_1/\
 Zi.Len s_1/\
 (SB s_1=true->
 Z5 (s.kind !=13) (f/\Z5 d (Z5 c (Z5 y (Z5 x (Z5 w (v/\u/\Z5 r (q/\Z5 p (Z5 o (Z5 n (Z5 m (Z5 l (Z5 j (Z5 i (Z0=Z0/\Z0=Z0/\Z0=Z0/\Z5 h (Z0=Z0/\Z0=Z0/\Z0=Z0/\Z0=Z0/\Z0=tg/\Z0=Z0/\ByteArray.empty=ByteArray.empty/\Z5 g (Z5 (decide (210=e)) True False) False) False) False) False) False) False) False) False) False) False) False) False) False) False) False)
 (f/\Z5 d (Z5 c (Z5 y (Z5 x (Z5 w (v/\u/\Z5 r (q/\Z5 p (Z5 o (Z5 n (Z5 m (Z5 l (Z5 j (Z5 i (Z0=Z0/\Z0=Z0/\Z0=Z0/\Z5 h (Z0=Z0/\Z0=Z0/\Z0=Z0/\Z0=Z0/\Z0=tg/\Z0=Z0/\ByteArray.empty=ByteArray.empty/\Z5 g (Z5 (decide (250=e)) True False) False) False) False) False) False) False) False) False) False) False) False) False) False) False) False))/\
 (SB s_1=false->f/\Z5 d (Z5 c (Z5 y (Z5 x (Z5 w (v/\u/\Z5 r (q/\Z5 p (Z5 o (Z5 n (Z5 m (Z5 l (Z5 j (Z5 i (Z0=Z0/\Z0=Z0/\Z0=Z0/\Z5 h (Z0=Z0/\Z0=Z0/\Z0=Z0/\Z0=Z0/\Z0=tg/\Z0=Z0/\ByteArray.empty=ByteArray.empty/\Z5 g (Z5 (decide (2=e)) True False) False) False) False) False) False) False) False) False) False) False) False) False) False) False) False)) (by kernel_rfl) ?_
 conv=>zeta
 try simp only [ZD]
 try simp only [ZU]
 try simp only [ZM]
 try simp only [ZY]
 try simp only [Y0]
 try simp only [ZN]
 try simp only [true_and,and_true]
 refine ⟨s,⟨rfl⟩,hl,fun hS=>⟨fun hK=> ?_,fun hK=> ?_⟩,fun hS=> ?_⟩
 ·cases hR.symm.trans (Us hS (bne_iff_ne.1 hK))
  and_intros<;>rfl
 ·cases hR.symm.trans (ZaN hS (bne_eq_false_iff_eq.1 hK) rfl)
  and_intros<;>rfl
 ·cases hR.symm.trans (Qy hS)
  and_intros<;>rfl
theorem Z9u {k:ClS} {s:Zi} (hc:∀args h K,rtS SB args h K->Ze PP 126 args h fun o h'=>∃v,o=.ret v/\h'=h/\K v) (hk:Yc k) (ht:k.t.All) (hl:s.Len) (hSB:SB s=true->0<=s.amount/\s.amount<=1125899906842624) {r:HR} (hR:Y7 SB Xa Zy k s=r):
  Zs PP 63 [.agg (clU k k.side k.offers k.last k.agrees k.fee),.agg s.c] (.tuple [.agg (clU k k.side r.of r.la r.ag r.fe),.agg (sdC r.kd r.am r.tg),.bool r.sy,.int .i64 r.e]) 0 []:=by
 have hE:(ZhV SB Xa Zy).Ok:=Zb.withP_ok (Zb.withP_ok (Zb.withP_ok Zm hc) Z7F) Zf3
 obtain ⟨e,kd,am,tg,sy,of,la,ag,fe⟩:=r
 obtain ⟨t,sd,a0,a1,le,mo,o0,l0,g0,f0⟩:=k
 cases g0 with
 | true=>exact .evM hE (Zp7 SB Xa Zy ⟨t,sd,a0,a1,le,mo,o0,l0,true,f0⟩ s sd e kd am o0 tg sy of la ag fe hl hR)
 | false=>cases o0 with
  | true=>exact .evM hE (Zp6 SB Xa Zy ⟨t,sd,a0,a1,le,mo,true,l0,false,f0⟩ s sd e kd am tg sy of la ag fe Xg hk ht hl hSB hR)
  | false=>exact .evM hE (Zp5 SB Xa Zy ⟨t,sd,a0,a1,le,mo,false,l0,false,f0⟩ s sd e kd am tg sy of la ag fe Xg hk ht hl hSB hR)
theorem Znz {ok:Bool} {o:Out} {h:Z8} (hk:rtK ok o h):XY (fun v=>v=.bool ok) o h:=by
 unfold rtK at hk
 split at hk
 ·subst hk;rfl
 ·exact hk.elim
theorem ZnA {s:Zi} (hs:s.Len) {ok:Bool} (hok:ok=true↔Zp s s.kind):Ze PP 126 [.agg s.c] ⟨0,[]⟩ (rtK ok):=by
 unfold Zi.c
 have h15:s.kind=1\/s.kind=2\/s.kind=3\/s.kind=4\/s.kind=5\/s.kind=6\/s.kind=7\/s.kind=8\/s.kind=9\/s.kind=10\/s.kind=11\/s.kind=12\/s.kind=13\/s.kind=14\/(s.kind<1\/14<s.kind):=by omega
 rcases h15 with h|h|h|h|h|h|h|h|h|h|h|h|h|h|h
 ·rw [h] at hok⊢;exact Y3 X9 (Zmr s ok hs hok)
 ·rw [h] at hok⊢;exact Y3 X9 (Zms s ok hs hok)
 ·rw [h] at hok⊢;exact Y3 X9 (Zmt s ok hs hok)
 ·rw [h] at hok⊢;exact Y3 X9 (Zmu s ok hs hok)
 ·rw [h] at hok⊢;exact Y3 X9 (Zmv s ok hs hok)
 ·rw [h] at hok⊢;exact Y3 X9 (Zmw s ok hs hok)
 ·rw [h] at hok⊢;exact Y3 X9 (Zmx s ok hs hok)
 ·rw [h] at hok⊢;exact Y3 X9 (Zmy s ok hs hok)
 ·rw [h] at hok⊢;exact Y3 X9 (Zmz s ok hs hok)
 ·rw [h] at hok⊢;exact Y3 X9 (Zk0 s ok hs hok)
 ·rw [h] at hok⊢;exact Y3 X9 (Zk1 s ok hs hok)
 ·rw [h] at hok⊢;exact Y3 X9 (Zk2 s ok hs hok)
 ·rw [h] at hok⊢;exact Y3 X9 (Zk3 s ok hs hok)
 ·rw [h] at hok⊢;exact Y3 X9 (Zk4 s ok hs hok)
 ·have e:ok=false:=Kd.2 fun e=>Z3W h (hok.1 e)
  subst e
  exact Y3 X9 (ZmA s s.kind hs h)
theorem Zkv (args:List AV) (h:Z8) (K:AV->Prop) (hl:rtS WP args h K):Ze PP 126 args h fun o h'=>∃v,o=.ret v/\h'=h/\K v:=by
 unfold rtS at hl
 split at hl
 ·obtain ⟨s,⟨rfl⟩,hs,h1,h0⟩:=hl
  refine Z0l rfl ((ZnA hs Qh).k fun o h hk=>Znz hk) fun u hu=> ?_
  subst hu
  cases hq:WP s with
  | true=>exact h1 hq
  | false=>exact h0 hq
 ·exact hl.elim
def slB (b n:Nat):AV:=.nslice ⟨b,0,0,0,0⟩ 1 n n
noncomputable def ZnB (W:Int->LI):Zb:=G0.withF 137 (Zae W)
theorem ZhW:(ZnB Zn).Ok:=Zb.withF_ok Zm Z7e
theorem ZnC (W:Int->LI) (xs ys:LI) (N L:Nat) (n:Int) (hN:xs.length=N) (hB:N<80000000000000) (hW:W=Zn) (hn:0<=n) (hy:ys=xs++W n) (hL:L=ys.length):
  evF (ZnB W) 20 72 [slB 0 N,.int .i64 n] ⟨1,[(0,.ints .u8 xs)]⟩ (ZH 1 (.ret (slB 1 L)) 2 [(1,.ints .u8 ys)]):=by
 refine @Eq.mpr _ (let b:=List.length (W n);let c:=xs++List.take b (ZX 0 (W n));let a:=c.length;
 Z7 (0<=n) (Z7 (u8=u8/\0+b<=b) (Z7 (u8=u8/\xs.length=N) (Z7 (a*1<=140737488355328) (Z7 (a=L) (Z7 (L<=a) (c=ys/\True))))))) (by kernel_rfl) ?_
 conv=>zeta
 try simp only [vcA]
 try simp only [vcB]
 try simp only [vcC]
 subst hW hN hy hL
 have e:List.take (Zn n).length (ZX 0 (Zn n))=Zn n:=by rw [Yb,JV,Jq]
 have:=ZL n
 rw [e]
 simp only [J6]
 repeat' apply J9
 all_goals first|trivial|omega|rfl
theorem ZnD (xs hh ys:LI) (N L:Nat) (hN:xs.length=N) (hB:N<80000000000000) (hl:hh.length=32) (hy:ys=xs++hh) (hL:L=ys.length):
  evF G0 20 71 [slB 0 N,.agg [.arr .u8 32 hh]] ⟨1,[(0,.ints .u8 xs)]⟩ (ZH 1 (.ret (slB 1 L)) 2 [(1,.ints .u8 ys)]):=by
 refine @Eq.mpr _ (let b:=xs++hh;let a:=b.length;
 Z7 (u8=u8/\hh.length=32) (Z7 (u8=u8/\xs.length=N) (Z7 (a*1<=140737488355328) (Z7 (a=L) (Z7 (L<=a) (b=ys/\True)))))) (by kernel_rfl) ?_
 conv=>zeta
 try simp only [vcA]
 try simp only [vcB]
 try simp only [vcC]
 subst hN hy hL
 simp only [J6]
 repeat' apply J9
 all_goals first|trivial|omega|rfl
theorem ZnE (hh:LI) (hl:hh.length=32):
  evF G0 20 71 [.nilslice,.agg [.arr .u8 32 hh]] ⟨0,[]⟩ (ZH 0 (.ret (slB 0 32)) 1 [(0,.ints .u8 hh)]):=by
 refine @Eq.mpr _ (let b:=[]++hh;let a:=b.length;
 Z7 (u8=u8/\hh.length=32) (Z7 (a*1<=140737488355328) (Z7 (a=32) (Z7 (32<=a) (b=hh/\True))))) (by kernel_rfl) ?_
 conv=>zeta
 try simp only [vcA]
 try simp only [vcB]
 try simp only [vcC]
 simp only [K5]
 repeat' apply J9
 all_goals first|trivial|omega|rfl
def ZnF (h:Z8) (b:Nat) (ys:LI):Z8:=⟨h.next+1,(h.next,.ints .u8 ys)::Ya h.bs b⟩
def Zkw (W:Int->LI) (B:Nat):ZO:=fun args h K=>match args with
 | [.nslice ⟨b,0,0,0,0⟩ 1 _ _,_]=>frA [b] h 20 args fun Bs a=>match Bs,a with
  | [.ints .u8 xs],[.nslice ⟨0,0,0,0,0⟩ 1 N M,.int .i64 n]=>Z7 (xs.length=N/\M=N/\N<B/\0<=n) (K (.ret (slB h.next (xs++W n).length)) (ZnF h b (xs++W n)))
  | _,_=>False
 | _=>False
theorem ZhX (args:List AV) (h:Z8) (K:KO) (hl:Zkw Zn 80000000000000 args h K):Ze PP 72 args h K:=by
 unfold Zkw at hl
 split at hl
 ·refine Spec.fsumm hl fun Bs a hlen hK0=> ?_
  split at hK0
  ·obtain ⟨⟨h1,rfl,h2,h3⟩,hK⟩:=Zd hK0
   exact ⟨_,_,_,_,_,.evM ZhW (ZnC _ _ _ _ _ _ h1 h2 rfl h3 rfl rfl),by simp,.ret _ _ rfl,.cons _ _ _ _ _ _ rfl (.ints _ _) .nil,hK⟩
  ·exact hK0.elim
 ·exact hl.elim
def Zf9 (B:Nat):ZO:=fun args h K=>match args with
 | [.nslice ⟨b,0,0,0,0⟩ 1 _ _,_]=>frA [b] h 20 args fun Bs a=>match Bs,a with
  | [.ints .u8 xs],[.nslice ⟨0,0,0,0,0⟩ 1 N M,.agg [.arr .u8 32 hh]]=>Z7 (xs.length=N/\M=N/\N<B/\hh.length=32) (K (.ret (slB h.next (xs++hh).length)) (ZnF h b (xs++hh)))
  | _,_=>False
 | [.nilslice,_]=>frA [] h 20 args fun Bs a=>match Bs,a with
  | [],[.nilslice,.agg [.arr .u8 32 hh]]=>Z7 (hh.length=32) (K (.ret (slB h.next 32)) ⟨h.next+1,(h.next,.ints .u8 hh)::h.bs⟩)
  | _,_=>False
 | _=>False
theorem Zfa (args:List AV) (h:Z8) (K:KO) (hl:Zf9 80000000000000 args h K):Ze PP 71 args h K:=by
 unfold Zf9 at hl
 split at hl
 ·refine Spec.fsumm hl fun Bs a hlen hK0=> ?_
  split at hK0
  ·obtain ⟨⟨h1,rfl,h2,h3⟩,hK⟩:=Zd hK0
   exact ⟨_,_,_,_,_,.evM Zm (ZnD _ _ _ _ _ h1 h2 h3 rfl rfl),by simp,.ret _ _ rfl,.cons _ _ _ _ _ _ rfl (.ints _ _) .nil,hK⟩
  ·exact hK0.elim
 ·refine Spec.fsumm hl fun Bs a hlen hK0=> ?_
  split at hK0
  ·obtain ⟨h3,hK⟩:=Zd hK0
   exact ⟨_,_,_,_,_,.evM Zm (ZnE _ h3),JF _,.ret _ _ rfl,.cons _ _ _ _ _ _ rfl (.ints _ _) .nil,hK⟩
  ·exact hK0.elim
 ·exact hl.elim
theorem ZnG (b:Bool) (ys:LI) (hy:ys=[cond b 1 0]):
  evF G0 20 73 [.bool b] ⟨0,[]⟩ (ZH 0 (.ret (slB 0 1)) 1 [(0,.ints .u8 ys)]):=by
 refine @Eq.mpr _ (Z5 b ([(1:Int)]=ys/\True) ([(0:Int)]=ys/\True)) (by kernel_rfl) ?_
 try simp only [vcA]
 try simp only [vcB]
 try simp only [vcC]
 subst hy
 cases b<;>simp
def Z9v:ZO:=fun args h K=>match args with
 | [.bool b]=>K (.ret (slB h.next 1)) ⟨h.next+1,(h.next,.ints .u8 [cond b 1 0])::h.bs⟩
 | _=>False
theorem Zcb (args:List AV) (h:Z8) (K:KO) (hl:Z9v args h K):Ze PP 73 args h K:=by
 unfold Z9v at hl
 split at hl
 ·exact (Zs.evM Zm (ZnG _ _ rfl)).calls (fun E w rs he hr=>by
   cases hr with
   | cons v r vs rs h1 h2=>cases h2;exact .cons _ _ _ _ (h1.plain rfl) .nil) rfl ⟨JH,.ints _ _,trivial⟩ hl
 ·exact hl.elim
noncomputable def Ziy (W:Int->LI) (B:Nat):Zb:=((G0.withF 72 (Zkw W B)).withF 71 (Zf9 B)).withF 73 Z9v
theorem Zfb:(Ziy Zn 80000000000000).Ok:=Zb.withF_ok (Zb.withF_ok (Zb.withF_ok Zm ZhX) Zfa) Zcb
structure RwC (k:ClS):Prop where
 n:ZeM 4611686018427387904 k
 f:k.t.fund.length=32
 h0:k.t.k0.length=32
 h1:k.t.k1.length=32
theorem Zcc {k:ClS} (h9:∀v,(W v).length<=9) (hf:k.t.fund.length=32) (h0:k.t.k0.length=32) (h1:k.t.k1.length=32):(YB W k).length<=300:=by
 have l1:=h9 k.t.index
 have l2:=h9 k.t.cap
 have l3:=h9 k.t.dust
 have l4:=h9 k.t.fee
 have l5:=h9 k.t.delay
 have l6:=h9 k.side
 have l7:=h9 k.a0
 have l8:=h9 k.a1
 have l9:=h9 k.least
 have l10:=h9 k.most
 have l11:=h9 k.last
 have l12:=h9 k.fee
 unfold YB tru
 simp only [J6,Jk,Jr,hf,h0,h1]
 omega
theorem ZnH (W:Int->LI) (B n:Nat) (k:ClS) (ys:LI) (hk:RwC k) (hy:ys=YB W k) (hn:n=ys.length) (h9:∀v,(W v).length<=9) (hB:1000<B) (hB2:B<90000000000000):
  evF (Ziy W B) 20 28 [.agg (clU k k.side k.offers k.last k.agrees k.fee)] ⟨0,[]⟩ (ZH 0 (.ret (slB 0 n)) 1 [(0,.ints .u8 ys)]):=by
 refine @Eq.mpr _ (let a:=k.t;let L:=a.fund;let F:=a.k1;let b:=F=F;let x:=a.k0;let c:=x=x;let v:=a.delay;let f:=decide (v=v);let u:=a.fee;let J:=decide (u=u);let I:=a.dust;let M:=decide (I=I);let H:=a.cap;let b2:=decide (H=H);let G:=a.index;let b1:=L++W G;let s:=b1.length;let b0:=b1++W H;let r:=b0.length;let a9:=b0++W I;let q:=a9.length;let a8:=a9++W u;let p:=a8.length;let a7:=a8++W v;let o:=a7.length;let a6:=a7++x;let m:=a6.length;let a5:=a6++F;let l:=a5.length;let E:=k.most;let D:=decide (E=E);let C:=k.least;let K:=decide (C=C);let A:=k.a1;let a4:=decide (A=A);let z:=k.a0;let a3:=a5++W k.side;let j:=a3.length;let a2:=a3++W z;let i:=a2.length;let Z:=a2++W A;let h:=Z.length;let Y:=Z++W C;let g:=Y.length;let y:=k.last;let X:=decide (y=y);let V:=Y++W E;let U:=V.length;let T:=V++[bif k.offers then 1 else 0];let e:=T.length;let w:=k.fee;let S:=decide (w=w);let R:=T++W y;let Q:=R.length;let P:=R++[bif k.agrees then 1 else 0];let d:=P.length;let O:=P++W w;let N:=O.length;
 Z7 (L.length=32) (b/\
 c/\
 Z6 f (Z6 J (Z6 M (Z6 b2 (Z7 (G=G) (Z7 (L.length=32/\(32:Nat)=32/\32<B/\0<=G) (b/\
 c/\
 Z6 f (Z6 J (Z6 M (Z6 b2 (Z7 (s=s/\s=s/\s<B/\0<=H) (b/\
 c/\
 Z6 f (Z6 J (Z6 M (Z7 (r=r/\r=r/\r<B/\0<=I) (b/\
 c/\
 Z6 f (Z6 J (Z7 (q=q/\q=q/\q<B/\0<=u) (b/\
 c/\
 Z6 f (Z7 (p=p/\p=p/\p<B/\0<=v) (b/\
 c/\
 Z7 (o=o/\o=o/\o<B/\x.length=32) (b/\
 Z7 (m=m/\m=m/\m<B/\F.length=32) (Z7 (l=l/\l=l/\l<B/\0<=k.side) (Z6 D (Z6 K (Z6 a4 (Z7 (z=z) (Z7 (j=j/\j=j/\j<B/\0<=z) (Z6 D (Z6 K (Z6 a4 (Z7 (i=i/\i=i/\i<B/\0<=A) (Z6 D (Z6 K (Z7 (h=h/\h=h/\h<B/\0<=C) (Z6 D (Z7 (g=g/\g=g/\g<B/\0<=E) (Z6 X (Z7 (u8=u8/\U=U) (Z7 (e*1<=140737488355328) (Z6 X (Z7 (e=e/\e=e/\e<B/\0<=y) (Z6 S (Z7 (u8=u8/\Q=Q) (Z7 (d*1<=140737488355328) (Z6 S (Z7 (d=d/\d=d/\d<B/\0<=w) (Z7 (N=n) (Z7 (n<=N) (O=ys/\True))))))))))))))))))))))))))))))))))))))))))))))))))) (by kernel_rfl) ?_
 conv=>zeta
 try simp only [vcA]
 try simp only [vcB]
 try simp only [vcC]
 obtain ⟨⟨⟨a1,b1⟩,⟨a2,b2⟩,⟨a3,b3⟩,⟨a4,b4⟩,⟨a5,b5⟩,⟨a6,b6⟩,⟨a7,b7⟩,⟨a8,b8⟩,⟨a9,b9⟩,⟨a10,b10⟩,⟨a11,b11⟩,⟨a12,b12⟩⟩,hf,h0,h1⟩:=hk
 have l1:=h9 k.t.index
 have l2:=h9 k.t.cap
 have l3:=h9 k.t.dust
 have l4:=h9 k.t.fee
 have l5:=h9 k.t.delay
 have l6:=h9 k.side
 have l7:=h9 k.a0
 have l8:=h9 k.a1
 have l9:=h9 k.least
 have l10:=h9 k.most
 have l11:=h9 k.last
 have l12:=h9 k.fee
 subst hy hn
 repeat' first
  | with_reducible rfl
  | exact True.intro
  | with_reducible assumption
  | with_reducible refine J9 ?_ ?_
 all_goals first
  | ((try simp only [J6,Jk,Jr,hf,h0,h1]);omega)
  | rfl
  | (show List.length (YB W k)<=_;exact J4 _)
theorem Z7H (v:Int):(Zn v).length<=9:=(ZL v).2
def ZaO (W:Int->LI):ZO:=fun args h K=>match args with
 | [.ptr (some ⟨x,0,0,0,0⟩)]=>frA [x] h 40 args fun Bs a=>match Bs,a with
  | [.flat cs],[.ptr (some ⟨0,0,0,0,0⟩)]=>∃k,Yy cs k/\RwC k/\K (.ret (.nslice ⟨h.next,0,0,0,0⟩ 1 (YB W k).length (YB W k).length)) ⟨h.next+1,(x,.flat cs)::(h.next,.ints .u8 (YB W k))::Ya h.bs x⟩
  | _,_=>False
 | _=>False
theorem Z7I (args:List AV) (h:Z8) (K:KO) (hl:ZaO Zn args h K):Ze PP 21 args h K:=by
 unfold ZaO at hl
 split at hl
 ·refine Spec.fsumm hl fun Bs a hlen hK0=> ?_
  split at hK0
  ·obtain ⟨k,⟨rfl⟩,⟨h1,h2,h3,h4⟩,hK⟩:=hK0
   exact ⟨_,_,_,_,_,.evM ZhH (Znh Zn _ _ _ k _ h1 h2 h3 h4 rfl rfl Z7H (by decide) (by decide)),by simp,.ret _ _ rfl,.cons _ _ _ _ _ _ rfl (.flat _ _ rfl) (.cons _ _ _ _ _ _ rfl (.ints _ _) .nil),hK⟩
  ·exact hK0.elim
 ·exact hl.elim
def Ziz (W:Int->LI):ZO:=fun args h K=>Zz none h true 40 args fun a=>match a with
 | [.agg cs]=>∃k,YJ cs k/\RwC k/\K (.ret (.nslice ⟨h.next,0,0,0,0⟩ 1 (YB W k).length (YB W k).length)) ⟨h.next+1,(h.next,.ints .u8 (YB W k))::h.bs⟩
 | _=>False
theorem Zfc (args:List AV) (h:Z8) (K:KO) (hl:Ziz Zn args h K):Ze PP 28 args h K:=by
 refine Zs.fsumm (d:=40) (Zk _ _ _ _ _ hl fun a ha=> ?_)
 split at ha
 ·obtain ⟨k,⟨rfl⟩,h1,hK⟩:=ha
  exact ⟨_,_,_,_,.evM Zfb (ZnH Zn _ _ k _ h1 rfl rfl Z7H (by decide) (by decide)),rfl,⟨JH,.ints _ _,trivial⟩,hK⟩
 ·exact ha.elim
end Go.Tk
end
