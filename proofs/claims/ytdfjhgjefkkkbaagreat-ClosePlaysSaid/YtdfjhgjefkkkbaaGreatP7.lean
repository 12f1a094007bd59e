/- P: part 7 of an engine (a symbolic evaluator, proved against the model) and of the walk by it. -/
import Derived.Test.YtdfjhgjefkkkbaaGreatP6
set_option linter.unusedVariables false
set_option linter.unusedSimpArgs false
set_option maxRecDepth 100000
set_option maxHeartbeats 0
section
namespace Go.Tk
open IntKind (i64 u8 u32 u64 wrap)
variable {G:Zd} {args:List AV} {Tg:List Int->TxS->List Int} {SB:Zi->Bool}
def Z0K (tl th ta:List Int) (x:InS):InS:=if x.way=1 then ⟨x.name,x.index,x.way,tl,th,x.secret⟩ else if x.way=4 then x else ⟨x.name,x.index,x.way,ta,x.also,x.secret⟩
def Znu (t:TxS) (a b:List Int) (G:Nat->InS):Z8:=⟨7,[(0,.flat [.int .i64 t.num,.nslice ⟨5,0,130,0,0⟩ 130 t.N t.N,.nslice ⟨6,0,132,0,0⟩ 132 t.M t.M]),(1,.flat [.arr .u8 32 a]),(2,.flat [.arr .u8 32 b]),(3,.flat t.c),(4,.flat txZ),(5,.rows 130 t.N (Zg G)),(6,.rows 132 t.M (Zf t.outs))]⟩
def Znv:ZW:=[(10,.ptr (some ⟨0,0,0,0,0⟩)),(4,.ptr (some ⟨1,0,0,0,0⟩)),(5,.ptr (some ⟨2,0,0,0,0⟩)),(9,.func (.func 90) [] [.ptr (some ⟨3,0,0,0,0⟩)]),(6,.ptr (some ⟨4,0,0,0,0⟩))]
def Zgz (t:TxS) (a b:List Int) (G:Nat->InS) (i:Nat):St:=⟨75,(34,.int .i64 i)::(33,.int .i64 t.N)::Znv,Znu t a b G,[]⟩
def Zbj (t:TxS) (G:Nat->InS):St:=⟨75,[(10,.ptr (some ⟨0,0,0,0,0⟩)),(6,.ptr (some ⟨1,0,0,0,0⟩))],⟨4,[(0,.flat [.int .i64 t.num,.nslice ⟨2,0,130,0,0⟩ 130 t.N t.N,.nslice ⟨3,0,132,0,0⟩ 132 t.M t.M]),(1,.flat txZ),(2,.rows 130 t.N (Zg G)),(3,.rows 132 t.M (Zf t.outs))]⟩,[]⟩
def Z8R (A:List Int->Int×Int) (Tg:List Int->TxS->List Int):ZH:=fun args h K=>ZA none h true 20 args fun a=>match a with
 | [.agg l,.agg [.arr .u8 32 key]]=>∃t,Z08 l t/\(t.Ok/\key.length=32/\Yf A t=true)/\K (.tuple [.agg [.arr .u8 32 (Tg key t)],.int .i64 0])
 | _=>False
theorem Z4V (args:List AV) (h:Z8) (K:AV->Prop) (hl:Z8R ZB Zv args h K):Ze PP 83 args h fun o h'=>∃v,o=.ret v/\h'=h/\K v:=by
 refine ZaS args h K (Zk _ _ _ _ _ hl fun a ha=> ?_)
 split at ha
 ·obtain ⟨t,h1,⟨h2,h3,h4⟩,hK⟩:=ha
  refine ⟨t,h1,⟨h2,h3⟩, ?_⟩
  rw [h4];exact hK
 ·exact ha.elim
noncomputable def ZdU (A:List Int->Int×Int) (Tg:List Int->TxS->List Int):Zd:=(G0.withP 45 Zjd).withP 83 (Z8R A Tg)
theorem Z9Y:(ZdU ZB Zv).Ok:=Zd.withP_ok (Zd.withP_ok Zm Zgw) Z4V
theorem ZlT (A:List Int->Int×Int) (Tg:List Int->TxS->List Int) (t:TxS) (a b tl th ta:List Int) (G G1:Nat->InS) (i:Nat) (Z1 Z2:Prop) (ht:t.Ok) (hN:t.N<=24) (hc:Yf A t=true) (ha:a.length=32) (hb:b.length=32) (htl:tl=Tg (loH a b) t) (hth:th=Tg (hiH a b) t) (hta:ta=Tg a t) (hi:i<=t.N) (hG:∀j,i<=j->G j=t.ins j) (hG1:i<t.N->∀j,j<t.N->G1 j=if j=i then Z0K tl th ta (t.ins i) else G j) (h1:i<t.N->Z1) (h2:i=t.N->Z2):
  ZC (ZdU A Tg) 20 43 0 0 (Zgz t a b G i) (rdM 0 0 9 (Zgz t a b G1 (i+1)) (Zbj t G) (Zbj t G) (Zbj t G) Z1 Z2 False False):=by
 refine @Eq.mpr _ (Z7 (decide ((↑i:Int)<(↑t.N:Int))) (Z6 ((0:Int)<=(↑i:Int)/\(↑i:Int)<(↑t.N:Int)) (Z6 ((0:Nat)+Int.toNat (↑i:Int)<t.N) (Z7 ((G ((0:Nat)+Int.toNat (↑i:Int))).way==(1:Int)) ((List.length a=(32:Nat)/\List.length b=(32:Nat))/\
 ∃(t_1:TxS),
 (t_1.num=t.num/\((t.N=t.N/\t_1.N=t.N)/\∀(i:Nat),i<t.N->Zg t.ins i=InS.c (t_1.ins i))/\(t.M=t.M/\t_1.M=t.M)/\∀(i:Nat),i<t.M->Zf t.outs i=ZE.c (t_1.outs i))/\
 (TxS.Ok t_1/\List.length (loH a b)=(32:Nat)/\Yf A t_1=true)/\
 hiH a b=hiH a b/\
 ∃(t_2:TxS),
 (t_2.num=t.num/\((t.N=t.N/\t_2.N=t.N)/\∀(i:Nat),i<t.N->Zg t.ins i=InS.c (t_2.ins i))/\(t.M=t.M/\t_2.M=t.M)/\∀(i:Nat),i<t.M->Zf t.outs i=ZE.c (t_2.outs i))/\
 (TxS.Ok t_2/\List.length (hiH a b)=(32:Nat)/\Yf A t_2=true)/\
 Z6 ((0:Nat)+Int.toNat (↑i:Int)<t.N) (Z6 ((0:Nat)+Int.toNat (↑i:Int)<t.N) (Z6 (wrap i64 ((↑i:Int)+(1:Int))=(↑(i+(1:Nat)):Int)) (Z6 ((↑t.N:Int)=(↑t.N:Int)) (Z6 (t.num=t.num) (Z6 (t.N=t.N) (Z6 (t.N<=t.N) (Z6 (t.M=t.M) (Z6 (t.M<=t.M) (a=a/\
 b=b/\
 Z6 (t.num=t.num) (Z6 (t.N=t.N) (Zg t.ins=Zg t.ins/\
 Z6 (t.N=t.N) (Z6 (t.M=t.M) (Zf t.outs=Zf t.outs/\
 Z6 (t.M=t.M) (Z6 (t.N=t.N) (Zo (0:Nat) [((6:Nat),(6:Nat)),((5:Nat),(5:Nat)),((4:Nat),(4:Nat)),((3:Nat),(3:Nat)),((2:Nat),(2:Nat)),((1:Nat),(1:Nat)),((0:Nat),(0:Nat))] t.N (Zg G1)
 (QH (QH (Zg G) ((0:Nat)+Int.toNat (↑i:Int)) [AV.arr u8 (32:Nat) (G ((0:Nat)+Int.toNat (↑i:Int))).name,AV.int i64 (G ((0:Nat)+Int.toNat (↑i:Int))).index,AV.int i64 (G ((0:Nat)+Int.toNat (↑i:Int))).way,AV.arr u8 (32:Nat) (Tg (loH a b) t_1),AV.arr u8 (32:Nat) (G ((0:Nat)+Int.toNat (↑i:Int))).also,AV.arr u8 (32:Nat) (G ((0:Nat)+Int.toNat (↑i:Int))).secret]) ((0:Nat)+Int.toNat (↑i:Int))
 [AV.arr u8 (32:Nat)
 (match Nat.beq ((0:Nat)+Int.toNat (↑i:Int)) ((0:Nat)+Int.toNat (↑i:Int)) with
 | true=>(G ((0:Nat)+Int.toNat (↑i:Int))).name
 | false=>(G ((0:Nat)+Int.toNat (↑i:Int))).name),
 AV.int i64
 (match Nat.beq ((0:Nat)+Int.toNat (↑i:Int)) ((0:Nat)+Int.toNat (↑i:Int)) with
 | true=>(G ((0:Nat)+Int.toNat (↑i:Int))).index
 | false=>(G ((0:Nat)+Int.toNat (↑i:Int))).index),
 AV.int i64
 (match Nat.beq ((0:Nat)+Int.toNat (↑i:Int)) ((0:Nat)+Int.toNat (↑i:Int)) with
 | true=>(G ((0:Nat)+Int.toNat (↑i:Int))).way
 | false=>(G ((0:Nat)+Int.toNat (↑i:Int))).way),
 AV.arr u8 (32:Nat)
 (match Nat.beq ((0:Nat)+Int.toNat (↑i:Int)) ((0:Nat)+Int.toNat (↑i:Int)) with
 | true=>Tg (loH a b) t_1
 | false=>(G ((0:Nat)+Int.toNat (↑i:Int))).tag),
 AV.arr u8 (32:Nat) (Tg (hiH a b) t_2),
 AV.arr u8 (32:Nat)
 (match Nat.beq ((0:Nat)+Int.toNat (↑i:Int)) ((0:Nat)+Int.toNat (↑i:Int)) with
 | true=>(G ((0:Nat)+Int.toNat (↑i:Int))).secret
 | false=>(G ((0:Nat)+Int.toNat (↑i:Int))).secret)])/\
 Z6 (t.M=t.M) (Zo (0:Nat) [((6:Nat),(6:Nat)),((5:Nat),(5:Nat)),((4:Nat),(4:Nat)),((3:Nat),(3:Nat)),((2:Nat),(2:Nat)),((1:Nat),(1:Nat)),((0:Nat),(0:Nat))] t.M (Zf t.outs) (Zf t.outs)/\Z1))))))))))))))))) (Z7 ((G ((0:Nat)+Int.toNat (↑i:Int))).way==(4:Int)) (Z6 (wrap i64 ((↑i:Int)+(1:Int))=(↑(i+(1:Nat)):Int)) (Z6 ((↑t.N:Int)=(↑t.N:Int)) (Z6 (t.num=t.num) (Z6 (t.N=t.N) (Z6 (t.N<=t.N) (Z6 (t.M=t.M) (Z6 (t.M<=t.M) (a=a/\b=b/\Z6 (t.num=t.num) (Z6 (t.N=t.N) (Zg t.ins=Zg t.ins/\Z6 (t.N=t.N) (Z6 (t.M=t.M) (Zf t.outs=Zf t.outs/\Z6 (t.M=t.M) (Z6 (t.N=t.N) (Zo (0:Nat) [((6:Nat),(6:Nat)),((5:Nat),(5:Nat)),((4:Nat),(4:Nat)),((3:Nat),(3:Nat)),((2:Nat),(2:Nat)),((1:Nat),(1:Nat)),((0:Nat),(0:Nat))] t.N (Zg G1) (Zg G)/\Z6 (t.M=t.M) (Zo (0:Nat) [((6:Nat),(6:Nat)),((5:Nat),(5:Nat)),((4:Nat),(4:Nat)),((3:Nat),(3:Nat)),((2:Nat),(2:Nat)),((1:Nat),(1:Nat)),((0:Nat),(0:Nat))] t.M (Zf t.outs) (Zf t.outs)/\Z1))))))))))))))) (∃(t_1:TxS),
 (t_1.num=t.num/\((t.N=t.N/\t_1.N=t.N)/\∀(i:Nat),i<t.N->Zg t.ins i=InS.c (t_1.ins i))/\(t.M=t.M/\t_1.M=t.M)/\∀(i:Nat),i<t.M->Zf t.outs i=ZE.c (t_1.outs i))/\
 (TxS.Ok t_1/\List.length a=(32:Nat)/\Yf A t_1=true)/\
 Z6 ((0:Nat)+Int.toNat (↑i:Int)<t.N) (Z6 (wrap i64 ((↑i:Int)+(1:Int))=(↑(i+(1:Nat)):Int)) (Z6 ((↑t.N:Int)=(↑t.N:Int)) (Z6 (t.num=t.num) (Z6 (t.N=t.N) (Z6 (t.N<=t.N) (Z6 (t.M=t.M) (Z6 (t.M<=t.M) (a=a/\
 b=b/\
 Z6 (t.num=t.num) (Z6 (t.N=t.N) (Zg t.ins=Zg t.ins/\
 Z6 (t.N=t.N) (Z6 (t.M=t.M) (Zf t.outs=Zf t.outs/\
 Z6 (t.M=t.M) (Z6 (t.N=t.N) (Zo (0:Nat) [((6:Nat),(6:Nat)),((5:Nat),(5:Nat)),((4:Nat),(4:Nat)),((3:Nat),(3:Nat)),((2:Nat),(2:Nat)),((1:Nat),(1:Nat)),((0:Nat),(0:Nat))] t.N (Zg G1) (QH (Zg G) ((0:Nat)+Int.toNat (↑i:Int)) [AV.arr u8 (32:Nat) (G ((0:Nat)+Int.toNat (↑i:Int))).name,AV.int i64 (G ((0:Nat)+Int.toNat (↑i:Int))).index,AV.int i64 (G ((0:Nat)+Int.toNat (↑i:Int))).way,AV.arr u8 (32:Nat) (Tg a t_1),AV.arr u8 (32:Nat) (G ((0:Nat)+Int.toNat (↑i:Int))).also,AV.arr u8 (32:Nat) (G ((0:Nat)+Int.toNat (↑i:Int))).secret])/\Z6 (t.M=t.M) (Zo (0:Nat) [((6:Nat),(6:Nat)),((5:Nat),(5:Nat)),((4:Nat),(4:Nat)),((3:Nat),(3:Nat)),((2:Nat),(2:Nat)),((1:Nat),(1:Nat)),((0:Nat),(0:Nat))] t.M (Zf t.outs) (Zf t.outs)/\Z1)))))))))))))))))))) (Z6 (t.num=t.num) (Z6 (t.N=t.N) (Z6 (t.N<=t.N) (Z6 (t.M=t.M) (Z6 (t.M<=t.M) (Z6 (t.N=t.N) (Zo (0:Nat) [((3:Nat),(6:Nat)),((2:Nat),(5:Nat)),((1:Nat),(4:Nat)),((0:Nat),(0:Nat))] t.N (Zg G) (Zg G)/\Z6 (t.M=t.M) (Zo (0:Nat) [((3:Nat),(6:Nat)),((2:Nat),(5:Nat)),((1:Nat),(4:Nat)),((0:Nat),(0:Nat))] t.M (Zf t.outs) (Zf t.outs)/\Z2))))))))) (by kernel_rfl) ?_
 try simp only [vcA]
 try simp only [vcB]
 try simp only [vcC]
 refine ⟨fun hlt'=> ?_,fun hge=>⟨Yc fun _ _=>rfl,ZK fun _ _=>rfl,h2 (by omega)⟩⟩
 have hlt:i<t.N:=by omega
 have hwr:i64.wrap ((i:Int)+1)=((i+1:Nat):Int):=by rw [w64 (by omega)];omega
 have hG1:=hG1 hlt
 have hZ:=h1 hlt
 have hO:∀τ,Zo 0 τ t.M (Zf t.outs) (Zf t.outs):=fun τ=>ZK fun _ _=>rfl
 have e1:=hG i (J4 _)
 rw [e1]
 have hU:∀(A1:List AV) j,A1=(Z0K tl th ta (t.ins i)).c->j<t.N->QH (Zg G) i A1 j=(G1 j).c:=fun A1 j hA hj=>by
  rw [Wy,hG1 j hj]
  by_cases e:j=i
  ·subst e;rw [Jj,if_pos rfl];exact hA
  ·rw [Zx e,if_neg e];rfl
 have hU2:∀(A1 B1:List AV) j,B1=(Z0K tl th ta (t.ins i)).c->j<t.N->QH (QH (Zg G) i A1) i B1 j=(G1 j).c:=fun A1 B1 j hB hj=>by
  rw [Wy,Wy,hG1 j hj]
  by_cases e:j=i
  ·subst e;rw [Jj,if_pos rfl];exact hB
  ·rw [Zx e,if_neg e];rfl
 refine ⟨by omega,hlt,fun k1=>⟨⟨ha,hb⟩,t,⟨rfl,⟨rfl,fun _ _=>rfl⟩,rfl,fun _ _=>rfl⟩,⟨ht,Z5T ha hb,hc⟩,t,⟨rfl,⟨rfl,fun _ _=>rfl⟩,rfl,fun _ _=>rfl⟩,⟨ht,Z5U ha hb,hc⟩,hlt,hlt,hwr,Yc fun j hj=>hU2 _ _ j ?_ hj,hO _,hZ⟩,fun k1=>⟨fun k2=>⟨hwr,Yc fun j hj=> ?_,hO _,hZ⟩,fun k2=>⟨t,⟨rfl,⟨rfl,fun _ _=>rfl⟩,rfl,fun _ _=>rfl⟩,⟨ht,ha,hc⟩,hlt,hwr,Yc fun j hj=>hU _ j ?_ hj,hO _,hZ⟩⟩⟩
 ·have k1:(t.ins i).way=1:=by simpa using k1
  unfold Z0K
  rw [if_pos k1,<-htl,<-hth]
  simp only [Jj]
  rfl
 ·have k1:¬(t.ins i).way=1:=by simpa using k1
  have k2:(t.ins i).way=4:=by simpa using k2
  rw [hG1 j hj]
  split
  ·rename_i e
   subst e
   unfold Z0K
   rw [if_neg k1,if_pos k2,<-e1];rfl
  ·rfl
 ·have k1:¬(t.ins i).way=1:=by simpa using k1
  have k2:¬(t.ins i).way=4:=by simpa using k2
  unfold Z0K
  rw [if_neg k1,if_neg k2,<-hta]
  rfl
def Z3X (Tg:List Int->TxS->List Int) (t:TxS) (a b:List Int) (i j:Nat):InS:=if j<i then Z0K (Tg (loH a b) t) (Tg (hiH a b) t) (Tg a t) (t.ins j) else t.ins j
def Z7d (Tg:List Int->TxS->List Int) (t:TxS) (a b:List Int):TxS:=⟨t.num,t.N,fun j=>Z0K (Tg (loH a b) t) (Tg (hiH a b) t) (Tg a t) (t.ins j),t.M,t.outs⟩
structure ZgA (A:List Int->Int×Int) (Tg:List Int->TxS->List Int) (t:TxS) (a b:List Int) (G:Nat->Nat->InS):Prop where
 ht:t.Ok
 hN:t.N<=24
 hc:Yf A t=true
 ha:a.length=32
 hb:b.length=32
 hG:G=Z3X Tg t a b
noncomputable def ZdV (A:List Int->Int×Int) (Tg:List Int->TxS->List Int) (t:TxS) (a b:List Int) (G:Nat->Nat->InS):Zd:=((((ZdU A Tg).withP 89 (ckS A)).withF 91 Zje).withF 92 Zjf).withL 43 0 (goM 0 (Zgz t a b t.ins 0) (ZgA A Tg t a b G) (Yu 0 t.N 9 (fun i=>i<t.N) (fun i=>i=t.N) (fun _=>False) (fun _=>False) (fun i=>Zbj t (G i)) (fun i=>Zbj t (G i)) (fun i=>Zbj t (G i))))
theorem Z7e (t:TxS) (a b:List Int) (G:Nat->Nat->InS):(ZdV ZB Zv t a b G).Ok:=by
 have h0:((((ZdU ZB Zv).withP 89 (ckS ZB)).withF 91 Zje).withF 92 Zjf).Ok:=Zd.withF_ok (Zd.withF_ok (Zd.withP_ok Z9Y ZcN) Zgx) Zgy
 refine Zd.withL_join (H:=ZdU ZB Zv) h0 rfl ?_
 exact Zd.withGoM (N:=20) (S:=fun i=>Zgz t a b (Z3X Zv t a b i) i) Z9Y (by kernel_rfl) fun hC=>by
  obtain ⟨c1,c2,c3,c4,c5,c6⟩:=hC
  subst c6
  refine ⟨?_,fun i hi _=>ZlT ZB Zv t a b _ _ _ _ _ i _ _ c1 c2 c3 c4 c5 rfl rfl rfl hi (fun j hj=>if_neg (by omega)) (fun hlt j hj=> ?_) (fun h=>⟨h,h⟩) (fun h=>h)⟩
  ·have e:Z3X Zv t a b 0=t.ins:=funext fun j=>if_neg (Ki j)
   rw [e]
  ·unfold Z3X
   by_cases e:j=i
   ·subst e;rw [if_pos (Nat.lt_succ_self _),if_pos rfl]
   ·rw [if_neg e]
    by_cases h:j<i
    ·rw [if_pos h,if_pos (by omega)]
    ·rw [if_neg h,if_neg (by omega)]
theorem ZlU (A:List Int->Int×Int) (Tg:List Int->TxS->List Int) (t:TxS) (a b:List Int) (G:Nat->Nat->InS) (ht:t.Ok) (hb:Yf A t=false):
  evF (ZdV A Tg t a b G) 20 43 [.agg t.c,.agg [.arr .u8 32 a],.agg [.arr .u8 32 b]] ⟨0,[]⟩ (ZF 0 (.ret (.tuple [.agg txZ,.int .i64 2])) 0 []):=by
 refine @Eq.mpr _ (let q1:=t.num;let q2:=t.N;let q3:=t.M;let q4:=decide (q3=q3);let q5:=Zf t.outs;let q6:=q5=q5;let q7:=decide (q1=q1);let q8:=decide (q2=q2);let q9:=Zg t.ins;let q10:=[(6,5),(5,4),(4,3),(3,0),(2,2),(1,1),(0,6)];
 ∃(t_1:TxS),
 (t_1.num=q1/\((q2=q2/\t_1.N=q2)/\∀(i:Nat),i<q2->q9 i=InS.c (t_1.ins i))/\(q3=q3/\t_1.M=q3)/\∀(i:Nat),i<q3->q5 i=ZE.c (t_1.outs i))/\
 TxS.Ok t_1/\
 Z7 (Yf A t_1) (∃(N:Nat),
 let q21:=decide (N=q2);
 ∃(g:Nat->InS),
 ((q2=q2/\N=q2)/\∀(i:Nat),i<q2->q9 i=InS.c (g i))/\
 N<1000/\
 Z0 q4 (q6/\
 Z0 q4 (Z0 q7 (∃(N_1:Nat),
 let q23:=decide (N_1=q3);
 ∃(g_1:Nat->ZE),((q3=q3/\N_1=q3)/\∀(i:Nat),i<q3->q5 i=ZE.c (g_1 i))/\N_1<1000/\Z0 q7 (Z6 ((↑N:Int)=(↑q2:Int)) (Z0 q7 (Z0 q21 (Z6 (q2<=N) (Z0 q23 (Z6 (q3<=N_1) (a=a/\b=b/\Z0 q7 (Z0 q8 (q9=q9/\Z0 q8 (Z0 q4 (q6/\Z0 q4 (Z0 q21 (Zo 0 q10 q2 q9 (Zg g)/\Z0 q23 (Zo 0 q10 q3 q5 (Zf g_1)/\ZgA A Tg t a b G/\∀(i:Nat),i<=q2->(∀(j:Nat),j<i->(fun (i:Nat)=>i<q2) j)->(i=q2->Z7 (decide (q1=0)) False False)/\(False->False)/\(False->False))))))))))))))))))) True) (by kernel_rfl) ?_
 conv=>zeta
 try simp only [vcA]
 try simp only [vcB]
 try simp only [vcC]
 exact ⟨t,⟨rfl,⟨rfl,fun _ _=>rfl⟩,rfl,fun _ _=>rfl⟩,ht,fun k=>(by rw [hb] at k;cases k),fun _=>trivial⟩
theorem ZlV (A:List Int->Int×Int) (Tg:List Int->TxS->List Int) (t:TxS) (a b:List Int) (G:Nat->Nat->InS) (g:Nat->InS) (hC:ZgA A Tg t a b G) (hM:t.M<=24) (hg:g=G t.N):
  evF (ZdV A Tg t a b G) 20 43 [.agg t.c,.agg [.arr .u8 32 a],.agg [.arr .u8 32 b]] ⟨0,[]⟩ (ZF 0 (.ret (.tuple [.agg [.int .i64 t.num,.nslice ⟨0,0,130,0,0⟩ 130 t.N t.N,.nslice ⟨1,0,132,0,0⟩ 132 t.M t.M],.int .i64 0])) 2 [(0,.rows 130 t.N (Zg g)),(1,.rows 132 t.M (Zf t.outs))]):=by
 refine @Eq.mpr _ (let q1:=t.num;let q2:=t.N;let q3:=t.M;let q4:=decide (q3=q3);let q5:=Zf t.outs;let q6:=q5=q5;let q7:=decide (q1=q1);let q8:=decide (q2=q2);let q9:=Zg t.ins;let q10:=[(6,5),(5,4),(4,3),(3,0),(2,2),(1,1),(0,6)];let q11:=[(1,3),(0,2)];let q12:=decide (q2=0);let q13:=decide (q3=0);
 ∃(t_1:TxS),
 (t_1.num=q1/\((q2=q2/\t_1.N=q2)/\∀(i:Nat),i<q2->q9 i=InS.c (t_1.ins i))/\(q3=q3/\t_1.M=q3)/\∀(i:Nat),i<q3->q5 i=ZE.c (t_1.outs i))/\
 TxS.Ok t_1/\
 Z7 (Yf A t_1) (∃(N:Nat),
 let q27:=decide (N=q2);
 ∃(g_1:Nat->InS),
 ((q2=q2/\N=q2)/\∀(i:Nat),i<q2->q9 i=InS.c (g_1 i))/\
 N<1000/\
 Z0 q4 (q6/\
 Z0 q4 (Z0 q7 (∃(N_1:Nat),
 let q29:=decide (N_1=q3);
 ∃(g_2:Nat->ZE),((q3=q3/\N_1=q3)/\∀(i:Nat),i<q3->q5 i=ZE.c (g_2 i))/\N_1<1000/\Z0 q7 (Z6 ((↑N:Int)=(↑q2:Int)) (Z0 q7 (Z0 q27 (Z6 (q2<=N) (Z0 q29 (Z6 (q3<=N_1) (a=a/\b=b/\Z0 q7 (Z0 q8 (q9=q9/\Z0 q8 (Z0 q4 (q6/\Z0 q4 (Z0 q27 (Zo 0 q10 q2 q9 (Zg g_1)/\Z0 q29 (Zo 0 q10 q3 q5 (Zf g_2)/\ZgA A Tg t a b G/\∀(i:Nat),i<=q2->(∀(j:Nat),j<i->(fun (i:Nat)=>i<q2) j)->(i=q2->Z0 q7 (Z0 q8 (Z6 (q2<=q2) (Z0 q4 (Z6 (q3<=q3) (Z0 q8 (Zo 0 q11 q2 (Zg g) (Zg (G i))/\Z0 q4 (Zo 0 q11 q3 q5 q5/\True))))))))/\(False->False)/\(False->False))))))))))))))))))) (Z6 (0=q1) (Z0 q12 (Z0 q12 (Z0 q13 (Z7 q13 False False)))))) (by kernel_rfl) ?_
 conv=>zeta
 try simp only [vcA]
 try simp only [vcB]
 try simp only [vcC]
 have hN:=hC.hN
 refine ⟨t,⟨rfl,⟨rfl,fun _ _=>rfl⟩,rfl,fun _ _=>rfl⟩,hC.ht,fun _=>⟨t.N,t.ins,⟨rfl,fun _ _=>rfl⟩,by omega,t.M,t.outs,⟨rfl,fun _ _=>rfl⟩,by omega,rfl,rfl,J4 _,rfl,J4 _,rfl,Yc fun _ _=>rfl,rfl,ZK fun _ _=>rfl,hC,fun i hi _=>⟨fun he=>⟨Yc fun _ _=>by rw [he,hg];rfl,ZK fun _ _=>rfl⟩,fun h=>h,fun h=>h⟩⟩,fun k=> ?_⟩
 rw [hC.hc] at k;cases k
def Zht (A:List Int->Int×Int) (Tg:List Int->TxS->List Int):ZN:=fun args h K=>ZA none h true 20 args fun a=>match a with
 | [.agg l,.agg [.arr .u8 32 a],.agg [.arr .u8 32 b]]=>∃t,Z08 l t/\(t.Ok/\a.length=32/\b.length=32)/\(Yf A t=false->K (.ret (.tuple [.agg txZ,.int .i64 2])) h)/\
  (Yf A t=true->K (.ret (.tuple [.agg [.int .i64 t.num,.nslice ⟨h.next,0,130,0,0⟩ 130 t.N t.N,.nslice ⟨h.next+1,0,132,0,0⟩ 132 t.M t.M],.int .i64 0])) ⟨h.next+2,(h.next,.rows 130 t.N (Zg (Z3X Tg t a b t.N)))::(h.next+1,.rows 132 t.M (Zf t.outs))::h.bs⟩)
 | _=>False
theorem ZdW (args:List AV) (h:Z8) (K:KO) (hl:Zht ZB Zv args h K):Ze PP 43 args h K:=by
 refine Zs.fsumm (d:=20) (Zk _ _ _ _ _ hl fun a ha=> ?_)
 split at ha
 ·obtain ⟨t,h1,⟨h2,h3,h4⟩,k1,k2⟩:=ha
  cases hc:Yf ZB t with
  | false=>exact ⟨_,_,_,_,(Zs.evM (Z7e t _ _ (fun _=>t.ins)) (ZlU _ _ t _ _ _ h2 hc)).conv (fun E r hr=>hr.head (fun _ hc=>h1.rel hc) (fun _ hc=>hc)),rfl,trivial,k1 hc⟩
  | true=>
   have hf:=YY h2 hc
   exact ⟨_,_,_,_,(Zs.evM (Z7e t _ _ _) (ZlV _ _ t _ _ _ _ ⟨h2,hf.n,hc,h3,h4,rfl⟩ hf.m rfl)).conv (fun E r hr=>hr.head (fun _ hc=>h1.rel hc) (fun _ hc=>hc)),rfl,⟨by decide,.rows _ _ _ (fun i _=>(Z3X Zv t _ _ t.N i).plainC),by decide,.rows _ _ _ (fun i _=>(t.outs i).plainC),trivial⟩,k2 hc⟩
 ·exact ha.elim
def Znw (t:TxS) (a lo hi:List Int) (G:Nat->InS) (i:Nat):Z8:=⟨8,[(0,.flat t.c),(1,.flat [.arr .u8 32 lo]),(2,.flat [.arr .u8 32 hi]),(3,.flat [.int .i64 t.num,.nslice ⟨6,0,130,0,0⟩ 130 i i,.nslice ⟨7,0,132,0,0⟩ 132 t.M t.M]),(4,.flat [.arr .u8 32 a]),(5,.flat txZ),(6,.rows 130 i (Zg G)),(7,.rows 132 t.M (Zf t.outs))]⟩
def Znx:ZW:=[(3,.ptr (some ⟨0,0,0,0,0⟩)),(8,.ptr (some ⟨1,0,0,0,0⟩)),(9,.ptr (some ⟨2,0,0,0,0⟩)),(10,.ptr (some ⟨3,0,0,0,0⟩)),(4,.ptr (some ⟨4,0,0,0,0⟩)),(6,.ptr (some ⟨5,0,0,0,0⟩))]
def ZgB (t:TxS) (a lo hi:List Int) (G:Nat->InS) (i:Nat):St:=⟨69,(11,.int .i64 i)::Znx,Znw t a lo hi G i,[]⟩
def Zbk (t:TxS) (G:Nat->InS) (i:Nat):St:=⟨69,[(10,.ptr (some ⟨0,0,0,0,0⟩)),(6,.ptr (some ⟨1,0,0,0,0⟩))],⟨4,[(0,.flat [.int .i64 t.num,.nslice ⟨2,0,130,0,0⟩ 130 i i,.nslice ⟨3,0,132,0,0⟩ 132 t.M t.M]),(1,.flat txZ),(2,.rows 130 i (Zg G)),(3,.rows 132 t.M (Zf t.outs))]⟩,[]⟩
noncomputable def ZdX (Tg:List Int->TxS->List Int):Zd:=G0.withP 62 (Z3y Tg)
theorem Z9Z:(ZdX Wq).Ok:=Zd.withP_ok Zm Z5L
theorem ZlW (G:Nat->InS) (x:InS) {i j:Nat} (hj:j<i+1):ZT i (Zg G) (Y9 x.c 0 130) j=(if j=i then x else G j).c:=by
 by_cases e:j=i
 ·subst e;rw [if_pos rfl,Vj (J4 _),KA];rfl
 ·rw [if_neg e,Z22 (by omega)];rfl
theorem ZlX (Tg:List Int->TxS->List Int) (t:TxS) (a lo hj tl th ta:List Int) (G G1:Nat->InS) (i:Nat) (Z1 Z2:Prop) (ht:t.Fine) (ha:a.length=32) (hlo:lo.length=32) (hhj:hj.length=32) (htl:tl=Tg lo t) (hth:th=Tg hj t) (hta:ta=Tg a t) (hi:i<=t.N) (hG1:i<t.N->∀j,j<i+1->G1 j=if j=i then Z0K tl th ta (t.ins i) else G j) (h1:i<t.N->Z1) (h2:i=t.N->Z2):
  ZC (ZdX Tg) 20 120 0 0 (ZgB t a lo hj G i) (rdM 0 0 9 (ZgB t a lo hj G1 (i+1)) (Zbk t G i) (Zbk t G i) (Zbk t G i) Z1 Z2 False False):=by
 refine @Eq.mpr _ (let q1:=t.N;let q2:=t.ins (Int.toNat (↑i:Int));let q3:=q2.way;let q4:=t.num;let q5:=t.M;let q6:=decide (i=i);let q7:=i+1;let q8:=decide (q7*144<=140737488355328);let q9:=decide (wrap i64 ((↑i:Int)+1)=(↑q7:Int));let q10:=decide (q4=q4);let q11:=decide (q1=q1);let q12:=Zg t.ins;let q13:=q12=q12;let q14:=decide (q5=q5);let q15:=Zf t.outs;let q16:=q15=q15;let q17:=decide (q7=q7);let q18:=decide (q7<=q7);let q19:=decide (q5<=q5);let q20:=[(7,7),(6,10),(5,5),(4,4),(3,3),(2,2),(1,1),(0,0)];let q21:=Zg G1;let q22:=Zg G;let q23:=AV.arr u8 32 q2.name;let q24:=AV.int i64 q2.index;let q25:=AV.int i64 q3;let q26:=[AV.arr u8 32 q2.secret];let q27:=Z0 q14 (Zo 0 q20 q5 q15 q15/\Z1);let q28:=AV.arr u8 32 q2.also::q26;let q29:=[(3,7),(2,6),(1,5),(0,3)];
 Z7 (decide ((↑i:Int)<(↑q1:Int))) (Z6 (0<=(↑i:Int)/\(↑i:Int)<(↑q1:Int)) (Z7 (q3==1) (∃(t:TxS),(t.num=q4/\((q1=q1/\t.N=q1)/\∀(i:Nat),i<q1->q12 i=InS.c (t.ins i))/\(q5=q5/\t.M=q5)/\∀(i:Nat),i<q5->q15 i=ZE.c (t.outs i))/\(TxS.Fine t/\List.length lo=32)/\∃(t_1:TxS),(t_1.num=q4/\((q1=q1/\t_1.N=q1)/\∀(i:Nat),i<q1->q12 i=InS.c (t_1.ins i))/\(q5=q5/\t_1.M=q5)/\∀(i:Nat),i<q5->q15 i=ZE.c (t_1.outs i))/\(TxS.Fine t_1/\List.length hj=32)/\Z0 q6 (Z0 q8 (Z0 q9 (Z0 q10 (Z0 q11 (q13/\Z0 q11 (Z0 q14 (q16/\Z0 q14 (lo=lo/\hj=hj/\Z0 q10 (Z0 q17 (Z0 q18 (Z0 q14 (Z0 q19 (a=a/\Z0 q17 (Zo 0 q20 q7 q21 (ZT i q22 (Y9 (q23::q24::q25::AV.arr u8 32 (Tg lo t)::AV.arr u8 32 (Tg hj t_1)::q26) 0 130))/\q27))))))))))))))) (Z7 (q3==4) (Z0 q6 (Z0 q8 (Z0 q9 (Z0 q10 (Z0 q11 (q13/\Z0 q11 (Z0 q14 (q16/\Z0 q14 (lo=lo/\hj=hj/\Z0 q10 (Z0 q17 (Z0 q18 (Z0 q14 (Z0 q19 (a=a/\Z0 q17 (Zo 0 q20 q7 q21 (ZT i q22 (Y9 (q23::q24::q25::AV.arr u8 32 q2.tag::q28) 0 130))/\q27))))))))))))))) (∃(t:TxS),(t.num=q4/\((q1=q1/\t.N=q1)/\∀(i:Nat),i<q1->q12 i=InS.c (t.ins i))/\(q5=q5/\t.M=q5)/\∀(i:Nat),i<q5->q15 i=ZE.c (t.outs i))/\(TxS.Fine t/\List.length a=32)/\Z0 q6 (Z0 q8 (Z0 q9 (Z0 q10 (Z0 q11 (q13/\Z0 q11 (Z0 q14 (q16/\Z0 q14 (lo=lo/\hj=hj/\Z0 q10 (Z0 q17 (Z0 q18 (Z0 q14 (Z0 q19 (a=a/\Z0 q17 (Zo 0 q20 q7 q21 (ZT i q22 (Y9 (q23::q24::q25::AV.arr u8 32 (Tg a t)::q28) 0 130))/\q27)))))))))))))))))) (Z0 q10 (Z0 q6 (Z6 (i<=i) (Z0 q14 (Z0 q19 (Z0 q6 (Zo 0 q29 i q22 q22/\Z0 q14 (Zo 0 q29 q5 q15 q15/\Z2))))))))) (by kernel_rfl) ?_
 conv=>zeta
 try simp only [vcA]
 try simp only [vcB]
 try simp only [vcC]
 refine ⟨fun hlt'=> ?_,fun hge=>⟨Yc fun _ _=>rfl,ZK fun _ _=>rfl,h2 (by omega)⟩⟩
 have hlt:i<t.N:=by omega
 have hN:=ht.n
 have hwr:i64.wrap ((i:Int)+1)=((i+1:Nat):Int):=by rw [w64 (by omega)];omega
 have hG1:=hG1 hlt
 have hZ:=h1 hlt
 have hO:∀τ,Zo 0 τ t.M (Zf t.outs) (Zf t.outs):=fun τ=>ZK fun _ _=>rfl
 have hI:∀(τ:Ren) (X:List AV),X=(Z0K tl th ta (t.ins i)).c->Zo 0 τ (i+1) (Zg G1) (ZT i (Zg G) (Y9 X 0 130)):=fun τ X hX=>Yc fun j hj=>by
  rw [hX,ZlW G _ hj,hG1 j hj]
 refine ⟨by omega,fun k1=>⟨t,⟨rfl,⟨rfl,fun _ _=>rfl⟩,rfl,fun _ _=>rfl⟩,⟨ht,hlo⟩,t,⟨rfl,⟨rfl,fun _ _=>rfl⟩,rfl,fun _ _=>rfl⟩,⟨ht,hhj⟩,by omega,hwr,hI _ _ ?_,hO _,hZ⟩,fun k1=>⟨fun k2=>⟨by omega,hwr,hI _ _ ?_,hO _,hZ⟩,fun k2=>⟨t,⟨rfl,⟨rfl,fun _ _=>rfl⟩,rfl,fun _ _=>rfl⟩,⟨ht,ha⟩,by omega,hwr,hI _ _ ?_,hO _,hZ⟩⟩⟩
 ·have k1:(t.ins i).way=1:=by simpa using k1
  unfold Z0K
  rw [if_pos k1,<-htl,<-hth];rfl
 ·have k1:¬(t.ins i).way=1:=by simpa using k1
  have k2:(t.ins i).way=4:=by simpa using k2
  unfold Z0K
  rw [if_neg k1,if_pos k2];rfl
 ·have k1:¬(t.ins i).way=1:=by simpa using k1
  have k2:¬(t.ins i).way=4:=by simpa using k2
  unfold Z0K
  rw [if_neg k1,if_neg k2,<-hta];rfl
structure ZgC (Tg:List Int->TxS->List Int) (t:TxS) (a b lo hj:List Int) (G:Nat->InS):Prop where
 ht:t.Fine
 ha:a.length=32
 hb:b.length=32
 hlo:lo=loH a b
 hhj:hj=hiH a b
 hG:G=(Z7d Tg t a b).ins
noncomputable def ZdY (A:List Int->Int×Int) (Tg:List Int->TxS->List Int) (t:TxS) (a b lo hj:List Int) (G:Nat->InS):Zd:=(((ZdX Tg).withP 203 (Z8x A)).withP 204 ZdD).withL 120 0 (goM 0 (ZgB t a lo hj G 0) (ZgC Tg t a b lo hj G) (Yu 0 t.N 9 (fun i=>i<t.N) (fun i=>i=t.N) (fun _=>False) (fun _=>False) (fun i=>Zbk t G i) (fun i=>Zbk t G i) (fun i=>Zbk t G i)))
theorem Z7f (t:TxS) (a b lo hj:List Int) (G:Nat->InS):(ZdY ZB Wq t a b lo hj G).Ok:=by
 have h0:(((ZdX Wq).withP 203 (Z8x ZB)).withP 204 ZdD).Ok:=Zd.withP_ok (Zd.withP_ok Z9Z ZaW) Z9Q
 refine Zd.withL_join (H:=ZdX Wq) h0 rfl ?_
 exact Zd.withGoM (N:=20) (S:=fun i=>ZgB t a lo hj G i) Z9Z (by kernel_rfl) fun hC=>⟨rfl,fun i hi _=>by
  obtain ⟨c1,c2,c3,c4,c5,c6⟩:=hC
  subst c4 c5
  refine ZlX Wq t a _ _ _ _ _ G _ i _ _ c1 c2 (Z5T c2 c3) (Z5U c2 c3) rfl rfl rfl hi (fun hlt j hj=> ?_) (fun h=>⟨h,h⟩) (fun h=>h)
  by_cases e:j=i
  ·rw [if_pos e,e,c6];rfl
  ·rw [if_neg e]⟩
theorem ZlY (A:List Int->Int×Int) (Tg:List Int->TxS->List Int) (t:TxS) (a b lo hj:List Int) (G:Nat->InS) (ht:t.Ok) (hB:TxB t) (hb:Yf A t=false):
  evF (ZdY A Tg t a b lo hj G) 20 120 [.agg t.c,.agg [.arr .u8 32 a],.agg [.arr .u8 32 b]] ⟨0,[]⟩ (ZF 0 (.ret (.tuple [.agg txZ,.int .i64 2])) 0 []):=by
 refine @Eq.mpr _ (let q1:=t.num;let q2:=t.N;let q3:=t.M;let q4:=decide (q3=q3);let q5:=Zf t.outs;let q6:=q5=q5;let q7:=decide (q1=q1);let q8:=0+q3;let q9:=decide (q8*160<=140737488355328);let q10:=decide (q2=q2);let q11:=Zg t.ins;let q12:=q11=q11;let q13:=decide (q8=q3);let q14:=Z0 q7 (Z0 q13 (Z6 (q3<=q8) (a=a/\Z0 q13 (Zo 0 [(7,6),(5,3),(4,1),(3,7),(2,5),(1,4),(0,0)] q3 q5 (ZT 0 (fun (x:Nat)=>[]) q5)/\ZgC Tg t a b lo hj G/\∀(i:Nat),i<=q2->(∀(j:Nat),j<i->(fun (i:Nat)=>i<q2) j)->(i=q2->Z7 (decide (q1=0)) False False)/\(False->False)/\(False->False)))));
 ∃(t:TxS),(t.num=q1/\((q2=q2/\t.N=q2)/\∀(i:Nat),i<q2->q11 i=InS.c (t.ins i))/\(q3=q3/\t.M=q3)/\∀(i:Nat),i<q3->q5 i=ZE.c (t.outs i))/\TxS.Ok t/\TxB t/\Z7 (!Yf A t) True (b=b/\b=b/\b=b/\(List.length a=32/\List.length b=32)/\Bytes a/\Bytes b/\Z7 (decide (X2 a b>0)) (a=a/\Z0 q4 (q6/\Z0 q4 (Z0 q7 (Z0 q9 (Z0 q7 (Z0 q7 (Z0 q10 (q12/\Z0 q10 (Z0 q4 (q6/\Z0 q4 (b=lo/\a=hj/\q14))))))))))) (Z0 q4 (q6/\Z0 q4 (Z0 q7 (Z0 q9 (Z0 q7 (Z0 q7 (Z0 q10 (q12/\Z0 q10 (Z0 q4 (q6/\Z0 q4 (a=lo/\b=hj/\q14))))))))))))) (by kernel_rfl) ?_
 conv=>zeta
 try simp only [vcA]
 try simp only [vcB]
 try simp only [vcC]
 exact ⟨t,⟨rfl,⟨rfl,fun _ _=>rfl⟩,rfl,fun _ _=>rfl⟩,ht,hB,fun _=>trivial,fun k=>by rw [hb] at k;cases k⟩
theorem ZlZ (A:List Int->Int×Int) (Tg:List Int->TxS->List Int) (t:TxS) (a b lo hj:List Int) (G:Nat->InS) (hC:ZgC Tg t a b lo hj G) (ht:t.Ok) (hB:TxB t) (hc:Yf A t=true) (hba:Bytes a) (hbb:Bytes b):
  evF (ZdY A Tg t a b lo hj G) 20 120 [.agg t.c,.agg [.arr .u8 32 a],.agg [.arr .u8 32 b]] ⟨0,[]⟩ (ZF 0 (.ret (.tuple [.agg [.int .i64 t.num,.nslice ⟨0,0,130,0,0⟩ 130 t.N t.N,.nslice ⟨1,0,132,0,0⟩ 132 t.M t.M],.int .i64 0])) 2 [(0,.rows 130 t.N (Zg G)),(1,.rows 132 t.M (Zf t.outs))]):=by
 refine @Eq.mpr _ (let q1:=t.num;let q2:=t.N;let q3:=t.M;let q4:=decide (q2=0);let q5:=decide (q3=0);let q6:=decide (q3=q3);let q7:=Zf t.outs;let q8:=q7=q7;let q9:=decide (q1=q1);let q10:=0+q3;let q11:=decide (q10*160<=140737488355328);let q12:=decide (q2=q2);let q13:=Zg t.ins;let q14:=q13=q13;let q15:=decide (q10=q3);let q16:=[(1,3),(0,2)];let q17:=Z0 q9 (Z0 q15 (Z6 (q3<=q10) (a=a/\Z0 q15 (Zo 0 [(7,6),(5,3),(4,1),(3,7),(2,5),(1,4),(0,0)] q3 q7 (ZT 0 (fun (x:Nat)=>[]) q7)/\ZgC Tg t a b lo hj G/\∀(i:Nat),i<=q2->(∀(j:Nat),j<i->(fun (i:Nat)=>i<q2) j)->(i=q2->Z0 q9 (Z6 (i=q2) (Z6 (q2<=i) (Z0 q6 (Z6 (q3<=q3) (Z6 (i=q2) (Zo 0 q16 q2 (Zg G) (Zg G)/\Z0 q6 (Zo 0 q16 q3 q7 q7/\True))))))))/\(False->False)/\(False->False)))));
 ∃(t:TxS),(t.num=q1/\((q2=q2/\t.N=q2)/\∀(i:Nat),i<q2->q13 i=InS.c (t.ins i))/\(q3=q3/\t.M=q3)/\∀(i:Nat),i<q3->q7 i=ZE.c (t.outs i))/\TxS.Ok t/\TxB t/\Z7 (!Yf A t) (Z6 (0=q1) (Z0 q4 (Z0 q4 (Z0 q5 (Z7 q5 False False))))) (b=b/\b=b/\b=b/\(List.length a=32/\List.length b=32)/\Bytes a/\Bytes b/\Z7 (decide (X2 a b>0)) (a=a/\Z0 q6 (q8/\Z0 q6 (Z0 q9 (Z0 q11 (Z0 q9 (Z0 q9 (Z0 q12 (q14/\Z0 q12 (Z0 q6 (q8/\Z0 q6 (b=lo/\a=hj/\q17))))))))))) (Z0 q6 (q8/\Z0 q6 (Z0 q9 (Z0 q11 (Z0 q9 (Z0 q9 (Z0 q12 (q14/\Z0 q12 (Z0 q6 (q8/\Z0 q6 (a=lo/\b=hj/\q17))))))))))))) (by kernel_rfl) ?_
 conv=>zeta
 try simp only [vcA]
 try simp only [vcB]
 try simp only [vcC]
 have hM:=hC.ht.m
 have hlo:=hC.hlo
 have hhj:=hC.hhj
 unfold loH at hlo
 unfold hiH at hhj
 have hO:∀τ,Zo 0 τ t.M (Zf t.outs) (ZT 0 (fun _=>[]) (Zf t.outs)):=fun τ=>ZK fun j _=>by rw [Vj (JC _)];rfl
 refine ⟨t,⟨rfl,⟨rfl,fun _ _=>rfl⟩,rfl,fun _ _=>rfl⟩,ht,hB,fun k=> ?_,fun _=>⟨⟨hC.ha,hC.hb⟩,hba,hbb,fun k=> ?_,fun k=> ?_⟩⟩
 ·rw [hc] at k;cases k
 ·rw [if_pos k] at hlo hhj
  exact ⟨by omega,hlo.symm,hhj.symm,hO _,hC,fun i hi _=>⟨fun he=>⟨he,by omega,he,Yc fun _ _=>rfl,ZK fun _ _=>rfl⟩,fun h=>h,fun h=>h⟩⟩
 ·rw [if_neg k] at hlo hhj
  exact ⟨by omega,hlo.symm,hhj.symm,hO _,hC,fun i hi _=>⟨fun he=>⟨he,by omega,he,Yc fun _ _=>rfl,ZK fun _ _=>rfl⟩,fun h=>h,fun h=>h⟩⟩
theorem ZgD {t:TxS} {a b:List Int} (hf:t.Fine) (hA:QG t) (ha:a.length=32) (hb:b.length=32):Z7d Wq t a b=Z7d Zv t a b:=by
 unfold Z7d
 rw [Z2a hf hA ha,Z2a hf hA (Z5T ha hb),Z2a hf hA (Z5U ha hb)]
def Zhu (A:List Int->Int×Int) (Tg:List Int->TxS->List Int):ZN:=fun args h K=>ZA none h true 20 args fun a=>match a with
 | [.agg l,.agg [.arr .u8 32 a],.agg [.arr .u8 32 b]]=>∃t,Z08 l t/\(t.Ok/\QG t/\(a.length=32/\b.length=32)/\Bytes a/\Bytes b)/\(Yf A t=false->K (.ret (.tuple [.agg txZ,.int .i64 2])) h)/\
  (Yf A t=true->K (.ret (.tuple [.agg [.int .i64 t.num,.nslice ⟨h.next,0,130,0,0⟩ 130 t.N t.N,.nslice ⟨h.next+1,0,132,0,0⟩ 132 t.M t.M],.int .i64 0])) ⟨h.next+2,(h.next,.rows 130 t.N (Zg (Z7d Tg t a b).ins))::(h.next+1,.rows 132 t.M (Zf t.outs))::h.bs⟩)
 | _=>False
theorem ZdZ (args:List AV) (h:Z8) (K:KO) (hl:Zhu ZB Zv args h K):Ze PP 120 args h K:=by
 refine Zs.fsumm (d:=20) (Zk _ _ _ _ _ hl fun a ha=> ?_)
 split at ha
 ·rename_i l a b
  obtain ⟨t,h1,⟨h2,h3,⟨h4,h5⟩,h6,h7⟩,k1,k2⟩:=ha
  cases hc:Yf ZB t with
  | false=>exact ⟨_,_,_,_,(Zs.evM (Z7f t a b (loH a b) (hiH a b) t.ins) (ZlY _ _ t _ _ _ _ _ h2 h3.b hc)).conv (fun E r hr=>hr.head (fun _ hc=>h1.rel hc) (fun _ hc=>hc)),rfl,trivial,k1 hc⟩
  | true=>
   have hf:=YY h2 hc
   refine ⟨_,_,_,_,(Zs.evM (Z7f t a b (loH a b) (hiH a b) _) (ZlZ _ _ t _ _ _ _ _ ⟨hf,h4,h5,rfl,rfl,rfl⟩ h2 h3.b hc h6 h7)).conv (fun E r hr=>hr.head (fun _ hc=>h1.rel hc) (fun _ hc=>hc)),rfl,⟨by decide,.rows _ _ _ (fun i _=>((Z7d Wq t a b).ins i).plainC),by decide,.rows _ _ _ (fun i _=>(t.outs i).plainC),trivial⟩, ?_⟩
   rw [ZgD hf h3 h4 h5]
   exact k2 hc
 ·exact ha.elim
theorem Spec.evK (hG:G.Ok) {n:Nat} {f:FuncId} {h0:Z8} {o:Out} {nx:Nat} {bs:List (Nat×Blk)} {K:KO} (h:evF G n f args h0 K) (hk:∀o' h',K o' h'->ZF h0.next o nx bs o' h'):Spec G.P f args h0 o nx bs:=by
 intro E w rs he hl
 refine (ZX hG h E w rs he hl).mono ?_
 rintro e w' ⟨E',o',h',hK0,hev,hor⟩
 have hK:=hk _ _ hK0
 unfold ZF at hK
 cases o with
 | ret v=>
  cases hor with
  | ret u r hr=>
   obtain ⟨E₂,h1,h2⟩:=Z20 rfl hK he hev hr
   exact ⟨E₂,h1,.ret _ _ h2⟩
  | panic u r hr=>exact hK.elim
 | panic v=>
  cases hor with
  | panic u r hr=>
   obtain ⟨E₂,h1,h2⟩:=Z20 rfl hK he hev hr
   exact ⟨E₂,h1,.panic _ _ h2⟩
  | ret u r hr=>exact hK.elim
def wrH (N:Nat) (xs:List Int):Z8:=⟨2,[(0,.flat [.nslice ⟨1,0,0,0,0⟩ 1 N N,.bool true]),(1,.ints .u8 xs)]⟩
theorem Zny (hh:List Int) (hq:hh.length=32):
  evF G0 20 55 [.ptr (some ⟨0,0,0,0,0⟩),.vrows 32 1 (fun _=>[.arr .u8 32 hh]) 1] ⟨1,[(0,.flat [.nilslice,.bool true])]⟩ (ZF 1 (.ret (.int .i64 0)) 2 [(0,.flat [.nslice ⟨1,0,0,0,0⟩ 1 32 32,.bool true]),(1,.ints .u8 hh)]):=by
 refine @Eq.mpr _ (let q1:=[]++hh;let q2:=List.length q1;
 Z6 (u8=u8/\List.length hh=32) (Z6 (q2*1<=140737488355328) (Z6 (q2=32) (Z6 (32<=q2) (q1=hh/\True))))) (by kernel_rfl) ?_
 conv=>zeta
 try simp only [vcA]
 try simp only [vcB]
 try simp only [vcC]
 simp only [JZ]
 repeat' apply Jc
 all_goals first|trivial|omega|rfl|assumption
theorem Znz (xs ys:List Int) (N L:Nat) (b:Bool) (hN:xs.length=N) (hB:N<80000000000000) (hy:ys=xs++[cond b 1 0]) (hL:L=ys.length):
  evF G0 20 56 [.ptr (some ⟨0,0,0,0,0⟩),.vrows 1 1 (fun _=>[.bool b]) 1] (wrH N xs) (ZF 2 (.ret (.int .i64 0)) 3 [(0,.flat [.nslice ⟨2,0,0,0,0⟩ 1 L L,.bool true]),(2,.ints .u8 ys)]):=by
 refine @Eq.mpr _ (let q1:=decide (u8=u8/\List.length xs=N);let q2:=xs++[(1:Int)];let q3:=List.length q2;let q4:=xs++[(0:Int)];let q5:=List.length q4;
 Z7 b (Z0 q1 (Z6 (q3*1<=140737488355328) (Z6 (q3=L) (Z6 (L<=q3) (q2=ys/\True))))) (Z0 q1 (Z6 (q5*1<=140737488355328) (Z6 (q5=L) (Z6 (L<=q5) (q4=ys/\True)))))) (by kernel_rfl) ?_
 conv=>zeta
 try simp only [vcA]
 try simp only [vcB]
 try simp only [vcC]
 subst hN hy hL
 refine ⟨fun h=> ?_,fun h=> ?_⟩
 all_goals subst h
 all_goals repeat' apply Jc
 all_goals first|omega|rfl|(simp only [J7,Js,Jy]<;>omega)
def Ze0 (h:Z8) (w b:Nat) (ys:List Int):Z8:=⟨h.next+1,(w,.flat [.nslice ⟨h.next,0,0,0,0⟩ 1 ys.length ys.length,.bool true])::(h.next,.ints .u8 ys)::Yl (Yl h.bs w) b⟩
def Zjg (W:Int->List Int) (T:Int) (B:Nat):ZN:=fun args h K=>match args with
 | [.ptr (some ⟨w,0,0,0,0⟩),_]=>match h.get w with
  |some (.flat [.nslice ⟨b,0,0,0,0⟩ 1 _ _,.bool true])=>frA [w,b] h 20 args fun Bs a=>match Bs,a with
   | [.flat [.nslice ⟨1,0,0,0,0⟩ 1 N M,.bool true],.ints .u8 xs],[.ptr (some ⟨0,0,0,0,0⟩),.vints .i64 [x] 1]=>
    Z6 (xs.length=N/\M=N/\N<B/\0<=x/\x<=T) (K (.ret (.int .i64 0)) (Ze0 h w b (xs++W x)))
   | _,_=>False
  | _=>False
 | _=>False
theorem ZgE (args:List AV) (h:Z8) (K:KO) (hl:Zjg Zu 4611686018427387904 80000000000000 args h K):Ze PP 54 args h K:=by
 unfold Zjg at hl
 split at hl
 ·split at hl
  ·refine Spec.fsumm hl fun Bs a hlen hK0=> ?_
   split at hK0
   ·obtain ⟨⟨h1,rfl,h2,k0⟩,hK⟩:=Zb hK0
    exact ⟨_,_,_,_,_,.evM Z23 (ZcW _ _ _ _ _ _ _ _ rfl h1 (by omega) k0 rfl rfl),by simp,.ret _ _ rfl,.cons _ _ _ _ _ _ rfl (.flat _ _ rfl) (.cons _ _ _ _ _ _ rfl (.ints _ _) .nil),hK⟩
   ·exact hK0.elim
  ·exact hl.elim
 ·exact hl.elim
def Zjh (B:Nat):ZN:=fun args h K=>match args with
 | [.ptr (some ⟨w,0,0,0,0⟩),_]=>match h.get w with
  |some (.flat [.nslice ⟨b,0,0,0,0⟩ 1 _ _,.bool true])=>frA [w,b] h 20 args fun Bs a=>match Bs,a with
   | [.flat [.nslice ⟨1,0,0,0,0⟩ 1 N M,.bool true],.ints .u8 xs],[.ptr (some ⟨0,0,0,0,0⟩),.vrows 32 1 f 1]=>match f 0 with
    | [.arr .u8 32 hh]=>Z6 (xs.length=N/\M=N/\N<B/\hh.length=32) (K (.ret (.int .i64 0)) (Ze0 h w b (xs++hh)))
    | _=>False
   | _,_=>False
  | some (.flat [.nilslice,.bool true])=>frA [w] h 20 args fun Bs a=>match Bs,a with
   | [.flat [.nilslice,.bool true]],[.ptr (some ⟨0,0,0,0,0⟩),.vrows 32 1 f 1]=>match f 0 with
    | [.arr .u8 32 hh]=>Z6 (hh.length=32) (K (.ret (.int .i64 0)) ⟨h.next+1,(w,.flat [.nslice ⟨h.next,0,0,0,0⟩ 1 32 32,.bool true])::(h.next,.ints .u8 hh)::Yl h.bs w⟩)
    | _=>False
   | _,_=>False
  | _=>False
 | _=>False
theorem ZgF (args:List AV) (h:Z8) (K:KO) (hl:Zjh 80000000000000 args h K):Ze PP 55 args h K:=by
 unfold Zjh at hl
 split at hl
 ·split at hl
  ·refine Spec.fsumm hl fun Bs a hlen hK0=> ?_
   split at hK0
   ·split at hK0
    case h_2=>exact hK0.elim
    rename_i hh hf
    obtain ⟨⟨h1,rfl,h2,h3⟩,hK⟩:=Zb hK0
    refine ⟨_,_,_,_,_,(Spec.evM Zm (Z9B _ hh _ _ _ _ h1 (by omega) h3 rfl rfl)).conv fun E r hr=>hr.head (fun _ hc=>hc) fun _ hc=>hc.head (fun _ hc=>hc.rowsC ?_) fun _ hc=>hc,by simp,.ret _ _ rfl,.cons _ _ _ _ _ _ rfl (.flat _ _ rfl) (.cons _ _ _ _ _ _ rfl (.ints _ _) .nil),hK⟩
    intro i hi
    have:i=0:=by omega
    subst this
    exact hf
   ·exact hK0.elim
  ·refine Spec.fsumm hl fun Bs a hlen hK0=> ?_
   split at hK0
   ·split at hK0
    case h_2=>exact hK0.elim
    rename_i hh hf
    obtain ⟨h3,hK⟩:=Zb hK0
    refine ⟨_,_,_,_,_,(Spec.evM Zm (Zny hh h3)).conv fun E r hr=>hr.head (fun _ hc=>hc) fun _ hc=>hc.head (fun _ hc=>hc.rowsC ?_) fun _ hc=>hc,by simp,.ret _ _ rfl,.cons _ _ _ _ _ _ rfl (.flat _ _ rfl) (.cons _ _ _ _ _ _ rfl (.ints _ _) .nil),hK⟩
    intro i hi
    have:i=0:=by omega
    subst this
    exact hf
   ·exact hK0.elim
  ·exact hl.elim
 ·exact hl.elim
def wtG (B:Nat):ZN:=fun args h K=>match args with
 | [.ptr (some ⟨w,0,0,0,0⟩),_]=>match h.get w with
  |some (.flat [.nslice ⟨b,0,0,0,0⟩ 1 _ _,.bool true])=>frA [w,b] h 20 args fun Bs a=>match Bs,a with
   | [.flat [.nslice ⟨1,0,0,0,0⟩ 1 N M,.bool true],.ints .u8 xs],[.ptr (some ⟨0,0,0,0,0⟩),.vrows 1 1 f 1]=>match f 0 with
    | [.bool t]=>Z6 (xs.length=N/\M=N/\N<B) (K (.ret (.int .i64 0)) (Ze0 h w b (xs++[cond t 1 0])))
    | _=>False
   | _,_=>False
  | _=>False
 | _=>False
theorem Zji (args:List AV) (h:Z8) (K:KO) (hl:wtG 80000000000000 args h K):Ze PP 56 args h K:=by
 unfold wtG at hl
 split at hl
 ·split at hl
  ·refine Spec.fsumm hl fun Bs a hlen hK0=> ?_
   split at hK0
   ·split at hK0
    case h_2=>exact hK0.elim
    rename_i t hf
    obtain ⟨⟨h1,rfl,h2⟩,hK⟩:=Zb hK0
    refine ⟨_,_,_,_,_,(Spec.evM Zm (Znz _ _ _ _ t h1 h2 rfl rfl)).conv fun E r hr=>hr.head (fun _ hc=>hc) fun _ hc=>hc.head (fun _ hc=>hc.rowsC ?_) fun _ hc=>hc,by simp,.ret _ _ rfl,.cons _ _ _ _ _ _ rfl (.flat _ _ rfl) (.cons _ _ _ _ _ _ rfl (.ints _ _) .nil),hK⟩
    intro i hi
    have:i=0:=by omega
    subst this
    exact hf
   ·exact hK0.elim
  ·exact hl.elim
 ·exact hl.elim
structure ClS where
 t:Zj
 side:Int
 a0:Int
 a1:Int
 least:Int
 most:Int
 offers:Bool
 last:Int
 agrees:Bool
 fee:Int
def ClS.c (k:ClS):List AV:=k.t.c++[.int .i64 k.side,.arr .i64 2 [k.a0,k.a1],.int .i64 k.least,.int .i64 k.most,.bool k.offers,.int .i64 k.last,.bool k.agrees,.int .i64 k.fee]
def nP:AV:=.ptr none
def ptA (x o i:Nat):AV:=.ptr (some ⟨x,0,0,o,i⟩)
def Zm0 (x y:Nat):List (List AV):=[[nP,ptA x 0 0,nP],[ptA x 32 0,nP,nP],[ptA x 33 0,nP,nP],[ptA x 34 0,nP,nP],[ptA x 35 0,nP,nP],[ptA x 36 0,nP,nP],[nP,ptA x 37 0,nP],[nP,ptA x 69 0,nP],
 [ptA y 0 0,nP,nP],[ptA x 102 0,nP,nP],[ptA x 102 1,nP,nP],[ptA x 104 0,nP,nP],[ptA x 105 0,nP,nP],[nP,nP,ptA x 106 0],[ptA x 107 0,nP,nP],[nP,nP,ptA x 108 0],[ptA x 109 0,nP,nP]]
def PF (x y i:Nat):List AV:=(Zm0 x y).getD i []
def clH (k:ClS) (s:Int):List (Nat×Blk):=[(0,.flat (k.c++[.bool true])),(1,.flat [.int .i64 s])]
theorem ZnA (k:ClS) (s:Int) :
  evF G0 20 53 [.ptr (some ⟨0,0,0,0,0⟩),.ptr (some ⟨1,0,0,0,0⟩)] ⟨2,clH k s⟩ (ZF 2 (.ret (.func (.func 115) [] [.ptr (some ⟨2,0,0,0,0⟩)])) 4 (clH k s++[(2,.flat [.nslice ⟨3,0,3,0,0⟩ 3 17 17]),(3,.rows 3 17 (PF 0 1))])):=by
 refine @Eq.mpr _ (let q1:=k.t;let q2:=q1.fund;let q3:=q1.index;let q4:=q1.cap;let q5:=q1.dust;let q6:=q1.fee;let q7:=q1.delay;let q8:=q1.k0;let q9:=q1.k1;let q10:=[k.a0,k.a1];let q11:=AV.ptr none;let q12:=[q11];let q13:=q11::q12;let q14:=( q2=q2/\
 Z6 (q3=q3) (Z6 (q4=q4) (Z6 (q5=q5) (Z6 (q6=q6) (Z6 (q7=q7) (q8=q8/\
 q9=q9/\
 Z6 (k.side=k.side) (q10=q10/\
 Z6 (k.least=k.least) (Z6 (k.most=k.most) (Z6 (k.offers=k.offers) (Z6 (k.last=k.last) (Z6 (k.agrees=k.agrees) (Z6 (k.fee=k.fee) (Z6 (s=s) (Zo 2 [(3,31),(2,15)] 17 (PF 0 1)
 (ZT 13 (ZT 8 (ZT 6 (ZT 1 (Y9 (q11::AV.ptr (some (ZM.mk 0 0 0 0 0))::q12) 0 3) (Yj 0 (ZT 4 (ZT 3 (ZT 2 (ZT 1 (ZT 0 (fun (x:Nat)=>[]) (Y9 (AV.ptr (some (ZM.mk 0 0 0 32 0))::q13) 0 3)) (Y9 (AV.ptr (some (ZM.mk 0 0 0 33 0))::q13) 0 3)) (Y9 (AV.ptr (some (ZM.mk 0 0 0 34 0))::q13) 0 3)) (Y9 (AV.ptr (some (ZM.mk 0 0 0 35 0))::q13) 0 3)) (Y9 (AV.ptr (some (ZM.mk 0 0 0 36 0))::q13) 0 3)))) (Y9 (q11::AV.ptr (some (ZM.mk 0 0 0 37 0))::q11::q11::AV.ptr (some (ZM.mk 0 0 0 69 0))::q12) 0 3)) (Yj 0 (ZT 4 (ZT 3 (ZT 2 (ZT 1 (ZT 0 (fun (x:Nat)=>[]) (Y9 (AV.ptr (some (ZM.mk 1 0 0 0 0))::q13) 0 3)) (Y9 (AV.ptr (some (ZM.mk 0 0 0 102 0))::q13) 0 3)) (Y9 (AV.ptr (some (ZM.mk 0 0 0 102 1))::q13) 0 3)) (Y9 (AV.ptr (some (ZM.mk 0 0 0 104 0))::q13) 0 3)) (Y9 (AV.ptr (some (ZM.mk 0 0 0 105 0))::q13) 0 3))))
 (Y9 (q11::q11::AV.ptr (some (ZM.mk 0 0 0 106 0))::AV.ptr (some (ZM.mk 0 0 0 107 0))::q11::q11::q11::q11::AV.ptr (some (ZM.mk 0 0 0 108 0))::AV.ptr (some (ZM.mk 0 0 0 109 0))::q13) 0 3))/\
 True))))))))))))));
 q14/\q14/\q14) (by kernel_rfl) ?_
 conv=>zeta
 try simp only [vcA]
 try simp only [vcB]
 try simp only [vcC]
 repeat' apply Jc
 all_goals first
  | rfl
  | trivial
  |exact .mk fun i hi=>by
    have h17:i=0\/i=1\/i=2\/i=3\/i=4\/i=5\/i=6\/i=7\/i=8\/i=9\/i=10\/i=11\/i=12\/i=13\/i=14\/i=15\/i=16:=by omega
    rcases h17 with h|h|h|h|h|h|h|h|h|h|h|h|h|h|h|h|h<;>subst h<;>(refine Eq.mpr (?_:_=True) trivial;kernel_rfl)
def Z8S:ZN:=fun args h K=>match args with
 | [.ptr (some ⟨x,0,0,0,0⟩),.ptr (some ⟨y,0,0,0,0⟩)]=>frA [x,y] h 20 args fun Bs a=>match Bs,a with
  | [.flat cs,.flat [.int .i64 s]],[.ptr (some ⟨0,0,0,0,0⟩),.ptr (some ⟨1,0,0,0,0⟩)]=>∃k:ClS,cs=k.c++[.bool true]/\
   K (.ret (.func (.func 115) [] [.ptr (some ⟨h.next,0,0,0,0⟩)])) ⟨h.next+2,(x,.flat (k.c++[.bool true]))::(y,.flat [.int .i64 s])::(h.next,.flat [.nslice ⟨h.next+1,0,3,0,0⟩ 3 17 17])::(h.next+1,.rows 3 17 (PF x y))::Yl (Yl h.bs x) y⟩
  | _,_=>False
 | _=>False
theorem Zm1 (x y d i:Nat) (hi:i<17):mvC [x,y] d (PF 0 1 i)=some (PF x y i):=by
 have h17:i=0\/i=1\/i=2\/i=3\/i=4\/i=5\/i=6\/i=7\/i=8\/i=9\/i=10\/i=11\/i=12\/i=13\/i=14\/i=15\/i=16:=by omega
 rcases h17 with h|h|h|h|h|h|h|h|h|h|h|h|h|h|h|h|h<;>subst h<;>rfl
theorem Zbl (args:List AV) (h:Z8) (K:KO) (hl:Z8S args h K):Ze PP 53 args h K:=by
 unfold Z8S at hl
 split at hl
 ·refine Spec.fsumm hl fun Bs a hlen hK0=> ?_
  split at hK0
  ·rename_i cs s
   obtain ⟨k,rfl,hK⟩:=hK0
   exact ⟨_,_,_,_,_,.evM Zm (ZnA k s),by simp,.ret _ _ rfl,.cons _ _ _ _ _ _ rfl (.flat _ _ rfl) (.cons _ _ _ _ _ _ rfl (.flat _ _ rfl) (.cons _ _ _ _ _ _ rfl (.flat _ _ rfl) (.cons _ _ _ _ _ _ rfl (.rowsM _ _ _ _ fun i hi=>Zm1 _ _ _ i hi) .nil))),hK⟩
  ·exact hK0.elim
 ·exact hl.elim
def tru (b:Bool):List Int:=[cond b 1 0]
def XV (W:Int->List Int) (k:ClS):List Int:=k.t.fund++W k.t.index++W k.t.cap++W k.t.dust++W k.t.fee++W k.t.delay++k.t.k0++k.t.k1++W k.side++W k.a0++W k.a1++W k.least++W k.most++tru k.offers++W k.last++tru k.agrees++W k.fee
noncomputable def Zm2 (W:Int->List Int) (T:Int) (B:Nat):Zd:=((((G0.withF 53 Z8S).withF 54 (Zjg W T B)).withF 55 (Zjh B)).withF 56 (wtG B)).withF 119 Z5B
theorem ZgG:(Zm2 Zu 4611686018427387904 80000000000000).Ok:=Zd.withF_ok (Zd.withF_ok (Zd.withF_ok (Zd.withF_ok (Zd.withF_ok Zm Zbl) ZgE) ZgF) Zji) Z3j
structure Ze1 (T:Int) (k:ClS):Prop where
 ix:0<=k.t.index/\k.t.index<=T
 ca:0<=k.t.cap/\k.t.cap<=T
 du:0<=k.t.dust/\k.t.dust<=T
 fe:0<=k.t.fee/\k.t.fee<=T
 de:0<=k.t.delay/\k.t.delay<=T
 sd:0<=k.side/\k.side<=T
 a0:0<=k.a0/\k.a0<=T
 a1:0<=k.a1/\k.a1<=T
 le:0<=k.least/\k.least<=T
 mo:0<=k.most/\k.most<=T
 la:0<=k.last/\k.last<=T
 fee:0<=k.fee/\k.fee<=T
theorem Zm3 (W:Int->List Int) (T:Int) (B n:Nat) (k:ClS) (ys:List Int) (hk:Ze1 T k) (hf:k.t.fund.length=32) (h0:k.t.k0.length=32) (h1:k.t.k1.length=32) (hy:ys=XV W k) (hn:n=ys.length) (h9:∀v,(W v).length<=9) (hB:1000<B) (hB2:B<90000000000000):
  evF (Zm2 W T B) 20 21 [.ptr (some ⟨0,0,0,0,0⟩)] ⟨1,[(0,.flat (k.c++[.bool true]))]⟩ (ZF 1 (.ret (.nslice ⟨1,0,0,0,0⟩ 1 n n)) 2 [(0,.flat (k.c++[.bool true])),(1,.ints .u8 ys)]):=by
 refine @Eq.mpr _ (let q1:=k.side;let q2:=decide (q1=q1);let q3:=k.t;let q4:=q3.fund;let q5:=q3.index;let q6:=q3.cap;let q7:=q3.dust;let q8:=q3.fee;let q9:=q3.delay;let q10:=q3.k0;let q11:=q3.k1;let q12:=[k.a0,k.a1];let q13:=[AV.bool true];
 Z0 q2 (Z0 q2 (Z0 q2 (Z0 q2 (∃(k_1:ClS),
 let q27:=k_1.t;let q28:=q27.fund;let q29:=q27.index;let q30:=q27.cap;let q31:=q27.dust;let q32:=q27.fee;let q33:=q27.delay;let q34:=q27.k0;let q35:=q27.k1;let q36:=k_1.a0;let q37:=k_1.a1;let q38:=[q36,q37];let q39:=k_1.least;let q40:=k_1.most;let q41:=k_1.offers;let q42:=k_1.last;let q43:=k_1.agrees;let q44:=k_1.fee;let q45:=q28++W q29;let q46:=List.length q45;let q47:=q45++W q30;let q48:=List.length q47;let q49:=q47++W q31;let q50:=List.length q49;let q51:=q49++W q32;let q52:=List.length q51;let q53:=q51++W q33;let q54:=List.length q53;let q55:=q53++q34;let q56:=List.length q55;let q57:=q55++q35;let q58:=List.length q57;let q59:=q57++W q1;let q60:=List.length q59;let q61:=q59++W q36;let q62:=List.length q61;let q63:=q61++W q37;let q64:=List.length q63;let q65:=q63++W q39;let q66:=List.length q65;let q67:=q65++W q40;let q68:=List.length q67;let q69:=q67++[bif q41 then 1 else 0];let q70:=List.length q69;let q71:=q69++W q42;let q72:=List.length q71;let q73:=q71++[bif q43 then 1 else 0];let q74:=List.length q73;let q75:=q73++W q44;let q76:=List.length q75;let q77:=List.take q76 (Y0 0 q75);
 AV.arr u8 32 q4::AV.int i64 q5::AV.int i64 q6::AV.int i64 q7::AV.int i64 q8::AV.int i64 q9::AV.arr u8 32 q10::AV.arr u8 32 q11::AV.int i64 q1::AV.arr i64 2 q12::AV.int i64 k.least::AV.int i64 k.most::AV.bool k.offers::AV.int i64 k.last::AV.bool k.agrees::AV.int i64 k.fee::q13=AV.arr u8 32 q28::AV.int i64 q29::AV.int i64 q30::AV.int i64 q31::AV.int i64 q32::AV.int i64 q33::AV.arr u8 32 q34::AV.arr u8 32 q35::AV.int i64 k_1.side::AV.arr i64 2 q38::AV.int i64 q39::AV.int i64 q40::AV.bool q41::AV.int i64 q42::AV.bool q43::AV.int i64 q44::q13/\
 Z6 (List.length q28=32) (Z6 (List.length q28=32/\(32:Nat)=32/\32<B/\0<=q29/\q29<=T) (Z6 (q46=q46/\q46=q46/\q46<B/\0<=q30/\q30<=T) (Z6 (q48=q48/\q48=q48/\q48<B/\0<=q31/\q31<=T) (Z6 (q50=q50/\q50=q50/\q50<B/\0<=q32/\q32<=T) (Z6 (q52=q52/\q52=q52/\q52<B/\0<=q33/\q33<=T) (Z6 (q54=q54/\q54=q54/\q54<B/\List.length q34=32) (Z6 (q56=q56/\q56=q56/\q56<B/\List.length q35=32) (Z6 (q58=q58/\q58=q58/\q58<B/\0<=q1/\q1<=T) (Z6 (q60=q60/\q60=q60/\q60<B/\0<=q36/\q36<=T) (Z6 (q62=q62/\q62=q62/\q62<B/\0<=q37/\q37<=T) (Z6 (q64=q64/\q64=q64/\q64<B/\0<=q39/\q39<=T) (Z6 (q66=q66/\q66=q66/\q66<B/\0<=q40/\q40<=T) (Z6 (q68=q68/\q68=q68/\q68<B) (Z6 (q70=q70/\q70=q70/\q70<B/\0<=q42/\q42<=T) (Z6 (q72=q72/\q72=q72/\q72<B) (Z6 (q74=q74/\q74=q74/\q74<B/\0<=q44/\q44<=T) (Z6 (0+q76<=q76) (Z6 (List.length q77=q76/\q76<90000000000000) (Z6 (q76=n) (Z6 (n<=q76) (q28=q4/\Z6 (q29=q5) (Z6 (q30=q6) (Z6 (q31=q7) (Z6 (q32=q8) (Z6 (q33=q9) (q34=q10/\q35=q11/\Z6 (k_1.side=q1) (q38=q12/\Z6 (q39=k.least) (Z6 (q40=k.most) (Z6 (q41=k.offers) (Z6 (q42=k.last) (Z6 (q43=k.agrees) (Z6 (q44=k.fee) (q77=ys/\True)))))))))))))))))))))))))))))))))))))) (by kernel_rfl) ?_
 conv=>zeta
 try simp only [vcA]
 try simp only [vcB]
 try simp only [vcC]
 obtain ⟨⟨a1,b1⟩,⟨a2,b2⟩,⟨a3,b3⟩,⟨a4,b4⟩,⟨a5,b5⟩,⟨a6,b6⟩,⟨a7,b7⟩,⟨a8,b8⟩,⟨a9,b9⟩,⟨a10,b10⟩,⟨a11,b11⟩,⟨a12,b12⟩⟩:=hk
 have l1:=h9 k.t.index
 have l2:=h9 k.t.cap
 have l3:=h9 k.t.dust
 have l4:=h9 k.t.fee
 have l5:=h9 k.t.delay
 have l6:=h9 k.side
 have l7:=h9 k.a0
 have l8:=h9 k.a1
 have l9:=h9 k.least
 have l10:=h9 k.most
 have l11:=h9 k.last
 have l12:=h9 k.fee
 have hz:∀l:List Int,List.take l.length (Y0 0 l)=l:=fun l=>by rw [Yk,Kn,JE]
 simp only [hz]
 subst hy hn
 repeat' first
  | with_reducible rfl
  | exact True.intro
  | with_reducible assumption
  | with_reducible refine Jc ?_ ?_
  | with_reducible refine Exists.intro k ?_
 all_goals first
  | ((try simp only [J7,Js,Jy,hf,h0,h1]);omega)
  | rfl
  | (show List.length (XV W k)<=_;exact J4 _)
def amM (l:List Za):Int:=(l.map fun m=>m.o.amount).sum
theorem Z3H (l:List Za):(ZR l).Perm l:=by
 have:=Uc (lt:=ltM) (l:=l) (acc:=[])
 rwa [JZ] at this
theorem Ze2 {l m:List Int} (h:l.Perm m):l.sum=m.sum:=by
 induction h with
 | nil=>rfl
 | cons x _ ih=>simp [ih]
 | swap x y l=>simp;omega
 | trans _ _ h1 h2=>exact h1.trans h2
theorem Ze3 (l:List Za):amM (ZR l)=amM l:=by
 unfold amM
 exact Ze2 ((Z3H l).map _)
theorem Zbm (L:List Za):amL (ZV L) L.length=L.map fun m=>m.o.amount:=by
 unfold amL ZV
 refine List.ext_getElem (by simp) fun k h1 h2=> ?_
 simp at h1 h2
 simp [J2,h1]
theorem Zbn {t:TxS} (h1:0<=t.num/\t.num<=2147483647) (h2:1<=t.N/\t.N<=24) (h3:1<=t.M/\t.M<=24) (h4:∀i,i<t.N->Y3 (t.ins i)=true) (h5:∀i j,i<t.N->j<i->(t.ins j).index≠(t.ins i).index) (h6:∀i,i<t.M->ZD (t.outs i)=true) (h7:VA t t.M<=1125899906842624):Yf ZB t=true:=by
 rw [<-Z4H]
 unfold Xy
 simp only [J3,decide_eq_true_eq,Ke,Jz]
 refine ⟨⟨⟨⟨⟨h1,h2⟩,h3⟩,fun i hi=> ?_⟩,h6⟩,h7⟩
 unfold okI
 rw [h4 i hi,JO]
 simp only [J6,JY,Jz]
 intro j hj hs
 exact h5 i j hi hj (Z0a.1 hs).2
structure Zj.All (t:Zj):Prop where
 ok:t.Ok
 fl:t.fund.length=32
 fb:Bytes t.fund
def txC (t:Zj) (a b fee:Int):TxS:=⟨2147483647,1,fun _=>Z0d t,(ZR (clL t a b fee)).length,ZV (ZR (clL t a b fee))⟩
def ZJ (t:Zj) (a b fee:Int):Int:=if clB ZB t a b fee=true then (if (clL t a b fee).length=0 then 180 else 0) else 2
theorem Z8T {t:Zj} {a b fee:Int} (h:ZJ t a b fee=0):clB ZB t a b fee=true/\(clL t a b fee).length≠0:=by
 unfold ZJ at h
 split at h
 ·rename_i h1
  split at h
  ·cases h
  ·exact ⟨h1,by assumption⟩
 ·cases h
theorem ZgH {t:Zj} {a b fee:Int} (h1:clB ZB t a b fee=true) (h2:(clL t a b fee).length≠0):ZJ t a b fee=0:=by
 unfold ZJ;rw [if_pos h1,if_neg h2]
theorem WG {t:Zj} (h:Y6 t=true):(0<=t.index/\t.index<=23)/\(1000<=t.cap/\t.cap<=1125899906842624)/\(1<=t.dust/\t.dust<=500)/\(0<=t.fee/\t.fee<=400)/\(1<=t.delay/\t.delay<=1000)/\t.k0≠t.k1:=by
 unfold Y6 at h
 simp only [J3,decide_eq_true_eq,bne_iff_ne,ne_eq] at h
 obtain ⟨⟨⟨⟨⟨h1,h2⟩,h3⟩,h4⟩,h5⟩,h6⟩:=h
 exact ⟨h1,h2,h3,h4,h5,h6⟩
theorem Z5V {t:Zj} {a b fee:Int} {m:Za} (h:m∈clL t a b fee):(t.dust<=a-fee/\m=⟨⟨1,a-fee,t.k0,Z5,Z5,Z5,0,0⟩,0,0⟩)\/(t.dust<=b/\m=⟨⟨1,b,t.k1,Z5,Z5,Z5,0,0⟩,1,0⟩):=by
 unfold clL at h
 rw [Ju] at h
 rcases h with h|h<;>split at h<;>simp at h
 ·exact .inl ⟨by assumption,h⟩
 ·exact .inr ⟨by assumption,h⟩
theorem Z2b {t:Zj} {a b fee:Int}:(clL t a b fee).length<=2:=by
 unfold clL
 rw [J7]
 split<;>split<;>simp
theorem ZgI {t:Zj} {a b fee:Int} (h:clB ZB t a b fee=true):amM (clL t a b fee)<=t.cap:=by
 obtain ⟨k1,⟨⟨k2,_⟩,⟨k3,_⟩⟩,k4,k5⟩:=W6.1 h
 unfold clL amM
 split<;>split<;>simp<;>omega
theorem Ze4 {L:List Za} {i:Nat} (h:i<L.length):∃m∈L,ZV L i=m.o:=⟨L[i],Km h,by
 show (L.getD i Yg).o=_
 rw [J2,Je h];rfl⟩
theorem Z5W {t:Zj} {a b fee:Int} {i:Nat} (h:i<(txC t a b fee).M):∃m∈clL t a b fee,(txC t a b fee).outs i=m.o:=by
 obtain ⟨m,hm,e⟩:=Ze4 (L:=ZR (clL t a b fee)) h
 exact ⟨m,(Z3H _).mem_iff.1 hm,e⟩
theorem Ws {t:Zj} {a b fee:Int} (ht:t.Ok) (hf:t.fund.length=32):(txC t a b fee).Ok:=by
 have hl:(ZR (clL t a b fee)).length<=2:=by rw [Xa];exact Z2b
 refine ⟨by show (1:Nat)<_;decide,by show (ZR _).length<_;omega,fun i _=>⟨hf,rfl,rfl,rfl⟩,fun i hi=> ?_⟩
 obtain ⟨m,hm,e⟩:=Z5W hi
 rw [e]
 rcases Z5V hm with ⟨_,rfl⟩|⟨_,rfl⟩
 ·exact ⟨ht.k0,rfl,rfl,rfl⟩
 ·exact ⟨ht.k1,rfl,rfl,rfl⟩
theorem Za0 {t:Zj} {a b fee:Int} (ht:t.All):QG (txC t a b fee):=by
 refine ⟨fun i _=>⟨ht.fb,Yv,Yv,Yv⟩,fun i hi=> ?_⟩
 obtain ⟨m,hm,e⟩:=Z5W hi
 rw [e]
 rcases Z5V hm with ⟨_,rfl⟩|⟨_,rfl⟩
 ·exact ⟨ht.ok.b0,Yv,Yv,Yv⟩
 ·exact ⟨ht.ok.b1,Yv,Yv,Yv⟩
theorem V6 {t:Zj} {a b fee:Int} (h:ZJ t a b fee=0):Yf ZB (txC t a b fee)=true:=by
 obtain ⟨hb,hn⟩:=Z8T h
 obtain ⟨kt,⟨⟨k2,k2'⟩,⟨k3,k3'⟩⟩,k4,k5⟩:=W6.1 hb
 have kd:=WG kt
 have hl:(ZR (clL t a b fee)).length=(clL t a b fee).length:=Xa
 have hl2:=Z2b (t:=t) (a:=a) (b:=b) (fee:=fee)
 refine Zbn ⟨by show (0:Int)<=2147483647;decide,by show (2147483647:Int)<=2147483647;decide⟩ ⟨J4 _,by show (1:Nat)<=24;decide⟩ ⟨by show 1<=(ZR (clL t a b fee)).length;omega,by show (ZR (clL t a b fee)).length<=24;omega⟩ (fun i hi=> ?_) (fun i j hi hj=> ?_) (fun i hi=> ?_) ?_
 ·show Y3 (Z0d t)=true
  unfold Y3 Z0d
  simp
  omega
 ·have hi:i<1:=hi
  omega
 ·obtain ⟨m,hm,e⟩:=Z5W hi
  rw [e]
  rcases Z5V hm with ⟨_,rfl⟩|⟨_,rfl⟩
  ·unfold ZD;simp;omega
  ·unfold ZD;simp;omega
 ·show (amL (ZV (ZR (clL t a b fee))) (ZR (clL t a b fee)).length).sum<=_
  rw [Zbm]
  have e:amM (ZR (clL t a b fee))=((ZR (clL t a b fee)).map fun m=>m.o.amount).sum:=rfl
  have:=ZgI hb
  rw [<-e,Ze3]
  omega
def Z8U (t:Zj) (side:Int):List Int:=if side=0 then t.k0 else t.k1
theorem Ze5 {t:Zj} (ht:t.Ok) (s:Int):(Z8U t s).length=32:=by unfold Z8U;split;exact ht.k0;exact ht.k1
def Q1 (n least most:Int):Int:=max least (min most n)
structure Z3I (k:ClS):Prop where
 t:Y6 k.t=true
 side:k.side=0\/k.side=1
 a0:0<=k.a0
 a1:0<=k.a1
 sum:k.a0+k.a1=k.t.cap
 lo:0<=k.least
 lm:k.least<=k.most
 hi:k.most<=k.a0
structure Ys (k:ClS):Prop where
 made:Z3I k
 off:k.offers=true->k.least<=k.last/\k.last<=k.most
 nof:k.offers=false->k.last=0
 agr:k.agrees=true->k.offers=true/\k.fee=k.last/\ZJ k.t k.a0 k.a1 k.fee=0
 nag:k.agrees=false->k.fee=0
theorem Ys.fee_le {k:ClS} (h:Ys k):(0<=k.last/\k.last<=k.a0)/\(0<=k.fee/\k.fee<=k.a0):=by
 obtain ⟨⟨h1,h2,h3,h4,h5,h6,h7,h8⟩,ho,hn,ha,hg⟩:=h
 have q1:0<=k.last/\k.last<=k.a0:=by
  cases e:k.offers
  ·have:=hn e;omega
  ·have:=ho e;omega
 refine ⟨q1, ?_⟩
 cases e:k.agrees
 ·have:=hg e;omega
 ·have:=ha e;omega
theorem Ys.num {k:ClS} (h:Ys k):Ze1 4611686018427387904 k:=by
 have hf:=h.fee_le
 obtain ⟨h1,h2,h3,h4,h5,h6,h7,h8⟩:=h.made
 have hd:=WG h1
 refine ⟨?_, ?_, ?_, ?_, ?_, ?_, ?_, ?_, ?_, ?_, ?_, ?_⟩<;>omega
theorem Zs.evV (hG:G.Ok) {n:Nat} {f:FuncId} {v:AV} (h:evF G n f args ⟨0,[]⟩ (XR fun u=>u=v)):Zs G.P f args v 0 []:=by
 intro E w rs he hr
 refine (ZX hG h E w rs he hr).mono ?_
 rintro e w' ⟨E₁,o,h',hK0,hev,hor⟩
 cases hor with
 | panic u r hr=>exact hK0.elim
 | ret u r hr=>
  unfold XR at hK0
  simp only at hK0
  split at hK0
  ·rename_i hu
   subst hK0
   refine ⟨E,r,rfl,⟨.refl E,⟨he.fresh,fun x B hx=>by simp [Z8.get,ZO] at hx,fun x B hx=>by simp [Z8.get,ZO] at hx,fun x y B B' b N N' hx=>by simp [Z8.get,ZO] at hx,fun a c hi=>hev.emb.imm a c (hev.le.imm a c hi),fun a c x B N _ hx=>by simp [Z8.get,ZO] at hx⟩,hev.size,hev.os,hev.tape,hev.output,hev.keep,fun b hb=> ?_,fun _ _ h=>h⟩,Zh.vplain (E:=E₁) (E':=E) (fun a c hi=>hev.imm a c hi) _ _ hu hr⟩
   obtain ⟨x,B,N,hx,_⟩:=hb
   simp [Z8.get,ZO] at hx
  ·exact hK0.elim
def Y8 (A:List Int->Int×Int) (k:ClS):Bool:=Y6 k.t&&decide (0<=k.side/\k.side<=1)&&decide ((A [k.a0,k.a1]).2=0)&&decide ((A [k.a0,k.a1]).1=k.t.cap)&&decide (0<=k.least/\k.least<=k.most)&&decide (k.most<=k.a0)
theorem Z1i {k:ClS}:Y8 ZB k=true↔Z3I k:=by
 unfold Y8
 simp only [J3,decide_eq_true_eq]
 constructor
 ·rintro ⟨⟨⟨⟨⟨h1,h2⟩,h3⟩,h4⟩,h5⟩,h6⟩
  have:=W6.1 (Ql.2 ⟨h1,h3,h4,(⟨Int.le_refl 0,by omega⟩:(0:Int)<=0/\0<=k.a0)⟩)
  exact ⟨h1,by omega,this.2.1.1.1,this.2.1.2.1,this.2.2.1,h5.1,h5.2,h6⟩
 ·rintro ⟨h1,h2,h3,h4,h5,h6,h7,h8⟩
  have hd:=WG h1
  have:=Ql.1 (W6.2 ⟨h1,⟨⟨h3,by omega⟩,h4,by omega⟩,h5,(⟨Int.le_refl 0,h3⟩:(0:Int)<=0/\0<=k.a0)⟩)
  exact ⟨⟨⟨⟨⟨h1,by omega⟩,this.2.1⟩,this.2.2.1⟩,⟨h6,h7⟩⟩,h8⟩
noncomputable def Zm4 (A:List Int->Int×Int):Zd:=(G0.withP 44 Z77).withP 74 (Z9A A)
theorem ZgJ:(Zm4 ZB).Ok:=Zd.withP_ok (Zd.withP_ok Zm Z3A) Z3g
theorem Zm5 (A:List Int->Int×Int) (k:ClS) (b:Bool) (ht:k.t.Ok) (hb:b=Y8 A k):
  evF (Zm4 A) 20 30 [.agg k.c] ⟨0,[]⟩ (XR fun v=>v=.bool b):=by
 refine @Eq.mpr _ (let q1:=k.t;let q2:=q1.cap;let q3:=Zj.mk q1.fund q1.index q2 q1.dust q1.fee q1.delay q1.k0 q1.k1;let q4:=A [k.a0,k.a1];let q5:=AV.bool false=AV.bool b;
 Zj.Ok q3/\Z7 ((if Y6 q3=true then (0:Int) else (2:Int))==(0:Int)) (Z7 (decide ((0:Int)<=k.side)) (Z7 (decide (k.side<=(1:Int))) (Z7 (q4.snd==(0:Int)) (Z7 (q4.fst==q2) (Z7 (decide ((0:Int)<=k.least)) (Z7 (decide (k.least<=k.most)) (AV.bool (decide (k.most<=k.a0))=AV.bool b) q5) q5) q5) q5) q5) q5) q5) (by kernel_rfl) ?_
 conv=>zeta
 try simp only [vcA]
 try simp only [vcB]
 try simp only [vcC]
 have e0:Zj.mk k.t.fund k.t.index k.t.cap k.t.dust k.t.fee k.t.delay k.t.k0 k.t.k1=k.t:=rfl
 simp only [e0]
 subst hb
 refine ⟨ht, ?_⟩
 unfold Y8
 cases Y6 k.t<;>by_cases c1:0<=k.side<;>by_cases c2:k.side<=1<;>by_cases c3:(A [k.a0,k.a1]).2=0<;>by_cases c4:(A [k.a0,k.a1]).1=k.t.cap<;>by_cases c5:0<=k.least<;>by_cases c6:k.least<=k.most<;>simp [c1,c2,c3,c4,c5,c6]
theorem Zm6 (A:List Int->Int×Int) (k:ClS) (b:Bool) (hA:A=ZB) (ht:k.t.Ok) (hb:b=Y8 A k):
  evF (G0.withP 112 Z3B) 20 51 [.agg k.c] ⟨0,[]⟩ (XR fun v=>v=.bool b):=by
 refine @Eq.mpr _ (let q1:=k.t;let q2:=q1.cap;let q3:=Zj.mk q1.fund q1.index q2 q1.dust q1.fee q1.delay q1.k0 q1.k1;let q4:=k.a0;let q5:=k.a1;let q6:=AV.bool false=AV.bool b;let q7:=Z7 (decide (q4>=0)) (Z7 (decide (q4<=1125899906842624)) (Z7 (decide (q5>=0)) (Z7 (decide (q5<=1125899906842624)) (Z7 (wrap i64 (q4+q5)==q2) (Z7 (decide (k.least>=0)) (Z7 (decide (k.least<=k.most)) (AV.bool (decide (k.most<=q4))=AV.bool b) q6) q6) q6) q6) q6) q6) q6;
 Zj.Ok q3/\Z7 (Y6 q3) (Z7 (k.side==0) q7 (Z7 (k.side==1) q7 q6)) q6) (by kernel_rfl) ?_
 conv=>zeta
 try simp only [vcA]
 try simp only [vcB]
 try simp only [vcC]
 have e0:Zj.mk k.t.fund k.t.index k.t.cap k.t.dust k.t.fee k.t.delay k.t.k0 k.t.k1=k.t:=rfl
 simp only [e0]
 subst hA hb
 refine ⟨ht, ?_⟩
 cases hb:Y8 ZB k with
 | true=>
  obtain ⟨m1,m2,m3,m4,m5,m6,m7,m8⟩:=Z1i.1 hb
  have hd:=WG m1
  have hw:i64.wrap (k.a0+k.a1)=k.t.cap:=by rw [w64 (by omega)];exact m5
  have q1:k.a0<=1125899906842624:=by omega
  have q2:k.a1<=1125899906842624:=by omega
  rcases m2 with m2|m2<;>simp [m1,m2,m3,m4,m6,m7,m8,hw,q1,q2]
 | false=>
  have hn:¬Z3I k:=fun h=>by rw [Z1i.2 h] at hb;cases hb
  repeat' (first|(refine Jc ?_ ?_)|intro _)
  all_goals first|rfl|skip
  all_goals
   congr 1
   refine decide_eq_false fun h=>hn ?_
   have hw:0<=k.a0->k.a0<=1125899906842624->0<=k.a1->k.a1<=1125899906842624->i64.wrap (k.a0+k.a1)=k.a0+k.a1:=fun _ _ _ _=>w64 (by omega)
   simp only [beq_iff_eq] at*
   exact ⟨by assumption,by omega,by omega,by omega,by omega,by omega,by omega,by omega⟩
inductive YK (cs:List AV) (k:ClS):Prop
 | mk:cs=k.c->YK cs k
def ZgK (A:List Int->Int×Int):ZH:=fun args h K=>ZA none h true 20 args fun a=>match a with
 | [.agg cs]=>∃k,YK cs k/\k.t.Ok/\K (.bool (Y8 A k))
 | _=>False
theorem ZgL (args:List AV) (h:Z8) (K:AV->Prop) (hl:ZgK ZB args h K):Ze PP 30 args h fun o h'=>∃v,o=.ret v/\h'=h/\K v:=by
 refine Zs.psumm (d:=20) (Zk _ _ _ _ _ hl fun a ha=> ?_)
 split at ha
 ·obtain ⟨k,⟨rfl⟩,ht,hK⟩:=ha
  exact ⟨_,Zs.evV ZgJ (Zm5 _ k _ ht rfl),fun _=>rfl,hK⟩
 ·exact ha.elim
theorem ZgM (args:List AV) (h:Z8) (K:AV->Prop) (hl:ZgK ZB args h K):Ze PP 51 args h fun o h'=>∃v,o=.ret v/\h'=h/\K v:=by
 refine Zs.psumm (d:=20) (Zk _ _ _ _ _ hl fun a ha=> ?_)
 split at ha
 ·obtain ⟨k,⟨rfl⟩,ht,hK⟩:=ha
  exact ⟨_,Zs.evV (Zd.withP_ok Zm Z1h) (Zm6 _ k _ rfl ht rfl),fun _=>rfl,hK⟩
 ·exact ha.elim
def Zo6:ZN:=fun args h K=>ZA none h true 20 args fun a=>match a with
 | [.agg cs,.int .i64 fee]=>∃k,YK cs k/\(k.t.Ok/\k.a0<9223372036854775808)/\K (.ret (.tuple [.top,.int .i64 (ZJ k.t k.a0 k.a1 fee)])) h
 | _=>False
def clK (ok:Bool) (k:ClS):KO:=fun o h=>match o with
 | .ret (.tuple [.ptr none,.int .i64 _])=>Z7 ok False (ZF 0 (.ret (.tuple [.ptr none,.int .i64 253])) 0 [] o h)
 | .ret (.tuple [.ptr (some _),.int .i64 _])=>Z7 ok (ZF 0 (.ret (.tuple [.ptr (some ⟨0,0,0,0,0⟩),.int .i64 0])) 1 [(0,.flat (k.c++[.bool true]))] o h) False
 | _=>False
def Yb (Tg:List Int->TxS->List Int) (k:ClS) (fee sd:Int):List Int:=if ZJ k.t k.a0 k.a1 fee=0 then Tg (Z8U k.t sd) (txC k.t k.a0 k.a1 fee) else Z5
theorem Ud {k:ClS} {fee sd:Int} (h:ZJ k.t k.a0 k.a1 fee=0):Yb Tg k fee sd=Tg (Z8U k.t sd) (txC k.t k.a0 k.a1 fee):=if_pos h
theorem Wa {k:ClS} {fee sd:Int} (h:ZJ k.t k.a0 k.a1 fee≠0):Yb Tg k fee sd=Z5:=if_neg h
theorem Q2 {k:ClS} {fee:Int} (h:clB ZB k.t k.a0 k.a1 fee=false):ZJ k.t k.a0 k.a1 fee=2:=by unfold ZJ;rw [h];rfl
theorem Wj {k:ClS} {fee:Int} (h:clB ZB k.t k.a0 k.a1 fee=true) (h2:(clL k.t k.a0 k.a1 fee).length=0):ZJ k.t k.a0 k.a1 fee=180:=by unfold ZJ;rw [if_pos h,if_pos h2]
theorem Wk {k:ClS} {fee:Int} {n:Nat} {L:List Za} (h:clB ZB k.t k.a0 k.a1 fee=true) (hL:L=ZR (clL k.t k.a0 k.a1 fee)) (hn:n=L.length) (h0:n≠0):ZJ k.t k.a0 k.a1 fee=0:=ZgH h (by subst hn hL;rw [Xa] at h0;exact h0)
theorem VC (t:Zj) (i:Nat) (hi:i<1):Y9 [AV.arr u8 32 t.fund,AV.int i64 t.index,AV.int i64 1,AV.arr u8 32 Z5,AV.arr u8 32 Z5,AV.arr u8 32 Z5] 0 130 i=InS.c (Z0d t):=by
 have:i=0:=by omega
 subst this;rfl
noncomputable def Zjj (A:List Int->Int×Int) (Tg:List Int->TxS->List Int):Zd:=(G0.withF 61 (clF A)).withP 62 (Z3y Tg)
theorem Za1:(Zjj ZB Wq).Ok:=Zd.withP_ok (Zd.withF_ok Zm Z5S) Z5L
theorem Zm7 (A:List Int->Int×Int) (Tg:List Int->TxS->List Int) (k:ClS) (fee e:Int) (h:List Int) (hA:A=ZB) (ht:k.t.All) (ha:k.a0<9223372036854775808) (he:e=ZJ k.t k.a0 k.a1 fee) (hh:h=Yb Tg k fee 0):
  evF (Zjj A Tg) 20 70 [.agg k.c,.int .i64 fee,.int .i64 0] ⟨0,[]⟩ (ZF 0 (.ret (.tuple [.agg [.arr .u8 32 h],.int .i64 e])) 0 []):=by
 refine @Eq.mpr _ (let q1:=k.t;let q2:=q1.fund;let q3:=q1.index;let q4:=q1.k0;let q5:=Zj.mk q2 q3 q1.cap q1.dust q1.fee q1.delay q4 q1.k1;let q6:=InS.mk q2 q3 1 Z5 Z5 Z5;
 Zj.Ok q5/\
 ∃(a:Int),
 ∃(b:Int),
 let q13:=clB A q5 a b fee;let q14:=clL q5 a b fee;
 [k.a0,k.a1]=[a,b]/\
 a<9223372036854775808/\
 (q13=false->Z5=h/\Z6 (2=e) True)/\
 (q13=true->
 (List.length q14=0->Z5=h/\Z6 (180=e) True)/\
 ∀(n:Nat) (L:List Za),
 L=ZR q14->
 n=List.length L->
 n≠0->
 Z6 (0+n<=n) ((∀(i:Nat),i<n->true=true)/\
 ∃(t:TxS),
 (t.num=2147483647/\
 (((1:Nat)=1/\t.N=1)/\∀(i:Nat),i<1->Y9 [AV.arr u8 32 q6.name,AV.int i64 q6.index,AV.int i64 q6.way,AV.arr u8 32 q6.tag,AV.arr u8 32 q6.also,AV.arr u8 32 q6.secret] 0 130 i=InS.c (t.ins i))/\
 (n=n/\t.M=n)/\
 ∀(i:Nat),
 let q17:=ZV L i;
 i<n->[AV.int i64 q17.kind,AV.int i64 q17.amount,AV.arr u8 32 q17.owner,AV.arr u8 32 q17.other,AV.arr u8 32 q17.point,AV.arr u8 32 q17.hash,AV.int i64 q17.delay,AV.int i64 q17.expiry]=ZE.c (t.outs i))/\
 (TxS.Fine t/\List.length q4=32)/\Tg q4 t=h/\Z6 (0=e) True))) (by kernel_rfl) ?_
 conv=>zeta
 try simp only [vcA]
 try simp only [vcB]
 try simp only [vcC]
 subst hA he hh
 refine ⟨ht.ok,k.a0,k.a1,rfl,ha,fun h1=> ?_,fun h1=>⟨fun h2=> ?_,fun n L hL hn hn0=> ?_⟩⟩
 ·have e:=Q2 h1
  exact ⟨(Wa (by rw [e];decide)).symm,e.symm⟩
 ·have e:=Wj h1 h2
  exact ⟨(Wa (by rw [e];decide)).symm,e.symm⟩
 ·have e:=Wk h1 hL hn hn0
  subst hn hL
  exact ⟨fun _ _=>trivial,txC k.t k.a0 k.a1 fee,⟨rfl,⟨rfl,fun i hi=>VC _ i hi⟩,rfl,fun _ _=>rfl⟩,⟨YY (Ws ht.ok ht.fl) (V6 e),ht.ok.k0⟩,(Ud (Tg:=Tg) (sd:=0) e).symm,e.symm⟩
theorem Zm8 (A:List Int->Int×Int) (Tg:List Int->TxS->List Int) (k:ClS) (fee e:Int) (h:List Int) (hA:A=ZB) (ht:k.t.All) (ha:k.a0<9223372036854775808) (he:e=ZJ k.t k.a0 k.a1 fee) (hh:h=Yb Tg k fee 1):
  evF (Zjj A Tg) 20 70 [.agg k.c,.int .i64 fee,.int .i64 1] ⟨0,[]⟩ (ZF 0 (.ret (.tuple [.agg [.arr .u8 32 h],.int .i64 e])) 0 []):=by
 refine @Eq.mpr _ (let q1:=k.t;let q2:=q1.fund;let q3:=q1.index;let q4:=q1.k1;let q5:=Zj.mk q2 q3 q1.cap q1.dust q1.fee q1.delay q1.k0 q4;let q6:=InS.mk q2 q3 1 Z5 Z5 Z5;
 Zj.Ok q5/\
 ∃(a:Int),
 ∃(b:Int),
 let q13:=clB A q5 a b fee;let q14:=clL q5 a b fee;
 [k.a0,k.a1]=[a,b]/\
 a<9223372036854775808/\
 (q13=false->Z5=h/\Z6 (2=e) True)/\
 (q13=true->
 (List.length q14=0->Z5=h/\Z6 (180=e) True)/\
 ∀(n:Nat) (L:List Za),
 L=ZR q14->
 n=List.length L->
 n≠0->
 Z6 (0+n<=n) ((∀(i:Nat),i<n->true=true)/\
 ∃(t:TxS),
 (t.num=2147483647/\
 (((1:Nat)=1/\t.N=1)/\∀(i:Nat),i<1->Y9 [AV.arr u8 32 q6.name,AV.int i64 q6.index,AV.int i64 q6.way,AV.arr u8 32 q6.tag,AV.arr u8 32 q6.also,AV.arr u8 32 q6.secret] 0 130 i=InS.c (t.ins i))/\
 (n=n/\t.M=n)/\
 ∀(i:Nat),
 let q17:=ZV L i;
 i<n->[AV.int i64 q17.kind,AV.int i64 q17.amount,AV.arr u8 32 q17.owner,AV.arr u8 32 q17.other,AV.arr u8 32 q17.point,AV.arr u8 32 q17.hash,AV.int i64 q17.delay,AV.int i64 q17.expiry]=ZE.c (t.outs i))/\
 (TxS.Fine t/\List.length q4=32)/\Tg q4 t=h/\Z6 (0=e) True))) (by kernel_rfl) ?_
 conv=>zeta
 try simp only [vcA]
 try simp only [vcB]
 try simp only [vcC]
 subst hA he hh
 refine ⟨ht.ok,k.a0,k.a1,rfl,ha,fun h1=> ?_,fun h1=>⟨fun h2=> ?_,fun n L hL hn hn0=> ?_⟩⟩
 ·have e:=Q2 h1
  exact ⟨(Wa (by rw [e];decide)).symm,e.symm⟩
 ·have e:=Wj h1 h2
  exact ⟨(Wa (by rw [e];decide)).symm,e.symm⟩
 ·have e:=Wk h1 hL hn hn0
  subst hn hL
  exact ⟨fun _ _=>trivial,txC k.t k.a0 k.a1 fee,⟨rfl,⟨rfl,fun i hi=>VC _ i hi⟩,rfl,fun _ _=>rfl⟩,⟨YY (Ws ht.ok ht.fl) (V6 e),ht.ok.k1⟩,(Ud (Tg:=Tg) (sd:=1) e).symm,e.symm⟩
theorem Z5X {k:ClS} {fee sd:Int} (ht:k.t.All):Yb Wq k fee sd=Yb Zv k fee sd:=by
 unfold Yb
 split
 ·rename_i h
  exact Z2a (YY (Ws ht.ok ht.fl) (V6 h)) (Za0 ht) (Ze5 ht.ok _)
 ·rfl
def clZ:ClS:=⟨⟨Z5,0,0,0,0,0,Z5,Z5⟩,0,0,0,0,0,false,0,false,0⟩
theorem Za2:∀(n a b:Nat),a<2^n->b<2^n->2*(a&&&b)+(a^^^b)=a+b
 | 0,a,b,ha,hb=>by
  have:a=0:=by simpa using ha
  have:b=0:=by simpa using hb
  subst_vars;rfl
 | n+1,a,b,ha,hb=>by
  have ih:=Za2 n (a/2) (b/2) (by rw [Nat.pow_succ] at ha;omega) (by rw [Nat.pow_succ] at hb;omega)
  have h1:(a&&&b)/2=(a/2)&&&(b/2):=Nat.and_div_two
  have h2:(a^^^b)/2=(a/2)^^^(b/2):=Nat.xor_div_two
  rw [<-h1,<-h2] at ih
  have h3:(a^^^b)%2^1=(a%2^1)^^^(b%2^1):=Nat.xor_mod_two_pow
  rw [Nat.pow_one] at h3
  have h6:(a%2)^^^(b%2)=(a%2+b%2)%2:=by
   rcases Nat.mod_two_eq_zero_or_one a with e|e<;>rcases Nat.mod_two_eq_zero_or_one b with f|f<;>rw [e,f]<;>rfl
  rw [h6] at h3
  have h4:(a&&&b)%2=1↔a%2=1/\b%2=1:=Nat.and_mod_two_eq_one
  have h5:(a&&&b)%2<2:=Nat.mod_lt _ (by decide)
  omega
theorem Zjk {a b:Int} (ha:0<=a/\a<=1125899906842624) (hb:0<=b/\b<=1125899906842624):i64.wrap (Ut .i64 a b+Zq .i64 (Yh .i64 a b) 1)=(a+b).tdiv 2:=by
 obtain ⟨x,rfl⟩:=Int.eq_ofNat_of_zero_le ha.1
 obtain ⟨y,rfl⟩:=Int.eq_ofNat_of_zero_le hb.1
 have hx:x<2^51:=by have:=ha.2;omega
 have hy:y<2^51:=by have:=hb.2;omega
 have hm:=Za2 51 x y hx hy
 have hand:x&&&y<2^51:=Nat.and_lt_two_pow x hy
 have hxor:x^^^y<2^51:=Kr hx hy
 have e1:Ut .i64 (x:Int) (y:Int)=((x&&&y:Nat):Int):=by
  unfold Ut
  show i64.wrap (((BitVec.ofInt 64 (x:Int)&&&BitVec.ofInt 64 (y:Int)).toNat:Nat):Int)=_
  rw [JL,JL,BitVec.toNat_and,JS,JS,JJ (by omega),JJ (by omega)]
  rw [w64 (by omega)]
 have e2:Yh .i64 (x:Int) (y:Int)=((x^^^y:Nat):Int):=by
  unfold Yh
  show i64.wrap (((BitVec.ofInt 64 (x:Int)^^^BitVec.ofInt 64 (y:Int)).toNat:Nat):Int)=_
  rw [JL,JL,BitVec.toNat_xor,JS,JS,JJ (by omega),JJ (by omega)]
  rw [w64 (by omega)]
 have e3:Zq .i64 ((x^^^y:Nat):Int) 1=((x^^^y:Nat):Int)/2:=by
  unfold Zq
  show Int.fdiv _ (2^1)=_
  rw [Ku _ (by decide)]
  rfl
 rw [e1,e2,e3,JP (by omega),w64 (by omega)]
 omega
def YD (a b:Int):Int:=(a+b).tdiv 2
theorem Za3 {a b m:Int} (ha:0<=a/\a<=m) (hb:0<=b/\b<=m):0<=YD a b/\YD a b<=m:=by
 unfold YD
 rw [JP (by omega)]
 omega
theorem Zm9 (M:Int->Int->Int) (a b:Int) (hM:M=YD) (ha:0<=a/\a<=1125899906842624) (hb:0<=b/\b<=1125899906842624):
  evF G0 30 84 [.int .i64 a,.int .i64 b] ⟨0,[]⟩ (XR fun v=>v=.tuple [.int .i64 (M a b),.int .i64 0]):=by
 refine @Eq.mpr _ (let q1:=wrap i64 (Ut i64 a b+Zq i64 (Yh i64 a b) 1);let q2:=AV.int i64 (wrap i64 (q1*0));let q3:=[AV.int i64 2];let q4:=[AV.int i64 0];let q5:=AV.tuple (AV.int i64 (M a b)::q4);let q6:=AV.tuple (q2::q3)=q5;let q7:=AV.tuple (q2::q4)=q5;let q8:=AV.int i64 (wrap i64 (q1*1));let q9:=AV.tuple (q8::q3)=q5;
 Z7 (decide (a<0)) (Z7 (decide (a<0)) q6 (Z7 (decide (a>1125899906842624)) q6 (Z7 (decide (b<0)) q6 (Z7 (decide (b>1125899906842624)) q6 q7)))) (Z7 (decide (a>1125899906842624)) (Z7 (decide (a<0)) q6 (Z7 (decide (a>1125899906842624)) q6 (Z7 (decide (b<0)) q6 (Z7 (decide (b>1125899906842624)) q6 q7)))) (Z7 (decide (b<0)) (Z7 (decide (a<0)) q6 (Z7 (decide (a>1125899906842624)) q6 (Z7 (decide (b<0)) q6 (Z7 (decide (b>1125899906842624)) q6 q7)))) (Z7 (decide (b>1125899906842624)) (Z7 (decide (a<0)) q6 (Z7 (decide (a>1125899906842624)) q6 (Z7 (decide (b<0)) q6 (Z7 (decide (b>1125899906842624)) q6 q7)))) (Z7 (decide (a<0)) q9 (Z7 (decide (a>1125899906842624)) q9 (Z7 (decide (b<0)) q9 (Z7 (decide (b>1125899906842624)) q9 (AV.tuple (q8::q4)=q5))))))))) (by kernel_rfl) ?_
 conv=>zeta
 try simp only [vcA]
 try simp only [vcB]
 try simp only [vcC]
 subst hM
 have hm:=Zjk ha hb
 have hq:0<=YD a b/\YD a b<=1125899906842624:=Za3 ha hb
 have hw:i64.wrap (YD a b)=YD a b:=w64 (by omega)
 have hm:i64.wrap (Ut i64 a b+Zq i64 (Yh i64 a b) 1)=YD a b:=hm
 simp only [hm,Int.mul_one,hw]
 repeat' (first|(refine Jc ?_ ?_)|intro _)
 all_goals first|exact True.intro|rfl|(exfalso;omega)
theorem Zjl (M:Int->Int->Int) (a b:Int) (hM:M=YD) (ha:0<=a/\a<=1125899906842624) (hb:0<=b/\b<=1125899906842624):
  evF G0 30 127 [.int .i64 a,.int .i64 b] ⟨0,[]⟩ (XR fun v=>v=.tuple [.int .i64 (M a b),.int .i64 0]):=by
 refine @Eq.mpr _ (let q1:=[AV.int i64 0];let q2:=AV.tuple (AV.int i64 (M a b)::q1);let q3:=AV.tuple [AV.int i64 0,AV.int i64 2]=q2;
 Z7 (decide (a>=0)) (Z7 (!decide (a<=1125899906842624)) q3 (Z7 (decide (b>=0)) (Z7 (!decide (b<=1125899906842624)) q3 (AV.tuple (AV.int i64 (wrap i64 (Int.tdiv (wrap i64 (a+b)) 2))::q1)=q2)) q3)) q3) (by kernel_rfl) ?_
 conv=>zeta
 try simp only [vcA]
 try simp only [vcB]
 try simp only [vcC]
 subst hM
 have hw:i64.wrap (a+b)=a+b:=w64 (by omega)
 have hq:0<=YD a b/\YD a b<=1125899906842624:=Za3 ha hb
 have hw2:i64.wrap ((a+b).tdiv 2)=YD a b:=w64 (x:=YD a b) (by omega)
 simp only [hw,hw2]
 repeat' (first|(refine Jc ?_ ?_)|intro _)
 all_goals first|exact True.intro|rfl|(exfalso;omega)|(exfalso;simp at*;omega)
def Zbo (M:Int->Int->Int):ZH:=fun args _ K=>match args with
 | [.int .i64 a,.int .i64 b]=>((0<=a/\a<=1125899906842624)/\(0<=b/\b<=1125899906842624))/\K (.tuple [.int .i64 (M a b),.int .i64 0])
 | _=>False
theorem ZgN (args:List AV) (h:Z8) (K:AV->Prop) (hl:Zbo YD args h K):Ze PP 84 args h fun o h'=>∃v,o=.ret v/\h'=h/\K v:=by
 unfold Zbo at hl
 split at hl
 ·obtain ⟨⟨h1,h2⟩,hK⟩:=hl
  exact X3 Zm rfl (Zm9 _ _ _ rfl h1 h2) (fun u hu=>hu▸hK)
 ·exact hl.elim
theorem Ze6 (args:List AV) (h:Z8) (K:AV->Prop) (hl:Zbo YD args h K):Ze PP 127 args h fun o h'=>∃v,o=.ret v/\h'=h/\K v:=by
 unfold Zbo at hl
 split at hl
 ·obtain ⟨⟨h1,h2⟩,hK⟩:=hl
  exact X3 Zm rfl (Zjl _ _ _ rfl h1 h2) (fun u hu=>hu▸hK)
 ·exact hl.elim
def YA (M:Int->Int->Int) (k:ClS) (x:Int):Int:=Q1 (match k.offers with|true=>M k.last x|false=>x) k.least k.most
theorem ZnB (M:Int->Int->Int) (k:ClS) (x r:Int) (hl:0<=k.last/\k.last<=1125899906842624) (hx:0<=x/\x<=1125899906842624) (hr:r=YA M k x):
  evF (G0.withP 84 (Zbo M)) 20 41 [.agg k.c,.int .i64 x] ⟨0,[]⟩ (XR fun v=>v=.int .i64 r):=by
 refine @Eq.mpr _ (let q1:=k.last;let q2:=M q1 x;let q3:=k.most;let q4:=if q2<q3 then q2 else q3;let q5:=k.least;let q6:=if x<q3 then x else q3;
 Z7 k.offers (((0<=q1/\q1<=1125899906842624)/\0<=x/\x<=1125899906842624)/\AV.int i64 (if q4>q5 then q4 else q5)=AV.int i64 r) (AV.int i64 (if q6>q5 then q6 else q5)=AV.int i64 r)) (by kernel_rfl) ?_
 conv=>zeta
 try simp only [vcA]
 try simp only [vcB]
 try simp only [vcC]
 subst hr
 have hz:∀y:Int,(if (if y<k.most then y else k.most)>k.least then (if y<k.most then y else k.most) else k.least)=Q1 y k.least k.most:=fun y=>by
  unfold Q1
  rw [Int.max_def,Int.min_def]
  split<;>split<;>(try split)<;>(try split)<;>omega
 simp only [hz]
 unfold YA
 cases k.offers
 ·exact ⟨(fun h=>nomatch h),fun _=>rfl⟩
 ·exact ⟨fun _=>⟨⟨hl,hx⟩,rfl⟩,(fun h=>nomatch h)⟩
def nxS (M:Int->Int->Int):ZH:=fun args h K=>ZA none h true 20 args fun a=>match a with
 | [.agg cs,.int .i64 x]=>∃k,YK cs k/\((0<=k.last/\k.last<=1125899906842624)/\(0<=x/\x<=1125899906842624))/\K (.int .i64 (YA M k x))
 | _=>False
theorem Zjm (args:List AV) (h:Z8) (K:AV->Prop) (hl:nxS YD args h K):Ze PP 41 args h fun o h'=>∃v,o=.ret v/\h'=h/\K v:=by
 refine Zs.psumm (d:=20) (Zk _ _ _ _ _ hl fun a ha=> ?_)
 split at ha
 ·obtain ⟨k,⟨rfl⟩,⟨h1,h2⟩,hK⟩:=ha
  exact ⟨_,Zs.evV (Zd.withP_ok Zm ZgN) (ZnB _ k _ _ h1 h2 rfl),fun _=>rfl,hK⟩
 ·exact ha.elim
theorem ZnC (n a b:Int) (r:Bool) (hr:r=decide (a<=n/\n<=b)):
  evF G0 20 40 [.int .i64 n,.int .i64 a,.int .i64 b] ⟨0,[]⟩ (XR (fun v=>v=.bool r)):=by
 refine @Eq.mpr _ (Z7 (decide (a<=n)) (AV.bool (decide (n<=b))=AV.bool r) (AV.bool false=AV.bool r)) (by kernel_rfl) ?_
 simp only [Z75]
 subst hr
 by_cases h1:a<=n<;>by_cases h2:n<=b<;>simp [h1,h2]
theorem Zjn (args:List AV) (h:Z8) (K:AV->Prop) (hl:inQ args h K):Ze PP 40 args h fun o h'=>∃v,o=.ret v/\h'=h/\K v:=by
 unfold inQ at hl
 split at hl
 ·exact X3 Zm rfl (ZnC _ _ _ _ rfl) (fun u hu=>hu▸hl)
 ·exact hl.elim
def sdN (kd am:Int) (tg:List Int):Zi:=⟨kd,⟨Z5,0,0,0,0,0,Z5,Z5⟩,0,am,Z5,Z5,Z5,Z5,tg,Z5,0,0,0,0,0,ByteArray.empty⟩
def clO (k:ClS) (of:Bool) (la:Int) (ag:Bool) (fe:Int):ClS:=⟨k.t,k.side,k.a0,k.a1,k.least,k.most,of,la,ag,fe⟩
def clD (k:ClS) (s:Int):ClS:=⟨k.t,s,k.a0,k.a1,k.least,k.most,k.offers,k.last,k.agrees,k.fee⟩
theorem Wl {k:ClS} {s:Int} (h:k.side=s):clD k s=k:=by subst h;rfl
noncomputable def Ze7 (A:List Int->Int×Int) (Tg:List Int->TxS->List Int):Zd:=(G0.withF 42 (clF A)).withP 83 (Z8R A Tg)
theorem Qm:(Ze7 ZB Zv).Ok:=Zd.withP_ok (Zd.withF_ok Zm ZdQ) Z4V
structure OfR (Tg:List Int->TxS->List Int) (k:ClS) (s fee e kd am la:Int) (tg:List Int) (of:Bool):Prop where
 he:e=ZJ k.t k.a0 k.a1 fee
 go:e=0->kd=13/\am=fee/\tg=Tg (Z8U k.t s) (txC k.t k.a0 k.a1 fee)/\of=true/\la=fee
 no:e≠0->kd=0/\am=0/\tg=Z5/\of=k.offers/\la=k.last
theorem Zhv (A:List Int->Int×Int) (Tg:List Int->TxS->List Int) (k:ClS) (fee e kd am la:Int) (tg:List Int) (of:Bool) (hA:A=ZB) (ht:k.t.All) (ha:k.a0<9223372036854775808) (hr:OfR Tg k 0 fee e kd am la tg of):
  evF (Ze7 A Tg) 20 32 [.ptr (some ⟨0,0,0,0,0⟩),.int .i64 fee] ⟨1,[(0,.flat ((clD k 0).c++[.bool true]))]⟩ (ZF 1 (.ret (.tuple [.agg (sdN kd am tg).c,.int .i64 e])) 1 [(0,.flat ((clO (clD k 0) of la k.agrees k.fee).c++[.bool true]))]):=by
 refine @Eq.mpr _ (let q1:=clD k 0;let q2:=q1.t;let q3:=q2.fund;let q4:=q2.index;let q5:=q2.cap;let q6:=q2.dust;let q7:=q2.fee;let q8:=q2.delay;let q9:=q2.k0;let q10:=q2.k1;let q11:=Zj.mk q3 q4 q5 q6 q7 q8 q9 q10;let q12:=[q1.a0,q1.a1];let q13:=sdN kd am tg;let q14:=q13.kind;let q15:=decide (0=q14);let q16:=q13.t;let q17:=Z5=q16.fund;let q18:=Z5=q16.k0;let q19:=Z5=q16.k1;let q20:=q13.amount;let q21:=decide (0=q20);let q22:=Z5=q13.point;let q23:=Z5=q13.nxt;let q24:=Z5=q13.key;let q25:=Z5=q13.hash;let q26:=q13.tag;let q27:=Z5=q26;let q28:=Z5=q13.secret;let q29:=ByteArray.empty=q13.route;let q30:=clO q1 of la k.agrees k.fee;let q31:=q30.t;let q32:=q3=q31.fund;let q33:=decide (q4=q31.index);let q34:=decide (q5=q31.cap);let q35:=decide (q6=q31.dust);let q36:=decide (q7=q31.fee);let q37:=decide (q8=q31.delay);let q38:=q9=q31.k0;let q39:=q10=q31.k1;let q40:=q12=[q30.a0,q30.a1];let q41:=decide (q1.least=q30.least);let q42:=decide (q1.most=q30.most);let q43:=q30.offers;let q44:=q30.last;let q45:=Z6 (q1.agrees=q30.agrees) (Z6 (q1.fee=q30.fee) True);let q46:=q32/\Z0 q33 (Z0 q34 (Z0 q35 (Z0 q36 (Z0 q37 (q38/\q39/\q40/\Z0 q41 (Z0 q42 (Z6 (q1.offers=q43) (Z6 (q1.last=q44) q45))))))));let q47:=InS.mk q3 q4 1 Z5 Z5 Z5;
 Zj.Ok q11/\
 ∃(a:Int),
 ∃(b:Int),
 let q95:=clB A q11 a b fee;let q96:=clL q11 a b fee;
 q12=[a,b]/\
 a<9223372036854775808/\
 (q95=false->Z0 q15 (q17/\q18/\q19/\Z0 q21 (q22/\q23/\q24/\q25/\q27/\q28/\q29/\Z6 (2=e) q46)))/\
 (q95=true->
 (List.length q96=0->Z0 q15 (q17/\q18/\q19/\Z0 q21 (q22/\q23/\q24/\q25/\q27/\q28/\q29/\Z6 (180=e) q46)))/\
 ∀(n:Nat) (L:List Za),
 L=ZR q96->
 n=List.length L->
 n≠0->
 Z6 (0+n<=n) ((∀(i:Nat),i<n->true=true)/\
 ∃(t:TxS),
 (t.num=2147483647/\
 (((1:Nat)=1/\t.N=1)/\∀(i:Nat),i<1->Y9 [AV.arr u8 32 q47.name,AV.int i64 q47.index,AV.int i64 q47.way,AV.arr u8 32 q47.tag,AV.arr u8 32 q47.also,AV.arr u8 32 q47.secret] 0 130 i=InS.c (t.ins i))/\
 (n=n/\t.M=n)/\
 ∀(i:Nat),
 let q99:=ZV L i;
 i<n->[AV.int i64 q99.kind,AV.int i64 q99.amount,AV.arr u8 32 q99.owner,AV.arr u8 32 q99.other,AV.arr u8 32 q99.point,AV.arr u8 32 q99.hash,AV.int i64 q99.delay,AV.int i64 q99.expiry]=ZE.c (t.outs i))/\
 (TxS.Ok t/\List.length q9=32/\Yf A t=true)/\Z6 (13=q14) (q17/\q18/\q19/\Z6 (fee=q20) (q22/\q23/\q24/\q25/\Tg q9 t=q26/\q28/\q29/\Z6 (0=e) (q32/\Z0 q33 (Z0 q34 (Z0 q35 (Z0 q36 (Z0 q37 (q38/\q39/\q40/\Z0 q41 (Z0 q42 (Z6 (true=q43) (Z6 (fee=q44) q45)))))))))))))) (by kernel_rfl) ?_
 conv=>zeta
 try simp only [vcA]
 try simp only [vcB]
 try simp only [vcC]
 subst hA
 obtain ⟨he,go,no⟩:=hr
 refine ⟨ht.ok,k.a0,k.a1,rfl,ha,fun h1=> ?_,fun h1=>⟨fun h2=> ?_,fun n L hL hn hn0=> ?_⟩⟩
 ·have e2:e=2:=he.trans (Q2 (k:=k) h1)
  obtain ⟨rfl,rfl,rfl,rfl,rfl⟩:=no (by rw [e2];decide)
  and_intros<;>first|rfl|exact e2.symm
 ·have e2:e=180:=he.trans (Wj (k:=k) h1 h2)
  obtain ⟨rfl,rfl,rfl,rfl,rfl⟩:=no (by rw [e2];decide)
  and_intros<;>first|rfl|exact e2.symm
 ·have e1:=Wk (k:=k) h1 hL hn hn0
  have e2:e=0:=he.trans e1
  obtain ⟨rfl,rfl,rfl,rfl,rfl⟩:=go e2
  subst hn hL
  refine ⟨fun _ _=>trivial,txC k.t k.a0 k.a1 _,⟨rfl,⟨rfl,fun i hi=>VC _ i hi⟩,rfl,fun _ _=>rfl⟩,⟨Ws ht.ok ht.fl,ht.ok.k0,V6 e1⟩, ?_⟩
  and_intros<;>first|rfl|exact e2.symm
theorem Zhw (A:List Int->Int×Int) (Tg:List Int->TxS->List Int) (k:ClS) (fee e kd am la:Int) (tg:List Int) (of:Bool) (hA:A=ZB) (ht:k.t.All) (ha:k.a0<9223372036854775808) (hr:OfR Tg k 1 fee e kd am la tg of):
  evF (Ze7 A Tg) 20 32 [.ptr (some ⟨0,0,0,0,0⟩),.int .i64 fee] ⟨1,[(0,.flat ((clD k 1).c++[.bool true]))]⟩ (ZF 1 (.ret (.tuple [.agg (sdN kd am tg).c,.int .i64 e])) 1 [(0,.flat ((clO (clD k 1) of la k.agrees k.fee).c++[.bool true]))]):=by
 refine @Eq.mpr _ (let q1:=clD k 1;let q2:=q1.t;let q3:=q2.fund;let q4:=q2.index;let q5:=q2.cap;let q6:=q2.dust;let q7:=q2.fee;let q8:=q2.delay;let q9:=q2.k0;let q10:=q2.k1;let q11:=Zj.mk q3 q4 q5 q6 q7 q8 q9 q10;let q12:=[q1.a0,q1.a1];let q13:=sdN kd am tg;let q14:=q13.kind;let q15:=decide (0=q14);let q16:=q13.t;let q17:=Z5=q16.fund;let q18:=Z5=q16.k0;let q19:=Z5=q16.k1;let q20:=q13.amount;let q21:=decide (0=q20);let q22:=Z5=q13.point;let q23:=Z5=q13.nxt;let q24:=Z5=q13.key;let q25:=Z5=q13.hash;let q26:=q13.tag;let q27:=Z5=q26;let q28:=Z5=q13.secret;let q29:=ByteArray.empty=q13.route;let q30:=clO q1 of la k.agrees k.fee;let q31:=q30.t;let q32:=q3=q31.fund;let q33:=decide (q4=q31.index);let q34:=decide (q5=q31.cap);let q35:=decide (q6=q31.dust);let q36:=decide (q7=q31.fee);let q37:=decide (q8=q31.delay);let q38:=q9=q31.k0;let q39:=q10=q31.k1;let q40:=q12=[q30.a0,q30.a1];let q41:=decide (q1.least=q30.least);let q42:=decide (q1.most=q30.most);let q43:=q30.offers;let q44:=q30.last;let q45:=Z6 (q1.agrees=q30.agrees) (Z6 (q1.fee=q30.fee) True);let q46:=q32/\Z0 q33 (Z0 q34 (Z0 q35 (Z0 q36 (Z0 q37 (q38/\q39/\q40/\Z0 q41 (Z0 q42 (Z6 (q1.offers=q43) (Z6 (q1.last=q44) q45))))))));let q47:=InS.mk q3 q4 1 Z5 Z5 Z5;
 Zj.Ok q11/\
 ∃(a:Int),
 ∃(b:Int),
 let q95:=clB A q11 a b fee;let q96:=clL q11 a b fee;
 q12=[a,b]/\
 a<9223372036854775808/\
 (q95=false->Z0 q15 (q17/\q18/\q19/\Z0 q21 (q22/\q23/\q24/\q25/\q27/\q28/\q29/\Z6 (2=e) q46)))/\
 (q95=true->
 (List.length q96=0->Z0 q15 (q17/\q18/\q19/\Z0 q21 (q22/\q23/\q24/\q25/\q27/\q28/\q29/\Z6 (180=e) q46)))/\
 ∀(n:Nat) (L:List Za),
 L=ZR q96->
 n=List.length L->
 n≠0->
 Z6 (0+n<=n) ((∀(i:Nat),i<n->true=true)/\
 ∃(t:TxS),
 (t.num=2147483647/\
 (((1:Nat)=1/\t.N=1)/\∀(i:Nat),i<1->Y9 [AV.arr u8 32 q47.name,AV.int i64 q47.index,AV.int i64 q47.way,AV.arr u8 32 q47.tag,AV.arr u8 32 q47.also,AV.arr u8 32 q47.secret] 0 130 i=InS.c (t.ins i))/\
 (n=n/\t.M=n)/\
 ∀(i:Nat),
 let q99:=ZV L i;
 i<n->[AV.int i64 q99.kind,AV.int i64 q99.amount,AV.arr u8 32 q99.owner,AV.arr u8 32 q99.other,AV.arr u8 32 q99.point,AV.arr u8 32 q99.hash,AV.int i64 q99.delay,AV.int i64 q99.expiry]=ZE.c (t.outs i))/\
 (TxS.Ok t/\List.length q10=32/\Yf A t=true)/\Z6 (13=q14) (q17/\q18/\q19/\Z6 (fee=q20) (q22/\q23/\q24/\q25/\Tg q10 t=q26/\q28/\q29/\Z6 (0=e) (q32/\Z0 q33 (Z0 q34 (Z0 q35 (Z0 q36 (Z0 q37 (q38/\q39/\q40/\Z0 q41 (Z0 q42 (Z6 (true=q43) (Z6 (fee=q44) q45)))))))))))))) (by kernel_rfl) ?_
 conv=>zeta
 try simp only [vcA]
 try simp only [vcB]
 try simp only [vcC]
 subst hA
 obtain ⟨he,go,no⟩:=hr
 refine ⟨ht.ok,k.a0,k.a1,rfl,ha,fun h1=> ?_,fun h1=>⟨fun h2=> ?_,fun n L hL hn hn0=> ?_⟩⟩
 ·have e2:e=2:=he.trans (Q2 (k:=k) h1)
  obtain ⟨rfl,rfl,rfl,rfl,rfl⟩:=no (by rw [e2];decide)
  and_intros<;>first|rfl|exact e2.symm
 ·have e2:e=180:=he.trans (Wj (k:=k) h1 h2)
  obtain ⟨rfl,rfl,rfl,rfl,rfl⟩:=no (by rw [e2];decide)
  and_intros<;>first|rfl|exact e2.symm
 ·have e1:=Wk (k:=k) h1 hL hn hn0
  have e2:e=0:=he.trans e1
  obtain ⟨rfl,rfl,rfl,rfl,rfl⟩:=go e2
  subst hn hL
  refine ⟨fun _ _=>trivial,txC k.t k.a0 k.a1 _,⟨rfl,⟨rfl,fun i hi=>VC _ i hi⟩,rfl,fun _ _=>rfl⟩,⟨Ws ht.ok ht.fl,ht.ok.k1,V6 e1⟩, ?_⟩
  and_intros<;>first|rfl|exact e2.symm
inductive YE (cs:List AV) (k:ClS):Prop
 | mk:cs=k.c++[.bool true]->YE cs k
structure Xz (k:ClS):Prop where
 t:k.t.All
 a:k.a0<9223372036854775808
 s:k.side=0\/k.side=1
theorem Ze8 {k:ClS} (hk:Xz k) (fee:Int):(ZJ k.t k.a0 k.a1 fee=0->Spec PP 32 [.ptr (some ⟨0,0,0,0,0⟩),.int .i64 fee] ⟨1,[(0,.flat (k.c++[.bool true]))]⟩ (.ret (.tuple [.agg (sdN 13 fee (Yb Zv k fee k.side)).c,.int .i64 0])) 1 [(0,.flat ((clO k true fee k.agrees k.fee).c++[.bool true]))])/\
  (ZJ k.t k.a0 k.a1 fee≠0->Spec PP 32 [.ptr (some ⟨0,0,0,0,0⟩),.int .i64 fee] ⟨1,[(0,.flat (k.c++[.bool true]))]⟩ (.ret (.tuple [.agg (sdN 0 0 Z5).c,.int .i64 (ZJ k.t k.a0 k.a1 fee)])) 1 [(0,.flat (k.c++[.bool true]))]):=by
 obtain ⟨ht,ha,hs⟩:=hk
 refine ⟨fun he=> ?_,fun he=> ?_⟩
 ·rw [Ud he]
  rcases hs with hs|hs
  ·have hv:=Zhv ZB Zv k fee 0 13 fee fee (Zv (Z8U k.t 0) (txC k.t k.a0 k.a1 fee)) true rfl ht ha ⟨he.symm,fun _=>⟨rfl,rfl,rfl,rfl,rfl⟩,fun h=>absurd rfl h⟩
   rw [Wl hs] at hv
   rw [hs]
   exact .evM Qm hv
  ·have hv:=Zhw ZB Zv k fee 0 13 fee fee (Zv (Z8U k.t 1) (txC k.t k.a0 k.a1 fee)) true rfl ht ha ⟨he.symm,fun _=>⟨rfl,rfl,rfl,rfl,rfl⟩,fun h=>absurd rfl h⟩
   rw [Wl hs] at hv
   rw [hs]
   exact .evM Qm hv
 ·rcases hs with hs|hs
  ·have hv:=Zhv ZB Zv k fee (ZJ k.t k.a0 k.a1 fee) 0 0 k.last Z5 k.offers rfl ht ha ⟨rfl,fun h=>absurd h he,fun _=>⟨rfl,rfl,rfl,rfl,rfl⟩⟩
   rw [Wl hs] at hv
   exact .evM Qm hv
  ·have hv:=Zhw ZB Zv k fee (ZJ k.t k.a0 k.a1 fee) 0 0 k.last Z5 k.offers rfl ht ha ⟨rfl,fun h=>absurd h he,fun _=>⟨rfl,rfl,rfl,rfl,rfl⟩⟩
   rw [Wl hs] at hv
   exact .evM Qm hv
inductive Xp (cs:List AV) (s:Zi):Prop
 | mk:cs=s.c->Xp cs s
open Classical in
noncomputable def XA (s:Zi):Bool:=decide (Zp s s.kind)
theorem Q3 {s:Zi}:XA s=true↔Zp s s.kind:=by unfold XA;simp
def ZgO (SB:Zi->Bool):ZH:=fun args _ K=>match args with
 | [.agg cs]=>∃s,Xp cs s/\s.Len/\(SB s=true->K (.int .i64 0))/\(SB s=false->K (.int .i64 2))
 | _=>False
structure HR where
 e:Int
 kd:Int
 am:Int
 tg:List Int
 sy:Bool
 of:Bool
 la:Int
 ag:Bool
 fe:Int
def noR (k:ClS) (e:Int):HR:=⟨e,0,0,Z5,false,k.offers,k.last,k.agrees,k.fee⟩
def Y1 (SB:Zi->Bool) (M:Int->Int->Int) (Tg:List Int->TxS->List Int) (k:ClS) (s:Zi):HR:=
 if SB s=false then noR k 2 else if s.kind≠13 then noR k 210 else if k.agrees=true then noR k 250
 else if ZJ k.t k.a0 k.a1 s.amount≠0 then noR k (ZJ k.t k.a0 k.a1 s.amount)
 else if Yb Tg k s.amount (1-k.side)≠s.tag then noR k 221
 else if k.offers=true/\k.last=s.amount then ⟨0,0,0,Z5,false,k.offers,k.last,true,s.amount⟩
 else if k.least<=s.amount/\s.amount<=k.most then ⟨0,13,s.amount,Yb Tg k s.amount k.side,true,true,s.amount,true,s.amount⟩
 else if k.offers=true/\YA M k s.amount=k.last then noR k 252
 else if ZJ k.t k.a0 k.a1 (YA M k s.amount)≠0 then noR k (ZJ k.t k.a0 k.a1 (YA M k s.amount))
 else ⟨0,13,YA M k s.amount,Yb Tg k (YA M k s.amount) k.side,true,true,YA M k s.amount,k.agrees,k.fee⟩
def h2E (Tg:List Int->TxS->List Int) (k:ClS) (s:Zi):Int:=if ZJ k.t k.a0 k.a1 s.amount=0 then (if Yb Tg k s.amount (1-k.side)=s.tag then 0 else 221) else ZJ k.t k.a0 k.a1 s.amount
theorem Z1j {k:ClS} {s:Zi} {m:Int} (h:ZJ k.t k.a0 k.a1 s.amount=m) (hm:m≠0):h2E Tg k s=m:=by
 unfold h2E
 rw [h,if_neg hm]
theorem Z8V {k:ClS} {s:Zi} (h:ZJ k.t k.a0 k.a1 s.amount=0):h2E Tg k s=if Yb Tg k s.amount (1-k.side)=s.tag then 0 else 221:=by
 unfold h2E
 rw [if_pos h]
theorem ZnD (A:List Int->Int×Int) (Tg:List Int->TxS->List Int) (k:ClS) (s:Zi) (e:Int) (hA:A=ZB) (ht:k.t.All) (ha:k.a0<9223372036854775808) (hl:s.Len) (hT:∀a t,(Tg a t).length=32) (he:e=h2E Tg (clD k 0) s):
  evF (Ze7 A Tg) 20 37 [.ptr (some ⟨1,0,0,0,0⟩),.ptr (some ⟨2,0,0,0,0⟩)] ⟨3,[(0,.flat ((clD k 0).c++[.bool true])),(1,.flat [.ptr (some ⟨0,0,0,0,0⟩)]),(2,.flat s.c)]⟩ (ZF 3 (.ret (.int .i64 e)) 3 [(0,.flat ((clD k 0).c++[.bool true])),(1,.flat [.ptr (some ⟨0,0,0,0,0⟩)]),(2,.flat s.c)]):=by
 refine @Eq.mpr _ (let q1:=clD k 0;let q2:=q1.t;let q3:=q2.fund;let q4:=q2.index;let q5:=q2.cap;let q6:=q2.dust;let q7:=q2.fee;let q8:=q2.delay;let q9:=q2.k0;let q10:=q2.k1;let q11:=Zj.mk q3 q4 q5 q6 q7 q8 q9 q10;let q12:=[q1.a0,q1.a1];let q13:=s.amount;let q14:=q1.least;let q15:=q1.most;let q16:=q1.offers;let q17:=q1.last;let q18:=q1.agrees;let q19:=q1.fee;let q20:=s.t;let q21:=q20.fund;let q22:=q20.index;let q23:=q20.cap;let q24:=q20.dust;let q25:=q20.fee;let q26:=q20.delay;let q27:=q20.k0;let q28:=q20.k1;let q29:=s.reserve;let q30:=s.tag;let q31:=q30=q30;let q32:=( q3=q3/\
 Z6 (q4=q4) (Z6 (q5=q5) (Z6 (q6=q6) (Z6 (q7=q7) (Z6 (q8=q8) (q9=q9/\q10=q10/\q12=q12/\Z6 (q14=q14) (Z6 (q15=q15) (Z6 (q16=q16) (Z6 (q17=q17) (Z6 (q18=q18) (Z6 (q19=q19) (Z6 (s.kind=s.kind) (q21=q21/\Z6 (q22=q22) (Z6 (q23=q23) (Z6 (q24=q24) (Z6 (q25=q25) (Z6 (q26=q26) (q27=q27/\q28=q28/\Z6 (q29=q29) (Z6 (q13=q13) (s.point=s.point/\s.nxt=s.nxt/\s.key=s.key/\s.hash=s.hash/\q31/\s.secret=s.secret/\Z6 (s.id=s.id) (Z6 (s.number=s.number) (Z6 (s.index=s.index) (Z6 (s.expiry=s.expiry) (Z6 (s.code=s.code) (s.route=s.route/\True)))))))))))))))))))))))));let q33:=InS.mk q3 q4 1 Z5 Z5 Z5;
 Zj.Ok q11/\
 ∃(a:Int),
 ∃(b:Int),
 let q67:=clB A q11 a b q13;let q68:=clL q11 a b q13;
 q12=[a,b]/\
 a<9223372036854775808/\
 (q67=false->Z6 (2=e) q32)/\
 (q67=true->
 (List.length q68=0->Z6 (180=e) q32)/\
 ∀(n:Nat) (L:List Za),
 L=ZR q68->
 n=List.length L->
 n≠0->
 Z6 (0+n<=n) ((∀(i:Nat),i<n->true=true)/\
 ∃(t:TxS),
 (t.num=2147483647/\
 (((1:Nat)=1/\t.N=1)/\∀(i:Nat),i<1->Y9 [AV.arr u8 32 q33.name,AV.int i64 q33.index,AV.int i64 q33.way,AV.arr u8 32 q33.tag,AV.arr u8 32 q33.also,AV.arr u8 32 q33.secret] 0 130 i=InS.c (t.ins i))/\
 (n=n/\t.M=n)/\
 ∀(i:Nat),
 let q71:=ZV L i;
 i<n->[AV.int i64 q71.kind,AV.int i64 q71.amount,AV.arr u8 32 q71.owner,AV.arr u8 32 q71.other,AV.arr u8 32 q71.point,AV.arr u8 32 q71.hash,AV.int i64 q71.delay,AV.int i64 q71.expiry]=ZE.c (t.outs i))/\
 (TxS.Ok t/\List.length q10=32/\Yf A t=true)/\q31/\Z6 (List.length (Tg q10 t)=32/\List.length q30=32) (Z7 (Tg q10 t==q30) (Z6 (0=e) q32) (Z6 (221=e) q32))))) (by kernel_rfl) ?_
 conv=>zeta
 try simp only [vcA]
 try simp only [vcB]
 try simp only [vcC]
 subst hA
 have hg:=fun (m:Int) (hm:h2E Tg (clD k 0) s=m)=>he.trans hm
 refine ⟨ht.ok,k.a0,k.a1,rfl,ha,fun h1=> ?_,fun h1=>⟨fun h2=> ?_,fun n L hL hn hn0=> ?_⟩⟩
 ·have e1:=Q2 (k:=k) h1
  have e2:=hg 2 (Z1j (k:=clD k 0) e1 (by decide))
  and_intros<;>first|rfl|exact e2.symm
 ·have e1:=Wj (k:=k) h1 h2
  have e2:=hg 180 (Z1j (k:=clD k 0) e1 (by decide))
  and_intros<;>first|rfl|exact e2.symm
 ·have e1:=Wk (k:=k) h1 hL hn hn0
  subst hn hL
  have hv:Yb Tg (clD k 0) s.amount (1-(clD k 0).side)=Tg k.t.k1 (txC k.t k.a0 k.a1 s.amount):=Ud (k:=k) (sd:=1) e1
  refine ⟨fun _ _=>trivial,txC k.t k.a0 k.a1 s.amount,⟨rfl,⟨rfl,fun i hi=>VC _ i hi⟩,rfl,fun _ _=>rfl⟩,⟨Ws ht.ok ht.fl,ht.ok.k1,V6 e1⟩, ?_⟩
  have e2:=he.trans (Z8V (Tg:=Tg) (k:=clD k 0) e1)
  rw [hv] at e2
  refine ⟨⟨hT _ _,hl.h7⟩,fun h=> ?_,fun h=> ?_⟩
  ·have h:Tg k.t.k1 (txC k.t k.a0 k.a1 s.amount)=s.tag:=beq_iff_eq.1 h
   rw [if_pos h] at e2
   and_intros<;>first|rfl|exact e2.symm
  ·have h:¬Tg k.t.k1 (txC k.t k.a0 k.a1 s.amount)=s.tag:=beq_eq_false_iff_ne.1 h
   rw [if_neg h] at e2
   and_intros<;>first|rfl|exact e2.symm
theorem ZnE (A:List Int->Int×Int) (Tg:List Int->TxS->List Int) (k:ClS) (s:Zi) (e:Int) (hA:A=ZB) (ht:k.t.All) (ha:k.a0<9223372036854775808) (hl:s.Len) (hT:∀a t,(Tg a t).length=32) (he:e=h2E Tg (clD k 1) s):
  evF (Ze7 A Tg) 20 37 [.ptr (some ⟨1,0,0,0,0⟩),.ptr (some ⟨2,0,0,0,0⟩)] ⟨3,[(0,.flat ((clD k 1).c++[.bool true])),(1,.flat [.ptr (some ⟨0,0,0,0,0⟩)]),(2,.flat s.c)]⟩ (ZF 3 (.ret (.int .i64 e)) 3 [(0,.flat ((clD k 1).c++[.bool true])),(1,.flat [.ptr (some ⟨0,0,0,0,0⟩)]),(2,.flat s.c)]):=by
 refine @Eq.mpr _ (let q1:=clD k 1;let q2:=q1.t;let q3:=q2.fund;let q4:=q2.index;let q5:=q2.cap;let q6:=q2.dust;let q7:=q2.fee;let q8:=q2.delay;let q9:=q2.k0;let q10:=q2.k1;let q11:=Zj.mk q3 q4 q5 q6 q7 q8 q9 q10;let q12:=[q1.a0,q1.a1];let q13:=s.amount;let q14:=q1.least;let q15:=q1.most;let q16:=q1.offers;let q17:=q1.last;let q18:=q1.agrees;let q19:=q1.fee;let q20:=s.t;let q21:=q20.fund;let q22:=q20.index;let q23:=q20.cap;let q24:=q20.dust;let q25:=q20.fee;let q26:=q20.delay;let q27:=q20.k0;let q28:=q20.k1;let q29:=s.reserve;let q30:=s.tag;let q31:=q30=q30;let q32:=( q3=q3/\
 Z6 (q4=q4) (Z6 (q5=q5) (Z6 (q6=q6) (Z6 (q7=q7) (Z6 (q8=q8) (q9=q9/\q10=q10/\q12=q12/\Z6 (q14=q14) (Z6 (q15=q15) (Z6 (q16=q16) (Z6 (q17=q17) (Z6 (q18=q18) (Z6 (q19=q19) (Z6 (s.kind=s.kind) (q21=q21/\Z6 (q22=q22) (Z6 (q23=q23) (Z6 (q24=q24) (Z6 (q25=q25) (Z6 (q26=q26) (q27=q27/\q28=q28/\Z6 (q29=q29) (Z6 (q13=q13) (s.point=s.point/\s.nxt=s.nxt/\s.key=s.key/\s.hash=s.hash/\q31/\s.secret=s.secret/\Z6 (s.id=s.id) (Z6 (s.number=s.number) (Z6 (s.index=s.index) (Z6 (s.expiry=s.expiry) (Z6 (s.code=s.code) (s.route=s.route/\True)))))))))))))))))))))))));let q33:=InS.mk q3 q4 1 Z5 Z5 Z5;
 Zj.Ok q11/\
 ∃(a:Int),
 ∃(b:Int),
 let q67:=clB A q11 a b q13;let q68:=clL q11 a b q13;
 q12=[a,b]/\
 a<9223372036854775808/\
 (q67=false->Z6 (2=e) q32)/\
 (q67=true->
 (List.length q68=0->Z6 (180=e) q32)/\
 ∀(n:Nat) (L:List Za),
 L=ZR q68->
 n=List.length L->
 n≠0->
 Z6 (0+n<=n) ((∀(i:Nat),i<n->true=true)/\
 ∃(t:TxS),
 (t.num=2147483647/\
 (((1:Nat)=1/\t.N=1)/\∀(i:Nat),i<1->Y9 [AV.arr u8 32 q33.name,AV.int i64 q33.index,AV.int i64 q33.way,AV.arr u8 32 q33.tag,AV.arr u8 32 q33.also,AV.arr u8 32 q33.secret] 0 130 i=InS.c (t.ins i))/\
 (n=n/\t.M=n)/\
 ∀(i:Nat),
 let q71:=ZV L i;
 i<n->[AV.int i64 q71.kind,AV.int i64 q71.amount,AV.arr u8 32 q71.owner,AV.arr u8 32 q71.other,AV.arr u8 32 q71.point,AV.arr u8 32 q71.hash,AV.int i64 q71.delay,AV.int i64 q71.expiry]=ZE.c (t.outs i))/\
 (TxS.Ok t/\List.length q9=32/\Yf A t=true)/\q31/\Z6 (List.length (Tg q9 t)=32/\List.length q30=32) (Z7 (Tg q9 t==q30) (Z6 (0=e) q32) (Z6 (221=e) q32))))) (by kernel_rfl) ?_
 conv=>zeta
 try simp only [vcA]
 try simp only [vcB]
 try simp only [vcC]
 subst hA
 have hg:=fun (m:Int) (hm:h2E Tg (clD k 1) s=m)=>he.trans hm
 refine ⟨ht.ok,k.a0,k.a1,rfl,ha,fun h1=> ?_,fun h1=>⟨fun h2=> ?_,fun n L hL hn hn0=> ?_⟩⟩
 ·have e1:=Q2 (k:=k) h1
  have e2:=hg 2 (Z1j (k:=clD k 1) e1 (by decide))
  and_intros<;>first|rfl|exact e2.symm
 ·have e1:=Wj (k:=k) h1 h2
  have e2:=hg 180 (Z1j (k:=clD k 1) e1 (by decide))
  and_intros<;>first|rfl|exact e2.symm
 ·have e1:=Wk (k:=k) h1 hL hn hn0
  subst hn hL
  have hv:Yb Tg (clD k 1) s.amount (1-(clD k 1).side)=Tg k.t.k0 (txC k.t k.a0 k.a1 s.amount):=Ud (k:=k) (sd:=0) e1
  refine ⟨fun _ _=>trivial,txC k.t k.a0 k.a1 s.amount,⟨rfl,⟨rfl,fun i hi=>VC _ i hi⟩,rfl,fun _ _=>rfl⟩,⟨Ws ht.ok ht.fl,ht.ok.k0,V6 e1⟩, ?_⟩
  have e2:=he.trans (Z8V (Tg:=Tg) (k:=clD k 1) e1)
  rw [hv] at e2
  refine ⟨⟨hT _ _,hl.h7⟩,fun h=> ?_,fun h=> ?_⟩
  ·have h:Tg k.t.k0 (txC k.t k.a0 k.a1 s.amount)=s.tag:=beq_iff_eq.1 h
   rw [if_pos h] at e2
   and_intros<;>first|rfl|exact e2.symm
  ·have h:¬Tg k.t.k0 (txC k.t k.a0 k.a1 s.amount)=s.tag:=beq_eq_false_iff_ne.1 h
   rw [if_neg h] at e2
   and_intros<;>first|rfl|exact e2.symm
def h2S (Tg:List Int->TxS->List Int):ZN:=fun args h K=>match args with
 | [.ptr (some ⟨a,0,0,0,0⟩),.ptr (some ⟨b,0,0,0,0⟩)]=>match h.get a with
  | some (.flat [.ptr (some ⟨x,0,0,0,0⟩)])=>frA [x,a,b] h 40 args fun Bs aa=>match Bs,aa with
   | [.flat cs,.flat [.ptr (some ⟨0,0,0,0,0⟩)],.flat ss],[.ptr (some ⟨1,0,0,0,0⟩),.ptr (some ⟨2,0,0,0,0⟩)]=>∃k s,YE cs k/\Xp ss s/\Xz k/\s.Len/\
    (ZJ k.t k.a0 k.a1 s.amount=2->K (.ret (.int .i64 2)) ⟨h.next,(x,.flat cs)::(a,.flat [.ptr (some ⟨x,0,0,0,0⟩)])::(b,.flat ss)::Yl (Yl (Yl h.bs x) a) b⟩)/\
    (ZJ k.t k.a0 k.a1 s.amount=180->K (.ret (.int .i64 180)) ⟨h.next,(x,.flat cs)::(a,.flat [.ptr (some ⟨x,0,0,0,0⟩)])::(b,.flat ss)::Yl (Yl (Yl h.bs x) a) b⟩)/\
    (ZJ k.t k.a0 k.a1 s.amount=0->(Yb Tg k s.amount (1-k.side)≠s.tag->K (.ret (.int .i64 221)) ⟨h.next,(x,.flat cs)::(a,.flat [.ptr (some ⟨x,0,0,0,0⟩)])::(b,.flat ss)::Yl (Yl (Yl h.bs x) a) b⟩)/\
     (Yb Tg k s.amount (1-k.side)=s.tag->K (.ret (.int .i64 0)) ⟨h.next,(x,.flat cs)::(a,.flat [.ptr (some ⟨x,0,0,0,0⟩)])::(b,.flat ss)::Yl (Yl (Yl h.bs x) a) b⟩))
   | _,_=>False
  | _=>False
 | _=>False
theorem Z5Y (t:Zj) (a b fee:Int):ZJ t a b fee=2\/ZJ t a b fee=180\/ZJ t a b fee=0:=by
 unfold ZJ
 split
 ·split
  ·exact .inr (.inl rfl)
  ·exact .inr (.inr rfl)
 ·exact .inl rfl
theorem ZgP {k:ClS} {s:Zi} (hk:Xz k) (hl:s.Len):Spec PP 37 [.ptr (some ⟨1,0,0,0,0⟩),.ptr (some ⟨2,0,0,0,0⟩)] ⟨3,[(0,.flat (k.c++[.bool true])),(1,.flat [.ptr (some ⟨0,0,0,0,0⟩)]),(2,.flat s.c)]⟩ (.ret (.int .i64 (h2E Zv k s))) 3 [(0,.flat (k.c++[.bool true])),(1,.flat [.ptr (some ⟨0,0,0,0,0⟩)]),(2,.flat s.c)]:=by
 obtain ⟨ht,ha,hs|hs⟩:=hk
 ·have hv:=ZnD ZB Zv k s _ rfl ht ha hl X9 rfl
  rw [Wl hs] at hv
  exact .evM Qm hv
 ·have hv:=ZnE ZB Zv k s _ rfl ht ha hl X9 rfl
  rw [Wl hs] at hv
  exact .evM Qm hv
theorem Zjo (args:List AV) (h:Z8) (K:KO) (hl:h2S Zv args h K):Ze PP 37 args h K:=by
 unfold h2S at hl
 split at hl
 ·split at hl
  ·refine Spec.fsumm hl fun Bs a hlen hK0=> ?_
   split at hK0
   ·obtain ⟨k,s,⟨rfl⟩,⟨rfl⟩,hk,hs,k1,k2,k3⟩:=hK0
    refine ⟨_,_,_,_,_,ZgP hk hs,by simp,.ret _ _ rfl,.cons _ _ _ _ _ _ rfl (.flat _ _ rfl) (.cons _ _ _ _ _ _ rfl (.flat _ _ rfl) (.cons _ _ _ _ _ _ rfl (.flat _ _ rfl) .nil)), ?_⟩
    rcases Z5Y k.t k.a0 k.a1 s.amount with e|e|e
    ·rw [Z1j e (by decide)];exact k1 e
    ·rw [Z1j e (by decide)];exact k2 e
    ·rw [Z8V e]
     split
     ·exact (k3 e).2 (by assumption)
     ·exact (k3 e).1 (by assumption)
   ·exact hK0.elim
  ·exact hl.elim
 ·exact hl.elim
def sdC (kd am:Int) (tg:List Int):List AV:=[.int .i64 kd,.arr .u8 32 Z5,.int .i64 0,.int .i64 0,.int .i64 0,.int .i64 0,.int .i64 0,.arr .u8 32 Z5,.arr .u8 32 Z5,.int .i64 0,.int .i64 am,.arr .u8 32 Z5,.arr .u8 32 Z5,.arr .u8 32 Z5,.arr .u8 32 Z5,.arr .u8 32 tg,.arr .u8 32 Z5,.int .i64 0,.int .i64 0,.int .i64 0,.int .i64 0,.int .i64 0,.str ByteArray.empty]
def Zma (cs:List AV) (fee:Int):List AV:=match cs with
 | [a,b,c,d,e,f,g,h,i,j,k,l,_,_,o,p,q]=>[a,b,c,d,e,f,g,h,i,j,k,l,.bool true,.int .i64 fee,o,p,q]
 | _=>[]
def ZgQ (Tg:List Int->TxS->List Int):ZN:=fun args h K=>match args with
 | [.ptr (some ⟨x,0,0,0,0⟩),_]=>frA [x] h 20 args fun Bs a=>match Bs,a with
  | [.flat cs],[.ptr (some ⟨0,0,0,0,0⟩),.int .i64 fee]=>∃k,YE cs k/\Xz k/\
   (ZJ k.t k.a0 k.a1 fee=0->K (.ret (.tuple [.agg (sdC 13 fee (Yb Tg k fee k.side)),.int .i64 0])) ⟨h.next,(x,.flat (Zma cs fee))::Yl h.bs x⟩)/\
   (ZJ k.t k.a0 k.a1 fee=2->K (.ret (.tuple [.agg (sdC 0 0 Z5),.int .i64 2])) ⟨h.next,(x,.flat cs)::Yl h.bs x⟩)/\
   (ZJ k.t k.a0 k.a1 fee=180->K (.ret (.tuple [.agg (sdC 0 0 Z5),.int .i64 180])) ⟨h.next,(x,.flat cs)::Yl h.bs x⟩)
  | _,_=>False
 | _=>False
theorem Z5Z (args:List AV) (h:Z8) (K:KO) (hl:ZgQ Zv args h K):Ze PP 32 args h K:=by
 unfold ZgQ at hl
 split at hl
 ·refine Spec.fsumm hl fun Bs a hlen hK0=> ?_
  split at hK0
  ·rename_i cs fee
   obtain ⟨k,⟨rfl⟩,hk,h1,h2,h3⟩:=hK0
   have hs:=Ze8 hk fee
   rcases Z5Y k.t k.a0 k.a1 fee with e|e|e
   ·exact ⟨_,_,_,_,_,(hs.2 (by rw [e];decide)),by simp,.ret _ _ rfl,.cons _ _ _ _ _ _ rfl (.flat _ _ rfl) .nil,e▸h2 e⟩
   ·exact ⟨_,_,_,_,_,(hs.2 (by rw [e];decide)),by simp,.ret _ _ rfl,.cons _ _ _ _ _ _ rfl (.flat _ _ rfl) .nil,e▸h3 e⟩
   ·exact ⟨_,_,_,_,_,hs.1 e,by simp,.ret _ _ rfl,.cons _ _ _ _ _ _ rfl (.flat _ _ rfl) .nil,h1 e⟩
  ·exact hK0.elim
 ·exact hl.elim
theorem Ze.k {P:Program} {f:FuncId} {h:Z8} {K K':KO} (hc:Ze P f args h K) (hk:∀o h,K o h->K' o h):Ze P f args h K':=fun E w rs he hl=>
 (hc E w rs he hl).mono (by
  rintro e w' ⟨E1,o,h',h1,h2,h3⟩
  exact ⟨E1,o,h',hk _ _ h1,h2,h3⟩)
theorem Zmb {ok:Bool} {o:Out} {h:Z8} (hk:chK ok o h):XR (fun v=>v=.int .i64 (if ok=true then 0 else 2)) o h:=by
 unfold chK at hk
 split at hk
 ·subst hk;rfl
 ·subst hk;rfl
 ·exact hk.elim
theorem Xe:Z0c.Ok:=Zd.withP_ok Zm Z3A
theorem ZgR:Zlu.Ok:=Zd.withF_ok (Zd.withF_ok (Zd.withF_ok Zm (Z8M (f:=227))) (Z8M (f:=230))) (Z8M (f:=235))
theorem Z3J {s:Zi} {k:Int} (hk:k<1\/14<k):¬Zp s k:=fun h=>by
 have hq:=h.k
 unfold kindOk at hq
 split at hq<;>first|omega|exact hq
theorem Zmc {s:Zi} (hs:s.Len) {ok:Bool} (hok:ok=true↔Zp s s.kind):Ze PP 35 [.agg s.c] ⟨0,[]⟩ (chK ok):=by
 unfold Zi.c
 have h15:s.kind=1\/s.kind=2\/s.kind=3\/s.kind=4\/s.kind=5\/s.kind=6\/s.kind=7\/s.kind=8\/s.kind=9\/s.kind=10\/s.kind=11\/s.kind=12\/s.kind=13\/s.kind=14\/(s.kind<1\/14<s.kind):=by omega
 rcases h15 with h|h|h|h|h|h|h|h|h|h|h|h|h|h|h
 ·rw [h] at hok⊢;exact ZX Xe (Zl9 s ok hs hok)
 ·rw [h] at hok⊢;exact ZX Xe (Zla s ok hs hok)
 ·rw [h] at hok⊢;exact ZX Xe (Zlb s ok hs hok)
 ·rw [h] at hok⊢;exact ZX Xe (Zlc s ok hs hok)
 ·rw [h] at hok⊢;exact ZX Xe (Zln s ok hs hok)
 ·rw [h] at hok⊢;exact ZX Xe (Zlo s ok hs hok)
 ·rw [h] at hok⊢;exact ZX Xe (Zlp s ok hs hok)
 ·rw [h] at hok⊢;exact ZX Xe (Zlq s ok hs hok)
 ·rw [h] at hok⊢;exact ZX Xe (Zlr s ok hs hok)
 ·rw [h] at hok⊢;exact ZX Xe (Zj1 s ok hs hok)
 ·rw [h] at hok⊢;exact ZX Xe (Zj2 s ok hs hok)
 ·rw [h] at hok⊢;exact ZX Xe (Zj3 s ok hs hok)
 ·rw [h] at hok⊢;exact ZX Xe (Zls s ok hs hok)
 ·rw [h] at hok⊢;exact ZX Xe (Zlt s ok hs hok)
 ·have e:ok=false:=Bool.eq_false_iff.2 fun e=>Z3J h (hok.1 e)
  subst e
  exact ZX ZgR (Znd s s.kind hs h)
theorem Z8W (args:List AV) (h:Z8) (K:AV->Prop) (hl:ZgO XA args h K):Ze PP 35 args h fun o h'=>∃v,o=.ret v/\h'=h/\K v:=by
 unfold ZgO at hl
 split at hl
 ·obtain ⟨s,⟨rfl⟩,hs,h1,h0⟩:=hl
  refine Z09 rfl ((Zmc hs Q3).k fun o h hk=>Zmb hk) fun u hu=> ?_
  subst hu
  cases hq:XA s with
  | true=>exact h1 hq
  | false=>exact h0 hq
 ·exact hl.elim
def clP (k:ClS) (s:Int) (o g:Bool):ClS:=⟨k.t,s,k.a0,k.a1,k.least,k.most,o,k.last,g,k.fee⟩
def clT (k:ClS) (sd:Int) (o:Bool) (la:Int) (g:Bool) (fe:Int):List AV:=[.arr .u8 32 k.t.fund,.int .i64 k.t.index,.int .i64 k.t.cap,.int .i64 k.t.dust,.int .i64 k.t.fee,.int .i64 k.t.delay,.arr .u8 32 k.t.k0,.arr .u8 32 k.t.k1,.int .i64 sd,.arr .i64 2 [k.a0,k.a1],.int .i64 k.least,.int .i64 k.most,.bool o,.int .i64 la,.bool g,.int .i64 fe,.bool true]
theorem ndT {P:Prop} [Decidable P] (h:(!decide P)=true):¬P:=by simpa using h
theorem ndF {P:Prop} [Decidable P] (h:(!decide P)=false):P:=by simpa using h
structure HdC (SB:Zi->Bool) (k:ClS) (s:Zi):Prop where
 S:SB s=true
 K:s.kind=13
 A:k.agrees=false
structure HtC (SB:Zi->Bool) (Tg:List Int->TxS->List Int) (k:ClS) (s:Zi):Prop where
 h:HdC SB k s
 E:ZJ k.t k.a0 k.a1 s.amount=0
 T:Yb Tg k s.amount (1-k.side)=s.tag
theorem Qn {M:Int->Int->Int} {k:ClS} {s:Zi} (h:SB s=false):Y1 SB M Tg k s=noR k 2:=by unfold Y1;rw [if_pos h]
theorem Ue {M:Int->Int->Int} {k:ClS} {s:Zi} (h:SB s=true) (h2:s.kind≠13):Y1 SB M Tg k s=noR k 210:=by
 unfold Y1;rw [if_neg (by rw [h];decide),if_pos h2]
theorem Za4 {M:Int->Int->Int} {k:ClS} {s:Zi} (h:SB s=true) (h2:s.kind=13) (h3:k.agrees=true):Y1 SB M Tg k s=noR k 250:=by
 unfold Y1;rw [if_neg (by rw [h];decide),if_neg (fun h=>h h2),if_pos h3]
theorem Vq {M:Int->Int->Int} {k:ClS} {s:Zi} {m:Int} (h:HdC SB k s) (he:ZJ k.t k.a0 k.a1 s.amount=m) (hm:m≠0):Y1 SB M Tg k s=noR k m:=by
 unfold Y1;rw [if_neg (by rw [h.S];decide),if_neg (fun q=>q h.K),if_neg (by rw [h.A];decide),if_pos (by rw [he];exact hm),he]
theorem Z0L {M:Int->Int->Int} {k:ClS} {s:Zi} (h:HdC SB k s) (he:ZJ k.t k.a0 k.a1 s.amount=0) (ht:Yb Tg k s.amount (1-k.side)≠s.tag):Y1 SB M Tg k s=noR k 221:=by
 unfold Y1;rw [if_neg (by rw [h.S];decide),if_neg (fun q=>q h.K),if_neg (by rw [h.A];decide),if_neg (fun q=>q he),if_pos ht]
theorem Z2c {M:Int->Int->Int} {k:ClS} {s:Zi} (h:HtC SB Tg k s):Y1 SB M Tg k s=if k.offers=true/\k.last=s.amount then ⟨0,0,0,Z5,false,k.offers,k.last,true,s.amount⟩
  else if k.least<=s.amount/\s.amount<=k.most then ⟨0,13,s.amount,Yb Tg k s.amount k.side,true,true,s.amount,true,s.amount⟩
  else if k.offers=true/\YA M k s.amount=k.last then noR k 252
  else if ZJ k.t k.a0 k.a1 (YA M k s.amount)≠0 then noR k (ZJ k.t k.a0 k.a1 (YA M k s.amount))
  else ⟨0,13,YA M k s.amount,Yb Tg k (YA M k s.amount) k.side,true,true,YA M k s.amount,k.agrees,k.fee⟩:=by
 obtain ⟨h,he,ht⟩:=h
 unfold Y1;rw [if_neg (by rw [h.S];decide),if_neg (fun q=>q h.K),if_neg (by rw [h.A];decide),if_neg (fun q=>q he),if_neg (fun q=>q ht)]
theorem Ze9 {n a b:Int} (h:a<=b):a<=Q1 n a b/\Q1 n a b<=b:=by unfold Q1;omega
theorem Z7g {M:Int->Int->Int} {k:ClS} {x:Int} (h:k.least<=k.most):k.least<=YA M k x/\YA M k x<=k.most:=Ze9 h
noncomputable def ZgS (SB:Zi->Bool) (M:Int->Int->Int) (Tg:List Int->TxS->List Int):Zd:=((((G0.withP 35 (ZgO SB)).withF 37 (h2S Tg)).withF 32 (ZgQ Tg)).withP 40 inQ).withP 41 (nxS M)
theorem ZnF (SB:Zi->Bool) (M:Int->Int->Int) (Tg:List Int->TxS->List Int) (k:ClS) (s:Zi) (sd e kd am:Int) (tg:List Int) (sy of:Bool) (la:Int) (ag:Bool) (fe:Int) (hk:Ys (clP k sd false false)) (ht:k.t.All) (hl:s.Len) (hSB:SB s=true->0<=s.amount/\s.amount<=1125899906842624) (hR:Y1 SB M Tg (clP k sd false false) s=⟨e,kd,am,tg,sy,of,la,ag,fe⟩):
  evF (ZgS SB M Tg) 20 13 [.ptr (some ⟨0,0,0,0,0⟩),.agg s.c] ⟨1,[(0,.flat (clT k sd false k.last false k.fee))]⟩ (ZF 1 (.ret (.tuple [.agg (sdC kd am tg),.bool sy,.int .i64 e])) 1 [(0,.flat (clT k sd of la ag fe))]):=by
 refine @Eq.mpr _ (let q1:=s.t;let q2:=s.amount;let q3:=k.t;let q4:=q3.fund;let q5:=AV.arr u8 32 q4;let q6:=q3.index;let q7:=AV.int i64 q6;let q8:=q3.cap;let q9:=AV.int i64 q8;let q10:=q3.dust;let q11:=AV.int i64 q10;let q12:=q3.fee;let q13:=AV.int i64 q12;let q14:=q3.delay;let q15:=AV.int i64 q14;let q16:=q3.k0;let q17:=AV.arr u8 32 q16;let q18:=q3.k1;let q19:=AV.arr u8 32 q18;let q20:=[k.a0,k.a1];let q21:=AV.arr i64 2 q20;let q22:=k.least;let q23:=AV.int i64 q22;let q24:=k.most;let q25:=AV.int i64 q24;let q26:=AV.bool false;let q27:=AV.int i64 k.last;let q28:=AV.int i64 k.fee;let q29:=[q5,q7,q9,q11,q13,q15,q17,q19,AV.int i64 sd,q21,q23,q25,q26,q27,q26,q28,AV.bool true];let q30:=decide (0=kd);let q31:=decide (0=am);let q32:=decide (false=sy);let q33:=q4=q4;let q34:=decide (q6=q6);let q35:=decide (q8=q8);let q36:=decide (q10=q10);let q37:=decide (q12=q12);let q38:=decide (q14=q14);let q39:=q16=q16;let q40:=q18=q18;let q41:=decide (sd=sd);let q42:=q20=q20;let q43:=decide (q22=q22);let q44:=decide (q24=q24);let q45:=Z6 (false=ag) (Z6 (k.fee=fe) True);let q46:=q33/\Z0 q34 (Z0 q35 (Z0 q36 (Z0 q37 (Z0 q38 (q39/\q40/\Z0 q41 (q42/\Z0 q43 (Z0 q44 (Z6 (false=of) (Z6 (k.last=la) q45)))))))));let q47:=Z0 q30 (Z5=Z5/\Z5=Z5/\Z5=Z5/\Z0 q31 (Z5=Z5/\Z5=Z5/\Z5=Z5/\Z5=Z5/\Z5=tg/\Z5=Z5/\ByteArray.empty=ByteArray.empty/\Z0 q32 (Z6 (2=e) q46)));let q48:=Z0 q30 (Z5=Z5/\Z5=Z5/\Z5=Z5/\Z0 q31 (Z5=Z5/\Z5=Z5/\Z5=Z5/\Z5=Z5/\Z5=tg/\Z5=Z5/\ByteArray.empty=ByteArray.empty/\Z0 q32 (Z6 (180=e) q46)));let q49:=decide (13=kd);let q50:=decide (true=sy);let q51:=decide (0=e);let q52:=decide (true=of);let q53:=decide (true=ag);let q54:=decide (q2=am);let q55:=decide (q2=la);
 ∃(s_1:Zi),
 let q111:=[AV.int i64 s.kind,AV.arr u8 32 q1.fund,AV.int i64 q1.index,AV.int i64 q1.cap,AV.int i64 q1.dust,AV.int i64 q1.fee,AV.int i64 q1.delay,AV.arr u8 32 q1.k0,AV.arr u8 32 q1.k1,AV.int i64 s.reserve,AV.int i64 q2,AV.arr u8 32 s.point,AV.arr u8 32 s.nxt,AV.arr u8 32 s.key,AV.arr u8 32 s.hash,AV.arr u8 32 s.tag,AV.arr u8 32 s.secret,AV.int i64 s.id,AV.int i64 s.number,AV.int i64 s.index,AV.int i64 s.expiry,AV.int i64 s.code,AV.str s.route];
 Xp q111 s_1/\
 Zi.Len s_1/\
 (SB s_1=true->
 Z7 (s.kind==13) (∃(k:ClS),
 ∃(s:Zi),
 let q113:=ZJ k.t k.a0 k.a1 s.amount;let q114:=Yb Tg k s.amount (1-k.side);
 YE q29 k/\
 Xp q111 s/\
 Xz k/\
 Zi.Len s/\
 (q113=2->q47)/\
 (q113=180->q48)/\
 (q113=0->
 (q114≠s.tag->Z0 q30 (Z5=Z5/\Z5=Z5/\Z5=Z5/\Z0 q31 (Z5=Z5/\Z5=Z5/\Z5=Z5/\Z5=Z5/\Z5=tg/\Z5=Z5/\ByteArray.empty=ByteArray.empty/\Z0 q32 (Z6 (221=e) q46))))/\
 (q114=s.tag->
 Z7 (!decide (q22<=q2/\q2<=q24)) (∃(k:ClS),
 let q117:=YA M k q2;let q118:=decide (q117=am);let q119:=decide (q117=la);
 YK [q5,q7,q9,q11,q13,q15,q17,q19,AV.int i64 sd,q21,q23,q25,q26,q27,q26,q28] k/\
 ((0<=k.last/\k.last<=1125899906842624)/\0<=q2/\q2<=1125899906842624)/\
 ∃(k:ClS),
 let q123:=ZJ k.t k.a0 k.a1 q117;let q124:=Yb Tg k q117 k.side=tg;
 YE q29 k/\
 Xz k/\
 (q123=0->Z7 (q117==q2) (Z0 q49 (Z5=Z5/\Z5=Z5/\Z5=Z5/\Z0 q118 (Z5=Z5/\Z5=Z5/\Z5=Z5/\Z5=Z5/\q124/\Z5=Z5/\ByteArray.empty=ByteArray.empty/\Z0 q50 (Z0 q51 (q33/\Z0 q34 (Z0 q35 (Z0 q36 (Z0 q37 (Z0 q38 (q39/\q40/\Z0 q41 (q42/\Z0 q43 (Z0 q44 (Z0 q52 (Z0 q119 (Z0 q53 (Z6 (q117=fe) True)))))))))))))))) (Z0 q49 (Z5=Z5/\Z5=Z5/\Z5=Z5/\Z0 q118 (Z5=Z5/\Z5=Z5/\Z5=Z5/\Z5=Z5/\q124/\Z5=Z5/\ByteArray.empty=ByteArray.empty/\Z0 q50 (Z0 q51 (q33/\Z0 q34 (Z0 q35 (Z0 q36 (Z0 q37 (Z0 q38 (q39/\q40/\Z0 q41 (q42/\Z0 q43 (Z0 q44 (Z0 q52 (Z0 q119 q45)))))))))))))))/\
 (q123=2->q47)/\(q123=180->q48)) (∃(k:ClS),
 let q117:=ZJ k.t k.a0 k.a1 q2;let q118:=Yb Tg k q2 k.side=tg;
 YE q29 k/\
 Xz k/\
 (q117=0->Z7 (q2==q2) (Z0 q49 (Z5=Z5/\Z5=Z5/\Z5=Z5/\Z0 q54 (Z5=Z5/\Z5=Z5/\Z5=Z5/\Z5=Z5/\q118/\Z5=Z5/\ByteArray.empty=ByteArray.empty/\Z0 q50 (Z0 q51 (q33/\Z0 q34 (Z0 q35 (Z0 q36 (Z0 q37 (Z0 q38 (q39/\q40/\Z0 q41 (q42/\Z0 q43 (Z0 q44 (Z0 q52 (Z0 q55 (Z0 q53 (Z6 (q2=fe) True)))))))))))))))) (Z0 q49 (Z5=Z5/\Z5=Z5/\Z5=Z5/\Z0 q54 (Z5=Z5/\Z5=Z5/\Z5=Z5/\Z5=Z5/\q118/\Z5=Z5/\ByteArray.empty=ByteArray.empty/\Z0 q50 (Z0 q51 (q33/\Z0 q34 (Z0 q35 (Z0 q36 (Z0 q37 (Z0 q38 (q39/\q40/\Z0 q41 (q42/\Z0 q43 (Z0 q44 (Z0 q52 (Z0 q55 q45)))))))))))))))/\
 (q117=2->q47)/\(q117=180->q48))))) (Z0 q30 (Z5=Z5/\Z5=Z5/\Z5=Z5/\Z0 q31 (Z5=Z5/\Z5=Z5/\Z5=Z5/\Z5=Z5/\Z5=tg/\Z5=Z5/\ByteArray.empty=ByteArray.empty/\Z0 q32 (Z6 (210=e) q46)))))/\
 (SB s_1=false->q47)) (by kernel_rfl) ?_
 conv=>zeta
 try simp only [vcA]
 try simp only [vcB]
 try simp only [vcC]
 have hm:=hk.made
 have hd:=WG hm.t
 have hfe:=hk.fee_le
 have q3:=hm.a1
 have q4:=hm.sum
 have q5:=hm.lm
 have hlast:0<=(clP k sd false false).last/\(clP k sd false false).last<=1125899906842624:=by omega
 have hOff:Xz (clP k sd false false):=⟨ht,by omega,hm.side⟩
 have hnx:=fun x=>Z7g (M:=M) (x:=x) hm.lm
 refine ⟨s,⟨rfl⟩,hl,fun hS=>⟨fun hK=> ?_,fun hK=> ?_⟩,fun hS=> ?_⟩
 rotate_left
 ·cases hR.symm.trans (Ue hS (beq_eq_false_iff_ne.1 hK))
  and_intros<;>rfl
 ·cases hR.symm.trans (Qn hS)
  and_intros<;>rfl
 have hd:HdC SB (clP k sd false false) s:=⟨hS,beq_iff_eq.1 hK,rfl⟩
 refine ⟨(clP k sd false false),s,⟨rfl⟩,⟨rfl⟩,hOff,hl,fun hE=> ?_,fun hE=> ?_,fun hE=>⟨fun hT=> ?_,fun hT=> ?_⟩⟩
 ·cases hR.symm.trans (Vq hd hE (by decide))
  and_intros<;>rfl
 ·cases hR.symm.trans (Vq hd hE (by decide))
  and_intros<;>rfl
 ·cases hR.symm.trans (Z0L hd hE hT)
  and_intros<;>rfl
 have hx:=hR.symm.trans (Z2c ⟨hd,hE,hT⟩)
 have hno:¬((clP k sd false false).offers=true/\(clP k sd false false).last=s.amount):=fun h=>nomatch h.1
 refine ⟨fun hi=> ?_,fun hi=> ?_⟩
 ·have hi:¬((clP k sd false false).least<=s.amount/\s.amount<=(clP k sd false false).most):=ndT hi
  rw [if_neg hno,if_neg hi] at hx
  have hq2:¬((clP k sd false false).offers=true/\YA M (clP k sd false false) s.amount=(clP k sd false false).last):=fun h=>nomatch h.1
  refine ⟨(clP k sd false false),⟨rfl⟩,⟨hlast,hSB hS⟩,(clP k sd false false),⟨rfl⟩,hOff,fun hN=>⟨fun hq=> ?_,fun _=> ?_⟩,fun hN=> ?_,fun hN=> ?_⟩
  ·have:=hnx s.amount
   rw [beq_iff_eq.1 hq] at this
   exact absurd this hi
  ·rw [if_neg hq2,if_neg (fun q=>q hN)] at hx
   cases hx
   and_intros<;>rfl
  ·rw [if_neg hq2,if_pos (by rw [hN];decide),hN] at hx
   cases hx
   and_intros<;>rfl
  ·rw [if_neg hq2,if_pos (by rw [hN];decide),hN] at hx
   cases hx
   and_intros<;>rfl
 ·have hi:(clP k sd false false).least<=s.amount/\s.amount<=(clP k sd false false).most:=ndF hi
  rw [if_neg hno,if_pos hi] at hx
  refine ⟨(clP k sd false false),⟨rfl⟩,hOff,fun hN=>⟨fun _=> ?_,fun hq=> ?_⟩,fun hN=> ?_,fun hN=> ?_⟩
  ·cases hx
   and_intros<;>rfl
  ·exact absurd rfl (beq_eq_false_iff_ne.1 hq)
  ·exact absurd (hE.symm.trans hN) (by decide)
  ·exact absurd (hE.symm.trans hN) (by decide)
theorem ZnG (SB:Zi->Bool) (M:Int->Int->Int) (Tg:List Int->TxS->List Int) (k:ClS) (s:Zi) (sd e kd am:Int) (tg:List Int) (sy of:Bool) (la:Int) (ag:Bool) (fe:Int) (hk:Ys (clP k sd true false)) (ht:k.t.All) (hl:s.Len) (hSB:SB s=true->0<=s.amount/\s.amount<=1125899906842624) (hR:Y1 SB M Tg (clP k sd true false) s=⟨e,kd,am,tg,sy,of,la,ag,fe⟩):
  evF (ZgS SB M Tg) 20 13 [.ptr (some ⟨0,0,0,0,0⟩),.agg s.c] ⟨1,[(0,.flat (clT k sd true k.last false k.fee))]⟩ (ZF 1 (.ret (.tuple [.agg (sdC kd am tg),.bool sy,.int .i64 e])) 1 [(0,.flat (clT k sd of la ag fe))]):=by
 refine @Eq.mpr _ (let q1:=s.t;let q2:=s.amount;let q3:=k.t;let q4:=q3.fund;let q5:=AV.arr u8 32 q4;let q6:=q3.index;let q7:=AV.int i64 q6;let q8:=q3.cap;let q9:=AV.int i64 q8;let q10:=q3.dust;let q11:=AV.int i64 q10;let q12:=q3.fee;let q13:=AV.int i64 q12;let q14:=q3.delay;let q15:=AV.int i64 q14;let q16:=q3.k0;let q17:=AV.arr u8 32 q16;let q18:=q3.k1;let q19:=AV.arr u8 32 q18;let q20:=[k.a0,k.a1];let q21:=AV.arr i64 2 q20;let q22:=k.least;let q23:=AV.int i64 q22;let q24:=k.most;let q25:=AV.int i64 q24;let q26:=AV.bool true;let q27:=k.last;let q28:=AV.int i64 q27;let q29:=AV.int i64 k.fee;let q30:=[q5,q7,q9,q11,q13,q15,q17,q19,AV.int i64 sd,q21,q23,q25,q26,q28,AV.bool false,q29,q26];let q31:=decide (0=kd);let q32:=decide (0=am);let q33:=decide (false=sy);let q34:=q4=q4;let q35:=decide (q6=q6);let q36:=decide (q8=q8);let q37:=decide (q10=q10);let q38:=decide (q12=q12);let q39:=decide (q14=q14);let q40:=q16=q16;let q41:=q18=q18;let q42:=decide (sd=sd);let q43:=q20=q20;let q44:=decide (q22=q22);let q45:=decide (q24=q24);let q46:=decide (true=of);let q47:=decide (q27=la);let q48:=Z6 (false=ag) (Z6 (k.fee=fe) True);let q49:=q34/\Z0 q35 (Z0 q36 (Z0 q37 (Z0 q38 (Z0 q39 (q40/\q41/\Z0 q42 (q43/\Z0 q44 (Z0 q45 (Z0 q46 (Z0 q47 q48)))))))));let q50:=Z0 q31 (Z5=Z5/\Z5=Z5/\Z5=Z5/\Z0 q32 (Z5=Z5/\Z5=Z5/\Z5=Z5/\Z5=Z5/\Z5=tg/\Z5=Z5/\ByteArray.empty=ByteArray.empty/\Z0 q33 (Z6 (2=e) q49)));let q51:=Z0 q31 (Z5=Z5/\Z5=Z5/\Z5=Z5/\Z0 q32 (Z5=Z5/\Z5=Z5/\Z5=Z5/\Z5=Z5/\Z5=tg/\Z5=Z5/\ByteArray.empty=ByteArray.empty/\Z0 q33 (Z6 (180=e) q49)));let q52:=decide (0=e);let q53:=decide (true=ag);let q54:=Z0 q53 (Z6 (q2=fe) True);let q55:=decide (13=kd);let q56:=decide (true=sy);let q57:=decide (q2=am);let q58:=decide (q2=la);
 ∃(s_1:Zi),
 let q117:=[AV.int i64 s.kind,AV.arr u8 32 q1.fund,AV.int i64 q1.index,AV.int i64 q1.cap,AV.int i64 q1.dust,AV.int i64 q1.fee,AV.int i64 q1.delay,AV.arr u8 32 q1.k0,AV.arr u8 32 q1.k1,AV.int i64 s.reserve,AV.int i64 q2,AV.arr u8 32 s.point,AV.arr u8 32 s.nxt,AV.arr u8 32 s.key,AV.arr u8 32 s.hash,AV.arr u8 32 s.tag,AV.arr u8 32 s.secret,AV.int i64 s.id,AV.int i64 s.number,AV.int i64 s.index,AV.int i64 s.expiry,AV.int i64 s.code,AV.str s.route];
 Xp q117 s_1/\
 Zi.Len s_1/\
 (SB s_1=true->
 Z7 (s.kind==13) (∃(k:ClS),
 ∃(s:Zi),
 let q119:=ZJ k.t k.a0 k.a1 s.amount;let q120:=Yb Tg k s.amount (1-k.side);
 YE q30 k/\
 Xp q117 s/\
 Xz k/\
 Zi.Len s/\
 (q119=2->q50)/\
 (q119=180->q51)/\
 (q119=0->
 (q120≠s.tag->Z0 q31 (Z5=Z5/\Z5=Z5/\Z5=Z5/\Z0 q32 (Z5=Z5/\Z5=Z5/\Z5=Z5/\Z5=Z5/\Z5=tg/\Z5=Z5/\ByteArray.empty=ByteArray.empty/\Z0 q33 (Z6 (221=e) q49))))/\
 (q120=s.tag->
 Z7 (q27==q2) (Z0 q31 (Z5=Z5/\Z5=Z5/\Z5=Z5/\Z0 q32 (Z5=Z5/\Z5=Z5/\Z5=Z5/\Z5=Z5/\Z5=tg/\Z5=Z5/\ByteArray.empty=ByteArray.empty/\Z0 q33 (Z0 q52 (q34/\Z0 q35 (Z0 q36 (Z0 q37 (Z0 q38 (Z0 q39 (q40/\q41/\Z0 q42 (q43/\Z0 q44 (Z0 q45 (Z0 q46 (Z0 q47 q54)))))))))))))) (Z7 (!decide (q22<=q2/\q2<=q24)) (∃(k:ClS),
 let q123:=YA M k q2;let q124:=decide (q123=am);let q125:=decide (q123=la);
 YK [q5,q7,q9,q11,q13,q15,q17,q19,AV.int i64 sd,q21,q23,q25,q26,q28,AV.bool false,q29] k/\
 ((0<=k.last/\k.last<=1125899906842624)/\0<=q2/\q2<=1125899906842624)/\
 Z7 (q123==q27) (Z0 q31 (Z5=Z5/\Z5=Z5/\Z5=Z5/\Z0 q32 (Z5=Z5/\Z5=Z5/\Z5=Z5/\Z5=Z5/\Z5=tg/\Z5=Z5/\ByteArray.empty=ByteArray.empty/\Z0 q33 (Z6 (252=e) q49)))) (∃(k:ClS),
 let q129:=ZJ k.t k.a0 k.a1 q123;let q130:=Yb Tg k q123 k.side=tg;
 YE q30 k/\
 Xz k/\
 (q129=0->Z7 (q123==q2) (Z0 q55 (Z5=Z5/\Z5=Z5/\Z5=Z5/\Z0 q124 (Z5=Z5/\Z5=Z5/\Z5=Z5/\Z5=Z5/\q130/\Z5=Z5/\ByteArray.empty=ByteArray.empty/\Z0 q56 (Z0 q52 (q34/\Z0 q35 (Z0 q36 (Z0 q37 (Z0 q38 (Z0 q39 (q40/\q41/\Z0 q42 (q43/\Z0 q44 (Z0 q45 (Z0 q46 (Z0 q125 (Z0 q53 (Z6 (q123=fe) True)))))))))))))))) (Z0 q55 (Z5=Z5/\Z5=Z5/\Z5=Z5/\Z0 q124 (Z5=Z5/\Z5=Z5/\Z5=Z5/\Z5=Z5/\q130/\Z5=Z5/\ByteArray.empty=ByteArray.empty/\Z0 q56 (Z0 q52 (q34/\Z0 q35 (Z0 q36 (Z0 q37 (Z0 q38 (Z0 q39 (q40/\q41/\Z0 q42 (q43/\Z0 q44 (Z0 q45 (Z0 q46 (Z0 q125 q48)))))))))))))))/\
 (q129=2->q50)/\(q129=180->q51))) (∃(k:ClS),
 let q123:=ZJ k.t k.a0 k.a1 q2;let q124:=Yb Tg k q2 k.side=tg;
 YE q30 k/\
 Xz k/\(q123=0->Z7 (q2==q2) (Z0 q55 (Z5=Z5/\Z5=Z5/\Z5=Z5/\Z0 q57 (Z5=Z5/\Z5=Z5/\Z5=Z5/\Z5=Z5/\q124/\Z5=Z5/\ByteArray.empty=ByteArray.empty/\Z0 q56 (Z0 q52 (q34/\Z0 q35 (Z0 q36 (Z0 q37 (Z0 q38 (Z0 q39 (q40/\q41/\Z0 q42 (q43/\Z0 q44 (Z0 q45 (Z0 q46 (Z0 q58 q54)))))))))))))) (Z0 q55 (Z5=Z5/\Z5=Z5/\Z5=Z5/\Z0 q57 (Z5=Z5/\Z5=Z5/\Z5=Z5/\Z5=Z5/\q124/\Z5=Z5/\ByteArray.empty=ByteArray.empty/\Z0 q56 (Z0 q52 (q34/\Z0 q35 (Z0 q36 (Z0 q37 (Z0 q38 (Z0 q39 (q40/\q41/\Z0 q42 (q43/\Z0 q44 (Z0 q45 (Z0 q46 (Z0 q58 q48)))))))))))))))/\(q123=2->q50)/\(q123=180->q51)))))) (Z0 q31 (Z5=Z5/\Z5=Z5/\Z5=Z5/\Z0 q32 (Z5=Z5/\Z5=Z5/\Z5=Z5/\Z5=Z5/\Z5=tg/\Z5=Z5/\ByteArray.empty=ByteArray.empty/\Z0 q33 (Z6 (210=e) q49)))))/\
 (SB s_1=false->q50)) (by kernel_rfl) ?_
 conv=>zeta
 try simp only [vcA]
 try simp only [vcB]
 try simp only [vcC]
 have hm:=hk.made
 have hd:=WG hm.t
 have hfe:=hk.fee_le
 have q3:=hm.a1
 have q4:=hm.sum
 have q5:=hm.lm
 have hlast:0<=(clP k sd true false).last/\(clP k sd true false).last<=1125899906842624:=by omega
 have hOff:Xz (clP k sd true false):=⟨ht,by omega,hm.side⟩
 have hnx:=fun x=>Z7g (M:=M) (x:=x) hm.lm
 refine ⟨s,⟨rfl⟩,hl,fun hS=>⟨fun hK=> ?_,fun hK=> ?_⟩,fun hS=> ?_⟩
 rotate_left
 ·cases hR.symm.trans (Ue hS (beq_eq_false_iff_ne.1 hK))
  and_intros<;>rfl
 ·cases hR.symm.trans (Qn hS)
  and_intros<;>rfl
 have hd:HdC SB (clP k sd true false) s:=⟨hS,beq_iff_eq.1 hK,rfl⟩
 refine ⟨(clP k sd true false),s,⟨rfl⟩,⟨rfl⟩,hOff,hl,fun hE=> ?_,fun hE=> ?_,fun hE=>⟨fun hT=> ?_,fun hT=> ?_⟩⟩
 ·cases hR.symm.trans (Vq hd hE (by decide))
  and_intros<;>rfl
 ·cases hR.symm.trans (Vq hd hE (by decide))
  and_intros<;>rfl
 ·cases hR.symm.trans (Z0L hd hE hT)
  and_intros<;>rfl
 have hx:=hR.symm.trans (Z2c ⟨hd,hE,hT⟩)
 refine ⟨fun hlt=> ?_,fun hlt=> ?_⟩
 ·rw [if_pos (⟨rfl,beq_iff_eq.1 hlt⟩:(clP k sd true false).offers=true/\(clP k sd true false).last=s.amount)] at hx
  cases hx
  and_intros<;>rfl
 have hno:¬((clP k sd true false).offers=true/\(clP k sd true false).last=s.amount):=fun h=>beq_eq_false_iff_ne.1 hlt h.2
 refine ⟨fun hi=> ?_,fun hi=> ?_⟩
 ·have hi:¬((clP k sd true false).least<=s.amount/\s.amount<=(clP k sd true false).most):=ndT hi
  rw [if_neg hno,if_neg hi] at hx
  refine ⟨(clP k sd true false),⟨rfl⟩,⟨hlast,hSB hS⟩,fun ha=> ?_,fun ha=> ?_⟩
  ·rw [if_pos (⟨rfl,beq_iff_eq.1 ha⟩:(clP k sd true false).offers=true/\YA M (clP k sd true false) s.amount=(clP k sd true false).last)] at hx
   cases hx
   and_intros<;>rfl
  have hq2:¬((clP k sd true false).offers=true/\YA M (clP k sd true false) s.amount=(clP k sd true false).last):=fun h=>beq_eq_false_iff_ne.1 ha h.2
  refine ⟨(clP k sd true false),⟨rfl⟩,hOff,fun hN=>⟨fun hq=> ?_,fun _=> ?_⟩,fun hN=> ?_,fun hN=> ?_⟩
  ·have:=hnx s.amount
   rw [beq_iff_eq.1 hq] at this
   exact absurd this hi
  ·rw [if_neg hq2,if_neg (fun q=>q hN)] at hx
   cases hx
   and_intros<;>rfl
  ·rw [if_neg hq2,if_pos (by rw [hN];decide),hN] at hx
   cases hx
   and_intros<;>rfl
  ·rw [if_neg hq2,if_pos (by rw [hN];decide),hN] at hx
   cases hx
   and_intros<;>rfl
 ·have hi:(clP k sd true false).least<=s.amount/\s.amount<=(clP k sd true false).most:=ndF hi
  rw [if_neg hno,if_pos hi] at hx
  refine ⟨(clP k sd true false),⟨rfl⟩,hOff,fun hN=>⟨fun _=> ?_,fun hq=> ?_⟩,fun hN=> ?_,fun hN=> ?_⟩
  ·cases hx
   and_intros<;>rfl
  ·exact absurd rfl (beq_eq_false_iff_ne.1 hq)
  ·exact absurd (hE.symm.trans hN) (by decide)
  ·exact absurd (hE.symm.trans hN) (by decide)
theorem ZnH (SB:Zi->Bool) (M:Int->Int->Int) (Tg:List Int->TxS->List Int) (k:ClS) (s:Zi) (sd e kd am:Int) (of0:Bool) (tg:List Int) (sy of:Bool) (la:Int) (ag:Bool) (fe:Int) (hl:s.Len) (hR:Y1 SB M Tg (clP k sd of0 true) s=⟨e,kd,am,tg,sy,of,la,ag,fe⟩):
  evF (ZgS SB M Tg) 20 13 [.ptr (some ⟨0,0,0,0,0⟩),.agg s.c] ⟨1,[(0,.flat (clT k sd of0 k.last true k.fee))]⟩ (ZF 1 (.ret (.tuple [.agg (sdC kd am tg),.bool sy,.int .i64 e])) 1 [(0,.flat (clT k sd of la ag fe))]):=by
 refine @Eq.mpr _ (let q1:=s.t;let q2:=decide (0=kd);let q3:=decide (0=am);let q4:=decide (false=sy);let q5:=k.t;let q6:=q5.fund;let q7:=q5.index;let q8:=q5.cap;let q9:=q5.dust;let q10:=q5.fee;let q11:=q5.delay;let q12:=q5.k0;let q13:=q5.k1;let q14:=[k.a0,k.a1];let q15:=q6=q6/\Z6 (q7=q7) (Z6 (q8=q8) (Z6 (q9=q9) (Z6 (q10=q10) (Z6 (q11=q11) (q12=q12/\q13=q13/\Z6 (sd=sd) (q14=q14/\Z6 (k.least=k.least) (Z6 (k.most=k.most) (Z6 (of0=of) (Z6 (k.last=la) (Z6 (true=ag) (Z6 (k.fee=fe) True)))))))))));
 ∃(s_1:Zi),
 Xp [AV.int i64 s.kind,AV.arr u8 32 q1.fund,AV.int i64 q1.index,AV.int i64 q1.cap,AV.int i64 q1.dust,AV.int i64 q1.fee,AV.int i64 q1.delay,AV.arr u8 32 q1.k0,AV.arr u8 32 q1.k1,AV.int i64 s.reserve,AV.int i64 s.amount,AV.arr u8 32 s.point,AV.arr u8 32 s.nxt,AV.arr u8 32 s.key,AV.arr u8 32 s.hash,AV.arr u8 32 s.tag,AV.arr u8 32 s.secret,AV.int i64 s.id,AV.int i64 s.number,AV.int i64 s.index,AV.int i64 s.expiry,AV.int i64 s.code,AV.str s.route] s_1/\
 Zi.Len s_1/\(SB s_1=true->Z7 (s.kind==13) (Z0 q2 (Z5=Z5/\Z5=Z5/\Z5=Z5/\Z0 q3 (Z5=Z5/\Z5=Z5/\Z5=Z5/\Z5=Z5/\Z5=tg/\Z5=Z5/\ByteArray.empty=ByteArray.empty/\Z0 q4 (Z6 (250=e) q15)))) (Z0 q2 (Z5=Z5/\Z5=Z5/\Z5=Z5/\Z0 q3 (Z5=Z5/\Z5=Z5/\Z5=Z5/\Z5=Z5/\Z5=tg/\Z5=Z5/\ByteArray.empty=ByteArray.empty/\Z0 q4 (Z6 (210=e) q15)))))/\(SB s_1=false->Z0 q2 (Z5=Z5/\Z5=Z5/\Z5=Z5/\Z0 q3 (Z5=Z5/\Z5=Z5/\Z5=Z5/\Z5=Z5/\Z5=tg/\Z5=Z5/\ByteArray.empty=ByteArray.empty/\Z0 q4 (Z6 (2=e) q15))))) (by kernel_rfl) ?_
 conv=>zeta
 try simp only [vcA]
 try simp only [vcB]
 try simp only [vcC]
 refine ⟨s,⟨rfl⟩,hl,fun hS=>⟨fun hK=> ?_,fun hK=> ?_⟩,fun hS=> ?_⟩
 ·cases hR.symm.trans (Za4 hS (beq_iff_eq.1 hK) rfl)
  and_intros<;>rfl
 ·cases hR.symm.trans (Ue hS (beq_eq_false_iff_ne.1 hK))
  and_intros<;>rfl
 ·cases hR.symm.trans (Qn hS)
  and_intros<;>rfl
theorem Z1k {k:ClS} {s:Zi} (hc:∀args h K,ZgO SB args h K->Ze PP 35 args h fun o h'=>∃v,o=.ret v/\h'=h/\K v) (hk:Ys k) (ht:k.t.All) (hl:s.Len) (hSB:SB s=true->0<=s.amount/\s.amount<=1125899906842624) {r:HR} (hR:Y1 SB YD Zv k s=r):
  Spec PP 13 [.ptr (some ⟨0,0,0,0,0⟩),.agg s.c] ⟨1,[(0,.flat (clT k k.side k.offers k.last k.agrees k.fee))]⟩ (.ret (.tuple [.agg (sdC r.kd r.am r.tg),.bool r.sy,.int .i64 r.e])) 1 [(0,.flat (clT k k.side r.of r.la r.ag r.fe))]:=by
 have hE:(ZgS SB YD Zv).Ok:=Zd.withP_ok (Zd.withP_ok (Zd.withF_ok (Zd.withF_ok (Zd.withP_ok Zm hc) Zjo) Z5Z) Zjn) Zjm
 obtain ⟨e,kd,am,tg,sy,of,la,ag,fe⟩:=r
 obtain ⟨t,sd,a0,a1,le,mo,o0,l0,g0,f0⟩:=k
 cases g0 with
 | true=>exact .evM hE (ZnH SB YD Zv ⟨t,sd,a0,a1,le,mo,o0,l0,true,f0⟩ s sd e kd am o0 tg sy of la ag fe hl hR)
 | false=>cases o0 with
  | true=>exact .evM hE (ZnG SB YD Zv ⟨t,sd,a0,a1,le,mo,true,l0,false,f0⟩ s sd e kd am tg sy of la ag fe hk ht hl hSB hR)
  | false=>exact .evM hE (ZnF SB YD Zv ⟨t,sd,a0,a1,le,mo,false,l0,false,f0⟩ s sd e kd am tg sy of la ag fe hk ht hl hSB hR)
def Zea (Tg:List Int->TxS->List Int):ZH:=fun args h K=>ZA none h true 40 args fun a=>match a with
 | [.agg cs,.int .i64 fee,.int .i64 sd]=>∃k,YK cs k/\(k.t.All/\k.a0<9223372036854775808/\(sd=0\/sd=1))/\
  (ZJ k.t k.a0 k.a1 fee=2->K (.tuple [.agg [.arr .u8 32 Z5],.int .i64 2]))/\(ZJ k.t k.a0 k.a1 fee=180->K (.tuple [.agg [.arr .u8 32 Z5],.int .i64 180]))/\
  (ZJ k.t k.a0 k.a1 fee=0->K (.tuple [.agg [.arr .u8 32 (Yb Tg k fee sd)],.int .i64 0]))
 | _=>False
theorem Z7h (args:List AV) (h:Z8) (K:AV->Prop) (hl:Zea Zv args h K):Ze PP 70 args h fun o h'=>∃v,o=.ret v/\h'=h/\K v:=by
 refine Zs.psumm (d:=40) (Zk _ _ _ _ _ hl fun a ha=> ?_)
 split at ha
 ·obtain ⟨k,⟨rfl⟩,⟨ht,ha,hs⟩,h1,h2,h3⟩:=ha
  rename_i fee sd
  have hK:K (.tuple [.agg [.arr .u8 32 (Yb Wq k fee sd)],.int .i64 (ZJ k.t k.a0 k.a1 fee)]):=by
   rw [Z5X ht]
   rcases Z5Y k.t k.a0 k.a1 fee with e|e|e
   ·rw [Wa (by rw [e];decide),e];exact h1 e
   ·rw [Wa (by rw [e];decide),e];exact h2 e
   ·rw [e];exact h3 e
  rcases hs with rfl|rfl
  ·exact ⟨_,.evM Za1 (Zm7 _ Wq k _ _ _ rfl ht ha rfl rfl),fun _=>rfl,hK⟩
  ·exact ⟨_,.evM Za1 (Zm8 _ Wq k _ _ _ rfl ht ha rfl rfl),fun _=>rfl,hK⟩
 ·exact ha.elim
def rtS (SB:Zi->Bool):ZH:=fun args _ K=>match args with
 | [.agg cs]=>∃s,Xp cs s/\s.Len/\(SB s=true->K (.bool true))/\(SB s=false->K (.bool false))
 | _=>False
def clU (k:ClS) (sd:Int) (o:Bool) (la:Int) (g:Bool) (fe:Int):List AV:=[.arr .u8 32 k.t.fund,.int .i64 k.t.index,.int .i64 k.t.cap,.int .i64 k.t.dust,.int .i64 k.t.fee,.int .i64 k.t.delay,.arr .u8 32 k.t.k0,.arr .u8 32 k.t.k1,.int .i64 sd,.arr .i64 2 [k.a0,k.a1],.int .i64 k.least,.int .i64 k.most,.bool o,.int .i64 la,.bool g,.int .i64 fe]
theorem Z7i (y lo hi:Int):(if (if y<hi then y else hi)>lo then (if y<hi then y else hi) else lo)=Q1 y lo hi:=by
 unfold Q1
 rw [Int.max_def,Int.min_def]
 split<;>split<;>(try split)<;>(try split)<;>omega
theorem nbT {a b:List Int} (h:(!a==b)=true):a≠b:=by simpa using h
theorem nbF {a b:List Int} (h:(!a==b)=false):a=b:=by simpa using h
noncomputable def ZgT (SB:Zi->Bool) (M:Int->Int->Int) (Tg:List Int->TxS->List Int):Zd:=((G0.withP 126 (rtS SB)).withP 70 (Zea Tg)).withP 127 (Zbo M)
theorem ZnI (SB:Zi->Bool) (M:Int->Int->Int) (Tg:List Int->TxS->List Int) (k:ClS) (s:Zi) (sd e kd am:Int) (tg:List Int) (sy of:Bool) (la:Int) (ag:Bool) (fe:Int) (hT32:∀a t,(Tg a t).length=32) (hk:Ys (clP k sd false false)) (ht:k.t.All) (hl:s.Len) (hSB:SB s=true->0<=s.amount/\s.amount<=1125899906842624) (hR:Y1 SB M Tg (clP k sd false false) s=⟨e,kd,am,tg,sy,of,la,ag,fe⟩):
  evF (ZgT SB M Tg) 20 63 [.agg (clU k sd false k.last false k.fee),.agg s.c] ⟨0,[]⟩ (ZF 0 (.ret (.tuple [.agg (clU k sd of la ag fe),.agg (sdC kd am tg),.bool sy,.int .i64 e])) 0 []):=by
 refine @Eq.mpr _ (let q1:=s.t;let q2:=s.amount;let q3:=s.tag;let q4:=k.t;let q5:=q4.fund;let q6:=q5=q5;let q7:=q4.index;let q8:=decide (q7=q7);let q9:=q4.cap;let q10:=decide (q9=q9);let q11:=q4.dust;let q12:=decide (q11=q11);let q13:=q4.fee;let q14:=decide (q13=q13);let q15:=q4.delay;let q16:=decide (q15=q15);let q17:=q4.k0;let q18:=q17=q17;let q19:=q4.k1;let q20:=q19=q19;let q21:=decide (sd=sd);let q22:=[k.a0,k.a1];let q23:=q22=q22;let q24:=k.least;let q25:=decide (q24=q24);let q26:=k.most;let q27:=decide (q26=q26);let q28:=decide (false=of);let q29:=decide (k.last=la);let q30:=decide (false=ag);let q31:=decide (k.fee=fe);let q32:=decide (0=kd);let q33:=decide (0=am);let q34:=decide (false=sy);let q35:=wrap i64 (1-sd);let q36:=Z6 (2=e) True;let q37:=q6/\Z0 q8 (Z0 q10 (Z0 q12 (Z0 q14 (Z0 q16 (q18/\q20/\Z0 q21 (q23/\Z0 q25 (Z0 q27 (Z0 q28 (Z0 q29 (Z0 q30 (Z0 q31 (Z0 q32 (Z5=Z5/\Z5=Z5/\Z5=Z5/\Z0 q33 (Z5=Z5/\Z5=Z5/\Z5=Z5/\Z5=Z5/\Z5=tg/\Z5=Z5/\ByteArray.empty=ByteArray.empty/\Z0 q34 q36))))))))))))));let q38:=Z6 (180=e) True;let q39:=decide (q2=q2);let q40:=decide (true=of);let q41:=decide (13=kd);let q42:=Z6 (0=e) True;let q43:=if q2<q26 then q2 else q26;let q44:=if q43>q24 then q43 else q24;let q45:=(∃(k_1:ClS),
 YK [AV.arr u8 32 q5,AV.int i64 q7,AV.int i64 q9,AV.int i64 q11,AV.int i64 q13,AV.int i64 q15,AV.arr u8 32 q17,AV.arr u8 32 q19,AV.int i64 sd,AV.arr i64 2 q22,AV.int i64 q24,AV.int i64 q26,AV.bool false,AV.int i64 k.last,AV.bool false,AV.int i64 k.fee] k_1/\
 (Zj.All k_1.t/\k_1.a0<9223372036854775808/\(sd=0\/sd=1))/\
 (ZJ k_1.t k_1.a0 k_1.a1 q44=2->Z5=Z5/\Z5=Z5/\Z5=Z5/\Z5=Z5/\Z5=Z5/\Z5=Z5/\Z5=Z5/\Z5=Z5/\Z5=Z5/\ByteArray.empty=ByteArray.empty/\q6/\Z0 q8 (Z0 q10 (Z0 q12 (Z0 q14 (Z0 q16 (q18/\q20/\Z0 q21 (q23/\Z0 q25 (Z0 q27 (Z0 q28 (Z0 q29 (Z0 q30 (Z0 q31 (Z0 q32 (Z5=Z5/\Z5=Z5/\Z5=Z5/\Z0 q33 (Z5=Z5/\Z5=Z5/\Z5=Z5/\Z5=Z5/\Z5=tg/\Z5=Z5/\ByteArray.empty=ByteArray.empty/\Z6 (false=sy) q36)))))))))))))))/\
 (ZJ k_1.t k_1.a0 k_1.a1 q44=180->Z5=Z5/\Z5=Z5/\Z5=Z5/\Z5=Z5/\Z5=Z5/\Z5=Z5/\Z5=Z5/\Z5=Z5/\Z5=Z5/\ByteArray.empty=ByteArray.empty/\q6/\Z0 q8 (Z0 q10 (Z0 q12 (Z0 q14 (Z0 q16 (q18/\q20/\Z0 q21 (q23/\Z0 q25 (Z0 q27 (Z0 q28 (Z0 q29 (Z0 q30 (Z0 q31 (Z0 q32 (Z5=Z5/\Z5=Z5/\Z5=Z5/\Z0 q33 (Z5=Z5/\Z5=Z5/\Z5=Z5/\Z5=Z5/\Z5=tg/\Z5=Z5/\ByteArray.empty=ByteArray.empty/\Z6 (false=sy) q38)))))))))))))))/\
 (ZJ k_1.t k_1.a0 k_1.a1 q44=0->Yb Tg k_1 q44 sd=Yb Tg k_1 q44 sd/\Z5=Z5/\Z5=Z5/\Z5=Z5/\Z6 (q44=q44) (Z5=Z5/\Z5=Z5/\Z5=Z5/\Z5=Z5/\Yb Tg k_1 q44 sd=Yb Tg k_1 q44 sd/\Z5=Z5/\ByteArray.empty=ByteArray.empty/\q6/\Z0 q8 (Z0 q10 (Z0 q12 (Z0 q14 (Z0 q16 (q18/\q20/\Z0 q21 (q23/\Z0 q25 (Z0 q27 (Z0 q40 (Z6 (q44=la) (Z0 q30 (Z0 q31 (Z0 q41 (Z5=Z5/\Z5=Z5/\Z5=Z5/\Z6 (q44=am) (Z5=Z5/\Z5=Z5/\Z5=Z5/\Z5=Z5/\Yb Tg k_1 q44 sd=tg/\Z5=Z5/\ByteArray.empty=ByteArray.empty/\Z6 (true=sy) q42)))))))))))))))));
 ∃(s_1:Zi),
 Xp [AV.int i64 s.kind,AV.arr u8 32 q1.fund,AV.int i64 q1.index,AV.int i64 q1.cap,AV.int i64 q1.dust,AV.int i64 q1.fee,AV.int i64 q1.delay,AV.arr u8 32 q1.k0,AV.arr u8 32 q1.k1,AV.int i64 s.reserve,AV.int i64 q2,AV.arr u8 32 s.point,AV.arr u8 32 s.nxt,AV.arr u8 32 s.key,AV.arr u8 32 s.hash,AV.arr u8 32 q3,AV.arr u8 32 s.secret,AV.int i64 s.id,AV.int i64 s.number,AV.int i64 s.index,AV.int i64 s.expiry,AV.int i64 s.code,AV.str s.route] s_1/\
 Zi.Len s_1/\
 (SB s_1=true->
 Z7 (s.kind !=13) (q6/\Z0 q8 (Z0 q10 (Z0 q12 (Z0 q14 (Z0 q16 (q18/\q20/\Z0 q21 (q23/\Z0 q25 (Z0 q27 (Z0 q28 (Z0 q29 (Z0 q30 (Z0 q31 (Z0 q32 (Z5=Z5/\Z5=Z5/\Z5=Z5/\Z0 q33 (Z5=Z5/\Z5=Z5/\Z5=Z5/\Z5=Z5/\Z5=tg/\Z5=Z5/\ByteArray.empty=ByteArray.empty/\Z0 q34 (Z6 (210=e) True)))))))))))))))) (∃(k_1:ClS),
 let q91:=[AV.arr u8 32 q5,AV.int i64 q7,AV.int i64 q9,AV.int i64 q11,AV.int i64 q13,AV.int i64 q15,AV.arr u8 32 q17,AV.arr u8 32 q19,AV.int i64 sd,AV.arr i64 2 q22,AV.int i64 q24,AV.int i64 q26,AV.bool false,AV.int i64 k.last,AV.bool false,AV.int i64 k.fee];let q92:=ZJ k_1.t k_1.a0 k_1.a1 q2;let q93:=q6/\Z0 q8 (Z0 q10 (Z0 q12 (Z0 q14 (Z0 q16 (q18/\q20/\Z0 q21 (q23/\Z0 q25 (Z0 q27 (Z0 q28 (Z0 q29 (Z0 q30 (Z0 q31 (Z0 q32 (Z5=Z5/\Z5=Z5/\Z5=Z5/\Z0 q33 (Z5=Z5/\Z5=Z5/\Z5=Z5/\Z5=Z5/\Z5=tg/\Z5=Z5/\ByteArray.empty=ByteArray.empty/\Z0 q34 q38))))))))))))));let q94:=Yb Tg k_1 q2 q35;
 YK q91 k_1/\
 (Zj.All k_1.t/\k_1.a0<9223372036854775808/\(q35=0\/q35=1))/\
 (q92=2->q37)/\
 (q92=180->q93)/\
 (q92=0->
 Z6 (List.length q94=32/\List.length q3=32) (Z7 (!q94==q3) (q6/\Z0 q8 (Z0 q10 (Z0 q12 (Z0 q14 (Z0 q16 (q18/\q20/\Z0 q21 (q23/\Z0 q25 (Z0 q27 (Z0 q28 (Z0 q29 (Z0 q30 (Z0 q31 (Z0 q32 (Z5=Z5/\Z5=Z5/\Z5=Z5/\Z0 q33 (Z5=Z5/\Z5=Z5/\Z5=Z5/\Z5=Z5/\Z5=tg/\Z5=Z5/\ByteArray.empty=ByteArray.empty/\Z0 q34 (Z6 (221=e) True)))))))))))))))) (Z7 (decide (q2>=q24)) (Z7 (decide (q2<=q26)) (∃(k:ClS),
 let q99:=ZJ k.t k.a0 k.a1 q2;let q100:=Yb Tg k q2 sd;let q101:=q100=q100;
 YK q91 k/\(Zj.All k.t/\k.a0<9223372036854775808/\(sd=0\/sd=1))/\(q99=2->q37)/\(q99=180->q93)/\(q99=0->q101/\Z0 q39 (Z5=Z5/\Z5=Z5/\Z5=Z5/\Z0 q39 (Z5=Z5/\Z5=Z5/\Z5=Z5/\Z5=Z5/\q101/\Z5=Z5/\ByteArray.empty=ByteArray.empty/\q6/\Z0 q8 (Z0 q10 (Z0 q12 (Z0 q14 (Z0 q16 (q18/\q20/\Z0 q21 (q23/\Z0 q25 (Z0 q27 (Z0 q40 (Z6 (q2=la) (Z6 (true=ag) (Z6 (q2=fe) (Z0 q41 (Z5=Z5/\Z5=Z5/\Z5=Z5/\Z6 (q2=am) (Z5=Z5/\Z5=Z5/\Z5=Z5/\Z5=Z5/\q100=tg/\Z5=Z5/\ByteArray.empty=ByteArray.empty/\Z6 (true=sy) q42)))))))))))))))))) q45) q45)))))/\
 (SB s_1=false->q37)) (by kernel_rfl) ?_
 conv=>zeta
 try simp only [vcA]
 try simp only [vcB]
 try simp only [vcC]
 have hm:=hk.made
 have hdd:=WG hm.t
 have hfe:=hk.fee_le
 have q3:=hm.a1
 have q4:=hm.sum
 have q5:=hm.lm
 have hsd:sd=0\/sd=1:=hm.side
 have hw:i64.wrap (1-sd)=1-sd:=w64 (by omega)
 have hlast:0<=k.last/\k.last<=1125899906842624:=by
  have h1:0<=(clP k sd false false).last/\(clP k sd false false).last<=1125899906842624:=by omega
  exact h1
 have ha0:k.a0<9223372036854775808:=by
  have h1:(clP k sd false false).a0<9223372036854775808:=by omega
  exact h1
 have hOff:k.t.All/\k.a0<9223372036854775808/\(sd=0\/sd=1):=⟨ht,ha0,hsd⟩
 simp only [Z7i,hw]
 refine ⟨s,⟨rfl⟩,hl,fun hS=>⟨fun hK=> ?_,fun hK=> ?_⟩,fun hS=> ?_⟩
 rotate_left
 rotate_left
 ·cases hR.symm.trans (Qn hS)
  and_intros<;>rfl
 ·cases hR.symm.trans (Ue hS (bne_iff_ne.1 hK))
  and_intros<;>rfl
 have hd:HdC SB (clP k sd false false) s:=⟨hS,bne_eq_false_iff_eq.1 hK,rfl⟩
 have hv:(Yb Tg (clP k sd false false) s.amount (1-sd)).length=32:=by
  unfold Yb
  split
  ·exact hT32 _ _
  ·rfl
 refine ⟨(clP k sd false false),⟨rfl⟩,⟨ht,ha0,by omega⟩,fun hE=> ?_,fun hE=> ?_,fun hE=>⟨⟨hv,hl.h7⟩,fun hT=> ?_,fun hT=> ?_⟩⟩
 ·cases hR.symm.trans (Vq hd hE (by decide))
  and_intros<;>rfl
 ·cases hR.symm.trans (Vq hd hE (by decide))
  and_intros<;>rfl
 ·cases hR.symm.trans (Z0L hd hE (nbT hT))
  and_intros<;>rfl
 have hx:=hR.symm.trans (Z2c ⟨hd,hE,nbF hT⟩)
 have hno:¬((clP k sd false false).offers=true/\(clP k sd false false).last=s.amount):=fun h=>nomatch h.1
 refine ⟨fun h1=>⟨fun h2=> ?_,fun h2=> ?_⟩,fun h1=> ?_⟩
 ·have hi:(clP k sd false false).least<=s.amount/\s.amount<=(clP k sd false false).most:=⟨h1,h2⟩
  rw [if_neg hno,if_pos hi] at hx
  refine ⟨(clP k sd false false),⟨rfl⟩,hOff,fun hN=> ?_,fun hN=> ?_,fun hN=> ?_⟩
  ·exact absurd (hE.symm.trans hN) (by decide)
  ·exact absurd (hE.symm.trans hN) (by decide)
  ·cases hx
   and_intros<;>rfl
 ·have hi:¬((clP k sd false false).least<=s.amount/\s.amount<=(clP k sd false false).most):=fun h=>absurd h.2 h2
  rw [if_neg hno,if_neg hi] at hx
  have hq2:¬((clP k sd false false).offers=true/\YA M (clP k sd false false) s.amount=(clP k sd false false).last):=fun h=>nomatch h.1
  refine ⟨(clP k sd false false),⟨rfl⟩,hOff,fun hN=> ?_,fun hN=> ?_,fun hN=> ?_⟩
  all_goals replace hN:ZJ (clP k sd false false).t (clP k sd false false).a0 (clP k sd false false).a1 (YA M (clP k sd false false) s.amount)=_:=hN
  ·rw [if_neg hq2,if_pos (by rw [hN];decide),hN] at hx
   cases hx
   and_intros<;>rfl
  ·rw [if_neg hq2,if_pos (by rw [hN];decide),hN] at hx
   cases hx
   and_intros<;>rfl
  ·rw [if_neg hq2,if_neg (fun q=>q hN)] at hx
   cases hx
   and_intros<;>rfl
 ·have hi:¬((clP k sd false false).least<=s.amount/\s.amount<=(clP k sd false false).most):=fun h=>absurd h.1 h1
  rw [if_neg hno,if_neg hi] at hx
  have hq2:¬((clP k sd false false).offers=true/\YA M (clP k sd false false) s.amount=(clP k sd false false).last):=fun h=>nomatch h.1
  refine ⟨(clP k sd false false),⟨rfl⟩,hOff,fun hN=> ?_,fun hN=> ?_,fun hN=> ?_⟩
  all_goals replace hN:ZJ (clP k sd false false).t (clP k sd false false).a0 (clP k sd false false).a1 (YA M (clP k sd false false) s.amount)=_:=hN
  ·rw [if_neg hq2,if_pos (by rw [hN];decide),hN] at hx
   cases hx
   and_intros<;>rfl
  ·rw [if_neg hq2,if_pos (by rw [hN];decide),hN] at hx
   cases hx
   and_intros<;>rfl
  ·rw [if_neg hq2,if_neg (fun q=>q hN)] at hx
   cases hx
   and_intros<;>rfl
theorem ZnJ (SB:Zi->Bool) (M:Int->Int->Int) (Tg:List Int->TxS->List Int) (k:ClS) (s:Zi) (sd e kd am:Int) (tg:List Int) (sy of:Bool) (la:Int) (ag:Bool) (fe:Int) (hT32:∀a t,(Tg a t).length=32) (hk:Ys (clP k sd true false)) (ht:k.t.All) (hl:s.Len) (hSB:SB s=true->0<=s.amount/\s.amount<=1125899906842624) (hR:Y1 SB M Tg (clP k sd true false) s=⟨e,kd,am,tg,sy,of,la,ag,fe⟩):
  evF (ZgT SB M Tg) 20 63 [.agg (clU k sd true k.last false k.fee),.agg s.c] ⟨0,[]⟩ (ZF 0 (.ret (.tuple [.agg (clU k sd of la ag fe),.agg (sdC kd am tg),.bool sy,.int .i64 e])) 0 []):=by
 refine @Eq.mpr _ (let q1:=s.t;let q2:=s.amount;let q3:=s.tag;let q4:=k.t;let q5:=q4.fund;let q6:=q5=q5;let q7:=q4.index;let q8:=decide (q7=q7);let q9:=q4.cap;let q10:=decide (q9=q9);let q11:=q4.dust;let q12:=decide (q11=q11);let q13:=q4.fee;let q14:=decide (q13=q13);let q15:=q4.delay;let q16:=decide (q15=q15);let q17:=q4.k0;let q18:=q17=q17;let q19:=q4.k1;let q20:=q19=q19;let q21:=decide (sd=sd);let q22:=[k.a0,k.a1];let q23:=q22=q22;let q24:=k.least;let q25:=decide (q24=q24);let q26:=k.most;let q27:=decide (q26=q26);let q28:=decide (true=of);let q29:=k.last;let q30:=decide (q29=la);let q31:=decide (false=ag);let q32:=decide (k.fee=fe);let q33:=decide (0=kd);let q34:=decide (0=am);let q35:=decide (false=sy);let q36:=wrap i64 (1-sd);let q37:=Z6 (2=e) True;let q38:=q6/\Z0 q8 (Z0 q10 (Z0 q12 (Z0 q14 (Z0 q16 (q18/\q20/\Z0 q21 (q23/\Z0 q25 (Z0 q27 (Z0 q28 (Z0 q30 (Z0 q31 (Z0 q32 (Z0 q33 (Z5=Z5/\Z5=Z5/\Z5=Z5/\Z0 q34 (Z5=Z5/\Z5=Z5/\Z5=Z5/\Z5=Z5/\Z5=tg/\Z5=Z5/\ByteArray.empty=ByteArray.empty/\Z0 q35 q37))))))))))))));let q39:=Z6 (180=e) True;let q40:=decide (q2=q2);let q41:=decide (true=ag);let q42:=decide (q2=fe);let q43:=Z6 (0=e) True;let q44:=decide (13=kd);let q45:=M q29 q2;let q46:=if q45<q26 then q45 else q26;let q47:=if q46>q24 then q46 else q24;let q48:=( ((0<=q29/\q29<=1125899906842624)/\0<=q2/\q2<=1125899906842624)/\
 Z7 (q47==q29) (q6/\Z0 q8 (Z0 q10 (Z0 q12 (Z0 q14 (Z0 q16 (q18/\q20/\Z0 q21 (q23/\Z0 q25 (Z0 q27 (Z0 q28 (Z0 q30 (Z0 q31 (Z0 q32 (Z0 q33 (Z5=Z5/\Z5=Z5/\Z5=Z5/\Z0 q34 (Z5=Z5/\Z5=Z5/\Z5=Z5/\Z5=Z5/\Z5=tg/\Z5=Z5/\ByteArray.empty=ByteArray.empty/\Z0 q35 (Z6 (252=e) True)))))))))))))))) (∃(k_1:ClS),
 YK [AV.arr u8 32 q5,AV.int i64 q7,AV.int i64 q9,AV.int i64 q11,AV.int i64 q13,AV.int i64 q15,AV.arr u8 32 q17,AV.arr u8 32 q19,AV.int i64 sd,AV.arr i64 2 q22,AV.int i64 q24,AV.int i64 q26,AV.bool true,AV.int i64 q29,AV.bool false,AV.int i64 k.fee] k_1/\
 (Zj.All k_1.t/\k_1.a0<9223372036854775808/\(sd=0\/sd=1))/\
 (ZJ k_1.t k_1.a0 k_1.a1 q47=2->Z5=Z5/\Z5=Z5/\Z5=Z5/\Z5=Z5/\Z5=Z5/\Z5=Z5/\Z5=Z5/\Z5=Z5/\Z5=Z5/\ByteArray.empty=ByteArray.empty/\q6/\Z0 q8 (Z0 q10 (Z0 q12 (Z0 q14 (Z0 q16 (q18/\q20/\Z0 q21 (q23/\Z0 q25 (Z0 q27 (Z0 q28 (Z0 q30 (Z0 q31 (Z0 q32 (Z0 q33 (Z5=Z5/\Z5=Z5/\Z5=Z5/\Z0 q34 (Z5=Z5/\Z5=Z5/\Z5=Z5/\Z5=Z5/\Z5=tg/\Z5=Z5/\ByteArray.empty=ByteArray.empty/\Z6 (false=sy) q37)))))))))))))))/\
 (ZJ k_1.t k_1.a0 k_1.a1 q47=180->Z5=Z5/\Z5=Z5/\Z5=Z5/\Z5=Z5/\Z5=Z5/\Z5=Z5/\Z5=Z5/\Z5=Z5/\Z5=Z5/\ByteArray.empty=ByteArray.empty/\q6/\Z0 q8 (Z0 q10 (Z0 q12 (Z0 q14 (Z0 q16 (q18/\q20/\Z0 q21 (q23/\Z0 q25 (Z0 q27 (Z0 q28 (Z0 q30 (Z0 q31 (Z0 q32 (Z0 q33 (Z5=Z5/\Z5=Z5/\Z5=Z5/\Z0 q34 (Z5=Z5/\Z5=Z5/\Z5=Z5/\Z5=Z5/\Z5=tg/\Z5=Z5/\ByteArray.empty=ByteArray.empty/\Z6 (false=sy) q39)))))))))))))))/\
 (ZJ k_1.t k_1.a0 k_1.a1 q47=0->Yb Tg k_1 q47 sd=Yb Tg k_1 q47 sd/\Z5=Z5/\Z5=Z5/\Z5=Z5/\Z6 (q47=q47) (Z5=Z5/\Z5=Z5/\Z5=Z5/\Z5=Z5/\Yb Tg k_1 q47 sd=Yb Tg k_1 q47 sd/\Z5=Z5/\ByteArray.empty=ByteArray.empty/\q6/\Z0 q8 (Z0 q10 (Z0 q12 (Z0 q14 (Z0 q16 (q18/\q20/\Z0 q21 (q23/\Z0 q25 (Z0 q27 (Z0 q28 (Z6 (q47=la) (Z0 q31 (Z0 q32 (Z0 q44 (Z5=Z5/\Z5=Z5/\Z5=Z5/\Z6 (q47=am) (Z5=Z5/\Z5=Z5/\Z5=Z5/\Z5=Z5/\Yb Tg k_1 q47 sd=tg/\Z5=Z5/\ByteArray.empty=ByteArray.empty/\Z6 (true=sy) q43))))))))))))))))));
 ∃(s_1:Zi),
 Xp [AV.int i64 s.kind,AV.arr u8 32 q1.fund,AV.int i64 q1.index,AV.int i64 q1.cap,AV.int i64 q1.dust,AV.int i64 q1.fee,AV.int i64 q1.delay,AV.arr u8 32 q1.k0,AV.arr u8 32 q1.k1,AV.int i64 s.reserve,AV.int i64 q2,AV.arr u8 32 s.point,AV.arr u8 32 s.nxt,AV.arr u8 32 s.key,AV.arr u8 32 s.hash,AV.arr u8 32 q3,AV.arr u8 32 s.secret,AV.int i64 s.id,AV.int i64 s.number,AV.int i64 s.index,AV.int i64 s.expiry,AV.int i64 s.code,AV.str s.route] s_1/\
 Zi.Len s_1/\
 (SB s_1=true->
 Z7 (s.kind !=13) (q6/\Z0 q8 (Z0 q10 (Z0 q12 (Z0 q14 (Z0 q16 (q18/\q20/\Z0 q21 (q23/\Z0 q25 (Z0 q27 (Z0 q28 (Z0 q30 (Z0 q31 (Z0 q32 (Z0 q33 (Z5=Z5/\Z5=Z5/\Z5=Z5/\Z0 q34 (Z5=Z5/\Z5=Z5/\Z5=Z5/\Z5=Z5/\Z5=tg/\Z5=Z5/\ByteArray.empty=ByteArray.empty/\Z0 q35 (Z6 (210=e) True)))))))))))))))) (∃(k_1:ClS),
 let q97:=[AV.arr u8 32 q5,AV.int i64 q7,AV.int i64 q9,AV.int i64 q11,AV.int i64 q13,AV.int i64 q15,AV.arr u8 32 q17,AV.arr u8 32 q19,AV.int i64 sd,AV.arr i64 2 q22,AV.int i64 q24,AV.int i64 q26,AV.bool true,AV.int i64 q29,AV.bool false,AV.int i64 k.fee];let q98:=ZJ k_1.t k_1.a0 k_1.a1 q2;let q99:=q6/\Z0 q8 (Z0 q10 (Z0 q12 (Z0 q14 (Z0 q16 (q18/\q20/\Z0 q21 (q23/\Z0 q25 (Z0 q27 (Z0 q28 (Z0 q30 (Z0 q31 (Z0 q32 (Z0 q33 (Z5=Z5/\Z5=Z5/\Z5=Z5/\Z0 q34 (Z5=Z5/\Z5=Z5/\Z5=Z5/\Z5=Z5/\Z5=tg/\Z5=Z5/\ByteArray.empty=ByteArray.empty/\Z0 q35 q39))))))))))))));let q100:=Yb Tg k_1 q2 q36;
 YK q97 k_1/\
 (Zj.All k_1.t/\k_1.a0<9223372036854775808/\(q36=0\/q36=1))/\
 (q98=2->q38)/\
 (q98=180->q99)/\
 (q98=0->
 Z6 (List.length q100=32/\List.length q3=32) (Z7 (!q100==q3) (q6/\Z0 q8 (Z0 q10 (Z0 q12 (Z0 q14 (Z0 q16 (q18/\q20/\Z0 q21 (q23/\Z0 q25 (Z0 q27 (Z0 q28 (Z0 q30 (Z0 q31 (Z0 q32 (Z0 q33 (Z5=Z5/\Z5=Z5/\Z5=Z5/\Z0 q34 (Z5=Z5/\Z5=Z5/\Z5=Z5/\Z5=Z5/\Z5=tg/\Z5=Z5/\ByteArray.empty=ByteArray.empty/\Z0 q35 (Z6 (221=e) True)))))))))))))))) (Z7 (q29==q2) (Z0 q40 (q6/\Z0 q8 (Z0 q10 (Z0 q12 (Z0 q14 (Z0 q16 (q18/\q20/\Z0 q21 (q23/\Z0 q25 (Z0 q27 (Z0 q28 (Z0 q30 (Z0 q41 (Z0 q42 (Z0 q33 (Z5=Z5/\Z5=Z5/\Z5=Z5/\Z0 q34 (Z5=Z5/\Z5=Z5/\Z5=Z5/\Z5=Z5/\Z5=tg/\Z5=Z5/\ByteArray.empty=ByteArray.empty/\Z0 q35 q43)))))))))))))))) (Z7 (decide (q2>=q24)) (Z7 (decide (q2<=q26)) (∃(k:ClS),
 let q105:=ZJ k.t k.a0 k.a1 q2;let q106:=Yb Tg k q2 sd;let q107:=q106=q106;
 YK q97 k/\(Zj.All k.t/\k.a0<9223372036854775808/\(sd=0\/sd=1))/\(q105=2->q38)/\(q105=180->q99)/\(q105=0->q107/\Z0 q40 (Z5=Z5/\Z5=Z5/\Z5=Z5/\Z0 q40 (Z5=Z5/\Z5=Z5/\Z5=Z5/\Z5=Z5/\q107/\Z5=Z5/\ByteArray.empty=ByteArray.empty/\q6/\Z0 q8 (Z0 q10 (Z0 q12 (Z0 q14 (Z0 q16 (q18/\q20/\Z0 q21 (q23/\Z0 q25 (Z0 q27 (Z0 q28 (Z6 (q2=la) (Z0 q41 (Z0 q42 (Z0 q44 (Z5=Z5/\Z5=Z5/\Z5=Z5/\Z6 (q2=am) (Z5=Z5/\Z5=Z5/\Z5=Z5/\Z5=Z5/\q106=tg/\Z5=Z5/\ByteArray.empty=ByteArray.empty/\Z6 (true=sy) q43)))))))))))))))))) q48) q48))))))/\
 (SB s_1=false->q38)) (by kernel_rfl) ?_
 conv=>zeta
 try simp only [vcA]
 try simp only [vcB]
 try simp only [vcC]
 have hm:=hk.made
 have hdd:=WG hm.t
 have hfe:=hk.fee_le
 have q3:=hm.a1
 have q4:=hm.sum
 have q5:=hm.lm
 have hsd:sd=0\/sd=1:=hm.side
 have hw:i64.wrap (1-sd)=1-sd:=w64 (by omega)
 have hlast:0<=k.last/\k.last<=1125899906842624:=by
  have h1:0<=(clP k sd true false).last/\(clP k sd true false).last<=1125899906842624:=by omega
  exact h1
 have ha0:k.a0<9223372036854775808:=by
  have h1:(clP k sd true false).a0<9223372036854775808:=by omega
  exact h1
 have hOff:k.t.All/\k.a0<9223372036854775808/\(sd=0\/sd=1):=⟨ht,ha0,hsd⟩
 simp only [Z7i,hw]
 refine ⟨s,⟨rfl⟩,hl,fun hS=>⟨fun hK=> ?_,fun hK=> ?_⟩,fun hS=> ?_⟩
 rotate_left
 rotate_left
 ·cases hR.symm.trans (Qn hS)
  and_intros<;>rfl
 ·cases hR.symm.trans (Ue hS (bne_iff_ne.1 hK))
  and_intros<;>rfl
 have hd:HdC SB (clP k sd true false) s:=⟨hS,bne_eq_false_iff_eq.1 hK,rfl⟩
 have hv:(Yb Tg (clP k sd true false) s.amount (1-sd)).length=32:=by
  unfold Yb
  split
  ·exact hT32 _ _
  ·rfl
 refine ⟨(clP k sd true false),⟨rfl⟩,⟨ht,ha0,by omega⟩,fun hE=> ?_,fun hE=> ?_,fun hE=>⟨⟨hv,hl.h7⟩,fun hT=> ?_,fun hT=> ?_⟩⟩
 ·cases hR.symm.trans (Vq hd hE (by decide))
  and_intros<;>rfl
 ·cases hR.symm.trans (Vq hd hE (by decide))
  and_intros<;>rfl
 ·cases hR.symm.trans (Z0L hd hE (nbT hT))
  and_intros<;>rfl
 have hx:=hR.symm.trans (Z2c ⟨hd,hE,nbF hT⟩)
 refine ⟨fun hlt=> ?_,fun hlt=> ?_⟩
 ·rw [if_pos (⟨rfl,beq_iff_eq.1 hlt⟩:(clP k sd true false).offers=true/\(clP k sd true false).last=s.amount)] at hx
  cases hx
  and_intros<;>rfl
 have hno:¬((clP k sd true false).offers=true/\(clP k sd true false).last=s.amount):=fun h=>beq_eq_false_iff_ne.1 hlt h.2
 refine ⟨fun h1=>⟨fun h2=> ?_,fun h2=> ?_⟩,fun h1=> ?_⟩
 ·have hi:(clP k sd true false).least<=s.amount/\s.amount<=(clP k sd true false).most:=⟨h1,h2⟩
  rw [if_neg hno,if_pos hi] at hx
  refine ⟨(clP k sd true false),⟨rfl⟩,hOff,fun hN=> ?_,fun hN=> ?_,fun hN=> ?_⟩
  ·exact absurd (hE.symm.trans hN) (by decide)
  ·exact absurd (hE.symm.trans hN) (by decide)
  ·cases hx
   and_intros<;>rfl
 ·have hi:¬((clP k sd true false).least<=s.amount/\s.amount<=(clP k sd true false).most):=fun h=>absurd h.2 h2
  rw [if_neg hno,if_neg hi] at hx
  refine ⟨⟨hlast,hSB hS⟩,fun ha=> ?_,fun ha=> ?_⟩
  ·rw [if_pos (⟨rfl,beq_iff_eq.1 ha⟩:(clP k sd true false).offers=true/\YA M (clP k sd true false) s.amount=(clP k sd true false).last)] at hx
   cases hx
   and_intros<;>rfl
  have hq2:¬((clP k sd true false).offers=true/\YA M (clP k sd true false) s.amount=(clP k sd true false).last):=fun h=>beq_eq_false_iff_ne.1 ha h.2
  refine ⟨(clP k sd true false),⟨rfl⟩,hOff,fun hN=> ?_,fun hN=> ?_,fun hN=> ?_⟩
  all_goals replace hN:ZJ (clP k sd true false).t (clP k sd true false).a0 (clP k sd true false).a1 (YA M (clP k sd true false) s.amount)=_:=hN
  ·rw [if_neg hq2,if_pos (by rw [hN];decide),hN] at hx
   cases hx
   and_intros<;>rfl
  ·rw [if_neg hq2,if_pos (by rw [hN];decide),hN] at hx
   cases hx
   and_intros<;>rfl
  ·rw [if_neg hq2,if_neg (fun q=>q hN)] at hx
   cases hx
   and_intros<;>rfl
 ·have hi:¬((clP k sd true false).least<=s.amount/\s.amount<=(clP k sd true false).most):=fun h=>absurd h.1 h1
  rw [if_neg hno,if_neg hi] at hx
  refine ⟨⟨hlast,hSB hS⟩,fun ha=> ?_,fun ha=> ?_⟩
  ·rw [if_pos (⟨rfl,beq_iff_eq.1 ha⟩:(clP k sd true false).offers=true/\YA M (clP k sd true false) s.amount=(clP k sd true false).last)] at hx
   cases hx
   and_intros<;>rfl
  have hq2:¬((clP k sd true false).offers=true/\YA M (clP k sd true false) s.amount=(clP k sd true false).last):=fun h=>beq_eq_false_iff_ne.1 ha h.2
  refine ⟨(clP k sd true false),⟨rfl⟩,hOff,fun hN=> ?_,fun hN=> ?_,fun hN=> ?_⟩
  all_goals replace hN:ZJ (clP k sd true false).t (clP k sd true false).a0 (clP k sd true false).a1 (YA M (clP k sd true false) s.amount)=_:=hN
  ·rw [if_neg hq2,if_pos (by rw [hN];decide),hN] at hx
   cases hx
   and_intros<;>rfl
  ·rw [if_neg hq2,if_pos (by rw [hN];decide),hN] at hx
   cases hx
   and_intros<;>rfl
  ·rw [if_neg hq2,if_neg (fun q=>q hN)] at hx
   cases hx
   and_intros<;>rfl
theorem ZnK (SB:Zi->Bool) (M:Int->Int->Int) (Tg:List Int->TxS->List Int) (k:ClS) (s:Zi) (sd e kd am:Int) (of0:Bool) (tg:List Int) (sy of:Bool) (la:Int) (ag:Bool) (fe:Int) (hl:s.Len) (hR:Y1 SB M Tg (clP k sd of0 true) s=⟨e,kd,am,tg,sy,of,la,ag,fe⟩):
  evF (ZgT SB M Tg) 20 63 [.agg (clU k sd of0 k.last true k.fee),.agg s.c] ⟨0,[]⟩ (ZF 0 (.ret (.tuple [.agg (clU k sd of la ag fe),.agg (sdC kd am tg),.bool sy,.int .i64 e])) 0 []):=by
 refine @Eq.mpr _ (let q1:=s.t;let q2:=k.t;let q3:=q2.fund;let q4:=q3=q3;let q5:=q2.index;let q6:=decide (q5=q5);let q7:=q2.cap;let q8:=decide (q7=q7);let q9:=q2.dust;let q10:=decide (q9=q9);let q11:=q2.fee;let q12:=decide (q11=q11);let q13:=q2.delay;let q14:=decide (q13=q13);let q15:=q2.k0;let q16:=q15=q15;let q17:=q2.k1;let q18:=q17=q17;let q19:=decide (sd=sd);let q20:=[k.a0,k.a1];let q21:=q20=q20;let q22:=decide (k.least=k.least);let q23:=decide (k.most=k.most);let q24:=decide (of0=of);let q25:=decide (k.last=la);let q26:=decide (true=ag);let q27:=decide (k.fee=fe);let q28:=decide (0=kd);let q29:=decide (0=am);let q30:=decide (false=sy);
 ∃(s_1:Zi),
 Xp [AV.int i64 s.kind,AV.arr u8 32 q1.fund,AV.int i64 q1.index,AV.int i64 q1.cap,AV.int i64 q1.dust,AV.int i64 q1.fee,AV.int i64 q1.delay,AV.arr u8 32 q1.k0,AV.arr u8 32 q1.k1,AV.int i64 s.reserve,AV.int i64 s.amount,AV.arr u8 32 s.point,AV.arr u8 32 s.nxt,AV.arr u8 32 s.key,AV.arr u8 32 s.hash,AV.arr u8 32 s.tag,AV.arr u8 32 s.secret,AV.int i64 s.id,AV.int i64 s.number,AV.int i64 s.index,AV.int i64 s.expiry,AV.int i64 s.code,AV.str s.route] s_1/\
 Zi.Len s_1/\
 (SB s_1=true->
 Z7 (s.kind !=13) (q4/\Z0 q6 (Z0 q8 (Z0 q10 (Z0 q12 (Z0 q14 (q16/\q18/\Z0 q19 (q21/\Z0 q22 (Z0 q23 (Z0 q24 (Z0 q25 (Z0 q26 (Z0 q27 (Z0 q28 (Z5=Z5/\Z5=Z5/\Z5=Z5/\Z0 q29 (Z5=Z5/\Z5=Z5/\Z5=Z5/\Z5=Z5/\Z5=tg/\Z5=Z5/\ByteArray.empty=ByteArray.empty/\Z0 q30 (Z6 (210=e) True)))))))))))))))) (q4/\Z0 q6 (Z0 q8 (Z0 q10 (Z0 q12 (Z0 q14 (q16/\q18/\Z0 q19 (q21/\Z0 q22 (Z0 q23 (Z0 q24 (Z0 q25 (Z0 q26 (Z0 q27 (Z0 q28 (Z5=Z5/\Z5=Z5/\Z5=Z5/\Z0 q29 (Z5=Z5/\Z5=Z5/\Z5=Z5/\Z5=Z5/\Z5=tg/\Z5=Z5/\ByteArray.empty=ByteArray.empty/\Z0 q30 (Z6 (250=e) True)))))))))))))))))/\
 (SB s_1=false->q4/\Z0 q6 (Z0 q8 (Z0 q10 (Z0 q12 (Z0 q14 (q16/\q18/\Z0 q19 (q21/\Z0 q22 (Z0 q23 (Z0 q24 (Z0 q25 (Z0 q26 (Z0 q27 (Z0 q28 (Z5=Z5/\Z5=Z5/\Z5=Z5/\Z0 q29 (Z5=Z5/\Z5=Z5/\Z5=Z5/\Z5=Z5/\Z5=tg/\Z5=Z5/\ByteArray.empty=ByteArray.empty/\Z0 q30 (Z6 (2=e) True))))))))))))))))) (by kernel_rfl) ?_
 conv=>zeta
 try simp only [vcA]
 try simp only [vcB]
 try simp only [vcC]
 refine ⟨s,⟨rfl⟩,hl,fun hS=>⟨fun hK=> ?_,fun hK=> ?_⟩,fun hS=> ?_⟩
 ·cases hR.symm.trans (Ue hS (bne_iff_ne.1 hK))
  and_intros<;>rfl
 ·cases hR.symm.trans (Za4 hS (bne_eq_false_iff_eq.1 hK) rfl)
  and_intros<;>rfl
 ·cases hR.symm.trans (Qn hS)
  and_intros<;>rfl
theorem Z8X {k:ClS} {s:Zi} (hc:∀args h K,rtS SB args h K->Ze PP 126 args h fun o h'=>∃v,o=.ret v/\h'=h/\K v) (hk:Ys k) (ht:k.t.All) (hl:s.Len) (hSB:SB s=true->0<=s.amount/\s.amount<=1125899906842624) {r:HR} (hR:Y1 SB YD Zv k s=r):
  Zs PP 63 [.agg (clU k k.side k.offers k.last k.agrees k.fee),.agg s.c] (.tuple [.agg (clU k k.side r.of r.la r.ag r.fe),.agg (sdC r.kd r.am r.tg),.bool r.sy,.int .i64 r.e]) 0 []:=by
 have hE:(ZgT SB YD Zv).Ok:=Zd.withP_ok (Zd.withP_ok (Zd.withP_ok Zm hc) Z7h) Ze6
 obtain ⟨e,kd,am,tg,sy,of,la,ag,fe⟩:=r
 obtain ⟨t,sd,a0,a1,le,mo,o0,l0,g0,f0⟩:=k
 cases g0 with
 | true=>exact .evM hE (ZnK SB YD Zv ⟨t,sd,a0,a1,le,mo,o0,l0,true,f0⟩ s sd e kd am o0 tg sy of la ag fe hl hR)
 | false=>cases o0 with
  | true=>exact .evM hE (ZnJ SB YD Zv ⟨t,sd,a0,a1,le,mo,true,l0,false,f0⟩ s sd e kd am tg sy of la ag fe X9 hk ht hl hSB hR)
  | false=>exact .evM hE (ZnI SB YD Zv ⟨t,sd,a0,a1,le,mo,false,l0,false,f0⟩ s sd e kd am tg sy of la ag fe X9 hk ht hl hSB hR)
theorem Zmd {ok:Bool} {o:Out} {h:Z8} (hk:rtK ok o h):XR (fun v=>v=.bool ok) o h:=by
 unfold rtK at hk
 split at hk
 ·subst hk;rfl
 ·exact hk.elim
theorem Zme {s:Zi} (hs:s.Len) {ok:Bool} (hok:ok=true↔Zp s s.kind):Ze PP 126 [.agg s.c] ⟨0,[]⟩ (rtK ok):=by
 unfold Zi.c
 have h15:s.kind=1\/s.kind=2\/s.kind=3\/s.kind=4\/s.kind=5\/s.kind=6\/s.kind=7\/s.kind=8\/s.kind=9\/s.kind=10\/s.kind=11\/s.kind=12\/s.kind=13\/s.kind=14\/(s.kind<1\/14<s.kind):=by omega
 rcases h15 with h|h|h|h|h|h|h|h|h|h|h|h|h|h|h
 ·rw [h] at hok⊢;exact ZX X5 (Zld s ok hs hok)
 ·rw [h] at hok⊢;exact ZX X5 (Zle s ok hs hok)
 ·rw [h] at hok⊢;exact ZX X5 (Zlf s ok hs hok)
 ·rw [h] at hok⊢;exact ZX X5 (Zlg s ok hs hok)
 ·rw [h] at hok⊢;exact ZX X5 (Zlh s ok hs hok)
 ·rw [h] at hok⊢;exact ZX X5 (Zli s ok hs hok)
 ·rw [h] at hok⊢;exact ZX X5 (Zlj s ok hs hok)
 ·rw [h] at hok⊢;exact ZX X5 (Zlk s ok hs hok)
 ·rw [h] at hok⊢;exact ZX X5 (Zll s ok hs hok)
 ·rw [h] at hok⊢;exact ZX X5 (ZiW s ok hs hok)
 ·rw [h] at hok⊢;exact ZX X5 (ZiX s ok hs hok)
 ·rw [h] at hok⊢;exact ZX X5 (ZiY s ok hs hok)
 ·rw [h] at hok⊢;exact ZX X5 (ZiZ s ok hs hok)
 ·rw [h] at hok⊢;exact ZX X5 (Zj0 s ok hs hok)
 ·have e:ok=false:=Bool.eq_false_iff.2 fun e=>Z3J h (hok.1 e)
  subst e
  exact ZX X5 (Zlm s s.kind hs h)
theorem Zjp (args:List AV) (h:Z8) (K:AV->Prop) (hl:rtS XA args h K):Ze PP 126 args h fun o h'=>∃v,o=.ret v/\h'=h/\K v:=by
 unfold rtS at hl
 split at hl
 ·obtain ⟨s,⟨rfl⟩,hs,h1,h0⟩:=hl
  refine Z09 rfl ((Zme hs Q3).k fun o h hk=>Zmd hk) fun u hu=> ?_
  subst hu
  cases hq:XA s with
  | true=>exact h1 hq
  | false=>exact h0 hq
 ·exact hl.elim
def slB (b n:Nat):AV:=.nslice ⟨b,0,0,0,0⟩ 1 n n
noncomputable def Zmf (W:Int->List Int):Zd:=G0.withF 137 (Z9D W)
theorem ZgU:(Zmf Zu).Ok:=Zd.withF_ok Zm Z6R
theorem Zmg (W:Int->List Int) (xs ys:List Int) (N L:Nat) (n:Int) (hN:xs.length=N) (hB:N<80000000000000) (hW:W=Zu) (hn:0<=n) (hy:ys=xs++W n) (hL:L=ys.length):
  evF (Zmf W) 20 72 [slB 0 N,.int .i64 n] ⟨1,[(0,.ints .u8 xs)]⟩ (ZF 1 (.ret (slB 1 L)) 2 [(1,.ints .u8 ys)]):=by
 refine @Eq.mpr _ (let q1:=List.length (W n);let q2:=xs++List.take q1 (Y0 0 (W n));let q3:=List.length q2;
 Z6 (0<=n) (Z6 (u8=u8/\0+q1<=q1) (Z6 (u8=u8/\List.length xs=N) (Z6 (q3*1<=140737488355328) (Z6 (q3=L) (Z6 (L<=q3) (q2=ys/\True))))))) (by kernel_rfl) ?_
 conv=>zeta
 try simp only [vcA]
 try simp only [vcB]
 try simp only [vcC]
 subst hW hN hy hL
 have e:List.take (Zu n).length (Y0 0 (Zu n))=Zu n:=by rw [Yk,Kn,JE]
 have:=ZI n
 rw [e]
 simp only [J7]
 repeat' apply Jc
 all_goals first|trivial|omega|rfl
theorem Zmh (xs hh ys:List Int) (N L:Nat) (hN:xs.length=N) (hB:N<80000000000000) (hl:hh.length=32) (hy:ys=xs++hh) (hL:L=ys.length):
  evF G0 20 71 [slB 0 N,.agg [.arr .u8 32 hh]] ⟨1,[(0,.ints .u8 xs)]⟩ (ZF 1 (.ret (slB 1 L)) 2 [(1,.ints .u8 ys)]):=by
 refine @Eq.mpr _ (let q1:=xs++hh;let q2:=List.length q1;
 Z6 (u8=u8/\List.length hh=32) (Z6 (u8=u8/\List.length xs=N) (Z6 (q2*1<=140737488355328) (Z6 (q2=L) (Z6 (L<=q2) (q1=ys/\True)))))) (by kernel_rfl) ?_
 conv=>zeta
 try simp only [vcA]
 try simp only [vcB]
 try simp only [vcC]
 subst hN hy hL
 simp only [J7]
 repeat' apply Jc
 all_goals first|trivial|omega|rfl
theorem Zmi (hh:List Int) (hl:hh.length=32):
  evF G0 20 71 [.nilslice,.agg [.arr .u8 32 hh]] ⟨0,[]⟩ (ZF 0 (.ret (slB 0 32)) 1 [(0,.ints .u8 hh)]):=by
 refine @Eq.mpr _ (let q1:=[]++hh;let q2:=List.length q1;
 Z6 (u8=u8/\List.length hh=32) (Z6 (q2*1<=140737488355328) (Z6 (q2=32) (Z6 (32<=q2) (q1=hh/\True))))) (by kernel_rfl) ?_
 conv=>zeta
 try simp only [vcA]
 try simp only [vcB]
 try simp only [vcC]
 simp only [JZ]
 repeat' apply Jc
 all_goals first|trivial|omega|rfl
def Zmj (h:Z8) (b:Nat) (ys:List Int):Z8:=⟨h.next+1,(h.next,.ints .u8 ys)::Yl h.bs b⟩
def Zjq (W:Int->List Int) (B:Nat):ZN:=fun args h K=>match args with
 | [.nslice ⟨b,0,0,0,0⟩ 1 _ _,_]=>frA [b] h 20 args fun Bs a=>match Bs,a with
  | [.ints .u8 xs],[.nslice ⟨0,0,0,0,0⟩ 1 N M,.int .i64 n]=>Z6 (xs.length=N/\M=N/\N<B/\0<=n) (K (.ret (slB h.next (xs++W n).length)) (Zmj h b (xs++W n)))
  | _,_=>False
 | _=>False
theorem ZgV (args:List AV) (h:Z8) (K:KO) (hl:Zjq Zu 80000000000000 args h K):Ze PP 72 args h K:=by
 unfold Zjq at hl
 split at hl
 ·refine Spec.fsumm hl fun Bs a hlen hK0=> ?_
  split at hK0
  ·obtain ⟨⟨h1,rfl,h2,h3⟩,hK⟩:=Zb hK0
   exact ⟨_,_,_,_,_,.evM ZgU (Zmg _ _ _ _ _ _ h1 h2 rfl h3 rfl rfl),by simp,.ret _ _ rfl,.cons _ _ _ _ _ _ rfl (.ints _ _) .nil,hK⟩
  ·exact hK0.elim
 ·exact hl.elim
def Zeb (B:Nat):ZN:=fun args h K=>match args with
 | [.nslice ⟨b,0,0,0,0⟩ 1 _ _,_]=>frA [b] h 20 args fun Bs a=>match Bs,a with
  | [.ints .u8 xs],[.nslice ⟨0,0,0,0,0⟩ 1 N M,.agg [.arr .u8 32 hh]]=>Z6 (xs.length=N/\M=N/\N<B/\hh.length=32) (K (.ret (slB h.next (xs++hh).length)) (Zmj h b (xs++hh)))
  | _,_=>False
 | [.nilslice,_]=>frA [] h 20 args fun Bs a=>match Bs,a with
  | [],[.nilslice,.agg [.arr .u8 32 hh]]=>Z6 (hh.length=32) (K (.ret (slB h.next 32)) ⟨h.next+1,(h.next,.ints .u8 hh)::h.bs⟩)
  | _,_=>False
 | _=>False
theorem Zec (args:List AV) (h:Z8) (K:KO) (hl:Zeb 80000000000000 args h K):Ze PP 71 args h K:=by
 unfold Zeb at hl
 split at hl
 ·refine Spec.fsumm hl fun Bs a hlen hK0=> ?_
  split at hK0
  ·obtain ⟨⟨h1,rfl,h2,h3⟩,hK⟩:=Zb hK0
   exact ⟨_,_,_,_,_,.evM Zm (Zmh _ _ _ _ _ h1 h2 h3 rfl rfl),by simp,.ret _ _ rfl,.cons _ _ _ _ _ _ rfl (.ints _ _) .nil,hK⟩
  ·exact hK0.elim
 ·refine Spec.fsumm hl fun Bs a hlen hK0=> ?_
  split at hK0
  ·obtain ⟨h3,hK⟩:=Zb hK0
   exact ⟨_,_,_,_,_,.evM Zm (Zmi _ h3),JC _,.ret _ _ rfl,.cons _ _ _ _ _ _ rfl (.ints _ _) .nil,hK⟩
  ·exact hK0.elim
 ·exact hl.elim
theorem Zmk (b:Bool) (ys:List Int) (hy:ys=[cond b 1 0]):
  evF G0 20 73 [.bool b] ⟨0,[]⟩ (ZF 0 (.ret (slB 0 1)) 1 [(0,.ints .u8 ys)]):=by
 refine @Eq.mpr _ (Z7 b ([(1:Int)]=ys/\True) ([(0:Int)]=ys/\True)) (by kernel_rfl) ?_
 try simp only [vcA]
 try simp only [vcB]
 try simp only [vcC]
 subst hy
 cases b<;>simp
def Z8Y:ZN:=fun args h K=>match args with
 | [.bool b]=>K (.ret (slB h.next 1)) ⟨h.next+1,(h.next,.ints .u8 [cond b 1 0])::h.bs⟩
 | _=>False
theorem Zbp (args:List AV) (h:Z8) (K:KO) (hl:Z8Y args h K):Ze PP 73 args h K:=by
 unfold Z8Y at hl
 split at hl
 ·exact (Zs.evM Zm (Zmk _ _ rfl)).calls (fun E w rs he hr=>by
   cases hr with
   | cons v r vs rs h1 h2=>cases h2;exact .cons _ _ _ _ (h1.plain rfl) .nil) rfl ⟨JN,.ints _ _,trivial⟩ hl
 ·exact hl.elim
noncomputable def Zhx (W:Int->List Int) (B:Nat):Zd:=((G0.withF 72 (Zjq W B)).withF 71 (Zeb B)).withF 73 Z8Y
theorem Zed:(Zhx Zu 80000000000000).Ok:=Zd.withF_ok (Zd.withF_ok (Zd.withF_ok Zm ZgV) Zec) Zbp
structure RwC (k:ClS):Prop where
 n:Ze1 4611686018427387904 k
 f:k.t.fund.length=32
 h0:k.t.k0.length=32
 h1:k.t.k1.length=32
theorem Zml (W:Int->List Int) (B n:Nat) (k:ClS) (ys:List Int) (hk:RwC k) (hy:ys=XV W k) (hn:n=ys.length) (h9:∀v,(W v).length<=9) (hB:1000<B) (hB2:B<90000000000000):
  evF (Zhx W B) 20 28 [.agg (clU k k.side k.offers k.last k.agrees k.fee)] ⟨0,[]⟩ (ZF 0 (.ret (slB 0 n)) 1 [(0,.ints .u8 ys)]):=by
 refine @Eq.mpr _ (let q1:=k.t;let q2:=q1.fund;let q3:=q1.k1;let q4:=q3=q3;let q5:=q1.k0;let q6:=q5=q5;let q7:=q1.delay;let q8:=decide (q7=q7);let q9:=q1.fee;let q10:=decide (q9=q9);let q11:=q1.dust;let q12:=decide (q11=q11);let q13:=q1.cap;let q14:=decide (q13=q13);let q15:=q1.index;let q16:=q2++W q15;let q17:=List.length q16;let q18:=q16++W q13;let q19:=List.length q18;let q20:=q18++W q11;let q21:=List.length q20;let q22:=q20++W q9;let q23:=List.length q22;let q24:=q22++W q7;let q25:=List.length q24;let q26:=q24++q5;let q27:=List.length q26;let q28:=q26++q3;let q29:=List.length q28;let q30:=k.most;let q31:=decide (q30=q30);let q32:=k.least;let q33:=decide (q32=q32);let q34:=k.a1;let q35:=decide (q34=q34);let q36:=k.a0;let q37:=q28++W k.side;let q38:=List.length q37;let q39:=q37++W q36;let q40:=List.length q39;let q41:=q39++W q34;let q42:=List.length q41;let q43:=q41++W q32;let q44:=List.length q43;let q45:=k.last;let q46:=decide (q45=q45);let q47:=q43++W q30;let q48:=List.length q47;let q49:=q47++[bif k.offers then 1 else 0];let q50:=List.length q49;let q51:=k.fee;let q52:=decide (q51=q51);let q53:=q49++W q45;let q54:=List.length q53;let q55:=q53++[bif k.agrees then 1 else 0];let q56:=List.length q55;let q57:=q55++W q51;let q58:=List.length q57;
 Z6 (List.length q2=32) (q4/\
 q6/\
 Z0 q8 (Z0 q10 (Z0 q12 (Z0 q14 (Z6 (q15=q15) (Z6 (List.length q2=32/\(32:Nat)=32/\32<B/\0<=q15) (q4/\
 q6/\
 Z0 q8 (Z0 q10 (Z0 q12 (Z0 q14 (Z6 (q17=q17/\q17=q17/\q17<B/\0<=q13) (q4/\
 q6/\
 Z0 q8 (Z0 q10 (Z0 q12 (Z6 (q19=q19/\q19=q19/\q19<B/\0<=q11) (q4/\
 q6/\
 Z0 q8 (Z0 q10 (Z6 (q21=q21/\q21=q21/\q21<B/\0<=q9) (q4/\
 q6/\
 Z0 q8 (Z6 (q23=q23/\q23=q23/\q23<B/\0<=q7) (q4/\
 q6/\
 Z6 (q25=q25/\q25=q25/\q25<B/\List.length q5=32) (q4/\
 Z6 (q27=q27/\q27=q27/\q27<B/\List.length q3=32) (Z6 (q29=q29/\q29=q29/\q29<B/\0<=k.side) (Z0 q31 (Z0 q33 (Z0 q35 (Z6 (q36=q36) (Z6 (q38=q38/\q38=q38/\q38<B/\0<=q36) (Z0 q31 (Z0 q33 (Z0 q35 (Z6 (q40=q40/\q40=q40/\q40<B/\0<=q34) (Z0 q31 (Z0 q33 (Z6 (q42=q42/\q42=q42/\q42<B/\0<=q32) (Z0 q31 (Z6 (q44=q44/\q44=q44/\q44<B/\0<=q30) (Z0 q46 (Z6 (u8=u8/\q48=q48) (Z6 (q50*1<=140737488355328) (Z0 q46 (Z6 (q50=q50/\q50=q50/\q50<B/\0<=q45) (Z0 q52 (Z6 (u8=u8/\q54=q54) (Z6 (q56*1<=140737488355328) (Z0 q52 (Z6 (q56=q56/\q56=q56/\q56<B/\0<=q51) (Z6 (q58=n) (Z6 (n<=q58) (q57=ys/\True))))))))))))))))))))))))))))))))))))))))))))))))))) (by kernel_rfl) ?_
 conv=>zeta
 try simp only [vcA]
 try simp only [vcB]
 try simp only [vcC]
 obtain ⟨⟨⟨a1,b1⟩,⟨a2,b2⟩,⟨a3,b3⟩,⟨a4,b4⟩,⟨a5,b5⟩,⟨a6,b6⟩,⟨a7,b7⟩,⟨a8,b8⟩,⟨a9,b9⟩,⟨a10,b10⟩,⟨a11,b11⟩,⟨a12,b12⟩⟩,hf,h0,h1⟩:=hk
 have l1:=h9 k.t.index
 have l2:=h9 k.t.cap
 have l3:=h9 k.t.dust
 have l4:=h9 k.t.fee
 have l5:=h9 k.t.delay
 have l6:=h9 k.side
 have l7:=h9 k.a0
 have l8:=h9 k.a1
 have l9:=h9 k.least
 have l10:=h9 k.most
 have l11:=h9 k.last
 have l12:=h9 k.fee
 subst hy hn
 repeat' first
  | with_reducible rfl
  | exact True.intro
  | with_reducible assumption
  | with_reducible refine Jc ?_ ?_
 all_goals first
  | ((try simp only [J7,Js,Jy,hf,h0,h1]);omega)
  | rfl
  | (show List.length (XV W k)<=_;exact J4 _)
theorem Za5 (v:Int):(Zu v).length<=9:=(ZI v).2
def Za6 (W:Int->List Int):ZN:=fun args h K=>match args with
 | [.ptr (some ⟨x,0,0,0,0⟩)]=>frA [x] h 40 args fun Bs a=>match Bs,a with
  | [.flat cs],[.ptr (some ⟨0,0,0,0,0⟩)]=>∃k,YE cs k/\RwC k/\K (.ret (.nslice ⟨h.next,0,0,0,0⟩ 1 (XV W k).length (XV W k).length)) ⟨h.next+1,(x,.flat cs)::(h.next,.ints .u8 (XV W k))::Yl h.bs x⟩
  | _,_=>False
 | _=>False
theorem Z7j (args:List AV) (h:Z8) (K:KO) (hl:Za6 Zu args h K):Ze PP 21 args h K:=by
 unfold Za6 at hl
 split at hl
 ·refine Spec.fsumm hl fun Bs a hlen hK0=> ?_
  split at hK0
  ·obtain ⟨k,⟨rfl⟩,⟨h1,h2,h3,h4⟩,hK⟩:=hK0
   exact ⟨_,_,_,_,_,.evM ZgG (Zm3 Zu _ _ _ k _ h1 h2 h3 h4 rfl rfl Za5 (by decide) (by decide)),by simp,.ret _ _ rfl,.cons _ _ _ _ _ _ rfl (.flat _ _ rfl) (.cons _ _ _ _ _ _ rfl (.ints _ _) .nil),hK⟩
  ·exact hK0.elim
 ·exact hl.elim
def Zhy (W:Int->List Int):ZN:=fun args h K=>ZA none h true 40 args fun a=>match a with
 | [.agg cs]=>∃k,YK cs k/\RwC k/\K (.ret (.nslice ⟨h.next,0,0,0,0⟩ 1 (XV W k).length (XV W k).length)) ⟨h.next+1,(h.next,.ints .u8 (XV W k))::h.bs⟩
 | _=>False
theorem Zee (args:List AV) (h:Z8) (K:KO) (hl:Zhy Zu args h K):Ze PP 28 args h K:=by
 refine Zs.fsumm (d:=40) (Zk _ _ _ _ _ hl fun a ha=> ?_)
 split at ha
 ·obtain ⟨k,⟨rfl⟩,h1,hK⟩:=ha
  exact ⟨_,_,_,_,.evM Zed (Zml Zu _ _ k _ h1 rfl rfl Za5 (by decide) (by decide)),rfl,⟨JN,.ints _ _,trivial⟩,hK⟩
 ·exact ha.elim
def k0C (t:Zj) (sd a b lo hi:Int):ClS:=⟨t,sd,a,b,lo,hi,false,0,false,0⟩
noncomputable def Zjr (A:List Int->Int×Int):Zd:=G0.withP 30 (ZgK A)
theorem ZnL (A:List Int->Int×Int) (t:Zj) (sd a b lo hi:Int) (ht:t.Ok) (hm:Y8 A (k0C t sd a b lo hi)=true):
  evF (Zjr A) 20 9 [.agg t.c,.int .i64 sd,.agg [.arr .i64 2 [a,b]],.int .i64 lo,.int .i64 hi] ⟨0,[]⟩ (clK true (k0C t sd a b lo hi)):=by
 refine @Eq.mpr _ (let q1:=[a,b];let q2:=k0C t sd a b lo hi;let q3:=q2.t;
 ∃(k:ClS),YK [AV.arr u8 32 t.fund,AV.int i64 t.index,AV.int i64 t.cap,AV.int i64 t.dust,AV.int i64 t.fee,AV.int i64 t.delay,AV.arr u8 32 t.k0,AV.arr u8 32 t.k1,AV.int i64 sd,AV.arr i64 2 q1,AV.int i64 lo,AV.int i64 hi,AV.bool false,AV.int i64 0,AV.bool false,AV.int i64 0] k/\Zj.Ok k.t/\Z7 (!Y8 A k) False (t.fund=q3.fund/\Z6 (t.index=q3.index) (Z6 (t.cap=q3.cap) (Z6 (t.dust=q3.dust) (Z6 (t.fee=q3.fee) (Z6 (t.delay=q3.delay) (t.k0=q3.k0/\t.k1=q3.k1/\Z6 (sd=q2.side) (q1=[q2.a0,q2.a1]/\Z6 (lo=q2.least) (Z6 (hi=q2.most) True))))))))) (by kernel_rfl) ?_
 conv=>zeta
 try simp only [vcA]
 try simp only [vcB]
 try simp only [vcC]
 refine ⟨k0C t sd a b lo hi,⟨rfl⟩,ht,by rw [hm];rfl, ?_⟩
 and_intros<;>rfl
theorem ZnM (A:List Int->Int×Int) (t:Zj) (sd a b lo hi:Int) (ht:t.Ok) (hm:Y8 A (k0C t sd a b lo hi)=false):
  evF (Zjr A) 20 9 [.agg t.c,.int .i64 sd,.agg [.arr .i64 2 [a,b]],.int .i64 lo,.int .i64 hi] ⟨0,[]⟩ (ZF 0 (.ret (.tuple [.ptr none,.int .i64 2])) 0 []):=by
 refine @Eq.mpr _ (∃(k:ClS),YK [AV.arr u8 32 t.fund,AV.int i64 t.index,AV.int i64 t.cap,AV.int i64 t.dust,AV.int i64 t.fee,AV.int i64 t.delay,AV.arr u8 32 t.k0,AV.arr u8 32 t.k1,AV.int i64 sd,AV.arr i64 2 [a,b],AV.int i64 lo,AV.int i64 hi,AV.bool false,AV.int i64 0,AV.bool false,AV.int i64 0] k/\Zj.Ok k.t/\Z0 (!Y8 A k) True) (by kernel_rfl) ?_
 try simp only [vcA]
 try simp only [vcB]
 try simp only [vcC]
 refine ⟨k0C t sd a b lo hi,⟨rfl⟩,ht, ?_⟩
 rw [hm];rfl
theorem Zmm (A:List Int->Int×Int) (t:Zj) (sd a b lo hi:Int) (cs:List AV) (e:Int) (ht:t.Ok) (h1:Y8 A (k0C t sd a b lo hi)=true->cs=(k0C t sd a b lo hi).c/\e=0) (h0:Y8 A (k0C t sd a b lo hi)=false->cs=clZ.c/\e=2):
  evF (G0.withP 51 (ZgK A)) 20 20 [.agg t.c,.int .i64 sd,.agg [.arr .i64 2 [a,b]],.int .i64 lo,.int .i64 hi] ⟨0,[]⟩ (XR fun v=>v=.tuple [.agg cs,.int .i64 e]):=by
 refine @Eq.mpr _ (let q1:=AV.int i64 0;let q2:=[q1];let q3:=AV.bool false::q1::AV.bool false::q2;let q4:=AV.arr u8 32 t.fund::AV.int i64 t.index::AV.int i64 t.cap::AV.int i64 t.dust::AV.int i64 t.fee::AV.int i64 t.delay::AV.arr u8 32 t.k0::AV.arr u8 32 t.k1::AV.int i64 sd::AV.arr i64 2 [a,b]::AV.int i64 lo::AV.int i64 hi::q3;let q5:=AV.arr u8 32 Z5;let q6:=AV.tuple [AV.agg cs,AV.int i64 e];
 ∃(k:ClS),YK q4 k/\Zj.Ok k.t/\Z7 (!Y8 A k) (AV.tuple [AV.agg (q5::q1::q1::q1::q1::q1::q5::q5::q1::AV.arr i64 2 [(0:Int),0]::q1::q1::q3),AV.int i64 2]=q6) (AV.tuple (AV.agg q4::q2)=q6)) (by kernel_rfl) ?_
 conv=>zeta
 try simp only [vcA]
 try simp only [vcB]
 try simp only [vcC]
 refine ⟨k0C t sd a b lo hi,⟨rfl⟩,ht,fun h=> ?_,fun h=> ?_⟩
 ·have h:Y8 A (k0C t sd a b lo hi)=false:=by simpa using h
  obtain ⟨rfl,rfl⟩:=h0 h
  rfl
 ·have h:Y8 A (k0C t sd a b lo hi)=true:=by simpa using h
  obtain ⟨rfl,rfl⟩:=h1 h
  rfl
inductive Z1l (cs:List AV) (t:Zj):Prop
 | mk:cs=t.c->Z1l cs t
def Zhz (A:List Int->Int×Int):ZN:=fun args h K=>ZA none h true 40 args fun x=>match x with
 | [.agg cs,.int .i64 sd,.agg [.arr .i64 2 ab],.int .i64 lo,.int .i64 hi]=>∃t a b,Z1l cs t/\ab=[a,b]/\t.Ok/\
  (Y8 A (k0C t sd a b lo hi)=true->K (.ret (.tuple [.ptr (some ⟨h.next,0,0,0,0⟩),.int .i64 0])) ⟨h.next+1,(h.next,.flat (clT (k0C t sd a b lo hi) sd false 0 false 0))::h.bs⟩)/\
  (Y8 A (k0C t sd a b lo hi)=false->K (.ret (.tuple [.ptr none,.int .i64 2])) h)
 | _=>False
theorem Zmn {k:ClS} {o:Out} {h:Z8} (hk:clK true k o h):ZF 0 (.ret (.tuple [.ptr (some ⟨0,0,0,0,0⟩),.int .i64 0])) 1 [(0,.flat (k.c++[.bool true]))] o h:=by
 unfold clK at hk
 split at hk
 ·exact hk.elim
 ·exact hk
 ·exact hk.elim
theorem Za7:(Zjr ZB).Ok:=Zd.withP_ok Zm ZgL
theorem Z7k (args:List AV) (h:Z8) (K:KO) (hl:Zhz ZB args h K):Ze PP 9 args h K:=by
 refine Zs.fsumm (d:=40) (Zk _ _ _ _ _ hl fun a ha=> ?_)
 split at ha
 ·rename_i cs sd ab lo hi
  obtain ⟨t,a,b,⟨rfl⟩,rfl,ht,h1,h0⟩:=ha
  cases hm:Y8 ZB (k0C t sd a b lo hi) with
  | true=>exact ⟨_,_,_,_,Spec.pure (Spec.evK Za7 (ZnL _ t sd a b lo hi ht hm) fun o' h' hk=>Zmn hk),rfl,⟨JN,.flat _ rfl,trivial⟩,h1 hm⟩
  | false=>exact ⟨_,_,_,_,.evM Za7 (ZnM _ t sd a b lo hi ht hm),rfl,trivial,h0 hm⟩
 ·exact ha.elim
def ZhA (A:List Int->Int×Int):ZH:=fun args h K=>ZA none h true 40 args fun x=>match x with
 | [.agg cs,.int .i64 sd,.agg [.arr .i64 2 ab],.int .i64 lo,.int .i64 hi]=>∃t a b,Z1l cs t/\ab=[a,b]/\t.Ok/\
  (Y8 A (k0C t sd a b lo hi)=true->K (.tuple [.agg (clU (k0C t sd a b lo hi) sd false 0 false 0),.int .i64 0]))/\
  (Y8 A (k0C t sd a b lo hi)=false->K (.tuple [.agg clZ.c,.int .i64 2]))
 | _=>False
theorem Zef (args:List AV) (h:Z8) (K:AV->Prop) (hl:ZhA ZB args h K):Ze PP 20 args h fun o h'=>∃v,o=.ret v/\h'=h/\K v:=by
 refine Zs.psumm (d:=40) (Zk _ _ _ _ _ hl fun a ha=> ?_)
 split at ha
 ·rename_i cs sd ab lo hi
  obtain ⟨t,a,b,⟨rfl⟩,rfl,ht,h1,h0⟩:=ha
  have hE:=Zd.withP_ok (f:=51) Zm ZgM
  cases hm:Y8 ZB (k0C t sd a b lo hi) with
  | true=>exact ⟨_,Zs.evV hE (Zmm _ t sd a b lo hi _ _ ht (fun _=>⟨rfl,rfl⟩) (fun h=>by rw [hm] at h;cases h)),fun _=>rfl,h1 hm⟩
  | false=>exact ⟨_,Zs.evV hE (Zmm _ t sd a b lo hi _ _ ht (fun h=>by rw [hm] at h;cases h) (fun _=>⟨rfl,rfl⟩)),fun _=>rfl,h0 hm⟩
 ·exact ha.elim
def Wt (Tg:List Int->TxS->List Int) (k:ClS):HR:=
 if k.agrees=true then noR k 250 else if k.side≠0\/k.offers=true then noR k 251
 else if ZJ k.t k.a0 k.a1 k.least≠0 then noR k (ZJ k.t k.a0 k.a1 k.least)
 else ⟨0,13,k.least,Yb Tg k k.least k.side,true,true,k.least,k.agrees,k.fee⟩
theorem Zeg {k:ClS} (h:k.agrees=true):Wt Tg k=noR k 250:=by unfold Wt;rw [if_pos h]
theorem Z3K {k:ClS} (h:k.agrees=false) (h2:k.side≠0\/k.offers=true):Wt Tg k=noR k 251:=by unfold Wt;rw [if_neg (by rw [h];decide),if_pos h2]
theorem Z60 {k:ClS} {m:Int} (h:k.agrees=false) (h2:¬(k.side≠0\/k.offers=true)) (he:ZJ k.t k.a0 k.a1 k.least=m) (hm:m≠0):Wt Tg k=noR k m:=by
 unfold Wt;rw [if_neg (by rw [h];decide),if_neg h2,if_pos (by rw [he];exact hm),he]
theorem Z8Z {k:ClS} (h:k.agrees=false) (h2:¬(k.side≠0\/k.offers=true)) (he:ZJ k.t k.a0 k.a1 k.least=0):Wt Tg k=⟨0,13,k.least,Yb Tg k k.least k.side,true,true,k.least,k.agrees,k.fee⟩:=by
 unfold Wt;rw [if_neg (by rw [h];decide),if_neg h2,if_neg (fun q=>q he)]
theorem Zjs (Tg:List Int->TxS->List Int) (k:ClS) (e kd am:Int) (tg:List Int) (sy of:Bool) (la:Int) (ag:Bool) (fe:Int) (hk:Xz k) (hR:Wt Tg k=⟨e,kd,am,tg,sy,of,la,ag,fe⟩):
  evF (G0.withF 32 (ZgQ Tg)) 20 12 [.ptr (some ⟨0,0,0,0,0⟩)] ⟨1,[(0,.flat (clT k k.side k.offers k.last k.agrees k.fee))]⟩ (ZF 1 (.ret (.tuple [.agg (sdC kd am tg),.int .i64 e])) 1 [(0,.flat (clT k k.side of la ag fe))]):=by
 refine @Eq.mpr _ (let q1:=k.agrees;let q2:=decide (0=kd);let q3:=decide (0=am);let q4:=k.t;let q5:=q4.fund;let q6:=q5=q5;let q7:=q4.index;let q8:=decide (q7=q7);let q9:=q4.cap;let q10:=decide (q9=q9);let q11:=q4.dust;let q12:=decide (q11=q11);let q13:=q4.fee;let q14:=decide (q13=q13);let q15:=q4.delay;let q16:=decide (q15=q15);let q17:=q4.k0;let q18:=q17=q17;let q19:=q4.k1;let q20:=q19=q19;let q21:=k.side;let q22:=decide (q21=q21);let q23:=[k.a0,k.a1];let q24:=q23=q23;let q25:=k.least;let q26:=decide (q25=q25);let q27:=k.most;let q28:=decide (q27=q27);let q29:=k.offers;let q30:=Z6 (q1=ag) (Z6 (k.fee=fe) True);let q31:=q6/\Z0 q8 (Z0 q10 (Z0 q12 (Z0 q14 (Z0 q16 (q18/\q20/\Z0 q22 (q24/\Z0 q26 (Z0 q28 (Z6 (q29=of) (Z6 (k.last=la) q30)))))))));let q32:=Z0 q2 (Z5=Z5/\Z5=Z5/\Z5=Z5/\Z0 q3 (Z5=Z5/\Z5=Z5/\Z5=Z5/\Z5=Z5/\Z5=tg/\Z5=Z5/\ByteArray.empty=ByteArray.empty/\Z6 (251=e) q31));
 Z7 q1 (Z0 q2 (Z5=Z5/\Z5=Z5/\Z5=Z5/\Z0 q3 (Z5=Z5/\Z5=Z5/\Z5=Z5/\Z5=Z5/\Z5=tg/\Z5=Z5/\ByteArray.empty=ByteArray.empty/\Z6 (250=e) q31))) (Z7 (q21 !=0) q32 (Z7 q29 q32 (∃(k_1:ClS),
 let q65:=ZJ k_1.t k_1.a0 k_1.a1 q25;
 YE [AV.arr u8 32 q5,AV.int i64 q7,AV.int i64 q9,AV.int i64 q11,AV.int i64 q13,AV.int i64 q15,AV.arr u8 32 q17,AV.arr u8 32 q19,AV.int i64 q21,AV.arr i64 2 q23,AV.int i64 q25,AV.int i64 q27,AV.bool q29,AV.int i64 k.last,AV.bool q1,AV.int i64 k.fee,AV.bool true] k_1/\
 Xz k_1/\
 (q65=0->Z6 (13=kd) (Z5=Z5/\Z5=Z5/\Z5=Z5/\Z6 (q25=am) (Z5=Z5/\Z5=Z5/\Z5=Z5/\Z5=Z5/\Yb Tg k_1 q25 k_1.side=tg/\Z5=Z5/\ByteArray.empty=ByteArray.empty/\Z6 (0=e) (q6/\Z0 q8 (Z0 q10 (Z0 q12 (Z0 q14 (Z0 q16 (q18/\q20/\Z0 q22 (q24/\Z0 q26 (Z0 q28 (Z6 (true=of) (Z6 (q25=la) q30)))))))))))))/\
 (q65=2->Z0 q2 (Z5=Z5/\Z5=Z5/\Z5=Z5/\Z0 q3 (Z5=Z5/\Z5=Z5/\Z5=Z5/\Z5=Z5/\Z5=tg/\Z5=Z5/\ByteArray.empty=ByteArray.empty/\Z6 (2=e) q31)))/\(q65=180->Z0 q2 (Z5=Z5/\Z5=Z5/\Z5=Z5/\Z0 q3 (Z5=Z5/\Z5=Z5/\Z5=Z5/\Z5=Z5/\Z5=tg/\Z5=Z5/\ByteArray.empty=ByteArray.empty/\Z6 (180=e) q31))))))) (by kernel_rfl) ?_
 conv=>zeta
 try simp only [vcA]
 try simp only [vcB]
 try simp only [vcC]
 refine ⟨fun hg=> ?_,fun hg=>⟨fun hs=> ?_,fun hs=>⟨fun ho=> ?_,fun ho=> ?_⟩⟩⟩
 ·cases hR.symm.trans (Zeg hg)
  and_intros<;>rfl
 ·cases hR.symm.trans (Z3K hg (.inl (bne_iff_ne.1 hs)))
  and_intros<;>rfl
 ·cases hR.symm.trans (Z3K hg (.inr ho))
  and_intros<;>rfl
 have hq:¬(k.side≠0\/k.offers=true):=by
  rintro (h|h)
  ·exact h (bne_eq_false_iff_eq.1 hs)
  ·rw [ho] at h;cases h
 refine ⟨k,⟨rfl⟩,hk,fun hE=> ?_,fun hE=> ?_,fun hE=> ?_⟩
 ·cases hR.symm.trans (Z8Z hg hq hE)
  and_intros<;>rfl
 ·cases hR.symm.trans (Z60 hg hq hE (by decide))
  and_intros<;>rfl
 ·cases hR.symm.trans (Z60 hg hq hE (by decide))
  and_intros<;>rfl
theorem ZnN (Tg:List Int->TxS->List Int) (k:ClS) (e kd am:Int) (tg:List Int) (sy of:Bool) (la:Int) (ag:Bool) (fe:Int) (hk:Xz k) (hR:Wt Tg k=⟨e,kd,am,tg,sy,of,la,ag,fe⟩):
  evF (G0.withP 70 (Zea Tg)) 20 60 [.agg (clU k k.side k.offers k.last k.agrees k.fee)] ⟨0,[]⟩ (ZF 0 (.ret (.tuple [.agg (clU k k.side of la ag fe),.agg (sdC kd am tg),.int .i64 e])) 0 []):=by
 refine @Eq.mpr _ (let q1:=k.agrees;let q2:=k.t;let q3:=q2.fund;let q4:=q3=q3;let q5:=q2.index;let q6:=decide (q5=q5);let q7:=q2.cap;let q8:=decide (q7=q7);let q9:=q2.dust;let q10:=decide (q9=q9);let q11:=q2.fee;let q12:=decide (q11=q11);let q13:=q2.delay;let q14:=decide (q13=q13);let q15:=q2.k0;let q16:=q15=q15;let q17:=q2.k1;let q18:=q17=q17;let q19:=k.side;let q20:=decide (q19=q19);let q21:=[k.a0,k.a1];let q22:=q21=q21;let q23:=k.least;let q24:=decide (q23=q23);let q25:=k.most;let q26:=decide (q25=q25);let q27:=k.offers;let q28:=decide (q27=of);let q29:=decide (k.last=la);let q30:=decide (q1=ag);let q31:=decide (k.fee=fe);let q32:=decide (0=kd);let q33:=decide (0=am);let q34:=q4/\Z0 q6 (Z0 q8 (Z0 q10 (Z0 q12 (Z0 q14 (q16/\q18/\Z0 q20 (q22/\Z0 q24 (Z0 q26 (Z0 q28 (Z0 q29 (Z0 q30 (Z0 q31 (Z0 q32 (Z5=Z5/\Z5=Z5/\Z5=Z5/\Z0 q33 (Z5=Z5/\Z5=Z5/\Z5=Z5/\Z5=Z5/\Z5=tg/\Z5=Z5/\ByteArray.empty=ByteArray.empty/\Z6 (251=e) True))))))))))))));
 Z7 q1 (q4/\Z0 q6 (Z0 q8 (Z0 q10 (Z0 q12 (Z0 q14 (q16/\q18/\Z0 q20 (q22/\Z0 q24 (Z0 q26 (Z0 q28 (Z0 q29 (Z0 q30 (Z0 q31 (Z0 q32 (Z5=Z5/\Z5=Z5/\Z5=Z5/\Z0 q33 (Z5=Z5/\Z5=Z5/\Z5=Z5/\Z5=Z5/\Z5=tg/\Z5=Z5/\ByteArray.empty=ByteArray.empty/\Z6 (250=e) True))))))))))))))) (Z7 (q19 !=0) q34 (Z7 q27 q34 (∃(k_1:ClS),
 let q69:=ZJ k_1.t k_1.a0 k_1.a1 q23;let q70:=Yb Tg k_1 q23 q19;
 YK [AV.arr u8 32 q3,AV.int i64 q5,AV.int i64 q7,AV.int i64 q9,AV.int i64 q11,AV.int i64 q13,AV.arr u8 32 q15,AV.arr u8 32 q17,AV.int i64 q19,AV.arr i64 2 q21,AV.int i64 q23,AV.int i64 q25,AV.bool q27,AV.int i64 k.last,AV.bool q1,AV.int i64 k.fee] k_1/\
 (Zj.All k_1.t/\k_1.a0<9223372036854775808/\(q19=0\/q19=1))/\
 (q69=2->q4/\Z0 q6 (Z0 q8 (Z0 q10 (Z0 q12 (Z0 q14 (q16/\q18/\Z0 q20 (q22/\Z0 q24 (Z0 q26 (Z0 q28 (Z0 q29 (Z0 q30 (Z0 q31 (Z0 q32 (Z5=Z5/\Z5=Z5/\Z5=Z5/\Z0 q33 (Z5=Z5/\Z5=Z5/\Z5=Z5/\Z5=Z5/\Z5=tg/\Z5=Z5/\ByteArray.empty=ByteArray.empty/\Z6 (2=e) True)))))))))))))))/\
 (q69=180->q4/\Z0 q6 (Z0 q8 (Z0 q10 (Z0 q12 (Z0 q14 (q16/\q18/\Z0 q20 (q22/\Z0 q24 (Z0 q26 (Z0 q28 (Z0 q29 (Z0 q30 (Z0 q31 (Z0 q32 (Z5=Z5/\Z5=Z5/\Z5=Z5/\Z0 q33 (Z5=Z5/\Z5=Z5/\Z5=Z5/\Z5=Z5/\Z5=tg/\Z5=Z5/\ByteArray.empty=ByteArray.empty/\Z6 (180=e) True)))))))))))))))/\
 (q69=0->q70=q70/\q4/\Z0 q6 (Z0 q8 (Z0 q10 (Z0 q12 (Z0 q14 (q16/\q18/\Z0 q20 (q22/\Z0 q24 (Z0 q26 (Z6 (true=of) (Z6 (q23=la) (Z0 q30 (Z0 q31 (Z6 (13=kd) (Z5=Z5/\Z5=Z5/\Z5=Z5/\Z6 (q23=am) (Z5=Z5/\Z5=Z5/\Z5=Z5/\Z5=Z5/\q70=tg/\Z5=Z5/\ByteArray.empty=ByteArray.empty/\Z6 (0=e) True))))))))))))))))))) (by kernel_rfl) ?_
 conv=>zeta
 try simp only [vcA]
 try simp only [vcB]
 try simp only [vcC]
 refine ⟨fun hg=> ?_,fun hg=>⟨fun hs=> ?_,fun hs=>⟨fun ho=> ?_,fun ho=> ?_⟩⟩⟩
 ·cases hR.symm.trans (Zeg hg)
  and_intros<;>rfl
 ·cases hR.symm.trans (Z3K hg (.inl (bne_iff_ne.1 hs)))
  and_intros<;>rfl
 ·cases hR.symm.trans (Z3K hg (.inr ho))
  and_intros<;>rfl
 have hq:¬(k.side≠0\/k.offers=true):=by
  rintro (h|h)
  ·exact h (bne_eq_false_iff_eq.1 hs)
  ·rw [ho] at h;cases h
 refine ⟨k,⟨rfl⟩,⟨hk.t,hk.a,hk.s⟩,fun hE=> ?_,fun hE=> ?_,fun hE=> ?_⟩
 ·cases hR.symm.trans (Z60 hg hq hE (by decide))
  and_intros<;>rfl
 ·cases hR.symm.trans (Z60 hg hq hE (by decide))
  and_intros<;>rfl
 ·cases hR.symm.trans (Z8Z hg hq hE)
  and_intros<;>rfl
def ZgW (Tg:List Int->TxS->List Int):ZN:=fun args h K=>match args with
 | [.ptr (some ⟨x,0,0,0,0⟩)]=>frA [x] h 40 args fun Bs a=>match Bs,a with
  | [.flat cs],[.ptr (some ⟨0,0,0,0,0⟩)]=>∃k,YE cs k/\Xz k/\∀r,r=Wt Tg k->K (.ret (.tuple [.agg (sdC r.kd r.am r.tg),.int .i64 r.e])) ⟨h.next,(x,.flat (clT k k.side r.of r.la r.ag r.fe))::Yl h.bs x⟩
  | _,_=>False
 | _=>False
theorem Za8 (args:List AV) (h:Z8) (K:KO) (hl:ZgW Zv args h K):Ze PP 12 args h K:=by
 unfold ZgW at hl
 split at hl
 ·refine Spec.fsumm hl fun Bs a hlen hK0=> ?_
  split at hK0
  ·obtain ⟨k,⟨rfl⟩,hk,hK⟩:=hK0
   exact ⟨_,_,_,_,_,.evM (Zd.withF_ok Zm Z5Z) (Zjs Zv k _ _ _ _ _ _ _ _ _ hk rfl),by simp,.ret _ _ rfl,.cons _ _ _ _ _ _ rfl (.flat _ _ rfl) .nil,hK _ rfl⟩
  ·exact hK0.elim
 ·exact hl.elim
def ZhB (Tg:List Int->TxS->List Int):ZH:=fun args h K=>ZA none h true 40 args fun x=>match x with
 | [.agg cs]=>∃k,YK cs k/\Xz k/\∀r,r=Wt Tg k->K (.tuple [.agg (clU k k.side r.of r.la r.ag r.fe),.agg (sdC r.kd r.am r.tg),.int .i64 r.e])
 | _=>False
theorem Zeh (args:List AV) (h:Z8) (K:AV->Prop) (hl:ZhB Zv args h K):Ze PP 60 args h fun o h'=>∃v,o=.ret v/\h'=h/\K v:=by
 refine Zs.psumm (d:=40) (Zk _ _ _ _ _ hl fun a ha=> ?_)
 split at ha
 ·obtain ⟨k,⟨rfl⟩,hk,hK⟩:=ha
  exact ⟨_,.evM (Zd.withP_ok Zm Z7h) (ZnN Zv k _ _ _ _ _ _ _ _ _ hk rfl),fun _=>rfl,hK _ rfl⟩
 ·exact ha.elim
noncomputable def Zjt (A:List Int->Int×Int) (Tg:List Int->TxS->List Int):Zd:=(G0.withF 42 (clF A)).withF 43 (Zht A Tg)
noncomputable def Zei (A:List Int->Int×Int) (Tg:List Int->TxS->List Int):Zd:=(G0.withF 61 (clF A)).withF 120 (Zhu A Tg)
def ctG (Tg:List Int->TxS->List Int) (k:ClS):Nat->InS:=Z3X Tg (txC k.t k.a0 k.a1 k.fee) k.t.k0 k.t.k1 1
def txV (b n:Nat):AV:=.agg [.int .i64 2147483647,.nslice ⟨b,0,130,0,0⟩ 130 1 1,.nslice ⟨b+1,0,132,0,0⟩ 132 n n]
theorem Zmo (A:List Int->Int×Int) (Tg:List Int->TxS->List Int) (k:ClS) (n:Nat) (L:List Za) (g:Nat->InS) (hA:A=ZB) (ht:k.t.All) (hE:ZJ k.t k.a0 k.a1 k.fee=0) (ha:k.a0<9223372036854775808) (hL:L=ZR (clL k.t k.a0 k.a1 k.fee)) (hn:n=L.length) (hg:g=ctG Tg k):
  evF (Zjt A Tg) 20 15 [.ptr (some ⟨0,0,0,0,0⟩)] ⟨1,[(0,.flat (clT k k.side k.offers k.last true k.fee))]⟩ (ZF 1 (.ret (.tuple [txV 1 n,.int .i64 0])) 3 [(0,.flat (clT k k.side k.offers k.last true k.fee)),(1,.rows 130 1 (Zg g)),(2,.rows 132 n (Zf (ZV L)))]):=by
 refine @Eq.mpr _ (let q1:=k.t;let q2:=q1.fund;let q3:=q1.index;let q4:=q1.cap;let q5:=q1.dust;let q6:=q1.fee;let q7:=q1.delay;let q8:=q1.k0;let q9:=q1.k1;let q10:=Zj.mk q2 q3 q4 q5 q6 q7 q8 q9;let q11:=[k.a0,k.a1];let q12:=k.fee;let q13:=InS.mk q2 q3 1 Z5 Z5 Z5;let q14:=[(2,6),(1,5)];
 Zj.Ok q10/\
 ∃(a:Int),
 ∃(b:Int),
 let q29:=clB A q10 a b q12;let q30:=clL q10 a b q12;
 q11=[a,b]/\
 a<9223372036854775808/\
 (q29=false->False)/\
 (q29=true->
 (List.length q30=0->False)/\
 ∀(n_1:Nat) (L_1:List Za),
 L_1=ZR q30->
 n_1=List.length L_1->
 n_1≠0->
 Z6 (0+n_1<=n_1) ((∀(i:Nat),i<n_1->true=true)/\
 ∃(t:TxS),
 let q33:=t.N;let q34:=t.M;let q35:=decide (q33=1);let q36:=decide (q34=n);
 (t.num=2147483647/\
 (((1:Nat)=1/\q33=1)/\∀(i:Nat),i<1->Y9 [AV.arr u8 32 q13.name,AV.int i64 q13.index,AV.int i64 q13.way,AV.arr u8 32 q13.tag,AV.arr u8 32 q13.also,AV.arr u8 32 q13.secret] 0 130 i=InS.c (t.ins i))/\
 (n_1=n_1/\q34=n_1)/\
 ∀(i:Nat),
 let q41:=ZV L_1 i;
 i<n_1->[AV.int i64 q41.kind,AV.int i64 q41.amount,AV.arr u8 32 q41.owner,AV.arr u8 32 q41.other,AV.arr u8 32 q41.point,AV.arr u8 32 q41.hash,AV.int i64 q41.delay,AV.int i64 q41.expiry]=ZE.c (t.outs i))/\
 (TxS.Ok t/\List.length q8=32/\List.length q9=32)/\(Yf A t=false->False)/\(Yf A t=true->Z6 (t.num=2147483647) (Z0 q35 (Z6 (1<=q33) (Z0 q36 (Z6 (n<=q34) (q2=q2/\Z6 (q3=q3) (Z6 (q4=q4) (Z6 (q5=q5) (Z6 (q6=q6) (Z6 (q7=q7) (q8=q8/\q9=q9/\Z6 (k.side=k.side) (q11=q11/\Z6 (k.least=k.least) (Z6 (k.most=k.most) (Z6 (k.offers=k.offers) (Z6 (k.last=k.last) (Z6 (q12=q12) (Z0 q35 (Zo 1 q14 1 (Zg g) (Zg (Z3X Tg t q8 q9 q33))/\Z0 q36 (Zo 1 q14 n (Zf (ZV L)) (Zf t.outs)/\True)))))))))))))))))))))) (by kernel_rfl) ?_
 conv=>zeta
 try simp only [vcA]
 try simp only [vcB]
 try simp only [vcC]
 subst hA
 obtain ⟨hb,hz⟩:=Z8T hE
 have hb:clB ZB k.t k.a0 k.a1 k.fee=true:=hb
 have hck:=V6 hE
 refine ⟨ht.ok,k.a0,k.a1,rfl,ha,fun h=>absurd (hb.symm.trans h) (by decide),fun _=>⟨fun h=>absurd h hz,fun n1 L1 hL1 hn1 hn0=>⟨fun _ _=>trivial,txC k.t k.a0 k.a1 k.fee,⟨rfl,⟨rfl,fun i hi=>VC _ i hi⟩, ?_,fun i _=> ?_⟩,⟨Ws ht.ok ht.fl,ht.ok.k0,ht.ok.k1⟩,fun h=>absurd (hck.symm.trans h) (by decide),fun _=> ?_⟩⟩⟩
 ·subst hn1 hL1;rfl
 ·subst hL1;rfl
 ·subst hn hL hg
  exact ⟨rfl,rfl,J4 _,rfl,J4 _,rfl,Yc fun _ _=>rfl,rfl,ZK fun _ _=>rfl⟩
theorem Zmp (A:List Int->Int×Int) (Tg:List Int->TxS->List Int) (k:ClS) :
  evF (Zjt A Tg) 20 15 [.ptr (some ⟨0,0,0,0,0⟩)] ⟨1,[(0,.flat (clT k k.side k.offers k.last false k.fee))]⟩ (ZF 1 (.ret (.tuple [.agg txZ,.int .i64 5])) 1 [(0,.flat (clT k k.side k.offers k.last false k.fee))]):=by
 refine @Eq.mpr _ (let q1:=k.t;let q2:=q1.fund;let q3:=q1.index;let q4:=q1.cap;let q5:=q1.dust;let q6:=q1.fee;let q7:=q1.delay;let q8:=q1.k0;let q9:=q1.k1;let q10:=[k.a0,k.a1];
 q2=q2/\Z6 (q3=q3) (Z6 (q4=q4) (Z6 (q5=q5) (Z6 (q6=q6) (Z6 (q7=q7) (q8=q8/\q9=q9/\Z6 (k.side=k.side) (q10=q10/\Z6 (k.least=k.least) (Z6 (k.most=k.most) (Z6 (k.offers=k.offers) (Z6 (k.last=k.last) (Z6 (k.fee=k.fee) True))))))))))) (by kernel_rfl) ?_
 conv=>zeta
 try simp only [vcA]
 try simp only [vcB]
 try simp only [vcC]
theorem Zmq (A:List Int->Int×Int) (Tg:List Int->TxS->List Int) (k:ClS) (n:Nat) (L:List Za) (g:Nat->InS) (hA:A=ZB) (ht:k.t.All) (hE:ZJ k.t k.a0 k.a1 k.fee=0) (ha:k.a0<9223372036854775808) (hL:L=ZR (clL k.t k.a0 k.a1 k.fee)) (hn:n=L.length) (hg:g=ctG Tg k):
  evF (Zei A Tg) 20 58 [.agg (clU k k.side k.offers k.last true k.fee)] ⟨0,[]⟩ (ZF 0 (.ret (.tuple [txV 0 n,.int .i64 0])) 2 [(0,.rows 130 1 (Zg g)),(1,.rows 132 n (Zf (ZV L)))]):=by
 refine @Eq.mpr _ (let q1:=k.t;let q2:=q1.fund;let q3:=q1.index;let q4:=q1.k0;let q5:=q1.k1;let q6:=Zj.mk q2 q3 q1.cap q1.dust q1.fee q1.delay q4 q5;let q7:=k.fee;let q8:=[(1,4),(0,3)];let q9:=Zf (ZV L);let q10:=∃(t:TxS),(t.num=0/\t.N=0/\t.M=0)/\(TxS.Ok t/\QG t/\(List.length q4=32/\List.length q5=32)/\Bytes q4/\Bytes q5)/\(Yf A t=false->False)/\(Yf A t=true->Z6 (t.num=2147483647) (Z6 (t.N=1) (Z6 (1<=t.N) (Z6 (t.M=n) (Z6 (n<=t.M) (Z6 (t.N=1) (Zo 0 q8 1 (Zg g) (Zg (Z7d Tg t q4 q5).ins)/\Z6 (t.M=n) (Zo 0 q8 n q9 (Zf t.outs)/\True))))))));let q11:=InS.mk q2 q3 1 Z5 Z5 Z5;let q12:=[(1,6),(0,5)];
 Zj.Ok q6/\
 ∃(a:Int),
 ∃(b:Int),
 let q25:=clB A q6 a b q7;let q26:=clL q6 a b q7;
 [k.a0,k.a1]=[a,b]/\
 a<9223372036854775808/\
 (q25=false->q10)/\
 (q25=true->
 (List.length q26=0->q10)/\
 ∀(n_1:Nat) (L:List Za),
 L=ZR q26->
 n_1=List.length L->
 n_1≠0->
 Z6 (0+n_1<=n_1) ((∀(i:Nat),i<n_1->true=true)/\
 ∃(t:TxS),
 let q29:=t.M;let q30:=decide (t.N=1);let q31:=decide (q29=n);
 (t.num=2147483647/\
 (((1:Nat)=1/\t.N=1)/\∀(i:Nat),i<1->Y9 [AV.arr u8 32 q11.name,AV.int i64 q11.index,AV.int i64 q11.way,AV.arr u8 32 q11.tag,AV.arr u8 32 q11.also,AV.arr u8 32 q11.secret] 0 130 i=InS.c (t.ins i))/\
 (n_1=n_1/\q29=n_1)/\
 ∀(i:Nat),
 let q35:=ZV L i;
 i<n_1->[AV.int i64 q35.kind,AV.int i64 q35.amount,AV.arr u8 32 q35.owner,AV.arr u8 32 q35.other,AV.arr u8 32 q35.point,AV.arr u8 32 q35.hash,AV.int i64 q35.delay,AV.int i64 q35.expiry]=ZE.c (t.outs i))/\
 (TxS.Ok t/\QG t/\(List.length q4=32/\List.length q5=32)/\Bytes q4/\Bytes q5)/\(Yf A t=false->False)/\(Yf A t=true->Z6 (t.num=2147483647) (Z0 q30 (Z6 (1<=t.N) (Z0 q31 (Z6 (n<=q29) (Z0 q30 (Zo 0 q12 1 (Zg g) (Zg (Z7d Tg t q4 q5).ins)/\Z0 q31 (Zo 0 q12 n q9 (Zf t.outs)/\True))))))))))) (by kernel_rfl) ?_
 conv=>zeta
 try simp only [vcA]
 try simp only [vcB]
 try simp only [vcC]
 subst hA
 obtain ⟨hb,hz⟩:=Z8T hE
 have hb:clB ZB k.t k.a0 k.a1 k.fee=true:=hb
 have hck:=V6 hE
 refine ⟨ht.ok,k.a0,k.a1,rfl,ha,(fun h=>absurd (hb.symm.trans h) (by decide)),fun _=>⟨(fun h=>absurd h hz),fun n1 L1 hL1 hn1 hn0=>⟨fun _ _=>trivial,txC k.t k.a0 k.a1 k.fee,⟨rfl,⟨rfl,fun i hi=>VC _ i hi⟩, ?_,fun i _=> ?_⟩,⟨Ws ht.ok ht.fl,Za0 ht,⟨ht.ok.k0,ht.ok.k1⟩,ht.ok.b0,ht.ok.b1⟩,fun h=>absurd (hck.symm.trans h) (by decide),fun _=> ?_⟩⟩⟩
 ·subst hn1 hL1;rfl
 ·subst hL1;rfl
 ·subst hn hL hg
  exact ⟨rfl,rfl,J4 _,rfl,J4 _,rfl,Yc fun i hi=>congrArg InS.c (if_pos hi).symm,rfl,ZK fun _ _=>rfl⟩
theorem Zmr (A:List Int->Int×Int) (Tg:List Int->TxS->List Int) (k:ClS) :
  evF (Zei A Tg) 20 58 [.agg (clU k k.side k.offers k.last false k.fee)] ⟨0,[]⟩ (ZF 0 (.ret (.tuple [.agg txZ,.int .i64 5])) 0 []):=by
 refine @Eq.mpr _ (True) (by kernel_rfl) ?_
 trivial
structure TxK (k:ClS):Prop where
 t:k.t.All
 a:k.a0<9223372036854775808
def Z90 (cs:List AV) (i:Nat):AV:=cs.getD i .top
def Zej (Tg:List Int->TxS->List Int):ZN:=fun args h K=>match args with
 | [.ptr (some ⟨x,0,0,0,0⟩)]=>frA [x] h 40 args fun Bs a=>match Bs,a with
  | [.flat cs],[.ptr (some ⟨0,0,0,0,0⟩)]=>∃k,YE cs k/\TxK k/\(match Z90 cs 14 with
   | .bool true=>ZJ k.t k.a0 k.a1 k.fee=0/\∀n L,L=ZR (clL k.t k.a0 k.a1 k.fee)->n=L.length->n<=2->K (.ret (.tuple [txV h.next n,.int .i64 0])) ⟨h.next+2,(x,.flat cs)::(h.next,.rows 130 1 (Zg (ctG Tg k)))::(h.next+1,.rows 132 n (Zf (ZV L)))::Yl h.bs x⟩
   | .bool false=>K (.ret (.tuple [.agg txZ,.int .i64 5])) ⟨h.next,(x,.flat cs)::Yl h.bs x⟩
   | _=>False)
  | _,_=>False
 | _=>False
theorem Z61 (args:List AV) (h:Z8) (K:KO) (hl:Zej Zv args h K):Ze PP 15 args h K:=by
 have hE:(Zjt ZB Zv).Ok:=Zd.withF_ok (Zd.withF_ok Zm ZdQ) ZdW
 unfold Zej at hl
 split at hl
 ·refine Spec.fsumm hl fun Bs a hlen hK0=> ?_
  split at hK0
  ·obtain ⟨k,⟨rfl⟩,⟨ht,ha⟩,hm⟩:=hK0
   obtain ⟨t,sd,a0,a1,le,mo,o0,l0,g0,f0⟩:=k
   cases g0 with
   | true=>
    obtain ⟨he,hK⟩:ZJ t a0 a1 f0=0/\_:=hm
    have h2:(ZR (clL t a0 a1 f0)).length<=2:=by rw [Xa];exact Z2b
    exact ⟨_,_,_,_,_,.evM hE (Zmo _ Zv ⟨t,sd,a0,a1,le,mo,o0,l0,true,f0⟩ _ _ _ rfl ht he ha rfl rfl rfl),by simp,.ret _ _ rfl,.cons _ _ _ _ _ _ rfl (.flat _ _ rfl) (.cons _ _ _ _ _ _ rfl (.rows _ _ _ (fun _ _=>rfl)) (.cons _ _ _ _ _ _ rfl (.rows _ _ _ (fun _ _=>rfl)) .nil)),hK _ _ rfl rfl h2⟩
   | false=>exact ⟨_,_,_,_,_,.evM hE (Zmp _ Zv ⟨t,sd,a0,a1,le,mo,o0,l0,false,f0⟩),by simp,.ret _ _ rfl,.cons _ _ _ _ _ _ rfl (.flat _ _ rfl) .nil,hm⟩
  ·exact hK0.elim
 ·exact hl.elim
def Zms (Tg:List Int->TxS->List Int):ZN:=fun args h K=>ZA none h true 40 args fun x=>match x with
 | [.agg cs]=>∃k,YK cs k/\TxK k/\(match Z90 cs 14 with
   | .bool true=>ZJ k.t k.a0 k.a1 k.fee=0/\∀n L,L=ZR (clL k.t k.a0 k.a1 k.fee)->n=L.length->n<=2->K (.ret (.tuple [txV h.next n,.int .i64 0])) ⟨h.next+2,(h.next,.rows 130 1 (Zg (ctG Tg k)))::(h.next+1,.rows 132 n (Zf (ZV L)))::h.bs⟩
   | .bool false=>K (.ret (.tuple [.agg txZ,.int .i64 5])) h
   | _=>False)
 | _=>False
theorem ZgX (args:List AV) (h:Z8) (K:KO) (hl:Zms Zv args h K):Ze PP 58 args h K:=by
 have hE:(Zei ZB Zv).Ok:=Zd.withF_ok (Zd.withF_ok Zm Z5S) ZdZ
 refine Zs.fsumm (d:=40) (Zk _ _ _ _ _ hl fun a ha=> ?_)
 split at ha
 ·obtain ⟨k,⟨rfl⟩,⟨ht,ha⟩,hm⟩:=ha
  obtain ⟨t,sd,a0,a1,le,mo,o0,l0,g0,f0⟩:=k
  cases g0 with
  | true=>
   obtain ⟨he,hK⟩:ZJ t a0 a1 f0=0/\_:=hm
   have h2:(ZR (clL t a0 a1 f0)).length<=2:=by rw [Xa];exact Z2b
   exact ⟨_,_,_,_,.evM hE (Zmq _ Zv ⟨t,sd,a0,a1,le,mo,o0,l0,true,f0⟩ _ _ _ rfl ht he ha rfl rfl rfl),rfl,⟨by decide,.rows _ _ _ (fun i _=>(ctG Zv _ i).plainC),by decide,.rows _ _ _ (fun i _=>(ZV _ i).plainC),trivial⟩,hK _ _ rfl rfl h2⟩
  | false=>exact ⟨_,_,_,_,.evM hE (Zmr _ Zv ⟨t,sd,a0,a1,le,mo,o0,l0,false,f0⟩),rfl,trivial,hm⟩
 ·exact ha.elim
def Z4W (SB:Zi->Bool) (M:Int->Int->Int) (Tg:List Int->TxS->List Int):ZN:=fun args h K=>match args with
 | [.ptr (some ⟨x,0,0,0,0⟩),_]=>frA [x] h 60 args fun Bs a=>match Bs,a with
  | [.flat cs],[.ptr (some ⟨0,0,0,0,0⟩),.agg ss]=>∃k s,YE cs k/\Xp ss s/\(Ys k/\k.t.All)/\s.Len/\
   ∀r,r=Y1 SB M Tg k s->K (.ret (.tuple [.agg (sdC r.kd r.am r.tg),.bool r.sy,.int .i64 r.e])) ⟨h.next,(x,.flat (clT k k.side r.of r.la r.ag r.fe))::Yl h.bs x⟩
  | _,_=>False
 | _=>False
theorem Z2d {s:Zi} (h:XA s=true):0<=s.amount/\s.amount<=1125899906842624:=by
 have:=(Q3.1 h).w
 exact ⟨this.i,this.j⟩
theorem Z0M (args:List AV) (h:Z8) (K:KO) (hl:Z4W XA YD Zv args h K):Ze PP 13 args h K:=by
 unfold Z4W at hl
 split at hl
 ·refine Spec.fsumm hl fun Bs a hlen hK0=> ?_
  split at hK0
  ·obtain ⟨k,s,⟨rfl⟩,⟨rfl⟩,⟨hk,ht⟩,hs,hK⟩:=hK0
   exact ⟨_,_,_,_,_,Z1k Z8W hk ht hs Z2d rfl,by simp,.ret _ _ rfl,.cons _ _ _ _ _ _ rfl (.flat _ _ rfl) .nil,hK _ rfl⟩
  ·exact hK0.elim
 ·exact hl.elim
def ZhC (n:Int):List Int:=n::List.replicate 31 0
def Z3Y:Zj:=⟨Z5,0,1000,10,5,3,ZhC 1,ZhC 2⟩
def Zmt (A:List Int->Int×Int):ZN:=fun args h K=>ZA none h true 40 args fun x=>match x with
 | [.agg cs,.int .i64 sd,.agg [.arr .i64 2 ab],.int .i64 lo,.int .i64 hi]=>∃t a b,Z1l cs t/\ab=[a,b]/\t.Ok/\(match decide (lo<=hi) with
  | true=>Y8 A (k0C t sd a b lo hi)=true/\K (.ret (.tuple [.ptr (some ⟨h.next,0,0,0,0⟩),.int .i64 0])) ⟨h.next+1,(h.next,.flat (clT (k0C t sd a b lo hi) sd false 0 false 0))::h.bs⟩
  | false=>Y8 A (k0C t sd a b lo hi)=false/\K (.ret (.tuple [.ptr none,.int .i64 2])) h)
 | _=>False
theorem ZgY (args:List AV) (h:Z8) (K:KO) (hl:Zmt ZB args h K):Ze PP 9 args h K:=Z7k args h K (Zk _ _ _ _ _ hl fun a ha=>by
 split at ha
 ·obtain ⟨t,a,b,h1,h2,h3,hm⟩:=ha
  refine ⟨t,a,b,h1,h2,h3,fun hq=> ?_,fun hq=> ?_⟩
  ·split at hm
   ·exact hm.2
   ·exact absurd (hq.symm.trans hm.1) (by decide)
  ·split at hm
   ·exact absurd (hq.symm.trans hm.1) (by decide)
   ·exact hm.2
 ·exact ha.elim)
def Zju (Tg:List Int->TxS->List Int):ZN:=fun args h K=>match args with
 | [.ptr (some ⟨x,0,0,0,0⟩)]=>frA [x] h 40 args fun Bs a=>match Bs,a with
  | [.flat cs],[.ptr (some ⟨0,0,0,0,0⟩)]=>∃k,YE cs k/\Xz k/\k.agrees=false/\(match Z90 cs 8,Z90 cs 12 with
   | .int .i64 0,.bool false=>ZJ k.t k.a0 k.a1 k.least=0/\K (.ret (.tuple [.agg (sdC 13 k.least (Yb Tg k k.least k.side)),.int .i64 0])) ⟨h.next,(x,.flat (Zma cs k.least))::Yl h.bs x⟩
   | .int .i64 _,.bool _=>(k.side≠0\/k.offers=true)/\K (.ret (.tuple [.agg (sdC 0 0 Z5),.int .i64 251])) ⟨h.next,(x,.flat cs)::Yl h.bs x⟩
   | _,_=>False)
  | _,_=>False
 | _=>False
theorem ZgZ (args:List AV) (h:Z8) (K:KO) (hl:Zju Zv args h K):Ze PP 12 args h K:=by
 have hE:=Zd.withF_ok (f:=32) Zm Z5Z
 unfold Zju at hl
 split at hl
 ·refine Spec.fsumm hl fun Bs a hlen hK0=> ?_
  split at hK0
  ·obtain ⟨k,⟨rfl⟩,hk,hg,hm⟩:=hK0
   obtain ⟨t,sd,a0,a1,le,mo,o0,l0,g0,f0⟩:=k
   have hg:g0=false:=hg
   subst hg
   split at hm
   ·rename_i h8 h12
    obtain ⟨hE0,hK⟩:=hm
    have e1:sd=0:=by cases h8;rfl
    have e2:o0=false:=by cases h12;rfl
    subst e1 e2
    exact ⟨_,_,_,_,_,.evM hE (Zjs Zv ⟨t,0,a0,a1,le,mo,false,l0,false,f0⟩ _ _ _ _ _ _ _ _ _ hk (Z8Z rfl (by simp) hE0)),by simp,.ret _ _ rfl,.cons _ _ _ _ _ _ rfl (.flat _ _ rfl) .nil,hK⟩
   ·obtain ⟨hso,hK⟩:=hm
    exact ⟨_,_,_,_,_,.evM hE (Zjs Zv ⟨t,sd,a0,a1,le,mo,o0,l0,false,f0⟩ _ _ _ _ _ _ _ _ _ hk (Z3K rfl hso)),by simp,.ret _ _ rfl,.cons _ _ _ _ _ _ rfl (.flat _ _ rfl) .nil,hK⟩
   ·exact hm.elim
  ·exact hK0.elim
 ·exact hl.elim
def Zek (SB:Zi->Bool) (Tg:List Int->TxS->List Int):ZN:=fun args h K=>match args with
 | [.ptr (some ⟨x,0,0,0,0⟩),_]=>frA [x] h 60 args fun Bs a=>match Bs,a with
  | [.flat cs],[.ptr (some ⟨0,0,0,0,0⟩),.agg ss]=>∃k s,YE cs k/\Xp ss s/\(Ys k/\k.t.All/\k.agrees=false)/\(s.Len/\SB s=true)/\(match Z90 ss 0 with
   | .int .i64 12=>K (.ret (.tuple [.agg (sdC 0 0 Z5),.bool false,.int .i64 210])) ⟨h.next,(x,.flat cs)::Yl h.bs x⟩
   | .int .i64 13=>(ZJ k.t k.a0 k.a1 s.amount=0/\Yb Tg k s.amount (1-k.side)≠s.tag)/\K (.ret (.tuple [.agg (sdC 0 0 Z5),.bool false,.int .i64 221])) ⟨h.next,(x,.flat cs)::Yl h.bs x⟩
   | _=>False)
  | _,_=>False
 | _=>False
theorem Zel (args:List AV) (h:Z8) (K:KO) (hl:Zek XA Zv args h K):Ze PP 13 args h K:=by
 unfold Zek at hl
 split at hl
 ·refine Spec.fsumm hl fun Bs a hlen hK0=> ?_
  split at hK0
  ·obtain ⟨k,s,⟨rfl⟩,⟨rfl⟩,⟨hk,ht,hg⟩,⟨hs,hS⟩,hm⟩:=hK0
   split at hm
   ·rename_i h0
    have e:s.kind=12:=by
     have h:AV.int .i64 s.kind=AV.int .i64 12:=h0
     injection h
    exact ⟨_,_,_,_,_,Z1k Z8W hk ht hs Z2d (Ue hS (by rw [e];decide)),by simp,.ret _ _ rfl,.cons _ _ _ _ _ _ rfl (.flat _ _ rfl) .nil,hm⟩
   ·rename_i h0
    have e:s.kind=13:=by
     have h:AV.int .i64 s.kind=AV.int .i64 13:=h0
     injection h
    exact ⟨_,_,_,_,_,Z1k Z8W hk ht hs Z2d (Z0L ⟨hS,e,hg⟩ hm.1.1 hm.1.2),by simp,.ret _ _ rfl,.cons _ _ _ _ _ _ rfl (.flat _ _ rfl) .nil,hm.2⟩
   ·exact hm.elim
  ·exact hK0.elim
 ·exact hl.elim
noncomputable def Zmu (A:List Int->Int×Int) (SB:Zi->Bool) (Tg:List Int->TxS->List Int):Zd:=(((G0.withF 9 (Zmt A)).withF 12 (Zju Tg)).withF 13 (Zek SB Tg)).withF 15 (Zej Tg)
theorem Zh0:(Zmu ZB XA Zv).Ok:=Zd.withF_ok (Zd.withF_ok (Zd.withF_ok (Zd.withF_ok Zm ZgY) ZgZ) Zel) Z61
theorem Z1m {xs:List Int} (h:∀x∈xs,0<=x/\x<=255):Bytes xs:=⟨fun i=>by
 rw [J2]
 rcases J9 i xs.length with q|q
 ·rw [Je q];exact h _ (Km q)
 ·rw [Jr q];exact ⟨by decide,by decide⟩⟩
theorem Z0N:Z3Y.All:=⟨⟨rfl,rfl,Z1m (by decide),Z1m (by decide)⟩,rfl,Z1m (by decide)⟩
def kA:ClS:=k0C Z3Y 1 600 400 0 9
def kB:ClS:=k0C Z3Y 0 600 400 3 9
def kC:ClS:=clO kB true 3 false 0
theorem Z91:Xz kA:=⟨Z0N,by decide,.inr rfl⟩
theorem Zjv:Xz kB:=⟨Z0N,by decide,.inl rfl⟩
theorem Z92:Xz kC:=⟨Z0N,by decide,.inl rfl⟩
theorem Zem:Ys kC:=⟨⟨by kernel_rfl,.inl rfl,by decide,by decide,rfl,by decide,by decide,by decide⟩,fun _=>⟨by decide,by decide⟩,(fun h=>nomatch h),(fun h=>nomatch h),fun _=>rfl⟩
theorem Vr {kd am:Int} {tg:List Int} (h:tg.length=32):(sdN kd am tg).Len:=⟨rfl,rfl,rfl,rfl,rfl,rfl,rfl,h,rfl,Yv⟩
theorem Zmv:XA (sdN 12 0 Z5)=true:=Q3.2 ⟨⟨by decide,by decide,by decide,by decide,by decide,by decide,by decide,by decide,by decide,by decide⟩,by kernel_rfl,trivial⟩
theorem Zmw:XA (sdN 13 3 Z5)=true:=Q3.2 ⟨⟨by decide,by decide,by decide,by decide,by decide,by decide,by decide,by decide,by decide,by decide⟩,by kernel_rfl,trivial⟩
theorem Zmx:Yb Zv kC 3 1≠Z5:=fun h=>by
 have e:(Yb Zv kC 3 1==Z5)=false:=by kernel_rfl
 rw [h] at e
 exact absurd e (by decide)
theorem Zen:ZJ Z3Y 600 400 3=0:=by kernel_rfl
theorem ZnO:Y8 ZB (k0C Z3Y 1 600 400 0 9)=true:=by kernel_rfl
theorem ZnP:Y8 ZB (k0C Z3Y 0 600 400 3 9)=true:=by kernel_rfl
theorem ZnQ:Y8 ZB (k0C Z3Y 0 600 400 5 4)=false:=by kernel_rfl
theorem Zmy (A:List Int->Int×Int) (SB:Zi->Bool) (Tg:List Int->TxS->List Int) (hA:A=ZB) (hSB:SB=XA) (hT:Tg=Zv):
  evF (Zmu A SB Tg) 40 11 [] ⟨0,[]⟩ (XR fun v=>v=.bool true):=by
 refine @Eq.mpr _ (let q1:=[(600:Int),400];let q2:=q1=q1;let q3:=AV.arr u8 32 Z5;let q4:=AV.int i64 0;let q5:=[(0:Int),0,0,0,0,0,0,0,0,0,0,0,0,0,0,0,0,0,0,0,0,0,0,0,0,0,0,0,0,0,0];let q6:=AV.bool false;let q7:=AV.bool true;let q8:=[q6,q4,q7];let q9:=q6::q4::q8;let q10:=[q3,q3,q3,q3,q3,q3,q4,q4,q4,q4,q4,AV.str ByteArray.empty];
 q2/\
 ∃(t:Zj),
 let q21:=[q3,q4,AV.int i64 1000,AV.int i64 10,AV.int i64 5,AV.int i64 3,AV.arr u8 32 ((1:Int)::q5),AV.arr u8 32 ((2:Int)::q5)];
 ∃(a:Int),
 ∃(b:Int),
 let q23:=k0C t 1 a b 0 9;let q24:=q23.t;
 Z1l q21 t/\
 q1=[a,b]/\
 Zj.Ok t/\
 Y8 A q23=true/\
 ∃(k:ClS),
 let q27:=AV.arr u8 32 q24.fund::AV.int i64 q24.index::AV.int i64 q24.cap::AV.int i64 q24.dust::AV.int i64 q24.fee::AV.int i64 q24.delay::AV.arr u8 32 q24.k0::AV.arr u8 32 q24.k1::AV.int i64 1::AV.arr i64 2 [q23.a0,q23.a1]::AV.int i64 q23.least::AV.int i64 q23.most::q9;
 YE q27 k/\
 Xz k/\
 k.agrees=false/\
 (k.side≠0\/k.offers=true)/\
 ∃(k:ClS),
 YE q27 k/\
 TxK k/\
 q2/\
 ∃(t:Zj),
 ∃(a:Int),
 ∃(b:Int),
 Z1l q21 t/\
 q1=[a,b]/\
 Zj.Ok t/\
 Y8 A (k0C t 0 a b 5 4)=false/\
 q2/\
 ∃(t:Zj),
 ∃(a:Int),
 ∃(b:Int),
 let q29:=k0C t 0 a b 3 9;let q30:=q29.t;let q31:=AV.arr u8 32 q30.fund;let q32:=AV.int i64 q30.index;let q33:=AV.int i64 q30.cap;let q34:=AV.int i64 q30.dust;let q35:=AV.int i64 q30.fee;let q36:=AV.int i64 q30.delay;let q37:=AV.arr u8 32 q30.k0;let q38:=AV.arr u8 32 q30.k1;let q39:=AV.arr i64 2 [q29.a0,q29.a1];let q40:=AV.int i64 q29.least;let q41:=AV.int i64 q29.most;
 Z1l q21 t/\
 q1=[a,b]/\
 Zj.Ok t/\
 Y8 A q29=true/\
 ∃(k:ClS),
 let q55:=k.least;let q56:=q31::q32::q33::q34::q35::q36::q37::q38::q4::q39::q40::q41::q7::AV.int i64 q55::q8;
 YE (q31::q32::q33::q34::q35::q36::q37::q38::q4::q39::q40::q41::q9) k/\Xz k/\k.agrees=false/\ZJ k.t k.a0 k.a1 q55=0/\∃(k:ClS),YE q56 k/\Xz k/\k.agrees=false/\(k.side≠0\/k.offers=true)/\∃(k:ClS),∃(s:Zi),YE q56 k/\Xp (AV.int i64 12::q3::q4::q4::q4::q4::q4::q3::q3::q4::q4::q10) s/\(Ys k/\Zj.All k.t/\k.agrees=false)/\(Zi.Len s/\SB s=true)/\∃(k:ClS),∃(s:Zi),YE q56 k/\Xp (AV.int i64 13::q3::q4::q4::q4::q4::q4::q3::q3::q4::AV.int i64 3::q10) s/\(Ys k/\Zj.All k.t/\k.agrees=false)/\(Zi.Len s/\SB s=true)/\(ZJ k.t k.a0 k.a1 s.amount=0/\Yb Tg k s.amount (1-k.side)≠s.tag)/\Z7 (q55==3) (q7=q7) (q6=q7)) (by kernel_rfl) ?_
 conv=>zeta
 try simp only [vcA]
 try simp only [vcB]
 try simp only [vcC]
 subst hA hSB hT
 have hok:=Z0N.ok
 refine ⟨Z3Y,600,400,⟨rfl⟩,rfl,hok,ZnO,kA,⟨rfl⟩,Z91,rfl,.inl (by decide),kA,⟨rfl⟩,⟨Z91.t,Z91.a⟩,Z3Y,600,400,⟨rfl⟩,rfl,hok,ZnQ,Z3Y,600,400,⟨rfl⟩,rfl,hok,ZnP,kB,⟨rfl⟩,Zjv,rfl,Zen,kC,⟨rfl⟩,Z92,rfl,.inr rfl,kC,sdN 12 0 Z5,⟨rfl⟩,⟨rfl⟩,⟨Zem,Z92.t,rfl⟩,⟨Vr rfl,Zmv⟩,kC,sdN 13 3 Z5,⟨rfl⟩,⟨rfl⟩,⟨Zem,Z92.t,rfl⟩,⟨Vr rfl,Zmw⟩,⟨Zen,Zmx⟩,fun _=>trivial,fun h=> ?_⟩
 exact absurd (show (kB.least==3)=true from rfl) (by rw [h];decide)
def Zeo:ZH:=fun args _ K=>match args with
 | []=>K (.bool true)
 | _=>False
theorem Zh1 (args:List AV) (h:Z8) (K:AV->Prop) (hl:Zeo args h K):Ze PP 11 args h fun o h'=>∃v,o=.ret v/\h'=h/\K v:=by
 unfold Zeo at hl
 split at hl
 ·exact X3 Zh0 rfl (Zmy _ _ _ rfl rfl rfl) (fun u hu=>hu▸hl)
 ·exact hl.elim
end Go.Tk
end
