/- V: part 5 of an engine (a symbolic evaluator, proved against the model) and of the walk by it. -/
import Derived.Test.YthnfcmaoiebelaaGreatV4
import Derived.Shelf.SlSortCmp.WholeK
set_option linter.unusedVariables false
set_option linter.unusedSimpArgs false
set_option maxRecDepth 100000
set_option maxHeartbeats 0
section
namespace Go.Tk
open IntKind (i64 u8 u32 u64 wrap)
variable {α:Type} {f:Nat->List AV} {args:List AV} {g:FuncId} {K:KO} {K0:Ze->Nat->Nat->Nat->List AV->Prop} {D:Ze}
def ZH.ic (q:ZH):List AV:=[.arr .u8 32 q.hash.v,.arr .u8 32 q.key.v,.int .i64 q.amount,.int .i64 q.least]
theorem Zgm (H:LI->LI) (X:Ze) (o:LI) (J:Nat) (x:ZH) (b:Bool) (ho:o.length=32) (hJ:J=atQ X.Q o) (hx:x=X.Q.getD J ZK) (hb:b=Nat.blt J X.Q.length):
  evF G0 40 37 [pt 0,.agg [.arr .u8 32 o]] ⟨5,tbO H X⟩ (Ye 5 (.ret (.tuple [.agg x.ic,.agg [.arr .u8 32 x.secret.v],.bool b])) 5 (tbO H X)):=by
 refine @Eq.mpr _ (let A:=AV.agg [AV.arr u8 (32:Nat) o];let d:=X.Q;let a:=d.length;let j:=qkV d;let p:=Zm (fun (i:Nat)=>Zx A (AV.agg [AV.arr u8 (32:Nat) (List.getD d i ZK).hash.v])) a;let c:=List.getD d p ZK;let h:=c.secret.v;let n:=x.hash.v;let m:=x.key.v;let z:=x.secret.v;let g:=X.T;let f:=g.length;let y:=decide (f=f);let w:=tkO g;let e:=tiV g;let u:=tkI g;let l:=X.S;let k:=l.length;let t:=skV H l;let s:=seV l;let r:=quV d;let q:=Z0 y (Zc (5:Nat) [] f w e w e/\Z0 y (Zc (5:Nat) [] f u e u e/\Z5 (k=k) (Zc (5:Nat) [] k t s t s/\Z5 (a=a) (Zc (5:Nat) [] a j r j r/\True))));
 Y5 PP (31:Nat) A a j/\Z8 (Nat.blt p a) (h=h/\c.hash.v=n/\c.key.v=m/\Z5 (c.amount=x.amount) (Z5 (c.least=x.least) (h=z/\Z5 (true=b) q))) (Zd=Zd/\Zd=n/\Zd=m/\Z5 ((0:Int)=x.amount) (Z5 ((0:Int)=x.least) (Zd=z/\Z5 (false=b) q)))) (by kernel_rfl) ?_
 conv=>zeta
 try simp only [vcA]
 try simp only [vcB]
 try simp only [vcC]
 have hF:=(ZcN X.Q o).trans hJ.symm
 have hK:=Z8r X.Q ho
 obtain ⟨t1,t2,t3,t4⟩:=Z1a H X 5 []
 simp only [hF,hx.symm,hK,true_and]
 cases hc:Nat.blt J X.Q.length with
 | true=>
  rw [hb,hc]
  simp only [t1,t2,t3,t4,and_self,reduceCtorEq,false_implies,forall_const]
 | false=>
  have ex:x=ZK:=by
   rw [hx,J5,Jo (by rw [YZ] at hc;simp at hc;omega)]
   rfl
  rw [hb,hc,ex]
  exact ⟨nofun,fun _=>⟨rfl,rfl,rfl,rfl,rfl,rfl,t1,t2,t3,t4⟩⟩
theorem Zgn (H:LI->LI) (X:Ze) (o:LI) (J:Nat) (x:ZH) (Q':List ZH) (e:Int) (ho:o.length=32) (hJ:J=atQ X.Q o) (hx:x=X.Q.getD J ZK) (he:e=Z15 X.Q o) (hQ:Q'=Z16 X.Q o):
  evF G0 40 27 [pt 0,.agg [.arr .u8 32 o]] ⟨5,tbO H X⟩ (Ye 5 (.ret (.tuple [.agg [.arr .u8 32 x.secret.v],.int .i64 e])) 5 (tbO H ⟨X.T,X.S,Q'⟩)):=by
 refine @Eq.mpr _ (let J:=AV.agg [AV.arr u8 (32:Nat) o];let b:=X.Q;let a:=b.length;let k:=qkV b;let t:=Y5 PP (31:Nat) J a k;let d:=Zm (fun (i:Nat)=>Zx J (AV.agg [AV.arr u8 (32:Nat) (List.getD b i ZK).hash.v])) a;let s:=Nat.blt d a;let r:=x.secret.v;let q:=(List.getD b d ZK).secret.v=r;let I:=decide ((0:Int)=e);let c:=X.T;let j:=X.S;let p:=Ze.mk c j Q';let h:=p.T;let n:=h.length;let g:=decide (c.length=n);let G:=tiV h;let F:=tiV c;let E:=Zc (5:Nat) [] n (tkO h) G (tkO c) F;let D:=Zc (5:Nat) [] n (tkI h) G (tkI c) F;let m:=p.S;let C:=m.length;let B:=decide (j.length=C);let A:=Zc (5:Nat) [] C (skV H m) (seV m) (skV H j) (seV j);let l:=p.Q;let f:=l.length;let z:=qkV l;let y:=quV l;let w:=quV b;let u:=Z0 g (E/\Z0 g (D/\Z0 B (A/\Z5 (a=f) (Zc (5:Nat) [] f z y k w/\True))));
 t/\Z8 s (t/\Z8 s (q/\Z0 I (Z0 g (E/\Z0 g (D/\Z0 B (A/\Z5 (a-(1:Nat)=f) (Zc (5:Nat) [] f z y (X8 k d) (X8 w d)/\True)))))) (q/\Z0 I u)) (Zd=r/\Z5 ((5:Int)=e) u)) (by kernel_rfl) ?_
 conv=>zeta
 try simp only [vcA]
 try simp only [vcB]
 try simp only [vcC]
 have hF:=(ZcN X.Q o).trans hJ.symm
 have hK:=Z8r X.Q ho
 obtain ⟨t1,t2,t3,t4⟩:=Z1a H X 5 []
 simp only [hF,hx.symm,hK,true_and]
 cases hc:Nat.blt J X.Q.length with
 | true=>
  have hj:J<X.Q.length:=Xm hc
  have hQ:Q'=X.Q.eraseIdx J:=by rw [hQ,Z16,<-hJ]
  have he:0=e:=by rw [he,Z15,<-hJ,if_pos hj]
  have el:X.Q.length-1=Q'.length:=by rw [hQ,K2 hj]
  have hm:Zc 5 [] Q'.length (qkV Q') (quV Q') (X8 (qkV X.Q) J) (X8 (quV X.Q) J):=Zn (XX _) fun j hj'=>by
   rw [hQ]
   exact ⟨QX ZK qkV (fun _ _=>rfl) X.Q J j,QX ZK quV (fun _ _=>rfl) X.Q J j⟩
  simp only [t1,t2,t3,he,el,hm,and_self,reduceCtorEq,false_implies,forall_const,true_and,and_true]
 | false=>
  have hj:¬J<X.Q.length:=fun h=>by rw [Yt h] at hc;cases hc
  have hQ:Q'=X.Q:=by rw [hQ,Z16,<-hJ,JL (by omega)]
  have he:5=e:=by rw [he,Z15,<-hJ,if_neg hj]
  have ex:x=ZK:=by
   rw [hx,J5,Jo (by omega)]
   rfl
  rw [hQ,ex]
  exact ⟨nofun,fun _=>⟨rfl,he,t1,t2,t3,rfl,t4⟩⟩
theorem Zgo (H:LI->LI) (H2:LI->LI->LI) (B:Nat) (X:Ze) (q:ZH) (J:Nat) (Q':List ZH) (e:Int) (hB:B=100) (hL:X.Lim) (hH:∀x,(H x).length=32) (hJ:J=atQ X.Q q.hash.v) (he:e=W9 H X.Q q) (hQ:Q'=Z0r H X.Q q):
  evF (Zex H H2 B) 40 25 [pt 0,.agg q.ic,.agg [.arr .u8 32 q.secret.v]] ⟨5,tbO H X⟩ (Ye 5 (.ret (.int .i64 e)) 5 (tbO H ⟨X.T,X.S,Q'⟩)):=by
 refine @Eq.mpr _ (let g:=q.hash.v;let q2:=AV.arr u8 (32:Nat) g;let u:=AV.agg [q2];let j:=X.Q;let b:=j.length;let h:=qkV j;let J:=Y5 PP (31:Nat) u b h;let I:=Zm (fun (i:Nat)=>Zx u (AV.agg [AV.arr u8 (32:Nat) (List.getD j i ZK).hash.v])) b;let G:=Nat.blt I b;let F:=q.amount;let a4:=decide ((1:Int)<=F);let a3:= !decide (F<=(1125899906842624:Int));let f:=X.T;let l:=X.S;let E:=Ze.mk f l Q';let k:=E.T;let D:=k.length;let c:=decide (f.length=D);let a2:=tiV k;let a1:=tiV f;let C:=Zc (5:Nat) [] D (tkO k) a2 (tkO f) a1;let A:=Zc (5:Nat) [] D (tkI k) a2 (tkI f) a1;let z:=E.S;let a0:=z.length;let y:=decide (l.length=a0);let x:=Zc (5:Nat) [] a0 (skV H z) (seV z) (skV H l) (seV l);let w:=E.Q;let d:=w.length;let Z:=decide (b=d);let t:=qkV w;let s:=quV w;let r:=quV j;let p:=Z0 c (C/\Z0 c (A/\Z0 y (x/\Z0 Z (Zc (5:Nat) [] d t s h r/\True))));let a:=Z5 ((2:Int)=e) p;let o:=q.least;let Y:=decide ((1:Int)<=o);let W:= !decide (o<=(1000:Int));let V:=g=g;let n:=q.secret.v;let m:=n.length;let U:=decide (m=(32:Nat));let R:=decide ((32:Nat)=m);let P:=decide (m<=B);let O:=H n;let N:=decide (O.length=(32:Nat)/\g.length=(32:Nat));let M:= !O==g;let L:=decide ((0:Int)=e);let K:=AV.agg [q2,AV.arr u8 (32:Nat) q.key.v,AV.int i64 F,AV.int i64 o,AV.arr u8 (32:Nat) n];
 J/\Z8 G (Z8 a4 (Z8 a3 a (Z8 Y (Z8 W a (V/\Z0 U (Z0 R (Z0 P (Z0 N (Z8 M a (Z5 ((360:Int)=e) p))))))) a)) a) (Z8 a4 (Z8 a3 a (Z8 Y (Z8 W a (V/\Z0 U (Z0 R (Z0 P (Z0 N (Z8 M a (Z8 (decide ((↑b:Int)>=(16:Int))) (Z5 ((3:Int)=e) p) (J/\Z8 G (Z0 L (Z0 c (C/\Z0 c (A/\Z0 y (x/\Z0 Z (Zc (5:Nat) [] d t s h (W2 r I K)/\True)))))) (Z0 L (Z0 c (C/\Z0 c (A/\Z0 y (x/\Z5 (b+(1:Nat)=d) (Zc (5:Nat) [] d t s (W2 h b u) (W2 r b K)/\True)))))))))))))) a)) a)) (by kernel_rfl) ?_
 conv=>zeta
 try simp only [vcA]
 try simp only [vcB]
 try simp only [vcC]
 have hF:=(ZcN X.Q q.hash.v).trans hJ.symm
 have hK:=Z8r X.Q q.hash.l
 obtain ⟨t1,t2,t3,t4⟩:=Z1a H X 5 []
 simp only [hF,hK,true_and]
 subst hB
 have hl:=q.secret.l
 have hk:∀k:Int,k≠0->W9 H X.Q q=k->k=e/\Zc 5 [] X.T.length (tkO X.T) (tiV X.T) (tkO X.T) (tiV X.T)/\Zc 5 [] X.T.length (tkI X.T) (tiV X.T) (tkI X.T) (tiV X.T)/\Zc 5 [] X.S.length (skV H X.S) (seV X.S) (skV H X.S) (seV X.S)/\X.Q.length=Q'.length/\Zc 5 [] Q'.length (qkV Q') (quV Q') (qkV X.Q) (quV X.Q):=fun k h0 hk=>by
  have:Q'=X.Q:=by rw [hQ,Z0r,if_neg (by omega)]
  rw [this,he,hk]
  exact ⟨rfl,t1,t2,t3,rfl,t4⟩
 have k2:¬(Vk H q=true)->W9 H X.Q q=2:=fun h=>by rw [W9,if_neg h]
 have ok:Vk H q=true↔(1<=q.amount/\q.amount<=1125899906842624)/\(1<=q.least/\q.least<=1000)/\(H q.secret.v==q.hash.v)=true:=by
  unfold Vk
  rw [J1,J1,decide_eq_true_eq,decide_eq_true_eq,and_assoc]
 have k3:Vk H q=true->W9 H X.Q q=if J<X.Q.length then 360 else if 16<=X.Q.length then 3 else 0:=fun h=>by rw [W9,if_pos h,<-hJ]
 cases hc:Nat.blt J X.Q.length
 all_goals
  first|refine ⟨fun h=>absurd h (by decide),fun _=> ?_⟩|refine ⟨fun _=> ?_,fun h=>absurd h (by decide)⟩
  refine ⟨fun a0=>⟨fun a1=>hk 2 (by decide) (k2 fun h=> ?_),fun a1=>⟨fun b0=>⟨fun b1=>hk 2 (by decide) (k2 fun h=> ?_),fun b1=>⟨hl,hl.symm,by omega,⟨hH _,q.hash.l⟩,fun c1=>hk 2 (by decide) (k2 fun h=> ?_),fun c1=> ?_⟩⟩,fun b0=>hk 2 (by decide) (k2 fun h=> ?_)⟩⟩,fun a0=>hk 2 (by decide) (k2 fun h=> ?_)⟩
  ·have:=ok.1 h;simp only [Jl,decide_eq_false_iff_not] at a1;omega
  ·have:=ok.1 h;simp only [Jl,decide_eq_false_iff_not] at b1;omega
  ·have:=(ok.1 h).2.2;rw [this] at c1;cases c1
  rotate_left
  ·have:=ok.1 h;omega
  ·have:=ok.1 h;omega
  simp only [Bool.not_eq_false',decide_eq_true_eq] at a1 b1
  have c2:(H q.secret.v==q.hash.v)=true:=by simpa using c1
  have k3:=k3 (ok.2 ⟨⟨a0,a1⟩,⟨b0,b1⟩,c2⟩)
 ·have hj:¬J<X.Q.length:=fun h=>by rw [Yt h] at hc;cases hc
  rw [if_neg hj] at k3
  refine ⟨fun g=>hk 3 (by decide) (by rw [k3,if_pos (by omega)]),fun g=>⟨nofun,fun _=> ?_⟩⟩
  rw [if_neg (by omega)] at k3
  have hQ:Q'=X.Q++[q]:=by rw [hQ,Z0r,if_pos k3]
  have el:X.Q.length+1=Q'.length:=by rw [hQ,J7];rfl
  refine ⟨by rw [he,k3],t1,t2,t3,el,Zn (XX _) fun j hj'=> ?_⟩
  rw [hQ]
  exact ⟨Z1s ZK qkV (fun _ _=>rfl) X.Q q (by omega),Z1s ZK quV (fun _ _=>rfl) X.Q q (by omega)⟩
 ·rw [if_pos (Xm hc)] at k3
  exact hk 360 (by decide) k3
def Zbe (H:LI->LI):Y2:=fun args h K=>Z1b H h args fun X t o i s a az=>match az with
 | [.ptr (some ⟨0,0,0,0,0⟩),.agg cs,.agg [.arr .u8 32 k]]=>∃q:ZH,(cs=q.ic/\k=q.secret.v)/\K (.ret (.int .i64 (W9 H X.Q q))) ⟨h.next,Uf H ⟨X.T,X.S,Z0r H X.Q q⟩ h t o i s a⟩
 | _=>False
theorem Z5V (args:List AV) (h:Z7) (K:KO) (hl:Zbe ZB args h K):Zi PP 25 args h K:=by
 refine Xq hl fun X t o i s a az hL ha=> ?_
 split at ha
 ·obtain ⟨q,⟨rfl,rfl⟩,hK⟩:=ha
  exact ⟨_,_,fun _=>rfl,.evM Z8q (Zgo ZB Z7c 100 X q _ _ _ rfl hL QO rfl rfl rfl),hK⟩
 ·exact ha.elim
def ZeC (H:LI->LI):Y2:=fun args h K=>Z1b H h args fun X t o i s a az=>match az with
 | [.ptr (some ⟨0,0,0,0,0⟩),.agg [.arr .u8 32 k]]=>k.length=32/\K (.ret (.tuple [.agg [.arr .u8 32 (X.Q.getD (atQ X.Q k) ZK).secret.v],.int .i64 (Z15 X.Q k)])) ⟨h.next,Uf H ⟨X.T,X.S,Z16 X.Q k⟩ h t o i s a⟩
 | _=>False
theorem Z8u (H:LI->LI) (args:List AV) (h:Z7) (K:KO) (hl:ZeC H args h K):Zi PP 27 args h K:=by
 refine Xq hl fun X t o i s a az hL ha=> ?_
 split at ha
 ·exact ⟨_,_,fun _=>rfl,.evM ZD (Zgn H X _ _ _ _ _ ha.1 rfl rfl rfl rfl),ha.2⟩
 ·exact ha.elim
def ZcQ (H:LI->LI):Y2:=fun args h K=>Z1b H h args fun X t o i s a az=>match az with
 | [.ptr (some ⟨0,0,0,0,0⟩),.agg [.arr .u8 32 k]]=>k.length=32/\∀(q:ZH) b,K (.ret (.tuple [.agg q.ic,.agg [.arr .u8 32 q.secret.v],.bool b])) ⟨h.next,Uf H X h t o i s a⟩
 | _=>False
theorem Z4X (H:LI->LI) (args:List AV) (h:Z7) (K:KO) (hl:ZcQ H args h K):Zi PP 37 args h K:=by
 refine Xq hl fun X t o i s a az hL ha=> ?_
 split at ha
 ·exact ⟨_,_,fun _=>rfl,.evM ZD (Zgm H X _ _ _ _ ha.1 rfl rfl rfl),ha.2 _ _⟩
 ·exact ha.elim
structure Xe where
 own:Bool
 id:Int
 amount:Int
 hash:H32
 expiry:Int
 stage:Int
 fin:Int
 secret:H32
def Xe.c (p:Xe):List AV:=[.bool p.own,.int .i64 p.id,.int .i64 p.amount,.arr .u8 32 p.hash.v,.int .i64 p.expiry,.int .i64 p.stage,.int .i64 p.fin,.arr .u8 32 p.secret.v]
structure Xf where
 key:H32
 next:H32
 amount:Int
 expiry:Int
def Xf.c (p:Xf):List AV:=[.arr .u8 32 p.key.v,.arr .u8 32 p.next.v,.int .i64 p.amount,.int .i64 p.expiry]
def enZ (f:Bool) (x:ZH) (p:Xe) (q:Xf) (ht:Int):Int:=if f=true then (if p.amount<x.amount then 32 else if p.amount<q.amount then 32 else if p.expiry>=ht then (if (!decide (u64.wrap (u64.wrap p.expiry-u64.wrap ht)>=u64.wrap x.least))=true then 33 else if p.expiry<q.expiry then 33 else 0) else 33) else 31
theorem Zgp (H:LI->LI) (X:Ze) (p:Xe) (q:Xf) (ht:Int) (J:Nat) (e:Int) (hL:X.Lim) (hJ:J=atQ X.Q p.hash.v) (he:e=enZ (Nat.blt J X.Q.length) (X.Q.getD J ZK) p q ht):
  evF G0 40 39 [pt 0,.agg p.c,.agg q.c,.int .i64 ht] ⟨5,tbO H X⟩ (Ye 5 (.ret (.int .i64 e)) 5 (tbO H X)):=by
 refine @Eq.mpr _ (let z:=AV.agg [AV.arr u8 (32:Nat) p.hash.v];let b:=X.Q;let a:=b.length;let h:=qkV b;let r:=Zm (fun (i:Nat)=>Zx z (AV.agg [AV.arr u8 (32:Nat) (List.getD b i ZK).hash.v])) a;let o:=List.getD b r ZK;let d:=X.T;let c:=d.length;let n:=decide (c=c);let y:=tkO d;let g:=tiV d;let x:=tkI d;let m:=X.S;let l:=m.length;let w:=skV H m;let u:=seV m;let t:=quV b;let f:=Z0 n (Zc (5:Nat) [] c y g y g/\Z0 n (Zc (5:Nat) [] c x g x g/\Z5 (l=l) (Zc (5:Nat) [] l w u w u/\Z5 (a=a) (Zc (5:Nat) [] a h t h t/\True))));let s:=Z5 ((32:Int)=e) f;let k:=p.expiry;let j:=Z5 ((33:Int)=e) f;
 Y5 PP (31:Nat) z a h/\Z8 (Nat.blt r a) (Z8 (decide (p.amount<o.amount)) s (Z8 (decide (p.amount<q.amount)) s (Z8 (decide (k>=ht)) (Z8 (!decide (wrap u64 (wrap u64 k-wrap u64 ht)>=wrap u64 o.least)) j (Z8 (decide (k<q.expiry)) j (Z5 ((0:Int)=e) f))) j))) (Z5 ((31:Int)=e) f)) (by kernel_rfl) ?_
 conv=>zeta
 try simp only [vcA]
 try simp only [vcB]
 try simp only [vcC]
 have hF:=(ZcN X.Q p.hash.v).trans hJ.symm
 have hK:=Z8r X.Q p.hash.l
 obtain ⟨t1,t2,t3,t4⟩:=Z1a H X 5 []
 simp only [hF,hK,t1,t2,t3,t4,true_and,and_true]
 rw [he]
 unfold enZ
 cases Nat.blt J X.Q.length with
 | false=>exact ⟨fun h=>absurd h (by decide),fun _=>rfl⟩
 | true=>
  refine ⟨fun _=>⟨fun a=> ?_,fun a=>⟨fun b=> ?_,fun b=>⟨fun c=>⟨fun d=> ?_,fun d=>⟨fun f=> ?_,fun f=> ?_⟩⟩,fun c=> ?_⟩⟩⟩,fun h=>absurd h (by decide)⟩
  all_goals
   rw [if_pos rfl]
   first|rw [if_pos a]|rw [if_neg a]
   try (first|rw [if_pos b]|rw [if_neg b])
   try (first|rw [if_pos c]|rw [if_neg c])
   try (first|rw [if_pos d]|rw [if_neg (by rw [d];decide)])
   try (first|rw [if_pos f]|rw [if_neg f])
def Z8v (H:LI->LI):Y2:=fun args h K=>Z1b H h args fun X t o i s a az=>match az with
 | [.ptr (some ⟨0,0,0,0,0⟩),.agg cs,.agg ds,.int .i64 ht]=>∃(p:Xe) (q:Xf),(cs=p.c/\ds=q.c)/\∀e,K (.ret (.int .i64 e)) ⟨h.next,Uf H X h t o i s a⟩
 | _=>False
theorem Z2R (H:LI->LI) (args:List AV) (h:Z7) (K:KO) (hl:Z8v H args h K):Zi PP 39 args h K:=by
 refine Xq hl fun X t o i s a az hL ha=> ?_
 split at ha
 ·obtain ⟨p,q,⟨rfl,rfl⟩,hK⟩:=ha
  exact ⟨_,_,fun _=>rfl,.evM ZD (Zgp H X p q _ _ _ hL rfl rfl),hK _⟩
 ·exact ha.elim
def WP {α:Type} (d:α) (c:α->List AV) (L:List α) (i:Nat):List AV:=c (L.getD i d)
structure ZcR {α:Type} (c:α->List AV):Prop where
 p:∀x,YH (c x)=true
 a:∀x,∀v∈c x,v.isCell=true\/∃k n xs,v=.arr k n xs
theorem Zg {d:α} {c:α->List AV} (hc:ZcR c) {L:List α} {k:Nat} {τ:Ren} {n:Nat} (h:∀i,i<n->f i=WP d c L i):Z6 k τ n (WP d c L) f:=
 Z3N h (fun i _=>hc.p _) fun i _ v hv=>hc.a _ v hv
theorem Yc {d:α} {c:α->List AV} {L:List α} {x:α} (hf:f 0=c x) {i:Nat} (hi:i<L.length+1):Xc L.length (WP d c L) f i=WP d c (L++[x]) i:=by
 unfold WP
 rcases Jh i L.length with h|h
 ·rw [Z88 h,getD_lt _ _ h]
 ·obtain rfl:i=L.length:=by omega
  rw [Z89 (J2 _),Nat.sub_self,hf,QT]
theorem VA {d:α} {c:α->List AV} {L:List α} {x y:α} {g:Nat->List AV} (hf:f 0=c x) (hg:g 0=c y) {i:Nat} (hi:i<L.length+1+1):Xc (L.length+1) (Xc L.length (WP d c L) f) g i=WP d c (L++[x,y]) i:=by
 have e:L++[x,y]=(L++[x])++[y]:=by simp
 have el:(L++[x]).length=L.length+1:=by simp
 rw [e]
 rcases Jh i (L.length+1) with h|h
 ·rw [Z88 h,Yc hf h]
  unfold WP
  rw [getD_lt d (T:=L++[x]) y (by omega)]
 ·obtain rfl:i=L.length+1:=by omega
  rw [Z89 (J2 _),Nat.sub_self,hg]
  unfold WP
  rw [<-el,QT]
def ZH.c (q:ZH):List AV:=[.arr .u8 32 q.hash.v,.arr .u8 32 q.key.v,.int .i64 q.amount,.int .i64 q.least,.arr .u8 32 q.secret.v]
def Ql (x:H32):List AV:=[.arr .u8 32 x.v]
theorem ZJ:ZcR Zj.c:=⟨fun _=>rfl,fun x v hv=>by
 simp only [Zj.c,J6,JC,or_false] at hv
 rcases hv with rfl|rfl|rfl|rfl<;>first|exact .inl rfl|exact .inr ⟨_,_,_,rfl⟩⟩
theorem ZW:ZcR Ql:=⟨fun _=>rfl,fun x v hv=>by
 simp only [Ql,J6,JC,or_false] at hv
 exact .inr ⟨_,_,_,hv⟩⟩
theorem ZX:ZcR ZH.c:=⟨fun _=>rfl,fun x v hv=>by
 simp only [ZH.c,J6,JC,or_false] at hv
 rcases hv with rfl|rfl|rfl|rfl|rfl<;>first|exact .inl rfl|exact .inr ⟨_,_,_,rfl⟩⟩
def tiR (L:List Zj):Nat->List AV:=WP Zq Zj.c L
def seR (L:List H32):Nat->List AV:=WP h0 Ql L
def quR (L:List ZH):Nat->List AV:=WP ZK ZH.c L
def dcB (D:Ze):List (Nat×Blk):=[(0,.rows 66 D.T.length (tiR D.T)),(1,.rows 32 D.S.length (seR D.S)),(2,.rows 98 D.Q.length (quR D.Q))]
def dcC (D:Ze):List AV:=[.nslice ⟨0,0,66,0,0⟩ 66 D.T.length D.T.length,.nslice ⟨1,0,32,0,0⟩ 32 D.S.length D.S.length,.nslice ⟨2,0,98,0,0⟩ 98 D.Q.length D.Q.length]
structure ZA (D:Ze):Prop where
 t:D.T.length<=48
 s:D.S.length<=64
 q:D.Q.length<=16
theorem WB (D:Ze) (k:Nat) (τ:Ren):Z6 k τ D.T.length (tiR D.T) (tiR D.T)/\Z6 k τ D.S.length (seR D.S) (seR D.S)/\Z6 k τ D.Q.length (quR D.Q) (quR D.Q):=⟨Zg ZJ fun _ _=>rfl,Zg ZW fun _ _=>rfl,Zg ZX fun _ _=>rfl⟩
def dt0 (D:Ze) (x:Zj) (i:Nat):St:=⟨112,[(6,.int .i64 i),(2,pt 3),(3,pt 4),(4,pt 5)],⟨6,(5,.flat [.nilslice,.nilslice,.nilslice])::(4,.flat x.c)::(3,.flat (dcC D))::dcB D⟩,[]⟩
def ZfC (D:Ze) (x:Zj):St:=⟨112,[(2,pt 3),(3,pt 4),(4,pt 5)],⟨6,(5,.flat [.nilslice,.nilslice,.nilslice])::(4,.flat x.c)::(3,.flat (dcC D))::dcB D⟩,[]⟩
def ZfD (D:Ze):St:=⟨112,[(4,pt 3),(5,.int .i64 360)],⟨4,(3,.flat (dcC D))::dcB D⟩,[]⟩
def dtN:St:=⟨112,[],⟨0,[]⟩,[]⟩
theorem Zgq (D:Ze) (x:Zj) (i:Nat) (Z1 Z2 Z3:Prop) (hL:ZA D) (hi:i<=D.T.length) (h1:i<D.T.length->Z2L x (D.T.getD i Zq)=false->Z1) (h2:i=D.T.length->Z2) (h3:i<D.T.length->Z2L x (D.T.getD i Zq)=true->Z3):
  ZL G0 40 20 0 3 (dt0 D x i) (rdM 3 0 9 (dt0 D x (i+1)) (ZfC D x) (ZfD D) dtN Z1 Z2 Z3 False):=by
 refine @Eq.mpr _ (let u:=D.T;let a:=u.length;let C:=0+Int.toNat (↑i:Int);let h:=List.getD u C Zq;let w:=h.inn.v;let g:=x.inn.v;let o:=x.inID;let b:=decide (a=a);let n:=decide (a<=a);let f:=D.S.length;let e:=decide (f=f);let t:=decide (f<=f);let d:=D.Q.length;let c:=decide (d=d);let s:=decide (d<=d);let r:=[(3,5)];let m:=tiR u;let l:=seR D.S;let k:=quR D.Q;let K:=Z0 b (Z0 n (Z0 e (Z0 t (Z0 c (Z0 s (Z0 b (Z6 3 r a m m/\Z0 e (Z6 3 r f l l/\Z0 c (Z6 3 r d k k/\Z3)))))))));let J:=h.out.v;let j:=x.out.v;let q:=x.outID;let I:=g=g;let H:=decide (o=o);let G:=j=j;let F:=decide (q=q);let p:=[(5,5),(4,4),(3,3)];let E:=Z6 3 p a m m;let B:=Z6 3 p f l l;let A:=Z6 3 p d k k;let z:=Z5 (wrap i64 ((↑i:Int)+1)=(↑(i+1):Int)) (I/\Z0 H (G/\Z0 F (Z0 b (Z0 n (Z0 e (Z0 t (Z0 c (Z0 s (Z0 b (E/\Z0 e (B/\Z0 c (A/\Z1))))))))))));let y:=Z5 (J.length=32/\j.length=32) (Z8 (J==j) (Z8 (h.outID==q) K z) z);
 Z8 (decide ((↑i:Int)<(↑a:Int))) (Z5 (0<=(↑i:Int)/\(↑i:Int)<(↑a:Int)) (Z5 (C<a) (Z5 (w.length=32/\g.length=32) (Z8 (w==g) (Z8 (h.inID==o) K y) y)))) (I/\Z0 H (G/\Z0 F (Z0 b (Z0 n (Z0 e (Z0 t (Z0 c (Z0 s (Z0 b (E/\Z0 e (B/\Z0 c (A/\Z2))))))))))))) (by kernel_rfl) ?_
 conv=>zeta
 try simp only [vcA]
 try simp only [vcB]
 try simp only [vcC]
 have hR:=WB D 3
 refine ⟨fun hc=> ?_,fun hc=>⟨(hR _).1,(hR _).2.1,(hR _).2.2,h2 (by omega)⟩⟩
 have hlt:i<D.T.length:=by omega
 have hlim:=hL.t
 have hw:i64.wrap ((i:Int)+1)=((i+1:Nat):Int):=by rw [w64 (by omega)];omega
 have h1:=h1 hlt
 have h3:=h3 hlt
 generalize D.T.getD i Zq=y at*
 unfold Z2L V0 ZR at h1 h3
 refine ⟨by omega,hlt,⟨y.inn.l,x.inn.l⟩,fun k1=>⟨fun k2=>⟨(hR _).1,(hR _).2.1,(hR _).2.2,h3 (by simp [k1,k2])⟩,fun k2=>⟨⟨y.out.l,x.out.l⟩,fun k3=>⟨fun k4=>⟨(hR _).1,(hR _).2.1,(hR _).2.2,h3 (by simp [k1,k2,k3,k4])⟩,fun k4=>⟨hw,(hR _).1,(hR _).2.1,(hR _).2.2,h1 (by simp [k1,k2,k3,k4])⟩⟩,fun k3=>⟨hw,(hR _).1,(hR _).2.1,(hR _).2.2,h1 (by simp [k1,k2,k3])⟩⟩⟩,fun k1=>⟨⟨y.out.l,x.out.l⟩,fun k3=>⟨fun k4=>⟨(hR _).1,(hR _).2.1,(hR _).2.2,h3 (by simp [k1,k3,k4])⟩,fun k4=>⟨hw,(hR _).1,(hR _).2.1,(hR _).2.2,h1 (by simp [k1,k3,k4])⟩⟩,fun k3=>⟨hw,(hR _).1,(hR _).2.1,(hR _).2.2,h1 (by simp [k1,k3])⟩⟩⟩
def dt2 (D:Ze) (x:Zj) (L:List Zj) (b:Bool) (i:Nat):St:=⟨112,[(10,.int .i64 i),(2,pt 3),(3,pt 4),(9,.bool b),(8,.nslice ⟨6,0,66,0,0⟩ 66 L.length L.length),(4,pt 5)],⟨7,(6,.rows 66 L.length (tiR L))::(5,.flat [.nilslice,.nilslice,.nilslice])::(4,.flat x.c)::(3,.flat (dcC D))::dcB D⟩,[]⟩
def ZfE (D:Ze) (x:Zj) (L:List Zj) (b:Bool):St:=⟨112,[(2,pt 3),(3,pt 4),(9,.bool b),(8,.nslice ⟨6,0,66,0,0⟩ 66 L.length L.length),(4,pt 5)],⟨7,(6,.rows 66 L.length (tiR L))::(5,.flat [.nilslice,.nilslice,.nilslice])::(4,.flat x.c)::(3,.flat (dcC D))::dcB D⟩,[]⟩
noncomputable def Z38:Zh:=G0.withP 74 Zeu
theorem Z1t:Z38.Ok:=Zh.withP_ok ZD ZcM
theorem Zgr (D:Ze) (x:Zj) (L L':List Zj) (b b':Bool) (i:Nat) (Z1 Z2:Prop) (hL:ZA D) (hi:i<=D.T.length) (hb:b=ZS ltT x D.T i) (hl:L=ZT ltT x D.T i) (hb':b'=ZS ltT x D.T (i+1)) (hl':L'=ZT ltT x D.T (i+1)) (h1:i<D.T.length->Z1) (h2:i=D.T.length->Z2):
  ZL Z38 40 20 2 3 (dt2 D x L b i) (rdM 3 2 9 (dt2 D x L' b' (i+1)) (ZfE D x L b) dtN dtN Z1 Z2 False False):=by
 refine @Eq.mpr _ (let N:=D.T;let a:=N.length;let U:=0+Int.toNat (↑i:Int);let o:=x.out.v;let q:=List.getD N U Zq;let y:=q.out.v;let O:=ZY o y;let c:=L.length;let p:=decide (c=c);let f:=c+1;let Z:=decide (f*80<=140737488355328);let M:=f+1;let Y:=decide (wrap i64 ((↑i:Int)+1)=(↑(i+1):Int));let n:=L'.length;let X:=decide (M=n);let K:=[(4,4),(3,3)];let w:=(5,5)::(6,11)::K;let u:=tiR L;let J:=x.inn.v;let I:=x.inID;let t:=x.outID;let W:=q.outID;let V:=Vo [AV.arr u8 32 q.inn.v,AV.int i64 q.inID,AV.arr u8 32 y,AV.int i64 W] 0 66;let H:=J=J;let G:=decide (I=I);let F:=o=o;let E:=decide (t=t);let m:=decide (a=a);let C:=decide (a<=a);let e:=D.S.length;let l:=decide (e=e);let B:=decide (e<=e);let d:=D.Q.length;let k:=decide (d=d);let A:=decide (d<=d);let j:=tiR N;let h:=seR D.S;let g:=quR D.Q;let R:=Z0 p (Z0 Z (Z5 (f=f) (Z5 (M*80<=140737488355328) (Z0 Y (Z5 (true=b') (Z0 X (Z5 (n<=M) (Z0 X (Z6 3 w n (tiR L') (Xc f (Xc c u (Vo [AV.arr u8 32 J,AV.int i64 I,AV.arr u8 32 o,AV.int i64 t] 0 66)) V)/\H/\Z0 G (F/\Z0 E (Z0 m (Z0 C (Z0 l (Z0 B (Z0 k (Z0 A (Z0 m (Z6 3 w a j j/\Z0 l (Z6 3 w e h h/\Z0 k (Z6 3 w d g g/\Z1))))))))))))))))))));let P:=decide (f=n);let s:=(5,5)::(6,9)::K;let z:=Z0 p (Z0 Z (Z0 Y (Z5 (b=b') (Z0 P (Z5 (n<=f) (Z0 P (Z6 3 s n (tiR L') (Xc c u V)/\H/\Z0 G (F/\Z0 E (Z0 m (Z0 C (Z0 l (Z0 B (Z0 k (Z0 A (Z0 m (Z6 3 s a j j/\Z0 l (Z6 3 s e h h/\Z0 k (Z6 3 s d g g/\Z1))))))))))))))))));let r:=(5,5)::(6,6)::K;
 Z8 (decide ((↑i:Int)<(↑a:Int))) (Z5 (0<=(↑i:Int)/\(↑i:Int)<(↑a:Int)) (Z5 (U<a) ((o.length=32/\y.length=32)/\Z8 (!b) (Z8 (decide (O<0)) R (Z8 (O==0) (Z8 (decide (t<W)) R z) z)) z))) (Z5 (b=b) (Z0 p (Z5 (c<=c) (Z0 p (Z6 3 r c u u/\H/\Z0 G (F/\Z0 E (Z0 m (Z0 C (Z0 l (Z0 B (Z0 k (Z0 A (Z0 m (Z6 3 r a j j/\Z0 l (Z6 3 r e h h/\Z0 k (Z6 3 r d g g/\Z2))))))))))))))))) (by kernel_rfl) ?_
 conv=>zeta
 try simp only [vcA]
 try simp only [vcB]
 try simp only [vcC]
 have hR:=WB D 3
 have hlim:=hL.t
 have hll:L.length<=D.T.length+1:=by rw [hl];exact YA
 refine ⟨fun hc=> ?_,fun hc=>⟨Zg ZJ fun _ _=>rfl,(hR _).1,(hR _).2.1,(hR _).2.2,h2 (by omega)⟩⟩
 have hlt:i<D.T.length:=by omega
 have hw:i64.wrap ((i:Int)+1)=((i+1:Nat):Int):=by rw [w64 (by omega)];omega
 have h1:=h1 hlt
 have hS:=Ue Zq (lt:=ltT) (x:=x) hlt
 have hB:=Wj Zq (lt:=ltT) (x:=x) hlt
 rw [<-hl',<-hl,<-hb] at hS
 rw [<-hb',<-hb] at hB
 generalize D.T.getD i Zq=y at*
 have hi:=Z4S x y
 have hn:=Z4T x y
 refine ⟨by omega,hlt,⟨x.out.l,y.out.l⟩,fun kb=>⟨fun c1=> ?_,fun c1=>⟨fun c2=>⟨fun c3=> ?_,fun c3=> ?_⟩,fun c2=> ?_⟩⟩,fun kb=> ?_⟩
 rotate_left
 ·have q:ltT x y=true:=hi.2 (.inr ⟨by simpa using c2,c3⟩)
  rw [q] at hS hB
  rw [if_pos (by rw [Bool.and_true];exact kb)] at hS
  have el:L.length+1+1=L'.length:=by rw [hS,J7];rfl
  exact ⟨by omega,by omega,hw,by rw [hB,Bool.or_true],el,Jt el.symm,el,Zg ZJ fun j hj=>by
   have hj':j<L.length+1+1:=by omega
   rw [hS]
   exact VA (L:=L) (x:=x) (y:=y) rfl rfl hj',(hR _).1,(hR _).2.1,(hR _).2.2,h1⟩
 rotate_right
 ·have q:ltT x y=true:=hi.2 (.inl c1)
  rw [q] at hS hB
  rw [if_pos (by rw [Bool.and_true];exact kb)] at hS
  have el:L.length+1+1=L'.length:=by rw [hS,J7];rfl
  exact ⟨by omega,by omega,hw,by rw [hB,Bool.or_true],el,Jt el.symm,el,Zg ZJ fun j hj=>by
   have hj':j<L.length+1+1:=by omega
   rw [hS]
   exact VA (L:=L) (x:=x) (y:=y) rfl rfl hj',(hR _).1,(hR _).2.1,(hR _).2.2,h1⟩
 all_goals
  have q:(!b&&ltT x y)=false/\(b||ltT x y)=b:=by
   cases b with
   | true=>exact ⟨rfl,rfl⟩
   | false=>
    have:ltT x y=false:=hn.2 (by
     first
      | (have c2:ZY x.out.v y.out.v=0:=(by simpa using c2);omega)
      | (have c2:ZY x.out.v y.out.v≠0:=(by simpa using c2);omega)
      | simp at kb)
    rw [this]
    exact ⟨rfl,rfl⟩
  rw [if_neg (by rw [q.1];decide)] at hS
  have el:L.length+1=L'.length:=by rw [hS,J7];rfl
  exact ⟨by omega,hw,by rw [hB,q.2],el,Jt el.symm,el,Zg ZJ fun j hj=>by
   have hj':j<L.length+1:=by omega
   rw [hS]
   exact Yc (L:=L) (x:=y) rfl hj',(hR _).1,(hR _).2.1,(hR _).2.2,h1⟩
theorem XJ (G:Zh) (f:FuncId) (S:YJ):(G.withP f S).P=G.P:=rfl
theorem Z45 (G:Zh) (f:FuncId) (id:Nat) (S:Nat->St->KE->Prop):(G.withL f id S).P=G.P:=rfl
noncomputable def ZeD (D:Ze) (x:Zj):Zh:=(Z38.withL 20 0 (goM 3 (dt0 D x 0) (ZA D) (YC 0 D.T.length 9 (fun i=>Z2L x (D.T.getD i Zq)=false) (fun i=>i=D.T.length) (fun i=>i<D.T.length/\Z2L x (D.T.getD i Zq)=true) (fun _=>False) (fun _=>ZfC D x) (fun _=>ZfD D) (fun _=>dtN)))).withL 20 2 (goM 3 (dt2 D x [] false 0) (ZA D) (YC 2 D.T.length 9 (fun i=>i<D.T.length) (fun i=>i=D.T.length) (fun _=>False) (fun _=>False) (fun i=>ZfE D x (ZT ltT x D.T i) (ZS ltT x D.T i)) (fun _=>dtN) (fun _=>dtN)))
theorem Z8w (D:Ze) (x:Zj):(ZeD D x).Ok:=by
 refine Zh.withL_join (H:=Z38) (Zh.withL_join (H:=G0) Z1t (by unfold Z38;simp only [XJ]) (Zh.withGoM (N:=40) (k:=3) (n:=D.T.length) (l:=9) (S:=fun i=>dt0 D x i) ZD (by kernel_rfl) fun hC=>⟨rfl,fun i hi _=>Zgq D x i _ _ _ hC hi (fun h1 h2=>⟨h2,h1⟩) (fun h=>h) fun h1 h2=>⟨h1,h2⟩⟩)) (by simp only [Z45]) (Zh.withGoM (N:=40) (k:=3) (n:=D.T.length) (l:=9) (S:=fun i=>dt2 D x (ZT ltT x D.T i) (ZS ltT x D.T i) i) Z1t (by kernel_rfl) fun hC=>⟨rfl,fun i hi _=>Zgr D x _ _ _ _ i _ _ hC hi rfl rfl rfl rfl (fun h=>⟨h,h⟩) fun h=>h⟩)
theorem Zgs (D:Ze) (x:Zj) (D':List Zj) (e:Int) (hL:ZA D) (he:e=Xd D.T x) (hD:D'=QU D.T x):
  evF (ZeD D x) 40 20 [.agg (dcC D),.agg x.c] ⟨3,dcB D⟩ (Ye 3 (.ret (.tuple [.agg [.nslice ⟨3,0,66,0,0⟩ 66 D'.length D'.length,.nslice ⟨1,0,32,0,0⟩ 32 D.S.length D.S.length,.nslice ⟨2,0,98,0,0⟩ 98 D.Q.length D.Q.length],.int .i64 e])) 4 [(3,.rows 66 D'.length (tiR D')),(1,.rows 32 D.S.length (seR D.S)),(2,.rows 98 D.Q.length (quR D.Q))]):=by
 refine @Eq.mpr _ (let q:=x.inID;let p:=x.outID;let o:=D.T;let a:=o.length;let d:=D'.length;let r:=decide (a=d);let w:=decide (d<=a);let f:=D.S.length;let b:=decide (f=f);let m:=decide (f<=f);let k:=D.Q.length;let c:=decide (k=k);let l:=decide (k<=k);let G:=[(3,0)];let F:=tiR o;let h:=seR D.S;let g:=quR D.Q;let E:=Z0 r (Z6 3 G d (tiR D') F/\Z0 b (Z6 3 G f h h/\Z0 c (Z6 3 G k g g/\True)));let t:=Z0 r (Z0 w (Z0 b (Z0 m (Z0 c (Z0 l (Z5 (2=e) E))))));let C:=x.inn.v;let W:=C=C;let V:=decide (q=q);let B:=x.out.v;let U:=B=B;let R:=decide (p=p);let s:=decide (a=a);let P:=decide (a<=a);let A:=[(5,5),(4,4),(3,3)];let O:=Z6 3 A a F F;let N:=Z6 3 A f h h;let M:=Z6 3 A k g g;let L:=decide (0=e);let z:=[(3,8)];let y:=[(3,6)];
 Z8 (decide (q>=0)) (Z8 (decide (q<=2147483647)) (Z8 (decide (p>=0)) (Z8 (!decide (p<=2147483647)) t (W/\
 Z0 V (U/\
 Z0 R (Z0 s (Z0 P (Z0 b (Z0 m (Z0 c (Z0 l (Z0 s (O/\
 Z0 b (N/\
 Z0 c (M/\
 ZA D/\
 ∀(i:Nat),
 i<=a->
 (∀(j:Nat),j<i->(fun (i:Nat)=>Z2L x (List.getD o i Zq)=false) j)->
 (i=a->
 Z8 (decide ((↑a:Int)>=48)) (Z0 r (Z0 w (Z0 b (Z0 m (Z0 c (Z0 l (Z5 (3=e) E))))))) (W/\
 Z0 V (U/\
 Z0 R (Z0 s (Z0 P (Z0 b (Z0 m (Z0 c (Z0 l (Z0 s (O/\
 Z0 b (N/\
 Z0 c (M/\
 ZA D/\
 ∀(i:Nat),
 let K:=ZT ltT x o i;let n:=K.length;let u:=n+1;let J:=decide (u=d);let I:=tiR K;let H:=decide (n=d);
 i<=a->(∀(j:Nat),j<i->(fun (i:Nat)=>i<a) j)->(i=a->Z8 (!ZS ltT x o i) (Z5 (n=n) (Z5 (u*80<=140737488355328) (Z0 J (Z5 (d<=u) (Z0 b (Z0 m (Z0 c (Z0 l (Z0 L (Z0 J (Z6 3 z d (tiR D') (Xc n I (Vo [AV.arr u8 32 C,AV.int i64 q,AV.arr u8 32 B,AV.int i64 p] 0 66))/\Z0 b (Z6 3 z f h h/\Z0 c (Z6 3 z k g g/\True))))))))))))) (Z0 H (Z5 (d<=n) (Z0 b (Z0 m (Z0 c (Z0 l (Z0 L (Z0 H (Z6 3 y d (tiR D') I/\Z0 b (Z6 3 y f h h/\Z0 c (Z6 3 y k g g/\True))))))))))))/\(False->False)/\(False->False))))))))))))))/\
 (i<a/\Z2L x (List.getD o i Zq)=true->Z0 r (Z0 w (Z0 b (Z0 m (Z0 c (Z0 l (Z5 (360=e) E)))))))/\(False->False)))))))))))))) t) t) t) (by kernel_rfl) ?_
 conv=>zeta
 try simp only [vcA]
 try simp only [vcB]
 try simp only [vcC]
 have hR:=WB D 3
 have hlim:=hL.t
 have hk:∀(k:Int) (τ:Ren),k≠0->Xd D.T x=k->D.T.length=D'.length/\D'.length<=D.T.length/\k=e/\D.T.length=D'.length/\Z6 3 τ D'.length (tiR D') (tiR D.T)/\Z6 3 τ D.S.length (seR D.S) (seR D.S)/\Z6 3 τ D.Q.length (quR D.Q) (quR D.Q):=fun k τ h0 hk=>by
  have:D'=D.T:=by rw [hD,QU,if_neg (by omega)]
  rw [this,he,hk]
  exact ⟨rfl,J2 _,rfl,rfl,(hR _).1,(hR _).2.1,(hR _).2.2⟩
 have k2:¬(VD x=true)->Xd D.T x=2:=fun h=>by rw [Xd,if_neg h]
 have ok:VD x=true↔(0<=x.inID/\x.inID<=2147483647)/\(0<=x.outID/\x.outID<=2147483647):=by
  unfold VD
  rw [J1,decide_eq_true_eq,decide_eq_true_eq]
 have k3:VD x=true->Xd D.T x=if clash D.T x=true then 360 else if 48<=D.T.length then 3 else 0:=fun h=>by rw [Xd,if_pos h]
 refine ⟨fun a0=>⟨fun a1=>⟨fun b0=>⟨fun b1=>hk 2 _ (by decide) (k2 fun h=> ?_),fun b1=> ?_⟩,fun b0=>hk 2 _ (by decide) (k2 fun h=> ?_)⟩,fun a1=>hk 2 _ (by decide) (k2 fun h=> ?_)⟩,fun a0=>hk 2 _ (by decide) (k2 fun h=> ?_)⟩
 ·have:=ok.1 h;simp only [Jl,decide_eq_false_iff_not] at b1;omega
 rotate_left
 ·have:=ok.1 h;omega
 ·have:=ok.1 h;omega
 ·have:=ok.1 h;omega
 simp only [Bool.not_eq_false',decide_eq_true_eq] at b1
 have k3:=k3 (ok.2 ⟨⟨a0,a1⟩,⟨b0,b1⟩⟩)
 refine ⟨(hR _).1,(hR _).2.1,(hR _).2.2,hL,fun i hi hg=>⟨fun hn=> ?_,fun hit=> ?_,fun h=>h⟩⟩
 ·have hcl:clash D.T x=false:=by
   refine K3.2 fun y hy=> ?_
   obtain ⟨j,hj,rfl⟩:=Jk hy
   have:=hg j (by omega)
   rw [getD_at hj] at this
   show ¬Z2L x D.T[j]=true
   rw [this]
   decide
  rw [hcl,if_neg (by decide)] at k3
  refine ⟨fun l=>hk 3 _ (by decide) (by rw [k3,if_pos (by omega)]),fun l=>⟨(hR _).1,(hR _).2.1,(hR _).2.2,hL,fun i hi _=>⟨fun hn=> ?_,fun h=>h,fun h=>h⟩⟩⟩
  rw [if_neg (by omega)] at k3
  have hD:D'=XV ltT x D.T:=by rw [hD,QU,if_pos k3]
  have hE:=Qk (lt:=ltT) (x:=x) (D:=D.T)
  have hll:=YA (lt:=ltT) (x:=x) (D:=D.T) (i:=i)
  rw [<-hD,<-hn] at hE
  refine ⟨fun hb=> ?_,fun hb=> ?_⟩
  ·rw [if_neg (by intro h;rw [h] at hb;cases hb)] at hE
   have el:(ZT ltT x D.T i).length+1=D'.length:=by rw [hE,J7];rfl
   exact ⟨by omega,el,Jt el.symm,by rw [he,k3],el,Zg ZJ fun j hj=>by
    have hj':j<(ZT ltT x D.T i).length+1:=by omega
    rw [hE]
    exact Yc (x:=x) rfl hj',(hR _).2.1,(hR _).2.2⟩
  ·rw [if_pos (by simpa using hb)] at hE
   rw [hE]
   exact ⟨rfl,J2 _,by rw [he,k3],rfl,Zg ZJ fun _ _=>rfl,(hR _).2.1,(hR _).2.2⟩
 ·have hcl:clash D.T x=true:=JI.2 ⟨D.T.getD i Zq,by rw [getD_at hit.1];exact K6 hit.1,hit.2⟩
  rw [if_pos hcl] at k3
  exact hk 360 _ (by decide) k3
structure XY (D:Ze) (n1:Nat) (f1:Nat->List AV) (n2:Nat) (f2:Nat->List AV) (n3:Nat) (f3:Nat->List AV):Prop where
 t:n1=D.T.length/\f1=tiR D.T
 s:n2=D.S.length/\f2=seR D.S
 q:n3=D.Q.length/\f3=quR D.Q
 lim:ZA D
def Vm (h:Z7) (args:List AV) (K0:Ze->Nat->Nat->Nat->List AV->Prop):Prop:=match args with
 | .agg [.nslice ⟨a,0,66,0,0⟩ 66 _ _,.nslice ⟨b,0,32,0,0⟩ 32 _ _,.nslice ⟨c,0,98,0,0⟩ 98 _ _]::_=>frA [a,b,c] h 60 args fun Bs az=>match Bs with
  | [.rows 66 n1 f1,.rows 32 n2 f2,.rows 98 n3 f3]=>∃D,XY D n1 f1 n2 f2 n3 f3/\K0 D a b c az
  | _=>False
 | _=>False
def ZeE (h:Z7) (D:Ze) (T':List Zj) (a b c:Nat):List (Nat×Blk):=(h.next,.rows 66 T'.length (tiR T'))::(b,.rows 32 D.S.length (seR D.S))::(c,.rows 98 D.Q.length (quR D.Q))::YF (YF (YF h.bs a) b) c
def slT (nx:Nat) (T':List Zj) (D:Ze) (b c:Nat):AV:=.agg [.nslice ⟨nx,0,66,0,0⟩ 66 T'.length T'.length,.nslice ⟨b,0,32,0,0⟩ 32 D.S.length D.S.length,.nslice ⟨c,0,98,0,0⟩ 98 D.Q.length D.Q.length]
theorem Zbf {h:Z7} (hl:Vm h args K0) (hK:∀D a b c az,ZA D->K0 D a b c az->∃T' ex,(∀σ d,mvL σ d ex=some ex)/\Spec PP g az ⟨3,dcB D⟩ (.ret (.tuple (slT 3 T' D 1 2::ex))) 4 [(3,.rows 66 T'.length (tiR T')),(1,.rows 32 D.S.length (seR D.S)),(2,.rows 98 D.Q.length (quR D.Q))]/\K (.ret (.tuple (slT h.next T' D b c::ex))) ⟨h.next+1,ZeE h D T' a b c⟩):Zi PP g args h K:=by
 unfold Vm at hl
 split at hl
 ·refine Spec.fsumm hl fun Bs a hlen hK0=> ?_
  split at hK0
  ·obtain ⟨D,⟨⟨rfl,rfl⟩,⟨rfl,rfl⟩,⟨rfl,rfl⟩,hL⟩,hK0⟩:=hK0
   obtain ⟨T',ex,hex,hs,hK⟩:=hK D _ _ _ _ hL hK0
   exact ⟨_,_,_,_,_,hs,by simp,.ret _ _ (by simp only [mvV,mvL,hex];rfl),.cons _ _ _ _ _ _ rfl (.rows _ _ _ (fun i _=>ZJ.p _)) (.cons _ _ _ _ _ _ rfl (.rows _ _ _ (fun i _=>ZW.p _)) (.cons _ _ _ _ _ _ rfl (.rows _ _ _ (fun i _=>ZX.p _)) .nil)),hK⟩
  ·exact hK0.elim
 ·exact hl.elim
def Zdz:Y2:=fun args h K=>Vm h args fun D a b c az=>match az with
 | [.agg [.nslice ⟨0,0,66,0,0⟩ 66 n1 n2,.nslice ⟨1,0,32,0,0⟩ 32 n3 n4,.nslice ⟨2,0,98,0,0⟩ 98 n5 n6],.agg cs]=>∃x,(n1=D.T.length/\n2=D.T.length/\n3=D.S.length/\n4=D.S.length/\n5=D.Q.length/\n6=D.Q.length)/\Z2P cs x/\K (.ret (.tuple [slT h.next (QU D.T x) D b c,.int .i64 (Xd D.T x)])) ⟨h.next+1,ZeE h D (QU D.T x) a b c⟩
 | _=>False
theorem Zbg (args:List AV) (h:Z7) (K:KO) (hl:Zdz args h K):Zi PP 20 args h K:=by
 refine Zbf hl fun D a b c az hL ha=> ?_
 split at ha
 ·obtain ⟨x,⟨rfl,rfl,rfl,rfl,rfl,rfl⟩,⟨rfl⟩,hK⟩:=ha
  exact ⟨_,_,fun _ _=>rfl,.evM (Z8w D x) (Zgs D x _ _ hL rfl rfl),hK⟩
 ·exact ha.elim
theorem QY (a b:LI):(a==b)=(b==a):=by
 rw [JF,beq_iff_eq,beq_iff_eq]
 exact ⟨Eq.symm,Eq.symm⟩
def dvC (D:Ze):List AV:=[.vrows 66 D.T.length (tiR D.T) D.T.length,.vrows 32 D.S.length (seR D.S) D.S.length,.vrows 98 D.Q.length (quR D.Q) D.Q.length]
def tz:List AV:=[.arr .u8 32 Zd,.int .i64 0,.arr .u8 32 Zd,.int .i64 0]
def Z5W (D:Ze) (o:LI) (id:Int) (i:Nat):St:=⟨40,[(8,.int .i64 i),(3,pt 0),(4,pt 1),(2,.int .i64 id),(6,pt 2)],⟨3,[(2,.flat tz),(1,.flat [.arr .u8 32 o]),(0,.flat (dvC D))]⟩,[]⟩
def Z5X:St:=⟨40,[(6,pt 0)],⟨1,[(0,.flat tz)]⟩,[]⟩
def ZcS (D:Ze) (i:Nat):St:=⟨40,[(6,pt 0),(7,.bool true)],⟨1,[(0,.flat (tiR D.T i))]⟩,[]⟩
theorem Zgt (D:Ze) (o:LI) (id:Int) (i:Nat) (Z1 Z2 Z3:Prop) (hL:ZA D) (ho:o.length=32) (hi:i<=D.T.length) (h1:i<D.T.length->ZR o id (D.T.getD i Zq)=false->Z1) (h2:i=D.T.length->Z2) (h3:i<D.T.length->ZR o id (D.T.getD i Zq)=true->Z3):
  ZL G0 20 32 0 0 (Z5W D o id i) (rdM 0 0 9 (Z5W D o id (i+1)) Z5X (ZcS D i) Z5X Z1 Z2 Z3 False):=by
 refine @Eq.mpr _ (let d:=D.T;let c:=d.length;let f:=decide (0<=(↑i:Int)/\(↑i:Int)<(↑c:Int));let b:=List.getD d (Int.toNat (↑i:Int)) Zq;let e:=b.out.v;let j:=b.outID;let a:=List.getD d i Zq;let h:=decide (c=c);let g:=tiR d;let r:=D.S.length;let q:=decide (r=r);let p:=seR D.S;let n:=D.Q.length;let m:=decide (n=n);let l:=quR D.Q;let k:=Z5 (wrap i64 ((↑i:Int)+1)=(↑(i+1):Int)) (Z5 (id=id) (Zd=Zd/\Zd=Zd/\o=o/\Z0 h (g=g/\Z0 h (Z0 q (p=p/\Z0 q (Z0 m (l=l/\Z0 m Z1)))))));
 Z8 (decide ((↑i:Int)<(↑c:Int))) (Z0 f (Z5 (e.length=32/\o.length=32) (Z8 (e==o) (Z0 f (Z8 (j==id) (Z0 f (b.inn.v=a.inn.v/\Z5 (b.inID=a.inID) (e=a.out.v/\Z5 (j=a.outID) Z3))) k)) k))) (Zd=Zd/\Zd=Zd/\Z2)) (by kernel_rfl) ?_
 conv=>zeta
 try simp only [vcA]
 try simp only [vcB]
 try simp only [vcC]
 refine ⟨fun hc=> ?_,fun hc=>h2 (by omega)⟩
 have hlt:i<D.T.length:=by omega
 have hlim:=hL.t
 have hw:i64.wrap ((i:Int)+1)=((i+1:Nat):Int):=by rw [w64 (by omega)];omega
 unfold ZR at h1 h3
 exact ⟨by omega,⟨(D.T.getD i Zq).out.l,ho⟩,fun k1=>⟨by omega,fun k2=>⟨by omega,h3 hlt (by rw [k1,k2];rfl)⟩,fun k2=>⟨hw,h1 hlt (by rw [k1,k2];rfl)⟩⟩,fun k1=>⟨hw,h1 hlt (by rw [k1];rfl)⟩⟩
theorem Zgu (D:Ze) (o:LI) (id:Int) (i:Nat) (Z1 Z2 Z3:Prop) (hL:ZA D) (ho:o.length=32) (hi:i<=D.T.length) (h1:i<D.T.length->V0 o id (D.T.getD i Zq)=false->Z1) (h2:i=D.T.length->Z2) (h3:i<D.T.length->V0 o id (D.T.getD i Zq)=true->Z3):
  ZL G0 20 34 0 0 (Z5W D o id i) (rdM 0 0 9 (Z5W D o id (i+1)) Z5X (ZcS D i) Z5X Z1 Z2 Z3 False):=by
 refine @Eq.mpr _ (let d:=D.T;let c:=d.length;let f:=decide (0<=(↑i:Int)/\(↑i:Int)<(↑c:Int));let b:=List.getD d (Int.toNat (↑i:Int)) Zq;let e:=b.inn.v;let j:=b.inID;let a:=List.getD d i Zq;let h:=decide (c=c);let g:=tiR d;let r:=D.S.length;let q:=decide (r=r);let p:=seR D.S;let n:=D.Q.length;let m:=decide (n=n);let l:=quR D.Q;let k:=Z5 (wrap i64 ((↑i:Int)+1)=(↑(i+1):Int)) (Z5 (id=id) (Zd=Zd/\Zd=Zd/\o=o/\Z0 h (g=g/\Z0 h (Z0 q (p=p/\Z0 q (Z0 m (l=l/\Z0 m Z1)))))));
 Z8 (decide ((↑i:Int)<(↑c:Int))) (Z0 f (Z5 (e.length=32/\o.length=32) (Z8 (e==o) (Z0 f (Z8 (j==id) (Z0 f (e=a.inn.v/\Z5 (j=a.inID) (b.out.v=a.out.v/\Z5 (b.outID=a.outID) Z3))) k)) k))) (Zd=Zd/\Zd=Zd/\Z2)) (by kernel_rfl) ?_
 conv=>zeta
 try simp only [vcA]
 try simp only [vcB]
 try simp only [vcC]
 refine ⟨fun hc=> ?_,fun hc=>h2 (by omega)⟩
 have hlt:i<D.T.length:=by omega
 have hlim:=hL.t
 have hw:i64.wrap ((i:Int)+1)=((i+1:Nat):Int):=by rw [w64 (by omega)];omega
 unfold V0 at h1 h3
 exact ⟨by omega,⟨(D.T.getD i Zq).inn.l,ho⟩,fun k1=>⟨by omega,fun k2=>⟨by omega,h3 hlt (by rw [k1,k2];rfl)⟩,fun k2=>⟨hw,h1 hlt (by rw [k1,k2];rfl)⟩⟩,fun k1=>⟨hw,h1 hlt (by rw [k1];rfl)⟩⟩
noncomputable def Zbh (H:LI->LI) (B:Nat):Zh:=G0.withP 77 (Z3T H B)
theorem UB:(Zbh ZP 100000).Ok:=Zh.withP_ok ZD (ZaS (B:=100000) fun xs hx=>Z9r xs (by omega))
def ZcT (D:Ze) (o:LI) (i:Nat):St:=⟨28,[(6,.int .i64 i),(2,pt 0),(3,pt 1),(4,pt 2)],⟨3,[(2,.flat [.arr .u8 32 Zd]),(1,.flat [.arr .u8 32 o]),(0,.flat (dvC D))]⟩,[]⟩
def ZcU:St:=⟨28,[(4,pt 0)],⟨1,[(0,.flat [.arr .u8 32 Zd])]⟩,[]⟩
def ZfF (D:Ze) (i:Nat):St:=⟨28,[(4,pt 0),(5,.bool true)],⟨1,[(0,.flat (seR D.S i))]⟩,[]⟩
theorem Zgv (H:LI->LI) (B:Nat) (D:Ze) (o:LI) (i:Nat) (Z1 Z2 Z3:Prop) (hL:ZA D) (hB:B=100000) (hH:∀x,(H x).length=32) (ho:o.length=32) (hi:i<=D.S.length) (h1:i<D.S.length->(o==H (D.S.getD i h0).v)=false->Z1) (h2:i=D.S.length->Z2) (h3:i<D.S.length->(o==H (D.S.getD i h0).v)=true->Z3):
  ZL (Zbh H B) 20 36 0 0 (ZcT D o i) (rdM 0 0 9 (ZcT D o (i+1)) ZcU (ZfF D i) ZcU Z1 Z2 Z3 False):=by
 refine @Eq.mpr _ (let b:=D.S;let a:=b.length;let j:=decide (0<=(↑i:Int)/\(↑i:Int)<(↑a:Int));let c:=(List.getD b (Int.toNat (↑i:Int)) h0).v;let h:=Z3c none c;let g:=h.length;let f:=H h;let e:=D.T.length;let d:=decide (e=e);let q:=tiR D.T;let p:=decide (a=a);let n:=seR b;let m:=D.Q.length;let l:=decide (m=m);let k:=quR D.Q;
 Z8 (decide ((↑i:Int)<(↑a:Int))) (Z0 j (Z5 (c.length=32) (Z5 (32=g) (Z5 (g<=B) (Z5 (f.length=32/\o.length=32) (Z8 (f==o) (Z0 j (c=(List.getD b i h0).v/\Z3)) (Z5 (wrap i64 ((↑i:Int)+1)=(↑(i+1):Int)) (Zd=Zd/\o=o/\Z0 d (q=q/\Z0 d (Z0 p (n=n/\Z0 p (Z0 l (k=k/\Z0 l Z1))))))))))))) (Zd=Zd/\Z2)) (by kernel_rfl) ?_
 conv=>zeta
 try simp only [vcA]
 try simp only [vcB]
 try simp only [vcC]
 refine ⟨fun hc=> ?_,fun hc=>h2 (by omega)⟩
 have hlt:i<D.S.length:=by omega
 have hlim:=hL.s
 have hl:=(D.S.getD i h0).l
 have hw:i64.wrap ((i:Int)+1)=((i+1:Nat):Int):=by rw [w64 (by omega)];omega
 have e:Z3c none (D.S.getD i h0).v=(D.S.getD i h0).v:=rfl
 rw [e]
 exact ⟨by omega,hl,hl.symm,by omega,⟨hH _,ho⟩,fun k1=>⟨by omega,h3 hlt (by rw [QY];exact k1)⟩,fun k1=>⟨hw,h1 hlt (by rw [QY];exact k1)⟩⟩
def qz:List AV:=[.arr .u8 32 Zd,.arr .u8 32 Zd,.int .i64 0,.int .i64 0]
def ZcV (D:Ze) (o:LI) (i:Nat):St:=⟨38,[(7,.int .i64 i),(2,pt 0),(3,pt 1),(4,pt 2),(5,pt 3)],⟨4,[(3,.flat [.arr .u8 32 Zd]),(2,.flat qz),(1,.flat [.arr .u8 32 o]),(0,.flat (dvC D))]⟩,[]⟩
def ZcW:St:=⟨38,[(4,pt 0),(5,pt 1)],⟨2,[(1,.flat [.arr .u8 32 Zd]),(0,.flat qz)]⟩,[]⟩
def ZfG (D:Ze) (i:Nat):St:=⟨38,[(4,pt 0),(5,pt 1),(6,.bool true)],⟨2,[(1,.flat [.arr .u8 32 (D.Q.getD i ZK).secret.v]),(0,.flat (D.Q.getD i ZK).ic)]⟩,[]⟩
theorem Zgw (D:Ze) (o:LI) (i:Nat) (Z1 Z2 Z3:Prop) (hL:ZA D) (ho:o.length=32) (hi:i<=D.Q.length) (h1:i<D.Q.length->(o==(D.Q.getD i ZK).hash.v)=false->Z1) (h2:i=D.Q.length->Z2) (h3:i<D.Q.length->(o==(D.Q.getD i ZK).hash.v)=true->Z3):
  ZL G0 20 38 0 0 (ZcV D o i) (rdM 0 0 9 (ZcV D o (i+1)) ZcW (ZfG D i) ZcW Z1 Z2 Z3 False):=by
 refine @Eq.mpr _ (let e:=D.Q;let d:=e.length;let h:=decide (0<=(↑i:Int)/\(↑i:Int)<(↑d:Int));let a:=List.getD e (Int.toNat (↑i:Int)) ZK;let g:=a.hash.v;let f:=a.secret.v;let c:=decide (d=d);let k:=quR e;let j:=k=k;let b:=List.getD e i ZK;let r:=D.T.length;let q:=decide (r=r);let p:=tiR D.T;let n:=D.S.length;let m:=decide (n=n);let l:=seR D.S;
 Z8 (decide ((↑i:Int)<(↑d:Int))) (Z0 h (Z5 (g.length=32/\o.length=32) (Z8 (g==o) (Z0 h (Z0 h (f=f/\Z0 c (j/\Z0 c (f=b.secret.v/\g=b.hash.v/\a.key.v=b.key.v/\Z5 (a.amount=b.amount) (Z5 (a.least=b.least) Z3)))))) (Z5 (wrap i64 ((↑i:Int)+1)=(↑(i+1):Int)) (Zd=Zd/\Zd=Zd/\Zd=Zd/\o=o/\Z0 q (p=p/\Z0 q (Z0 m (l=l/\Z0 m (Z0 c (j/\Z0 c Z1)))))))))) (Zd=Zd/\Zd=Zd/\Zd=Zd/\Z2)) (by kernel_rfl) ?_
 conv=>zeta
 try simp only [vcA]
 try simp only [vcB]
 try simp only [vcC]
 refine ⟨fun hc=> ?_,fun hc=>h2 (by omega)⟩
 have hlt:i<D.Q.length:=by omega
 have hlim:=hL.q
 have hw:i64.wrap ((i:Int)+1)=((i+1:Nat):Int):=by rw [w64 (by omega)];omega
 exact ⟨by omega,⟨(D.Q.getD i ZK).hash.l,ho⟩,fun k1=>⟨by omega,by omega,h3 hlt (by rw [QY];exact k1)⟩,fun k1=>⟨hw,h1 hlt (by rw [QY];exact k1)⟩⟩
theorem XZ (d:α) (T:List α) {J:Nat} (h:T.length<=J):T.getD J d=d:=by
 rw [J5,Jo h]
 rfl
theorem Vn {p:Nat->Bool} {n i:Nat} (hi:i=n) (hg:∀j,j<i->p j=false):Zm p n=n:=Z0z fun j hj=>hg j (by omega)
theorem Ug {p:Nat->Bool} {n i:Nat} (hi:i<n) (hp:p i=true) (hg:∀j,j<i->p j=false):Zm p n=i:=VP hi hp hg
noncomputable def ZdA (D:Ze) (o:LI) (id:Int):Zh:=G0.withL 32 0 (goM 0 (Z5W D o id 0) (ZA D/\o.length=32) (YC 0 D.T.length 9 (fun i=>ZR o id (D.T.getD i Zq)=false) (fun i=>i=D.T.length) (fun i=>i<D.T.length/\ZR o id (D.T.getD i Zq)=true) (fun _=>False) (fun _=>Z5X) (fun i=>ZcS D i) (fun _=>Z5X)))
theorem Zbi (D:Ze) (o:LI) (id:Int):(ZdA D o id).Ok:=
 Zh.withGoM (N:=20) (k:=0) (n:=D.T.length) (l:=9) (S:=fun i=>Z5W D o id i) ZD (by kernel_rfl) fun hC=>⟨rfl,fun i hi _=>Zgt D o id i _ _ _ hC.1 hC.2 hi (fun h1 h2=>⟨h2,h1⟩) (fun h=>h) fun h1 h2=>⟨h1,h2⟩⟩
theorem Zgx (D:Ze) (o:LI) (id:Int) (J:Nat) (x:Zj) (b:Bool) (hL:ZA D) (ho:o.length=32) (hJ:J=atO D.T o id) (hx:x=D.T.getD J Zq) (hb:b=Nat.blt J D.T.length):
  evF (ZdA D o id) 20 32 [.agg (dvC D),.agg [.arr .u8 32 o],.int .i64 id] ⟨0,[]⟩ (VF (fun v=>v=.tuple [.agg x.c,.bool b])):=by
 refine @Eq.mpr _ (let e:=D.T;let d:=e.length;let n:=decide (d=d);let m:=tiR e;let l:=D.S.length;let k:=decide (l=l);let h:=seR D.S;let g:=D.Q.length;let f:=decide (g=g);let r:=quR D.Q;let q:=AV.arr u8 32 Zd;let p:=AV.tuple [AV.agg (Zj.c x),AV.bool b];
 Z5 (id=id) (Zd=Zd/\
 Zd=Zd/\
 o=o/\
 Z0 n (m=m/\
 Z0 n (Z0 k (h=h/\
 Z0 k (Z0 f (r=r/\
 Z0 f ((ZA D/\o.length=32)/\
 ∀(i:Nat),
 let a:=List.getD e i Zq;
 i<=d->(∀(j:Nat),j<i->(fun (i:Nat)=>ZR o id (List.getD e i Zq)=false) j)->(i=d->AV.tuple [AV.agg [q,AV.int i64 0,q,AV.int i64 0],AV.bool false]=p)/\(i<d/\ZR o id a=true->AV.tuple [AV.agg [AV.arr u8 32 a.inn.v,AV.int i64 a.inID,AV.arr u8 32 a.out.v,AV.int i64 a.outID],AV.bool true]=p)/\(False->False))))))))) (by kernel_rfl) ?_
 conv=>zeta
 try simp only [vcA]
 try simp only [vcB]
 try simp only [vcC]
 refine ⟨⟨hL,ho⟩,fun i hi hg=>⟨fun e=> ?_,fun e=> ?_,fun h=>h⟩⟩
 ·have hJ:J=D.T.length:=hJ.trans (Vn e hg)
  rw [hb,hx,hJ,XZ _ _ (J2 _),YZ,decide_eq_false (by omega)]
  rfl
 ·have hJ:J=i:=hJ.trans (Ug e.1 e.2 hg)
  rw [hb,hx,hJ,Yt e.1]
  rfl
noncomputable def ZdB (D:Ze) (o:LI) (id:Int):Zh:=G0.withL 34 0 (goM 0 (Z5W D o id 0) (ZA D/\o.length=32) (YC 0 D.T.length 9 (fun i=>V0 o id (D.T.getD i Zq)=false) (fun i=>i=D.T.length) (fun i=>i<D.T.length/\V0 o id (D.T.getD i Zq)=true) (fun _=>False) (fun _=>Z5X) (fun i=>ZcS D i) (fun _=>Z5X)))
theorem Zbj (D:Ze) (o:LI) (id:Int):(ZdB D o id).Ok:=
 Zh.withGoM (N:=20) (k:=0) (n:=D.T.length) (l:=9) (S:=fun i=>Z5W D o id i) ZD (by kernel_rfl) fun hC=>⟨rfl,fun i hi _=>Zgu D o id i _ _ _ hC.1 hC.2 hi (fun h1 h2=>⟨h2,h1⟩) (fun h=>h) fun h1 h2=>⟨h1,h2⟩⟩
theorem Zgy (D:Ze) (o:LI) (id:Int) (J:Nat) (x:Zj) (b:Bool) (hL:ZA D) (ho:o.length=32) (hJ:J=Zm (fun i=>V0 o id (D.T.getD i Zq)) D.T.length) (hx:x=D.T.getD J Zq) (hb:b=Nat.blt J D.T.length):
  evF (ZdB D o id) 20 34 [.agg (dvC D),.agg [.arr .u8 32 o],.int .i64 id] ⟨0,[]⟩ (VF (fun v=>v=.tuple [.agg x.c,.bool b])):=by
 refine @Eq.mpr _ (let e:=D.T;let d:=e.length;let n:=decide (d=d);let m:=tiR e;let l:=D.S.length;let k:=decide (l=l);let h:=seR D.S;let g:=D.Q.length;let f:=decide (g=g);let r:=quR D.Q;let q:=AV.arr u8 32 Zd;let p:=AV.tuple [AV.agg (Zj.c x),AV.bool b];
 Z5 (id=id) (Zd=Zd/\
 Zd=Zd/\
 o=o/\
 Z0 n (m=m/\
 Z0 n (Z0 k (h=h/\
 Z0 k (Z0 f (r=r/\
 Z0 f ((ZA D/\o.length=32)/\
 ∀(i:Nat),
 let a:=List.getD e i Zq;
 i<=d->(∀(j:Nat),j<i->(fun (i:Nat)=>V0 o id (List.getD e i Zq)=false) j)->(i=d->AV.tuple [AV.agg [q,AV.int i64 0,q,AV.int i64 0],AV.bool false]=p)/\(i<d/\V0 o id a=true->AV.tuple [AV.agg [AV.arr u8 32 a.inn.v,AV.int i64 a.inID,AV.arr u8 32 a.out.v,AV.int i64 a.outID],AV.bool true]=p)/\(False->False))))))))) (by kernel_rfl) ?_
 conv=>zeta
 try simp only [vcA]
 try simp only [vcB]
 try simp only [vcC]
 refine ⟨⟨hL,ho⟩,fun i hi hg=>⟨fun e=> ?_,fun e=> ?_,fun h=>h⟩⟩
 ·have hJ:J=D.T.length:=hJ.trans (Vn e hg)
  rw [hb,hx,hJ,XZ _ _ (J2 _),YZ,decide_eq_false (by omega)]
  rfl
 ·have hJ:J=i:=hJ.trans (Ug e.1 e.2 hg)
  rw [hb,hx,hJ,Yt e.1]
  rfl
noncomputable def ZdC (H:LI->LI) (B:Nat) (D:Ze) (o:LI):Zh:=(Zbh H B).withL 36 0 (goM 0 (ZcT D o 0) (ZA D/\o.length=32) (YC 0 D.S.length 9 (fun i=>(o==H (D.S.getD i h0).v)=false) (fun i=>i=D.S.length) (fun i=>i<D.S.length/\(o==H (D.S.getD i h0).v)=true) (fun _=>False) (fun _=>ZcU) (fun i=>ZfF D i) (fun _=>ZcU)))
theorem Zbk (D:Ze) (o:LI):(ZdC ZP 100000 D o).Ok:=
 Zh.withGoM (N:=20) (k:=0) (n:=D.S.length) (l:=9) (S:=fun i=>ZcT D o i) UB (by kernel_rfl) fun hC=>⟨rfl,fun i hi _=>Zgv ZP 100000 D o i _ _ _ hC.1 rfl Y6 hC.2 hi (fun h1 h2=>⟨h2,h1⟩) (fun h=>h) fun h1 h2=>⟨h1,h2⟩⟩
theorem Zgz (H:LI->LI) (B:Nat) (D:Ze) (o:LI) (J:Nat) (x:H32) (b:Bool) (hL:ZA D) (ho:o.length=32) (hJ:J=Xt H D.S o) (hx:x=D.S.getD J h0) (hb:b=Nat.blt J D.S.length):
  evF (ZdC H B D o) 20 36 [.agg (dvC D),.agg [.arr .u8 32 o]] ⟨0,[]⟩ (VF (fun v=>v=.tuple [.agg [.arr .u8 32 x.v],.bool b])):=by
 refine @Eq.mpr _ (let p:=D.T.length;let l:=decide (p=p);let h:=tiR D.T;let c:=D.S;let a:=c.length;let g:=decide (a=a);let f:=seR c;let e:=D.Q.length;let d:=decide (e=e);let n:=quR D.Q;let m:=AV.tuple [AV.agg [AV.arr u8 32 x.v],AV.bool b];
 Zd=Zd/\
 o=o/\
 Z0 l (h=h/\
 Z0 l (Z0 g (f=f/\
 Z0 g (Z0 d (n=n/\
 Z0 d ((ZA D/\o.length=32)/\
 ∀(i:Nat),
 let k:=(List.getD c i h0).v;
 i<=a->(∀(j:Nat),j<i->(fun (i:Nat)=>(o==H (List.getD c i h0).v)=false) j)->(i=a->AV.tuple [AV.agg [AV.arr u8 32 Zd],AV.bool false]=m)/\(i<a/\(o==H k)=true->AV.tuple [AV.agg [AV.arr u8 32 k],AV.bool true]=m)/\(False->False)))))))) (by kernel_rfl) ?_
 conv=>zeta
 try simp only [vcA]
 try simp only [vcB]
 try simp only [vcC]
 refine ⟨⟨hL,ho⟩,fun i hi hg=>⟨fun e=> ?_,fun e=> ?_,fun h=>h⟩⟩
 ·have hJ:J=D.S.length:=hJ.trans (Vn e hg)
  rw [hb,hx,hJ,XZ _ _ (J2 _),YZ,decide_eq_false (by omega)]
  rfl
 ·have hJ:J=i:=hJ.trans (Ug e.1 e.2 hg)
  rw [hb,hx,hJ,Yt e.1]
noncomputable def ZdD (D:Ze) (o:LI):Zh:=G0.withL 38 0 (goM 0 (ZcV D o 0) (ZA D/\o.length=32) (YC 0 D.Q.length 9 (fun i=>(o==(D.Q.getD i ZK).hash.v)=false) (fun i=>i=D.Q.length) (fun i=>i<D.Q.length/\(o==(D.Q.getD i ZK).hash.v)=true) (fun _=>False) (fun _=>ZcW) (fun i=>ZfG D i) (fun _=>ZcW)))
theorem Zbl (D:Ze) (o:LI):(ZdD D o).Ok:=
 Zh.withGoM (N:=20) (k:=0) (n:=D.Q.length) (l:=9) (S:=fun i=>ZcV D o i) ZD (by kernel_rfl) fun hC=>⟨rfl,fun i hi _=>Zgw D o i _ _ _ hC.1 hC.2 hi (fun h1 h2=>⟨h2,h1⟩) (fun h=>h) fun h1 h2=>⟨h1,h2⟩⟩
theorem ZgA (D:Ze) (o:LI) (J:Nat) (x:ZH) (b:Bool) (hL:ZA D) (ho:o.length=32) (hJ:J=atQ D.Q o) (hx:x=D.Q.getD J ZK) (hb:b=Nat.blt J D.Q.length):
  evF (ZdD D o) 20 38 [.agg (dvC D),.agg [.arr .u8 32 o]] ⟨0,[]⟩ (VF (fun v=>v=.tuple [.agg x.ic,.agg [.arr .u8 32 x.secret.v],.bool b])):=by
 refine @Eq.mpr _ (let r:=D.T.length;let n:=decide (r=r);let l:=tiR D.T;let k:=D.S.length;let h:=decide (k=k);let g:=seR D.S;let d:=D.Q;let a:=d.length;let f:=decide (a=a);let q:=quR d;let e:=AV.arr u8 32 Zd;let p:=AV.tuple [AV.agg (ZH.ic x),AV.agg [AV.arr u8 32 x.secret.v],AV.bool b];
 Zd=Zd/\
 Zd=Zd/\
 Zd=Zd/\
 o=o/\
 Z0 n (l=l/\
 Z0 n (Z0 h (g=g/\
 Z0 h (Z0 f (q=q/\
 Z0 f ((ZA D/\o.length=32)/\
 ∀(i:Nat),
 let c:=List.getD d i ZK;let m:=c.hash.v;
 i<=a->(∀(j:Nat),j<i->(fun (i:Nat)=>(o==(List.getD d i ZK).hash.v)=false) j)->(i=a->AV.tuple [AV.agg [e,e,AV.int i64 0,AV.int i64 0],AV.agg [e],AV.bool false]=p)/\(i<a/\(o==m)=true->AV.tuple [AV.agg [AV.arr u8 32 m,AV.arr u8 32 c.key.v,AV.int i64 c.amount,AV.int i64 c.least],AV.agg [AV.arr u8 32 c.secret.v],AV.bool true]=p)/\(False->False)))))))) (by kernel_rfl) ?_
 conv=>zeta
 try simp only [vcA]
 try simp only [vcB]
 try simp only [vcC]
 refine ⟨⟨hL,ho⟩,fun i hi hg=>⟨fun e=> ?_,fun e=> ?_,fun h=>h⟩⟩
 ·have hJ:J=D.Q.length:=hJ.trans (Vn e hg)
  rw [hb,hx,hJ,XZ _ _ (J2 _),YZ,decide_eq_false (by omega)]
  rfl
 ·have hJ:J=i:=hJ.trans (Ug e.1 e.2 hg)
  rw [hb,hx,hJ,Yt e.1]
  rfl
def Z5Y (e:Nat) (a:AV) (K:Nat->(Nat->List AV)->Prop):Prop:=match a with
 | .vrows e' n f m=>Z5 (e'=e/\m=n) (K n f)
 | .nilslice=>K 0 (fun _=>[])
 | _=>False
theorem Z2S {e:Nat} {a:AV} {K:Nat->(Nat->List AV)->Prop} (h:Z5Y e a K):∃n f,K n f/\a.isCell=true/\∀E r,Zb E a r->Zb E (.vrows e n f n) r:=by
 unfold Z5Y at h
 split at h
 ·obtain ⟨⟨rfl,rfl⟩,hK⟩:=Zf h
  exact ⟨_,_,hK,rfl,fun _ _ h=>h⟩
 ·refine ⟨_,_,h,rfl,fun E r hr=> ?_⟩
  cases hr
  exact .vrowsNil _ _ _ _ rfl rfl
 ·exact h.elim
structure Yg (D:Ze) (n1:Nat) (f1:Nat->List AV) (n2:Nat) (f2:Nat->List AV) (n3:Nat) (f3:Nat->List AV):Prop where
 t:n1=D.T.length/\∀i,i<n1->f1 i=tiR D.T i
 s:n2=D.S.length/\∀i,i<n2->f2 i=seR D.S i
 q:n3=D.Q.length/\∀i,i<n3->f3 i=quR D.Q i
 lim:ZA D
theorem V1 (h:ZA D):Yg D D.T.length (Zp 0 (tiR D.T)) D.S.length (Zp 0 (seR D.S)) D.Q.length (Zp 0 (quR D.Q)):=⟨⟨rfl,fun i _=>by rw [Wm,Jm]⟩,⟨rfl,fun i _=>by rw [Wm,Jm]⟩,⟨rfl,fun i _=>by rw [Wm,Jm]⟩,h⟩
def Z9v (h:Z7) (args:List AV) (K0:Ze->List AV->Prop):Prop:=YX none h true 60 args fun a=>match a with
 | .agg [l1,l2,l3]::r=>Z5Y 66 l1 fun n1 f1=>Z5Y 32 l2 fun n2 f2=>Z5Y 98 l3 fun n3 f3=>∃D,Yg D n1 f1 n2 f2 n3 f3/\K0 D r
 | _=>False
theorem ZeF {E:Env} {a b c a' b' c':AV} {vs:List Value} (h:Zo E [a,b,c] vs) (ha:a.isCell=true) (hb:b.isCell=true) (hc:c.isCell=true) (ha':a'.isCell=true) (hb':b'.isCell=true) (hc':c'.isCell=true) (h1:∀r,Zb E a r->Zb E a' r) (h2:∀r,Zb E b r->Zb E b' r) (h3:∀r,Zb E c r->Zb E c' r):Zo E [a',b',c'] vs:=by
 cases h with
 | one v d vs cs g0 gc hv t=>cases t with
  | one v d vs cs g0 gc' hv' t=>cases t with
   | one v d vs cs g0 gc2 hv2 t=>exact .one _ _ _ _ ha' gc (h1 _ hv) (.one _ _ _ _ hb' gc' (h2 _ hv') (.one _ _ _ _ hc' gc2 (h3 _ hv2) t))
   | arr k n xs vs cs t=>cases hc
  | arr k n xs vs cs t=>cases hb
 | arr k n xs vs cs t=>cases ha
theorem QZ {h:Z7} {K:AV->Prop} {K0:Ze->List AV->Prop} (hl:Z9v h args K0) (hK:∀D r,ZA D->K0 D r->∃v,Ya PP g (.agg (dvC D)::r) v 0 []/\(∀d,shV d v=some v)/\K v):Zi PP g args h fun o h'=>∃v,o=.ret v/\h'=h/\K v:=by
 refine Ya.psumm (d:=60) (YP _ _ _ _ _ hl fun a ha=> ?_)
 split at ha
 ·obtain ⟨n1,f1,ha,q1,r1⟩:=Z2S ha
  obtain ⟨n2,f2,ha,q2,r2⟩:=Z2S ha
  obtain ⟨n3,f3,ha,q3,r3⟩:=Z2S ha
  obtain ⟨D,⟨⟨rfl,e1⟩,⟨rfl,e2⟩,⟨rfl,e3⟩,hL⟩,hK0⟩:=ha
  obtain ⟨v,hp,hs,hk⟩:=hK D _ hL hK0
  exact ⟨v,hp.conv fun E r hr=>hr.head (fun _ hc=>by
   cases hc with
   | agg _ vs hc=>exact .agg _ vs (ZeF hc q1 q2 q3 rfl rfl rfl (fun r hr=>(r1 E r hr).rowsC e1) (fun r hr=>(r2 E r hr).rowsC e2) (fun r hr=>(r3 E r hr).rowsC e3))) fun _ hc=>hc,hs,hk⟩
 ·exact ha.elim
theorem Ya.evW6 {G:Zh} (hG:G.Ok) {n:Nat} {f:FuncId} {v:AV} (h:evF G n f args ⟨0,[]⟩ (VF fun u=>u=v)):Ya G.P f args v 0 []:=by
 intro E w rs he hr
 refine (Z0a hG h E w rs he hr).mono ?_
 rintro e w' ⟨E₁,o,h',hK0,hev,hor⟩
 cases hor with
 | panic u r hr=>exact hK0.elim
 | ret u r hr=>
  unfold VF at hK0
  simp only at hK0
  split at hK0
  ·rename_i hu
   subst hK0
   refine ⟨E,r,rfl,⟨.refl E,⟨he.fresh,fun x B hx=>by simp [Z7.get,Zz] at hx,fun x B hx=>by simp [Z7.get,Zz] at hx,fun x y B B' b N N' hx=>by simp [Z7.get,Zz] at hx,fun a c hi=>hev.emb.imm a c (hev.le.imm a c hi),fun a c x B N _ hx=>by simp [Z7.get,Zz] at hx⟩,hev.size,hev.os,hev.tape,hev.output,hev.keep,fun b hb=> ?_,fun _ _ h=>h⟩,Zb.vplain (E:=E₁) (E':=E) (fun a c hi=>hev.imm a c hi) _ _ hu hr⟩
   obtain ⟨x,B,N,hx,_⟩:=hb
   simp [Z7.get,Zz] at hx
  ·exact hK0.elim
def Z2T:YJ:=fun args h K=>Z9v h args fun D r=>match r with
 | [.agg [.arr .u8 32 o],.int .i64 id]=>o.length=32/\K (.tuple [.agg (D.T.getD (atO D.T o id) Zq).c,.bool (Nat.blt (atO D.T o id) D.T.length)])
 | _=>False
theorem UC (args:List AV) (h:Z7) (K:AV->Prop) (hl:Z2T args h K):Zi PP 32 args h fun o h'=>∃v,o=.ret v/\h'=h/\K v:=by
 refine QZ hl fun D r hL ha=> ?_
 split at ha
 ·exact ⟨_,Ya.evW6 (Zbi D _ _) (Zgx D _ _ _ _ _ hL ha.1 rfl rfl rfl),fun _=>rfl,ha.2⟩
 ·exact ha.elim
def Z8x:YJ:=fun args h K=>Z9v h args fun D r=>match r with
 | [.agg [.arr .u8 32 o],.int .i64 id]=>o.length=32/\∀x b,K (.tuple [.agg (Zj.c x),.bool b])
 | _=>False
theorem Z2U (args:List AV) (h:Z7) (K:AV->Prop) (hl:Z8x args h K):Zi PP 34 args h fun o h'=>∃v,o=.ret v/\h'=h/\K v:=by
 refine QZ hl fun D r hL ha=> ?_
 split at ha
 ·exact ⟨_,Ya.evW6 (Zbj D _ _) (Zgy D _ _ _ _ _ hL ha.1 rfl rfl rfl),fun _=>rfl,ha.2 _ _⟩
 ·exact ha.elim
def Z5Z (H:LI->LI):YJ:=fun args h K=>Z9v h args fun D r=>match r with
 | [.agg [.arr .u8 32 o]]=>o.length=32/\K (.tuple [.agg [.arr .u8 32 (D.S.getD (Xt H D.S o) h0).v],.bool (Nat.blt (Xt H D.S o) D.S.length)])
 | _=>False
theorem Z00 (args:List AV) (h:Z7) (K:AV->Prop) (hl:Z5Z ZP args h K):Zi PP 36 args h fun o h'=>∃v,o=.ret v/\h'=h/\K v:=by
 refine QZ hl fun D r hL ha=> ?_
 split at ha
 ·exact ⟨_,Ya.evW6 (Zbk D _) (Zgz ZP 100000 D _ _ _ _ hL ha.1 rfl rfl rfl),fun _=>rfl,ha.2⟩
 ·exact ha.elim
def Z46:YJ:=fun args h K=>Z9v h args fun D r=>match r with
 | [.agg [.arr .u8 32 o]]=>o.length=32/\K (.tuple [.agg (D.Q.getD (atQ D.Q o) ZK).ic,.agg [.arr .u8 32 (D.Q.getD (atQ D.Q o) ZK).secret.v],.bool (Nat.blt (atQ D.Q o) D.Q.length)])
 | _=>False
theorem Uh (args:List AV) (h:Z7) (K:AV->Prop) (hl:Z46 args h K):Zi PP 38 args h fun o h'=>∃v,o=.ret v/\h'=h/\K v:=by
 refine QZ hl fun D r hL ha=> ?_
 split at ha
 ·exact ⟨_,Ya.evW6 (Zbl D _) (ZgA D _ _ _ _ hL ha.1 rfl rfl rfl),fun _=>rfl,ha.2⟩
 ·exact ha.elim
def Z39:Blk:=.flat [.nilslice,.nilslice,.nilslice]
def ZcX (D:Ze) (x:Zj) (L:List Zj) (i:Nat):St:=⟨50,[(12,.int .i64 i),(3,pt 3),(9,pt 4),(11,.nslice ⟨7,0,66,0,0⟩ 66 L.length L.length),(6,pt 5),(7,pt 6)],⟨8,(7,.rows 66 L.length (tiR L))::(6,.flat tz)::(5,Z39)::(4,.flat x.c)::(3,.flat (dcC D))::dcB D⟩,[]⟩
def ZfH (D:Ze) (x:Zj) (L:List Zj):St:=⟨50,[(3,pt 3),(9,pt 4),(11,.nslice ⟨7,0,66,0,0⟩ 66 L.length L.length),(6,pt 5),(7,pt 6)],⟨8,(7,.rows 66 L.length (tiR L))::(6,.flat tz)::(5,Z39)::(4,.flat x.c)::(3,.flat (dcC D))::dcB D⟩,[]⟩
theorem ZgB (D:Ze) (x:Zj) (L L':List Zj) (i:Nat) (Z1 Z2:Prop) (hL:ZA D) (hi:i<=D.T.length) (hl:L=Wk (fun y=> !Vl y x) D.T i) (hl':L'=Wk (fun y=> !Vl y x) D.T (i+1)) (h1:i<D.T.length->Z1) (h2:i=D.T.length->Z2):
  ZL G0 40 21 0 3 (ZcX D x L i) (rdM 3 0 9 (ZcX D x L' (i+1)) (ZfH D x L) dtN dtN Z1 Z2 False False):=by
 refine @Eq.mpr _ (let J:=D.T;let a:=J.length;let P:=decide (0<=(↑i:Int)/\(↑i:Int)<(↑a:Int));let u:=0+Int.toNat (↑i:Int);let m:=List.getD J u Zq;let t:=m.inn.v;let l:=x.inn.v;let s:=m.out.v;let k:=x.out.v;let X:=m.inID;let I:=x.inID;let W:=m.outID;let H:=x.outID;let b:=L.length;let G:=decide (b=b);let F:=b+1;let V:=decide (wrap i64 ((↑i:Int)+1)=(↑(i+1):Int));let h:=L'.length;let U:=decide (F=h);let R:=[(4,4),(3,3)];let r:=(6,6)::(5,5)::(7,9)::R;let q:=tiR L;let E:=l=l;let C:=decide (I=I);let B:=k=k;let A:=decide (H=H);let g:=decide (a=a);let z:=decide (a<=a);let f:=D.S.length;let e:=decide (f=f);let y:=decide (f<=f);let d:=D.Q.length;let c:=decide (d=d);let w:=decide (d<=d);let p:=tiR J;let o:=seR D.S;let n:=quR D.Q;let O:=decide (b=h);let j:=(6,6)::(5,5)::(7,7)::R;let N:=Z6 3 j a p p;let M:=Z6 3 j f o o;let K:=Z6 3 j d n n;
 Z8 (decide ((↑i:Int)<(↑a:Int))) (Z0 P (Z5 (u<a) (Z5 (t.length=32/\l.length=32) (Z5 (s.length=32/\k.length=32) (Z8 (!(t==l&&(X==I&&(s==k&&W==H)))) (Z0 P (Z5 (u<a) (Z0 G (Z5 (F*80<=140737488355328) (Z0 V (Z0 U (Z5 (h<=F) (Z0 U (Z6 3 r h (tiR L') (Xc b q (Vo [AV.arr u8 32 t,AV.int i64 X,AV.arr u8 32 s,AV.int i64 W] 0 66))/\Zd=Zd/\Zd=Zd/\E/\Z0 C (B/\Z0 A (Z0 g (Z0 z (Z0 e (Z0 y (Z0 c (Z0 w (Z0 g (Z6 3 r a p p/\Z0 e (Z6 3 r f o o/\Z0 c (Z6 3 r d n n/\Z1)))))))))))))))))))) (Z0 V (Z0 O (Z5 (h<=b) (Z0 O (Z6 3 j h (tiR L') q/\Zd=Zd/\Zd=Zd/\E/\Z0 C (B/\Z0 A (Z0 g (Z0 z (Z0 e (Z0 y (Z0 c (Z0 w (Z0 g (N/\Z0 e (M/\Z0 c (K/\Z1))))))))))))))))))))) (Z0 G (Z5 (b<=b) (Z0 G (Z6 3 j b q q/\Zd=Zd/\Zd=Zd/\E/\Z0 C (B/\Z0 A (Z0 g (Z0 z (Z0 e (Z0 y (Z0 c (Z0 w (Z0 g (N/\Z0 e (M/\Z0 c (K/\Z2)))))))))))))))) (by kernel_rfl) ?_
 conv=>zeta
 try simp only [vcA]
 try simp only [vcB]
 try simp only [vcC]
 have hR:=WB D 3
 have hlim:=hL.t
 have hll:L.length<=D.T.length:=by rw [hl];exact Z2O
 refine ⟨fun hc=> ?_,fun hc=>⟨Zg ZJ fun _ _=>rfl,(hR _).1,(hR _).2.1,(hR _).2.2,h2 (by omega)⟩⟩
 have hlt:i<D.T.length:=by omega
 have hw:i64.wrap ((i:Int)+1)=((i+1:Nat):Int):=by rw [w64 (by omega)];omega
 have h1:=h1 hlt
 have hS:=Z0u Zq (p:=fun y=> !Vl y x) hlt
 rw [<-hl',<-hl] at hS
 generalize D.T.getD i Zq=y at*
 refine ⟨by omega,hlt,⟨y.inn.l,x.inn.l⟩,⟨y.out.l,x.out.l⟩,fun k=>⟨by omega,hlt,by omega,hw, ?_⟩,fun k=>⟨hw, ?_⟩⟩
 ·have k':(!Vl y x)=true:=k
  rw [if_pos k'] at hS
  have el:L.length+1=L'.length:=by rw [hS,J7];rfl
  refine ⟨el,Jt el.symm,el,Zg ZJ fun j hj=> ?_,(hR _).1,(hR _).2.1,(hR _).2.2,h1⟩
  have hj':j<L.length+1:=by omega
  rw [hS]
  exact Yc (L:=L) (x:=y) rfl hj'
 ·have k':(!Vl y x)=false:=k
  rw [k',if_neg (by decide),Jx] at hS
  rw [hS]
  exact ⟨rfl,J2 _,rfl,Zg ZJ fun _ _=>rfl,(hR _).1,(hR _).2.1,(hR _).2.2,h1⟩
def ZcY (D:Ze) (x:H32) (L:List H32) (i:Nat):St:=⟨44,[(9,.int .i64 i),(2,pt 3),(6,pt 4),(8,.nslice ⟨6,0,32,0,0⟩ 32 L.length L.length),(4,pt 5)],⟨7,(6,.rows 32 L.length (seR L))::(5,Z39)::(4,.flat (Ql x))::(3,.flat (dcC D))::dcB D⟩,[]⟩
def ZfI (D:Ze) (x:H32) (L:List H32):St:=⟨44,[(2,pt 3),(6,pt 4),(8,.nslice ⟨6,0,32,0,0⟩ 32 L.length L.length),(4,pt 5)],⟨7,(6,.rows 32 L.length (seR L))::(5,Z39)::(4,.flat (Ql x))::(3,.flat (dcC D))::dcB D⟩,[]⟩
theorem ZgC (D:Ze) (x:H32) (L L':List H32) (i:Nat) (Z1 Z2:Prop) (hL:ZA D) (hi:i<=D.S.length) (hl:L=Wk (fun y=> !(y.v==x.v)) D.S i) (hl':L'=Wk (fun y=> !(y.v==x.v)) D.S (i+1)) (h1:i<D.S.length->Z1) (h2:i=D.S.length->Z2):
  ZL G0 40 28 0 3 (ZcY D x L i) (rdM 3 0 9 (ZcY D x L' (i+1)) (ZfI D x L) dtN dtN Z1 Z2 False False):=by
 refine @Eq.mpr _ (let A:=D.S;let a:=A.length;let F:=decide (0<=(↑i:Int)/\(↑i:Int)<(↑a:Int));let t:=0+Int.toNat (↑i:Int);let s:=(List.getD A t h0).v;let k:=x.v;let b:=L.length;let r:=decide (b=b);let q:=b+1;let J:=decide (wrap i64 ((↑i:Int)+1)=(↑(i+1):Int));let h:=L'.length;let I:=decide (q=h);let H:=[(4,4),(3,3)];let p:=(5,5)::(6,8)::H;let o:=seR L;let z:=k=k;let g:=D.T.length;let f:=decide (g=g);let y:=decide (g<=g);let e:=decide (a=a);let w:=decide (a<=a);let d:=D.Q.length;let c:=decide (d=d);let u:=decide (d<=d);let n:=tiR D.T;let m:=seR A;let l:=quR D.Q;let G:=decide (b=h);let j:=(5,5)::(6,6)::H;let E:=Z6 3 j g n n;let C:=Z6 3 j a m m;let B:=Z6 3 j d l l;
 Z8 (decide ((↑i:Int)<(↑a:Int))) (Z0 F (Z5 (t<a) (Z5 (s.length=32/\k.length=32) (Z8 (!s==k) (Z0 F (Z5 (t<a) (Z0 r (Z5 (q*32<=140737488355328) (Z0 J (Z0 I (Z5 (h<=q) (Z0 I (Z6 3 p h (seR L') (Xc b o (Vo [AV.arr u8 32 s] 0 32))/\z/\Z0 f (Z0 y (Z0 e (Z0 w (Z0 c (Z0 u (Z0 f (Z6 3 p g n n/\Z0 e (Z6 3 p a m m/\Z0 c (Z6 3 p d l l/\Z1)))))))))))))))))) (Z0 J (Z0 G (Z5 (h<=b) (Z0 G (Z6 3 j h (seR L') o/\z/\Z0 f (Z0 y (Z0 e (Z0 w (Z0 c (Z0 u (Z0 f (E/\Z0 e (C/\Z0 c (B/\Z1)))))))))))))))))) (Z0 r (Z5 (b<=b) (Z0 r (Z6 3 j b o o/\z/\Z0 f (Z0 y (Z0 e (Z0 w (Z0 c (Z0 u (Z0 f (E/\Z0 e (C/\Z0 c (B/\Z2)))))))))))))) (by kernel_rfl) ?_
 conv=>zeta
 try simp only [vcA]
 try simp only [vcB]
 try simp only [vcC]
 have hR:=WB D 3
 have hlim:=hL.s
 have hll:L.length<=D.S.length:=by rw [hl];exact Z2O
 refine ⟨fun hc=> ?_,fun hc=>⟨Zg ZW fun _ _=>rfl,(hR _).1,(hR _).2.1,(hR _).2.2,h2 (by omega)⟩⟩
 have hlt:i<D.S.length:=by omega
 have hw:i64.wrap ((i:Int)+1)=((i+1:Nat):Int):=by rw [w64 (by omega)];omega
 have h1:=h1 hlt
 have hS:=Z0u h0 (p:=fun y=> !(y.v==x.v)) hlt
 rw [<-hl',<-hl] at hS
 generalize D.S.getD i h0=y at*
 refine ⟨by omega,hlt,⟨y.l,x.l⟩,fun k=>⟨by omega,hlt,by omega,hw, ?_⟩,fun k=>⟨hw, ?_⟩⟩
 ·have k':(!(y.v==x.v))=true:=k
  rw [if_pos k'] at hS
  have el:L.length+1=L'.length:=by rw [hS,J7];rfl
  refine ⟨el,Jt el.symm,el,Zg ZW fun j hj=> ?_,(hR _).1,(hR _).2.1,(hR _).2.2,h1⟩
  have hj':j<L.length+1:=by omega
  rw [hS]
  exact Yc (L:=L) (x:=y) rfl hj'
 ·have k':(!(y.v==x.v))=false:=k
  rw [k',if_neg (by decide),Jx] at hS
  rw [hS]
  exact ⟨rfl,J2 _,rfl,Zg ZW fun _ _=>rfl,(hR _).1,(hR _).2.1,(hR _).2.2,h1⟩
def ZcZ (D:Ze) (o:LI) (x:H32) (L:List ZH) (i:Nat):St:=⟨51,[(11,.int .i64 i),(2,pt 3),(3,pt 4),(10,.nslice ⟨8,0,98,0,0⟩ 98 L.length L.length),(8,pt 5),(4,pt 6),(5,pt 7)],⟨9,(8,.rows 98 L.length (quR L))::(7,.flat [.arr .u8 32 Zd])::(6,Z39)::(5,.flat (Ql x))::(4,.flat [.arr .u8 32 o])::(3,.flat (dcC D))::dcB D⟩,[]⟩
def ZfJ (D:Ze) (x:H32) (L:List ZH):St:=⟨51,[(2,pt 3),(10,.nslice ⟨5,0,98,0,0⟩ 98 L.length L.length),(8,pt 4),(4,pt 6),(5,pt 7)],⟨8,(5,.rows 98 L.length (quR L))::(7,.flat [.arr .u8 32 Zd])::(6,Z39)::(4,.flat (Ql x))::(3,.flat (dcC D))::dcB D⟩,[]⟩
theorem ZgD (D:Ze) (o:LI) (x:H32) (L L':List ZH) (i:Nat) (Z1 Z2:Prop) (hL:ZA D) (ho:o.length=32) (hi:i<=D.Q.length) (hl:L=Wk (fun y=> !(y.hash.v==o)) D.Q i) (hl':L'=Wk (fun y=> !(y.hash.v==o)) D.Q (i+1)) (h1:i<D.Q.length->Z1) (h2:i=D.Q.length->Z2):
  ZL G0 40 26 0 3 (ZcZ D o x L i) (rdM 3 0 9 (ZcZ D o x L' (i+1)) (ZfJ D x L) dtN dtN Z1 Z2 False False):=by
 refine @Eq.mpr _ (let C:=D.Q;let a:=C.length;let E:=decide (0<=(↑i:Int)/\(↑i:Int)<(↑a:Int));let w:=0+Int.toNat (↑i:Int);let m:=List.getD C w ZK;let u:=m.hash.v;let b:=L.length;let t:=decide (b=b);let s:=b+1;let J:=decide (wrap i64 ((↑i:Int)+1)=(↑(i+1):Int));let l:=L'.length;let I:=decide (s=l);let H:=[(3,3)];let G:=(4,4)::H;let r:=(7,7)::(6,6)::(5,5)::(8,10)::G;let q:=quR L;let B:=x.v=x.v;let d:=D.T.length;let k:=decide (d=d);let A:=decide (d<=d);let c:=D.S.length;let j:=decide (c=c);let z:=decide (c<=c);let h:=decide (a=a);let y:=decide (a<=a);let g:=tiR D.T;let f:=seR D.S;let e:=quR C;let F:=decide (b=l);let p:=(7,7)::(6,6)::(5,5)::(8,8)::G;let n:=(7,7)::(6,6)::(4,5)::(5,8)::H;
 Z8 (decide ((↑i:Int)<(↑a:Int))) (Z0 E (Z5 (w<a) (Z5 (u.length=32/\o.length=32) (Z8 (!u==o) (Z0 E (Z5 (w<a) (Z0 t (Z5 (s*112<=140737488355328) (Z0 J (Z0 I (Z5 (l<=s) (Z0 I (Z6 3 r l (quR L') (Xc b q (Vo [AV.arr u8 32 u,AV.arr u8 32 m.key.v,AV.int i64 m.amount,AV.int i64 m.least,AV.arr u8 32 m.secret.v] 0 98))/\Zd=Zd/\B/\o=o/\Z0 k (Z0 A (Z0 j (Z0 z (Z0 h (Z0 y (Z0 k (Z6 3 r d g g/\Z0 j (Z6 3 r c f f/\Z0 h (Z6 3 r a e e/\Z1)))))))))))))))))) (Z0 J (Z0 F (Z5 (l<=b) (Z0 F (Z6 3 p l (quR L') q/\Zd=Zd/\B/\o=o/\Z0 k (Z0 A (Z0 j (Z0 z (Z0 h (Z0 y (Z0 k (Z6 3 p d g g/\Z0 j (Z6 3 p c f f/\Z0 h (Z6 3 p a e e/\Z1)))))))))))))))))) (Z0 t (Z5 (b<=b) (Z0 t (Z6 3 n b q q/\Zd=Zd/\B/\Z0 k (Z0 A (Z0 j (Z0 z (Z0 h (Z0 y (Z0 k (Z6 3 n d g g/\Z0 j (Z6 3 n c f f/\Z0 h (Z6 3 n a e e/\Z2)))))))))))))) (by kernel_rfl) ?_
 conv=>zeta
 try simp only [vcA]
 try simp only [vcB]
 try simp only [vcC]
 have hR:=WB D 3
 have hlim:=hL.q
 have hll:L.length<=D.Q.length:=by rw [hl];exact Z2O
 refine ⟨fun hc=> ?_,fun hc=>⟨Zg ZX fun _ _=>rfl,(hR _).1,(hR _).2.1,(hR _).2.2,h2 (by omega)⟩⟩
 have hlt:i<D.Q.length:=by omega
 have hw:i64.wrap ((i:Int)+1)=((i+1:Nat):Int):=by rw [w64 (by omega)];omega
 have h1:=h1 hlt
 have hS:=Z0u ZK (p:=fun y=> !(y.hash.v==o)) hlt
 rw [<-hl',<-hl] at hS
 generalize D.Q.getD i ZK=y at*
 refine ⟨by omega,hlt,⟨y.hash.l,ho⟩,fun k=>⟨by omega,hlt,by omega,hw, ?_⟩,fun k=>⟨hw, ?_⟩⟩
 ·have k':(!(y.hash.v==o))=true:=k
  rw [if_pos k'] at hS
  have el:L.length+1=L'.length:=by rw [hS,J7];rfl
  refine ⟨el,Jt el.symm,el,Zg ZX fun j hj=> ?_,(hR _).1,(hR _).2.1,(hR _).2.2,h1⟩
  have hj':j<L.length+1:=by omega
  rw [hS]
  exact Yc (L:=L) (x:=y) rfl hj'
 ·have k':(!(y.hash.v==o))=false:=k
  rw [k',if_neg (by decide),Jx] at hS
  rw [hS]
  exact ⟨rfl,J2 _,rfl,Zg ZX fun _ _=>rfl,(hR _).1,(hR _).2.1,(hR _).2.2,h1⟩
theorem Z47 (G:Zh) (f:FuncId) (S:Y2):(G.withF f S).P=G.P:=rfl
noncomputable def Zbm (D:Ze) (x:Zj):Zh:=(G0.withP 32 Z2T).withL 21 0 (goM 3 (ZcX D x [] 0) (ZA D) (YC 0 D.T.length 9 (fun i=>i<D.T.length) (fun i=>i=D.T.length) (fun _=>False) (fun _=>False) (fun i=>ZfH D x (Wk (fun y=> !Vl y x) D.T i)) (fun _=>dtN) (fun _=>dtN)))
theorem Z60 (D:Ze) (x:Zj):(Zbm D x).Ok:=
 Zh.withL_join (H:=G0) (Zh.withP_ok ZD UC) (by simp only [XJ]) (Zh.withGoM (N:=40) (k:=3) (n:=D.T.length) (l:=9) (S:=fun i=>ZcX D x (Wk (fun y=> !Vl y x) D.T i) i) ZD (by kernel_rfl) fun hC=>⟨rfl,fun i hi _=>ZgB D x _ _ i _ _ hC hi rfl rfl (fun h=>⟨h,h⟩) fun h=>h⟩)
theorem ZgE (D:Ze) (o:LI) (id:Int) (x:Zj) (T':List Zj) (e:Int) (hL:ZA D) (ho:o.length=32) (hx:x=D.T.getD (atO D.T o id) Zq) (he:e=if atO D.T o id<D.T.length then 0 else 5) (hT:T'=unD D.T o id):
  evF (Zbm D x) 40 21 [.agg (dcC D),.agg [.arr .u8 32 o],.int .i64 id] ⟨3,dcB D⟩ (Ye 3 (.ret (.tuple [slT 3 T' D 1 2,.agg x.c,.int .i64 e])) 4 [(3,.rows 66 T'.length (tiR T')),(1,.rows 32 D.S.length (seR D.S)),(2,.rows 98 D.Q.length (quR D.Q))]):=by
 refine @Eq.mpr _ (let B:=D.T;let a:=B.length;let c:=D.S.length;let b:=D.Q.length;let m:=tiR B;let f:=seR D.S;let d:=quR D.Q;let g:=T'.length;let C:=decide (a=g);let k:=decide (c=c);let A:=decide (c<=c);let h:=decide (b=b);let z:=decide (b<=b);let r:=x.inn.v;let q:=x.inID;let p:=x.out.v;let n:=x.outID;let w:=[(3,0)];let M:=decide (a=a);let u:=[(6,6),(5,5),(4,7),(3,3)];let L:=r=r;let K:=decide (q=q);let J:=p=p;let I:=decide (n=n);let t:=[(3,7)];
 Z5 (0+a<=a) ((∀(i:Nat),i<a->true=true)/\
 Z5 (0+c<=c) ((∀(i:Nat),i<c->true=true)/\
 Z5 (0+b<=b) ((∀(i:Nat),i<b->true=true)/\
 Z5 ((66:Nat)=66/\a=a) (Z5 ((32:Nat)=32/\c=c) (Z5 ((98:Nat)=98/\b=b) (∃(D_1:Ze),
 let s:=D_1.T;let H:=atO s o id;let l:=List.getD s H Zq;
 Yg D_1 a (Zp 0 m) c (Zp 0 f) b (Zp 0 d)/\
 o.length=32/\
 Z8 (!Nat.blt H (s.length)) (Z0 C (Z5 (g<=a) (Z0 k (Z0 A (Z0 h (Z0 z (Zd=r/\Z5 (0=q) (Zd=p/\Z5 (0=n) (Z5 (5=e) (Z0 C (Z6 3 w g (tiR T') m/\Z0 k (Z6 3 w c f f/\Z0 h (Z6 3 w b d d/\True))))))))))))) (Zd=Zd/\
 Zd=Zd/\
 l.inn.v=r/\
 Z5 (l.inID=q) (l.out.v=p/\
 Z5 (l.outID=n) (Z0 M (Z5 (a<=a) (Z0 k (Z0 A (Z0 h (Z0 z (Z0 M (Z6 3 u a m m/\
 Z0 k (Z6 3 u c f f/\
 Z0 h (Z6 3 u b d d/\
 ZA D/\
 ∀(i:Nat),
 let G:=Wk (fun (y:Zj)=> !Vl y x) B i;let F:=G.length;let E:=decide (F=g);
 i<=a->(∀(j:Nat),j<i->(fun (i:Nat)=>i<a) j)->(i=a->L/\Z0 K (J/\Z0 I (Z0 E (Z5 (g<=F) (Z0 k (Z0 A (Z0 h (Z0 z (L/\Z0 K (J/\Z0 I (Z5 (0=e) (Z0 E (Z6 3 t g (tiR T') (tiR G)/\Z0 k (Z6 3 t c f f/\Z0 h (Z6 3 t b d d/\True)))))))))))))))/\(False->False)/\(False->False)))))))))))))))))))) (by kernel_rfl) ?_
 conv=>zeta
 try simp only [vcA]
 try simp only [vcB]
 try simp only [vcC]
 have hR:=WB D 3
 have tr:∀{n:Nat} (i:Nat),i<n->True:=fun _ _=>trivial
 refine ⟨tr,tr,tr,D,V1 hL,ho,fun k=> ?_,fun k=> ?_⟩
 all_goals rw [YZ] at k
 ·have hj:¬atO D.T o id<D.T.length:=by simpa using k
  have ex:x=Zq:=by rw [hx,XZ _ _ (by omega)]
  have e2:T'=D.T:=by rw [hT,unD,if_neg hj]
  rw [ex,e2,he,if_neg hj]
  exact ⟨rfl,J2 _,rfl,rfl,rfl,rfl,rfl,rfl,(hR _).1,(hR _).2.1,(hR _).2.2⟩
 ·have hj:atO D.T o id<D.T.length:=by simpa using k
  rw [<-hx]
  refine ⟨rfl,rfl,rfl,rfl,(hR _).1,(hR _).2.1,(hR _).2.2,hL,fun i hi _=>⟨fun hn=> ?_,fun h=>h,fun h=>h⟩⟩
  have e2:T'=Wk (fun y=> !Vl y x) D.T i:=by rw [hT,unD,if_pos hj,<-hx,hn,Z2N]
  rw [<-e2,he,if_pos hj]
  exact ⟨rfl,J2 _,rfl,rfl,Zg ZJ fun _ _=>rfl,(hR _).2.1,(hR _).2.2⟩
def ZdE:Y2:=fun args h K=>Vm h args fun D a b c az=>match az with
 | [.agg [.nslice ⟨0,0,66,0,0⟩ 66 n1 n2,.nslice ⟨1,0,32,0,0⟩ 32 n3 n4,.nslice ⟨2,0,98,0,0⟩ 98 n5 n6],.agg [.arr .u8 32 o],.int .i64 id]=>(n1=D.T.length/\n2=D.T.length/\n3=D.S.length/\n4=D.S.length/\n5=D.Q.length/\n6=D.Q.length)/\o.length=32/\K (.ret (.tuple [slT h.next (unD D.T o id) D b c,.agg (D.T.getD (atO D.T o id) Zq).c,.int .i64 (if atO D.T o id<D.T.length then 0 else 5)])) ⟨h.next+1,ZeE h D (unD D.T o id) a b c⟩
 | _=>False
theorem Zbn (args:List AV) (h:Z7) (K:KO) (hl:ZdE args h K):Zi PP 21 args h K:=by
 refine Zbf hl fun D a b c az hL ha=> ?_
 split at ha
 ·obtain ⟨⟨rfl,rfl,rfl,rfl,rfl,rfl⟩,ho,hK⟩:=ha
  exact ⟨_,_,fun _ _=>rfl,.evM (Z60 D _) (ZgE D _ _ _ _ _ hL ho rfl rfl rfl),hK⟩
 ·exact ha.elim
def slS (nx:Nat) (S':List H32) (D:Ze) (a c:Nat):AV:=.agg [.nslice ⟨a,0,66,0,0⟩ 66 D.T.length D.T.length,.nslice ⟨nx,0,32,0,0⟩ 32 S'.length S'.length,.nslice ⟨c,0,98,0,0⟩ 98 D.Q.length D.Q.length]
noncomputable def Zbo (H:LI->LI) (D:Ze) (x:H32):Zh:=(G0.withP 36 (Z5Z H)).withL 28 0 (goM 3 (ZcY D x [] 0) (ZA D) (YC 0 D.S.length 9 (fun i=>i<D.S.length) (fun i=>i=D.S.length) (fun _=>False) (fun _=>False) (fun i=>ZfI D x (Wk (fun y=> !(y.v==x.v)) D.S i)) (fun _=>dtN) (fun _=>dtN)))
theorem Z61 (D:Ze) (x:H32):(Zbo ZP D x).Ok:=
 Zh.withL_join (H:=G0) (Zh.withP_ok ZD Z00) (by simp only [XJ]) (Zh.withGoM (N:=40) (k:=3) (n:=D.S.length) (l:=9) (S:=fun i=>ZcY D x (Wk (fun y=> !(y.v==x.v)) D.S i) i) ZD (by kernel_rfl) fun hC=>⟨rfl,fun i hi _=>ZgC D x _ _ i _ _ hC hi rfl rfl (fun h=>⟨h,h⟩) fun h=>h⟩)
theorem ZgF (H:LI->LI) (D:Ze) (o:LI) (x:H32) (S':List H32) (e:Int) (hL:ZA D) (ho:o.length=32) (hx:x=D.S.getD (Xt H D.S o) h0) (he:e=Z13 H D.S o) (hS:S'=Z17 H D.S o):
  evF (Zbo H D x) 40 28 [.agg (dcC D),.agg [.arr .u8 32 o]] ⟨3,dcB D⟩ (Ye 3 (.ret (.tuple [slS 3 S' D 0 2,.int .i64 e])) 4 [(0,.rows 66 D.T.length (tiR D.T)),(3,.rows 32 S'.length (seR S')),(2,.rows 98 D.Q.length (quR D.Q))]):=by
 refine @Eq.mpr _ (let c:=D.T.length;let p:=D.S;let a:=p.length;let b:=D.Q.length;let f:=tiR D.T;let l:=seR p;let d:=quR D.Q;let g:=decide (c=c);let m:=decide (c<=c);let k:=S'.length;let C:=decide (a=k);let h:=decide (b=b);let t:=decide (b<=b);let s:=[(3,1)];let B:=decide (a=a);let r:=[(5,5),(4,6),(3,3)];let q:=[(3,6)];
 Z5 (0+c<=c) ((∀(i:Nat),i<c->true=true)/\
 Z5 (0+a<=a) ((∀(i:Nat),i<a->true=true)/\
 Z5 (0+b<=b) ((∀(i:Nat),i<b->true=true)/\
 Z5 ((66:Nat)=66/\c=c) (Z5 ((32:Nat)=32/\a=a) (Z5 ((98:Nat)=98/\b=b) (∃(D_1:Ze),
 let n:=D_1.S;let A:=Xt H n o;
 Yg D_1 c (Zp 0 f) a (Zp 0 l) b (Zp 0 d)/\
 o.length=32/\
 Z8 (!Nat.blt A (n.length)) (Z0 g (Z0 m (Z0 C (Z5 (k<=a) (Z0 h (Z0 t (Z5 (5=e) (Z0 g (Z6 3 s c f f/\Z0 C (Z6 3 s k (seR S') l/\Z0 h (Z6 3 s b d d/\True))))))))))) ((List.getD n A h0).v=x.v/\
 Z0 g (Z0 m (Z0 B (Z5 (a<=a) (Z0 h (Z0 t (Z0 g (Z6 3 r c f f/\
 Z0 B (Z6 3 r a l l/\
 Z0 h (Z6 3 r b d d/\
 ZA D/\
 ∀(i:Nat),
 let z:=Wk (fun (y:H32)=> !y.v==x.v) p i;let w:=z.length;let u:=decide (w=k);
 i<=a->(∀(j:Nat),j<i->(fun (i:Nat)=>i<a) j)->(i=a->Z0 g (Z0 m (Z0 u (Z5 (k<=w) (Z0 h (Z0 t (Z5 (0=e) (Z0 g (Z6 3 q c f f/\Z0 u (Z6 3 q k (seR S') (seR z)/\Z0 h (Z6 3 q b d d/\True)))))))))))/\(False->False)/\(False->False)))))))))))))))))) (by kernel_rfl) ?_
 conv=>zeta
 try simp only [vcA]
 try simp only [vcB]
 try simp only [vcC]
 have hR:=WB D 3
 have tr:∀{n:Nat} (i:Nat),i<n->True:=fun _ _=>trivial
 refine ⟨tr,tr,tr,D,V1 hL,ho,fun k=> ?_,fun k=> ?_⟩
 all_goals rw [YZ] at k
 ·have hj:¬Xt H D.S o<D.S.length:=by simpa using k
  have e2:S'=D.S:=by rw [hS,Z17,if_neg hj]
  rw [e2,he,Z13,if_neg hj]
  exact ⟨rfl,J2 _,rfl,(hR _).1,rfl,(hR _).2.1,(hR _).2.2⟩
 ·have hj:Xt H D.S o<D.S.length:=by simpa using k
  rw [<-hx]
  refine ⟨rfl,(hR _).1,(hR _).2.1,(hR _).2.2,hL,fun i hi _=>⟨fun hn=> ?_,fun h=>h,fun h=>h⟩⟩
  have e2:S'=Wk (fun y=> !(y.v==x.v)) D.S i:=by rw [hS,Z17,if_pos hj,<-hx,hn,Z2N]
  rw [<-e2,he,Z13,if_pos hj]
  exact ⟨rfl,J2 _,rfl,(hR _).1,rfl,Zg ZW fun _ _=>rfl,(hR _).2.2⟩
def ZeG (h:Z7) (D:Ze) (S':List H32) (a b c:Nat):List (Nat×Blk):=(a,.rows 66 D.T.length (tiR D.T))::(h.next,.rows 32 S'.length (seR S'))::(c,.rows 98 D.Q.length (quR D.Q))::YF (YF (YF h.bs a) b) c
theorem Zbp {h:Z7} (hl:Vm h args K0) (hK:∀D a b c az,ZA D->K0 D a b c az->∃S' ex,(∀σ d,mvL σ d ex=some ex)/\Spec PP g az ⟨3,dcB D⟩ (.ret (.tuple (slS 3 S' D 0 2::ex))) 4 [(0,.rows 66 D.T.length (tiR D.T)),(3,.rows 32 S'.length (seR S')),(2,.rows 98 D.Q.length (quR D.Q))]/\K (.ret (.tuple (slS h.next S' D a c::ex))) ⟨h.next+1,ZeG h D S' a b c⟩):Zi PP g args h K:=by
 unfold Vm at hl
 split at hl
 ·refine Spec.fsumm hl fun Bs a hlen hK0=> ?_
  split at hK0
  ·obtain ⟨D,⟨⟨rfl,rfl⟩,⟨rfl,rfl⟩,⟨rfl,rfl⟩,hL⟩,hK0⟩:=hK0
   obtain ⟨S',ex,hex,hs,hK⟩:=hK D _ _ _ _ hL hK0
   exact ⟨_,_,_,_,_,hs,by simp,.ret _ _ (by simp only [mvV,mvL,hex];rfl),.cons _ _ _ _ _ _ rfl (.rows _ _ _ (fun i _=>ZJ.p _)) (.cons _ _ _ _ _ _ rfl (.rows _ _ _ (fun i _=>ZW.p _)) (.cons _ _ _ _ _ _ rfl (.rows _ _ _ (fun i _=>ZX.p _)) .nil)),hK⟩
  ·exact hK0.elim
 ·exact hl.elim
def ZdF (H:LI->LI):Y2:=fun args h K=>Vm h args fun D a b c az=>match az with
 | [.agg [.nslice ⟨0,0,66,0,0⟩ 66 n1 n2,.nslice ⟨1,0,32,0,0⟩ 32 n3 n4,.nslice ⟨2,0,98,0,0⟩ 98 n5 n6],.agg [.arr .u8 32 o]]=>(n1=D.T.length/\n2=D.T.length/\n3=D.S.length/\n4=D.S.length/\n5=D.Q.length/\n6=D.Q.length)/\o.length=32/\K (.ret (.tuple [slS h.next (Z17 H D.S o) D a c,.int .i64 (Z13 H D.S o)])) ⟨h.next+1,ZeG h D (Z17 H D.S o) a b c⟩
 | _=>False
theorem Zbq (args:List AV) (h:Z7) (K:KO) (hl:ZdF ZP args h K):Zi PP 28 args h K:=by
 refine Zbp hl fun D a b c az hL ha=> ?_
 split at ha
 ·obtain ⟨⟨rfl,rfl,rfl,rfl,rfl,rfl⟩,ho,hK⟩:=ha
  exact ⟨_,_,fun _ _=>rfl,.evM (Z61 D _) (ZgF ZP D _ _ _ _ hL ho rfl rfl rfl),hK⟩
 ·exact ha.elim
def slQ (nx:Nat) (Q':List ZH) (D:Ze) (a b:Nat):AV:=.agg [.nslice ⟨a,0,66,0,0⟩ 66 D.T.length D.T.length,.nslice ⟨b,0,32,0,0⟩ 32 D.S.length D.S.length,.nslice ⟨nx,0,98,0,0⟩ 98 Q'.length Q'.length]
noncomputable def Zbr (D:Ze) (o:LI) (x:H32):Zh:=(G0.withP 38 Z46).withL 26 0 (goM 3 (ZcZ D o x [] 0) (ZA D/\o.length=32) (YC 0 D.Q.length 9 (fun i=>i<D.Q.length) (fun i=>i=D.Q.length) (fun _=>False) (fun _=>False) (fun i=>ZfJ D x (Wk (fun y=> !(y.hash.v==o)) D.Q i)) (fun _=>dtN) (fun _=>dtN)))
theorem Z62 (D:Ze) (o:LI) (x:H32):(Zbr D o x).Ok:=
 Zh.withL_join (H:=G0) (Zh.withP_ok ZD Uh) (by simp only [XJ]) (Zh.withGoM (N:=40) (k:=3) (n:=D.Q.length) (l:=9) (S:=fun i=>ZcZ D o x (Wk (fun y=> !(y.hash.v==o)) D.Q i) i) ZD (by kernel_rfl) fun hC=>⟨rfl,fun i hi _=>ZgD D o x _ _ i _ _ hC.1 hC.2 hi rfl rfl (fun h=>⟨h,h⟩) fun h=>h⟩)
theorem ZgG (D:Ze) (o:LI) (x:H32) (Q':List ZH) (e:Int) (hL:ZA D) (ho:o.length=32) (hx:x=(D.Q.getD (atQ D.Q o) ZK).secret) (he:e=Z15 D.Q o) (hQ:Q'=Z19 D.Q o):
  evF (Zbr D o x) 40 26 [.agg (dcC D),.agg [.arr .u8 32 o]] ⟨3,dcB D⟩ (Ye 3 (.ret (.tuple [slQ 3 Q' D 0 1,.agg [.arr .u8 32 x.v],.int .i64 e])) 4 [(0,.rows 66 D.T.length (tiR D.T)),(1,.rows 32 D.S.length (seR D.S)),(3,.rows 98 Q'.length (quR Q'))]):=by
 refine @Eq.mpr _ (let c:=D.T.length;let b:=D.S.length;let q:=D.Q;let a:=q.length;let f:=tiR D.T;let d:=seR D.S;let l:=quR q;let g:=decide (c=c);let n:=decide (c<=c);let k:=decide (b=b);let u:=decide (b<=b);let h:=Q'.length;let F:=decide (a=h);let m:=x.v;let t:=[(3,2)];let E:=decide (a=a);let s:=[(7,6),(6,5),(5,8),(4,4),(3,3)];let C:=m=m;let r:=[(3,5)];
 Z5 (0+c<=c) ((∀(i:Nat),i<c->true=true)/\
 Z5 (0+b<=b) ((∀(i:Nat),i<b->true=true)/\
 Z5 (0+a<=a) ((∀(i:Nat),i<a->true=true)/\
 Z5 ((66:Nat)=66/\c=c) (Z5 ((32:Nat)=32/\b=b) (Z5 ((98:Nat)=98/\a=a) (∃(D_1:Ze),
 let p:=D_1.Q;let B:=atQ p o;
 Yg D_1 c (Zp 0 f) b (Zp 0 d) a (Zp 0 l)/\
 o.length=32/\
 Z8 (!Nat.blt B (p.length)) (Z0 g (Z0 n (Z0 k (Z0 u (Z0 F (Z5 (h<=a) (Zd=m/\Z5 (5=e) (Z0 g (Z6 3 t c f f/\Z0 k (Z6 3 t b d d/\Z0 F (Z6 3 t h (quR Q') l/\True))))))))))) (Zd=Zd/\
 (List.getD p B ZK).secret.v=m/\
 o=o/\
 Z0 g (Z0 n (Z0 k (Z0 u (Z0 E (Z5 (a<=a) (Z0 g (Z6 3 s c f f/\
 Z0 k (Z6 3 s b d d/\
 Z0 E (Z6 3 s a l l/\
 (ZA D/\o.length=32)/\
 ∀(i:Nat),
 let A:=Wk (fun (y:ZH)=> !y.hash.v==o) q i;let z:=A.length;let w:=decide (z=h);
 i<=a->(∀(j:Nat),j<i->(fun (i:Nat)=>i<a) j)->(i=a->C/\Z0 g (Z0 n (Z0 k (Z0 u (Z0 w (Z5 (h<=z) (C/\Z5 (0=e) (Z0 g (Z6 3 r c f f/\Z0 k (Z6 3 r b d d/\Z0 w (Z6 3 r h (quR Q') (quR A)/\True)))))))))))/\(False->False)/\(False->False)))))))))))))))))) (by kernel_rfl) ?_
 conv=>zeta
 try simp only [vcA]
 try simp only [vcB]
 try simp only [vcC]
 have hR:=WB D 3
 have tr:∀{n:Nat} (i:Nat),i<n->True:=fun _ _=>trivial
 refine ⟨tr,tr,tr,D,V1 hL,ho,fun k=> ?_,fun k=> ?_⟩
 all_goals rw [YZ] at k
 ·have hj:¬atQ D.Q o<D.Q.length:=by simpa using k
  have ex:x=h0:=by rw [hx,XZ _ _ (by omega)];rfl
  have e2:Q'=D.Q:=by rw [hQ,Z19,if_neg hj]
  rw [ex,e2,he,Z15,if_neg hj]
  exact ⟨rfl,J2 _,rfl,rfl,(hR _).1,(hR _).2.1,rfl,(hR _).2.2⟩
 ·have hj:atQ D.Q o<D.Q.length:=by simpa using k
  rw [<-hx]
  refine ⟨rfl,(hR _).1,(hR _).2.1,(hR _).2.2,⟨hL,ho⟩,fun i hi _=>⟨fun hn=> ?_,fun h=>h,fun h=>h⟩⟩
  have e2:Q'=Wk (fun y=> !(y.hash.v==o)) D.Q i:=by rw [hQ,Z19,if_pos hj,hn,Z2N]
  rw [<-e2,he,Z15,if_pos hj]
  exact ⟨rfl,J2 _,rfl,(hR _).1,(hR _).2.1,rfl,Zg ZX fun _ _=>rfl⟩
def ZeH (h:Z7) (D:Ze) (Q':List ZH) (a b c:Nat):List (Nat×Blk):=(a,.rows 66 D.T.length (tiR D.T))::(b,.rows 32 D.S.length (seR D.S))::(h.next,.rows 98 Q'.length (quR Q'))::YF (YF (YF h.bs a) b) c
theorem Zbs {h:Z7} (hl:Vm h args K0) (hK:∀D a b c az,ZA D->K0 D a b c az->∃Q' ex,(∀σ d,mvL σ d ex=some ex)/\Spec PP g az ⟨3,dcB D⟩ (.ret (.tuple (slQ 3 Q' D 0 1::ex))) 4 [(0,.rows 66 D.T.length (tiR D.T)),(1,.rows 32 D.S.length (seR D.S)),(3,.rows 98 Q'.length (quR Q'))]/\K (.ret (.tuple (slQ h.next Q' D a b::ex))) ⟨h.next+1,ZeH h D Q' a b c⟩):Zi PP g args h K:=by
 unfold Vm at hl
 split at hl
 ·refine Spec.fsumm hl fun Bs a hlen hK0=> ?_
  split at hK0
  ·obtain ⟨D,⟨⟨rfl,rfl⟩,⟨rfl,rfl⟩,⟨rfl,rfl⟩,hL⟩,hK0⟩:=hK0
   obtain ⟨Q',ex,hex,hs,hK⟩:=hK D _ _ _ _ hL hK0
   exact ⟨_,_,_,_,_,hs,by simp,.ret _ _ (by simp only [mvV,mvL,hex];rfl),.cons _ _ _ _ _ _ rfl (.rows _ _ _ (fun i _=>ZJ.p _)) (.cons _ _ _ _ _ _ rfl (.rows _ _ _ (fun i _=>ZW.p _)) (.cons _ _ _ _ _ _ rfl (.rows _ _ _ (fun i _=>ZX.p _)) .nil)),hK⟩
  ·exact hK0.elim
 ·exact hl.elim
def ZdG:Y2:=fun args h K=>Vm h args fun D a b c az=>match az with
 | [.agg [.nslice ⟨0,0,66,0,0⟩ 66 n1 n2,.nslice ⟨1,0,32,0,0⟩ 32 n3 n4,.nslice ⟨2,0,98,0,0⟩ 98 n5 n6],.agg [.arr .u8 32 o]]=>(n1=D.T.length/\n2=D.T.length/\n3=D.S.length/\n4=D.S.length/\n5=D.Q.length/\n6=D.Q.length)/\o.length=32/\K (.ret (.tuple [slQ h.next (Z19 D.Q o) D a b,.agg [.arr .u8 32 (D.Q.getD (atQ D.Q o) ZK).secret.v],.int .i64 (Z15 D.Q o)])) ⟨h.next+1,ZeH h D (Z19 D.Q o) a b c⟩
 | _=>False
theorem Zbt (args:List AV) (h:Z7) (K:KO) (hl:ZdG args h K):Zi PP 26 args h K:=by
 refine Zbs hl fun D a b c az hL ha=> ?_
 split at ha
 ·obtain ⟨⟨rfl,rfl,rfl,rfl,rfl,rfl⟩,ho,hK⟩:=ha
  exact ⟨_,_,fun _ _=>rfl,.evM (Z62 D _ _) (ZgG D _ _ _ _ hL ho rfl rfl rfl),hK⟩
 ·exact ha.elim
def Zd0 (D:Ze) (x:H32) (L:List H32) (b:Bool) (i:Nat):St:=⟨59,[(8,.int .i64 i),(2,pt 3),(3,pt 4),(7,.bool b),(6,.nslice ⟨6,0,32,0,0⟩ 32 L.length L.length),(4,pt 5)],⟨7,(6,.rows 32 L.length (seR L))::(5,Z39)::(4,.flat (Ql x))::(3,.flat (dcC D))::dcB D⟩,[]⟩
def ZfK (D:Ze) (x:H32) (L:List H32) (b:Bool):St:=⟨59,[(2,pt 3),(3,pt 4),(7,.bool b),(6,.nslice ⟨6,0,32,0,0⟩ 32 L.length L.length),(4,pt 5)],⟨7,(6,.rows 32 L.length (seR L))::(5,Z39)::(4,.flat (Ql x))::(3,.flat (dcC D))::dcB D⟩,[]⟩
def ZfL (D:Ze):St:=⟨59,[(4,pt 3),(5,.int .i64 0)],⟨4,(3,.flat (dcC D))::dcB D⟩,[]⟩
theorem ZgH (D:Ze) (x:H32) (L L':List H32) (b b':Bool) (i:Nat) (Z1 Z2 Z3:Prop) (hL:ZA D) (hi:i<=D.S.length) (hb:b=ZS ltS x D.S i) (hl:L=ZT ltS x D.S i) (hb':b'=ZS ltS x D.S (i+1)) (hl':L'=ZT ltS x D.S (i+1)) (h1:i<D.S.length->ZY x.v (D.S.getD i h0).v≠0->Z1) (h2:i=D.S.length->Z2) (h3:i<D.S.length->ZY x.v (D.S.getD i h0).v=0->Z3):
  ZL Z38 40 22 0 3 (Zd0 D x L b i) (rdM 3 0 9 (Zd0 D x L' b' (i+1)) (ZfK D x L b) (ZfL D) dtN Z1 Z2 Z3 False):=by
 refine @Eq.mpr _ (let H:=D.S;let a:=H.length;let t:=decide (0<=(↑i:Int)/\(↑i:Int)<(↑a:Int));let p:=0+Int.toNat (↑i:Int);let o:=x.v;let B:=(List.getD H p h0).v;let I:=ZY o B;let d:=D.T.length;let c:=decide (d=d);let A:=decide (d<=d);let l:=decide (a=a);let z:=decide (a<=a);let k:=D.Q.length;let j:=decide (k=k);let y:=decide (k<=k);let G:=[(3,5)];let h:=tiR D.T;let g:=seR H;let f:=quR D.Q;let e:=L.length;let w:=decide (e=e);let m:=e+1;let P:=decide (m*32<=140737488355328);let F:=m+1;let O:=decide (wrap i64 ((↑i:Int)+1)=(↑(i+1):Int));let n:=L'.length;let N:=decide (F=n);let E:=[(4,4),(3,3)];let u:=(5,5)::(6,10)::E;let s:=seR L;let M:=Vo [AV.arr u8 32 B] 0 32;let C:=o=o;let K:=decide (m=n);let r:=(5,5)::(6,8)::E;let J:=Z0 w (Z0 P (Z0 O (Z5 (b=b') (Z0 K (Z5 (n<=m) (Z0 K (Z6 3 r n (seR L') (Xc e s M)/\C/\Z0 c (Z0 A (Z0 l (Z0 z (Z0 j (Z0 y (Z0 c (Z6 3 r d h h/\Z0 l (Z6 3 r a g g/\Z0 j (Z6 3 r k f f/\Z1))))))))))))))));let q:=(5,5)::(6,6)::E;
 Z8 (decide ((↑i:Int)<(↑a:Int))) (Z0 t (Z5 (p<a) ((o.length=32/\B.length=32)/\
 Z8 (I==0) (Z0 c (Z0 A (Z0 l (Z0 z (Z0 j (Z0 y (Z0 c (Z6 3 G d h h/\Z0 l (Z6 3 G a g g/\Z0 j (Z6 3 G k f f/\Z3)))))))))) (Z8 (!b) (Z8 (decide (I<0)) (Z0 w (Z0 P (Z0 t (Z5 (p<a) (Z5 (m=m) (Z5 (F*32<=140737488355328) (Z0 O (Z5 (true=b') (Z0 N (Z5 (n<=F) (Z0 N (Z6 3 u n (seR L') (Xc m (Xc e s (Vo [AV.arr u8 32 o] 0 32)) M)/\C/\Z0 c (Z0 A (Z0 l (Z0 z (Z0 j (Z0 y (Z0 c (Z6 3 u d h h/\Z0 l (Z6 3 u a g g/\Z0 j (Z6 3 u k f f/\Z1))))))))))))))))))))) (Z0 t (Z5 (p<a) J))) (Z0 t (Z5 (p<a) J)))))) (Z5 (b=b) (Z0 w (Z5 (e<=e) (Z0 w (Z6 3 q e s s/\C/\Z0 c (Z0 A (Z0 l (Z0 z (Z0 j (Z0 y (Z0 c (Z6 3 q d h h/\Z0 l (Z6 3 q a g g/\Z0 j (Z6 3 q k f f/\Z2))))))))))))))) (by kernel_rfl) ?_
 conv=>zeta
 try simp only [vcA]
 try simp only [vcB]
 try simp only [vcC]
 have hR:=WB D 3
 have hlim:=hL.s
 have hll:L.length<=D.S.length+1:=by rw [hl];exact YA
 refine ⟨fun hc=> ?_,fun hc=>⟨Zg ZW fun _ _=>rfl,(hR _).1,(hR _).2.1,(hR _).2.2,h2 (by omega)⟩⟩
 have hlt:i<D.S.length:=by omega
 have hw:i64.wrap ((i:Int)+1)=((i+1:Nat):Int):=by rw [w64 (by omega)];omega
 have h1:=h1 hlt
 have hS:=Ue h0 (lt:=ltS) (x:=x) hlt
 have hB:=Wj h0 (lt:=ltS) (x:=x) hlt
 rw [<-hl',<-hl,<-hb] at hS
 rw [<-hb',<-hb] at hB
 have h3:=h3 hlt
 generalize D.S.getD i h0=y at*
 refine ⟨by omega,hlt,⟨x.l,y.l⟩,fun k=>⟨(hR _).1,(hR _).2.1,(hR _).2.2,h3 (by simpa using k)⟩,fun k=> ?_⟩
 have h1:=h1 (by simpa using k)
 refine ⟨fun kb=>⟨fun c=> ?_,fun c=> ?_⟩,fun kb=> ?_⟩
 ·have q:ltS x y=true:=decide_eq_true c
  rw [q] at hS hB
  rw [if_pos (by rw [Bool.and_true];exact kb)] at hS
  have el:L.length+1+1=L'.length:=by rw [hS,J7];rfl
  exact ⟨by omega,by omega,hlt,by omega,hw,by rw [hB,Bool.or_true],el,Jt el.symm,el,Zg ZW fun j hj=>by
   have hj':j<L.length+1+1:=by omega
   rw [hS]
   exact VA (L:=L) (x:=x) (y:=y) rfl rfl hj',(hR _).1,(hR _).2.1,(hR _).2.2,h1⟩
 ·have q:(!b&&ltS x y)=false/\(b||ltS x y)=b:=by
   have:ltS x y=false:=decide_eq_false c
   rw [this,Bool.and_false,Bool.or_false]
   exact ⟨rfl,rfl⟩
  rw [if_neg (by rw [q.1];decide)] at hS
  have el:L.length+1=L'.length:=by rw [hS,J7];rfl
  exact ⟨by omega,hlt,by omega,hw,by rw [hB,q.2],el,Jt el.symm,el,Zg ZW fun j hj=>by
   have hj':j<L.length+1:=by omega
   rw [hS]
   exact Yc (L:=L) (x:=y) rfl hj',(hR _).1,(hR _).2.1,(hR _).2.2,h1⟩
 ·have q:(!b&&ltS x y)=false/\(b||ltS x y)=b:=by
   have hbt:b=true:=by simpa using kb
   rw [hbt]
   exact ⟨rfl,rfl⟩
  rw [if_neg (by rw [q.1];decide)] at hS
  have el:L.length+1=L'.length:=by rw [hS,J7];rfl
  exact ⟨by omega,hlt,by omega,hw,by rw [hB,q.2],el,Jt el.symm,el,Zg ZW fun j hj=>by
   have hj':j<L.length+1:=by omega
   rw [hS]
   exact Yc (L:=L) (x:=y) rfl hj',(hR _).1,(hR _).2.1,(hR _).2.2,h1⟩
def Zd1 (D:Ze) (x:ZH) (L:List ZH) (b:Bool) (i:Nat):St:=⟨81,[(13,.int .i64 i),(3,pt 3),(4,pt 4),(5,pt 5),(12,.bool b),(11,.nslice ⟨7,0,98,0,0⟩ 98 L.length L.length),(6,pt 6)],⟨8,(7,.rows 98 L.length (quR L))::(6,Z39)::(5,.flat (Ql x.secret))::(4,.flat x.ic)::(3,.flat (dcC D))::dcB D⟩,[]⟩
def ZfM (D:Ze) (x:ZH) (L:List ZH) (b:Bool):St:=⟨81,[(3,pt 3),(4,pt 4),(5,pt 5),(12,.bool b),(11,.nslice ⟨7,0,98,0,0⟩ 98 L.length L.length),(6,pt 6)],⟨8,(7,.rows 98 L.length (quR L))::(6,Z39)::(5,.flat (Ql x.secret))::(4,.flat x.ic)::(3,.flat (dcC D))::dcB D⟩,[]⟩
theorem ZgI (D:Ze) (x:ZH) (L L':List ZH) (b b':Bool) (i:Nat) (Z1 Z2:Prop) (hL:ZA D) (hi:i<=D.Q.length) (hb:b=ZS ltQ x D.Q i) (hl:L=ZT ltQ x D.Q i) (hb':b'=ZS ltQ x D.Q (i+1)) (hl':L'=ZT ltQ x D.Q (i+1)) (h1:i<D.Q.length->Z1) (h2:i=D.Q.length->Z2):
  ZL Z38 40 24 0 3 (Zd1 D x L b i) (rdM 3 0 9 (Zd1 D x L' b' (i+1)) (ZfM D x L b) dtN dtN Z1 Z2 False False):=by
 refine @Eq.mpr _ (let R:=D.Q;let a:=R.length;let u:=decide (0<=(↑i:Int)/\(↑i:Int)<(↑a:Int));let q:=0+Int.toNat (↑i:Int);let p:=x.hash.v;let o:=List.getD R q ZK;let z:=o.hash.v;let c:=L.length;let r:=decide (c=c);let f:=c+1;let Z:=decide (f*112<=140737488355328);let P:=f+1;let Y:=decide (wrap i64 ((↑i:Int)+1)=(↑(i+1):Int));let n:=L'.length;let X:=decide (P=n);let O:=[(5,5),(4,4),(3,3)];let y:=(6,6)::(7,11)::O;let w:=quR L;let N:=x.key.v;let M:=x.amount;let K:=x.least;let J:=x.secret.v;let W:=Vo [AV.arr u8 32 z,AV.arr u8 32 o.key.v,AV.int i64 o.amount,AV.int i64 o.least,AV.arr u8 32 o.secret.v] 0 98;let I:=J=J;let H:=p=p;let G:=N=N;let F:=decide (M=M);let E:=decide (K=K);let e:=D.T.length;let m:=decide (e=e);let C:=decide (e<=e);let d:=D.S.length;let l:=decide (d=d);let B:=decide (d<=d);let k:=decide (a=a);let A:=decide (a<=a);let j:=tiR D.T;let h:=seR D.S;let g:=quR R;let V:=decide (f=n);let t:=(6,6)::(7,9)::O;let U:=Z0 r (Z0 Z (Z0 Y (Z5 (b=b') (Z0 V (Z5 (n<=f) (Z0 V (Z6 3 t n (quR L') (Xc c w W)/\I/\H/\G/\Z0 F (Z0 E (Z0 m (Z0 C (Z0 l (Z0 B (Z0 k (Z0 A (Z0 m (Z6 3 t e j j/\Z0 l (Z6 3 t d h h/\Z0 k (Z6 3 t a g g/\Z1))))))))))))))))));let s:=(6,6)::(7,7)::O;
 Z8 (decide ((↑i:Int)<(↑a:Int))) (Z8 (!b) (Z0 u (Z5 (q<a) ((p.length=32/\z.length=32)/\Z8 (decide (ZY p z<0)) (Z0 r (Z0 Z (Z0 u (Z5 (q<a) (Z5 (f=f) (Z5 (P*112<=140737488355328) (Z0 Y (Z5 (true=b') (Z0 X (Z5 (n<=P) (Z0 X (Z6 3 y n (quR L') (Xc f (Xc c w (Vo [AV.arr u8 32 p,AV.arr u8 32 N,AV.int i64 M,AV.int i64 K,AV.arr u8 32 J] 0 98)) W)/\I/\H/\G/\Z0 F (Z0 E (Z0 m (Z0 C (Z0 l (Z0 B (Z0 k (Z0 A (Z0 m (Z6 3 y e j j/\Z0 l (Z6 3 y d h h/\Z0 k (Z6 3 y a g g/\Z1))))))))))))))))))))))) (Z0 u (Z5 (q<a) U))))) (Z0 u (Z5 (q<a) U))) (Z5 (b=b) (Z0 r (Z5 (c<=c) (Z0 r (Z6 3 s c w w/\I/\H/\G/\Z0 F (Z0 E (Z0 m (Z0 C (Z0 l (Z0 B (Z0 k (Z0 A (Z0 m (Z6 3 s e j j/\Z0 l (Z6 3 s d h h/\Z0 k (Z6 3 s a g g/\Z2))))))))))))))))) (by kernel_rfl) ?_
 conv=>zeta
 try simp only [vcA]
 try simp only [vcB]
 try simp only [vcC]
 have hR:=WB D 3
 have hlim:=hL.q
 have hll:L.length<=D.Q.length+1:=by rw [hl];exact YA
 refine ⟨fun hc=> ?_,fun hc=>⟨Zg ZX fun _ _=>rfl,(hR _).1,(hR _).2.1,(hR _).2.2,h2 (by omega)⟩⟩
 have hlt:i<D.Q.length:=by omega
 have hw:i64.wrap ((i:Int)+1)=((i+1:Nat):Int):=by rw [w64 (by omega)];omega
 have h1:=h1 hlt
 have hS:=Ue ZK (lt:=ltQ) (x:=x) hlt
 have hB:=Wj ZK (lt:=ltQ) (x:=x) hlt
 rw [<-hl',<-hl,<-hb] at hS
 rw [<-hb',<-hb] at hB
 generalize D.Q.getD i ZK=y at*
 refine ⟨fun kb=>⟨by omega,hlt,⟨x.hash.l,y.hash.l⟩,fun c=> ?_,fun c=> ?_⟩,fun kb=> ?_⟩
 ·have q:ltQ x y=true:=decide_eq_true c
  rw [q] at hS hB
  rw [if_pos (by rw [Bool.and_true];exact kb)] at hS
  have el:L.length+1+1=L'.length:=by rw [hS,J7];rfl
  exact ⟨by omega,by omega,hlt,by omega,hw,by rw [hB,Bool.or_true],el,Jt el.symm,el,Zg ZX fun j hj=>by
   have hj':j<L.length+1+1:=by omega
   rw [hS]
   exact VA (L:=L) (x:=x) (y:=y) rfl rfl hj',(hR _).1,(hR _).2.1,(hR _).2.2,h1⟩
 ·have q:(!b&&ltQ x y)=false/\(b||ltQ x y)=b:=by
   have:ltQ x y=false:=decide_eq_false c
   rw [this,Bool.and_false,Bool.or_false]
   exact ⟨rfl,rfl⟩
  rw [if_neg (by rw [q.1];decide)] at hS
  have el:L.length+1=L'.length:=by rw [hS,J7];rfl
  exact ⟨by omega,hlt,by omega,hw,by rw [hB,q.2],el,Jt el.symm,el,Zg ZX fun j hj=>by
   have hj':j<L.length+1:=by omega
   rw [hS]
   exact Yc (L:=L) (x:=y) rfl hj',(hR _).1,(hR _).2.1,(hR _).2.2,h1⟩
 ·have q:(!b&&ltQ x y)=false/\(b||ltQ x y)=b:=by
   have hbt:b=true:=by simpa using kb
   rw [hbt]
   exact ⟨rfl,rfl⟩
  rw [if_neg (by rw [q.1];decide)] at hS
  have el:L.length+1=L'.length:=by rw [hS,J7];rfl
  exact ⟨by omega,hlt,by omega,hw,by rw [hB,q.2],el,Jt el.symm,el,Zg ZX fun j hj=>by
   have hj':j<L.length+1:=by omega
   rw [hS]
   exact Yc (L:=L) (x:=y) rfl hj',(hR _).1,(hR _).2.1,(hR _).2.2,h1⟩
noncomputable def Zbu (D:Ze) (x:H32):Zh:=Z38.withL 22 0 (goM 3 (Zd0 D x [] false 0) (ZA D) (YC 0 D.S.length 9 (fun i=>ZY x.v (D.S.getD i h0).v≠0) (fun i=>i=D.S.length) (fun i=>i<D.S.length/\ZY x.v (D.S.getD i h0).v=0) (fun _=>False) (fun i=>ZfK D x (ZT ltS x D.S i) (ZS ltS x D.S i)) (fun _=>ZfL D) (fun _=>dtN)))
theorem Z63 (D:Ze) (x:H32):(Zbu D x).Ok:=
 Zh.withGoM (N:=40) (k:=3) (n:=D.S.length) (l:=9) (S:=fun i=>Zd0 D x (ZT ltS x D.S i) (ZS ltS x D.S i) i) Z1t (by kernel_rfl) fun hC=>⟨rfl,fun i hi _=>ZgH D x _ _ _ _ i _ _ _ hC hi rfl rfl rfl rfl (fun h1 h2=>⟨h2,h1⟩) (fun h=>h) fun h1 h2=>⟨h1,h2⟩⟩
theorem ZgJ (D:Ze) (x:H32) (S':List H32) (e:Int) (hL:ZA D) (he:e=Z2M D.S x) (hS:S'=Z0s D.S x):
  evF (Zbu D x) 40 22 [.agg (dcC D),.agg (Ql x)] ⟨3,dcB D⟩ (Ye 3 (.ret (.tuple [slS 3 S' D 0 2,.int .i64 e])) 4 [(0,.rows 66 D.T.length (tiR D.T)),(3,.rows 32 S'.length (seR S')),(2,.rows 98 D.Q.length (quR D.Q))]):=by
 refine @Eq.mpr _ (let p:=x.v;let g:=D.T.length;let c:=decide (g=g);let n:=decide (g<=g);let m:=D.S;let a:=m.length;let A:=decide (a=a);let f:=D.Q.length;let b:=decide (f=f);let o:=decide (f<=f);let z:=[(5,5),(4,4),(3,3)];let k:=tiR D.T;let y:=seR m;let h:=quR D.Q;let J:=decide ((↑a:Int)>=64);let d:=S'.length;let w:=decide (a=d);let I:=decide (d<=a);let u:=[(3,1)];let H:=Z0 c (Z6 3 u g k k/\Z0 w (Z6 3 u d (seR S') y/\Z0 b (Z6 3 u f h h/\True)));let G:=Z0 c (Z0 n (Z0 w (Z0 I (Z0 b (Z0 o (Z5 (3=e) H))))));let t:=decide (0=e);let s:=[(3,8)];let r:=[(3,6)];
 p=p/\
 Z0 c (Z0 n (Z0 A (Z5 (a<=a) (Z0 b (Z0 o (Z0 c (Z6 3 z g k k/\
 Z0 A (Z6 3 z a y y/\
 Z0 b (Z6 3 z f h h/\
 ZA D/\
 ∀(i:Nat),
 let F:=ZT ltS x m i;let l:=F.length;let q:=l+1;let E:=decide (q=d);let C:=seR F;let B:=decide (l=d);
 i<=a->
 (∀(j:Nat),j<i->(fun (i:Nat)=>ZY p (List.getD m i h0).v≠0) j)->
 (i=a->Z8 (!ZS ltS x m i) (Z5 (l=l) (Z5 (q*32<=140737488355328) (Z8 J G (Z0 c (Z0 n (Z0 E (Z5 (d<=q) (Z0 b (Z0 o (Z0 t (Z0 c (Z6 3 s g k k/\Z0 E (Z6 3 s d (seR S') (Xc l C (Vo [AV.arr u8 32 p] 0 32))/\Z0 b (Z6 3 s f h h/\True)))))))))))))) (Z8 J G (Z0 c (Z0 n (Z0 B (Z5 (d<=l) (Z0 b (Z0 o (Z0 t (Z0 c (Z6 3 r g k k/\Z0 B (Z6 3 r d (seR S') C/\Z0 b (Z6 3 r f h h/\True)))))))))))))/\(i<a/\ZY p (List.getD m i h0).v=0->Z0 c (Z0 n (Z0 w (Z0 I (Z0 b (Z0 o (Z0 t H)))))))/\(False->False))))))))))) (by kernel_rfl) ?_
 conv=>zeta
 try simp only [vcA]
 try simp only [vcB]
 try simp only [vcC]
 have hR:=WB D 3
 have hlim:=hL.s
 have hk:∀(k:Int) (τ:Ren),S'=D.S->k=e->D.S.length=S'.length/\S'.length<=D.S.length/\k=e/\Z6 3 τ D.T.length (tiR D.T) (tiR D.T)/\D.S.length=S'.length/\Z6 3 τ S'.length (seR S') (seR D.S)/\Z6 3 τ D.Q.length (quR D.Q) (quR D.Q):=fun k τ h0 hk=>by
  rw [h0]
  exact ⟨rfl,J2 _,hk,(hR _).1,rfl,(hR _).2.1,(hR _).2.2⟩
 refine ⟨(hR _).1,(hR _).2.1,(hR _).2.2,hL,fun i hi hg=>⟨fun hn=> ?_,fun hz=> ?_,fun h=>h⟩⟩
 ·have ha:(D.S.any fun y=>decide (ZY x.v y.v=0))=false:=by
   refine K3.2 fun y hy=> ?_
   obtain ⟨j,hj,rfl⟩:=Jk hy
   have:=hg j (by omega)
   rw [J5,J8 hj] at this
   have this:ZY x.v D.S[j].v≠0:=this
   rw [decide_eq_false this]
   decide
  have hE:=Qk (lt:=ltS) (x:=x) (D:=D.S)
  have hll:=YA (lt:=ltS) (x:=x) (D:=D.S) (i:=i)
  rw [<-hn] at hE
  have eD:Z0s D.S x=if 64<=D.S.length then D.S else XV ltS x D.S:=by
   unfold Z0s
   rw [ha]
   rfl
  have eF:Z2M D.S x=if 64<=D.S.length then 3 else 0:=by
   unfold Z2M
   rw [ha]
   rfl
  have no:64<=D.S.length->S'=D.S/\3=e:=fun h=>by
   rw [hS,he,eD,eF,if_pos h,if_pos h]
   exact ⟨rfl,rfl⟩
  have go:¬64<=D.S.length->S'=XV ltS x D.S/\0=e:=fun h=>by
   rw [hS,he,eD,eF,if_neg h,if_neg h]
   exact ⟨rfl,rfl⟩
  refine ⟨fun hb=>⟨by omega,fun l=>hk 3 _ (no (by omega)).1 (no (by omega)).2,fun l=> ?_⟩,fun hb=>⟨fun l=>hk 3 _ (no (by omega)).1 (no (by omega)).2,fun l=> ?_⟩⟩
  ·obtain ⟨g1,g2⟩:=go (by omega)
   rw [if_neg (by intro h;rw [h] at hb;cases hb),<-g1] at hE
   have el:(ZT ltS x D.S i).length+1=S'.length:=by rw [hE,J7];rfl
   exact ⟨el,Jt el.symm,g2,(hR _).1,el,Zg ZW fun j hj=>by
    have hj':j<(ZT ltS x D.S i).length+1:=by omega
    rw [hE]
    exact Yc (x:=x) rfl hj',(hR _).2.2⟩
  ·obtain ⟨g1,g2⟩:=go (by omega)
   rw [if_pos (by simpa using hb),<-g1] at hE
   rw [hE]
   exact ⟨rfl,J2 _,g2,(hR _).1,rfl,Zg ZW fun _ _=>rfl,(hR _).2.2⟩
 ·have ha:(D.S.any fun y=>decide (ZY x.v y.v=0))=true:=JI.2 ⟨D.S.getD i h0,by rw [J5,J8 hz.1];exact K6 hz.1,decide_eq_true hz.2⟩
  exact hk 0 _ (by rw [hS,Z0s,if_pos ha]) (by rw [he,Z2M,if_pos ha])
def ZdH:Y2:=fun args h K=>Vm h args fun D a b c az=>match az with
 | [.agg [.nslice ⟨0,0,66,0,0⟩ 66 n1 n2,.nslice ⟨1,0,32,0,0⟩ 32 n3 n4,.nslice ⟨2,0,98,0,0⟩ 98 n5 n6],.agg [.arr .u8 32 o]]=>∃x:H32,(n1=D.T.length/\n2=D.T.length/\n3=D.S.length/\n4=D.S.length/\n5=D.Q.length/\n6=D.Q.length)/\o=x.v/\K (.ret (.tuple [slS h.next (Z0s D.S x) D a c,.int .i64 (Z2M D.S x)])) ⟨h.next+1,ZeG h D (Z0s D.S x) a b c⟩
 | _=>False
theorem Zbv (args:List AV) (h:Z7) (K:KO) (hl:ZdH args h K):Zi PP 22 args h K:=by
 refine Zbp hl fun D a b c az hL ha=> ?_
 split at ha
 ·obtain ⟨x,⟨rfl,rfl,rfl,rfl,rfl,rfl⟩,rfl,hK⟩:=ha
  exact ⟨_,_,fun _ _=>rfl,.evM (Z63 D x) (ZgJ D x _ _ hL rfl rfl),hK⟩
 ·exact ha.elim
noncomputable def Zbw (H:LI->LI) (B:Nat) (D:Ze) (x:ZH):Zh:=((G0.withP 77 (Z3T H B)).withP 38 Z46).withL 24 0 (goM 3 (Zd1 D x [] false 0) (ZA D) (YC 0 D.Q.length 9 (fun i=>i<D.Q.length) (fun i=>i=D.Q.length) (fun _=>False) (fun _=>False) (fun i=>ZfM D x (ZT ltQ x D.Q i) (ZS ltQ x D.Q i)) (fun _=>dtN) (fun _=>dtN)))
theorem Z64 (D:Ze) (x:ZH):(Zbw ZP 100000 D x).Ok:=
 Zh.withL_join (H:=Z38) (Zh.withP_ok UB Uh) (by unfold Z38 Zbh;simp only [XJ]) (Zh.withGoM (N:=40) (k:=3) (n:=D.Q.length) (l:=9) (S:=fun i=>Zd1 D x (ZT ltQ x D.Q i) (ZS ltQ x D.Q i) i) Z1t (by kernel_rfl) fun hC=>⟨rfl,fun i hi _=>ZgI D x _ _ _ _ i _ _ hC hi rfl rfl rfl rfl (fun h=>⟨h,h⟩) fun h=>h⟩)
theorem ZgK (H:LI->LI) (B:Nat) (D:Ze) (x:ZH) (Q':List ZH) (e:Int) (hB:B=100000) (hH:∀x,(H x).length=32) (hL:ZA D) (he:e=W9 H D.Q x) (hQ:Q'=Z18 H D.Q x):
  evF (Zbw H B D x) 40 24 [.agg (dcC D),.agg x.ic,.agg (Ql x.secret)] ⟨3,dcB D⟩ (Ye 3 (.ret (.tuple [slQ 3 Q' D 0 1,.int .i64 e])) 4 [(0,.rows 66 D.T.length (tiR D.T)),(1,.rows 32 D.S.length (seR D.S)),(3,.rows 98 Q'.length (quR Q'))]):=by
 refine @Eq.mpr _ (let q:=x.amount;let s:=x.least;let r:=x.secret.v;let z:=r.length;let O:=H r;let l:=x.hash.v;let b:=D.T.length;let d:=decide (b=b);let m:=decide (b<=b);let c:=D.S.length;let f:=decide (c=c);let p:=decide (c<=c);let w:=D.Q;let a:=w.length;let k:=Q'.length;let u:=decide (a=k);let J:=decide (k<=a);let I:=[(3,2)];let h:=tiR D.T;let g:=seR D.S;let t:=quR w;let G:=Z0 d (Z6 3 I b h h/\Z0 f (Z6 3 I c g g/\Z0 u (Z6 3 I k (quR Q') t/\True)));let o:=Z0 d (Z0 m (Z0 f (Z0 p (Z0 u (Z0 J (Z5 (2=e) G))))));let F:=x.key.v;let R:=decide (a=a);let E:=[(6,6),(5,5),(4,4),(3,3)];let P:=decide (0=e);let C:=[(3,9)];let A:=[(3,7)];
 Z8 (decide (q>0)) (Z8 (decide (q>=0)) (Z8 (decide (q<=1125899906842624)) (Z8 (decide (s>=1)) (Z8 (decide (s<=1000)) (Z5 (z=32) (Z5 (32=z) (Z5 (z<=B) (Z5 (O.length=32/\l.length=32) (Z8 (!O==l) o (Z5 (0+b<=b) ((∀(i:Nat),i<b->true=true)/\
 Z5 (0+c<=c) ((∀(i:Nat),i<c->true=true)/\
 Z5 (0+a<=a) ((∀(i:Nat),i<a->true=true)/\
 Z5 ((66:Nat)=66/\b=b) (Z5 ((32:Nat)=32/\c=c) (Z5 ((98:Nat)=98/\a=a) (∃(D_1:Ze),
 Yg D_1 b (Zp 0 h) c (Zp 0 g) a (Zp 0 t)/\
 l.length=32/\
 Z8 (Nat.blt (atQ D_1.Q l) (D_1.Q.length)) (Z0 d (Z0 m (Z0 f (Z0 p (Z0 u (Z0 J (Z5 (360=e) G))))))) (Z8 (decide ((↑a:Int)>=16)) (Z0 d (Z0 m (Z0 f (Z0 p (Z0 u (Z0 J (Z5 (3=e) G))))))) (r=r/\
 l=l/\
 F=F/\
 Z5 (q=q) (Z5 (s=s) (Z0 d (Z0 m (Z0 f (Z0 p (Z0 R (Z5 (a<=a) (Z0 d (Z6 3 E b h h/\
 Z0 f (Z6 3 E c g g/\
 Z0 R (Z6 3 E a t t/\
 ZA D/\
 ∀(i:Nat),
 let N:=ZT ltQ x w i;let n:=N.length;let y:=n+1;let M:=decide (y=k);let L:=quR N;let K:=decide (n=k);
 i<=a->(∀(j:Nat),j<i->(fun (i:Nat)=>i<a) j)->(i=a->Z8 (!ZS ltQ x w i) (Z5 (n=n) (Z5 (y*112<=140737488355328) (Z0 d (Z0 m (Z0 f (Z0 p (Z0 M (Z5 (k<=y) (Z0 P (Z0 d (Z6 3 C b h h/\Z0 f (Z6 3 C c g g/\Z0 M (Z6 3 C k (quR Q') (Xc n L (Vo [AV.arr u8 32 l,AV.arr u8 32 F,AV.int i64 q,AV.int i64 s,AV.arr u8 32 r] 0 98))/\True))))))))))))) (Z0 d (Z0 m (Z0 f (Z0 p (Z0 K (Z5 (k<=n) (Z0 P (Z0 d (Z6 3 A b h h/\Z0 f (Z6 3 A c g g/\Z0 K (Z6 3 A k (quR Q') L/\True))))))))))))/\(False->False)/\(False->False)))))))))))))))))))))))))) o) o) o) o) o) (by kernel_rfl) ?_
 conv=>zeta
 try simp only [vcA]
 try simp only [vcB]
 try simp only [vcC]
 subst hB
 have hR:=WB D 3
 have hlim:=hL.q
 have hl:=x.secret.l
 have hk:∀(k:Int) (τ:Ren),k≠0->W9 H D.Q x=k->D.Q.length=Q'.length/\Q'.length<=D.Q.length/\k=e/\Z6 3 τ D.T.length (tiR D.T) (tiR D.T)/\Z6 3 τ D.S.length (seR D.S) (seR D.S)/\D.Q.length=Q'.length/\Z6 3 τ Q'.length (quR Q') (quR D.Q):=fun k τ h0 hk=>by
  have:Q'=D.Q:=by rw [hQ,Z18,if_neg (by omega)]
  rw [this,he,hk]
  exact ⟨rfl,J2 _,rfl,(hR _).1,(hR _).2.1,rfl,(hR _).2.2⟩
 have k2:¬(Vk H x=true)->W9 H D.Q x=2:=fun h=>by rw [W9,if_neg h]
 have ok:Vk H x=true↔(1<=x.amount/\x.amount<=1125899906842624)/\(1<=x.least/\x.least<=1000)/\(H x.secret.v==x.hash.v)=true:=by
  unfold Vk
  rw [J1,J1,decide_eq_true_eq,decide_eq_true_eq,and_assoc]
 have k3:Vk H x=true->W9 H D.Q x=if atQ D.Q x.hash.v<D.Q.length then 360 else if 16<=D.Q.length then 3 else 0:=fun h=>by rw [W9,if_pos h]
 have tr:∀{n:Nat} (i:Nat),i<n->True:=fun _ _=>trivial
 refine ⟨fun a0=>⟨fun a1=>⟨fun a2=>⟨fun b0=>⟨fun b1=>⟨hl,hl.symm,by omega,⟨hH _,x.hash.l⟩,fun c=>hk 2 _ (by decide) (k2 fun h=> ?_),fun c=> ?_⟩,fun b1=>hk 2 _ (by decide) (k2 fun h=> ?_)⟩,fun b0=>hk 2 _ (by decide) (k2 fun h=> ?_)⟩,fun a2=>hk 2 _ (by decide) (k2 fun h=> ?_)⟩,fun a1=>hk 2 _ (by decide) (k2 fun h=> ?_)⟩,fun a0=>hk 2 _ (by decide) (k2 fun h=> ?_)⟩
 ·have:=(ok.1 h).2.2;rw [this] at c;cases c
 rotate_left
 ·have:=ok.1 h;omega
 ·have:=ok.1 h;omega
 ·have:=ok.1 h;omega
 ·have:=ok.1 h;omega
 ·have:=ok.1 h;omega
 have k3:=k3 (ok.2 ⟨⟨by omega,a2⟩,⟨b0,b1⟩,by simpa using c⟩)
 refine ⟨tr,tr,tr,D,V1 hL,x.hash.l,fun k=> ?_,fun k=> ?_⟩
 ·rw [if_pos (Xm k)] at k3
  exact hk 360 _ (by decide) k3
 ·rw [if_neg (fun h=>by rw [Yt h] at k;cases k)] at k3
  refine ⟨fun l=>hk 3 _ (by decide) (by rw [k3,if_pos (by omega)]),fun l=>⟨(hR _).1,(hR _).2.1,(hR _).2.2,hL,fun i hi _=>⟨fun hn=> ?_,fun h=>h,fun h=>h⟩⟩⟩
  rw [if_neg (by omega)] at k3
  have hQ:Q'=XV ltQ x D.Q:=by rw [hQ,Z18,if_pos k3]
  have hE:=Qk (lt:=ltQ) (x:=x) (D:=D.Q)
  have hll:=YA (lt:=ltQ) (x:=x) (D:=D.Q) (i:=i)
  rw [<-hQ,<-hn] at hE
  refine ⟨fun hb=> ?_,fun hb=> ?_⟩
  ·rw [if_neg (by intro h;rw [h] at hb;cases hb)] at hE
   have el:(ZT ltQ x D.Q i).length+1=Q'.length:=by rw [hE,J7];rfl
   exact ⟨by omega,el,Jt el.symm,by rw [he,k3],(hR _).1,(hR _).2.1,el,Zg ZX fun j hj=>by
    have hj':j<(ZT ltQ x D.Q i).length+1:=by omega
    rw [hE]
    exact Yc (x:=x) rfl hj'⟩
  ·rw [if_pos (by simpa using hb)] at hE
   rw [hE]
   exact ⟨rfl,J2 _,by rw [he,k3],(hR _).1,(hR _).2.1,rfl,Zg ZX fun _ _=>rfl⟩
def ZdI (H:LI->LI):Y2:=fun args h K=>Vm h args fun D a b c az=>match az with
 | [.agg [.nslice ⟨0,0,66,0,0⟩ 66 n1 n2,.nslice ⟨1,0,32,0,0⟩ 32 n3 n4,.nslice ⟨2,0,98,0,0⟩ 98 n5 n6],.agg cs,.agg [.arr .u8 32 o]]=>∃x:ZH,(n1=D.T.length/\n2=D.T.length/\n3=D.S.length/\n4=D.S.length/\n5=D.Q.length/\n6=D.Q.length)/\(cs=x.ic/\o=x.secret.v)/\K (.ret (.tuple [slQ h.next (Z18 H D.Q x) D a b,.int .i64 (W9 H D.Q x)])) ⟨h.next+1,ZeH h D (Z18 H D.Q x) a b c⟩
 | _=>False
theorem Zbx (args:List AV) (h:Z7) (K:KO) (hl:ZdI ZP args h K):Zi PP 24 args h K:=by
 refine Zbs hl fun D a b c az hL ha=> ?_
 split at ha
 ·obtain ⟨x,⟨rfl,rfl,rfl,rfl,rfl,rfl⟩,⟨rfl,rfl⟩,hK⟩:=ha
  exact ⟨_,_,fun _ _=>rfl,.evM (Z64 D x) (ZgK ZP 100000 D x _ _ rfl Y6 hL rfl rfl),hK⟩
 ·exact ha.elim
def abZ (a b c:Int):Bool:=decide (c<=i64.wrap (9223372036854775807-b))&&decide (a>=i64.wrap (c+b))
def enY (A:Int->Int->Int->Bool) (x:ZH) (p:Xe) (q:Xf) (ht:Int):Int:=if p.amount<x.amount then 32 else if p.amount<q.amount then 32 else if A p.expiry x.least ht=true then (if p.expiry<q.expiry then 33 else 0) else 33
def ZeI (A:Int->Int->Int->Bool):YJ:=fun args _ K=>match args with
 | [.int .i64 a,.int .i64 b,.int .i64 c]=>K (.bool (A a b c))
 | _=>False
theorem ZgL (a b c M:Int) (r:Bool) (hM:M=9223372036854775807) (hr:r=(decide (c<=i64.wrap (M-b))&&decide (a>=i64.wrap (c+b)))):
  evF G0 20 81 [.int .i64 a,.int .i64 b,.int .i64 c] ⟨0,[]⟩ (VF (fun v=>v=.bool r)):=by
 refine @Eq.mpr _ (Z8 (decide (c<=wrap i64 (9223372036854775807-b))) (AV.bool (decide (a>=wrap i64 (c+b)))=AV.bool r) (AV.bool false=AV.bool r)) (by kernel_rfl) ?_
 try simp only [vcA]
 try simp only [vcB]
 try simp only [vcC]
 rw [<-hM]
 refine ⟨fun h=> ?_,fun h=> ?_⟩
 ·rw [hr,decide_eq_true h,Bool.true_and]
 ·rw [hr,decide_eq_false h,Bool.false_and]
theorem Zd2 (args:List AV) (h:Z7) (K:AV->Prop) (hl:ZeI abZ args h K):Zi PP 81 args h fun o h'=>∃v,o=.ret v/\h'=h/\K v:=by
 unfold ZeI at hl
 split at hl
 ·exact Vz ZD rfl (ZgL _ _ _ _ _ rfl rfl) fun u hu=>by rw [hu];exact hl
 ·exact hl.elim
noncomputable def ZeJ (A:Int->Int->Int->Bool):Zh:=G0.withP 81 (ZeI A)
def Zd3 (D:Ze) (p:Xe) (q:Xf) (ht:Int) (i:Nat):St:=⟨57,[(9,.int .i64 i),(4,pt 0),(5,pt 1),(6,pt 2),(3,.int .i64 ht)],⟨3,[(2,.flat q.c),(1,.flat p.c),(0,.flat (dvC D))]⟩,[]⟩
def Zd4:St:=⟨57,[],⟨0,[]⟩,[]⟩
def ZfN (A:Int->Int->Int->Bool) (D:Ze) (p:Xe) (q:Xf) (ht:Int) (i:Nat):St:=⟨57,[(8,.int .i64 (enY A (D.Q.getD i ZK) p q ht))],⟨0,[]⟩,[]⟩
theorem ZgM (A:Int->Int->Int->Bool) (D:Ze) (p:Xe) (q:Xf) (ht:Int) (i:Nat) (Z1 Z2 Z3:Prop) (hL:ZA D) (hi:i<=D.Q.length) (h1:i<D.Q.length->(p.hash.v==(D.Q.getD i ZK).hash.v)=false->Z1) (h2:i=D.Q.length->Z2) (h3:i<D.Q.length->(p.hash.v==(D.Q.getD i ZK).hash.v)=true->Z3):
  ZL (ZeJ A) 40 40 0 0 (Zd3 D p q ht i) (rdM 0 0 9 (Zd3 D p q ht (i+1)) Zd4 (ZfN A D p q ht i) Zd4 Z1 Z2 Z3 False):=by
 refine @Eq.mpr _ (let e:=D.Q;let b:=e.length;let h:=List.getD e (Int.toNat (↑i:Int)) ZK;let m:=h.hash.v;let a:=p.hash.v;let l:=q.key.v;let k:=q.next.v;let g:=q.amount;let f:=q.expiry;let d:=p.amount;let c:=p.expiry;let B:=p.secret.v;let z:=D.T.length;let y:=decide (z=z);let x:=tiR D.T;let w:=D.S.length;let u:=decide (w=w);let t:=seR D.S;let s:=decide (b=b);let r:=quR e;let j:=enY A (List.getD e i ZK) p q ht;let o:=Z5 (32=j) Z3;let n:=Z5 (33=j) Z3;
 Z8 (decide ((↑i:Int)<(↑b:Int))) (Z5 (0<=(↑i:Int)/\(↑i:Int)<(↑b:Int)) (Z5 (m.length=32/\a.length=32) (Z8 (!m==a) (Z5 (wrap i64 ((↑i:Int)+1)=(↑(i+1):Int)) (Z5 (ht=ht) (l=l/\k=k/\Z5 (g=g) (Z5 (f=f) (Z5 (p.own=p.own) (Z5 (p.id=p.id) (Z5 (d=d) (a=a/\Z5 (c=c) (Z5 (p.stage=p.stage) (Z5 (p.fin=p.fin) (B=B/\Z0 y (x=x/\Z0 y (Z0 u (t=t/\Z0 u (Z0 s (r=r/\Z0 s Z1)))))))))))))))) (Z8 (decide (d<h.amount)) o (Z8 (decide (d<g)) o (Z8 (!A c h.least ht) n (Z8 (decide (c<f)) n (Z5 (0=j) Z3)))))))) Z2) (by kernel_rfl) ?_
 conv=>zeta
 try simp only [vcA]
 try simp only [vcB]
 try simp only [vcC]
 refine ⟨fun hc=> ?_,fun hc=>h2 (by omega)⟩
 have hlt:i<D.Q.length:=by omega
 have hlim:=hL.q
 have hw:i64.wrap ((i:Int)+1)=((i+1:Nat):Int):=by rw [w64 (by omega)];omega
 have h1:=h1 hlt
 have h3:=h3 hlt
 generalize D.Q.getD i ZK=y at*
 have hs:=QY p.hash.v y.hash.v
 refine ⟨by omega,⟨y.hash.l,p.hash.l⟩,fun k=>⟨hw,h1 (by rw [hs];simpa using k)⟩,fun k=> ?_⟩
 have h3:=h3 (by rw [hs];simpa using k)
 unfold enY
 refine ⟨fun a=>⟨by rw [if_pos a],h3⟩,fun a=>⟨fun b=>⟨by rw [if_neg a,if_pos b],h3⟩,fun b=>⟨fun c=>⟨?_,h3⟩,fun c=>⟨fun d=>⟨?_,h3⟩,fun d=>⟨?_,h3⟩⟩⟩⟩⟩
 ·rw [if_neg a,if_neg b,if_neg (by intro h;rw [h] at c;cases c)]
 ·rw [if_neg a,if_neg b,if_pos (by simpa using c),if_pos d]
 ·rw [if_neg a,if_neg b,if_pos (by simpa using c),if_neg d]
theorem Zd5:(ZeJ abZ).Ok:=Zh.withP_ok ZD Zd2
noncomputable def ZdJ (A:Int->Int->Int->Bool) (D:Ze) (p:Xe) (q:Xf) (ht:Int):Zh:=(ZeJ A).withL 40 0 (goM 0 (Zd3 D p q ht 0) (ZA D) (YC 0 D.Q.length 9 (fun i=>(p.hash.v==(D.Q.getD i ZK).hash.v)=false) (fun i=>i=D.Q.length) (fun i=>i<D.Q.length/\(p.hash.v==(D.Q.getD i ZK).hash.v)=true) (fun _=>False) (fun _=>Zd4) (fun i=>ZfN A D p q ht i) (fun _=>Zd4)))
theorem Zby (D:Ze) (p:Xe) (q:Xf) (ht:Int):(ZdJ abZ D p q ht).Ok:=
 Zh.withGoM (N:=40) (k:=0) (n:=D.Q.length) (l:=9) (S:=fun i=>Zd3 D p q ht i) Zd5 (by kernel_rfl) fun hC=>⟨rfl,fun i hi _=>ZgM abZ D p q ht i _ _ _ hC hi (fun h1 h2=>⟨h2,h1⟩) (fun h=>h) fun h1 h2=>⟨h1,h2⟩⟩
theorem ZgN (A:Int->Int->Int->Bool) (D:Ze) (p:Xe) (q:Xf) (ht:Int) (J:Nat) (e:Int) (hL:ZA D) (hJ:J=atQ D.Q p.hash.v) (he:e=if J<D.Q.length then enY A (D.Q.getD J ZK) p q ht else 31):
  evF (ZdJ A D p q ht) 40 40 [.agg (dvC D),.agg p.c,.agg q.c,.int .i64 ht] ⟨0,[]⟩ (VF (fun v=>v=.int .i64 e)):=by
 refine @Eq.mpr _ (let s:=q.key.v;let m:=q.next.v;let c:=p.hash.v;let l:=p.secret.v;let k:=D.T.length;let h:=decide (k=k);let g:=tiR D.T;let f:=D.S.length;let d:=decide (f=f);let r:=seR D.S;let b:=D.Q;let a:=b.length;let o:=decide (a=a);let n:=quR b;
 Z5 (ht=ht) (s=s/\m=m/\Z5 (q.amount=q.amount) (Z5 (q.expiry=q.expiry) (Z5 (p.own=p.own) (Z5 (p.id=p.id) (Z5 (p.amount=p.amount) (c=c/\Z5 (p.expiry=p.expiry) (Z5 (p.stage=p.stage) (Z5 (p.fin=p.fin) (l=l/\Z0 h (g=g/\Z0 h (Z0 d (r=r/\Z0 d (Z0 o (n=n/\Z0 o (ZA D/\∀(i:Nat),i<=a->(∀(j:Nat),j<i->(fun (i:Nat)=>(c==(List.getD b i ZK).hash.v)=false) j)->(i=a->AV.int i64 31=AV.int i64 e)/\(i<a/\(c==(List.getD b i ZK).hash.v)=true->AV.int i64 (enY A (List.getD b i ZK) p q ht)=AV.int i64 e)/\(False->False))))))))))))))))) (by kernel_rfl) ?_
 conv=>zeta
 try simp only [vcA]
 try simp only [vcB]
 try simp only [vcC]
 refine ⟨hL,fun i hi hg=>⟨fun h=> ?_,fun h=> ?_,fun h=>h⟩⟩
 ·have hJ:J=D.Q.length:=hJ.trans (Vn h hg)
  rw [he,if_neg (by omega)]
 ·have hJ:J=i:=hJ.trans (Ug h.1 h.2 hg)
  rw [he,hJ,if_pos h.1]
def Z8y:YJ:=fun args h K=>Z9v h args fun D r=>match r with
 | [.agg cs,.agg ds,.int .i64 _]=>∃(p:Xe) (q:Xf),(cs=p.c/\ds=q.c)/\∀e,K (.int .i64 e)
 | _=>False
theorem Z2V (args:List AV) (h:Z7) (K:AV->Prop) (hl:Z8y args h K):Zi PP 40 args h fun o h'=>∃v,o=.ret v/\h'=h/\K v:=by
 refine QZ hl fun D r hL ha=> ?_
 split at ha
 ·obtain ⟨p,q,⟨rfl,rfl⟩,hK⟩:=ha
  exact ⟨_,Ya.evW6 (Zby D p q _) (ZgN abZ D p q _ _ _ hL rfl rfl),fun _=>rfl,hK _⟩
 ·exact ha.elim
structure Zw where
 what:Int
 tie:Zj
 secret:H32
 i:ZH
 own:Bool
 p:Xe
 q:Xf
 ht:Int
def Zw.c (x:Zw):List AV:=.int .i64 x.what::(x.tie.c++.arr .u8 32 x.secret.v::(x.i.ic++.bool x.own::(x.p.c++x.q.c++[.int .i64 x.ht])))
def Yu (HH:H32->H32) (x:Zw):ZH:=⟨cond x.own (HH x.secret) x.i.hash,x.i.key,x.i.amount,x.i.least,x.secret⟩
theorem ZgO (H2:LI->LI) (B:Nat) (x:Zw) (h:LI) (hB:B=100000) (hh:h=H2 x.secret.v):
  evF (Zbh H2 B) 40 19 [.agg (({ x with own:=true}:Zw).c)] ⟨0,[]⟩ (VF (fun v=>v=.agg [.arr .u8 32 h,.arr .u8 32 x.i.key.v,.int .i64 x.i.amount,.int .i64 x.i.least])):=by
 refine @Eq.mpr _ (let a:=x.i;let e:=Zw.mk x.what x.tie x.secret a true x.p x.q x.ht;let d:=e.secret.v;let c:=d.length;let b:=e.i;
 Z5 (c=32) (Z5 (32=c) (Z5 (c<=B) (AV.agg [AV.arr u8 32 (H2 d),AV.arr u8 32 b.key.v,AV.int i64 b.amount,AV.int i64 b.least]=AV.agg [AV.arr u8 32 h,AV.arr u8 32 a.key.v,AV.int i64 a.amount,AV.int i64 a.least])))) (by kernel_rfl) ?_
 conv=>zeta
 try simp only [vcA]
 try simp only [vcB]
 try simp only [vcC]
 subst hB
 have hl:=x.secret.l
 exact ⟨hl,hl.symm,by omega,by rw [hh]⟩
theorem ZgP (x:Zw) :
  evF G0 40 19 [.agg (({ x with own:=false}:Zw).c)] ⟨0,[]⟩ (VF (fun v=>v=.agg x.i.ic)):=by
 refine @Eq.mpr _ (let a:=(Zw.mk x.what x.tie x.secret x.i false x.p x.q x.ht).i;
 AV.agg [AV.arr u8 32 a.hash.v,AV.arr u8 32 a.key.v,AV.int i64 a.amount,AV.int i64 a.least]=AV.agg (ZH.ic x.i)) (by kernel_rfl) ?_
 conv=>zeta
 try simp only [vcA]
 try simp only [vcB]
 try simp only [vcC]
 rfl
theorem ZeK (x:H32):∀v∈ZP x.v,0<=v/\v<=255:=fun v hv=>by
 rw [ZcK x.u8 (by rw [x.l];decide)] at hv
 have:=ZcI _ v hv
 unfold U8 at this
 omega
def hhD (x:H32):H32:=⟨ZP x.v,Y6 _,ZeK x⟩
structure Xx (cs:List AV) (x:Zw):Prop where
 h:cs=x.c
def Z65 (HH:H32->H32):YJ:=fun args _ K=>match args with
 | [.agg cs]=>∃x,Xx cs x/\K (.agg (Yu HH x).ic)
 | _=>False
theorem Z2W (args:List AV) (h:Z7) (K:AV->Prop) (hl:Z65 hhD args h K):Zi PP 19 args h fun o h'=>∃v,o=.ret v/\h'=h/\K v:=by
 unfold Z65 at hl
 split at hl
 ·obtain ⟨⟨w,t,s,i,own,p,q,ht⟩,⟨rfl⟩,hK⟩:=hl
  cases own with
  | true=>exact Vz UB rfl (ZgO ZP 100000 ⟨w,t,s,i,true,p,q,ht⟩ _ rfl rfl) fun u hu=>by rw [hu];exact hK
  | false=>exact Vz ZD rfl (ZgP ⟨w,t,s,i,false,p,q,ht⟩) fun u hu=>by rw [hu];exact hK
 ·exact hl.elim
noncomputable def Z7u (H H2:LI->LI) (B:Nat) (HH:H32->H32):Zh:=(((((((((((((((((((((((G0.withP 77 (Z3T H2 B)).withF 17 (Zev H)).withF 18 (Zew H)).withF 23 (ZeA H)).withF 30 (ZeB H)).withF 25 (Zbe H)).withF 27 (ZeC H)).withF 31 (Z0R H)).withF 33 (Z0R H)).withF 35 (ZcP H)).withF 37 (ZcQ H)).withF 39 (Z8v H)).withF 20 Zdz).withF 21 ZdE).withF 22 ZdH).withF 28 (ZdF H2)).withF 24 (ZdI H2)).withF 26 ZdG).withP 32 Z2T).withP 34 Z8x).withP 36 (Z5Z H2)).withP 38 Z46).withP 40 Z8y).withP 19 (Z65 HH)
theorem UD:(Z7u ZB ZP 100000 hhD).Ok:=
 Zh.withP_ok (Zh.withP_ok (Zh.withP_ok (Zh.withP_ok (Zh.withP_ok (Zh.withP_ok (Zh.withF_ok (Zh.withF_ok (Zh.withF_ok (Zh.withF_ok (Zh.withF_ok (Zh.withF_ok (Zh.withF_ok (Zh.withF_ok (Zh.withF_ok (Zh.withF_ok (Zh.withF_ok (Zh.withF_ok (Zh.withF_ok (Zh.withF_ok (Zh.withF_ok (Zh.withF_ok (Zh.withF_ok UB (Z8o ZB)) (Z8p ZB)) Z8s) Z8t) Z5V) (Z8u ZB)) (Z2Q ZB)) (Z4V ZB)) Z4W) (Z4X ZB)) (Z2R ZB)) Zbg) Zbn) Zbv) Zbq) Zbx) Zbt) UC) Z2U) Z00) Uh) Z2V) Z2W
theorem WQ (h:ZA D):XY D D.T.length (tiR D.T) D.S.length (seR D.S) D.Q.length (quR D.Q):=⟨⟨rfl,rfl⟩,⟨rfl,rfl⟩,⟨rfl,rfl⟩,h⟩
def acB (H:LI->LI) (X D:Ze):List (Nat×Blk):=tbO H X++[(5,.rows 66 D.T.length (tiR D.T)),(6,.rows 32 D.S.length (seR D.S)),(7,.rows 98 D.Q.length (quR D.Q))]
def acC (D:Ze):List AV:=[.nslice ⟨5,0,66,0,0⟩ 66 D.T.length D.T.length,.nslice ⟨6,0,32,0,0⟩ 32 D.S.length D.S.length,.nslice ⟨7,0,98,0,0⟩ 98 D.Q.length D.Q.length]
def acR (D:Ze):AV:=.tuple [.agg [.nslice ⟨8,0,66,0,0⟩ 66 D.T.length D.T.length,.nslice ⟨9,0,32,0,0⟩ 32 D.S.length D.S.length,.nslice ⟨10,0,98,0,0⟩ 98 D.Q.length D.Q.length],.top]
def acO (H:LI->LI) (X D:Ze):List (Nat×Blk):=tbO H X++[(8,.rows 66 D.T.length (tiR D.T)),(9,.rows 32 D.S.length (seR D.S)),(10,.rows 98 D.Q.length (quR D.Q))]
theorem ZgQ (H H2:LI->LI) (B:Nat) (HH:H32->H32) (X D:Ze) (x:Zw) (hB:B=100000) (hH:∀x,(H2 x).length=32) (hX:X.Lim) (hD:ZA D):
  evF (Z7u H H2 B HH) 40 8 [pt 0,.agg (acC D),.agg (({ x with what:=0}:Zw).c)] ⟨8,acB H X D⟩ (Ye 8 (.ret (acR ⟨QU D.T x.tie,D.S,D.Q⟩)) 11 (acO H ⟨VG X.T x.tie,X.S,X.Q⟩ ⟨QU D.T x.tie,D.S,D.Q⟩)):=by
 refine @Eq.mpr _ (let U:=x.tie;let b:=Zw.mk 0 U x.secret x.i x.own x.p x.q x.ht;let l:=b.tie;let q4:=AV.arr u8 32 l.inn.v;let q5:=AV.int i64 l.inID;let q6:=AV.arr u8 32 l.out.v;let q7:=AV.int i64 l.outID;let j:=b.i;let a:=b.p;let w:=b.q;let P:=D.T;let M:=P.length;let L:=D.S;let K:=L.length;let J:=D.Q;let I:=J.length;let f:=X.T;let r:=f.length;let o:=true=true/\true=true;let n:=X.S;let b0:=n.length;let m:=X.Q;let a9:=m.length;let a8:=tiV f;let G:=Ze.mk (QU P U) L J;let a7:=G.T;let F:=a7.length;let a6:=G.S;let E:=a6.length;let a5:=G.Q;let C:=a5.length;let B:=Ze.mk (VG f U) n m;let k:=B.T;let A:=k.length;let c:=[(10,7),(9,6),(8,12)];let a4:=tiV k;let z:=B.S;let a3:=z.length;let y:=B.Q;let a2:=y.length;
 ∃(x:Zw),
 Xx [AV.int i64 b.what,q4,q5,q6,q7,AV.arr u8 32 b.secret.v,AV.arr u8 32 j.hash.v,AV.arr u8 32 j.key.v,AV.int i64 j.amount,AV.int i64 j.least,AV.bool b.own,AV.bool a.own,AV.int i64 a.id,AV.int i64 a.amount,AV.arr u8 32 a.hash.v,AV.int i64 a.expiry,AV.int i64 a.stage,AV.int i64 a.fin,AV.arr u8 32 a.secret.v,AV.arr u8 32 w.key.v,AV.arr u8 32 w.next.v,AV.int i64 w.amount,AV.int i64 w.expiry,AV.int i64 b.ht] x/\
 (∀(i:Nat),i<M->true=true)/\
 (∀(i:Nat),i<K->true=true)/\
 (∀(i:Nat),i<I->true=true)/\
 ∃(D:Ze),
 let a1:=M=D.T.length;let e:=D.S.length;let a0:=K=e;let d:=D.Q.length;let Z:=I=d;let h:=decide (e=e);let g:=decide (d=d);let Y:=decide (e=E);let W:=decide (d=C);
 XY D M (tiR P) K (seR L) I (quR J)/\
 ∃(x:Zj),
 let V:=[q4,q5,q6,q7];let b4:=QU D.T x;let u:=b4.length;let t:=decide (u=u);let b3:=decide (u=F);
 (a1/\a1/\a0/\a0/\Z/\Z)/\
 Z2P V x/\
 (∀(i:Nat),i<r->o)/\
 (∀(i:Nat),i<r->o)/\
 (∀(i:Nat),i<b0->o)/\
 (∀(i:Nat),i<a9->o)/\
 ∃(X:Ze),
 Ym H X [AV.map (some 1),AV.map (some 2),AV.map (some 3),AV.map (some 4)] r (tkO f) a8 r (tkI f) a8 b0 (skV H n) (seV n) a9 (qkV m) (quV m)/\
 ∃(x:Zj),
 let R:=Ze.mk (VG X.T x) X.S X.Q;let s:=R.T;let b2:=decide (s.length=A);let b1:=tiV s;let O:=R.S;let N:=R.Q;
 Z2P V x/\Z0 t (Z0 t (Z0 h (Z0 h (Z0 g (Z0 g (Z0 t (Z0 t (Z0 h (Z0 h (Z0 g (Z0 g (Z0 b3 (Z5 (F<=u) (Z0 Y (Z5 (E<=e) (Z0 W (Z5 (C<=d) (Z0 b2 (Zc 8 c A (tkO k) a4 (tkO s) b1/\Z0 b2 (Zc 8 c A (tkI k) a4 (tkI s) b1/\Z5 (O.length=a3) (Zc 8 c a3 (skV H z) (seV z) (skV H O) (seV O)/\Z5 (N.length=a2) (Zc 8 c a2 (qkV y) (quV y) (qkV N) (quV N)/\Z0 b3 (Z6 8 c F (tiR a7) (tiR b4)/\Z0 Y (Z6 8 c E (seR a6) (seR D.S)/\Z0 W (Z6 8 c C (quR a5) (quR D.Q)/\True)))))))))))))))))))))))))) (by kernel_rfl) ?_
 conv=>zeta
 try simp only [vcA]
 try simp only [vcB]
 try simp only [vcC]
 have tr:∀{n:Nat} (i:Nat),i<n->True:=fun _ _=>trivial
 refine ⟨{ x with what:=0},⟨rfl⟩,tr,tr,tr,D,WQ hD, ?_⟩
 refine ⟨x.tie,⟨rfl,rfl,rfl,rfl,rfl,rfl⟩,⟨rfl⟩,tr,tr,tr,tr,X,Wd H hX,x.tie,⟨rfl⟩, ?_⟩
 repeat' first|apply Jv|intro _
 all_goals first
  | rfl
  | exact J2 _
  | exact H32.l _
  | exact Zn (Xp _) fun _ _=>⟨rfl,rfl⟩
  | exact Zn (XW _) fun _ _=>⟨rfl,rfl⟩
  | exact Zn (Xw H _) fun _ _=>⟨rfl,rfl⟩
  | exact Zn (XX _) fun _ _=>⟨rfl,rfl⟩
  | exact Zg ZJ fun _ _=>rfl
  | exact Zg ZW fun _ _=>rfl
  | exact Zg ZX fun _ _=>rfl
theorem ZgR (H H2:LI->LI) (B:Nat) (HH:H32->H32) (X D:Ze) (x:Zw) (hB:B=100000) (hH:∀x,(H2 x).length=32) (hX:X.Lim) (hD:ZA D):
  evF (Z7u H H2 B HH) 40 8 [pt 0,.agg (acC D),.agg (({ x with what:=1}:Zw).c)] ⟨8,acB H X D⟩ (Ye 8 (.ret (acR ⟨unD D.T x.tie.out.v x.tie.outID,D.S,D.Q⟩)) 11 (acO H ⟨unP X.T x.tie.out.v x.tie.outID,X.S,X.Q⟩ ⟨unD D.T x.tie.out.v x.tie.outID,D.S,D.Q⟩)):=by
 refine @Eq.mpr _ (let Y:=x.tie;let b:=Zw.mk 1 Y x.secret x.i x.own x.p x.q x.ht;let r:=b.tie;let d:=r.out.v;let g:=r.outID;let n:=b.i;let a:=b.p;let m:=b.q;let A:=D.T;let W:=A.length;let V:=D.S;let R:=V.length;let M:=D.Q;let L:=M.length;let c2:=d.length=32;let h:=X.T;let w:=h.length;let u:=true=true/\true=true;let t:=X.S;let c1:=t.length;let s:=X.Q;let c0:=s.length;let b9:=tiV h;let b8:=Y.out.v;let b7:=Y.outID;let K:=Ze.mk (unD A b8 b7) V M;let b6:=K.T;let J:=b6.length;let b5:=K.S;let I:=b5.length;let b4:=K.Q;let G:=b4.length;let F:=Ze.mk (unP h b8 b7) t s;let o:=F.T;let E:=o.length;let c:=[(10,7),(9,6),(8,12)];let b3:=tiV o;let C:=F.S;let b2:=C.length;let B:=F.Q;let b1:=B.length;
 ∃(x:Zw),
 Xx [AV.int i64 b.what,AV.arr u8 32 r.inn.v,AV.int i64 r.inID,AV.arr u8 32 d,AV.int i64 g,AV.arr u8 32 b.secret.v,AV.arr u8 32 n.hash.v,AV.arr u8 32 n.key.v,AV.int i64 n.amount,AV.int i64 n.least,AV.bool b.own,AV.bool a.own,AV.int i64 a.id,AV.int i64 a.amount,AV.arr u8 32 a.hash.v,AV.int i64 a.expiry,AV.int i64 a.stage,AV.int i64 a.fin,AV.arr u8 32 a.secret.v,AV.arr u8 32 m.key.v,AV.arr u8 32 m.next.v,AV.int i64 m.amount,AV.int i64 m.expiry,AV.int i64 b.ht] x/\
 (∀(i:Nat),i<W->true=true)/\
 (∀(i:Nat),i<R->true=true)/\
 (∀(i:Nat),i<L->true=true)/\
 ∃(D:Ze),
 let l:=D.T;let b0:=W=l.length;let f:=D.S.length;let a9:=R=f;let e:=D.Q.length;let a8:=L=e;let k:=List.getD l (atO l d g) Zq;let a7:=k.inn.v;let a6:=k.out.v;let a5:=unD l d g;let j:=a5.length;let a4:=decide (j=j);let a3:=decide (f=f);let a2:=decide (e=e);let a1:=decide (j=J);let a0:=decide (f=I);let Z:=decide (e=G);
 XY D W (tiR A) R (seR V) L (quR M)/\
 (b0/\b0/\a9/\a9/\a8/\a8)/\
 c2/\
 (∀(i:Nat),i<w->u)/\
 (∀(i:Nat),i<w->u)/\
 (∀(i:Nat),i<c1->u)/\
 (∀(i:Nat),i<c0->u)/\
 ∃(X:Ze),
 let U:=X.T;let z:=List.getD U (atO U d g) Zq;let c7:=z.inn.v;let c6:=z.out.v;let P:=Ze.mk (unP U d g) X.S X.Q;let y:=P.T;let c5:=decide (y.length=E);let c4:=tiV y;let O:=P.S;let N:=P.Q;let c3:=Z0 a1 (Z5 (J<=j) (Z0 a0 (Z5 (I<=f) (Z0 Z (Z5 (G<=e) (Z0 c5 (Zc 8 c E (tkO o) b3 (tkO y) c4/\Z0 c5 (Zc 8 c E (tkI o) b3 (tkI y) c4/\Z5 (O.length=b2) (Zc 8 c b2 (skV H C) (seV C) (skV H O) (seV O)/\Z5 (N.length=b1) (Zc 8 c b1 (qkV B) (quV B) (qkV N) (quV N)/\Z0 a1 (Z6 8 c J (tiR b6) (tiR a5)/\Z0 a0 (Z6 8 c I (seR b5) (seR D.S)/\Z0 Z (Z6 8 c G (quR b4) (quR D.Q)/\True)))))))))))));
 Ym H X [AV.map (some 1),AV.map (some 2),AV.map (some 3),AV.map (some 4)] w (tkO h) b9 w (tkI h) b9 c1 (skV H t) (seV t) c0 (qkV s) (quV s)/\c2/\Z5 (a7.length=32/\c7.length=32) (Z5 (a6.length=32/\c6.length=32) (Z8 (a7==c7&&(k.inID==z.inID&&(a6==c6&&k.outID==z.outID))) (Z0 a4 (Z0 a4 (Z0 a3 (Z0 a3 (Z0 a2 (Z0 a2 c3)))))) c3))) (by kernel_rfl) ?_
 conv=>zeta
 try simp only [vcA]
 try simp only [vcB]
 try simp only [vcC]
 have tr:∀{n:Nat} (i:Nat),i<n->True:=fun _ _=>trivial
 refine ⟨{ x with what:=1},⟨rfl⟩,tr,tr,tr,D,WQ hD, ?_⟩
 refine ⟨⟨rfl,rfl,rfl,rfl,rfl,rfl⟩,x.tie.out.l,tr,tr,tr,tr,X,Wd H hX,x.tie.out.l, ?_⟩
 repeat' first|apply Jv|intro _
 all_goals first
  | rfl
  | exact J2 _
  | exact H32.l _
  | exact Zn (Xp _) fun _ _=>⟨rfl,rfl⟩
  | exact Zn (XW _) fun _ _=>⟨rfl,rfl⟩
  | exact Zn (Xw H _) fun _ _=>⟨rfl,rfl⟩
  | exact Zn (XX _) fun _ _=>⟨rfl,rfl⟩
  | exact Zg ZJ fun _ _=>rfl
  | exact Zg ZW fun _ _=>rfl
  | exact Zg ZX fun _ _=>rfl
theorem ZgS (H H2:LI->LI) (B:Nat) (HH:H32->H32) (X D:Ze) (x:Zw) (hB:B=100000) (hH:∀x,(H2 x).length=32) (hX:X.Lim) (hD:ZA D):
  evF (Z7u H H2 B HH) 40 8 [pt 0,.agg (acC D),.agg (({ x with what:=2}:Zw).c)] ⟨8,acB H X D⟩ (Ye 8 (.ret (acR ⟨D.T,Z0s D.S x.secret,D.Q⟩)) 11 (acO H ⟨X.T,QV H X.S x.secret,X.Q⟩ ⟨D.T,Z0s D.S x.secret,D.Q⟩)):=by
 refine @Eq.mpr _ (let V:=x.secret;let b:=Zw.mk 2 x.tie V x.i x.own x.p x.q x.ht;let o:=b.tie;let A:=b.secret.v;let m:=b.i;let a:=b.p;let l:=b.q;let z:=D.T;let y:=z.length;let U:=D.S;let N:=U.length;let M:=D.Q;let L:=M.length;let f:=X.T;let u:=f.length;let t:=true=true/\true=true;let s:=X.S;let b2:=s.length;let r:=X.Q;let b1:=r.length;let b0:=tiV f;let K:=Ze.mk z (Z0s U V) M;let a9:=K.T;let J:=a9.length;let a8:=K.S;let I:=a8.length;let a7:=K.Q;let G:=a7.length;let F:=Ze.mk f (QV H s V) r;let n:=F.T;let E:=n.length;let c:=[(10,7),(9,12),(8,5)];let a6:=tiV n;let C:=F.S;let a5:=C.length;let B:=F.Q;let a4:=B.length;
 ∃(x:Zw),
 Xx [AV.int i64 b.what,AV.arr u8 32 o.inn.v,AV.int i64 o.inID,AV.arr u8 32 o.out.v,AV.int i64 o.outID,AV.arr u8 32 A,AV.arr u8 32 m.hash.v,AV.arr u8 32 m.key.v,AV.int i64 m.amount,AV.int i64 m.least,AV.bool b.own,AV.bool a.own,AV.int i64 a.id,AV.int i64 a.amount,AV.arr u8 32 a.hash.v,AV.int i64 a.expiry,AV.int i64 a.stage,AV.int i64 a.fin,AV.arr u8 32 a.secret.v,AV.arr u8 32 l.key.v,AV.arr u8 32 l.next.v,AV.int i64 l.amount,AV.int i64 l.expiry,AV.int i64 b.ht] x/\
 (∀(i:Nat),i<y->true=true)/\
 (∀(i:Nat),i<N->true=true)/\
 (∀(i:Nat),i<L->true=true)/\
 ∃(D:Ze),
 let e:=D.T.length;let a3:=y=e;let a2:=N=D.S.length;let d:=D.Q.length;let a1:=L=d;let k:=decide (e=e);let j:=decide (d=d);let a0:=decide (e=J);let Z:=decide (d=G);
 XY D y (tiR z) N (seR U) L (quR M)/\
 ∃(x:H32),
 let Y:=Z0s D.S x;let h:=Y.length;let g:=decide (h=h);let W:=decide (h=I);
 (a3/\a3/\a2/\a2/\a1/\a1)/\
 A=x.v/\
 (∀(i:Nat),i<u->t)/\
 (∀(i:Nat),i<u->t)/\
 (∀(i:Nat),i<b2->t)/\
 (∀(i:Nat),i<b1->t)/\
 ∃(X:Ze),
 Ym H X [AV.map (some 1),AV.map (some 2),AV.map (some 3),AV.map (some 4)] u (tkO f) b0 u (tkI f) b0 b2 (skV H s) (seV s) b1 (qkV r) (quV r)/\
 ∃(x:H32),
 let R:=Ze.mk X.T (QV H X.S x) X.Q;let w:=R.T;let b4:=decide (w.length=E);let b3:=tiV w;let P:=R.S;let O:=R.Q;
 A=x.v/\Z0 k (Z0 k (Z0 g (Z0 g (Z0 j (Z0 j (Z0 k (Z0 k (Z0 g (Z0 g (Z0 j (Z0 j (Z0 a0 (Z5 (J<=e) (Z0 W (Z5 (I<=h) (Z0 Z (Z5 (G<=d) (Z0 b4 (Zc 8 c E (tkO n) a6 (tkO w) b3/\Z0 b4 (Zc 8 c E (tkI n) a6 (tkI w) b3/\Z5 (P.length=a5) (Zc 8 c a5 (skV H C) (seV C) (skV H P) (seV P)/\Z5 (O.length=a4) (Zc 8 c a4 (qkV B) (quV B) (qkV O) (quV O)/\Z0 a0 (Z6 8 c J (tiR a9) (tiR D.T)/\Z0 W (Z6 8 c I (seR a8) (seR Y)/\Z0 Z (Z6 8 c G (quR a7) (quR D.Q)/\True)))))))))))))))))))))))))) (by kernel_rfl) ?_
 conv=>zeta
 try simp only [vcA]
 try simp only [vcB]
 try simp only [vcC]
 have tr:∀{n:Nat} (i:Nat),i<n->True:=fun _ _=>trivial
 refine ⟨{ x with what:=2},⟨rfl⟩,tr,tr,tr,D,WQ hD, ?_⟩
 refine ⟨x.secret,⟨rfl,rfl,rfl,rfl,rfl,rfl⟩,rfl,tr,tr,tr,tr,X,Wd H hX,x.secret,rfl, ?_⟩
 repeat' first|apply Jv|intro _
 all_goals first
  | rfl
  | exact J2 _
  | exact H32.l _
  | exact Zn (Xp _) fun _ _=>⟨rfl,rfl⟩
  | exact Zn (XW _) fun _ _=>⟨rfl,rfl⟩
  | exact Zn (Xw H _) fun _ _=>⟨rfl,rfl⟩
  | exact Zn (XX _) fun _ _=>⟨rfl,rfl⟩
  | exact Zg ZJ fun _ _=>rfl
  | exact Zg ZW fun _ _=>rfl
  | exact Zg ZX fun _ _=>rfl
theorem ZgT (H H2:LI->LI) (B:Nat) (HH:H32->H32) (X D:Ze) (x:Zw) (hB:B=100000) (hH:∀x,(H2 x).length=32) (hX:X.Lim) (hD:ZA D):
  evF (Z7u H H2 B HH) 40 8 [pt 0,.agg (acC D),.agg (({ x with what:=3}:Zw).c)] ⟨8,acB H X D⟩ (Ye 8 (.ret (acR ⟨D.T,D.S,Z18 H2 D.Q (Yu HH x)⟩)) 11 (acO H ⟨X.T,X.S,Z0r H X.Q (Yu HH x)⟩ ⟨D.T,D.S,Z18 H2 D.Q (Yu HH x)⟩)):=by
 refine @Eq.mpr _ (let b:=Zw.mk 3 x.tie x.secret x.i x.own x.p x.q x.ht;let r:=b.tie;let G:=b.secret.v;let n:=b.i;let a:=b.p;let m:=b.q;let B:=D.T;let A:=B.length;let z:=D.S;let V:=z.length;let O:=D.Q;let N:=O.length;let f:=X.T;let w:=f.length;let u:=true=true/\true=true;let t:=X.S;let b3:=t.length;let s:=X.Q;let b2:=s.length;let b1:=tiV f;let M:=Ze.mk B z (Z18 H2 O (Yu HH x));let b0:=M.T;let L:=b0.length;let a9:=M.S;let K:=a9.length;let a8:=M.Q;let J:=a8.length;let I:=Ze.mk f t (Z0r H s (Yu HH x));let o:=I.T;let F:=o.length;let c:=[(10,12),(9,6),(8,5)];let a7:=tiV o;let E:=I.S;let a6:=E.length;let C:=I.Q;let a5:=C.length;
 ∃(x:Zw),
 let l:=Yu HH x;
 Xx [AV.int i64 b.what,AV.arr u8 32 r.inn.v,AV.int i64 r.inID,AV.arr u8 32 r.out.v,AV.int i64 r.outID,AV.arr u8 32 G,AV.arr u8 32 n.hash.v,AV.arr u8 32 n.key.v,AV.int i64 n.amount,AV.int i64 n.least,AV.bool b.own,AV.bool a.own,AV.int i64 a.id,AV.int i64 a.amount,AV.arr u8 32 a.hash.v,AV.int i64 a.expiry,AV.int i64 a.stage,AV.int i64 a.fin,AV.arr u8 32 a.secret.v,AV.arr u8 32 m.key.v,AV.arr u8 32 m.next.v,AV.int i64 m.amount,AV.int i64 m.expiry,AV.int i64 b.ht] x/\
 (∀(i:Nat),i<A->true=true)/\
 (∀(i:Nat),i<V->true=true)/\
 (∀(i:Nat),i<N->true=true)/\
 ∃(D:Ze),
 let e:=D.T.length;let a4:=A=e;let d:=D.S.length;let a3:=V=d;let a2:=N=D.Q.length;let k:=decide (e=e);let j:=decide (d=d);let a1:=decide (e=L);let a0:=decide (d=K);
 XY D A (tiR B) V (seR z) N (quR O)/\
 ∃(x:ZH),
 let Z:=[AV.arr u8 32 l.hash.v,AV.arr u8 32 l.key.v,AV.int i64 l.amount,AV.int i64 l.least];let Y:=Z18 H2 D.Q x;let h:=Y.length;let g:=decide (h=h);let W:=decide (h=J);
 (a4/\a4/\a3/\a3/\a2/\a2)/\
 (Z=ZH.ic x/\G=x.secret.v)/\
 (∀(i:Nat),i<w->u)/\
 (∀(i:Nat),i<w->u)/\
 (∀(i:Nat),i<b3->u)/\
 (∀(i:Nat),i<b2->u)/\
 ∃(X:Ze),
 Ym H X [AV.map (some 1),AV.map (some 2),AV.map (some 3),AV.map (some 4)] w (tkO f) b1 w (tkI f) b1 b3 (skV H t) (seV t) b2 (qkV s) (quV s)/\
 ∃(q:ZH),
 let U:=Ze.mk X.T X.S (Z0r H X.Q q);let y:=U.T;let b5:=decide (y.length=F);let b4:=tiV y;let R:=U.S;let P:=U.Q;
 (Z=ZH.ic q/\G=q.secret.v)/\Z0 k (Z0 k (Z0 j (Z0 j (Z0 g (Z0 g (Z0 k (Z0 k (Z0 j (Z0 j (Z0 g (Z0 g (Z0 a1 (Z5 (L<=e) (Z0 a0 (Z5 (K<=d) (Z0 W (Z5 (J<=h) (Z0 b5 (Zc 8 c F (tkO o) a7 (tkO y) b4/\Z0 b5 (Zc 8 c F (tkI o) a7 (tkI y) b4/\Z5 (R.length=a6) (Zc 8 c a6 (skV H E) (seV E) (skV H R) (seV R)/\Z5 (P.length=a5) (Zc 8 c a5 (qkV C) (quV C) (qkV P) (quV P)/\Z0 a1 (Z6 8 c L (tiR b0) (tiR D.T)/\Z0 a0 (Z6 8 c K (seR a9) (seR D.S)/\Z0 W (Z6 8 c J (quR a8) (quR Y)/\True)))))))))))))))))))))))))) (by kernel_rfl) ?_
 conv=>zeta
 try simp only [vcA]
 try simp only [vcB]
 try simp only [vcC]
 have tr:∀{n:Nat} (i:Nat),i<n->True:=fun _ _=>trivial
 refine ⟨{ x with what:=3},⟨rfl⟩,tr,tr,tr,D,WQ hD, ?_⟩
 refine ⟨Yu HH x,⟨rfl,rfl,rfl,rfl,rfl,rfl⟩,⟨rfl,rfl⟩,tr,tr,tr,tr,X,Wd H hX,Yu HH x,⟨rfl,rfl⟩, ?_⟩
 repeat' first|apply Jv|intro _
 all_goals first
  | rfl
  | exact J2 _
  | exact H32.l _
  | exact Zn (Xp _) fun _ _=>⟨rfl,rfl⟩
  | exact Zn (XW _) fun _ _=>⟨rfl,rfl⟩
  | exact Zn (Xw H _) fun _ _=>⟨rfl,rfl⟩
  | exact Zn (XX _) fun _ _=>⟨rfl,rfl⟩
  | exact Zg ZJ fun _ _=>rfl
  | exact Zg ZW fun _ _=>rfl
  | exact Zg ZX fun _ _=>rfl
theorem ZgU (H H2:LI->LI) (B:Nat) (HH:H32->H32) (X D:Ze) (x:Zw) (hB:B=100000) (hH:∀x,(H2 x).length=32) (hX:X.Lim) (hD:ZA D):
  evF (Z7u H H2 B HH) 40 8 [pt 0,.agg (acC D),.agg (({ x with what:=4}:Zw).c)] ⟨8,acB H X D⟩ (Ye 8 (.ret (acR ⟨D.T,D.S,Z19 D.Q (Yu HH x).hash.v⟩)) 11 (acO H ⟨X.T,X.S,Z16 X.Q (Yu HH x).hash.v⟩ ⟨D.T,D.S,Z19 D.Q (Yu HH x).hash.v⟩)):=by
 refine @Eq.mpr _ (let b:=Zw.mk 4 x.tie x.secret x.i x.own x.p x.q x.ht;let n:=b.tie;let l:=b.i;let a:=b.p;let k:=b.q;let A:=D.T;let z:=A.length;let y:=D.S;let w:=y.length;let R:=D.Q;let N:=R.length;let g:=X.T;let t:=g.length;let s:=true=true/\true=true;let r:=X.S;let b6:=r.length;let o:=X.Q;let b5:=o.length;let b4:=tiV g;let b3:=(Yu HH x).hash.v;let K:=Ze.mk A y (Z19 R b3);let b2:=K.T;let J:=b2.length;let b1:=K.S;let I:=b1.length;let b0:=K.Q;let G:=b0.length;let F:=Ze.mk g r (Z16 o b3);let m:=F.T;let E:=m.length;let c:=[(10,12),(9,6),(8,5)];let a9:=tiV m;let C:=F.S;let a8:=C.length;let B:=F.Q;let a7:=B.length;
 ∃(x:Zw),
 let f:=(Yu HH x).hash.v;let a6:=f.length=32;
 Xx [AV.int i64 b.what,AV.arr u8 32 n.inn.v,AV.int i64 n.inID,AV.arr u8 32 n.out.v,AV.int i64 n.outID,AV.arr u8 32 b.secret.v,AV.arr u8 32 l.hash.v,AV.arr u8 32 l.key.v,AV.int i64 l.amount,AV.int i64 l.least,AV.bool b.own,AV.bool a.own,AV.int i64 a.id,AV.int i64 a.amount,AV.arr u8 32 a.hash.v,AV.int i64 a.expiry,AV.int i64 a.stage,AV.int i64 a.fin,AV.arr u8 32 a.secret.v,AV.arr u8 32 k.key.v,AV.arr u8 32 k.next.v,AV.int i64 k.amount,AV.int i64 k.expiry,AV.int i64 b.ht] x/\
 (∀(i:Nat),i<z->true=true)/\
 (∀(i:Nat),i<w->true=true)/\
 (∀(i:Nat),i<N->true=true)/\
 ∃(D:Ze),
 let e:=D.T.length;let a5:=z=e;let d:=D.S.length;let a4:=w=d;let j:=D.Q;let a3:=N=j.length;let a2:=(List.getD j (atQ j f) ZK).secret.v;let a1:=decide (e=e);let a0:=decide (d=d);let Z:=Z19 j f;let h:=Z.length;let Y:=decide (h=h);let W:=decide (e=J);let V:=decide (d=I);let U:=decide (h=G);
 XY D z (tiR A) w (seR y) N (quR R)/\
 (a5/\a5/\a4/\a4/\a3/\a3)/\
 a6/\
 (∀(i:Nat),i<t->s)/\
 (∀(i:Nat),i<t->s)/\
 (∀(i:Nat),i<b6->s)/\
 (∀(i:Nat),i<b5->s)/\
 ∃(X:Ze),
 let P:=X.Q;let c0:=(List.getD P (atQ P f) ZK).secret.v;let O:=Ze.mk X.T X.S (Z16 P f);let u:=O.T;let b9:=decide (u.length=E);let b8:=tiV u;let M:=O.S;let L:=O.Q;let b7:=Z0 W (Z5 (J<=e) (Z0 V (Z5 (I<=d) (Z0 U (Z5 (G<=h) (Z0 b9 (Zc 8 c E (tkO m) a9 (tkO u) b8/\Z0 b9 (Zc 8 c E (tkI m) a9 (tkI u) b8/\Z5 (M.length=a8) (Zc 8 c a8 (skV H C) (seV C) (skV H M) (seV M)/\Z5 (L.length=a7) (Zc 8 c a7 (qkV B) (quV B) (qkV L) (quV L)/\Z0 W (Z6 8 c J (tiR b2) (tiR D.T)/\Z0 V (Z6 8 c I (seR b1) (seR D.S)/\Z0 U (Z6 8 c G (quR b0) (quR Z)/\True)))))))))))));
 Ym H X [AV.map (some 1),AV.map (some 2),AV.map (some 3),AV.map (some 4)] t (tkO g) b4 t (tkI g) b4 b6 (skV H r) (seV r) b5 (qkV o) (quV o)/\a6/\Z5 (a2.length=32/\c0.length=32) (Z8 (a2==c0) (Z0 a1 (Z0 a1 (Z0 a0 (Z0 a0 (Z0 Y (Z0 Y b7)))))) b7)) (by kernel_rfl) ?_
 conv=>zeta
 try simp only [vcA]
 try simp only [vcB]
 try simp only [vcC]
 have tr:∀{n:Nat} (i:Nat),i<n->True:=fun _ _=>trivial
 refine ⟨{ x with what:=4},⟨rfl⟩,tr,tr,tr,D,WQ hD, ?_⟩
 refine ⟨⟨rfl,rfl,rfl,rfl,rfl,rfl⟩,(Yu HH x).hash.l,tr,tr,tr,tr,X,Wd H hX,(Yu HH x).hash.l, ?_⟩
 repeat' first|apply Jv|intro _
 all_goals first
  | rfl
  | exact J2 _
  | exact H32.l _
  | exact Zn (Xp _) fun _ _=>⟨rfl,rfl⟩
  | exact Zn (XW _) fun _ _=>⟨rfl,rfl⟩
  | exact Zn (Xw H _) fun _ _=>⟨rfl,rfl⟩
  | exact Zn (XX _) fun _ _=>⟨rfl,rfl⟩
  | exact Zg ZJ fun _ _=>rfl
  | exact Zg ZW fun _ _=>rfl
  | exact Zg ZX fun _ _=>rfl
theorem ZgV (H H2:LI->LI) (B:Nat) (HH:H32->H32) (X D:Ze) (x:Zw) (hB:B=100000) (hH:∀x,(H2 x).length=32) (hX:X.Lim) (hD:ZA D):
  evF (Z7u H H2 B HH) 40 8 [pt 0,.agg (acC D),.agg (({ x with what:=5}:Zw).c)] ⟨8,acB H X D⟩ (Ye 8 (.ret (acR ⟨D.T,Z17 H2 D.S (H2 x.secret.v),D.Q⟩)) 11 (acO H ⟨X.T,Z14 H X.S (H2 x.secret.v),X.Q⟩ ⟨D.T,Z17 H2 D.S (H2 x.secret.v),D.Q⟩)):=by
 refine @Eq.mpr _ (let b:=Zw.mk 5 x.tie x.secret x.i x.own x.p x.q x.ht;let y:=b.tie;let N:=b.secret.v;let o:=b.i;let a:=b.p;let n:=b.q;let C:=N.length;let q8:=decide (C=32);let q9:=decide (32=C);let c2:=decide (C<=B);let Y:=D.T;let m:=Y.length;let b6:=decide (m=m);let R:=D.S;let l:=R.length;let b5:=decide (l=l);let P:=D.Q;let k:=P.length;let b4:=decide (k=k);let O:=H2 N;let b3:=O.length=32;let j:=X.T;let w:=j.length;let u:=true=true/\true=true;let t:=X.S;let b2:=t.length;let s:=X.Q;let b1:=s.length;let b0:=tiV j;let a9:=H2 x.secret.v;let M:=Ze.mk Y (Z17 H2 R a9) P;let a8:=M.T;let L:=a8.length;let a7:=M.S;let K:=a7.length;let a6:=M.Q;let J:=a6.length;let I:=Ze.mk j (Z14 H t a9) s;let r:=I.T;let G:=r.length;let c:=[(10,7),(9,14),(8,5)];let a5:=tiV r;let F:=I.S;let a4:=F.length;let E:=I.Q;let a3:=E.length;
 ∃(x:Zw),
 Xx [AV.int i64 b.what,AV.arr u8 32 y.inn.v,AV.int i64 y.inID,AV.arr u8 32 y.out.v,AV.int i64 y.outID,AV.arr u8 32 N,AV.arr u8 32 o.hash.v,AV.arr u8 32 o.key.v,AV.int i64 o.amount,AV.int i64 o.least,AV.bool b.own,AV.bool a.own,AV.int i64 a.id,AV.int i64 a.amount,AV.arr u8 32 a.hash.v,AV.int i64 a.expiry,AV.int i64 a.stage,AV.int i64 a.fin,AV.arr u8 32 a.secret.v,AV.arr u8 32 n.key.v,AV.arr u8 32 n.next.v,AV.int i64 n.amount,AV.int i64 n.expiry,AV.int i64 b.ht] x/\
 Z0 q8 (Z0 q9 (Z0 c2 (Z0 b6 (Z0 b6 (Z0 b5 (Z0 b5 (Z0 b4 (Z0 b4 ((∀(i:Nat),i<m->true=true)/\
 (∀(i:Nat),i<l->true=true)/\
 (∀(i:Nat),i<k->true=true)/\
 ∃(D:Ze),
 let h:=D.T.length;let a2:=m=h;let a1:=l=D.S.length;let g:=D.Q.length;let a0:=k=g;let d:=decide (h=h);let Z:=Z17 H2 D.S O;let A:=Z.length;let f:=decide (A=A);let e:=decide (g=g);let c1:=decide (h=L);let c0:=decide (A=K);let b9:=decide (g=J);
 XY D m (tiR Y) l (seR R) k (quR P)/\
 (a2/\a2/\a1/\a1/\a0/\a0)/\
 b3/\
 Z0 q8 (Z0 q9 (Z0 c2 (Z0 d (Z0 d (Z0 f (Z0 f (Z0 e (Z0 e ((∀(i:Nat),i<w->u)/\
 (∀(i:Nat),i<w->u)/\
 (∀(i:Nat),i<b2->u)/\
 (∀(i:Nat),i<b1->u)/\
 ∃(X:Ze),
 let W:=Ze.mk X.T (Z14 H X.S O) X.Q;let z:=W.T;let b8:=decide (z.length=G);let b7:=tiV z;let V:=W.S;let U:=W.Q;
 Ym H X [AV.map (some 1),AV.map (some 2),AV.map (some 3),AV.map (some 4)] w (tkO j) b0 w (tkI j) b0 b2 (skV H t) (seV t) b1 (qkV s) (quV s)/\
 b3/\Z0 d (Z0 d (Z0 f (Z0 f (Z0 e (Z0 e (Z0 d (Z0 d (Z0 f (Z0 f (Z0 e (Z0 e (Z0 c1 (Z5 (L<=h) (Z0 c0 (Z5 (K<=A) (Z0 b9 (Z5 (J<=g) (Z0 b8 (Zc 8 c G (tkO r) a5 (tkO z) b7/\Z0 b8 (Zc 8 c G (tkI r) a5 (tkI z) b7/\Z5 (V.length=a4) (Zc 8 c a4 (skV H F) (seV F) (skV H V) (seV V)/\Z5 (U.length=a3) (Zc 8 c a3 (qkV E) (quV E) (qkV U) (quV U)/\Z0 c1 (Z6 8 c L (tiR a8) (tiR D.T)/\Z0 c0 (Z6 8 c K (seR a7) (seR Z)/\Z0 b9 (Z6 8 c J (quR a6) (quR D.Q)/\True)))))))))))))))))))))))))))))))))))))))))))) (by kernel_rfl) ?_
 conv=>zeta
 try simp only [vcA]
 try simp only [vcB]
 try simp only [vcC]
 subst hB
 have hl:=x.secret.l
 have hB:x.secret.v.length<=100000:=by omega
 have tr:∀{n:Nat} (i:Nat),i<n->True:=fun _ _=>trivial
 refine ⟨{ x with what:=5},⟨rfl⟩,hl,hl.symm,hB,tr,tr,tr,D,WQ hD,⟨rfl,rfl,rfl,rfl,rfl,rfl⟩,hH _,hl,hl.symm,hB,tr,tr,tr,tr,X,Wd H hX,hH _, ?_⟩
 repeat' first|apply Jv|intro _
 all_goals first
  | rfl
  | exact J2 _
  | exact H32.l _
  | exact Zn (Xp _) fun _ _=>⟨rfl,rfl⟩
  | exact Zn (XW _) fun _ _=>⟨rfl,rfl⟩
  | exact Zn (Xw H _) fun _ _=>⟨rfl,rfl⟩
  | exact Zn (XX _) fun _ _=>⟨rfl,rfl⟩
  | exact Zg ZJ fun _ _=>rfl
  | exact Zg ZW fun _ _=>rfl
  | exact Zg ZX fun _ _=>rfl
def Z0v:Y2:=fun _ _ _=>False
theorem X0 {f:FuncId} (args:List AV) (h:Z7) (K:KO) (hl:Z0v args h K):Zi PP f args h K:=hl.elim
noncomputable def Zbz (H H2:LI->LI) (B:Nat) (HH:H32->H32):Zh:=((((((((((((((((((((((((G0.withP 77 (Z3T H2 B)).withF 17 Z0v).withF 18 Z0v).withF 23 Z0v).withF 30 Z0v).withF 25 Z0v).withF 27 Z0v).withF 31 (Z0R H)).withF 33 (Z0R H)).withF 35 (ZcP H)).withF 37 (ZcQ H)).withF 39 (Z8v H)).withF 20 Z0v).withF 21 Z0v).withF 22 Z0v).withF 28 Z0v).withF 24 Z0v).withF 26 Z0v).withP 32 Z2T).withP 34 Z8x).withP 36 (Z5Z H2)).withP 38 Z46).withP 40 Z8y).withP 19 (Z65 HH))
theorem Z66:(Zbz ZB ZP 100000 hhD).Ok:=
 Zh.withP_ok (Zh.withP_ok (Zh.withP_ok (Zh.withP_ok (Zh.withP_ok (Zh.withP_ok (Zh.withF_ok (Zh.withF_ok (Zh.withF_ok (Zh.withF_ok (Zh.withF_ok (Zh.withF_ok (Zh.withF_ok (Zh.withF_ok (Zh.withF_ok (Zh.withF_ok (Zh.withF_ok (Zh.withF_ok (Zh.withF_ok (Zh.withF_ok (Zh.withF_ok (Zh.withF_ok (Zh.withF_ok UB X0) X0) X0) X0) X0) X0) (Z2Q ZB)) (Z4V ZB)) Z4W) (Z4X ZB)) (Z2R ZB)) X0) X0) X0) X0) X0) X0) UC) Z2U) Z00) Uh) Z2V) Z2W
theorem ZgW (H H2:LI->LI) (B:Nat) (HH:H32->H32) (X D:Ze) (x:Zw) (hB:B=100000) (hH:∀x,(H2 x).length=32) (hX:X.Lim) (hD:ZA D) (hw:x.what≠0/\x.what≠1/\x.what≠2/\x.what≠3/\x.what≠4/\x.what≠5):
  evF (Zbz H H2 B HH) 40 8 [pt 0,.agg (acC D),.agg x.c] ⟨8,acB H X D⟩ (Ye 8 (.ret (acR D)) 11 (acO H X D)):=by
 refine @Eq.mpr _ (let F:=x.what;let q2:=x.tie;let q3:=q2.inn.v;let q4:=q2.out.v;let q5:=q2.outID;let q6:=x.secret.v;let q7:=x.i;let s:=x.p;let q9:=s.own;let g2:=AV.bool q9;let g1:=s.id;let g0:=AV.int i64 g1;let f9:=s.amount;let f8:=AV.int i64 f9;let f7:=s.hash.v;let n0:=AV.arr u8 32 f7;let f6:=s.expiry;let m9:=AV.int i64 f6;let f3:=s.stage;let m3:=AV.int i64 f3;let f1:=s.fin;let l4:=AV.int i64 f1;let e8:=s.secret.v;let k7:=AV.arr u8 32 e8;let b0:=x.q;let e5:=b0.key.v;let e3:=AV.arr u8 32 e5;let e0:=b0.next.v;let d3:=AV.arr u8 32 e0;let d2:=b0.amount;let d1:=AV.int i64 d2;let c9:=b0.expiry;let c8:=AV.int i64 c9;let c7:=x.ht;let c6:=q6.length;let c5:=decide (c6=32);let c4:=decide (32=c6);let c3:=decide (c6<=B);let g:=D.T.length;let l:=decide (g=g);let f:=D.S.length;let k:=decide (f=f);let d:=D.Q.length;let j:=decide (d=d);let a7:=X.T;let n:=a7.length;let a:=true=true/\true=true;let c2:=X.S;let A:=c2.length;let c1:=X.Q;let z:=c1.length;let N:=[AV.map (some 1),AV.map (some 2),AV.map (some 3),AV.map (some 4)];let a6:=tkO a7;let y:=tiV a7;let a5:=tkI a7;let a4:=skV H c2;let a3:=seV c2;let a2:=qkV c1;let a1:=quV c1;let i0:=q4.length=32;let M:=decide (0+g<=g);let L:=decide (0+f<=f);let K:=decide (0+d<=d);let J:=decide ((66:Nat)=66/\g=g);let I:=decide ((32:Nat)=32/\f=f);let G:=decide ((98:Nat)=98/\d=d);let w:=tiR D.T;let u:=seR D.S;let t:=quR D.Q;let h9:=q3.length=32;let h8:=H2 q6;let h7:=h8.length=32;let h6:=[m9,m3,l4,k7];let h5:=decide (c7=c7);let h4:=e5=e5;let h3:=e0=e0;let h2:=decide (d2=d2);let h1:=decide (c9=c9);let g9:=decide (q9=q9);let g8:=decide (g1=g1);let g7:=decide (f9=f9);let g6:=decide (f6=f6);let g5:=decide (f3=f3);let g4:=decide (f1=f1);let g3:=e8=e8;let c0:=decide (g<=g);let b9:=decide (f<=f);let b8:=decide (d<=d);let m:=[(10,7),(9,6),(8,5)];let b7:=Z0 l (Z6 8 m g w w/\Z0 k (Z6 8 m f u u/\Z0 j (Z6 8 m d t t/\True)));
 ∃(x_1:Zw),
 let a0:=(Yu HH x_1).hash.v;let m8:=a0.length=32;
 Xx [AV.int i64 F,AV.arr u8 32 q3,AV.int i64 q2.inID,AV.arr u8 32 q4,AV.int i64 q5,AV.arr u8 32 q6,AV.arr u8 32 q7.hash.v,AV.arr u8 32 q7.key.v,AV.int i64 q7.amount,AV.int i64 q7.least,AV.bool x.own,g2,g0,f8,n0,m9,m3,l4,k7,e3,d3,d1,c8,AV.int i64 c7] x_1/\
 Z8 (F==0) False (Z8 (F==1) False (Z8 (F==2) False (Z8 (F==3) False (Z8 (F==4) False (Z8 (F==5) (Z0 c5 (Z0 c4 (Z0 c3 (Z0 l (Z0 l (Z0 k (Z0 k (Z0 j (Z8 j False False))))))))) ((∀(i:Nat),i<n->a)/\
 (∀(i:Nat),i<n->a)/\
 (∀(i:Nat),i<A->a)/\
 (∀(i:Nat),i<z->a)/\
 ∃(X:Ze),
 let b6:=X.T;let b5:=b6.length;let f5:=X.S;let m7:=f5.length;let f4:=X.Q;let m6:=f4.length;let m5:=tiV b6;
 Ym H X N n a6 y n a5 y A a4 a3 z a2 a1/\
 i0/\
 ∀(x_2:Zj),
 let m4:=x_2.inn.v;let m2:=x_2.out.v;
 ∀(b:Bool),
 Z0 M ((∀(i:Nat),i<g->true=true)/\
 Z0 L ((∀(i:Nat),i<f->true=true)/\
 Z0 K ((∀(i:Nat),i<d->true=true)/\
 Z0 J (Z0 I (Z0 G (∃(D:Ze),
 let f2:=D.T;let m1:=atO f2 q4 q5;let b4:=List.getD f2 m1 Zq;let m0:=b4.inn.v;let l9:=decide (m4.length=32/\m0.length=32);let l8:=b4.out.v;let l7:=decide (m2.length=32/\l8.length=32);let l6:=m4==m0&&(x_2.inID==b4.inID&&(m2==l8&&x_2.outID==b4.outID));let l5:=b==Nat.blt m1 (f2.length);
 Yg D g (Zp 0 w) f (Zp 0 u) d (Zp 0 t)/\
 i0/\
 (∀(i:Nat),i<b5->a)/\
 (∀(i:Nat),i<b5->a)/\
 (∀(i:Nat),i<m7->a)/\
 (∀(i:Nat),i<m6->a)/\
 ∃(X:Ze),
 let b3:=X.T;let b2:=b3.length;let f0:=X.S;let l3:=f0.length;let e9:=X.Q;let l2:=e9.length;let l1:=tiV b3;
 Ym H X N b5 (tkO b6) m5 b5 (tkI b6) m5 m7 (skV H f5) (seV f5) m6 (qkV f4) (quV f4)/\
 h9/\
 ∀(x_3:Zj),
 let l0:=x_3.inn.v;let k9:=x_3.out.v;
 ∀(b:Bool),
 Z0 M ((∀(i:Nat),i<g->true=true)/\
 Z0 L ((∀(i:Nat),i<f->true=true)/\
 Z0 K ((∀(i:Nat),i<d->true=true)/\
 Z0 J (Z0 I (Z0 G (∃(D:Ze),
 Yg D g (Zp 0 w) f (Zp 0 u) d (Zp 0 t)/\
 h9/\
 ∀(x_4:Zj),
 let k8:=x_4.inn.v;let k6:=decide (l0.length=32/\k8.length=32);let k5:=x_4.out.v;let k4:=decide (k9.length=32/\k5.length=32);let k3:=l0==k8&&(x_3.inID==x_4.inID&&(k9==k5&&x_3.outID==x_4.outID));
 ∀(b_1:Bool),
 Z0 c5 (Z0 c4 (Z0 c3 ((∀(i:Nat),i<b2->a)/\
 (∀(i:Nat),i<b2->a)/\
 (∀(i:Nat),i<l3->a)/\
 (∀(i:Nat),i<l2->a)/\
 ∃(X:Ze),
 let b1:=X.T;let a9:=b1.length;let e7:=X.S;let k2:=e7.length;let e6:=X.Q;let k1:=e6.length;let k0:=tiV b1;
 Ym H X N b2 (tkO b3) l1 b2 (tkI b3) l1 l3 (skV H f0) (seV f0) l2 (qkV e9) (quV e9)/\
 h7/\
 ∀(x_5:H32) (b_2:Bool),
 Z0 c5 (Z0 c4 (Z0 c3 (Z0 l (Z0 l (Z0 k (Z0 k (Z0 j (Z0 j (Z0 M ((∀(i:Nat),i<g->true=true)/\
 Z0 L ((∀(i:Nat),i<f->true=true)/\
 Z0 K ((∀(i:Nat),i<d->true=true)/\
 Z0 J (Z0 I (Z0 G (∃(D:Ze),
 let e4:=D.S;let j9:=Xt H2 e4 h8;let j8:=(List.getD e4 j9 h0).v;let j7:=decide (x_5.v.length=32/\j8.length=32);let j6:=x_5.v==j8;let j5:=b_2==Nat.blt j9 (e4.length);
 Yg D g (Zp 0 w) f (Zp 0 u) d (Zp 0 t)/\
 h7/\
 (∀(i:Nat),i<a9->a)/\
 (∀(i:Nat),i<a9->a)/\
 (∀(i:Nat),i<k2->a)/\
 (∀(i:Nat),i<k1->a)/\
 ∃(X:Ze),
 let a8:=X.T;let r:=a8.length;let e2:=X.S;let Z:=e2.length;let e1:=X.Q;let Y:=e1.length;let d9:=tkO a8;let O:=tiV a8;let d8:=tkI a8;let d7:=skV H e2;let d6:=seV e2;let d5:=qkV e1;let d4:=quV e1;let j4:=decide (r=n);let h:=Z0 l (Z0 c0 (Z0 k (Z0 b9 (Z0 j (Z0 b8 (Z0 j4 (Zc 8 m n a6 y d9 O/\Z0 j4 (Zc 8 m n a5 y d8 O/\Z5 (Z=A) (Zc 8 m A a4 a3 d7 d6/\Z5 (Y=z) (Zc 8 m z a2 a1 d5 d4/\b7))))))))));
 Ym H X N a9 (tkO b1) k0 a9 (tkI b1) k0 k2 (skV H e7) (seV e7) k1 (qkV e6) (quV e6)/\
 m8/\
 ∀(q:ZH),
 let j3:=q.hash.v;let j2:=q.key.v;let j1:=q.secret.v;
 ∀(b_3:Bool),
 Z0 M ((∀(i:Nat),i<g->true=true)/\
 Z0 L ((∀(i:Nat),i<f->true=true)/\
 Z0 K ((∀(i:Nat),i<d->true=true)/\
 Z0 J (Z0 I (Z0 G (∃(D:Ze),
 let d0:=D.Q;let j0:=atQ d0 a0;let W:=List.getD d0 j0 ZK;let i9:=W.hash.v;let i8:=decide (j3.length=32/\i9.length=32);let i7:=W.key.v;let i6:=decide (j2.length=32/\i7.length=32);let i5:=j3==i9&&(j2==i7&&(q.amount==W.amount&&q.least==W.least));let i4:=W.secret.v;let i3:=decide (j1.length=32/\i4.length=32);let i2:=j1==i4;let i1:=b_3==Nat.blt j0 (d0.length);
 Yg D g (Zp 0 w) f (Zp 0 u) d (Zp 0 t)/\
 m8/\
 Z8 x.own (Z0 l9 (Z0 l7 (Z8 l6 (Z8 l5 (Z0 k6 (Z0 k4 (Z8 k3 (Z8 (b==b_1) (Z0 j7 (Z8 j6 (Z8 j5 (Z0 i8 (Z0 i6 (Z8 i5 (Z0 i3 (Z8 i2 (Z8 i1 ((∀(i:Nat),i<r->a)/\
 (∀(i:Nat),i<r->a)/\
 (∀(i:Nat),i<Z->a)/\
 (∀(i:Nat),i<Y->a)/\
 ∃(X:Ze),
 let o:=X.T;let V:=decide (o.length=n);let U:=tiV o;let E:=X.S;let C:=X.Q;
 Ym H X N r d9 O r d8 O Z d7 d6 Y d5 d4/\
 ∃(p:Xe),
 let R:=g2::g0::f8::AV.arr u8 32 a0::h6;
 ∃(q:Xf),
 let P:=[e3,d3,d1,c8];
 (R=Xe.c p/\P=Xf.c q)/\
 ∀(e:Int),
 Z0 h5 (h4/\
 h3/\
 Z0 h2 (Z0 h1 (Z0 g9 (Z0 g8 (Z0 g7 (a0=a0/\
 Z0 g6 (Z0 g5 (Z0 g4 (g3/\
 Z0 l (Z0 l (Z0 k (Z0 k (Z0 j (Z0 j (Z0 l (Z0 l (Z0 k (Z0 k (Z0 j (Z0 j (Z0 M ((∀(i:Nat),i<g->true=true)/\Z0 L ((∀(i:Nat),i<f->true=true)/\Z0 K ((∀(i:Nat),i<d->true=true)/\Z0 J (Z0 I (Z0 G (∃(D:Ze),Yg D g (Zp 0 w) f (Zp 0 u) d (Zp 0 t)/\∃(p:Xe),∃(q:Xf),(R=Xe.c p/\P=Xf.c q)/\∀(e:Int),Z0 l (Z0 c0 (Z0 k (Z0 b9 (Z0 j (Z0 b8 (Z0 V (Zc 8 m n a6 y (tkO o) U/\Z0 V (Zc 8 m n a5 y (tkI o) U/\Z5 (E.length=A) (Zc 8 m A a4 a3 (skV H E) (seV E)/\Z5 (C.length=z) (Zc 8 m z a2 a1 (qkV C) (quV C)/\b7)))))))))))))))))))))))))))))))))))))) h) h)) h))) h) h)) h) h))) h) h))) (Z0 l9 (Z0 l7 (Z8 l6 (Z8 l5 (Z0 k6 (Z0 k4 (Z8 k3 (Z8 (b==b_1) (Z0 j7 (Z8 j6 (Z8 j5 (Z0 i8 (Z0 i6 (Z8 i5 (Z0 i3 (Z8 i2 (Z8 i1 ((∀(i:Nat),i<r->a)/\
 (∀(i:Nat),i<r->a)/\
 (∀(i:Nat),i<Z->a)/\
 (∀(i:Nat),i<Y->a)/\
 ∃(X:Ze),
 let o:=X.T;let V:=decide (o.length=n);let U:=tiV o;let E:=X.S;let C:=X.Q;
 Ym H X N r d9 O r d8 O Z d7 d6 Y d5 d4/\
 ∃(p:Xe),
 let R:=g2::g0::f8::n0::h6;
 ∃(q:Xf),
 let P:=[e3,d3,d1,c8];
 (R=Xe.c p/\P=Xf.c q)/\
 ∀(e:Int),
 Z0 h5 (h4/\
 h3/\
 Z0 h2 (Z0 h1 (Z0 g9 (Z0 g8 (Z0 g7 (f7=f7/\
 Z0 g6 (Z0 g5 (Z0 g4 (g3/\
 Z0 l (Z0 l (Z0 k (Z0 k (Z0 j (Z0 j (Z0 l (Z0 l (Z0 k (Z0 k (Z0 j (Z0 j (Z0 M ((∀(i:Nat),i<g->true=true)/\Z0 L ((∀(i:Nat),i<f->true=true)/\Z0 K ((∀(i:Nat),i<d->true=true)/\Z0 J (Z0 I (Z0 G (∃(D:Ze),Yg D g (Zp 0 w) f (Zp 0 u) d (Zp 0 t)/\∃(p:Xe),∃(q:Xf),(R=Xe.c p/\P=Xf.c q)/\∀(e:Int),Z0 l (Z0 c0 (Z0 k (Z0 b9 (Z0 j (Z0 b8 (Z0 V (Zc 8 m n a6 y (tkO o) U/\Z0 V (Zc 8 m n a5 y (tkI o) U/\Z5 (E.length=A) (Zc 8 m A a4 a3 (skV H E) (seV E)/\Z5 (C.length=z) (Zc 8 m z a2 a1 (qkV C) (quV C)/\b7)))))))))))))))))))))))))))))))))))))) h) h)) h))) h) h)) h) h))) h) h)))))))))))))))))))))))))))))))))))))))))))))) (by kernel_rfl) ?_
 conv=>zeta
 try simp only [vcA]
 try simp only [vcB]
 try simp only [vcC]
 subst hB
 have hl:=x.secret.l
 have hB:x.secret.v.length<=100000:=by omega
 have tr:∀{n:Nat} (i:Nat),i<n->True:=fun _ _=>trivial
 obtain ⟨w0,w1,w2,w3,w4,w5⟩:=hw
 have hT:=Wd H hX
 have hV:=V1 hD
 refine ⟨x,⟨rfl⟩,beq_eq_false_iff_ne.2 w0,beq_eq_false_iff_ne.2 w1,beq_eq_false_iff_ne.2 w2,beq_eq_false_iff_ne.2 w3,beq_eq_false_iff_ne.2 w4,fun h=>absurd (beq_iff_eq.1 h) w5,fun _=>⟨tr,tr,tr,tr,X,hT,x.tie.out.l,fun x1 b1=>⟨tr,tr,tr,D,hV,x.tie.out.l,tr,tr,tr,tr,X,hT,x.tie.inn.l,fun x2 b2=>⟨tr,tr,tr,D,hV,x.tie.inn.l,fun x3 b3=>⟨hl,hl.symm,hB,tr,tr,tr,tr,X,hT,hH _,fun x4 b4=>⟨hl,hl.symm,hB,tr,tr,tr,D,hV,hH _,tr,tr,tr,tr,X,hT,(Yu HH x).hash.l,fun q b5=>⟨tr,tr,tr,D,hV,(Yu HH x).hash.l, ?_⟩⟩⟩⟩⟩⟩⟩
 repeat' first
  | exact tr
  | exact H32.l _
  | rfl
  | exact J2 _
  | exact Zn (Xp _) fun _ _=>⟨rfl,rfl⟩
  | exact Zn (XW _) fun _ _=>⟨rfl,rfl⟩
  | exact Zn (Xw H _) fun _ _=>⟨rfl,rfl⟩
  | exact Zn (XX _) fun _ _=>⟨rfl,rfl⟩
  | exact Zg ZJ fun _ _=>rfl
  | exact Zg ZW fun _ _=>rfl
  | exact Zg ZX fun _ _=>rfl
  | apply Jv
  | refine ⟨X,hT,{ x.p with hash:=(Yu HH x).hash},x.q,⟨rfl,rfl⟩,fun _=>⟨tr,tr,tr,D,hV,{ x.p with hash:=(Yu HH x).hash},x.q,⟨rfl,rfl⟩,fun _=> ?_⟩⟩
  | refine ⟨X,hT,x.p,x.q,⟨rfl,rfl⟩,fun _=>⟨tr,tr,tr,D,hV,x.p,x.q,⟨rfl,rfl⟩,fun _=> ?_⟩⟩
  | intro _
def acX (H H2:LI->LI) (HH:H32->H32) (x:Zw) (X:Ze):Ze:=if x.what=0 then ⟨VG X.T x.tie,X.S,X.Q⟩ else if x.what=1 then ⟨unP X.T x.tie.out.v x.tie.outID,X.S,X.Q⟩ else if x.what=2 then ⟨X.T,QV H X.S x.secret,X.Q⟩ else if x.what=3 then ⟨X.T,X.S,Z0r H X.Q (Yu HH x)⟩ else if x.what=4 then ⟨X.T,X.S,Z16 X.Q (Yu HH x).hash.v⟩ else if x.what=5 then ⟨X.T,Z14 H X.S (H2 x.secret.v),X.Q⟩ else X
def acD (H2:LI->LI) (HH:H32->H32) (x:Zw) (D:Ze):Ze:=if x.what=0 then ⟨QU D.T x.tie,D.S,D.Q⟩ else if x.what=1 then ⟨unD D.T x.tie.out.v x.tie.outID,D.S,D.Q⟩ else if x.what=2 then ⟨D.T,Z0s D.S x.secret,D.Q⟩ else if x.what=3 then ⟨D.T,D.S,Z18 H2 D.Q (Yu HH x)⟩ else if x.what=4 then ⟨D.T,D.S,Z19 D.Q (Yu HH x).hash.v⟩ else if x.what=5 then ⟨D.T,Z17 H2 D.S (H2 x.secret.v),D.Q⟩ else D
theorem Zd6 (X D:Ze) (x:Zw) (hX:X.Lim) (hD:ZA D):Spec PP 8 [pt 0,.agg (acC D),.agg x.c] ⟨8,acB ZB X D⟩ (.ret (acR (acD ZP hhD x D))) 11 (acO ZB (acX ZB ZP hhD x X) (acD ZP hhD x D)):=by
 obtain ⟨w,t,s,i,own,p,q,ht⟩:=x
 by_cases h0:w=0
 ·subst h0;exact .evM UD (ZgQ ZB ZP 100000 hhD X D ⟨0,t,s,i,own,p,q,ht⟩ rfl Y6 hX hD)
 by_cases h1:w=1
 ·subst h1;exact .evM UD (ZgR ZB ZP 100000 hhD X D ⟨1,t,s,i,own,p,q,ht⟩ rfl Y6 hX hD)
 by_cases h2:w=2
 ·subst h2;exact .evM UD (ZgS ZB ZP 100000 hhD X D ⟨2,t,s,i,own,p,q,ht⟩ rfl Y6 hX hD)
 by_cases h3:w=3
 ·subst h3;exact .evM UD (ZgT ZB ZP 100000 hhD X D ⟨3,t,s,i,own,p,q,ht⟩ rfl Y6 hX hD)
 by_cases h4:w=4
 ·subst h4;exact .evM UD (ZgU ZB ZP 100000 hhD X D ⟨4,t,s,i,own,p,q,ht⟩ rfl Y6 hX hD)
 by_cases h5:w=5
 ·subst h5;exact .evM UD (ZgV ZB ZP 100000 hhD X D ⟨5,t,s,i,own,p,q,ht⟩ rfl Y6 hX hD)
 ·have e1:acX ZB ZP hhD ⟨w,t,s,i,own,p,q,ht⟩ X=X:=by simp only [acX,h0,h1,h2,h3,h4,h5,if_false]
  have e2:acD ZP hhD ⟨w,t,s,i,own,p,q,ht⟩ D=D:=by simp only [acD,h0,h1,h2,h3,h4,h5,if_false]
  rw [e1,e2]
  exact .evM Z66 (ZgW ZB ZP 100000 hhD X D ⟨w,t,s,i,own,p,q,ht⟩ rfl Y6 hX hD ⟨h0,h1,h2,h3,h4,h5⟩)
end Go.Tk
end
section
namespace Go.Tk
open IntKind (i64 u8 u32 u64 wrap)
open Go.Proofs Go.Shelf Go.Lib Go.Sort
theorem Z67 {W w':World} (h1:W.heap.size<=w'.heap.size) (h2:w'.os=W.os) (h3:w'.tape=W.tape) (h4:w'.output=W.output/\W.drawn<=w'.drawn) (h5:∀b,b<W.heap.size->w'.heap[b]? =W.heap[b]?):∃q os',w'=grow (W.drewN q) os':=by
 refine ⟨w'.drawn-W.drawn,w'.heap.extract W.heap.size w'.heap.size, ?_⟩
 obtain ⟨heap,tape,drawn,os,output⟩:=w'
 obtain ⟨heap0,tape0,drawn0,os0,output0⟩:=W
 simp only at h1 h2 h3 h4 h5
 unfold grow World.drewN
 simp only [World.mk.injEq]
 refine ⟨?_,h3,by omega,h2,h4.1⟩
 apply Array.ext_getElem?
 intro i
 rcases Jh i heap0.size with h|h
 ·rw [Array.getElem?_append_left h];exact h5 i h
 ·rw [Array.getElem?_append_right h,Array.getElem?_extract]
  rcases Jh i heap.size with h'|h'
  ·rw [if_pos (by omega)];congr 1;omega
  ·rw [if_neg (by omega),JY (by omega)]
section
variable {P:Program} {ρ:Go.Shelf.Ren} {α:Type} [Inhabited α]
theorem Z7v {g k:Nat} {c:α->List AV} {enc:α->List Value} (hc2:∀E x,Zo E (c x) (enc x)) {cf:α->α->Int} (hcmp:∀x y,Ya P g [.agg (c x),.agg (c y)] (.int .i64 (cf x y)) 0 []) (blk off size:Nat) (w:World):
  CmpLays P g #[] enc k cf blk off size w:=by
 intro m os dk hs x y
 have E0:Emb ⟨fun _=>none,fun _ _=>False⟩ ⟨0,[]⟩ (sortWorldK enc k w blk off m dk os):=
  ⟨fun _ _=>rfl,fun x B h=>by simp [Z7.get,Zz] at h,fun x B h=>by simp [Z7.get,Zz] at h,fun x y B B' b N N' h=>by simp [Z7.get,Zz] at h,fun _ _ h=>h.elim,fun _ _ _ _ _ h=>h.elim⟩
 refine (hcmp x y _ _ [.agg (enc x).toArray,.agg (enc y).toArray] E0 (.cons _ _ _ _ (.agg _ _ (hc2 _ _)) (.cons _ _ _ _ (.agg _ _ (hc2 _ _)) .nil))).mono ?_
 rintro e w' ⟨E',r,rfl,hev,hr⟩
 cases hr
 refine ⟨rfl,Z67 hev.size hev.os hev.tape hev.output fun b hb=>hev.keep b hb ?_⟩
 rintro ⟨x,B,N,hx,_⟩
 simp [Z7.get,Zz] at hx
theorem Z9w (L:SlLaysF0.n6 P ρ) {k:Nat} (aE:∀w,(Go.isAgg (ρ.t 24)).run P w=.ok true w) (zE:∀w,(Go.sizeOf (ρ.t 24)).run P w=.ok k w) {c:α->List AV} {enc:α->List Value} (hk:∀x,(enc x).length=k) (hk0:0<k) (h1:∀x,∀v∈enc x,v.oneCell'=true)
  (hc1:∀E x vs,Zo E (c x) vs->vs=enc x) (hc2:∀E x,Zo E (c x) (enc x)) {cf:α->α->Int} (hO:SWO (ltOf cf)) {g:Nat} (eg:∀args w,(callFunc g args).run P w=.ok (.enter g args) w)
  (hcmp:∀x y,Ya P g [.agg (c x),.agg (c y)] (.int .i64 (cf x y)) 0 []) {l L':List α} {n lo:Nat} (hn:l.length=n) (h0:0<n) (hsz:n<4611686018427387904) {f f':Nat->List AV} (hf0:∀i,i<n->f i=c (l.getD i default)) (hf1:∀i,i<n->f' i=c (L'.getD i default))
  (hL:∀l':List α,l'.Perm l->l'.Pairwise (fun a b=>ltOf cf b a=false)->l'=L'):
  Spec P (ρ.f 6) [.nslice ⟨0,0,k,0,0⟩ k n lo,.func (.func g) [] []] ⟨1,[(0,.rows k n f)]⟩ (.ret (.tuple [])) 1 [(0,.rows k n f')]:=by
 intro E w rs he hr
 cases hr with
 | cons v r vs rs hr1 hr2=>
 cases hr2 with
 | cons v2 r2 vs2 rs2 hr2 hr3=>
 cases hr3
 cases hr2 with
 | func fn fi ca fs cs h3 h4=>
 cases h3
 cases h4
 cases hr1 with
 | nslice0 p esz len lo a q1 q2=>omega
 | nslice p esz len lo b N cap hb q1 q2 q3=>
 have hB:=he.own 0 _ rfl
 cases hB with
 | rows0 sz n f q0 hno=>omega
 | rows sz n f b' cells elem fr gg hb' hw hfr hc hl hv=>
 rw [hb'] at hb
 cases hb
 have htot:(ZQ.mk 0 0 k 0 0).tot=0:=by simp [ZQ.tot]
 rw [htot] at q3⊢
 have hgg:∀i,i<n->gg i=enc (l.getD i default):=fun i hi=>by
  have:=hc i hi
  rw [hf0 i hi] at this
  exact hc1 _ _ _ this
 have hcs:n*k<=cells.size:=by
  rcases Jh cells.size (n*k) with h|h
  ·exfalso
   have e:n=(n-1)+1:=by omega
   have hlast:(gg (n-1))[k-1]? =some ((gg (n-1))[k-1]'(by rw [hl _ (by omega)];omega)):=J8 _
   have:=hv (n-1) (k-1) _ (by omega) hlast
   have e2:(n-1)*k+(k-1)<cells.size:=by
    rcases Jh ((n-1)*k+(k-1)) cells.size with h'|h'
    ·exact h'
    ·rw [JY h'] at this;cases this
   have e3:n*k=(n-1)*k+k:=by rw [e,JX];simp
   omega
  ·exact h
 have hdiv:∀j,j<n*k->j/k<n:=fun j hj=>(Nat.div_lt_iff_lt_mul hk0).2 hj
 have hH:HoldsK enc k w b 0 l.toArray:=by
  intro j hj
  rw [size_flatK] at hj
  have hj:j<n*k:=by simpa [hn] using hj
  have hi:=hdiv j hj
  have hm:j%k<k:=Nat.mod_lt _ hk0
  rw [get_flatK _ _ _ _ (by simpa [hn] using hj)]
  have e:l.toArray[j/k]! =l.getD (j/k) default:=by simp [J5]
  have hx:(gg (j/k))[j%k]? =some ((enc (l.getD (j/k) default))[j%k]!):=by
   rw [hgg _ hi]
   rw [J8 (by rw [hk];exact hm)]
   simp [getElem!_pos,hk,hm]
  have hcell:=hv (j/k) (j%k) _ hi hx
  have ej:j/k*k+j%k=j:=by rw [Nat.mul_comm];exact Nat.div_add_mod j k
  rw [ej] at hcell
  refine ⟨?_, ?_⟩
  ·rw [Jm,cell_of_heap hw,hcell,e];rfl
  ·unfold World.frozen?
   simp only [Jm,hw]
   have:=hfr j (by omega)
   rw [Bool.eq_false_iff]
   simp only [ne_eq,J1,decide_eq_true_eq]
   exact this
 have hblk:b<w.heap.size:=(he.own 0 _ rfl).lt hb'
 have hcon:=AnyQ.slices_SortFunc L k aE zE enc hk h1 cf hO g #[] b 0 cap l.toArray w eg (Z7v hc2 hcmp b 0 _ w) hH hblk (by simpa [hn] using hsz)
 have en:l.toArray.size=n:=by simpa using hn
 rw [en] at hcon
 refine hcon.mono ?_
 rintro e w' ⟨rfl,d',m,os,hp,hs,rfl⟩
 obtain ⟨p1,_,p3⟩:=hp
 rw [en] at p1
 have pe:(d'.extract 0 n)=d':=by rw [<-p1];simp
 have pe2:(l.toArray.extract 0 n)=l.toArray:=by rw [<-en];simp
 rw [pe,pe2] at p3
 have hLd:d'.toList=L':=by
  refine hL _ p3 ?_
  rw [JP]
  intro i j hi hj hij
  have:=hs i j (JK _) hij (by simpa [p1] using hj)
  have e1:d'[i]! =d'.toList[i]:=by simp only [Array.length_toList] at hi;simp [getElem!_pos,hi]
  have e2:d'[j]! =d'.toList[j]:=by simp only [Array.length_toList] at hj;simp [getElem!_pos,hj]
  rw [e1,e2] at this
  exact this
 have hheap:(sortWorldK enc k w b 0 m d' os).heap=w.heap.modify b (onCells (putCells id 0 (flatK enc k d')))++os:=rfl
 have hold:∀i,i<w.heap.size->i≠b->(sortWorldK enc k w b 0 m d' os).heap[i]? =w.heap[i]?:=fun i hi hib=>by
  rw [hheap,Array.getElem?_append_left (by simpa using hi),Array.getElem?_modify,if_neg (fun h=>hib h.symm)]
 have hnew:(sortWorldK enc k w b 0 m d' os).heap[b]? =some (.cells (putCells id 0 (flatK enc k d') cells) elem fr):=by
  rw [hheap,Array.getElem?_append_left (by simpa using hblk),Array.getElem?_modify,if_pos rfl,hw];rfl
 have hpsz:(putCells id 0 (flatK enc k d') cells).size=cells.size:=by simp [putCells]
 have hle:w.heap.size<=(sortWorldK enc k w b 0 m d' os).heap.size:=by rw [hheap];simp
 have hown:∀{H:Z7} {i:Nat},H=⟨1,[(0,Blk.rows k n f)]⟩\/H=⟨1,[(0,Blk.rows k n f')]⟩->(YI E H i↔i=b):=by
  intro H i hq0
  constructor
  ·rintro ⟨x,B,N,hx,hbx⟩
   have hx0:x=0:=by
    rcases hq0 with rfl|rfl
    ·simp only [Z7.get,Zz] at hx
     split at hx
     ·rename_i hq;exact (J0 hq).symm
     ·cases hx
    ·simp only [Z7.get,Zz] at hx
     split at hx
     ·rename_i hq;exact (J0 hq).symm
     ·cases hx
   subst hx0
   rw [hb'] at hbx
   cases hbx;rfl
  ·rintro rfl
   rcases hq0 with rfl|rfl<;>exact ⟨0,_,_,rfl,hb'⟩
 have hbn:∀a cc,E.imm a cc->a.block≠b:=fun a cc hi hq=>he.sep a cc 0 _ _ hi rfl (by rw [hb',hq])
 refine ⟨E,⟨.refl E,⟨he.fresh,fun x B hx=> ?_,fun x B hx=> ?_,fun x y B B' bb N N' hx hy _ _=> ?_,fun a cc hi=> ?_,fun a cc x B N hi hx hbx=> ?_⟩,hle,rfl,rfl,⟨rfl,Nat.le_add_right _ _⟩,fun i hi hno=>hold i hi (fun h=>hno ((hown (.inl rfl)).2 h)),fun i ho=>.inl ((hown (.inl rfl)).2 ((hown (.inr rfl)).1 ho)),fun _ _ h=>h⟩,.ret _ _ (.tuple [] [] .nil)⟩
 ·simp only [Z7.get,Zz] at hx
  split at hx
  ·rename_i hq;have:=J0 hq;show x<1;omega
  ·cases hx
 ·simp only [Z7.get,Zz] at hx
  split at hx
  ·rename_i hq
   have:=J0 hq
   subst this
   cases hx
   refine .rows k n f' b _ elem fr (fun i=>enc (L'.getD i default)) (by rw [hpsz];exact hb') hnew (fun o ho=>hfr o (by rw [hpsz] at ho;exact ho)) (fun i hi=>by rw [hf1 i hi];exact hc2 _ _) (fun i hi=>hk _) (fun i j cc hi hj=> ?_)
   have hjk:j<k:=by
    have:=(J9.1 hj).1
    rw [hk] at this;exact this
   have ht:i*k+j<n*k:=by
    have:(i+1)*k<=n*k:=JA _ hi
    rw [JX,Nat.one_mul] at this
    omega
   unfold putCells
   rw [Array.getElem?_mapIdx,Array.getElem?_eq_getElem (by omega)]
   simp only [Option.map_some]
   rw [if_pos ⟨JK _,by rw [size_flatK,p1];omega⟩,Nat.sub_zero,get_flatK _ _ _ _ (by rw [p1];exact ht)]
   have e1:(i*k+j)/k=i:=by rw [Nat.mul_comm,Nat.mul_add_div hk0,Nat.div_eq_of_lt hjk];rfl
   have e2:(i*k+j)%k=j:=by rw [Nat.mul_comm,Nat.mul_add_mod,JM hjk]
   rw [e1,e2]
   have e3:d'[i]! =L'.getD i default:=by
    have hid:i<d'.size:=by omega
    rw [<-hLd,J5];simp [getElem!_pos,hid]
   rw [e3]
   obtain ⟨hjl,hj2⟩:=J9.1 hj
   rw [<-hj2,getElem!_pos (enc (L'.getD i default)) j hjl];rfl
  ·cases hx
 ·simp only [Z7.get,Zz] at hx hy
  split at hx
  ·rename_i hq
   split at hy
   ·rename_i hq'
    rw [<-Nat.eq_of_beq_eq_true hq,<-Nat.eq_of_beq_eq_true hq']
   ·cases hy
  ·cases hx
 ·have h0:=he.imm a cc hi
  have hlt:a.block<w.heap.size:=by
   rcases Jh a.block w.heap.size with hl|hg
   ·exact hl
   ·simp [World.cell?,JY hg] at h0
  simpa [World.cell?,hold _ hlt (hbn a cc hi)] using h0
 ·have:=(hown (H:=⟨1,[(0,.rows k n f')]⟩) (.inr rfl)).1 ⟨x,B,N,hx,hbx⟩
  exact hbn a cc hi this
end
end Go.Tk
end
section
namespace Go.Tk
open IntKind (i64 u8 u32 u64 wrap)
def Z9x:Go.Shelf.Ren:=⟨fun|6=>129|15=>149|14=>152|28=>173|29=>174|20=>175|21=>176|22=>177|23=>178|24=>179|25=>180|26=>181|27=>182|46=>199|47=>195|48=>196|49=>200|50=>201|57=>206|n=>n,fun|22=>25|24=>33|25=>125|3=>3|39=>206|0=>0|53=>174|55=>169|4=>4|46=>242|45=>241|50=>246|5=>5|9=>9|66=>264|70=>268|76=>274|77=>275|n=>n,fun|n=>n⟩
theorem ZfO:Go.Proofs.SlLaysF0.n6 PP Z9x:={
 mixed:=by kernel_rfl,
 f6:=⟨Go.Proofs.Tryz.f129.name,by decide,Go.Proofs.Tryz.func129.trans (congrArg some (by kernel_rfl))⟩,
 f14:=⟨Go.Proofs.Tryz.f152.name,by decide,Go.Proofs.Tryz.func152.trans (congrArg some (by kernel_rfl))⟩,
 f15:=Go.Proofs.Tryz.func149.trans (congrArg some (by kernel_rfl)),
 f20:=⟨Go.Proofs.Tryz.f175.name,by decide,Go.Proofs.Tryz.func175.trans (congrArg some (by kernel_rfl))⟩,
 f21:=⟨Go.Proofs.Tryz.f176.name,by decide,Go.Proofs.Tryz.func176.trans (congrArg some (by kernel_rfl))⟩,
 f22:=⟨Go.Proofs.Tryz.f177.name,by decide,Go.Proofs.Tryz.func177.trans (congrArg some (by kernel_rfl))⟩,
 f23:=⟨Go.Proofs.Tryz.f178.name,by decide,Go.Proofs.Tryz.func178.trans (congrArg some (by kernel_rfl))⟩,
 f24:=⟨Go.Proofs.Tryz.f179.name,by decide,Go.Proofs.Tryz.func179.trans (congrArg some (by kernel_rfl))⟩,
 f25:=⟨Go.Proofs.Tryz.f180.name,by decide,Go.Proofs.Tryz.func180.trans (congrArg some (by kernel_rfl))⟩,
 f26:=⟨Go.Proofs.Tryz.f181.name,by decide,Go.Proofs.Tryz.func181.trans (congrArg some (by kernel_rfl))⟩,
 f27:=⟨Go.Proofs.Tryz.f182.name,by decide,Go.Proofs.Tryz.func182.trans (congrArg some (by kernel_rfl))⟩,
 f28:=Go.Proofs.Tryz.func173.trans (congrArg some (by kernel_rfl)),
 f29:=Go.Proofs.Tryz.func174.trans (congrArg some (by kernel_rfl)),
 f46:=⟨Go.Proofs.Tryz.f199.name,by decide,Go.Proofs.Tryz.func199.trans (congrArg some (by kernel_rfl))⟩,
 f47:=Go.Proofs.Tryz.func195.trans (congrArg some (by kernel_rfl)),
 f48:=Go.Proofs.Tryz.func196.trans (congrArg some (by kernel_rfl)),
 f49:=⟨Go.Proofs.Tryz.f200.name,by decide,Go.Proofs.Tryz.func200.trans (congrArg some (by kernel_rfl))⟩,
 f50:=⟨Go.Proofs.Tryz.f201.name,by decide,Go.Proofs.Tryz.func201.trans (congrArg some (by kernel_rfl))⟩,
 f57:=⟨Go.Proofs.Tryz.f206.name,by decide,Go.Proofs.Tryz.func206.trans (congrArg some (by kernel_rfl))⟩,
 t0:=Go.Proofs.Tryz.underlying0,
 a0:=Go.Proofs.Tryz.isAgg0,
 z0:=Go.Proofs.Tryz.sizeOf0,
 v0:=Go.Proofs.Tryz.zeroValue0,
 t3:=Go.Proofs.Tryz.underlying3,
 a3:=Go.Proofs.Tryz.isAgg3,
 z3:=Go.Proofs.Tryz.sizeOf3,
 v3:=Go.Proofs.Tryz.zeroValue3,
 t4:=Go.Proofs.Tryz.underlying4,
 a4:=Go.Proofs.Tryz.isAgg4,
 z4:=Go.Proofs.Tryz.sizeOf4,
 v4:=Go.Proofs.Tryz.zeroValue4,
 t5:=Go.Proofs.Tryz.underlying5,
 a5:=Go.Proofs.Tryz.isAgg5,
 z5:=Go.Proofs.Tryz.sizeOf5,
 v5:=Go.Proofs.Tryz.zeroValue5,
 t9:=Go.Proofs.Tryz.underlying9,
 a9:=Go.Proofs.Tryz.isAgg9,
 z9:=Go.Proofs.Tryz.sizeOf9,
 v9:=Go.Proofs.Tryz.zeroValue9,
 t22:=Go.Proofs.Tryz.underlying25,
 a22:=Go.Proofs.Tryz.isAgg25,
 z22:=Go.Proofs.Tryz.sizeOf25,
 v22:=Go.Proofs.Tryz.zeroValue25,
 t25:=Go.Proofs.Tryz.underlying125,
 a25:=Go.Proofs.Tryz.isAgg125,
 z25:=Go.Proofs.Tryz.sizeOf125,
 v25:=Go.Proofs.Tryz.zeroValue125,
 t39:=Go.Proofs.Tryz.underlying206,
 a39:=Go.Proofs.Tryz.isAgg206,
 z39:=Go.Proofs.Tryz.sizeOf206,
 v39:=Go.Proofs.Tryz.zeroValue206,
 t45:=Go.Proofs.Tryz.underlying241,
 a45:=Go.Proofs.Tryz.isAgg241,
 z45:=Go.Proofs.Tryz.sizeOf241,
 v45:=Go.Proofs.Tryz.zeroValue241,
 t46:=Go.Proofs.Tryz.underlying242,
 a46:=Go.Proofs.Tryz.isAgg242,
 z46:=Go.Proofs.Tryz.sizeOf242,
 v46:=Go.Proofs.Tryz.zeroValue242,
 t50:=Go.Proofs.Tryz.underlying246,
 a50:=Go.Proofs.Tryz.isAgg246,
 z50:=Go.Proofs.Tryz.sizeOf246,
 v50:=Go.Proofs.Tryz.zeroValue246,
 t53:=Go.Proofs.Tryz.underlying174,
 a53:=Go.Proofs.Tryz.isAgg174,
 z53:=Go.Proofs.Tryz.sizeOf174,
 v53:=Go.Proofs.Tryz.zeroValue174,
 t55:=Go.Proofs.Tryz.underlying169,
 a55:=Go.Proofs.Tryz.isAgg169,
 z55:=Go.Proofs.Tryz.sizeOf169,
 v55:=Go.Proofs.Tryz.zeroValue169,
 t66:=Go.Proofs.Tryz.underlying264,
 a66:=Go.Proofs.Tryz.isAgg264,
 z66:=Go.Proofs.Tryz.sizeOf264,
 v66:=Go.Proofs.Tryz.zeroValue264,
 t70:=Go.Proofs.Tryz.underlying268,
 a70:=Go.Proofs.Tryz.isAgg268,
 z70:=Go.Proofs.Tryz.sizeOf268,
 v70:=Go.Proofs.Tryz.zeroValue268,
 t76:=Go.Proofs.Tryz.underlying274,
 a76:=Go.Proofs.Tryz.isAgg274,
 z76:=Go.Proofs.Tryz.sizeOf274,
 v76:=Go.Proofs.Tryz.zeroValue274,
 t77:=Go.Proofs.Tryz.underlying275,
 a77:=Go.Proofs.Tryz.isAgg275,
 z77:=Go.Proofs.Tryz.sizeOf275,
 v77:=Go.Proofs.Tryz.zeroValue275}
def ZeL (s:St) (g:Nat):Option (List Nat):=match s.h.get g with
 | some (.git _ _ js)=>some js
 | _=>none
def rdS (k id g:Nat) (S En:List Nat->St) (js:List Nat) (go:Nat->Prop) (ex:Prop):KE:=fun e s=>match e with
 | .normal=>(match ZeL s g with
  | some (j::js')=>UT k (S (j::js')) s (js'=js/\go j)
  | _=>False)
 | .exit x=>(match Nat.beq x id with|true=>UT k (En js) s ex|false=>False)
 | _=>False
def ZdK (id:Nat) (I ex:List Nat->Prop) (En:List Nat->St):KE->Prop:=fun X=>∀js,I js->ex js->X (.exit id) (En js)
theorem Zh.withGoS {G:Zh} (hG:G.Ok) {f:FuncId} {id k N g n:Nat} {S En:List Nat->St} {S0:St} {C:Prop} {I ex:List Nat->Prop} (h1:U4 G.P f id=true) (hC:C->S []=S0/\I []/\∀js,I js->
   js.length<=n/\ZL G N f id k (S js) (rdS k id g S En js (fun j=>I (j::js)) (ex js))):
  (G.withL f id (goM k S0 C (ZdK id I ex En))).Ok:=by
 refine Zh.withL_ok hG h1 ?_
 intro k' s X hl
 unfold goM at hl
 split at hl
 ·rename_i hk
  have:=J0 hk
  subst this
  obtain ⟨⟨hc,hX⟩,hw⟩:=XU hl
  obtain ⟨e0,hI,hr⟩:=hC hc
  refine ⟨{ js:List Nat//I js},fun t=>n-t.1.length,fun t=>S t.1,⟨[],hI⟩,N,by simp_all, ?_⟩
  rintro ⟨js,hjs⟩
  refine ⟨_,(hr js hjs).2, ?_⟩
  intro e s' hY
  unfold rdS at hY
  split at hY
  ·split at hY
   ·rename_i j js' _
    obtain ⟨⟨e1,hg⟩,hw'⟩:=XU hY
    subst e1
    refine ⟨⟨j::js',hg⟩, ?_,hw'⟩
    have:=(hr _ hg).1
    simp only [Jy] at this⊢
    omega
   ·exact hY.elim
  ·split at hY
   ·rename_i hi
    have:=J0 hi
    subst this
    obtain ⟨hex,hw'⟩:=XU hY
    exact ⟨_,hw',hX js hjs hex⟩
   ·exact hY.elim
  ·exact hY.elim
 ·exact hl.elim
structure Xr (n:Nat) (js:List Nat):Prop where
 nd:js.Nodup
 lt:∀j∈js,j<n
theorem Xr.nil (n:Nat):Xr n []:=⟨.nil,fun _ h=>by cases h⟩
theorem Xr.cons {n j:Nat} {js:List Nat} (h:Xr n js) (hj:j<n) (hn:j∉js):Xr n (j::js):=
 ⟨List.nodup_cons.2 ⟨hn,h.nd⟩,fun i hi=>by rcases J6.1 hi with rfl|hi;exact hj;exact h.lt i hi⟩
theorem nodup_range (n:Nat):(List.range n).Nodup:=List.nodup_range
theorem Xr.perm {n:Nat} {js:List Nat} (h:Xr n js) (ha:∀j,j<n->j∈js):js.Perm (List.range n):=
 (List.perm_ext_iff_of_nodup h.nd (nodup_range n)).2 fun a=>⟨fun hh=>JW.2 (h.lt a hh),fun hh=>ha a (JW.1 hh)⟩
theorem Xr.len {n:Nat} {js:List Nat} (h:Xr n js):js.length<=n:=by
 have:=h.nd.length_le_of_subset (l₂:=List.range n) fun j hj=>JW.2 (h.lt j hj)
 simpa using this
noncomputable def Ui:Code:=rfA PP 151 0
noncomputable def Uj:Code:=rfB PP 151 0
def jsL (T:List Zj) (js:List Nat):List Zj:=js.reverse.map fun j=>T.getD j Zq
theorem Z68 (T:List Zj) (j:Nat) (js:List Nat):jsL T (j::js)=jsL T js++[T.getD j Zq]:=by simp [jsL]
theorem Zd7 (T:List Zj) (js:List Nat):(jsL T js).length=js.length:=by simp [jsL]
def vF:AV:=.func (.func 130) [] [pt 1]
noncomputable def crB (L:List Zj) (m:Blk):List (Nat×Blk):=(7,.rows 66 L.length (tiR L))::(4,.loop (Z7A.mk .ready none 151 13 [(6,vF),(4,.nilslice),(2,pt 2),(0,.nilslice),(1,vF)] [7] Ui Uj 3))::(3,.defd)::(2,.flat [.nslice ⟨7,0,66,0,0⟩ 66 L.length L.length])::(1,.flat [.map (some 0)])::[(0,m)]
noncomputable def crS (T:List Zj) (js:List Nat):St:=⟨15,[(6,.ptr (some ⟨6,0,0,0,0⟩)),(0,.yield 4)],⟨8,(6,.git 0 5 js)::crB (jsL T js) (.froz (.fmap T.length (tkO T) (tiV T)) 5)⟩,[]⟩
noncomputable def crE (T:List Zj) (js:List Nat):St:=⟨15,[(0,.yield 4)],⟨8,crB (jsL T js) (.fmap T.length (tkO T) (tiV T))⟩,[]⟩
theorem ZgX (T:List Zj) (js:List Nat) (go:Nat->Prop) (ex:Prop) (hn:T.length<=48) (hs:Xr T.length js) (hg:∀j,j<T.length->j∉js->go j) (hx:(∀j,j<T.length->j∈js)->ex):
  ZL G0 40 130 0 5 (crS T js) (rdS 5 0 6 (crS T) (crE T) js go ex):=by
 refine @Eq.mpr _ (let b:=T.length;let a:=List.length (jsL T js);let h:=decide (a=a);let g:=a+1;let n:=[(7,11),(5,5),(6,6)];let f:=tiR (jsL T js);let m:=LoopState.ready=LoopState.ready/\(none:Option Code)=none/\(151:FuncId)=151/\(13:Nat)=13/\[(7:Nat)]=[(7:Nat)]/\Ui=Ui/\Uj=Uj;let l:=decide (b=b);let c:=tkO T;let e:=tiV T;let q:=[(7,7)];
 (∀(j:Nat),
 let k:=j::js;let p:=jsL T k;let i:=p.length;let o:=decide (g=i);let d:=List.getD T j Zq;
 j<b->¬List.Mem j js->Z0 h (Z5 (g*80<=140737488355328) (Z94 k k/\Z0 o (Z6 5 n i (tiR p) (Xc a f (Vo [AV.arr u8 32 d.inn.v,AV.int i64 d.inID,AV.arr u8 32 d.out.v,AV.int i64 d.outID] 0 66))/\m/\Z0 o (Z5 (i<=g) (Z0 l (Zc 5 n b c e c e/\js=js/\go j)))))))/\
 ((∀(j:Nat),j<b->j∈js)->Z0 h (Z6 5 q a f f/\m/\Z0 h (Z5 (a<=a) (Z0 l (Zc 5 q b c e c e/\ex)))))) (by kernel_rfl) ?_
 conv=>zeta
 try simp only [vcA]
 try simp only [vcB]
 try simp only [vcC]
 have hM:∀τ,Zc 5 τ T.length (tkO T) (tiV T) (tkO T) (tiV T):=fun τ=>Zn (Xp _) fun _ _=>⟨rfl,rfl⟩
 have hl:=Zd7 T js
 have hjl:=hs.len
 refine ⟨fun j hj hm=> ?_,fun hall=>⟨Zg ZJ fun _ _=>rfl,hM _,hx hall⟩⟩
 have el:(jsL T js).length+1=(jsL T (j::js)).length:=by rw [Z68,J7];rfl
 exact ⟨by omega,.refl _,el,Zg ZJ fun i hi=>by
  have hi':i<(jsL T js).length+1:=by omega
  rw [Z68]
  exact Yc (x:=T.getD j Zq) rfl hi',el,Jt el.symm,hM _,hg j hj hm⟩
theorem Z69 {T:List Zj} {js:List Nat} (h:Xr T.length js) (ha:∀j,j<T.length->j∈js):(jsL T js).Perm T:=by
 have h1:(js.reverse).Perm (List.range T.length):=(List.reverse_perm js).trans (h.perm ha)
 have h2:=h1.map fun j=>T.getD j Zq
 have h3:(List.range T.length).map (fun j=>T.getD j Zq)=T:=by
  apply List.ext_getElem
  ·simp
  ·intro i h1 h2
   simp only [List.getElem_map,List.getElem_range]
   rw [getD_at h2]
 rw [h3] at h2
 exact h2
noncomputable def ZfP (T:List Zj):Zh:=G0.withL 130 0 (goM 5 (crS T []) (T.length<=48) (ZdK 0 (Xr T.length) (fun js=>∀j,j<T.length->j∈js) (crE T)))
theorem Zd8 (T:List Zj):(ZfP T).Ok:=
 Zh.withGoS (N:=40) (g:=6) (n:=T.length) (S:=crS T) ZD (by kernel_rfl) fun hC=>⟨rfl,Xr.nil _,fun js hs=>⟨hs.len,ZgX T js _ _ hC hs (fun j hj hm=>hs.cons hj hm) fun h=>h⟩⟩
theorem Zd9:Go.Sort.SWO (Go.Proofs.ltOf cfT) where
 irrefl x:=Z8m x
 trans x y z h1 h2:=Z40 x y z h1 h2
 ntrans x y z h1 h2:=Z2J x y z h1 h2
def Zda (h:Zj):List Value:=intCells .u8 32 h.inn.v++(.int .i64 h.inID::(intCells .u8 32 h.out.v++(.int .i64 h.outID::[])))
theorem Z2X (E:Env) (h:Zj):Zo E h.c (Zda h):=
 .arr _ _ _ _ _ (.one _ _ _ _ rfl rfl (.int _ _) (.arr _ _ _ _ _ (.one _ _ _ _ rfl rfl (.int _ _) .nil)))
theorem Zdb (E:Env) (h:Zj) (vs:List Value) (hc:Zo E h.c vs):vs=Zda h:=by
 unfold Zj.c at hc
 obtain ⟨w0,rfl,k0⟩:=hc.cons_arr
 obtain ⟨c1,w1,rfl,_,_,h1,k1⟩:=k0.cons_cell (by intros;simp)
 obtain ⟨w2,rfl,k2⟩:=k1.cons_arr
 obtain ⟨c3,w3,rfl,_,_,h3,k3⟩:=k2.cons_cell (by intros;simp)
 cases k3
 cases h1;cases h3
 rfl
theorem Z6a:∃(_:Env),True:=⟨⟨fun _=>none,fun _ _=>False⟩,trivial⟩
theorem ZbA (h:Zj):(Zda h).length=66:=by
 obtain ⟨E,_⟩:=Z6a
 have:=(Z2X E h).length
 simpa [Zj.c,csz] using this
theorem ZbB (h:Zj):∀v∈Zda h,v.oneCell'=true:=by
 obtain ⟨E,_⟩:=Z6a
 exact (Z2X E h).all_one
theorem ZgY (f:Nat->List AV) (lo:Nat) :
  evF G0 60 129 [.nslice ⟨0,0,66,0,0⟩ 66 0 lo,.func (.func 60) [] []] ⟨1,[(0,.rows 66 0 f)]⟩ (Ye 1 (.ret (.tuple [])) 1 [(0,.rows 66 0 f)]):=by
 refine @Eq.mpr _ (Z6 1 [] 0 f f/\True) (by kernel_rfl) ?_
 try simp only [vcA]
 try simp only [vcB]
 try simp only [vcC]
 exact Z3N (fun i hi=>absurd hi (K9 i)) (fun i hi=>absurd hi (K9 i)) fun i hi=>absurd hi (K9 i)
theorem ZeM {T D M:List Zj} {n lo:Nat} {f:Nat->List AV} (hM:M.Perm T) (hn:M.length=n) (h0:0<n) (hf:∀i,i<n->f i=tiR M i) (h:TR T D):Spec PP 129 [.nslice ⟨0,0,66,0,0⟩ 66 n lo,.func (.func 60) [] []] ⟨1,[(0,.rows 66 n f)]⟩ (.ret (.tuple [])) 1 [(0,.rows 66 n (tiR D))]:=
 Z9w (L:=ZfO) (k:=66) Go.Proofs.Tryz.isAgg33 Go.Proofs.Tryz.sizeOf33 (c:=Zj.c) ZbA (by decide) ZbB Zdb Z2X Zd9 (g:=60)
  (fun _ _=>Go.Proofs.enters_of Go.Proofs.Tryz.func60 (by kernel_rfl) rfl _ _) (fun x y=>Ya.evW6 ZD (Zgf x y _ rfl)) hn h0 (by have:=h.len;have:=hM.length_eq;omega) hf (fun _ _=>rfl)
  (fun l' hp ho=>h.sorted (hp.trans hM) ho)
theorem Z0w (L:List Zj) (i:Nat):YH (tiR L i)=true:=ZJ.p _
def Z7w (T D:List Zj):Y2:=fun args h K=>match args with
 | [.nslice ⟨b,0,66,0,0⟩ 66 _ _,_]=>frA [b] h 20 args fun Bs a=>match Bs,a with
  | [.rows 66 n f],[.nslice ⟨0,0,66,0,0⟩ 66 n' _,.func (.func 60) [] []]=>∃M,(n'=n/\M.length=n/\f=tiR M)/\M.Perm T/\TR T D/\K (.ret (.tuple [])) ⟨h.next,(b,.rows 66 n (tiR D))::YF h.bs b⟩
  | _,_=>False
 | _=>False
theorem Z9y (T D:List Zj) (args:List AV) (h:Z7) (K:KO) (hl:Z7w T D args h K):Zi PP 129 args h K:=by
 unfold Z7w at hl
 split at hl
 ·refine Spec.fsumm hl fun Bs a hlen hK0=> ?_
  split at hK0
  ·rename_i n f n' lo
   obtain ⟨M,⟨rfl,hn,rfl⟩,hM,hT,hK⟩:=hK0
   rcases JH n' with h0|h0
   ·subst h0
    have hMn:M=[]:=Ju hn
    have hDn:D=[]:=by
     have:=hT.perm.length_eq
     have:=hM.length_eq
     exact Ju (by omega)
    subst hMn hDn
    exact ⟨_,_,_,_,_,.evM ZD (ZgY (tiR []) lo),by simp,.ret _ _ rfl,.cons _ _ _ _ _ _ rfl (.rows _ _ _ (fun i _=>Z0w [] i)) .nil,hK⟩
   ·exact ⟨_,_,_,_,_,ZeM hM hn h0 (fun _ _=>rfl) hT,by simp,.ret _ _ rfl,.cons _ _ _ _ _ _ rfl (.rows _ _ _ (fun i _=>Z0w D i)) .nil,hK⟩
  ·exact hK0.elim
 ·exact hl.elim
noncomputable def ZdL (T D:List Zj):Zh:=(ZfP T).withF 129 (Z7w T D)
theorem ZbC (T D:List Zj):(ZdL T D).Ok:=Zh.withF_ok (Zd8 T) (Z9y T D)
theorem ZgZ (T D:List Zj) (n:Nat) (h:TR T D) (hn:n=D.length):
  evF (ZdL T D) 40 59 [.map (some 0),.func (.func 60) [] []] ⟨1,[(0,.fmap T.length (tkO T) (tiV T))]⟩ (Ye 1 (.ret (.nslice ⟨1,0,66,0,0⟩ 66 n n)) 2 [(0,.fmap T.length (tkO T) (tiV T)),(1,.rows 66 n (tiR D))]):=by
 refine @Eq.mpr _ (Z94 [] []/\
 (LoopState.ready=LoopState.ready/\(none:Option Code)=none/\(151:Nat)=(151:FuncId)/\(13:Nat)=(13:Nat)/\[(7:Nat)]=[(7:Nat)]/\Ui=Ui/\Uj=Uj)/\
 Z5 (T.length=T.length) (Zc (5:Nat) [((5:Nat),(5:Nat)),((6:Nat),(6:Nat))] (T.length) (tkO T) (tiV T) (tkO T) (tiV T)/\T.length<=(48:Nat)/\∀(js:List Nat),Xr (T.length) js->(∀(j:Nat),j<T.length->j∈js)->(∀(i:Nat),i<List.length (jsL T js)->true=true)/\∃(M:List Zj),(List.length (jsL T js)=List.length (jsL T js)/\M.length=List.length (jsL T js)/\tiR (jsL T js)=tiR M)/\List.Perm M T/\TR T D/\Z5 (List.length (jsL T js)=n) (Z5 (n<=List.length (jsL T js)) (Z5 (T.length=T.length) (Zc (1:Nat) [((1:Nat),(7:Nat))] (T.length) (tkO T) (tiV T) (tkO T) (tiV T)/\Z5 (List.length (jsL T js)=n) (Z6 (1:Nat) [((1:Nat),(7:Nat))] n (tiR D) (tiR D)/\True)))))) (by kernel_rfl) ?_
 try simp only [vcA]
 try simp only [vcB]
 try simp only [vcC]
 have hM:∀k τ,Zc k τ T.length (tkO T) (tiV T) (tkO T) (tiV T):=fun k τ=>Zn (Xp _) fun _ _=>⟨rfl,rfl⟩
 refine ⟨.refl _,hM _ _,h.len,fun js hs ha=>⟨fun _ _=>trivial,jsL T js,⟨rfl,rfl⟩,Z69 hs ha,h, ?_⟩⟩
 have el:(jsL T js).length=n:=by rw [hn,(Z69 hs ha).length_eq,h.perm.length_eq]
 exact ⟨el,Jt el.symm,hM _ _,el,Zg ZJ fun _ _=>rfl⟩
def riS (T D:List Zj):Y2:=fun args h K=>match args with
 | [.map (some o),_]=>frA [o] h 20 args fun Bs a=>match Bs,a with
  | [.fmap n kf vf],[.map (some 0),.func (.func 60) [] []]=>(n=T.length/\kf=tkO T/\vf=tiV T)/\TR T D/\K (.ret (.nslice ⟨h.next,0,66,0,0⟩ 66 D.length D.length)) ⟨h.next+1,(o,.fmap T.length (tkO T) (tiV T))::(h.next,.rows 66 D.length (tiR D))::YF h.bs o⟩
  | _,_=>False
 | _=>False
theorem ZeN (T D:List Zj) (args:List AV) (h:Z7) (K:KO) (hl:riS T D args h K):Zi PP 59 args h K:=by
 unfold riS at hl
 split at hl
 ·refine Spec.fsumm hl fun Bs a hlen hK0=> ?_
  split at hK0
  ·obtain ⟨⟨rfl,rfl,rfl⟩,hT,hK⟩:=hK0
   exact ⟨_,_,_,_,_,.evM (ZbC T D) (ZgZ T D _ hT rfl),by simp,.ret _ _ rfl,.cons _ _ _ _ _ _ rfl (.fmap _ _ _ (fun i _=>⟨rfl,rfl⟩)) (.cons _ _ _ _ _ _ rfl (.rows _ _ _ (fun i _=>Z0w D i)) .nil),hK⟩
  ·exact hK0.elim
 ·exact hl.elim
end Go.Tk
end
