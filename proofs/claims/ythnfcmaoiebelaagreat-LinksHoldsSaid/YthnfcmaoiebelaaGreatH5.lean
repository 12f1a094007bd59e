/- H: part 5 of an engine (a symbolic evaluator, proved against the model) and of the walk by it. -/
import Derived.Test.YthnfcmaoiebelaaGreatH4
import Derived.Shelf.SlSortCmp.WholeK
set_option linter.unusedVariables false
set_option linter.unusedSimpArgs false
set_option maxRecDepth 100000
set_option maxHeartbeats 0
section
namespace Go.Tk
open IntKind (i64 u8 u32 u64 wrap)
variable {α:Type} {J j:Nat} {args:List AV} {K:KO} {K0:Zb->Nat->Nat->Nat->List AV->Prop} {D:Zb}
theorem Zlv (H:LI->LI) (X:Zb) (o:LI) (id:Int) (J:Nat) (x:Zk) (T':List Zk) (e:Int) (hL:X.Lim) (ho:o.length=32) (hJ:J=atO X.T o id) (hx:x=X.T.getD J Zq) (he:e=if J<X.T.length then 0 else 5) (hT:T'=unP X.T o id):
  evF G0 40 18 [pt 0,.agg [.arr .u8 32 o],.int .i64 id] ⟨5,tbO H X⟩ (Yd 5 (.ret (.tuple [.agg x.c,.int .i64 e])) 5 (tbO H ⟨T',X.S,X.Q⟩)):=by
 refine @Eq.mpr _ (let q1:=AV.agg [AV.arr u8 (32:Nat) o,AV.int i64 id];let b:=X.T;let a:=b.length;let h:=tkO b;let F:=Zo (fun (i:Nat)=>Zz q1 (AV.agg [AV.arr u8 (32:Nat) (List.getD b i Zq).out.v,AV.int i64 (List.getD b i Zq).outID])) a;let g:=List.getD b F Zq;let f:=g.outID;let d:=g.out.v;let E:=g.inn.v;let a1:=g.inID;let a0:=AV.agg [AV.arr u8 (32:Nat) E,AV.int i64 a1];let D:=tkI b;let C:=Zo (fun (i:Nat)=>Zz a0 (AV.agg [AV.arr u8 (32:Nat) (List.getD b i Zq).inn.v,AV.int i64 (List.getD b i Zq).inID])) a;let Z:=AV.agg [AV.arr u8 (32:Nat) d,AV.int i64 f];let Y:=ZU PP (122:Nat) Z a h;let B:=Zo (fun (i:Nat)=>Zz Z (AV.agg [AV.arr u8 (32:Nat) (List.getD b i Zq).out.v,AV.int i64 (List.getD b i Zq).outID])) a;let W:=Nat.blt B a;let V:=x.inn.v;let t:=E=V;let s:=decide (a1=x.inID);let U:=x.out.v;let r:=d=U;let q:=decide (f=x.outID);let p:=decide ((0:Int)=e);let n:=X.S;let m:=X.Q;let A:=Zb.mk T' n m;let l:=A.T;let c:=l.length;let z:=decide (a-(1:Nat)=c);let R:=tkO l;let k:=tiV l;let j:=tiV b;let P:=Z8 (5:Nat) [] c R k (Xn h B) (Xn j B);let O:=tkI l;let y:=A.S;let N:=y.length;let w:=A.Q;let M:=w.length;let L:=Z5 (n.length=N) (Z8 (5:Nat) [] N (skV H y) (seV y) (skV H n) (seV n)/\Z5 (m.length=M) (Z8 (5:Nat) [] M (qkV w) (quV w) (qkV m) (quV m)/\True));let K:=Z4 z (Z8 (5:Nat) [] c O k (Xn D C) (Xn j C)/\L);let u:=decide (a=c);let J:=Z8 (5:Nat) [] c R k h j;let I:=Z4 u (Z8 (5:Nat) [] c O k D j/\L);let G:=Z4 u (J/\I);
 ZU PP (122:Nat) q1 a h/\Z6 (Nat.blt F a) (Z5 (f=f) (d=d/\ZU PP (122:Nat) a0 a D/\Z6 (Nat.blt C a) (Y/\Z6 W (t/\Z4 s (r/\Z4 q (Z4 p (Z4 z (P/\K))))) (t/\Z4 s (r/\Z4 q (Z4 p (Z4 u (J/\K)))))) (Y/\Z6 W (t/\Z4 s (r/\Z4 q (Z4 p (Z4 z (P/\I))))) (t/\Z4 s (r/\Z4 q (Z4 p G)))))) (Ze=V/\Z5 ((0:Int)=x.inID) (Ze=U/\Z5 ((0:Int)=x.outID) (Z5 ((5:Int)=e) G)))) (by kernel_rfl) ?_
 conv=>zeta
 try simp only [vcA]
 try simp only [vcB]
 try simp only [vcC]
 have hF:Zo (fun i=>Zz (.agg [.arr .u8 32 o,.int .i64 id]) (.agg [.arr .u8 32 (X.T.getD i Zq).out.v,.int .i64 (X.T.getD i Zq).outID])) X.T.length=J:=(Zk1 X.T o id).trans hJ.symm
 have hKO:ZU PP 122 (.agg [.arr .u8 32 o,.int .i64 id]) X.T.length (tkO X.T):=ZdC X.T id ho
 obtain ⟨t1,t2,t3,t4⟩:=Xr H X 5 []
 simp only [hF,hx.symm,hKO,true_and]
 have hcase:Nat.blt J X.T.length=decide (J<X.T.length):=by
  rw [JE,decide_eq_true_eq]
  exact ⟨XT,YL⟩
 have hE:T'=X.T.eraseIdx J:=by rw [hT,hJ];rfl
 clear hT
 rw [hcase]
 refine ⟨fun hj=> ?_,fun hj=> ?_⟩
 ·have hj:J<X.T.length:=by simpa using hj
  have hp:Y9 o id x=true:=by
   rcases YK (fun j=>Y9 o id (X.T.getD j Zq)) X.T.length with h|h
   ·have:J=X.T.length:=hJ.trans h.1
    omega
   ·have:=h.2.1
    rw [show Zo (fun j=>Y9 o id (X.T.getD j Zq)) X.T.length=J from hJ.symm,<-hx] at this
    exact this
  unfold Y9 at hp
  rw [J1,beq_iff_eq,beq_iff_eq] at hp
  obtain ⟨rfl,rfl⟩:=hp
  have hKI:ZU PP 122 (.agg [.arr .u8 32 x.inn.v,.int .i64 x.inID]) X.T.length (tkI X.T):=ZdD X.T x.inID x.inn.l
  have hI:Zo (fun i=>Zz (.agg [.arr .u8 32 x.inn.v,.int .i64 x.inID]) (.agg [.arr .u8 32 (X.T.getD i Zq).inn.v,.int .i64 (X.T.getD i Zq).inID])) X.T.length=J:=by
   have:=ZjY hL.ki hj
   rw [<-hx] at this
   refine Eq.trans ?_ this
   congr 1
   funext i
   exact Z0Z ..
  have el:X.T.length-1=T'.length:=by rw [hE,Kh hj]
  have he:0=e:=by rw [he,if_pos hj]
  have hd:∀(f:List Zk->Nat->AV),(∀(T:List Zk) (i:Nat),f T i=f [T.getD i Zq] 0)->∀i,Xn (f X.T) J i=f T' i:=fun f hf i=>by
   unfold Xn
   rw [hf T',hE,Z5s]
   cases hb:Nat.blt i J with
   | true=>rw [if_pos (XT hb)];exact hf X.T i
   | false=>rw [if_neg (fun h=>by rw [YL h] at hb;cases hb)];exact hf X.T (i+1)
  simp only [hKI,hI,hKO,hF,hcase,decide_eq_true hj,reduceCtorEq,false_implies,true_implies,forall_const,and_true,true_and,t3,t4]
  exact ⟨he,el,ZE (Uo _) fun i _=>⟨hd tkO (fun _ _=>rfl) i,hd tiV (fun _ _=>rfl) i⟩,el,ZE (QN _) fun i _=>⟨hd tkI (fun _ _=>rfl) i,hd tiV (fun _ _=>rfl) i⟩⟩
 ·have hj:¬J<X.T.length:=by simpa using hj
  have ex:x=Zq:=by
   rw [hx,J5,Jt (by omega)]
   rfl
  have e2:T'=X.T:=by rw [hE,Kg (by omega)]
  have he:5=e:=by rw [he,if_neg hj]
  rw [e2,ex]
  exact ⟨rfl,rfl,rfl,rfl,he,rfl,t1,rfl,t2,t3,t4⟩
theorem Zlw (H:LI->LI) (X:Zb) (o:LI) (id:Int) (J:Nat) (x:Zk) (b:Bool) (hL:X.Lim) (ho:o.length=32) (hJ:J=atO X.T o id) (hx:x=X.T.getD J Zq) (hb:b=Nat.blt J X.T.length):
  evF G0 40 31 [pt 0,.agg [.arr .u8 32 o],.int .i64 id] ⟨5,tbO H X⟩ (Yd 5 (.ret (.tuple [.agg x.c,.bool b])) 5 (tbO H X)):=by
 refine @Eq.mpr _ (let y:=AV.agg [AV.arr u8 (32:Nat) o,AV.int i64 id];let c:=X.T;let a:=c.length;let f:=tkO c;let p:=Zo (fun (i:Nat)=>Zz y (AV.agg [AV.arr u8 (32:Nat) (List.getD c i Zq).out.v,AV.int i64 (List.getD c i Zq).outID])) a;let d:=List.getD c p Zq;let n:=x.inn.v;let m:=x.out.v;let l:=decide (a=a);let e:=tiV c;let w:=tkI c;let k:=X.S;let j:=k.length;let u:=skV H k;let t:=seV k;let h:=X.Q;let g:=h.length;let s:=qkV h;let r:=quV h;let q:=Z4 l (Z8 (5:Nat) [] a f e f e/\Z4 l (Z8 (5:Nat) [] a w e w e/\Z5 (j=j) (Z8 (5:Nat) [] j u t u t/\Z5 (g=g) (Z8 (5:Nat) [] g s r s r/\True))));
 ZU PP (122:Nat) y a f/\Z6 (Nat.blt p a) (d.inn.v=n/\Z5 (d.inID=x.inID) (d.out.v=m/\Z5 (d.outID=x.outID) (Z5 (true=b) q))) (Ze=n/\Z5 ((0:Int)=x.inID) (Ze=m/\Z5 ((0:Int)=x.outID) (Z5 (false=b) q)))) (by kernel_rfl) ?_
 conv=>zeta
 try simp only [vcA]
 try simp only [vcB]
 try simp only [vcC]
 have hF:Zo (fun i=>Zz (.agg [.arr .u8 32 o,.int .i64 id]) (.agg [.arr .u8 32 (X.T.getD i Zq).out.v,.int .i64 (X.T.getD i Zq).outID])) X.T.length=J:=(Zk1 X.T o id).trans hJ.symm
 have hKO:ZU PP 122 (.agg [.arr .u8 32 o,.int .i64 id]) X.T.length (tkO X.T):=ZdC X.T id ho
 obtain ⟨t1,t2,t3,t4⟩:=Xr H X 5 []
 simp only [hF,hx.symm,hKO,true_and]
 have hcase:Nat.blt J X.T.length=decide (J<X.T.length):=by
  rw [JE,decide_eq_true_eq]
  exact ⟨XT,YL⟩
 refine ⟨fun hj=> ?_,fun hj=> ?_⟩
 ·rw [hb,hj]
  simp only [t1,t2,t3,t4,and_self]
 ·have ex:x=Zq:=by
   rw [hx,J5,Jt (by rw [hcase] at hj;simp at hj;omega)]
   rfl
  rw [ex,hb,hj]
  exact ⟨rfl,rfl,rfl,rfl,rfl,t1,t2,t3,t4⟩
theorem Zk4 (H:LI->LI) (X:Zb) (o:LI) (id:Int) (J:Nat) (x:Zk) (b:Bool) (hL:X.Lim) (ho:o.length=32) (hJ:J=Zo (fun i=>XH o id (X.T.getD i Zq)) X.T.length) (hx:x=X.T.getD J Zq) (hb:b=Nat.blt J X.T.length):
  evF G0 40 33 [pt 0,.agg [.arr .u8 32 o],.int .i64 id] ⟨5,tbO H X⟩ (Yd 5 (.ret (.tuple [.agg x.c,.bool b])) 5 (tbO H X)):=by
 refine @Eq.mpr _ (let y:=AV.agg [AV.arr u8 (32:Nat) o,AV.int i64 id];let c:=X.T;let a:=c.length;let f:=tkI c;let p:=Zo (fun (i:Nat)=>Zz y (AV.agg [AV.arr u8 (32:Nat) (List.getD c i Zq).inn.v,AV.int i64 (List.getD c i Zq).inID])) a;let d:=List.getD c p Zq;let n:=x.inn.v;let m:=x.out.v;let l:=decide (a=a);let w:=tkO c;let e:=tiV c;let k:=X.S;let j:=k.length;let u:=skV H k;let t:=seV k;let h:=X.Q;let g:=h.length;let s:=qkV h;let r:=quV h;let q:=Z4 l (Z8 (5:Nat) [] a w e w e/\Z4 l (Z8 (5:Nat) [] a f e f e/\Z5 (j=j) (Z8 (5:Nat) [] j u t u t/\Z5 (g=g) (Z8 (5:Nat) [] g s r s r/\True))));
 ZU PP (122:Nat) y a f/\Z6 (Nat.blt p a) (d.inn.v=n/\Z5 (d.inID=x.inID) (d.out.v=m/\Z5 (d.outID=x.outID) (Z5 (true=b) q))) (Ze=n/\Z5 ((0:Int)=x.inID) (Ze=m/\Z5 ((0:Int)=x.outID) (Z5 (false=b) q)))) (by kernel_rfl) ?_
 conv=>zeta
 try simp only [vcA]
 try simp only [vcB]
 try simp only [vcC]
 have hF:Zo (fun i=>Zz (.agg [.arr .u8 32 o,.int .i64 id]) (.agg [.arr .u8 32 (X.T.getD i Zq).inn.v,.int .i64 (X.T.getD i Zq).inID])) X.T.length=J:=by
  rw [hJ]
  congr 1
  funext i
  exact Z0Z ..
 have hKI:ZU PP 122 (.agg [.arr .u8 32 o,.int .i64 id]) X.T.length (tkI X.T):=ZdD X.T id ho
 obtain ⟨t1,t2,t3,t4⟩:=Xr H X 5 []
 simp only [hF,hx.symm,hKI,true_and]
 have hcase:Nat.blt J X.T.length=decide (J<X.T.length):=by
  rw [JE,decide_eq_true_eq]
  exact ⟨XT,YL⟩
 refine ⟨fun hj=> ?_,fun hj=> ?_⟩
 ·rw [hb,hj]
  simp only [t1,t2,t3,t4,and_self]
 ·have ex:x=Zq:=by
   rw [hx,J5,Jt (by rw [hcase] at hj;simp at hj;omega)]
   rfl
  rw [ex,hb,hj]
  exact ⟨rfl,rfl,rfl,rfl,rfl,t1,t2,t3,t4⟩
def Zk5 (H:LI->LI):ZS:=fun args h K=>Z10 H h args fun X t o i s a az=>match az with
 | [.ptr (some ⟨0,0,0,0,0⟩),.agg [.arr .u8 32 k],.int .i64 id]=>k.length=32/\K (.ret (.tuple [.agg (X.T.getD (atO X.T k id) Zq).c,.int .i64 (if atO X.T k id<X.T.length then 0 else 5)])) ⟨h.next,Uq H ⟨unP X.T k id,X.S,X.Q⟩ h t o i s a⟩
 | _=>False
theorem ZfZ (H:LI->LI) (args:List AV) (h:Z7) (K:KO) (hl:Zk5 H args h K):Zi PP 18 args h K:=by
 refine XE hl fun X t o i s a az hL ha=> ?_
 split at ha
 ·exact ⟨_,_,fun _=>rfl,.evM Zt (Zlv H X _ _ _ _ _ _ hL ha.1 rfl rfl rfl rfl),ha.2⟩
 ·exact ha.elim
def Z5u (H:LI->LI):ZS:=fun args h K=>Z10 H h args fun X t o i s a az=>match az with
 | [.ptr (some ⟨0,0,0,0,0⟩),.agg [.arr .u8 32 k],.int .i64 id]=>k.length=32/\∀x b,K (.ret (.tuple [.agg (Zk.c x),.bool b])) ⟨h.next,Uq H X h t o i s a⟩
 | _=>False
theorem Z7z (H:LI->LI) (args:List AV) (h:Z7) (K:KO) (hl:Z5u H args h K):Zi PP 31 args h K:=by
 refine XE hl fun X t o i s a az hL ha=> ?_
 split at ha
 ·exact ⟨_,_,fun _=>rfl,.evM Zt (Zlw H X _ _ _ _ _ hL ha.1 rfl rfl rfl),ha.2 _ _⟩
 ·exact ha.elim
theorem Zah (H:LI->LI) (args:List AV) (h:Z7) (K:KO) (hl:Z5u H args h K):Zi PP 33 args h K:=by
 refine XE hl fun X t o i s a az hL ha=> ?_
 split at ha
 ·exact ⟨_,_,fun _=>rfl,.evM Zt (Zk4 H X _ _ _ _ _ hL ha.1 rfl rfl rfl),ha.2 _ _⟩
 ·exact ha.elim
noncomputable def Zit (H:LI->LI) (H2:LI->LI->LI) (B:Nat):Zf:=G0.withP 75 (ZjA H H2 B)
theorem Zai:(Zit Zh Z8W 100).Ok:=Zf.withP_ok Zt (Zfu 100 (by decide))
theorem Zk6 (a b:LI) (ha:a.length=32) (hb:b.length=32):
  Z6O PP 31 (.agg [.arr .u8 32 a]) (.agg [.arr .u8 32 b]):=by
 refine @Eq.mpr _ (Z5 (a.length=32/\b.length=32) ((a==b)=Zz (AV.agg [AV.arr u8 32 a]) (AV.agg [AV.arr u8 32 b]))) (by kernel_rfl) ?_
 try simp only [vcA]
 try simp only [vcB]
 try simp only [vcC]
 exact ⟨⟨ha,hb⟩,rfl⟩
theorem ZdF (H:LI->LI) (hH:∀x,(H x).length=32) (S:List H32) {o:LI} (ho:o.length=32):ZU PP 31 (.agg [.arr .u8 32 o]) S.length (skV H S):=⟨fun j _=>Zk6 _ _ ho (hH _)⟩
theorem Zaj (Q:List Zs) {o:LI} (ho:o.length=32):ZU PP 31 (.agg [.arr .u8 32 o]) Q.length (qkV Q):=⟨fun j _=>Zk6 _ _ ho (Q.getD j ZH).hash.l⟩
theorem Ziu (H:LI->LI) (S:List H32) (o:LI):Zo (fun i=>Zz (.agg [.arr .u8 32 o]) (.agg [.arr .u8 32 (H (S.getD i h0).v)])) S.length=We H S o:=by
 unfold We
 congr 1
theorem Zg0 (Q:List Zs) (o:LI):Zo (fun i=>Zz (.agg [.arr .u8 32 o]) (.agg [.arr .u8 32 (Q.getD i ZH).hash.v])) Q.length=atQ Q o:=by
 unfold atQ
 congr 1
theorem WD (a b:Nat):Nat.blt a b=decide (a<b):=by
 rw [JE,decide_eq_true_eq]
 exact ⟨XT,YL⟩
theorem Z11 (d:α) (f:List α->Nat->AV) (hf:∀(T:List α) (i:Nat),f T i=f [T.getD i d] 0) (T:List α) (J i:Nat):Xn (f T) J i=f (T.eraseIdx J) i:=by
 unfold Xn
 rw [hf (T.eraseIdx J),Z5s]
 cases hb:Nat.blt i J with
 | true=>rw [if_pos (XT hb)];exact hf T i
 | false=>rw [if_neg (fun h=>by rw [YL h] at hb;cases hb)];exact hf T (i+1)
theorem Z2F (d:α) (f:List α->Nat->AV) (hf:∀(T:List α) (i:Nat),f T i=f [T.getD i d] 0) (T:List α) (x:α) (hj:j<T.length+1):YV (f T) T.length (f [x] 0) j=f (T++[x]) j:=by
 unfold YV
 rcases Jm j T.length with h|h
 ·rw [Zu (by omega),hf (T++[x]),getD_lt _ _ h]
  exact hf T j
 ·obtain rfl:j=T.length:=by omega
  rw [Jj,hf (T++[x]),Z0X]
theorem Zg1 (d:α) {T:List α} {x:α} (hJ:J<T.length):(T.set J x).getD j d=if j=J then x else T.getD j d:=by
 rw [J5,Ks]
 by_cases h:J=j
 ·rw [if_pos h,if_pos hJ,if_pos h.symm];rfl
 ·rw [if_neg h,if_neg (fun e=>h e.symm),J5]
theorem Ziv {H:LI->LI} {S:List H32} {o:LI} (h:We H S o<S.length):o=H (S.getD (We H S o) h0).v:=by
 rcases YK (fun j=>o==H (S.getD j h0).v) S.length with h1|h1
 ·have:We H S o=S.length:=h1.1
  omega
 ·exact beq_iff_eq.1 h1.2.1
theorem Zlx (H:LI->LI) (X:Zb) (o:LI) (J:Nat) (x:H32) (b:Bool) (hH:∀x,(H x).length=32) (ho:o.length=32) (hJ:J=We H X.S o) (hx:x=X.S.getD J h0) (hb:b=Nat.blt J X.S.length):
  evF G0 40 35 [pt 0,.agg [.arr .u8 32 o]] ⟨5,tbO H X⟩ (Yd 5 (.ret (.tuple [.agg [.arr .u8 32 x.v],.bool b])) 5 (tbO H X)):=by
 refine @Eq.mpr _ (let t:=AV.agg [AV.arr u8 (32:Nat) o];let c:=X.S;let a:=c.length;let g:=skV H c;let m:=Zo (fun (i:Nat)=>Zz t (AV.agg [AV.arr u8 (32:Nat) (H (List.getD c i h0).v)])) a;let e:=X.T;let d:=e.length;let l:=decide (d=d);let k:=tkO e;let f:=tiV e;let s:=tkI e;let r:=seV c;let j:=X.Q;let h:=j.length;let q:=qkV j;let p:=quV j;let n:=Z4 l (Z8 (5:Nat) [] d k f k f/\Z4 l (Z8 (5:Nat) [] d s f s f/\Z5 (a=a) (Z8 (5:Nat) [] a g r g r/\Z5 (h=h) (Z8 (5:Nat) [] h q p q p/\True))));
 ZU PP (31:Nat) t a g/\Z6 (Nat.blt m a) ((List.getD c m h0).v=x.v/\Z5 (true=b) n) (Ze=x.v/\Z5 (false=b) n)) (by kernel_rfl) ?_
 conv=>zeta
 try simp only [vcA]
 try simp only [vcB]
 try simp only [vcC]
 have hF:=(Ziu H X.S o).trans hJ.symm
 have hK:=ZdF H hH X.S ho
 obtain ⟨t1,t2,t3,t4⟩:=Xr H X 5 []
 simp only [hF,hx.symm,hK,true_and]
 cases hc:Nat.blt J X.S.length with
 | true=>
  rw [hb,hc]
  simp only [t1,t2,t3,t4,and_self,reduceCtorEq,false_implies,forall_const]
 | false=>
  have ex:x=h0:=by
   rw [hx,J5,Jt (by rw [WD] at hc;simp at hc;omega)]
   rfl
  rw [hb,hc,ex]
  exact ⟨nofun,fun _=>⟨rfl,rfl,t1,t2,t3,t4⟩⟩
theorem Zly (H:LI->LI) (H2:LI->LI->LI) (B:Nat) (X:Zb) (s:H32) (J:Nat) (S':List H32) (e:Int) (hB:B=100) (hL:X.Lim) (hH:∀x,(H x).length=32) (hJ:J=We H X.S (H s.v)) (he:e=Z47 H X.S s) (hS:S'=Vz H X.S s):
  evF (Zit H H2 B) 40 23 [pt 0,.agg [.arr .u8 32 s.v]] ⟨5,tbO H X⟩ (Yd 5 (.ret (.int .i64 e)) 5 (tbO H ⟨X.T,S',X.Q⟩)):=by
 refine @Eq.mpr _ (let y:=s.v;let t:=y.length;let l:=AV.agg [AV.arr u8 (32:Nat) (H y)];let g:=X.S;let a:=g.length;let f:=skV H g;let C:=ZU PP (31:Nat) l a f;let A:=Zo (fun (i:Nat)=>Zz l (AV.agg [AV.arr u8 (32:Nat) (H (List.getD g i h0).v)])) a;let z:=Nat.blt A a;let K:=decide ((0:Int)=e);let d:=X.T;let j:=X.Q;let x:=Zb.mk d S' j;let h:=x.T;let w:=h.length;let b:=decide (d.length=w);let J:=tiV h;let I:=tiV d;let u:=Z8 (5:Nat) [] w (tkO h) J (tkO d) I;let r:=Z8 (5:Nat) [] w (tkI h) J (tkI d) I;let q:=x.S;let c:=q.length;let G:=decide (a=c);let p:=skV H q;let o:=seV q;let n:=seV g;let F:=AV.agg [AV.arr u8 (32:Nat) y];let m:=x.Q;let E:=m.length;let k:=Z5 (j.length=E) (Z8 (5:Nat) [] E (qkV m) (quV m) (qkV j) (quV j)/\True);let D:=C/\Z6 z (Z4 K (Z4 b (u/\Z4 b (r/\Z4 G (Z8 (5:Nat) [] c p o f (YV n A F)/\k))))) (Z4 K (Z4 b (u/\Z4 b (r/\Z5 (a+(1:Nat)=c) (Z8 (5:Nat) [] c p o (YV f a l) (YV n a F)/\k)))));
 Z5 (t=(32:Nat)) (Z5 ((32:Nat)=t) (Z5 (t<=B) (C/\Z6 z D (Z6 (decide ((↑a:Int)>=(64:Int))) (Z5 ((3:Int)=e) (Z4 b (u/\Z4 b (r/\Z4 G (Z8 (5:Nat) [] c p o f n/\k))))) D))))) (by kernel_rfl) ?_
 conv=>zeta
 try simp only [vcA]
 try simp only [vcB]
 try simp only [vcC]
 have hF:=(Ziu H X.S (H s.v)).trans hJ.symm
 have hK:=ZdF H hH X.S (hH s.v)
 obtain ⟨t1,t2,t3,t4⟩:=Xr H X 5 []
 simp only [hF,hK,true_and]
 subst hB
 have hl:=s.l
 cases hc:Nat.blt J X.S.length with
 | true=>
  have hj:J<X.S.length:=XT hc
  have hk:H s.v=H (X.S.getD J h0).v:=by rw [hJ] at hj⊢;exact Ziv hj
  have hS:S'=X.S.set J s:=by rw [hS,Vz,<-hJ,if_pos hj]
  have he:0=e:=by rw [he,Z47,<-hJ,if_pos hj]
  have el:X.S.length=S'.length:=by rw [hS,Ko]
  have hm:Z8 5 [] S'.length (skV H S') (seV S') (skV H X.S) (YV (seV X.S) J (AV.agg [AV.arr u8 32 s.v])):=ZE (VW H _) fun j hj'=>by
   rw [hS]
   unfold YV skV seV
   rw [Zg1 h0 hj]
   by_cases h:j=J
   ·subst h
    rw [if_pos rfl,Jj,hk]
    exact ⟨rfl,rfl⟩
   ·rw [if_neg h,Zu h]
    exact ⟨rfl,rfl⟩
  simp only [t1,t2,t4,hl,he.symm,el,hm,and_self,reduceCtorEq,false_implies,forall_const,Nat.reduceLeDiff]
 | false=>
  have hj:¬J<X.S.length:=fun h=>by rw [YL h] at hc;cases hc
  refine ⟨hl,hl.symm,by omega,nofun,fun _=>⟨fun g=> ?_,fun g=>⟨nofun,fun _=> ?_⟩⟩⟩
  ·have hS:S'=X.S:=by rw [hS,Vz,<-hJ,if_neg hj,if_pos (by omega)]
   have he:3=e:=by rw [he,Z47,<-hJ,if_neg hj,if_pos (by omega)]
   rw [hS]
   exact ⟨he,t1,t2,rfl,t3,t4⟩
  ·have hS:S'=X.S++[s]:=by rw [hS,Vz,<-hJ,if_neg hj,if_neg (by omega)]
   have he:0=e:=by rw [he,Z47,<-hJ,if_neg hj,if_neg (by omega)]
   have el:X.S.length+1=S'.length:=by rw [hS,J3];rfl
   refine ⟨he,t1,t2,el,ZE (VW H _) fun j hj'=> ?_,t4⟩
   rw [hS]
   exact ⟨Z2F h0 (skV H) (fun _ _=>rfl) X.S s (by omega),Z2F h0 seV (fun _ _=>rfl) X.S s (by omega)⟩
theorem Zlz (H:LI->LI) (X:Zb) (o:LI) (J:Nat) (S':List H32) (e:Int) (hL:X.Lim) (hH:∀x,(H x).length=32) (ho:o.length=32) (hJ:J=We H X.S o) (he:e=Z7v H X.S o) (hS:S'=Z4z H X.S o):
  evF G0 40 30 [pt 0,.agg [.arr .u8 32 o]] ⟨5,tbO H X⟩ (Yd 5 (.ret (.int .i64 e)) 5 (tbO H ⟨X.T,S',X.Q⟩)):=by
 refine @Eq.mpr _ (let E:=AV.agg [AV.arr u8 (32:Nat) o];let d:=X.S;let b:=d.length;let k:=skV H d;let s:=ZU PP (31:Nat) E b k;let j:=Zo (fun (i:Nat)=>Zz E (AV.agg [AV.arr u8 (32:Nat) (H (List.getD d i h0).v)])) b;let r:=Nat.blt j b;let q:=decide ((0:Int)=e);let a:=X.T;let h:=X.Q;let p:=Zb.mk a S' h;let g:=p.T;let n:=g.length;let f:=decide (a.length=n);let D:=tiV g;let C:=tiV a;let B:=Z8 (5:Nat) [] n (tkO g) D (tkO a) C;let A:=Z8 (5:Nat) [] n (tkI g) D (tkI a) C;let m:=p.S;let c:=m.length;let z:=skV H m;let y:=seV m;let x:=seV d;let l:=p.Q;let w:=l.length;let u:=Z5 (h.length=w) (Z8 (5:Nat) [] w (qkV l) (quV l) (qkV h) (quV h)/\True);let t:=Z4 f (B/\Z4 f (A/\Z5 (b=c) (Z8 (5:Nat) [] c z y k x/\u)));
 s/\Z6 r (s/\Z6 r (Z4 q (Z4 f (B/\Z4 f (A/\Z5 (b-(1:Nat)=c) (Z8 (5:Nat) [] c z y (Xn k j) (Xn x j)/\u))))) (Z4 q t)) (Z5 ((5:Int)=e) t)) (by kernel_rfl) ?_
 conv=>zeta
 try simp only [vcA]
 try simp only [vcB]
 try simp only [vcC]
 have hF:=(Ziu H X.S o).trans hJ.symm
 have hK:=ZdF H hH X.S ho
 obtain ⟨t1,t2,t3,t4⟩:=Xr H X 5 []
 simp only [hF,hK,true_and]
 cases hc:Nat.blt J X.S.length with
 | true=>
  have hj:J<X.S.length:=XT hc
  have hS:S'=X.S.eraseIdx J:=by rw [hS,Z4z,<-hJ]
  have he:0=e:=by rw [he,Z7v,<-hJ,if_pos hj]
  have el:X.S.length-1=S'.length:=by rw [hS,Kh hj]
  refine ⟨fun _=>⟨fun _=>⟨he,t1,t2,el,ZE (VW H _) fun j hj'=> ?_,t4⟩,nofun⟩,nofun⟩
  rw [hS]
  exact ⟨Z11 h0 (skV H) (fun _ _=>rfl) X.S J j,Z11 h0 seV (fun _ _=>rfl) X.S J j⟩
 | false=>
  have hj:¬J<X.S.length:=fun h=>by rw [YL h] at hc;cases hc
  have hS:S'=X.S:=by rw [hS,Z4z,<-hJ,Kg (by omega)]
  have he:5=e:=by rw [he,Z7v,<-hJ,if_neg hj]
  rw [hS]
  exact ⟨nofun,fun _=>⟨he,t1,t2,rfl,t3,t4⟩⟩
def Ziw (H:LI->LI):ZS:=fun args h K=>Z10 H h args fun X t o i s a az=>match az with
 | [.ptr (some ⟨0,0,0,0,0⟩),.agg [.arr .u8 32 k]]=>∃x:H32,k=x.v/\K (.ret (.int .i64 (Z47 H X.S x))) ⟨h.next,Uq H ⟨X.T,Vz H X.S x,X.Q⟩ h t o i s a⟩
 | _=>False
theorem Zak (args:List AV) (h:Z7) (K:KO) (hl:Ziw Zh args h K):Zi PP 23 args h K:=by
 refine XE hl fun X t o i s a az hL ha=> ?_
 split at ha
 ·obtain ⟨x,rfl,hK⟩:=ha
  exact ⟨_,_,fun _=>rfl,.evM Zai (Zly Zh Z8W 100 X x _ _ _ rfl hL Z0R rfl rfl rfl),hK⟩
 ·exact ha.elim
def Zk7 (H:LI->LI):ZS:=fun args h K=>Z10 H h args fun X t o i s a az=>match az with
 | [.ptr (some ⟨0,0,0,0,0⟩),.agg [.arr .u8 32 k]]=>k.length=32/\K (.ret (.int .i64 (Z7v H X.S k))) ⟨h.next,Uq H ⟨X.T,Z4z H X.S k,X.Q⟩ h t o i s a⟩
 | _=>False
theorem Zg2 (args:List AV) (h:Z7) (K:KO) (hl:Zk7 Zh args h K):Zi PP 30 args h K:=by
 refine XE hl fun X t o i s a az hL ha=> ?_
 split at ha
 ·exact ⟨_,_,fun _=>rfl,.evM Zt (Zlz Zh X _ _ _ _ hL Z0R ha.1 rfl rfl rfl),ha.2⟩
 ·exact ha.elim
def Zix (H:LI->LI):ZS:=fun args h K=>Z10 H h args fun X t o i s a az=>match az with
 | [.ptr (some ⟨0,0,0,0,0⟩),.agg [.arr .u8 32 k]]=>k.length=32/\∀(x:H32) b,K (.ret (.tuple [.agg [.arr .u8 32 x.v],.bool b])) ⟨h.next,Uq H X h t o i s a⟩
 | _=>False
theorem Zal (args:List AV) (h:Z7) (K:KO) (hl:Zix Zh args h K):Zi PP 35 args h K:=by
 refine XE hl fun X t o i s a az hL ha=> ?_
 split at ha
 ·exact ⟨_,_,fun _=>rfl,.evM Zt (Zlx Zh X _ _ _ _ Z0R ha.1 rfl rfl rfl),ha.2 _ _⟩
 ·exact ha.elim
def Zs.ic (q:Zs):List AV:=[.arr .u8 32 q.hash.v,.arr .u8 32 q.key.v,.int .i64 q.amount,.int .i64 q.least]
theorem ZlA (H:LI->LI) (X:Zb) (o:LI) (J:Nat) (x:Zs) (b:Bool) (ho:o.length=32) (hJ:J=atQ X.Q o) (hx:x=X.Q.getD J ZH) (hb:b=Nat.blt J X.Q.length):
  evF G0 40 37 [pt 0,.agg [.arr .u8 32 o]] ⟨5,tbO H X⟩ (Yd 5 (.ret (.tuple [.agg x.ic,.agg [.arr .u8 32 x.secret.v],.bool b])) 5 (tbO H X)):=by
 refine @Eq.mpr _ (let A:=AV.agg [AV.arr u8 (32:Nat) o];let d:=X.Q;let a:=d.length;let j:=qkV d;let p:=Zo (fun (i:Nat)=>Zz A (AV.agg [AV.arr u8 (32:Nat) (List.getD d i ZH).hash.v])) a;let c:=List.getD d p ZH;let h:=c.secret.v;let n:=x.hash.v;let m:=x.key.v;let z:=x.secret.v;let g:=X.T;let f:=g.length;let y:=decide (f=f);let w:=tkO g;let e:=tiV g;let u:=tkI g;let l:=X.S;let k:=l.length;let t:=skV H l;let s:=seV l;let r:=quV d;let q:=Z4 y (Z8 (5:Nat) [] f w e w e/\Z4 y (Z8 (5:Nat) [] f u e u e/\Z5 (k=k) (Z8 (5:Nat) [] k t s t s/\Z5 (a=a) (Z8 (5:Nat) [] a j r j r/\True))));
 ZU PP (31:Nat) A a j/\Z6 (Nat.blt p a) (h=h/\c.hash.v=n/\c.key.v=m/\Z5 (c.amount=x.amount) (Z5 (c.least=x.least) (h=z/\Z5 (true=b) q))) (Ze=Ze/\Ze=n/\Ze=m/\Z5 ((0:Int)=x.amount) (Z5 ((0:Int)=x.least) (Ze=z/\Z5 (false=b) q)))) (by kernel_rfl) ?_
 conv=>zeta
 try simp only [vcA]
 try simp only [vcB]
 try simp only [vcC]
 have hF:=(Zg0 X.Q o).trans hJ.symm
 have hK:=Zaj X.Q ho
 obtain ⟨t1,t2,t3,t4⟩:=Xr H X 5 []
 simp only [hF,hx.symm,hK,true_and]
 cases hc:Nat.blt J X.Q.length with
 | true=>
  rw [hb,hc]
  simp only [t1,t2,t3,t4,and_self,reduceCtorEq,false_implies,forall_const]
 | false=>
  have ex:x=ZH:=by
   rw [hx,J5,Jt (by rw [WD] at hc;simp at hc;omega)]
   rfl
  rw [hb,hc,ex]
  exact ⟨nofun,fun _=>⟨rfl,rfl,rfl,rfl,rfl,rfl,t1,t2,t3,t4⟩⟩
theorem ZlB (H:LI->LI) (X:Zb) (o:LI) (J:Nat) (x:Zs) (Q':List Zs) (e:Int) (ho:o.length=32) (hJ:J=atQ X.Q o) (hx:x=X.Q.getD J ZH) (he:e=Z7w X.Q o) (hQ:Q'=Z4A X.Q o):
  evF G0 40 27 [pt 0,.agg [.arr .u8 32 o]] ⟨5,tbO H X⟩ (Yd 5 (.ret (.tuple [.agg [.arr .u8 32 x.secret.v],.int .i64 e])) 5 (tbO H ⟨X.T,X.S,Q'⟩)):=by
 refine @Eq.mpr _ (let J:=AV.agg [AV.arr u8 (32:Nat) o];let b:=X.Q;let a:=b.length;let k:=qkV b;let t:=ZU PP (31:Nat) J a k;let d:=Zo (fun (i:Nat)=>Zz J (AV.agg [AV.arr u8 (32:Nat) (List.getD b i ZH).hash.v])) a;let s:=Nat.blt d a;let r:=x.secret.v;let q:=(List.getD b d ZH).secret.v=r;let I:=decide ((0:Int)=e);let c:=X.T;let j:=X.S;let p:=Zb.mk c j Q';let h:=p.T;let n:=h.length;let g:=decide (c.length=n);let G:=tiV h;let F:=tiV c;let E:=Z8 (5:Nat) [] n (tkO h) G (tkO c) F;let D:=Z8 (5:Nat) [] n (tkI h) G (tkI c) F;let m:=p.S;let C:=m.length;let B:=decide (j.length=C);let A:=Z8 (5:Nat) [] C (skV H m) (seV m) (skV H j) (seV j);let l:=p.Q;let f:=l.length;let z:=qkV l;let y:=quV l;let w:=quV b;let u:=Z4 g (E/\Z4 g (D/\Z4 B (A/\Z5 (a=f) (Z8 (5:Nat) [] f z y k w/\True))));
 t/\Z6 s (t/\Z6 s (q/\Z4 I (Z4 g (E/\Z4 g (D/\Z4 B (A/\Z5 (a-(1:Nat)=f) (Z8 (5:Nat) [] f z y (Xn k d) (Xn w d)/\True)))))) (q/\Z4 I u)) (Ze=r/\Z5 ((5:Int)=e) u)) (by kernel_rfl) ?_
 conv=>zeta
 try simp only [vcA]
 try simp only [vcB]
 try simp only [vcC]
 have hF:=(Zg0 X.Q o).trans hJ.symm
 have hK:=Zaj X.Q ho
 obtain ⟨t1,t2,t3,t4⟩:=Xr H X 5 []
 simp only [hF,hx.symm,hK,true_and]
 cases hc:Nat.blt J X.Q.length with
 | true=>
  have hj:J<X.Q.length:=XT hc
  have hQ:Q'=X.Q.eraseIdx J:=by rw [hQ,Z4A,<-hJ]
  have he:0=e:=by rw [he,Z7w,<-hJ,if_pos hj]
  have el:X.Q.length-1=Q'.length:=by rw [hQ,Kh hj]
  have hm:Z8 5 [] Q'.length (qkV Q') (quV Q') (Xn (qkV X.Q) J) (Xn (quV X.Q) J):=ZE (Up _) fun j hj'=>by
   rw [hQ]
   exact ⟨Z11 ZH qkV (fun _ _=>rfl) X.Q J j,Z11 ZH quV (fun _ _=>rfl) X.Q J j⟩
  simp only [t1,t2,t3,he,el,hm,and_self,reduceCtorEq,false_implies,forall_const,true_and,and_true]
 | false=>
  have hj:¬J<X.Q.length:=fun h=>by rw [YL h] at hc;cases hc
  have hQ:Q'=X.Q:=by rw [hQ,Z4A,<-hJ,Kg (by omega)]
  have he:5=e:=by rw [he,Z7w,<-hJ,if_neg hj]
  have ex:x=ZH:=by
   rw [hx,J5,Jt (by omega)]
   rfl
  rw [hQ,ex]
  exact ⟨nofun,fun _=>⟨rfl,he,t1,t2,t3,rfl,t4⟩⟩
theorem ZlC (H:LI->LI) (H2:LI->LI->LI) (B:Nat) (X:Zb) (q:Zs) (J:Nat) (Q':List Zs) (e:Int) (hB:B=100) (hL:X.Lim) (hH:∀x,(H x).length=32) (hJ:J=atQ X.Q q.hash.v) (he:e=Wo H X.Q q) (hQ:Q'=VA H X.Q q):
  evF (Zit H H2 B) 40 25 [pt 0,.agg q.ic,.agg [.arr .u8 32 q.secret.v]] ⟨5,tbO H X⟩ (Yd 5 (.ret (.int .i64 e)) 5 (tbO H ⟨X.T,X.S,Q'⟩)):=by
 refine @Eq.mpr _ (let g:=q.hash.v;let q2:=AV.arr u8 (32:Nat) g;let u:=AV.agg [q2];let j:=X.Q;let b:=j.length;let h:=qkV j;let J:=ZU PP (31:Nat) u b h;let I:=Zo (fun (i:Nat)=>Zz u (AV.agg [AV.arr u8 (32:Nat) (List.getD j i ZH).hash.v])) b;let G:=Nat.blt I b;let F:=q.amount;let a4:=decide ((1:Int)<=F);let a3:= !decide (F<=(1125899906842624:Int));let f:=X.T;let l:=X.S;let E:=Zb.mk f l Q';let k:=E.T;let D:=k.length;let c:=decide (f.length=D);let a2:=tiV k;let a1:=tiV f;let C:=Z8 (5:Nat) [] D (tkO k) a2 (tkO f) a1;let A:=Z8 (5:Nat) [] D (tkI k) a2 (tkI f) a1;let z:=E.S;let a0:=z.length;let y:=decide (l.length=a0);let x:=Z8 (5:Nat) [] a0 (skV H z) (seV z) (skV H l) (seV l);let w:=E.Q;let d:=w.length;let Z:=decide (b=d);let t:=qkV w;let s:=quV w;let r:=quV j;let p:=Z4 c (C/\Z4 c (A/\Z4 y (x/\Z4 Z (Z8 (5:Nat) [] d t s h r/\True))));let a:=Z5 ((2:Int)=e) p;let o:=q.least;let Y:=decide ((1:Int)<=o);let W:= !decide (o<=(1000:Int));let V:=g=g;let n:=q.secret.v;let m:=n.length;let U:=decide (m=(32:Nat));let R:=decide ((32:Nat)=m);let P:=decide (m<=B);let O:=H n;let N:=decide (O.length=(32:Nat)/\g.length=(32:Nat));let M:= !O==g;let L:=decide ((0:Int)=e);let K:=AV.agg [q2,AV.arr u8 (32:Nat) q.key.v,AV.int i64 F,AV.int i64 o,AV.arr u8 (32:Nat) n];
 J/\Z6 G (Z6 a4 (Z6 a3 a (Z6 Y (Z6 W a (V/\Z4 U (Z4 R (Z4 P (Z4 N (Z6 M a (Z5 ((360:Int)=e) p))))))) a)) a) (Z6 a4 (Z6 a3 a (Z6 Y (Z6 W a (V/\Z4 U (Z4 R (Z4 P (Z4 N (Z6 M a (Z6 (decide ((↑b:Int)>=(16:Int))) (Z5 ((3:Int)=e) p) (J/\Z6 G (Z4 L (Z4 c (C/\Z4 c (A/\Z4 y (x/\Z4 Z (Z8 (5:Nat) [] d t s h (YV r I K)/\True)))))) (Z4 L (Z4 c (C/\Z4 c (A/\Z4 y (x/\Z5 (b+(1:Nat)=d) (Z8 (5:Nat) [] d t s (YV h b u) (YV r b K)/\True)))))))))))))) a)) a)) (by kernel_rfl) ?_
 conv=>zeta
 try simp only [vcA]
 try simp only [vcB]
 try simp only [vcC]
 have hF:=(Zg0 X.Q q.hash.v).trans hJ.symm
 have hK:=Zaj X.Q q.hash.l
 obtain ⟨t1,t2,t3,t4⟩:=Xr H X 5 []
 simp only [hF,hK,true_and]
 subst hB
 have hl:=q.secret.l
 have hk:∀k:Int,k≠0->Wo H X.Q q=k->k=e/\Z8 5 [] X.T.length (tkO X.T) (tiV X.T) (tkO X.T) (tiV X.T)/\Z8 5 [] X.T.length (tkI X.T) (tiV X.T) (tkI X.T) (tiV X.T)/\Z8 5 [] X.S.length (skV H X.S) (seV X.S) (skV H X.S) (seV X.S)/\X.Q.length=Q'.length/\Z8 5 [] Q'.length (qkV Q') (quV Q') (qkV X.Q) (quV X.Q):=fun k h0 hk=>by
  have:Q'=X.Q:=by rw [hQ,VA,if_neg (by omega)]
  rw [this,he,hk]
  exact ⟨rfl,t1,t2,t3,rfl,t4⟩
 have k2:¬(XK H q=true)->Wo H X.Q q=2:=fun h=>by rw [Wo,if_neg h]
 have ok:XK H q=true↔(1<=q.amount/\q.amount<=1125899906842624)/\(1<=q.least/\q.least<=1000)/\(H q.secret.v==q.hash.v)=true:=by
  unfold XK
  rw [J1,J1,decide_eq_true_eq,decide_eq_true_eq,and_assoc]
 have k3:XK H q=true->Wo H X.Q q=if J<X.Q.length then 360 else if 16<=X.Q.length then 3 else 0:=fun h=>by rw [Wo,if_pos h,<-hJ]
 cases hc:Nat.blt J X.Q.length
 all_goals
  first|refine ⟨fun h=>absurd h (by decide),fun _=> ?_⟩|refine ⟨fun _=> ?_,fun h=>absurd h (by decide)⟩
  refine ⟨fun a0=>⟨fun a1=>hk 2 (by decide) (k2 fun h=> ?_),fun a1=>⟨fun b0=>⟨fun b1=>hk 2 (by decide) (k2 fun h=> ?_),fun b1=>⟨hl,hl.symm,by omega,⟨hH _,q.hash.l⟩,fun c1=>hk 2 (by decide) (k2 fun h=> ?_),fun c1=> ?_⟩⟩,fun b0=>hk 2 (by decide) (k2 fun h=> ?_)⟩⟩,fun a0=>hk 2 (by decide) (k2 fun h=> ?_)⟩
  ·have:=ok.1 h;simp only [JA,decide_eq_false_iff_not] at a1;omega
  ·have:=ok.1 h;simp only [JA,decide_eq_false_iff_not] at b1;omega
  ·have:=(ok.1 h).2.2;rw [this] at c1;cases c1
  rotate_left
  ·have:=ok.1 h;omega
  ·have:=ok.1 h;omega
  simp only [Bool.not_eq_false',decide_eq_true_eq] at a1 b1
  have c2:(H q.secret.v==q.hash.v)=true:=by simpa using c1
  have k3:=k3 (ok.2 ⟨⟨a0,a1⟩,⟨b0,b1⟩,c2⟩)
 ·have hj:¬J<X.Q.length:=fun h=>by rw [YL h] at hc;cases hc
  rw [if_neg hj] at k3
  refine ⟨fun g=>hk 3 (by decide) (by rw [k3,if_pos (by omega)]),fun g=>⟨nofun,fun _=> ?_⟩⟩
  rw [if_neg (by omega)] at k3
  have hQ:Q'=X.Q++[q]:=by rw [hQ,VA,if_pos k3]
  have el:X.Q.length+1=Q'.length:=by rw [hQ,J3];rfl
  refine ⟨by rw [he,k3],t1,t2,t3,el,ZE (Up _) fun j hj'=> ?_⟩
  rw [hQ]
  exact ⟨Z2F ZH qkV (fun _ _=>rfl) X.Q q (by omega),Z2F ZH quV (fun _ _=>rfl) X.Q q (by omega)⟩
 ·rw [if_pos (XT hc)] at k3
  exact hk 360 (by decide) k3
def ZdG (H:LI->LI):ZS:=fun args h K=>Z10 H h args fun X t o i s a az=>match az with
 | [.ptr (some ⟨0,0,0,0,0⟩),.agg cs,.agg [.arr .u8 32 k]]=>∃q:Zs,(cs=q.ic/\k=q.secret.v)/\K (.ret (.int .i64 (Wo H X.Q q))) ⟨h.next,Uq H ⟨X.T,X.S,VA H X.Q q⟩ h t o i s a⟩
 | _=>False
theorem Z7A (args:List AV) (h:Z7) (K:KO) (hl:ZdG Zh args h K):Zi PP 25 args h K:=by
 refine XE hl fun X t o i s a az hL ha=> ?_
 split at ha
 ·obtain ⟨q,⟨rfl,rfl⟩,hK⟩:=ha
  exact ⟨_,_,fun _=>rfl,.evM Zai (ZlC Zh Z8W 100 X q _ _ _ rfl hL Z0R rfl rfl rfl),hK⟩
 ·exact ha.elim
def Zk8 (H:LI->LI):ZS:=fun args h K=>Z10 H h args fun X t o i s a az=>match az with
 | [.ptr (some ⟨0,0,0,0,0⟩),.agg [.arr .u8 32 k]]=>k.length=32/\K (.ret (.tuple [.agg [.arr .u8 32 (X.Q.getD (atQ X.Q k) ZH).secret.v],.int .i64 (Z7w X.Q k)])) ⟨h.next,Uq H ⟨X.T,X.S,Z4A X.Q k⟩ h t o i s a⟩
 | _=>False
theorem Zg3 (H:LI->LI) (args:List AV) (h:Z7) (K:KO) (hl:Zk8 H args h K):Zi PP 27 args h K:=by
 refine XE hl fun X t o i s a az hL ha=> ?_
 split at ha
 ·exact ⟨_,_,fun _=>rfl,.evM Zt (ZlB H X _ _ _ _ _ ha.1 rfl rfl rfl rfl),ha.2⟩
 ·exact ha.elim
def Ziy (H:LI->LI):ZS:=fun args h K=>Z10 H h args fun X t o i s a az=>match az with
 | [.ptr (some ⟨0,0,0,0,0⟩),.agg [.arr .u8 32 k]]=>k.length=32/\∀(q:Zs) b,K (.ret (.tuple [.agg q.ic,.agg [.arr .u8 32 q.secret.v],.bool b])) ⟨h.next,Uq H X h t o i s a⟩
 | _=>False
theorem Zam (H:LI->LI) (args:List AV) (h:Z7) (K:KO) (hl:Ziy H args h K):Zi PP 37 args h K:=by
 refine XE hl fun X t o i s a az hL ha=> ?_
 split at ha
 ·exact ⟨_,_,fun _=>rfl,.evM Zt (ZlA H X _ _ _ _ ha.1 rfl rfl rfl),ha.2 _ _⟩
 ·exact ha.elim
structure V3 where
 own:Bool
 id:Int
 amount:Int
 hash:H32
 expiry:Int
 stage:Int
 fin:Int
 secret:H32
def V3.c (p:V3):List AV:=[.bool p.own,.int .i64 p.id,.int .i64 p.amount,.arr .u8 32 p.hash.v,.int .i64 p.expiry,.int .i64 p.stage,.int .i64 p.fin,.arr .u8 32 p.secret.v]
structure V4 where
 key:H32
 next:H32
 amount:Int
 expiry:Int
def V4.c (p:V4):List AV:=[.arr .u8 32 p.key.v,.arr .u8 32 p.next.v,.int .i64 p.amount,.int .i64 p.expiry]
def enZ (f:Bool) (x:Zs) (p:V3) (q:V4) (ht:Int):Int:=if f=true then (if p.amount<x.amount then 32 else if p.amount<q.amount then 32 else if p.expiry>=ht then (if (!decide (u64.wrap (u64.wrap p.expiry-u64.wrap ht)>=u64.wrap x.least))=true then 33 else if p.expiry<q.expiry then 33 else 0) else 33) else 31
theorem ZlD (H:LI->LI) (X:Zb) (p:V3) (q:V4) (ht:Int) (J:Nat) (e:Int) (hL:X.Lim) (hJ:J=atQ X.Q p.hash.v) (he:e=enZ (Nat.blt J X.Q.length) (X.Q.getD J ZH) p q ht):
  evF G0 40 39 [pt 0,.agg p.c,.agg q.c,.int .i64 ht] ⟨5,tbO H X⟩ (Yd 5 (.ret (.int .i64 e)) 5 (tbO H X)):=by
 refine @Eq.mpr _ (let z:=AV.agg [AV.arr u8 (32:Nat) p.hash.v];let b:=X.Q;let a:=b.length;let h:=qkV b;let r:=Zo (fun (i:Nat)=>Zz z (AV.agg [AV.arr u8 (32:Nat) (List.getD b i ZH).hash.v])) a;let o:=List.getD b r ZH;let d:=X.T;let c:=d.length;let n:=decide (c=c);let y:=tkO d;let g:=tiV d;let x:=tkI d;let m:=X.S;let l:=m.length;let w:=skV H m;let u:=seV m;let t:=quV b;let f:=Z4 n (Z8 (5:Nat) [] c y g y g/\Z4 n (Z8 (5:Nat) [] c x g x g/\Z5 (l=l) (Z8 (5:Nat) [] l w u w u/\Z5 (a=a) (Z8 (5:Nat) [] a h t h t/\True))));let s:=Z5 ((32:Int)=e) f;let k:=p.expiry;let j:=Z5 ((33:Int)=e) f;
 ZU PP (31:Nat) z a h/\Z6 (Nat.blt r a) (Z6 (decide (p.amount<o.amount)) s (Z6 (decide (p.amount<q.amount)) s (Z6 (decide (k>=ht)) (Z6 (!decide (wrap u64 (wrap u64 k-wrap u64 ht)>=wrap u64 o.least)) j (Z6 (decide (k<q.expiry)) j (Z5 ((0:Int)=e) f))) j))) (Z5 ((31:Int)=e) f)) (by kernel_rfl) ?_
 conv=>zeta
 try simp only [vcA]
 try simp only [vcB]
 try simp only [vcC]
 have hF:=(Zg0 X.Q p.hash.v).trans hJ.symm
 have hK:=Zaj X.Q p.hash.l
 obtain ⟨t1,t2,t3,t4⟩:=Xr H X 5 []
 simp only [hF,hK,t1,t2,t3,t4,true_and,and_true]
 rw [he]
 unfold enZ
 cases Nat.blt J X.Q.length with
 | false=>exact ⟨fun h=>absurd h (by decide),fun _=>rfl⟩
 | true=>
  refine ⟨fun _=>⟨fun a=> ?_,fun a=>⟨fun b=> ?_,fun b=>⟨fun c=>⟨fun d=> ?_,fun d=>⟨fun f=> ?_,fun f=> ?_⟩⟩,fun c=> ?_⟩⟩⟩,fun h=>absurd h (by decide)⟩
  all_goals
   rw [if_pos rfl]
   first|rw [if_pos a]|rw [if_neg a]
   try (first|rw [if_pos b]|rw [if_neg b])
   try (first|rw [if_pos c]|rw [if_neg c])
   try (first|rw [if_pos d]|rw [if_neg (by rw [d];decide)])
   try (first|rw [if_pos f]|rw [if_neg f])
def ZdH (H:LI->LI):ZS:=fun args h K=>Z10 H h args fun X t o i s a az=>match az with
 | [.ptr (some ⟨0,0,0,0,0⟩),.agg cs,.agg ds,.int .i64 ht]=>∃(p:V3) (q:V4),(cs=p.c/\ds=q.c)/\∀e,K (.ret (.int .i64 e)) ⟨h.next,Uq H X h t o i s a⟩
 | _=>False
theorem Z7B (H:LI->LI) (args:List AV) (h:Z7) (K:KO) (hl:ZdH H args h K):Zi PP 39 args h K:=by
 refine XE hl fun X t o i s a az hL ha=> ?_
 split at ha
 ·obtain ⟨p,q,⟨rfl,rfl⟩,hK⟩:=ha
  exact ⟨_,_,fun _=>rfl,.evM Zt (ZlD H X p q _ _ _ hL rfl rfl),hK _⟩
 ·exact ha.elim
def Vl {α:Type} (d:α) (c:α->List AV) (L:List α) (i:Nat):List AV:=c (L.getD i d)
structure Zg4 {α:Type} (c:α->List AV):Prop where
 p:∀x,YD (c x)=true
 a:∀x,∀v∈c x,v.isCell=true\/∃k n xs,v=.arr k n xs
theorem Zj {d:α} {c:α->List AV} (hc:Zg4 c) {L:List α} {k:Nat} {τ:Ren} {n:Nat} {f:Nat->List AV} (h:∀i,i<n->f i=Vl d c L i):Z9 k τ n (Vl d c L) f:=
 Qq h (fun i _=>hc.p _) fun i _ v hv=>hc.a _ v hv
theorem Yc {d:α} {c:α->List AV} {L:List α} {x:α} {f:Nat->List AV} (hf:f 0=c x) {i:Nat} (hi:i<L.length+1):Xd L.length (Vl d c L) f i=Vl d c (L++[x]) i:=by
 unfold Vl
 rcases Jm i L.length with h|h
 ·rw [Za1 h,getD_lt _ _ h]
 ·obtain rfl:i=L.length:=by omega
  rw [Za2 (J2 _),Nat.sub_self,hf,Z0X]
theorem Ui {d:α} {c:α->List AV} {L:List α} {x y:α} {f g:Nat->List AV} (hf:f 0=c x) (hg:g 0=c y) {i:Nat} (hi:i<L.length+1+1):Xd (L.length+1) (Xd L.length (Vl d c L) f) g i=Vl d c (L++[x,y]) i:=by
 have e:L++[x,y]=(L++[x])++[y]:=by simp
 have el:(L++[x]).length=L.length+1:=by simp
 rw [e]
 rcases Jm i (L.length+1) with h|h
 ·rw [Za1 h,Yc hf h]
  unfold Vl
  rw [getD_lt d (T:=L++[x]) y (by omega)]
 ·obtain rfl:i=L.length+1:=by omega
  rw [Za2 (J2 _),Nat.sub_self,hg]
  unfold Vl
  rw [<-el,Z0X]
def Zs.c (q:Zs):List AV:=[.arr .u8 32 q.hash.v,.arr .u8 32 q.key.v,.int .i64 q.amount,.int .i64 q.least,.arr .u8 32 q.secret.v]
def VX (x:H32):List AV:=[.arr .u8 32 x.v]
theorem ZX:Zg4 Zk.c:=⟨fun _=>rfl,fun x v hv=>by
 simp only [Zk.c,J7,JB,or_false] at hv
 rcases hv with rfl|rfl|rfl|rfl<;>first|exact .inl rfl|exact .inr ⟨_,_,_,rfl⟩⟩
theorem Ye:Zg4 VX:=⟨fun _=>rfl,fun x v hv=>by
 simp only [VX,J7,JB,or_false] at hv
 exact .inr ⟨_,_,_,hv⟩⟩
theorem Y8:Zg4 Zs.c:=⟨fun _=>rfl,fun x v hv=>by
 simp only [Zs.c,J7,JB,or_false] at hv
 rcases hv with rfl|rfl|rfl|rfl|rfl<;>first|exact .inl rfl|exact .inr ⟨_,_,_,rfl⟩⟩
def tiR (L:List Zk):Nat->List AV:=Vl Zq Zk.c L
def seR (L:List H32):Nat->List AV:=Vl h0 VX L
def quR (L:List Zs):Nat->List AV:=Vl ZH Zs.c L
def dcB (D:Zb):List (Nat×Blk):=[(0,.rows 66 D.T.length (tiR D.T)),(1,.rows 32 D.S.length (seR D.S)),(2,.rows 98 D.Q.length (quR D.Q))]
def dcC (D:Zb):List AV:=[.nslice ⟨0,0,66,0,0⟩ 66 D.T.length D.T.length,.nslice ⟨1,0,32,0,0⟩ 32 D.S.length D.S.length,.nslice ⟨2,0,98,0,0⟩ 98 D.Q.length D.Q.length]
structure ZP (D:Zb):Prop where
 t:D.T.length<=48
 s:D.S.length<=64
 q:D.Q.length<=16
theorem Z0j (D:Zb) (k:Nat) (τ:Ren):Z9 k τ D.T.length (tiR D.T) (tiR D.T)/\Z9 k τ D.S.length (seR D.S) (seR D.S)/\Z9 k τ D.Q.length (quR D.Q) (quR D.Q):=⟨Zj ZX fun _ _=>rfl,Zj Ye fun _ _=>rfl,Zj Y8 fun _ _=>rfl⟩
def dt0 (D:Zb) (x:Zk) (i:Nat):St:=⟨112,[(6,.int .i64 i),(2,pt 3),(3,pt 4),(4,pt 5)],⟨6,(5,.flat [.nilslice,.nilslice,.nilslice])::(4,.flat x.c)::(3,.flat (dcC D))::dcB D⟩,[]⟩
def Zk9 (D:Zb) (x:Zk):St:=⟨112,[(2,pt 3),(3,pt 4),(4,pt 5)],⟨6,(5,.flat [.nilslice,.nilslice,.nilslice])::(4,.flat x.c)::(3,.flat (dcC D))::dcB D⟩,[]⟩
def Zka (D:Zb):St:=⟨112,[(4,pt 3),(5,.int .i64 360)],⟨4,(3,.flat (dcC D))::dcB D⟩,[]⟩
def dtN:St:=⟨112,[],⟨0,[]⟩,[]⟩
theorem ZlE (D:Zb) (x:Zk) (i:Nat) (Z1 Z2 Z3:Prop) (hL:ZP D) (hi:i<=D.T.length) (h1:i<D.T.length->Z7u x (D.T.getD i Zq)=false->Z1) (h2:i=D.T.length->Z2) (h3:i<D.T.length->Z7u x (D.T.getD i Zq)=true->Z3):
  ZF G0 40 20 0 3 (dt0 D x i) (rdM 3 0 9 (dt0 D x (i+1)) (Zk9 D x) (Zka D) dtN Z1 Z2 Z3 False):=by
 refine @Eq.mpr _ (let u:=D.T;let a:=u.length;let C:=0+Int.toNat (↑i:Int);let h:=List.getD u C Zq;let w:=h.inn.v;let g:=x.inn.v;let o:=x.inID;let b:=decide (a=a);let n:=decide (a<=a);let f:=D.S.length;let e:=decide (f=f);let t:=decide (f<=f);let d:=D.Q.length;let c:=decide (d=d);let s:=decide (d<=d);let r:=[(3,5)];let m:=tiR u;let l:=seR D.S;let k:=quR D.Q;let K:=Z4 b (Z4 n (Z4 e (Z4 t (Z4 c (Z4 s (Z4 b (Z9 3 r a m m/\Z4 e (Z9 3 r f l l/\Z4 c (Z9 3 r d k k/\Z3)))))))));let J:=h.out.v;let j:=x.out.v;let q:=x.outID;let I:=g=g;let H:=decide (o=o);let G:=j=j;let F:=decide (q=q);let p:=[(5,5),(4,4),(3,3)];let E:=Z9 3 p a m m;let B:=Z9 3 p f l l;let A:=Z9 3 p d k k;let z:=Z5 (wrap i64 ((↑i:Int)+1)=(↑(i+1):Int)) (I/\Z4 H (G/\Z4 F (Z4 b (Z4 n (Z4 e (Z4 t (Z4 c (Z4 s (Z4 b (E/\Z4 e (B/\Z4 c (A/\Z1))))))))))));let y:=Z5 (J.length=32/\j.length=32) (Z6 (J==j) (Z6 (h.outID==q) K z) z);
 Z6 (decide ((↑i:Int)<(↑a:Int))) (Z5 (0<=(↑i:Int)/\(↑i:Int)<(↑a:Int)) (Z5 (C<a) (Z5 (w.length=32/\g.length=32) (Z6 (w==g) (Z6 (h.inID==o) K y) y)))) (I/\Z4 H (G/\Z4 F (Z4 b (Z4 n (Z4 e (Z4 t (Z4 c (Z4 s (Z4 b (E/\Z4 e (B/\Z4 c (A/\Z2))))))))))))) (by kernel_rfl) ?_
 conv=>zeta
 try simp only [vcA]
 try simp only [vcB]
 try simp only [vcC]
 have hR:=Z0j D 3
 refine ⟨fun hc=> ?_,fun hc=>⟨(hR _).1,(hR _).2.1,(hR _).2.2,h2 (by omega)⟩⟩
 have hlt:i<D.T.length:=by omega
 have hlim:=hL.t
 have hw:i64.wrap ((i:Int)+1)=((i+1:Nat):Int):=by rw [w64 (by omega)];omega
 have h1:=h1 hlt
 have h3:=h3 hlt
 generalize D.T.getD i Zq=y at*
 unfold Z7u XH Y9 at h1 h3
 refine ⟨by omega,hlt,⟨y.inn.l,x.inn.l⟩,fun k1=>⟨fun k2=>⟨(hR _).1,(hR _).2.1,(hR _).2.2,h3 (by simp [k1,k2])⟩,fun k2=>⟨⟨y.out.l,x.out.l⟩,fun k3=>⟨fun k4=>⟨(hR _).1,(hR _).2.1,(hR _).2.2,h3 (by simp [k1,k2,k3,k4])⟩,fun k4=>⟨hw,(hR _).1,(hR _).2.1,(hR _).2.2,h1 (by simp [k1,k2,k3,k4])⟩⟩,fun k3=>⟨hw,(hR _).1,(hR _).2.1,(hR _).2.2,h1 (by simp [k1,k2,k3])⟩⟩⟩,fun k1=>⟨⟨y.out.l,x.out.l⟩,fun k3=>⟨fun k4=>⟨(hR _).1,(hR _).2.1,(hR _).2.2,h3 (by simp [k1,k3,k4])⟩,fun k4=>⟨hw,(hR _).1,(hR _).2.1,(hR _).2.2,h1 (by simp [k1,k3,k4])⟩⟩,fun k3=>⟨hw,(hR _).1,(hR _).2.1,(hR _).2.2,h1 (by simp [k1,k3])⟩⟩⟩
def dt2 (D:Zb) (x:Zk) (L:List Zk) (b:Bool) (i:Nat):St:=⟨112,[(10,.int .i64 i),(2,pt 3),(3,pt 4),(9,.bool b),(8,.nslice ⟨6,0,66,0,0⟩ 66 L.length L.length),(4,pt 5)],⟨7,(6,.rows 66 L.length (tiR L))::(5,.flat [.nilslice,.nilslice,.nilslice])::(4,.flat x.c)::(3,.flat (dcC D))::dcB D⟩,[]⟩
def Zkb (D:Zb) (x:Zk) (L:List Zk) (b:Bool):St:=⟨112,[(2,pt 3),(3,pt 4),(9,.bool b),(8,.nslice ⟨6,0,66,0,0⟩ 66 L.length L.length),(4,pt 5)],⟨7,(6,.rows 66 L.length (tiR L))::(5,.flat [.nilslice,.nilslice,.nilslice])::(4,.flat x.c)::(3,.flat (dcC D))::dcB D⟩,[]⟩
noncomputable def Z4B:Zf:=G0.withP 74 Zir
theorem Z2G:Z4B.Ok:=Zf.withP_ok Zt ZfY
theorem ZlF (D:Zb) (x:Zk) (L L':List Zk) (b b':Bool) (i:Nat) (Z1 Z2:Prop) (hL:ZP D) (hi:i<=D.T.length) (hb:b=Y3 ltT x D.T i) (hl:L=Y4 ltT x D.T i) (hb':b'=Y3 ltT x D.T (i+1)) (hl':L'=Y4 ltT x D.T (i+1)) (h1:i<D.T.length->Z1) (h2:i=D.T.length->Z2):
  ZF Z4B 40 20 2 3 (dt2 D x L b i) (rdM 3 2 9 (dt2 D x L' b' (i+1)) (Zkb D x L b) dtN dtN Z1 Z2 False False):=by
 refine @Eq.mpr _ (let N:=D.T;let a:=N.length;let U:=0+Int.toNat (↑i:Int);let o:=x.out.v;let q:=List.getD N U Zq;let y:=q.out.v;let O:=ZV o y;let c:=L.length;let p:=decide (c=c);let f:=c+1;let Z:=decide (f*80<=140737488355328);let M:=f+1;let Y:=decide (wrap i64 ((↑i:Int)+1)=(↑(i+1):Int));let n:=L'.length;let X:=decide (M=n);let K:=[(4,4),(3,3)];let w:=(5,5)::(6,11)::K;let u:=tiR L;let J:=x.inn.v;let I:=x.inID;let t:=x.outID;let W:=q.outID;let V:=XM [AV.arr u8 32 q.inn.v,AV.int i64 q.inID,AV.arr u8 32 y,AV.int i64 W] 0 66;let H:=J=J;let G:=decide (I=I);let F:=o=o;let E:=decide (t=t);let m:=decide (a=a);let C:=decide (a<=a);let e:=D.S.length;let l:=decide (e=e);let B:=decide (e<=e);let d:=D.Q.length;let k:=decide (d=d);let A:=decide (d<=d);let j:=tiR N;let h:=seR D.S;let g:=quR D.Q;let R:=Z4 p (Z4 Z (Z5 (f=f) (Z5 (M*80<=140737488355328) (Z4 Y (Z5 (true=b') (Z4 X (Z5 (n<=M) (Z4 X (Z9 3 w n (tiR L') (Xd f (Xd c u (XM [AV.arr u8 32 J,AV.int i64 I,AV.arr u8 32 o,AV.int i64 t] 0 66)) V)/\H/\Z4 G (F/\Z4 E (Z4 m (Z4 C (Z4 l (Z4 B (Z4 k (Z4 A (Z4 m (Z9 3 w a j j/\Z4 l (Z9 3 w e h h/\Z4 k (Z9 3 w d g g/\Z1))))))))))))))))))));let P:=decide (f=n);let s:=(5,5)::(6,9)::K;let z:=Z4 p (Z4 Z (Z4 Y (Z5 (b=b') (Z4 P (Z5 (n<=f) (Z4 P (Z9 3 s n (tiR L') (Xd c u V)/\H/\Z4 G (F/\Z4 E (Z4 m (Z4 C (Z4 l (Z4 B (Z4 k (Z4 A (Z4 m (Z9 3 s a j j/\Z4 l (Z9 3 s e h h/\Z4 k (Z9 3 s d g g/\Z1))))))))))))))))));let r:=(5,5)::(6,6)::K;
 Z6 (decide ((↑i:Int)<(↑a:Int))) (Z5 (0<=(↑i:Int)/\(↑i:Int)<(↑a:Int)) (Z5 (U<a) ((o.length=32/\y.length=32)/\Z6 (!b) (Z6 (decide (O<0)) R (Z6 (O==0) (Z6 (decide (t<W)) R z) z)) z))) (Z5 (b=b) (Z4 p (Z5 (c<=c) (Z4 p (Z9 3 r c u u/\H/\Z4 G (F/\Z4 E (Z4 m (Z4 C (Z4 l (Z4 B (Z4 k (Z4 A (Z4 m (Z9 3 r a j j/\Z4 l (Z9 3 r e h h/\Z4 k (Z9 3 r d g g/\Z2))))))))))))))))) (by kernel_rfl) ?_
 conv=>zeta
 try simp only [vcA]
 try simp only [vcB]
 try simp only [vcC]
 have hR:=Z0j D 3
 have hlim:=hL.t
 have hll:L.length<=D.T.length+1:=by rw [hl];exact XX
 refine ⟨fun hc=> ?_,fun hc=>⟨Zj ZX fun _ _=>rfl,(hR _).1,(hR _).2.1,(hR _).2.2,h2 (by omega)⟩⟩
 have hlt:i<D.T.length:=by omega
 have hw:i64.wrap ((i:Int)+1)=((i+1:Nat):Int):=by rw [w64 (by omega)];omega
 have h1:=h1 hlt
 have hS:=Q1 Zq (lt:=ltT) (x:=x) hlt
 have hB:=WB Zq (lt:=ltT) (x:=x) hlt
 rw [<-hl',<-hl,<-hb] at hS
 rw [<-hb',<-hb] at hB
 generalize D.T.getD i Zq=y at*
 have hi:=Z6l x y
 have hn:=Z6m x y
 refine ⟨by omega,hlt,⟨x.out.l,y.out.l⟩,fun kb=>⟨fun c1=> ?_,fun c1=>⟨fun c2=>⟨fun c3=> ?_,fun c3=> ?_⟩,fun c2=> ?_⟩⟩,fun kb=> ?_⟩
 rotate_left
 ·have q:ltT x y=true:=hi.2 (.inr ⟨by simpa using c2,c3⟩)
  rw [q] at hS hB
  rw [if_pos (by rw [Bool.and_true];exact kb)] at hS
  have el:L.length+1+1=L'.length:=by rw [hS,J3];rfl
  exact ⟨by omega,by omega,hw,by rw [hB,Bool.or_true],el,Jw el.symm,el,Zj ZX fun j hj=>by
   have hj':j<L.length+1+1:=by omega
   rw [hS]
   exact Ui (L:=L) (x:=x) (y:=y) rfl rfl hj',(hR _).1,(hR _).2.1,(hR _).2.2,h1⟩
 rotate_right
 ·have q:ltT x y=true:=hi.2 (.inl c1)
  rw [q] at hS hB
  rw [if_pos (by rw [Bool.and_true];exact kb)] at hS
  have el:L.length+1+1=L'.length:=by rw [hS,J3];rfl
  exact ⟨by omega,by omega,hw,by rw [hB,Bool.or_true],el,Jw el.symm,el,Zj ZX fun j hj=>by
   have hj':j<L.length+1+1:=by omega
   rw [hS]
   exact Ui (L:=L) (x:=x) (y:=y) rfl rfl hj',(hR _).1,(hR _).2.1,(hR _).2.2,h1⟩
 all_goals
  have q:(!b&&ltT x y)=false/\(b||ltT x y)=b:=by
   cases b with
   | true=>exact ⟨rfl,rfl⟩
   | false=>
    have:ltT x y=false:=hn.2 (by
     first
      | (have c2:ZV x.out.v y.out.v=0:=(by simpa using c2);omega)
      | (have c2:ZV x.out.v y.out.v≠0:=(by simpa using c2);omega)
      | simp at kb)
    rw [this]
    exact ⟨rfl,rfl⟩
  rw [if_neg (by rw [q.1];decide)] at hS
  have el:L.length+1=L'.length:=by rw [hS,J3];rfl
  exact ⟨by omega,hw,by rw [hB,q.2],el,Jw el.symm,el,Zj ZX fun j hj=>by
   have hj':j<L.length+1:=by omega
   rw [hS]
   exact Yc (L:=L) (x:=y) rfl hj',(hR _).1,(hR _).2.1,(hR _).2.2,h1⟩
theorem VY (G:Zf) (f:FuncId) (S:Yk):(G.withP f S).P=G.P:=rfl
theorem VZ (G:Zf) (f:FuncId) (id:Nat) (S:Nat->St->KE->Prop):(G.withL f id S).P=G.P:=rfl
noncomputable def Zkc (D:Zb) (x:Zk):Zf:=(Z4B.withL 20 0 (goM 3 (dt0 D x 0) (ZP D) (Yx 0 D.T.length 9 (fun i=>Z7u x (D.T.getD i Zq)=false) (fun i=>i=D.T.length) (fun i=>i<D.T.length/\Z7u x (D.T.getD i Zq)=true) (fun _=>False) (fun _=>Zk9 D x) (fun _=>Zka D) (fun _=>dtN)))).withL 20 2 (goM 3 (dt2 D x [] false 0) (ZP D) (Yx 2 D.T.length 9 (fun i=>i<D.T.length) (fun i=>i=D.T.length) (fun _=>False) (fun _=>False) (fun i=>Zkb D x (Y4 ltT x D.T i) (Y3 ltT x D.T i)) (fun _=>dtN) (fun _=>dtN)))
theorem Zg5 (D:Zb) (x:Zk):(Zkc D x).Ok:=by
 refine Zf.withL_join (H:=Z4B) (Zf.withL_join (H:=G0) Z2G (by unfold Z4B;simp only [VY]) (Zf.withGoM (N:=40) (k:=3) (n:=D.T.length) (l:=9) (S:=fun i=>dt0 D x i) Zt (by kernel_rfl) fun hC=>⟨rfl,fun i hi _=>ZlE D x i _ _ _ hC hi (fun h1 h2=>⟨h2,h1⟩) (fun h=>h) fun h1 h2=>⟨h1,h2⟩⟩)) (by simp only [VZ]) (Zf.withGoM (N:=40) (k:=3) (n:=D.T.length) (l:=9) (S:=fun i=>dt2 D x (Y4 ltT x D.T i) (Y3 ltT x D.T i) i) Z2G (by kernel_rfl) fun hC=>⟨rfl,fun i hi _=>ZlF D x _ _ _ _ i _ _ hC hi rfl rfl rfl rfl (fun h=>⟨h,h⟩) fun h=>h⟩)
theorem ZlG (D:Zb) (x:Zk) (D':List Zk) (e:Int) (hL:ZP D) (he:e=XD D.T x) (hD:D'=Z0Y D.T x):
  evF (Zkc D x) 40 20 [.agg (dcC D),.agg x.c] ⟨3,dcB D⟩ (Yd 3 (.ret (.tuple [.agg [.nslice ⟨3,0,66,0,0⟩ 66 D'.length D'.length,.nslice ⟨1,0,32,0,0⟩ 32 D.S.length D.S.length,.nslice ⟨2,0,98,0,0⟩ 98 D.Q.length D.Q.length],.int .i64 e])) 4 [(3,.rows 66 D'.length (tiR D')),(1,.rows 32 D.S.length (seR D.S)),(2,.rows 98 D.Q.length (quR D.Q))]):=by
 refine @Eq.mpr _ (let q:=x.inID;let p:=x.outID;let o:=D.T;let a:=o.length;let d:=D'.length;let r:=decide (a=d);let w:=decide (d<=a);let f:=D.S.length;let b:=decide (f=f);let m:=decide (f<=f);let k:=D.Q.length;let c:=decide (k=k);let l:=decide (k<=k);let G:=[(3,0)];let F:=tiR o;let h:=seR D.S;let g:=quR D.Q;let E:=Z4 r (Z9 3 G d (tiR D') F/\Z4 b (Z9 3 G f h h/\Z4 c (Z9 3 G k g g/\True)));let t:=Z4 r (Z4 w (Z4 b (Z4 m (Z4 c (Z4 l (Z5 (2=e) E))))));let C:=x.inn.v;let W:=C=C;let V:=decide (q=q);let B:=x.out.v;let U:=B=B;let R:=decide (p=p);let s:=decide (a=a);let P:=decide (a<=a);let A:=[(5,5),(4,4),(3,3)];let O:=Z9 3 A a F F;let N:=Z9 3 A f h h;let M:=Z9 3 A k g g;let L:=decide (0=e);let z:=[(3,8)];let y:=[(3,6)];
 Z6 (decide (q>=0)) (Z6 (decide (q<=2147483647)) (Z6 (decide (p>=0)) (Z6 (!decide (p<=2147483647)) t (W/\
 Z4 V (U/\
 Z4 R (Z4 s (Z4 P (Z4 b (Z4 m (Z4 c (Z4 l (Z4 s (O/\
 Z4 b (N/\
 Z4 c (M/\
 ZP D/\
 ∀(i:Nat),
 i<=a->
 (∀(j:Nat),j<i->(fun (i:Nat)=>Z7u x (List.getD o i Zq)=false) j)->
 (i=a->
 Z6 (decide ((↑a:Int)>=48)) (Z4 r (Z4 w (Z4 b (Z4 m (Z4 c (Z4 l (Z5 (3=e) E))))))) (W/\
 Z4 V (U/\
 Z4 R (Z4 s (Z4 P (Z4 b (Z4 m (Z4 c (Z4 l (Z4 s (O/\
 Z4 b (N/\
 Z4 c (M/\
 ZP D/\
 ∀(i:Nat),
 let K:=Y4 ltT x o i;let n:=K.length;let u:=n+1;let J:=decide (u=d);let I:=tiR K;let H:=decide (n=d);
 i<=a->(∀(j:Nat),j<i->(fun (i:Nat)=>i<a) j)->(i=a->Z6 (!Y3 ltT x o i) (Z5 (n=n) (Z5 (u*80<=140737488355328) (Z4 J (Z5 (d<=u) (Z4 b (Z4 m (Z4 c (Z4 l (Z4 L (Z4 J (Z9 3 z d (tiR D') (Xd n I (XM [AV.arr u8 32 C,AV.int i64 q,AV.arr u8 32 B,AV.int i64 p] 0 66))/\Z4 b (Z9 3 z f h h/\Z4 c (Z9 3 z k g g/\True))))))))))))) (Z4 H (Z5 (d<=n) (Z4 b (Z4 m (Z4 c (Z4 l (Z4 L (Z4 H (Z9 3 y d (tiR D') I/\Z4 b (Z9 3 y f h h/\Z4 c (Z9 3 y k g g/\True))))))))))))/\(False->False)/\(False->False))))))))))))))/\
 (i<a/\Z7u x (List.getD o i Zq)=true->Z4 r (Z4 w (Z4 b (Z4 m (Z4 c (Z4 l (Z5 (360=e) E)))))))/\(False->False)))))))))))))) t) t) t) (by kernel_rfl) ?_
 conv=>zeta
 try simp only [vcA]
 try simp only [vcB]
 try simp only [vcC]
 have hR:=Z0j D 3
 have hlim:=hL.t
 have hk:∀(k:Int) (τ:Ren),k≠0->XD D.T x=k->D.T.length=D'.length/\D'.length<=D.T.length/\k=e/\D.T.length=D'.length/\Z9 3 τ D'.length (tiR D') (tiR D.T)/\Z9 3 τ D.S.length (seR D.S) (seR D.S)/\Z9 3 τ D.Q.length (quR D.Q) (quR D.Q):=fun k τ h0 hk=>by
  have:D'=D.T:=by rw [hD,Z0Y,if_neg (by omega)]
  rw [this,he,hk]
  exact ⟨rfl,J2 _,rfl,rfl,(hR _).1,(hR _).2.1,(hR _).2.2⟩
 have k2:¬(Wd x=true)->XD D.T x=2:=fun h=>by rw [XD,if_neg h]
 have ok:Wd x=true↔(0<=x.inID/\x.inID<=2147483647)/\(0<=x.outID/\x.outID<=2147483647):=by
  unfold Wd
  rw [J1,decide_eq_true_eq,decide_eq_true_eq]
 have k3:Wd x=true->XD D.T x=if clash D.T x=true then 360 else if 48<=D.T.length then 3 else 0:=fun h=>by rw [XD,if_pos h]
 refine ⟨fun a0=>⟨fun a1=>⟨fun b0=>⟨fun b1=>hk 2 _ (by decide) (k2 fun h=> ?_),fun b1=> ?_⟩,fun b0=>hk 2 _ (by decide) (k2 fun h=> ?_)⟩,fun a1=>hk 2 _ (by decide) (k2 fun h=> ?_)⟩,fun a0=>hk 2 _ (by decide) (k2 fun h=> ?_)⟩
 ·have:=ok.1 h;simp only [JA,decide_eq_false_iff_not] at b1;omega
 rotate_left
 ·have:=ok.1 h;omega
 ·have:=ok.1 h;omega
 ·have:=ok.1 h;omega
 simp only [Bool.not_eq_false',decide_eq_true_eq] at b1
 have k3:=k3 (ok.2 ⟨⟨a0,a1⟩,⟨b0,b1⟩⟩)
 refine ⟨(hR _).1,(hR _).2.1,(hR _).2.2,hL,fun i hi hg=>⟨fun hn=> ?_,fun hit=> ?_,fun h=>h⟩⟩
 ·have hcl:clash D.T x=false:=by
   refine Kt.2 fun y hy=> ?_
   obtain ⟨j,hj,rfl⟩:=Jr hy
   have:=hg j (by omega)
   rw [getD_at hj] at this
   show ¬Z7u x D.T[j]=true
   rw [this]
   decide
  rw [hcl,if_neg (by decide)] at k3
  refine ⟨fun l=>hk 3 _ (by decide) (by rw [k3,if_pos (by omega)]),fun l=>⟨(hR _).1,(hR _).2.1,(hR _).2.2,hL,fun i hi _=>⟨fun hn=> ?_,fun h=>h,fun h=>h⟩⟩⟩
  rw [if_neg (by omega)] at k3
  have hD:D'=XV ltT x D.T:=by rw [hD,Z0Y,if_pos k3]
  have hE:=Z0i (lt:=ltT) (x:=x) (D:=D.T)
  have hll:=XX (lt:=ltT) (x:=x) (D:=D.T) (i:=i)
  rw [<-hD,<-hn] at hE
  refine ⟨fun hb=> ?_,fun hb=> ?_⟩
  ·rw [if_neg (by intro h;rw [h] at hb;cases hb)] at hE
   have el:(Y4 ltT x D.T i).length+1=D'.length:=by rw [hE,J3];rfl
   exact ⟨by omega,el,Jw el.symm,by rw [he,k3],el,Zj ZX fun j hj=>by
    have hj':j<(Y4 ltT x D.T i).length+1:=by omega
    rw [hE]
    exact Yc (x:=x) rfl hj',(hR _).2.1,(hR _).2.2⟩
  ·rw [if_pos (by simpa using hb)] at hE
   rw [hE]
   exact ⟨rfl,J2 _,by rw [he,k3],rfl,Zj ZX fun _ _=>rfl,(hR _).2.1,(hR _).2.2⟩
 ·have hcl:clash D.T x=true:=Kb.2 ⟨D.T.getD i Zq,by rw [getD_at hit.1];exact JO hit.1,hit.2⟩
  rw [if_pos hcl] at k3
  exact hk 360 _ (by decide) k3
structure QO (D:Zb) (n1:Nat) (f1:Nat->List AV) (n2:Nat) (f2:Nat->List AV) (n3:Nat) (f3:Nat->List AV):Prop where
 t:n1=D.T.length/\f1=tiR D.T
 s:n2=D.S.length/\f2=seR D.S
 q:n3=D.Q.length/\f3=quR D.Q
 lim:ZP D
def Z2n (h:Z7) (args:List AV) (K0:Zb->Nat->Nat->Nat->List AV->Prop):Prop:=match args with
 | .agg [.nslice ⟨a,0,66,0,0⟩ 66 _ _,.nslice ⟨b,0,32,0,0⟩ 32 _ _,.nslice ⟨c,0,98,0,0⟩ 98 _ _]::_=>frA [a,b,c] h 60 args fun Bs az=>match Bs with
  | [.rows 66 n1 f1,.rows 32 n2 f2,.rows 98 n3 f3]=>∃D,QO D n1 f1 n2 f2 n3 f3/\K0 D a b c az
  | _=>False
 | _=>False
def Ziz (h:Z7) (D:Zb) (T':List Zk) (a b c:Nat):List (Nat×Blk):=(h.next,.rows 66 T'.length (tiR T'))::(b,.rows 32 D.S.length (seR D.S))::(c,.rows 98 D.Q.length (quR D.Q))::Zy (Zy (Zy h.bs a) b) c
def slT (nx:Nat) (T':List Zk) (D:Zb) (b c:Nat):AV:=.agg [.nslice ⟨nx,0,66,0,0⟩ 66 T'.length T'.length,.nslice ⟨b,0,32,0,0⟩ 32 D.S.length D.S.length,.nslice ⟨c,0,98,0,0⟩ 98 D.Q.length D.Q.length]
theorem ZdI {h:Z7} {g:FuncId} (hl:Z2n h args K0) (hK:∀D a b c az,ZP D->K0 D a b c az->∃T' ex,(∀σ d,mvL σ d ex=some ex)/\Spec PP g az ⟨3,dcB D⟩ (.ret (.tuple (slT 3 T' D 1 2::ex))) 4 [(3,.rows 66 T'.length (tiR T')),(1,.rows 32 D.S.length (seR D.S)),(2,.rows 98 D.Q.length (quR D.Q))]/\K (.ret (.tuple (slT h.next T' D b c::ex))) ⟨h.next+1,Ziz h D T' a b c⟩):Zi PP g args h K:=by
 unfold Z2n at hl
 split at hl
 ·refine Spec.fsumm hl fun Bs a hlen hK0=> ?_
  split at hK0
  ·obtain ⟨D,⟨⟨rfl,rfl⟩,⟨rfl,rfl⟩,⟨rfl,rfl⟩,hL⟩,hK0⟩:=hK0
   obtain ⟨T',ex,hex,hs,hK⟩:=hK D _ _ _ _ hL hK0
   exact ⟨_,_,_,_,_,hs,by simp,.ret _ _ (by simp only [mvV,mvL,hex];rfl),.cons _ _ _ _ _ _ rfl (.rows _ _ _ (fun i _=>ZX.p _)) (.cons _ _ _ _ _ _ rfl (.rows _ _ _ (fun i _=>Ye.p _)) (.cons _ _ _ _ _ _ rfl (.rows _ _ _ (fun i _=>Y8.p _)) .nil)),hK⟩
  ·exact hK0.elim
 ·exact hl.elim
def Zhm:ZS:=fun args h K=>Z2n h args fun D a b c az=>match az with
 | [.agg [.nslice ⟨0,0,66,0,0⟩ 66 n1 n2,.nslice ⟨1,0,32,0,0⟩ 32 n3 n4,.nslice ⟨2,0,98,0,0⟩ 98 n5 n6],.agg cs]=>∃x,(n1=D.T.length/\n2=D.T.length/\n3=D.S.length/\n4=D.S.length/\n5=D.Q.length/\n6=D.Q.length)/\Z7y cs x/\K (.ret (.tuple [slT h.next (Z0Y D.T x) D b c,.int .i64 (XD D.T x)])) ⟨h.next+1,Ziz h D (Z0Y D.T x) a b c⟩
 | _=>False
theorem ZdJ (args:List AV) (h:Z7) (K:KO) (hl:Zhm args h K):Zi PP 20 args h K:=by
 refine ZdI hl fun D a b c az hL ha=> ?_
 split at ha
 ·obtain ⟨x,⟨rfl,rfl,rfl,rfl,rfl,rfl⟩,⟨rfl⟩,hK⟩:=ha
  exact ⟨_,_,fun _ _=>rfl,.evM (Zg5 D x) (ZlG D x _ _ hL rfl rfl),hK⟩
 ·exact ha.elim
theorem Z12 (a b:LI):(a==b)=(b==a):=by
 rw [JE,beq_iff_eq,beq_iff_eq]
 exact ⟨Eq.symm,Eq.symm⟩
def dvC (D:Zb):List AV:=[.vrows 66 D.T.length (tiR D.T) D.T.length,.vrows 32 D.S.length (seR D.S) D.S.length,.vrows 98 D.Q.length (quR D.Q) D.Q.length]
def tz:List AV:=[.arr .u8 32 Ze,.int .i64 0,.arr .u8 32 Ze,.int .i64 0]
def Z7C (D:Zb) (o:LI) (id:Int) (i:Nat):St:=⟨40,[(8,.int .i64 i),(3,pt 0),(4,pt 1),(2,.int .i64 id),(6,pt 2)],⟨3,[(2,.flat tz),(1,.flat [.arr .u8 32 o]),(0,.flat (dvC D))]⟩,[]⟩
def Z7D:St:=⟨40,[(6,pt 0)],⟨1,[(0,.flat tz)]⟩,[]⟩
def Zg6 (D:Zb) (i:Nat):St:=⟨40,[(6,pt 0),(7,.bool true)],⟨1,[(0,.flat (tiR D.T i))]⟩,[]⟩
theorem ZlH (D:Zb) (o:LI) (id:Int) (i:Nat) (Z1 Z2 Z3:Prop) (hL:ZP D) (ho:o.length=32) (hi:i<=D.T.length) (h1:i<D.T.length->Y9 o id (D.T.getD i Zq)=false->Z1) (h2:i=D.T.length->Z2) (h3:i<D.T.length->Y9 o id (D.T.getD i Zq)=true->Z3):
  ZF G0 20 32 0 0 (Z7C D o id i) (rdM 0 0 9 (Z7C D o id (i+1)) Z7D (Zg6 D i) Z7D Z1 Z2 Z3 False):=by
 refine @Eq.mpr _ (let d:=D.T;let c:=d.length;let f:=decide (0<=(↑i:Int)/\(↑i:Int)<(↑c:Int));let b:=List.getD d (Int.toNat (↑i:Int)) Zq;let e:=b.out.v;let j:=b.outID;let a:=List.getD d i Zq;let h:=decide (c=c);let g:=tiR d;let r:=D.S.length;let q:=decide (r=r);let p:=seR D.S;let n:=D.Q.length;let m:=decide (n=n);let l:=quR D.Q;let k:=Z5 (wrap i64 ((↑i:Int)+1)=(↑(i+1):Int)) (Z5 (id=id) (Ze=Ze/\Ze=Ze/\o=o/\Z4 h (g=g/\Z4 h (Z4 q (p=p/\Z4 q (Z4 m (l=l/\Z4 m Z1)))))));
 Z6 (decide ((↑i:Int)<(↑c:Int))) (Z4 f (Z5 (e.length=32/\o.length=32) (Z6 (e==o) (Z4 f (Z6 (j==id) (Z4 f (b.inn.v=a.inn.v/\Z5 (b.inID=a.inID) (e=a.out.v/\Z5 (j=a.outID) Z3))) k)) k))) (Ze=Ze/\Ze=Ze/\Z2)) (by kernel_rfl) ?_
 conv=>zeta
 try simp only [vcA]
 try simp only [vcB]
 try simp only [vcC]
 refine ⟨fun hc=> ?_,fun hc=>h2 (by omega)⟩
 have hlt:i<D.T.length:=by omega
 have hlim:=hL.t
 have hw:i64.wrap ((i:Int)+1)=((i+1:Nat):Int):=by rw [w64 (by omega)];omega
 unfold Y9 at h1 h3
 exact ⟨by omega,⟨(D.T.getD i Zq).out.l,ho⟩,fun k1=>⟨by omega,fun k2=>⟨by omega,h3 hlt (by rw [k1,k2];rfl)⟩,fun k2=>⟨hw,h1 hlt (by rw [k1,k2];rfl)⟩⟩,fun k1=>⟨hw,h1 hlt (by rw [k1];rfl)⟩⟩
theorem ZlI (D:Zb) (o:LI) (id:Int) (i:Nat) (Z1 Z2 Z3:Prop) (hL:ZP D) (ho:o.length=32) (hi:i<=D.T.length) (h1:i<D.T.length->XH o id (D.T.getD i Zq)=false->Z1) (h2:i=D.T.length->Z2) (h3:i<D.T.length->XH o id (D.T.getD i Zq)=true->Z3):
  ZF G0 20 34 0 0 (Z7C D o id i) (rdM 0 0 9 (Z7C D o id (i+1)) Z7D (Zg6 D i) Z7D Z1 Z2 Z3 False):=by
 refine @Eq.mpr _ (let d:=D.T;let c:=d.length;let f:=decide (0<=(↑i:Int)/\(↑i:Int)<(↑c:Int));let b:=List.getD d (Int.toNat (↑i:Int)) Zq;let e:=b.inn.v;let j:=b.inID;let a:=List.getD d i Zq;let h:=decide (c=c);let g:=tiR d;let r:=D.S.length;let q:=decide (r=r);let p:=seR D.S;let n:=D.Q.length;let m:=decide (n=n);let l:=quR D.Q;let k:=Z5 (wrap i64 ((↑i:Int)+1)=(↑(i+1):Int)) (Z5 (id=id) (Ze=Ze/\Ze=Ze/\o=o/\Z4 h (g=g/\Z4 h (Z4 q (p=p/\Z4 q (Z4 m (l=l/\Z4 m Z1)))))));
 Z6 (decide ((↑i:Int)<(↑c:Int))) (Z4 f (Z5 (e.length=32/\o.length=32) (Z6 (e==o) (Z4 f (Z6 (j==id) (Z4 f (e=a.inn.v/\Z5 (j=a.inID) (b.out.v=a.out.v/\Z5 (b.outID=a.outID) Z3))) k)) k))) (Ze=Ze/\Ze=Ze/\Z2)) (by kernel_rfl) ?_
 conv=>zeta
 try simp only [vcA]
 try simp only [vcB]
 try simp only [vcC]
 refine ⟨fun hc=> ?_,fun hc=>h2 (by omega)⟩
 have hlt:i<D.T.length:=by omega
 have hlim:=hL.t
 have hw:i64.wrap ((i:Int)+1)=((i+1:Nat):Int):=by rw [w64 (by omega)];omega
 unfold XH at h1 h3
 exact ⟨by omega,⟨(D.T.getD i Zq).inn.l,ho⟩,fun k1=>⟨by omega,fun k2=>⟨by omega,h3 hlt (by rw [k1,k2];rfl)⟩,fun k2=>⟨hw,h1 hlt (by rw [k1,k2];rfl)⟩⟩,fun k1=>⟨hw,h1 hlt (by rw [k1];rfl)⟩⟩
noncomputable def ZdK (H:LI->LI) (B:Nat):Zf:=G0.withP 77 (Z7m H B)
theorem Z13:(ZdK Yj 100000).Ok:=Zf.withP_ok Zt (Zdk (B:=100000) fun xs hx=>Zbw xs (by omega))
def Zg7 (D:Zb) (o:LI) (i:Nat):St:=⟨28,[(6,.int .i64 i),(2,pt 0),(3,pt 1),(4,pt 2)],⟨3,[(2,.flat [.arr .u8 32 Ze]),(1,.flat [.arr .u8 32 o]),(0,.flat (dvC D))]⟩,[]⟩
def Zg8:St:=⟨28,[(4,pt 0)],⟨1,[(0,.flat [.arr .u8 32 Ze])]⟩,[]⟩
def Zkd (D:Zb) (i:Nat):St:=⟨28,[(4,pt 0),(5,.bool true)],⟨1,[(0,.flat (seR D.S i))]⟩,[]⟩
theorem ZlJ (H:LI->LI) (B:Nat) (D:Zb) (o:LI) (i:Nat) (Z1 Z2 Z3:Prop) (hL:ZP D) (hB:B=100000) (hH:∀x,(H x).length=32) (ho:o.length=32) (hi:i<=D.S.length) (h1:i<D.S.length->(o==H (D.S.getD i h0).v)=false->Z1) (h2:i=D.S.length->Z2) (h3:i<D.S.length->(o==H (D.S.getD i h0).v)=true->Z3):
  ZF (ZdK H B) 20 36 0 0 (Zg7 D o i) (rdM 0 0 9 (Zg7 D o (i+1)) Zg8 (Zkd D i) Zg8 Z1 Z2 Z3 False):=by
 refine @Eq.mpr _ (let b:=D.S;let a:=b.length;let j:=decide (0<=(↑i:Int)/\(↑i:Int)<(↑a:Int));let c:=(List.getD b (Int.toNat (↑i:Int)) h0).v;let h:=Z1Q none c;let g:=h.length;let f:=H h;let e:=D.T.length;let d:=decide (e=e);let q:=tiR D.T;let p:=decide (a=a);let n:=seR b;let m:=D.Q.length;let l:=decide (m=m);let k:=quR D.Q;
 Z6 (decide ((↑i:Int)<(↑a:Int))) (Z4 j (Z5 (c.length=32) (Z5 (32=g) (Z5 (g<=B) (Z5 (f.length=32/\o.length=32) (Z6 (f==o) (Z4 j (c=(List.getD b i h0).v/\Z3)) (Z5 (wrap i64 ((↑i:Int)+1)=(↑(i+1):Int)) (Ze=Ze/\o=o/\Z4 d (q=q/\Z4 d (Z4 p (n=n/\Z4 p (Z4 l (k=k/\Z4 l Z1))))))))))))) (Ze=Ze/\Z2)) (by kernel_rfl) ?_
 conv=>zeta
 try simp only [vcA]
 try simp only [vcB]
 try simp only [vcC]
 refine ⟨fun hc=> ?_,fun hc=>h2 (by omega)⟩
 have hlt:i<D.S.length:=by omega
 have hlim:=hL.s
 have hl:=(D.S.getD i h0).l
 have hw:i64.wrap ((i:Int)+1)=((i+1:Nat):Int):=by rw [w64 (by omega)];omega
 have e:Z1Q none (D.S.getD i h0).v=(D.S.getD i h0).v:=rfl
 rw [e]
 exact ⟨by omega,hl,hl.symm,by omega,⟨hH _,ho⟩,fun k1=>⟨by omega,h3 hlt (by rw [Z12];exact k1)⟩,fun k1=>⟨hw,h1 hlt (by rw [Z12];exact k1)⟩⟩
def qz:List AV:=[.arr .u8 32 Ze,.arr .u8 32 Ze,.int .i64 0,.int .i64 0]
def Zg9 (D:Zb) (o:LI) (i:Nat):St:=⟨38,[(7,.int .i64 i),(2,pt 0),(3,pt 1),(4,pt 2),(5,pt 3)],⟨4,[(3,.flat [.arr .u8 32 Ze]),(2,.flat qz),(1,.flat [.arr .u8 32 o]),(0,.flat (dvC D))]⟩,[]⟩
def Zga:St:=⟨38,[(4,pt 0),(5,pt 1)],⟨2,[(1,.flat [.arr .u8 32 Ze]),(0,.flat qz)]⟩,[]⟩
def Zke (D:Zb) (i:Nat):St:=⟨38,[(4,pt 0),(5,pt 1),(6,.bool true)],⟨2,[(1,.flat [.arr .u8 32 (D.Q.getD i ZH).secret.v]),(0,.flat (D.Q.getD i ZH).ic)]⟩,[]⟩
theorem ZlK (D:Zb) (o:LI) (i:Nat) (Z1 Z2 Z3:Prop) (hL:ZP D) (ho:o.length=32) (hi:i<=D.Q.length) (h1:i<D.Q.length->(o==(D.Q.getD i ZH).hash.v)=false->Z1) (h2:i=D.Q.length->Z2) (h3:i<D.Q.length->(o==(D.Q.getD i ZH).hash.v)=true->Z3):
  ZF G0 20 38 0 0 (Zg9 D o i) (rdM 0 0 9 (Zg9 D o (i+1)) Zga (Zke D i) Zga Z1 Z2 Z3 False):=by
 refine @Eq.mpr _ (let e:=D.Q;let d:=e.length;let h:=decide (0<=(↑i:Int)/\(↑i:Int)<(↑d:Int));let a:=List.getD e (Int.toNat (↑i:Int)) ZH;let g:=a.hash.v;let f:=a.secret.v;let c:=decide (d=d);let k:=quR e;let j:=k=k;let b:=List.getD e i ZH;let r:=D.T.length;let q:=decide (r=r);let p:=tiR D.T;let n:=D.S.length;let m:=decide (n=n);let l:=seR D.S;
 Z6 (decide ((↑i:Int)<(↑d:Int))) (Z4 h (Z5 (g.length=32/\o.length=32) (Z6 (g==o) (Z4 h (Z4 h (f=f/\Z4 c (j/\Z4 c (f=b.secret.v/\g=b.hash.v/\a.key.v=b.key.v/\Z5 (a.amount=b.amount) (Z5 (a.least=b.least) Z3)))))) (Z5 (wrap i64 ((↑i:Int)+1)=(↑(i+1):Int)) (Ze=Ze/\Ze=Ze/\Ze=Ze/\o=o/\Z4 q (p=p/\Z4 q (Z4 m (l=l/\Z4 m (Z4 c (j/\Z4 c Z1)))))))))) (Ze=Ze/\Ze=Ze/\Ze=Ze/\Z2)) (by kernel_rfl) ?_
 conv=>zeta
 try simp only [vcA]
 try simp only [vcB]
 try simp only [vcC]
 refine ⟨fun hc=> ?_,fun hc=>h2 (by omega)⟩
 have hlt:i<D.Q.length:=by omega
 have hlim:=hL.q
 have hw:i64.wrap ((i:Int)+1)=((i+1:Nat):Int):=by rw [w64 (by omega)];omega
 exact ⟨by omega,⟨(D.Q.getD i ZH).hash.l,ho⟩,fun k1=>⟨by omega,by omega,h3 hlt (by rw [Z12];exact k1)⟩,fun k1=>⟨hw,h1 hlt (by rw [Z12];exact k1)⟩⟩
theorem U0 (d:α) (T:List α) (h:T.length<=J):T.getD J d=d:=by
 rw [J5,Jt h]
 rfl
theorem U1 {p:Nat->Bool} {n i:Nat} (hi:i=n) (hg:∀j,j<i->p j=false):Zo p n=n:=Xm fun j hj=>hg j (by omega)
theorem Q2 {p:Nat->Bool} {n i:Nat} (hi:i<n) (hp:p i=true) (hg:∀j,j<i->p j=false):Zo p n=i:=UE hi hp hg
noncomputable def Zhn (D:Zb) (o:LI) (id:Int):Zf:=G0.withL 32 0 (goM 0 (Z7C D o id 0) (ZP D/\o.length=32) (Yx 0 D.T.length 9 (fun i=>Y9 o id (D.T.getD i Zq)=false) (fun i=>i=D.T.length) (fun i=>i<D.T.length/\Y9 o id (D.T.getD i Zq)=true) (fun _=>False) (fun _=>Z7D) (fun i=>Zg6 D i) (fun _=>Z7D)))
theorem ZdL (D:Zb) (o:LI) (id:Int):(Zhn D o id).Ok:=
 Zf.withGoM (N:=20) (k:=0) (n:=D.T.length) (l:=9) (S:=fun i=>Z7C D o id i) Zt (by kernel_rfl) fun hC=>⟨rfl,fun i hi _=>ZlH D o id i _ _ _ hC.1 hC.2 hi (fun h1 h2=>⟨h2,h1⟩) (fun h=>h) fun h1 h2=>⟨h1,h2⟩⟩
theorem ZlL (D:Zb) (o:LI) (id:Int) (J:Nat) (x:Zk) (b:Bool) (hL:ZP D) (ho:o.length=32) (hJ:J=atO D.T o id) (hx:x=D.T.getD J Zq) (hb:b=Nat.blt J D.T.length):
  evF (Zhn D o id) 20 32 [.agg (dvC D),.agg [.arr .u8 32 o],.int .i64 id] ⟨0,[]⟩ (XA (fun v=>v=.tuple [.agg x.c,.bool b])):=by
 refine @Eq.mpr _ (let e:=D.T;let d:=e.length;let n:=decide (d=d);let m:=tiR e;let l:=D.S.length;let k:=decide (l=l);let h:=seR D.S;let g:=D.Q.length;let f:=decide (g=g);let r:=quR D.Q;let q:=AV.arr u8 32 Ze;let p:=AV.tuple [AV.agg (Zk.c x),AV.bool b];
 Z5 (id=id) (Ze=Ze/\
 Ze=Ze/\
 o=o/\
 Z4 n (m=m/\
 Z4 n (Z4 k (h=h/\
 Z4 k (Z4 f (r=r/\
 Z4 f ((ZP D/\o.length=32)/\
 ∀(i:Nat),
 let a:=List.getD e i Zq;
 i<=d->(∀(j:Nat),j<i->(fun (i:Nat)=>Y9 o id (List.getD e i Zq)=false) j)->(i=d->AV.tuple [AV.agg [q,AV.int i64 0,q,AV.int i64 0],AV.bool false]=p)/\(i<d/\Y9 o id a=true->AV.tuple [AV.agg [AV.arr u8 32 a.inn.v,AV.int i64 a.inID,AV.arr u8 32 a.out.v,AV.int i64 a.outID],AV.bool true]=p)/\(False->False))))))))) (by kernel_rfl) ?_
 conv=>zeta
 try simp only [vcA]
 try simp only [vcB]
 try simp only [vcC]
 refine ⟨⟨hL,ho⟩,fun i hi hg=>⟨fun e=> ?_,fun e=> ?_,fun h=>h⟩⟩
 ·have hJ:J=D.T.length:=hJ.trans (U1 e hg)
  rw [hb,hx,hJ,U0 _ _ (J2 _),WD,decide_eq_false (by omega)]
  rfl
 ·have hJ:J=i:=hJ.trans (Q2 e.1 e.2 hg)
  rw [hb,hx,hJ,YL e.1]
  rfl
noncomputable def Zho (D:Zb) (o:LI) (id:Int):Zf:=G0.withL 34 0 (goM 0 (Z7C D o id 0) (ZP D/\o.length=32) (Yx 0 D.T.length 9 (fun i=>XH o id (D.T.getD i Zq)=false) (fun i=>i=D.T.length) (fun i=>i<D.T.length/\XH o id (D.T.getD i Zq)=true) (fun _=>False) (fun _=>Z7D) (fun i=>Zg6 D i) (fun _=>Z7D)))
theorem ZdM (D:Zb) (o:LI) (id:Int):(Zho D o id).Ok:=
 Zf.withGoM (N:=20) (k:=0) (n:=D.T.length) (l:=9) (S:=fun i=>Z7C D o id i) Zt (by kernel_rfl) fun hC=>⟨rfl,fun i hi _=>ZlI D o id i _ _ _ hC.1 hC.2 hi (fun h1 h2=>⟨h2,h1⟩) (fun h=>h) fun h1 h2=>⟨h1,h2⟩⟩
theorem ZlM (D:Zb) (o:LI) (id:Int) (J:Nat) (x:Zk) (b:Bool) (hL:ZP D) (ho:o.length=32) (hJ:J=Zo (fun i=>XH o id (D.T.getD i Zq)) D.T.length) (hx:x=D.T.getD J Zq) (hb:b=Nat.blt J D.T.length):
  evF (Zho D o id) 20 34 [.agg (dvC D),.agg [.arr .u8 32 o],.int .i64 id] ⟨0,[]⟩ (XA (fun v=>v=.tuple [.agg x.c,.bool b])):=by
 refine @Eq.mpr _ (let e:=D.T;let d:=e.length;let n:=decide (d=d);let m:=tiR e;let l:=D.S.length;let k:=decide (l=l);let h:=seR D.S;let g:=D.Q.length;let f:=decide (g=g);let r:=quR D.Q;let q:=AV.arr u8 32 Ze;let p:=AV.tuple [AV.agg (Zk.c x),AV.bool b];
 Z5 (id=id) (Ze=Ze/\
 Ze=Ze/\
 o=o/\
 Z4 n (m=m/\
 Z4 n (Z4 k (h=h/\
 Z4 k (Z4 f (r=r/\
 Z4 f ((ZP D/\o.length=32)/\
 ∀(i:Nat),
 let a:=List.getD e i Zq;
 i<=d->(∀(j:Nat),j<i->(fun (i:Nat)=>XH o id (List.getD e i Zq)=false) j)->(i=d->AV.tuple [AV.agg [q,AV.int i64 0,q,AV.int i64 0],AV.bool false]=p)/\(i<d/\XH o id a=true->AV.tuple [AV.agg [AV.arr u8 32 a.inn.v,AV.int i64 a.inID,AV.arr u8 32 a.out.v,AV.int i64 a.outID],AV.bool true]=p)/\(False->False))))))))) (by kernel_rfl) ?_
 conv=>zeta
 try simp only [vcA]
 try simp only [vcB]
 try simp only [vcC]
 refine ⟨⟨hL,ho⟩,fun i hi hg=>⟨fun e=> ?_,fun e=> ?_,fun h=>h⟩⟩
 ·have hJ:J=D.T.length:=hJ.trans (U1 e hg)
  rw [hb,hx,hJ,U0 _ _ (J2 _),WD,decide_eq_false (by omega)]
  rfl
 ·have hJ:J=i:=hJ.trans (Q2 e.1 e.2 hg)
  rw [hb,hx,hJ,YL e.1]
  rfl
noncomputable def Zhp (H:LI->LI) (B:Nat) (D:Zb) (o:LI):Zf:=(ZdK H B).withL 36 0 (goM 0 (Zg7 D o 0) (ZP D/\o.length=32) (Yx 0 D.S.length 9 (fun i=>(o==H (D.S.getD i h0).v)=false) (fun i=>i=D.S.length) (fun i=>i<D.S.length/\(o==H (D.S.getD i h0).v)=true) (fun _=>False) (fun _=>Zg8) (fun i=>Zkd D i) (fun _=>Zg8)))
theorem ZdN (D:Zb) (o:LI):(Zhp Yj 100000 D o).Ok:=
 Zf.withGoM (N:=20) (k:=0) (n:=D.S.length) (l:=9) (S:=fun i=>Zg7 D o i) Z13 (by kernel_rfl) fun hC=>⟨rfl,fun i hi _=>ZlJ Yj 100000 D o i _ _ _ hC.1 rfl Xf hC.2 hi (fun h1 h2=>⟨h2,h1⟩) (fun h=>h) fun h1 h2=>⟨h1,h2⟩⟩
theorem ZlN (H:LI->LI) (B:Nat) (D:Zb) (o:LI) (J:Nat) (x:H32) (b:Bool) (hL:ZP D) (ho:o.length=32) (hJ:J=We H D.S o) (hx:x=D.S.getD J h0) (hb:b=Nat.blt J D.S.length):
  evF (Zhp H B D o) 20 36 [.agg (dvC D),.agg [.arr .u8 32 o]] ⟨0,[]⟩ (XA (fun v=>v=.tuple [.agg [.arr .u8 32 x.v],.bool b])):=by
 refine @Eq.mpr _ (let p:=D.T.length;let l:=decide (p=p);let h:=tiR D.T;let c:=D.S;let a:=c.length;let g:=decide (a=a);let f:=seR c;let e:=D.Q.length;let d:=decide (e=e);let n:=quR D.Q;let m:=AV.tuple [AV.agg [AV.arr u8 32 x.v],AV.bool b];
 Ze=Ze/\
 o=o/\
 Z4 l (h=h/\
 Z4 l (Z4 g (f=f/\
 Z4 g (Z4 d (n=n/\
 Z4 d ((ZP D/\o.length=32)/\
 ∀(i:Nat),
 let k:=(List.getD c i h0).v;
 i<=a->(∀(j:Nat),j<i->(fun (i:Nat)=>(o==H (List.getD c i h0).v)=false) j)->(i=a->AV.tuple [AV.agg [AV.arr u8 32 Ze],AV.bool false]=m)/\(i<a/\(o==H k)=true->AV.tuple [AV.agg [AV.arr u8 32 k],AV.bool true]=m)/\(False->False)))))))) (by kernel_rfl) ?_
 conv=>zeta
 try simp only [vcA]
 try simp only [vcB]
 try simp only [vcC]
 refine ⟨⟨hL,ho⟩,fun i hi hg=>⟨fun e=> ?_,fun e=> ?_,fun h=>h⟩⟩
 ·have hJ:J=D.S.length:=hJ.trans (U1 e hg)
  rw [hb,hx,hJ,U0 _ _ (J2 _),WD,decide_eq_false (by omega)]
  rfl
 ·have hJ:J=i:=hJ.trans (Q2 e.1 e.2 hg)
  rw [hb,hx,hJ,YL e.1]
noncomputable def Zhq (D:Zb) (o:LI):Zf:=G0.withL 38 0 (goM 0 (Zg9 D o 0) (ZP D/\o.length=32) (Yx 0 D.Q.length 9 (fun i=>(o==(D.Q.getD i ZH).hash.v)=false) (fun i=>i=D.Q.length) (fun i=>i<D.Q.length/\(o==(D.Q.getD i ZH).hash.v)=true) (fun _=>False) (fun _=>Zga) (fun i=>Zke D i) (fun _=>Zga)))
theorem ZdO (D:Zb) (o:LI):(Zhq D o).Ok:=
 Zf.withGoM (N:=20) (k:=0) (n:=D.Q.length) (l:=9) (S:=fun i=>Zg9 D o i) Zt (by kernel_rfl) fun hC=>⟨rfl,fun i hi _=>ZlK D o i _ _ _ hC.1 hC.2 hi (fun h1 h2=>⟨h2,h1⟩) (fun h=>h) fun h1 h2=>⟨h1,h2⟩⟩
theorem ZlO (D:Zb) (o:LI) (J:Nat) (x:Zs) (b:Bool) (hL:ZP D) (ho:o.length=32) (hJ:J=atQ D.Q o) (hx:x=D.Q.getD J ZH) (hb:b=Nat.blt J D.Q.length):
  evF (Zhq D o) 20 38 [.agg (dvC D),.agg [.arr .u8 32 o]] ⟨0,[]⟩ (XA (fun v=>v=.tuple [.agg x.ic,.agg [.arr .u8 32 x.secret.v],.bool b])):=by
 refine @Eq.mpr _ (let r:=D.T.length;let n:=decide (r=r);let l:=tiR D.T;let k:=D.S.length;let h:=decide (k=k);let g:=seR D.S;let d:=D.Q;let a:=d.length;let f:=decide (a=a);let q:=quR d;let e:=AV.arr u8 32 Ze;let p:=AV.tuple [AV.agg (Zs.ic x),AV.agg [AV.arr u8 32 x.secret.v],AV.bool b];
 Ze=Ze/\
 Ze=Ze/\
 Ze=Ze/\
 o=o/\
 Z4 n (l=l/\
 Z4 n (Z4 h (g=g/\
 Z4 h (Z4 f (q=q/\
 Z4 f ((ZP D/\o.length=32)/\
 ∀(i:Nat),
 let c:=List.getD d i ZH;let m:=c.hash.v;
 i<=a->(∀(j:Nat),j<i->(fun (i:Nat)=>(o==(List.getD d i ZH).hash.v)=false) j)->(i=a->AV.tuple [AV.agg [e,e,AV.int i64 0,AV.int i64 0],AV.agg [e],AV.bool false]=p)/\(i<a/\(o==m)=true->AV.tuple [AV.agg [AV.arr u8 32 m,AV.arr u8 32 c.key.v,AV.int i64 c.amount,AV.int i64 c.least],AV.agg [AV.arr u8 32 c.secret.v],AV.bool true]=p)/\(False->False)))))))) (by kernel_rfl) ?_
 conv=>zeta
 try simp only [vcA]
 try simp only [vcB]
 try simp only [vcC]
 refine ⟨⟨hL,ho⟩,fun i hi hg=>⟨fun e=> ?_,fun e=> ?_,fun h=>h⟩⟩
 ·have hJ:J=D.Q.length:=hJ.trans (U1 e hg)
  rw [hb,hx,hJ,U0 _ _ (J2 _),WD,decide_eq_false (by omega)]
  rfl
 ·have hJ:J=i:=hJ.trans (Q2 e.1 e.2 hg)
  rw [hb,hx,hJ,YL e.1]
  rfl
def Z7E (e:Nat) (a:AV) (K:Nat->(Nat->List AV)->Prop):Prop:=match a with
 | .vrows e' n f m=>Z5 (e'=e/\m=n) (K n f)
 | .nilslice=>K 0 (fun _=>[])
 | _=>False
theorem Z4a {e:Nat} {a:AV} {K:Nat->(Nat->List AV)->Prop} (h:Z7E e a K):∃n f,K n f/\a.isCell=true/\∀E r,Zd E a r->Zd E (.vrows e n f n) r:=by
 unfold Z7E at h
 split at h
 ·obtain ⟨⟨rfl,rfl⟩,hK⟩:=Zg h
  exact ⟨_,_,hK,rfl,fun _ _ h=>h⟩
 ·refine ⟨_,_,h,rfl,fun E r hr=> ?_⟩
  cases hr
  exact .vrowsNil _ _ _ _ rfl rfl
 ·exact h.elim
structure Wp (D:Zb) (n1:Nat) (f1:Nat->List AV) (n2:Nat) (f2:Nat->List AV) (n3:Nat) (f3:Nat->List AV):Prop where
 t:n1=D.T.length/\∀i,i<n1->f1 i=tiR D.T i
 s:n2=D.S.length/\∀i,i<n2->f2 i=seR D.S i
 q:n3=D.Q.length/\∀i,i<n3->f3 i=quR D.Q i
 lim:ZP D
theorem Z4b (h:ZP D):Wp D D.T.length (ZL 0 (tiR D.T)) D.S.length (ZL 0 (seR D.S)) D.Q.length (ZL 0 (quR D.Q)):=⟨⟨rfl,fun i _=>by rw [WJ,Jo]⟩,⟨rfl,fun i _=>by rw [WJ,Jo]⟩,⟨rfl,fun i _=>by rw [WJ,Jo]⟩,h⟩
def Zbz (h:Z7) (args:List AV) (K0:Zb->List AV->Prop):Prop:=X1 none h true 60 args fun a=>match a with
 | .agg [l1,l2,l3]::r=>Z7E 66 l1 fun n1 f1=>Z7E 32 l2 fun n2 f2=>Z7E 98 l3 fun n3 f3=>∃D,Wp D n1 f1 n2 f2 n3 f3/\K0 D r
 | _=>False
theorem ZiA {E:Env} {a b c a' b' c':AV} {vs:List Value} (h:Zp E [a,b,c] vs) (ha:a.isCell=true) (hb:b.isCell=true) (hc:c.isCell=true) (ha':a'.isCell=true) (hb':b'.isCell=true) (hc':c'.isCell=true) (h1:∀r,Zd E a r->Zd E a' r) (h2:∀r,Zd E b r->Zd E b' r) (h3:∀r,Zd E c r->Zd E c' r):Zp E [a',b',c'] vs:=by
 cases h with
 | one v d vs cs g0 gc hv t=>cases t with
  | one v d vs cs g0 gc' hv' t=>cases t with
   | one v d vs cs g0 gc2 hv2 t=>exact .one _ _ _ _ ha' gc (h1 _ hv) (.one _ _ _ _ hb' gc' (h2 _ hv') (.one _ _ _ _ hc' gc2 (h3 _ hv2) t))
   | arr k n xs vs cs t=>cases hc
  | arr k n xs vs cs t=>cases hb
 | arr k n xs vs cs t=>cases ha
theorem Z14 {h:Z7} {g:FuncId} {K:AV->Prop} {K0:Zb->List AV->Prop} (hl:Zbz h args K0) (hK:∀D r,ZP D->K0 D r->∃v,Y6 PP g (.agg (dvC D)::r) v 0 []/\(∀d,shV d v=some v)/\K v):Zi PP g args h fun o h'=>∃v,o=.ret v/\h'=h/\K v:=by
 refine Y6.psumm (d:=60) (YB _ _ _ _ _ hl fun a ha=> ?_)
 split at ha
 ·obtain ⟨n1,f1,ha,q1,r1⟩:=Z4a ha
  obtain ⟨n2,f2,ha,q2,r2⟩:=Z4a ha
  obtain ⟨n3,f3,ha,q3,r3⟩:=Z4a ha
  obtain ⟨D,⟨⟨rfl,e1⟩,⟨rfl,e2⟩,⟨rfl,e3⟩,hL⟩,hK0⟩:=ha
  obtain ⟨v,hp,hs,hk⟩:=hK D _ hL hK0
  exact ⟨v,hp.conv fun E r hr=>hr.head (fun _ hc=>by
   cases hc with
   | agg _ vs hc=>exact .agg _ vs (ZiA hc q1 q2 q3 rfl rfl rfl (fun r hr=>(r1 E r hr).rowsC e1) (fun r hr=>(r2 E r hr).rowsC e2) (fun r hr=>(r3 E r hr).rowsC e3))) fun _ hc=>hc,hs,hk⟩
 ·exact ha.elim
theorem Y6.evW6 {G:Zf} (hG:G.Ok) {n:Nat} {f:FuncId} {v:AV} (h:evF G n f args ⟨0,[]⟩ (XA fun u=>u=v)):Y6 G.P f args v 0 []:=by
 intro E w rs he hr
 refine (Z01 hG h E w rs he hr).mono ?_
 rintro e w' ⟨E₁,o,h',hK0,hev,hor⟩
 cases hor with
 | panic u r hr=>exact hK0.elim
 | ret u r hr=>
  unfold XA at hK0
  simp only at hK0
  split at hK0
  ·rename_i hu
   subst hK0
   refine ⟨E,r,rfl,⟨.refl E,⟨he.fresh,fun x B hx=>by simp [Z7.get,Zr] at hx,fun x B hx=>by simp [Z7.get,Zr] at hx,fun x y B B' b N N' hx=>by simp [Z7.get,Zr] at hx,fun a c hi=>hev.emb.imm a c (hev.le.imm a c hi),fun a c x B N _ hx=>by simp [Z7.get,Zr] at hx⟩,hev.size,hev.os,hev.tape,hev.output,hev.keep,fun b hb=> ?_,fun _ _ h=>h⟩,Zd.vplain (E:=E₁) (E':=E) (fun a c hi=>hev.imm a c hi) _ _ hu hr⟩
   obtain ⟨x,B,N,hx,_⟩:=hb
   simp [Z7.get,Zr] at hx
  ·exact hK0.elim
def Z6p:Yk:=fun args h K=>Zbz h args fun D r=>match r with
 | [.agg [.arr .u8 32 o],.int .i64 id]=>o.length=32/\K (.tuple [.agg (D.T.getD (atO D.T o id) Zq).c,.bool (Nat.blt (atO D.T o id) D.T.length)])
 | _=>False
theorem Z1C (args:List AV) (h:Z7) (K:AV->Prop) (hl:Z6p args h K):Zi PP 32 args h fun o h'=>∃v,o=.ret v/\h'=h/\K v:=by
 refine Z14 hl fun D r hL ha=> ?_
 split at ha
 ·exact ⟨_,Y6.evW6 (ZdL D _ _) (ZlL D _ _ _ _ _ hL ha.1 rfl rfl rfl),fun _=>rfl,ha.2⟩
 ·exact ha.elim
def ZdP:Yk:=fun args h K=>Zbz h args fun D r=>match r with
 | [.agg [.arr .u8 32 o],.int .i64 id]=>o.length=32/\∀x b,K (.tuple [.agg (Zk.c x),.bool b])
 | _=>False
theorem Z7F (args:List AV) (h:Z7) (K:AV->Prop) (hl:ZdP args h K):Zi PP 34 args h fun o h'=>∃v,o=.ret v/\h'=h/\K v:=by
 refine Z14 hl fun D r hL ha=> ?_
 split at ha
 ·exact ⟨_,Y6.evW6 (ZdM D _ _) (ZlM D _ _ _ _ _ hL ha.1 rfl rfl rfl),fun _=>rfl,ha.2 _ _⟩
 ·exact ha.elim
def Zan (H:LI->LI):Yk:=fun args h K=>Zbz h args fun D r=>match r with
 | [.agg [.arr .u8 32 o]]=>o.length=32/\K (.tuple [.agg [.arr .u8 32 (D.S.getD (We H D.S o) h0).v],.bool (Nat.blt (We H D.S o) D.S.length)])
 | _=>False
theorem Z4c (args:List AV) (h:Z7) (K:AV->Prop) (hl:Zan Yj args h K):Zi PP 36 args h fun o h'=>∃v,o=.ret v/\h'=h/\K v:=by
 refine Z14 hl fun D r hL ha=> ?_
 split at ha
 ·exact ⟨_,Y6.evW6 (ZdN D _) (ZlN Yj 100000 D _ _ _ _ hL ha.1 rfl rfl rfl),fun _=>rfl,ha.2⟩
 ·exact ha.elim
def Z7G:Yk:=fun args h K=>Zbz h args fun D r=>match r with
 | [.agg [.arr .u8 32 o]]=>o.length=32/\K (.tuple [.agg (D.Q.getD (atQ D.Q o) ZH).ic,.agg [.arr .u8 32 (D.Q.getD (atQ D.Q o) ZH).secret.v],.bool (Nat.blt (atQ D.Q o) D.Q.length)])
 | _=>False
theorem Z15 (args:List AV) (h:Z7) (K:AV->Prop) (hl:Z7G args h K):Zi PP 38 args h fun o h'=>∃v,o=.ret v/\h'=h/\K v:=by
 refine Z14 hl fun D r hL ha=> ?_
 split at ha
 ·exact ⟨_,Y6.evW6 (ZdO D _) (ZlO D _ _ _ _ hL ha.1 rfl rfl rfl),fun _=>rfl,ha.2⟩
 ·exact ha.elim
def Z4C:Blk:=.flat [.nilslice,.nilslice,.nilslice]
def Zgb (D:Zb) (x:Zk) (L:List Zk) (i:Nat):St:=⟨50,[(12,.int .i64 i),(3,pt 3),(9,pt 4),(11,.nslice ⟨7,0,66,0,0⟩ 66 L.length L.length),(6,pt 5),(7,pt 6)],⟨8,(7,.rows 66 L.length (tiR L))::(6,.flat tz)::(5,Z4C)::(4,.flat x.c)::(3,.flat (dcC D))::dcB D⟩,[]⟩
def Zkf (D:Zb) (x:Zk) (L:List Zk):St:=⟨50,[(3,pt 3),(9,pt 4),(11,.nslice ⟨7,0,66,0,0⟩ 66 L.length L.length),(6,pt 5),(7,pt 6)],⟨8,(7,.rows 66 L.length (tiR L))::(6,.flat tz)::(5,Z4C)::(4,.flat x.c)::(3,.flat (dcC D))::dcB D⟩,[]⟩
theorem ZlP (D:Zb) (x:Zk) (L L':List Zk) (i:Nat) (Z1 Z2:Prop) (hL:ZP D) (hi:i<=D.T.length) (hl:L=WC (fun y=> !QM y x) D.T i) (hl':L'=WC (fun y=> !QM y x) D.T (i+1)) (h1:i<D.T.length->Z1) (h2:i=D.T.length->Z2):
  ZF G0 40 21 0 3 (Zgb D x L i) (rdM 3 0 9 (Zgb D x L' (i+1)) (Zkf D x L) dtN dtN Z1 Z2 False False):=by
 refine @Eq.mpr _ (let J:=D.T;let a:=J.length;let P:=decide (0<=(↑i:Int)/\(↑i:Int)<(↑a:Int));let u:=0+Int.toNat (↑i:Int);let m:=List.getD J u Zq;let t:=m.inn.v;let l:=x.inn.v;let s:=m.out.v;let k:=x.out.v;let X:=m.inID;let I:=x.inID;let W:=m.outID;let H:=x.outID;let b:=L.length;let G:=decide (b=b);let F:=b+1;let V:=decide (wrap i64 ((↑i:Int)+1)=(↑(i+1):Int));let h:=L'.length;let U:=decide (F=h);let R:=[(4,4),(3,3)];let r:=(6,6)::(5,5)::(7,9)::R;let q:=tiR L;let E:=l=l;let C:=decide (I=I);let B:=k=k;let A:=decide (H=H);let g:=decide (a=a);let z:=decide (a<=a);let f:=D.S.length;let e:=decide (f=f);let y:=decide (f<=f);let d:=D.Q.length;let c:=decide (d=d);let w:=decide (d<=d);let p:=tiR J;let o:=seR D.S;let n:=quR D.Q;let O:=decide (b=h);let j:=(6,6)::(5,5)::(7,7)::R;let N:=Z9 3 j a p p;let M:=Z9 3 j f o o;let K:=Z9 3 j d n n;
 Z6 (decide ((↑i:Int)<(↑a:Int))) (Z4 P (Z5 (u<a) (Z5 (t.length=32/\l.length=32) (Z5 (s.length=32/\k.length=32) (Z6 (!(t==l&&(X==I&&(s==k&&W==H)))) (Z4 P (Z5 (u<a) (Z4 G (Z5 (F*80<=140737488355328) (Z4 V (Z4 U (Z5 (h<=F) (Z4 U (Z9 3 r h (tiR L') (Xd b q (XM [AV.arr u8 32 t,AV.int i64 X,AV.arr u8 32 s,AV.int i64 W] 0 66))/\Ze=Ze/\Ze=Ze/\E/\Z4 C (B/\Z4 A (Z4 g (Z4 z (Z4 e (Z4 y (Z4 c (Z4 w (Z4 g (Z9 3 r a p p/\Z4 e (Z9 3 r f o o/\Z4 c (Z9 3 r d n n/\Z1)))))))))))))))))))) (Z4 V (Z4 O (Z5 (h<=b) (Z4 O (Z9 3 j h (tiR L') q/\Ze=Ze/\Ze=Ze/\E/\Z4 C (B/\Z4 A (Z4 g (Z4 z (Z4 e (Z4 y (Z4 c (Z4 w (Z4 g (N/\Z4 e (M/\Z4 c (K/\Z1))))))))))))))))))))) (Z4 G (Z5 (b<=b) (Z4 G (Z9 3 j b q q/\Ze=Ze/\Ze=Ze/\E/\Z4 C (B/\Z4 A (Z4 g (Z4 z (Z4 e (Z4 y (Z4 c (Z4 w (Z4 g (N/\Z4 e (M/\Z4 c (K/\Z2)))))))))))))))) (by kernel_rfl) ?_
 conv=>zeta
 try simp only [vcA]
 try simp only [vcB]
 try simp only [vcC]
 have hR:=Z0j D 3
 have hlim:=hL.t
 have hll:L.length<=D.T.length:=by rw [hl];exact Z49
 refine ⟨fun hc=> ?_,fun hc=>⟨Zj ZX fun _ _=>rfl,(hR _).1,(hR _).2.1,(hR _).2.2,h2 (by omega)⟩⟩
 have hlt:i<D.T.length:=by omega
 have hw:i64.wrap ((i:Int)+1)=((i+1:Nat):Int):=by rw [w64 (by omega)];omega
 have h1:=h1 hlt
 have hS:=Z1B Zq (p:=fun y=> !QM y x) hlt
 rw [<-hl',<-hl] at hS
 generalize D.T.getD i Zq=y at*
 refine ⟨by omega,hlt,⟨y.inn.l,x.inn.l⟩,⟨y.out.l,x.out.l⟩,fun k=>⟨by omega,hlt,by omega,hw, ?_⟩,fun k=>⟨hw, ?_⟩⟩
 ·have k':(!QM y x)=true:=k
  rw [if_pos k'] at hS
  have el:L.length+1=L'.length:=by rw [hS,J3];rfl
  refine ⟨el,Jw el.symm,el,Zj ZX fun j hj=> ?_,(hR _).1,(hR _).2.1,(hR _).2.2,h1⟩
  have hj':j<L.length+1:=by omega
  rw [hS]
  exact Yc (L:=L) (x:=y) rfl hj'
 ·have k':(!QM y x)=false:=k
  rw [k',if_neg (by decide),JG] at hS
  rw [hS]
  exact ⟨rfl,J2 _,rfl,Zj ZX fun _ _=>rfl,(hR _).1,(hR _).2.1,(hR _).2.2,h1⟩
def Zgc (D:Zb) (x:H32) (L:List H32) (i:Nat):St:=⟨44,[(9,.int .i64 i),(2,pt 3),(6,pt 4),(8,.nslice ⟨6,0,32,0,0⟩ 32 L.length L.length),(4,pt 5)],⟨7,(6,.rows 32 L.length (seR L))::(5,Z4C)::(4,.flat (VX x))::(3,.flat (dcC D))::dcB D⟩,[]⟩
def Zkg (D:Zb) (x:H32) (L:List H32):St:=⟨44,[(2,pt 3),(6,pt 4),(8,.nslice ⟨6,0,32,0,0⟩ 32 L.length L.length),(4,pt 5)],⟨7,(6,.rows 32 L.length (seR L))::(5,Z4C)::(4,.flat (VX x))::(3,.flat (dcC D))::dcB D⟩,[]⟩
theorem ZlQ (D:Zb) (x:H32) (L L':List H32) (i:Nat) (Z1 Z2:Prop) (hL:ZP D) (hi:i<=D.S.length) (hl:L=WC (fun y=> !(y.v==x.v)) D.S i) (hl':L'=WC (fun y=> !(y.v==x.v)) D.S (i+1)) (h1:i<D.S.length->Z1) (h2:i=D.S.length->Z2):
  ZF G0 40 28 0 3 (Zgc D x L i) (rdM 3 0 9 (Zgc D x L' (i+1)) (Zkg D x L) dtN dtN Z1 Z2 False False):=by
 refine @Eq.mpr _ (let A:=D.S;let a:=A.length;let F:=decide (0<=(↑i:Int)/\(↑i:Int)<(↑a:Int));let t:=0+Int.toNat (↑i:Int);let s:=(List.getD A t h0).v;let k:=x.v;let b:=L.length;let r:=decide (b=b);let q:=b+1;let J:=decide (wrap i64 ((↑i:Int)+1)=(↑(i+1):Int));let h:=L'.length;let I:=decide (q=h);let H:=[(4,4),(3,3)];let p:=(5,5)::(6,8)::H;let o:=seR L;let z:=k=k;let g:=D.T.length;let f:=decide (g=g);let y:=decide (g<=g);let e:=decide (a=a);let w:=decide (a<=a);let d:=D.Q.length;let c:=decide (d=d);let u:=decide (d<=d);let n:=tiR D.T;let m:=seR A;let l:=quR D.Q;let G:=decide (b=h);let j:=(5,5)::(6,6)::H;let E:=Z9 3 j g n n;let C:=Z9 3 j a m m;let B:=Z9 3 j d l l;
 Z6 (decide ((↑i:Int)<(↑a:Int))) (Z4 F (Z5 (t<a) (Z5 (s.length=32/\k.length=32) (Z6 (!s==k) (Z4 F (Z5 (t<a) (Z4 r (Z5 (q*32<=140737488355328) (Z4 J (Z4 I (Z5 (h<=q) (Z4 I (Z9 3 p h (seR L') (Xd b o (XM [AV.arr u8 32 s] 0 32))/\z/\Z4 f (Z4 y (Z4 e (Z4 w (Z4 c (Z4 u (Z4 f (Z9 3 p g n n/\Z4 e (Z9 3 p a m m/\Z4 c (Z9 3 p d l l/\Z1)))))))))))))))))) (Z4 J (Z4 G (Z5 (h<=b) (Z4 G (Z9 3 j h (seR L') o/\z/\Z4 f (Z4 y (Z4 e (Z4 w (Z4 c (Z4 u (Z4 f (E/\Z4 e (C/\Z4 c (B/\Z1)))))))))))))))))) (Z4 r (Z5 (b<=b) (Z4 r (Z9 3 j b o o/\z/\Z4 f (Z4 y (Z4 e (Z4 w (Z4 c (Z4 u (Z4 f (E/\Z4 e (C/\Z4 c (B/\Z2)))))))))))))) (by kernel_rfl) ?_
 conv=>zeta
 try simp only [vcA]
 try simp only [vcB]
 try simp only [vcC]
 have hR:=Z0j D 3
 have hlim:=hL.s
 have hll:L.length<=D.S.length:=by rw [hl];exact Z49
 refine ⟨fun hc=> ?_,fun hc=>⟨Zj Ye fun _ _=>rfl,(hR _).1,(hR _).2.1,(hR _).2.2,h2 (by omega)⟩⟩
 have hlt:i<D.S.length:=by omega
 have hw:i64.wrap ((i:Int)+1)=((i+1:Nat):Int):=by rw [w64 (by omega)];omega
 have h1:=h1 hlt
 have hS:=Z1B h0 (p:=fun y=> !(y.v==x.v)) hlt
 rw [<-hl',<-hl] at hS
 generalize D.S.getD i h0=y at*
 refine ⟨by omega,hlt,⟨y.l,x.l⟩,fun k=>⟨by omega,hlt,by omega,hw, ?_⟩,fun k=>⟨hw, ?_⟩⟩
 ·have k':(!(y.v==x.v))=true:=k
  rw [if_pos k'] at hS
  have el:L.length+1=L'.length:=by rw [hS,J3];rfl
  refine ⟨el,Jw el.symm,el,Zj Ye fun j hj=> ?_,(hR _).1,(hR _).2.1,(hR _).2.2,h1⟩
  have hj':j<L.length+1:=by omega
  rw [hS]
  exact Yc (L:=L) (x:=y) rfl hj'
 ·have k':(!(y.v==x.v))=false:=k
  rw [k',if_neg (by decide),JG] at hS
  rw [hS]
  exact ⟨rfl,J2 _,rfl,Zj Ye fun _ _=>rfl,(hR _).1,(hR _).2.1,(hR _).2.2,h1⟩
def Zgd (D:Zb) (o:LI) (x:H32) (L:List Zs) (i:Nat):St:=⟨51,[(11,.int .i64 i),(2,pt 3),(3,pt 4),(10,.nslice ⟨8,0,98,0,0⟩ 98 L.length L.length),(8,pt 5),(4,pt 6),(5,pt 7)],⟨9,(8,.rows 98 L.length (quR L))::(7,.flat [.arr .u8 32 Ze])::(6,Z4C)::(5,.flat (VX x))::(4,.flat [.arr .u8 32 o])::(3,.flat (dcC D))::dcB D⟩,[]⟩
def Zkh (D:Zb) (x:H32) (L:List Zs):St:=⟨51,[(2,pt 3),(10,.nslice ⟨5,0,98,0,0⟩ 98 L.length L.length),(8,pt 4),(4,pt 6),(5,pt 7)],⟨8,(5,.rows 98 L.length (quR L))::(7,.flat [.arr .u8 32 Ze])::(6,Z4C)::(4,.flat (VX x))::(3,.flat (dcC D))::dcB D⟩,[]⟩
theorem ZlR (D:Zb) (o:LI) (x:H32) (L L':List Zs) (i:Nat) (Z1 Z2:Prop) (hL:ZP D) (ho:o.length=32) (hi:i<=D.Q.length) (hl:L=WC (fun y=> !(y.hash.v==o)) D.Q i) (hl':L'=WC (fun y=> !(y.hash.v==o)) D.Q (i+1)) (h1:i<D.Q.length->Z1) (h2:i=D.Q.length->Z2):
  ZF G0 40 26 0 3 (Zgd D o x L i) (rdM 3 0 9 (Zgd D o x L' (i+1)) (Zkh D x L) dtN dtN Z1 Z2 False False):=by
 refine @Eq.mpr _ (let C:=D.Q;let a:=C.length;let E:=decide (0<=(↑i:Int)/\(↑i:Int)<(↑a:Int));let w:=0+Int.toNat (↑i:Int);let m:=List.getD C w ZH;let u:=m.hash.v;let b:=L.length;let t:=decide (b=b);let s:=b+1;let J:=decide (wrap i64 ((↑i:Int)+1)=(↑(i+1):Int));let l:=L'.length;let I:=decide (s=l);let H:=[(3,3)];let G:=(4,4)::H;let r:=(7,7)::(6,6)::(5,5)::(8,10)::G;let q:=quR L;let B:=x.v=x.v;let d:=D.T.length;let k:=decide (d=d);let A:=decide (d<=d);let c:=D.S.length;let j:=decide (c=c);let z:=decide (c<=c);let h:=decide (a=a);let y:=decide (a<=a);let g:=tiR D.T;let f:=seR D.S;let e:=quR C;let F:=decide (b=l);let p:=(7,7)::(6,6)::(5,5)::(8,8)::G;let n:=(7,7)::(6,6)::(4,5)::(5,8)::H;
 Z6 (decide ((↑i:Int)<(↑a:Int))) (Z4 E (Z5 (w<a) (Z5 (u.length=32/\o.length=32) (Z6 (!u==o) (Z4 E (Z5 (w<a) (Z4 t (Z5 (s*112<=140737488355328) (Z4 J (Z4 I (Z5 (l<=s) (Z4 I (Z9 3 r l (quR L') (Xd b q (XM [AV.arr u8 32 u,AV.arr u8 32 m.key.v,AV.int i64 m.amount,AV.int i64 m.least,AV.arr u8 32 m.secret.v] 0 98))/\Ze=Ze/\B/\o=o/\Z4 k (Z4 A (Z4 j (Z4 z (Z4 h (Z4 y (Z4 k (Z9 3 r d g g/\Z4 j (Z9 3 r c f f/\Z4 h (Z9 3 r a e e/\Z1)))))))))))))))))) (Z4 J (Z4 F (Z5 (l<=b) (Z4 F (Z9 3 p l (quR L') q/\Ze=Ze/\B/\o=o/\Z4 k (Z4 A (Z4 j (Z4 z (Z4 h (Z4 y (Z4 k (Z9 3 p d g g/\Z4 j (Z9 3 p c f f/\Z4 h (Z9 3 p a e e/\Z1)))))))))))))))))) (Z4 t (Z5 (b<=b) (Z4 t (Z9 3 n b q q/\Ze=Ze/\B/\Z4 k (Z4 A (Z4 j (Z4 z (Z4 h (Z4 y (Z4 k (Z9 3 n d g g/\Z4 j (Z9 3 n c f f/\Z4 h (Z9 3 n a e e/\Z2)))))))))))))) (by kernel_rfl) ?_
 conv=>zeta
 try simp only [vcA]
 try simp only [vcB]
 try simp only [vcC]
 have hR:=Z0j D 3
 have hlim:=hL.q
 have hll:L.length<=D.Q.length:=by rw [hl];exact Z49
 refine ⟨fun hc=> ?_,fun hc=>⟨Zj Y8 fun _ _=>rfl,(hR _).1,(hR _).2.1,(hR _).2.2,h2 (by omega)⟩⟩
 have hlt:i<D.Q.length:=by omega
 have hw:i64.wrap ((i:Int)+1)=((i+1:Nat):Int):=by rw [w64 (by omega)];omega
 have h1:=h1 hlt
 have hS:=Z1B ZH (p:=fun y=> !(y.hash.v==o)) hlt
 rw [<-hl',<-hl] at hS
 generalize D.Q.getD i ZH=y at*
 refine ⟨by omega,hlt,⟨y.hash.l,ho⟩,fun k=>⟨by omega,hlt,by omega,hw, ?_⟩,fun k=>⟨hw, ?_⟩⟩
 ·have k':(!(y.hash.v==o))=true:=k
  rw [if_pos k'] at hS
  have el:L.length+1=L'.length:=by rw [hS,J3];rfl
  refine ⟨el,Jw el.symm,el,Zj Y8 fun j hj=> ?_,(hR _).1,(hR _).2.1,(hR _).2.2,h1⟩
  have hj':j<L.length+1:=by omega
  rw [hS]
  exact Yc (L:=L) (x:=y) rfl hj'
 ·have k':(!(y.hash.v==o))=false:=k
  rw [k',if_neg (by decide),JG] at hS
  rw [hS]
  exact ⟨rfl,J2 _,rfl,Zj Y8 fun _ _=>rfl,(hR _).1,(hR _).2.1,(hR _).2.2,h1⟩
theorem ZbA (G:Zf) (f:FuncId) (S:ZS):(G.withF f S).P=G.P:=rfl
noncomputable def Zhr (D:Zb) (x:Zk):Zf:=(G0.withP 32 Z6p).withL 21 0 (goM 3 (Zgb D x [] 0) (ZP D) (Yx 0 D.T.length 9 (fun i=>i<D.T.length) (fun i=>i=D.T.length) (fun _=>False) (fun _=>False) (fun i=>Zkf D x (WC (fun y=> !QM y x) D.T i)) (fun _=>dtN) (fun _=>dtN)))
theorem ZdQ (D:Zb) (x:Zk):(Zhr D x).Ok:=
 Zf.withL_join (H:=G0) (Zf.withP_ok Zt Z1C) (by simp only [VY]) (Zf.withGoM (N:=40) (k:=3) (n:=D.T.length) (l:=9) (S:=fun i=>Zgb D x (WC (fun y=> !QM y x) D.T i) i) Zt (by kernel_rfl) fun hC=>⟨rfl,fun i hi _=>ZlP D x _ _ i _ _ hC hi rfl rfl (fun h=>⟨h,h⟩) fun h=>h⟩)
theorem ZlS (D:Zb) (o:LI) (id:Int) (x:Zk) (T':List Zk) (e:Int) (hL:ZP D) (ho:o.length=32) (hx:x=D.T.getD (atO D.T o id) Zq) (he:e=if atO D.T o id<D.T.length then 0 else 5) (hT:T'=unD D.T o id):
  evF (Zhr D x) 40 21 [.agg (dcC D),.agg [.arr .u8 32 o],.int .i64 id] ⟨3,dcB D⟩ (Yd 3 (.ret (.tuple [slT 3 T' D 1 2,.agg x.c,.int .i64 e])) 4 [(3,.rows 66 T'.length (tiR T')),(1,.rows 32 D.S.length (seR D.S)),(2,.rows 98 D.Q.length (quR D.Q))]):=by
 refine @Eq.mpr _ (let B:=D.T;let a:=B.length;let c:=D.S.length;let b:=D.Q.length;let m:=tiR B;let f:=seR D.S;let d:=quR D.Q;let g:=T'.length;let C:=decide (a=g);let k:=decide (c=c);let A:=decide (c<=c);let h:=decide (b=b);let z:=decide (b<=b);let r:=x.inn.v;let q:=x.inID;let p:=x.out.v;let n:=x.outID;let w:=[(3,0)];let M:=decide (a=a);let u:=[(6,6),(5,5),(4,7),(3,3)];let L:=r=r;let K:=decide (q=q);let J:=p=p;let I:=decide (n=n);let t:=[(3,7)];
 Z5 (0+a<=a) ((∀(i:Nat),i<a->true=true)/\
 Z5 (0+c<=c) ((∀(i:Nat),i<c->true=true)/\
 Z5 (0+b<=b) ((∀(i:Nat),i<b->true=true)/\
 Z5 ((66:Nat)=66/\a=a) (Z5 ((32:Nat)=32/\c=c) (Z5 ((98:Nat)=98/\b=b) (∃(D_1:Zb),
 let s:=D_1.T;let H:=atO s o id;let l:=List.getD s H Zq;
 Wp D_1 a (ZL 0 m) c (ZL 0 f) b (ZL 0 d)/\
 o.length=32/\
 Z6 (!Nat.blt H (s.length)) (Z4 C (Z5 (g<=a) (Z4 k (Z4 A (Z4 h (Z4 z (Ze=r/\Z5 (0=q) (Ze=p/\Z5 (0=n) (Z5 (5=e) (Z4 C (Z9 3 w g (tiR T') m/\Z4 k (Z9 3 w c f f/\Z4 h (Z9 3 w b d d/\True))))))))))))) (Ze=Ze/\
 Ze=Ze/\
 l.inn.v=r/\
 Z5 (l.inID=q) (l.out.v=p/\
 Z5 (l.outID=n) (Z4 M (Z5 (a<=a) (Z4 k (Z4 A (Z4 h (Z4 z (Z4 M (Z9 3 u a m m/\
 Z4 k (Z9 3 u c f f/\
 Z4 h (Z9 3 u b d d/\
 ZP D/\
 ∀(i:Nat),
 let G:=WC (fun (y:Zk)=> !QM y x) B i;let F:=G.length;let E:=decide (F=g);
 i<=a->(∀(j:Nat),j<i->(fun (i:Nat)=>i<a) j)->(i=a->L/\Z4 K (J/\Z4 I (Z4 E (Z5 (g<=F) (Z4 k (Z4 A (Z4 h (Z4 z (L/\Z4 K (J/\Z4 I (Z5 (0=e) (Z4 E (Z9 3 t g (tiR T') (tiR G)/\Z4 k (Z9 3 t c f f/\Z4 h (Z9 3 t b d d/\True)))))))))))))))/\(False->False)/\(False->False)))))))))))))))))))) (by kernel_rfl) ?_
 conv=>zeta
 try simp only [vcA]
 try simp only [vcB]
 try simp only [vcC]
 have hR:=Z0j D 3
 have tr:∀{n:Nat} (i:Nat),i<n->True:=fun _ _=>trivial
 refine ⟨tr,tr,tr,D,Z4b hL,ho,fun k=> ?_,fun k=> ?_⟩
 all_goals rw [WD] at k
 ·have hj:¬atO D.T o id<D.T.length:=by simpa using k
  have ex:x=Zq:=by rw [hx,U0 _ _ (by omega)]
  have e2:T'=D.T:=by rw [hT,unD,if_neg hj]
  rw [ex,e2,he,if_neg hj]
  exact ⟨rfl,J2 _,rfl,rfl,rfl,rfl,rfl,rfl,(hR _).1,(hR _).2.1,(hR _).2.2⟩
 ·have hj:atO D.T o id<D.T.length:=by simpa using k
  rw [<-hx]
  refine ⟨rfl,rfl,rfl,rfl,(hR _).1,(hR _).2.1,(hR _).2.2,hL,fun i hi _=>⟨fun hn=> ?_,fun h=>h,fun h=>h⟩⟩
  have e2:T'=WC (fun y=> !QM y x) D.T i:=by rw [hT,unD,if_pos hj,<-hx,hn,Z48]
  rw [<-e2,he,if_pos hj]
  exact ⟨rfl,J2 _,rfl,rfl,Zj ZX fun _ _=>rfl,(hR _).2.1,(hR _).2.2⟩
def Zhs:ZS:=fun args h K=>Z2n h args fun D a b c az=>match az with
 | [.agg [.nslice ⟨0,0,66,0,0⟩ 66 n1 n2,.nslice ⟨1,0,32,0,0⟩ 32 n3 n4,.nslice ⟨2,0,98,0,0⟩ 98 n5 n6],.agg [.arr .u8 32 o],.int .i64 id]=>(n1=D.T.length/\n2=D.T.length/\n3=D.S.length/\n4=D.S.length/\n5=D.Q.length/\n6=D.Q.length)/\o.length=32/\K (.ret (.tuple [slT h.next (unD D.T o id) D b c,.agg (D.T.getD (atO D.T o id) Zq).c,.int .i64 (if atO D.T o id<D.T.length then 0 else 5)])) ⟨h.next+1,Ziz h D (unD D.T o id) a b c⟩
 | _=>False
theorem ZdR (args:List AV) (h:Z7) (K:KO) (hl:Zhs args h K):Zi PP 21 args h K:=by
 refine ZdI hl fun D a b c az hL ha=> ?_
 split at ha
 ·obtain ⟨⟨rfl,rfl,rfl,rfl,rfl,rfl⟩,ho,hK⟩:=ha
  exact ⟨_,_,fun _ _=>rfl,.evM (ZdQ D _) (ZlS D _ _ _ _ _ hL ho rfl rfl rfl),hK⟩
 ·exact ha.elim
def slS (nx:Nat) (S':List H32) (D:Zb) (a c:Nat):AV:=.agg [.nslice ⟨a,0,66,0,0⟩ 66 D.T.length D.T.length,.nslice ⟨nx,0,32,0,0⟩ 32 S'.length S'.length,.nslice ⟨c,0,98,0,0⟩ 98 D.Q.length D.Q.length]
noncomputable def Zht (H:LI->LI) (D:Zb) (x:H32):Zf:=(G0.withP 36 (Zan H)).withL 28 0 (goM 3 (Zgc D x [] 0) (ZP D) (Yx 0 D.S.length 9 (fun i=>i<D.S.length) (fun i=>i=D.S.length) (fun _=>False) (fun _=>False) (fun i=>Zkg D x (WC (fun y=> !(y.v==x.v)) D.S i)) (fun _=>dtN) (fun _=>dtN)))
theorem ZdS (D:Zb) (x:H32):(Zht Yj D x).Ok:=
 Zf.withL_join (H:=G0) (Zf.withP_ok Zt Z4c) (by simp only [VY]) (Zf.withGoM (N:=40) (k:=3) (n:=D.S.length) (l:=9) (S:=fun i=>Zgc D x (WC (fun y=> !(y.v==x.v)) D.S i) i) Zt (by kernel_rfl) fun hC=>⟨rfl,fun i hi _=>ZlQ D x _ _ i _ _ hC hi rfl rfl (fun h=>⟨h,h⟩) fun h=>h⟩)
theorem ZlT (H:LI->LI) (D:Zb) (o:LI) (x:H32) (S':List H32) (e:Int) (hL:ZP D) (ho:o.length=32) (hx:x=D.S.getD (We H D.S o) h0) (he:e=Z7v H D.S o) (hS:S'=Z2k H D.S o):
  evF (Zht H D x) 40 28 [.agg (dcC D),.agg [.arr .u8 32 o]] ⟨3,dcB D⟩ (Yd 3 (.ret (.tuple [slS 3 S' D 0 2,.int .i64 e])) 4 [(0,.rows 66 D.T.length (tiR D.T)),(3,.rows 32 S'.length (seR S')),(2,.rows 98 D.Q.length (quR D.Q))]):=by
 refine @Eq.mpr _ (let c:=D.T.length;let p:=D.S;let a:=p.length;let b:=D.Q.length;let f:=tiR D.T;let l:=seR p;let d:=quR D.Q;let g:=decide (c=c);let m:=decide (c<=c);let k:=S'.length;let C:=decide (a=k);let h:=decide (b=b);let t:=decide (b<=b);let s:=[(3,1)];let B:=decide (a=a);let r:=[(5,5),(4,6),(3,3)];let q:=[(3,6)];
 Z5 (0+c<=c) ((∀(i:Nat),i<c->true=true)/\
 Z5 (0+a<=a) ((∀(i:Nat),i<a->true=true)/\
 Z5 (0+b<=b) ((∀(i:Nat),i<b->true=true)/\
 Z5 ((66:Nat)=66/\c=c) (Z5 ((32:Nat)=32/\a=a) (Z5 ((98:Nat)=98/\b=b) (∃(D_1:Zb),
 let n:=D_1.S;let A:=We H n o;
 Wp D_1 c (ZL 0 f) a (ZL 0 l) b (ZL 0 d)/\
 o.length=32/\
 Z6 (!Nat.blt A (n.length)) (Z4 g (Z4 m (Z4 C (Z5 (k<=a) (Z4 h (Z4 t (Z5 (5=e) (Z4 g (Z9 3 s c f f/\Z4 C (Z9 3 s k (seR S') l/\Z4 h (Z9 3 s b d d/\True))))))))))) ((List.getD n A h0).v=x.v/\
 Z4 g (Z4 m (Z4 B (Z5 (a<=a) (Z4 h (Z4 t (Z4 g (Z9 3 r c f f/\
 Z4 B (Z9 3 r a l l/\
 Z4 h (Z9 3 r b d d/\
 ZP D/\
 ∀(i:Nat),
 let z:=WC (fun (y:H32)=> !y.v==x.v) p i;let w:=z.length;let u:=decide (w=k);
 i<=a->(∀(j:Nat),j<i->(fun (i:Nat)=>i<a) j)->(i=a->Z4 g (Z4 m (Z4 u (Z5 (k<=w) (Z4 h (Z4 t (Z5 (0=e) (Z4 g (Z9 3 q c f f/\Z4 u (Z9 3 q k (seR S') (seR z)/\Z4 h (Z9 3 q b d d/\True)))))))))))/\(False->False)/\(False->False)))))))))))))))))) (by kernel_rfl) ?_
 conv=>zeta
 try simp only [vcA]
 try simp only [vcB]
 try simp only [vcC]
 have hR:=Z0j D 3
 have tr:∀{n:Nat} (i:Nat),i<n->True:=fun _ _=>trivial
 refine ⟨tr,tr,tr,D,Z4b hL,ho,fun k=> ?_,fun k=> ?_⟩
 all_goals rw [WD] at k
 ·have hj:¬We H D.S o<D.S.length:=by simpa using k
  have e2:S'=D.S:=by rw [hS,Z2k,if_neg hj]
  rw [e2,he,Z7v,if_neg hj]
  exact ⟨rfl,J2 _,rfl,(hR _).1,rfl,(hR _).2.1,(hR _).2.2⟩
 ·have hj:We H D.S o<D.S.length:=by simpa using k
  rw [<-hx]
  refine ⟨rfl,(hR _).1,(hR _).2.1,(hR _).2.2,hL,fun i hi _=>⟨fun hn=> ?_,fun h=>h,fun h=>h⟩⟩
  have e2:S'=WC (fun y=> !(y.v==x.v)) D.S i:=by rw [hS,Z2k,if_pos hj,<-hx,hn,Z48]
  rw [<-e2,he,Z7v,if_pos hj]
  exact ⟨rfl,J2 _,rfl,(hR _).1,rfl,Zj Ye fun _ _=>rfl,(hR _).2.2⟩
def ZiB (h:Z7) (D:Zb) (S':List H32) (a b c:Nat):List (Nat×Blk):=(a,.rows 66 D.T.length (tiR D.T))::(h.next,.rows 32 S'.length (seR S'))::(c,.rows 98 D.Q.length (quR D.Q))::Zy (Zy (Zy h.bs a) b) c
theorem ZdT {h:Z7} {g:FuncId} (hl:Z2n h args K0) (hK:∀D a b c az,ZP D->K0 D a b c az->∃S' ex,(∀σ d,mvL σ d ex=some ex)/\Spec PP g az ⟨3,dcB D⟩ (.ret (.tuple (slS 3 S' D 0 2::ex))) 4 [(0,.rows 66 D.T.length (tiR D.T)),(3,.rows 32 S'.length (seR S')),(2,.rows 98 D.Q.length (quR D.Q))]/\K (.ret (.tuple (slS h.next S' D a c::ex))) ⟨h.next+1,ZiB h D S' a b c⟩):Zi PP g args h K:=by
 unfold Z2n at hl
 split at hl
 ·refine Spec.fsumm hl fun Bs a hlen hK0=> ?_
  split at hK0
  ·obtain ⟨D,⟨⟨rfl,rfl⟩,⟨rfl,rfl⟩,⟨rfl,rfl⟩,hL⟩,hK0⟩:=hK0
   obtain ⟨S',ex,hex,hs,hK⟩:=hK D _ _ _ _ hL hK0
   exact ⟨_,_,_,_,_,hs,by simp,.ret _ _ (by simp only [mvV,mvL,hex];rfl),.cons _ _ _ _ _ _ rfl (.rows _ _ _ (fun i _=>ZX.p _)) (.cons _ _ _ _ _ _ rfl (.rows _ _ _ (fun i _=>Ye.p _)) (.cons _ _ _ _ _ _ rfl (.rows _ _ _ (fun i _=>Y8.p _)) .nil)),hK⟩
  ·exact hK0.elim
 ·exact hl.elim
def Zhu (H:LI->LI):ZS:=fun args h K=>Z2n h args fun D a b c az=>match az with
 | [.agg [.nslice ⟨0,0,66,0,0⟩ 66 n1 n2,.nslice ⟨1,0,32,0,0⟩ 32 n3 n4,.nslice ⟨2,0,98,0,0⟩ 98 n5 n6],.agg [.arr .u8 32 o]]=>(n1=D.T.length/\n2=D.T.length/\n3=D.S.length/\n4=D.S.length/\n5=D.Q.length/\n6=D.Q.length)/\o.length=32/\K (.ret (.tuple [slS h.next (Z2k H D.S o) D a c,.int .i64 (Z7v H D.S o)])) ⟨h.next+1,ZiB h D (Z2k H D.S o) a b c⟩
 | _=>False
theorem ZdU (args:List AV) (h:Z7) (K:KO) (hl:Zhu Yj args h K):Zi PP 28 args h K:=by
 refine ZdT hl fun D a b c az hL ha=> ?_
 split at ha
 ·obtain ⟨⟨rfl,rfl,rfl,rfl,rfl,rfl⟩,ho,hK⟩:=ha
  exact ⟨_,_,fun _ _=>rfl,.evM (ZdS D _) (ZlT Yj D _ _ _ _ hL ho rfl rfl rfl),hK⟩
 ·exact ha.elim
def slQ (nx:Nat) (Q':List Zs) (D:Zb) (a b:Nat):AV:=.agg [.nslice ⟨a,0,66,0,0⟩ 66 D.T.length D.T.length,.nslice ⟨b,0,32,0,0⟩ 32 D.S.length D.S.length,.nslice ⟨nx,0,98,0,0⟩ 98 Q'.length Q'.length]
noncomputable def Zhv (D:Zb) (o:LI) (x:H32):Zf:=(G0.withP 38 Z7G).withL 26 0 (goM 3 (Zgd D o x [] 0) (ZP D/\o.length=32) (Yx 0 D.Q.length 9 (fun i=>i<D.Q.length) (fun i=>i=D.Q.length) (fun _=>False) (fun _=>False) (fun i=>Zkh D x (WC (fun y=> !(y.hash.v==o)) D.Q i)) (fun _=>dtN) (fun _=>dtN)))
theorem ZdV (D:Zb) (o:LI) (x:H32):(Zhv D o x).Ok:=
 Zf.withL_join (H:=G0) (Zf.withP_ok Zt Z15) (by simp only [VY]) (Zf.withGoM (N:=40) (k:=3) (n:=D.Q.length) (l:=9) (S:=fun i=>Zgd D o x (WC (fun y=> !(y.hash.v==o)) D.Q i) i) Zt (by kernel_rfl) fun hC=>⟨rfl,fun i hi _=>ZlR D o x _ _ i _ _ hC.1 hC.2 hi rfl rfl (fun h=>⟨h,h⟩) fun h=>h⟩)
theorem ZlU (D:Zb) (o:LI) (x:H32) (Q':List Zs) (e:Int) (hL:ZP D) (ho:o.length=32) (hx:x=(D.Q.getD (atQ D.Q o) ZH).secret) (he:e=Z7w D.Q o) (hQ:Q'=Z2m D.Q o):
  evF (Zhv D o x) 40 26 [.agg (dcC D),.agg [.arr .u8 32 o]] ⟨3,dcB D⟩ (Yd 3 (.ret (.tuple [slQ 3 Q' D 0 1,.agg [.arr .u8 32 x.v],.int .i64 e])) 4 [(0,.rows 66 D.T.length (tiR D.T)),(1,.rows 32 D.S.length (seR D.S)),(3,.rows 98 Q'.length (quR Q'))]):=by
 refine @Eq.mpr _ (let c:=D.T.length;let b:=D.S.length;let q:=D.Q;let a:=q.length;let f:=tiR D.T;let d:=seR D.S;let l:=quR q;let g:=decide (c=c);let n:=decide (c<=c);let k:=decide (b=b);let u:=decide (b<=b);let h:=Q'.length;let F:=decide (a=h);let m:=x.v;let t:=[(3,2)];let E:=decide (a=a);let s:=[(7,6),(6,5),(5,8),(4,4),(3,3)];let C:=m=m;let r:=[(3,5)];
 Z5 (0+c<=c) ((∀(i:Nat),i<c->true=true)/\
 Z5 (0+b<=b) ((∀(i:Nat),i<b->true=true)/\
 Z5 (0+a<=a) ((∀(i:Nat),i<a->true=true)/\
 Z5 ((66:Nat)=66/\c=c) (Z5 ((32:Nat)=32/\b=b) (Z5 ((98:Nat)=98/\a=a) (∃(D_1:Zb),
 let p:=D_1.Q;let B:=atQ p o;
 Wp D_1 c (ZL 0 f) b (ZL 0 d) a (ZL 0 l)/\
 o.length=32/\
 Z6 (!Nat.blt B (p.length)) (Z4 g (Z4 n (Z4 k (Z4 u (Z4 F (Z5 (h<=a) (Ze=m/\Z5 (5=e) (Z4 g (Z9 3 t c f f/\Z4 k (Z9 3 t b d d/\Z4 F (Z9 3 t h (quR Q') l/\True))))))))))) (Ze=Ze/\
 (List.getD p B ZH).secret.v=m/\
 o=o/\
 Z4 g (Z4 n (Z4 k (Z4 u (Z4 E (Z5 (a<=a) (Z4 g (Z9 3 s c f f/\
 Z4 k (Z9 3 s b d d/\
 Z4 E (Z9 3 s a l l/\
 (ZP D/\o.length=32)/\
 ∀(i:Nat),
 let A:=WC (fun (y:Zs)=> !y.hash.v==o) q i;let z:=A.length;let w:=decide (z=h);
 i<=a->(∀(j:Nat),j<i->(fun (i:Nat)=>i<a) j)->(i=a->C/\Z4 g (Z4 n (Z4 k (Z4 u (Z4 w (Z5 (h<=z) (C/\Z5 (0=e) (Z4 g (Z9 3 r c f f/\Z4 k (Z9 3 r b d d/\Z4 w (Z9 3 r h (quR Q') (quR A)/\True)))))))))))/\(False->False)/\(False->False)))))))))))))))))) (by kernel_rfl) ?_
 conv=>zeta
 try simp only [vcA]
 try simp only [vcB]
 try simp only [vcC]
 have hR:=Z0j D 3
 have tr:∀{n:Nat} (i:Nat),i<n->True:=fun _ _=>trivial
 refine ⟨tr,tr,tr,D,Z4b hL,ho,fun k=> ?_,fun k=> ?_⟩
 all_goals rw [WD] at k
 ·have hj:¬atQ D.Q o<D.Q.length:=by simpa using k
  have ex:x=h0:=by rw [hx,U0 _ _ (by omega)];rfl
  have e2:Q'=D.Q:=by rw [hQ,Z2m,if_neg hj]
  rw [ex,e2,he,Z7w,if_neg hj]
  exact ⟨rfl,J2 _,rfl,rfl,(hR _).1,(hR _).2.1,rfl,(hR _).2.2⟩
 ·have hj:atQ D.Q o<D.Q.length:=by simpa using k
  rw [<-hx]
  refine ⟨rfl,(hR _).1,(hR _).2.1,(hR _).2.2,⟨hL,ho⟩,fun i hi _=>⟨fun hn=> ?_,fun h=>h,fun h=>h⟩⟩
  have e2:Q'=WC (fun y=> !(y.hash.v==o)) D.Q i:=by rw [hQ,Z2m,if_pos hj,hn,Z48]
  rw [<-e2,he,Z7w,if_pos hj]
  exact ⟨rfl,J2 _,rfl,(hR _).1,(hR _).2.1,rfl,Zj Y8 fun _ _=>rfl⟩
def ZiC (h:Z7) (D:Zb) (Q':List Zs) (a b c:Nat):List (Nat×Blk):=(a,.rows 66 D.T.length (tiR D.T))::(b,.rows 32 D.S.length (seR D.S))::(h.next,.rows 98 Q'.length (quR Q'))::Zy (Zy (Zy h.bs a) b) c
theorem ZdW {h:Z7} {g:FuncId} (hl:Z2n h args K0) (hK:∀D a b c az,ZP D->K0 D a b c az->∃Q' ex,(∀σ d,mvL σ d ex=some ex)/\Spec PP g az ⟨3,dcB D⟩ (.ret (.tuple (slQ 3 Q' D 0 1::ex))) 4 [(0,.rows 66 D.T.length (tiR D.T)),(1,.rows 32 D.S.length (seR D.S)),(3,.rows 98 Q'.length (quR Q'))]/\K (.ret (.tuple (slQ h.next Q' D a b::ex))) ⟨h.next+1,ZiC h D Q' a b c⟩):Zi PP g args h K:=by
 unfold Z2n at hl
 split at hl
 ·refine Spec.fsumm hl fun Bs a hlen hK0=> ?_
  split at hK0
  ·obtain ⟨D,⟨⟨rfl,rfl⟩,⟨rfl,rfl⟩,⟨rfl,rfl⟩,hL⟩,hK0⟩:=hK0
   obtain ⟨Q',ex,hex,hs,hK⟩:=hK D _ _ _ _ hL hK0
   exact ⟨_,_,_,_,_,hs,by simp,.ret _ _ (by simp only [mvV,mvL,hex];rfl),.cons _ _ _ _ _ _ rfl (.rows _ _ _ (fun i _=>ZX.p _)) (.cons _ _ _ _ _ _ rfl (.rows _ _ _ (fun i _=>Ye.p _)) (.cons _ _ _ _ _ _ rfl (.rows _ _ _ (fun i _=>Y8.p _)) .nil)),hK⟩
  ·exact hK0.elim
 ·exact hl.elim
def Zhw:ZS:=fun args h K=>Z2n h args fun D a b c az=>match az with
 | [.agg [.nslice ⟨0,0,66,0,0⟩ 66 n1 n2,.nslice ⟨1,0,32,0,0⟩ 32 n3 n4,.nslice ⟨2,0,98,0,0⟩ 98 n5 n6],.agg [.arr .u8 32 o]]=>(n1=D.T.length/\n2=D.T.length/\n3=D.S.length/\n4=D.S.length/\n5=D.Q.length/\n6=D.Q.length)/\o.length=32/\K (.ret (.tuple [slQ h.next (Z2m D.Q o) D a b,.agg [.arr .u8 32 (D.Q.getD (atQ D.Q o) ZH).secret.v],.int .i64 (Z7w D.Q o)])) ⟨h.next+1,ZiC h D (Z2m D.Q o) a b c⟩
 | _=>False
theorem ZdX (args:List AV) (h:Z7) (K:KO) (hl:Zhw args h K):Zi PP 26 args h K:=by
 refine ZdW hl fun D a b c az hL ha=> ?_
 split at ha
 ·obtain ⟨⟨rfl,rfl,rfl,rfl,rfl,rfl⟩,ho,hK⟩:=ha
  exact ⟨_,_,fun _ _=>rfl,.evM (ZdV D _ _) (ZlU D _ _ _ _ hL ho rfl rfl rfl),hK⟩
 ·exact ha.elim
def Zge (D:Zb) (x:H32) (L:List H32) (b:Bool) (i:Nat):St:=⟨59,[(8,.int .i64 i),(2,pt 3),(3,pt 4),(7,.bool b),(6,.nslice ⟨6,0,32,0,0⟩ 32 L.length L.length),(4,pt 5)],⟨7,(6,.rows 32 L.length (seR L))::(5,Z4C)::(4,.flat (VX x))::(3,.flat (dcC D))::dcB D⟩,[]⟩
def Zki (D:Zb) (x:H32) (L:List H32) (b:Bool):St:=⟨59,[(2,pt 3),(3,pt 4),(7,.bool b),(6,.nslice ⟨6,0,32,0,0⟩ 32 L.length L.length),(4,pt 5)],⟨7,(6,.rows 32 L.length (seR L))::(5,Z4C)::(4,.flat (VX x))::(3,.flat (dcC D))::dcB D⟩,[]⟩
def Zkj (D:Zb):St:=⟨59,[(4,pt 3),(5,.int .i64 0)],⟨4,(3,.flat (dcC D))::dcB D⟩,[]⟩
theorem ZlV (D:Zb) (x:H32) (L L':List H32) (b b':Bool) (i:Nat) (Z1 Z2 Z3:Prop) (hL:ZP D) (hi:i<=D.S.length) (hb:b=Y3 ltS x D.S i) (hl:L=Y4 ltS x D.S i) (hb':b'=Y3 ltS x D.S (i+1)) (hl':L'=Y4 ltS x D.S (i+1)) (h1:i<D.S.length->ZV x.v (D.S.getD i h0).v≠0->Z1) (h2:i=D.S.length->Z2) (h3:i<D.S.length->ZV x.v (D.S.getD i h0).v=0->Z3):
  ZF Z4B 40 22 0 3 (Zge D x L b i) (rdM 3 0 9 (Zge D x L' b' (i+1)) (Zki D x L b) (Zkj D) dtN Z1 Z2 Z3 False):=by
 refine @Eq.mpr _ (let H:=D.S;let a:=H.length;let t:=decide (0<=(↑i:Int)/\(↑i:Int)<(↑a:Int));let p:=0+Int.toNat (↑i:Int);let o:=x.v;let B:=(List.getD H p h0).v;let I:=ZV o B;let d:=D.T.length;let c:=decide (d=d);let A:=decide (d<=d);let l:=decide (a=a);let z:=decide (a<=a);let k:=D.Q.length;let j:=decide (k=k);let y:=decide (k<=k);let G:=[(3,5)];let h:=tiR D.T;let g:=seR H;let f:=quR D.Q;let e:=L.length;let w:=decide (e=e);let m:=e+1;let P:=decide (m*32<=140737488355328);let F:=m+1;let O:=decide (wrap i64 ((↑i:Int)+1)=(↑(i+1):Int));let n:=L'.length;let N:=decide (F=n);let E:=[(4,4),(3,3)];let u:=(5,5)::(6,10)::E;let s:=seR L;let M:=XM [AV.arr u8 32 B] 0 32;let C:=o=o;let K:=decide (m=n);let r:=(5,5)::(6,8)::E;let J:=Z4 w (Z4 P (Z4 O (Z5 (b=b') (Z4 K (Z5 (n<=m) (Z4 K (Z9 3 r n (seR L') (Xd e s M)/\C/\Z4 c (Z4 A (Z4 l (Z4 z (Z4 j (Z4 y (Z4 c (Z9 3 r d h h/\Z4 l (Z9 3 r a g g/\Z4 j (Z9 3 r k f f/\Z1))))))))))))))));let q:=(5,5)::(6,6)::E;
 Z6 (decide ((↑i:Int)<(↑a:Int))) (Z4 t (Z5 (p<a) ((o.length=32/\B.length=32)/\
 Z6 (I==0) (Z4 c (Z4 A (Z4 l (Z4 z (Z4 j (Z4 y (Z4 c (Z9 3 G d h h/\Z4 l (Z9 3 G a g g/\Z4 j (Z9 3 G k f f/\Z3)))))))))) (Z6 (!b) (Z6 (decide (I<0)) (Z4 w (Z4 P (Z4 t (Z5 (p<a) (Z5 (m=m) (Z5 (F*32<=140737488355328) (Z4 O (Z5 (true=b') (Z4 N (Z5 (n<=F) (Z4 N (Z9 3 u n (seR L') (Xd m (Xd e s (XM [AV.arr u8 32 o] 0 32)) M)/\C/\Z4 c (Z4 A (Z4 l (Z4 z (Z4 j (Z4 y (Z4 c (Z9 3 u d h h/\Z4 l (Z9 3 u a g g/\Z4 j (Z9 3 u k f f/\Z1))))))))))))))))))))) (Z4 t (Z5 (p<a) J))) (Z4 t (Z5 (p<a) J)))))) (Z5 (b=b) (Z4 w (Z5 (e<=e) (Z4 w (Z9 3 q e s s/\C/\Z4 c (Z4 A (Z4 l (Z4 z (Z4 j (Z4 y (Z4 c (Z9 3 q d h h/\Z4 l (Z9 3 q a g g/\Z4 j (Z9 3 q k f f/\Z2))))))))))))))) (by kernel_rfl) ?_
 conv=>zeta
 try simp only [vcA]
 try simp only [vcB]
 try simp only [vcC]
 have hR:=Z0j D 3
 have hlim:=hL.s
 have hll:L.length<=D.S.length+1:=by rw [hl];exact XX
 refine ⟨fun hc=> ?_,fun hc=>⟨Zj Ye fun _ _=>rfl,(hR _).1,(hR _).2.1,(hR _).2.2,h2 (by omega)⟩⟩
 have hlt:i<D.S.length:=by omega
 have hw:i64.wrap ((i:Int)+1)=((i+1:Nat):Int):=by rw [w64 (by omega)];omega
 have h1:=h1 hlt
 have hS:=Q1 h0 (lt:=ltS) (x:=x) hlt
 have hB:=WB h0 (lt:=ltS) (x:=x) hlt
 rw [<-hl',<-hl,<-hb] at hS
 rw [<-hb',<-hb] at hB
 have h3:=h3 hlt
 generalize D.S.getD i h0=y at*
 refine ⟨by omega,hlt,⟨x.l,y.l⟩,fun k=>⟨(hR _).1,(hR _).2.1,(hR _).2.2,h3 (by simpa using k)⟩,fun k=> ?_⟩
 have h1:=h1 (by simpa using k)
 refine ⟨fun kb=>⟨fun c=> ?_,fun c=> ?_⟩,fun kb=> ?_⟩
 ·have q:ltS x y=true:=decide_eq_true c
  rw [q] at hS hB
  rw [if_pos (by rw [Bool.and_true];exact kb)] at hS
  have el:L.length+1+1=L'.length:=by rw [hS,J3];rfl
  exact ⟨by omega,by omega,hlt,by omega,hw,by rw [hB,Bool.or_true],el,Jw el.symm,el,Zj Ye fun j hj=>by
   have hj':j<L.length+1+1:=by omega
   rw [hS]
   exact Ui (L:=L) (x:=x) (y:=y) rfl rfl hj',(hR _).1,(hR _).2.1,(hR _).2.2,h1⟩
 ·have q:(!b&&ltS x y)=false/\(b||ltS x y)=b:=by
   have:ltS x y=false:=decide_eq_false c
   rw [this,Bool.and_false,Bool.or_false]
   exact ⟨rfl,rfl⟩
  rw [if_neg (by rw [q.1];decide)] at hS
  have el:L.length+1=L'.length:=by rw [hS,J3];rfl
  exact ⟨by omega,hlt,by omega,hw,by rw [hB,q.2],el,Jw el.symm,el,Zj Ye fun j hj=>by
   have hj':j<L.length+1:=by omega
   rw [hS]
   exact Yc (L:=L) (x:=y) rfl hj',(hR _).1,(hR _).2.1,(hR _).2.2,h1⟩
 ·have q:(!b&&ltS x y)=false/\(b||ltS x y)=b:=by
   have hbt:b=true:=by simpa using kb
   rw [hbt]
   exact ⟨rfl,rfl⟩
  rw [if_neg (by rw [q.1];decide)] at hS
  have el:L.length+1=L'.length:=by rw [hS,J3];rfl
  exact ⟨by omega,hlt,by omega,hw,by rw [hB,q.2],el,Jw el.symm,el,Zj Ye fun j hj=>by
   have hj':j<L.length+1:=by omega
   rw [hS]
   exact Yc (L:=L) (x:=y) rfl hj',(hR _).1,(hR _).2.1,(hR _).2.2,h1⟩
def Zgf (D:Zb) (x:Zs) (L:List Zs) (b:Bool) (i:Nat):St:=⟨81,[(13,.int .i64 i),(3,pt 3),(4,pt 4),(5,pt 5),(12,.bool b),(11,.nslice ⟨7,0,98,0,0⟩ 98 L.length L.length),(6,pt 6)],⟨8,(7,.rows 98 L.length (quR L))::(6,Z4C)::(5,.flat (VX x.secret))::(4,.flat x.ic)::(3,.flat (dcC D))::dcB D⟩,[]⟩
def Zkk (D:Zb) (x:Zs) (L:List Zs) (b:Bool):St:=⟨81,[(3,pt 3),(4,pt 4),(5,pt 5),(12,.bool b),(11,.nslice ⟨7,0,98,0,0⟩ 98 L.length L.length),(6,pt 6)],⟨8,(7,.rows 98 L.length (quR L))::(6,Z4C)::(5,.flat (VX x.secret))::(4,.flat x.ic)::(3,.flat (dcC D))::dcB D⟩,[]⟩
theorem ZlW (D:Zb) (x:Zs) (L L':List Zs) (b b':Bool) (i:Nat) (Z1 Z2:Prop) (hL:ZP D) (hi:i<=D.Q.length) (hb:b=Y3 ltQ x D.Q i) (hl:L=Y4 ltQ x D.Q i) (hb':b'=Y3 ltQ x D.Q (i+1)) (hl':L'=Y4 ltQ x D.Q (i+1)) (h1:i<D.Q.length->Z1) (h2:i=D.Q.length->Z2):
  ZF Z4B 40 24 0 3 (Zgf D x L b i) (rdM 3 0 9 (Zgf D x L' b' (i+1)) (Zkk D x L b) dtN dtN Z1 Z2 False False):=by
 refine @Eq.mpr _ (let R:=D.Q;let a:=R.length;let u:=decide (0<=(↑i:Int)/\(↑i:Int)<(↑a:Int));let q:=0+Int.toNat (↑i:Int);let p:=x.hash.v;let o:=List.getD R q ZH;let z:=o.hash.v;let c:=L.length;let r:=decide (c=c);let f:=c+1;let Z:=decide (f*112<=140737488355328);let P:=f+1;let Y:=decide (wrap i64 ((↑i:Int)+1)=(↑(i+1):Int));let n:=L'.length;let X:=decide (P=n);let O:=[(5,5),(4,4),(3,3)];let y:=(6,6)::(7,11)::O;let w:=quR L;let N:=x.key.v;let M:=x.amount;let K:=x.least;let J:=x.secret.v;let W:=XM [AV.arr u8 32 z,AV.arr u8 32 o.key.v,AV.int i64 o.amount,AV.int i64 o.least,AV.arr u8 32 o.secret.v] 0 98;let I:=J=J;let H:=p=p;let G:=N=N;let F:=decide (M=M);let E:=decide (K=K);let e:=D.T.length;let m:=decide (e=e);let C:=decide (e<=e);let d:=D.S.length;let l:=decide (d=d);let B:=decide (d<=d);let k:=decide (a=a);let A:=decide (a<=a);let j:=tiR D.T;let h:=seR D.S;let g:=quR R;let V:=decide (f=n);let t:=(6,6)::(7,9)::O;let U:=Z4 r (Z4 Z (Z4 Y (Z5 (b=b') (Z4 V (Z5 (n<=f) (Z4 V (Z9 3 t n (quR L') (Xd c w W)/\I/\H/\G/\Z4 F (Z4 E (Z4 m (Z4 C (Z4 l (Z4 B (Z4 k (Z4 A (Z4 m (Z9 3 t e j j/\Z4 l (Z9 3 t d h h/\Z4 k (Z9 3 t a g g/\Z1))))))))))))))))));let s:=(6,6)::(7,7)::O;
 Z6 (decide ((↑i:Int)<(↑a:Int))) (Z6 (!b) (Z4 u (Z5 (q<a) ((p.length=32/\z.length=32)/\Z6 (decide (ZV p z<0)) (Z4 r (Z4 Z (Z4 u (Z5 (q<a) (Z5 (f=f) (Z5 (P*112<=140737488355328) (Z4 Y (Z5 (true=b') (Z4 X (Z5 (n<=P) (Z4 X (Z9 3 y n (quR L') (Xd f (Xd c w (XM [AV.arr u8 32 p,AV.arr u8 32 N,AV.int i64 M,AV.int i64 K,AV.arr u8 32 J] 0 98)) W)/\I/\H/\G/\Z4 F (Z4 E (Z4 m (Z4 C (Z4 l (Z4 B (Z4 k (Z4 A (Z4 m (Z9 3 y e j j/\Z4 l (Z9 3 y d h h/\Z4 k (Z9 3 y a g g/\Z1))))))))))))))))))))))) (Z4 u (Z5 (q<a) U))))) (Z4 u (Z5 (q<a) U))) (Z5 (b=b) (Z4 r (Z5 (c<=c) (Z4 r (Z9 3 s c w w/\I/\H/\G/\Z4 F (Z4 E (Z4 m (Z4 C (Z4 l (Z4 B (Z4 k (Z4 A (Z4 m (Z9 3 s e j j/\Z4 l (Z9 3 s d h h/\Z4 k (Z9 3 s a g g/\Z2))))))))))))))))) (by kernel_rfl) ?_
 conv=>zeta
 try simp only [vcA]
 try simp only [vcB]
 try simp only [vcC]
 have hR:=Z0j D 3
 have hlim:=hL.q
 have hll:L.length<=D.Q.length+1:=by rw [hl];exact XX
 refine ⟨fun hc=> ?_,fun hc=>⟨Zj Y8 fun _ _=>rfl,(hR _).1,(hR _).2.1,(hR _).2.2,h2 (by omega)⟩⟩
 have hlt:i<D.Q.length:=by omega
 have hw:i64.wrap ((i:Int)+1)=((i+1:Nat):Int):=by rw [w64 (by omega)];omega
 have h1:=h1 hlt
 have hS:=Q1 ZH (lt:=ltQ) (x:=x) hlt
 have hB:=WB ZH (lt:=ltQ) (x:=x) hlt
 rw [<-hl',<-hl,<-hb] at hS
 rw [<-hb',<-hb] at hB
 generalize D.Q.getD i ZH=y at*
 refine ⟨fun kb=>⟨by omega,hlt,⟨x.hash.l,y.hash.l⟩,fun c=> ?_,fun c=> ?_⟩,fun kb=> ?_⟩
 ·have q:ltQ x y=true:=decide_eq_true c
  rw [q] at hS hB
  rw [if_pos (by rw [Bool.and_true];exact kb)] at hS
  have el:L.length+1+1=L'.length:=by rw [hS,J3];rfl
  exact ⟨by omega,by omega,hlt,by omega,hw,by rw [hB,Bool.or_true],el,Jw el.symm,el,Zj Y8 fun j hj=>by
   have hj':j<L.length+1+1:=by omega
   rw [hS]
   exact Ui (L:=L) (x:=x) (y:=y) rfl rfl hj',(hR _).1,(hR _).2.1,(hR _).2.2,h1⟩
 ·have q:(!b&&ltQ x y)=false/\(b||ltQ x y)=b:=by
   have:ltQ x y=false:=decide_eq_false c
   rw [this,Bool.and_false,Bool.or_false]
   exact ⟨rfl,rfl⟩
  rw [if_neg (by rw [q.1];decide)] at hS
  have el:L.length+1=L'.length:=by rw [hS,J3];rfl
  exact ⟨by omega,hlt,by omega,hw,by rw [hB,q.2],el,Jw el.symm,el,Zj Y8 fun j hj=>by
   have hj':j<L.length+1:=by omega
   rw [hS]
   exact Yc (L:=L) (x:=y) rfl hj',(hR _).1,(hR _).2.1,(hR _).2.2,h1⟩
 ·have q:(!b&&ltQ x y)=false/\(b||ltQ x y)=b:=by
   have hbt:b=true:=by simpa using kb
   rw [hbt]
   exact ⟨rfl,rfl⟩
  rw [if_neg (by rw [q.1];decide)] at hS
  have el:L.length+1=L'.length:=by rw [hS,J3];rfl
  exact ⟨by omega,hlt,by omega,hw,by rw [hB,q.2],el,Jw el.symm,el,Zj Y8 fun j hj=>by
   have hj':j<L.length+1:=by omega
   rw [hS]
   exact Yc (L:=L) (x:=y) rfl hj',(hR _).1,(hR _).2.1,(hR _).2.2,h1⟩
noncomputable def Zhx (D:Zb) (x:H32):Zf:=Z4B.withL 22 0 (goM 3 (Zge D x [] false 0) (ZP D) (Yx 0 D.S.length 9 (fun i=>ZV x.v (D.S.getD i h0).v≠0) (fun i=>i=D.S.length) (fun i=>i<D.S.length/\ZV x.v (D.S.getD i h0).v=0) (fun _=>False) (fun i=>Zki D x (Y4 ltS x D.S i) (Y3 ltS x D.S i)) (fun _=>Zkj D) (fun _=>dtN)))
theorem ZdY (D:Zb) (x:H32):(Zhx D x).Ok:=
 Zf.withGoM (N:=40) (k:=3) (n:=D.S.length) (l:=9) (S:=fun i=>Zge D x (Y4 ltS x D.S i) (Y3 ltS x D.S i) i) Z2G (by kernel_rfl) fun hC=>⟨rfl,fun i hi _=>ZlV D x _ _ _ _ i _ _ _ hC hi rfl rfl rfl rfl (fun h1 h2=>⟨h2,h1⟩) (fun h=>h) fun h1 h2=>⟨h1,h2⟩⟩
theorem ZlX (D:Zb) (x:H32) (S':List H32) (e:Int) (hL:ZP D) (he:e=Zdq D.S x) (hS:S'=Z1A D.S x):
  evF (Zhx D x) 40 22 [.agg (dcC D),.agg (VX x)] ⟨3,dcB D⟩ (Yd 3 (.ret (.tuple [slS 3 S' D 0 2,.int .i64 e])) 4 [(0,.rows 66 D.T.length (tiR D.T)),(3,.rows 32 S'.length (seR S')),(2,.rows 98 D.Q.length (quR D.Q))]):=by
 refine @Eq.mpr _ (let p:=x.v;let g:=D.T.length;let c:=decide (g=g);let n:=decide (g<=g);let m:=D.S;let a:=m.length;let A:=decide (a=a);let f:=D.Q.length;let b:=decide (f=f);let o:=decide (f<=f);let z:=[(5,5),(4,4),(3,3)];let k:=tiR D.T;let y:=seR m;let h:=quR D.Q;let J:=decide ((↑a:Int)>=64);let d:=S'.length;let w:=decide (a=d);let I:=decide (d<=a);let u:=[(3,1)];let H:=Z4 c (Z9 3 u g k k/\Z4 w (Z9 3 u d (seR S') y/\Z4 b (Z9 3 u f h h/\True)));let G:=Z4 c (Z4 n (Z4 w (Z4 I (Z4 b (Z4 o (Z5 (3=e) H))))));let t:=decide (0=e);let s:=[(3,8)];let r:=[(3,6)];
 p=p/\
 Z4 c (Z4 n (Z4 A (Z5 (a<=a) (Z4 b (Z4 o (Z4 c (Z9 3 z g k k/\
 Z4 A (Z9 3 z a y y/\
 Z4 b (Z9 3 z f h h/\
 ZP D/\
 ∀(i:Nat),
 let F:=Y4 ltS x m i;let l:=F.length;let q:=l+1;let E:=decide (q=d);let C:=seR F;let B:=decide (l=d);
 i<=a->
 (∀(j:Nat),j<i->(fun (i:Nat)=>ZV p (List.getD m i h0).v≠0) j)->
 (i=a->Z6 (!Y3 ltS x m i) (Z5 (l=l) (Z5 (q*32<=140737488355328) (Z6 J G (Z4 c (Z4 n (Z4 E (Z5 (d<=q) (Z4 b (Z4 o (Z4 t (Z4 c (Z9 3 s g k k/\Z4 E (Z9 3 s d (seR S') (Xd l C (XM [AV.arr u8 32 p] 0 32))/\Z4 b (Z9 3 s f h h/\True)))))))))))))) (Z6 J G (Z4 c (Z4 n (Z4 B (Z5 (d<=l) (Z4 b (Z4 o (Z4 t (Z4 c (Z9 3 r g k k/\Z4 B (Z9 3 r d (seR S') C/\Z4 b (Z9 3 r f h h/\True)))))))))))))/\(i<a/\ZV p (List.getD m i h0).v=0->Z4 c (Z4 n (Z4 w (Z4 I (Z4 b (Z4 o (Z4 t H)))))))/\(False->False))))))))))) (by kernel_rfl) ?_
 conv=>zeta
 try simp only [vcA]
 try simp only [vcB]
 try simp only [vcC]
 have hR:=Z0j D 3
 have hlim:=hL.s
 have hk:∀(k:Int) (τ:Ren),S'=D.S->k=e->D.S.length=S'.length/\S'.length<=D.S.length/\k=e/\Z9 3 τ D.T.length (tiR D.T) (tiR D.T)/\D.S.length=S'.length/\Z9 3 τ S'.length (seR S') (seR D.S)/\Z9 3 τ D.Q.length (quR D.Q) (quR D.Q):=fun k τ h0 hk=>by
  rw [h0]
  exact ⟨rfl,J2 _,hk,(hR _).1,rfl,(hR _).2.1,(hR _).2.2⟩
 refine ⟨(hR _).1,(hR _).2.1,(hR _).2.2,hL,fun i hi hg=>⟨fun hn=> ?_,fun hz=> ?_,fun h=>h⟩⟩
 ·have ha:(D.S.any fun y=>decide (ZV x.v y.v=0))=false:=by
   refine Kt.2 fun y hy=> ?_
   obtain ⟨j,hj,rfl⟩:=Jr hy
   have:=hg j (by omega)
   rw [J5,J8 hj] at this
   have this:ZV x.v D.S[j].v≠0:=this
   rw [decide_eq_false this]
   decide
  have hE:=Z0i (lt:=ltS) (x:=x) (D:=D.S)
  have hll:=XX (lt:=ltS) (x:=x) (D:=D.S) (i:=i)
  rw [<-hn] at hE
  have eD:Z1A D.S x=if 64<=D.S.length then D.S else XV ltS x D.S:=by
   unfold Z1A
   rw [ha]
   rfl
  have eF:Zdq D.S x=if 64<=D.S.length then 3 else 0:=by
   unfold Zdq
   rw [ha]
   rfl
  have no:64<=D.S.length->S'=D.S/\3=e:=fun h=>by
   rw [hS,he,eD,eF,if_pos h,if_pos h]
   exact ⟨rfl,rfl⟩
  have go:¬64<=D.S.length->S'=XV ltS x D.S/\0=e:=fun h=>by
   rw [hS,he,eD,eF,if_neg h,if_neg h]
   exact ⟨rfl,rfl⟩
  refine ⟨fun hb=>⟨by omega,fun l=>hk 3 _ (no (by omega)).1 (no (by omega)).2,fun l=> ?_⟩,fun hb=>⟨fun l=>hk 3 _ (no (by omega)).1 (no (by omega)).2,fun l=> ?_⟩⟩
  ·obtain ⟨g1,g2⟩:=go (by omega)
   rw [if_neg (by intro h;rw [h] at hb;cases hb),<-g1] at hE
   have el:(Y4 ltS x D.S i).length+1=S'.length:=by rw [hE,J3];rfl
   exact ⟨el,Jw el.symm,g2,(hR _).1,el,Zj Ye fun j hj=>by
    have hj':j<(Y4 ltS x D.S i).length+1:=by omega
    rw [hE]
    exact Yc (x:=x) rfl hj',(hR _).2.2⟩
  ·obtain ⟨g1,g2⟩:=go (by omega)
   rw [if_pos (by simpa using hb),<-g1] at hE
   rw [hE]
   exact ⟨rfl,J2 _,g2,(hR _).1,rfl,Zj Ye fun _ _=>rfl,(hR _).2.2⟩
 ·have ha:(D.S.any fun y=>decide (ZV x.v y.v=0))=true:=Kb.2 ⟨D.S.getD i h0,by rw [J5,J8 hz.1];exact JO hz.1,decide_eq_true hz.2⟩
  exact hk 0 _ (by rw [hS,Z1A,if_pos ha]) (by rw [he,Zdq,if_pos ha])
def Zhy:ZS:=fun args h K=>Z2n h args fun D a b c az=>match az with
 | [.agg [.nslice ⟨0,0,66,0,0⟩ 66 n1 n2,.nslice ⟨1,0,32,0,0⟩ 32 n3 n4,.nslice ⟨2,0,98,0,0⟩ 98 n5 n6],.agg [.arr .u8 32 o]]=>∃x:H32,(n1=D.T.length/\n2=D.T.length/\n3=D.S.length/\n4=D.S.length/\n5=D.Q.length/\n6=D.Q.length)/\o=x.v/\K (.ret (.tuple [slS h.next (Z1A D.S x) D a c,.int .i64 (Zdq D.S x)])) ⟨h.next+1,ZiB h D (Z1A D.S x) a b c⟩
 | _=>False
theorem ZdZ (args:List AV) (h:Z7) (K:KO) (hl:Zhy args h K):Zi PP 22 args h K:=by
 refine ZdT hl fun D a b c az hL ha=> ?_
 split at ha
 ·obtain ⟨x,⟨rfl,rfl,rfl,rfl,rfl,rfl⟩,rfl,hK⟩:=ha
  exact ⟨_,_,fun _ _=>rfl,.evM (ZdY D x) (ZlX D x _ _ hL rfl rfl),hK⟩
 ·exact ha.elim
noncomputable def Zhz (H:LI->LI) (B:Nat) (D:Zb) (x:Zs):Zf:=((G0.withP 77 (Z7m H B)).withP 38 Z7G).withL 24 0 (goM 3 (Zgf D x [] false 0) (ZP D) (Yx 0 D.Q.length 9 (fun i=>i<D.Q.length) (fun i=>i=D.Q.length) (fun _=>False) (fun _=>False) (fun i=>Zkk D x (Y4 ltQ x D.Q i) (Y3 ltQ x D.Q i)) (fun _=>dtN) (fun _=>dtN)))
theorem Ze0 (D:Zb) (x:Zs):(Zhz Yj 100000 D x).Ok:=
 Zf.withL_join (H:=Z4B) (Zf.withP_ok Z13 Z15) (by unfold Z4B ZdK;simp only [VY]) (Zf.withGoM (N:=40) (k:=3) (n:=D.Q.length) (l:=9) (S:=fun i=>Zgf D x (Y4 ltQ x D.Q i) (Y3 ltQ x D.Q i) i) Z2G (by kernel_rfl) fun hC=>⟨rfl,fun i hi _=>ZlW D x _ _ _ _ i _ _ hC hi rfl rfl rfl rfl (fun h=>⟨h,h⟩) fun h=>h⟩)
theorem ZlY (H:LI->LI) (B:Nat) (D:Zb) (x:Zs) (Q':List Zs) (e:Int) (hB:B=100000) (hH:∀x,(H x).length=32) (hL:ZP D) (he:e=Wo H D.Q x) (hQ:Q'=Z2l H D.Q x):
  evF (Zhz H B D x) 40 24 [.agg (dcC D),.agg x.ic,.agg (VX x.secret)] ⟨3,dcB D⟩ (Yd 3 (.ret (.tuple [slQ 3 Q' D 0 1,.int .i64 e])) 4 [(0,.rows 66 D.T.length (tiR D.T)),(1,.rows 32 D.S.length (seR D.S)),(3,.rows 98 Q'.length (quR Q'))]):=by
 refine @Eq.mpr _ (let q:=x.amount;let s:=x.least;let r:=x.secret.v;let z:=r.length;let O:=H r;let l:=x.hash.v;let b:=D.T.length;let d:=decide (b=b);let m:=decide (b<=b);let c:=D.S.length;let f:=decide (c=c);let p:=decide (c<=c);let w:=D.Q;let a:=w.length;let k:=Q'.length;let u:=decide (a=k);let J:=decide (k<=a);let I:=[(3,2)];let h:=tiR D.T;let g:=seR D.S;let t:=quR w;let G:=Z4 d (Z9 3 I b h h/\Z4 f (Z9 3 I c g g/\Z4 u (Z9 3 I k (quR Q') t/\True)));let o:=Z4 d (Z4 m (Z4 f (Z4 p (Z4 u (Z4 J (Z5 (2=e) G))))));let F:=x.key.v;let R:=decide (a=a);let E:=[(6,6),(5,5),(4,4),(3,3)];let P:=decide (0=e);let C:=[(3,9)];let A:=[(3,7)];
 Z6 (decide (q>0)) (Z6 (decide (q>=0)) (Z6 (decide (q<=1125899906842624)) (Z6 (decide (s>=1)) (Z6 (decide (s<=1000)) (Z5 (z=32) (Z5 (32=z) (Z5 (z<=B) (Z5 (O.length=32/\l.length=32) (Z6 (!O==l) o (Z5 (0+b<=b) ((∀(i:Nat),i<b->true=true)/\
 Z5 (0+c<=c) ((∀(i:Nat),i<c->true=true)/\
 Z5 (0+a<=a) ((∀(i:Nat),i<a->true=true)/\
 Z5 ((66:Nat)=66/\b=b) (Z5 ((32:Nat)=32/\c=c) (Z5 ((98:Nat)=98/\a=a) (∃(D_1:Zb),
 Wp D_1 b (ZL 0 h) c (ZL 0 g) a (ZL 0 t)/\
 l.length=32/\
 Z6 (Nat.blt (atQ D_1.Q l) (D_1.Q.length)) (Z4 d (Z4 m (Z4 f (Z4 p (Z4 u (Z4 J (Z5 (360=e) G))))))) (Z6 (decide ((↑a:Int)>=16)) (Z4 d (Z4 m (Z4 f (Z4 p (Z4 u (Z4 J (Z5 (3=e) G))))))) (r=r/\
 l=l/\
 F=F/\
 Z5 (q=q) (Z5 (s=s) (Z4 d (Z4 m (Z4 f (Z4 p (Z4 R (Z5 (a<=a) (Z4 d (Z9 3 E b h h/\
 Z4 f (Z9 3 E c g g/\
 Z4 R (Z9 3 E a t t/\
 ZP D/\
 ∀(i:Nat),
 let N:=Y4 ltQ x w i;let n:=N.length;let y:=n+1;let M:=decide (y=k);let L:=quR N;let K:=decide (n=k);
 i<=a->(∀(j:Nat),j<i->(fun (i:Nat)=>i<a) j)->(i=a->Z6 (!Y3 ltQ x w i) (Z5 (n=n) (Z5 (y*112<=140737488355328) (Z4 d (Z4 m (Z4 f (Z4 p (Z4 M (Z5 (k<=y) (Z4 P (Z4 d (Z9 3 C b h h/\Z4 f (Z9 3 C c g g/\Z4 M (Z9 3 C k (quR Q') (Xd n L (XM [AV.arr u8 32 l,AV.arr u8 32 F,AV.int i64 q,AV.int i64 s,AV.arr u8 32 r] 0 98))/\True))))))))))))) (Z4 d (Z4 m (Z4 f (Z4 p (Z4 K (Z5 (k<=n) (Z4 P (Z4 d (Z9 3 A b h h/\Z4 f (Z9 3 A c g g/\Z4 K (Z9 3 A k (quR Q') L/\True))))))))))))/\(False->False)/\(False->False)))))))))))))))))))))))))) o) o) o) o) o) (by kernel_rfl) ?_
 conv=>zeta
 try simp only [vcA]
 try simp only [vcB]
 try simp only [vcC]
 subst hB
 have hR:=Z0j D 3
 have hlim:=hL.q
 have hl:=x.secret.l
 have hk:∀(k:Int) (τ:Ren),k≠0->Wo H D.Q x=k->D.Q.length=Q'.length/\Q'.length<=D.Q.length/\k=e/\Z9 3 τ D.T.length (tiR D.T) (tiR D.T)/\Z9 3 τ D.S.length (seR D.S) (seR D.S)/\D.Q.length=Q'.length/\Z9 3 τ Q'.length (quR Q') (quR D.Q):=fun k τ h0 hk=>by
  have:Q'=D.Q:=by rw [hQ,Z2l,if_neg (by omega)]
  rw [this,he,hk]
  exact ⟨rfl,J2 _,rfl,(hR _).1,(hR _).2.1,rfl,(hR _).2.2⟩
 have k2:¬(XK H x=true)->Wo H D.Q x=2:=fun h=>by rw [Wo,if_neg h]
 have ok:XK H x=true↔(1<=x.amount/\x.amount<=1125899906842624)/\(1<=x.least/\x.least<=1000)/\(H x.secret.v==x.hash.v)=true:=by
  unfold XK
  rw [J1,J1,decide_eq_true_eq,decide_eq_true_eq,and_assoc]
 have k3:XK H x=true->Wo H D.Q x=if atQ D.Q x.hash.v<D.Q.length then 360 else if 16<=D.Q.length then 3 else 0:=fun h=>by rw [Wo,if_pos h]
 have tr:∀{n:Nat} (i:Nat),i<n->True:=fun _ _=>trivial
 refine ⟨fun a0=>⟨fun a1=>⟨fun a2=>⟨fun b0=>⟨fun b1=>⟨hl,hl.symm,by omega,⟨hH _,x.hash.l⟩,fun c=>hk 2 _ (by decide) (k2 fun h=> ?_),fun c=> ?_⟩,fun b1=>hk 2 _ (by decide) (k2 fun h=> ?_)⟩,fun b0=>hk 2 _ (by decide) (k2 fun h=> ?_)⟩,fun a2=>hk 2 _ (by decide) (k2 fun h=> ?_)⟩,fun a1=>hk 2 _ (by decide) (k2 fun h=> ?_)⟩,fun a0=>hk 2 _ (by decide) (k2 fun h=> ?_)⟩
 ·have:=(ok.1 h).2.2;rw [this] at c;cases c
 rotate_left
 ·have:=ok.1 h;omega
 ·have:=ok.1 h;omega
 ·have:=ok.1 h;omega
 ·have:=ok.1 h;omega
 ·have:=ok.1 h;omega
 have k3:=k3 (ok.2 ⟨⟨by omega,a2⟩,⟨b0,b1⟩,by simpa using c⟩)
 refine ⟨tr,tr,tr,D,Z4b hL,x.hash.l,fun k=> ?_,fun k=> ?_⟩
 ·rw [if_pos (XT k)] at k3
  exact hk 360 _ (by decide) k3
 ·rw [if_neg (fun h=>by rw [YL h] at k;cases k)] at k3
  refine ⟨fun l=>hk 3 _ (by decide) (by rw [k3,if_pos (by omega)]),fun l=>⟨(hR _).1,(hR _).2.1,(hR _).2.2,hL,fun i hi _=>⟨fun hn=> ?_,fun h=>h,fun h=>h⟩⟩⟩
  rw [if_neg (by omega)] at k3
  have hQ:Q'=XV ltQ x D.Q:=by rw [hQ,Z2l,if_pos k3]
  have hE:=Z0i (lt:=ltQ) (x:=x) (D:=D.Q)
  have hll:=XX (lt:=ltQ) (x:=x) (D:=D.Q) (i:=i)
  rw [<-hQ,<-hn] at hE
  refine ⟨fun hb=> ?_,fun hb=> ?_⟩
  ·rw [if_neg (by intro h;rw [h] at hb;cases hb)] at hE
   have el:(Y4 ltQ x D.Q i).length+1=Q'.length:=by rw [hE,J3];rfl
   exact ⟨by omega,el,Jw el.symm,by rw [he,k3],(hR _).1,(hR _).2.1,el,Zj Y8 fun j hj=>by
    have hj':j<(Y4 ltQ x D.Q i).length+1:=by omega
    rw [hE]
    exact Yc (x:=x) rfl hj'⟩
  ·rw [if_pos (by simpa using hb)] at hE
   rw [hE]
   exact ⟨rfl,J2 _,by rw [he,k3],(hR _).1,(hR _).2.1,rfl,Zj Y8 fun _ _=>rfl⟩
def ZhA (H:LI->LI):ZS:=fun args h K=>Z2n h args fun D a b c az=>match az with
 | [.agg [.nslice ⟨0,0,66,0,0⟩ 66 n1 n2,.nslice ⟨1,0,32,0,0⟩ 32 n3 n4,.nslice ⟨2,0,98,0,0⟩ 98 n5 n6],.agg cs,.agg [.arr .u8 32 o]]=>∃x:Zs,(n1=D.T.length/\n2=D.T.length/\n3=D.S.length/\n4=D.S.length/\n5=D.Q.length/\n6=D.Q.length)/\(cs=x.ic/\o=x.secret.v)/\K (.ret (.tuple [slQ h.next (Z2l H D.Q x) D a b,.int .i64 (Wo H D.Q x)])) ⟨h.next+1,ZiC h D (Z2l H D.Q x) a b c⟩
 | _=>False
theorem Ze1 (args:List AV) (h:Z7) (K:KO) (hl:ZhA Yj args h K):Zi PP 24 args h K:=by
 refine ZdW hl fun D a b c az hL ha=> ?_
 split at ha
 ·obtain ⟨x,⟨rfl,rfl,rfl,rfl,rfl,rfl⟩,⟨rfl,rfl⟩,hK⟩:=ha
  exact ⟨_,_,fun _ _=>rfl,.evM (Ze0 D x) (ZlY Yj 100000 D x _ _ rfl Xf hL rfl rfl),hK⟩
 ·exact ha.elim
def abZ (a b c:Int):Bool:=decide (c<=i64.wrap (9223372036854775807-b))&&decide (a>=i64.wrap (c+b))
def enY (A:Int->Int->Int->Bool) (x:Zs) (p:V3) (q:V4) (ht:Int):Int:=if p.amount<x.amount then 32 else if p.amount<q.amount then 32 else if A p.expiry x.least ht=true then (if p.expiry<q.expiry then 33 else 0) else 33
def ZiD (A:Int->Int->Int->Bool):Yk:=fun args _ K=>match args with
 | [.int .i64 a,.int .i64 b,.int .i64 c]=>K (.bool (A a b c))
 | _=>False
theorem ZlZ (a b c M:Int) (r:Bool) (hM:M=9223372036854775807) (hr:r=(decide (c<=i64.wrap (M-b))&&decide (a>=i64.wrap (c+b)))):
  evF G0 20 81 [.int .i64 a,.int .i64 b,.int .i64 c] ⟨0,[]⟩ (XA (fun v=>v=.bool r)):=by
 refine @Eq.mpr _ (Z6 (decide (c<=wrap i64 (9223372036854775807-b))) (AV.bool (decide (a>=wrap i64 (c+b)))=AV.bool r) (AV.bool false=AV.bool r)) (by kernel_rfl) ?_
 try simp only [vcA]
 try simp only [vcB]
 try simp only [vcC]
 rw [<-hM]
 refine ⟨fun h=> ?_,fun h=> ?_⟩
 ·rw [hr,decide_eq_true h,Bool.true_and]
 ·rw [hr,decide_eq_false h,Bool.false_and]
theorem Zgg (args:List AV) (h:Z7) (K:AV->Prop) (hl:ZiD abZ args h K):Zi PP 81 args h fun o h'=>∃v,o=.ret v/\h'=h/\K v:=by
 unfold ZiD at hl
 split at hl
 ·exact X5 Zt rfl (ZlZ _ _ _ _ _ rfl rfl) fun u hu=>by rw [hu];exact hl
 ·exact hl.elim
noncomputable def ZiE (A:Int->Int->Int->Bool):Zf:=G0.withP 81 (ZiD A)
def Zgh (D:Zb) (p:V3) (q:V4) (ht:Int) (i:Nat):St:=⟨57,[(9,.int .i64 i),(4,pt 0),(5,pt 1),(6,pt 2),(3,.int .i64 ht)],⟨3,[(2,.flat q.c),(1,.flat p.c),(0,.flat (dvC D))]⟩,[]⟩
def Zgi:St:=⟨57,[],⟨0,[]⟩,[]⟩
def Zkl (A:Int->Int->Int->Bool) (D:Zb) (p:V3) (q:V4) (ht:Int) (i:Nat):St:=⟨57,[(8,.int .i64 (enY A (D.Q.getD i ZH) p q ht))],⟨0,[]⟩,[]⟩
theorem Zm0 (A:Int->Int->Int->Bool) (D:Zb) (p:V3) (q:V4) (ht:Int) (i:Nat) (Z1 Z2 Z3:Prop) (hL:ZP D) (hi:i<=D.Q.length) (h1:i<D.Q.length->(p.hash.v==(D.Q.getD i ZH).hash.v)=false->Z1) (h2:i=D.Q.length->Z2) (h3:i<D.Q.length->(p.hash.v==(D.Q.getD i ZH).hash.v)=true->Z3):
  ZF (ZiE A) 40 40 0 0 (Zgh D p q ht i) (rdM 0 0 9 (Zgh D p q ht (i+1)) Zgi (Zkl A D p q ht i) Zgi Z1 Z2 Z3 False):=by
 refine @Eq.mpr _ (let e:=D.Q;let b:=e.length;let h:=List.getD e (Int.toNat (↑i:Int)) ZH;let m:=h.hash.v;let a:=p.hash.v;let l:=q.key.v;let k:=q.next.v;let g:=q.amount;let f:=q.expiry;let d:=p.amount;let c:=p.expiry;let B:=p.secret.v;let z:=D.T.length;let y:=decide (z=z);let x:=tiR D.T;let w:=D.S.length;let u:=decide (w=w);let t:=seR D.S;let s:=decide (b=b);let r:=quR e;let j:=enY A (List.getD e i ZH) p q ht;let o:=Z5 (32=j) Z3;let n:=Z5 (33=j) Z3;
 Z6 (decide ((↑i:Int)<(↑b:Int))) (Z5 (0<=(↑i:Int)/\(↑i:Int)<(↑b:Int)) (Z5 (m.length=32/\a.length=32) (Z6 (!m==a) (Z5 (wrap i64 ((↑i:Int)+1)=(↑(i+1):Int)) (Z5 (ht=ht) (l=l/\k=k/\Z5 (g=g) (Z5 (f=f) (Z5 (p.own=p.own) (Z5 (p.id=p.id) (Z5 (d=d) (a=a/\Z5 (c=c) (Z5 (p.stage=p.stage) (Z5 (p.fin=p.fin) (B=B/\Z4 y (x=x/\Z4 y (Z4 u (t=t/\Z4 u (Z4 s (r=r/\Z4 s Z1)))))))))))))))) (Z6 (decide (d<h.amount)) o (Z6 (decide (d<g)) o (Z6 (!A c h.least ht) n (Z6 (decide (c<f)) n (Z5 (0=j) Z3)))))))) Z2) (by kernel_rfl) ?_
 conv=>zeta
 try simp only [vcA]
 try simp only [vcB]
 try simp only [vcC]
 refine ⟨fun hc=> ?_,fun hc=>h2 (by omega)⟩
 have hlt:i<D.Q.length:=by omega
 have hlim:=hL.q
 have hw:i64.wrap ((i:Int)+1)=((i+1:Nat):Int):=by rw [w64 (by omega)];omega
 have h1:=h1 hlt
 have h3:=h3 hlt
 generalize D.Q.getD i ZH=y at*
 have hs:=Z12 p.hash.v y.hash.v
 refine ⟨by omega,⟨y.hash.l,p.hash.l⟩,fun k=>⟨hw,h1 (by rw [hs];simpa using k)⟩,fun k=> ?_⟩
 have h3:=h3 (by rw [hs];simpa using k)
 unfold enY
 refine ⟨fun a=>⟨by rw [if_pos a],h3⟩,fun a=>⟨fun b=>⟨by rw [if_neg a,if_pos b],h3⟩,fun b=>⟨fun c=>⟨?_,h3⟩,fun c=>⟨fun d=>⟨?_,h3⟩,fun d=>⟨?_,h3⟩⟩⟩⟩⟩
 ·rw [if_neg a,if_neg b,if_neg (by intro h;rw [h] at c;cases c)]
 ·rw [if_neg a,if_neg b,if_pos (by simpa using c),if_pos d]
 ·rw [if_neg a,if_neg b,if_pos (by simpa using c),if_neg d]
theorem Zgj:(ZiE abZ).Ok:=Zf.withP_ok Zt Zgg
noncomputable def ZhB (A:Int->Int->Int->Bool) (D:Zb) (p:V3) (q:V4) (ht:Int):Zf:=(ZiE A).withL 40 0 (goM 0 (Zgh D p q ht 0) (ZP D) (Yx 0 D.Q.length 9 (fun i=>(p.hash.v==(D.Q.getD i ZH).hash.v)=false) (fun i=>i=D.Q.length) (fun i=>i<D.Q.length/\(p.hash.v==(D.Q.getD i ZH).hash.v)=true) (fun _=>False) (fun _=>Zgi) (fun i=>Zkl A D p q ht i) (fun _=>Zgi)))
theorem Ze2 (D:Zb) (p:V3) (q:V4) (ht:Int):(ZhB abZ D p q ht).Ok:=
 Zf.withGoM (N:=40) (k:=0) (n:=D.Q.length) (l:=9) (S:=fun i=>Zgh D p q ht i) Zgj (by kernel_rfl) fun hC=>⟨rfl,fun i hi _=>Zm0 abZ D p q ht i _ _ _ hC hi (fun h1 h2=>⟨h2,h1⟩) (fun h=>h) fun h1 h2=>⟨h1,h2⟩⟩
theorem Zm1 (A:Int->Int->Int->Bool) (D:Zb) (p:V3) (q:V4) (ht:Int) (J:Nat) (e:Int) (hL:ZP D) (hJ:J=atQ D.Q p.hash.v) (he:e=if J<D.Q.length then enY A (D.Q.getD J ZH) p q ht else 31):
  evF (ZhB A D p q ht) 40 40 [.agg (dvC D),.agg p.c,.agg q.c,.int .i64 ht] ⟨0,[]⟩ (XA (fun v=>v=.int .i64 e)):=by
 refine @Eq.mpr _ (let s:=q.key.v;let m:=q.next.v;let c:=p.hash.v;let l:=p.secret.v;let k:=D.T.length;let h:=decide (k=k);let g:=tiR D.T;let f:=D.S.length;let d:=decide (f=f);let r:=seR D.S;let b:=D.Q;let a:=b.length;let o:=decide (a=a);let n:=quR b;
 Z5 (ht=ht) (s=s/\m=m/\Z5 (q.amount=q.amount) (Z5 (q.expiry=q.expiry) (Z5 (p.own=p.own) (Z5 (p.id=p.id) (Z5 (p.amount=p.amount) (c=c/\Z5 (p.expiry=p.expiry) (Z5 (p.stage=p.stage) (Z5 (p.fin=p.fin) (l=l/\Z4 h (g=g/\Z4 h (Z4 d (r=r/\Z4 d (Z4 o (n=n/\Z4 o (ZP D/\∀(i:Nat),i<=a->(∀(j:Nat),j<i->(fun (i:Nat)=>(c==(List.getD b i ZH).hash.v)=false) j)->(i=a->AV.int i64 31=AV.int i64 e)/\(i<a/\(c==(List.getD b i ZH).hash.v)=true->AV.int i64 (enY A (List.getD b i ZH) p q ht)=AV.int i64 e)/\(False->False))))))))))))))))) (by kernel_rfl) ?_
 conv=>zeta
 try simp only [vcA]
 try simp only [vcB]
 try simp only [vcC]
 refine ⟨hL,fun i hi hg=>⟨fun h=> ?_,fun h=> ?_,fun h=>h⟩⟩
 ·have hJ:J=D.Q.length:=hJ.trans (U1 h hg)
  rw [he,if_neg (by omega)]
 ·have hJ:J=i:=hJ.trans (Q2 h.1 h.2 hg)
  rw [he,hJ,if_pos h.1]
def Ze3:Yk:=fun args h K=>Zbz h args fun D r=>match r with
 | [.agg cs,.agg ds,.int .i64 _]=>∃(p:V3) (q:V4),(cs=p.c/\ds=q.c)/\∀e,K (.int .i64 e)
 | _=>False
theorem Z7H (args:List AV) (h:Z7) (K:AV->Prop) (hl:Ze3 args h K):Zi PP 40 args h fun o h'=>∃v,o=.ret v/\h'=h/\K v:=by
 refine Z14 hl fun D r hL ha=> ?_
 split at ha
 ·obtain ⟨p,q,⟨rfl,rfl⟩,hK⟩:=ha
  exact ⟨_,Y6.evW6 (Ze2 D p q _) (Zm1 abZ D p q _ _ _ hL rfl rfl),fun _=>rfl,hK _⟩
 ·exact ha.elim
structure ZQ where
 what:Int
 tie:Zk
 secret:H32
 i:Zs
 own:Bool
 p:V3
 q:V4
 ht:Int
def ZQ.c (x:ZQ):List AV:=.int .i64 x.what::(x.tie.c++.arr .u8 32 x.secret.v::(x.i.ic++.bool x.own::(x.p.c++x.q.c++[.int .i64 x.ht])))
def Wq (HH:H32->H32) (x:ZQ):Zs:=⟨cond x.own (HH x.secret) x.i.hash,x.i.key,x.i.amount,x.i.least,x.secret⟩
theorem Zm2 (H2:LI->LI) (B:Nat) (x:ZQ) (h:LI) (hB:B=100000) (hh:h=H2 x.secret.v):
  evF (ZdK H2 B) 40 19 [.agg (({ x with own:=true}:ZQ).c)] ⟨0,[]⟩ (XA (fun v=>v=.agg [.arr .u8 32 h,.arr .u8 32 x.i.key.v,.int .i64 x.i.amount,.int .i64 x.i.least])):=by
 refine @Eq.mpr _ (let a:=x.i;let e:=ZQ.mk x.what x.tie x.secret a true x.p x.q x.ht;let d:=e.secret.v;let c:=d.length;let b:=e.i;
 Z5 (c=32) (Z5 (32=c) (Z5 (c<=B) (AV.agg [AV.arr u8 32 (H2 d),AV.arr u8 32 b.key.v,AV.int i64 b.amount,AV.int i64 b.least]=AV.agg [AV.arr u8 32 h,AV.arr u8 32 a.key.v,AV.int i64 a.amount,AV.int i64 a.least])))) (by kernel_rfl) ?_
 conv=>zeta
 try simp only [vcA]
 try simp only [vcB]
 try simp only [vcC]
 subst hB
 have hl:=x.secret.l
 exact ⟨hl,hl.symm,by omega,by rw [hh]⟩
theorem Zm3 (x:ZQ) :
  evF G0 40 19 [.agg (({ x with own:=false}:ZQ).c)] ⟨0,[]⟩ (XA (fun v=>v=.agg x.i.ic)):=by
 refine @Eq.mpr _ (let a:=(ZQ.mk x.what x.tie x.secret x.i false x.p x.q x.ht).i;
 AV.agg [AV.arr u8 32 a.hash.v,AV.arr u8 32 a.key.v,AV.int i64 a.amount,AV.int i64 a.least]=AV.agg (Zs.ic x.i)) (by kernel_rfl) ?_
 conv=>zeta
 try simp only [vcA]
 try simp only [vcB]
 try simp only [vcC]
 rfl
theorem ZiF (x:H32):∀v∈Yj x.v,0<=v/\v<=255:=fun v hv=>by
 rw [ZfW x.u8 (by rw [x.l];decide)] at hv
 have:=ZfU _ v hv
 unfold U8 at this
 omega
def hhD (x:H32):H32:=⟨Yj x.v,Xf _,ZiF x⟩
structure QP (cs:List AV) (x:ZQ):Prop where
 h:cs=x.c
def Zao (HH:H32->H32):Yk:=fun args _ K=>match args with
 | [.agg cs]=>∃x,QP cs x/\K (.agg (Wq HH x).ic)
 | _=>False
theorem Z7I (args:List AV) (h:Z7) (K:AV->Prop) (hl:Zao hhD args h K):Zi PP 19 args h fun o h'=>∃v,o=.ret v/\h'=h/\K v:=by
 unfold Zao at hl
 split at hl
 ·obtain ⟨⟨w,t,s,i,own,p,q,ht⟩,⟨rfl⟩,hK⟩:=hl
  cases own with
  | true=>exact X5 Z13 rfl (Zm2 Yj 100000 ⟨w,t,s,i,true,p,q,ht⟩ _ rfl rfl) fun u hu=>by rw [hu];exact hK
  | false=>exact X5 Zt rfl (Zm3 ⟨w,t,s,i,false,p,q,ht⟩) fun u hu=>by rw [hu];exact hK
 ·exact hl.elim
noncomputable def Z9d (H H2:LI->LI) (B:Nat) (HH:H32->H32):Zf:=(((((((((((((((((((((((G0.withP 77 (Z7m H2 B)).withF 17 (Zis H)).withF 18 (Zk5 H)).withF 23 (Ziw H)).withF 30 (Zk7 H)).withF 25 (ZdG H)).withF 27 (Zk8 H)).withF 31 (Z5u H)).withF 33 (Z5u H)).withF 35 (Zix H)).withF 37 (Ziy H)).withF 39 (ZdH H)).withF 20 Zhm).withF 21 Zhs).withF 22 Zhy).withF 28 (Zhu H2)).withF 24 (ZhA H2)).withF 26 Zhw).withP 32 Z6p).withP 34 ZdP).withP 36 (Zan H2)).withP 38 Z7G).withP 40 Ze3).withP 19 (Zao HH)
theorem Qt:(Z9d Zh Yj 100000 hhD).Ok:=
 Zf.withP_ok (Zf.withP_ok (Zf.withP_ok (Zf.withP_ok (Zf.withP_ok (Zf.withP_ok (Zf.withF_ok (Zf.withF_ok (Zf.withF_ok (Zf.withF_ok (Zf.withF_ok (Zf.withF_ok (Zf.withF_ok (Zf.withF_ok (Zf.withF_ok (Zf.withF_ok (Zf.withF_ok (Zf.withF_ok (Zf.withF_ok (Zf.withF_ok (Zf.withF_ok (Zf.withF_ok (Zf.withF_ok Z13 (Zag Zh)) (ZfZ Zh)) Zak) Zg2) Z7A) (Zg3 Zh)) (Z7z Zh)) (Zah Zh)) Zal) (Zam Zh)) (Z7B Zh)) ZdJ) ZdR) ZdZ) ZdU) Ze1) ZdX) Z1C) Z7F) Z4c) Z15) Z7H) Z7I
theorem Z4d (h:ZP D):QO D D.T.length (tiR D.T) D.S.length (seR D.S) D.Q.length (quR D.Q):=⟨⟨rfl,rfl⟩,⟨rfl,rfl⟩,⟨rfl,rfl⟩,h⟩
def acB (H:LI->LI) (X D:Zb):List (Nat×Blk):=tbO H X++[(5,.rows 66 D.T.length (tiR D.T)),(6,.rows 32 D.S.length (seR D.S)),(7,.rows 98 D.Q.length (quR D.Q))]
def acC (D:Zb):List AV:=[.nslice ⟨5,0,66,0,0⟩ 66 D.T.length D.T.length,.nslice ⟨6,0,32,0,0⟩ 32 D.S.length D.S.length,.nslice ⟨7,0,98,0,0⟩ 98 D.Q.length D.Q.length]
def acR (D:Zb):AV:=.tuple [.agg [.nslice ⟨8,0,66,0,0⟩ 66 D.T.length D.T.length,.nslice ⟨9,0,32,0,0⟩ 32 D.S.length D.S.length,.nslice ⟨10,0,98,0,0⟩ 98 D.Q.length D.Q.length],.top]
def acO (H:LI->LI) (X D:Zb):List (Nat×Blk):=tbO H X++[(8,.rows 66 D.T.length (tiR D.T)),(9,.rows 32 D.S.length (seR D.S)),(10,.rows 98 D.Q.length (quR D.Q))]
theorem Zm4 (H H2:LI->LI) (B:Nat) (HH:H32->H32) (X D:Zb) (x:ZQ) (hB:B=100000) (hH:∀x,(H2 x).length=32) (hX:X.Lim) (hD:ZP D):
  evF (Z9d H H2 B HH) 40 8 [pt 0,.agg (acC D),.agg (({ x with what:=0}:ZQ).c)] ⟨8,acB H X D⟩ (Yd 8 (.ret (acR ⟨Z0Y D.T x.tie,D.S,D.Q⟩)) 11 (acO H ⟨Wn X.T x.tie,X.S,X.Q⟩ ⟨Z0Y D.T x.tie,D.S,D.Q⟩)):=by
 refine @Eq.mpr _ (let U:=x.tie;let b:=ZQ.mk 0 U x.secret x.i x.own x.p x.q x.ht;let l:=b.tie;let q4:=AV.arr u8 32 l.inn.v;let q5:=AV.int i64 l.inID;let q6:=AV.arr u8 32 l.out.v;let q7:=AV.int i64 l.outID;let j:=b.i;let a:=b.p;let w:=b.q;let P:=D.T;let M:=P.length;let L:=D.S;let K:=L.length;let J:=D.Q;let I:=J.length;let f:=X.T;let r:=f.length;let o:=true=true/\true=true;let n:=X.S;let b0:=n.length;let m:=X.Q;let a9:=m.length;let a8:=tiV f;let G:=Zb.mk (Z0Y P U) L J;let a7:=G.T;let F:=a7.length;let a6:=G.S;let E:=a6.length;let a5:=G.Q;let C:=a5.length;let B:=Zb.mk (Wn f U) n m;let k:=B.T;let A:=k.length;let c:=[(10,7),(9,6),(8,12)];let a4:=tiV k;let z:=B.S;let a3:=z.length;let y:=B.Q;let a2:=y.length;
 ∃(x:ZQ),
 QP [AV.int i64 b.what,q4,q5,q6,q7,AV.arr u8 32 b.secret.v,AV.arr u8 32 j.hash.v,AV.arr u8 32 j.key.v,AV.int i64 j.amount,AV.int i64 j.least,AV.bool b.own,AV.bool a.own,AV.int i64 a.id,AV.int i64 a.amount,AV.arr u8 32 a.hash.v,AV.int i64 a.expiry,AV.int i64 a.stage,AV.int i64 a.fin,AV.arr u8 32 a.secret.v,AV.arr u8 32 w.key.v,AV.arr u8 32 w.next.v,AV.int i64 w.amount,AV.int i64 w.expiry,AV.int i64 b.ht] x/\
 (∀(i:Nat),i<M->true=true)/\
 (∀(i:Nat),i<K->true=true)/\
 (∀(i:Nat),i<I->true=true)/\
 ∃(D:Zb),
 let a1:=M=D.T.length;let e:=D.S.length;let a0:=K=e;let d:=D.Q.length;let Z:=I=d;let h:=decide (e=e);let g:=decide (d=d);let Y:=decide (e=E);let W:=decide (d=C);
 QO D M (tiR P) K (seR L) I (quR J)/\
 ∃(x:Zk),
 let V:=[q4,q5,q6,q7];let b4:=Z0Y D.T x;let u:=b4.length;let t:=decide (u=u);let b3:=decide (u=F);
 (a1/\a1/\a0/\a0/\Z/\Z)/\
 Z7y V x/\
 (∀(i:Nat),i<r->o)/\
 (∀(i:Nat),i<r->o)/\
 (∀(i:Nat),i<b0->o)/\
 (∀(i:Nat),i<a9->o)/\
 ∃(X:Zb),
 YN H X [AV.map (some 1),AV.map (some 2),AV.map (some 3),AV.map (some 4)] r (tkO f) a8 r (tkI f) a8 b0 (skV H n) (seV n) a9 (qkV m) (quV m)/\
 ∃(x:Zk),
 let R:=Zb.mk (Wn X.T x) X.S X.Q;let s:=R.T;let b2:=decide (s.length=A);let b1:=tiV s;let O:=R.S;let N:=R.Q;
 Z7y V x/\Z4 t (Z4 t (Z4 h (Z4 h (Z4 g (Z4 g (Z4 t (Z4 t (Z4 h (Z4 h (Z4 g (Z4 g (Z4 b3 (Z5 (F<=u) (Z4 Y (Z5 (E<=e) (Z4 W (Z5 (C<=d) (Z4 b2 (Z8 8 c A (tkO k) a4 (tkO s) b1/\Z4 b2 (Z8 8 c A (tkI k) a4 (tkI s) b1/\Z5 (O.length=a3) (Z8 8 c a3 (skV H z) (seV z) (skV H O) (seV O)/\Z5 (N.length=a2) (Z8 8 c a2 (qkV y) (quV y) (qkV N) (quV N)/\Z4 b3 (Z9 8 c F (tiR a7) (tiR b4)/\Z4 Y (Z9 8 c E (seR a6) (seR D.S)/\Z4 W (Z9 8 c C (quR a5) (quR D.Q)/\True)))))))))))))))))))))))))) (by kernel_rfl) ?_
 conv=>zeta
 try simp only [vcA]
 try simp only [vcB]
 try simp only [vcC]
 have tr:∀{n:Nat} (i:Nat),i<n->True:=fun _ _=>trivial
 refine ⟨{ x with what:=0},⟨rfl⟩,tr,tr,tr,D,Z4d hD, ?_⟩
 refine ⟨x.tie,⟨rfl,rfl,rfl,rfl,rfl,rfl⟩,⟨rfl⟩,tr,tr,tr,tr,X,Wf H hX,x.tie,⟨rfl⟩, ?_⟩
 repeat' first|apply JH|intro _
 all_goals first
  | rfl
  | exact J2 _
  | exact H32.l _
  | exact ZE (Uo _) fun _ _=>⟨rfl,rfl⟩
  | exact ZE (QN _) fun _ _=>⟨rfl,rfl⟩
  | exact ZE (VW H _) fun _ _=>⟨rfl,rfl⟩
  | exact ZE (Up _) fun _ _=>⟨rfl,rfl⟩
  | exact Zj ZX fun _ _=>rfl
  | exact Zj Ye fun _ _=>rfl
  | exact Zj Y8 fun _ _=>rfl
theorem Zm5 (H H2:LI->LI) (B:Nat) (HH:H32->H32) (X D:Zb) (x:ZQ) (hB:B=100000) (hH:∀x,(H2 x).length=32) (hX:X.Lim) (hD:ZP D):
  evF (Z9d H H2 B HH) 40 8 [pt 0,.agg (acC D),.agg (({ x with what:=1}:ZQ).c)] ⟨8,acB H X D⟩ (Yd 8 (.ret (acR ⟨unD D.T x.tie.out.v x.tie.outID,D.S,D.Q⟩)) 11 (acO H ⟨unP X.T x.tie.out.v x.tie.outID,X.S,X.Q⟩ ⟨unD D.T x.tie.out.v x.tie.outID,D.S,D.Q⟩)):=by
 refine @Eq.mpr _ (let Y:=x.tie;let b:=ZQ.mk 1 Y x.secret x.i x.own x.p x.q x.ht;let r:=b.tie;let d:=r.out.v;let g:=r.outID;let n:=b.i;let a:=b.p;let m:=b.q;let A:=D.T;let W:=A.length;let V:=D.S;let R:=V.length;let M:=D.Q;let L:=M.length;let c2:=d.length=32;let h:=X.T;let w:=h.length;let u:=true=true/\true=true;let t:=X.S;let c1:=t.length;let s:=X.Q;let c0:=s.length;let b9:=tiV h;let b8:=Y.out.v;let b7:=Y.outID;let K:=Zb.mk (unD A b8 b7) V M;let b6:=K.T;let J:=b6.length;let b5:=K.S;let I:=b5.length;let b4:=K.Q;let G:=b4.length;let F:=Zb.mk (unP h b8 b7) t s;let o:=F.T;let E:=o.length;let c:=[(10,7),(9,6),(8,12)];let b3:=tiV o;let C:=F.S;let b2:=C.length;let B:=F.Q;let b1:=B.length;
 ∃(x:ZQ),
 QP [AV.int i64 b.what,AV.arr u8 32 r.inn.v,AV.int i64 r.inID,AV.arr u8 32 d,AV.int i64 g,AV.arr u8 32 b.secret.v,AV.arr u8 32 n.hash.v,AV.arr u8 32 n.key.v,AV.int i64 n.amount,AV.int i64 n.least,AV.bool b.own,AV.bool a.own,AV.int i64 a.id,AV.int i64 a.amount,AV.arr u8 32 a.hash.v,AV.int i64 a.expiry,AV.int i64 a.stage,AV.int i64 a.fin,AV.arr u8 32 a.secret.v,AV.arr u8 32 m.key.v,AV.arr u8 32 m.next.v,AV.int i64 m.amount,AV.int i64 m.expiry,AV.int i64 b.ht] x/\
 (∀(i:Nat),i<W->true=true)/\
 (∀(i:Nat),i<R->true=true)/\
 (∀(i:Nat),i<L->true=true)/\
 ∃(D:Zb),
 let l:=D.T;let b0:=W=l.length;let f:=D.S.length;let a9:=R=f;let e:=D.Q.length;let a8:=L=e;let k:=List.getD l (atO l d g) Zq;let a7:=k.inn.v;let a6:=k.out.v;let a5:=unD l d g;let j:=a5.length;let a4:=decide (j=j);let a3:=decide (f=f);let a2:=decide (e=e);let a1:=decide (j=J);let a0:=decide (f=I);let Z:=decide (e=G);
 QO D W (tiR A) R (seR V) L (quR M)/\
 (b0/\b0/\a9/\a9/\a8/\a8)/\
 c2/\
 (∀(i:Nat),i<w->u)/\
 (∀(i:Nat),i<w->u)/\
 (∀(i:Nat),i<c1->u)/\
 (∀(i:Nat),i<c0->u)/\
 ∃(X:Zb),
 let U:=X.T;let z:=List.getD U (atO U d g) Zq;let c7:=z.inn.v;let c6:=z.out.v;let P:=Zb.mk (unP U d g) X.S X.Q;let y:=P.T;let c5:=decide (y.length=E);let c4:=tiV y;let O:=P.S;let N:=P.Q;let c3:=Z4 a1 (Z5 (J<=j) (Z4 a0 (Z5 (I<=f) (Z4 Z (Z5 (G<=e) (Z4 c5 (Z8 8 c E (tkO o) b3 (tkO y) c4/\Z4 c5 (Z8 8 c E (tkI o) b3 (tkI y) c4/\Z5 (O.length=b2) (Z8 8 c b2 (skV H C) (seV C) (skV H O) (seV O)/\Z5 (N.length=b1) (Z8 8 c b1 (qkV B) (quV B) (qkV N) (quV N)/\Z4 a1 (Z9 8 c J (tiR b6) (tiR a5)/\Z4 a0 (Z9 8 c I (seR b5) (seR D.S)/\Z4 Z (Z9 8 c G (quR b4) (quR D.Q)/\True)))))))))))));
 YN H X [AV.map (some 1),AV.map (some 2),AV.map (some 3),AV.map (some 4)] w (tkO h) b9 w (tkI h) b9 c1 (skV H t) (seV t) c0 (qkV s) (quV s)/\c2/\Z5 (a7.length=32/\c7.length=32) (Z5 (a6.length=32/\c6.length=32) (Z6 (a7==c7&&(k.inID==z.inID&&(a6==c6&&k.outID==z.outID))) (Z4 a4 (Z4 a4 (Z4 a3 (Z4 a3 (Z4 a2 (Z4 a2 c3)))))) c3))) (by kernel_rfl) ?_
 conv=>zeta
 try simp only [vcA]
 try simp only [vcB]
 try simp only [vcC]
 have tr:∀{n:Nat} (i:Nat),i<n->True:=fun _ _=>trivial
 refine ⟨{ x with what:=1},⟨rfl⟩,tr,tr,tr,D,Z4d hD, ?_⟩
 refine ⟨⟨rfl,rfl,rfl,rfl,rfl,rfl⟩,x.tie.out.l,tr,tr,tr,tr,X,Wf H hX,x.tie.out.l, ?_⟩
 repeat' first|apply JH|intro _
 all_goals first
  | rfl
  | exact J2 _
  | exact H32.l _
  | exact ZE (Uo _) fun _ _=>⟨rfl,rfl⟩
  | exact ZE (QN _) fun _ _=>⟨rfl,rfl⟩
  | exact ZE (VW H _) fun _ _=>⟨rfl,rfl⟩
  | exact ZE (Up _) fun _ _=>⟨rfl,rfl⟩
  | exact Zj ZX fun _ _=>rfl
  | exact Zj Ye fun _ _=>rfl
  | exact Zj Y8 fun _ _=>rfl
theorem Zm6 (H H2:LI->LI) (B:Nat) (HH:H32->H32) (X D:Zb) (x:ZQ) (hB:B=100000) (hH:∀x,(H2 x).length=32) (hX:X.Lim) (hD:ZP D):
  evF (Z9d H H2 B HH) 40 8 [pt 0,.agg (acC D),.agg (({ x with what:=2}:ZQ).c)] ⟨8,acB H X D⟩ (Yd 8 (.ret (acR ⟨D.T,Z1A D.S x.secret,D.Q⟩)) 11 (acO H ⟨X.T,Vz H X.S x.secret,X.Q⟩ ⟨D.T,Z1A D.S x.secret,D.Q⟩)):=by
 refine @Eq.mpr _ (let V:=x.secret;let b:=ZQ.mk 2 x.tie V x.i x.own x.p x.q x.ht;let o:=b.tie;let A:=b.secret.v;let m:=b.i;let a:=b.p;let l:=b.q;let z:=D.T;let y:=z.length;let U:=D.S;let N:=U.length;let M:=D.Q;let L:=M.length;let f:=X.T;let u:=f.length;let t:=true=true/\true=true;let s:=X.S;let b2:=s.length;let r:=X.Q;let b1:=r.length;let b0:=tiV f;let K:=Zb.mk z (Z1A U V) M;let a9:=K.T;let J:=a9.length;let a8:=K.S;let I:=a8.length;let a7:=K.Q;let G:=a7.length;let F:=Zb.mk f (Vz H s V) r;let n:=F.T;let E:=n.length;let c:=[(10,7),(9,12),(8,5)];let a6:=tiV n;let C:=F.S;let a5:=C.length;let B:=F.Q;let a4:=B.length;
 ∃(x:ZQ),
 QP [AV.int i64 b.what,AV.arr u8 32 o.inn.v,AV.int i64 o.inID,AV.arr u8 32 o.out.v,AV.int i64 o.outID,AV.arr u8 32 A,AV.arr u8 32 m.hash.v,AV.arr u8 32 m.key.v,AV.int i64 m.amount,AV.int i64 m.least,AV.bool b.own,AV.bool a.own,AV.int i64 a.id,AV.int i64 a.amount,AV.arr u8 32 a.hash.v,AV.int i64 a.expiry,AV.int i64 a.stage,AV.int i64 a.fin,AV.arr u8 32 a.secret.v,AV.arr u8 32 l.key.v,AV.arr u8 32 l.next.v,AV.int i64 l.amount,AV.int i64 l.expiry,AV.int i64 b.ht] x/\
 (∀(i:Nat),i<y->true=true)/\
 (∀(i:Nat),i<N->true=true)/\
 (∀(i:Nat),i<L->true=true)/\
 ∃(D:Zb),
 let e:=D.T.length;let a3:=y=e;let a2:=N=D.S.length;let d:=D.Q.length;let a1:=L=d;let k:=decide (e=e);let j:=decide (d=d);let a0:=decide (e=J);let Z:=decide (d=G);
 QO D y (tiR z) N (seR U) L (quR M)/\
 ∃(x:H32),
 let Y:=Z1A D.S x;let h:=Y.length;let g:=decide (h=h);let W:=decide (h=I);
 (a3/\a3/\a2/\a2/\a1/\a1)/\
 A=x.v/\
 (∀(i:Nat),i<u->t)/\
 (∀(i:Nat),i<u->t)/\
 (∀(i:Nat),i<b2->t)/\
 (∀(i:Nat),i<b1->t)/\
 ∃(X:Zb),
 YN H X [AV.map (some 1),AV.map (some 2),AV.map (some 3),AV.map (some 4)] u (tkO f) b0 u (tkI f) b0 b2 (skV H s) (seV s) b1 (qkV r) (quV r)/\
 ∃(x:H32),
 let R:=Zb.mk X.T (Vz H X.S x) X.Q;let w:=R.T;let b4:=decide (w.length=E);let b3:=tiV w;let P:=R.S;let O:=R.Q;
 A=x.v/\Z4 k (Z4 k (Z4 g (Z4 g (Z4 j (Z4 j (Z4 k (Z4 k (Z4 g (Z4 g (Z4 j (Z4 j (Z4 a0 (Z5 (J<=e) (Z4 W (Z5 (I<=h) (Z4 Z (Z5 (G<=d) (Z4 b4 (Z8 8 c E (tkO n) a6 (tkO w) b3/\Z4 b4 (Z8 8 c E (tkI n) a6 (tkI w) b3/\Z5 (P.length=a5) (Z8 8 c a5 (skV H C) (seV C) (skV H P) (seV P)/\Z5 (O.length=a4) (Z8 8 c a4 (qkV B) (quV B) (qkV O) (quV O)/\Z4 a0 (Z9 8 c J (tiR a9) (tiR D.T)/\Z4 W (Z9 8 c I (seR a8) (seR Y)/\Z4 Z (Z9 8 c G (quR a7) (quR D.Q)/\True)))))))))))))))))))))))))) (by kernel_rfl) ?_
 conv=>zeta
 try simp only [vcA]
 try simp only [vcB]
 try simp only [vcC]
 have tr:∀{n:Nat} (i:Nat),i<n->True:=fun _ _=>trivial
 refine ⟨{ x with what:=2},⟨rfl⟩,tr,tr,tr,D,Z4d hD, ?_⟩
 refine ⟨x.secret,⟨rfl,rfl,rfl,rfl,rfl,rfl⟩,rfl,tr,tr,tr,tr,X,Wf H hX,x.secret,rfl, ?_⟩
 repeat' first|apply JH|intro _
 all_goals first
  | rfl
  | exact J2 _
  | exact H32.l _
  | exact ZE (Uo _) fun _ _=>⟨rfl,rfl⟩
  | exact ZE (QN _) fun _ _=>⟨rfl,rfl⟩
  | exact ZE (VW H _) fun _ _=>⟨rfl,rfl⟩
  | exact ZE (Up _) fun _ _=>⟨rfl,rfl⟩
  | exact Zj ZX fun _ _=>rfl
  | exact Zj Ye fun _ _=>rfl
  | exact Zj Y8 fun _ _=>rfl
theorem Zm7 (H H2:LI->LI) (B:Nat) (HH:H32->H32) (X D:Zb) (x:ZQ) (hB:B=100000) (hH:∀x,(H2 x).length=32) (hX:X.Lim) (hD:ZP D):
  evF (Z9d H H2 B HH) 40 8 [pt 0,.agg (acC D),.agg (({ x with what:=3}:ZQ).c)] ⟨8,acB H X D⟩ (Yd 8 (.ret (acR ⟨D.T,D.S,Z2l H2 D.Q (Wq HH x)⟩)) 11 (acO H ⟨X.T,X.S,VA H X.Q (Wq HH x)⟩ ⟨D.T,D.S,Z2l H2 D.Q (Wq HH x)⟩)):=by
 refine @Eq.mpr _ (let b:=ZQ.mk 3 x.tie x.secret x.i x.own x.p x.q x.ht;let r:=b.tie;let G:=b.secret.v;let n:=b.i;let a:=b.p;let m:=b.q;let B:=D.T;let A:=B.length;let z:=D.S;let V:=z.length;let O:=D.Q;let N:=O.length;let f:=X.T;let w:=f.length;let u:=true=true/\true=true;let t:=X.S;let b3:=t.length;let s:=X.Q;let b2:=s.length;let b1:=tiV f;let M:=Zb.mk B z (Z2l H2 O (Wq HH x));let b0:=M.T;let L:=b0.length;let a9:=M.S;let K:=a9.length;let a8:=M.Q;let J:=a8.length;let I:=Zb.mk f t (VA H s (Wq HH x));let o:=I.T;let F:=o.length;let c:=[(10,12),(9,6),(8,5)];let a7:=tiV o;let E:=I.S;let a6:=E.length;let C:=I.Q;let a5:=C.length;
 ∃(x:ZQ),
 let l:=Wq HH x;
 QP [AV.int i64 b.what,AV.arr u8 32 r.inn.v,AV.int i64 r.inID,AV.arr u8 32 r.out.v,AV.int i64 r.outID,AV.arr u8 32 G,AV.arr u8 32 n.hash.v,AV.arr u8 32 n.key.v,AV.int i64 n.amount,AV.int i64 n.least,AV.bool b.own,AV.bool a.own,AV.int i64 a.id,AV.int i64 a.amount,AV.arr u8 32 a.hash.v,AV.int i64 a.expiry,AV.int i64 a.stage,AV.int i64 a.fin,AV.arr u8 32 a.secret.v,AV.arr u8 32 m.key.v,AV.arr u8 32 m.next.v,AV.int i64 m.amount,AV.int i64 m.expiry,AV.int i64 b.ht] x/\
 (∀(i:Nat),i<A->true=true)/\
 (∀(i:Nat),i<V->true=true)/\
 (∀(i:Nat),i<N->true=true)/\
 ∃(D:Zb),
 let e:=D.T.length;let a4:=A=e;let d:=D.S.length;let a3:=V=d;let a2:=N=D.Q.length;let k:=decide (e=e);let j:=decide (d=d);let a1:=decide (e=L);let a0:=decide (d=K);
 QO D A (tiR B) V (seR z) N (quR O)/\
 ∃(x:Zs),
 let Z:=[AV.arr u8 32 l.hash.v,AV.arr u8 32 l.key.v,AV.int i64 l.amount,AV.int i64 l.least];let Y:=Z2l H2 D.Q x;let h:=Y.length;let g:=decide (h=h);let W:=decide (h=J);
 (a4/\a4/\a3/\a3/\a2/\a2)/\
 (Z=Zs.ic x/\G=x.secret.v)/\
 (∀(i:Nat),i<w->u)/\
 (∀(i:Nat),i<w->u)/\
 (∀(i:Nat),i<b3->u)/\
 (∀(i:Nat),i<b2->u)/\
 ∃(X:Zb),
 YN H X [AV.map (some 1),AV.map (some 2),AV.map (some 3),AV.map (some 4)] w (tkO f) b1 w (tkI f) b1 b3 (skV H t) (seV t) b2 (qkV s) (quV s)/\
 ∃(q:Zs),
 let U:=Zb.mk X.T X.S (VA H X.Q q);let y:=U.T;let b5:=decide (y.length=F);let b4:=tiV y;let R:=U.S;let P:=U.Q;
 (Z=Zs.ic q/\G=q.secret.v)/\Z4 k (Z4 k (Z4 j (Z4 j (Z4 g (Z4 g (Z4 k (Z4 k (Z4 j (Z4 j (Z4 g (Z4 g (Z4 a1 (Z5 (L<=e) (Z4 a0 (Z5 (K<=d) (Z4 W (Z5 (J<=h) (Z4 b5 (Z8 8 c F (tkO o) a7 (tkO y) b4/\Z4 b5 (Z8 8 c F (tkI o) a7 (tkI y) b4/\Z5 (R.length=a6) (Z8 8 c a6 (skV H E) (seV E) (skV H R) (seV R)/\Z5 (P.length=a5) (Z8 8 c a5 (qkV C) (quV C) (qkV P) (quV P)/\Z4 a1 (Z9 8 c L (tiR b0) (tiR D.T)/\Z4 a0 (Z9 8 c K (seR a9) (seR D.S)/\Z4 W (Z9 8 c J (quR a8) (quR Y)/\True)))))))))))))))))))))))))) (by kernel_rfl) ?_
 conv=>zeta
 try simp only [vcA]
 try simp only [vcB]
 try simp only [vcC]
 have tr:∀{n:Nat} (i:Nat),i<n->True:=fun _ _=>trivial
 refine ⟨{ x with what:=3},⟨rfl⟩,tr,tr,tr,D,Z4d hD, ?_⟩
 refine ⟨Wq HH x,⟨rfl,rfl,rfl,rfl,rfl,rfl⟩,⟨rfl,rfl⟩,tr,tr,tr,tr,X,Wf H hX,Wq HH x,⟨rfl,rfl⟩, ?_⟩
 repeat' first|apply JH|intro _
 all_goals first
  | rfl
  | exact J2 _
  | exact H32.l _
  | exact ZE (Uo _) fun _ _=>⟨rfl,rfl⟩
  | exact ZE (QN _) fun _ _=>⟨rfl,rfl⟩
  | exact ZE (VW H _) fun _ _=>⟨rfl,rfl⟩
  | exact ZE (Up _) fun _ _=>⟨rfl,rfl⟩
  | exact Zj ZX fun _ _=>rfl
  | exact Zj Ye fun _ _=>rfl
  | exact Zj Y8 fun _ _=>rfl
theorem Zm8 (H H2:LI->LI) (B:Nat) (HH:H32->H32) (X D:Zb) (x:ZQ) (hB:B=100000) (hH:∀x,(H2 x).length=32) (hX:X.Lim) (hD:ZP D):
  evF (Z9d H H2 B HH) 40 8 [pt 0,.agg (acC D),.agg (({ x with what:=4}:ZQ).c)] ⟨8,acB H X D⟩ (Yd 8 (.ret (acR ⟨D.T,D.S,Z2m D.Q (Wq HH x).hash.v⟩)) 11 (acO H ⟨X.T,X.S,Z4A X.Q (Wq HH x).hash.v⟩ ⟨D.T,D.S,Z2m D.Q (Wq HH x).hash.v⟩)):=by
 refine @Eq.mpr _ (let b:=ZQ.mk 4 x.tie x.secret x.i x.own x.p x.q x.ht;let n:=b.tie;let l:=b.i;let a:=b.p;let k:=b.q;let A:=D.T;let z:=A.length;let y:=D.S;let w:=y.length;let R:=D.Q;let N:=R.length;let g:=X.T;let t:=g.length;let s:=true=true/\true=true;let r:=X.S;let b6:=r.length;let o:=X.Q;let b5:=o.length;let b4:=tiV g;let b3:=(Wq HH x).hash.v;let K:=Zb.mk A y (Z2m R b3);let b2:=K.T;let J:=b2.length;let b1:=K.S;let I:=b1.length;let b0:=K.Q;let G:=b0.length;let F:=Zb.mk g r (Z4A o b3);let m:=F.T;let E:=m.length;let c:=[(10,12),(9,6),(8,5)];let a9:=tiV m;let C:=F.S;let a8:=C.length;let B:=F.Q;let a7:=B.length;
 ∃(x:ZQ),
 let f:=(Wq HH x).hash.v;let a6:=f.length=32;
 QP [AV.int i64 b.what,AV.arr u8 32 n.inn.v,AV.int i64 n.inID,AV.arr u8 32 n.out.v,AV.int i64 n.outID,AV.arr u8 32 b.secret.v,AV.arr u8 32 l.hash.v,AV.arr u8 32 l.key.v,AV.int i64 l.amount,AV.int i64 l.least,AV.bool b.own,AV.bool a.own,AV.int i64 a.id,AV.int i64 a.amount,AV.arr u8 32 a.hash.v,AV.int i64 a.expiry,AV.int i64 a.stage,AV.int i64 a.fin,AV.arr u8 32 a.secret.v,AV.arr u8 32 k.key.v,AV.arr u8 32 k.next.v,AV.int i64 k.amount,AV.int i64 k.expiry,AV.int i64 b.ht] x/\
 (∀(i:Nat),i<z->true=true)/\
 (∀(i:Nat),i<w->true=true)/\
 (∀(i:Nat),i<N->true=true)/\
 ∃(D:Zb),
 let e:=D.T.length;let a5:=z=e;let d:=D.S.length;let a4:=w=d;let j:=D.Q;let a3:=N=j.length;let a2:=(List.getD j (atQ j f) ZH).secret.v;let a1:=decide (e=e);let a0:=decide (d=d);let Z:=Z2m j f;let h:=Z.length;let Y:=decide (h=h);let W:=decide (e=J);let V:=decide (d=I);let U:=decide (h=G);
 QO D z (tiR A) w (seR y) N (quR R)/\
 (a5/\a5/\a4/\a4/\a3/\a3)/\
 a6/\
 (∀(i:Nat),i<t->s)/\
 (∀(i:Nat),i<t->s)/\
 (∀(i:Nat),i<b6->s)/\
 (∀(i:Nat),i<b5->s)/\
 ∃(X:Zb),
 let P:=X.Q;let c0:=(List.getD P (atQ P f) ZH).secret.v;let O:=Zb.mk X.T X.S (Z4A P f);let u:=O.T;let b9:=decide (u.length=E);let b8:=tiV u;let M:=O.S;let L:=O.Q;let b7:=Z4 W (Z5 (J<=e) (Z4 V (Z5 (I<=d) (Z4 U (Z5 (G<=h) (Z4 b9 (Z8 8 c E (tkO m) a9 (tkO u) b8/\Z4 b9 (Z8 8 c E (tkI m) a9 (tkI u) b8/\Z5 (M.length=a8) (Z8 8 c a8 (skV H C) (seV C) (skV H M) (seV M)/\Z5 (L.length=a7) (Z8 8 c a7 (qkV B) (quV B) (qkV L) (quV L)/\Z4 W (Z9 8 c J (tiR b2) (tiR D.T)/\Z4 V (Z9 8 c I (seR b1) (seR D.S)/\Z4 U (Z9 8 c G (quR b0) (quR Z)/\True)))))))))))));
 YN H X [AV.map (some 1),AV.map (some 2),AV.map (some 3),AV.map (some 4)] t (tkO g) b4 t (tkI g) b4 b6 (skV H r) (seV r) b5 (qkV o) (quV o)/\a6/\Z5 (a2.length=32/\c0.length=32) (Z6 (a2==c0) (Z4 a1 (Z4 a1 (Z4 a0 (Z4 a0 (Z4 Y (Z4 Y b7)))))) b7)) (by kernel_rfl) ?_
 conv=>zeta
 try simp only [vcA]
 try simp only [vcB]
 try simp only [vcC]
 have tr:∀{n:Nat} (i:Nat),i<n->True:=fun _ _=>trivial
 refine ⟨{ x with what:=4},⟨rfl⟩,tr,tr,tr,D,Z4d hD, ?_⟩
 refine ⟨⟨rfl,rfl,rfl,rfl,rfl,rfl⟩,(Wq HH x).hash.l,tr,tr,tr,tr,X,Wf H hX,(Wq HH x).hash.l, ?_⟩
 repeat' first|apply JH|intro _
 all_goals first
  | rfl
  | exact J2 _
  | exact H32.l _
  | exact ZE (Uo _) fun _ _=>⟨rfl,rfl⟩
  | exact ZE (QN _) fun _ _=>⟨rfl,rfl⟩
  | exact ZE (VW H _) fun _ _=>⟨rfl,rfl⟩
  | exact ZE (Up _) fun _ _=>⟨rfl,rfl⟩
  | exact Zj ZX fun _ _=>rfl
  | exact Zj Ye fun _ _=>rfl
  | exact Zj Y8 fun _ _=>rfl
theorem Zm9 (H H2:LI->LI) (B:Nat) (HH:H32->H32) (X D:Zb) (x:ZQ) (hB:B=100000) (hH:∀x,(H2 x).length=32) (hX:X.Lim) (hD:ZP D):
  evF (Z9d H H2 B HH) 40 8 [pt 0,.agg (acC D),.agg (({ x with what:=5}:ZQ).c)] ⟨8,acB H X D⟩ (Yd 8 (.ret (acR ⟨D.T,Z2k H2 D.S (H2 x.secret.v),D.Q⟩)) 11 (acO H ⟨X.T,Z4z H X.S (H2 x.secret.v),X.Q⟩ ⟨D.T,Z2k H2 D.S (H2 x.secret.v),D.Q⟩)):=by
 refine @Eq.mpr _ (let b:=ZQ.mk 5 x.tie x.secret x.i x.own x.p x.q x.ht;let y:=b.tie;let N:=b.secret.v;let o:=b.i;let a:=b.p;let n:=b.q;let C:=N.length;let q8:=decide (C=32);let q9:=decide (32=C);let c2:=decide (C<=B);let Y:=D.T;let m:=Y.length;let b6:=decide (m=m);let R:=D.S;let l:=R.length;let b5:=decide (l=l);let P:=D.Q;let k:=P.length;let b4:=decide (k=k);let O:=H2 N;let b3:=O.length=32;let j:=X.T;let w:=j.length;let u:=true=true/\true=true;let t:=X.S;let b2:=t.length;let s:=X.Q;let b1:=s.length;let b0:=tiV j;let a9:=H2 x.secret.v;let M:=Zb.mk Y (Z2k H2 R a9) P;let a8:=M.T;let L:=a8.length;let a7:=M.S;let K:=a7.length;let a6:=M.Q;let J:=a6.length;let I:=Zb.mk j (Z4z H t a9) s;let r:=I.T;let G:=r.length;let c:=[(10,7),(9,14),(8,5)];let a5:=tiV r;let F:=I.S;let a4:=F.length;let E:=I.Q;let a3:=E.length;
 ∃(x:ZQ),
 QP [AV.int i64 b.what,AV.arr u8 32 y.inn.v,AV.int i64 y.inID,AV.arr u8 32 y.out.v,AV.int i64 y.outID,AV.arr u8 32 N,AV.arr u8 32 o.hash.v,AV.arr u8 32 o.key.v,AV.int i64 o.amount,AV.int i64 o.least,AV.bool b.own,AV.bool a.own,AV.int i64 a.id,AV.int i64 a.amount,AV.arr u8 32 a.hash.v,AV.int i64 a.expiry,AV.int i64 a.stage,AV.int i64 a.fin,AV.arr u8 32 a.secret.v,AV.arr u8 32 n.key.v,AV.arr u8 32 n.next.v,AV.int i64 n.amount,AV.int i64 n.expiry,AV.int i64 b.ht] x/\
 Z4 q8 (Z4 q9 (Z4 c2 (Z4 b6 (Z4 b6 (Z4 b5 (Z4 b5 (Z4 b4 (Z4 b4 ((∀(i:Nat),i<m->true=true)/\
 (∀(i:Nat),i<l->true=true)/\
 (∀(i:Nat),i<k->true=true)/\
 ∃(D:Zb),
 let h:=D.T.length;let a2:=m=h;let a1:=l=D.S.length;let g:=D.Q.length;let a0:=k=g;let d:=decide (h=h);let Z:=Z2k H2 D.S O;let A:=Z.length;let f:=decide (A=A);let e:=decide (g=g);let c1:=decide (h=L);let c0:=decide (A=K);let b9:=decide (g=J);
 QO D m (tiR Y) l (seR R) k (quR P)/\
 (a2/\a2/\a1/\a1/\a0/\a0)/\
 b3/\
 Z4 q8 (Z4 q9 (Z4 c2 (Z4 d (Z4 d (Z4 f (Z4 f (Z4 e (Z4 e ((∀(i:Nat),i<w->u)/\
 (∀(i:Nat),i<w->u)/\
 (∀(i:Nat),i<b2->u)/\
 (∀(i:Nat),i<b1->u)/\
 ∃(X:Zb),
 let W:=Zb.mk X.T (Z4z H X.S O) X.Q;let z:=W.T;let b8:=decide (z.length=G);let b7:=tiV z;let V:=W.S;let U:=W.Q;
 YN H X [AV.map (some 1),AV.map (some 2),AV.map (some 3),AV.map (some 4)] w (tkO j) b0 w (tkI j) b0 b2 (skV H t) (seV t) b1 (qkV s) (quV s)/\
 b3/\Z4 d (Z4 d (Z4 f (Z4 f (Z4 e (Z4 e (Z4 d (Z4 d (Z4 f (Z4 f (Z4 e (Z4 e (Z4 c1 (Z5 (L<=h) (Z4 c0 (Z5 (K<=A) (Z4 b9 (Z5 (J<=g) (Z4 b8 (Z8 8 c G (tkO r) a5 (tkO z) b7/\Z4 b8 (Z8 8 c G (tkI r) a5 (tkI z) b7/\Z5 (V.length=a4) (Z8 8 c a4 (skV H F) (seV F) (skV H V) (seV V)/\Z5 (U.length=a3) (Z8 8 c a3 (qkV E) (quV E) (qkV U) (quV U)/\Z4 c1 (Z9 8 c L (tiR a8) (tiR D.T)/\Z4 c0 (Z9 8 c K (seR a7) (seR Z)/\Z4 b9 (Z9 8 c J (quR a6) (quR D.Q)/\True)))))))))))))))))))))))))))))))))))))))))))) (by kernel_rfl) ?_
 conv=>zeta
 try simp only [vcA]
 try simp only [vcB]
 try simp only [vcC]
 subst hB
 have hl:=x.secret.l
 have hB:x.secret.v.length<=100000:=by omega
 have tr:∀{n:Nat} (i:Nat),i<n->True:=fun _ _=>trivial
 refine ⟨{ x with what:=5},⟨rfl⟩,hl,hl.symm,hB,tr,tr,tr,D,Z4d hD,⟨rfl,rfl,rfl,rfl,rfl,rfl⟩,hH _,hl,hl.symm,hB,tr,tr,tr,tr,X,Wf H hX,hH _, ?_⟩
 repeat' first|apply JH|intro _
 all_goals first
  | rfl
  | exact J2 _
  | exact H32.l _
  | exact ZE (Uo _) fun _ _=>⟨rfl,rfl⟩
  | exact ZE (QN _) fun _ _=>⟨rfl,rfl⟩
  | exact ZE (VW H _) fun _ _=>⟨rfl,rfl⟩
  | exact ZE (Up _) fun _ _=>⟨rfl,rfl⟩
  | exact Zj ZX fun _ _=>rfl
  | exact Zj Ye fun _ _=>rfl
  | exact Zj Y8 fun _ _=>rfl
def Z1D:ZS:=fun _ _ _=>False
theorem Xg {f:FuncId} (args:List AV) (h:Z7) (K:KO) (hl:Z1D args h K):Zi PP f args h K:=hl.elim
noncomputable def ZhC (H H2:LI->LI) (B:Nat) (HH:H32->H32):Zf:=((((((((((((((((((((((((G0.withP 77 (Z7m H2 B)).withF 17 Z1D).withF 18 Z1D).withF 23 Z1D).withF 30 Z1D).withF 25 Z1D).withF 27 Z1D).withF 31 (Z5u H)).withF 33 (Z5u H)).withF 35 (Zix H)).withF 37 (Ziy H)).withF 39 (ZdH H)).withF 20 Z1D).withF 21 Z1D).withF 22 Z1D).withF 28 Z1D).withF 24 Z1D).withF 26 Z1D).withP 32 Z6p).withP 34 ZdP).withP 36 (Zan H2)).withP 38 Z7G).withP 40 Ze3).withP 19 (Zao HH))
theorem Ze4:(ZhC Zh Yj 100000 hhD).Ok:=
 Zf.withP_ok (Zf.withP_ok (Zf.withP_ok (Zf.withP_ok (Zf.withP_ok (Zf.withP_ok (Zf.withF_ok (Zf.withF_ok (Zf.withF_ok (Zf.withF_ok (Zf.withF_ok (Zf.withF_ok (Zf.withF_ok (Zf.withF_ok (Zf.withF_ok (Zf.withF_ok (Zf.withF_ok (Zf.withF_ok (Zf.withF_ok (Zf.withF_ok (Zf.withF_ok (Zf.withF_ok (Zf.withF_ok Z13 Xg) Xg) Xg) Xg) Xg) Xg) (Z7z Zh)) (Zah Zh)) Zal) (Zam Zh)) (Z7B Zh)) Xg) Xg) Xg) Xg) Xg) Xg) Z1C) Z7F) Z4c) Z15) Z7H) Z7I
theorem Zma (H H2:LI->LI) (B:Nat) (HH:H32->H32) (X D:Zb) (x:ZQ) (hB:B=100000) (hH:∀x,(H2 x).length=32) (hX:X.Lim) (hD:ZP D) (hw:x.what≠0/\x.what≠1/\x.what≠2/\x.what≠3/\x.what≠4/\x.what≠5):
  evF (ZhC H H2 B HH) 40 8 [pt 0,.agg (acC D),.agg x.c] ⟨8,acB H X D⟩ (Yd 8 (.ret (acR D)) 11 (acO H X D)):=by
 refine @Eq.mpr _ (let F:=x.what;let q2:=x.tie;let q3:=q2.inn.v;let q4:=q2.out.v;let q5:=q2.outID;let q6:=x.secret.v;let q7:=x.i;let s:=x.p;let q9:=s.own;let g2:=AV.bool q9;let g1:=s.id;let g0:=AV.int i64 g1;let f9:=s.amount;let f8:=AV.int i64 f9;let f7:=s.hash.v;let n0:=AV.arr u8 32 f7;let f6:=s.expiry;let m9:=AV.int i64 f6;let f3:=s.stage;let m3:=AV.int i64 f3;let f1:=s.fin;let l4:=AV.int i64 f1;let e8:=s.secret.v;let k7:=AV.arr u8 32 e8;let b0:=x.q;let e5:=b0.key.v;let e3:=AV.arr u8 32 e5;let e0:=b0.next.v;let d3:=AV.arr u8 32 e0;let d2:=b0.amount;let d1:=AV.int i64 d2;let c9:=b0.expiry;let c8:=AV.int i64 c9;let c7:=x.ht;let c6:=q6.length;let c5:=decide (c6=32);let c4:=decide (32=c6);let c3:=decide (c6<=B);let g:=D.T.length;let l:=decide (g=g);let f:=D.S.length;let k:=decide (f=f);let d:=D.Q.length;let j:=decide (d=d);let a7:=X.T;let n:=a7.length;let a:=true=true/\true=true;let c2:=X.S;let A:=c2.length;let c1:=X.Q;let z:=c1.length;let N:=[AV.map (some 1),AV.map (some 2),AV.map (some 3),AV.map (some 4)];let a6:=tkO a7;let y:=tiV a7;let a5:=tkI a7;let a4:=skV H c2;let a3:=seV c2;let a2:=qkV c1;let a1:=quV c1;let i0:=q4.length=32;let M:=decide (0+g<=g);let L:=decide (0+f<=f);let K:=decide (0+d<=d);let J:=decide ((66:Nat)=66/\g=g);let I:=decide ((32:Nat)=32/\f=f);let G:=decide ((98:Nat)=98/\d=d);let w:=tiR D.T;let u:=seR D.S;let t:=quR D.Q;let h9:=q3.length=32;let h8:=H2 q6;let h7:=h8.length=32;let h6:=[m9,m3,l4,k7];let h5:=decide (c7=c7);let h4:=e5=e5;let h3:=e0=e0;let h2:=decide (d2=d2);let h1:=decide (c9=c9);let g9:=decide (q9=q9);let g8:=decide (g1=g1);let g7:=decide (f9=f9);let g6:=decide (f6=f6);let g5:=decide (f3=f3);let g4:=decide (f1=f1);let g3:=e8=e8;let c0:=decide (g<=g);let b9:=decide (f<=f);let b8:=decide (d<=d);let m:=[(10,7),(9,6),(8,5)];let b7:=Z4 l (Z9 8 m g w w/\Z4 k (Z9 8 m f u u/\Z4 j (Z9 8 m d t t/\True)));
 ∃(x_1:ZQ),
 let a0:=(Wq HH x_1).hash.v;let m8:=a0.length=32;
 QP [AV.int i64 F,AV.arr u8 32 q3,AV.int i64 q2.inID,AV.arr u8 32 q4,AV.int i64 q5,AV.arr u8 32 q6,AV.arr u8 32 q7.hash.v,AV.arr u8 32 q7.key.v,AV.int i64 q7.amount,AV.int i64 q7.least,AV.bool x.own,g2,g0,f8,n0,m9,m3,l4,k7,e3,d3,d1,c8,AV.int i64 c7] x_1/\
 Z6 (F==0) False (Z6 (F==1) False (Z6 (F==2) False (Z6 (F==3) False (Z6 (F==4) False (Z6 (F==5) (Z4 c5 (Z4 c4 (Z4 c3 (Z4 l (Z4 l (Z4 k (Z4 k (Z4 j (Z6 j False False))))))))) ((∀(i:Nat),i<n->a)/\
 (∀(i:Nat),i<n->a)/\
 (∀(i:Nat),i<A->a)/\
 (∀(i:Nat),i<z->a)/\
 ∃(X:Zb),
 let b6:=X.T;let b5:=b6.length;let f5:=X.S;let m7:=f5.length;let f4:=X.Q;let m6:=f4.length;let m5:=tiV b6;
 YN H X N n a6 y n a5 y A a4 a3 z a2 a1/\
 i0/\
 ∀(x_2:Zk),
 let m4:=x_2.inn.v;let m2:=x_2.out.v;
 ∀(b:Bool),
 Z4 M ((∀(i:Nat),i<g->true=true)/\
 Z4 L ((∀(i:Nat),i<f->true=true)/\
 Z4 K ((∀(i:Nat),i<d->true=true)/\
 Z4 J (Z4 I (Z4 G (∃(D:Zb),
 let f2:=D.T;let m1:=atO f2 q4 q5;let b4:=List.getD f2 m1 Zq;let m0:=b4.inn.v;let l9:=decide (m4.length=32/\m0.length=32);let l8:=b4.out.v;let l7:=decide (m2.length=32/\l8.length=32);let l6:=m4==m0&&(x_2.inID==b4.inID&&(m2==l8&&x_2.outID==b4.outID));let l5:=b==Nat.blt m1 (f2.length);
 Wp D g (ZL 0 w) f (ZL 0 u) d (ZL 0 t)/\
 i0/\
 (∀(i:Nat),i<b5->a)/\
 (∀(i:Nat),i<b5->a)/\
 (∀(i:Nat),i<m7->a)/\
 (∀(i:Nat),i<m6->a)/\
 ∃(X:Zb),
 let b3:=X.T;let b2:=b3.length;let f0:=X.S;let l3:=f0.length;let e9:=X.Q;let l2:=e9.length;let l1:=tiV b3;
 YN H X N b5 (tkO b6) m5 b5 (tkI b6) m5 m7 (skV H f5) (seV f5) m6 (qkV f4) (quV f4)/\
 h9/\
 ∀(x_3:Zk),
 let l0:=x_3.inn.v;let k9:=x_3.out.v;
 ∀(b:Bool),
 Z4 M ((∀(i:Nat),i<g->true=true)/\
 Z4 L ((∀(i:Nat),i<f->true=true)/\
 Z4 K ((∀(i:Nat),i<d->true=true)/\
 Z4 J (Z4 I (Z4 G (∃(D:Zb),
 Wp D g (ZL 0 w) f (ZL 0 u) d (ZL 0 t)/\
 h9/\
 ∀(x_4:Zk),
 let k8:=x_4.inn.v;let k6:=decide (l0.length=32/\k8.length=32);let k5:=x_4.out.v;let k4:=decide (k9.length=32/\k5.length=32);let k3:=l0==k8&&(x_3.inID==x_4.inID&&(k9==k5&&x_3.outID==x_4.outID));
 ∀(b_1:Bool),
 Z4 c5 (Z4 c4 (Z4 c3 ((∀(i:Nat),i<b2->a)/\
 (∀(i:Nat),i<b2->a)/\
 (∀(i:Nat),i<l3->a)/\
 (∀(i:Nat),i<l2->a)/\
 ∃(X:Zb),
 let b1:=X.T;let a9:=b1.length;let e7:=X.S;let k2:=e7.length;let e6:=X.Q;let k1:=e6.length;let k0:=tiV b1;
 YN H X N b2 (tkO b3) l1 b2 (tkI b3) l1 l3 (skV H f0) (seV f0) l2 (qkV e9) (quV e9)/\
 h7/\
 ∀(x_5:H32) (b_2:Bool),
 Z4 c5 (Z4 c4 (Z4 c3 (Z4 l (Z4 l (Z4 k (Z4 k (Z4 j (Z4 j (Z4 M ((∀(i:Nat),i<g->true=true)/\
 Z4 L ((∀(i:Nat),i<f->true=true)/\
 Z4 K ((∀(i:Nat),i<d->true=true)/\
 Z4 J (Z4 I (Z4 G (∃(D:Zb),
 let e4:=D.S;let j9:=We H2 e4 h8;let j8:=(List.getD e4 j9 h0).v;let j7:=decide (x_5.v.length=32/\j8.length=32);let j6:=x_5.v==j8;let j5:=b_2==Nat.blt j9 (e4.length);
 Wp D g (ZL 0 w) f (ZL 0 u) d (ZL 0 t)/\
 h7/\
 (∀(i:Nat),i<a9->a)/\
 (∀(i:Nat),i<a9->a)/\
 (∀(i:Nat),i<k2->a)/\
 (∀(i:Nat),i<k1->a)/\
 ∃(X:Zb),
 let a8:=X.T;let r:=a8.length;let e2:=X.S;let Z:=e2.length;let e1:=X.Q;let Y:=e1.length;let d9:=tkO a8;let O:=tiV a8;let d8:=tkI a8;let d7:=skV H e2;let d6:=seV e2;let d5:=qkV e1;let d4:=quV e1;let j4:=decide (r=n);let h:=Z4 l (Z4 c0 (Z4 k (Z4 b9 (Z4 j (Z4 b8 (Z4 j4 (Z8 8 m n a6 y d9 O/\Z4 j4 (Z8 8 m n a5 y d8 O/\Z5 (Z=A) (Z8 8 m A a4 a3 d7 d6/\Z5 (Y=z) (Z8 8 m z a2 a1 d5 d4/\b7))))))))));
 YN H X N a9 (tkO b1) k0 a9 (tkI b1) k0 k2 (skV H e7) (seV e7) k1 (qkV e6) (quV e6)/\
 m8/\
 ∀(q:Zs),
 let j3:=q.hash.v;let j2:=q.key.v;let j1:=q.secret.v;
 ∀(b_3:Bool),
 Z4 M ((∀(i:Nat),i<g->true=true)/\
 Z4 L ((∀(i:Nat),i<f->true=true)/\
 Z4 K ((∀(i:Nat),i<d->true=true)/\
 Z4 J (Z4 I (Z4 G (∃(D:Zb),
 let d0:=D.Q;let j0:=atQ d0 a0;let W:=List.getD d0 j0 ZH;let i9:=W.hash.v;let i8:=decide (j3.length=32/\i9.length=32);let i7:=W.key.v;let i6:=decide (j2.length=32/\i7.length=32);let i5:=j3==i9&&(j2==i7&&(q.amount==W.amount&&q.least==W.least));let i4:=W.secret.v;let i3:=decide (j1.length=32/\i4.length=32);let i2:=j1==i4;let i1:=b_3==Nat.blt j0 (d0.length);
 Wp D g (ZL 0 w) f (ZL 0 u) d (ZL 0 t)/\
 m8/\
 Z6 x.own (Z4 l9 (Z4 l7 (Z6 l6 (Z6 l5 (Z4 k6 (Z4 k4 (Z6 k3 (Z6 (b==b_1) (Z4 j7 (Z6 j6 (Z6 j5 (Z4 i8 (Z4 i6 (Z6 i5 (Z4 i3 (Z6 i2 (Z6 i1 ((∀(i:Nat),i<r->a)/\
 (∀(i:Nat),i<r->a)/\
 (∀(i:Nat),i<Z->a)/\
 (∀(i:Nat),i<Y->a)/\
 ∃(X:Zb),
 let o:=X.T;let V:=decide (o.length=n);let U:=tiV o;let E:=X.S;let C:=X.Q;
 YN H X N r d9 O r d8 O Z d7 d6 Y d5 d4/\
 ∃(p:V3),
 let R:=g2::g0::f8::AV.arr u8 32 a0::h6;
 ∃(q:V4),
 let P:=[e3,d3,d1,c8];
 (R=V3.c p/\P=V4.c q)/\
 ∀(e:Int),
 Z4 h5 (h4/\
 h3/\
 Z4 h2 (Z4 h1 (Z4 g9 (Z4 g8 (Z4 g7 (a0=a0/\
 Z4 g6 (Z4 g5 (Z4 g4 (g3/\
 Z4 l (Z4 l (Z4 k (Z4 k (Z4 j (Z4 j (Z4 l (Z4 l (Z4 k (Z4 k (Z4 j (Z4 j (Z4 M ((∀(i:Nat),i<g->true=true)/\Z4 L ((∀(i:Nat),i<f->true=true)/\Z4 K ((∀(i:Nat),i<d->true=true)/\Z4 J (Z4 I (Z4 G (∃(D:Zb),Wp D g (ZL 0 w) f (ZL 0 u) d (ZL 0 t)/\∃(p:V3),∃(q:V4),(R=V3.c p/\P=V4.c q)/\∀(e:Int),Z4 l (Z4 c0 (Z4 k (Z4 b9 (Z4 j (Z4 b8 (Z4 V (Z8 8 m n a6 y (tkO o) U/\Z4 V (Z8 8 m n a5 y (tkI o) U/\Z5 (E.length=A) (Z8 8 m A a4 a3 (skV H E) (seV E)/\Z5 (C.length=z) (Z8 8 m z a2 a1 (qkV C) (quV C)/\b7)))))))))))))))))))))))))))))))))))))) h) h)) h))) h) h)) h) h))) h) h))) (Z4 l9 (Z4 l7 (Z6 l6 (Z6 l5 (Z4 k6 (Z4 k4 (Z6 k3 (Z6 (b==b_1) (Z4 j7 (Z6 j6 (Z6 j5 (Z4 i8 (Z4 i6 (Z6 i5 (Z4 i3 (Z6 i2 (Z6 i1 ((∀(i:Nat),i<r->a)/\
 (∀(i:Nat),i<r->a)/\
 (∀(i:Nat),i<Z->a)/\
 (∀(i:Nat),i<Y->a)/\
 ∃(X:Zb),
 let o:=X.T;let V:=decide (o.length=n);let U:=tiV o;let E:=X.S;let C:=X.Q;
 YN H X N r d9 O r d8 O Z d7 d6 Y d5 d4/\
 ∃(p:V3),
 let R:=g2::g0::f8::n0::h6;
 ∃(q:V4),
 let P:=[e3,d3,d1,c8];
 (R=V3.c p/\P=V4.c q)/\
 ∀(e:Int),
 Z4 h5 (h4/\
 h3/\
 Z4 h2 (Z4 h1 (Z4 g9 (Z4 g8 (Z4 g7 (f7=f7/\
 Z4 g6 (Z4 g5 (Z4 g4 (g3/\
 Z4 l (Z4 l (Z4 k (Z4 k (Z4 j (Z4 j (Z4 l (Z4 l (Z4 k (Z4 k (Z4 j (Z4 j (Z4 M ((∀(i:Nat),i<g->true=true)/\Z4 L ((∀(i:Nat),i<f->true=true)/\Z4 K ((∀(i:Nat),i<d->true=true)/\Z4 J (Z4 I (Z4 G (∃(D:Zb),Wp D g (ZL 0 w) f (ZL 0 u) d (ZL 0 t)/\∃(p:V3),∃(q:V4),(R=V3.c p/\P=V4.c q)/\∀(e:Int),Z4 l (Z4 c0 (Z4 k (Z4 b9 (Z4 j (Z4 b8 (Z4 V (Z8 8 m n a6 y (tkO o) U/\Z4 V (Z8 8 m n a5 y (tkI o) U/\Z5 (E.length=A) (Z8 8 m A a4 a3 (skV H E) (seV E)/\Z5 (C.length=z) (Z8 8 m z a2 a1 (qkV C) (quV C)/\b7)))))))))))))))))))))))))))))))))))))) h) h)) h))) h) h)) h) h))) h) h)))))))))))))))))))))))))))))))))))))))))))))) (by kernel_rfl) ?_
 conv=>zeta
 try simp only [vcA]
 try simp only [vcB]
 try simp only [vcC]
 subst hB
 have hl:=x.secret.l
 have hB:x.secret.v.length<=100000:=by omega
 have tr:∀{n:Nat} (i:Nat),i<n->True:=fun _ _=>trivial
 obtain ⟨w0,w1,w2,w3,w4,w5⟩:=hw
 have hT:=Wf H hX
 have hV:=Z4b hD
 refine ⟨x,⟨rfl⟩,beq_eq_false_iff_ne.2 w0,beq_eq_false_iff_ne.2 w1,beq_eq_false_iff_ne.2 w2,beq_eq_false_iff_ne.2 w3,beq_eq_false_iff_ne.2 w4,fun h=>absurd (beq_iff_eq.1 h) w5,fun _=>⟨tr,tr,tr,tr,X,hT,x.tie.out.l,fun x1 b1=>⟨tr,tr,tr,D,hV,x.tie.out.l,tr,tr,tr,tr,X,hT,x.tie.inn.l,fun x2 b2=>⟨tr,tr,tr,D,hV,x.tie.inn.l,fun x3 b3=>⟨hl,hl.symm,hB,tr,tr,tr,tr,X,hT,hH _,fun x4 b4=>⟨hl,hl.symm,hB,tr,tr,tr,D,hV,hH _,tr,tr,tr,tr,X,hT,(Wq HH x).hash.l,fun q b5=>⟨tr,tr,tr,D,hV,(Wq HH x).hash.l, ?_⟩⟩⟩⟩⟩⟩⟩
 repeat' first
  | exact tr
  | exact H32.l _
  | rfl
  | exact J2 _
  | exact ZE (Uo _) fun _ _=>⟨rfl,rfl⟩
  | exact ZE (QN _) fun _ _=>⟨rfl,rfl⟩
  | exact ZE (VW H _) fun _ _=>⟨rfl,rfl⟩
  | exact ZE (Up _) fun _ _=>⟨rfl,rfl⟩
  | exact Zj ZX fun _ _=>rfl
  | exact Zj Ye fun _ _=>rfl
  | exact Zj Y8 fun _ _=>rfl
  | apply JH
  | refine ⟨X,hT,{ x.p with hash:=(Wq HH x).hash},x.q,⟨rfl,rfl⟩,fun _=>⟨tr,tr,tr,D,hV,{ x.p with hash:=(Wq HH x).hash},x.q,⟨rfl,rfl⟩,fun _=> ?_⟩⟩
  | refine ⟨X,hT,x.p,x.q,⟨rfl,rfl⟩,fun _=>⟨tr,tr,tr,D,hV,x.p,x.q,⟨rfl,rfl⟩,fun _=> ?_⟩⟩
  | intro _
def acX (H H2:LI->LI) (HH:H32->H32) (x:ZQ) (X:Zb):Zb:=if x.what=0 then ⟨Wn X.T x.tie,X.S,X.Q⟩ else if x.what=1 then ⟨unP X.T x.tie.out.v x.tie.outID,X.S,X.Q⟩ else if x.what=2 then ⟨X.T,Vz H X.S x.secret,X.Q⟩ else if x.what=3 then ⟨X.T,X.S,VA H X.Q (Wq HH x)⟩ else if x.what=4 then ⟨X.T,X.S,Z4A X.Q (Wq HH x).hash.v⟩ else if x.what=5 then ⟨X.T,Z4z H X.S (H2 x.secret.v),X.Q⟩ else X
def acD (H2:LI->LI) (HH:H32->H32) (x:ZQ) (D:Zb):Zb:=if x.what=0 then ⟨Z0Y D.T x.tie,D.S,D.Q⟩ else if x.what=1 then ⟨unD D.T x.tie.out.v x.tie.outID,D.S,D.Q⟩ else if x.what=2 then ⟨D.T,Z1A D.S x.secret,D.Q⟩ else if x.what=3 then ⟨D.T,D.S,Z2l H2 D.Q (Wq HH x)⟩ else if x.what=4 then ⟨D.T,D.S,Z2m D.Q (Wq HH x).hash.v⟩ else if x.what=5 then ⟨D.T,Z2k H2 D.S (H2 x.secret.v),D.Q⟩ else D
theorem Zgk (X D:Zb) (x:ZQ) (hX:X.Lim) (hD:ZP D):Spec PP 8 [pt 0,.agg (acC D),.agg x.c] ⟨8,acB Zh X D⟩ (.ret (acR (acD Yj hhD x D))) 11 (acO Zh (acX Zh Yj hhD x X) (acD Yj hhD x D)):=by
 obtain ⟨w,t,s,i,own,p,q,ht⟩:=x
 by_cases h0:w=0
 ·subst h0;exact .evM Qt (Zm4 Zh Yj 100000 hhD X D ⟨0,t,s,i,own,p,q,ht⟩ rfl Xf hX hD)
 by_cases h1:w=1
 ·subst h1;exact .evM Qt (Zm5 Zh Yj 100000 hhD X D ⟨1,t,s,i,own,p,q,ht⟩ rfl Xf hX hD)
 by_cases h2:w=2
 ·subst h2;exact .evM Qt (Zm6 Zh Yj 100000 hhD X D ⟨2,t,s,i,own,p,q,ht⟩ rfl Xf hX hD)
 by_cases h3:w=3
 ·subst h3;exact .evM Qt (Zm7 Zh Yj 100000 hhD X D ⟨3,t,s,i,own,p,q,ht⟩ rfl Xf hX hD)
 by_cases h4:w=4
 ·subst h4;exact .evM Qt (Zm8 Zh Yj 100000 hhD X D ⟨4,t,s,i,own,p,q,ht⟩ rfl Xf hX hD)
 by_cases h5:w=5
 ·subst h5;exact .evM Qt (Zm9 Zh Yj 100000 hhD X D ⟨5,t,s,i,own,p,q,ht⟩ rfl Xf hX hD)
 ·have e1:acX Zh Yj hhD ⟨w,t,s,i,own,p,q,ht⟩ X=X:=by simp only [acX,h0,h1,h2,h3,h4,h5,if_false]
  have e2:acD Yj hhD ⟨w,t,s,i,own,p,q,ht⟩ D=D:=by simp only [acD,h0,h1,h2,h3,h4,h5,if_false]
  rw [e1,e2]
  exact .evM Ze4 (Zma Zh Yj 100000 hhD X D ⟨w,t,s,i,own,p,q,ht⟩ rfl Xf hX hD ⟨h0,h1,h2,h3,h4,h5⟩)
end Go.Tk
end
section
namespace Go.Tk
open IntKind (i64 u8 u32 u64 wrap)
open Go.Proofs Go.Shelf Go.Lib Go.Sort
theorem Z7J {W w':World} (h1:W.heap.size<=w'.heap.size) (h2:w'.os=W.os) (h3:w'.tape=W.tape) (h4:w'.output=W.output/\W.drawn<=w'.drawn) (h5:∀b,b<W.heap.size->w'.heap[b]? =W.heap[b]?):∃q os',w'=grow (W.drewN q) os':=by
 refine ⟨w'.drawn-W.drawn,w'.heap.extract W.heap.size w'.heap.size, ?_⟩
 obtain ⟨heap,tape,drawn,os,output⟩:=w'
 obtain ⟨heap0,tape0,drawn0,os0,output0⟩:=W
 simp only at h1 h2 h3 h4 h5
 unfold grow World.drewN
 simp only [World.mk.injEq]
 refine ⟨?_,h3,by omega,h2,h4.1⟩
 apply Array.ext_getElem?
 intro i
 rcases Jm i heap0.size with h|h
 ·rw [Array.getElem?_append_left h];exact h5 i h
 ·rw [Array.getElem?_append_right h,Array.getElem?_extract]
  rcases Jm i heap.size with h'|h'
  ·rw [if_pos (by omega)];congr 1;omega
  ·rw [if_neg (by omega),Kc (by omega)]
section
variable {P:Program} {ρ:Go.Shelf.Ren} {α:Type} [Inhabited α]
theorem Z9e {g k:Nat} {c:α->List AV} {enc:α->List Value} (hc2:∀E x,Zp E (c x) (enc x)) {cf:α->α->Int} (hcmp:∀x y,Y6 P g [.agg (c x),.agg (c y)] (.int .i64 (cf x y)) 0 []) (blk off size:Nat) (w:World):
  CmpLays P g #[] enc k cf blk off size w:=by
 intro m os dk hs x y
 have E0:Emb ⟨fun _=>none,fun _ _=>False⟩ ⟨0,[]⟩ (sortWorldK enc k w blk off m dk os):=
  ⟨fun _ _=>rfl,fun x B h=>by simp [Z7.get,Zr] at h,fun x B h=>by simp [Z7.get,Zr] at h,fun x y B B' b N N' h=>by simp [Z7.get,Zr] at h,fun _ _ h=>h.elim,fun _ _ _ _ _ h=>h.elim⟩
 refine (hcmp x y _ _ [.agg (enc x).toArray,.agg (enc y).toArray] E0 (.cons _ _ _ _ (.agg _ _ (hc2 _ _)) (.cons _ _ _ _ (.agg _ _ (hc2 _ _)) .nil))).mono ?_
 rintro e w' ⟨E',r,rfl,hev,hr⟩
 cases hr
 refine ⟨rfl,Z7J hev.size hev.os hev.tape hev.output fun b hb=>hev.keep b hb ?_⟩
 rintro ⟨x,B,N,hx,_⟩
 simp [Z7.get,Zr] at hx
theorem Z1E (L:SlLaysF0.n6 P ρ) {k:Nat} (aE:∀w,(Go.isAgg (ρ.t 24)).run P w=.ok true w) (zE:∀w,(Go.sizeOf (ρ.t 24)).run P w=.ok k w) {c:α->List AV} {enc:α->List Value} (hk:∀x,(enc x).length=k) (hk0:0<k) (h1:∀x,∀v∈enc x,v.oneCell'=true)
  (hc1:∀E x vs,Zp E (c x) vs->vs=enc x) (hc2:∀E x,Zp E (c x) (enc x)) {cf:α->α->Int} (hO:SWO (ltOf cf)) {g:Nat} (eg:∀args w,(callFunc g args).run P w=.ok (.enter g args) w)
  (hcmp:∀x y,Y6 P g [.agg (c x),.agg (c y)] (.int .i64 (cf x y)) 0 []) {l L':List α} {n lo:Nat} (hn:l.length=n) (h0:0<n) (hsz:n<4611686018427387904) {f f':Nat->List AV} (hf0:∀i,i<n->f i=c (l.getD i default)) (hf1:∀i,i<n->f' i=c (L'.getD i default))
  (hL:∀l':List α,l'.Perm l->l'.Pairwise (fun a b=>ltOf cf b a=false)->l'=L'):
  Spec P (ρ.f 6) [.nslice ⟨0,0,k,0,0⟩ k n lo,.func (.func g) [] []] ⟨1,[(0,.rows k n f)]⟩ (.ret (.tuple [])) 1 [(0,.rows k n f')]:=by
 intro E w rs he hr
 cases hr with
 | cons v r vs rs hr1 hr2=>
 cases hr2 with
 | cons v2 r2 vs2 rs2 hr2 hr3=>
 cases hr3
 cases hr2 with
 | func fn fi ca fs cs h3 h4=>
 cases h3
 cases h4
 cases hr1 with
 | nslice0 p esz len lo a q1 q2=>omega
 | nslice p esz len lo b N cap hb q1 q2 q3=>
 have hB:=he.own 0 _ rfl
 cases hB with
 | rows0 sz n f q0 hno=>omega
 | rows sz n f b' cells elem fr gg hb' hw hfr hc hl hv=>
 rw [hb'] at hb
 cases hb
 have htot:(ZD.mk 0 0 k 0 0).tot=0:=by simp [ZD.tot]
 rw [htot] at q3⊢
 have hgg:∀i,i<n->gg i=enc (l.getD i default):=fun i hi=>by
  have:=hc i hi
  rw [hf0 i hi] at this
  exact hc1 _ _ _ this
 have hcs:n*k<=cells.size:=by
  rcases Jm cells.size (n*k) with h|h
  ·exfalso
   have e:n=(n-1)+1:=by omega
   have hlast:(gg (n-1))[k-1]? =some ((gg (n-1))[k-1]'(by rw [hl _ (by omega)];omega)):=J8 _
   have:=hv (n-1) (k-1) _ (by omega) hlast
   have e2:(n-1)*k+(k-1)<cells.size:=by
    rcases Jm ((n-1)*k+(k-1)) cells.size with h'|h'
    ·exact h'
    ·rw [Kc h'] at this;cases this
   have e3:n*k=(n-1)*k+k:=by rw [e,K2];simp
   omega
  ·exact h
 have hdiv:∀j,j<n*k->j/k<n:=fun j hj=>(Nat.div_lt_iff_lt_mul hk0).2 hj
 have hH:HoldsK enc k w b 0 l.toArray:=by
  intro j hj
  rw [size_flatK] at hj
  have hj:j<n*k:=by simpa [hn] using hj
  have hi:=hdiv j hj
  have hm:j%k<k:=Nat.mod_lt _ hk0
  rw [get_flatK _ _ _ _ (by simpa [hn] using hj)]
  have e:l.toArray[j/k]! =l.getD (j/k) default:=by simp [J5]
  have hx:(gg (j/k))[j%k]? =some ((enc (l.getD (j/k) default))[j%k]!):=by
   rw [hgg _ hi]
   rw [J8 (by rw [hk];exact hm)]
   simp [getElem!_pos,hk,hm]
  have hcell:=hv (j/k) (j%k) _ hi hx
  have ej:j/k*k+j%k=j:=by rw [Nat.mul_comm];exact Nat.div_add_mod j k
  rw [ej] at hcell
  refine ⟨?_, ?_⟩
  ·rw [Jo,cell_of_heap hw,hcell,e];rfl
  ·unfold World.frozen?
   simp only [Jo,hw]
   have:=hfr j (by omega)
   rw [Bool.eq_false_iff]
   simp only [ne_eq,J1,decide_eq_true_eq]
   exact this
 have hblk:b<w.heap.size:=(he.own 0 _ rfl).lt hb'
 have hcon:=AnyQ.slices_SortFunc L k aE zE enc hk h1 cf hO g #[] b 0 cap l.toArray w eg (Z9e hc2 hcmp b 0 _ w) hH hblk (by simpa [hn] using hsz)
 have en:l.toArray.size=n:=by simpa using hn
 rw [en] at hcon
 refine hcon.mono ?_
 rintro e w' ⟨rfl,d',m,os,hp,hs,rfl⟩
 obtain ⟨p1,_,p3⟩:=hp
 rw [en] at p1
 have pe:(d'.extract 0 n)=d':=by rw [<-p1];simp
 have pe2:(l.toArray.extract 0 n)=l.toArray:=by rw [<-en];simp
 rw [pe,pe2] at p3
 have hLd:d'.toList=L':=by
  refine hL _ p3 ?_
  rw [Ji]
  intro i j hi hj hij
  have:=hs i j (JN _) hij (by simpa [p1] using hj)
  have e1:d'[i]! =d'.toList[i]:=by simp only [Array.length_toList] at hi;simp [getElem!_pos,hi]
  have e2:d'[j]! =d'.toList[j]:=by simp only [Array.length_toList] at hj;simp [getElem!_pos,hj]
  rw [e1,e2] at this
  exact this
 have hheap:(sortWorldK enc k w b 0 m d' os).heap=w.heap.modify b (onCells (putCells id 0 (flatK enc k d')))++os:=rfl
 have hold:∀i,i<w.heap.size->i≠b->(sortWorldK enc k w b 0 m d' os).heap[i]? =w.heap[i]?:=fun i hi hib=>by
  rw [hheap,Array.getElem?_append_left (by simpa using hi),Array.getElem?_modify,if_neg (fun h=>hib h.symm)]
 have hnew:(sortWorldK enc k w b 0 m d' os).heap[b]? =some (.cells (putCells id 0 (flatK enc k d') cells) elem fr):=by
  rw [hheap,Array.getElem?_append_left (by simpa using hblk),Array.getElem?_modify,if_pos rfl,hw];rfl
 have hpsz:(putCells id 0 (flatK enc k d') cells).size=cells.size:=by simp [putCells]
 have hle:w.heap.size<=(sortWorldK enc k w b 0 m d' os).heap.size:=by rw [hheap];simp
 have hown:∀{H:Z7} {i:Nat},H=⟨1,[(0,Blk.rows k n f)]⟩\/H=⟨1,[(0,Blk.rows k n f')]⟩->(YT E H i↔i=b):=by
  intro H i hq0
  constructor
  ·rintro ⟨x,B,N,hx,hbx⟩
   have hx0:x=0:=by
    rcases hq0 with rfl|rfl
    ·simp only [Z7.get,Zr] at hx
     split at hx
     ·rename_i hq;exact (J0 hq).symm
     ·cases hx
    ·simp only [Z7.get,Zr] at hx
     split at hx
     ·rename_i hq;exact (J0 hq).symm
     ·cases hx
   subst hx0
   rw [hb'] at hbx
   cases hbx;rfl
  ·rintro rfl
   rcases hq0 with rfl|rfl<;>exact ⟨0,_,_,rfl,hb'⟩
 have hbn:∀a cc,E.imm a cc->a.block≠b:=fun a cc hi hq=>he.sep a cc 0 _ _ hi rfl (by rw [hb',hq])
 refine ⟨E,⟨.refl E,⟨he.fresh,fun x B hx=> ?_,fun x B hx=> ?_,fun x y B B' bb N N' hx hy _ _=> ?_,fun a cc hi=> ?_,fun a cc x B N hi hx hbx=> ?_⟩,hle,rfl,rfl,⟨rfl,Nat.le_add_right _ _⟩,fun i hi hno=>hold i hi (fun h=>hno ((hown (.inl rfl)).2 h)),fun i ho=>.inl ((hown (.inl rfl)).2 ((hown (.inr rfl)).1 ho)),fun _ _ h=>h⟩,.ret _ _ (.tuple [] [] .nil)⟩
 ·simp only [Z7.get,Zr] at hx
  split at hx
  ·rename_i hq;have:=J0 hq;show x<1;omega
  ·cases hx
 ·simp only [Z7.get,Zr] at hx
  split at hx
  ·rename_i hq
   have:=J0 hq
   subst this
   cases hx
   refine .rows k n f' b _ elem fr (fun i=>enc (L'.getD i default)) (by rw [hpsz];exact hb') hnew (fun o ho=>hfr o (by rw [hpsz] at ho;exact ho)) (fun i hi=>by rw [hf1 i hi];exact hc2 _ _) (fun i hi=>hk _) (fun i j cc hi hj=> ?_)
   have hjk:j<k:=by
    have:=(Jb.1 hj).1
    rw [hk] at this;exact this
   have ht:i*k+j<n*k:=by
    have:(i+1)*k<=n*k:=JQ _ hi
    rw [K2,Nat.one_mul] at this
    omega
   unfold putCells
   rw [Array.getElem?_mapIdx,Array.getElem?_eq_getElem (by omega)]
   simp only [Option.map_some]
   rw [if_pos ⟨JN _,by rw [size_flatK,p1];omega⟩,Nat.sub_zero,get_flatK _ _ _ _ (by rw [p1];exact ht)]
   have e1:(i*k+j)/k=i:=by rw [Nat.mul_comm,Nat.mul_add_div hk0,Nat.div_eq_of_lt hjk];rfl
   have e2:(i*k+j)%k=j:=by rw [Nat.mul_comm,Nat.mul_add_mod,Jx hjk]
   rw [e1,e2]
   have e3:d'[i]! =L'.getD i default:=by
    have hid:i<d'.size:=by omega
    rw [<-hLd,J5];simp [getElem!_pos,hid]
   rw [e3]
   obtain ⟨hjl,hj2⟩:=Jb.1 hj
   rw [<-hj2,getElem!_pos (enc (L'.getD i default)) j hjl];rfl
  ·cases hx
 ·simp only [Z7.get,Zr] at hx hy
  split at hx
  ·rename_i hq
   split at hy
   ·rename_i hq'
    rw [<-Nat.eq_of_beq_eq_true hq,<-Nat.eq_of_beq_eq_true hq']
   ·cases hy
  ·cases hx
 ·have h0:=he.imm a cc hi
  have hlt:a.block<w.heap.size:=by
   rcases Jm a.block w.heap.size with hl|hg
   ·exact hl
   ·simp [World.cell?,Kc hg] at h0
  simpa [World.cell?,hold _ hlt (hbn a cc hi)] using h0
 ·have:=(hown (H:=⟨1,[(0,.rows k n f')]⟩) (.inr rfl)).1 ⟨x,B,N,hx,hbx⟩
  exact hbn a cc hi this
end
end Go.Tk
end
section
namespace Go.Tk
open IntKind (i64 u8 u32 u64 wrap)
def ZbB:Go.Shelf.Ren:=⟨fun|6=>129|15=>149|14=>152|28=>173|29=>174|20=>175|21=>176|22=>177|23=>178|24=>179|25=>180|26=>181|27=>182|46=>199|47=>195|48=>196|49=>200|50=>201|57=>206|n=>n,fun|22=>25|24=>33|25=>125|3=>3|39=>206|0=>0|53=>174|55=>169|4=>4|46=>242|45=>241|50=>246|5=>5|9=>9|66=>264|70=>268|76=>274|77=>275|n=>n,fun|n=>n⟩
theorem Zkm:Go.Proofs.SlLaysF0.n6 PP ZbB:={
 mixed:=by kernel_rfl,
 f6:=⟨Go.Proofs.Tryz.f129.name,by decide,Go.Proofs.Tryz.func129.trans (congrArg some (by kernel_rfl))⟩,
 f14:=⟨Go.Proofs.Tryz.f152.name,by decide,Go.Proofs.Tryz.func152.trans (congrArg some (by kernel_rfl))⟩,
 f15:=Go.Proofs.Tryz.func149.trans (congrArg some (by kernel_rfl)),
 f20:=⟨Go.Proofs.Tryz.f175.name,by decide,Go.Proofs.Tryz.func175.trans (congrArg some (by kernel_rfl))⟩,
 f21:=⟨Go.Proofs.Tryz.f176.name,by decide,Go.Proofs.Tryz.func176.trans (congrArg some (by kernel_rfl))⟩,
 f22:=⟨Go.Proofs.Tryz.f177.name,by decide,Go.Proofs.Tryz.func177.trans (congrArg some (by kernel_rfl))⟩,
 f23:=⟨Go.Proofs.Tryz.f178.name,by decide,Go.Proofs.Tryz.func178.trans (congrArg some (by kernel_rfl))⟩,
 f24:=⟨Go.Proofs.Tryz.f179.name,by decide,Go.Proofs.Tryz.func179.trans (congrArg some (by kernel_rfl))⟩,
 f25:=⟨Go.Proofs.Tryz.f180.name,by decide,Go.Proofs.Tryz.func180.trans (congrArg some (by kernel_rfl))⟩,
 f26:=⟨Go.Proofs.Tryz.f181.name,by decide,Go.Proofs.Tryz.func181.trans (congrArg some (by kernel_rfl))⟩,
 f27:=⟨Go.Proofs.Tryz.f182.name,by decide,Go.Proofs.Tryz.func182.trans (congrArg some (by kernel_rfl))⟩,
 f28:=Go.Proofs.Tryz.func173.trans (congrArg some (by kernel_rfl)),
 f29:=Go.Proofs.Tryz.func174.trans (congrArg some (by kernel_rfl)),
 f46:=⟨Go.Proofs.Tryz.f199.name,by decide,Go.Proofs.Tryz.func199.trans (congrArg some (by kernel_rfl))⟩,
 f47:=Go.Proofs.Tryz.func195.trans (congrArg some (by kernel_rfl)),
 f48:=Go.Proofs.Tryz.func196.trans (congrArg some (by kernel_rfl)),
 f49:=⟨Go.Proofs.Tryz.f200.name,by decide,Go.Proofs.Tryz.func200.trans (congrArg some (by kernel_rfl))⟩,
 f50:=⟨Go.Proofs.Tryz.f201.name,by decide,Go.Proofs.Tryz.func201.trans (congrArg some (by kernel_rfl))⟩,
 f57:=⟨Go.Proofs.Tryz.f206.name,by decide,Go.Proofs.Tryz.func206.trans (congrArg some (by kernel_rfl))⟩,
 t0:=Go.Proofs.Tryz.underlying0,
 a0:=Go.Proofs.Tryz.isAgg0,
 z0:=Go.Proofs.Tryz.sizeOf0,
 v0:=Go.Proofs.Tryz.zeroValue0,
 t3:=Go.Proofs.Tryz.underlying3,
 a3:=Go.Proofs.Tryz.isAgg3,
 z3:=Go.Proofs.Tryz.sizeOf3,
 v3:=Go.Proofs.Tryz.zeroValue3,
 t4:=Go.Proofs.Tryz.underlying4,
 a4:=Go.Proofs.Tryz.isAgg4,
 z4:=Go.Proofs.Tryz.sizeOf4,
 v4:=Go.Proofs.Tryz.zeroValue4,
 t5:=Go.Proofs.Tryz.underlying5,
 a5:=Go.Proofs.Tryz.isAgg5,
 z5:=Go.Proofs.Tryz.sizeOf5,
 v5:=Go.Proofs.Tryz.zeroValue5,
 t9:=Go.Proofs.Tryz.underlying9,
 a9:=Go.Proofs.Tryz.isAgg9,
 z9:=Go.Proofs.Tryz.sizeOf9,
 v9:=Go.Proofs.Tryz.zeroValue9,
 t22:=Go.Proofs.Tryz.underlying25,
 a22:=Go.Proofs.Tryz.isAgg25,
 z22:=Go.Proofs.Tryz.sizeOf25,
 v22:=Go.Proofs.Tryz.zeroValue25,
 t25:=Go.Proofs.Tryz.underlying125,
 a25:=Go.Proofs.Tryz.isAgg125,
 z25:=Go.Proofs.Tryz.sizeOf125,
 v25:=Go.Proofs.Tryz.zeroValue125,
 t39:=Go.Proofs.Tryz.underlying206,
 a39:=Go.Proofs.Tryz.isAgg206,
 z39:=Go.Proofs.Tryz.sizeOf206,
 v39:=Go.Proofs.Tryz.zeroValue206,
 t45:=Go.Proofs.Tryz.underlying241,
 a45:=Go.Proofs.Tryz.isAgg241,
 z45:=Go.Proofs.Tryz.sizeOf241,
 v45:=Go.Proofs.Tryz.zeroValue241,
 t46:=Go.Proofs.Tryz.underlying242,
 a46:=Go.Proofs.Tryz.isAgg242,
 z46:=Go.Proofs.Tryz.sizeOf242,
 v46:=Go.Proofs.Tryz.zeroValue242,
 t50:=Go.Proofs.Tryz.underlying246,
 a50:=Go.Proofs.Tryz.isAgg246,
 z50:=Go.Proofs.Tryz.sizeOf246,
 v50:=Go.Proofs.Tryz.zeroValue246,
 t53:=Go.Proofs.Tryz.underlying174,
 a53:=Go.Proofs.Tryz.isAgg174,
 z53:=Go.Proofs.Tryz.sizeOf174,
 v53:=Go.Proofs.Tryz.zeroValue174,
 t55:=Go.Proofs.Tryz.underlying169,
 a55:=Go.Proofs.Tryz.isAgg169,
 z55:=Go.Proofs.Tryz.sizeOf169,
 v55:=Go.Proofs.Tryz.zeroValue169,
 t66:=Go.Proofs.Tryz.underlying264,
 a66:=Go.Proofs.Tryz.isAgg264,
 z66:=Go.Proofs.Tryz.sizeOf264,
 v66:=Go.Proofs.Tryz.zeroValue264,
 t70:=Go.Proofs.Tryz.underlying268,
 a70:=Go.Proofs.Tryz.isAgg268,
 z70:=Go.Proofs.Tryz.sizeOf268,
 v70:=Go.Proofs.Tryz.zeroValue268,
 t76:=Go.Proofs.Tryz.underlying274,
 a76:=Go.Proofs.Tryz.isAgg274,
 z76:=Go.Proofs.Tryz.sizeOf274,
 v76:=Go.Proofs.Tryz.zeroValue274,
 t77:=Go.Proofs.Tryz.underlying275,
 a77:=Go.Proofs.Tryz.isAgg275,
 z77:=Go.Proofs.Tryz.sizeOf275,
 v77:=Go.Proofs.Tryz.zeroValue275}
def ZiG (s:St) (g:Nat):Option (List Nat):=match s.h.get g with
 | some (.git _ _ js)=>some js
 | _=>none
def rdS (k id g:Nat) (S En:List Nat->St) (js:List Nat) (go:Nat->Prop) (ex:Prop):KE:=fun e s=>match e with
 | .normal=>(match ZiG s g with
  | some (j::js')=>WY k (S (j::js')) s (js'=js/\go j)
  | _=>False)
 | .exit x=>(match Nat.beq x id with|true=>WY k (En js) s ex|false=>False)
 | _=>False
def Zap (id:Nat) (I ex:List Nat->Prop) (En:List Nat->St):KE->Prop:=fun X=>∀js,I js->ex js->X (.exit id) (En js)
theorem Zf.withGoS {G:Zf} (hG:G.Ok) {f:FuncId} {id k N g n:Nat} {S En:List Nat->St} {S0:St} {C:Prop} {I ex:List Nat->Prop} (h1:Xy G.P f id=true) (hC:C->S []=S0/\I []/\∀js,I js->
   js.length<=n/\ZF G N f id k (S js) (rdS k id g S En js (fun j=>I (j::js)) (ex js))):
  (G.withL f id (goM k S0 C (Zap id I ex En))).Ok:=by
 refine Zf.withL_ok hG h1 ?_
 intro k' s X hl
 unfold goM at hl
 split at hl
 ·rename_i hk
  have:=J0 hk
  subst this
  obtain ⟨⟨hc,hX⟩,hw⟩:=Yp hl
  obtain ⟨e0,hI,hr⟩:=hC hc
  refine ⟨{ js:List Nat//I js},fun t=>n-t.1.length,fun t=>S t.1,⟨[],hI⟩,N,by simp_all, ?_⟩
  rintro ⟨js,hjs⟩
  refine ⟨_,(hr js hjs).2, ?_⟩
  intro e s' hY
  unfold rdS at hY
  split at hY
  ·split at hY
   ·rename_i j js' _
    obtain ⟨⟨e1,hg⟩,hw'⟩:=Yp hY
    subst e1
    refine ⟨⟨j::js',hg⟩, ?_,hw'⟩
    have:=(hr _ hg).1
    simp only [Ju] at this⊢
    omega
   ·exact hY.elim
  ·split at hY
   ·rename_i hi
    have:=J0 hi
    subst this
    obtain ⟨hex,hw'⟩:=Yp hY
    exact ⟨_,hw',hX js hjs hex⟩
   ·exact hY.elim
  ·exact hY.elim
 ·exact hl.elim
structure Yn (n:Nat) (js:List Nat):Prop where
 nd:js.Nodup
 lt:∀j∈js,j<n
theorem Yn.nil (n:Nat):Yn n []:=⟨.nil,fun _ h=>by cases h⟩
theorem Yn.cons {n j:Nat} {js:List Nat} (h:Yn n js) (hj:j<n) (hn:j∉js):Yn n (j::js):=
 ⟨List.nodup_cons.2 ⟨hn,h.nd⟩,fun i hi=>by rcases J7.1 hi with rfl|hi;exact hj;exact h.lt i hi⟩
theorem nodup_range (n:Nat):(List.range n).Nodup:=List.nodup_range
theorem Yn.perm {n:Nat} {js:List Nat} (h:Yn n js) (ha:∀j,j<n->j∈js):js.Perm (List.range n):=
 (List.perm_ext_iff_of_nodup h.nd (nodup_range n)).2 fun a=>⟨fun hh=>Ka.2 (h.lt a hh),fun hh=>ha a (Ka.1 hh)⟩
theorem Yn.len {n:Nat} {js:List Nat} (h:Yn n js):js.length<=n:=by
 have:=h.nd.length_le_of_subset (l₂:=List.range n) fun j hj=>Ka.2 (h.lt j hj)
 simpa using this
end Go.Tk
end
