/- F: part 5 of an engine (a symbolic evaluator, proved against the model) and of the walk by it. -/
import Derived.Test.YthnfcmaoiebelaaGreatF4
import Derived.Shelf.SlSortCmp.WholeK
set_option linter.unusedVariables false
set_option linter.unusedSimpArgs false
set_option maxRecDepth 100000
set_option maxHeartbeats 0
section
namespace Go.Tk
open IntKind (i64 u8 u32 u64 wrap)
variable {α:Type} {J j:Nat} {args:List AV} {g:FuncId} {K:KO} {K0:Za->Nat->Nat->Nat->List AV->Prop} {D:Za}
theorem ZkU (H:LI->LI) (X:Za) (o:LI) (id:Int) (J:Nat) (x:Zl) (T':List Zl) (e:Int) (hL:X.Lim) (ho:o.length=32) (hJ:J=atO X.T o id) (hx:x=X.T.getD J Zr) (he:e=if J<X.T.length then 0 else 5) (hT:T'=unP X.T o id):
  evF G0 40 18 [pt 0,.agg [.arr .u8 32 o],.int .i64 id] ⟨5,tbO H X⟩ (Y4 5 (.ret (.tuple [.agg x.c,.int .i64 e])) 5 (tbO H ⟨T',X.S,X.Q⟩)):=by
 refine @Eq.mpr _ (let q1:=AV.agg [AV.arr u8 (32:Nat) o,AV.int i64 id];let b:=X.T;let a:=b.length;let h:=tkO b;let F:=Zn (fun (i:Nat)=>Zz q1 (AV.agg [AV.arr u8 (32:Nat) (List.getD b i Zr).out.v,AV.int i64 (List.getD b i Zr).outID])) a;let g:=List.getD b F Zr;let f:=g.outID;let d:=g.out.v;let E:=g.inn.v;let a1:=g.inID;let a0:=AV.agg [AV.arr u8 (32:Nat) E,AV.int i64 a1];let D:=tkI b;let C:=Zn (fun (i:Nat)=>Zz a0 (AV.agg [AV.arr u8 (32:Nat) (List.getD b i Zr).inn.v,AV.int i64 (List.getD b i Zr).inID])) a;let Z:=AV.agg [AV.arr u8 (32:Nat) d,AV.int i64 f];let Y:=Y3 PP (122:Nat) Z a h;let B:=Zn (fun (i:Nat)=>Zz Z (AV.agg [AV.arr u8 (32:Nat) (List.getD b i Zr).out.v,AV.int i64 (List.getD b i Zr).outID])) a;let W:=Nat.blt B a;let V:=x.inn.v;let t:=E=V;let s:=decide (a1=x.inID);let U:=x.out.v;let r:=d=U;let q:=decide (f=x.outID);let p:=decide ((0:Int)=e);let n:=X.S;let m:=X.Q;let A:=Za.mk T' n m;let l:=A.T;let c:=l.length;let z:=decide (a-(1:Nat)=c);let R:=tkO l;let k:=tiV l;let j:=tiV b;let P:=Z7 (5:Nat) [] c R k (Xi h B) (Xi j B);let O:=tkI l;let y:=A.S;let N:=y.length;let w:=A.Q;let M:=w.length;let L:=Z4 (n.length=N) (Z7 (5:Nat) [] N (skV H y) (seV y) (skV H n) (seV n)/\Z4 (m.length=M) (Z7 (5:Nat) [] M (qkV w) (quV w) (qkV m) (quV m)/\True));let K:=Z0 z (Z7 (5:Nat) [] c O k (Xi D C) (Xi j C)/\L);let u:=decide (a=c);let J:=Z7 (5:Nat) [] c R k h j;let I:=Z0 u (Z7 (5:Nat) [] c O k D j/\L);let G:=Z0 u (J/\I);
 Y3 PP (122:Nat) q1 a h/\Z8 (Nat.blt F a) (Z4 (f=f) (d=d/\Y3 PP (122:Nat) a0 a D/\Z8 (Nat.blt C a) (Y/\Z8 W (t/\Z0 s (r/\Z0 q (Z0 p (Z0 z (P/\K))))) (t/\Z0 s (r/\Z0 q (Z0 p (Z0 u (J/\K)))))) (Y/\Z8 W (t/\Z0 s (r/\Z0 q (Z0 p (Z0 z (P/\I))))) (t/\Z0 s (r/\Z0 q (Z0 p G)))))) (Ze=V/\Z4 ((0:Int)=x.inID) (Ze=U/\Z4 ((0:Int)=x.outID) (Z4 ((5:Int)=e) G)))) (by kernel_rfl) ?_
 conv=>zeta
 try simp only [vcA]
 try simp only [vcB]
 try simp only [vcC]
 have hF:Zn (fun i=>Zz (.agg [.arr .u8 32 o,.int .i64 id]) (.agg [.arr .u8 32 (X.T.getD i Zr).out.v,.int .i64 (X.T.getD i Zr).outID])) X.T.length=J:=(Ziy X.T o id).trans hJ.symm
 have hKO:Y3 PP 122 (.agg [.arr .u8 32 o,.int .i64 id]) X.T.length (tkO X.T):=ZcI X.T id ho
 obtain ⟨t1,t2,t3,t4⟩:=Xb H X 5 []
 simp only [hF,hx.symm,hKO,true_and]
 have hcase:Nat.blt J X.T.length=decide (J<X.T.length):=by
  rw [JK,decide_eq_true_eq]
  exact ⟨XL,YI⟩
 have hE:T'=X.T.eraseIdx J:=by rw [hT,hJ];rfl
 clear hT
 rw [hcase]
 refine ⟨fun hj=> ?_,fun hj=> ?_⟩
 ·have hj:J<X.T.length:=by simpa using hj
  have hp:Yf o id x=true:=by
   rcases Yt (fun j=>Yf o id (X.T.getD j Zr)) X.T.length with h|h
   ·have:J=X.T.length:=hJ.trans h.1
    omega
   ·have:=h.2.1
    rw [show Zn (fun j=>Yf o id (X.T.getD j Zr)) X.T.length=J from hJ.symm,<-hx] at this
    exact this
  unfold Yf at hp
  rw [J2,beq_iff_eq,beq_iff_eq] at hp
  obtain ⟨rfl,rfl⟩:=hp
  have hKI:Y3 PP 122 (.agg [.arr .u8 32 x.inn.v,.int .i64 x.inID]) X.T.length (tkI X.T):=ZcJ X.T x.inID x.inn.l
  have hI:Zn (fun i=>Zz (.agg [.arr .u8 32 x.inn.v,.int .i64 x.inID]) (.agg [.arr .u8 32 (X.T.getD i Zr).inn.v,.int .i64 (X.T.getD i Zr).inID])) X.T.length=J:=by
   have:=Ziv hL.ki hj
   rw [<-hx] at this
   refine Eq.trans ?_ this
   congr 1
   funext i
   exact Z0C ..
  have el:X.T.length-1=T'.length:=by rw [hE,Kd hj]
  have he:0=e:=by rw [he,if_pos hj]
  have hd:∀(f:List Zl->Nat->AV),(∀(T:List Zl) (i:Nat),f T i=f [T.getD i Zr] 0)->∀i,Xi (f X.T) J i=f T' i:=fun f hf i=>by
   unfold Xi
   rw [hf T',hE,Z4O]
   cases hb:Nat.blt i J with
   | true=>rw [if_pos (XL hb)];exact hf X.T i
   | false=>rw [if_neg (fun h=>by rw [YI h] at hb;cases hb)];exact hf X.T (i+1)
  simp only [hKI,hI,hKO,hF,hcase,decide_eq_true hj,reduceCtorEq,false_implies,true_implies,forall_const,and_true,true_and,t3,t4]
  exact ⟨he,el,ZT (Z1J _) fun i _=>⟨hd tkO (fun _ _=>rfl) i,hd tiV (fun _ _=>rfl) i⟩,el,ZT (Z4Q _) fun i _=>⟨hd tkI (fun _ _=>rfl) i,hd tiV (fun _ _=>rfl) i⟩⟩
 ·have hj:¬J<X.T.length:=by simpa using hj
  have ex:x=Zr:=by
   rw [hx,J5,Jv (by omega)]
   rfl
  have e2:T'=X.T:=by rw [hE,Kc (by omega)]
  have he:5=e:=by rw [he,if_neg hj]
  rw [e2,ex]
  exact ⟨rfl,rfl,rfl,rfl,he,rfl,t1,rfl,t2,t3,t4⟩
theorem ZkV (H:LI->LI) (X:Za) (o:LI) (id:Int) (J:Nat) (x:Zl) (b:Bool) (hL:X.Lim) (ho:o.length=32) (hJ:J=atO X.T o id) (hx:x=X.T.getD J Zr) (hb:b=Nat.blt J X.T.length):
  evF G0 40 31 [pt 0,.agg [.arr .u8 32 o],.int .i64 id] ⟨5,tbO H X⟩ (Y4 5 (.ret (.tuple [.agg x.c,.bool b])) 5 (tbO H X)):=by
 refine @Eq.mpr _ (let y:=AV.agg [AV.arr u8 (32:Nat) o,AV.int i64 id];let c:=X.T;let a:=c.length;let f:=tkO c;let p:=Zn (fun (i:Nat)=>Zz y (AV.agg [AV.arr u8 (32:Nat) (List.getD c i Zr).out.v,AV.int i64 (List.getD c i Zr).outID])) a;let d:=List.getD c p Zr;let n:=x.inn.v;let m:=x.out.v;let l:=decide (a=a);let e:=tiV c;let w:=tkI c;let k:=X.S;let j:=k.length;let u:=skV H k;let t:=seV k;let h:=X.Q;let g:=h.length;let s:=qkV h;let r:=quV h;let q:=Z0 l (Z7 (5:Nat) [] a f e f e/\Z0 l (Z7 (5:Nat) [] a w e w e/\Z4 (j=j) (Z7 (5:Nat) [] j u t u t/\Z4 (g=g) (Z7 (5:Nat) [] g s r s r/\True))));
 Y3 PP (122:Nat) y a f/\Z8 (Nat.blt p a) (d.inn.v=n/\Z4 (d.inID=x.inID) (d.out.v=m/\Z4 (d.outID=x.outID) (Z4 (true=b) q))) (Ze=n/\Z4 ((0:Int)=x.inID) (Ze=m/\Z4 ((0:Int)=x.outID) (Z4 (false=b) q)))) (by kernel_rfl) ?_
 conv=>zeta
 try simp only [vcA]
 try simp only [vcB]
 try simp only [vcC]
 have hF:Zn (fun i=>Zz (.agg [.arr .u8 32 o,.int .i64 id]) (.agg [.arr .u8 32 (X.T.getD i Zr).out.v,.int .i64 (X.T.getD i Zr).outID])) X.T.length=J:=(Ziy X.T o id).trans hJ.symm
 have hKO:Y3 PP 122 (.agg [.arr .u8 32 o,.int .i64 id]) X.T.length (tkO X.T):=ZcI X.T id ho
 obtain ⟨t1,t2,t3,t4⟩:=Xb H X 5 []
 simp only [hF,hx.symm,hKO,true_and]
 have hcase:Nat.blt J X.T.length=decide (J<X.T.length):=by
  rw [JK,decide_eq_true_eq]
  exact ⟨XL,YI⟩
 refine ⟨fun hj=> ?_,fun hj=> ?_⟩
 ·rw [hb,hj]
  simp only [t1,t2,t3,t4,and_self]
 ·have ex:x=Zr:=by
   rw [hx,J5,Jv (by rw [hcase] at hj;simp at hj;omega)]
   rfl
  rw [ex,hb,hj]
  exact ⟨rfl,rfl,rfl,rfl,rfl,t1,t2,t3,t4⟩
theorem ZiB (H:LI->LI) (X:Za) (o:LI) (id:Int) (J:Nat) (x:Zl) (b:Bool) (hL:X.Lim) (ho:o.length=32) (hJ:J=Zn (fun i=>Wg o id (X.T.getD i Zr)) X.T.length) (hx:x=X.T.getD J Zr) (hb:b=Nat.blt J X.T.length):
  evF G0 40 33 [pt 0,.agg [.arr .u8 32 o],.int .i64 id] ⟨5,tbO H X⟩ (Y4 5 (.ret (.tuple [.agg x.c,.bool b])) 5 (tbO H X)):=by
 refine @Eq.mpr _ (let y:=AV.agg [AV.arr u8 (32:Nat) o,AV.int i64 id];let c:=X.T;let a:=c.length;let f:=tkI c;let p:=Zn (fun (i:Nat)=>Zz y (AV.agg [AV.arr u8 (32:Nat) (List.getD c i Zr).inn.v,AV.int i64 (List.getD c i Zr).inID])) a;let d:=List.getD c p Zr;let n:=x.inn.v;let m:=x.out.v;let l:=decide (a=a);let w:=tkO c;let e:=tiV c;let k:=X.S;let j:=k.length;let u:=skV H k;let t:=seV k;let h:=X.Q;let g:=h.length;let s:=qkV h;let r:=quV h;let q:=Z0 l (Z7 (5:Nat) [] a w e w e/\Z0 l (Z7 (5:Nat) [] a f e f e/\Z4 (j=j) (Z7 (5:Nat) [] j u t u t/\Z4 (g=g) (Z7 (5:Nat) [] g s r s r/\True))));
 Y3 PP (122:Nat) y a f/\Z8 (Nat.blt p a) (d.inn.v=n/\Z4 (d.inID=x.inID) (d.out.v=m/\Z4 (d.outID=x.outID) (Z4 (true=b) q))) (Ze=n/\Z4 ((0:Int)=x.inID) (Ze=m/\Z4 ((0:Int)=x.outID) (Z4 (false=b) q)))) (by kernel_rfl) ?_
 conv=>zeta
 try simp only [vcA]
 try simp only [vcB]
 try simp only [vcC]
 have hF:Zn (fun i=>Zz (.agg [.arr .u8 32 o,.int .i64 id]) (.agg [.arr .u8 32 (X.T.getD i Zr).inn.v,.int .i64 (X.T.getD i Zr).inID])) X.T.length=J:=by
  rw [hJ]
  congr 1
  funext i
  exact Z0C ..
 have hKI:Y3 PP 122 (.agg [.arr .u8 32 o,.int .i64 id]) X.T.length (tkI X.T):=ZcJ X.T id ho
 obtain ⟨t1,t2,t3,t4⟩:=Xb H X 5 []
 simp only [hF,hx.symm,hKI,true_and]
 have hcase:Nat.blt J X.T.length=decide (J<X.T.length):=by
  rw [JK,decide_eq_true_eq]
  exact ⟨XL,YI⟩
 refine ⟨fun hj=> ?_,fun hj=> ?_⟩
 ·rw [hb,hj]
  simp only [t1,t2,t3,t4,and_self]
 ·have ex:x=Zr:=by
   rw [hx,J5,Jv (by rw [hcase] at hj;simp at hj;omega)]
   rfl
  rw [ex,hb,hj]
  exact ⟨rfl,rfl,rfl,rfl,rfl,t1,t2,t3,t4⟩
def ZiC (H:LI->LI):ZJ:=fun args h K=>Z0D H h args fun X t o i s a az=>match az with
 | [.ptr (some ⟨0,0,0,0,0⟩),.agg [.arr .u8 32 k],.int .i64 id]=>k.length=32/\K (.ret (.tuple [.agg (X.T.getD (atO X.T k id) Zr).c,.int .i64 (if atO X.T k id<X.T.length then 0 else 5)])) ⟨h.next,U6 H ⟨unP X.T k id,X.S,X.Q⟩ h t o i s a⟩
 | _=>False
theorem ZeS (H:LI->LI) (args:List AV) (h:Z6) (K:KO) (hl:ZiC H args h K):Zh PP 18 args h K:=by
 refine Xv hl fun X t o i s a az hL ha=> ?_
 split at ha
 ·exact ⟨_,_,fun _=>rfl,.evM Zv (ZkU H X _ _ _ _ _ _ hL ha.1 rfl rfl rfl rfl),ha.2⟩
 ·exact ha.elim
def Z9A (H:LI->LI):ZJ:=fun args h K=>Z0D H h args fun X t o i s a az=>match az with
 | [.ptr (some ⟨0,0,0,0,0⟩),.agg [.arr .u8 32 k],.int .i64 id]=>k.length=32/\∀x b,K (.ret (.tuple [.agg (Zl.c x),.bool b])) ⟨h.next,U6 H X h t o i s a⟩
 | _=>False
theorem ZcL (H:LI->LI) (args:List AV) (h:Z6) (K:KO) (hl:Z9A H args h K):Zh PP 31 args h K:=by
 refine Xv hl fun X t o i s a az hL ha=> ?_
 split at ha
 ·exact ⟨_,_,fun _=>rfl,.evM Zv (ZkV H X _ _ _ _ _ hL ha.1 rfl rfl rfl),ha.2 _ _⟩
 ·exact ha.elim
theorem ZeT (H:LI->LI) (args:List AV) (h:Z6) (K:KO) (hl:Z9A H args h K):Zh PP 33 args h K:=by
 refine Xv hl fun X t o i s a az hL ha=> ?_
 split at ha
 ·exact ⟨_,_,fun _=>rfl,.evM Zv (ZiB H X _ _ _ _ _ hL ha.1 rfl rfl rfl),ha.2 _ _⟩
 ·exact ha.elim
noncomputable def Zhc (H:LI->LI) (H2:LI->LI->LI) (B:Nat):Zg:=G0.withP 75 (Zi8 H H2 B)
theorem Z9B:(Zhc Zf Z8b 100).Ok:=Zg.withP_ok Zv (Zel 100 (by decide))
theorem ZiD (a b:LI) (ha:a.length=32) (hb:b.length=32):
  Z8S PP 31 (.agg [.arr .u8 32 a]) (.agg [.arr .u8 32 b]):=by
 refine @Eq.mpr _ (Z4 (a.length=32/\b.length=32) ((a==b)=Zz (AV.agg [AV.arr u8 32 a]) (AV.agg [AV.arr u8 32 b]))) (by kernel_rfl) ?_
 try simp only [vcA]
 try simp only [vcB]
 try simp only [vcC]
 exact ⟨⟨ha,hb⟩,rfl⟩
theorem ZcM (H:LI->LI) (hH:∀x,(H x).length=32) (S:List H32) {o:LI} (ho:o.length=32):Y3 PP 31 (.agg [.arr .u8 32 o]) S.length (skV H S):=⟨fun j _=>ZiD _ _ ho (hH _)⟩
theorem Z9C (Q:List Zq) {o:LI} (ho:o.length=32):Y3 PP 31 (.agg [.arr .u8 32 o]) Q.length (qkV Q):=⟨fun j _=>ZiD _ _ ho (Q.getD j ZB).hash.l⟩
theorem Zhd (H:LI->LI) (S:List H32) (o:LI):Zn (fun i=>Zz (.agg [.arr .u8 32 o]) (.agg [.arr .u8 32 (H (S.getD i h0).v)])) S.length=XO H S o:=by
 unfold XO
 congr 1
theorem ZeU (Q:List Zq) (o:LI):Zn (fun i=>Zz (.agg [.arr .u8 32 o]) (.agg [.arr .u8 32 (Q.getD i ZB).hash.v])) Q.length=atQ Q o:=by
 unfold atQ
 congr 1
theorem Wt (a b:Nat):Nat.blt a b=decide (a<b):=by
 rw [JK,decide_eq_true_eq]
 exact ⟨XL,YI⟩
theorem Z0E (d:α) (f:List α->Nat->AV) (hf:∀(T:List α) (i:Nat),f T i=f [T.getD i d] 0) (T:List α) (J i:Nat):Xi (f T) J i=f (T.eraseIdx J) i:=by
 unfold Xi
 rw [hf (T.eraseIdx J),Z4O]
 cases hb:Nat.blt i J with
 | true=>rw [if_pos (XL hb)];exact hf T i
 | false=>rw [if_neg (fun h=>by rw [YI h] at hb;cases hb)];exact hf T (i+1)
theorem Z2g (d:α) (f:List α->Nat->AV) (hf:∀(T:List α) (i:Nat),f T i=f [T.getD i d] 0) (T:List α) (x:α) (hj:j<T.length+1):Wa (f T) T.length (f [x] 0) j=f (T++[x]) j:=by
 unfold Wa
 rcases Jo j T.length with h|h
 ·rw [Zu (by omega),hf (T++[x]),getD_lt _ _ h]
  exact hf T j
 ·obtain rfl:j=T.length:=by omega
  rw [Jj,hf (T++[x]),Z0A]
theorem ZeV (d:α) {T:List α} {x:α} (hJ:J<T.length):(T.set J x).getD j d=if j=J then x else T.getD j d:=by
 rw [J5,Kq]
 by_cases h:J=j
 ·rw [if_pos h,if_pos hJ,if_pos h.symm];rfl
 ·rw [if_neg h,if_neg (fun e=>h e.symm),J5]
theorem Zhe {H:LI->LI} {S:List H32} {o:LI} (h:XO H S o<S.length):o=H (S.getD (XO H S o) h0).v:=by
 rcases Yt (fun j=>o==H (S.getD j h0).v) S.length with h1|h1
 ·have:XO H S o=S.length:=h1.1
  omega
 ·exact beq_iff_eq.1 h1.2.1
theorem ZkW (H:LI->LI) (X:Za) (o:LI) (J:Nat) (x:H32) (b:Bool) (hH:∀x,(H x).length=32) (ho:o.length=32) (hJ:J=XO H X.S o) (hx:x=X.S.getD J h0) (hb:b=Nat.blt J X.S.length):
  evF G0 40 35 [pt 0,.agg [.arr .u8 32 o]] ⟨5,tbO H X⟩ (Y4 5 (.ret (.tuple [.agg [.arr .u8 32 x.v],.bool b])) 5 (tbO H X)):=by
 refine @Eq.mpr _ (let t:=AV.agg [AV.arr u8 (32:Nat) o];let c:=X.S;let a:=c.length;let g:=skV H c;let m:=Zn (fun (i:Nat)=>Zz t (AV.agg [AV.arr u8 (32:Nat) (H (List.getD c i h0).v)])) a;let e:=X.T;let d:=e.length;let l:=decide (d=d);let k:=tkO e;let f:=tiV e;let s:=tkI e;let r:=seV c;let j:=X.Q;let h:=j.length;let q:=qkV j;let p:=quV j;let n:=Z0 l (Z7 (5:Nat) [] d k f k f/\Z0 l (Z7 (5:Nat) [] d s f s f/\Z4 (a=a) (Z7 (5:Nat) [] a g r g r/\Z4 (h=h) (Z7 (5:Nat) [] h q p q p/\True))));
 Y3 PP (31:Nat) t a g/\Z8 (Nat.blt m a) ((List.getD c m h0).v=x.v/\Z4 (true=b) n) (Ze=x.v/\Z4 (false=b) n)) (by kernel_rfl) ?_
 conv=>zeta
 try simp only [vcA]
 try simp only [vcB]
 try simp only [vcC]
 have hF:=(Zhd H X.S o).trans hJ.symm
 have hK:=ZcM H hH X.S ho
 obtain ⟨t1,t2,t3,t4⟩:=Xb H X 5 []
 simp only [hF,hx.symm,hK,true_and]
 cases hc:Nat.blt J X.S.length with
 | true=>
  rw [hb,hc]
  simp only [t1,t2,t3,t4,and_self,reduceCtorEq,false_implies,forall_const]
 | false=>
  have ex:x=h0:=by
   rw [hx,J5,Jv (by rw [Wt] at hc;simp at hc;omega)]
   rfl
  rw [hb,hc,ex]
  exact ⟨nofun,fun _=>⟨rfl,rfl,t1,t2,t3,t4⟩⟩
theorem ZkX (H:LI->LI) (H2:LI->LI->LI) (B:Nat) (X:Za) (s:H32) (J:Nat) (S':List H32) (e:Int) (hB:B=100) (hL:X.Lim) (hH:∀x,(H x).length=32) (hJ:J=XO H X.S (H s.v)) (he:e=Qj H X.S s) (hS:S'=Xz H X.S s):
  evF (Zhc H H2 B) 40 23 [pt 0,.agg [.arr .u8 32 s.v]] ⟨5,tbO H X⟩ (Y4 5 (.ret (.int .i64 e)) 5 (tbO H ⟨X.T,S',X.Q⟩)):=by
 refine @Eq.mpr _ (let y:=s.v;let t:=y.length;let l:=AV.agg [AV.arr u8 (32:Nat) (H y)];let g:=X.S;let a:=g.length;let f:=skV H g;let C:=Y3 PP (31:Nat) l a f;let A:=Zn (fun (i:Nat)=>Zz l (AV.agg [AV.arr u8 (32:Nat) (H (List.getD g i h0).v)])) a;let z:=Nat.blt A a;let K:=decide ((0:Int)=e);let d:=X.T;let j:=X.Q;let x:=Za.mk d S' j;let h:=x.T;let w:=h.length;let b:=decide (d.length=w);let J:=tiV h;let I:=tiV d;let u:=Z7 (5:Nat) [] w (tkO h) J (tkO d) I;let r:=Z7 (5:Nat) [] w (tkI h) J (tkI d) I;let q:=x.S;let c:=q.length;let G:=decide (a=c);let p:=skV H q;let o:=seV q;let n:=seV g;let F:=AV.agg [AV.arr u8 (32:Nat) y];let m:=x.Q;let E:=m.length;let k:=Z4 (j.length=E) (Z7 (5:Nat) [] E (qkV m) (quV m) (qkV j) (quV j)/\True);let D:=C/\Z8 z (Z0 K (Z0 b (u/\Z0 b (r/\Z0 G (Z7 (5:Nat) [] c p o f (Wa n A F)/\k))))) (Z0 K (Z0 b (u/\Z0 b (r/\Z4 (a+(1:Nat)=c) (Z7 (5:Nat) [] c p o (Wa f a l) (Wa n a F)/\k)))));
 Z4 (t=(32:Nat)) (Z4 ((32:Nat)=t) (Z4 (t<=B) (C/\Z8 z D (Z8 (decide ((↑a:Int)>=(64:Int))) (Z4 ((3:Int)=e) (Z0 b (u/\Z0 b (r/\Z0 G (Z7 (5:Nat) [] c p o f n/\k))))) D))))) (by kernel_rfl) ?_
 conv=>zeta
 try simp only [vcA]
 try simp only [vcB]
 try simp only [vcC]
 have hF:=(Zhd H X.S (H s.v)).trans hJ.symm
 have hK:=ZcM H hH X.S (hH s.v)
 obtain ⟨t1,t2,t3,t4⟩:=Xb H X 5 []
 simp only [hF,hK,true_and]
 subst hB
 have hl:=s.l
 cases hc:Nat.blt J X.S.length with
 | true=>
  have hj:J<X.S.length:=XL hc
  have hk:H s.v=H (X.S.getD J h0).v:=by rw [hJ] at hj⊢;exact Zhe hj
  have hS:S'=X.S.set J s:=by rw [hS,Xz,<-hJ,if_pos hj]
  have he:0=e:=by rw [he,Qj,<-hJ,if_pos hj]
  have el:X.S.length=S'.length:=by rw [hS,Kk]
  have hm:Z7 5 [] S'.length (skV H S') (seV S') (skV H X.S) (Wa (seV X.S) J (AV.agg [AV.arr u8 32 s.v])):=ZT (Z0B H _) fun j hj'=>by
   rw [hS]
   unfold Wa skV seV
   rw [ZeV h0 hj]
   by_cases h:j=J
   ·subst h
    rw [if_pos rfl,Jj,hk]
    exact ⟨rfl,rfl⟩
   ·rw [if_neg h,Zu h]
    exact ⟨rfl,rfl⟩
  simp only [t1,t2,t4,hl,he.symm,el,hm,and_self,reduceCtorEq,false_implies,forall_const,Nat.reduceLeDiff]
 | false=>
  have hj:¬J<X.S.length:=fun h=>by rw [YI h] at hc;cases hc
  refine ⟨hl,hl.symm,by omega,nofun,fun _=>⟨fun g=> ?_,fun g=>⟨nofun,fun _=> ?_⟩⟩⟩
  ·have hS:S'=X.S:=by rw [hS,Xz,<-hJ,if_neg hj,if_pos (by omega)]
   have he:3=e:=by rw [he,Qj,<-hJ,if_neg hj,if_pos (by omega)]
   rw [hS]
   exact ⟨he,t1,t2,rfl,t3,t4⟩
  ·have hS:S'=X.S++[s]:=by rw [hS,Xz,<-hJ,if_neg hj,if_neg (by omega)]
   have he:0=e:=by rw [he,Qj,<-hJ,if_neg hj,if_neg (by omega)]
   have el:X.S.length+1=S'.length:=by rw [hS,J3];rfl
   refine ⟨he,t1,t2,el,ZT (Z0B H _) fun j hj'=> ?_,t4⟩
   rw [hS]
   exact ⟨Z2g h0 (skV H) (fun _ _=>rfl) X.S s (by omega),Z2g h0 seV (fun _ _=>rfl) X.S s (by omega)⟩
theorem ZkY (H:LI->LI) (X:Za) (o:LI) (J:Nat) (S':List H32) (e:Int) (hL:X.Lim) (hH:∀x,(H x).length=32) (ho:o.length=32) (hJ:J=XO H X.S o) (he:e=Z6T H X.S o) (hS:S'=ZcA H X.S o):
  evF G0 40 30 [pt 0,.agg [.arr .u8 32 o]] ⟨5,tbO H X⟩ (Y4 5 (.ret (.int .i64 e)) 5 (tbO H ⟨X.T,S',X.Q⟩)):=by
 refine @Eq.mpr _ (let E:=AV.agg [AV.arr u8 (32:Nat) o];let d:=X.S;let b:=d.length;let k:=skV H d;let s:=Y3 PP (31:Nat) E b k;let j:=Zn (fun (i:Nat)=>Zz E (AV.agg [AV.arr u8 (32:Nat) (H (List.getD d i h0).v)])) b;let r:=Nat.blt j b;let q:=decide ((0:Int)=e);let a:=X.T;let h:=X.Q;let p:=Za.mk a S' h;let g:=p.T;let n:=g.length;let f:=decide (a.length=n);let D:=tiV g;let C:=tiV a;let B:=Z7 (5:Nat) [] n (tkO g) D (tkO a) C;let A:=Z7 (5:Nat) [] n (tkI g) D (tkI a) C;let m:=p.S;let c:=m.length;let z:=skV H m;let y:=seV m;let x:=seV d;let l:=p.Q;let w:=l.length;let u:=Z4 (h.length=w) (Z7 (5:Nat) [] w (qkV l) (quV l) (qkV h) (quV h)/\True);let t:=Z0 f (B/\Z0 f (A/\Z4 (b=c) (Z7 (5:Nat) [] c z y k x/\u)));
 s/\Z8 r (s/\Z8 r (Z0 q (Z0 f (B/\Z0 f (A/\Z4 (b-(1:Nat)=c) (Z7 (5:Nat) [] c z y (Xi k j) (Xi x j)/\u))))) (Z0 q t)) (Z4 ((5:Int)=e) t)) (by kernel_rfl) ?_
 conv=>zeta
 try simp only [vcA]
 try simp only [vcB]
 try simp only [vcC]
 have hF:=(Zhd H X.S o).trans hJ.symm
 have hK:=ZcM H hH X.S ho
 obtain ⟨t1,t2,t3,t4⟩:=Xb H X 5 []
 simp only [hF,hK,true_and]
 cases hc:Nat.blt J X.S.length with
 | true=>
  have hj:J<X.S.length:=XL hc
  have hS:S'=X.S.eraseIdx J:=by rw [hS,ZcA,<-hJ]
  have he:0=e:=by rw [he,Z6T,<-hJ,if_pos hj]
  have el:X.S.length-1=S'.length:=by rw [hS,Kd hj]
  refine ⟨fun _=>⟨fun _=>⟨he,t1,t2,el,ZT (Z0B H _) fun j hj'=> ?_,t4⟩,nofun⟩,nofun⟩
  rw [hS]
  exact ⟨Z0E h0 (skV H) (fun _ _=>rfl) X.S J j,Z0E h0 seV (fun _ _=>rfl) X.S J j⟩
 | false=>
  have hj:¬J<X.S.length:=fun h=>by rw [YI h] at hc;cases hc
  have hS:S'=X.S:=by rw [hS,ZcA,<-hJ,Kc (by omega)]
  have he:5=e:=by rw [he,Z6T,<-hJ,if_neg hj]
  rw [hS]
  exact ⟨nofun,fun _=>⟨he,t1,t2,rfl,t3,t4⟩⟩
def Zhf (H:LI->LI):ZJ:=fun args h K=>Z0D H h args fun X t o i s a az=>match az with
 | [.ptr (some ⟨0,0,0,0,0⟩),.agg [.arr .u8 32 k]]=>∃x:H32,k=x.v/\K (.ret (.int .i64 (Qj H X.S x))) ⟨h.next,U6 H ⟨X.T,Xz H X.S x,X.Q⟩ h t o i s a⟩
 | _=>False
theorem Z9D (args:List AV) (h:Z6) (K:KO) (hl:Zhf Zf args h K):Zh PP 23 args h K:=by
 refine Xv hl fun X t o i s a az hL ha=> ?_
 split at ha
 ·obtain ⟨x,rfl,hK⟩:=ha
  exact ⟨_,_,fun _=>rfl,.evM Z9B (ZkX Zf Z8b 100 X x _ _ _ rfl hL Z0v rfl rfl rfl),hK⟩
 ·exact ha.elim
def ZiE (H:LI->LI):ZJ:=fun args h K=>Z0D H h args fun X t o i s a az=>match az with
 | [.ptr (some ⟨0,0,0,0,0⟩),.agg [.arr .u8 32 k]]=>k.length=32/\K (.ret (.int .i64 (Z6T H X.S k))) ⟨h.next,U6 H ⟨X.T,ZcA H X.S k,X.Q⟩ h t o i s a⟩
 | _=>False
theorem ZeW (args:List AV) (h:Z6) (K:KO) (hl:ZiE Zf args h K):Zh PP 30 args h K:=by
 refine Xv hl fun X t o i s a az hL ha=> ?_
 split at ha
 ·exact ⟨_,_,fun _=>rfl,.evM Zv (ZkY Zf X _ _ _ _ hL Z0v ha.1 rfl rfl rfl),ha.2⟩
 ·exact ha.elim
def ZiF (H:LI->LI):ZJ:=fun args h K=>Z0D H h args fun X t o i s a az=>match az with
 | [.ptr (some ⟨0,0,0,0,0⟩),.agg [.arr .u8 32 k]]=>k.length=32/\∀(x:H32) b,K (.ret (.tuple [.agg [.arr .u8 32 x.v],.bool b])) ⟨h.next,U6 H X h t o i s a⟩
 | _=>False
theorem ZeX (args:List AV) (h:Z6) (K:KO) (hl:ZiF Zf args h K):Zh PP 35 args h K:=by
 refine Xv hl fun X t o i s a az hL ha=> ?_
 split at ha
 ·exact ⟨_,_,fun _=>rfl,.evM Zv (ZkW Zf X _ _ _ _ Z0v ha.1 rfl rfl rfl),ha.2 _ _⟩
 ·exact ha.elim
def Zq.ic (q:Zq):List AV:=[.arr .u8 32 q.hash.v,.arr .u8 32 q.key.v,.int .i64 q.amount,.int .i64 q.least]
theorem ZkZ (H:LI->LI) (X:Za) (o:LI) (J:Nat) (x:Zq) (b:Bool) (ho:o.length=32) (hJ:J=atQ X.Q o) (hx:x=X.Q.getD J ZB) (hb:b=Nat.blt J X.Q.length):
  evF G0 40 37 [pt 0,.agg [.arr .u8 32 o]] ⟨5,tbO H X⟩ (Y4 5 (.ret (.tuple [.agg x.ic,.agg [.arr .u8 32 x.secret.v],.bool b])) 5 (tbO H X)):=by
 refine @Eq.mpr _ (let A:=AV.agg [AV.arr u8 (32:Nat) o];let d:=X.Q;let a:=d.length;let j:=qkV d;let p:=Zn (fun (i:Nat)=>Zz A (AV.agg [AV.arr u8 (32:Nat) (List.getD d i ZB).hash.v])) a;let c:=List.getD d p ZB;let h:=c.secret.v;let n:=x.hash.v;let m:=x.key.v;let z:=x.secret.v;let g:=X.T;let f:=g.length;let y:=decide (f=f);let w:=tkO g;let e:=tiV g;let u:=tkI g;let l:=X.S;let k:=l.length;let t:=skV H l;let s:=seV l;let r:=quV d;let q:=Z0 y (Z7 (5:Nat) [] f w e w e/\Z0 y (Z7 (5:Nat) [] f u e u e/\Z4 (k=k) (Z7 (5:Nat) [] k t s t s/\Z4 (a=a) (Z7 (5:Nat) [] a j r j r/\True))));
 Y3 PP (31:Nat) A a j/\Z8 (Nat.blt p a) (h=h/\c.hash.v=n/\c.key.v=m/\Z4 (c.amount=x.amount) (Z4 (c.least=x.least) (h=z/\Z4 (true=b) q))) (Ze=Ze/\Ze=n/\Ze=m/\Z4 ((0:Int)=x.amount) (Z4 ((0:Int)=x.least) (Ze=z/\Z4 (false=b) q)))) (by kernel_rfl) ?_
 conv=>zeta
 try simp only [vcA]
 try simp only [vcB]
 try simp only [vcC]
 have hF:=(ZeU X.Q o).trans hJ.symm
 have hK:=Z9C X.Q ho
 obtain ⟨t1,t2,t3,t4⟩:=Xb H X 5 []
 simp only [hF,hx.symm,hK,true_and]
 cases hc:Nat.blt J X.Q.length with
 | true=>
  rw [hb,hc]
  simp only [t1,t2,t3,t4,and_self,reduceCtorEq,false_implies,forall_const]
 | false=>
  have ex:x=ZB:=by
   rw [hx,J5,Jv (by rw [Wt] at hc;simp at hc;omega)]
   rfl
  rw [hb,hc,ex]
  exact ⟨nofun,fun _=>⟨rfl,rfl,rfl,rfl,rfl,rfl,t1,t2,t3,t4⟩⟩
theorem Zl0 (H:LI->LI) (X:Za) (o:LI) (J:Nat) (x:Zq) (Q':List Zq) (e:Int) (ho:o.length=32) (hJ:J=atQ X.Q o) (hx:x=X.Q.getD J ZB) (he:e=Z6U X.Q o) (hQ:Q'=ZcB X.Q o):
  evF G0 40 27 [pt 0,.agg [.arr .u8 32 o]] ⟨5,tbO H X⟩ (Y4 5 (.ret (.tuple [.agg [.arr .u8 32 x.secret.v],.int .i64 e])) 5 (tbO H ⟨X.T,X.S,Q'⟩)):=by
 refine @Eq.mpr _ (let J:=AV.agg [AV.arr u8 (32:Nat) o];let b:=X.Q;let a:=b.length;let k:=qkV b;let t:=Y3 PP (31:Nat) J a k;let d:=Zn (fun (i:Nat)=>Zz J (AV.agg [AV.arr u8 (32:Nat) (List.getD b i ZB).hash.v])) a;let s:=Nat.blt d a;let r:=x.secret.v;let q:=(List.getD b d ZB).secret.v=r;let I:=decide ((0:Int)=e);let c:=X.T;let j:=X.S;let p:=Za.mk c j Q';let h:=p.T;let n:=h.length;let g:=decide (c.length=n);let G:=tiV h;let F:=tiV c;let E:=Z7 (5:Nat) [] n (tkO h) G (tkO c) F;let D:=Z7 (5:Nat) [] n (tkI h) G (tkI c) F;let m:=p.S;let C:=m.length;let B:=decide (j.length=C);let A:=Z7 (5:Nat) [] C (skV H m) (seV m) (skV H j) (seV j);let l:=p.Q;let f:=l.length;let z:=qkV l;let y:=quV l;let w:=quV b;let u:=Z0 g (E/\Z0 g (D/\Z0 B (A/\Z4 (a=f) (Z7 (5:Nat) [] f z y k w/\True))));
 t/\Z8 s (t/\Z8 s (q/\Z0 I (Z0 g (E/\Z0 g (D/\Z0 B (A/\Z4 (a-(1:Nat)=f) (Z7 (5:Nat) [] f z y (Xi k d) (Xi w d)/\True)))))) (q/\Z0 I u)) (Ze=r/\Z4 ((5:Int)=e) u)) (by kernel_rfl) ?_
 conv=>zeta
 try simp only [vcA]
 try simp only [vcB]
 try simp only [vcC]
 have hF:=(ZeU X.Q o).trans hJ.symm
 have hK:=Z9C X.Q ho
 obtain ⟨t1,t2,t3,t4⟩:=Xb H X 5 []
 simp only [hF,hx.symm,hK,true_and]
 cases hc:Nat.blt J X.Q.length with
 | true=>
  have hj:J<X.Q.length:=XL hc
  have hQ:Q'=X.Q.eraseIdx J:=by rw [hQ,ZcB,<-hJ]
  have he:0=e:=by rw [he,Z6U,<-hJ,if_pos hj]
  have el:X.Q.length-1=Q'.length:=by rw [hQ,Kd hj]
  have hm:Z7 5 [] Q'.length (qkV Q') (quV Q') (Xi (qkV X.Q) J) (Xi (quV X.Q) J):=ZT (Z1K _) fun j hj'=>by
   rw [hQ]
   exact ⟨Z0E ZB qkV (fun _ _=>rfl) X.Q J j,Z0E ZB quV (fun _ _=>rfl) X.Q J j⟩
  simp only [t1,t2,t3,he,el,hm,and_self,reduceCtorEq,false_implies,forall_const,true_and,and_true]
 | false=>
  have hj:¬J<X.Q.length:=fun h=>by rw [YI h] at hc;cases hc
  have hQ:Q'=X.Q:=by rw [hQ,ZcB,<-hJ,Kc (by omega)]
  have he:5=e:=by rw [he,Z6U,<-hJ,if_neg hj]
  have ex:x=ZB:=by
   rw [hx,J5,Jv (by omega)]
   rfl
  rw [hQ,ex]
  exact ⟨nofun,fun _=>⟨rfl,he,t1,t2,t3,rfl,t4⟩⟩
theorem Zl1 (H:LI->LI) (H2:LI->LI->LI) (B:Nat) (X:Za) (q:Zq) (J:Nat) (Q':List Zq) (e:Int) (hB:B=100) (hL:X.Lim) (hH:∀x,(H x).length=32) (hJ:J=atQ X.Q q.hash.v) (he:e=YS H X.Q q) (hQ:Q'=Wh H X.Q q):
  evF (Zhc H H2 B) 40 25 [pt 0,.agg q.ic,.agg [.arr .u8 32 q.secret.v]] ⟨5,tbO H X⟩ (Y4 5 (.ret (.int .i64 e)) 5 (tbO H ⟨X.T,X.S,Q'⟩)):=by
 refine @Eq.mpr _ (let g:=q.hash.v;let q2:=AV.arr u8 (32:Nat) g;let u:=AV.agg [q2];let j:=X.Q;let b:=j.length;let h:=qkV j;let J:=Y3 PP (31:Nat) u b h;let I:=Zn (fun (i:Nat)=>Zz u (AV.agg [AV.arr u8 (32:Nat) (List.getD j i ZB).hash.v])) b;let G:=Nat.blt I b;let F:=q.amount;let a4:=decide ((1:Int)<=F);let a3:= !decide (F<=(1125899906842624:Int));let f:=X.T;let l:=X.S;let E:=Za.mk f l Q';let k:=E.T;let D:=k.length;let c:=decide (f.length=D);let a2:=tiV k;let a1:=tiV f;let C:=Z7 (5:Nat) [] D (tkO k) a2 (tkO f) a1;let A:=Z7 (5:Nat) [] D (tkI k) a2 (tkI f) a1;let z:=E.S;let a0:=z.length;let y:=decide (l.length=a0);let x:=Z7 (5:Nat) [] a0 (skV H z) (seV z) (skV H l) (seV l);let w:=E.Q;let d:=w.length;let Z:=decide (b=d);let t:=qkV w;let s:=quV w;let r:=quV j;let p:=Z0 c (C/\Z0 c (A/\Z0 y (x/\Z0 Z (Z7 (5:Nat) [] d t s h r/\True))));let a:=Z4 ((2:Int)=e) p;let o:=q.least;let Y:=decide ((1:Int)<=o);let W:= !decide (o<=(1000:Int));let V:=g=g;let n:=q.secret.v;let m:=n.length;let U:=decide (m=(32:Nat));let R:=decide ((32:Nat)=m);let P:=decide (m<=B);let O:=H n;let N:=decide (O.length=(32:Nat)/\g.length=(32:Nat));let M:= !O==g;let L:=decide ((0:Int)=e);let K:=AV.agg [q2,AV.arr u8 (32:Nat) q.key.v,AV.int i64 F,AV.int i64 o,AV.arr u8 (32:Nat) n];
 J/\Z8 G (Z8 a4 (Z8 a3 a (Z8 Y (Z8 W a (V/\Z0 U (Z0 R (Z0 P (Z0 N (Z8 M a (Z4 ((360:Int)=e) p))))))) a)) a) (Z8 a4 (Z8 a3 a (Z8 Y (Z8 W a (V/\Z0 U (Z0 R (Z0 P (Z0 N (Z8 M a (Z8 (decide ((↑b:Int)>=(16:Int))) (Z4 ((3:Int)=e) p) (J/\Z8 G (Z0 L (Z0 c (C/\Z0 c (A/\Z0 y (x/\Z0 Z (Z7 (5:Nat) [] d t s h (Wa r I K)/\True)))))) (Z0 L (Z0 c (C/\Z0 c (A/\Z0 y (x/\Z4 (b+(1:Nat)=d) (Z7 (5:Nat) [] d t s (Wa h b u) (Wa r b K)/\True)))))))))))))) a)) a)) (by kernel_rfl) ?_
 conv=>zeta
 try simp only [vcA]
 try simp only [vcB]
 try simp only [vcC]
 have hF:=(ZeU X.Q q.hash.v).trans hJ.symm
 have hK:=Z9C X.Q q.hash.l
 obtain ⟨t1,t2,t3,t4⟩:=Xb H X 5 []
 simp only [hF,hK,true_and]
 subst hB
 have hl:=q.secret.l
 have hk:∀k:Int,k≠0->YS H X.Q q=k->k=e/\Z7 5 [] X.T.length (tkO X.T) (tiV X.T) (tkO X.T) (tiV X.T)/\Z7 5 [] X.T.length (tkI X.T) (tiV X.T) (tkI X.T) (tiV X.T)/\Z7 5 [] X.S.length (skV H X.S) (seV X.S) (skV H X.S) (seV X.S)/\X.Q.length=Q'.length/\Z7 5 [] Q'.length (qkV Q') (quV Q') (qkV X.Q) (quV X.Q):=fun k h0 hk=>by
  have:Q'=X.Q:=by rw [hQ,Wh,if_neg (by omega)]
  rw [this,he,hk]
  exact ⟨rfl,t1,t2,t3,rfl,t4⟩
 have k2:¬(Xa H q=true)->YS H X.Q q=2:=fun h=>by rw [YS,if_neg h]
 have ok:Xa H q=true↔(1<=q.amount/\q.amount<=1125899906842624)/\(1<=q.least/\q.least<=1000)/\(H q.secret.v==q.hash.v)=true:=by
  unfold Xa
  rw [J2,J2,decide_eq_true_eq,decide_eq_true_eq,and_assoc]
 have k3:Xa H q=true->YS H X.Q q=if J<X.Q.length then 360 else if 16<=X.Q.length then 3 else 0:=fun h=>by rw [YS,if_pos h,<-hJ]
 cases hc:Nat.blt J X.Q.length
 all_goals
  first|refine ⟨fun h=>absurd h (by decide),fun _=> ?_⟩|refine ⟨fun _=> ?_,fun h=>absurd h (by decide)⟩
  refine ⟨fun a0=>⟨fun a1=>hk 2 (by decide) (k2 fun h=> ?_),fun a1=>⟨fun b0=>⟨fun b1=>hk 2 (by decide) (k2 fun h=> ?_),fun b1=>⟨hl,hl.symm,by omega,⟨hH _,q.hash.l⟩,fun c1=>hk 2 (by decide) (k2 fun h=> ?_),fun c1=> ?_⟩⟩,fun b0=>hk 2 (by decide) (k2 fun h=> ?_)⟩⟩,fun a0=>hk 2 (by decide) (k2 fun h=> ?_)⟩
  ·have:=ok.1 h;simp only [Jy,decide_eq_false_iff_not] at a1;omega
  ·have:=ok.1 h;simp only [Jy,decide_eq_false_iff_not] at b1;omega
  ·have:=(ok.1 h).2.2;rw [this] at c1;cases c1
  rotate_left
  ·have:=ok.1 h;omega
  ·have:=ok.1 h;omega
  simp only [Bool.not_eq_false',decide_eq_true_eq] at a1 b1
  have c2:(H q.secret.v==q.hash.v)=true:=by simpa using c1
  have k3:=k3 (ok.2 ⟨⟨a0,a1⟩,⟨b0,b1⟩,c2⟩)
 ·have hj:¬J<X.Q.length:=fun h=>by rw [YI h] at hc;cases hc
  rw [if_neg hj] at k3
  refine ⟨fun g=>hk 3 (by decide) (by rw [k3,if_pos (by omega)]),fun g=>⟨nofun,fun _=> ?_⟩⟩
  rw [if_neg (by omega)] at k3
  have hQ:Q'=X.Q++[q]:=by rw [hQ,Wh,if_pos k3]
  have el:X.Q.length+1=Q'.length:=by rw [hQ,J3];rfl
  refine ⟨by rw [he,k3],t1,t2,t3,el,ZT (Z1K _) fun j hj'=> ?_⟩
  rw [hQ]
  exact ⟨Z2g ZB qkV (fun _ _=>rfl) X.Q q (by omega),Z2g ZB quV (fun _ _=>rfl) X.Q q (by omega)⟩
 ·rw [if_pos (XL hc)] at k3
  exact hk 360 (by decide) k3
def ZcN (H:LI->LI):ZJ:=fun args h K=>Z0D H h args fun X t o i s a az=>match az with
 | [.ptr (some ⟨0,0,0,0,0⟩),.agg cs,.agg [.arr .u8 32 k]]=>∃q:Zq,(cs=q.ic/\k=q.secret.v)/\K (.ret (.int .i64 (YS H X.Q q))) ⟨h.next,U6 H ⟨X.T,X.S,Wh H X.Q q⟩ h t o i s a⟩
 | _=>False
theorem Z6X (args:List AV) (h:Z6) (K:KO) (hl:ZcN Zf args h K):Zh PP 25 args h K:=by
 refine Xv hl fun X t o i s a az hL ha=> ?_
 split at ha
 ·obtain ⟨q,⟨rfl,rfl⟩,hK⟩:=ha
  exact ⟨_,_,fun _=>rfl,.evM Z9B (Zl1 Zf Z8b 100 X q _ _ _ rfl hL Z0v rfl rfl rfl),hK⟩
 ·exact ha.elim
def ZiG (H:LI->LI):ZJ:=fun args h K=>Z0D H h args fun X t o i s a az=>match az with
 | [.ptr (some ⟨0,0,0,0,0⟩),.agg [.arr .u8 32 k]]=>k.length=32/\K (.ret (.tuple [.agg [.arr .u8 32 (X.Q.getD (atQ X.Q k) ZB).secret.v],.int .i64 (Z6U X.Q k)])) ⟨h.next,U6 H ⟨X.T,X.S,ZcB X.Q k⟩ h t o i s a⟩
 | _=>False
theorem ZeY (H:LI->LI) (args:List AV) (h:Z6) (K:KO) (hl:ZiG H args h K):Zh PP 27 args h K:=by
 refine Xv hl fun X t o i s a az hL ha=> ?_
 split at ha
 ·exact ⟨_,_,fun _=>rfl,.evM Zv (Zl0 H X _ _ _ _ _ ha.1 rfl rfl rfl rfl),ha.2⟩
 ·exact ha.elim
def ZiH (H:LI->LI):ZJ:=fun args h K=>Z0D H h args fun X t o i s a az=>match az with
 | [.ptr (some ⟨0,0,0,0,0⟩),.agg [.arr .u8 32 k]]=>k.length=32/\∀(q:Zq) b,K (.ret (.tuple [.agg q.ic,.agg [.arr .u8 32 q.secret.v],.bool b])) ⟨h.next,U6 H X h t o i s a⟩
 | _=>False
theorem ZeZ (H:LI->LI) (args:List AV) (h:Z6) (K:KO) (hl:ZiH H args h K):Zh PP 37 args h K:=by
 refine Xv hl fun X t o i s a az hL ha=> ?_
 split at ha
 ·exact ⟨_,_,fun _=>rfl,.evM Zv (ZkZ H X _ _ _ _ ha.1 rfl rfl rfl),ha.2 _ _⟩
 ·exact ha.elim
structure Z0F where
 own:Bool
 id:Int
 amount:Int
 hash:H32
 expiry:Int
 stage:Int
 fin:Int
 secret:H32
def Z0F.c (p:Z0F):List AV:=[.bool p.own,.int .i64 p.id,.int .i64 p.amount,.arr .u8 32 p.hash.v,.int .i64 p.expiry,.int .i64 p.stage,.int .i64 p.fin,.arr .u8 32 p.secret.v]
structure Z0G where
 key:H32
 next:H32
 amount:Int
 expiry:Int
def Z0G.c (p:Z0G):List AV:=[.arr .u8 32 p.key.v,.arr .u8 32 p.next.v,.int .i64 p.amount,.int .i64 p.expiry]
def enZ (f:Bool) (x:Zq) (p:Z0F) (q:Z0G) (ht:Int):Int:=if f=true then (if p.amount<x.amount then 32 else if p.amount<q.amount then 32 else if p.expiry>=ht then (if (!decide (u64.wrap (u64.wrap p.expiry-u64.wrap ht)>=u64.wrap x.least))=true then 33 else if p.expiry<q.expiry then 33 else 0) else 33) else 31
theorem Zl2 (H:LI->LI) (X:Za) (p:Z0F) (q:Z0G) (ht:Int) (J:Nat) (e:Int) (hL:X.Lim) (hJ:J=atQ X.Q p.hash.v) (he:e=enZ (Nat.blt J X.Q.length) (X.Q.getD J ZB) p q ht):
  evF G0 40 39 [pt 0,.agg p.c,.agg q.c,.int .i64 ht] ⟨5,tbO H X⟩ (Y4 5 (.ret (.int .i64 e)) 5 (tbO H X)):=by
 refine @Eq.mpr _ (let z:=AV.agg [AV.arr u8 (32:Nat) p.hash.v];let b:=X.Q;let a:=b.length;let h:=qkV b;let r:=Zn (fun (i:Nat)=>Zz z (AV.agg [AV.arr u8 (32:Nat) (List.getD b i ZB).hash.v])) a;let o:=List.getD b r ZB;let d:=X.T;let c:=d.length;let n:=decide (c=c);let y:=tkO d;let g:=tiV d;let x:=tkI d;let m:=X.S;let l:=m.length;let w:=skV H m;let u:=seV m;let t:=quV b;let f:=Z0 n (Z7 (5:Nat) [] c y g y g/\Z0 n (Z7 (5:Nat) [] c x g x g/\Z4 (l=l) (Z7 (5:Nat) [] l w u w u/\Z4 (a=a) (Z7 (5:Nat) [] a h t h t/\True))));let s:=Z4 ((32:Int)=e) f;let k:=p.expiry;let j:=Z4 ((33:Int)=e) f;
 Y3 PP (31:Nat) z a h/\Z8 (Nat.blt r a) (Z8 (decide (p.amount<o.amount)) s (Z8 (decide (p.amount<q.amount)) s (Z8 (decide (k>=ht)) (Z8 (!decide (wrap u64 (wrap u64 k-wrap u64 ht)>=wrap u64 o.least)) j (Z8 (decide (k<q.expiry)) j (Z4 ((0:Int)=e) f))) j))) (Z4 ((31:Int)=e) f)) (by kernel_rfl) ?_
 conv=>zeta
 try simp only [vcA]
 try simp only [vcB]
 try simp only [vcC]
 have hF:=(ZeU X.Q p.hash.v).trans hJ.symm
 have hK:=Z9C X.Q p.hash.l
 obtain ⟨t1,t2,t3,t4⟩:=Xb H X 5 []
 simp only [hF,hK,t1,t2,t3,t4,true_and,and_true]
 rw [he]
 unfold enZ
 cases Nat.blt J X.Q.length with
 | false=>exact ⟨fun h=>absurd h (by decide),fun _=>rfl⟩
 | true=>
  refine ⟨fun _=>⟨fun a=> ?_,fun a=>⟨fun b=> ?_,fun b=>⟨fun c=>⟨fun d=> ?_,fun d=>⟨fun f=> ?_,fun f=> ?_⟩⟩,fun c=> ?_⟩⟩⟩,fun h=>absurd h (by decide)⟩
  all_goals
   rw [if_pos rfl]
   first|rw [if_pos a]|rw [if_neg a]
   try (first|rw [if_pos b]|rw [if_neg b])
   try (first|rw [if_pos c]|rw [if_neg c])
   try (first|rw [if_pos d]|rw [if_neg (by rw [d];decide)])
   try (first|rw [if_pos f]|rw [if_neg f])
def Zg7 (H:LI->LI):ZJ:=fun args h K=>Z0D H h args fun X t o i s a az=>match az with
 | [.ptr (some ⟨0,0,0,0,0⟩),.agg cs,.agg ds,.int .i64 ht]=>∃(p:Z0F) (q:Z0G),(cs=p.c/\ds=q.c)/\∀e,K (.ret (.int .i64 e)) ⟨h.next,U6 H X h t o i s a⟩
 | _=>False
theorem ZcO (H:LI->LI) (args:List AV) (h:Z6) (K:KO) (hl:Zg7 H args h K):Zh PP 39 args h K:=by
 refine Xv hl fun X t o i s a az hL ha=> ?_
 split at ha
 ·obtain ⟨p,q,⟨rfl,rfl⟩,hK⟩:=ha
  exact ⟨_,_,fun _=>rfl,.evM Zv (Zl2 H X p q _ _ _ hL rfl rfl),hK _⟩
 ·exact ha.elim
def U7 {α:Type} (d:α) (c:α->List AV) (L:List α) (i:Nat):List AV:=c (L.getD i d)
structure Zf0 {α:Type} (c:α->List AV):Prop where
 p:∀x,YA (c x)=true
 a:∀x,∀v∈c x,v.isCell=true\/∃k n xs,v=.arr k n xs
theorem Zi {d:α} {c:α->List AV} (hc:Zf0 c) {L:List α} {k:Nat} {τ:Ren} {n:Nat} {f:Nat->List AV} (h:∀i,i<n->f i=U7 d c L i):Z5 k τ n (U7 d c L) f:=
 Qa h (fun i _=>hc.p _) fun i _ v hv=>hc.a _ v hv
theorem Y9 {d:α} {c:α->List AV} {L:List α} {x:α} {f:Nat->List AV} (hf:f 0=c x) {i:Nat} (hi:i<L.length+1):X8 L.length (U7 d c L) f i=U7 d c (L++[x]) i:=by
 unfold U7
 rcases Jo i L.length with h|h
 ·rw [Z9f h,getD_lt _ _ h]
 ·obtain rfl:i=L.length:=by omega
  rw [Z9g (J1 _),Nat.sub_self,hf,Z0A]
theorem U2 {d:α} {c:α->List AV} {L:List α} {x y:α} {f g:Nat->List AV} (hf:f 0=c x) (hg:g 0=c y) {i:Nat} (hi:i<L.length+1+1):X8 (L.length+1) (X8 L.length (U7 d c L) f) g i=U7 d c (L++[x,y]) i:=by
 have e:L++[x,y]=(L++[x])++[y]:=by simp
 have el:(L++[x]).length=L.length+1:=by simp
 rw [e]
 rcases Jo i (L.length+1) with h|h
 ·rw [Z9f h,Y9 hf h]
  unfold U7
  rw [getD_lt d (T:=L++[x]) y (by omega)]
 ·obtain rfl:i=L.length+1:=by omega
  rw [Z9g (J1 _),Nat.sub_self,hg]
  unfold U7
  rw [<-el,Z0A]
def Zq.c (q:Zq):List AV:=[.arr .u8 32 q.hash.v,.arr .u8 32 q.key.v,.int .i64 q.amount,.int .i64 q.least,.arr .u8 32 q.secret.v]
def VF (x:H32):List AV:=[.arr .u8 32 x.v]
theorem Yb:Zf0 Zl.c:=⟨fun _=>rfl,fun x v hv=>by
 simp only [Zl.c,J7,JH,or_false] at hv
 rcases hv with rfl|rfl|rfl|rfl<;>first|exact .inl rfl|exact .inr ⟨_,_,_,rfl⟩⟩
theorem Yh:Zf0 VF:=⟨fun _=>rfl,fun x v hv=>by
 simp only [VF,J7,JH,or_false] at hv
 exact .inr ⟨_,_,_,hv⟩⟩
theorem Yc:Zf0 Zq.c:=⟨fun _=>rfl,fun x v hv=>by
 simp only [Zq.c,J7,JH,or_false] at hv
 rcases hv with rfl|rfl|rfl|rfl|rfl<;>first|exact .inl rfl|exact .inr ⟨_,_,_,rfl⟩⟩
def tiR (L:List Zl):Nat->List AV:=U7 Zr Zl.c L
def seR (L:List H32):Nat->List AV:=U7 h0 VF L
def quR (L:List Zq):Nat->List AV:=U7 ZB Zq.c L
def dcB (D:Za):List (Nat×Blk):=[(0,.rows 66 D.T.length (tiR D.T)),(1,.rows 32 D.S.length (seR D.S)),(2,.rows 98 D.Q.length (quR D.Q))]
def dcC (D:Za):List AV:=[.nslice ⟨0,0,66,0,0⟩ 66 D.T.length D.T.length,.nslice ⟨1,0,32,0,0⟩ 32 D.S.length D.S.length,.nslice ⟨2,0,98,0,0⟩ 98 D.Q.length D.Q.length]
structure ZO (D:Za):Prop where
 t:D.T.length<=48
 s:D.S.length<=64
 q:D.Q.length<=16
theorem Vg (D:Za) (k:Nat) (τ:Ren):Z5 k τ D.T.length (tiR D.T) (tiR D.T)/\Z5 k τ D.S.length (seR D.S) (seR D.S)/\Z5 k τ D.Q.length (quR D.Q) (quR D.Q):=⟨Zi Yb fun _ _=>rfl,Zi Yh fun _ _=>rfl,Zi Yc fun _ _=>rfl⟩
def dt0 (D:Za) (x:Zl) (i:Nat):St:=⟨112,[(6,.int .i64 i),(2,pt 3),(3,pt 4),(4,pt 5)],⟨6,(5,.flat [.nilslice,.nilslice,.nilslice])::(4,.flat x.c)::(3,.flat (dcC D))::dcB D⟩,[]⟩
def ZiI (D:Za) (x:Zl):St:=⟨112,[(2,pt 3),(3,pt 4),(4,pt 5)],⟨6,(5,.flat [.nilslice,.nilslice,.nilslice])::(4,.flat x.c)::(3,.flat (dcC D))::dcB D⟩,[]⟩
def ZiJ (D:Za):St:=⟨112,[(4,pt 3),(5,.int .i64 360)],⟨4,(3,.flat (dcC D))::dcB D⟩,[]⟩
def dtN:St:=⟨112,[],⟨0,[]⟩,[]⟩
theorem Zl3 (D:Za) (x:Zl) (i:Nat) (Z1 Z2 Z3:Prop) (hL:ZO D) (hi:i<=D.T.length) (h1:i<D.T.length->Z6S x (D.T.getD i Zr)=false->Z1) (h2:i=D.T.length->Z2) (h3:i<D.T.length->Z6S x (D.T.getD i Zr)=true->Z3):
  ZA G0 40 20 0 3 (dt0 D x i) (rdM 3 0 9 (dt0 D x (i+1)) (ZiI D x) (ZiJ D) dtN Z1 Z2 Z3 False):=by
 refine @Eq.mpr _ (let u:=D.T;let a:=u.length;let C:=0+Int.toNat (↑i:Int);let h:=List.getD u C Zr;let w:=h.inn.v;let g:=x.inn.v;let o:=x.inID;let b:=decide (a=a);let n:=decide (a<=a);let f:=D.S.length;let e:=decide (f=f);let t:=decide (f<=f);let d:=D.Q.length;let c:=decide (d=d);let s:=decide (d<=d);let r:=[(3,5)];let m:=tiR u;let l:=seR D.S;let k:=quR D.Q;let K:=Z0 b (Z0 n (Z0 e (Z0 t (Z0 c (Z0 s (Z0 b (Z5 3 r a m m/\Z0 e (Z5 3 r f l l/\Z0 c (Z5 3 r d k k/\Z3)))))))));let J:=h.out.v;let j:=x.out.v;let q:=x.outID;let I:=g=g;let H:=decide (o=o);let G:=j=j;let F:=decide (q=q);let p:=[(5,5),(4,4),(3,3)];let E:=Z5 3 p a m m;let B:=Z5 3 p f l l;let A:=Z5 3 p d k k;let z:=Z4 (wrap i64 ((↑i:Int)+1)=(↑(i+1):Int)) (I/\Z0 H (G/\Z0 F (Z0 b (Z0 n (Z0 e (Z0 t (Z0 c (Z0 s (Z0 b (E/\Z0 e (B/\Z0 c (A/\Z1))))))))))));let y:=Z4 (J.length=32/\j.length=32) (Z8 (J==j) (Z8 (h.outID==q) K z) z);
 Z8 (decide ((↑i:Int)<(↑a:Int))) (Z4 (0<=(↑i:Int)/\(↑i:Int)<(↑a:Int)) (Z4 (C<a) (Z4 (w.length=32/\g.length=32) (Z8 (w==g) (Z8 (h.inID==o) K y) y)))) (I/\Z0 H (G/\Z0 F (Z0 b (Z0 n (Z0 e (Z0 t (Z0 c (Z0 s (Z0 b (E/\Z0 e (B/\Z0 c (A/\Z2))))))))))))) (by kernel_rfl) ?_
 conv=>zeta
 try simp only [vcA]
 try simp only [vcB]
 try simp only [vcC]
 have hR:=Vg D 3
 refine ⟨fun hc=> ?_,fun hc=>⟨(hR _).1,(hR _).2.1,(hR _).2.2,h2 (by omega)⟩⟩
 have hlt:i<D.T.length:=by omega
 have hlim:=hL.t
 have hw:i64.wrap ((i:Int)+1)=((i+1:Nat):Int):=by rw [w64 (by omega)];omega
 have h1:=h1 hlt
 have h3:=h3 hlt
 generalize D.T.getD i Zr=y at*
 unfold Z6S Wg Yf at h1 h3
 refine ⟨by omega,hlt,⟨y.inn.l,x.inn.l⟩,fun k1=>⟨fun k2=>⟨(hR _).1,(hR _).2.1,(hR _).2.2,h3 (by simp [k1,k2])⟩,fun k2=>⟨⟨y.out.l,x.out.l⟩,fun k3=>⟨fun k4=>⟨(hR _).1,(hR _).2.1,(hR _).2.2,h3 (by simp [k1,k2,k3,k4])⟩,fun k4=>⟨hw,(hR _).1,(hR _).2.1,(hR _).2.2,h1 (by simp [k1,k2,k3,k4])⟩⟩,fun k3=>⟨hw,(hR _).1,(hR _).2.1,(hR _).2.2,h1 (by simp [k1,k2,k3])⟩⟩⟩,fun k1=>⟨⟨y.out.l,x.out.l⟩,fun k3=>⟨fun k4=>⟨(hR _).1,(hR _).2.1,(hR _).2.2,h3 (by simp [k1,k3,k4])⟩,fun k4=>⟨hw,(hR _).1,(hR _).2.1,(hR _).2.2,h1 (by simp [k1,k3,k4])⟩⟩,fun k3=>⟨hw,(hR _).1,(hR _).2.1,(hR _).2.2,h1 (by simp [k1,k3])⟩⟩⟩
def dt2 (D:Za) (x:Zl) (L:List Zl) (b:Bool) (i:Nat):St:=⟨112,[(10,.int .i64 i),(2,pt 3),(3,pt 4),(9,.bool b),(8,.nslice ⟨6,0,66,0,0⟩ 66 L.length L.length),(4,pt 5)],⟨7,(6,.rows 66 L.length (tiR L))::(5,.flat [.nilslice,.nilslice,.nilslice])::(4,.flat x.c)::(3,.flat (dcC D))::dcB D⟩,[]⟩
def ZiK (D:Za) (x:Zl) (L:List Zl) (b:Bool):St:=⟨112,[(2,pt 3),(3,pt 4),(9,.bool b),(8,.nslice ⟨6,0,66,0,0⟩ 66 L.length L.length),(4,pt 5)],⟨7,(6,.rows 66 L.length (tiR L))::(5,.flat [.nilslice,.nilslice,.nilslice])::(4,.flat x.c)::(3,.flat (dcC D))::dcB D⟩,[]⟩
noncomputable def Z3W:Zg:=G0.withP 74 Zha
theorem Z2h:Z3W.Ok:=Zg.withP_ok Zv ZeR
theorem Zl4 (D:Za) (x:Zl) (L L':List Zl) (b b':Bool) (i:Nat) (Z1 Z2:Prop) (hL:ZO D) (hi:i<=D.T.length) (hb:b=ZZ ltT x D.T i) (hl:L=Y0 ltT x D.T i) (hb':b'=ZZ ltT x D.T (i+1)) (hl':L'=Y0 ltT x D.T (i+1)) (h1:i<D.T.length->Z1) (h2:i=D.T.length->Z2):
  ZA Z3W 40 20 2 3 (dt2 D x L b i) (rdM 3 2 9 (dt2 D x L' b' (i+1)) (ZiK D x L b) dtN dtN Z1 Z2 False False):=by
 refine @Eq.mpr _ (let N:=D.T;let a:=N.length;let U:=0+Int.toNat (↑i:Int);let o:=x.out.v;let q:=List.getD N U Zr;let y:=q.out.v;let O:=ZQ o y;let c:=L.length;let p:=decide (c=c);let f:=c+1;let Z:=decide (f*80<=140737488355328);let M:=f+1;let Y:=decide (wrap i64 ((↑i:Int)+1)=(↑(i+1):Int));let n:=L'.length;let X:=decide (M=n);let K:=[(4,4),(3,3)];let w:=(5,5)::(6,11)::K;let u:=tiR L;let J:=x.inn.v;let I:=x.inID;let t:=x.outID;let W:=q.outID;let V:=XD [AV.arr u8 32 q.inn.v,AV.int i64 q.inID,AV.arr u8 32 y,AV.int i64 W] 0 66;let H:=J=J;let G:=decide (I=I);let F:=o=o;let E:=decide (t=t);let m:=decide (a=a);let C:=decide (a<=a);let e:=D.S.length;let l:=decide (e=e);let B:=decide (e<=e);let d:=D.Q.length;let k:=decide (d=d);let A:=decide (d<=d);let j:=tiR N;let h:=seR D.S;let g:=quR D.Q;let R:=Z0 p (Z0 Z (Z4 (f=f) (Z4 (M*80<=140737488355328) (Z0 Y (Z4 (true=b') (Z0 X (Z4 (n<=M) (Z0 X (Z5 3 w n (tiR L') (X8 f (X8 c u (XD [AV.arr u8 32 J,AV.int i64 I,AV.arr u8 32 o,AV.int i64 t] 0 66)) V)/\H/\Z0 G (F/\Z0 E (Z0 m (Z0 C (Z0 l (Z0 B (Z0 k (Z0 A (Z0 m (Z5 3 w a j j/\Z0 l (Z5 3 w e h h/\Z0 k (Z5 3 w d g g/\Z1))))))))))))))))))));let P:=decide (f=n);let s:=(5,5)::(6,9)::K;let z:=Z0 p (Z0 Z (Z0 Y (Z4 (b=b') (Z0 P (Z4 (n<=f) (Z0 P (Z5 3 s n (tiR L') (X8 c u V)/\H/\Z0 G (F/\Z0 E (Z0 m (Z0 C (Z0 l (Z0 B (Z0 k (Z0 A (Z0 m (Z5 3 s a j j/\Z0 l (Z5 3 s e h h/\Z0 k (Z5 3 s d g g/\Z1))))))))))))))))));let r:=(5,5)::(6,6)::K;
 Z8 (decide ((↑i:Int)<(↑a:Int))) (Z4 (0<=(↑i:Int)/\(↑i:Int)<(↑a:Int)) (Z4 (U<a) ((o.length=32/\y.length=32)/\Z8 (!b) (Z8 (decide (O<0)) R (Z8 (O==0) (Z8 (decide (t<W)) R z) z)) z))) (Z4 (b=b) (Z0 p (Z4 (c<=c) (Z0 p (Z5 3 r c u u/\H/\Z0 G (F/\Z0 E (Z0 m (Z0 C (Z0 l (Z0 B (Z0 k (Z0 A (Z0 m (Z5 3 r a j j/\Z0 l (Z5 3 r e h h/\Z0 k (Z5 3 r d g g/\Z2))))))))))))))))) (by kernel_rfl) ?_
 conv=>zeta
 try simp only [vcA]
 try simp only [vcB]
 try simp only [vcC]
 have hR:=Vg D 3
 have hlim:=hL.t
 have hll:L.length<=D.T.length+1:=by rw [hl];exact XP
 refine ⟨fun hc=> ?_,fun hc=>⟨Zi Yb fun _ _=>rfl,(hR _).1,(hR _).2.1,(hR _).2.2,h2 (by omega)⟩⟩
 have hlt:i<D.T.length:=by omega
 have hw:i64.wrap ((i:Int)+1)=((i+1:Nat):Int):=by rw [w64 (by omega)];omega
 have h1:=h1 hlt
 have hS:=UM Zr (lt:=ltT) (x:=x) hlt
 have hB:=Wr Zr (lt:=ltT) (x:=x) hlt
 rw [<-hl',<-hl,<-hb] at hS
 rw [<-hb',<-hb] at hB
 generalize D.T.getD i Zr=y at*
 have hi:=Z5N x y
 have hn:=Z5O x y
 refine ⟨by omega,hlt,⟨x.out.l,y.out.l⟩,fun kb=>⟨fun c1=> ?_,fun c1=>⟨fun c2=>⟨fun c3=> ?_,fun c3=> ?_⟩,fun c2=> ?_⟩⟩,fun kb=> ?_⟩
 rotate_left
 ·have q:ltT x y=true:=hi.2 (.inr ⟨by simpa using c2,c3⟩)
  rw [q] at hS hB
  rw [if_pos (by rw [Bool.and_true];exact kb)] at hS
  have el:L.length+1+1=L'.length:=by rw [hS,J3];rfl
  exact ⟨by omega,by omega,hw,by rw [hB,Bool.or_true],el,Jp el.symm,el,Zi Yb fun j hj=>by
   have hj':j<L.length+1+1:=by omega
   rw [hS]
   exact U2 (L:=L) (x:=x) (y:=y) rfl rfl hj',(hR _).1,(hR _).2.1,(hR _).2.2,h1⟩
 rotate_right
 ·have q:ltT x y=true:=hi.2 (.inl c1)
  rw [q] at hS hB
  rw [if_pos (by rw [Bool.and_true];exact kb)] at hS
  have el:L.length+1+1=L'.length:=by rw [hS,J3];rfl
  exact ⟨by omega,by omega,hw,by rw [hB,Bool.or_true],el,Jp el.symm,el,Zi Yb fun j hj=>by
   have hj':j<L.length+1+1:=by omega
   rw [hS]
   exact U2 (L:=L) (x:=x) (y:=y) rfl rfl hj',(hR _).1,(hR _).2.1,(hR _).2.2,h1⟩
 all_goals
  have q:(!b&&ltT x y)=false/\(b||ltT x y)=b:=by
   cases b with
   | true=>exact ⟨rfl,rfl⟩
   | false=>
    have:ltT x y=false:=hn.2 (by
     first
      | (have c2:ZQ x.out.v y.out.v=0:=(by simpa using c2);omega)
      | (have c2:ZQ x.out.v y.out.v≠0:=(by simpa using c2);omega)
      | simp at kb)
    rw [this]
    exact ⟨rfl,rfl⟩
  rw [if_neg (by rw [q.1];decide)] at hS
  have el:L.length+1=L'.length:=by rw [hS,J3];rfl
  exact ⟨by omega,hw,by rw [hB,q.2],el,Jp el.symm,el,Zi Yb fun j hj=>by
   have hj':j<L.length+1:=by omega
   rw [hS]
   exact Y9 (L:=L) (x:=y) rfl hj',(hR _).1,(hR _).2.1,(hR _).2.2,h1⟩
theorem VG (G:Zg) (f:FuncId) (S:YK):(G.withP f S).P=G.P:=rfl
theorem Xm (G:Zg) (f:FuncId) (id:Nat) (S:Nat->St->KE->Prop):(G.withL f id S).P=G.P:=rfl
noncomputable def ZiL (D:Za) (x:Zl):Zg:=(Z3W.withL 20 0 (goM 3 (dt0 D x 0) (ZO D) (Yn 0 D.T.length 9 (fun i=>Z6S x (D.T.getD i Zr)=false) (fun i=>i=D.T.length) (fun i=>i<D.T.length/\Z6S x (D.T.getD i Zr)=true) (fun _=>False) (fun _=>ZiI D x) (fun _=>ZiJ D) (fun _=>dtN)))).withL 20 2 (goM 3 (dt2 D x [] false 0) (ZO D) (Yn 2 D.T.length 9 (fun i=>i<D.T.length) (fun i=>i=D.T.length) (fun _=>False) (fun _=>False) (fun i=>ZiK D x (Y0 ltT x D.T i) (ZZ ltT x D.T i)) (fun _=>dtN) (fun _=>dtN)))
theorem Zf1 (D:Za) (x:Zl):(ZiL D x).Ok:=by
 refine Zg.withL_join (H:=Z3W) (Zg.withL_join (H:=G0) Z2h (by unfold Z3W;simp only [VG]) (Zg.withGoM (N:=40) (k:=3) (n:=D.T.length) (l:=9) (S:=fun i=>dt0 D x i) Zv (by kernel_rfl) fun hC=>⟨rfl,fun i hi _=>Zl3 D x i _ _ _ hC hi (fun h1 h2=>⟨h2,h1⟩) (fun h=>h) fun h1 h2=>⟨h1,h2⟩⟩)) (by simp only [Xm]) (Zg.withGoM (N:=40) (k:=3) (n:=D.T.length) (l:=9) (S:=fun i=>dt2 D x (Y0 ltT x D.T i) (ZZ ltT x D.T i) i) Z2h (by kernel_rfl) fun hC=>⟨rfl,fun i hi _=>Zl4 D x _ _ _ _ i _ _ hC hi rfl rfl rfl rfl (fun h=>⟨h,h⟩) fun h=>h⟩)
theorem Zl5 (D:Za) (x:Zl) (D':List Zl) (e:Int) (hL:ZO D) (he:e=YQ D.T x) (hD:D'=Qi D.T x):
  evF (ZiL D x) 40 20 [.agg (dcC D),.agg x.c] ⟨3,dcB D⟩ (Y4 3 (.ret (.tuple [.agg [.nslice ⟨3,0,66,0,0⟩ 66 D'.length D'.length,.nslice ⟨1,0,32,0,0⟩ 32 D.S.length D.S.length,.nslice ⟨2,0,98,0,0⟩ 98 D.Q.length D.Q.length],.int .i64 e])) 4 [(3,.rows 66 D'.length (tiR D')),(1,.rows 32 D.S.length (seR D.S)),(2,.rows 98 D.Q.length (quR D.Q))]):=by
 refine @Eq.mpr _ (let q:=x.inID;let p:=x.outID;let o:=D.T;let a:=o.length;let d:=D'.length;let r:=decide (a=d);let w:=decide (d<=a);let f:=D.S.length;let b:=decide (f=f);let m:=decide (f<=f);let k:=D.Q.length;let c:=decide (k=k);let l:=decide (k<=k);let G:=[(3,0)];let F:=tiR o;let h:=seR D.S;let g:=quR D.Q;let E:=Z0 r (Z5 3 G d (tiR D') F/\Z0 b (Z5 3 G f h h/\Z0 c (Z5 3 G k g g/\True)));let t:=Z0 r (Z0 w (Z0 b (Z0 m (Z0 c (Z0 l (Z4 (2=e) E))))));let C:=x.inn.v;let W:=C=C;let V:=decide (q=q);let B:=x.out.v;let U:=B=B;let R:=decide (p=p);let s:=decide (a=a);let P:=decide (a<=a);let A:=[(5,5),(4,4),(3,3)];let O:=Z5 3 A a F F;let N:=Z5 3 A f h h;let M:=Z5 3 A k g g;let L:=decide (0=e);let z:=[(3,8)];let y:=[(3,6)];
 Z8 (decide (q>=0)) (Z8 (decide (q<=2147483647)) (Z8 (decide (p>=0)) (Z8 (!decide (p<=2147483647)) t (W/\
 Z0 V (U/\
 Z0 R (Z0 s (Z0 P (Z0 b (Z0 m (Z0 c (Z0 l (Z0 s (O/\
 Z0 b (N/\
 Z0 c (M/\
 ZO D/\
 ∀(i:Nat),
 i<=a->
 (∀(j:Nat),j<i->(fun (i:Nat)=>Z6S x (List.getD o i Zr)=false) j)->
 (i=a->
 Z8 (decide ((↑a:Int)>=48)) (Z0 r (Z0 w (Z0 b (Z0 m (Z0 c (Z0 l (Z4 (3=e) E))))))) (W/\
 Z0 V (U/\
 Z0 R (Z0 s (Z0 P (Z0 b (Z0 m (Z0 c (Z0 l (Z0 s (O/\
 Z0 b (N/\
 Z0 c (M/\
 ZO D/\
 ∀(i:Nat),
 let K:=Y0 ltT x o i;let n:=K.length;let u:=n+1;let J:=decide (u=d);let I:=tiR K;let H:=decide (n=d);
 i<=a->(∀(j:Nat),j<i->(fun (i:Nat)=>i<a) j)->(i=a->Z8 (!ZZ ltT x o i) (Z4 (n=n) (Z4 (u*80<=140737488355328) (Z0 J (Z4 (d<=u) (Z0 b (Z0 m (Z0 c (Z0 l (Z0 L (Z0 J (Z5 3 z d (tiR D') (X8 n I (XD [AV.arr u8 32 C,AV.int i64 q,AV.arr u8 32 B,AV.int i64 p] 0 66))/\Z0 b (Z5 3 z f h h/\Z0 c (Z5 3 z k g g/\True))))))))))))) (Z0 H (Z4 (d<=n) (Z0 b (Z0 m (Z0 c (Z0 l (Z0 L (Z0 H (Z5 3 y d (tiR D') I/\Z0 b (Z5 3 y f h h/\Z0 c (Z5 3 y k g g/\True))))))))))))/\(False->False)/\(False->False))))))))))))))/\
 (i<a/\Z6S x (List.getD o i Zr)=true->Z0 r (Z0 w (Z0 b (Z0 m (Z0 c (Z0 l (Z4 (360=e) E)))))))/\(False->False)))))))))))))) t) t) t) (by kernel_rfl) ?_
 conv=>zeta
 try simp only [vcA]
 try simp only [vcB]
 try simp only [vcC]
 have hR:=Vg D 3
 have hlim:=hL.t
 have hk:∀(k:Int) (τ:Ren),k≠0->YQ D.T x=k->D.T.length=D'.length/\D'.length<=D.T.length/\k=e/\D.T.length=D'.length/\Z5 3 τ D'.length (tiR D') (tiR D.T)/\Z5 3 τ D.S.length (seR D.S) (seR D.S)/\Z5 3 τ D.Q.length (quR D.Q) (quR D.Q):=fun k τ h0 hk=>by
  have:D'=D.T:=by rw [hD,Qi,if_neg (by omega)]
  rw [this,he,hk]
  exact ⟨rfl,J1 _,rfl,rfl,(hR _).1,(hR _).2.1,(hR _).2.2⟩
 have k2:¬(W5 x=true)->YQ D.T x=2:=fun h=>by rw [YQ,if_neg h]
 have ok:W5 x=true↔(0<=x.inID/\x.inID<=2147483647)/\(0<=x.outID/\x.outID<=2147483647):=by
  unfold W5
  rw [J2,decide_eq_true_eq,decide_eq_true_eq]
 have k3:W5 x=true->YQ D.T x=if clash D.T x=true then 360 else if 48<=D.T.length then 3 else 0:=fun h=>by rw [YQ,if_pos h]
 refine ⟨fun a0=>⟨fun a1=>⟨fun b0=>⟨fun b1=>hk 2 _ (by decide) (k2 fun h=> ?_),fun b1=> ?_⟩,fun b0=>hk 2 _ (by decide) (k2 fun h=> ?_)⟩,fun a1=>hk 2 _ (by decide) (k2 fun h=> ?_)⟩,fun a0=>hk 2 _ (by decide) (k2 fun h=> ?_)⟩
 ·have:=ok.1 h;simp only [Jy,decide_eq_false_iff_not] at b1;omega
 rotate_left
 ·have:=ok.1 h;omega
 ·have:=ok.1 h;omega
 ·have:=ok.1 h;omega
 simp only [Bool.not_eq_false',decide_eq_true_eq] at b1
 have k3:=k3 (ok.2 ⟨⟨a0,a1⟩,⟨b0,b1⟩⟩)
 refine ⟨(hR _).1,(hR _).2.1,(hR _).2.2,hL,fun i hi hg=>⟨fun hn=> ?_,fun hit=> ?_,fun h=>h⟩⟩
 ·have hcl:clash D.T x=false:=by
   refine Ke.2 fun y hy=> ?_
   obtain ⟨j,hj,rfl⟩:=Ju hy
   have:=hg j (by omega)
   rw [getD_at hj] at this
   show ¬Z6S x D.T[j]=true
   rw [this]
   decide
  rw [hcl,if_neg (by decide)] at k3
  refine ⟨fun l=>hk 3 _ (by decide) (by rw [k3,if_pos (by omega)]),fun l=>⟨(hR _).1,(hR _).2.1,(hR _).2.2,hL,fun i hi _=>⟨fun hn=> ?_,fun h=>h,fun h=>h⟩⟩⟩
  rw [if_neg (by omega)] at k3
  have hD:D'=Xy ltT x D.T:=by rw [hD,Qi,if_pos k3]
  have hE:=QY (lt:=ltT) (x:=x) (D:=D.T)
  have hll:=XP (lt:=ltT) (x:=x) (D:=D.T) (i:=i)
  rw [<-hD,<-hn] at hE
  refine ⟨fun hb=> ?_,fun hb=> ?_⟩
  ·rw [if_neg (by intro h;rw [h] at hb;cases hb)] at hE
   have el:(Y0 ltT x D.T i).length+1=D'.length:=by rw [hE,J3];rfl
   exact ⟨by omega,el,Jp el.symm,by rw [he,k3],el,Zi Yb fun j hj=>by
    have hj':j<(Y0 ltT x D.T i).length+1:=by omega
    rw [hE]
    exact Y9 (x:=x) rfl hj',(hR _).2.1,(hR _).2.2⟩
  ·rw [if_pos (by simpa using hb)] at hE
   rw [hE]
   exact ⟨rfl,J1 _,by rw [he,k3],rfl,Zi Yb fun _ _=>rfl,(hR _).2.1,(hR _).2.2⟩
 ·have hcl:clash D.T x=true:=K5.2 ⟨D.T.getD i Zr,by rw [getD_at hit.1];exact Jx hit.1,hit.2⟩
  rw [if_pos hcl] at k3
  exact hk 360 _ (by decide) k3
structure V4 (D:Za) (n1:Nat) (f1:Nat->List AV) (n2:Nat) (f2:Nat->List AV) (n3:Nat) (f3:Nat->List AV):Prop where
 t:n1=D.T.length/\f1=tiR D.T
 s:n2=D.S.length/\f2=seR D.S
 q:n3=D.Q.length/\f3=quR D.Q
 lim:ZO D
def Z1X (h:Z6) (args:List AV) (K0:Za->Nat->Nat->Nat->List AV->Prop):Prop:=match args with
 | .agg [.nslice ⟨a,0,66,0,0⟩ 66 _ _,.nslice ⟨b,0,32,0,0⟩ 32 _ _,.nslice ⟨c,0,98,0,0⟩ 98 _ _]::_=>frA [a,b,c] h 60 args fun Bs az=>match Bs with
  | [.rows 66 n1 f1,.rows 32 n2 f2,.rows 98 n3 f3]=>∃D,V4 D n1 f1 n2 f2 n3 f3/\K0 D a b c az
  | _=>False
 | _=>False
def Zhg (h:Z6) (D:Za) (T':List Zl) (a b c:Nat):List (Nat×Blk):=(h.next,.rows 66 T'.length (tiR T'))::(b,.rows 32 D.S.length (seR D.S))::(c,.rows 98 D.Q.length (quR D.Q))::ZK (ZK (ZK h.bs a) b) c
def slT (nx:Nat) (T':List Zl) (D:Za) (b c:Nat):AV:=.agg [.nslice ⟨nx,0,66,0,0⟩ 66 T'.length T'.length,.nslice ⟨b,0,32,0,0⟩ 32 D.S.length D.S.length,.nslice ⟨c,0,98,0,0⟩ 98 D.Q.length D.Q.length]
theorem ZcP {h:Z6} (hl:Z1X h args K0) (hK:∀D a b c az,ZO D->K0 D a b c az->∃T' ex,(∀σ d,mvL σ d ex=some ex)/\Spec PP g az ⟨3,dcB D⟩ (.ret (.tuple (slT 3 T' D 1 2::ex))) 4 [(3,.rows 66 T'.length (tiR T')),(1,.rows 32 D.S.length (seR D.S)),(2,.rows 98 D.Q.length (quR D.Q))]/\K (.ret (.tuple (slT h.next T' D b c::ex))) ⟨h.next+1,Zhg h D T' a b c⟩):Zh PP g args h K:=by
 unfold Z1X at hl
 split at hl
 ·refine Spec.fsumm hl fun Bs a hlen hK0=> ?_
  split at hK0
  ·obtain ⟨D,⟨⟨rfl,rfl⟩,⟨rfl,rfl⟩,⟨rfl,rfl⟩,hL⟩,hK0⟩:=hK0
   obtain ⟨T',ex,hex,hs,hK⟩:=hK D _ _ _ _ hL hK0
   exact ⟨_,_,_,_,_,hs,by simp,.ret _ _ (by simp only [mvV,mvL,hex];rfl),.cons _ _ _ _ _ _ rfl (.rows _ _ _ (fun i _=>Yb.p _)) (.cons _ _ _ _ _ _ rfl (.rows _ _ _ (fun i _=>Yh.p _)) (.cons _ _ _ _ _ _ rfl (.rows _ _ _ (fun i _=>Yc.p _)) .nil)),hK⟩
  ·exact hK0.elim
 ·exact hl.elim
def Zg8:ZJ:=fun args h K=>Z1X h args fun D a b c az=>match az with
 | [.agg [.nslice ⟨0,0,66,0,0⟩ 66 n1 n2,.nslice ⟨1,0,32,0,0⟩ 32 n3 n4,.nslice ⟨2,0,98,0,0⟩ 98 n5 n6],.agg cs]=>∃x,(n1=D.T.length/\n2=D.T.length/\n3=D.S.length/\n4=D.S.length/\n5=D.Q.length/\n6=D.Q.length)/\Z6W cs x/\K (.ret (.tuple [slT h.next (Qi D.T x) D b c,.int .i64 (YQ D.T x)])) ⟨h.next+1,Zhg h D (Qi D.T x) a b c⟩
 | _=>False
theorem ZcQ (args:List AV) (h:Z6) (K:KO) (hl:Zg8 args h K):Zh PP 20 args h K:=by
 refine ZcP hl fun D a b c az hL ha=> ?_
 split at ha
 ·obtain ⟨x,⟨rfl,rfl,rfl,rfl,rfl,rfl⟩,⟨rfl⟩,hK⟩:=ha
  exact ⟨_,_,fun _ _=>rfl,.evM (Zf1 D x) (Zl5 D x _ _ hL rfl rfl),hK⟩
 ·exact ha.elim
theorem Z0H (a b:LI):(a==b)=(b==a):=by
 rw [JK,beq_iff_eq,beq_iff_eq]
 exact ⟨Eq.symm,Eq.symm⟩
def dvC (D:Za):List AV:=[.vrows 66 D.T.length (tiR D.T) D.T.length,.vrows 32 D.S.length (seR D.S) D.S.length,.vrows 98 D.Q.length (quR D.Q) D.Q.length]
def tz:List AV:=[.arr .u8 32 Ze,.int .i64 0,.arr .u8 32 Ze,.int .i64 0]
def Z6Y (D:Za) (o:LI) (id:Int) (i:Nat):St:=⟨40,[(8,.int .i64 i),(3,pt 0),(4,pt 1),(2,.int .i64 id),(6,pt 2)],⟨3,[(2,.flat tz),(1,.flat [.arr .u8 32 o]),(0,.flat (dvC D))]⟩,[]⟩
def Z6Z:St:=⟨40,[(6,pt 0)],⟨1,[(0,.flat tz)]⟩,[]⟩
def Zf2 (D:Za) (i:Nat):St:=⟨40,[(6,pt 0),(7,.bool true)],⟨1,[(0,.flat (tiR D.T i))]⟩,[]⟩
theorem Zl6 (D:Za) (o:LI) (id:Int) (i:Nat) (Z1 Z2 Z3:Prop) (hL:ZO D) (ho:o.length=32) (hi:i<=D.T.length) (h1:i<D.T.length->Yf o id (D.T.getD i Zr)=false->Z1) (h2:i=D.T.length->Z2) (h3:i<D.T.length->Yf o id (D.T.getD i Zr)=true->Z3):
  ZA G0 20 32 0 0 (Z6Y D o id i) (rdM 0 0 9 (Z6Y D o id (i+1)) Z6Z (Zf2 D i) Z6Z Z1 Z2 Z3 False):=by
 refine @Eq.mpr _ (let d:=D.T;let c:=d.length;let f:=decide (0<=(↑i:Int)/\(↑i:Int)<(↑c:Int));let b:=List.getD d (Int.toNat (↑i:Int)) Zr;let e:=b.out.v;let j:=b.outID;let a:=List.getD d i Zr;let h:=decide (c=c);let g:=tiR d;let r:=D.S.length;let q:=decide (r=r);let p:=seR D.S;let n:=D.Q.length;let m:=decide (n=n);let l:=quR D.Q;let k:=Z4 (wrap i64 ((↑i:Int)+1)=(↑(i+1):Int)) (Z4 (id=id) (Ze=Ze/\Ze=Ze/\o=o/\Z0 h (g=g/\Z0 h (Z0 q (p=p/\Z0 q (Z0 m (l=l/\Z0 m Z1)))))));
 Z8 (decide ((↑i:Int)<(↑c:Int))) (Z0 f (Z4 (e.length=32/\o.length=32) (Z8 (e==o) (Z0 f (Z8 (j==id) (Z0 f (b.inn.v=a.inn.v/\Z4 (b.inID=a.inID) (e=a.out.v/\Z4 (j=a.outID) Z3))) k)) k))) (Ze=Ze/\Ze=Ze/\Z2)) (by kernel_rfl) ?_
 conv=>zeta
 try simp only [vcA]
 try simp only [vcB]
 try simp only [vcC]
 refine ⟨fun hc=> ?_,fun hc=>h2 (by omega)⟩
 have hlt:i<D.T.length:=by omega
 have hlim:=hL.t
 have hw:i64.wrap ((i:Int)+1)=((i+1:Nat):Int):=by rw [w64 (by omega)];omega
 unfold Yf at h1 h3
 exact ⟨by omega,⟨(D.T.getD i Zr).out.l,ho⟩,fun k1=>⟨by omega,fun k2=>⟨by omega,h3 hlt (by rw [k1,k2];rfl)⟩,fun k2=>⟨hw,h1 hlt (by rw [k1,k2];rfl)⟩⟩,fun k1=>⟨hw,h1 hlt (by rw [k1];rfl)⟩⟩
theorem Zl7 (D:Za) (o:LI) (id:Int) (i:Nat) (Z1 Z2 Z3:Prop) (hL:ZO D) (ho:o.length=32) (hi:i<=D.T.length) (h1:i<D.T.length->Wg o id (D.T.getD i Zr)=false->Z1) (h2:i=D.T.length->Z2) (h3:i<D.T.length->Wg o id (D.T.getD i Zr)=true->Z3):
  ZA G0 20 34 0 0 (Z6Y D o id i) (rdM 0 0 9 (Z6Y D o id (i+1)) Z6Z (Zf2 D i) Z6Z Z1 Z2 Z3 False):=by
 refine @Eq.mpr _ (let d:=D.T;let c:=d.length;let f:=decide (0<=(↑i:Int)/\(↑i:Int)<(↑c:Int));let b:=List.getD d (Int.toNat (↑i:Int)) Zr;let e:=b.inn.v;let j:=b.inID;let a:=List.getD d i Zr;let h:=decide (c=c);let g:=tiR d;let r:=D.S.length;let q:=decide (r=r);let p:=seR D.S;let n:=D.Q.length;let m:=decide (n=n);let l:=quR D.Q;let k:=Z4 (wrap i64 ((↑i:Int)+1)=(↑(i+1):Int)) (Z4 (id=id) (Ze=Ze/\Ze=Ze/\o=o/\Z0 h (g=g/\Z0 h (Z0 q (p=p/\Z0 q (Z0 m (l=l/\Z0 m Z1)))))));
 Z8 (decide ((↑i:Int)<(↑c:Int))) (Z0 f (Z4 (e.length=32/\o.length=32) (Z8 (e==o) (Z0 f (Z8 (j==id) (Z0 f (e=a.inn.v/\Z4 (j=a.inID) (b.out.v=a.out.v/\Z4 (b.outID=a.outID) Z3))) k)) k))) (Ze=Ze/\Ze=Ze/\Z2)) (by kernel_rfl) ?_
 conv=>zeta
 try simp only [vcA]
 try simp only [vcB]
 try simp only [vcC]
 refine ⟨fun hc=> ?_,fun hc=>h2 (by omega)⟩
 have hlt:i<D.T.length:=by omega
 have hlim:=hL.t
 have hw:i64.wrap ((i:Int)+1)=((i+1:Nat):Int):=by rw [w64 (by omega)];omega
 unfold Wg at h1 h3
 exact ⟨by omega,⟨(D.T.getD i Zr).inn.l,ho⟩,fun k1=>⟨by omega,fun k2=>⟨by omega,h3 hlt (by rw [k1,k2];rfl)⟩,fun k2=>⟨hw,h1 hlt (by rw [k1,k2];rfl)⟩⟩,fun k1=>⟨hw,h1 hlt (by rw [k1];rfl)⟩⟩
noncomputable def ZcR (H:LI->LI) (B:Nat):Zg:=G0.withP 77 (Z9l H B)
theorem Z2i:(ZcR ZR 100000).Ok:=Zg.withP_ok Zv (Zcu (B:=100000) fun xs hx=>ZaK xs (by omega))
def Zf3 (D:Za) (o:LI) (i:Nat):St:=⟨28,[(6,.int .i64 i),(2,pt 0),(3,pt 1),(4,pt 2)],⟨3,[(2,.flat [.arr .u8 32 Ze]),(1,.flat [.arr .u8 32 o]),(0,.flat (dvC D))]⟩,[]⟩
def Zf4:St:=⟨28,[(4,pt 0)],⟨1,[(0,.flat [.arr .u8 32 Ze])]⟩,[]⟩
def ZiM (D:Za) (i:Nat):St:=⟨28,[(4,pt 0),(5,.bool true)],⟨1,[(0,.flat (seR D.S i))]⟩,[]⟩
theorem Zl8 (H:LI->LI) (B:Nat) (D:Za) (o:LI) (i:Nat) (Z1 Z2 Z3:Prop) (hL:ZO D) (hB:B=100000) (hH:∀x,(H x).length=32) (ho:o.length=32) (hi:i<=D.S.length) (h1:i<D.S.length->(o==H (D.S.getD i h0).v)=false->Z1) (h2:i=D.S.length->Z2) (h3:i<D.S.length->(o==H (D.S.getD i h0).v)=true->Z3):
  ZA (ZcR H B) 20 36 0 0 (Zf3 D o i) (rdM 0 0 9 (Zf3 D o (i+1)) Zf4 (ZiM D i) Zf4 Z1 Z2 Z3 False):=by
 refine @Eq.mpr _ (let b:=D.S;let a:=b.length;let j:=decide (0<=(↑i:Int)/\(↑i:Int)<(↑a:Int));let c:=(List.getD b (Int.toNat (↑i:Int)) h0).v;let h:=Z1p none c;let g:=h.length;let f:=H h;let e:=D.T.length;let d:=decide (e=e);let q:=tiR D.T;let p:=decide (a=a);let n:=seR b;let m:=D.Q.length;let l:=decide (m=m);let k:=quR D.Q;
 Z8 (decide ((↑i:Int)<(↑a:Int))) (Z0 j (Z4 (c.length=32) (Z4 (32=g) (Z4 (g<=B) (Z4 (f.length=32/\o.length=32) (Z8 (f==o) (Z0 j (c=(List.getD b i h0).v/\Z3)) (Z4 (wrap i64 ((↑i:Int)+1)=(↑(i+1):Int)) (Ze=Ze/\o=o/\Z0 d (q=q/\Z0 d (Z0 p (n=n/\Z0 p (Z0 l (k=k/\Z0 l Z1))))))))))))) (Ze=Ze/\Z2)) (by kernel_rfl) ?_
 conv=>zeta
 try simp only [vcA]
 try simp only [vcB]
 try simp only [vcC]
 refine ⟨fun hc=> ?_,fun hc=>h2 (by omega)⟩
 have hlt:i<D.S.length:=by omega
 have hlim:=hL.s
 have hl:=(D.S.getD i h0).l
 have hw:i64.wrap ((i:Int)+1)=((i+1:Nat):Int):=by rw [w64 (by omega)];omega
 have e:Z1p none (D.S.getD i h0).v=(D.S.getD i h0).v:=rfl
 rw [e]
 exact ⟨by omega,hl,hl.symm,by omega,⟨hH _,ho⟩,fun k1=>⟨by omega,h3 hlt (by rw [Z0H];exact k1)⟩,fun k1=>⟨hw,h1 hlt (by rw [Z0H];exact k1)⟩⟩
def qz:List AV:=[.arr .u8 32 Ze,.arr .u8 32 Ze,.int .i64 0,.int .i64 0]
def Zf5 (D:Za) (o:LI) (i:Nat):St:=⟨38,[(7,.int .i64 i),(2,pt 0),(3,pt 1),(4,pt 2),(5,pt 3)],⟨4,[(3,.flat [.arr .u8 32 Ze]),(2,.flat qz),(1,.flat [.arr .u8 32 o]),(0,.flat (dvC D))]⟩,[]⟩
def Zf6:St:=⟨38,[(4,pt 0),(5,pt 1)],⟨2,[(1,.flat [.arr .u8 32 Ze]),(0,.flat qz)]⟩,[]⟩
def ZiN (D:Za) (i:Nat):St:=⟨38,[(4,pt 0),(5,pt 1),(6,.bool true)],⟨2,[(1,.flat [.arr .u8 32 (D.Q.getD i ZB).secret.v]),(0,.flat (D.Q.getD i ZB).ic)]⟩,[]⟩
theorem Zl9 (D:Za) (o:LI) (i:Nat) (Z1 Z2 Z3:Prop) (hL:ZO D) (ho:o.length=32) (hi:i<=D.Q.length) (h1:i<D.Q.length->(o==(D.Q.getD i ZB).hash.v)=false->Z1) (h2:i=D.Q.length->Z2) (h3:i<D.Q.length->(o==(D.Q.getD i ZB).hash.v)=true->Z3):
  ZA G0 20 38 0 0 (Zf5 D o i) (rdM 0 0 9 (Zf5 D o (i+1)) Zf6 (ZiN D i) Zf6 Z1 Z2 Z3 False):=by
 refine @Eq.mpr _ (let e:=D.Q;let d:=e.length;let h:=decide (0<=(↑i:Int)/\(↑i:Int)<(↑d:Int));let a:=List.getD e (Int.toNat (↑i:Int)) ZB;let g:=a.hash.v;let f:=a.secret.v;let c:=decide (d=d);let k:=quR e;let j:=k=k;let b:=List.getD e i ZB;let r:=D.T.length;let q:=decide (r=r);let p:=tiR D.T;let n:=D.S.length;let m:=decide (n=n);let l:=seR D.S;
 Z8 (decide ((↑i:Int)<(↑d:Int))) (Z0 h (Z4 (g.length=32/\o.length=32) (Z8 (g==o) (Z0 h (Z0 h (f=f/\Z0 c (j/\Z0 c (f=b.secret.v/\g=b.hash.v/\a.key.v=b.key.v/\Z4 (a.amount=b.amount) (Z4 (a.least=b.least) Z3)))))) (Z4 (wrap i64 ((↑i:Int)+1)=(↑(i+1):Int)) (Ze=Ze/\Ze=Ze/\Ze=Ze/\o=o/\Z0 q (p=p/\Z0 q (Z0 m (l=l/\Z0 m (Z0 c (j/\Z0 c Z1)))))))))) (Ze=Ze/\Ze=Ze/\Ze=Ze/\Z2)) (by kernel_rfl) ?_
 conv=>zeta
 try simp only [vcA]
 try simp only [vcB]
 try simp only [vcC]
 refine ⟨fun hc=> ?_,fun hc=>h2 (by omega)⟩
 have hlt:i<D.Q.length:=by omega
 have hlim:=hL.q
 have hw:i64.wrap ((i:Int)+1)=((i+1:Nat):Int):=by rw [w64 (by omega)];omega
 exact ⟨by omega,⟨(D.Q.getD i ZB).hash.l,ho⟩,fun k1=>⟨by omega,by omega,h3 hlt (by rw [Z0H];exact k1)⟩,fun k1=>⟨hw,h1 hlt (by rw [Z0H];exact k1)⟩⟩
theorem VH (d:α) (T:List α) (h:T.length<=J):T.getD J d=d:=by
 rw [J5,Jv h]
 rfl
theorem VI {p:Nat->Bool} {n i:Nat} (hi:i=n) (hg:∀j,j<i->p j=false):Zn p n=n:=W0 fun j hj=>hg j (by omega)
theorem UN {p:Nat->Bool} {n i:Nat} (hi:i<n) (hp:p i=true) (hg:∀j,j<i->p j=false):Zn p n=i:=Um hi hp hg
noncomputable def Zg9 (D:Za) (o:LI) (id:Int):Zg:=G0.withL 32 0 (goM 0 (Z6Y D o id 0) (ZO D/\o.length=32) (Yn 0 D.T.length 9 (fun i=>Yf o id (D.T.getD i Zr)=false) (fun i=>i=D.T.length) (fun i=>i<D.T.length/\Yf o id (D.T.getD i Zr)=true) (fun _=>False) (fun _=>Z6Z) (fun i=>Zf2 D i) (fun _=>Z6Z)))
theorem ZcS (D:Za) (o:LI) (id:Int):(Zg9 D o id).Ok:=
 Zg.withGoM (N:=20) (k:=0) (n:=D.T.length) (l:=9) (S:=fun i=>Z6Y D o id i) Zv (by kernel_rfl) fun hC=>⟨rfl,fun i hi _=>Zl6 D o id i _ _ _ hC.1 hC.2 hi (fun h1 h2=>⟨h2,h1⟩) (fun h=>h) fun h1 h2=>⟨h1,h2⟩⟩
theorem Zla (D:Za) (o:LI) (id:Int) (J:Nat) (x:Zl) (b:Bool) (hL:ZO D) (ho:o.length=32) (hJ:J=atO D.T o id) (hx:x=D.T.getD J Zr) (hb:b=Nat.blt J D.T.length):
  evF (Zg9 D o id) 20 32 [.agg (dvC D),.agg [.arr .u8 32 o],.int .i64 id] ⟨0,[]⟩ (Vz (fun v=>v=.tuple [.agg x.c,.bool b])):=by
 refine @Eq.mpr _ (let e:=D.T;let d:=e.length;let n:=decide (d=d);let m:=tiR e;let l:=D.S.length;let k:=decide (l=l);let h:=seR D.S;let g:=D.Q.length;let f:=decide (g=g);let r:=quR D.Q;let q:=AV.arr u8 32 Ze;let p:=AV.tuple [AV.agg (Zl.c x),AV.bool b];
 Z4 (id=id) (Ze=Ze/\
 Ze=Ze/\
 o=o/\
 Z0 n (m=m/\
 Z0 n (Z0 k (h=h/\
 Z0 k (Z0 f (r=r/\
 Z0 f ((ZO D/\o.length=32)/\
 ∀(i:Nat),
 let a:=List.getD e i Zr;
 i<=d->(∀(j:Nat),j<i->(fun (i:Nat)=>Yf o id (List.getD e i Zr)=false) j)->(i=d->AV.tuple [AV.agg [q,AV.int i64 0,q,AV.int i64 0],AV.bool false]=p)/\(i<d/\Yf o id a=true->AV.tuple [AV.agg [AV.arr u8 32 a.inn.v,AV.int i64 a.inID,AV.arr u8 32 a.out.v,AV.int i64 a.outID],AV.bool true]=p)/\(False->False))))))))) (by kernel_rfl) ?_
 conv=>zeta
 try simp only [vcA]
 try simp only [vcB]
 try simp only [vcC]
 refine ⟨⟨hL,ho⟩,fun i hi hg=>⟨fun e=> ?_,fun e=> ?_,fun h=>h⟩⟩
 ·have hJ:J=D.T.length:=hJ.trans (VI e hg)
  rw [hb,hx,hJ,VH _ _ (J1 _),Wt,decide_eq_false (by omega)]
  rfl
 ·have hJ:J=i:=hJ.trans (UN e.1 e.2 hg)
  rw [hb,hx,hJ,YI e.1]
  rfl
noncomputable def Zga (D:Za) (o:LI) (id:Int):Zg:=G0.withL 34 0 (goM 0 (Z6Y D o id 0) (ZO D/\o.length=32) (Yn 0 D.T.length 9 (fun i=>Wg o id (D.T.getD i Zr)=false) (fun i=>i=D.T.length) (fun i=>i<D.T.length/\Wg o id (D.T.getD i Zr)=true) (fun _=>False) (fun _=>Z6Z) (fun i=>Zf2 D i) (fun _=>Z6Z)))
theorem ZcT (D:Za) (o:LI) (id:Int):(Zga D o id).Ok:=
 Zg.withGoM (N:=20) (k:=0) (n:=D.T.length) (l:=9) (S:=fun i=>Z6Y D o id i) Zv (by kernel_rfl) fun hC=>⟨rfl,fun i hi _=>Zl7 D o id i _ _ _ hC.1 hC.2 hi (fun h1 h2=>⟨h2,h1⟩) (fun h=>h) fun h1 h2=>⟨h1,h2⟩⟩
theorem Zlb (D:Za) (o:LI) (id:Int) (J:Nat) (x:Zl) (b:Bool) (hL:ZO D) (ho:o.length=32) (hJ:J=Zn (fun i=>Wg o id (D.T.getD i Zr)) D.T.length) (hx:x=D.T.getD J Zr) (hb:b=Nat.blt J D.T.length):
  evF (Zga D o id) 20 34 [.agg (dvC D),.agg [.arr .u8 32 o],.int .i64 id] ⟨0,[]⟩ (Vz (fun v=>v=.tuple [.agg x.c,.bool b])):=by
 refine @Eq.mpr _ (let e:=D.T;let d:=e.length;let n:=decide (d=d);let m:=tiR e;let l:=D.S.length;let k:=decide (l=l);let h:=seR D.S;let g:=D.Q.length;let f:=decide (g=g);let r:=quR D.Q;let q:=AV.arr u8 32 Ze;let p:=AV.tuple [AV.agg (Zl.c x),AV.bool b];
 Z4 (id=id) (Ze=Ze/\
 Ze=Ze/\
 o=o/\
 Z0 n (m=m/\
 Z0 n (Z0 k (h=h/\
 Z0 k (Z0 f (r=r/\
 Z0 f ((ZO D/\o.length=32)/\
 ∀(i:Nat),
 let a:=List.getD e i Zr;
 i<=d->(∀(j:Nat),j<i->(fun (i:Nat)=>Wg o id (List.getD e i Zr)=false) j)->(i=d->AV.tuple [AV.agg [q,AV.int i64 0,q,AV.int i64 0],AV.bool false]=p)/\(i<d/\Wg o id a=true->AV.tuple [AV.agg [AV.arr u8 32 a.inn.v,AV.int i64 a.inID,AV.arr u8 32 a.out.v,AV.int i64 a.outID],AV.bool true]=p)/\(False->False))))))))) (by kernel_rfl) ?_
 conv=>zeta
 try simp only [vcA]
 try simp only [vcB]
 try simp only [vcC]
 refine ⟨⟨hL,ho⟩,fun i hi hg=>⟨fun e=> ?_,fun e=> ?_,fun h=>h⟩⟩
 ·have hJ:J=D.T.length:=hJ.trans (VI e hg)
  rw [hb,hx,hJ,VH _ _ (J1 _),Wt,decide_eq_false (by omega)]
  rfl
 ·have hJ:J=i:=hJ.trans (UN e.1 e.2 hg)
  rw [hb,hx,hJ,YI e.1]
  rfl
noncomputable def Zgb (H:LI->LI) (B:Nat) (D:Za) (o:LI):Zg:=(ZcR H B).withL 36 0 (goM 0 (Zf3 D o 0) (ZO D/\o.length=32) (Yn 0 D.S.length 9 (fun i=>(o==H (D.S.getD i h0).v)=false) (fun i=>i=D.S.length) (fun i=>i<D.S.length/\(o==H (D.S.getD i h0).v)=true) (fun _=>False) (fun _=>Zf4) (fun i=>ZiM D i) (fun _=>Zf4)))
theorem ZcU (D:Za) (o:LI):(Zgb ZR 100000 D o).Ok:=
 Zg.withGoM (N:=20) (k:=0) (n:=D.S.length) (l:=9) (S:=fun i=>Zf3 D o i) Z2i (by kernel_rfl) fun hC=>⟨rfl,fun i hi _=>Zl8 ZR 100000 D o i _ _ _ hC.1 rfl VC hC.2 hi (fun h1 h2=>⟨h2,h1⟩) (fun h=>h) fun h1 h2=>⟨h1,h2⟩⟩
theorem Zlc (H:LI->LI) (B:Nat) (D:Za) (o:LI) (J:Nat) (x:H32) (b:Bool) (hL:ZO D) (ho:o.length=32) (hJ:J=XO H D.S o) (hx:x=D.S.getD J h0) (hb:b=Nat.blt J D.S.length):
  evF (Zgb H B D o) 20 36 [.agg (dvC D),.agg [.arr .u8 32 o]] ⟨0,[]⟩ (Vz (fun v=>v=.tuple [.agg [.arr .u8 32 x.v],.bool b])):=by
 refine @Eq.mpr _ (let p:=D.T.length;let l:=decide (p=p);let h:=tiR D.T;let c:=D.S;let a:=c.length;let g:=decide (a=a);let f:=seR c;let e:=D.Q.length;let d:=decide (e=e);let n:=quR D.Q;let m:=AV.tuple [AV.agg [AV.arr u8 32 x.v],AV.bool b];
 Ze=Ze/\
 o=o/\
 Z0 l (h=h/\
 Z0 l (Z0 g (f=f/\
 Z0 g (Z0 d (n=n/\
 Z0 d ((ZO D/\o.length=32)/\
 ∀(i:Nat),
 let k:=(List.getD c i h0).v;
 i<=a->(∀(j:Nat),j<i->(fun (i:Nat)=>(o==H (List.getD c i h0).v)=false) j)->(i=a->AV.tuple [AV.agg [AV.arr u8 32 Ze],AV.bool false]=m)/\(i<a/\(o==H k)=true->AV.tuple [AV.agg [AV.arr u8 32 k],AV.bool true]=m)/\(False->False)))))))) (by kernel_rfl) ?_
 conv=>zeta
 try simp only [vcA]
 try simp only [vcB]
 try simp only [vcC]
 refine ⟨⟨hL,ho⟩,fun i hi hg=>⟨fun e=> ?_,fun e=> ?_,fun h=>h⟩⟩
 ·have hJ:J=D.S.length:=hJ.trans (VI e hg)
  rw [hb,hx,hJ,VH _ _ (J1 _),Wt,decide_eq_false (by omega)]
  rfl
 ·have hJ:J=i:=hJ.trans (UN e.1 e.2 hg)
  rw [hb,hx,hJ,YI e.1]
noncomputable def Zgc (D:Za) (o:LI):Zg:=G0.withL 38 0 (goM 0 (Zf5 D o 0) (ZO D/\o.length=32) (Yn 0 D.Q.length 9 (fun i=>(o==(D.Q.getD i ZB).hash.v)=false) (fun i=>i=D.Q.length) (fun i=>i<D.Q.length/\(o==(D.Q.getD i ZB).hash.v)=true) (fun _=>False) (fun _=>Zf6) (fun i=>ZiN D i) (fun _=>Zf6)))
theorem ZcV (D:Za) (o:LI):(Zgc D o).Ok:=
 Zg.withGoM (N:=20) (k:=0) (n:=D.Q.length) (l:=9) (S:=fun i=>Zf5 D o i) Zv (by kernel_rfl) fun hC=>⟨rfl,fun i hi _=>Zl9 D o i _ _ _ hC.1 hC.2 hi (fun h1 h2=>⟨h2,h1⟩) (fun h=>h) fun h1 h2=>⟨h1,h2⟩⟩
theorem Zld (D:Za) (o:LI) (J:Nat) (x:Zq) (b:Bool) (hL:ZO D) (ho:o.length=32) (hJ:J=atQ D.Q o) (hx:x=D.Q.getD J ZB) (hb:b=Nat.blt J D.Q.length):
  evF (Zgc D o) 20 38 [.agg (dvC D),.agg [.arr .u8 32 o]] ⟨0,[]⟩ (Vz (fun v=>v=.tuple [.agg x.ic,.agg [.arr .u8 32 x.secret.v],.bool b])):=by
 refine @Eq.mpr _ (let r:=D.T.length;let n:=decide (r=r);let l:=tiR D.T;let k:=D.S.length;let h:=decide (k=k);let g:=seR D.S;let d:=D.Q;let a:=d.length;let f:=decide (a=a);let q:=quR d;let e:=AV.arr u8 32 Ze;let p:=AV.tuple [AV.agg (Zq.ic x),AV.agg [AV.arr u8 32 x.secret.v],AV.bool b];
 Ze=Ze/\
 Ze=Ze/\
 Ze=Ze/\
 o=o/\
 Z0 n (l=l/\
 Z0 n (Z0 h (g=g/\
 Z0 h (Z0 f (q=q/\
 Z0 f ((ZO D/\o.length=32)/\
 ∀(i:Nat),
 let c:=List.getD d i ZB;let m:=c.hash.v;
 i<=a->(∀(j:Nat),j<i->(fun (i:Nat)=>(o==(List.getD d i ZB).hash.v)=false) j)->(i=a->AV.tuple [AV.agg [e,e,AV.int i64 0,AV.int i64 0],AV.agg [e],AV.bool false]=p)/\(i<a/\(o==m)=true->AV.tuple [AV.agg [AV.arr u8 32 m,AV.arr u8 32 c.key.v,AV.int i64 c.amount,AV.int i64 c.least],AV.agg [AV.arr u8 32 c.secret.v],AV.bool true]=p)/\(False->False)))))))) (by kernel_rfl) ?_
 conv=>zeta
 try simp only [vcA]
 try simp only [vcB]
 try simp only [vcC]
 refine ⟨⟨hL,ho⟩,fun i hi hg=>⟨fun e=> ?_,fun e=> ?_,fun h=>h⟩⟩
 ·have hJ:J=D.Q.length:=hJ.trans (VI e hg)
  rw [hb,hx,hJ,VH _ _ (J1 _),Wt,decide_eq_false (by omega)]
  rfl
 ·have hJ:J=i:=hJ.trans (UN e.1 e.2 hg)
  rw [hb,hx,hJ,YI e.1]
  rfl
def Z70 (e:Nat) (a:AV) (K:Nat->(Nat->List AV)->Prop):Prop:=match a with
 | .vrows e' n f m=>Z4 (e'=e/\m=n) (K n f)
 | .nilslice=>K 0 (fun _=>[])
 | _=>False
theorem Z3G {e:Nat} {a:AV} {K:Nat->(Nat->List AV)->Prop} (h:Z70 e a K):∃n f,K n f/\a.isCell=true/\∀E r,Zc E a r->Zc E (.vrows e n f n) r:=by
 unfold Z70 at h
 split at h
 ·obtain ⟨⟨rfl,rfl⟩,hK⟩:=Zd h
  exact ⟨_,_,hK,rfl,fun _ _ h=>h⟩
 ·refine ⟨_,_,h,rfl,fun E r hr=> ?_⟩
  cases hr
  exact .vrowsNil _ _ _ _ rfl rfl
 ·exact h.elim
structure Z1g (D:Za) (n1:Nat) (f1:Nat->List AV) (n2:Nat) (f2:Nat->List AV) (n3:Nat) (f3:Nat->List AV):Prop where
 t:n1=D.T.length/\∀i,i<n1->f1 i=tiR D.T i
 s:n2=D.S.length/\∀i,i<n2->f2 i=seR D.S i
 q:n3=D.Q.length/\∀i,i<n3->f3 i=quR D.Q i
 lim:ZO D
theorem Z5Q (h:ZO D):Z1g D D.T.length (Yk 0 (tiR D.T)) D.S.length (Yk 0 (seR D.S)) D.Q.length (Yk 0 (quR D.Q)):=⟨⟨rfl,fun i _=>by rw [Wy,Jq]⟩,⟨rfl,fun i _=>by rw [Wy,Jq]⟩,⟨rfl,fun i _=>by rw [Wy,Jq]⟩,h⟩
def ZaO (h:Z6) (args:List AV) (K0:Za->List AV->Prop):Prop:=X1 none h true 60 args fun a=>match a with
 | .agg [l1,l2,l3]::r=>Z70 66 l1 fun n1 f1=>Z70 32 l2 fun n2 f2=>Z70 98 l3 fun n3 f3=>∃D,Z1g D n1 f1 n2 f2 n3 f3/\K0 D r
 | _=>False
theorem Zhh {E:Env} {a b c a' b' c':AV} {vs:List Value} (h:Zm E [a,b,c] vs) (ha:a.isCell=true) (hb:b.isCell=true) (hc:c.isCell=true) (ha':a'.isCell=true) (hb':b'.isCell=true) (hc':c'.isCell=true) (h1:∀r,Zc E a r->Zc E a' r) (h2:∀r,Zc E b r->Zc E b' r) (h3:∀r,Zc E c r->Zc E c' r):Zm E [a',b',c'] vs:=by
 cases h with
 | one v d vs cs g0 gc hv t=>cases t with
  | one v d vs cs g0 gc' hv' t=>cases t with
   | one v d vs cs g0 gc2 hv2 t=>exact .one _ _ _ _ ha' gc (h1 _ hv) (.one _ _ _ _ hb' gc' (h2 _ hv') (.one _ _ _ _ hc' gc2 (h3 _ hv2) t))
   | arr k n xs vs cs t=>cases hc
  | arr k n xs vs cs t=>cases hb
 | arr k n xs vs cs t=>cases ha
theorem Z0I {h:Z6} {K:AV->Prop} {K0:Za->List AV->Prop} (hl:ZaO h args K0) (hK:∀D r,ZO D->K0 D r->∃v,Y8 PP g (.agg (dvC D)::r) v 0 []/\(∀d,shV d v=some v)/\K v):Zh PP g args h fun o h'=>∃v,o=.ret v/\h'=h/\K v:=by
 refine Y8.psumm (d:=60) (YJ _ _ _ _ _ hl fun a ha=> ?_)
 split at ha
 ·obtain ⟨n1,f1,ha,q1,r1⟩:=Z3G ha
  obtain ⟨n2,f2,ha,q2,r2⟩:=Z3G ha
  obtain ⟨n3,f3,ha,q3,r3⟩:=Z3G ha
  obtain ⟨D,⟨⟨rfl,e1⟩,⟨rfl,e2⟩,⟨rfl,e3⟩,hL⟩,hK0⟩:=ha
  obtain ⟨v,hp,hs,hk⟩:=hK D _ hL hK0
  exact ⟨v,hp.conv fun E r hr=>hr.head (fun _ hc=>by
   cases hc with
   | agg _ vs hc=>exact .agg _ vs (Zhh hc q1 q2 q3 rfl rfl rfl (fun r hr=>(r1 E r hr).rowsC e1) (fun r hr=>(r2 E r hr).rowsC e2) (fun r hr=>(r3 E r hr).rowsC e3))) fun _ hc=>hc,hs,hk⟩
 ·exact ha.elim
theorem Y8.evW6 {G:Zg} (hG:G.Ok) {n:Nat} {f:FuncId} {v:AV} (h:evF G n f args ⟨0,[]⟩ (Vz fun u=>u=v)):Y8 G.P f args v 0 []:=by
 intro E w rs he hr
 refine (Z0Z hG h E w rs he hr).mono ?_
 rintro e w' ⟨E₁,o,h',hK0,hev,hor⟩
 cases hor with
 | panic u r hr=>exact hK0.elim
 | ret u r hr=>
  unfold Vz at hK0
  simp only at hK0
  split at hK0
  ·rename_i hu
   subst hK0
   refine ⟨E,r,rfl,⟨.refl E,⟨he.fresh,fun x B hx=>by simp [Z6.get,ZC] at hx,fun x B hx=>by simp [Z6.get,ZC] at hx,fun x y B B' b N N' hx=>by simp [Z6.get,ZC] at hx,fun a c hi=>hev.emb.imm a c (hev.le.imm a c hi),fun a c x B N _ hx=>by simp [Z6.get,ZC] at hx⟩,hev.size,hev.os,hev.tape,hev.output,hev.keep,fun b hb=> ?_,fun _ _ h=>h⟩,Zc.vplain (E:=E₁) (E':=E) (fun a c hi=>hev.imm a c hi) _ _ hu hr⟩
   obtain ⟨x,B,N,hx,_⟩:=hb
   simp [Z6.get,ZC] at hx
  ·exact hK0.elim
def Z8u:YK:=fun args h K=>ZaO h args fun D r=>match r with
 | [.agg [.arr .u8 32 o],.int .i64 id]=>o.length=32/\K (.tuple [.agg (D.T.getD (atO D.T o id) Zr).c,.bool (Nat.blt (atO D.T o id) D.T.length)])
 | _=>False
theorem Z4R (args:List AV) (h:Z6) (K:AV->Prop) (hl:Z8u args h K):Zh PP 32 args h fun o h'=>∃v,o=.ret v/\h'=h/\K v:=by
 refine Z0I hl fun D r hL ha=> ?_
 split at ha
 ·exact ⟨_,Y8.evW6 (ZcS D _ _) (Zla D _ _ _ _ _ hL ha.1 rfl rfl rfl),fun _=>rfl,ha.2⟩
 ·exact ha.elim
def Zgd:YK:=fun args h K=>ZaO h args fun D r=>match r with
 | [.agg [.arr .u8 32 o],.int .i64 id]=>o.length=32/\∀x b,K (.tuple [.agg (Zl.c x),.bool b])
 | _=>False
theorem ZcW (args:List AV) (h:Z6) (K:AV->Prop) (hl:Zgd args h K):Zh PP 34 args h fun o h'=>∃v,o=.ret v/\h'=h/\K v:=by
 refine Z0I hl fun D r hL ha=> ?_
 split at ha
 ·exact ⟨_,Y8.evW6 (ZcT D _ _) (Zlb D _ _ _ _ _ hL ha.1 rfl rfl rfl),fun _=>rfl,ha.2 _ _⟩
 ·exact ha.elim
def ZcX (H:LI->LI):YK:=fun args h K=>ZaO h args fun D r=>match r with
 | [.agg [.arr .u8 32 o]]=>o.length=32/\K (.tuple [.agg [.arr .u8 32 (D.S.getD (XO H D.S o) h0).v],.bool (Nat.blt (XO H D.S o) D.S.length)])
 | _=>False
theorem Z71 (args:List AV) (h:Z6) (K:AV->Prop) (hl:ZcX ZR args h K):Zh PP 36 args h fun o h'=>∃v,o=.ret v/\h'=h/\K v:=by
 refine Z0I hl fun D r hL ha=> ?_
 split at ha
 ·exact ⟨_,Y8.evW6 (ZcU D _) (Zlc ZR 100000 D _ _ _ _ hL ha.1 rfl rfl rfl),fun _=>rfl,ha.2⟩
 ·exact ha.elim
def Z9E:YK:=fun args h K=>ZaO h args fun D r=>match r with
 | [.agg [.arr .u8 32 o]]=>o.length=32/\K (.tuple [.agg (D.Q.getD (atQ D.Q o) ZB).ic,.agg [.arr .u8 32 (D.Q.getD (atQ D.Q o) ZB).secret.v],.bool (Nat.blt (atQ D.Q o) D.Q.length)])
 | _=>False
theorem Z3H (args:List AV) (h:Z6) (K:AV->Prop) (hl:Z9E args h K):Zh PP 38 args h fun o h'=>∃v,o=.ret v/\h'=h/\K v:=by
 refine Z0I hl fun D r hL ha=> ?_
 split at ha
 ·exact ⟨_,Y8.evW6 (ZcV D _) (Zld D _ _ _ _ hL ha.1 rfl rfl rfl),fun _=>rfl,ha.2⟩
 ·exact ha.elim
def Z3X:Blk:=.flat [.nilslice,.nilslice,.nilslice]
def Zf7 (D:Za) (x:Zl) (L:List Zl) (i:Nat):St:=⟨50,[(12,.int .i64 i),(3,pt 3),(9,pt 4),(11,.nslice ⟨7,0,66,0,0⟩ 66 L.length L.length),(6,pt 5),(7,pt 6)],⟨8,(7,.rows 66 L.length (tiR L))::(6,.flat tz)::(5,Z3X)::(4,.flat x.c)::(3,.flat (dcC D))::dcB D⟩,[]⟩
def ZiO (D:Za) (x:Zl) (L:List Zl):St:=⟨50,[(3,pt 3),(9,pt 4),(11,.nslice ⟨7,0,66,0,0⟩ 66 L.length L.length),(6,pt 5),(7,pt 6)],⟨8,(7,.rows 66 L.length (tiR L))::(6,.flat tz)::(5,Z3X)::(4,.flat x.c)::(3,.flat (dcC D))::dcB D⟩,[]⟩
theorem Zle (D:Za) (x:Zl) (L L':List Zl) (i:Nat) (Z1 Z2:Prop) (hL:ZO D) (hi:i<=D.T.length) (hl:L=Ws (fun y=> !Qw y x) D.T i) (hl':L'=Ws (fun y=> !Qw y x) D.T (i+1)) (h1:i<D.T.length->Z1) (h2:i=D.T.length->Z2):
  ZA G0 40 21 0 3 (Zf7 D x L i) (rdM 3 0 9 (Zf7 D x L' (i+1)) (ZiO D x L) dtN dtN Z1 Z2 False False):=by
 refine @Eq.mpr _ (let J:=D.T;let a:=J.length;let P:=decide (0<=(↑i:Int)/\(↑i:Int)<(↑a:Int));let u:=0+Int.toNat (↑i:Int);let m:=List.getD J u Zr;let t:=m.inn.v;let l:=x.inn.v;let s:=m.out.v;let k:=x.out.v;let X:=m.inID;let I:=x.inID;let W:=m.outID;let H:=x.outID;let b:=L.length;let G:=decide (b=b);let F:=b+1;let V:=decide (wrap i64 ((↑i:Int)+1)=(↑(i+1):Int));let h:=L'.length;let U:=decide (F=h);let R:=[(4,4),(3,3)];let r:=(6,6)::(5,5)::(7,9)::R;let q:=tiR L;let E:=l=l;let C:=decide (I=I);let B:=k=k;let A:=decide (H=H);let g:=decide (a=a);let z:=decide (a<=a);let f:=D.S.length;let e:=decide (f=f);let y:=decide (f<=f);let d:=D.Q.length;let c:=decide (d=d);let w:=decide (d<=d);let p:=tiR J;let o:=seR D.S;let n:=quR D.Q;let O:=decide (b=h);let j:=(6,6)::(5,5)::(7,7)::R;let N:=Z5 3 j a p p;let M:=Z5 3 j f o o;let K:=Z5 3 j d n n;
 Z8 (decide ((↑i:Int)<(↑a:Int))) (Z0 P (Z4 (u<a) (Z4 (t.length=32/\l.length=32) (Z4 (s.length=32/\k.length=32) (Z8 (!(t==l&&(X==I&&(s==k&&W==H)))) (Z0 P (Z4 (u<a) (Z0 G (Z4 (F*80<=140737488355328) (Z0 V (Z0 U (Z4 (h<=F) (Z0 U (Z5 3 r h (tiR L') (X8 b q (XD [AV.arr u8 32 t,AV.int i64 X,AV.arr u8 32 s,AV.int i64 W] 0 66))/\Ze=Ze/\Ze=Ze/\E/\Z0 C (B/\Z0 A (Z0 g (Z0 z (Z0 e (Z0 y (Z0 c (Z0 w (Z0 g (Z5 3 r a p p/\Z0 e (Z5 3 r f o o/\Z0 c (Z5 3 r d n n/\Z1)))))))))))))))))))) (Z0 V (Z0 O (Z4 (h<=b) (Z0 O (Z5 3 j h (tiR L') q/\Ze=Ze/\Ze=Ze/\E/\Z0 C (B/\Z0 A (Z0 g (Z0 z (Z0 e (Z0 y (Z0 c (Z0 w (Z0 g (N/\Z0 e (M/\Z0 c (K/\Z1))))))))))))))))))))) (Z0 G (Z4 (b<=b) (Z0 G (Z5 3 j b q q/\Ze=Ze/\Ze=Ze/\E/\Z0 C (B/\Z0 A (Z0 g (Z0 z (Z0 e (Z0 y (Z0 c (Z0 w (Z0 g (N/\Z0 e (M/\Z0 c (K/\Z2)))))))))))))))) (by kernel_rfl) ?_
 conv=>zeta
 try simp only [vcA]
 try simp only [vcB]
 try simp only [vcC]
 have hR:=Vg D 3
 have hlim:=hL.t
 have hll:L.length<=D.T.length:=by rw [hl];exact Z3F
 refine ⟨fun hc=> ?_,fun hc=>⟨Zi Yb fun _ _=>rfl,(hR _).1,(hR _).2.1,(hR _).2.2,h2 (by omega)⟩⟩
 have hlt:i<D.T.length:=by omega
 have hw:i64.wrap ((i:Int)+1)=((i+1:Nat):Int):=by rw [w64 (by omega)];omega
 have h1:=h1 hlt
 have hS:=Z1f Zr (p:=fun y=> !Qw y x) hlt
 rw [<-hl',<-hl] at hS
 generalize D.T.getD i Zr=y at*
 refine ⟨by omega,hlt,⟨y.inn.l,x.inn.l⟩,⟨y.out.l,x.out.l⟩,fun k=>⟨by omega,hlt,by omega,hw, ?_⟩,fun k=>⟨hw, ?_⟩⟩
 ·have k':(!Qw y x)=true:=k
  rw [if_pos k'] at hS
  have el:L.length+1=L'.length:=by rw [hS,J3];rfl
  refine ⟨el,Jp el.symm,el,Zi Yb fun j hj=> ?_,(hR _).1,(hR _).2.1,(hR _).2.2,h1⟩
  have hj':j<L.length+1:=by omega
  rw [hS]
  exact Y9 (L:=L) (x:=y) rfl hj'
 ·have k':(!Qw y x)=false:=k
  rw [k',if_neg (by decide),JE] at hS
  rw [hS]
  exact ⟨rfl,J1 _,rfl,Zi Yb fun _ _=>rfl,(hR _).1,(hR _).2.1,(hR _).2.2,h1⟩
def Zf8 (D:Za) (x:H32) (L:List H32) (i:Nat):St:=⟨44,[(9,.int .i64 i),(2,pt 3),(6,pt 4),(8,.nslice ⟨6,0,32,0,0⟩ 32 L.length L.length),(4,pt 5)],⟨7,(6,.rows 32 L.length (seR L))::(5,Z3X)::(4,.flat (VF x))::(3,.flat (dcC D))::dcB D⟩,[]⟩
def ZiP (D:Za) (x:H32) (L:List H32):St:=⟨44,[(2,pt 3),(6,pt 4),(8,.nslice ⟨6,0,32,0,0⟩ 32 L.length L.length),(4,pt 5)],⟨7,(6,.rows 32 L.length (seR L))::(5,Z3X)::(4,.flat (VF x))::(3,.flat (dcC D))::dcB D⟩,[]⟩
theorem Zlf (D:Za) (x:H32) (L L':List H32) (i:Nat) (Z1 Z2:Prop) (hL:ZO D) (hi:i<=D.S.length) (hl:L=Ws (fun y=> !(y.v==x.v)) D.S i) (hl':L'=Ws (fun y=> !(y.v==x.v)) D.S (i+1)) (h1:i<D.S.length->Z1) (h2:i=D.S.length->Z2):
  ZA G0 40 28 0 3 (Zf8 D x L i) (rdM 3 0 9 (Zf8 D x L' (i+1)) (ZiP D x L) dtN dtN Z1 Z2 False False):=by
 refine @Eq.mpr _ (let A:=D.S;let a:=A.length;let F:=decide (0<=(↑i:Int)/\(↑i:Int)<(↑a:Int));let t:=0+Int.toNat (↑i:Int);let s:=(List.getD A t h0).v;let k:=x.v;let b:=L.length;let r:=decide (b=b);let q:=b+1;let J:=decide (wrap i64 ((↑i:Int)+1)=(↑(i+1):Int));let h:=L'.length;let I:=decide (q=h);let H:=[(4,4),(3,3)];let p:=(5,5)::(6,8)::H;let o:=seR L;let z:=k=k;let g:=D.T.length;let f:=decide (g=g);let y:=decide (g<=g);let e:=decide (a=a);let w:=decide (a<=a);let d:=D.Q.length;let c:=decide (d=d);let u:=decide (d<=d);let n:=tiR D.T;let m:=seR A;let l:=quR D.Q;let G:=decide (b=h);let j:=(5,5)::(6,6)::H;let E:=Z5 3 j g n n;let C:=Z5 3 j a m m;let B:=Z5 3 j d l l;
 Z8 (decide ((↑i:Int)<(↑a:Int))) (Z0 F (Z4 (t<a) (Z4 (s.length=32/\k.length=32) (Z8 (!s==k) (Z0 F (Z4 (t<a) (Z0 r (Z4 (q*32<=140737488355328) (Z0 J (Z0 I (Z4 (h<=q) (Z0 I (Z5 3 p h (seR L') (X8 b o (XD [AV.arr u8 32 s] 0 32))/\z/\Z0 f (Z0 y (Z0 e (Z0 w (Z0 c (Z0 u (Z0 f (Z5 3 p g n n/\Z0 e (Z5 3 p a m m/\Z0 c (Z5 3 p d l l/\Z1)))))))))))))))))) (Z0 J (Z0 G (Z4 (h<=b) (Z0 G (Z5 3 j h (seR L') o/\z/\Z0 f (Z0 y (Z0 e (Z0 w (Z0 c (Z0 u (Z0 f (E/\Z0 e (C/\Z0 c (B/\Z1)))))))))))))))))) (Z0 r (Z4 (b<=b) (Z0 r (Z5 3 j b o o/\z/\Z0 f (Z0 y (Z0 e (Z0 w (Z0 c (Z0 u (Z0 f (E/\Z0 e (C/\Z0 c (B/\Z2)))))))))))))) (by kernel_rfl) ?_
 conv=>zeta
 try simp only [vcA]
 try simp only [vcB]
 try simp only [vcC]
 have hR:=Vg D 3
 have hlim:=hL.s
 have hll:L.length<=D.S.length:=by rw [hl];exact Z3F
 refine ⟨fun hc=> ?_,fun hc=>⟨Zi Yh fun _ _=>rfl,(hR _).1,(hR _).2.1,(hR _).2.2,h2 (by omega)⟩⟩
 have hlt:i<D.S.length:=by omega
 have hw:i64.wrap ((i:Int)+1)=((i+1:Nat):Int):=by rw [w64 (by omega)];omega
 have h1:=h1 hlt
 have hS:=Z1f h0 (p:=fun y=> !(y.v==x.v)) hlt
 rw [<-hl',<-hl] at hS
 generalize D.S.getD i h0=y at*
 refine ⟨by omega,hlt,⟨y.l,x.l⟩,fun k=>⟨by omega,hlt,by omega,hw, ?_⟩,fun k=>⟨hw, ?_⟩⟩
 ·have k':(!(y.v==x.v))=true:=k
  rw [if_pos k'] at hS
  have el:L.length+1=L'.length:=by rw [hS,J3];rfl
  refine ⟨el,Jp el.symm,el,Zi Yh fun j hj=> ?_,(hR _).1,(hR _).2.1,(hR _).2.2,h1⟩
  have hj':j<L.length+1:=by omega
  rw [hS]
  exact Y9 (L:=L) (x:=y) rfl hj'
 ·have k':(!(y.v==x.v))=false:=k
  rw [k',if_neg (by decide),JE] at hS
  rw [hS]
  exact ⟨rfl,J1 _,rfl,Zi Yh fun _ _=>rfl,(hR _).1,(hR _).2.1,(hR _).2.2,h1⟩
def Zf9 (D:Za) (o:LI) (x:H32) (L:List Zq) (i:Nat):St:=⟨51,[(11,.int .i64 i),(2,pt 3),(3,pt 4),(10,.nslice ⟨8,0,98,0,0⟩ 98 L.length L.length),(8,pt 5),(4,pt 6),(5,pt 7)],⟨9,(8,.rows 98 L.length (quR L))::(7,.flat [.arr .u8 32 Ze])::(6,Z3X)::(5,.flat (VF x))::(4,.flat [.arr .u8 32 o])::(3,.flat (dcC D))::dcB D⟩,[]⟩
def ZiQ (D:Za) (x:H32) (L:List Zq):St:=⟨51,[(2,pt 3),(10,.nslice ⟨5,0,98,0,0⟩ 98 L.length L.length),(8,pt 4),(4,pt 6),(5,pt 7)],⟨8,(5,.rows 98 L.length (quR L))::(7,.flat [.arr .u8 32 Ze])::(6,Z3X)::(4,.flat (VF x))::(3,.flat (dcC D))::dcB D⟩,[]⟩
theorem Zlg (D:Za) (o:LI) (x:H32) (L L':List Zq) (i:Nat) (Z1 Z2:Prop) (hL:ZO D) (ho:o.length=32) (hi:i<=D.Q.length) (hl:L=Ws (fun y=> !(y.hash.v==o)) D.Q i) (hl':L'=Ws (fun y=> !(y.hash.v==o)) D.Q (i+1)) (h1:i<D.Q.length->Z1) (h2:i=D.Q.length->Z2):
  ZA G0 40 26 0 3 (Zf9 D o x L i) (rdM 3 0 9 (Zf9 D o x L' (i+1)) (ZiQ D x L) dtN dtN Z1 Z2 False False):=by
 refine @Eq.mpr _ (let C:=D.Q;let a:=C.length;let E:=decide (0<=(↑i:Int)/\(↑i:Int)<(↑a:Int));let w:=0+Int.toNat (↑i:Int);let m:=List.getD C w ZB;let u:=m.hash.v;let b:=L.length;let t:=decide (b=b);let s:=b+1;let J:=decide (wrap i64 ((↑i:Int)+1)=(↑(i+1):Int));let l:=L'.length;let I:=decide (s=l);let H:=[(3,3)];let G:=(4,4)::H;let r:=(7,7)::(6,6)::(5,5)::(8,10)::G;let q:=quR L;let B:=x.v=x.v;let d:=D.T.length;let k:=decide (d=d);let A:=decide (d<=d);let c:=D.S.length;let j:=decide (c=c);let z:=decide (c<=c);let h:=decide (a=a);let y:=decide (a<=a);let g:=tiR D.T;let f:=seR D.S;let e:=quR C;let F:=decide (b=l);let p:=(7,7)::(6,6)::(5,5)::(8,8)::G;let n:=(7,7)::(6,6)::(4,5)::(5,8)::H;
 Z8 (decide ((↑i:Int)<(↑a:Int))) (Z0 E (Z4 (w<a) (Z4 (u.length=32/\o.length=32) (Z8 (!u==o) (Z0 E (Z4 (w<a) (Z0 t (Z4 (s*112<=140737488355328) (Z0 J (Z0 I (Z4 (l<=s) (Z0 I (Z5 3 r l (quR L') (X8 b q (XD [AV.arr u8 32 u,AV.arr u8 32 m.key.v,AV.int i64 m.amount,AV.int i64 m.least,AV.arr u8 32 m.secret.v] 0 98))/\Ze=Ze/\B/\o=o/\Z0 k (Z0 A (Z0 j (Z0 z (Z0 h (Z0 y (Z0 k (Z5 3 r d g g/\Z0 j (Z5 3 r c f f/\Z0 h (Z5 3 r a e e/\Z1)))))))))))))))))) (Z0 J (Z0 F (Z4 (l<=b) (Z0 F (Z5 3 p l (quR L') q/\Ze=Ze/\B/\o=o/\Z0 k (Z0 A (Z0 j (Z0 z (Z0 h (Z0 y (Z0 k (Z5 3 p d g g/\Z0 j (Z5 3 p c f f/\Z0 h (Z5 3 p a e e/\Z1)))))))))))))))))) (Z0 t (Z4 (b<=b) (Z0 t (Z5 3 n b q q/\Ze=Ze/\B/\Z0 k (Z0 A (Z0 j (Z0 z (Z0 h (Z0 y (Z0 k (Z5 3 n d g g/\Z0 j (Z5 3 n c f f/\Z0 h (Z5 3 n a e e/\Z2)))))))))))))) (by kernel_rfl) ?_
 conv=>zeta
 try simp only [vcA]
 try simp only [vcB]
 try simp only [vcC]
 have hR:=Vg D 3
 have hlim:=hL.q
 have hll:L.length<=D.Q.length:=by rw [hl];exact Z3F
 refine ⟨fun hc=> ?_,fun hc=>⟨Zi Yc fun _ _=>rfl,(hR _).1,(hR _).2.1,(hR _).2.2,h2 (by omega)⟩⟩
 have hlt:i<D.Q.length:=by omega
 have hw:i64.wrap ((i:Int)+1)=((i+1:Nat):Int):=by rw [w64 (by omega)];omega
 have h1:=h1 hlt
 have hS:=Z1f ZB (p:=fun y=> !(y.hash.v==o)) hlt
 rw [<-hl',<-hl] at hS
 generalize D.Q.getD i ZB=y at*
 refine ⟨by omega,hlt,⟨y.hash.l,ho⟩,fun k=>⟨by omega,hlt,by omega,hw, ?_⟩,fun k=>⟨hw, ?_⟩⟩
 ·have k':(!(y.hash.v==o))=true:=k
  rw [if_pos k'] at hS
  have el:L.length+1=L'.length:=by rw [hS,J3];rfl
  refine ⟨el,Jp el.symm,el,Zi Yc fun j hj=> ?_,(hR _).1,(hR _).2.1,(hR _).2.2,h1⟩
  have hj':j<L.length+1:=by omega
  rw [hS]
  exact Y9 (L:=L) (x:=y) rfl hj'
 ·have k':(!(y.hash.v==o))=false:=k
  rw [k',if_neg (by decide),JE] at hS
  rw [hS]
  exact ⟨rfl,J1 _,rfl,Zi Yc fun _ _=>rfl,(hR _).1,(hR _).2.1,(hR _).2.2,h1⟩
theorem ZaP (G:Zg) (f:FuncId) (S:ZJ):(G.withF f S).P=G.P:=rfl
noncomputable def Zge (D:Za) (x:Zl):Zg:=(G0.withP 32 Z8u).withL 21 0 (goM 3 (Zf7 D x [] 0) (ZO D) (Yn 0 D.T.length 9 (fun i=>i<D.T.length) (fun i=>i=D.T.length) (fun _=>False) (fun _=>False) (fun i=>ZiO D x (Ws (fun y=> !Qw y x) D.T i)) (fun _=>dtN) (fun _=>dtN)))
theorem ZcY (D:Za) (x:Zl):(Zge D x).Ok:=
 Zg.withL_join (H:=G0) (Zg.withP_ok Zv Z4R) (by simp only [VG]) (Zg.withGoM (N:=40) (k:=3) (n:=D.T.length) (l:=9) (S:=fun i=>Zf7 D x (Ws (fun y=> !Qw y x) D.T i) i) Zv (by kernel_rfl) fun hC=>⟨rfl,fun i hi _=>Zle D x _ _ i _ _ hC hi rfl rfl (fun h=>⟨h,h⟩) fun h=>h⟩)
theorem Zlh (D:Za) (o:LI) (id:Int) (x:Zl) (T':List Zl) (e:Int) (hL:ZO D) (ho:o.length=32) (hx:x=D.T.getD (atO D.T o id) Zr) (he:e=if atO D.T o id<D.T.length then 0 else 5) (hT:T'=unD D.T o id):
  evF (Zge D x) 40 21 [.agg (dcC D),.agg [.arr .u8 32 o],.int .i64 id] ⟨3,dcB D⟩ (Y4 3 (.ret (.tuple [slT 3 T' D 1 2,.agg x.c,.int .i64 e])) 4 [(3,.rows 66 T'.length (tiR T')),(1,.rows 32 D.S.length (seR D.S)),(2,.rows 98 D.Q.length (quR D.Q))]):=by
 refine @Eq.mpr _ (let B:=D.T;let a:=B.length;let c:=D.S.length;let b:=D.Q.length;let m:=tiR B;let f:=seR D.S;let d:=quR D.Q;let g:=T'.length;let C:=decide (a=g);let k:=decide (c=c);let A:=decide (c<=c);let h:=decide (b=b);let z:=decide (b<=b);let r:=x.inn.v;let q:=x.inID;let p:=x.out.v;let n:=x.outID;let w:=[(3,0)];let M:=decide (a=a);let u:=[(6,6),(5,5),(4,7),(3,3)];let L:=r=r;let K:=decide (q=q);let J:=p=p;let I:=decide (n=n);let t:=[(3,7)];
 Z4 (0+a<=a) ((∀(i:Nat),i<a->true=true)/\
 Z4 (0+c<=c) ((∀(i:Nat),i<c->true=true)/\
 Z4 (0+b<=b) ((∀(i:Nat),i<b->true=true)/\
 Z4 ((66:Nat)=66/\a=a) (Z4 ((32:Nat)=32/\c=c) (Z4 ((98:Nat)=98/\b=b) (∃(D_1:Za),
 let s:=D_1.T;let H:=atO s o id;let l:=List.getD s H Zr;
 Z1g D_1 a (Yk 0 m) c (Yk 0 f) b (Yk 0 d)/\
 o.length=32/\
 Z8 (!Nat.blt H (s.length)) (Z0 C (Z4 (g<=a) (Z0 k (Z0 A (Z0 h (Z0 z (Ze=r/\Z4 (0=q) (Ze=p/\Z4 (0=n) (Z4 (5=e) (Z0 C (Z5 3 w g (tiR T') m/\Z0 k (Z5 3 w c f f/\Z0 h (Z5 3 w b d d/\True))))))))))))) (Ze=Ze/\
 Ze=Ze/\
 l.inn.v=r/\
 Z4 (l.inID=q) (l.out.v=p/\
 Z4 (l.outID=n) (Z0 M (Z4 (a<=a) (Z0 k (Z0 A (Z0 h (Z0 z (Z0 M (Z5 3 u a m m/\
 Z0 k (Z5 3 u c f f/\
 Z0 h (Z5 3 u b d d/\
 ZO D/\
 ∀(i:Nat),
 let G:=Ws (fun (y:Zl)=> !Qw y x) B i;let F:=G.length;let E:=decide (F=g);
 i<=a->(∀(j:Nat),j<i->(fun (i:Nat)=>i<a) j)->(i=a->L/\Z0 K (J/\Z0 I (Z0 E (Z4 (g<=F) (Z0 k (Z0 A (Z0 h (Z0 z (L/\Z0 K (J/\Z0 I (Z4 (0=e) (Z0 E (Z5 3 t g (tiR T') (tiR G)/\Z0 k (Z5 3 t c f f/\Z0 h (Z5 3 t b d d/\True)))))))))))))))/\(False->False)/\(False->False)))))))))))))))))))) (by kernel_rfl) ?_
 conv=>zeta
 try simp only [vcA]
 try simp only [vcB]
 try simp only [vcC]
 have hR:=Vg D 3
 have tr:∀{n:Nat} (i:Nat),i<n->True:=fun _ _=>trivial
 refine ⟨tr,tr,tr,D,Z5Q hL,ho,fun k=> ?_,fun k=> ?_⟩
 all_goals rw [Wt] at k
 ·have hj:¬atO D.T o id<D.T.length:=by simpa using k
  have ex:x=Zr:=by rw [hx,VH _ _ (by omega)]
  have e2:T'=D.T:=by rw [hT,unD,if_neg hj]
  rw [ex,e2,he,if_neg hj]
  exact ⟨rfl,J1 _,rfl,rfl,rfl,rfl,rfl,rfl,(hR _).1,(hR _).2.1,(hR _).2.2⟩
 ·have hj:atO D.T o id<D.T.length:=by simpa using k
  rw [<-hx]
  refine ⟨rfl,rfl,rfl,rfl,(hR _).1,(hR _).2.1,(hR _).2.2,hL,fun i hi _=>⟨fun hn=> ?_,fun h=>h,fun h=>h⟩⟩
  have e2:T'=Ws (fun y=> !Qw y x) D.T i:=by rw [hT,unD,if_pos hj,<-hx,hn,Z3E]
  rw [<-e2,he,if_pos hj]
  exact ⟨rfl,J1 _,rfl,rfl,Zi Yb fun _ _=>rfl,(hR _).2.1,(hR _).2.2⟩
def Zgf:ZJ:=fun args h K=>Z1X h args fun D a b c az=>match az with
 | [.agg [.nslice ⟨0,0,66,0,0⟩ 66 n1 n2,.nslice ⟨1,0,32,0,0⟩ 32 n3 n4,.nslice ⟨2,0,98,0,0⟩ 98 n5 n6],.agg [.arr .u8 32 o],.int .i64 id]=>(n1=D.T.length/\n2=D.T.length/\n3=D.S.length/\n4=D.S.length/\n5=D.Q.length/\n6=D.Q.length)/\o.length=32/\K (.ret (.tuple [slT h.next (unD D.T o id) D b c,.agg (D.T.getD (atO D.T o id) Zr).c,.int .i64 (if atO D.T o id<D.T.length then 0 else 5)])) ⟨h.next+1,Zhg h D (unD D.T o id) a b c⟩
 | _=>False
theorem ZcZ (args:List AV) (h:Z6) (K:KO) (hl:Zgf args h K):Zh PP 21 args h K:=by
 refine ZcP hl fun D a b c az hL ha=> ?_
 split at ha
 ·obtain ⟨⟨rfl,rfl,rfl,rfl,rfl,rfl⟩,ho,hK⟩:=ha
  exact ⟨_,_,fun _ _=>rfl,.evM (ZcY D _) (Zlh D _ _ _ _ _ hL ho rfl rfl rfl),hK⟩
 ·exact ha.elim
def slS (nx:Nat) (S':List H32) (D:Za) (a c:Nat):AV:=.agg [.nslice ⟨a,0,66,0,0⟩ 66 D.T.length D.T.length,.nslice ⟨nx,0,32,0,0⟩ 32 S'.length S'.length,.nslice ⟨c,0,98,0,0⟩ 98 D.Q.length D.Q.length]
noncomputable def Zgg (H:LI->LI) (D:Za) (x:H32):Zg:=(G0.withP 36 (ZcX H)).withL 28 0 (goM 3 (Zf8 D x [] 0) (ZO D) (Yn 0 D.S.length 9 (fun i=>i<D.S.length) (fun i=>i=D.S.length) (fun _=>False) (fun _=>False) (fun i=>ZiP D x (Ws (fun y=> !(y.v==x.v)) D.S i)) (fun _=>dtN) (fun _=>dtN)))
theorem Zd0 (D:Za) (x:H32):(Zgg ZR D x).Ok:=
 Zg.withL_join (H:=G0) (Zg.withP_ok Zv Z71) (by simp only [VG]) (Zg.withGoM (N:=40) (k:=3) (n:=D.S.length) (l:=9) (S:=fun i=>Zf8 D x (Ws (fun y=> !(y.v==x.v)) D.S i) i) Zv (by kernel_rfl) fun hC=>⟨rfl,fun i hi _=>Zlf D x _ _ i _ _ hC hi rfl rfl (fun h=>⟨h,h⟩) fun h=>h⟩)
theorem Zli (H:LI->LI) (D:Za) (o:LI) (x:H32) (S':List H32) (e:Int) (hL:ZO D) (ho:o.length=32) (hx:x=D.S.getD (XO H D.S o) h0) (he:e=Z6T H D.S o) (hS:S'=ZaM H D.S o):
  evF (Zgg H D x) 40 28 [.agg (dcC D),.agg [.arr .u8 32 o]] ⟨3,dcB D⟩ (Y4 3 (.ret (.tuple [slS 3 S' D 0 2,.int .i64 e])) 4 [(0,.rows 66 D.T.length (tiR D.T)),(3,.rows 32 S'.length (seR S')),(2,.rows 98 D.Q.length (quR D.Q))]):=by
 refine @Eq.mpr _ (let c:=D.T.length;let p:=D.S;let a:=p.length;let b:=D.Q.length;let f:=tiR D.T;let l:=seR p;let d:=quR D.Q;let g:=decide (c=c);let m:=decide (c<=c);let k:=S'.length;let C:=decide (a=k);let h:=decide (b=b);let t:=decide (b<=b);let s:=[(3,1)];let B:=decide (a=a);let r:=[(5,5),(4,6),(3,3)];let q:=[(3,6)];
 Z4 (0+c<=c) ((∀(i:Nat),i<c->true=true)/\
 Z4 (0+a<=a) ((∀(i:Nat),i<a->true=true)/\
 Z4 (0+b<=b) ((∀(i:Nat),i<b->true=true)/\
 Z4 ((66:Nat)=66/\c=c) (Z4 ((32:Nat)=32/\a=a) (Z4 ((98:Nat)=98/\b=b) (∃(D_1:Za),
 let n:=D_1.S;let A:=XO H n o;
 Z1g D_1 c (Yk 0 f) a (Yk 0 l) b (Yk 0 d)/\
 o.length=32/\
 Z8 (!Nat.blt A (n.length)) (Z0 g (Z0 m (Z0 C (Z4 (k<=a) (Z0 h (Z0 t (Z4 (5=e) (Z0 g (Z5 3 s c f f/\Z0 C (Z5 3 s k (seR S') l/\Z0 h (Z5 3 s b d d/\True))))))))))) ((List.getD n A h0).v=x.v/\
 Z0 g (Z0 m (Z0 B (Z4 (a<=a) (Z0 h (Z0 t (Z0 g (Z5 3 r c f f/\
 Z0 B (Z5 3 r a l l/\
 Z0 h (Z5 3 r b d d/\
 ZO D/\
 ∀(i:Nat),
 let z:=Ws (fun (y:H32)=> !y.v==x.v) p i;let w:=z.length;let u:=decide (w=k);
 i<=a->(∀(j:Nat),j<i->(fun (i:Nat)=>i<a) j)->(i=a->Z0 g (Z0 m (Z0 u (Z4 (k<=w) (Z0 h (Z0 t (Z4 (0=e) (Z0 g (Z5 3 q c f f/\Z0 u (Z5 3 q k (seR S') (seR z)/\Z0 h (Z5 3 q b d d/\True)))))))))))/\(False->False)/\(False->False)))))))))))))))))) (by kernel_rfl) ?_
 conv=>zeta
 try simp only [vcA]
 try simp only [vcB]
 try simp only [vcC]
 have hR:=Vg D 3
 have tr:∀{n:Nat} (i:Nat),i<n->True:=fun _ _=>trivial
 refine ⟨tr,tr,tr,D,Z5Q hL,ho,fun k=> ?_,fun k=> ?_⟩
 all_goals rw [Wt] at k
 ·have hj:¬XO H D.S o<D.S.length:=by simpa using k
  have e2:S'=D.S:=by rw [hS,ZaM,if_neg hj]
  rw [e2,he,Z6T,if_neg hj]
  exact ⟨rfl,J1 _,rfl,(hR _).1,rfl,(hR _).2.1,(hR _).2.2⟩
 ·have hj:XO H D.S o<D.S.length:=by simpa using k
  rw [<-hx]
  refine ⟨rfl,(hR _).1,(hR _).2.1,(hR _).2.2,hL,fun i hi _=>⟨fun hn=> ?_,fun h=>h,fun h=>h⟩⟩
  have e2:S'=Ws (fun y=> !(y.v==x.v)) D.S i:=by rw [hS,ZaM,if_pos hj,<-hx,hn,Z3E]
  rw [<-e2,he,Z6T,if_pos hj]
  exact ⟨rfl,J1 _,rfl,(hR _).1,rfl,Zi Yh fun _ _=>rfl,(hR _).2.2⟩
def Zhi (h:Z6) (D:Za) (S':List H32) (a b c:Nat):List (Nat×Blk):=(a,.rows 66 D.T.length (tiR D.T))::(h.next,.rows 32 S'.length (seR S'))::(c,.rows 98 D.Q.length (quR D.Q))::ZK (ZK (ZK h.bs a) b) c
theorem Zd1 {h:Z6} (hl:Z1X h args K0) (hK:∀D a b c az,ZO D->K0 D a b c az->∃S' ex,(∀σ d,mvL σ d ex=some ex)/\Spec PP g az ⟨3,dcB D⟩ (.ret (.tuple (slS 3 S' D 0 2::ex))) 4 [(0,.rows 66 D.T.length (tiR D.T)),(3,.rows 32 S'.length (seR S')),(2,.rows 98 D.Q.length (quR D.Q))]/\K (.ret (.tuple (slS h.next S' D a c::ex))) ⟨h.next+1,Zhi h D S' a b c⟩):Zh PP g args h K:=by
 unfold Z1X at hl
 split at hl
 ·refine Spec.fsumm hl fun Bs a hlen hK0=> ?_
  split at hK0
  ·obtain ⟨D,⟨⟨rfl,rfl⟩,⟨rfl,rfl⟩,⟨rfl,rfl⟩,hL⟩,hK0⟩:=hK0
   obtain ⟨S',ex,hex,hs,hK⟩:=hK D _ _ _ _ hL hK0
   exact ⟨_,_,_,_,_,hs,by simp,.ret _ _ (by simp only [mvV,mvL,hex];rfl),.cons _ _ _ _ _ _ rfl (.rows _ _ _ (fun i _=>Yb.p _)) (.cons _ _ _ _ _ _ rfl (.rows _ _ _ (fun i _=>Yh.p _)) (.cons _ _ _ _ _ _ rfl (.rows _ _ _ (fun i _=>Yc.p _)) .nil)),hK⟩
  ·exact hK0.elim
 ·exact hl.elim
def Zgh (H:LI->LI):ZJ:=fun args h K=>Z1X h args fun D a b c az=>match az with
 | [.agg [.nslice ⟨0,0,66,0,0⟩ 66 n1 n2,.nslice ⟨1,0,32,0,0⟩ 32 n3 n4,.nslice ⟨2,0,98,0,0⟩ 98 n5 n6],.agg [.arr .u8 32 o]]=>(n1=D.T.length/\n2=D.T.length/\n3=D.S.length/\n4=D.S.length/\n5=D.Q.length/\n6=D.Q.length)/\o.length=32/\K (.ret (.tuple [slS h.next (ZaM H D.S o) D a c,.int .i64 (Z6T H D.S o)])) ⟨h.next+1,Zhi h D (ZaM H D.S o) a b c⟩
 | _=>False
theorem Zd2 (args:List AV) (h:Z6) (K:KO) (hl:Zgh ZR args h K):Zh PP 28 args h K:=by
 refine Zd1 hl fun D a b c az hL ha=> ?_
 split at ha
 ·obtain ⟨⟨rfl,rfl,rfl,rfl,rfl,rfl⟩,ho,hK⟩:=ha
  exact ⟨_,_,fun _ _=>rfl,.evM (Zd0 D _) (Zli ZR D _ _ _ _ hL ho rfl rfl rfl),hK⟩
 ·exact ha.elim
def slQ (nx:Nat) (Q':List Zq) (D:Za) (a b:Nat):AV:=.agg [.nslice ⟨a,0,66,0,0⟩ 66 D.T.length D.T.length,.nslice ⟨b,0,32,0,0⟩ 32 D.S.length D.S.length,.nslice ⟨nx,0,98,0,0⟩ 98 Q'.length Q'.length]
noncomputable def Zgi (D:Za) (o:LI) (x:H32):Zg:=(G0.withP 38 Z9E).withL 26 0 (goM 3 (Zf9 D o x [] 0) (ZO D/\o.length=32) (Yn 0 D.Q.length 9 (fun i=>i<D.Q.length) (fun i=>i=D.Q.length) (fun _=>False) (fun _=>False) (fun i=>ZiQ D x (Ws (fun y=> !(y.hash.v==o)) D.Q i)) (fun _=>dtN) (fun _=>dtN)))
theorem Zd3 (D:Za) (o:LI) (x:H32):(Zgi D o x).Ok:=
 Zg.withL_join (H:=G0) (Zg.withP_ok Zv Z3H) (by simp only [VG]) (Zg.withGoM (N:=40) (k:=3) (n:=D.Q.length) (l:=9) (S:=fun i=>Zf9 D o x (Ws (fun y=> !(y.hash.v==o)) D.Q i) i) Zv (by kernel_rfl) fun hC=>⟨rfl,fun i hi _=>Zlg D o x _ _ i _ _ hC.1 hC.2 hi rfl rfl (fun h=>⟨h,h⟩) fun h=>h⟩)
theorem Zlj (D:Za) (o:LI) (x:H32) (Q':List Zq) (e:Int) (hL:ZO D) (ho:o.length=32) (hx:x=(D.Q.getD (atQ D.Q o) ZB).secret) (he:e=Z6U D.Q o) (hQ:Q'=ZaN D.Q o):
  evF (Zgi D o x) 40 26 [.agg (dcC D),.agg [.arr .u8 32 o]] ⟨3,dcB D⟩ (Y4 3 (.ret (.tuple [slQ 3 Q' D 0 1,.agg [.arr .u8 32 x.v],.int .i64 e])) 4 [(0,.rows 66 D.T.length (tiR D.T)),(1,.rows 32 D.S.length (seR D.S)),(3,.rows 98 Q'.length (quR Q'))]):=by
 refine @Eq.mpr _ (let c:=D.T.length;let b:=D.S.length;let q:=D.Q;let a:=q.length;let f:=tiR D.T;let d:=seR D.S;let l:=quR q;let g:=decide (c=c);let n:=decide (c<=c);let k:=decide (b=b);let u:=decide (b<=b);let h:=Q'.length;let F:=decide (a=h);let m:=x.v;let t:=[(3,2)];let E:=decide (a=a);let s:=[(7,6),(6,5),(5,8),(4,4),(3,3)];let C:=m=m;let r:=[(3,5)];
 Z4 (0+c<=c) ((∀(i:Nat),i<c->true=true)/\
 Z4 (0+b<=b) ((∀(i:Nat),i<b->true=true)/\
 Z4 (0+a<=a) ((∀(i:Nat),i<a->true=true)/\
 Z4 ((66:Nat)=66/\c=c) (Z4 ((32:Nat)=32/\b=b) (Z4 ((98:Nat)=98/\a=a) (∃(D_1:Za),
 let p:=D_1.Q;let B:=atQ p o;
 Z1g D_1 c (Yk 0 f) b (Yk 0 d) a (Yk 0 l)/\
 o.length=32/\
 Z8 (!Nat.blt B (p.length)) (Z0 g (Z0 n (Z0 k (Z0 u (Z0 F (Z4 (h<=a) (Ze=m/\Z4 (5=e) (Z0 g (Z5 3 t c f f/\Z0 k (Z5 3 t b d d/\Z0 F (Z5 3 t h (quR Q') l/\True))))))))))) (Ze=Ze/\
 (List.getD p B ZB).secret.v=m/\
 o=o/\
 Z0 g (Z0 n (Z0 k (Z0 u (Z0 E (Z4 (a<=a) (Z0 g (Z5 3 s c f f/\
 Z0 k (Z5 3 s b d d/\
 Z0 E (Z5 3 s a l l/\
 (ZO D/\o.length=32)/\
 ∀(i:Nat),
 let A:=Ws (fun (y:Zq)=> !y.hash.v==o) q i;let z:=A.length;let w:=decide (z=h);
 i<=a->(∀(j:Nat),j<i->(fun (i:Nat)=>i<a) j)->(i=a->C/\Z0 g (Z0 n (Z0 k (Z0 u (Z0 w (Z4 (h<=z) (C/\Z4 (0=e) (Z0 g (Z5 3 r c f f/\Z0 k (Z5 3 r b d d/\Z0 w (Z5 3 r h (quR Q') (quR A)/\True)))))))))))/\(False->False)/\(False->False)))))))))))))))))) (by kernel_rfl) ?_
 conv=>zeta
 try simp only [vcA]
 try simp only [vcB]
 try simp only [vcC]
 have hR:=Vg D 3
 have tr:∀{n:Nat} (i:Nat),i<n->True:=fun _ _=>trivial
 refine ⟨tr,tr,tr,D,Z5Q hL,ho,fun k=> ?_,fun k=> ?_⟩
 all_goals rw [Wt] at k
 ·have hj:¬atQ D.Q o<D.Q.length:=by simpa using k
  have ex:x=h0:=by rw [hx,VH _ _ (by omega)];rfl
  have e2:Q'=D.Q:=by rw [hQ,ZaN,if_neg hj]
  rw [ex,e2,he,Z6U,if_neg hj]
  exact ⟨rfl,J1 _,rfl,rfl,(hR _).1,(hR _).2.1,rfl,(hR _).2.2⟩
 ·have hj:atQ D.Q o<D.Q.length:=by simpa using k
  rw [<-hx]
  refine ⟨rfl,(hR _).1,(hR _).2.1,(hR _).2.2,⟨hL,ho⟩,fun i hi _=>⟨fun hn=> ?_,fun h=>h,fun h=>h⟩⟩
  have e2:Q'=Ws (fun y=> !(y.hash.v==o)) D.Q i:=by rw [hQ,ZaN,if_pos hj,hn,Z3E]
  rw [<-e2,he,Z6U,if_pos hj]
  exact ⟨rfl,J1 _,rfl,(hR _).1,(hR _).2.1,rfl,Zi Yc fun _ _=>rfl⟩
def Zhj (h:Z6) (D:Za) (Q':List Zq) (a b c:Nat):List (Nat×Blk):=(a,.rows 66 D.T.length (tiR D.T))::(b,.rows 32 D.S.length (seR D.S))::(h.next,.rows 98 Q'.length (quR Q'))::ZK (ZK (ZK h.bs a) b) c
theorem Zd4 {h:Z6} (hl:Z1X h args K0) (hK:∀D a b c az,ZO D->K0 D a b c az->∃Q' ex,(∀σ d,mvL σ d ex=some ex)/\Spec PP g az ⟨3,dcB D⟩ (.ret (.tuple (slQ 3 Q' D 0 1::ex))) 4 [(0,.rows 66 D.T.length (tiR D.T)),(1,.rows 32 D.S.length (seR D.S)),(3,.rows 98 Q'.length (quR Q'))]/\K (.ret (.tuple (slQ h.next Q' D a b::ex))) ⟨h.next+1,Zhj h D Q' a b c⟩):Zh PP g args h K:=by
 unfold Z1X at hl
 split at hl
 ·refine Spec.fsumm hl fun Bs a hlen hK0=> ?_
  split at hK0
  ·obtain ⟨D,⟨⟨rfl,rfl⟩,⟨rfl,rfl⟩,⟨rfl,rfl⟩,hL⟩,hK0⟩:=hK0
   obtain ⟨Q',ex,hex,hs,hK⟩:=hK D _ _ _ _ hL hK0
   exact ⟨_,_,_,_,_,hs,by simp,.ret _ _ (by simp only [mvV,mvL,hex];rfl),.cons _ _ _ _ _ _ rfl (.rows _ _ _ (fun i _=>Yb.p _)) (.cons _ _ _ _ _ _ rfl (.rows _ _ _ (fun i _=>Yh.p _)) (.cons _ _ _ _ _ _ rfl (.rows _ _ _ (fun i _=>Yc.p _)) .nil)),hK⟩
  ·exact hK0.elim
 ·exact hl.elim
def Zgj:ZJ:=fun args h K=>Z1X h args fun D a b c az=>match az with
 | [.agg [.nslice ⟨0,0,66,0,0⟩ 66 n1 n2,.nslice ⟨1,0,32,0,0⟩ 32 n3 n4,.nslice ⟨2,0,98,0,0⟩ 98 n5 n6],.agg [.arr .u8 32 o]]=>(n1=D.T.length/\n2=D.T.length/\n3=D.S.length/\n4=D.S.length/\n5=D.Q.length/\n6=D.Q.length)/\o.length=32/\K (.ret (.tuple [slQ h.next (ZaN D.Q o) D a b,.agg [.arr .u8 32 (D.Q.getD (atQ D.Q o) ZB).secret.v],.int .i64 (Z6U D.Q o)])) ⟨h.next+1,Zhj h D (ZaN D.Q o) a b c⟩
 | _=>False
theorem Zd5 (args:List AV) (h:Z6) (K:KO) (hl:Zgj args h K):Zh PP 26 args h K:=by
 refine Zd4 hl fun D a b c az hL ha=> ?_
 split at ha
 ·obtain ⟨⟨rfl,rfl,rfl,rfl,rfl,rfl⟩,ho,hK⟩:=ha
  exact ⟨_,_,fun _ _=>rfl,.evM (Zd3 D _ _) (Zlj D _ _ _ _ hL ho rfl rfl rfl),hK⟩
 ·exact ha.elim
def Zfa (D:Za) (x:H32) (L:List H32) (b:Bool) (i:Nat):St:=⟨59,[(8,.int .i64 i),(2,pt 3),(3,pt 4),(7,.bool b),(6,.nslice ⟨6,0,32,0,0⟩ 32 L.length L.length),(4,pt 5)],⟨7,(6,.rows 32 L.length (seR L))::(5,Z3X)::(4,.flat (VF x))::(3,.flat (dcC D))::dcB D⟩,[]⟩
def ZiR (D:Za) (x:H32) (L:List H32) (b:Bool):St:=⟨59,[(2,pt 3),(3,pt 4),(7,.bool b),(6,.nslice ⟨6,0,32,0,0⟩ 32 L.length L.length),(4,pt 5)],⟨7,(6,.rows 32 L.length (seR L))::(5,Z3X)::(4,.flat (VF x))::(3,.flat (dcC D))::dcB D⟩,[]⟩
def ZiS (D:Za):St:=⟨59,[(4,pt 3),(5,.int .i64 0)],⟨4,(3,.flat (dcC D))::dcB D⟩,[]⟩
theorem Zlk (D:Za) (x:H32) (L L':List H32) (b b':Bool) (i:Nat) (Z1 Z2 Z3:Prop) (hL:ZO D) (hi:i<=D.S.length) (hb:b=ZZ ltS x D.S i) (hl:L=Y0 ltS x D.S i) (hb':b'=ZZ ltS x D.S (i+1)) (hl':L'=Y0 ltS x D.S (i+1)) (h1:i<D.S.length->ZQ x.v (D.S.getD i h0).v≠0->Z1) (h2:i=D.S.length->Z2) (h3:i<D.S.length->ZQ x.v (D.S.getD i h0).v=0->Z3):
  ZA Z3W 40 22 0 3 (Zfa D x L b i) (rdM 3 0 9 (Zfa D x L' b' (i+1)) (ZiR D x L b) (ZiS D) dtN Z1 Z2 Z3 False):=by
 refine @Eq.mpr _ (let H:=D.S;let a:=H.length;let t:=decide (0<=(↑i:Int)/\(↑i:Int)<(↑a:Int));let p:=0+Int.toNat (↑i:Int);let o:=x.v;let B:=(List.getD H p h0).v;let I:=ZQ o B;let d:=D.T.length;let c:=decide (d=d);let A:=decide (d<=d);let l:=decide (a=a);let z:=decide (a<=a);let k:=D.Q.length;let j:=decide (k=k);let y:=decide (k<=k);let G:=[(3,5)];let h:=tiR D.T;let g:=seR H;let f:=quR D.Q;let e:=L.length;let w:=decide (e=e);let m:=e+1;let P:=decide (m*32<=140737488355328);let F:=m+1;let O:=decide (wrap i64 ((↑i:Int)+1)=(↑(i+1):Int));let n:=L'.length;let N:=decide (F=n);let E:=[(4,4),(3,3)];let u:=(5,5)::(6,10)::E;let s:=seR L;let M:=XD [AV.arr u8 32 B] 0 32;let C:=o=o;let K:=decide (m=n);let r:=(5,5)::(6,8)::E;let J:=Z0 w (Z0 P (Z0 O (Z4 (b=b') (Z0 K (Z4 (n<=m) (Z0 K (Z5 3 r n (seR L') (X8 e s M)/\C/\Z0 c (Z0 A (Z0 l (Z0 z (Z0 j (Z0 y (Z0 c (Z5 3 r d h h/\Z0 l (Z5 3 r a g g/\Z0 j (Z5 3 r k f f/\Z1))))))))))))))));let q:=(5,5)::(6,6)::E;
 Z8 (decide ((↑i:Int)<(↑a:Int))) (Z0 t (Z4 (p<a) ((o.length=32/\B.length=32)/\
 Z8 (I==0) (Z0 c (Z0 A (Z0 l (Z0 z (Z0 j (Z0 y (Z0 c (Z5 3 G d h h/\Z0 l (Z5 3 G a g g/\Z0 j (Z5 3 G k f f/\Z3)))))))))) (Z8 (!b) (Z8 (decide (I<0)) (Z0 w (Z0 P (Z0 t (Z4 (p<a) (Z4 (m=m) (Z4 (F*32<=140737488355328) (Z0 O (Z4 (true=b') (Z0 N (Z4 (n<=F) (Z0 N (Z5 3 u n (seR L') (X8 m (X8 e s (XD [AV.arr u8 32 o] 0 32)) M)/\C/\Z0 c (Z0 A (Z0 l (Z0 z (Z0 j (Z0 y (Z0 c (Z5 3 u d h h/\Z0 l (Z5 3 u a g g/\Z0 j (Z5 3 u k f f/\Z1))))))))))))))))))))) (Z0 t (Z4 (p<a) J))) (Z0 t (Z4 (p<a) J)))))) (Z4 (b=b) (Z0 w (Z4 (e<=e) (Z0 w (Z5 3 q e s s/\C/\Z0 c (Z0 A (Z0 l (Z0 z (Z0 j (Z0 y (Z0 c (Z5 3 q d h h/\Z0 l (Z5 3 q a g g/\Z0 j (Z5 3 q k f f/\Z2))))))))))))))) (by kernel_rfl) ?_
 conv=>zeta
 try simp only [vcA]
 try simp only [vcB]
 try simp only [vcC]
 have hR:=Vg D 3
 have hlim:=hL.s
 have hll:L.length<=D.S.length+1:=by rw [hl];exact XP
 refine ⟨fun hc=> ?_,fun hc=>⟨Zi Yh fun _ _=>rfl,(hR _).1,(hR _).2.1,(hR _).2.2,h2 (by omega)⟩⟩
 have hlt:i<D.S.length:=by omega
 have hw:i64.wrap ((i:Int)+1)=((i+1:Nat):Int):=by rw [w64 (by omega)];omega
 have h1:=h1 hlt
 have hS:=UM h0 (lt:=ltS) (x:=x) hlt
 have hB:=Wr h0 (lt:=ltS) (x:=x) hlt
 rw [<-hl',<-hl,<-hb] at hS
 rw [<-hb',<-hb] at hB
 have h3:=h3 hlt
 generalize D.S.getD i h0=y at*
 refine ⟨by omega,hlt,⟨x.l,y.l⟩,fun k=>⟨(hR _).1,(hR _).2.1,(hR _).2.2,h3 (by simpa using k)⟩,fun k=> ?_⟩
 have h1:=h1 (by simpa using k)
 refine ⟨fun kb=>⟨fun c=> ?_,fun c=> ?_⟩,fun kb=> ?_⟩
 ·have q:ltS x y=true:=decide_eq_true c
  rw [q] at hS hB
  rw [if_pos (by rw [Bool.and_true];exact kb)] at hS
  have el:L.length+1+1=L'.length:=by rw [hS,J3];rfl
  exact ⟨by omega,by omega,hlt,by omega,hw,by rw [hB,Bool.or_true],el,Jp el.symm,el,Zi Yh fun j hj=>by
   have hj':j<L.length+1+1:=by omega
   rw [hS]
   exact U2 (L:=L) (x:=x) (y:=y) rfl rfl hj',(hR _).1,(hR _).2.1,(hR _).2.2,h1⟩
 ·have q:(!b&&ltS x y)=false/\(b||ltS x y)=b:=by
   have:ltS x y=false:=decide_eq_false c
   rw [this,Bool.and_false,Bool.or_false]
   exact ⟨rfl,rfl⟩
  rw [if_neg (by rw [q.1];decide)] at hS
  have el:L.length+1=L'.length:=by rw [hS,J3];rfl
  exact ⟨by omega,hlt,by omega,hw,by rw [hB,q.2],el,Jp el.symm,el,Zi Yh fun j hj=>by
   have hj':j<L.length+1:=by omega
   rw [hS]
   exact Y9 (L:=L) (x:=y) rfl hj',(hR _).1,(hR _).2.1,(hR _).2.2,h1⟩
 ·have q:(!b&&ltS x y)=false/\(b||ltS x y)=b:=by
   have hbt:b=true:=by simpa using kb
   rw [hbt]
   exact ⟨rfl,rfl⟩
  rw [if_neg (by rw [q.1];decide)] at hS
  have el:L.length+1=L'.length:=by rw [hS,J3];rfl
  exact ⟨by omega,hlt,by omega,hw,by rw [hB,q.2],el,Jp el.symm,el,Zi Yh fun j hj=>by
   have hj':j<L.length+1:=by omega
   rw [hS]
   exact Y9 (L:=L) (x:=y) rfl hj',(hR _).1,(hR _).2.1,(hR _).2.2,h1⟩
def Zfb (D:Za) (x:Zq) (L:List Zq) (b:Bool) (i:Nat):St:=⟨81,[(13,.int .i64 i),(3,pt 3),(4,pt 4),(5,pt 5),(12,.bool b),(11,.nslice ⟨7,0,98,0,0⟩ 98 L.length L.length),(6,pt 6)],⟨8,(7,.rows 98 L.length (quR L))::(6,Z3X)::(5,.flat (VF x.secret))::(4,.flat x.ic)::(3,.flat (dcC D))::dcB D⟩,[]⟩
def ZiT (D:Za) (x:Zq) (L:List Zq) (b:Bool):St:=⟨81,[(3,pt 3),(4,pt 4),(5,pt 5),(12,.bool b),(11,.nslice ⟨7,0,98,0,0⟩ 98 L.length L.length),(6,pt 6)],⟨8,(7,.rows 98 L.length (quR L))::(6,Z3X)::(5,.flat (VF x.secret))::(4,.flat x.ic)::(3,.flat (dcC D))::dcB D⟩,[]⟩
theorem Zll (D:Za) (x:Zq) (L L':List Zq) (b b':Bool) (i:Nat) (Z1 Z2:Prop) (hL:ZO D) (hi:i<=D.Q.length) (hb:b=ZZ ltQ x D.Q i) (hl:L=Y0 ltQ x D.Q i) (hb':b'=ZZ ltQ x D.Q (i+1)) (hl':L'=Y0 ltQ x D.Q (i+1)) (h1:i<D.Q.length->Z1) (h2:i=D.Q.length->Z2):
  ZA Z3W 40 24 0 3 (Zfb D x L b i) (rdM 3 0 9 (Zfb D x L' b' (i+1)) (ZiT D x L b) dtN dtN Z1 Z2 False False):=by
 refine @Eq.mpr _ (let R:=D.Q;let a:=R.length;let u:=decide (0<=(↑i:Int)/\(↑i:Int)<(↑a:Int));let q:=0+Int.toNat (↑i:Int);let p:=x.hash.v;let o:=List.getD R q ZB;let z:=o.hash.v;let c:=L.length;let r:=decide (c=c);let f:=c+1;let Z:=decide (f*112<=140737488355328);let P:=f+1;let Y:=decide (wrap i64 ((↑i:Int)+1)=(↑(i+1):Int));let n:=L'.length;let X:=decide (P=n);let O:=[(5,5),(4,4),(3,3)];let y:=(6,6)::(7,11)::O;let w:=quR L;let N:=x.key.v;let M:=x.amount;let K:=x.least;let J:=x.secret.v;let W:=XD [AV.arr u8 32 z,AV.arr u8 32 o.key.v,AV.int i64 o.amount,AV.int i64 o.least,AV.arr u8 32 o.secret.v] 0 98;let I:=J=J;let H:=p=p;let G:=N=N;let F:=decide (M=M);let E:=decide (K=K);let e:=D.T.length;let m:=decide (e=e);let C:=decide (e<=e);let d:=D.S.length;let l:=decide (d=d);let B:=decide (d<=d);let k:=decide (a=a);let A:=decide (a<=a);let j:=tiR D.T;let h:=seR D.S;let g:=quR R;let V:=decide (f=n);let t:=(6,6)::(7,9)::O;let U:=Z0 r (Z0 Z (Z0 Y (Z4 (b=b') (Z0 V (Z4 (n<=f) (Z0 V (Z5 3 t n (quR L') (X8 c w W)/\I/\H/\G/\Z0 F (Z0 E (Z0 m (Z0 C (Z0 l (Z0 B (Z0 k (Z0 A (Z0 m (Z5 3 t e j j/\Z0 l (Z5 3 t d h h/\Z0 k (Z5 3 t a g g/\Z1))))))))))))))))));let s:=(6,6)::(7,7)::O;
 Z8 (decide ((↑i:Int)<(↑a:Int))) (Z8 (!b) (Z0 u (Z4 (q<a) ((p.length=32/\z.length=32)/\Z8 (decide (ZQ p z<0)) (Z0 r (Z0 Z (Z0 u (Z4 (q<a) (Z4 (f=f) (Z4 (P*112<=140737488355328) (Z0 Y (Z4 (true=b') (Z0 X (Z4 (n<=P) (Z0 X (Z5 3 y n (quR L') (X8 f (X8 c w (XD [AV.arr u8 32 p,AV.arr u8 32 N,AV.int i64 M,AV.int i64 K,AV.arr u8 32 J] 0 98)) W)/\I/\H/\G/\Z0 F (Z0 E (Z0 m (Z0 C (Z0 l (Z0 B (Z0 k (Z0 A (Z0 m (Z5 3 y e j j/\Z0 l (Z5 3 y d h h/\Z0 k (Z5 3 y a g g/\Z1))))))))))))))))))))))) (Z0 u (Z4 (q<a) U))))) (Z0 u (Z4 (q<a) U))) (Z4 (b=b) (Z0 r (Z4 (c<=c) (Z0 r (Z5 3 s c w w/\I/\H/\G/\Z0 F (Z0 E (Z0 m (Z0 C (Z0 l (Z0 B (Z0 k (Z0 A (Z0 m (Z5 3 s e j j/\Z0 l (Z5 3 s d h h/\Z0 k (Z5 3 s a g g/\Z2))))))))))))))))) (by kernel_rfl) ?_
 conv=>zeta
 try simp only [vcA]
 try simp only [vcB]
 try simp only [vcC]
 have hR:=Vg D 3
 have hlim:=hL.q
 have hll:L.length<=D.Q.length+1:=by rw [hl];exact XP
 refine ⟨fun hc=> ?_,fun hc=>⟨Zi Yc fun _ _=>rfl,(hR _).1,(hR _).2.1,(hR _).2.2,h2 (by omega)⟩⟩
 have hlt:i<D.Q.length:=by omega
 have hw:i64.wrap ((i:Int)+1)=((i+1:Nat):Int):=by rw [w64 (by omega)];omega
 have h1:=h1 hlt
 have hS:=UM ZB (lt:=ltQ) (x:=x) hlt
 have hB:=Wr ZB (lt:=ltQ) (x:=x) hlt
 rw [<-hl',<-hl,<-hb] at hS
 rw [<-hb',<-hb] at hB
 generalize D.Q.getD i ZB=y at*
 refine ⟨fun kb=>⟨by omega,hlt,⟨x.hash.l,y.hash.l⟩,fun c=> ?_,fun c=> ?_⟩,fun kb=> ?_⟩
 ·have q:ltQ x y=true:=decide_eq_true c
  rw [q] at hS hB
  rw [if_pos (by rw [Bool.and_true];exact kb)] at hS
  have el:L.length+1+1=L'.length:=by rw [hS,J3];rfl
  exact ⟨by omega,by omega,hlt,by omega,hw,by rw [hB,Bool.or_true],el,Jp el.symm,el,Zi Yc fun j hj=>by
   have hj':j<L.length+1+1:=by omega
   rw [hS]
   exact U2 (L:=L) (x:=x) (y:=y) rfl rfl hj',(hR _).1,(hR _).2.1,(hR _).2.2,h1⟩
 ·have q:(!b&&ltQ x y)=false/\(b||ltQ x y)=b:=by
   have:ltQ x y=false:=decide_eq_false c
   rw [this,Bool.and_false,Bool.or_false]
   exact ⟨rfl,rfl⟩
  rw [if_neg (by rw [q.1];decide)] at hS
  have el:L.length+1=L'.length:=by rw [hS,J3];rfl
  exact ⟨by omega,hlt,by omega,hw,by rw [hB,q.2],el,Jp el.symm,el,Zi Yc fun j hj=>by
   have hj':j<L.length+1:=by omega
   rw [hS]
   exact Y9 (L:=L) (x:=y) rfl hj',(hR _).1,(hR _).2.1,(hR _).2.2,h1⟩
 ·have q:(!b&&ltQ x y)=false/\(b||ltQ x y)=b:=by
   have hbt:b=true:=by simpa using kb
   rw [hbt]
   exact ⟨rfl,rfl⟩
  rw [if_neg (by rw [q.1];decide)] at hS
  have el:L.length+1=L'.length:=by rw [hS,J3];rfl
  exact ⟨by omega,hlt,by omega,hw,by rw [hB,q.2],el,Jp el.symm,el,Zi Yc fun j hj=>by
   have hj':j<L.length+1:=by omega
   rw [hS]
   exact Y9 (L:=L) (x:=y) rfl hj',(hR _).1,(hR _).2.1,(hR _).2.2,h1⟩
noncomputable def Zgk (D:Za) (x:H32):Zg:=Z3W.withL 22 0 (goM 3 (Zfa D x [] false 0) (ZO D) (Yn 0 D.S.length 9 (fun i=>ZQ x.v (D.S.getD i h0).v≠0) (fun i=>i=D.S.length) (fun i=>i<D.S.length/\ZQ x.v (D.S.getD i h0).v=0) (fun _=>False) (fun i=>ZiR D x (Y0 ltS x D.S i) (ZZ ltS x D.S i)) (fun _=>ZiS D) (fun _=>dtN)))
theorem Zd6 (D:Za) (x:H32):(Zgk D x).Ok:=
 Zg.withGoM (N:=40) (k:=3) (n:=D.S.length) (l:=9) (S:=fun i=>Zfa D x (Y0 ltS x D.S i) (ZZ ltS x D.S i) i) Z2h (by kernel_rfl) fun hC=>⟨rfl,fun i hi _=>Zlk D x _ _ _ _ i _ _ _ hC hi rfl rfl rfl rfl (fun h1 h2=>⟨h2,h1⟩) (fun h=>h) fun h1 h2=>⟨h1,h2⟩⟩
theorem Zlm (D:Za) (x:H32) (S':List H32) (e:Int) (hL:ZO D) (he:e=Z3V D.S x) (hS:S'=U0 D.S x):
  evF (Zgk D x) 40 22 [.agg (dcC D),.agg (VF x)] ⟨3,dcB D⟩ (Y4 3 (.ret (.tuple [slS 3 S' D 0 2,.int .i64 e])) 4 [(0,.rows 66 D.T.length (tiR D.T)),(3,.rows 32 S'.length (seR S')),(2,.rows 98 D.Q.length (quR D.Q))]):=by
 refine @Eq.mpr _ (let p:=x.v;let g:=D.T.length;let c:=decide (g=g);let n:=decide (g<=g);let m:=D.S;let a:=m.length;let A:=decide (a=a);let f:=D.Q.length;let b:=decide (f=f);let o:=decide (f<=f);let z:=[(5,5),(4,4),(3,3)];let k:=tiR D.T;let y:=seR m;let h:=quR D.Q;let J:=decide ((↑a:Int)>=64);let d:=S'.length;let w:=decide (a=d);let I:=decide (d<=a);let u:=[(3,1)];let H:=Z0 c (Z5 3 u g k k/\Z0 w (Z5 3 u d (seR S') y/\Z0 b (Z5 3 u f h h/\True)));let G:=Z0 c (Z0 n (Z0 w (Z0 I (Z0 b (Z0 o (Z4 (3=e) H))))));let t:=decide (0=e);let s:=[(3,8)];let r:=[(3,6)];
 p=p/\
 Z0 c (Z0 n (Z0 A (Z4 (a<=a) (Z0 b (Z0 o (Z0 c (Z5 3 z g k k/\
 Z0 A (Z5 3 z a y y/\
 Z0 b (Z5 3 z f h h/\
 ZO D/\
 ∀(i:Nat),
 let F:=Y0 ltS x m i;let l:=F.length;let q:=l+1;let E:=decide (q=d);let C:=seR F;let B:=decide (l=d);
 i<=a->
 (∀(j:Nat),j<i->(fun (i:Nat)=>ZQ p (List.getD m i h0).v≠0) j)->
 (i=a->Z8 (!ZZ ltS x m i) (Z4 (l=l) (Z4 (q*32<=140737488355328) (Z8 J G (Z0 c (Z0 n (Z0 E (Z4 (d<=q) (Z0 b (Z0 o (Z0 t (Z0 c (Z5 3 s g k k/\Z0 E (Z5 3 s d (seR S') (X8 l C (XD [AV.arr u8 32 p] 0 32))/\Z0 b (Z5 3 s f h h/\True)))))))))))))) (Z8 J G (Z0 c (Z0 n (Z0 B (Z4 (d<=l) (Z0 b (Z0 o (Z0 t (Z0 c (Z5 3 r g k k/\Z0 B (Z5 3 r d (seR S') C/\Z0 b (Z5 3 r f h h/\True)))))))))))))/\(i<a/\ZQ p (List.getD m i h0).v=0->Z0 c (Z0 n (Z0 w (Z0 I (Z0 b (Z0 o (Z0 t H)))))))/\(False->False))))))))))) (by kernel_rfl) ?_
 conv=>zeta
 try simp only [vcA]
 try simp only [vcB]
 try simp only [vcC]
 have hR:=Vg D 3
 have hlim:=hL.s
 have hk:∀(k:Int) (τ:Ren),S'=D.S->k=e->D.S.length=S'.length/\S'.length<=D.S.length/\k=e/\Z5 3 τ D.T.length (tiR D.T) (tiR D.T)/\D.S.length=S'.length/\Z5 3 τ S'.length (seR S') (seR D.S)/\Z5 3 τ D.Q.length (quR D.Q) (quR D.Q):=fun k τ h0 hk=>by
  rw [h0]
  exact ⟨rfl,J1 _,hk,(hR _).1,rfl,(hR _).2.1,(hR _).2.2⟩
 refine ⟨(hR _).1,(hR _).2.1,(hR _).2.2,hL,fun i hi hg=>⟨fun hn=> ?_,fun hz=> ?_,fun h=>h⟩⟩
 ·have ha:(D.S.any fun y=>decide (ZQ x.v y.v=0))=false:=by
   refine Ke.2 fun y hy=> ?_
   obtain ⟨j,hj,rfl⟩:=Ju hy
   have:=hg j (by omega)
   rw [J5,J8 hj] at this
   have this:ZQ x.v D.S[j].v≠0:=this
   rw [decide_eq_false this]
   decide
  have hE:=QY (lt:=ltS) (x:=x) (D:=D.S)
  have hll:=XP (lt:=ltS) (x:=x) (D:=D.S) (i:=i)
  rw [<-hn] at hE
  have eD:U0 D.S x=if 64<=D.S.length then D.S else Xy ltS x D.S:=by
   unfold U0
   rw [ha]
   rfl
  have eF:Z3V D.S x=if 64<=D.S.length then 3 else 0:=by
   unfold Z3V
   rw [ha]
   rfl
  have no:64<=D.S.length->S'=D.S/\3=e:=fun h=>by
   rw [hS,he,eD,eF,if_pos h,if_pos h]
   exact ⟨rfl,rfl⟩
  have go:¬64<=D.S.length->S'=Xy ltS x D.S/\0=e:=fun h=>by
   rw [hS,he,eD,eF,if_neg h,if_neg h]
   exact ⟨rfl,rfl⟩
  refine ⟨fun hb=>⟨by omega,fun l=>hk 3 _ (no (by omega)).1 (no (by omega)).2,fun l=> ?_⟩,fun hb=>⟨fun l=>hk 3 _ (no (by omega)).1 (no (by omega)).2,fun l=> ?_⟩⟩
  ·obtain ⟨g1,g2⟩:=go (by omega)
   rw [if_neg (by intro h;rw [h] at hb;cases hb),<-g1] at hE
   have el:(Y0 ltS x D.S i).length+1=S'.length:=by rw [hE,J3];rfl
   exact ⟨el,Jp el.symm,g2,(hR _).1,el,Zi Yh fun j hj=>by
    have hj':j<(Y0 ltS x D.S i).length+1:=by omega
    rw [hE]
    exact Y9 (x:=x) rfl hj',(hR _).2.2⟩
  ·obtain ⟨g1,g2⟩:=go (by omega)
   rw [if_pos (by simpa using hb),<-g1] at hE
   rw [hE]
   exact ⟨rfl,J1 _,g2,(hR _).1,rfl,Zi Yh fun _ _=>rfl,(hR _).2.2⟩
 ·have ha:(D.S.any fun y=>decide (ZQ x.v y.v=0))=true:=K5.2 ⟨D.S.getD i h0,by rw [J5,J8 hz.1];exact Jx hz.1,decide_eq_true hz.2⟩
  exact hk 0 _ (by rw [hS,U0,if_pos ha]) (by rw [he,Z3V,if_pos ha])
def Zgl:ZJ:=fun args h K=>Z1X h args fun D a b c az=>match az with
 | [.agg [.nslice ⟨0,0,66,0,0⟩ 66 n1 n2,.nslice ⟨1,0,32,0,0⟩ 32 n3 n4,.nslice ⟨2,0,98,0,0⟩ 98 n5 n6],.agg [.arr .u8 32 o]]=>∃x:H32,(n1=D.T.length/\n2=D.T.length/\n3=D.S.length/\n4=D.S.length/\n5=D.Q.length/\n6=D.Q.length)/\o=x.v/\K (.ret (.tuple [slS h.next (U0 D.S x) D a c,.int .i64 (Z3V D.S x)])) ⟨h.next+1,Zhi h D (U0 D.S x) a b c⟩
 | _=>False
theorem Zd7 (args:List AV) (h:Z6) (K:KO) (hl:Zgl args h K):Zh PP 22 args h K:=by
 refine Zd1 hl fun D a b c az hL ha=> ?_
 split at ha
 ·obtain ⟨x,⟨rfl,rfl,rfl,rfl,rfl,rfl⟩,rfl,hK⟩:=ha
  exact ⟨_,_,fun _ _=>rfl,.evM (Zd6 D x) (Zlm D x _ _ hL rfl rfl),hK⟩
 ·exact ha.elim
noncomputable def Zgm (H:LI->LI) (B:Nat) (D:Za) (x:Zq):Zg:=((G0.withP 77 (Z9l H B)).withP 38 Z9E).withL 24 0 (goM 3 (Zfb D x [] false 0) (ZO D) (Yn 0 D.Q.length 9 (fun i=>i<D.Q.length) (fun i=>i=D.Q.length) (fun _=>False) (fun _=>False) (fun i=>ZiT D x (Y0 ltQ x D.Q i) (ZZ ltQ x D.Q i)) (fun _=>dtN) (fun _=>dtN)))
theorem Zd8 (D:Za) (x:Zq):(Zgm ZR 100000 D x).Ok:=
 Zg.withL_join (H:=Z3W) (Zg.withP_ok Z2i Z3H) (by unfold Z3W ZcR;simp only [VG]) (Zg.withGoM (N:=40) (k:=3) (n:=D.Q.length) (l:=9) (S:=fun i=>Zfb D x (Y0 ltQ x D.Q i) (ZZ ltQ x D.Q i) i) Z2h (by kernel_rfl) fun hC=>⟨rfl,fun i hi _=>Zll D x _ _ _ _ i _ _ hC hi rfl rfl rfl rfl (fun h=>⟨h,h⟩) fun h=>h⟩)
theorem Zln (H:LI->LI) (B:Nat) (D:Za) (x:Zq) (Q':List Zq) (e:Int) (hB:B=100000) (hH:∀x,(H x).length=32) (hL:ZO D) (he:e=YS H D.Q x) (hQ:Q'=Ud H D.Q x):
  evF (Zgm H B D x) 40 24 [.agg (dcC D),.agg x.ic,.agg (VF x.secret)] ⟨3,dcB D⟩ (Y4 3 (.ret (.tuple [slQ 3 Q' D 0 1,.int .i64 e])) 4 [(0,.rows 66 D.T.length (tiR D.T)),(1,.rows 32 D.S.length (seR D.S)),(3,.rows 98 Q'.length (quR Q'))]):=by
 refine @Eq.mpr _ (let q:=x.amount;let s:=x.least;let r:=x.secret.v;let z:=r.length;let O:=H r;let l:=x.hash.v;let b:=D.T.length;let d:=decide (b=b);let m:=decide (b<=b);let c:=D.S.length;let f:=decide (c=c);let p:=decide (c<=c);let w:=D.Q;let a:=w.length;let k:=Q'.length;let u:=decide (a=k);let J:=decide (k<=a);let I:=[(3,2)];let h:=tiR D.T;let g:=seR D.S;let t:=quR w;let G:=Z0 d (Z5 3 I b h h/\Z0 f (Z5 3 I c g g/\Z0 u (Z5 3 I k (quR Q') t/\True)));let o:=Z0 d (Z0 m (Z0 f (Z0 p (Z0 u (Z0 J (Z4 (2=e) G))))));let F:=x.key.v;let R:=decide (a=a);let E:=[(6,6),(5,5),(4,4),(3,3)];let P:=decide (0=e);let C:=[(3,9)];let A:=[(3,7)];
 Z8 (decide (q>0)) (Z8 (decide (q>=0)) (Z8 (decide (q<=1125899906842624)) (Z8 (decide (s>=1)) (Z8 (decide (s<=1000)) (Z4 (z=32) (Z4 (32=z) (Z4 (z<=B) (Z4 (O.length=32/\l.length=32) (Z8 (!O==l) o (Z4 (0+b<=b) ((∀(i:Nat),i<b->true=true)/\
 Z4 (0+c<=c) ((∀(i:Nat),i<c->true=true)/\
 Z4 (0+a<=a) ((∀(i:Nat),i<a->true=true)/\
 Z4 ((66:Nat)=66/\b=b) (Z4 ((32:Nat)=32/\c=c) (Z4 ((98:Nat)=98/\a=a) (∃(D_1:Za),
 Z1g D_1 b (Yk 0 h) c (Yk 0 g) a (Yk 0 t)/\
 l.length=32/\
 Z8 (Nat.blt (atQ D_1.Q l) (D_1.Q.length)) (Z0 d (Z0 m (Z0 f (Z0 p (Z0 u (Z0 J (Z4 (360=e) G))))))) (Z8 (decide ((↑a:Int)>=16)) (Z0 d (Z0 m (Z0 f (Z0 p (Z0 u (Z0 J (Z4 (3=e) G))))))) (r=r/\
 l=l/\
 F=F/\
 Z4 (q=q) (Z4 (s=s) (Z0 d (Z0 m (Z0 f (Z0 p (Z0 R (Z4 (a<=a) (Z0 d (Z5 3 E b h h/\
 Z0 f (Z5 3 E c g g/\
 Z0 R (Z5 3 E a t t/\
 ZO D/\
 ∀(i:Nat),
 let N:=Y0 ltQ x w i;let n:=N.length;let y:=n+1;let M:=decide (y=k);let L:=quR N;let K:=decide (n=k);
 i<=a->(∀(j:Nat),j<i->(fun (i:Nat)=>i<a) j)->(i=a->Z8 (!ZZ ltQ x w i) (Z4 (n=n) (Z4 (y*112<=140737488355328) (Z0 d (Z0 m (Z0 f (Z0 p (Z0 M (Z4 (k<=y) (Z0 P (Z0 d (Z5 3 C b h h/\Z0 f (Z5 3 C c g g/\Z0 M (Z5 3 C k (quR Q') (X8 n L (XD [AV.arr u8 32 l,AV.arr u8 32 F,AV.int i64 q,AV.int i64 s,AV.arr u8 32 r] 0 98))/\True))))))))))))) (Z0 d (Z0 m (Z0 f (Z0 p (Z0 K (Z4 (k<=n) (Z0 P (Z0 d (Z5 3 A b h h/\Z0 f (Z5 3 A c g g/\Z0 K (Z5 3 A k (quR Q') L/\True))))))))))))/\(False->False)/\(False->False)))))))))))))))))))))))))) o) o) o) o) o) (by kernel_rfl) ?_
 conv=>zeta
 try simp only [vcA]
 try simp only [vcB]
 try simp only [vcC]
 subst hB
 have hR:=Vg D 3
 have hlim:=hL.q
 have hl:=x.secret.l
 have hk:∀(k:Int) (τ:Ren),k≠0->YS H D.Q x=k->D.Q.length=Q'.length/\Q'.length<=D.Q.length/\k=e/\Z5 3 τ D.T.length (tiR D.T) (tiR D.T)/\Z5 3 τ D.S.length (seR D.S) (seR D.S)/\D.Q.length=Q'.length/\Z5 3 τ Q'.length (quR Q') (quR D.Q):=fun k τ h0 hk=>by
  have:Q'=D.Q:=by rw [hQ,Ud,if_neg (by omega)]
  rw [this,he,hk]
  exact ⟨rfl,J1 _,rfl,(hR _).1,(hR _).2.1,rfl,(hR _).2.2⟩
 have k2:¬(Xa H x=true)->YS H D.Q x=2:=fun h=>by rw [YS,if_neg h]
 have ok:Xa H x=true↔(1<=x.amount/\x.amount<=1125899906842624)/\(1<=x.least/\x.least<=1000)/\(H x.secret.v==x.hash.v)=true:=by
  unfold Xa
  rw [J2,J2,decide_eq_true_eq,decide_eq_true_eq,and_assoc]
 have k3:Xa H x=true->YS H D.Q x=if atQ D.Q x.hash.v<D.Q.length then 360 else if 16<=D.Q.length then 3 else 0:=fun h=>by rw [YS,if_pos h]
 have tr:∀{n:Nat} (i:Nat),i<n->True:=fun _ _=>trivial
 refine ⟨fun a0=>⟨fun a1=>⟨fun a2=>⟨fun b0=>⟨fun b1=>⟨hl,hl.symm,by omega,⟨hH _,x.hash.l⟩,fun c=>hk 2 _ (by decide) (k2 fun h=> ?_),fun c=> ?_⟩,fun b1=>hk 2 _ (by decide) (k2 fun h=> ?_)⟩,fun b0=>hk 2 _ (by decide) (k2 fun h=> ?_)⟩,fun a2=>hk 2 _ (by decide) (k2 fun h=> ?_)⟩,fun a1=>hk 2 _ (by decide) (k2 fun h=> ?_)⟩,fun a0=>hk 2 _ (by decide) (k2 fun h=> ?_)⟩
 ·have:=(ok.1 h).2.2;rw [this] at c;cases c
 rotate_left
 ·have:=ok.1 h;omega
 ·have:=ok.1 h;omega
 ·have:=ok.1 h;omega
 ·have:=ok.1 h;omega
 ·have:=ok.1 h;omega
 have k3:=k3 (ok.2 ⟨⟨by omega,a2⟩,⟨b0,b1⟩,by simpa using c⟩)
 refine ⟨tr,tr,tr,D,Z5Q hL,x.hash.l,fun k=> ?_,fun k=> ?_⟩
 ·rw [if_pos (XL k)] at k3
  exact hk 360 _ (by decide) k3
 ·rw [if_neg (fun h=>by rw [YI h] at k;cases k)] at k3
  refine ⟨fun l=>hk 3 _ (by decide) (by rw [k3,if_pos (by omega)]),fun l=>⟨(hR _).1,(hR _).2.1,(hR _).2.2,hL,fun i hi _=>⟨fun hn=> ?_,fun h=>h,fun h=>h⟩⟩⟩
  rw [if_neg (by omega)] at k3
  have hQ:Q'=Xy ltQ x D.Q:=by rw [hQ,Ud,if_pos k3]
  have hE:=QY (lt:=ltQ) (x:=x) (D:=D.Q)
  have hll:=XP (lt:=ltQ) (x:=x) (D:=D.Q) (i:=i)
  rw [<-hQ,<-hn] at hE
  refine ⟨fun hb=> ?_,fun hb=> ?_⟩
  ·rw [if_neg (by intro h;rw [h] at hb;cases hb)] at hE
   have el:(Y0 ltQ x D.Q i).length+1=Q'.length:=by rw [hE,J3];rfl
   exact ⟨by omega,el,Jp el.symm,by rw [he,k3],(hR _).1,(hR _).2.1,el,Zi Yc fun j hj=>by
    have hj':j<(Y0 ltQ x D.Q i).length+1:=by omega
    rw [hE]
    exact Y9 (x:=x) rfl hj'⟩
  ·rw [if_pos (by simpa using hb)] at hE
   rw [hE]
   exact ⟨rfl,J1 _,by rw [he,k3],(hR _).1,(hR _).2.1,rfl,Zi Yc fun _ _=>rfl⟩
def Zgn (H:LI->LI):ZJ:=fun args h K=>Z1X h args fun D a b c az=>match az with
 | [.agg [.nslice ⟨0,0,66,0,0⟩ 66 n1 n2,.nslice ⟨1,0,32,0,0⟩ 32 n3 n4,.nslice ⟨2,0,98,0,0⟩ 98 n5 n6],.agg cs,.agg [.arr .u8 32 o]]=>∃x:Zq,(n1=D.T.length/\n2=D.T.length/\n3=D.S.length/\n4=D.S.length/\n5=D.Q.length/\n6=D.Q.length)/\(cs=x.ic/\o=x.secret.v)/\K (.ret (.tuple [slQ h.next (Ud H D.Q x) D a b,.int .i64 (YS H D.Q x)])) ⟨h.next+1,Zhj h D (Ud H D.Q x) a b c⟩
 | _=>False
theorem Zd9 (args:List AV) (h:Z6) (K:KO) (hl:Zgn ZR args h K):Zh PP 24 args h K:=by
 refine Zd4 hl fun D a b c az hL ha=> ?_
 split at ha
 ·obtain ⟨x,⟨rfl,rfl,rfl,rfl,rfl,rfl⟩,⟨rfl,rfl⟩,hK⟩:=ha
  exact ⟨_,_,fun _ _=>rfl,.evM (Zd8 D x) (Zln ZR 100000 D x _ _ rfl VC hL rfl rfl),hK⟩
 ·exact ha.elim
def abZ (a b c:Int):Bool:=decide (c<=i64.wrap (9223372036854775807-b))&&decide (a>=i64.wrap (c+b))
def enY (A:Int->Int->Int->Bool) (x:Zq) (p:Z0F) (q:Z0G) (ht:Int):Int:=if p.amount<x.amount then 32 else if p.amount<q.amount then 32 else if A p.expiry x.least ht=true then (if p.expiry<q.expiry then 33 else 0) else 33
def Zhk (A:Int->Int->Int->Bool):YK:=fun args _ K=>match args with
 | [.int .i64 a,.int .i64 b,.int .i64 c]=>K (.bool (A a b c))
 | _=>False
theorem Zlo (a b c M:Int) (r:Bool) (hM:M=9223372036854775807) (hr:r=(decide (c<=i64.wrap (M-b))&&decide (a>=i64.wrap (c+b)))):
  evF G0 20 81 [.int .i64 a,.int .i64 b,.int .i64 c] ⟨0,[]⟩ (Vz (fun v=>v=.bool r)):=by
 refine @Eq.mpr _ (Z8 (decide (c<=wrap i64 (9223372036854775807-b))) (AV.bool (decide (a>=wrap i64 (c+b)))=AV.bool r) (AV.bool false=AV.bool r)) (by kernel_rfl) ?_
 try simp only [vcA]
 try simp only [vcB]
 try simp only [vcC]
 rw [<-hM]
 refine ⟨fun h=> ?_,fun h=> ?_⟩
 ·rw [hr,decide_eq_true h,Bool.true_and]
 ·rw [hr,decide_eq_false h,Bool.false_and]
theorem Zfc (args:List AV) (h:Z6) (K:AV->Prop) (hl:Zhk abZ args h K):Zh PP 81 args h fun o h'=>∃v,o=.ret v/\h'=h/\K v:=by
 unfold Zhk at hl
 split at hl
 ·exact V1 Zv rfl (Zlo _ _ _ _ _ rfl rfl) fun u hu=>by rw [hu];exact hl
 ·exact hl.elim
noncomputable def Zhl (A:Int->Int->Int->Bool):Zg:=G0.withP 81 (Zhk A)
def Zfd (D:Za) (p:Z0F) (q:Z0G) (ht:Int) (i:Nat):St:=⟨57,[(9,.int .i64 i),(4,pt 0),(5,pt 1),(6,pt 2),(3,.int .i64 ht)],⟨3,[(2,.flat q.c),(1,.flat p.c),(0,.flat (dvC D))]⟩,[]⟩
def Zfe:St:=⟨57,[],⟨0,[]⟩,[]⟩
def ZiU (A:Int->Int->Int->Bool) (D:Za) (p:Z0F) (q:Z0G) (ht:Int) (i:Nat):St:=⟨57,[(8,.int .i64 (enY A (D.Q.getD i ZB) p q ht))],⟨0,[]⟩,[]⟩
theorem Zlp (A:Int->Int->Int->Bool) (D:Za) (p:Z0F) (q:Z0G) (ht:Int) (i:Nat) (Z1 Z2 Z3:Prop) (hL:ZO D) (hi:i<=D.Q.length) (h1:i<D.Q.length->(p.hash.v==(D.Q.getD i ZB).hash.v)=false->Z1) (h2:i=D.Q.length->Z2) (h3:i<D.Q.length->(p.hash.v==(D.Q.getD i ZB).hash.v)=true->Z3):
  ZA (Zhl A) 40 40 0 0 (Zfd D p q ht i) (rdM 0 0 9 (Zfd D p q ht (i+1)) Zfe (ZiU A D p q ht i) Zfe Z1 Z2 Z3 False):=by
 refine @Eq.mpr _ (let e:=D.Q;let b:=e.length;let h:=List.getD e (Int.toNat (↑i:Int)) ZB;let m:=h.hash.v;let a:=p.hash.v;let l:=q.key.v;let k:=q.next.v;let g:=q.amount;let f:=q.expiry;let d:=p.amount;let c:=p.expiry;let B:=p.secret.v;let z:=D.T.length;let y:=decide (z=z);let x:=tiR D.T;let w:=D.S.length;let u:=decide (w=w);let t:=seR D.S;let s:=decide (b=b);let r:=quR e;let j:=enY A (List.getD e i ZB) p q ht;let o:=Z4 (32=j) Z3;let n:=Z4 (33=j) Z3;
 Z8 (decide ((↑i:Int)<(↑b:Int))) (Z4 (0<=(↑i:Int)/\(↑i:Int)<(↑b:Int)) (Z4 (m.length=32/\a.length=32) (Z8 (!m==a) (Z4 (wrap i64 ((↑i:Int)+1)=(↑(i+1):Int)) (Z4 (ht=ht) (l=l/\k=k/\Z4 (g=g) (Z4 (f=f) (Z4 (p.own=p.own) (Z4 (p.id=p.id) (Z4 (d=d) (a=a/\Z4 (c=c) (Z4 (p.stage=p.stage) (Z4 (p.fin=p.fin) (B=B/\Z0 y (x=x/\Z0 y (Z0 u (t=t/\Z0 u (Z0 s (r=r/\Z0 s Z1)))))))))))))))) (Z8 (decide (d<h.amount)) o (Z8 (decide (d<g)) o (Z8 (!A c h.least ht) n (Z8 (decide (c<f)) n (Z4 (0=j) Z3)))))))) Z2) (by kernel_rfl) ?_
 conv=>zeta
 try simp only [vcA]
 try simp only [vcB]
 try simp only [vcC]
 refine ⟨fun hc=> ?_,fun hc=>h2 (by omega)⟩
 have hlt:i<D.Q.length:=by omega
 have hlim:=hL.q
 have hw:i64.wrap ((i:Int)+1)=((i+1:Nat):Int):=by rw [w64 (by omega)];omega
 have h1:=h1 hlt
 have h3:=h3 hlt
 generalize D.Q.getD i ZB=y at*
 have hs:=Z0H p.hash.v y.hash.v
 refine ⟨by omega,⟨y.hash.l,p.hash.l⟩,fun k=>⟨hw,h1 (by rw [hs];simpa using k)⟩,fun k=> ?_⟩
 have h3:=h3 (by rw [hs];simpa using k)
 unfold enY
 refine ⟨fun a=>⟨by rw [if_pos a],h3⟩,fun a=>⟨fun b=>⟨by rw [if_neg a,if_pos b],h3⟩,fun b=>⟨fun c=>⟨?_,h3⟩,fun c=>⟨fun d=>⟨?_,h3⟩,fun d=>⟨?_,h3⟩⟩⟩⟩⟩
 ·rw [if_neg a,if_neg b,if_neg (by intro h;rw [h] at c;cases c)]
 ·rw [if_neg a,if_neg b,if_pos (by simpa using c),if_pos d]
 ·rw [if_neg a,if_neg b,if_pos (by simpa using c),if_neg d]
theorem Zff:(Zhl abZ).Ok:=Zg.withP_ok Zv Zfc
noncomputable def Zgo (A:Int->Int->Int->Bool) (D:Za) (p:Z0F) (q:Z0G) (ht:Int):Zg:=(Zhl A).withL 40 0 (goM 0 (Zfd D p q ht 0) (ZO D) (Yn 0 D.Q.length 9 (fun i=>(p.hash.v==(D.Q.getD i ZB).hash.v)=false) (fun i=>i=D.Q.length) (fun i=>i<D.Q.length/\(p.hash.v==(D.Q.getD i ZB).hash.v)=true) (fun _=>False) (fun _=>Zfe) (fun i=>ZiU A D p q ht i) (fun _=>Zfe)))
theorem Zda (D:Za) (p:Z0F) (q:Z0G) (ht:Int):(Zgo abZ D p q ht).Ok:=
 Zg.withGoM (N:=40) (k:=0) (n:=D.Q.length) (l:=9) (S:=fun i=>Zfd D p q ht i) Zff (by kernel_rfl) fun hC=>⟨rfl,fun i hi _=>Zlp abZ D p q ht i _ _ _ hC hi (fun h1 h2=>⟨h2,h1⟩) (fun h=>h) fun h1 h2=>⟨h1,h2⟩⟩
theorem Zlq (A:Int->Int->Int->Bool) (D:Za) (p:Z0F) (q:Z0G) (ht:Int) (J:Nat) (e:Int) (hL:ZO D) (hJ:J=atQ D.Q p.hash.v) (he:e=if J<D.Q.length then enY A (D.Q.getD J ZB) p q ht else 31):
  evF (Zgo A D p q ht) 40 40 [.agg (dvC D),.agg p.c,.agg q.c,.int .i64 ht] ⟨0,[]⟩ (Vz (fun v=>v=.int .i64 e)):=by
 refine @Eq.mpr _ (let s:=q.key.v;let m:=q.next.v;let c:=p.hash.v;let l:=p.secret.v;let k:=D.T.length;let h:=decide (k=k);let g:=tiR D.T;let f:=D.S.length;let d:=decide (f=f);let r:=seR D.S;let b:=D.Q;let a:=b.length;let o:=decide (a=a);let n:=quR b;
 Z4 (ht=ht) (s=s/\m=m/\Z4 (q.amount=q.amount) (Z4 (q.expiry=q.expiry) (Z4 (p.own=p.own) (Z4 (p.id=p.id) (Z4 (p.amount=p.amount) (c=c/\Z4 (p.expiry=p.expiry) (Z4 (p.stage=p.stage) (Z4 (p.fin=p.fin) (l=l/\Z0 h (g=g/\Z0 h (Z0 d (r=r/\Z0 d (Z0 o (n=n/\Z0 o (ZO D/\∀(i:Nat),i<=a->(∀(j:Nat),j<i->(fun (i:Nat)=>(c==(List.getD b i ZB).hash.v)=false) j)->(i=a->AV.int i64 31=AV.int i64 e)/\(i<a/\(c==(List.getD b i ZB).hash.v)=true->AV.int i64 (enY A (List.getD b i ZB) p q ht)=AV.int i64 e)/\(False->False))))))))))))))))) (by kernel_rfl) ?_
 conv=>zeta
 try simp only [vcA]
 try simp only [vcB]
 try simp only [vcC]
 refine ⟨hL,fun i hi hg=>⟨fun h=> ?_,fun h=> ?_,fun h=>h⟩⟩
 ·have hJ:J=D.Q.length:=hJ.trans (VI h hg)
  rw [he,if_neg (by omega)]
 ·have hJ:J=i:=hJ.trans (UN h.1 h.2 hg)
  rw [he,hJ,if_pos h.1]
def Zgp:YK:=fun args h K=>ZaO h args fun D r=>match r with
 | [.agg cs,.agg ds,.int .i64 _]=>∃(p:Z0F) (q:Z0G),(cs=p.c/\ds=q.c)/\∀e,K (.int .i64 e)
 | _=>False
theorem Zdb (args:List AV) (h:Z6) (K:AV->Prop) (hl:Zgp args h K):Zh PP 40 args h fun o h'=>∃v,o=.ret v/\h'=h/\K v:=by
 refine Z0I hl fun D r hL ha=> ?_
 split at ha
 ·obtain ⟨p,q,⟨rfl,rfl⟩,hK⟩:=ha
  exact ⟨_,Y8.evW6 (Zda D p q _) (Zlq abZ D p q _ _ _ hL rfl rfl),fun _=>rfl,hK _⟩
 ·exact ha.elim
structure YB where
 what:Int
 tie:Zl
 secret:H32
 i:Zq
 own:Bool
 p:Z0F
 q:Z0G
 ht:Int
def YB.c (x:YB):List AV:=.int .i64 x.what::(x.tie.c++.arr .u8 32 x.secret.v::(x.i.ic++.bool x.own::(x.p.c++x.q.c++[.int .i64 x.ht])))
def VJ (HH:H32->H32) (x:YB):Zq:=⟨cond x.own (HH x.secret) x.i.hash,x.i.key,x.i.amount,x.i.least,x.secret⟩
theorem Zlr (H2:LI->LI) (B:Nat) (x:YB) (h:LI) (hB:B=100000) (hh:h=H2 x.secret.v):
  evF (ZcR H2 B) 40 19 [.agg (({ x with own:=true}:YB).c)] ⟨0,[]⟩ (Vz (fun v=>v=.agg [.arr .u8 32 h,.arr .u8 32 x.i.key.v,.int .i64 x.i.amount,.int .i64 x.i.least])):=by
 refine @Eq.mpr _ (let a:=x.i;let e:=YB.mk x.what x.tie x.secret a true x.p x.q x.ht;let d:=e.secret.v;let c:=d.length;let b:=e.i;
 Z4 (c=32) (Z4 (32=c) (Z4 (c<=B) (AV.agg [AV.arr u8 32 (H2 d),AV.arr u8 32 b.key.v,AV.int i64 b.amount,AV.int i64 b.least]=AV.agg [AV.arr u8 32 h,AV.arr u8 32 a.key.v,AV.int i64 a.amount,AV.int i64 a.least])))) (by kernel_rfl) ?_
 conv=>zeta
 try simp only [vcA]
 try simp only [vcB]
 try simp only [vcC]
 subst hB
 have hl:=x.secret.l
 exact ⟨hl,hl.symm,by omega,by rw [hh]⟩
theorem Zls (x:YB) :
  evF G0 40 19 [.agg (({ x with own:=false}:YB).c)] ⟨0,[]⟩ (Vz (fun v=>v=.agg x.i.ic)):=by
 refine @Eq.mpr _ (let a:=(YB.mk x.what x.tie x.secret x.i false x.p x.q x.ht).i;
 AV.agg [AV.arr u8 32 a.hash.v,AV.arr u8 32 a.key.v,AV.int i64 a.amount,AV.int i64 a.least]=AV.agg (Zq.ic x.i)) (by kernel_rfl) ?_
 conv=>zeta
 try simp only [vcA]
 try simp only [vcB]
 try simp only [vcC]
 rfl
theorem Zhm (x:H32):∀v∈ZR x.v,0<=v/\v<=255:=fun v hv=>by
 rw [Z9v x.u8 (by rw [x.l];decide)] at hv
 have:=ZeO _ v hv
 unfold U8 at this
 omega
def hhD (x:H32):H32:=⟨ZR x.v,VC _,Zhm x⟩
structure Z1L (cs:List AV) (x:YB):Prop where
 h:cs=x.c
def Zdc (HH:H32->H32):YK:=fun args _ K=>match args with
 | [.agg cs]=>∃x,Z1L cs x/\K (.agg (VJ HH x).ic)
 | _=>False
theorem Zdd (args:List AV) (h:Z6) (K:AV->Prop) (hl:Zdc hhD args h K):Zh PP 19 args h fun o h'=>∃v,o=.ret v/\h'=h/\K v:=by
 unfold Zdc at hl
 split at hl
 ·obtain ⟨⟨w,t,s,i,own,p,q,ht⟩,⟨rfl⟩,hK⟩:=hl
  cases own with
  | true=>exact V1 Z2i rfl (Zlr ZR 100000 ⟨w,t,s,i,true,p,q,ht⟩ _ rfl rfl) fun u hu=>by rw [hu];exact hK
  | false=>exact V1 Zv rfl (Zls ⟨w,t,s,i,false,p,q,ht⟩) fun u hu=>by rw [hu];exact hK
 ·exact hl.elim
noncomputable def Zfg (H H2:LI->LI) (B:Nat) (HH:H32->H32):Zg:=(((((((((((((((((((((((G0.withP 77 (Z9l H2 B)).withF 17 (Zhb H)).withF 18 (ZiC H)).withF 23 (Zhf H)).withF 30 (ZiE H)).withF 25 (ZcN H)).withF 27 (ZiG H)).withF 31 (Z9A H)).withF 33 (Z9A H)).withF 35 (ZiF H)).withF 37 (ZiH H)).withF 39 (Zg7 H)).withF 20 Zg8).withF 21 Zgf).withF 22 Zgl).withF 28 (Zgh H2)).withF 24 (Zgn H2)).withF 26 Zgj).withP 32 Z8u).withP 34 Zgd).withP 36 (ZcX H2)).withP 38 Z9E).withP 40 Zgp).withP 19 (Zdc HH)
theorem Z5R:(Zfg Zf ZR 100000 hhD).Ok:=
 Zg.withP_ok (Zg.withP_ok (Zg.withP_ok (Zg.withP_ok (Zg.withP_ok (Zg.withP_ok (Zg.withF_ok (Zg.withF_ok (Zg.withF_ok (Zg.withF_ok (Zg.withF_ok (Zg.withF_ok (Zg.withF_ok (Zg.withF_ok (Zg.withF_ok (Zg.withF_ok (Zg.withF_ok (Zg.withF_ok (Zg.withF_ok (Zg.withF_ok (Zg.withF_ok (Zg.withF_ok (Zg.withF_ok Z2i (Z9z Zf)) (ZeS Zf)) Z9D) ZeW) Z6X) (ZeY Zf)) (ZcL Zf)) (ZeT Zf)) ZeX) (ZeZ Zf)) (ZcO Zf)) ZcQ) ZcZ) Zd7) Zd2) Zd9) Zd5) Z4R) ZcW) Z71) Z3H) Zdb) Zdd
theorem Z1M (h:ZO D):V4 D D.T.length (tiR D.T) D.S.length (seR D.S) D.Q.length (quR D.Q):=⟨⟨rfl,rfl⟩,⟨rfl,rfl⟩,⟨rfl,rfl⟩,h⟩
def acB (H:LI->LI) (X D:Za):List (Nat×Blk):=tbO H X++[(5,.rows 66 D.T.length (tiR D.T)),(6,.rows 32 D.S.length (seR D.S)),(7,.rows 98 D.Q.length (quR D.Q))]
def acC (D:Za):List AV:=[.nslice ⟨5,0,66,0,0⟩ 66 D.T.length D.T.length,.nslice ⟨6,0,32,0,0⟩ 32 D.S.length D.S.length,.nslice ⟨7,0,98,0,0⟩ 98 D.Q.length D.Q.length]
def acO (H:LI->LI) (X D:Za):List (Nat×Blk):=tbO H X++[(8,.rows 66 D.T.length (tiR D.T)),(9,.rows 32 D.S.length (seR D.S)),(10,.rows 98 D.Q.length (quR D.Q))]
def acX (H H2:LI->LI) (HH:H32->H32) (x:YB) (X:Za):Za:=if x.what=0 then ⟨W6 X.T x.tie,X.S,X.Q⟩ else if x.what=1 then ⟨unP X.T x.tie.out.v x.tie.outID,X.S,X.Q⟩ else if x.what=2 then ⟨X.T,Xz H X.S x.secret,X.Q⟩ else if x.what=3 then ⟨X.T,X.S,Wh H X.Q (VJ HH x)⟩ else if x.what=4 then ⟨X.T,X.S,ZcB X.Q (VJ HH x).hash.v⟩ else if x.what=5 then ⟨X.T,ZcA H X.S (H2 x.secret.v),X.Q⟩ else X
def acD (H2:LI->LI) (HH:H32->H32) (x:YB) (D:Za):Za:=if x.what=0 then ⟨Qi D.T x.tie,D.S,D.Q⟩ else if x.what=1 then ⟨unD D.T x.tie.out.v x.tie.outID,D.S,D.Q⟩ else if x.what=2 then ⟨D.T,U0 D.S x.secret,D.Q⟩ else if x.what=3 then ⟨D.T,D.S,Ud H2 D.Q (VJ HH x)⟩ else if x.what=4 then ⟨D.T,D.S,ZaN D.Q (VJ HH x).hash.v⟩ else if x.what=5 then ⟨D.T,ZaM H2 D.S (H2 x.secret.v),D.Q⟩ else D
end Go.Tk
end
section
namespace Go.Tk
open IntKind (i64 u8 u32 u64 wrap)
open Go.Proofs Go.Shelf Go.Lib Go.Sort
theorem Z72 {W w':World} (h1:W.heap.size<=w'.heap.size) (h2:w'.os=W.os) (h3:w'.tape=W.tape) (h4:w'.output=W.output/\W.drawn<=w'.drawn) (h5:∀b,b<W.heap.size->w'.heap[b]? =W.heap[b]?):∃q os',w'=grow (W.drewN q) os':=by
 refine ⟨w'.drawn-W.drawn,w'.heap.extract W.heap.size w'.heap.size, ?_⟩
 obtain ⟨heap,tape,drawn,os,output⟩:=w'
 obtain ⟨heap0,tape0,drawn0,os0,output0⟩:=W
 simp only at h1 h2 h3 h4 h5
 unfold grow World.drewN
 simp only [World.mk.injEq]
 refine ⟨?_,h3,by omega,h2,h4.1⟩
 apply Array.ext_getElem?
 intro i
 rcases Jo i heap0.size with h|h
 ·rw [Array.getElem?_append_left h];exact h5 i h
 ·rw [Array.getElem?_append_right h,Array.getElem?_extract]
  rcases Jo i heap.size with h'|h'
  ·rw [if_pos (by omega)];congr 1;omega
  ·rw [if_neg (by omega),K8 (by omega)]
section
variable {P:Program} {ρ:Go.Shelf.Ren} {α:Type} [Inhabited α]
theorem Z8v {g k:Nat} {c:α->List AV} {enc:α->List Value} (hc2:∀E x,Zm E (c x) (enc x)) {cf:α->α->Int} (hcmp:∀x y,Y8 P g [.agg (c x),.agg (c y)] (.int .i64 (cf x y)) 0 []) (blk off size:Nat) (w:World):
  CmpLays P g #[] enc k cf blk off size w:=by
 intro m os dk hs x y
 have E0:Emb ⟨fun _=>none,fun _ _=>False⟩ ⟨0,[]⟩ (sortWorldK enc k w blk off m dk os):=
  ⟨fun _ _=>rfl,fun x B h=>by simp [Z6.get,ZC] at h,fun x B h=>by simp [Z6.get,ZC] at h,fun x y B B' b N N' h=>by simp [Z6.get,ZC] at h,fun _ _ h=>h.elim,fun _ _ _ _ _ h=>h.elim⟩
 refine (hcmp x y _ _ [.agg (enc x).toArray,.agg (enc y).toArray] E0 (.cons _ _ _ _ (.agg _ _ (hc2 _ _)) (.cons _ _ _ _ (.agg _ _ (hc2 _ _)) .nil))).mono ?_
 rintro e w' ⟨E',r,rfl,hev,hr⟩
 cases hr
 refine ⟨rfl,Z72 hev.size hev.os hev.tape hev.output fun b hb=>hev.keep b hb ?_⟩
 rintro ⟨x,B,N,hx,_⟩
 simp [Z6.get,ZC] at hx
theorem Z1h (L:SlLaysF0.n6 P ρ) {k:Nat} (aE:∀w,(Go.isAgg (ρ.t 24)).run P w=.ok true w) (zE:∀w,(Go.sizeOf (ρ.t 24)).run P w=.ok k w) {c:α->List AV} {enc:α->List Value} (hk:∀x,(enc x).length=k) (hk0:0<k) (h1:∀x,∀v∈enc x,v.oneCell'=true)
  (hc1:∀E x vs,Zm E (c x) vs->vs=enc x) (hc2:∀E x,Zm E (c x) (enc x)) {cf:α->α->Int} (hO:SWO (ltOf cf)) {g:Nat} (eg:∀args w,(callFunc g args).run P w=.ok (.enter g args) w)
  (hcmp:∀x y,Y8 P g [.agg (c x),.agg (c y)] (.int .i64 (cf x y)) 0 []) {l L':List α} {n lo:Nat} (hn:l.length=n) (h0:0<n) (hsz:n<4611686018427387904) {f f':Nat->List AV} (hf0:∀i,i<n->f i=c (l.getD i default)) (hf1:∀i,i<n->f' i=c (L'.getD i default))
  (hL:∀l':List α,l'.Perm l->l'.Pairwise (fun a b=>ltOf cf b a=false)->l'=L'):
  Spec P (ρ.f 6) [.nslice ⟨0,0,k,0,0⟩ k n lo,.func (.func g) [] []] ⟨1,[(0,.rows k n f)]⟩ (.ret (.tuple [])) 1 [(0,.rows k n f')]:=by
 intro E w rs he hr
 cases hr with
 | cons v r vs rs hr1 hr2=>
 cases hr2 with
 | cons v2 r2 vs2 rs2 hr2 hr3=>
 cases hr3
 cases hr2 with
 | func fn fi ca fs cs h3 h4=>
 cases h3
 cases h4
 cases hr1 with
 | nslice0 p esz len lo a q1 q2=>omega
 | nslice p esz len lo b N cap hb q1 q2 q3=>
 have hB:=he.own 0 _ rfl
 cases hB with
 | rows0 sz n f q0 hno=>omega
 | rows sz n f b' cells elem fr gg hb' hw hfr hc hl hv=>
 rw [hb'] at hb
 cases hb
 have htot:(ZI.mk 0 0 k 0 0).tot=0:=by simp [ZI.tot]
 rw [htot] at q3⊢
 have hgg:∀i,i<n->gg i=enc (l.getD i default):=fun i hi=>by
  have:=hc i hi
  rw [hf0 i hi] at this
  exact hc1 _ _ _ this
 have hcs:n*k<=cells.size:=by
  rcases Jo cells.size (n*k) with h|h
  ·exfalso
   have e:n=(n-1)+1:=by omega
   have hlast:(gg (n-1))[k-1]? =some ((gg (n-1))[k-1]'(by rw [hl _ (by omega)];omega)):=J8 _
   have:=hv (n-1) (k-1) _ (by omega) hlast
   have e2:(n-1)*k+(k-1)<cells.size:=by
    rcases Jo ((n-1)*k+(k-1)) cells.size with h'|h'
    ·exact h'
    ·rw [K8 h'] at this;cases this
   have e3:n*k=(n-1)*k+k:=by rw [e,K7];simp
   omega
  ·exact h
 have hdiv:∀j,j<n*k->j/k<n:=fun j hj=>(Nat.div_lt_iff_lt_mul hk0).2 hj
 have hH:HoldsK enc k w b 0 l.toArray:=by
  intro j hj
  rw [size_flatK] at hj
  have hj:j<n*k:=by simpa [hn] using hj
  have hi:=hdiv j hj
  have hm:j%k<k:=Nat.mod_lt _ hk0
  rw [get_flatK _ _ _ _ (by simpa [hn] using hj)]
  have e:l.toArray[j/k]! =l.getD (j/k) default:=by simp [J5]
  have hx:(gg (j/k))[j%k]? =some ((enc (l.getD (j/k) default))[j%k]!):=by
   rw [hgg _ hi]
   rw [J8 (by rw [hk];exact hm)]
   simp [getElem!_pos,hk,hm]
  have hcell:=hv (j/k) (j%k) _ hi hx
  have ej:j/k*k+j%k=j:=by rw [Nat.mul_comm];exact Nat.div_add_mod j k
  rw [ej] at hcell
  refine ⟨?_, ?_⟩
  ·rw [Jq,cell_of_heap hw,hcell,e];rfl
  ·unfold World.frozen?
   simp only [Jq,hw]
   have:=hfr j (by omega)
   rw [Bool.eq_false_iff]
   simp only [ne_eq,J2,decide_eq_true_eq]
   exact this
 have hblk:b<w.heap.size:=(he.own 0 _ rfl).lt hb'
 have hcon:=AnyQ.slices_SortFunc L k aE zE enc hk h1 cf hO g #[] b 0 cap l.toArray w eg (Z8v hc2 hcmp b 0 _ w) hH hblk (by simpa [hn] using hsz)
 have en:l.toArray.size=n:=by simpa using hn
 rw [en] at hcon
 refine hcon.mono ?_
 rintro e w' ⟨rfl,d',m,os,hp,hs,rfl⟩
 obtain ⟨p1,_,p3⟩:=hp
 rw [en] at p1
 have pe:(d'.extract 0 n)=d':=by rw [<-p1];simp
 have pe2:(l.toArray.extract 0 n)=l.toArray:=by rw [<-en];simp
 rw [pe,pe2] at p3
 have hLd:d'.toList=L':=by
  refine hL _ p3 ?_
  rw [Jk]
  intro i j hi hj hij
  have:=hs i j (JI _) hij (by simpa [p1] using hj)
  have e1:d'[i]! =d'.toList[i]:=by simp only [Array.length_toList] at hi;simp [getElem!_pos,hi]
  have e2:d'[j]! =d'.toList[j]:=by simp only [Array.length_toList] at hj;simp [getElem!_pos,hj]
  rw [e1,e2] at this
  exact this
 have hheap:(sortWorldK enc k w b 0 m d' os).heap=w.heap.modify b (onCells (putCells id 0 (flatK enc k d')))++os:=rfl
 have hold:∀i,i<w.heap.size->i≠b->(sortWorldK enc k w b 0 m d' os).heap[i]? =w.heap[i]?:=fun i hi hib=>by
  rw [hheap,Array.getElem?_append_left (by simpa using hi),Array.getElem?_modify,if_neg (fun h=>hib h.symm)]
 have hnew:(sortWorldK enc k w b 0 m d' os).heap[b]? =some (.cells (putCells id 0 (flatK enc k d') cells) elem fr):=by
  rw [hheap,Array.getElem?_append_left (by simpa using hblk),Array.getElem?_modify,if_pos rfl,hw];rfl
 have hpsz:(putCells id 0 (flatK enc k d') cells).size=cells.size:=by simp [putCells]
 have hle:w.heap.size<=(sortWorldK enc k w b 0 m d' os).heap.size:=by rw [hheap];simp
 have hown:∀{H:Z6} {i:Nat},H=⟨1,[(0,Blk.rows k n f)]⟩\/H=⟨1,[(0,Blk.rows k n f')]⟩->(X5 E H i↔i=b):=by
  intro H i hq0
  constructor
  ·rintro ⟨x,B,N,hx,hbx⟩
   have hx0:x=0:=by
    rcases hq0 with rfl|rfl
    ·simp only [Z6.get,ZC] at hx
     split at hx
     ·rename_i hq;exact (J0 hq).symm
     ·cases hx
    ·simp only [Z6.get,ZC] at hx
     split at hx
     ·rename_i hq;exact (J0 hq).symm
     ·cases hx
   subst hx0
   rw [hb'] at hbx
   cases hbx;rfl
  ·rintro rfl
   rcases hq0 with rfl|rfl<;>exact ⟨0,_,_,rfl,hb'⟩
 have hbn:∀a cc,E.imm a cc->a.block≠b:=fun a cc hi hq=>he.sep a cc 0 _ _ hi rfl (by rw [hb',hq])
 refine ⟨E,⟨.refl E,⟨he.fresh,fun x B hx=> ?_,fun x B hx=> ?_,fun x y B B' bb N N' hx hy _ _=> ?_,fun a cc hi=> ?_,fun a cc x B N hi hx hbx=> ?_⟩,hle,rfl,rfl,⟨rfl,Nat.le_add_right _ _⟩,fun i hi hno=>hold i hi (fun h=>hno ((hown (.inl rfl)).2 h)),fun i ho=>.inl ((hown (.inl rfl)).2 ((hown (.inr rfl)).1 ho)),fun _ _ h=>h⟩,.ret _ _ (.tuple [] [] .nil)⟩
 ·simp only [Z6.get,ZC] at hx
  split at hx
  ·rename_i hq;have:=J0 hq;show x<1;omega
  ·cases hx
 ·simp only [Z6.get,ZC] at hx
  split at hx
  ·rename_i hq
   have:=J0 hq
   subst this
   cases hx
   refine .rows k n f' b _ elem fr (fun i=>enc (L'.getD i default)) (by rw [hpsz];exact hb') hnew (fun o ho=>hfr o (by rw [hpsz] at ho;exact ho)) (fun i hi=>by rw [hf1 i hi];exact hc2 _ _) (fun i hi=>hk _) (fun i j cc hi hj=> ?_)
   have hjk:j<k:=by
    have:=(Ja.1 hj).1
    rw [hk] at this;exact this
   have ht:i*k+j<n*k:=by
    have:(i+1)*k<=n*k:=JN _ hi
    rw [K7,Nat.one_mul] at this
    omega
   unfold putCells
   rw [Array.getElem?_mapIdx,Array.getElem?_eq_getElem (by omega)]
   simp only [Option.map_some]
   rw [if_pos ⟨JI _,by rw [size_flatK,p1];omega⟩,Nat.sub_zero,get_flatK _ _ _ _ (by rw [p1];exact ht)]
   have e1:(i*k+j)/k=i:=by rw [Nat.mul_comm,Nat.mul_add_div hk0,Nat.div_eq_of_lt hjk];rfl
   have e2:(i*k+j)%k=j:=by rw [Nat.mul_comm,Nat.mul_add_mod,JP hjk]
   rw [e1,e2]
   have e3:d'[i]! =L'.getD i default:=by
    have hid:i<d'.size:=by omega
    rw [<-hLd,J5];simp [getElem!_pos,hid]
   rw [e3]
   obtain ⟨hjl,hj2⟩:=Ja.1 hj
   rw [<-hj2,getElem!_pos (enc (L'.getD i default)) j hjl];rfl
  ·cases hx
 ·simp only [Z6.get,ZC] at hx hy
  split at hx
  ·rename_i hq
   split at hy
   ·rename_i hq'
    rw [<-Nat.eq_of_beq_eq_true hq,<-Nat.eq_of_beq_eq_true hq']
   ·cases hy
  ·cases hx
 ·have h0:=he.imm a cc hi
  have hlt:a.block<w.heap.size:=by
   rcases Jo a.block w.heap.size with hl|hg
   ·exact hl
   ·simp [World.cell?,K8 hg] at h0
  simpa [World.cell?,hold _ hlt (hbn a cc hi)] using h0
 ·have:=(hown (H:=⟨1,[(0,.rows k n f')]⟩) (.inr rfl)).1 ⟨x,B,N,hx,hbx⟩
  exact hbn a cc hi this
end
end Go.Tk
end
section
namespace Go.Tk
open IntKind (i64 u8 u32 u64 wrap)
variable {D:List Zl} {α:Type} {H:LI->LI} {X:Za}
def ZaQ:Go.Shelf.Ren:=⟨fun|6=>129|15=>149|14=>152|28=>173|29=>174|20=>175|21=>176|22=>177|23=>178|24=>179|25=>180|26=>181|27=>182|46=>199|47=>195|48=>196|49=>200|50=>201|57=>206|n=>n,fun|22=>25|24=>33|25=>125|3=>3|39=>206|0=>0|53=>174|55=>169|4=>4|46=>242|45=>241|50=>246|5=>5|9=>9|66=>264|70=>268|76=>274|77=>275|n=>n,fun|n=>n⟩
theorem ZiV:Go.Proofs.SlLaysF0.n6 PP ZaQ:={
 mixed:=by kernel_rfl,
 f6:=⟨Go.Proofs.Tryz.f129.name,by decide,Go.Proofs.Tryz.func129.trans (congrArg some (by kernel_rfl))⟩,
 f14:=⟨Go.Proofs.Tryz.f152.name,by decide,Go.Proofs.Tryz.func152.trans (congrArg some (by kernel_rfl))⟩,
 f15:=Go.Proofs.Tryz.func149.trans (congrArg some (by kernel_rfl)),
 f20:=⟨Go.Proofs.Tryz.f175.name,by decide,Go.Proofs.Tryz.func175.trans (congrArg some (by kernel_rfl))⟩,
 f21:=⟨Go.Proofs.Tryz.f176.name,by decide,Go.Proofs.Tryz.func176.trans (congrArg some (by kernel_rfl))⟩,
 f22:=⟨Go.Proofs.Tryz.f177.name,by decide,Go.Proofs.Tryz.func177.trans (congrArg some (by kernel_rfl))⟩,
 f23:=⟨Go.Proofs.Tryz.f178.name,by decide,Go.Proofs.Tryz.func178.trans (congrArg some (by kernel_rfl))⟩,
 f24:=⟨Go.Proofs.Tryz.f179.name,by decide,Go.Proofs.Tryz.func179.trans (congrArg some (by kernel_rfl))⟩,
 f25:=⟨Go.Proofs.Tryz.f180.name,by decide,Go.Proofs.Tryz.func180.trans (congrArg some (by kernel_rfl))⟩,
 f26:=⟨Go.Proofs.Tryz.f181.name,by decide,Go.Proofs.Tryz.func181.trans (congrArg some (by kernel_rfl))⟩,
 f27:=⟨Go.Proofs.Tryz.f182.name,by decide,Go.Proofs.Tryz.func182.trans (congrArg some (by kernel_rfl))⟩,
 f28:=Go.Proofs.Tryz.func173.trans (congrArg some (by kernel_rfl)),
 f29:=Go.Proofs.Tryz.func174.trans (congrArg some (by kernel_rfl)),
 f46:=⟨Go.Proofs.Tryz.f199.name,by decide,Go.Proofs.Tryz.func199.trans (congrArg some (by kernel_rfl))⟩,
 f47:=Go.Proofs.Tryz.func195.trans (congrArg some (by kernel_rfl)),
 f48:=Go.Proofs.Tryz.func196.trans (congrArg some (by kernel_rfl)),
 f49:=⟨Go.Proofs.Tryz.f200.name,by decide,Go.Proofs.Tryz.func200.trans (congrArg some (by kernel_rfl))⟩,
 f50:=⟨Go.Proofs.Tryz.f201.name,by decide,Go.Proofs.Tryz.func201.trans (congrArg some (by kernel_rfl))⟩,
 f57:=⟨Go.Proofs.Tryz.f206.name,by decide,Go.Proofs.Tryz.func206.trans (congrArg some (by kernel_rfl))⟩,
 t0:=Go.Proofs.Tryz.underlying0,
 a0:=Go.Proofs.Tryz.isAgg0,
 z0:=Go.Proofs.Tryz.sizeOf0,
 v0:=Go.Proofs.Tryz.zeroValue0,
 t3:=Go.Proofs.Tryz.underlying3,
 a3:=Go.Proofs.Tryz.isAgg3,
 z3:=Go.Proofs.Tryz.sizeOf3,
 v3:=Go.Proofs.Tryz.zeroValue3,
 t4:=Go.Proofs.Tryz.underlying4,
 a4:=Go.Proofs.Tryz.isAgg4,
 z4:=Go.Proofs.Tryz.sizeOf4,
 v4:=Go.Proofs.Tryz.zeroValue4,
 t5:=Go.Proofs.Tryz.underlying5,
 a5:=Go.Proofs.Tryz.isAgg5,
 z5:=Go.Proofs.Tryz.sizeOf5,
 v5:=Go.Proofs.Tryz.zeroValue5,
 t9:=Go.Proofs.Tryz.underlying9,
 a9:=Go.Proofs.Tryz.isAgg9,
 z9:=Go.Proofs.Tryz.sizeOf9,
 v9:=Go.Proofs.Tryz.zeroValue9,
 t22:=Go.Proofs.Tryz.underlying25,
 a22:=Go.Proofs.Tryz.isAgg25,
 z22:=Go.Proofs.Tryz.sizeOf25,
 v22:=Go.Proofs.Tryz.zeroValue25,
 t25:=Go.Proofs.Tryz.underlying125,
 a25:=Go.Proofs.Tryz.isAgg125,
 z25:=Go.Proofs.Tryz.sizeOf125,
 v25:=Go.Proofs.Tryz.zeroValue125,
 t39:=Go.Proofs.Tryz.underlying206,
 a39:=Go.Proofs.Tryz.isAgg206,
 z39:=Go.Proofs.Tryz.sizeOf206,
 v39:=Go.Proofs.Tryz.zeroValue206,
 t45:=Go.Proofs.Tryz.underlying241,
 a45:=Go.Proofs.Tryz.isAgg241,
 z45:=Go.Proofs.Tryz.sizeOf241,
 v45:=Go.Proofs.Tryz.zeroValue241,
 t46:=Go.Proofs.Tryz.underlying242,
 a46:=Go.Proofs.Tryz.isAgg242,
 z46:=Go.Proofs.Tryz.sizeOf242,
 v46:=Go.Proofs.Tryz.zeroValue242,
 t50:=Go.Proofs.Tryz.underlying246,
 a50:=Go.Proofs.Tryz.isAgg246,
 z50:=Go.Proofs.Tryz.sizeOf246,
 v50:=Go.Proofs.Tryz.zeroValue246,
 t53:=Go.Proofs.Tryz.underlying174,
 a53:=Go.Proofs.Tryz.isAgg174,
 z53:=Go.Proofs.Tryz.sizeOf174,
 v53:=Go.Proofs.Tryz.zeroValue174,
 t55:=Go.Proofs.Tryz.underlying169,
 a55:=Go.Proofs.Tryz.isAgg169,
 z55:=Go.Proofs.Tryz.sizeOf169,
 v55:=Go.Proofs.Tryz.zeroValue169,
 t66:=Go.Proofs.Tryz.underlying264,
 a66:=Go.Proofs.Tryz.isAgg264,
 z66:=Go.Proofs.Tryz.sizeOf264,
 v66:=Go.Proofs.Tryz.zeroValue264,
 t70:=Go.Proofs.Tryz.underlying268,
 a70:=Go.Proofs.Tryz.isAgg268,
 z70:=Go.Proofs.Tryz.sizeOf268,
 v70:=Go.Proofs.Tryz.zeroValue268,
 t76:=Go.Proofs.Tryz.underlying274,
 a76:=Go.Proofs.Tryz.isAgg274,
 z76:=Go.Proofs.Tryz.sizeOf274,
 v76:=Go.Proofs.Tryz.zeroValue274,
 t77:=Go.Proofs.Tryz.underlying275,
 a77:=Go.Proofs.Tryz.isAgg275,
 z77:=Go.Proofs.Tryz.sizeOf275,
 v77:=Go.Proofs.Tryz.zeroValue275}
def Zhn (s:St) (g:Nat):Option (List Nat):=match s.h.get g with
 | some (.git _ _ js)=>some js
 | _=>none
def rdS (k id g:Nat) (S En:List Nat->St) (js:List Nat) (go:Nat->Prop) (ex:Prop):KE:=fun e s=>match e with
 | .normal=>(match Zhn s g with
  | some (j::js')=>WK k (S (j::js')) s (js'=js/\go j)
  | _=>False)
 | .exit x=>(match Nat.beq x id with|true=>WK k (En js) s ex|false=>False)
 | _=>False
def Z9F (id:Nat) (I ex:List Nat->Prop) (En:List Nat->St):KE->Prop:=fun X=>∀js,I js->ex js->X (.exit id) (En js)
theorem Zg.withGoS {G:Zg} (hG:G.Ok) {f:FuncId} {id k N g n:Nat} {S En:List Nat->St} {S0:St} {C:Prop} {I ex:List Nat->Prop} (h1:W2 G.P f id=true) (hC:C->S []=S0/\I []/\∀js,I js->
   js.length<=n/\ZA G N f id k (S js) (rdS k id g S En js (fun j=>I (j::js)) (ex js))):
  (G.withL f id (goM k S0 C (Z9F id I ex En))).Ok:=by
 refine Zg.withL_ok hG h1 ?_
 intro k' s X hl
 unfold goM at hl
 split at hl
 ·rename_i hk
  have:=J0 hk
  subst this
  obtain ⟨⟨hc,hX⟩,hw⟩:=Yv hl
  obtain ⟨e0,hI,hr⟩:=hC hc
  refine ⟨{ js:List Nat//I js},fun t=>n-t.1.length,fun t=>S t.1,⟨[],hI⟩,N,by simp_all, ?_⟩
  rintro ⟨js,hjs⟩
  refine ⟨_,(hr js hjs).2, ?_⟩
  intro e s' hY
  unfold rdS at hY
  split at hY
  ·split at hY
   ·rename_i j js' _
    obtain ⟨⟨e1,hg⟩,hw'⟩:=Yv hY
    subst e1
    refine ⟨⟨j::js',hg⟩, ?_,hw'⟩
    have:=(hr _ hg).1
    simp only [Jt] at this⊢
    omega
   ·exact hY.elim
  ·split at hY
   ·rename_i hi
    have:=J0 hi
    subst this
    obtain ⟨hex,hw'⟩:=Yv hY
    exact ⟨_,hw',hX js hjs hex⟩
   ·exact hY.elim
  ·exact hY.elim
 ·exact hl.elim
structure Yi (n:Nat) (js:List Nat):Prop where
 nd:js.Nodup
 lt:∀j∈js,j<n
theorem Yi.nil (n:Nat):Yi n []:=⟨.nil,fun _ h=>by cases h⟩
theorem Yi.cons {n j:Nat} {js:List Nat} (h:Yi n js) (hj:j<n) (hn:j∉js):Yi n (j::js):=
 ⟨List.nodup_cons.2 ⟨hn,h.nd⟩,fun i hi=>by rcases J7.1 hi with rfl|hi;exact hj;exact h.lt i hi⟩
theorem nodup_range (n:Nat):(List.range n).Nodup:=List.nodup_range
theorem Yi.perm {n:Nat} {js:List Nat} (h:Yi n js) (ha:∀j,j<n->j∈js):js.Perm (List.range n):=
 (List.perm_ext_iff_of_nodup h.nd (nodup_range n)).2 fun a=>⟨fun hh=>JU.2 (h.lt a hh),fun hh=>ha a (JU.1 hh)⟩
theorem Yi.len {n:Nat} {js:List Nat} (h:Yi n js):js.length<=n:=by
 have:=h.nd.length_le_of_subset (l₂:=List.range n) fun j hj=>JU.2 (h.lt j hj)
 simpa using this
noncomputable def UO:Code:=rfA PP 151 0
noncomputable def UP:Code:=rfB PP 151 0
def jsL (T:List Zl) (js:List Nat):List Zl:=js.reverse.map fun j=>T.getD j Zr
theorem Z73 (T:List Zl) (j:Nat) (js:List Nat):jsL T (j::js)=jsL T js++[T.getD j Zr]:=by simp [jsL]
theorem Zfh (T:List Zl) (js:List Nat):(jsL T js).length=js.length:=by simp [jsL]
def vF:AV:=.func (.func 130) [] [pt 1]
noncomputable def crB (L:List Zl) (m:Blk):List (Nat×Blk):=(7,.rows 66 L.length (tiR L))::(4,.loop (Z3Y.mk .ready none 151 13 [(6,vF),(4,.nilslice),(2,pt 2),(0,.nilslice),(1,vF)] [7] UO UP 3))::(3,.defd)::(2,.flat [.nslice ⟨7,0,66,0,0⟩ 66 L.length L.length])::(1,.flat [.map (some 0)])::[(0,m)]
noncomputable def crS (T:List Zl) (js:List Nat):St:=⟨15,[(6,.ptr (some ⟨6,0,0,0,0⟩)),(0,.yield 4)],⟨8,(6,.git 0 5 js)::crB (jsL T js) (.froz (.fmap T.length (tkO T) (tiV T)) 5)⟩,[]⟩
noncomputable def crE (T:List Zl) (js:List Nat):St:=⟨15,[(0,.yield 4)],⟨8,crB (jsL T js) (.fmap T.length (tkO T) (tiV T))⟩,[]⟩
theorem Zlt (T:List Zl) (js:List Nat) (go:Nat->Prop) (ex:Prop) (hn:T.length<=48) (hs:Yi T.length js) (hg:∀j,j<T.length->j∉js->go j) (hx:(∀j,j<T.length->j∈js)->ex):
  ZA G0 40 130 0 5 (crS T js) (rdS 5 0 6 (crS T) (crE T) js go ex):=by
 refine @Eq.mpr _ (let b:=T.length;let a:=List.length (jsL T js);let h:=decide (a=a);let g:=a+1;let n:=[(7,11),(5,5),(6,6)];let f:=tiR (jsL T js);let m:=LoopState.ready=LoopState.ready/\(none:Option Code)=none/\(151:FuncId)=151/\(13:Nat)=13/\[(7:Nat)]=[(7:Nat)]/\UO=UO/\UP=UP;let l:=decide (b=b);let c:=tkO T;let e:=tiV T;let q:=[(7,7)];
 (∀(j:Nat),
 let k:=j::js;let p:=jsL T k;let i:=p.length;let o:=decide (g=i);let d:=List.getD T j Zr;
 j<b->¬List.Mem j js->Z0 h (Z4 (g*80<=140737488355328) (Z3S k k/\Z0 o (Z5 5 n i (tiR p) (X8 a f (XD [AV.arr u8 32 d.inn.v,AV.int i64 d.inID,AV.arr u8 32 d.out.v,AV.int i64 d.outID] 0 66))/\m/\Z0 o (Z4 (i<=g) (Z0 l (Z7 5 n b c e c e/\js=js/\go j)))))))/\
 ((∀(j:Nat),j<b->j∈js)->Z0 h (Z5 5 q a f f/\m/\Z0 h (Z4 (a<=a) (Z0 l (Z7 5 q b c e c e/\ex)))))) (by kernel_rfl) ?_
 conv=>zeta
 try simp only [vcA]
 try simp only [vcB]
 try simp only [vcC]
 have hM:∀τ,Z7 5 τ T.length (tkO T) (tiV T) (tkO T) (tiV T):=fun τ=>ZT (Z1J _) fun _ _=>⟨rfl,rfl⟩
 have hl:=Zfh T js
 have hjl:=hs.len
 refine ⟨fun j hj hm=> ?_,fun hall=>⟨Zi Yb fun _ _=>rfl,hM _,hx hall⟩⟩
 have el:(jsL T js).length+1=(jsL T (j::js)).length:=by rw [Z73,J3];rfl
 exact ⟨by omega,.refl _,el,Zi Yb fun i hi=>by
  have hi':i<(jsL T js).length+1:=by omega
  rw [Z73]
  exact Y9 (x:=T.getD j Zr) rfl hi',el,Jp el.symm,hM _,hg j hj hm⟩
theorem Z74 {T:List Zl} {js:List Nat} (h:Yi T.length js) (ha:∀j,j<T.length->j∈js):(jsL T js).Perm T:=by
 have h1:(js.reverse).Perm (List.range T.length):=(List.reverse_perm js).trans (h.perm ha)
 have h2:=h1.map fun j=>T.getD j Zr
 have h3:(List.range T.length).map (fun j=>T.getD j Zr)=T:=by
  apply List.ext_getElem
  ·simp
  ·intro i h1 h2
   simp only [List.getElem_map,List.getElem_range]
   rw [getD_at h2]
 rw [h3] at h2
 exact h2
noncomputable def ZiW (T:List Zl):Zg:=G0.withL 130 0 (goM 5 (crS T []) (T.length<=48) (Z9F 0 (Yi T.length) (fun js=>∀j,j<T.length->j∈js) (crE T)))
theorem Zfi (T:List Zl):(ZiW T).Ok:=
 Zg.withGoS (N:=40) (g:=6) (n:=T.length) (S:=crS T) Zv (by kernel_rfl) fun hC=>⟨rfl,Yi.nil _,fun js hs=>⟨hs.len,Zlt T js _ _ hC hs (fun j hj hm=>hs.cons hj hm) fun h=>h⟩⟩
theorem Zfj:Go.Sort.SWO (Go.Proofs.ltOf cfT) where
 irrefl x:=Z9x x
 trans x y z h1 h2:=Z4L x y z h1 h2
 ntrans x y z h1 h2:=Z3B x y z h1 h2
def Zfk (h:Zl):List Value:=intCells .u8 32 h.inn.v++(.int .i64 h.inID::(intCells .u8 32 h.out.v++(.int .i64 h.outID::[])))
theorem Z3I (E:Env) (h:Zl):Zm E h.c (Zfk h):=
 .arr _ _ _ _ _ (.one _ _ _ _ rfl rfl (.int _ _) (.arr _ _ _ _ _ (.one _ _ _ _ rfl rfl (.int _ _) .nil)))
theorem Zfl (E:Env) (h:Zl) (vs:List Value) (hc:Zm E h.c vs):vs=Zfk h:=by
 unfold Zl.c at hc
 obtain ⟨w0,rfl,k0⟩:=hc.cons_arr
 obtain ⟨c1,w1,rfl,_,_,h1,k1⟩:=k0.cons_cell (by intros;simp)
 obtain ⟨w2,rfl,k2⟩:=k1.cons_arr
 obtain ⟨c3,w3,rfl,_,_,h3,k3⟩:=k2.cons_cell (by intros;simp)
 cases k3
 cases h1;cases h3
 rfl
theorem VK:∃(_:Env),True:=⟨⟨fun _=>none,fun _ _=>False⟩,trivial⟩
theorem Zde (h:Zl):(Zfk h).length=66:=by
 obtain ⟨E,_⟩:=VK
 have:=(Z3I E h).length
 simpa [Zl.c,csz] using this
theorem Zdf (h:Zl):∀v∈Zfk h,v.oneCell'=true:=by
 obtain ⟨E,_⟩:=VK
 exact (Z3I E h).all_one
theorem Zlu (f:Nat->List AV) (lo:Nat) :
  evF G0 60 129 [.nslice ⟨0,0,66,0,0⟩ 66 0 lo,.func (.func 60) [] []] ⟨1,[(0,.rows 66 0 f)]⟩ (Y4 1 (.ret (.tuple [])) 1 [(0,.rows 66 0 f)]):=by
 refine @Eq.mpr _ (Z5 1 [] 0 f f/\True) (by kernel_rfl) ?_
 try simp only [vcA]
 try simp only [vcB]
 try simp only [vcC]
 exact Qa (fun i hi=>absurd hi (JC i)) (fun i hi=>absurd hi (JC i)) fun i hi=>absurd hi (JC i)
theorem Zho {T M:List Zl} {n lo:Nat} {f:Nat->List AV} (hM:M.Perm T) (hn:M.length=n) (h0:0<n) (hf:∀i,i<n->f i=tiR M i) (h:TR T D):Spec PP 129 [.nslice ⟨0,0,66,0,0⟩ 66 n lo,.func (.func 60) [] []] ⟨1,[(0,.rows 66 n f)]⟩ (.ret (.tuple [])) 1 [(0,.rows 66 n (tiR D))]:=
 Z1h (L:=ZiV) (k:=66) Go.Proofs.Tryz.isAgg33 Go.Proofs.Tryz.sizeOf33 (c:=Zl.c) Zde (by decide) Zdf Zfl Z3I Zfj (g:=60)
  (fun _ _=>Go.Proofs.enters_of Go.Proofs.Tryz.func60 (by kernel_rfl) rfl _ _) (fun x y=>Y8.evW6 Zv (ZkS x y _ rfl)) hn h0 (by have:=h.len;have:=hM.length_eq;omega) hf (fun _ _=>rfl)
  (fun l' hp ho=>h.sorted (hp.trans hM) ho)
theorem Z1i (L:List Zl) (i:Nat):YA (tiR L i)=true:=Yb.p _
def Z8w (T D:List Zl):ZJ:=fun args h K=>match args with
 | [.nslice ⟨b,0,66,0,0⟩ 66 _ _,_]=>frA [b] h 20 args fun Bs a=>match Bs,a with
  | [.rows 66 n f],[.nslice ⟨0,0,66,0,0⟩ 66 n' _,.func (.func 60) [] []]=>∃M,(n'=n/\M.length=n/\f=tiR M)/\M.Perm T/\TR T D/\K (.ret (.tuple [])) ⟨h.next,(b,.rows 66 n (tiR D))::ZK h.bs b⟩
  | _,_=>False
 | _=>False
theorem ZaR (T D:List Zl) (args:List AV) (h:Z6) (K:KO) (hl:Z8w T D args h K):Zh PP 129 args h K:=by
 unfold Z8w at hl
 split at hl
 ·refine Spec.fsumm hl fun Bs a hlen hK0=> ?_
  split at hK0
  ·rename_i n f n' lo
   obtain ⟨M,⟨rfl,hn,rfl⟩,hM,hT,hK⟩:=hK0
   rcases JD n' with h0|h0
   ·subst h0
    have hMn:M=[]:=Jm hn
    have hDn:D=[]:=by
     have:=hT.perm.length_eq
     have:=hM.length_eq
     exact Jm (by omega)
    subst hMn hDn
    exact ⟨_,_,_,_,_,.evM Zv (Zlu (tiR []) lo),by simp,.ret _ _ rfl,.cons _ _ _ _ _ _ rfl (.rows _ _ _ (fun i _=>Z1i [] i)) .nil,hK⟩
   ·exact ⟨_,_,_,_,_,Zho hM hn h0 (fun _ _=>rfl) hT,by simp,.ret _ _ rfl,.cons _ _ _ _ _ _ rfl (.rows _ _ _ (fun i _=>Z1i D i)) .nil,hK⟩
  ·exact hK0.elim
 ·exact hl.elim
noncomputable def Zgq (T D:List Zl):Zg:=(ZiW T).withF 129 (Z8w T D)
theorem Zdg (T D:List Zl):(Zgq T D).Ok:=Zg.withF_ok (Zfi T) (ZaR T D)
theorem Zlv (T D:List Zl) (n:Nat) (h:TR T D) (hn:n=D.length):
  evF (Zgq T D) 40 59 [.map (some 0),.func (.func 60) [] []] ⟨1,[(0,.fmap T.length (tkO T) (tiV T))]⟩ (Y4 1 (.ret (.nslice ⟨1,0,66,0,0⟩ 66 n n)) 2 [(0,.fmap T.length (tkO T) (tiV T)),(1,.rows 66 n (tiR D))]):=by
 refine @Eq.mpr _ (Z3S [] []/\
 (LoopState.ready=LoopState.ready/\(none:Option Code)=none/\(151:Nat)=(151:FuncId)/\(13:Nat)=(13:Nat)/\[(7:Nat)]=[(7:Nat)]/\UO=UO/\UP=UP)/\
 Z4 (T.length=T.length) (Z7 (5:Nat) [((5:Nat),(5:Nat)),((6:Nat),(6:Nat))] (T.length) (tkO T) (tiV T) (tkO T) (tiV T)/\T.length<=(48:Nat)/\∀(js:List Nat),Yi (T.length) js->(∀(j:Nat),j<T.length->j∈js)->(∀(i:Nat),i<List.length (jsL T js)->true=true)/\∃(M:List Zl),(List.length (jsL T js)=List.length (jsL T js)/\M.length=List.length (jsL T js)/\tiR (jsL T js)=tiR M)/\List.Perm M T/\TR T D/\Z4 (List.length (jsL T js)=n) (Z4 (n<=List.length (jsL T js)) (Z4 (T.length=T.length) (Z7 (1:Nat) [((1:Nat),(7:Nat))] (T.length) (tkO T) (tiV T) (tkO T) (tiV T)/\Z4 (List.length (jsL T js)=n) (Z5 (1:Nat) [((1:Nat),(7:Nat))] n (tiR D) (tiR D)/\True)))))) (by kernel_rfl) ?_
 try simp only [vcA]
 try simp only [vcB]
 try simp only [vcC]
 have hM:∀k τ,Z7 k τ T.length (tkO T) (tiV T) (tkO T) (tiV T):=fun k τ=>ZT (Z1J _) fun _ _=>⟨rfl,rfl⟩
 refine ⟨.refl _,hM _ _,h.len,fun js hs ha=>⟨fun _ _=>trivial,jsL T js,⟨rfl,rfl⟩,Z74 hs ha,h, ?_⟩⟩
 have el:(jsL T js).length=n:=by rw [hn,(Z74 hs ha).length_eq,h.perm.length_eq]
 exact ⟨el,Jp el.symm,hM _ _,el,Zi Yb fun _ _=>rfl⟩
def riS (T D:List Zl):ZJ:=fun args h K=>match args with
 | [.map (some o),_]=>frA [o] h 20 args fun Bs a=>match Bs,a with
  | [.fmap n kf vf],[.map (some 0),.func (.func 60) [] []]=>(n=T.length/\kf=tkO T/\vf=tiV T)/\TR T D/\K (.ret (.nslice ⟨h.next,0,66,0,0⟩ 66 D.length D.length)) ⟨h.next+1,(o,.fmap T.length (tkO T) (tiV T))::(h.next,.rows 66 D.length (tiR D))::ZK h.bs o⟩
  | _,_=>False
 | _=>False
theorem Zdh (T D:List Zl) (args:List AV) (h:Z6) (K:KO) (hl:riS T D args h K):Zh PP 59 args h K:=by
 unfold riS at hl
 split at hl
 ·refine Spec.fsumm hl fun Bs a hlen hK0=> ?_
  split at hK0
  ·obtain ⟨⟨rfl,rfl,rfl⟩,hT,hK⟩:=hK0
   exact ⟨_,_,_,_,_,.evM (Zdg T D) (Zlv T D _ hT rfl),by simp,.ret _ _ rfl,.cons _ _ _ _ _ _ rfl (.fmap _ _ _ (fun i _=>⟨rfl,rfl⟩)) (.cons _ _ _ _ _ _ rfl (.rows _ _ _ (fun i _=>Z1i D i)) .nil),hK⟩
  ·exact hK0.elim
 ·exact hl.elim
theorem Zdi {x:Zl} (h:D.length<=48):(Qi D x).length<=48:=by
 unfold Qi
 split
 ·rename_i he
  have:=(Z5P he).2.2
  rw [UJ]
  omega
 ·exact h
structure Z0J (D:Za) (n1 n2 n3 n4 n5 n6:Nat):Prop where
 h:n1=D.T.length/\n2=D.T.length/\n3=D.S.length/\n4=D.S.length/\n5=D.Q.length/\n6=D.Q.length
def ZiX (l:List (Nat×Blk)) (t o i s a wa wb wc:Nat):List (Nat×Blk):=ZK (ZK (ZK (ZK (ZK (ZK (ZK (ZK l t) o) i) s) a) wa) wb) wc
def Zgr (X D:Za) (t o i s a wa wb wc:Nat) (r:List (Nat×Blk)):List (Nat×Blk):=(t,.flat [.map (some o),.map (some i),.map (some s),.map (some a)])::(o,.fmap X.T.length (tkO X.T) (tiV X.T))::(i,.fmap X.T.length (tkI X.T) (tiV X.T))::(s,.fmap X.S.length (skV Zf X.S) (seV X.S))::(a,.fmap X.Q.length (qkV X.Q) (quV X.Q))::(wa,.rows 66 D.T.length (tiR D.T))::(wb,.rows 32 D.S.length (seR D.S))::(wc,.rows 98 D.Q.length (quR D.Q))::r
def ZiY (h:Z6) (args:List AV) (K0:Za->Za->YB->Nat->Nat->Nat->Nat->Nat->Nat->Nat->Nat->Prop):Prop:=match args with
 | .ptr (some ⟨t,0,0,0,0⟩)::.agg [.nslice ⟨wa,0,66,0,0⟩ 66 _ _,.nslice ⟨wb,0,32,0,0⟩ 32 _ _,.nslice ⟨wc,0,98,0,0⟩ 98 _ _]::_=>match h.get t with
  |some (.flat [.map (some o),.map (some i),.map (some s),.map (some a)])=>frA [t,o,i,s,a,wa,wb,wc] h 60 args fun Bs az=>match Bs,az with
   | [.flat cs,.fmap n1 k1 v1,.fmap n2 k2 v2,.fmap n3 k3 v3,.fmap n4 k4 v4,.rows 66 n5 f5,.rows 32 n6 f6,.rows 98 n7 f7],[.ptr (some ⟨0,0,0,0,0⟩),.agg [.nslice ⟨5,0,66,0,0⟩ 66 m1 m2,.nslice ⟨6,0,32,0,0⟩ 32 m3 m4,.nslice ⟨7,0,98,0,0⟩ 98 m5 m6],.agg xs]=>∃X D x,Xc Zf X cs n1 k1 v1 n2 k2 v2 n3 k3 v3 n4 k4 v4/\V4 D n5 f5 n6 f6 n7 f7/\Z0J D m1 m2 m3 m4 m5 m6/\Z1L xs x/\K0 X D x t o i s a wa wb wc
   | _,_=>False
  | _=>False
 | _=>False
theorem ZiZ (u:Unit) :
  evF G0 20 82 [.nilslice] ⟨0,[]⟩ (Vz (fun v=>v=.nilslice)):=by
 refine @Eq.mpr _ (AV.nilslice=AV.nilslice) (by kernel_rfl) ?_
 rfl
def Z8x:ZJ:=fun args h K=>match args with
 | [.nilslice]=>K (.ret .nilslice) h
 | args=>Z2a args h K
theorem ZaS (args:List AV) (h:Z6) (K:KO) (hl:Z8x args h K):Zh PP 82 args h K:=by
 unfold Z8x at hl
 split at hl
 ·have:=V1 (h:=h) (K:=fun v=>K (.ret v) h) Zv rfl (ZiZ ()) fun u hu=>hu▸hl
  intro E w rs he hr
  refine (this E w rs he hr).mono ?_
  rintro e w' ⟨E',o,h',⟨v,rfl,rfl,hK⟩,hev,hor⟩
  exact ⟨E',_,_,hK,hev,hor⟩
 ·exact QV args h K hl
noncomputable def Zj0:Zg:=G0.withF 82 Z8x
theorem Zfm:Zj0.Ok:=Zg.withF_ok Zv ZaS
theorem Zj1 (u:Unit) :
  evF Zj0 40 6 [] ⟨0,[]⟩ (Vz (fun v=>v=.bool true)):=by
 refine @Eq.mpr _ (let e:=[(0:Int),0,0,0,0,0,0,0,0,0,0,0,0,0,0,0,0,0,0,0,0,0,0,0,0,0,0,0,0,0,0];let d:=(2:Int)::e;let a:=d=d;let c:=(1:Int)::e;let b:=c=c;
 a/\b/\a/\b/\a/\a/\b/\a/\a/\b/\a/\b/\a/\a/\a/\AV.bool true=AV.bool true) (by kernel_rfl) ?_
 conv=>zeta
 repeat' apply JG
 all_goals first|rfl|trivial
def Zdj:YK:=fun args _ K=>match args with
 | []=>K (.bool true)
 | _=>False
theorem Zdk (args:List AV) (h:Z6) (K:AV->Prop) (hl:Zdj args h K):Zh PP 6 args h fun o h'=>∃v,o=.ret v/\h'=h/\K v:=by
 unfold Zdj at hl
 split at hl
 ·exact V1 Zfm rfl (Zj1 ()) fun u hu=>hu▸hl
 ·exact hl.elim
def cfS (a b:H32):Int:=ZQ a.v b.v
def cfQ (a b:Zq):Int:=ZQ a.hash.v b.hash.v
theorem Z0K (a:H32):decide (ZQ a.v a.v<0)=false:=by rw [Z4K];decide
theorem U3 (a b c:H32) (h1:decide (ZQ a.v b.v<0)=true) (h2:decide (ZQ b.v c.v<0)=true):decide (ZQ a.v c.v<0)=true:=by
 simp only [decide_eq_true_eq] at*
 exact (VE a b c).1 h1 h2
theorem V5 (a b c:H32) (h1:decide (ZQ a.v b.v<0)=false) (h2:decide (ZQ b.v c.v<0)=false):decide (ZQ a.v c.v<0)=false:=by
 simp only [decide_eq_false_iff_not] at*
 intro h
 have s1:=YO a.v b.v
 have s2:=YO b.v c.v
 have s3:=YO a.v c.v
 rcases UL a.v b.v with e1|e1|e1
 ·omega
 ·have:=(VE a b c).2.1 e1;omega
 ·rcases UL b.v c.v with e2|e2|e2
  ·omega
  ·have:=(VE a b c).2.2 e2;omega
  ·have:=(VE c b a).1 (by omega) (by omega);omega
theorem Zgs {lt:α->α->Bool} (irr:∀x,lt x x=false) (tr:∀x y z,lt x y=true->lt y z=true->lt x z=true) (ntr:∀x y z,lt x y=false->lt y z=false->lt x z=false):WO lt where
 asym x y h:=by
  cases h2:lt y x with
  | false=>rfl
  | true=>
   have:=tr x y x h h2
   rw [irr] at this
   cases this
 neg x y z h1 h2:=by
  cases h3:lt x z with
  | true=>rfl
  | false=>
   have:=ntr x z y h3 h2
   rw [h1] at this
   cases this
theorem Z8y:WO ltS:=Zgs Z0K U3 V5
theorem Z8z:WO ltQ:=Zgs (fun x=>Z0K x.hash) (fun x y z=>U3 x.hash y.hash z.hash) fun x y z=>V5 x.hash y.hash z.hash
theorem Z5S {a b:H32} (h1:ltS a b=false) (h2:ltS b a=false):a=b:=by
 unfold ltS at h1 h2
 simp only [decide_eq_false_iff_not] at h1 h2
 have:=YO a.v b.v
 exact H32.cmp (by omega)
theorem Zfn {a b:Zq} (h1:ltQ a b=false) (h2:ltQ b a=false):a.hash=b.hash:=Z5S (a:=a.hash) (b:=b.hash) h1 h2
def srt {α:Type} (lt:α->α->Bool) (l:List α):List α:=Z3y lt [] l
theorem Y5 {lt:α->α->Bool} {l:List α}:(srt lt l).Perm l:=Z3z (lt:=lt) (l:=l) (acc:=[])
theorem Z0L {lt:α->α->Bool} (wo:WO lt) {l:List α}:Uc lt (srt lt l):=Z4J wo .nil
theorem Wu {lt:α->α->Bool} {l:List α}:(srt lt l).length=l.length:=Y5.length_eq
structure SR {α:Type} (lt:α->α->Bool) (L D:List α):Prop where
 perm:D.Perm L
 ord:Uc lt D
 tot:∀a∈L,∀b∈L,lt a b=false->lt b a=false->a=b
theorem SR.sorted {lt:α->α->Bool} {L D M:List α} (h:SR lt L D) (hm:M.Perm L) (ho:Uc lt M):M=D:=
 V3 (hm.trans h.perm.symm) ho h.ord fun a ha b hb h1 h2=>h.tot a (hm.mem_iff.1 ha) b (hm.mem_iff.1 hb) h1 h2
theorem SR.len {lt:α->α->Bool} {L D:List α} (h:SR lt L D):D.length=L.length:=h.perm.length_eq
structure Za.Inv (H:LI->LI) (X:Za):Prop where
 lim:X.Lim
 tok:∀x∈X.T,W5 x=true
 sk:X.S.Pairwise fun a b=>H a.v≠H b.v
 qk:X.Q.Pairwise fun a b=>a.hash.v≠b.hash.v
 qok:∀q∈X.Q,Xa H q=true
theorem Zhp {R:α->α->Prop} {l:List α} (hs:∀a b,R a b->R b a) (h:l.Pairwise R) {a b:α} (ha:a∈l) (hb:b∈l):a=b\/R a b:=by
 obtain ⟨i,hi,rfl⟩:=Ju ha
 obtain ⟨j,hj,rfl⟩:=Ju hb
 rcases Nat.lt_trichotomy i j with hlt|rfl|hgt
 ·exact .inr (Jk.1 h i j hi hj hlt)
 ·exact .inl rfl
 ·exact .inr (hs _ _ (Jk.1 h j i hj hi hgt))
def Yd (X:Za):Za:=⟨srt ltT X.T,srt ltS X.S,srt ltQ X.Q⟩
theorem Za.Inv.tr (h:X.Inv H):TR X.T (srt ltT X.T):=⟨Y5,Z0L Z8s,h.lim.ko,h.lim.t⟩
theorem srS (S:List H32):SR ltS S (srt ltS S):=⟨Y5,Z0L Z8y,fun _ _ _ _ h1 h2=>Z5S h1 h2⟩
theorem Za.Inv.sq (h:X.Inv H):SR ltQ X.Q (srt ltQ X.Q):=⟨Y5,Z0L Z8z,fun a ha b hb h1 h2=>by
 rcases Zhp (fun _ _ h=>Ne.symm h) h.qk ha hb with e|e
 ·exact e
 ·exact absurd (congrArg H32.v (Zfn h1 h2)) e⟩
theorem Za.Inv.nil:Za.Inv H ⟨[],[],[]⟩:=⟨.nil,by simp,.nil,.nil,by simp⟩
theorem Qc {S:List H32} {i:Nat} (h:i<S.length):S.getD i h0=S[i]:=by
 rw [J5,J8 h]
 rfl
theorem XU {S:List Zq} {i:Nat} (h:i<S.length):S.getD i ZB=S[i]:=by
 rw [J5,J8 h]
 rfl
theorem Zdl {S:List H32} (s:H32) (h:S.Pairwise fun a b=>H a.v≠H b.v):(Xz H S s).Pairwise fun a b=>H a.v≠H b.v:=by
 unfold Xz XO
 rcases Yt (fun j=>H s.v==H (S.getD j h0).v) S.length with ⟨h1,h2⟩|⟨h1,h2,h3⟩
 ·rw [h1,if_neg (by omega)]
  split
  ·exact h
  ·refine Kg.2 ⟨h,by simp,fun a ha b hb=> ?_⟩
   rw [JL.1 hb]
   obtain ⟨j,hj,rfl⟩:=Ju ha
   have:=h2 j hj
   rw [Qc hj] at this
   intro e
   rw [e] at this
   simp at this
 ·rw [if_pos h1]
  generalize Zn (fun j=>H s.v==H (S.getD j h0).v) S.length=k at*
  rw [Qc h1,beq_iff_eq] at h2
  have hp:=Jk.1 h
  refine Jk.2 fun i j hi hj hlt=> ?_
  rw [Kk] at hi hj
  rw [List.getElem_set,List.getElem_set]
  split
  ·rename_i e
   subst e
   rw [if_neg (by omega),h2]
   exact hp _ _ _ _ hlt
  ·split
   ·rename_i e
    subst e
    rw [h2]
    exact hp _ _ _ _ hlt
   ·exact hp _ _ _ _ hlt
theorem Z75 {Q:List Zq} (q:Zq) (h:Q.Pairwise fun a b=>a.hash.v≠b.hash.v) (ho:∀q∈Q,Xa H q=true):((Wh H Q q).Pairwise fun a b=>a.hash.v≠b.hash.v)/\∀x∈Wh H Q q,Xa H x=true:=by
 unfold Wh
 split
 ·rename_i he
  unfold YS at he
  split at he
  ·rename_i hk
   split at he
   ·omega
   ·rename_i hn
    unfold atQ at hn
    rcases Yt (fun j=>q.hash.v==(Q.getD j ZB).hash.v) Q.length with ⟨h1,h2⟩|⟨h1,h2,h3⟩
    ·refine ⟨Kg.2 ⟨h,by simp,fun a ha b hb=> ?_⟩,fun x hx=> ?_⟩
     ·rw [JL.1 hb]
      obtain ⟨j,hj,rfl⟩:=Ju ha
      have:=h2 j hj
      rw [XU hj] at this
      intro e
      rw [e] at this
      simp at this
     ·rcases JV.1 hx with hx|hx
      ·exact ho x hx
      ·rw [JL.1 hx]
       exact hk
    ·omega
  ·omega
 ·exact ⟨h,ho⟩
theorem Za.Inv.tie (h:X.Inv H) (x:Zl):Za.Inv H ⟨W6 X.T x,X.S,X.Q⟩:=by
 refine ⟨h.lim.tie x, ?_,h.sk,h.qk,h.qok⟩
 show ∀y∈W6 X.T x,_
 unfold W6
 split
 ·rename_i he
  intro y hy
  rcases JV.1 hy with hy|hy
  ·exact h.tok y hy
  ·rw [JL.1 hy]
   exact (Z5P he).1
 ·exact h.tok
theorem Za.Inv.lrn (h:X.Inv H) (s:H32):Za.Inv H ⟨X.T,Xz H X.S s,X.Q⟩:=
 ⟨⟨h.lim.t,ZcC h.lim.s,h.lim.q,h.lim.ko,h.lim.ki⟩,h.tok,Zdl s h.sk,h.qk,h.qok⟩
theorem Za.Inv.ask (h:X.Inv H) (q:Zq):Za.Inv H ⟨X.T,X.S,Wh H X.Q q⟩:=
 ⟨⟨h.lim.t,h.lim.s,ZcF h.lim.q,h.lim.ko,h.lim.ki⟩,h.tok,h.sk,(Z75 q h.qk h.qok).1,(Z75 q h.qk h.qok).2⟩
def ZaT:Go.Shelf.Ren:=⟨fun|6=>145|15=>149|14=>164|28=>173|29=>174|20=>186|21=>187|22=>188|23=>189|24=>190|25=>191|26=>192|27=>193|46=>202|47=>195|48=>196|49=>203|50=>204|57=>207|n=>n,fun|22=>26|24=>31|25=>117|3=>3|39=>206|0=>0|53=>174|55=>169|4=>4|46=>242|45=>241|50=>246|5=>5|9=>9|66=>264|70=>268|76=>274|77=>275|n=>n,fun|n=>n⟩
theorem Zj2:Go.Proofs.SlLaysF0.n6 PP ZaT:={
 mixed:=by kernel_rfl,
 f6:=⟨Go.Proofs.Tryz.f145.name,by decide,Go.Proofs.Tryz.func145.trans (congrArg some (by kernel_rfl))⟩,
 f14:=⟨Go.Proofs.Tryz.f164.name,by decide,Go.Proofs.Tryz.func164.trans (congrArg some (by kernel_rfl))⟩,
 f15:=Go.Proofs.Tryz.func149.trans (congrArg some (by kernel_rfl)),
 f20:=⟨Go.Proofs.Tryz.f186.name,by decide,Go.Proofs.Tryz.func186.trans (congrArg some (by kernel_rfl))⟩,
 f21:=⟨Go.Proofs.Tryz.f187.name,by decide,Go.Proofs.Tryz.func187.trans (congrArg some (by kernel_rfl))⟩,
 f22:=⟨Go.Proofs.Tryz.f188.name,by decide,Go.Proofs.Tryz.func188.trans (congrArg some (by kernel_rfl))⟩,
 f23:=⟨Go.Proofs.Tryz.f189.name,by decide,Go.Proofs.Tryz.func189.trans (congrArg some (by kernel_rfl))⟩,
 f24:=⟨Go.Proofs.Tryz.f190.name,by decide,Go.Proofs.Tryz.func190.trans (congrArg some (by kernel_rfl))⟩,
 f25:=⟨Go.Proofs.Tryz.f191.name,by decide,Go.Proofs.Tryz.func191.trans (congrArg some (by kernel_rfl))⟩,
 f26:=⟨Go.Proofs.Tryz.f192.name,by decide,Go.Proofs.Tryz.func192.trans (congrArg some (by kernel_rfl))⟩,
 f27:=⟨Go.Proofs.Tryz.f193.name,by decide,Go.Proofs.Tryz.func193.trans (congrArg some (by kernel_rfl))⟩,
 f28:=Go.Proofs.Tryz.func173.trans (congrArg some (by kernel_rfl)),
 f29:=Go.Proofs.Tryz.func174.trans (congrArg some (by kernel_rfl)),
 f46:=⟨Go.Proofs.Tryz.f202.name,by decide,Go.Proofs.Tryz.func202.trans (congrArg some (by kernel_rfl))⟩,
 f47:=Go.Proofs.Tryz.func195.trans (congrArg some (by kernel_rfl)),
 f48:=Go.Proofs.Tryz.func196.trans (congrArg some (by kernel_rfl)),
 f49:=⟨Go.Proofs.Tryz.f203.name,by decide,Go.Proofs.Tryz.func203.trans (congrArg some (by kernel_rfl))⟩,
 f50:=⟨Go.Proofs.Tryz.f204.name,by decide,Go.Proofs.Tryz.func204.trans (congrArg some (by kernel_rfl))⟩,
 f57:=⟨Go.Proofs.Tryz.f207.name,by decide,Go.Proofs.Tryz.func207.trans (congrArg some (by kernel_rfl))⟩,
 t0:=Go.Proofs.Tryz.underlying0,
 a0:=Go.Proofs.Tryz.isAgg0,
 z0:=Go.Proofs.Tryz.sizeOf0,
 v0:=Go.Proofs.Tryz.zeroValue0,
 t3:=Go.Proofs.Tryz.underlying3,
 a3:=Go.Proofs.Tryz.isAgg3,
 z3:=Go.Proofs.Tryz.sizeOf3,
 v3:=Go.Proofs.Tryz.zeroValue3,
 t4:=Go.Proofs.Tryz.underlying4,
 a4:=Go.Proofs.Tryz.isAgg4,
 z4:=Go.Proofs.Tryz.sizeOf4,
 v4:=Go.Proofs.Tryz.zeroValue4,
 t5:=Go.Proofs.Tryz.underlying5,
 a5:=Go.Proofs.Tryz.isAgg5,
 z5:=Go.Proofs.Tryz.sizeOf5,
 v5:=Go.Proofs.Tryz.zeroValue5,
 t9:=Go.Proofs.Tryz.underlying9,
 a9:=Go.Proofs.Tryz.isAgg9,
 z9:=Go.Proofs.Tryz.sizeOf9,
 v9:=Go.Proofs.Tryz.zeroValue9,
 t22:=Go.Proofs.Tryz.underlying26,
 a22:=Go.Proofs.Tryz.isAgg26,
 z22:=Go.Proofs.Tryz.sizeOf26,
 v22:=Go.Proofs.Tryz.zeroValue26,
 t25:=Go.Proofs.Tryz.underlying117,
 a25:=Go.Proofs.Tryz.isAgg117,
 z25:=Go.Proofs.Tryz.sizeOf117,
 v25:=Go.Proofs.Tryz.zeroValue117,
 t39:=Go.Proofs.Tryz.underlying206,
 a39:=Go.Proofs.Tryz.isAgg206,
 z39:=Go.Proofs.Tryz.sizeOf206,
 v39:=Go.Proofs.Tryz.zeroValue206,
 t45:=Go.Proofs.Tryz.underlying241,
 a45:=Go.Proofs.Tryz.isAgg241,
 z45:=Go.Proofs.Tryz.sizeOf241,
 v45:=Go.Proofs.Tryz.zeroValue241,
 t46:=Go.Proofs.Tryz.underlying242,
 a46:=Go.Proofs.Tryz.isAgg242,
 z46:=Go.Proofs.Tryz.sizeOf242,
 v46:=Go.Proofs.Tryz.zeroValue242,
 t50:=Go.Proofs.Tryz.underlying246,
 a50:=Go.Proofs.Tryz.isAgg246,
 z50:=Go.Proofs.Tryz.sizeOf246,
 v50:=Go.Proofs.Tryz.zeroValue246,
 t53:=Go.Proofs.Tryz.underlying174,
 a53:=Go.Proofs.Tryz.isAgg174,
 z53:=Go.Proofs.Tryz.sizeOf174,
 v53:=Go.Proofs.Tryz.zeroValue174,
 t55:=Go.Proofs.Tryz.underlying169,
 a55:=Go.Proofs.Tryz.isAgg169,
 z55:=Go.Proofs.Tryz.sizeOf169,
 v55:=Go.Proofs.Tryz.zeroValue169,
 t66:=Go.Proofs.Tryz.underlying264,
 a66:=Go.Proofs.Tryz.isAgg264,
 z66:=Go.Proofs.Tryz.sizeOf264,
 v66:=Go.Proofs.Tryz.zeroValue264,
 t70:=Go.Proofs.Tryz.underlying268,
 a70:=Go.Proofs.Tryz.isAgg268,
 z70:=Go.Proofs.Tryz.sizeOf268,
 v70:=Go.Proofs.Tryz.zeroValue268,
 t76:=Go.Proofs.Tryz.underlying274,
 a76:=Go.Proofs.Tryz.isAgg274,
 z76:=Go.Proofs.Tryz.sizeOf274,
 v76:=Go.Proofs.Tryz.zeroValue274,
 t77:=Go.Proofs.Tryz.underlying275,
 a77:=Go.Proofs.Tryz.isAgg275,
 z77:=Go.Proofs.Tryz.sizeOf275,
 v77:=Go.Proofs.Tryz.zeroValue275}
def ZaU:Go.Shelf.Ren:=⟨fun|6=>124|15=>149|14=>148|28=>173|29=>174|20=>165|21=>166|22=>167|23=>168|24=>169|25=>170|26=>171|27=>172|46=>194|47=>195|48=>196|49=>197|50=>198|57=>205|n=>n,fun|22=>113|24=>116|25=>118|3=>3|39=>206|0=>0|53=>174|55=>169|4=>4|46=>242|45=>241|50=>246|5=>5|9=>9|66=>264|70=>268|76=>274|77=>275|n=>n,fun|n=>n⟩
theorem Zj3:Go.Proofs.SlLaysF0.n6 PP ZaU:={
 mixed:=by kernel_rfl,
 f6:=⟨Go.Proofs.Tryz.f124.name,by decide,Go.Proofs.Tryz.func124.trans (congrArg some (by kernel_rfl))⟩,
 f14:=⟨Go.Proofs.Tryz.f148.name,by decide,Go.Proofs.Tryz.func148.trans (congrArg some (by kernel_rfl))⟩,
 f15:=Go.Proofs.Tryz.func149.trans (congrArg some (by kernel_rfl)),
 f20:=⟨Go.Proofs.Tryz.f165.name,by decide,Go.Proofs.Tryz.func165.trans (congrArg some (by kernel_rfl))⟩,
 f21:=⟨Go.Proofs.Tryz.f166.name,by decide,Go.Proofs.Tryz.func166.trans (congrArg some (by kernel_rfl))⟩,
 f22:=⟨Go.Proofs.Tryz.f167.name,by decide,Go.Proofs.Tryz.func167.trans (congrArg some (by kernel_rfl))⟩,
 f23:=⟨Go.Proofs.Tryz.f168.name,by decide,Go.Proofs.Tryz.func168.trans (congrArg some (by kernel_rfl))⟩,
 f24:=⟨Go.Proofs.Tryz.f169.name,by decide,Go.Proofs.Tryz.func169.trans (congrArg some (by kernel_rfl))⟩,
 f25:=⟨Go.Proofs.Tryz.f170.name,by decide,Go.Proofs.Tryz.func170.trans (congrArg some (by kernel_rfl))⟩,
 f26:=⟨Go.Proofs.Tryz.f171.name,by decide,Go.Proofs.Tryz.func171.trans (congrArg some (by kernel_rfl))⟩,
 f27:=⟨Go.Proofs.Tryz.f172.name,by decide,Go.Proofs.Tryz.func172.trans (congrArg some (by kernel_rfl))⟩,
 f28:=Go.Proofs.Tryz.func173.trans (congrArg some (by kernel_rfl)),
 f29:=Go.Proofs.Tryz.func174.trans (congrArg some (by kernel_rfl)),
 f46:=⟨Go.Proofs.Tryz.f194.name,by decide,Go.Proofs.Tryz.func194.trans (congrArg some (by kernel_rfl))⟩,
 f47:=Go.Proofs.Tryz.func195.trans (congrArg some (by kernel_rfl)),
 f48:=Go.Proofs.Tryz.func196.trans (congrArg some (by kernel_rfl)),
 f49:=⟨Go.Proofs.Tryz.f197.name,by decide,Go.Proofs.Tryz.func197.trans (congrArg some (by kernel_rfl))⟩,
 f50:=⟨Go.Proofs.Tryz.f198.name,by decide,Go.Proofs.Tryz.func198.trans (congrArg some (by kernel_rfl))⟩,
 f57:=⟨Go.Proofs.Tryz.f205.name,by decide,Go.Proofs.Tryz.func205.trans (congrArg some (by kernel_rfl))⟩,
 t0:=Go.Proofs.Tryz.underlying0,
 a0:=Go.Proofs.Tryz.isAgg0,
 z0:=Go.Proofs.Tryz.sizeOf0,
 v0:=Go.Proofs.Tryz.zeroValue0,
 t3:=Go.Proofs.Tryz.underlying3,
 a3:=Go.Proofs.Tryz.isAgg3,
 z3:=Go.Proofs.Tryz.sizeOf3,
 v3:=Go.Proofs.Tryz.zeroValue3,
 t4:=Go.Proofs.Tryz.underlying4,
 a4:=Go.Proofs.Tryz.isAgg4,
 z4:=Go.Proofs.Tryz.sizeOf4,
 v4:=Go.Proofs.Tryz.zeroValue4,
 t5:=Go.Proofs.Tryz.underlying5,
 a5:=Go.Proofs.Tryz.isAgg5,
 z5:=Go.Proofs.Tryz.sizeOf5,
 v5:=Go.Proofs.Tryz.zeroValue5,
 t9:=Go.Proofs.Tryz.underlying9,
 a9:=Go.Proofs.Tryz.isAgg9,
 z9:=Go.Proofs.Tryz.sizeOf9,
 v9:=Go.Proofs.Tryz.zeroValue9,
 t22:=Go.Proofs.Tryz.underlying113,
 a22:=Go.Proofs.Tryz.isAgg113,
 z22:=Go.Proofs.Tryz.sizeOf113,
 v22:=Go.Proofs.Tryz.zeroValue113,
 t25:=Go.Proofs.Tryz.underlying118,
 a25:=Go.Proofs.Tryz.isAgg118,
 z25:=Go.Proofs.Tryz.sizeOf118,
 v25:=Go.Proofs.Tryz.zeroValue118,
 t39:=Go.Proofs.Tryz.underlying206,
 a39:=Go.Proofs.Tryz.isAgg206,
 z39:=Go.Proofs.Tryz.sizeOf206,
 v39:=Go.Proofs.Tryz.zeroValue206,
 t45:=Go.Proofs.Tryz.underlying241,
 a45:=Go.Proofs.Tryz.isAgg241,
 z45:=Go.Proofs.Tryz.sizeOf241,
 v45:=Go.Proofs.Tryz.zeroValue241,
 t46:=Go.Proofs.Tryz.underlying242,
 a46:=Go.Proofs.Tryz.isAgg242,
 z46:=Go.Proofs.Tryz.sizeOf242,
 v46:=Go.Proofs.Tryz.zeroValue242,
 t50:=Go.Proofs.Tryz.underlying246,
 a50:=Go.Proofs.Tryz.isAgg246,
 z50:=Go.Proofs.Tryz.sizeOf246,
 v50:=Go.Proofs.Tryz.zeroValue246,
 t53:=Go.Proofs.Tryz.underlying174,
 a53:=Go.Proofs.Tryz.isAgg174,
 z53:=Go.Proofs.Tryz.sizeOf174,
 v53:=Go.Proofs.Tryz.zeroValue174,
 t55:=Go.Proofs.Tryz.underlying169,
 a55:=Go.Proofs.Tryz.isAgg169,
 z55:=Go.Proofs.Tryz.sizeOf169,
 v55:=Go.Proofs.Tryz.zeroValue169,
 t66:=Go.Proofs.Tryz.underlying264,
 a66:=Go.Proofs.Tryz.isAgg264,
 z66:=Go.Proofs.Tryz.sizeOf264,
 v66:=Go.Proofs.Tryz.zeroValue264,
 t70:=Go.Proofs.Tryz.underlying268,
 a70:=Go.Proofs.Tryz.isAgg268,
 z70:=Go.Proofs.Tryz.sizeOf268,
 v70:=Go.Proofs.Tryz.zeroValue268,
 t76:=Go.Proofs.Tryz.underlying274,
 a76:=Go.Proofs.Tryz.isAgg274,
 z76:=Go.Proofs.Tryz.sizeOf274,
 v76:=Go.Proofs.Tryz.zeroValue274,
 t77:=Go.Proofs.Tryz.underlying275,
 a77:=Go.Proofs.Tryz.isAgg275,
 z77:=Go.Proofs.Tryz.sizeOf275,
 v77:=Go.Proofs.Tryz.zeroValue275}
end Go.Tk
end
