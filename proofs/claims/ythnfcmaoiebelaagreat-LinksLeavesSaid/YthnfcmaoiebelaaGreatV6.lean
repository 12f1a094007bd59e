/- V: part 6 of an engine (a symbolic evaluator, proved against the model) and of the walk by it. -/
import Derived.Test.YthnfcmaoiebelaaGreatV5
import Derived.Test.YthnfcmaoiebelaaGreatRows
import Derived.ChangeOld
set_option linter.unusedVariables false
set_option linter.unusedSimpArgs false
set_option maxRecDepth 100000
set_option maxHeartbeats 0
section
namespace Go.Tk
open IntKind (i64 u8 u32 u64 wrap)
variable {D:List Zj} {X:Ze}
theorem Zh0 (D:Ze) (x:Zj) (e:Int) (hL:ZA D) (he:e=Xd D.T x):
  evF (ZeD D x) 40 20 [.agg (dcC D),.agg x.c] ⟨3,dcB D⟩ (Ye 3 (.ret (.tuple [.agg [.top,.top,.top],.int .i64 e])) 3 (dcB D)):=by
 refine @Eq.mpr _ (let q:=x.inID;let m:=x.outID;let c:=D.T;let a:=c.length;let g:=decide (a=a);let l:=tiR c;let b:=D.S.length;let f:=decide (b=b);let k:=seR D.S;let d:=D.Q.length;let h:=decide (d=d);let p:=quR D.Q;let o:=Z0 g (Z6 3 [] a l l/\Z0 f (Z6 3 [] b k k/\Z0 h (Z6 3 [] d p p/\True)));let n:=Z5 (2=e) o;let I:=x.inn.v;let H:=I=I;let G:=decide (q=q);let F:=x.out.v;let E:=F=F;let C:=decide (m=m);let B:=decide (a<=a);let A:=decide (b<=b);let z:=decide (d<=d);let s:=[(5,5),(4,4),(3,3)];let y:=Z6 3 s a l l;let w:=Z6 3 s b k k;let u:=Z6 3 s d p p;let t:=Z5 (0=e) o;
 Z8 (decide (q>=0)) (Z8 (decide (q<=2147483647)) (Z8 (decide (m>=0)) (Z8 (!decide (m<=2147483647)) n (H/\
 Z0 G (E/\
 Z0 C (Z0 g (Z0 B (Z0 f (Z0 A (Z0 h (Z0 z (Z0 g (y/\
 Z0 f (w/\
 Z0 h (u/\
 ZA D/\
 ∀(i:Nat),
 i<=a->
 (∀(j:Nat),j<i->(fun (i:Nat)=>Z2L x (List.getD c i Zq)=false) j)->
 (i=a->
 Z8 (decide ((↑a:Int)>=48)) (Z5 (3=e) o) (H/\
 Z0 G (E/\
 Z0 C (Z0 g (Z0 B (Z0 f (Z0 A (Z0 h (Z0 z (Z0 g (y/\
 Z0 f (w/\
 Z0 h (u/\
 ZA D/\
 ∀(i:Nat),
 let r:=List.length (ZT ltT x c i);
 i<=a->(∀(j:Nat),j<i->(fun (i:Nat)=>i<a) j)->(i=a->Z8 (!ZS ltT x c i) (Z5 (r=r) (Z5 ((r+1)*80<=140737488355328) t)) t)/\(False->False)/\(False->False))))))))))))))/\
 (i<a/\Z2L x (List.getD c i Zq)=true->Z5 (360=e) o)/\(False->False)))))))))))))) n) n) n) (by kernel_rfl) ?_
 conv=>zeta
 try simp only [vcA]
 try simp only [vcB]
 try simp only [vcC]
 have hR:=WB D 3
 have hk:∀(k:Int) (τ:Ren),Xd D.T x=k->k=e/\Z6 3 τ D.T.length (tiR D.T) (tiR D.T)/\Z6 3 τ D.S.length (seR D.S) (seR D.S)/\Z6 3 τ D.Q.length (quR D.Q) (quR D.Q):=fun k τ hk=>⟨by rw [he,hk],(hR _).1,(hR _).2.1,(hR _).2.2⟩
 have hlim:=hL.t
 have k2:¬(VD x=true)->Xd D.T x=2:=fun h=>by rw [Xd,if_neg h]
 have ok:VD x=true↔(0<=x.inID/\x.inID<=2147483647)/\(0<=x.outID/\x.outID<=2147483647):=by
  unfold VD
  rw [J1,decide_eq_true_eq,decide_eq_true_eq]
 have k3:VD x=true->Xd D.T x=if clash D.T x=true then 360 else if 48<=D.T.length then 3 else 0:=fun h=>by rw [Xd,if_pos h]
 refine ⟨fun a0=>⟨fun a1=>⟨fun b0=>⟨fun b1=>hk 2 _ (k2 fun h=> ?_),fun b1=> ?_⟩,fun b0=>hk 2 _ (k2 fun h=> ?_)⟩,fun a1=>hk 2 _ (k2 fun h=> ?_)⟩,fun a0=>hk 2 _ (k2 fun h=> ?_)⟩
 ·have:=ok.1 h;simp only [Jl,decide_eq_false_iff_not] at b1;omega
 rotate_left
 ·have:=ok.1 h;omega
 ·have:=ok.1 h;omega
 ·have:=ok.1 h;omega
 simp only [Bool.not_eq_false',decide_eq_true_eq] at b1
 have k3:=k3 (ok.2 ⟨⟨a0,a1⟩,⟨b0,b1⟩⟩)
 refine ⟨(hR _).1,(hR _).2.1,(hR _).2.2,hL,fun i hi hg=>⟨fun hn=> ?_,fun hit=> ?_,fun h=>h⟩⟩
 ·have hcl:clash D.T x=false:=by
   refine K3.2 fun y hy=> ?_
   obtain ⟨j,hj,rfl⟩:=Jk hy
   have:=hg j (by omega)
   rw [getD_at hj] at this
   show ¬Z2L x D.T[j]=true
   rw [this]
   decide
  rw [hcl,if_neg (by decide)] at k3
  refine ⟨fun l=>hk 3 _ (by rw [k3,if_pos (by omega)]),fun l=>⟨(hR _).1,(hR _).2.1,(hR _).2.2,hL,fun i hi _=>⟨fun hn=> ?_,fun h=>h,fun h=>h⟩⟩⟩
  rw [if_neg (by omega)] at k3
  have hll:=YA (lt:=ltT) (x:=x) (D:=D.T) (i:=i)
  exact ⟨fun hb=>⟨by omega,hk 0 _ k3⟩,fun hb=>hk 0 _ k3⟩
 ·have hcl:clash D.T x=true:=JI.2 ⟨D.T.getD i Zq,by rw [getD_at hit.1];exact K6 hit.1,hit.2⟩
  rw [if_pos hcl] at k3
  exact hk 360 _ k3
theorem Zh1 (D:Ze) (o:LI) (id:Int) (x:Zj) (e:Int) (hL:ZA D) (ho:o.length=32) (hx:x=D.T.getD (atO D.T o id) Zq) (he:e=if atO D.T o id<D.T.length then 0 else 5):
  evF (Zbm D x) 40 21 [.agg (dcC D),.agg [.arr .u8 32 o],.int .i64 id] ⟨3,dcB D⟩ (Ye 3 (.ret (.tuple [.agg [.top,.top,.top],.agg x.c,.int .i64 e])) 3 (dcB D)):=by
 refine @Eq.mpr _ (let a:=D.T.length;let c:=D.S.length;let b:=D.Q.length;let g:=tiR D.T;let f:=seR D.S;let d:=quR D.Q;let l:=x.inn.v;let k:=x.inID;let h:=x.out.v;let n:=x.outID;let t:=decide (a=a);let s:=decide (c=c);let r:=decide (b=b);let B:=Z0 t (Z6 3 [] a g g/\Z0 s (Z6 3 [] c f f/\Z0 r (Z6 3 [] b d d/\True)));let q:=[(6,6),(5,5),(4,7),(3,3)];let A:=l=l;let z:=decide (k=k);let y:=h=h;let w:=decide (n=n);
 Z5 (0+a<=a) ((∀(i:Nat),i<a->true=true)/\
 Z5 (0+c<=c) ((∀(i:Nat),i<c->true=true)/\
 Z5 (0+b<=b) ((∀(i:Nat),i<b->true=true)/\
 Z5 ((66:Nat)=66/\a=a) (Z5 ((32:Nat)=32/\c=c) (Z5 ((98:Nat)=98/\b=b) (∃(D_1:Ze),
 let p:=D_1.T;let u:=atO p o id;let m:=List.getD p u Zq;
 Yg D_1 a (Zp 0 g) c (Zp 0 f) b (Zp 0 d)/\o.length=32/\Z8 (!Nat.blt u (p.length)) (Zd=l/\Z5 (0=k) (Zd=h/\Z5 (0=n) (Z5 (5=e) B))) (Zd=Zd/\Zd=Zd/\m.inn.v=l/\Z5 (m.inID=k) (m.out.v=h/\Z5 (m.outID=n) (Z0 t (Z5 (a<=a) (Z0 s (Z5 (c<=c) (Z0 r (Z5 (b<=b) (Z0 t (Z6 3 q a g g/\Z0 s (Z6 3 q c f f/\Z0 r (Z6 3 q b d d/\ZA D/\∀(i:Nat),i<=a->(∀(j:Nat),j<i->(fun (i:Nat)=>i<a) j)->(i=a->A/\Z0 z (y/\Z0 w (A/\Z0 z (y/\Z0 w (Z5 (0=e) B)))))/\(False->False)/\(False->False)))))))))))))))))))) (by kernel_rfl) ?_
 conv=>zeta
 try simp only [vcA]
 try simp only [vcB]
 try simp only [vcC]
 have hR:=WB D 3
 have tr:∀{n:Nat} (i:Nat),i<n->True:=fun _ _=>trivial
 refine ⟨tr,tr,tr,D,V1 hL,ho,fun k=> ?_,fun k=> ?_⟩
 all_goals rw [YZ] at k
 ·have hj:¬atO D.T o id<D.T.length:=by simpa using k
  have ex:x=Zq:=by rw [hx,XZ _ _ (by omega)]
  rw [ex,he,if_neg hj]
  exact ⟨rfl,rfl,rfl,rfl,rfl,(hR _).1,(hR _).2.1,(hR _).2.2⟩
 ·have hj:atO D.T o id<D.T.length:=by simpa using k
  rw [<-hx]
  refine ⟨rfl,rfl,rfl,rfl,(hR _).1,(hR _).2.1,(hR _).2.2,hL,fun i hi _=>⟨fun hn=> ?_,fun h=>h,fun h=>h⟩⟩
  rw [he,if_pos hj]
  exact ⟨rfl,(hR _).1,(hR _).2.1,(hR _).2.2⟩
theorem Zh2 (H:LI->LI) (D:Ze) (o:LI) (x:H32) (e:Int) (hL:ZA D) (ho:o.length=32) (hx:x=D.S.getD (Xt H D.S o) h0) (he:e=Z13 H D.S o):
  evF (Zbo H D x) 40 28 [.agg (dcC D),.agg [.arr .u8 32 o]] ⟨3,dcB D⟩ (Ye 3 (.ret (.tuple [.agg [.top,.top,.top],.int .i64 e])) 3 (dcB D)):=by
 refine @Eq.mpr _ (let c:=D.T.length;let a:=D.S.length;let b:=D.Q.length;let g:=tiR D.T;let f:=seR D.S;let d:=quR D.Q;let l:=decide (c=c);let k:=decide (a=a);let h:=decide (b=b);let q:=Z0 l (Z6 3 [] c g g/\Z0 k (Z6 3 [] a f f/\Z0 h (Z6 3 [] b d d/\True)));let n:=[(5,5),(4,6),(3,3)];
 Z5 (0+c<=c) ((∀(i:Nat),i<c->true=true)/\
 Z5 (0+a<=a) ((∀(i:Nat),i<a->true=true)/\
 Z5 (0+b<=b) ((∀(i:Nat),i<b->true=true)/\
 Z5 ((66:Nat)=66/\c=c) (Z5 ((32:Nat)=32/\a=a) (Z5 ((98:Nat)=98/\b=b) (∃(D_1:Ze),
 let m:=D_1.S;let p:=Xt H m o;
 Yg D_1 c (Zp 0 g) a (Zp 0 f) b (Zp 0 d)/\o.length=32/\Z8 (!Nat.blt p (m.length)) (Z5 (5=e) q) ((List.getD m p h0).v=x.v/\Z0 l (Z5 (c<=c) (Z0 k (Z5 (a<=a) (Z0 h (Z5 (b<=b) (Z0 l (Z6 3 n c g g/\Z0 k (Z6 3 n a f f/\Z0 h (Z6 3 n b d d/\ZA D/\∀(i:Nat),i<=a->(∀(j:Nat),j<i->(fun (i:Nat)=>i<a) j)->(i=a->Z5 (0=e) q)/\(False->False)/\(False->False)))))))))))))))))) (by kernel_rfl) ?_
 conv=>zeta
 try simp only [vcA]
 try simp only [vcB]
 try simp only [vcC]
 have hR:=WB D 3
 have tr:∀{n:Nat} (i:Nat),i<n->True:=fun _ _=>trivial
 refine ⟨tr,tr,tr,D,V1 hL,ho,fun k=> ?_,fun k=> ?_⟩
 all_goals rw [YZ] at k
 ·have hj:¬Xt H D.S o<D.S.length:=by simpa using k
  rw [he,Z13,if_neg hj]
  exact ⟨rfl,(hR _).1,(hR _).2.1,(hR _).2.2⟩
 ·have hj:Xt H D.S o<D.S.length:=by simpa using k
  rw [<-hx]
  refine ⟨rfl,(hR _).1,(hR _).2.1,(hR _).2.2,hL,fun i hi _=>⟨fun hn=> ?_,fun h=>h,fun h=>h⟩⟩
  rw [he,Z13,if_pos hj]
  exact ⟨rfl,(hR _).1,(hR _).2.1,(hR _).2.2⟩
theorem Zh3 (D:Ze) (o:LI) (x:H32) (e:Int) (hL:ZA D) (ho:o.length=32) (hx:x=(D.Q.getD (atQ D.Q o) ZK).secret) (he:e=Z15 D.Q o):
  evF (Zbr D o x) 40 26 [.agg (dcC D),.agg [.arr .u8 32 o]] ⟨3,dcB D⟩ (Ye 3 (.ret (.tuple [.agg [.top,.top,.top],.agg [.arr .u8 32 x.v],.int .i64 e])) 3 (dcB D)):=by
 refine @Eq.mpr _ (let c:=D.T.length;let b:=D.S.length;let a:=D.Q.length;let g:=tiR D.T;let f:=seR D.S;let d:=quR D.Q;let h:=x.v;let l:=decide (c=c);let k:=decide (b=b);let p:=decide (a=a);let s:=Z0 l (Z6 3 [] c g g/\Z0 k (Z6 3 [] b f f/\Z0 p (Z6 3 [] a d d/\True)));let n:=[(7,6),(6,5),(5,8),(4,4),(3,3)];let r:=h=h;
 Z5 (0+c<=c) ((∀(i:Nat),i<c->true=true)/\
 Z5 (0+b<=b) ((∀(i:Nat),i<b->true=true)/\
 Z5 (0+a<=a) ((∀(i:Nat),i<a->true=true)/\
 Z5 ((66:Nat)=66/\c=c) (Z5 ((32:Nat)=32/\b=b) (Z5 ((98:Nat)=98/\a=a) (∃(D_1:Ze),
 let m:=D_1.Q;let q:=atQ m o;
 Yg D_1 c (Zp 0 g) b (Zp 0 f) a (Zp 0 d)/\o.length=32/\Z8 (!Nat.blt q (m.length)) (Zd=h/\Z5 (5=e) s) (Zd=Zd/\(List.getD m q ZK).secret.v=h/\o=o/\Z0 l (Z5 (c<=c) (Z0 k (Z5 (b<=b) (Z0 p (Z5 (a<=a) (Z0 l (Z6 3 n c g g/\Z0 k (Z6 3 n b f f/\Z0 p (Z6 3 n a d d/\(ZA D/\o.length=32)/\∀(i:Nat),i<=a->(∀(j:Nat),j<i->(fun (i:Nat)=>i<a) j)->(i=a->r/\r/\Z5 (0=e) s)/\(False->False)/\(False->False)))))))))))))))))) (by kernel_rfl) ?_
 conv=>zeta
 try simp only [vcA]
 try simp only [vcB]
 try simp only [vcC]
 have hR:=WB D 3
 have tr:∀{n:Nat} (i:Nat),i<n->True:=fun _ _=>trivial
 refine ⟨tr,tr,tr,D,V1 hL,ho,fun k=> ?_,fun k=> ?_⟩
 all_goals rw [YZ] at k
 ·have hj:¬atQ D.Q o<D.Q.length:=by simpa using k
  have ex:x=h0:=by rw [hx,XZ _ _ (by omega)];rfl
  rw [ex,he,Z15,if_neg hj]
  exact ⟨rfl,rfl,(hR _).1,(hR _).2.1,(hR _).2.2⟩
 ·have hj:atQ D.Q o<D.Q.length:=by simpa using k
  rw [<-hx]
  refine ⟨rfl,(hR _).1,(hR _).2.1,(hR _).2.2,⟨hL,ho⟩,fun i hi _=>⟨fun hn=> ?_,fun h=>h,fun h=>h⟩⟩
  rw [he,Z15,if_pos hj]
  exact ⟨rfl,(hR _).1,(hR _).2.1,(hR _).2.2⟩
theorem Zh4 (D:Ze) (x:H32) (e:Int) (hL:ZA D) (he:e=Z2M D.S x):
  evF (Zbu D x) 40 22 [.agg (dcC D),.agg (Ql x)] ⟨3,dcB D⟩ (Ye 3 (.ret (.tuple [.agg [.top,.top,.top],.int .i64 e])) 3 (dcB D)):=by
 refine @Eq.mpr _ (let k:=x.v;let d:=D.T.length;let p:=decide (d=d);let c:=D.S;let a:=c.length;let n:=decide (a=a);let b:=D.Q.length;let m:=decide (b=b);let l:=[(5,5),(4,4),(3,3)];let h:=tiR D.T;let g:=seR c;let f:=quR D.Q;let s:=Z0 p (Z6 3 [] d h h/\Z0 n (Z6 3 [] a g g/\Z0 m (Z6 3 [] b f f/\True)));let r:=Z5 (0=e) s;let q:=Z8 (decide ((↑a:Int)>=64)) (Z5 (3=e) s) r;
 k=k/\
 Z0 p (Z5 (d<=d) (Z0 n (Z5 (a<=a) (Z0 m (Z5 (b<=b) (Z0 p (Z6 3 l d h h/\
 Z0 n (Z6 3 l a g g/\
 Z0 m (Z6 3 l b f f/\
 ZA D/\
 ∀(i:Nat),
 let o:=List.length (ZT ltS x c i);
 i<=a->(∀(j:Nat),j<i->(fun (i:Nat)=>ZY k (List.getD c i h0).v≠0) j)->(i=a->Z8 (!ZS ltS x c i) (Z5 (o=o) (Z5 ((o+1)*32<=140737488355328) q)) q)/\(i<a/\ZY k (List.getD c i h0).v=0->r)/\(False->False))))))))))) (by kernel_rfl) ?_
 conv=>zeta
 try simp only [vcA]
 try simp only [vcB]
 try simp only [vcC]
 have hR:=WB D 3
 have hk:∀(k:Int) (τ:Ren),Z2M D.S x=k->k=e/\Z6 3 τ D.T.length (tiR D.T) (tiR D.T)/\Z6 3 τ D.S.length (seR D.S) (seR D.S)/\Z6 3 τ D.Q.length (quR D.Q) (quR D.Q):=fun k τ hk=>⟨by rw [he,hk],(hR _).1,(hR _).2.1,(hR _).2.2⟩
 have hlim:=hL.s
 refine ⟨(hR _).1,(hR _).2.1,(hR _).2.2,hL,fun i hi hg=>⟨fun hn=> ?_,fun hz=> ?_,fun h=>h⟩⟩
 ·have ha:(D.S.any fun y=>decide (ZY x.v y.v=0))=false:=by
   refine K3.2 fun y hy=> ?_
   obtain ⟨j,hj,rfl⟩:=Jk hy
   have:=hg j (by omega)
   rw [J5,J8 hj] at this
   have this:ZY x.v D.S[j].v≠0:=this
   rw [decide_eq_false this]
   decide
  have hll:=YA (lt:=ltS) (x:=x) (D:=D.S) (i:=i)
  have eF:Z2M D.S x=if 64<=D.S.length then 3 else 0:=by
   unfold Z2M
   rw [ha]
   rfl
  exact ⟨fun hb=>⟨by omega,fun l=>hk 3 _ (by rw [eF,if_pos (by omega)]),fun l=>hk 0 _ (by rw [eF,if_neg (by omega)])⟩,fun hb=>⟨fun l=>hk 3 _ (by rw [eF,if_pos (by omega)]),fun l=>hk 0 _ (by rw [eF,if_neg (by omega)])⟩⟩
 ·have ha:(D.S.any fun y=>decide (ZY x.v y.v=0))=true:=JI.2 ⟨D.S.getD i h0,by rw [J5,J8 hz.1];exact K6 hz.1,decide_eq_true hz.2⟩
  exact hk 0 _ (by rw [Z2M,if_pos ha])
theorem Zh5 (H:LI->LI) (B:Nat) (D:Ze) (x:ZH) (e:Int) (hB:B=100000) (hH:∀x,(H x).length=32) (hL:ZA D) (he:e=W9 H D.Q x):
  evF (Zbw H B D x) 40 24 [.agg (dcC D),.agg x.ic,.agg (Ql x.secret)] ⟨3,dcB D⟩ (Ye 3 (.ret (.tuple [.agg [.top,.top,.top],.int .i64 e])) 3 (dcB D)):=by
 refine @Eq.mpr _ (let l:=x.amount;let n:=x.least;let m:=x.secret.v;let s:=m.length;let y:=H m;let d:=x.hash.v;let b:=D.T.length;let q:=decide (b=b);let g:=tiR D.T;let c:=D.S.length;let w:=decide (c=c);let k:=seR D.S;let p:=D.Q;let a:=p.length;let u:=decide (a=a);let h:=quR p;let o:=Z0 q (Z6 3 [] b g g/\Z0 w (Z6 3 [] c k k/\Z0 u (Z6 3 [] a h h/\True)));let f:=Z5 (2=e) o;let A:=x.key.v;let t:=[(6,6),(5,5),(4,4),(3,3)];let z:=Z5 (0=e) o;
 Z8 (decide (l>0)) (Z8 (decide (l>=0)) (Z8 (decide (l<=1125899906842624)) (Z8 (decide (n>=1)) (Z8 (decide (n<=1000)) (Z5 (s=32) (Z5 (32=s) (Z5 (s<=B) (Z5 (y.length=32/\d.length=32) (Z8 (!y==d) f (Z5 (0+b<=b) ((∀(i:Nat),i<b->true=true)/\
 Z5 (0+c<=c) ((∀(i:Nat),i<c->true=true)/\
 Z5 (0+a<=a) ((∀(i:Nat),i<a->true=true)/\
 Z5 ((66:Nat)=66/\b=b) (Z5 ((32:Nat)=32/\c=c) (Z5 ((98:Nat)=98/\a=a) (∃(D_1:Ze),
 Yg D_1 b (Zp 0 g) c (Zp 0 k) a (Zp 0 h)/\
 d.length=32/\
 Z8 (Nat.blt (atQ D_1.Q d) (D_1.Q.length)) (Z5 (360=e) o) (Z8 (decide ((↑a:Int)>=16)) (Z5 (3=e) o) (m=m/\
 d=d/\
 A=A/\
 Z5 (l=l) (Z5 (n=n) (Z0 q (Z5 (b<=b) (Z0 w (Z5 (c<=c) (Z0 u (Z5 (a<=a) (Z0 q (Z6 3 t b g g/\
 Z0 w (Z6 3 t c k k/\
 Z0 u (Z6 3 t a h h/\
 ZA D/\
 ∀(i:Nat),
 let r:=List.length (ZT ltQ x p i);
 i<=a->(∀(j:Nat),j<i->(fun (i:Nat)=>i<a) j)->(i=a->Z8 (!ZS ltQ x p i) (Z5 (r=r) (Z5 ((r+1)*112<=140737488355328) z)) z)/\(False->False)/\(False->False)))))))))))))))))))))))))) f) f) f) f) f) (by kernel_rfl) ?_
 conv=>zeta
 try simp only [vcA]
 try simp only [vcB]
 try simp only [vcC]
 subst hB
 have hR:=WB D 3
 have hk:∀(k:Int) (τ:Ren),W9 H D.Q x=k->k=e/\Z6 3 τ D.T.length (tiR D.T) (tiR D.T)/\Z6 3 τ D.S.length (seR D.S) (seR D.S)/\Z6 3 τ D.Q.length (quR D.Q) (quR D.Q):=fun k τ hk=>⟨by rw [he,hk],(hR _).1,(hR _).2.1,(hR _).2.2⟩
 have hlim:=hL.q
 have hl:=x.secret.l
 have k2:¬(Vk H x=true)->W9 H D.Q x=2:=fun h=>by rw [W9,if_neg h]
 have ok:Vk H x=true↔(1<=x.amount/\x.amount<=1125899906842624)/\(1<=x.least/\x.least<=1000)/\(H x.secret.v==x.hash.v)=true:=by
  unfold Vk
  rw [J1,J1,decide_eq_true_eq,decide_eq_true_eq,and_assoc]
 have k3:Vk H x=true->W9 H D.Q x=if atQ D.Q x.hash.v<D.Q.length then 360 else if 16<=D.Q.length then 3 else 0:=fun h=>by rw [W9,if_pos h]
 have tr:∀{n:Nat} (i:Nat),i<n->True:=fun _ _=>trivial
 refine ⟨fun a0=>⟨fun a1=>⟨fun a2=>⟨fun b0=>⟨fun b1=>⟨hl,hl.symm,by omega,⟨hH _,x.hash.l⟩,fun c=>hk 2 _ (k2 fun h=> ?_),fun c=> ?_⟩,fun b1=>hk 2 _ (k2 fun h=> ?_)⟩,fun b0=>hk 2 _ (k2 fun h=> ?_)⟩,fun a2=>hk 2 _ (k2 fun h=> ?_)⟩,fun a1=>hk 2 _ (k2 fun h=> ?_)⟩,fun a0=>hk 2 _ (k2 fun h=> ?_)⟩
 ·have:=(ok.1 h).2.2;rw [this] at c;cases c
 rotate_left
 ·have:=ok.1 h;omega
 ·have:=ok.1 h;omega
 ·have:=ok.1 h;omega
 ·have:=ok.1 h;omega
 ·have:=ok.1 h;omega
 have k3:=k3 (ok.2 ⟨⟨by omega,a2⟩,⟨b0,b1⟩,by simpa using c⟩)
 refine ⟨tr,tr,tr,D,V1 hL,x.hash.l,fun k=> ?_,fun k=> ?_⟩
 ·rw [if_pos (Xm k)] at k3
  exact hk 360 _ k3
 ·rw [if_neg (fun h=>by rw [Yt h] at k;cases k)] at k3
  refine ⟨fun l=>hk 3 _ (by rw [k3,if_pos (by omega)]),fun l=>⟨(hR _).1,(hR _).2.1,(hR _).2.2,hL,fun i hi _=>⟨fun hn=> ?_,fun h=>h,fun h=>h⟩⟩⟩
  rw [if_neg (by omega)] at k3
  have hll:=YA (lt:=ltQ) (x:=x) (D:=D.Q) (i:=i)
  exact ⟨fun hb=>⟨by omega,hk 0 _ k3⟩,fun hb=>hk 0 _ k3⟩
def Z2Y (h:Z7) (D:Ze) (a b c:Nat):List (Nat×Blk):=(a,.rows 66 D.T.length (tiR D.T))::(b,.rows 32 D.S.length (seR D.S))::(c,.rows 98 D.Q.length (quR D.Q))::YF (YF (YF h.bs a) b) c
theorem Z0x {h:Z7} {args:List AV} {g:FuncId} {K:KO} {K0:Ze->Nat->Nat->Nat->List AV->Prop} (hl:Vm h args K0) (hK:∀D a b c az,ZA D->K0 D a b c az->∃ex,(∀σ d,mvL σ d ex=some ex)/\Spec PP g az ⟨3,dcB D⟩ (.ret (.tuple (.agg [.top,.top,.top]::ex))) 3 (dcB D)/\K (.ret (.tuple (.agg [.top,.top,.top]::ex))) ⟨h.next,Z2Y h D a b c⟩):Zi PP g args h K:=by
 unfold Vm at hl
 split at hl
 ·refine Spec.fsumm hl fun Bs a hlen hK0=> ?_
  split at hK0
  ·obtain ⟨D,⟨⟨rfl,rfl⟩,⟨rfl,rfl⟩,⟨rfl,rfl⟩,hL⟩,hK0⟩:=hK0
   obtain ⟨ex,hex,hs,hK⟩:=hK D _ _ _ _ hL hK0
   exact ⟨_,_,_,_,_,hs,by simp,.ret _ _ (by simp only [mvV,mvL,hex];rfl),.cons _ _ _ _ _ _ rfl (.rows _ _ _ (fun i _=>ZJ.p _)) (.cons _ _ _ _ _ _ rfl (.rows _ _ _ (fun i _=>ZW.p _)) (.cons _ _ _ _ _ _ rfl (.rows _ _ _ (fun i _=>ZX.p _)) .nil)),hK⟩
  ·exact hK0.elim
 ·exact hl.elim
def ZdM:Y2:=fun args h K=>Vm h args fun D a b c az=>match az with
 | [.agg [.nslice ⟨0,0,66,0,0⟩ 66 n1 n2,.nslice ⟨1,0,32,0,0⟩ 32 n3 n4,.nslice ⟨2,0,98,0,0⟩ 98 n5 n6],.agg cs]=>∃x,(n1=D.T.length/\n2=D.T.length/\n3=D.S.length/\n4=D.S.length/\n5=D.Q.length/\n6=D.Q.length)/\Z2P cs x/\K (.ret (.tuple (.agg [.top,.top,.top]::[.int .i64 (Xd D.T x)]))) ⟨h.next,Z2Y h D a b c⟩
 | _=>False
theorem ZbD (args:List AV) (h:Z7) (K:KO) (hl:ZdM args h K):Zi PP 20 args h K:=by
 refine Z0x hl fun D a b c az hL ha=> ?_
 split at ha
 ·obtain ⟨x,⟨rfl,rfl,rfl,rfl,rfl,rfl⟩,⟨rfl⟩,hK⟩:=ha
  exact ⟨_,fun _ _=>rfl,.evM (Z8w D x) (Zh0 D x _ hL rfl),hK⟩
 ·exact ha.elim
def ZdN:Y2:=fun args h K=>Vm h args fun D a b c az=>match az with
 | [.agg [.nslice ⟨0,0,66,0,0⟩ 66 n1 n2,.nslice ⟨1,0,32,0,0⟩ 32 n3 n4,.nslice ⟨2,0,98,0,0⟩ 98 n5 n6],.agg [.arr .u8 32 o],.int .i64 id]=>(n1=D.T.length/\n2=D.T.length/\n3=D.S.length/\n4=D.S.length/\n5=D.Q.length/\n6=D.Q.length)/\o.length=32/\K (.ret (.tuple (.agg [.top,.top,.top]::[.agg (D.T.getD (atO D.T o id) Zq).c,.int .i64 (if atO D.T o id<D.T.length then 0 else 5)]))) ⟨h.next,Z2Y h D a b c⟩
 | _=>False
theorem ZbE (args:List AV) (h:Z7) (K:KO) (hl:ZdN args h K):Zi PP 21 args h K:=by
 refine Z0x hl fun D a b c az hL ha=> ?_
 split at ha
 ·obtain ⟨⟨rfl,rfl,rfl,rfl,rfl,rfl⟩,ho,hK⟩:=ha
  exact ⟨_,fun _ _=>rfl,.evM (Z60 D _) (Zh1 D _ _ _ _ hL ho rfl rfl),hK⟩
 ·exact ha.elim
def ZdO:Y2:=fun args h K=>Vm h args fun D a b c az=>match az with
 | [.agg [.nslice ⟨0,0,66,0,0⟩ 66 n1 n2,.nslice ⟨1,0,32,0,0⟩ 32 n3 n4,.nslice ⟨2,0,98,0,0⟩ 98 n5 n6],.agg [.arr .u8 32 o]]=>∃x:H32,(n1=D.T.length/\n2=D.T.length/\n3=D.S.length/\n4=D.S.length/\n5=D.Q.length/\n6=D.Q.length)/\o=x.v/\K (.ret (.tuple (.agg [.top,.top,.top]::[.int .i64 (Z2M D.S x)]))) ⟨h.next,Z2Y h D a b c⟩
 | _=>False
theorem ZbF (args:List AV) (h:Z7) (K:KO) (hl:ZdO args h K):Zi PP 22 args h K:=by
 refine Z0x hl fun D a b c az hL ha=> ?_
 split at ha
 ·obtain ⟨x,⟨rfl,rfl,rfl,rfl,rfl,rfl⟩,rfl,hK⟩:=ha
  exact ⟨_,fun _ _=>rfl,.evM (Z63 D x) (Zh4 D x _ hL rfl),hK⟩
 ·exact ha.elim
def ZdP (H:LI->LI):Y2:=fun args h K=>Vm h args fun D a b c az=>match az with
 | [.agg [.nslice ⟨0,0,66,0,0⟩ 66 n1 n2,.nslice ⟨1,0,32,0,0⟩ 32 n3 n4,.nslice ⟨2,0,98,0,0⟩ 98 n5 n6],.agg [.arr .u8 32 o]]=>(n1=D.T.length/\n2=D.T.length/\n3=D.S.length/\n4=D.S.length/\n5=D.Q.length/\n6=D.Q.length)/\o.length=32/\K (.ret (.tuple (.agg [.top,.top,.top]::[.int .i64 (Z13 H D.S o)]))) ⟨h.next,Z2Y h D a b c⟩
 | _=>False
theorem ZbG (args:List AV) (h:Z7) (K:KO) (hl:ZdP ZP args h K):Zi PP 28 args h K:=by
 refine Z0x hl fun D a b c az hL ha=> ?_
 split at ha
 ·obtain ⟨⟨rfl,rfl,rfl,rfl,rfl,rfl⟩,ho,hK⟩:=ha
  exact ⟨_,fun _ _=>rfl,.evM (Z61 D _) (Zh2 ZP D _ _ _ hL ho rfl rfl),hK⟩
 ·exact ha.elim
def ZdQ (H:LI->LI):Y2:=fun args h K=>Vm h args fun D a b c az=>match az with
 | [.agg [.nslice ⟨0,0,66,0,0⟩ 66 n1 n2,.nslice ⟨1,0,32,0,0⟩ 32 n3 n4,.nslice ⟨2,0,98,0,0⟩ 98 n5 n6],.agg cs,.agg [.arr .u8 32 o]]=>∃x:ZH,(n1=D.T.length/\n2=D.T.length/\n3=D.S.length/\n4=D.S.length/\n5=D.Q.length/\n6=D.Q.length)/\(cs=x.ic/\o=x.secret.v)/\K (.ret (.tuple (.agg [.top,.top,.top]::[.int .i64 (W9 H D.Q x)]))) ⟨h.next,Z2Y h D a b c⟩
 | _=>False
theorem ZbH (args:List AV) (h:Z7) (K:KO) (hl:ZdQ ZP args h K):Zi PP 24 args h K:=by
 refine Z0x hl fun D a b c az hL ha=> ?_
 split at ha
 ·obtain ⟨x,⟨rfl,rfl,rfl,rfl,rfl,rfl⟩,⟨rfl,rfl⟩,hK⟩:=ha
  exact ⟨_,fun _ _=>rfl,.evM (Z64 D x) (Zh5 ZP 100000 D x _ rfl Y6 hL rfl),hK⟩
 ·exact ha.elim
def ZdR:Y2:=fun args h K=>Vm h args fun D a b c az=>match az with
 | [.agg [.nslice ⟨0,0,66,0,0⟩ 66 n1 n2,.nslice ⟨1,0,32,0,0⟩ 32 n3 n4,.nslice ⟨2,0,98,0,0⟩ 98 n5 n6],.agg [.arr .u8 32 o]]=>(n1=D.T.length/\n2=D.T.length/\n3=D.S.length/\n4=D.S.length/\n5=D.Q.length/\n6=D.Q.length)/\o.length=32/\K (.ret (.tuple (.agg [.top,.top,.top]::[.agg [.arr .u8 32 (D.Q.getD (atQ D.Q o) ZK).secret.v],.int .i64 (Z15 D.Q o)]))) ⟨h.next,Z2Y h D a b c⟩
 | _=>False
theorem ZbI (args:List AV) (h:Z7) (K:KO) (hl:ZdR args h K):Zi PP 26 args h K:=by
 refine Z0x hl fun D a b c az hL ha=> ?_
 split at ha
 ·obtain ⟨⟨rfl,rfl,rfl,rfl,rfl,rfl⟩,ho,hK⟩:=ha
  exact ⟨_,fun _ _=>rfl,.evM (Z62 D _ _) (Zh3 D _ _ _ hL ho rfl rfl),hK⟩
 ·exact ha.elim
noncomputable def Z7x (H H2:LI->LI) (B:Nat) (HH:H32->H32):Zh:=(((((((((((((((((((((((G0.withP 77 (Z3T H2 B)).withF 17 (Zev H)).withF 18 (Zew H)).withF 23 (ZeA H)).withF 30 (ZeB H)).withF 25 (Zbe H)).withF 27 (ZeC H)).withF 31 (Z0R H)).withF 33 (Z0R H)).withF 35 (ZcP H)).withF 37 (ZcQ H)).withF 39 (Z8v H)).withF 20 ZdM).withF 21 ZdN).withF 22 ZdO).withF 28 (ZdP H2)).withF 24 (ZdQ H2)).withF 26 ZdR).withP 32 Z2T).withP 34 Z8x).withP 36 (Z5Z H2)).withP 38 Z46).withP 40 Z8y).withP 19 (Z65 HH)
theorem UE:(Z7x ZB ZP 100000 hhD).Ok:=
 Zh.withP_ok (Zh.withP_ok (Zh.withP_ok (Zh.withP_ok (Zh.withP_ok (Zh.withP_ok (Zh.withF_ok (Zh.withF_ok (Zh.withF_ok (Zh.withF_ok (Zh.withF_ok (Zh.withF_ok (Zh.withF_ok (Zh.withF_ok (Zh.withF_ok (Zh.withF_ok (Zh.withF_ok (Zh.withF_ok (Zh.withF_ok (Zh.withF_ok (Zh.withF_ok (Zh.withF_ok (Zh.withF_ok UB (Z8o ZB)) (Z8p ZB)) Z8s) Z8t) Z5V) (Z8u ZB)) (Z2Q ZB)) (Z4V ZB)) Z4W) (Z4X ZB)) (Z2R ZB)) ZbD) ZbE) ZbF) ZbG) ZbH) ZbI) UC) Z2U) Z00) Uh) Z2V) Z2W
def akR:AV:=.tuple [.agg [.top,.top,.top],.top]
def akO (H:LI->LI) (X D:Ze):List (Nat×Blk):=acB H X D
theorem Zh6 (H H2:LI->LI) (B:Nat) (HH:H32->H32) (X D:Ze) (x:Zw) (hB:B=100000) (hH:∀x,(H2 x).length=32) (hX:X.Lim) (hD:ZA D):
  evF (Z7x H H2 B HH) 40 8 [pt 0,.agg (acC D),.agg (({ x with what:=0}:Zw).c)] ⟨8,acB H X D⟩ (Ye 8 (.ret akR) 8 (akO H ⟨VG X.T x.tie,X.S,X.Q⟩ D)):=by
 refine @Eq.mpr _ (let b:=Zw.mk 0 x.tie x.secret x.i x.own x.p x.q x.ht;let m:=b.tie;let R:=AV.arr u8 32 m.inn.v;let O:=AV.int i64 m.inID;let N:=AV.arr u8 32 m.out.v;let M:=AV.int i64 m.outID;let j:=b.i;let a:=b.p;let g:=b.q;let f:=D.T.length;let e:=D.S.length;let d:=D.Q.length;let a2:=tiR D.T;let a1:=seR D.S;let a0:=quR D.Q;let c:=X.T;let r:=c.length;let o:=true=true/\true=true;let n:=X.S;let Z:=n.length;let l:=X.Q;let Y:=l.length;let W:=tiV c;let A:=Ze.mk (VG c x.tie) n l;let k:=A.T;let z:=k.length;let V:=tiV k;let y:=A.S;let U:=y.length;let w:=A.Q;let P:=w.length;
 ∃(x:Zw),
 Xx [AV.int i64 b.what,R,O,N,M,AV.arr u8 32 b.secret.v,AV.arr u8 32 j.hash.v,AV.arr u8 32 j.key.v,AV.int i64 j.amount,AV.int i64 j.least,AV.bool b.own,AV.bool a.own,AV.int i64 a.id,AV.int i64 a.amount,AV.arr u8 32 a.hash.v,AV.int i64 a.expiry,AV.int i64 a.stage,AV.int i64 a.fin,AV.arr u8 32 a.secret.v,AV.arr u8 32 g.key.v,AV.arr u8 32 g.next.v,AV.int i64 g.amount,AV.int i64 g.expiry,AV.int i64 b.ht] x/\
 (∀(i:Nat),i<f->true=true)/\
 (∀(i:Nat),i<e->true=true)/\
 (∀(i:Nat),i<d->true=true)/\
 ∃(D:Ze),
 let L:=D.T.length;let K:=f=L;let J:=D.S.length;let I:=e=J;let G:=D.Q.length;let F:=d=G;
 XY D f a2 e a1 d a0/\
 ∃(x:Zj),
 let E:=[R,O,N,M];
 (K/\K/\I/\I/\F/\F)/\
 Z2P E x/\
 (∀(i:Nat),i<r->o)/\
 (∀(i:Nat),i<r->o)/\
 (∀(i:Nat),i<Z->o)/\
 (∀(i:Nat),i<Y->o)/\
 ∃(X:Ze),
 Ym H X [AV.map (some 1),AV.map (some 2),AV.map (some 3),AV.map (some 4)] r (tkO c) W r (tkI c) W Z (skV H n) (seV n) Y (qkV l) (quV l)/\
 ∃(x:Zj),
 let u:=Ze.mk (VG X.T x) X.S X.Q;let h:=u.T;let C:=decide (h.length=z);let B:=tiV h;let t:=u.S;let s:=u.Q;
 Z2P E x/\Z0 C (Zc 8 [] z (tkO k) V (tkO h) B/\Z0 C (Zc 8 [] z (tkI k) V (tkI h) B/\Z5 (t.length=U) (Zc 8 [] U (skV H y) (seV y) (skV H t) (seV t)/\Z5 (s.length=P) (Zc 8 [] P (qkV w) (quV w) (qkV s) (quV s)/\Z5 (L=f) (Z6 8 [] f a2 (tiR D.T)/\Z5 (J=e) (Z6 8 [] e a1 (seR D.S)/\Z5 (G=d) (Z6 8 [] d a0 (quR D.Q)/\True)))))))) (by kernel_rfl) ?_
 conv=>zeta
 try simp only [vcA]
 try simp only [vcB]
 try simp only [vcC]
 have tr:∀{n:Nat} (i:Nat),i<n->True:=fun _ _=>trivial
 refine ⟨{ x with what:=0},⟨rfl⟩,tr,tr,tr,D,WQ hD, ?_⟩
 refine ⟨x.tie,⟨rfl,rfl,rfl,rfl,rfl,rfl⟩,⟨rfl⟩,tr,tr,tr,tr,X,Wd H hX,x.tie,⟨rfl⟩, ?_⟩
 repeat' first|apply Jv|intro _
 all_goals first
  | rfl
  | exact J2 _
  | exact H32.l _
  | exact Zn (Xp _) fun _ _=>⟨rfl,rfl⟩
  | exact Zn (XW _) fun _ _=>⟨rfl,rfl⟩
  | exact Zn (Xw H _) fun _ _=>⟨rfl,rfl⟩
  | exact Zn (XX _) fun _ _=>⟨rfl,rfl⟩
  | exact Zg ZJ fun _ _=>rfl
  | exact Zg ZW fun _ _=>rfl
  | exact Zg ZX fun _ _=>rfl
theorem Zh7 (H H2:LI->LI) (B:Nat) (HH:H32->H32) (X D:Ze) (x:Zw) (hB:B=100000) (hH:∀x,(H2 x).length=32) (hX:X.Lim) (hD:ZA D):
  evF (Z7x H H2 B HH) 40 8 [pt 0,.agg (acC D),.agg (({ x with what:=1}:Zw).c)] ⟨8,acB H X D⟩ (Ye 8 (.ret akR) 8 (akO H ⟨unP X.T x.tie.out.v x.tie.outID,X.S,X.Q⟩ D)):=by
 refine @Eq.mpr _ (let J:=x.tie;let b:=Zw.mk 1 J x.secret x.i x.own x.p x.q x.ht;let r:=b.tie;let d:=r.out.v;let o:=r.outID;let n:=b.i;let a:=b.p;let k:=b.q;let c:=D.T.length;let g:=D.S.length;let f:=D.Q.length;let b0:=tiR D.T;let a9:=seR D.S;let a8:=quR D.Q;let a7:=d.length=32;let e:=X.T;let y:=e.length;let w:=true=true/\true=true;let u:=X.S;let a6:=u.length;let t:=X.Q;let a5:=t.length;let a4:=tiV e;let I:=Ze.mk (unP e J.out.v J.outID) u t;let s:=I.T;let G:=s.length;let a3:=tiV s;let F:=I.S;let a2:=F.length;let E:=I.Q;let a1:=E.length;
 ∃(x:Zw),
 Xx [AV.int i64 b.what,AV.arr u8 32 r.inn.v,AV.int i64 r.inID,AV.arr u8 32 d,AV.int i64 o,AV.arr u8 32 b.secret.v,AV.arr u8 32 n.hash.v,AV.arr u8 32 n.key.v,AV.int i64 n.amount,AV.int i64 n.least,AV.bool b.own,AV.bool a.own,AV.int i64 a.id,AV.int i64 a.amount,AV.arr u8 32 a.hash.v,AV.int i64 a.expiry,AV.int i64 a.stage,AV.int i64 a.fin,AV.arr u8 32 a.secret.v,AV.arr u8 32 k.key.v,AV.arr u8 32 k.next.v,AV.int i64 k.amount,AV.int i64 k.expiry,AV.int i64 b.ht] x/\
 (∀(i:Nat),i<c->true=true)/\
 (∀(i:Nat),i<g->true=true)/\
 (∀(i:Nat),i<f->true=true)/\
 ∃(D:Ze),
 let m:=D.T;let a0:=m.length;let Z:=c=a0;let Y:=D.S.length;let W:=g=Y;let V:=D.Q.length;let U:=f=V;let l:=List.getD m (atO m d o) Zq;let R:=l.inn.v;let P:=l.out.v;
 XY D c b0 g a9 f a8/\
 (Z/\Z/\W/\W/\U/\U)/\
 a7/\
 (∀(i:Nat),i<y->w)/\
 (∀(i:Nat),i<y->w)/\
 (∀(i:Nat),i<a6->w)/\
 (∀(i:Nat),i<a5->w)/\
 ∃(X:Ze),
 let C:=X.T;let j:=List.getD C (atO C d o) Zq;let O:=j.inn.v;let N:=j.out.v;let B:=Ze.mk (unP C d o) X.S X.Q;let h:=B.T;let M:=decide (h.length=G);let L:=tiV h;let A:=B.S;let z:=B.Q;let K:=Z0 M (Zc 8 [] G (tkO s) a3 (tkO h) L/\Z0 M (Zc 8 [] G (tkI s) a3 (tkI h) L/\Z5 (A.length=a2) (Zc 8 [] a2 (skV H F) (seV F) (skV H A) (seV A)/\Z5 (z.length=a1) (Zc 8 [] a1 (qkV E) (quV E) (qkV z) (quV z)/\Z5 (a0=c) (Z6 8 [] c b0 (tiR m)/\Z5 (Y=g) (Z6 8 [] g a9 (seR D.S)/\Z5 (V=f) (Z6 8 [] f a8 (quR D.Q)/\True)))))));
 Ym H X [AV.map (some 1),AV.map (some 2),AV.map (some 3),AV.map (some 4)] y (tkO e) a4 y (tkI e) a4 a6 (skV H u) (seV u) a5 (qkV t) (quV t)/\a7/\Z5 (R.length=32/\O.length=32) (Z5 (P.length=32/\N.length=32) (Z8 (R==O&&(l.inID==j.inID&&(P==N&&l.outID==j.outID))) K K))) (by kernel_rfl) ?_
 conv=>zeta
 try simp only [vcA]
 try simp only [vcB]
 try simp only [vcC]
 have tr:∀{n:Nat} (i:Nat),i<n->True:=fun _ _=>trivial
 refine ⟨{ x with what:=1},⟨rfl⟩,tr,tr,tr,D,WQ hD, ?_⟩
 refine ⟨⟨rfl,rfl,rfl,rfl,rfl,rfl⟩,x.tie.out.l,tr,tr,tr,tr,X,Wd H hX,x.tie.out.l, ?_⟩
 repeat' first|apply Jv|intro _
 all_goals first
  | rfl
  | exact J2 _
  | exact H32.l _
  | exact Zn (Xp _) fun _ _=>⟨rfl,rfl⟩
  | exact Zn (XW _) fun _ _=>⟨rfl,rfl⟩
  | exact Zn (Xw H _) fun _ _=>⟨rfl,rfl⟩
  | exact Zn (XX _) fun _ _=>⟨rfl,rfl⟩
  | exact Zg ZJ fun _ _=>rfl
  | exact Zg ZW fun _ _=>rfl
  | exact Zg ZX fun _ _=>rfl
theorem Zh8 (H H2:LI->LI) (B:Nat) (HH:H32->H32) (X D:Ze) (x:Zw) (hB:B=100000) (hH:∀x,(H2 x).length=32) (hX:X.Lim) (hD:ZA D):
  evF (Z7x H H2 B HH) 40 8 [pt 0,.agg (acC D),.agg (({ x with what:=2}:Zw).c)] ⟨8,acB H X D⟩ (Ye 8 (.ret akR) 8 (akO H ⟨X.T,QV H X.S x.secret,X.Q⟩ D)):=by
 refine @Eq.mpr _ (let b:=Zw.mk 2 x.tie x.secret x.i x.own x.p x.q x.ht;let l:=b.tie;let w:=b.secret.v;let j:=b.i;let a:=b.p;let h:=b.q;let e:=D.T.length;let d:=D.S.length;let c:=D.Q.length;let Y:=tiR D.T;let W:=seR D.S;let V:=quR D.Q;let f:=X.T;let r:=f.length;let o:=true=true/\true=true;let n:=X.S;let U:=n.length;let m:=X.Q;let R:=m.length;let P:=tiV f;let B:=Ze.mk f (QV H n x.secret) m;let k:=B.T;let A:=k.length;let O:=tiV k;let z:=B.S;let N:=z.length;let y:=B.Q;let M:=y.length;
 ∃(x:Zw),
 Xx [AV.int i64 b.what,AV.arr u8 32 l.inn.v,AV.int i64 l.inID,AV.arr u8 32 l.out.v,AV.int i64 l.outID,AV.arr u8 32 w,AV.arr u8 32 j.hash.v,AV.arr u8 32 j.key.v,AV.int i64 j.amount,AV.int i64 j.least,AV.bool b.own,AV.bool a.own,AV.int i64 a.id,AV.int i64 a.amount,AV.arr u8 32 a.hash.v,AV.int i64 a.expiry,AV.int i64 a.stage,AV.int i64 a.fin,AV.arr u8 32 a.secret.v,AV.arr u8 32 h.key.v,AV.arr u8 32 h.next.v,AV.int i64 h.amount,AV.int i64 h.expiry,AV.int i64 b.ht] x/\
 (∀(i:Nat),i<e->true=true)/\
 (∀(i:Nat),i<d->true=true)/\
 (∀(i:Nat),i<c->true=true)/\
 ∃(D:Ze),
 let L:=D.T.length;let K:=e=L;let J:=D.S.length;let I:=d=J;let G:=D.Q.length;let F:=c=G;
 XY D e Y d W c V/\
 ∃(x:H32),
 (K/\K/\I/\I/\F/\F)/\
 w=x.v/\
 (∀(i:Nat),i<r->o)/\
 (∀(i:Nat),i<r->o)/\
 (∀(i:Nat),i<U->o)/\
 (∀(i:Nat),i<R->o)/\
 ∃(X:Ze),
 Ym H X [AV.map (some 1),AV.map (some 2),AV.map (some 3),AV.map (some 4)] r (tkO f) P r (tkI f) P U (skV H n) (seV n) R (qkV m) (quV m)/\
 ∃(x:H32),
 let u:=Ze.mk X.T (QV H X.S x) X.Q;let g:=u.T;let E:=decide (g.length=A);let C:=tiV g;let t:=u.S;let s:=u.Q;
 w=x.v/\Z0 E (Zc 8 [] A (tkO k) O (tkO g) C/\Z0 E (Zc 8 [] A (tkI k) O (tkI g) C/\Z5 (t.length=N) (Zc 8 [] N (skV H z) (seV z) (skV H t) (seV t)/\Z5 (s.length=M) (Zc 8 [] M (qkV y) (quV y) (qkV s) (quV s)/\Z5 (L=e) (Z6 8 [] e Y (tiR D.T)/\Z5 (J=d) (Z6 8 [] d W (seR D.S)/\Z5 (G=c) (Z6 8 [] c V (quR D.Q)/\True)))))))) (by kernel_rfl) ?_
 conv=>zeta
 try simp only [vcA]
 try simp only [vcB]
 try simp only [vcC]
 have tr:∀{n:Nat} (i:Nat),i<n->True:=fun _ _=>trivial
 refine ⟨{ x with what:=2},⟨rfl⟩,tr,tr,tr,D,WQ hD, ?_⟩
 refine ⟨x.secret,⟨rfl,rfl,rfl,rfl,rfl,rfl⟩,rfl,tr,tr,tr,tr,X,Wd H hX,x.secret,rfl, ?_⟩
 repeat' first|apply Jv|intro _
 all_goals first
  | rfl
  | exact J2 _
  | exact H32.l _
  | exact Zn (Xp _) fun _ _=>⟨rfl,rfl⟩
  | exact Zn (XW _) fun _ _=>⟨rfl,rfl⟩
  | exact Zn (Xw H _) fun _ _=>⟨rfl,rfl⟩
  | exact Zn (XX _) fun _ _=>⟨rfl,rfl⟩
  | exact Zg ZJ fun _ _=>rfl
  | exact Zg ZW fun _ _=>rfl
  | exact Zg ZX fun _ _=>rfl
theorem Zh9 (H H2:LI->LI) (B:Nat) (HH:H32->H32) (X D:Ze) (x:Zw) (hB:B=100000) (hH:∀x,(H2 x).length=32) (hX:X.Lim) (hD:ZA D):
  evF (Z7x H H2 B HH) 40 8 [pt 0,.agg (acC D),.agg (({ x with what:=3}:Zw).c)] ⟨8,acB H X D⟩ (Ye 8 (.ret akR) 8 (akO H ⟨X.T,X.S,Z0r H X.Q (Yu HH x)⟩ D)):=by
 refine @Eq.mpr _ (let b:=Zw.mk 3 x.tie x.secret x.i x.own x.p x.q x.ht;let m:=b.tie;let y:=b.secret.v;let k:=b.i;let a:=b.p;let h:=b.q;let e:=D.T.length;let d:=D.S.length;let c:=D.Q.length;let a0:=tiR D.T;let Z:=seR D.S;let Y:=quR D.Q;let f:=X.T;let s:=f.length;let r:=true=true/\true=true;let o:=X.S;let W:=o.length;let n:=X.Q;let V:=n.length;let U:=tiV f;let C:=Ze.mk f o (Z0r H n (Yu HH x));let l:=C.T;let B:=l.length;let R:=tiV l;let A:=C.S;let P:=A.length;let z:=C.Q;let O:=z.length;
 ∃(x:Zw),
 let j:=Yu HH x;
 Xx [AV.int i64 b.what,AV.arr u8 32 m.inn.v,AV.int i64 m.inID,AV.arr u8 32 m.out.v,AV.int i64 m.outID,AV.arr u8 32 y,AV.arr u8 32 k.hash.v,AV.arr u8 32 k.key.v,AV.int i64 k.amount,AV.int i64 k.least,AV.bool b.own,AV.bool a.own,AV.int i64 a.id,AV.int i64 a.amount,AV.arr u8 32 a.hash.v,AV.int i64 a.expiry,AV.int i64 a.stage,AV.int i64 a.fin,AV.arr u8 32 a.secret.v,AV.arr u8 32 h.key.v,AV.arr u8 32 h.next.v,AV.int i64 h.amount,AV.int i64 h.expiry,AV.int i64 b.ht] x/\
 (∀(i:Nat),i<e->true=true)/\
 (∀(i:Nat),i<d->true=true)/\
 (∀(i:Nat),i<c->true=true)/\
 ∃(D:Ze),
 let N:=D.T.length;let M:=e=N;let L:=D.S.length;let K:=d=L;let J:=D.Q.length;let I:=c=J;
 XY D e a0 d Z c Y/\
 ∃(x:ZH),
 let G:=[AV.arr u8 32 j.hash.v,AV.arr u8 32 j.key.v,AV.int i64 j.amount,AV.int i64 j.least];
 (M/\M/\K/\K/\I/\I)/\
 (G=ZH.ic x/\y=x.secret.v)/\
 (∀(i:Nat),i<s->r)/\
 (∀(i:Nat),i<s->r)/\
 (∀(i:Nat),i<W->r)/\
 (∀(i:Nat),i<V->r)/\
 ∃(X:Ze),
 Ym H X [AV.map (some 1),AV.map (some 2),AV.map (some 3),AV.map (some 4)] s (tkO f) U s (tkI f) U W (skV H o) (seV o) V (qkV n) (quV n)/\
 ∃(q:ZH),
 let w:=Ze.mk X.T X.S (Z0r H X.Q q);let g:=w.T;let F:=decide (g.length=B);let E:=tiV g;let u:=w.S;let t:=w.Q;
 (G=ZH.ic q/\y=q.secret.v)/\Z0 F (Zc 8 [] B (tkO l) R (tkO g) E/\Z0 F (Zc 8 [] B (tkI l) R (tkI g) E/\Z5 (u.length=P) (Zc 8 [] P (skV H A) (seV A) (skV H u) (seV u)/\Z5 (t.length=O) (Zc 8 [] O (qkV z) (quV z) (qkV t) (quV t)/\Z5 (N=e) (Z6 8 [] e a0 (tiR D.T)/\Z5 (L=d) (Z6 8 [] d Z (seR D.S)/\Z5 (J=c) (Z6 8 [] c Y (quR D.Q)/\True)))))))) (by kernel_rfl) ?_
 conv=>zeta
 try simp only [vcA]
 try simp only [vcB]
 try simp only [vcC]
 have tr:∀{n:Nat} (i:Nat),i<n->True:=fun _ _=>trivial
 refine ⟨{ x with what:=3},⟨rfl⟩,tr,tr,tr,D,WQ hD, ?_⟩
 refine ⟨Yu HH x,⟨rfl,rfl,rfl,rfl,rfl,rfl⟩,⟨rfl,rfl⟩,tr,tr,tr,tr,X,Wd H hX,Yu HH x,⟨rfl,rfl⟩, ?_⟩
 repeat' first|apply Jv|intro _
 all_goals first
  | rfl
  | exact J2 _
  | exact H32.l _
  | exact Zn (Xp _) fun _ _=>⟨rfl,rfl⟩
  | exact Zn (XW _) fun _ _=>⟨rfl,rfl⟩
  | exact Zn (Xw H _) fun _ _=>⟨rfl,rfl⟩
  | exact Zn (XX _) fun _ _=>⟨rfl,rfl⟩
  | exact Zg ZJ fun _ _=>rfl
  | exact Zg ZW fun _ _=>rfl
  | exact Zg ZX fun _ _=>rfl
theorem Zha (H H2:LI->LI) (B:Nat) (HH:H32->H32) (X D:Ze) (x:Zw) (hB:B=100000) (hH:∀x,(H2 x).length=32) (hX:X.Lim) (hD:ZA D):
  evF (Z7x H H2 B HH) 40 8 [pt 0,.agg (acC D),.agg (({ x with what:=4}:Zw).c)] ⟨8,acB H X D⟩ (Ye 8 (.ret akR) 8 (akO H ⟨X.T,X.S,Z16 X.Q (Yu HH x).hash.v⟩ D)):=by
 refine @Eq.mpr _ (let b:=Zw.mk 4 x.tie x.secret x.i x.own x.p x.q x.ht;let n:=b.tie;let l:=b.i;let a:=b.p;let k:=b.q;let e:=D.T.length;let d:=D.S.length;let c:=D.Q.length;let F:=tiR D.T;let a4:=seR D.S;let a3:=quR D.Q;let f:=X.T;let t:=f.length;let s:=true=true/\true=true;let r:=X.S;let a2:=r.length;let o:=X.Q;let a1:=o.length;let a0:=tiV f;let E:=Ze.mk f r (Z16 o (Yu HH x).hash.v);let m:=E.T;let C:=m.length;let Z:=tiV m;let B:=E.S;let Y:=B.length;let A:=E.Q;let W:=A.length;
 ∃(x:Zw),
 let j:=(Yu HH x).hash.v;let V:=j.length=32;
 Xx [AV.int i64 b.what,AV.arr u8 32 n.inn.v,AV.int i64 n.inID,AV.arr u8 32 n.out.v,AV.int i64 n.outID,AV.arr u8 32 b.secret.v,AV.arr u8 32 l.hash.v,AV.arr u8 32 l.key.v,AV.int i64 l.amount,AV.int i64 l.least,AV.bool b.own,AV.bool a.own,AV.int i64 a.id,AV.int i64 a.amount,AV.arr u8 32 a.hash.v,AV.int i64 a.expiry,AV.int i64 a.stage,AV.int i64 a.fin,AV.arr u8 32 a.secret.v,AV.arr u8 32 k.key.v,AV.arr u8 32 k.next.v,AV.int i64 k.amount,AV.int i64 k.expiry,AV.int i64 b.ht] x/\
 (∀(i:Nat),i<e->true=true)/\
 (∀(i:Nat),i<d->true=true)/\
 (∀(i:Nat),i<c->true=true)/\
 ∃(D:Ze),
 let U:=D.T.length;let R:=e=U;let P:=D.S.length;let O:=d=P;let h:=D.Q;let N:=h.length;let M:=c=N;let L:=(List.getD h (atQ h j) ZK).secret.v;
 XY D e F d a4 c a3/\
 (R/\R/\O/\O/\M/\M)/\
 V/\
 (∀(i:Nat),i<t->s)/\
 (∀(i:Nat),i<t->s)/\
 (∀(i:Nat),i<a2->s)/\
 (∀(i:Nat),i<a1->s)/\
 ∃(X:Ze),
 let z:=X.Q;let K:=(List.getD z (atQ z j) ZK).secret.v;let y:=Ze.mk X.T X.S (Z16 z j);let g:=y.T;let J:=decide (g.length=C);let I:=tiV g;let w:=y.S;let u:=y.Q;let G:=Z0 J (Zc 8 [] C (tkO m) Z (tkO g) I/\Z0 J (Zc 8 [] C (tkI m) Z (tkI g) I/\Z5 (w.length=Y) (Zc 8 [] Y (skV H B) (seV B) (skV H w) (seV w)/\Z5 (u.length=W) (Zc 8 [] W (qkV A) (quV A) (qkV u) (quV u)/\Z5 (U=e) (Z6 8 [] e F (tiR D.T)/\Z5 (P=d) (Z6 8 [] d a4 (seR D.S)/\Z5 (N=c) (Z6 8 [] c a3 (quR h)/\True)))))));
 Ym H X [AV.map (some 1),AV.map (some 2),AV.map (some 3),AV.map (some 4)] t (tkO f) a0 t (tkI f) a0 a2 (skV H r) (seV r) a1 (qkV o) (quV o)/\V/\Z5 (L.length=32/\K.length=32) (Z8 (L==K) G G)) (by kernel_rfl) ?_
 conv=>zeta
 try simp only [vcA]
 try simp only [vcB]
 try simp only [vcC]
 have tr:∀{n:Nat} (i:Nat),i<n->True:=fun _ _=>trivial
 refine ⟨{ x with what:=4},⟨rfl⟩,tr,tr,tr,D,WQ hD, ?_⟩
 refine ⟨⟨rfl,rfl,rfl,rfl,rfl,rfl⟩,(Yu HH x).hash.l,tr,tr,tr,tr,X,Wd H hX,(Yu HH x).hash.l, ?_⟩
 repeat' first|apply Jv|intro _
 all_goals first
  | rfl
  | exact J2 _
  | exact H32.l _
  | exact Zn (Xp _) fun _ _=>⟨rfl,rfl⟩
  | exact Zn (XW _) fun _ _=>⟨rfl,rfl⟩
  | exact Zn (Xw H _) fun _ _=>⟨rfl,rfl⟩
  | exact Zn (XX _) fun _ _=>⟨rfl,rfl⟩
  | exact Zg ZJ fun _ _=>rfl
  | exact Zg ZW fun _ _=>rfl
  | exact Zg ZX fun _ _=>rfl
theorem Zhb (H H2:LI->LI) (B:Nat) (HH:H32->H32) (X D:Ze) (x:Zw) (hB:B=100000) (hH:∀x,(H2 x).length=32) (hX:X.Lim) (hD:ZA D):
  evF (Z7x H H2 B HH) 40 8 [pt 0,.agg (acC D),.agg (({ x with what:=5}:Zw).c)] ⟨8,acB H X D⟩ (Ye 8 (.ret akR) 8 (akO H ⟨X.T,Z14 H X.S (H2 x.secret.v),X.Q⟩ D)):=by
 refine @Eq.mpr _ (let b:=Zw.mk 5 x.tie x.secret x.i x.own x.p x.q x.ht;let r:=b.tie;let E:=b.secret.v;let j:=b.i;let a:=b.p;let h:=b.q;let w:=E.length;let K:=decide (w=32);let G:=decide (32=w);let a8:=decide (w<=B);let e:=D.T.length;let a7:=decide (e=e);let d:=D.S.length;let a6:=decide (d=d);let c:=D.Q.length;let a5:=decide (c=c);let a4:=tiR D.T;let a3:=seR D.S;let a2:=quR D.Q;let a1:=H2 E;let a0:=a1.length=32;let f:=X.T;let o:=f.length;let n:=true=true/\true=true;let m:=X.S;let Z:=m.length;let l:=X.Q;let Y:=l.length;let W:=tiV f;let C:=Ze.mk f (Z14 H m (H2 x.secret.v)) l;let k:=C.T;let A:=k.length;let V:=tiV k;let z:=C.S;let U:=z.length;let y:=C.Q;let R:=y.length;
 ∃(x:Zw),
 Xx [AV.int i64 b.what,AV.arr u8 32 r.inn.v,AV.int i64 r.inID,AV.arr u8 32 r.out.v,AV.int i64 r.outID,AV.arr u8 32 E,AV.arr u8 32 j.hash.v,AV.arr u8 32 j.key.v,AV.int i64 j.amount,AV.int i64 j.least,AV.bool b.own,AV.bool a.own,AV.int i64 a.id,AV.int i64 a.amount,AV.arr u8 32 a.hash.v,AV.int i64 a.expiry,AV.int i64 a.stage,AV.int i64 a.fin,AV.arr u8 32 a.secret.v,AV.arr u8 32 h.key.v,AV.arr u8 32 h.next.v,AV.int i64 h.amount,AV.int i64 h.expiry,AV.int i64 b.ht] x/\
 Z0 K (Z0 G (Z0 a8 (Z0 a7 (Z0 a7 (Z0 a6 (Z0 a6 (Z0 a5 (Z0 a5 ((∀(i:Nat),i<e->true=true)/\
 (∀(i:Nat),i<d->true=true)/\
 (∀(i:Nat),i<c->true=true)/\
 ∃(D:Ze),
 let P:=D.T.length;let O:=e=P;let N:=D.S.length;let M:=d=N;let L:=D.Q.length;let J:=c=L;
 XY D e a4 d a3 c a2/\
 (O/\O/\M/\M/\J/\J)/\
 a0/\
 Z0 K (Z0 G (Z0 a8 ((∀(i:Nat),i<o->n)/\
 (∀(i:Nat),i<o->n)/\
 (∀(i:Nat),i<Z->n)/\
 (∀(i:Nat),i<Y->n)/\
 ∃(X:Ze),
 let u:=Ze.mk X.T (Z14 H X.S a1) X.Q;let g:=u.T;let I:=decide (g.length=A);let F:=tiV g;let t:=u.S;let s:=u.Q;
 Ym H X [AV.map (some 1),AV.map (some 2),AV.map (some 3),AV.map (some 4)] o (tkO f) W o (tkI f) W Z (skV H m) (seV m) Y (qkV l) (quV l)/\a0/\Z0 I (Zc 8 [] A (tkO k) V (tkO g) F/\Z0 I (Zc 8 [] A (tkI k) V (tkI g) F/\Z5 (t.length=U) (Zc 8 [] U (skV H z) (seV z) (skV H t) (seV t)/\Z5 (s.length=R) (Zc 8 [] R (qkV y) (quV y) (qkV s) (quV s)/\Z5 (P=e) (Z6 8 [] e a4 (tiR D.T)/\Z5 (N=d) (Z6 8 [] d a3 (seR D.S)/\Z5 (L=c) (Z6 8 [] c a2 (quR D.Q)/\True)))))))))))))))))))) (by kernel_rfl) ?_
 conv=>zeta
 try simp only [vcA]
 try simp only [vcB]
 try simp only [vcC]
 subst hB
 have hl:=x.secret.l
 have hB:x.secret.v.length<=100000:=by omega
 have tr:∀{n:Nat} (i:Nat),i<n->True:=fun _ _=>trivial
 refine ⟨{ x with what:=5},⟨rfl⟩,hl,hl.symm,hB,tr,tr,tr,D,WQ hD,⟨rfl,rfl,rfl,rfl,rfl,rfl⟩,hH _,hl,hl.symm,hB,tr,tr,tr,tr,X,Wd H hX,hH _, ?_⟩
 repeat' first|apply Jv|intro _
 all_goals first
  | rfl
  | exact J2 _
  | exact H32.l _
  | exact Zn (Xp _) fun _ _=>⟨rfl,rfl⟩
  | exact Zn (XW _) fun _ _=>⟨rfl,rfl⟩
  | exact Zn (Xw H _) fun _ _=>⟨rfl,rfl⟩
  | exact Zn (XX _) fun _ _=>⟨rfl,rfl⟩
  | exact Zg ZJ fun _ _=>rfl
  | exact Zg ZW fun _ _=>rfl
  | exact Zg ZX fun _ _=>rfl
theorem Zhc (H H2:LI->LI) (B:Nat) (HH:H32->H32) (X D:Ze) (x:Zw) (hB:B=100000) (hH:∀x,(H2 x).length=32) (hX:X.Lim) (hD:ZA D) (hw:x.what≠0/\x.what≠1/\x.what≠2/\x.what≠3/\x.what≠4/\x.what≠5):
  evF (Zbz H H2 B HH) 40 8 [pt 0,.agg (acC D),.agg x.c] ⟨8,acB H X D⟩ (Ye 8 (.ret akR) 8 (akO H X D)):=by
 refine @Eq.mpr _ (let E:=x.what;let q2:=x.tie;let q3:=q2.inn.v;let q4:=q2.out.v;let q5:=q2.outID;let q6:=x.secret.v;let q7:=x.i;let r:=x.p;let q9:=r.own;let f8:=AV.bool q9;let f7:=r.id;let f6:=AV.int i64 f7;let f5:=r.amount;let f4:=AV.int i64 f5;let f3:=r.hash.v;let m6:=AV.arr u8 32 f3;let f2:=r.expiry;let m4:=AV.int i64 f2;let e9:=r.stage;let l5:=AV.int i64 e9;let e7:=r.fin;let k7:=AV.int i64 e7;let e4:=r.secret.v;let j9:=AV.arr u8 32 e4;let a8:=x.q;let e0:=a8.key.v;let d8:=AV.arr u8 32 e0;let d0:=a8.next.v;let c9:=AV.arr u8 32 d0;let c8:=a8.amount;let c6:=AV.int i64 c8;let c5:=a8.expiry;let c4:=AV.int i64 c5;let c3:=x.ht;let c2:=q6.length;let c1:=decide (c2=32);let c0:=decide (32=c2);let b9:=decide (c2<=B);let g:=D.T.length;let m:=decide (g=g);let f:=D.S.length;let l:=decide (f=f);let d:=D.Q.length;let k:=decide (d=d);let a6:=X.T;let j:=a6.length;let a:=true=true/\true=true;let b8:=X.S;let z:=b8.length;let b7:=X.Q;let y:=b7.length;let M:=[AV.map (some 1),AV.map (some 2),AV.map (some 3),AV.map (some 4)];let a5:=tkO a6;let w:=tiV a6;let a4:=tkI a6;let a3:=skV H b8;let a2:=seV b8;let a1:=qkV b7;let a0:=quV b7;let h6:=q4.length=32;let L:=decide (0+g<=g);let K:=decide (0+f<=f);let J:=decide (0+d<=d);let I:=decide ((66:Nat)=66/\g=g);let G:=decide ((32:Nat)=32/\f=f);let F:=decide ((98:Nat)=98/\d=d);let u:=tiR D.T;let t:=seR D.S;let s:=quR D.Q;let h5:=q3.length=32;let h4:=H2 q6;let h3:=h4.length=32;let h2:=[m4,l5,k7,j9];let h1:=decide (c3=c3);let g9:=e0=e0;let g8:=d0=d0;let g7:=decide (c8=c8);let g6:=decide (c5=c5);let g5:=decide (q9=q9);let g4:=decide (f7=f7);let g3:=decide (f5=f5);let g2:=decide (f2=f2);let g1:=decide (e9=e9);let g0:=decide (e7=e7);let f9:=e4=e4;let b6:=Z0 m (Z6 8 [] g u u/\Z0 l (Z6 8 [] f t t/\Z0 k (Z6 8 [] d s s/\True)));
 ∃(x_1:Zw),
 let Z:=(Yu HH x_1).hash.v;let m5:=Z.length=32;
 Xx [AV.int i64 E,AV.arr u8 32 q3,AV.int i64 q2.inID,AV.arr u8 32 q4,AV.int i64 q5,AV.arr u8 32 q6,AV.arr u8 32 q7.hash.v,AV.arr u8 32 q7.key.v,AV.int i64 q7.amount,AV.int i64 q7.least,AV.bool x.own,f8,f6,f4,m6,m4,l5,k7,j9,d8,c9,c6,c4,AV.int i64 c3] x_1/\
 Z8 (E==0) False (Z8 (E==1) False (Z8 (E==2) False (Z8 (E==3) False (Z8 (E==4) False (Z8 (E==5) (Z0 c1 (Z0 c0 (Z0 b9 (Z0 m (Z0 m (Z0 l (Z0 l (Z0 k (Z8 k False False))))))))) ((∀(i:Nat),i<j->a)/\
 (∀(i:Nat),i<j->a)/\
 (∀(i:Nat),i<z->a)/\
 (∀(i:Nat),i<y->a)/\
 ∃(X:Ze),
 let b5:=X.T;let b4:=b5.length;let f1:=X.S;let m3:=f1.length;let f0:=X.Q;let m2:=f0.length;let m1:=tiV b5;
 Ym H X M j a5 w j a4 w z a3 a2 y a1 a0/\
 h6/\
 ∀(x_2:Zj),
 let m0:=x_2.inn.v;let l9:=x_2.out.v;
 ∀(b:Bool),
 Z0 L ((∀(i:Nat),i<g->true=true)/\
 Z0 K ((∀(i:Nat),i<f->true=true)/\
 Z0 J ((∀(i:Nat),i<d->true=true)/\
 Z0 I (Z0 G (Z0 F (∃(D:Ze),
 let e8:=D.T;let l8:=atO e8 q4 q5;let b3:=List.getD e8 l8 Zq;let l7:=b3.inn.v;let l6:=decide (m0.length=32/\l7.length=32);let l4:=b3.out.v;let l3:=decide (l9.length=32/\l4.length=32);let l2:=m0==l7&&(x_2.inID==b3.inID&&(l9==l4&&x_2.outID==b3.outID));let l1:=b==Nat.blt l8 (e8.length);
 Yg D g (Zp 0 u) f (Zp 0 t) d (Zp 0 s)/\
 h6/\
 (∀(i:Nat),i<b4->a)/\
 (∀(i:Nat),i<b4->a)/\
 (∀(i:Nat),i<m3->a)/\
 (∀(i:Nat),i<m2->a)/\
 ∃(X:Ze),
 let b2:=X.T;let b1:=b2.length;let e6:=X.S;let l0:=e6.length;let e5:=X.Q;let k9:=e5.length;let k8:=tiV b2;
 Ym H X M b4 (tkO b5) m1 b4 (tkI b5) m1 m3 (skV H f1) (seV f1) m2 (qkV f0) (quV f0)/\
 h5/\
 ∀(x_3:Zj),
 let k6:=x_3.inn.v;let k5:=x_3.out.v;
 ∀(b:Bool),
 Z0 L ((∀(i:Nat),i<g->true=true)/\
 Z0 K ((∀(i:Nat),i<f->true=true)/\
 Z0 J ((∀(i:Nat),i<d->true=true)/\
 Z0 I (Z0 G (Z0 F (∃(D:Ze),
 Yg D g (Zp 0 u) f (Zp 0 t) d (Zp 0 s)/\
 h5/\
 ∀(x_4:Zj),
 let k4:=x_4.inn.v;let k3:=decide (k6.length=32/\k4.length=32);let k2:=x_4.out.v;let k1:=decide (k5.length=32/\k2.length=32);let k0:=k6==k4&&(x_3.inID==x_4.inID&&(k5==k2&&x_3.outID==x_4.outID));
 ∀(b_1:Bool),
 Z0 c1 (Z0 c0 (Z0 b9 ((∀(i:Nat),i<b1->a)/\
 (∀(i:Nat),i<b1->a)/\
 (∀(i:Nat),i<l0->a)/\
 (∀(i:Nat),i<k9->a)/\
 ∃(X:Ze),
 let b0:=X.T;let a9:=b0.length;let e3:=X.S;let j8:=e3.length;let e2:=X.Q;let j7:=e2.length;let j6:=tiV b0;
 Ym H X M b1 (tkO b2) k8 b1 (tkI b2) k8 l0 (skV H e6) (seV e6) k9 (qkV e5) (quV e5)/\
 h3/\
 ∀(x_5:H32) (b_2:Bool),
 Z0 c1 (Z0 c0 (Z0 b9 (Z0 m (Z0 m (Z0 l (Z0 l (Z0 k (Z0 k (Z0 L ((∀(i:Nat),i<g->true=true)/\
 Z0 K ((∀(i:Nat),i<f->true=true)/\
 Z0 J ((∀(i:Nat),i<d->true=true)/\
 Z0 I (Z0 G (Z0 F (∃(D:Ze),
 let e1:=D.S;let j5:=Xt H2 e1 h4;let j4:=(List.getD e1 j5 h0).v;let j3:=decide (x_5.v.length=32/\j4.length=32);let j2:=x_5.v==j4;let j1:=b_2==Nat.blt j5 (e1.length);
 Yg D g (Zp 0 u) f (Zp 0 t) d (Zp 0 s)/\
 h3/\
 (∀(i:Nat),i<a9->a)/\
 (∀(i:Nat),i<a9->a)/\
 (∀(i:Nat),i<j8->a)/\
 (∀(i:Nat),i<j7->a)/\
 ∃(X:Ze),
 let a7:=X.T;let o:=a7.length;let d9:=X.S;let Y:=d9.length;let d7:=X.Q;let W:=d7.length;let d6:=tkO a7;let N:=tiV a7;let d5:=tkI a7;let d4:=skV H d9;let d3:=seV d9;let d2:=qkV d7;let d1:=quV d7;let j0:=decide (o=j);let h:=Z0 j0 (Zc 8 [] j a5 w d6 N/\Z0 j0 (Zc 8 [] j a4 w d5 N/\Z5 (Y=z) (Zc 8 [] z a3 a2 d4 d3/\Z5 (W=y) (Zc 8 [] y a1 a0 d2 d1/\b6))));
 Ym H X M a9 (tkO b0) j6 a9 (tkI b0) j6 j8 (skV H e3) (seV e3) j7 (qkV e2) (quV e2)/\
 m5/\
 ∀(q:ZH),
 let i9:=q.hash.v;let i8:=q.key.v;let i7:=q.secret.v;
 ∀(b_3:Bool),
 Z0 L ((∀(i:Nat),i<g->true=true)/\
 Z0 K ((∀(i:Nat),i<f->true=true)/\
 Z0 J ((∀(i:Nat),i<d->true=true)/\
 Z0 I (Z0 G (Z0 F (∃(D:Ze),
 let c7:=D.Q;let i6:=atQ c7 Z;let V:=List.getD c7 i6 ZK;let i5:=V.hash.v;let i4:=decide (i9.length=32/\i5.length=32);let i3:=V.key.v;let i2:=decide (i8.length=32/\i3.length=32);let i1:=i9==i5&&(i8==i3&&(q.amount==V.amount&&q.least==V.least));let i0:=V.secret.v;let h9:=decide (i7.length=32/\i0.length=32);let h8:=i7==i0;let h7:=b_3==Nat.blt i6 (c7.length);
 Yg D g (Zp 0 u) f (Zp 0 t) d (Zp 0 s)/\
 m5/\
 Z8 x.own (Z0 l6 (Z0 l3 (Z8 l2 (Z8 l1 (Z0 k3 (Z0 k1 (Z8 k0 (Z8 (b==b_1) (Z0 j3 (Z8 j2 (Z8 j1 (Z0 i4 (Z0 i2 (Z8 i1 (Z0 h9 (Z8 h8 (Z8 h7 ((∀(i:Nat),i<o->a)/\
 (∀(i:Nat),i<o->a)/\
 (∀(i:Nat),i<Y->a)/\
 (∀(i:Nat),i<W->a)/\
 ∃(X:Ze),
 let n:=X.T;let U:=decide (n.length=j);let R:=tiV n;let C:=X.S;let A:=X.Q;
 Ym H X M o d6 N o d5 N Y d4 d3 W d2 d1/\
 ∃(p:Xe),
 let P:=f8::f6::f4::AV.arr u8 32 Z::h2;
 ∃(q:Xf),
 let O:=[d8,c9,c6,c4];
 (P=Xe.c p/\O=Xf.c q)/\
 ∀(e:Int),
 Z0 h1 (g9/\
 g8/\
 Z0 g7 (Z0 g6 (Z0 g5 (Z0 g4 (Z0 g3 (Z=Z/\Z0 g2 (Z0 g1 (Z0 g0 (f9/\Z0 m (Z0 m (Z0 l (Z0 l (Z0 k (Z0 k (Z0 m (Z0 m (Z0 l (Z0 l (Z0 k (Z0 k (Z0 L ((∀(i:Nat),i<g->true=true)/\Z0 K ((∀(i:Nat),i<f->true=true)/\Z0 J ((∀(i:Nat),i<d->true=true)/\Z0 I (Z0 G (Z0 F (∃(D:Ze),Yg D g (Zp 0 u) f (Zp 0 t) d (Zp 0 s)/\∃(p:Xe),∃(q:Xf),(P=Xe.c p/\O=Xf.c q)/\∀(e:Int),Z0 U (Zc 8 [] j a5 w (tkO n) R/\Z0 U (Zc 8 [] j a4 w (tkI n) R/\Z5 (C.length=z) (Zc 8 [] z a3 a2 (skV H C) (seV C)/\Z5 (A.length=y) (Zc 8 [] y a1 a0 (qkV A) (quV A)/\b6)))))))))))))))))))))))))))))))) h) h)) h))) h) h)) h) h))) h) h))) (Z0 l6 (Z0 l3 (Z8 l2 (Z8 l1 (Z0 k3 (Z0 k1 (Z8 k0 (Z8 (b==b_1) (Z0 j3 (Z8 j2 (Z8 j1 (Z0 i4 (Z0 i2 (Z8 i1 (Z0 h9 (Z8 h8 (Z8 h7 ((∀(i:Nat),i<o->a)/\
 (∀(i:Nat),i<o->a)/\
 (∀(i:Nat),i<Y->a)/\
 (∀(i:Nat),i<W->a)/\
 ∃(X:Ze),
 let n:=X.T;let U:=decide (n.length=j);let R:=tiV n;let C:=X.S;let A:=X.Q;
 Ym H X M o d6 N o d5 N Y d4 d3 W d2 d1/\
 ∃(p:Xe),
 let P:=f8::f6::f4::m6::h2;
 ∃(q:Xf),
 let O:=[d8,c9,c6,c4];
 (P=Xe.c p/\O=Xf.c q)/\
 ∀(e:Int),
 Z0 h1 (g9/\
 g8/\
 Z0 g7 (Z0 g6 (Z0 g5 (Z0 g4 (Z0 g3 (f3=f3/\Z0 g2 (Z0 g1 (Z0 g0 (f9/\Z0 m (Z0 m (Z0 l (Z0 l (Z0 k (Z0 k (Z0 m (Z0 m (Z0 l (Z0 l (Z0 k (Z0 k (Z0 L ((∀(i:Nat),i<g->true=true)/\Z0 K ((∀(i:Nat),i<f->true=true)/\Z0 J ((∀(i:Nat),i<d->true=true)/\Z0 I (Z0 G (Z0 F (∃(D:Ze),Yg D g (Zp 0 u) f (Zp 0 t) d (Zp 0 s)/\∃(p:Xe),∃(q:Xf),(P=Xe.c p/\O=Xf.c q)/\∀(e:Int),Z0 U (Zc 8 [] j a5 w (tkO n) R/\Z0 U (Zc 8 [] j a4 w (tkI n) R/\Z5 (C.length=z) (Zc 8 [] z a3 a2 (skV H C) (seV C)/\Z5 (A.length=y) (Zc 8 [] y a1 a0 (qkV A) (quV A)/\b6)))))))))))))))))))))))))))))))) h) h)) h))) h) h)) h) h))) h) h)))))))))))))))))))))))))))))))))))))))))))))) (by kernel_rfl) ?_
 conv=>zeta
 try simp only [vcA]
 try simp only [vcB]
 try simp only [vcC]
 subst hB
 have hl:=x.secret.l
 have hB:x.secret.v.length<=100000:=by omega
 have tr:∀{n:Nat} (i:Nat),i<n->True:=fun _ _=>trivial
 obtain ⟨w0,w1,w2,w3,w4,w5⟩:=hw
 have hT:=Wd H hX
 have hV:=V1 hD
 refine ⟨x,⟨rfl⟩,beq_eq_false_iff_ne.2 w0,beq_eq_false_iff_ne.2 w1,beq_eq_false_iff_ne.2 w2,beq_eq_false_iff_ne.2 w3,beq_eq_false_iff_ne.2 w4,fun h=>absurd (beq_iff_eq.1 h) w5,fun _=>⟨tr,tr,tr,tr,X,hT,x.tie.out.l,fun x1 b1=>⟨tr,tr,tr,D,hV,x.tie.out.l,tr,tr,tr,tr,X,hT,x.tie.inn.l,fun x2 b2=>⟨tr,tr,tr,D,hV,x.tie.inn.l,fun x3 b3=>⟨hl,hl.symm,hB,tr,tr,tr,tr,X,hT,hH _,fun x4 b4=>⟨hl,hl.symm,hB,tr,tr,tr,D,hV,hH _,tr,tr,tr,tr,X,hT,(Yu HH x).hash.l,fun q b5=>⟨tr,tr,tr,D,hV,(Yu HH x).hash.l, ?_⟩⟩⟩⟩⟩⟩⟩
 repeat' first
  | exact tr
  | exact H32.l _
  | rfl
  | exact J2 _
  | exact Zn (Xp _) fun _ _=>⟨rfl,rfl⟩
  | exact Zn (XW _) fun _ _=>⟨rfl,rfl⟩
  | exact Zn (Xw H _) fun _ _=>⟨rfl,rfl⟩
  | exact Zn (XX _) fun _ _=>⟨rfl,rfl⟩
  | exact Zg ZJ fun _ _=>rfl
  | exact Zg ZW fun _ _=>rfl
  | exact Zg ZX fun _ _=>rfl
  | apply Jv
  | refine ⟨X,hT,{ x.p with hash:=(Yu HH x).hash},x.q,⟨rfl,rfl⟩,fun _=>⟨tr,tr,tr,D,hV,{ x.p with hash:=(Yu HH x).hash},x.q,⟨rfl,rfl⟩,fun _=> ?_⟩⟩
  | refine ⟨X,hT,x.p,x.q,⟨rfl,rfl⟩,fun _=>⟨tr,tr,tr,D,hV,x.p,x.q,⟨rfl,rfl⟩,fun _=> ?_⟩⟩
  | intro _
theorem Zdc (X D:Ze) (x:Zw) (hX:X.Lim) (hD:ZA D):Spec PP 8 [pt 0,.agg (acC D),.agg x.c] ⟨8,acB ZB X D⟩ (.ret akR) 8 (akO ZB (acX ZB ZP hhD x X) D):=by
 obtain ⟨w,t,s,i,own,p,q,ht⟩:=x
 by_cases h0:w=0
 ·subst h0;exact .evM UE (Zh6 ZB ZP 100000 hhD X D ⟨0,t,s,i,own,p,q,ht⟩ rfl Y6 hX hD)
 by_cases h1:w=1
 ·subst h1;exact .evM UE (Zh7 ZB ZP 100000 hhD X D ⟨1,t,s,i,own,p,q,ht⟩ rfl Y6 hX hD)
 by_cases h2:w=2
 ·subst h2;exact .evM UE (Zh8 ZB ZP 100000 hhD X D ⟨2,t,s,i,own,p,q,ht⟩ rfl Y6 hX hD)
 by_cases h3:w=3
 ·subst h3;exact .evM UE (Zh9 ZB ZP 100000 hhD X D ⟨3,t,s,i,own,p,q,ht⟩ rfl Y6 hX hD)
 by_cases h4:w=4
 ·subst h4;exact .evM UE (Zha ZB ZP 100000 hhD X D ⟨4,t,s,i,own,p,q,ht⟩ rfl Y6 hX hD)
 by_cases h5:w=5
 ·subst h5;exact .evM UE (Zhb ZB ZP 100000 hhD X D ⟨5,t,s,i,own,p,q,ht⟩ rfl Y6 hX hD)
 ·have e1:acX ZB ZP hhD ⟨w,t,s,i,own,p,q,ht⟩ X=X:=by simp only [acX,h0,h1,h2,h3,h4,h5,if_false]
  rw [e1]
  exact .evM Z66 (Zhc ZB ZP 100000 hhD X D ⟨w,t,s,i,own,p,q,ht⟩ rfl Y6 hX hD ⟨h0,h1,h2,h3,h4,h5⟩)
theorem ZbJ {x:Zj} (h:D.length<=48):(QU D x).length<=48:=by
 unfold QU
 split
 ·rename_i he
  have:=(Z7t he).2.2
  rw [Ud]
  omega
 ·exact h
theorem Zdd {o:LI} {id:Int} (h:D.length<=48):(unD D o id).length<=48:=by
 unfold unD
 split
 ·exact Jw (K1 _ _) h
 ·exact h
theorem Zde {x:Zw} (h:X.Lim):(acX ZB ZP hhD x X).Lim:=by
 unfold acX
 repeat' split
 ·exact h.tie _
 ·exact h.untie _ _
 ·exact ⟨h.t,ZaZ h.s,h.q,h.ko,h.ki⟩
 ·exact ⟨h.t,h.s,Zb4 h.q,h.ko,h.ki⟩
 ·exact ⟨h.t,h.s,Zb6 h.q,h.ko,h.ki⟩
 ·exact ⟨h.t,Zb1 h.s,h.q,h.ko,h.ki⟩
 ·exact h
theorem Zdf {x:Zw} {D:Ze} (h:ZA D):ZA (acD ZP hhD x D):=by
 unfold acD
 repeat' split
 ·exact ⟨ZbJ h.t,h.s,h.q⟩
 ·exact ⟨Zdd h.t,h.s,h.q⟩
 ·exact ⟨h.t,Zb0 h.s,h.q⟩
 ·exact ⟨h.t,h.s,Zb5 h.q⟩
 ·exact ⟨h.t,h.s,Zb7 h.q⟩
 ·exact ⟨h.t,Zb2 h.s,h.q⟩
 ·exact h
theorem Zhd {x:Zw} {D:Ze} (h:TR X.T D.T):TR (acX ZB ZP hhD x X).T (acD ZP hhD x D).T:=by
 unfold acX acD
 by_cases h0:x.what=0
 ·rw [if_pos h0,if_pos h0];exact h.tie _
 rw [if_neg h0,if_neg h0]
 by_cases h1:x.what=1
 ·rw [if_pos h1,if_pos h1]
  show TR (unP X.T _ _) (unD D.T _ _)
  rw [Zes h.dOuts]
  exact h.untie _ _
 rw [if_neg h1,if_neg h1]
 repeat' split
 all_goals exact h
structure ZbK (D:Ze) (n1 n2 n3 n4 n5 n6:Nat):Prop where
 h:n1=D.T.length/\n2=D.T.length/\n3=D.S.length/\n4=D.S.length/\n5=D.Q.length/\n6=D.Q.length
def ZfQ (l:List (Nat×Blk)) (t o i s a wa wb wc:Nat):List (Nat×Blk):=YF (YF (YF (YF (YF (YF (YF (YF l t) o) i) s) a) wa) wb) wc
def ZdS (X D:Ze) (t o i s a wa wb wc:Nat) (r:List (Nat×Blk)):List (Nat×Blk):=(t,.flat [.map (some o),.map (some i),.map (some s),.map (some a)])::(o,.fmap X.T.length (tkO X.T) (tiV X.T))::(i,.fmap X.T.length (tkI X.T) (tiV X.T))::(s,.fmap X.S.length (skV ZB X.S) (seV X.S))::(a,.fmap X.Q.length (qkV X.Q) (quV X.Q))::(wa,.rows 66 D.T.length (tiR D.T))::(wb,.rows 32 D.S.length (seR D.S))::(wc,.rows 98 D.Q.length (quR D.Q))::r
def Zdg (h:Z7) (args:List AV) (K0:Ze->Ze->Zw->Nat->Nat->Nat->Nat->Nat->Nat->Nat->Nat->Prop):Prop:=match args with
 | .ptr (some ⟨t,0,0,0,0⟩)::.agg [.nslice ⟨wa,0,66,0,0⟩ 66 _ _,.nslice ⟨wb,0,32,0,0⟩ 32 _ _,.nslice ⟨wc,0,98,0,0⟩ 98 _ _]::_=>match h.get t with
  |some (.flat [.map (some o),.map (some i),.map (some s),.map (some a)])=>frA [t,o,i,s,a,wa,wb,wc] h 60 args fun Bs az=>match Bs,az with
   | [.flat cs,.fmap n1 k1 v1,.fmap n2 k2 v2,.fmap n3 k3 v3,.fmap n4 k4 v4,.rows 66 n5 f5,.rows 32 n6 f6,.rows 98 n7 f7],[.ptr (some ⟨0,0,0,0,0⟩),.agg [.nslice ⟨5,0,66,0,0⟩ 66 m1 m2,.nslice ⟨6,0,32,0,0⟩ 32 m3 m4,.nslice ⟨7,0,98,0,0⟩ 98 m5 m6],.agg xs]=>∃X D x,Ym ZB X cs n1 k1 v1 n2 k2 v2 n3 k3 v3 n4 k4 v4/\XY D n5 f5 n6 f6 n7 f7/\ZbK D m1 m2 m3 m4 m5 m6/\Xx xs x/\K0 X D x t o i s a wa wb wc
   | _,_=>False
  | _=>False
 | _=>False
def ZeO:Y2:=fun args h K=>Zdg h args fun X D x t o i s a wa wb wc=>K (.ret (.tuple [.agg [.nslice ⟨h.next,0,66,0,0⟩ 66 (acD ZP hhD x D).T.length (acD ZP hhD x D).T.length,.nslice ⟨h.next+1,0,32,0,0⟩ 32 (acD ZP hhD x D).S.length (acD ZP hhD x D).S.length,.nslice ⟨h.next+2,0,98,0,0⟩ 98 (acD ZP hhD x D).Q.length (acD ZP hhD x D).Q.length],.top])) ⟨h.next+3,ZdS (acX ZB ZP hhD x X) (acD ZP hhD x D) t o i s a h.next (h.next+1) (h.next+2) (ZfQ h.bs t o i s a wa wb wc)⟩
def ZeP:Y2:=fun args h K=>Zdg h args fun X D x t o i s a wa wb wc=>K (.ret akR) ⟨h.next,ZdS (acX ZB ZP hhD x X) D t o i s a wa wb wc (ZfQ h.bs t o i s a wa wb wc)⟩
theorem Zdh (args:List AV) (h:Z7) (K:KO) (hl:ZeO args h K):Zi PP 8 args h K:=by
 unfold ZeO Zdg at hl
 split at hl
 ·split at hl
  ·refine Spec.fsumm hl fun Bs az hlen hK0=> ?_
   split at hK0
   ·obtain ⟨X,D,x,⟨rfl,⟨rfl,rfl,rfl⟩,⟨rfl,rfl,rfl⟩,⟨rfl,rfl,rfl⟩,⟨rfl,rfl,rfl⟩,hX⟩,⟨⟨rfl,rfl⟩,⟨rfl,rfl⟩,⟨rfl,rfl⟩,hD⟩,⟨rfl,rfl,rfl,rfl,rfl,rfl⟩,⟨rfl⟩,hK⟩:=hK0
    have q:=Z4U ZB (acX ZB ZP hhD x X)
    exact ⟨_,_,_,_,_,Zd6 X D x hX hD,by simp,.ret _ _ rfl,.cons _ _ _ _ _ _ rfl (.flat _ _ rfl) (.cons _ _ _ _ _ _ rfl (.fmap _ _ _ (fun i _=>(q i).1)) (.cons _ _ _ _ _ _ rfl (.fmap _ _ _ (fun i _=>⟨(q i).2.1,(q i).1.2⟩)) (.cons _ _ _ _ _ _ rfl (.fmap _ _ _ (fun i _=>(q i).2.2.1)) (.cons _ _ _ _ _ _ rfl (.fmap _ _ _ (fun i _=>(q i).2.2.2)) (.cons _ _ _ _ _ _ rfl (.rows _ _ _ (fun i _=>ZJ.p _)) (.cons _ _ _ _ _ _ rfl (.rows _ _ _ (fun i _=>ZW.p _)) (.cons _ _ _ _ _ _ rfl (.rows _ _ _ (fun i _=>ZX.p _)) .nil))))))),hK⟩
   ·exact hK0.elim
  ·exact hl.elim
 ·exact hl.elim
theorem Zdi (args:List AV) (h:Z7) (K:KO) (hl:ZeP args h K):Zi PP 8 args h K:=by
 unfold ZeP Zdg at hl
 split at hl
 ·split at hl
  ·refine Spec.fsumm hl fun Bs az hlen hK0=> ?_
   split at hK0
   ·obtain ⟨X,D,x,⟨rfl,⟨rfl,rfl,rfl⟩,⟨rfl,rfl,rfl⟩,⟨rfl,rfl,rfl⟩,⟨rfl,rfl,rfl⟩,hX⟩,⟨⟨rfl,rfl⟩,⟨rfl,rfl⟩,⟨rfl,rfl⟩,hD⟩,⟨rfl,rfl,rfl,rfl,rfl,rfl⟩,⟨rfl⟩,hK⟩:=hK0
    have q:=Z4U ZB (acX ZB ZP hhD x X)
    exact ⟨_,_,_,_,_,Zdc X D x hX hD,by simp,.ret _ _ rfl,.cons _ _ _ _ _ _ rfl (.flat _ _ rfl) (.cons _ _ _ _ _ _ rfl (.fmap _ _ _ (fun i _=>(q i).1)) (.cons _ _ _ _ _ _ rfl (.fmap _ _ _ (fun i _=>⟨(q i).2.1,(q i).1.2⟩)) (.cons _ _ _ _ _ _ rfl (.fmap _ _ _ (fun i _=>(q i).2.2.1)) (.cons _ _ _ _ _ _ rfl (.fmap _ _ _ (fun i _=>(q i).2.2.2)) (.cons _ _ _ _ _ _ rfl (.rows _ _ _ (fun i _=>ZJ.p _)) (.cons _ _ _ _ _ _ rfl (.rows _ _ _ (fun i _=>ZW.p _)) (.cons _ _ _ _ _ _ rfl (.rows _ _ _ (fun i _=>ZX.p _)) .nil))))))),hK⟩
   ·exact hK0.elim
  ·exact hl.elim
 ·exact hl.elim
theorem ZfR (u:Unit) :
  evF G0 20 82 [.nilslice] ⟨0,[]⟩ (VF (fun v=>v=.nilslice)):=by
 refine @Eq.mpr _ (AV.nilslice=AV.nilslice) (by kernel_rfl) ?_
 rfl
def Z7y:Y2:=fun args h K=>match args with
 | [.nilslice]=>K (.ret .nilslice) h
 | args=>Z8a args h K
theorem Z9z (args:List AV) (h:Z7) (K:KO) (hl:Z7y args h K):Zi PP 82 args h K:=by
 unfold Z7y at hl
 split at hl
 ·have:=Vz (h:=h) (K:=fun v=>K (.ret v) h) ZD rfl (ZfR ()) fun u hu=>hu▸hl
  intro E w rs he hr
  refine (this E w rs he hr).mono ?_
  rintro e w' ⟨E',o,h',⟨v,rfl,rfl,hK⟩,hev,hor⟩
  exact ⟨E',_,_,hK,hev,hor⟩
 ·exact Z7h args h K hl
noncomputable def ZfS:Zh:=G0.withF 82 Z7y
theorem Zdj:ZfS.Ok:=Zh.withF_ok ZD Z9z
theorem ZfT (u:Unit) :
  evF ZfS 40 6 [] ⟨0,[]⟩ (VF (fun v=>v=.bool true)):=by
 refine @Eq.mpr _ (let e:=[(0:Int),0,0,0,0,0,0,0,0,0,0,0,0,0,0,0,0,0,0,0,0,0,0,0,0,0,0,0,0,0,0];let d:=(2:Int)::e;let a:=d=d;let c:=(1:Int)::e;let b:=c=c;
 a/\b/\a/\b/\a/\a/\b/\a/\a/\b/\a/\b/\a/\a/\a/\AV.bool true=AV.bool true) (by kernel_rfl) ?_
 conv=>zeta
 repeat' apply Jv
 all_goals first|rfl|trivial
def ZbL:YJ:=fun args _ K=>match args with
 | []=>K (.bool true)
 | _=>False
theorem ZbM (args:List AV) (h:Z7) (K:AV->Prop) (hl:ZbL args h K):Zi PP 6 args h fun o h'=>∃v,o=.ret v/\h'=h/\K v:=by
 unfold ZbL at hl
 split at hl
 ·exact Vz Zdj rfl (ZfT ()) fun u hu=>hu▸hl
 ·exact hl.elim
def Z0S:Zw:=⟨0,Zq,h0,ZK,false,⟨false,0,0,h0,0,0,0,h0⟩,⟨h0,h0,0,0⟩,0⟩
def laR (A:List Zw):Nat->List AV:=WP Z0S Zw.c A
def Z3a (A:List Zw):Nat->Ze
 | 0=>⟨[],[],[]⟩
 | i+1=>acX ZB ZP hhD (A.getD i Z0S) (Z3a A i)
def Z3b (A:List Zw):Nat->Ze
 | 0=>⟨[],[],[]⟩
 | i+1=>acD ZP hhD (A.getD i Z0S) (Z3b A i)
theorem Z2Z (A:List Zw):∀i,(Z3a A i).Lim
 | 0=>.nil
 | i+1=>Zde (Z2Z A i)
theorem Z30 (A:List Zw):∀i,ZA (Z3b A i)
 | 0=>⟨JK _,JK _,JK _⟩
 | i+1=>Zdf (Z30 A i)
theorem ZbN (A:List Zw):∀i,TR (Z3a A i).T (Z3b A i).T
 | 0=>.nil
 | i+1=>Zhd (ZbN A i)
def lvM (X D:Ze) (A:List Zw) (n:Nat) (m:Int) (x:Zw):List (Nat×Blk):=[(12,.rows 98 D.Q.length (quR D.Q)),(11,.rows 32 D.S.length (seR D.S)),(10,.rows 66 D.T.length (tiR D.T)),(9,.flat [.nslice ⟨10,0,66,0,0⟩ 66 D.T.length D.T.length,.nslice ⟨11,0,32,0,0⟩ 32 D.S.length D.S.length,.nslice ⟨12,0,98,0,0⟩ 98 D.Q.length D.Q.length]),(8,.flat [.map (some 4),.map (some 5),.map (some 6),.map (some 7)]),(7,.fmap X.Q.length (qkV X.Q) (quV X.Q)),(6,.fmap X.S.length (skV ZB X.S) (seV X.S)),(5,.fmap X.T.length (tkI X.T) (tiV X.T)),(4,.fmap X.T.length (tkO X.T) (tiV X.T)),(3,.flat [.bool false]),(2,.flat x.c),(1,.flat [.int .i64 m])]
def lvT:ZN:=[(8,pt 9),(7,pt 8),(6,pt 3),(5,pt 2),(4,pt 1)]
def lvS (X D:Ze) (A:List Zw) (n:Nat) (m:Int) (x:Zw) (i:Nat):St:=⟨97,(9,.int .i64 i)::(0,.vrows 303 n (laR A) n)::lvT,⟨13,lvM X D A n m x⟩,[]⟩
def lvE (X D:Ze) (A:List Zw) (n:Nat) (m:Int) (x:Zw):St:=⟨97,lvT,⟨13,lvM X D A n m x⟩,[]⟩
theorem ZfU (X D:Ze) (k:Nat) (τ:Ren):(Zc k τ X.T.length (tkO X.T) (tiV X.T) (tkO X.T) (tiV X.T)/\Zc k τ X.T.length (tkI X.T) (tiV X.T) (tkI X.T) (tiV X.T)/\Zc k τ X.S.length (skV ZB X.S) (seV X.S) (skV ZB X.S) (seV X.S)/\Zc k τ X.Q.length (qkV X.Q) (quV X.Q) (qkV X.Q) (quV X.Q))/\Z6 k τ D.T.length (tiR D.T) (tiR D.T)/\Z6 k τ D.S.length (seR D.S) (seR D.S)/\Z6 k τ D.Q.length (quR D.Q) (quR D.Q):=⟨Z1a ZB X k τ,WB D k τ⟩
noncomputable def ZbO:Zh:=G0.withF 8 ZeO
theorem Zdk:ZbO.Ok:=Zh.withF_ok ZD Zdh
theorem Zhe (X D X' D' XE DE:Ze) (A:List Zw) (n:Nat) (m:Int) (x:Zw) (i:Nat) (go:Prop) (ex:Prop) (hn:n<=30) (hi:i<=n) (hX:X.Lim) (hD:ZA D) (eX:X'=acX ZB ZP hhD (A.getD i Z0S) X) (eD:D'=acD ZP hhD (A.getD i Z0S) D) (hg:i<n->go) (hx:i=n->(XE=X/\DE=D)/\ex):
  ZL ZbO 40 4 0 0 (lvS X D A n m x i) (rdM 0 0 9 (lvS X' D' A n m x (i+1)) (lvE XE DE A n m x) dtN dtN go ex False False):=by
 refine @Eq.mpr _ (let C:=X.T;let j:=C.length;let s:=true=true/\true=true;let M:=X.S;let L:=M.length;let K:=X.Q;let J:=K.length;let g:=D.T.length;let f:=D.S.length;let h:=D.Q.length;let h7:=tkO C;let z:=tiV C;let h6:=tkI C;let h5:=skV ZB M;let h4:=seV M;let h3:=qkV K;let h2:=quV K;let h1:=tiR D.T;let h0:=seR D.S;let g9:=quR D.Q;let c:=List.getD A (Int.toNat (↑i:Int)) Z0S;let y:=c.tie;let u:=c.i;let b:=c.p;let t:=c.q;let f7:=decide (n=n);let V:=D'.Q.length;let f6:=[(1,1),(2,2),(3,3),(8,8),(9,9)];let e:=(7,7)::(6,6)::(5,5)::(4,4)::(12,15)::(11,14)::(10,13)::f6;let U:=D'.S.length;let R:=D'.T.length;let P:=X'.Q;let f5:=P.length;let O:=X'.S;let f4:=O.length;let r:=X'.T;let N:=r.length;let f3:=tiV r;let f2:=decide (x.what=x.what);let o:=x.tie;let f1:=o.inn.v;let f0:=f1=f1;let e9:=o.inID;let e8:=decide (e9=e9);let e7:=o.out.v;let e6:=e7=e7;let e5:=o.outID;let e4:=decide (e5=e5);let e3:=x.secret.v;let e2:=e3=e3;let l:=x.i;let e1:=l.hash.v;let e0:=e1=e1;let d9:=l.key.v;let d8:=d9=d9;let d7:=l.amount;let d6:=decide (d7=d7);let d5:=l.least;let d4:=decide (d5=d5);let d3:=decide (x.own=x.own);let a:=x.p;let d2:=a.own;let d1:=decide (d2=d2);let d0:=a.id;let c9:=decide (d0=d0);let c8:=a.amount;let c7:=decide (c8=c8);let c6:=a.hash.v;let c5:=c6=c6;let c4:=a.expiry;let c3:=decide (c4=c4);let c2:=a.stage;let c1:=decide (c2=c2);let c0:=a.fin;let b9:=decide (c0=c0);let b8:=a.secret.v;let b7:=b8=b8;let k:=x.q;let b6:=k.key.v;let b5:=b6=b6;let b4:=k.next.v;let b3:=b4=b4;let b2:=k.amount;let b1:=decide (b2=b2);let b0:=k.expiry;let a9:=decide (b0=b0);let a8:=decide (x.ht=x.ht);let a7:=decide (m=m);let I:=DE.Q.length;let a6:=decide (h=I);let d:=(7,7)::(6,6)::(5,5)::(4,4)::(12,12)::(11,11)::(10,10)::f6;let H:=DE.S.length;let a5:=decide (f=H);let G:=DE.T.length;let a4:=decide (g=G);let F:=XE.Q;let a3:=F.length;let E:=XE.S;let a2:=E.length;let B:=XE.T;let a1:=B.length;let h9:=decide (j=a1);let h8:=tiV B;
 Z8 (decide ((↑i:Int)<(↑n:Int))) (Z5 (0<=(↑i:Int)/\(↑i:Int)<(↑n:Int)) ((∀(i:Nat),i<j->s)/\
 (∀(i:Nat),i<j->s)/\
 (∀(i:Nat),i<L->s)/\
 (∀(i:Nat),i<J->s)/\
 (∀(i:Nat),i<g->true=true)/\
 (∀(i:Nat),i<f->true=true)/\
 (∀(i:Nat),i<h->true=true)/\
 ∃(X:Ze),
 ∃(D:Ze),
 ∃(x:Zw),
 let a0:=acD ZP hhD x D;let g8:=a0.Q;let g7:=g8.length;let g6:=decide (g7=V);let g5:=a0.S;let g4:=g5.length;let g3:=decide (g4=U);let g2:=a0.T;let g1:=g2.length;let g0:=decide (g1=R);let Z:=acX ZB ZP hhD x X;let Y:=Z.Q;let W:=Z.S;let w:=Z.T;let f9:=decide (w.length=N);let f8:=tiV w;
 Ym ZB X [AV.map (some 1),AV.map (some 2),AV.map (some 3),AV.map (some 4)] j h7 z j h6 z L h5 h4 J h3 h2/\
 XY D g h1 f h0 h g9/\
 ZbK D g g f f h h/\
 Xx [AV.int i64 c.what,AV.arr u8 32 y.inn.v,AV.int i64 y.inID,AV.arr u8 32 y.out.v,AV.int i64 y.outID,AV.arr u8 32 c.secret.v,AV.arr u8 32 u.hash.v,AV.arr u8 32 u.key.v,AV.int i64 u.amount,AV.int i64 u.least,AV.bool c.own,AV.bool b.own,AV.int i64 b.id,AV.int i64 b.amount,AV.arr u8 32 b.hash.v,AV.int i64 b.expiry,AV.int i64 b.stage,AV.int i64 b.fin,AV.arr u8 32 b.secret.v,AV.arr u8 32 t.key.v,AV.arr u8 32 t.next.v,AV.int i64 t.amount,AV.int i64 t.expiry,AV.int i64 c.ht] x/\
 Z5 (wrap i64 ((↑i:Int)+1)=(↑(i+1):Int)) (Z0 f7 (laR A=laR A/\
 Z0 f7 (Z0 g6 (Z6 0 e V (quR D'.Q) (quR g8)/\
 Z0 g3 (Z6 0 e U (seR D'.S) (seR g5)/\Z0 g0 (Z6 0 e R (tiR D'.T) (tiR g2)/\Z0 g0 (Z5 (R<=g1) (Z0 g3 (Z5 (U<=g4) (Z0 g6 (Z5 (V<=g7) (Z5 (Y.length=f5) (Zc 0 e f5 (qkV P) (quV P) (qkV Y) (quV Y)/\Z5 (W.length=f4) (Zc 0 e f4 (skV ZB O) (seV O) (skV ZB W) (seV W)/\Z0 f9 (Zc 0 e N (tkI r) f3 (tkI w) f8/\Z0 f9 (Zc 0 e N (tkO r) f3 (tkO w) f8/\Z0 f2 (f0/\Z0 e8 (e6/\Z0 e4 (e2/\e0/\d8/\Z0 d6 (Z0 d4 (Z0 d3 (Z0 d1 (Z0 c9 (Z0 c7 (c5/\Z0 c3 (Z0 c1 (Z0 b9 (b7/\b5/\b3/\Z0 b1 (Z0 a9 (Z0 a8 (Z0 a7 go))))))))))))))))))))))))))))))))) (Z0 a6 (Z6 0 d I (quR DE.Q) g9/\Z0 a5 (Z6 0 d H (seR DE.S) h0/\Z0 a4 (Z6 0 d G (tiR DE.T) h1/\Z0 a4 (Z5 (G<=g) (Z0 a5 (Z5 (H<=f) (Z0 a6 (Z5 (I<=h) (Z5 (J=a3) (Zc 0 d a3 (qkV F) (quV F) h3 h2/\Z5 (L=a2) (Zc 0 d a2 (skV ZB E) (seV E) h5 h4/\Z0 h9 (Zc 0 d a1 (tkI B) h8 h6 z/\Z0 h9 (Zc 0 d a1 (tkO B) h8 h7 z/\Z0 f2 (f0/\Z0 e8 (e6/\Z0 e4 (e2/\e0/\d8/\Z0 d6 (Z0 d4 (Z0 d3 (Z0 d1 (Z0 c9 (Z0 c7 (c5/\Z0 c3 (Z0 c1 (Z0 b9 (b7/\b5/\b3/\Z0 b1 (Z0 a9 (Z0 a8 (Z0 a7 ex)))))))))))))))))))))))))))))) (by kernel_rfl) ?_
 conv=>zeta
 try simp only [vcA]
 try simp only [vcB]
 try simp only [vcC]
 have tr:∀{n:Nat} (i:Nat),i<n->True:=fun _ _=>trivial
 refine ⟨fun hlt=> ?_,fun hge=> ?_⟩
 ·have hlt':i<n:=by omega
  have hw:i64.wrap ((i:Int)+1)=((i+1:Nat):Int):=by rw [w64 (by omega)];omega
  refine ⟨⟨by omega,hlt⟩,tr,tr,tr,tr,tr,tr,tr,X,D,A.getD i Z0S,Wd ZB hX,WQ hD,⟨⟨rfl,rfl,rfl,rfl,rfl,rfl⟩⟩,⟨rfl⟩,hw, ?_⟩
  rw [<-eX,<-eD]
  obtain ⟨⟨m1,m2,m3,m4⟩,d1,d2,d3⟩:=ZfU X' D' 0 _
  exact ⟨rfl,d3,rfl,d2,rfl,d1,rfl,J2 _,rfl,J2 _,rfl,J2 _,rfl,m4,rfl,m3,rfl,m2,rfl,m1,hg hlt'⟩
 ·obtain ⟨⟨m1,m2,m3,m4⟩,d1,d2,d3⟩:=ZfU X D 0 _
  obtain ⟨⟨rfl,rfl⟩,hz⟩:=hx (by omega)
  exact ⟨rfl,d3,rfl,d2,rfl,d1,rfl,J2 _,rfl,J2 _,rfl,J2 _,rfl,m4,rfl,m3,rfl,m2,rfl,m1,hz⟩
noncomputable def lvL (X D:Ze) (A:List Zw) (n:Nat) (m:Int) (x:Zw):Nat->St->KE->Prop:=goM 0 (lvS ⟨[],[],[]⟩ ⟨[],[],[]⟩ A n m x 0) (n<=30/\X=Z3a A n/\D=Z3b A n) (YC 0 n 9 (fun i=>i<n) (fun i=>i=n) (fun _=>False) (fun _=>False) (fun _=>lvE X D A n m x) (fun _=>dtN) (fun _=>dtN))
theorem ZeQ (X D:Ze) (A:List Zw) (n:Nat) (m:Int) (x:Zw):(ZbO.withL 4 0 (lvL X D A n m x)).Ok:=by
 unfold lvL
 refine Zh.withGoM (N:=40) (S:=fun i=>lvS (Z3a A i) (Z3b A i) A n m x i) Zdk (by kernel_rfl) fun hC=>⟨rfl,fun i hi _=> ?_⟩
 obtain ⟨hn,rfl,rfl⟩:=hC
 exact Zhe (Z3a A i) (Z3b A i) _ _ _ _ A n m x i _ _ hn hi (Z2Z A i) (Z30 A i) rfl rfl (fun h=>⟨h,h⟩) fun h=>⟨⟨by rw [h],by rw [h]⟩,h⟩
noncomputable def ZbP (X D:Ze) (A:List Zw) (n:Nat) (m:Int) (x:Zw):Zh:=(((G0.withP 6 ZbL).withF 8 ZeP).withF 59 (riS X.T D.T)).withL 4 0 (lvL X D A n m x)
theorem ZbQ (X D:Ze) (A:List Zw) (n:Nat) (m:Int) (x:Zw):(ZbP X D A n m x).Ok:=
 Zh.withL_join (H:=ZbO) (Zh.withF_ok (Zh.withF_ok (Zh.withP_ok ZD ZbM) Zdi) (ZeN X.T D.T)) (by unfold ZbO;simp only [XJ,Z47]) (ZeQ X D A n m x)
noncomputable def X1:Code:=rfA PP 4 0
noncomputable def X2:Code:=rfB PP 4 0
def tiF:AV:=.func (.func 63) [] [pt 14]
def liB (L:List Zj) (m:Int):List (Nat×Blk):=[(14,.flat [.nslice ⟨13,0,66,0,0⟩ 66 L.length L.length]),(13,.rows 66 L.length (tiR L)),(10,.rows 66 L.length (tiR L)),(9,.flat [.nslice ⟨10,0,66,0,0⟩ 66 L.length L.length,.top,.top]),(3,.flat [.bool false]),(1,.flat [.int .i64 m])]
def liT:ZN:=[(11,pt 15),(10,tiF),(8,pt 9),(6,pt 3),(4,pt 1)]
def liP (b:Nat):ZN:=[(10,tiF),(11,pt 15),(12,pt b),(8,pt 9),(6,pt 3),(4,pt 1)]
noncomputable def liR (L:List Zj) (m:Int) (b c:Nat) (tu:Int) (i:Nat) (ex:List (Nat×Blk)):St:=⟨16,[(7,.int .i64 i),(6,.int .i64 L.length),(5,.nslice ⟨13,0,66,0,0⟩ 66 L.length L.length),(0,.yield (c+1))],⟨c+2,(c+1,.loop ⟨.ready,none,4,97,liP b,[48],X1,X2,c⟩)::(c,.defd)::(b,.flat [.int .i64 i])::(15,.flat [.int .i64 tu])::(ex++liB L m)⟩,[]⟩
noncomputable def liX (L:List Zj) (m:Int) (b c:Nat) (ls:LoopState) (pe:Option Code) (tu n:Int) (ex:List (Nat×Blk)):St:=⟨16,[(0,.yield (c+1))],⟨c+2,(c+1,.loop ⟨ls,pe,4,97,liP b,[48],X1,X2,c⟩)::(c,.defd)::(b,.flat [.int .i64 n])::(15,.flat [.int .i64 tu])::(ex++liB L m)⟩,[]⟩
def liN:St:=⟨16,[],⟨0,[]⟩,[]⟩
theorem ZfV (L:List Zj) (m:Int) (ls:LoopState) (pe:Option Code) (ne:Int) (i:Nat) (Z1 Z2:Prop) (hL:L.length<=48) (hi:i<=L.length) (hx:i=L.length->(ls=.ready/\pe=none/\ne=i)/\Z2) (hbk:i<L.length->(i:Int)+1>=m->(ls=.done/\pe=some (.exit 4)/\ne=(i:Int)+1)/\Z2) (hgo:i<L.length->(i:Int)+1<m->Z1):
  ZL G0 20 63 0 19 (liR L m 16 17 0 i []) (rdM 19 0 9 (liR L m 16 17 0 (i+1) []) (liX L m 16 17 ls pe 0 ne []) liN liN Z1 Z2 False False):=by
 refine @Eq.mpr _ (let b:=L.length;let d:=(↑b:Int);let o:=decide (0<=(↑i:Int)/\(↑i:Int)<d);let k:=0+Int.toNat (↑i:Int);let f:=(4:FuncId)=4/\(97:Nat)=97/\[(48:Nat)]=[(48:Nat)]/\X1=X1/\X2=X2;let a:=decide (b=b);let c:=decide (b<=b);let e:=Z6 19 [] b (tiR L) (tiR L);let n:=decide (m=m);let u:=Z0 a (Z0 c (Z0 a (e/\Z0 a (e/\Z0 a (Z0 c (Z0 n Z2))))));let t:=Z5 ((↑i:Int)=ne) u;let s:=(LoopState.done=ls/\some Code.ret=pe/\f)/\t;let j:=List.getD L k Zq;let h:=j.inn.v;let g:=j.out.v;let r:=j.inID;let q:=j.outID;let l:=wrap i64 ((↑i:Int)+1);let p:=decide (l=(↑(i+1):Int));
 Z8 (decide ((↑i:Int)<d)) (Z0 o (Z5 (k<b) (Z8 (decide ((↑i:Int)>=d)) s (Z0 o (Z5 (k<b) (Z5 (h.length=32/\h.length=32) (Z5 (g.length=32/\g.length=32) (Z8 (!(h==h&&(r==r&&(g==g&&q==q)))) s (Z8 (decide (l>=m)) ((LoopState.done=ls/\some (Code.exit 4)=pe/\f)/\Z5 (l=ne) u) (Z0 p (Z5 (d=d) (Z0 a (Z0 c ((LoopState.ready=LoopState.ready/\(none:Option Code)=none/\f)/\Z0 p (Z0 a (Z0 c (Z0 a (e/\Z0 a (e/\Z0 a (Z0 c (Z0 n Z1))))))))))))))))))))) ((LoopState.ready=ls/\none=pe/\f)/\t)) (by kernel_rfl) ?_
 conv=>zeta
 try simp only [vcA]
 try simp only [vcB]
 try simp only [vcC]
 have hq:∀a τ,Z6 a τ L.length (tiR L) (tiR L):=fun a τ=>Zg ZJ fun _ _=>rfl
 have hwi:i64.wrap ((i:Int)+1)=((i+1:Nat):Int):=by rw [w64 (by omega)];omega
 have hl:∀x:H32,x.v.length=32:=fun x=>x.l
 simp only [hwi,hl,hq,beq_self_eq_true,Bool.and_self,Bool.not_true,Bool.false_eq_true,false_implies,true_and,and_true,forall_const,true_implies,reduceCtorEq]
 refine ⟨fun hlt=> ?_,fun hge=> ?_⟩
 ·have hlt':i<L.length:=by omega
  refine ⟨⟨by omega,hlt⟩,hlt',fun h=>absurd h (by omega),fun _=>⟨⟨by omega,hlt⟩,hlt',fun hm=> ?_,fun hm=>hgo hlt' (by omega)⟩⟩
  obtain ⟨⟨x1,x2,x3⟩,hz⟩:=hbk hlt' (by omega)
  exact ⟨⟨x1.symm,x2.symm⟩,by omega,hz⟩
 ·obtain ⟨⟨x1,x2,x3⟩,hz⟩:=hx (by omega)
  exact ⟨⟨x1.symm,x2.symm⟩,x3.symm,hz⟩
theorem Zhf (L:List Zj) (m:Int) (ls:LoopState) (pe:Option Code) (ne:Int) (i:Nat) (Z1 Z2:Prop) (hL:L.length<=48) (hi:i<=L.length) (hx:i=L.length->(ls=.ready/\pe=none/\ne=i)/\Z2) (hgo:i<L.length->Z1):
  ZL G0 20 63 0 20 (liR L m 17 18 1 i [(16,.defd)]) (rdM 20 0 9 (liR L m 17 18 1 (i+1) [(16,.defd)]) (liX L m 17 18 ls pe 1 ne [(16,.defd)]) liN liN Z1 Z2 False False):=by
 refine @Eq.mpr _ (let b:=L.length;let d:=(↑b:Int);let n:=decide (0<=(↑i:Int)/\(↑i:Int)<d);let k:=0+Int.toNat (↑i:Int);let j:=(4:FuncId)=4/\(97:Nat)=97/\[(48:Nat)]=[(48:Nat)]/\X1=X1/\X2=X2;let a:=decide (b=b);let c:=decide (b<=b);let e:=Z6 20 [] b (tiR L) (tiR L);let l:=decide (m=m);let s:=Z5 ((↑i:Int)=ne) (Z0 a (Z0 c (Z0 a (e/\Z0 a (e/\Z0 a (Z0 c (Z0 l Z2)))))));let r:=(LoopState.done=ls/\some Code.ret=pe/\j)/\s;let h:=List.getD L k Zq;let g:=h.inn.v;let f:=h.out.v;let q:=h.inID;let p:=h.outID;let o:=decide (wrap i64 ((↑i:Int)+1)=(↑(i+1):Int));
 Z8 (decide ((↑i:Int)<d)) (Z0 n (Z5 (k<b) (Z8 (decide ((↑i:Int)>=d)) r (Z0 n (Z5 (k<b) (Z5 (g.length=32/\g.length=32) (Z5 (f.length=32/\f.length=32) (Z8 (!(g==g&&(q==q&&(f==f&&p==p)))) r (Z0 o (Z5 (d=d) (Z0 a (Z0 c ((LoopState.ready=LoopState.ready/\(none:Option Code)=none/\j)/\Z0 o (Z0 a (Z0 c (Z0 a (e/\Z0 a (e/\Z0 a (Z0 c (Z0 l Z1)))))))))))))))))))) ((LoopState.ready=ls/\none=pe/\j)/\s)) (by kernel_rfl) ?_
 conv=>zeta
 try simp only [vcA]
 try simp only [vcB]
 try simp only [vcC]
 have hq:∀a τ,Z6 a τ L.length (tiR L) (tiR L):=fun a τ=>Zg ZJ fun _ _=>rfl
 have hwi:i64.wrap ((i:Int)+1)=((i+1:Nat):Int):=by rw [w64 (by omega)];omega
 have hl:∀x:H32,x.v.length=32:=fun x=>x.l
 simp only [hwi,hl,hq,beq_self_eq_true,Bool.and_self,Bool.not_true,Bool.false_eq_true,false_implies,true_and,and_true,forall_const,true_implies,reduceCtorEq]
 refine ⟨fun hlt=> ?_,fun hge=> ?_⟩
 ·have hlt':i<L.length:=by omega
  exact ⟨⟨by omega,hlt⟩,hlt',fun h=>absurd h (by omega),fun _=>⟨⟨by omega,hlt⟩,hlt',hgo hlt'⟩⟩
 ·obtain ⟨⟨x1,x2,x3⟩,hz⟩:=hx (by omega)
  exact ⟨⟨x1.symm,x2.symm⟩,x3.symm,hz⟩
noncomputable def Z6b (L:List Zj) (m:Int) (ls:LoopState) (pe:Option Code) (ne:Int) (J:Nat):Nat->St->KE->Prop:=goM 19 (liR L m 16 17 0 0 []) (L.length<=48) (YC 0 J 9 (fun i=>i<J) (fun i=>i=J) (fun _=>False) (fun _=>False) (fun _=>liX L m 16 17 ls pe 0 ne []) (fun _=>liN) (fun _=>liN))
noncomputable def ZbR (L:List Zj) (m:Int) (ne:Int):Nat->St->KE->Prop:=goM 20 (liR L m 17 18 1 0 [(16,.defd)]) (L.length<=48) (YC 0 L.length 9 (fun i=>i<L.length) (fun i=>i=L.length) (fun _=>False) (fun _=>False) (fun _=>liX L m 17 18 .ready none 1 ne [(16,.defd)]) (fun _=>liN) (fun _=>liN))
theorem ZeR (L:List Zj) (m:Int) (hA:∀i:Nat,i<L.length->(i:Int)+1<m):(G0.withL 63 0 (Z6b L m .ready none L.length L.length)).Ok:=by
 unfold Z6b
 refine Zh.withGoM (N:=20) (S:=fun i=>liR L m 16 17 0 i []) ZD (by kernel_rfl) fun hC=>⟨rfl,fun i hi hgo=> ?_⟩
 exact ZfV L m .ready none _ i _ _ hC hi (fun h=>⟨⟨rfl,rfl,by rw [h]⟩,h⟩) (fun h hm=>absurd (hA i h) (by omega)) (fun h _=>⟨h,h⟩)
theorem ZeS (L:List Zj) (m:Int) (J:Nat) (hJ:J<L.length) (hm:(J:Int)+1>=m) (hA:∀i:Nat,i<J->(i:Int)+1<m):(G0.withL 63 0 (Z6b L m .done (some (.exit 4)) ((J:Int)+1) J)).Ok:=by
 unfold Z6b
 refine Zh.withGoM (N:=20) (S:=fun i=>liR L m 16 17 0 i []) ZD (by kernel_rfl) fun hC=>⟨rfl,fun i hi hgo=> ?_⟩
 refine ZfV L m .done (some (.exit 4)) _ i _ _ hC (by omega) (fun h=>absurd h (by omega)) (fun h hm'=> ?_) (fun h h'=> ?_)
 ·have:i=J:=Classical.byContradiction fun hne=>absurd (hA i (by omega)) (by omega)
  subst this
  exact ⟨⟨rfl,rfl,rfl⟩,rfl⟩
 ·have hne:i≠J:=fun e=>by subst e;omega
  exact ⟨by omega,by omega⟩
theorem ZbS (L:List Zj) (m:Int):(G0.withL 63 0 (ZbR L m L.length)).Ok:=by
 unfold ZbR
 refine Zh.withGoM (N:=20) (S:=fun i=>liR L m 17 18 1 i [(16,.defd)]) ZD (by kernel_rfl) fun hC=>⟨rfl,fun i hi hgo=> ?_⟩
 exact Zhf L m .ready none _ i _ _ hC hi (fun h=>⟨⟨rfl,rfl,by rw [h]⟩,h⟩) (fun h=>⟨h,h⟩)
def ZfW (s:St):Bool:=match s.h.get 15 with
 | some (.flat [.int _ n])=>decide (n=0)
 | _=>false
noncomputable def Z6c (L0 L1:Nat->St->KE->Prop):Zh:=G0.withL 63 0 (orL ZfW L0 L1)
def Z1c (L:List Zj) (m:Int) (i:Nat):St:=match i with
 | 0=>⟨97,liT,⟨16,(15,.flat [.int .i64 0])::liB L m⟩,[]⟩
 | 1=>⟨97,liT,⟨17,(16,.defd)::(15,.flat [.int .i64 1])::liB L m⟩,[.mark 16]⟩
 | _=>⟨97,liT,⟨18,(17,.defd)::(16,.defd)::(15,.flat [.int .i64 2])::liB L m⟩,[.mark 17,.mark 16]⟩
def Z9A:St:=⟨97,[(6,pt 3)],⟨18,[(17,.defd),(16,.defd),(3,.flat [.bool false])]⟩,[.mark 17,.mark 16]⟩
def mnT (L:List Zj) (m:Int):Int:=if (if m>1 then m else 1)<(L.length:Int) then (if m>1 then m else 1) else L.length
def Z1d:St:=⟨97,[],⟨0,[]⟩,[]⟩
theorem Zhg (L:List Zj) (m:Int) (L1:Nat->St->KE->Prop) (ne:Int) (J:Nat) (Z1 Z2 Z3 Z4:Prop) (hL:L.length<=48) (hne:ne=mnT L m) (h1:Z1):
  ZL (Z6c (Z6b L m .ready none ne J) L1) 40 4 2 0 (Z1c L m 0) (rdM 0 2 9 (Z1c L m 1) Z9A Z1d Z1d Z1 Z2 Z3 Z4):=by
 refine @Eq.mpr _ (let b:=L.length;let e:=↑b;let a:=decide (b=b);let c:=decide (b<=b);let d:=tiR L;let k:=Z6 19 [] b d d;let h:=decide (m=m);let g:=if m>1 then m else 1;let f:=Z6 0 [(10,10),(13,13),(16,17),(1,1),(3,3),(9,9),(14,14),(15,19)] b d d;
 Z5 (e=e) (Z0 a (Z0 c ((LoopState.ready=LoopState.ready/\(none:Option Code)=none/\(4:FuncId)=4/\(97:Nat)=97/\[(48:Nat)]=[(48:Nat)]/\X1=X1/\X2=X2)/\Z0 a (Z0 c (Z0 a (k/\Z0 a (k/\Z0 a (Z0 c (Z0 h (b<=48/\∀(i:Nat),i<=J->(∀(j:Nat),j<i->(fun (i:Nat)=>i<J) j)->(i=J->Z8 (ne !=if g<e then g else e) False (Z0 a (Z0 c (Z0 a (f/\Z0 a (f/\Z0 a (Z0 c (Z0 h Z1))))))))/\(False->False)/\(False->False)))))))))))) (by kernel_rfl) ?_
 conv=>zeta
 try simp only [vcA]
 try simp only [vcB]
 try simp only [vcC]
 have hq:∀a τ,Z6 a τ L.length (tiR L) (tiR L):=fun a τ=>Zg ZJ fun _ _=>rfl
 refine ⟨hq _ _,hq _ _,hL,fun i hi _=>⟨fun he=>⟨?_,hq _ _,hq _ _,h1⟩,fun h=>h,fun h=>h⟩⟩
 rw [hne]
 exact bne_self_eq_false _
theorem ZfX (L:List Zj) (m:Int) (L1:Nat->St->KE->Prop) (ne:Int) (J:Nat) (Z1 Z2 Z3 Z4:Prop) (hL:L.length<=48) (hne:ne=mnT L m) (h1:Z1):
  ZL (Z6c (Z6b L m .done (some (.exit 4)) ne J) L1) 40 4 2 0 (Z1c L m 0) (rdM 0 2 9 (Z1c L m 1) Z9A Z1d Z1d Z1 Z2 Z3 Z4):=by
 refine @Eq.mpr _ (let b:=L.length;let e:=↑b;let a:=decide (b=b);let c:=decide (b<=b);let d:=tiR L;let k:=Z6 19 [] b d d;let h:=decide (m=m);let g:=if m>1 then m else 1;let f:=Z6 0 [(10,10),(13,13),(16,17),(1,1),(3,3),(9,9),(14,14),(15,19)] b d d;
 Z5 (e=e) (Z0 a (Z0 c ((LoopState.ready=LoopState.ready/\(none:Option Code)=none/\(4:FuncId)=4/\(97:Nat)=97/\[(48:Nat)]=[(48:Nat)]/\X1=X1/\X2=X2)/\Z0 a (Z0 c (Z0 a (k/\Z0 a (k/\Z0 a (Z0 c (Z0 h (b<=48/\∀(i:Nat),i<=J->(∀(j:Nat),j<i->(fun (i:Nat)=>i<J) j)->(i=J->Z8 (ne !=if g<e then g else e) False (Z0 a (Z0 c (Z0 a (f/\Z0 a (f/\Z0 a (Z0 c (Z0 h Z1))))))))/\(False->False)/\(False->False)))))))))))) (by kernel_rfl) ?_
 conv=>zeta
 try simp only [vcA]
 try simp only [vcB]
 try simp only [vcC]
 have hq:∀a τ,Z6 a τ L.length (tiR L) (tiR L):=fun a τ=>Zg ZJ fun _ _=>rfl
 refine ⟨hq _ _,hq _ _,hL,fun i hi _=>⟨fun he=>⟨?_,hq _ _,hq _ _,h1⟩,fun h=>h,fun h=>h⟩⟩
 rw [hne]
 exact bne_self_eq_false _
theorem ZfY (L:List Zj) (m:Int) (L0:Nat->St->KE->Prop) (ne:Int) (Z1 Z2 Z3 Z4:Prop) (hL:L.length<=48) (hne:ne=L.length) (h1:Z1):
  ZL (Z6c L0 (ZbR L m ne)) 40 4 2 0 (Z1c L m 1) (rdM 0 2 9 (Z1c L m 2) Z9A Z1d Z1d Z1 Z2 Z3 Z4):=by
 refine @Eq.mpr _ (let a:=L.length;let e:=↑a;let b:=decide (a=a);let c:=decide (a<=a);let d:=tiR L;let h:=Z6 20 [] a d d;let g:=decide (m=m);let f:=Z6 0 [(10,10),(13,13),(16,16),(17,18),(1,1),(3,3),(9,9),(14,14),(15,20)] a d d;
 Z5 (e=e) (Z0 b (Z0 c ((LoopState.ready=LoopState.ready/\(none:Option Code)=none/\(4:FuncId)=4/\(97:Nat)=97/\[(48:Nat)]=[(48:Nat)]/\X1=X1/\X2=X2)/\Z0 b (Z0 c (Z0 b (h/\Z0 b (h/\Z0 b (Z0 c (Z0 g (a<=48/\∀(i:Nat),i<=a->(∀(j:Nat),j<i->(fun (i:Nat)=>i<a) j)->(i=a->Z8 (ne !=e) False (Z0 b (Z0 c (Z0 b (f/\Z0 b (f/\Z0 b (Z0 c (Z0 g Z1))))))))/\(False->False)/\(False->False)))))))))))) (by kernel_rfl) ?_
 conv=>zeta
 try simp only [vcA]
 try simp only [vcB]
 try simp only [vcC]
 have hq:∀a τ,Z6 a τ L.length (tiR L) (tiR L):=fun a τ=>Zg ZJ fun _ _=>rfl
 refine ⟨hq _ _,hq _ _,hL,fun i hi _=>⟨fun he=>⟨?_,hq _ _,hq _ _,h1⟩,fun h=>h,fun h=>h⟩⟩
 rw [hne]
 exact bne_self_eq_false _
theorem ZfZ (L:List Zj) (m:Int) (L0 L1:Nat->St->KE->Prop) (Z1 Z2 Z3 Z4:Prop) (h2:Z2):
  ZL (Z6c L0 L1) 40 4 2 0 (Z1c L m 2) (rdM 0 2 9 (Z1c L m 3) Z9A Z1d Z1d Z1 Z2 Z3 Z4):=by
 refine @Eq.mpr _ (Z2) (by kernel_rfl) ?_
 try simp only [vcA]
 try simp only [vcB]
 try simp only [vcC]
 trivial
theorem ltG (L:List Zj) (m:Int):∃L0 L1,(Z6c L0 L1).Ok/\(L.length<=48->∀(i:Nat),i<=2->ZL (Z6c L0 L1) 40 4 2 0 (Z1c L m i) (rdM 0 2 9 (Z1c L m (i+1)) Z9A Z1d Z1d (i<2/\i<2) (i=2) False False)):=by
 by_cases hA:∀i:Nat,i<L.length->(i:Int)+1<m
 ·refine ⟨Z6b L m .ready none L.length L.length,ZbR L m L.length,Zh.withL_or ZD (ZeR L m hA) (ZbS L m),fun hL i hi=> ?_⟩
  match i,hi with
  | 0,_=>exact Zhg L m _ _ _ _ _ _ _ hL (by
    unfold mnT
    by_cases hk:L.length=0
    ·rw [hk];split<;>split<;>omega
    ·have:=hA (L.length-1) (by omega)
     split<;>split<;>omega) ⟨by omega,by omega⟩
  | 1,_=>exact ZfY L m _ _ _ _ _ _ hL rfl ⟨by omega,by omega⟩
  | 2,_=>exact ZfZ L m _ _ _ _ _ _ rfl
 ·have:∃J:Nat,J<L.length/\(J:Int)+1>=m/\∀i:Nat,i<J->(i:Int)+1<m:=by
   have h1:∃n:Nat,n<L.length/\¬((n:Int)+1<m):=Classical.byContradiction fun hne=>hA fun i hi=>Classical.byContradiction fun hc=>hne ⟨i,hi,hc⟩
   obtain ⟨n,hn,hc⟩:=h1
   by_cases hl:m<=1
   ·exact ⟨0,by omega,by omega,fun i hi=>by omega⟩
   ·exact ⟨(m-1).toNat,by omega,by omega,fun i hi=>by omega⟩
  obtain ⟨J,hJ,hm,hB⟩:=this
  refine ⟨Z6b L m .done (some (.exit 4)) ((J:Int)+1) J,ZbR L m L.length,Zh.withL_or ZD (ZeS L m J hJ hm hB) (ZbS L m),fun hL i hi=> ?_⟩
  match i,hi with
  | 0,_=>exact ZfX L m _ _ _ _ _ _ _ hL (by
    unfold mnT
    by_cases hj:J=0
    ·subst hj;split<;>split<;>omega
    ·have:=hB (J-1) (by omega)
     split<;>split<;>omega) ⟨by omega,by omega⟩
  | 1,_=>exact ZfY L m _ _ _ _ _ _ hL rfl ⟨by omega,by omega⟩
  | 2,_=>exact ZfZ L m _ _ _ _ _ _ rfl
noncomputable def Zg0 (X D:Ze) (A:List Zw) (n:Nat) (m:Int) (x:Zw):Zh:=(ZbP X D A n m x).withL 4 2 (goM 0 (Z1c D.T m 0) (D.T.length<=48) (YC 2 2 9 (fun i=>i<2) (fun i=>i=2) (fun _=>False) (fun _=>False) (fun _=>Z9A) (fun _=>Z1d) (fun _=>Z1d)))
theorem Zdl (X D:Ze) (A:List Zw) (n:Nat) (m:Int) (x:Zw):(Zg0 X D A n m x).Ok:=by
 obtain ⟨L0,L1,hE,hR⟩:=ltG D.T m
 exact Zh.withL_join (H:=Z6c L0 L1) (ZbQ X D A n m x) (by unfold ZbP Z6c;simp only [Z45,XJ,Z47]) (Zh.withGoM (N:=40) (k:=0) (n:=2) (l:=9) (S:=fun i=>Z1c D.T m i) hE (by kernel_rfl) fun hC=>⟨rfl,fun i hi _=>hR hC i hi⟩)
theorem Zhh (X D:Ze) (A:List Zw) (n:Nat) (m:Int) (x:Zw) (eX:X=Z3a A n) (eD:D=Z3b A n):
  evF (Zg0 X D A n m x) 40 4 [.vrows 303 n (laR A) n,.int .i64 m,.agg x.c] ⟨0,[]⟩ (VF (fun v=>v=.bool true)):=by
 refine @Eq.mpr _ (let q1:=AV.bool true=AV.bool true;let q2:=decide (n=n);let o:=[(7,6),(6,5),(5,4),(4,3),(1,0),(2,1),(3,2),(8,7),(9,8)];let E:=Ze.mk [] [] [];let q5:=E.Q;let q6:=E.S;let u:=E.T;let q8:=tiV u;let t:=x.what;let s:=x.tie;let a5:=s.inn.v;let a4:=s.inID;let a3:=s.out.v;let a2:=s.outID;let a1:=x.secret.v;let r:=x.i;let a0:=r.hash.v;let Z:=r.key.v;let Y:=r.amount;let W:=r.least;let V:=x.own;let b:=x.p;let U:=b.own;let R:=b.id;let P:=b.amount;let O:=b.hash.v;let N:=b.expiry;let M:=b.stage;let L:=b.fin;let K:=b.secret.v;let l:=x.q;let J:=l.key.v;let I:=l.next.v;let H:=l.amount;let G:=l.expiry;let F:=x.ht;let b1:=decide (m=m);let e:=X.T;let c:=e.length;let d:=true=true/\true=true;let C:=tkO e;let k:=tiV e;let B:=D.T;let z:=X.S;let b0:=z.length;let y:=X.Q;let a9:=y.length;let a:=B.length;let h:=D.S.length;let g:=D.Q.length;let f:=tiR B;let w:=decide (a=a);let a8:=decide (a<=a);let a7:=[(10,10),(13,13),(1,1),(3,3),(9,9),(14,14),(15,15)];let a6:=(False->False)/\(False->False);
 Z8 (decide ((↑n:Int)>30)) q1 (Z0 q2 (laR A=laR A/\
 Z0 q2 ((Zc 0 o 0 (qkV q5) (quV q5) (fun (i:Nat)=>AV.top) fun (i:Nat)=>AV.top)/\
 (Zc 0 o 0 (skV ZB q6) (seV q6) (fun (i:Nat)=>AV.top) fun (i:Nat)=>AV.top)/\
 (Zc 0 o 0 (tkI u) q8 (fun (i:Nat)=>AV.top) fun (i:Nat)=>AV.top)/\
 (Zc 0 o 0 (tkO u) q8 (fun (i:Nat)=>AV.top) fun (i:Nat)=>AV.top)/\
 Z5 (t=t) (a5=a5/\
 Z5 (a4=a4) (a3=a3/\
 Z5 (a2=a2) (a1=a1/\
 a0=a0/\
 Z=Z/\
 Z5 (Y=Y) (Z5 (W=W) (Z5 (V=V) (Z5 (U=U) (Z5 (R=R) (Z5 (P=P) (O=O/\
 Z5 (N=N) (Z5 (M=M) (Z5 (L=L) (K=K/\
 J=J/\
 I=I/\
 Z5 (H=H) (Z5 (G=G) (Z5 (F=F) (Z0 b1 ((n<=30/\X=Z3a A n/\D=Z3b A n)/\
 ∀(i:Nat),
 i<=n->
 (∀(j:Nat),j<i->(fun (i:Nat)=>i<n) j)->
 (i=n->
 (∀(i:Nat),i<c->d)/\
 (c=c/\C=C/\k=k)/\
 TR e B/\
 (∀(i:Nat),i<c->d)/\
 (∀(i:Nat),i<c->d)/\
 (∀(i:Nat),i<b0->d)/\
 (∀(i:Nat),i<a9->d)/\
 (∀(i:Nat),i<a->true=true)/\
 (∀(i:Nat),i<h->true=true)/\
 (∀(i:Nat),i<g->true=true)/\
 ∃(X:Ze),
 ∃(D_1:Ze),
 ∃(x:Zw),
 Ym ZB X [AV.map (some 1),AV.map (some 2),AV.map (some 3),AV.map (some 4)] c C k c (tkI e) k b0 (skV ZB z) (seV z) a9 (qkV y) (quV y)/\
 XY D_1 a f h (seR D.S) g (quR D.Q)/\ZbK D_1 a a h h g g/\Xx [AV.int i64 t,AV.arr u8 32 a5,AV.int i64 a4,AV.arr u8 32 a3,AV.int i64 a2,AV.arr u8 32 a1,AV.arr u8 32 a0,AV.arr u8 32 Z,AV.int i64 Y,AV.int i64 W,AV.bool V,AV.bool U,AV.int i64 R,AV.int i64 P,AV.arr u8 32 O,AV.int i64 N,AV.int i64 M,AV.int i64 L,AV.arr u8 32 K,AV.arr u8 32 J,AV.arr u8 32 I,AV.int i64 H,AV.int i64 G,AV.int i64 F] x/\Z0 w (Z0 a8 (Z0 w (Z6 0 a7 a f f/\Z5 (D_1.T.length=a) (Z6 0 a7 a f (tiR D_1.T)/\Z0 w (Z0 a8 (Z0 b1 (a<=48/\∀(i:Nat),i<=2->(∀(j:Nat),j<i->(fun (i:Nat)=>i<2) j)->(i=2->q1)/\a6))))))))/\
 a6)))))))))))))))))))) (by kernel_rfl) ?_
 conv=>zeta
 try simp only [vcA]
 try simp only [vcB]
 try simp only [vcC]
 have tr:∀{n:Nat} (i:Nat),i<n->True:=fun _ _=>trivial
 have m0:∀{τ:Ren} {kf vf kf' vf':Nat->AV},Zc 0 τ 0 kf vf kf' vf':=⟨fun i hi=>absurd hi (K9 i)⟩
 have hX:X.Lim:=by rw [eX];exact Z2Z A n
 have hD:ZA D:=by rw [eD];exact Z30 A n
 have hT:TR X.T D.T:=by rw [eX,eD];exact ZbN A n
 refine ⟨fun _=>trivial,fun hn=>⟨m0,m0,m0,m0,⟨by omega,eX,eD⟩,fun i hi _=>⟨fun _=> ?_,fun h=>h,fun h=>h⟩⟩⟩
 exact ⟨tr,hT,tr,tr,tr,tr,tr,tr,tr,X,D,x,Wd ZB hX,WQ hD,⟨⟨rfl,rfl,rfl,rfl,rfl,rfl⟩⟩,⟨rfl⟩,(WB D 0 _).1,rfl,(WB D 0 _).1,hD.t,fun i hi _=>⟨fun _=>trivial,fun h=>h,fun h=>h⟩⟩
end Go.Tk
end
section
namespace Go.Tk
open IntKind (i64 u8 u32 u64 wrap)
def lactTy:List Ty:=[.int .i64,.arr .u8 32,.int .i64,.arr .u8 32,.int .i64,.arr .u8 32,.arr .u8 32,.arr .u8 32,.int .i64,.int .i64,.bool,.bool,.int .i64,.int .i64,.arr .u8 32,.int .i64,.int .i64,.int .i64,.arr .u8 32,.arr .u8 32,.arr .u8 32,.int .i64,.int .i64,.int .i64]
instance:Inhabited Zw:=⟨Z0S⟩
theorem b32 {xs:LI} (h:xs.length=32) (hw:∀i,i<32->(Lit.int .u8 (xs.getD i 0)).wf=true):∀x∈xs,0<=x/\x<=255:=fun x hx=>by
 obtain ⟨i,hi,rfl⟩:=Jk hx
 have:=hw i (by omega)
 rw [J5,J8 hi] at this
 simp [Lit.wf] at this
 have m1:u8.min=0:=rfl
 have m2:u8.max=255:=rfl
 omega
def h32 (xs:LI) (h:xs.length=32) (hw:∀i,i<32->(Lit.int .u8 (xs.getD i 0)).wf=true):H32:=⟨xs,h,b32 h hw⟩
theorem Z48 {l:List AV} (h:Fits lactTy l):∃x:Zw,l=x.c:=by
 unfold lactTy at h
 cases h with|cons _ a1 _ u h1 h=>
 cases h with|cons _ a2 _ u h2 h=>
 cases h with|cons _ a3 _ u h3 h=>
 cases h with|cons _ a4 _ u h4 h=>
 cases h with|cons _ a5 _ u h5 h=>
 cases h with|cons _ a6 _ u h6 h=>
 cases h with|cons _ a7 _ u h7 h=>
 cases h with|cons _ a8 _ u h8 h=>
 cases h with|cons _ a9 _ u h9 h=>
 cases h with|cons _ a10 _ u h10 h=>
 cases h with|cons _ a11 _ u h11 h=>
 cases h with|cons _ a12 _ u h12 h=>
 cases h with|cons _ a13 _ u h13 h=>
 cases h with|cons _ a14 _ u h14 h=>
 cases h with|cons _ a15 _ u h15 h=>
 cases h with|cons _ a16 _ u h16 h=>
 cases h with|cons _ a17 _ u h17 h=>
 cases h with|cons _ a18 _ u h18 h=>
 cases h with|cons _ a19 _ u h19 h=>
 cases h with|cons _ a20 _ u h20 h=>
 cases h with|cons _ a21 _ u h21 h=>
 cases h with|cons _ a22 _ u h22 h=>
 cases h with|cons _ a23 _ u h23 h=>
 cases h with|cons _ a24 _ u h24 h=>
 cases h;cases h1;cases h2;cases h3;cases h4;cases h5;cases h6;cases h7;cases h8;cases h9;cases h10;cases h11;cases h12;cases h13;cases h14;cases h15;cases h16;cases h17;cases h18;cases h19;cases h20;cases h21;cases h22;cases h23;cases h24
 rename_i x1 _ x2 l2 w2 x3 _ x4 l4 w4 x5 _ x6 l6 w6 x7 l7 w7 x8 l8 w8 x9 _ x10 _ x11 x12 x13 _ x14 _ x15 l15 w15 x16 _ x17 _ x18 _ x19 l19 w19 x20 l20 w20 x21 l21 w21 x22 _ x23 _ x24 _
 exact ⟨⟨x1,⟨h32 x2 l2 w2,x3,h32 x4 l4 w4,x5⟩,h32 x6 l6 w6,⟨h32 x7 l7 w7,h32 x8 l8 w8,x9,x10,h0⟩,x11,⟨x12,x13,x14,h32 x15 l15 w15,x16,x17,x18,h32 x19 l19 w19⟩,⟨h32 x20 l20 w20,h32 x21 l21 w21,x22,x23⟩,x24⟩,rfl⟩
theorem Z7z {a:AV} (h:Z2v false [.rows 303 lactTy] a):∃(n:Nat) (A:List Zw),∀(E:Env) (r:Value),Zb E a r->Zb E (.vrows 303 n (laR A) n) r:=by
 cases h with|one _ _ h=>
 cases h with|rows esz ts n f hm h=>
 obtain ⟨g,hg⟩:=pick fun i hi=>Z48 (h i hi)
 refine ⟨n,(List.range n).map g,fun E r hr=>hr.rowsC fun i hi=> ?_⟩
 unfold laR WP
 rw [hg i hi,J5,List.getElem?_map,List.getElem?_range hi]
 rfl
theorem Z9B {a:AV} (h:Z2v true lactTy a):∃x:Zw,a=.agg x.c:=by
 cases h with|agg _ u h=>
 obtain ⟨x,rfl⟩:=Z48 h
 exact ⟨x,rfl⟩
theorem Z9C {a:AV} (h:Z2v false [.int .i64] a):∃n:Int,a=.int .i64 n:=by
 cases h with|one _ _ h=>
 cases h
 exact ⟨_,rfl⟩
theorem linksleaves_walk {us:List AV} (h:Z3O [(false,[.rows 303 lactTy]),(false,[.int .i64]),(true,lactTy)] us):Zi PP 4 us ⟨0,[]⟩ fun o h'=>∃v,o=.ret v/\h'=⟨0,[]⟩/\v=.bool true:=by
 cases h with|cons _ _ a _ _ h1 h=>
 cases h with|cons _ _ b _ _ h2 h=>
 cases h with|cons _ _ c _ _ h3 h=>
 cases h
 obtain ⟨n,A,hr⟩:=Z7z h1
 obtain ⟨m,rfl⟩:=Z9C h2
 obtain ⟨x,rfl⟩:=Z9B h3
 exact (Vz (h:=⟨0,[]⟩) (Zdl (Z3a A n) (Z3b A n) A n m x) rfl (Zhh (Z3a A n) (Z3b A n) A n m x rfl rfl) (fun u hu=>hu)).conv fun E r hr0=>hr0.head (fun _ hc=>hr E _ hc) fun _ hc=>hc
end Go.Tk
namespace Go.Proofs.YthnfcmaoiebelaaGreat.linksLeaves
open Go.ChangeShapes Go.WideShapes Go.ChangeAt Go.RowKit
theorem own:ownKnob Tryz.prog.godebug=none:=by kernel_rfl
theorem laidOut:laidOutB Tryz.prog=true:=by kernel_rfl
theorem lifted (os:Os) (started:os.Started) (H:Type) (enc:TypeId×Value->H):
  ReturnsInHanded {} Tryz.checked os 4 .any (Rows.linksLeavesSpec.pre6 enc Tryz.prog Tryz.f4 Rows.linksLeavesRow.domain false) (Rows.linksLeavesSpec.post enc Tryz.prog Tryz.f4 false true false false):=
 Go.Tk.lifted_gen (C:=Tryz.checked) (m:=8) (τs:=[(false,[.rows 303 Go.Tk.lactTy]),(false,[.int .i64]),(true,Go.Tk.lactTy)]) own laidOut started (by kernel_rfl) Tryz.func4
  (ChangeSpec.witness6 (enc:=enc) (C:=Tryz.checked) false ⟨#[], #[.slice none 0 0,.int .i64 0,.agg (#[.int .i64 0]++Array.replicate 32 (.int .u8 0)++ #[.int .i64 0]++Array.replicate 32 (.int .u8 0)++ #[.int .i64 0]++Array.replicate 96 (.int .u8 0)++ #[.int .i64 0,.int .i64 0]++ #[.bool false,.bool false]++ #[.int .i64 0,.int .i64 0]++Array.replicate 32 (.int .u8 0)++ #[.int .i64 0,.int .i64 0,.int .i64 0]++Array.replicate 96 (.int .u8 0)++ #[.int .i64 0,.int .i64 0,.int .i64 0])],[]⟩ 8 (by kernel_rfl) (by kernel_rfl) (by kernel_rfl) (by kernel_rfl))
  rfl (tb:=4) rfl Tryz.underlying4 (by kernel_rfl) (by kernel_rfl) (fun ds h=>by
   match ds,h with
   | [a,b,c],_=>rfl) fun us h=>Go.Tk.linksleaves_walk h
theorem ZeT:Tryz.pinned.checked.prog.funcNamed Rows.linksLeavesRow.func=some 4:=by kernel_rfl
theorem closed:joinedFacts Tryz.pinned.checked.prog 4 Tryz.f4 Rows.linksLeavesSpec Rows.linksLeavesRow=true:=by
 unfold joinedFacts
 repeat' with_reducible refine Go.Tk.and_mk ?_ ?_
 all_goals as_aux_lemma=>kernel_rfl
theorem over:Rows.linksLeavesRow.holds Tryz.pinned (OpenSpec.ofChange Rows.linksLeavesSpec):=
 OpenClaim.holds_of_wide 4 Tryz.f4 rfl rfl rfl rfl rfl rfl rfl ⟨rfl,rfl,rfl,rfl,rfl⟩ rfl rfl rfl rfl rfl ZeT Tryz.func4 closed
  (of_decide_eq_true (by kernel_rfl)) (by unfold Func.isWrapper;first|(rw [if_pos (by decide+kernel)];kernel_rfl)|(rw [if_neg (by decide+kernel)];exact ⟨rfl,rfl⟩))
  (fun os started H enc _=>lifted os started H enc)
theorem proved:Rows.LinksLeavesSaid:=over
end Go.Proofs.YthnfcmaoiebelaaGreat.linksLeaves
end
