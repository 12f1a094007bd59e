/- C: part 5 of an engine (a symbolic evaluator, proved against the model) and of the walk by it. -/
import Derived.Test.YtdfjhgjefkkkbaaGreatC4
set_option linter.unusedVariables false
set_option linter.unusedSimpArgs false
set_option maxRecDepth 100000
set_option maxHeartbeats 0
section
namespace Go.Tk
open IntKind (i64 u8 u32 u64 wrap)
variable {bl ms xs ys:LI} {B:Nat} {H:LI->LI} {T2:LI->LI->LI}
def smH (a b:TxS):Z8:=⟨2,[(0,.flat a.c),(1,.flat b.c)]⟩
def smP (l:ZZ):ZZ:=l++[(2,.ptr (some ⟨0,0,0,0,0⟩)),(3,.ptr (some ⟨1,0,0,0,0⟩))]
def ZgR (a b:TxS) (i:Nat):St:=⟨66,smP [(5,.int .i64 i)],smH a b,[]⟩
def ZgS (a b:TxS) (i:Nat):St:=⟨66,smP [(6,.int .i64 i)],smH a b,[]⟩
def smE (a b:TxS):St:=⟨66,smP [],smH a b,[]⟩
def smR (a b:TxS):St:=⟨66,smP [(4,.bool false)],smH a b,[]⟩
theorem Zoj (a b:TxS) (i:Nat) (Z1 Z2 Z3:Prop) (ha:a.Ok) (hb:b.Ok) (hN:a.N=b.N) (hi:i<=a.N) (h1:i<a.N->Z21 (a.ins i) (b.ins i)=true->Z1) (h2:i=a.N->Z2) (h3:i<a.N->Z21 (a.ins i) (b.ins i)=false->Z3):
  ZG G0 20 59 0 0 (ZgR a b i) (rdM 0 0 9 (ZgR a b (i+1)) (smE a b) (smR a b) (smR a b) Z1 Z2 Z3 False):=by
 refine @Eq.mpr _ (let j:=a.N;let n:=b.N;let d:=a.ins (Int.toNat (↑i:Int));let v:=d.name;let c:=b.ins (Int.toNat (↑i:Int));let u:=c.name;let t:=d.tag;let s:=c.tag;let r:=d.also;let C:=c.also;let B:=d.secret;let A:=c.secret;let q:=decide (a.num=a.num);let h:=decide (j=j);let z:=Zg a.ins;let p:=z=z;let g:=decide (a.M=a.M);let y:=Zf a.outs;let o:=y=y;let m:=decide (b.num=b.num);let f:=decide (n=n);let x:=Zg b.ins;let l:=x=x;let e:=decide (b.M=b.M);let w:=Zf b.outs;let k:=w=w;
 Z5 (decide ((↑i:Int)<(↑j:Int))) (Z7 (0<=(↑i:Int)/\(↑i:Int)<(↑j:Int)) (Z7 (0<=(↑i:Int)/\(↑i:Int)<(↑n:Int)) (Z7 (v.length=32/\u.length=32) (Z7 (t.length=32/\s.length=32) (Z7 (r.length=32/\C.length=32) (Z7 (B.length=32/\A.length=32) (Z5 (!(v==u&&(d.index==c.index&&(d.way==c.way&&(t==s&&(r==C&&B==A)))))) (Z6 q (Z6 h (p/\Z6 h (Z6 g (o/\Z6 g (Z6 m (Z6 f (l/\Z6 f (Z6 e (k/\Z6 e Z3)))))))))) (Z7 (wrap i64 ((↑i:Int)+1)=(↑(i+1):Int)) (Z6 q (Z6 h (p/\Z6 h (Z6 g (o/\Z6 g (Z6 m (Z6 f (l/\Z6 f (Z6 e (k/\Z6 e Z1)))))))))))))))))) (Z6 q (Z6 h (p/\Z6 h (Z6 g (o/\Z6 g (Z6 m (Z6 f (l/\Z6 f (Z6 e (k/\Z6 e Z2))))))))))) (by kernel_rfl) ?_
 conv=>zeta
 try simp only [vcA]
 try simp only [vcB]
 try simp only [vcC]
 refine ⟨fun hlt=> ?_,fun hge=>h2 (by omega)⟩
 have hlt:i<a.N:=by omega
 have h1:=h1 hlt
 have h3:=h3 hlt
 obtain ⟨e1,e2,e3,e4⟩:=ha.ins i hlt
 obtain ⟨d1,d2,d3,d4⟩:=hb.ins i (by omega)
 have hN0:=ha.n
 refine ⟨by omega,by omega,⟨e1,d1⟩,⟨e2,d2⟩,⟨e3,d3⟩,⟨e4,d4⟩,fun q=>h3 ?_,fun q=>⟨w64 (by omega),h1 ?_⟩⟩
 ·unfold Z21
  rw [J5] at q
  simp only [Bool.and_assoc]
  exact q
 ·unfold Z21
  rw [J8] at q
  simp only [Bool.and_assoc]
  exact q
theorem Zok (a b:TxS) (i:Nat) (Z1 Z2 Z3:Prop) (ha:a.Ok) (hb:b.Ok) (hN:a.M=b.M) (hi:i<=a.M) (h1:i<a.M->Ux (a.outs i) (b.outs i)=true->Z1) (h2:i=a.M->Z2) (h3:i<a.M->Ux (a.outs i) (b.outs i)=false->Z3):
  ZG G0 20 59 2 0 (ZgS a b i) (rdM 0 2 9 (ZgS a b (i+1)) (smE a b) (smR a b) (smR a b) Z1 Z2 Z3 False):=by
 refine @Eq.mpr _ (let j:=a.M;let n:=b.M;let d:=a.outs (Int.toNat (↑i:Int));let v:=d.owner;let c:=b.outs (Int.toNat (↑i:Int));let u:=c.owner;let t:=d.other;let s:=c.other;let r:=d.point;let C:=c.point;let B:=d.hash;let A:=c.hash;let q:=decide (a.num=a.num);let h:=decide (a.N=a.N);let z:=Zg a.ins;let p:=z=z;let g:=decide (j=j);let y:=Zf a.outs;let o:=y=y;let m:=decide (b.num=b.num);let f:=decide (b.N=b.N);let x:=Zg b.ins;let l:=x=x;let e:=decide (n=n);let w:=Zf b.outs;let k:=w=w;
 Z5 (decide ((↑i:Int)<(↑j:Int))) (Z7 (0<=(↑i:Int)/\(↑i:Int)<(↑j:Int)) (Z7 (0<=(↑i:Int)/\(↑i:Int)<(↑n:Int)) (Z7 (v.length=32/\u.length=32) (Z7 (t.length=32/\s.length=32) (Z7 (r.length=32/\C.length=32) (Z7 (B.length=32/\A.length=32) (Z5 (!(d.kind==c.kind&&(d.amount==c.amount&&(v==u&&(t==s&&(r==C&&(B==A&&(d.delay==c.delay&&d.expiry==c.expiry)))))))) (Z6 q (Z6 h (p/\Z6 h (Z6 g (o/\Z6 g (Z6 m (Z6 f (l/\Z6 f (Z6 e (k/\Z6 e Z3)))))))))) (Z7 (wrap i64 ((↑i:Int)+1)=(↑(i+1):Int)) (Z6 q (Z6 h (p/\Z6 h (Z6 g (o/\Z6 g (Z6 m (Z6 f (l/\Z6 f (Z6 e (k/\Z6 e Z1)))))))))))))))))) (Z6 q (Z6 h (p/\Z6 h (Z6 g (o/\Z6 g (Z6 m (Z6 f (l/\Z6 f (Z6 e (k/\Z6 e Z2))))))))))) (by kernel_rfl) ?_
 conv=>zeta
 try simp only [vcA]
 try simp only [vcB]
 try simp only [vcC]
 refine ⟨fun hlt=> ?_,fun hge=>h2 (by omega)⟩
 have hlt:i<a.M:=by omega
 have h1:=h1 hlt
 have h3:=h3 hlt
 obtain ⟨e1,e2,e3,e4⟩:=ha.outs i hlt
 obtain ⟨d1,d2,d3,d4⟩:=hb.outs i (by omega)
 have hN0:=ha.m
 refine ⟨by omega,by omega,⟨e1,d1⟩,⟨e2,d2⟩,⟨e3,d3⟩,⟨e4,d4⟩,fun q=>h3 ?_,fun q=>⟨w64 (by omega),h1 ?_⟩⟩
 ·unfold Ux
  rw [J5] at q
  simp only [Bool.and_assoc]
  exact q
 ·unfold Ux
  rw [J8] at q
  simp only [Bool.and_assoc]
  exact q
def Zm5 (a b:TxS):Nat->St->KE->Prop:=goM 0 (ZgR a b 0) (a.Ok/\b.Ok/\a.N=b.N) (YD 0 a.N 9 (fun i=>Z21 (a.ins i) (b.ins i)=true) (fun i=>i=a.N) (fun i=>i<a.N/\Z21 (a.ins i) (b.ins i)=false) (fun _=>False) (fun _=>smE a b) (fun _=>smR a b) (fun _=>smR a b))
def Zm6 (a b:TxS):Nat->St->KE->Prop:=goM 0 (ZgS a b 0) (a.Ok/\b.Ok/\a.M=b.M) (YD 2 a.M 9 (fun i=>Ux (a.outs i) (b.outs i)=true) (fun i=>i=a.M) (fun i=>i<a.M/\Ux (a.outs i) (b.outs i)=false) (fun _=>False) (fun _=>smE a b) (fun _=>smR a b) (fun _=>smR a b))
noncomputable def E40 (a b:TxS):Zb:=(G0.withL 59 0 (Zm5 a b)).withL 59 2 (Zm6 a b)
theorem ZjC (a b:TxS):(E40 a b).Ok:=by
 have h1:(G0.withL 59 0 (Zm5 a b)).Ok:=Zb.withGoM (N:=20) (S:=ZgR a b) Zm (by kernel_rfl) fun hC=>⟨rfl,fun i hi hgo=>Zoj a b i _ _ _ hC.1 hC.2.1 hC.2.2 hi (fun h1 h2=>⟨h2,h1⟩) (fun h=>h) (fun h1 h2=>⟨h1,h2⟩)⟩
 have h2:(G0.withL 59 2 (Zm6 a b)).Ok:=Zb.withGoM (N:=20) (S:=ZgS a b) Zm (by kernel_rfl) fun hC=>⟨rfl,fun i hi hgo=>Zok a b i _ _ _ hC.1 hC.2.1 hC.2.2 hi (fun h1 h2=>⟨h2,h1⟩) (fun h=>h) (fun h1 h2=>⟨h1,h2⟩)⟩
 exact Zb.withL_join (H:=G0) h1 rfl h2
theorem Zol (a b:TxS) (F:Bool) (ha:a.Ok) (hb:b.Ok) (hF:F=Vu a b):
  evF (E40 a b) 20 59 [.agg a.c,.agg b.c] ⟨0,[]⟩ (Yz 0 [] (.bool F) 0 []):=by
 refine @Eq.mpr _ (let o:=a.num;let n:=b.num;let e:=Z7 (false=F) True;let d:=a.N;let h:=b.N;let c:=a.M;let g:=b.M;let p:=decide (o=o);let f:=decide (d=d);let y:=Zg a.ins;let x:=y=y;let m:=decide (c=c);let w:=Zf a.outs;let v:=w=w;let u:=decide (n=n);let l:=decide (h=h);let t:=Zg b.ins;let s:=t=t;let k:=decide (g=g);let r:=Zf b.outs;let q:=r=r;
 Z5 (o !=n) e (Z5 ((↑d:Int) !=(↑h:Int)) e (Z5 ((↑c:Int) !=(↑g:Int)) e (Z6 p (Z6 f (x/\Z6 f (Z6 m (v/\Z6 m (Z6 u (Z6 l (s/\Z6 l (Z6 k (q/\Z6 k ((TxS.Ok a/\TxS.Ok b/\d=h)/\∀(i:Nat),i<=d->(∀(j:Nat),j<i->(fun (i:Nat)=>Z21 (a.ins i) (b.ins i)=true) j)->(i=d->Z6 p (Z6 f (x/\Z6 f (Z6 m (v/\Z6 m (Z6 u (Z6 l (s/\Z6 l (Z6 k (q/\Z6 k ((TxS.Ok a/\TxS.Ok b/\c=g)/\∀(i:Nat),i<=c->(∀(j:Nat),j<i->(fun (i:Nat)=>Ux (a.outs i) (b.outs i)=true) j)->(i=c->Z7 (true=F) True)/\(i<c/\Ux (a.outs i) (b.outs i)=false->e)/\(False->False))))))))))))/\(i<d/\Z21 (a.ins i) (b.ins i)=false->e)/\(False->False))))))))))))))) (by kernel_rfl) ?_
 conv=>zeta
 try simp only [vcA]
 try simp only [vcB]
 try simp only [vcC]
 have hn:a.num≠b.num->false=Vu a b:=fun h=>by
  unfold Vu;rw [beq_eq_false_iff_ne.2 h];rfl
 have hi:Z8X a.N a.ins b.N b.ins=false->false=Vu a b:=fun h=>by
  unfold Vu;rw [h,Kr,K9]
 have ho:ZbC a.M a.outs b.M b.outs=false->false=Vu a b:=fun h=>by
  unfold Vu;rw [h,K9,K9]
 subst hF
 refine ⟨fun h=>hn (by simpa using h),fun h0=>⟨fun h=>hi ?_,fun h1=>⟨fun h=>ho ?_,fun h2=> ?_⟩⟩⟩
 ·have h:a.N≠b.N:=fun e=>by rw [e] at h;simp at h
  unfold Z8X;rw [decide_eq_false h,Kr]
 ·have h:a.M≠b.M:=fun e=>by rw [e] at h;simp at h
  unfold ZbC;rw [decide_eq_false h,Kr]
 have h0:a.num=b.num:=by simpa using h0
 have h1:a.N=b.N:=by
  have:(a.N:Int)=b.N:=by simpa using h1
  omega
 have h2:a.M=b.M:=by
  have:(a.M:Int)=b.M:=by simpa using h2
  omega
 refine ⟨⟨ha,hb,h1⟩,fun i hi' hgo=>⟨fun hx=>⟨⟨ha,hb,h2⟩,fun k hk hgo2=>⟨fun hx2=> ?_,fun hx2=>ho ?_,fun h=>h⟩⟩,fun hx=>hi ?_,fun h=>h⟩⟩
 ·subst hx hx2
  have e1:(List.range a.N).all (fun i=>Z21 (a.ins i) (b.ins i))=true:=by
   rw [JY];intro j hj;exact hgo j (by simpa using hj)
  have e2:(List.range a.M).all (fun i=>Ux (a.outs i) (b.outs i))=true:=by
   rw [JY];intro j hj;exact hgo2 j (by simpa using hj)
  unfold Vu Z8X ZbC
  rw [e1,e2,decide_eq_true h1,decide_eq_true h2,h0,beq_self_eq_true];rfl
 ·have e2:(List.range a.M).all (fun i=>Ux (a.outs i) (b.outs i))=false:=by
   rw [List.all_eq_false];exact ⟨k,by simpa using hx2.1,by simp [hx2.2]⟩
  unfold ZbC;rw [e2,K9]
 ·have e1:(List.range a.N).all (fun i=>Z21 (a.ins i) (b.ins i))=false:=by
   rw [List.all_eq_false];exact ⟨i,by simpa using hx.1,by simp [hx.2]⟩
  unfold Z8X;rw [e1,K9]
theorem ZdV (args:List AV) (h:Z8) (K:AV->Prop) (hl:ZdP Vu args h K):Ze PP 59 args h fun o h'=>∃v,o=.ret v/\h'=h/\K v:=by
 refine Zs.psumm (d:=20) (Zk _ _ _ _ _ hl fun a ha=> ?_)
 split at ha
 ·obtain ⟨a,b,h1,h2,⟨h3,h4⟩,hK⟩:=ha
  exact ⟨_,(Zs.ev (ZjC a b) (Zol a b _ h3 h4 rfl)).conv fun E r hr=>hr.head (fun _ hc=>h1.rel hc) (fun _ hc=>hc.head (fun _ hc=>h2.rel hc) (fun _ hc=>hc)),fun _=>rfl,hK⟩
 ·exact ha.elim
noncomputable def E44 (W:Int->LI):Zb:=G0.withF 137 (Zae W)
theorem ZdW:(E44 Zn).Ok:=Zb.withF_ok Zm Z7e
def rbS (t:TxS) (core:Bool) (i:Nat) (xs:LI) (n:Nat):St:=⟨133,[(6,.int .i64 i),(2,.ptr (some ⟨0,0,0,0,0⟩)),(5,.nslice ⟨4,0,0,0,0⟩ 1 n n),(1,.bool core)],⟨5,[(4,.ints .u8 xs),(0,.flat t.c)]⟩,[]⟩
def rbR (t:TxS) (xs:LI) (n:Nat):St:=⟨133,[(2,.ptr (some ⟨0,0,0,0,0⟩)),(5,.nslice ⟨4,0,0,0,0⟩ 1 n n)],⟨5,[(4,.ints .u8 xs),(0,.flat t.c)]⟩,[]⟩
def ZdX (t:TxS) (i:Nat) (xs:LI) (n:Nat):St:=⟨133,[(9,.int .i64 i),(2,.ptr (some ⟨0,0,0,0,0⟩)),(5,.nslice ⟨4,0,0,0,0⟩ 1 n n)],⟨5,[(4,.ints .u8 xs),(0,.flat t.c)]⟩,[]⟩
theorem Vv (xs:LI):List.take xs.length (ZX 0 xs)=xs:=by rw [Yb,JV,Jq]
theorem Zm7 (W:Int->LI) (t:TxS) (i:Nat) (xs ys:LI) (n m:Nat) (Z1 Z2:Prop) (ht:t.Ok) (hi:i<=t.N) (hr:∀j,j<t.N->Y9 (t.ins j)=true) (hW:W=Zn) (hn:xs.length=n) (hs:n<10000000000000) (hy:ys=xs++inW W true (t.ins i)) (hm:ys.length=m) (h1:i<t.N->Z1) (h2:i=t.N->Z2):
  ZG (E44 W) 20 207 0 0 (rbS t true i xs n) (rdM 0 0 9 (rbS t true (i+1) ys m) (rbR t xs n) (rbR t xs n) (rbR t xs n) Z1 Z2 False False):=by
 refine @Eq.mpr _ (let d:=t.N;let o:=t.ins (Int.toNat (↑i:Int));let l:=o.name;let k:=xs++l;let f:=k.length;let a:=o.index;let j:=W a;let e:=j.length;let h:=k++List.take e (ZX 0 j);let g:=h.length;let u:=decide (t.num=t.num);let c:=decide (d=d);let s:=Zg t.ins;let r:=s=s;let b:=decide (t.M=t.M);let q:=Zf t.outs;let p:=q=q;
 Z5 (decide ((↑i:Int)<(↑d:Int))) (Z5 (decide (0<=(↑i:Int)/\(↑i:Int)<(↑d:Int))) (Z5 (decide (u8=u8/\l.length=32)) (Z5 (decide (u8=u8/\xs.length=n)) (Z5 (decide (f*1<=140737488355328)) (Z5 (decide (a=a)) (Z5 (decide (0<=a)) (Z5 (decide (u8=u8/\0+e<=e)) (Z5 (decide (u8=u8/\f=f)) (Z5 (decide (g*1<=140737488355328)) (Z5 (decide (wrap i64 ((↑i:Int)+1)=(↑(i+1):Int))) (Z5 (decide (g=m)) (Z5 (decide (m<=g)) (h=ys/\Z5 u (Z5 c (r/\Z5 c (Z5 b (p/\Z5 b Z1 False) False) False) False) False) False) False) False) False) False) False) False) False) False) False) False) False) (Z5 (decide (n=n)) (Z5 (decide (n<=n)) (xs=xs/\Z5 u (Z5 c (r/\Z5 c (Z5 b (p/\Z5 b Z2 False) False) False) False) False) False) False)) (by kernel_rfl) ?_
 conv=>zeta
 try simp only [ZD]
 try simp only [ZU]
 try simp only [ZM]
 try simp only [ZY]
 try simp only [Y0]
 try simp only [ZN]
 try simp only [true_and,J4]
 refine ⟨fun hlt=> ?_,fun hge=>h2 (by omega)⟩
 obtain ⟨⟨w1,w2⟩,w3,w4⟩:=Vt (hr i (by omega))
 obtain ⟨l1,l2,l3,l4⟩:=ht.ins i (by omega)
 have hnn:=ht.n
 have hwr:i64.wrap ((i:Int)+1)=((i+1:Nat):Int):=w64 (by omega)
 have u1:=ZL (t.ins i).index
 subst hW
 unfold inW at hy
 simp only [Vv]
 grind
theorem Zm8 (W:Int->LI) (t:TxS) (i:Nat) (xs ys:LI) (n m:Nat) (Z1 Z2:Prop) (ht:t.Ok) (hi:i<=t.N) (hr:∀j,j<t.N->Y9 (t.ins j)=true) (hW:W=Zn) (hn:xs.length=n) (hs:n<10000000000000) (hy:ys=xs++inW W false (t.ins i)) (hm:ys.length=m) (h1:i<t.N->Z1) (h2:i=t.N->Z2):
  ZG (E44 W) 20 207 0 0 (rbS t false i xs n) (rdM 0 0 9 (rbS t false (i+1) ys m) (rbR t xs n) (rbR t xs n) (rbR t xs n) Z1 Z2 False False):=by
 refine @Eq.mpr _ (let v:=t.N;let c:=t.ins (Int.toNat (↑i:Int));let q3:=c.name;let T:=xs++q3;let y:=T.length;let l:=c.index;let J:=W l;let w:=J.length;let I:=T++List.take w (ZX 0 J);let H:=I.length;let d:=c.way;let a5:=W d;let G:=a5.length;let k:=I++List.take G (ZX 0 a5);let j:=k.length;let a4:=c.tag;let F:=decide (u8=u8/\j=j);let u:=k++a4;let h:=u.length;let a3:=d==1;let E:=c.also;let a2:=decide (u8=u8/\E.length=32);let a1:=decide (u8=u8/\h=h);let D:=u++E;let g:=D.length;let s:=d==4;let f:=c.secret;let r:=decide (u8=u8/\f.length=32);let a0:=D++f;let C:=a0.length;let b:=decide (wrap i64 ((↑i:Int)+1)=(↑(i+1):Int));let Z:=decide (t.num=t.num);let q:=decide (v=v);let Y:=Zg t.ins;let X:=Y=Y;let p:=decide (t.M=t.M);let V:=Zf t.outs;let U:=V=V;let a:=Z6 Z (Z6 q (X/\Z6 q (Z6 p (U/\Z6 p Z1))));let S:=Z6 r (Z7 (u8=u8/\g=g) (Z7 (C*1<=140737488355328) (Z6 b (Z7 (C=m) (Z7 (m<=C) (a0=ys/\a))))));let o:=d==5;let R:=u++f;let B:=R.length;let Q:=Z6 r (Z6 a1 (Z7 (B*1<=140737488355328) (Z6 b (Z7 (B=m) (Z7 (m<=B) (R=ys/\a))))));let A:=k++E;let e:=A.length;let P:=A++f;let z:=P.length;let O:=Z6 r (Z7 (u8=u8/\e=e) (Z7 (z*1<=140737488355328) (Z6 b (Z7 (z=m) (Z7 (m<=z) (P=ys/\a))))));let L:=k++f;let x:=L.length;let K:=Z6 r (Z6 F (Z7 (x*1<=140737488355328) (Z6 b (Z7 (x=m) (Z7 (m<=x) (L=ys/\a))))));
 Z5 (decide ((↑i:Int)<(↑v:Int))) (Z7 (0<=(↑i:Int)/\(↑i:Int)<(↑v:Int)) (Z7 (u8=u8/\q3.length=32) (Z7 (u8=u8/\xs.length=n) (Z7 (y*1<=140737488355328) (Z7 (l=l) (Z7 (0<=l) (Z7 (u8=u8/\0+w<=w) (Z7 (u8=u8/\y=y) (Z7 (H*1<=140737488355328) (Z7 (0<=d) (Z7 (u8=u8/\0+G<=G) (Z7 (u8=u8/\H=H) (Z7 (j*1<=140737488355328) (Z5 (d !=4) (Z7 (u8=u8/\a4.length=32) (Z6 F (Z7 (h*1<=140737488355328) (Z5 a3 (Z6 a2 (Z6 a1 (Z7 (g*1<=140737488355328) (Z5 s S (Z5 o S (Z6 b (Z7 (g=m) (Z7 (m<=g) (D=ys/\a))))))))) (Z5 s Q (Z5 o Q (Z6 b (Z7 (h=m) (Z7 (m<=h) (u=ys/\a)))))))))) (Z5 a3 (Z6 a2 (Z6 F (Z7 (e*1<=140737488355328) (Z5 s O (Z5 o O (Z6 b (Z7 (e=m) (Z7 (m<=e) (A=ys/\a))))))))) (Z5 s K (Z5 o K (Z6 b (Z7 (j=m) (Z7 (m<=j) (k=ys/\a))))))))))))))))))))) (Z7 (n=n) (Z7 (n<=n) (xs=xs/\Z6 Z (Z6 q (X/\Z6 q (Z6 p (U/\Z6 p Z2)))))))) (by kernel_rfl) ?_
 conv=>zeta
 try simp only [vcA]
 try simp only [vcB]
 try simp only [vcC]
 refine ⟨fun hlt=> ?_,fun hge=>h2 (by omega)⟩
 obtain ⟨⟨w1,w2⟩,w3,w4⟩:=Vt (hr i (by omega))
 obtain ⟨l1,l2,l3,l4⟩:=ht.ins i (by omega)
 have hw:=h1 (by omega)
 have hnn:=ht.n
 have hwr:i64.wrap ((i:Int)+1)=((i+1:Nat):Int):=w64 (by omega)
 have u1:=ZL (t.ins i).index
 have u2:=ZL (t.ins i).way
 subst hW
 rw [hwr]
 unfold inW at hy
 generalize t.ins i=x at*
 simp only [Vv]
 repeat' (first|(refine J9 ?_ ?_)|intro _)
 all_goals grind
theorem Zm9 (W:Int->LI) (t:TxS) (i:Nat) (xs ys:LI) (n m:Nat) (Z1 Z2:Prop) (ht:t.Ok) (hi:i<=t.M) (hr:∀j,j<t.M->ZE (t.outs j)=true) (hW:W=Zn) (hn:xs.length=n) (hs:n<10000000000000) (hy:ys=xs++Z3t W (t.outs i)) (hm:ys.length=m) (h1:i<t.M->Z1) (h2:i=t.M->Z2):
  ZG (E44 W) 20 207 2 0 (ZdX t i xs n) (rdM 0 2 9 (ZdX t (i+1) ys m) (rbR t xs n) (rbR t xs n) (rbR t xs n) Z1 Z2 False False):=by
 refine @Eq.mpr _ (let q1:=t.M;let D:=t.outs (Int.toNat (↑i:Int));let E:=D.kind;let q4:=W E;let q5:=q4.length;let q6:=xs++List.take q5 (ZX 0 q4);let q7:=q6.length;let q8:=D.owner;let q9:=q8=q8;let a9:=D.amount;let h8:=W a9;let e2:=h8.length;let h1:=q6++List.take e2 (ZX 0 h8);let d5:=h1.length;let G:=h1++q8;let S:=G.length;let g8:=D.other;let d4:=decide (u8=u8/\g8.length=32);let F:=decide (u8=u8/\S=S);let J:=G++g8;let R:=J.length;let d3:=decide (R*1<=140737488355328);let g:=decide (E>=3);let d2:=D.point;let a6:=decide (u8=u8/\d2.length=32);let q:=decide (u8=u8/\R=R);let Q:=J++d2;let P:=Q.length;let d1:=decide (P*1<=140737488355328);let c:=decide (E>=4);let O:=D.hash;let C:=decide (u8=u8/\O.length=32);let A:=decide (u8=u8/\P=P);let a5:=Q++O;let L:=a5.length;let d0:=decide (L*1<=140737488355328);let g7:=D.delay;let j:=decide (0<=g7);let g6:=W g7;let d:=g6.length;let I:=decide (u8=u8/\L=L);let B:=List.take d (ZX 0 g6);let c9:=a5++B;let p:=c9.length;let g5:=D.expiry;let f:=decide (0<=g5);let g4:=W g5;let a:=g4.length;let h:=List.take a (ZX 0 g4);let g3:=c9++h;let z:=g3.length;let b:=decide (wrap i64 ((↑i:Int)+1)=(↑(i+1):Int));let g2:=decide (t.num=t.num);let a4:=decide (t.N=t.N);let g1:=Zg t.ins;let g0:=g1=g1;let a3:=decide (q1=q1);let f9:=Zf t.outs;let f8:=f9=f9;let e:=Z6 g2 (Z6 a4 (g0/\Z6 a4 (Z6 a3 (f8/\Z6 a3 Z1))));let c8:=g3=ys/\e;let c7:=c9=ys/\e;let f7:=a5++h;let y:=f7.length;let c6:=f7=ys/\e;let c5:=Z6 b (Z7 (L=m) (Z7 (m<=L) (a5=ys/\e)));let c4:=Q++B;let o:=c4.length;let f6:=c4++h;let x:=f6.length;let c3:=f6=ys/\e;let c2:=c4=ys/\e;let f5:=Q++h;let w:=f5.length;let c1:=f5=ys/\e;let c0:=Z6 b (Z7 (P=m) (Z7 (m<=P) (Q=ys/\e)));let a2:=J++O;let K:=a2.length;let b9:=decide (K*1<=140737488355328);let H:=decide (u8=u8/\K=K);let b8:=a2++B;let l:=b8.length;let f4:=b8++h;let v:=f4.length;let b7:=f4=ys/\e;let b6:=b8=ys/\e;let f3:=a2++h;let u:=f3.length;let b5:=f3=ys/\e;let b4:=Z6 b (Z7 (K=m) (Z7 (m<=K) (a2=ys/\e)));let b3:=J++B;let k:=b3.length;let f2:=b3++h;let s:=f2.length;let b2:=f2=ys/\e;let b1:=b3=ys/\e;let f1:=J++h;let r:=f1.length;let b0:=f1=ys/\e;let f0:=Z6 b (Z7 (R=m) (Z7 (m<=R) (J=ys/\e)));let a1:=G++d2;let a0:=a1.length;let e9:=decide (u8=u8/\a0=a0);let a8:=a1++O;let Z:=a8.length;let i0:=decide (u8=u8/\Z=Z);let e8:=a8++B;let Y:=e8.length;let h9:=e8++h;let e7:=h9.length;let h7:=a8++h;let e6:=h7.length;let e5:=a1++B;let X:=e5.length;let h6:=e5++h;let e4:=h6.length;let h5:=a1++h;let e3:=h5.length;let a7:=G++O;let V:=a7.length;let h4:=decide (u8=u8/\V=V);let e1:=a7++B;let U:=e1.length;let h3:=e1++h;let e0:=h3.length;let h2:=a7++h;let d9:=h2.length;let d8:=G++B;let T:=d8.length;let h0:=d8++h;let d7:=h0.length;let g9:=G++h;let d6:=g9.length;
 Z5 (decide ((↑i:Int)<(↑q1:Int))) (Z7 (0<=(↑i:Int)/\(↑i:Int)<(↑q1:Int)) (Z7 (0<=E) (Z7 (u8=u8/\0+q5<=q5) (Z7 (u8=u8/\xs.length=n) (Z7 (q7*1<=140737488355328) (q9/\
 Z7 (a9=a9) (Z7 (0<=a9) (Z7 (u8=u8/\0+e2<=e2) (Z7 (u8=u8/\q7=q7) (Z7 (d5*1<=140737488355328) (q9/\
 Z7 (u8=u8/\q8.length=32) (Z7 (u8=u8/\d5=d5) (Z7 (S*1<=140737488355328) (Z5 (E==2) (Z6 d4 (Z6 F (Z6 d3 (Z5 g (Z6 a6 (Z6 q (Z6 d1 (Z5 c (Z6 C (Z6 A (Z6 d0 (Z5 g (Z6 j (Z7 (u8=u8/\0+d<=d) (Z6 I (Z7 (p*1<=140737488355328) (Z5 c (Z6 f (Z7 (u8=u8/\0+a<=a) (Z7 (u8=u8/\p=p) (Z7 (z*1<=140737488355328) (Z6 b (Z7 (z=m) (Z7 (m<=z) c8))))))) (Z6 b (Z7 (p=m) (Z7 (m<=p) c7)))))))) (Z5 c (Z6 f (Z7 (u8=u8/\0+a<=a) (Z6 I (Z7 (y*1<=140737488355328) (Z6 b (Z7 (y=m) (Z7 (m<=y) c6))))))) c5))))) (Z5 g (Z6 j (Z7 (u8=u8/\0+d<=d) (Z6 A (Z7 (o*1<=140737488355328) (Z5 c (Z6 f (Z7 (u8=u8/\0+a<=a) (Z7 (u8=u8/\o=o) (Z7 (x*1<=140737488355328) (Z6 b (Z7 (x=m) (Z7 (m<=x) c3))))))) (Z6 b (Z7 (o=m) (Z7 (m<=o) c2)))))))) (Z5 c (Z6 f (Z7 (u8=u8/\0+a<=a) (Z6 A (Z7 (w*1<=140737488355328) (Z6 b (Z7 (w=m) (Z7 (m<=w) c1))))))) c0)))))) (Z5 c (Z6 C (Z6 q (Z6 b9 (Z5 g (Z6 j (Z7 (u8=u8/\0+d<=d) (Z6 H (Z7 (l*1<=140737488355328) (Z5 c (Z6 f (Z7 (u8=u8/\0+a<=a) (Z7 (u8=u8/\l=l) (Z7 (v*1<=140737488355328) (Z6 b (Z7 (v=m) (Z7 (m<=v) b7))))))) (Z6 b (Z7 (l=m) (Z7 (m<=l) b6)))))))) (Z5 c (Z6 f (Z7 (u8=u8/\0+a<=a) (Z6 H (Z7 (u*1<=140737488355328) (Z6 b (Z7 (u=m) (Z7 (m<=u) b5))))))) b4))))) (Z5 g (Z6 j (Z7 (u8=u8/\0+d<=d) (Z6 q (Z7 (k*1<=140737488355328) (Z5 c (Z6 f (Z7 (u8=u8/\0+a<=a) (Z7 (u8=u8/\k=k) (Z7 (s*1<=140737488355328) (Z6 b (Z7 (s=m) (Z7 (m<=s) b2))))))) (Z6 b (Z7 (k=m) (Z7 (m<=k) b1)))))))) (Z5 c (Z6 f (Z7 (u8=u8/\0+a<=a) (Z6 q (Z7 (r*1<=140737488355328) (Z6 b (Z7 (r=m) (Z7 (m<=r) b0))))))) f0))))))) (Z5 (E==4) (Z6 d4 (Z6 F (Z6 d3 (Z5 g (Z6 a6 (Z6 q (Z6 d1 (Z5 c (Z6 C (Z6 A (Z6 d0 (Z5 g (Z6 j (Z7 (u8=u8/\0+d<=d) (Z6 I (Z7 (p*1<=140737488355328) (Z5 c (Z6 f (Z7 (u8=u8/\0+a<=a) (Z7 (u8=u8/\p=p) (Z7 (z*1<=140737488355328) (Z6 b (Z7 (z=m) (Z7 (m<=z) c8))))))) (Z6 b (Z7 (p=m) (Z7 (m<=p) c7)))))))) (Z5 c (Z6 f (Z7 (u8=u8/\0+a<=a) (Z6 I (Z7 (y*1<=140737488355328) (Z6 b (Z7 (y=m) (Z7 (m<=y) c6))))))) c5))))) (Z5 g (Z6 j (Z7 (u8=u8/\0+d<=d) (Z6 A (Z7 (o*1<=140737488355328) (Z5 c (Z6 f (Z7 (u8=u8/\0+a<=a) (Z7 (u8=u8/\o=o) (Z7 (x*1<=140737488355328) (Z6 b (Z7 (x=m) (Z7 (m<=x) c3))))))) (Z6 b (Z7 (o=m) (Z7 (m<=o) c2)))))))) (Z5 c (Z6 f (Z7 (u8=u8/\0+a<=a) (Z6 A (Z7 (w*1<=140737488355328) (Z6 b (Z7 (w=m) (Z7 (m<=w) c1))))))) c0)))))) (Z5 c (Z6 C (Z6 q (Z6 b9 (Z5 g (Z6 j (Z7 (u8=u8/\0+d<=d) (Z6 H (Z7 (l*1<=140737488355328) (Z5 c (Z6 f (Z7 (u8=u8/\0+a<=a) (Z7 (u8=u8/\l=l) (Z7 (v*1<=140737488355328) (Z6 b (Z7 (v=m) (Z7 (m<=v) b7))))))) (Z6 b (Z7 (l=m) (Z7 (m<=l) b6)))))))) (Z5 c (Z6 f (Z7 (u8=u8/\0+a<=a) (Z6 H (Z7 (u*1<=140737488355328) (Z6 b (Z7 (u=m) (Z7 (m<=u) b5))))))) b4))))) (Z5 g (Z6 j (Z7 (u8=u8/\0+d<=d) (Z6 q (Z7 (k*1<=140737488355328) (Z5 c (Z6 f (Z7 (u8=u8/\0+a<=a) (Z7 (u8=u8/\k=k) (Z7 (s*1<=140737488355328) (Z6 b (Z7 (s=m) (Z7 (m<=s) b2))))))) (Z6 b (Z7 (k=m) (Z7 (m<=k) b1)))))))) (Z5 c (Z6 f (Z7 (u8=u8/\0+a<=a) (Z6 q (Z7 (r*1<=140737488355328) (Z6 b (Z7 (r=m) (Z7 (m<=r) b0))))))) f0))))))) (Z5 (E==5) (Z6 d4 (Z6 F (Z6 d3 (Z5 g (Z6 a6 (Z6 q (Z6 d1 (Z5 c (Z6 C (Z6 A (Z6 d0 (Z5 g (Z6 j (Z7 (u8=u8/\0+d<=d) (Z6 I (Z7 (p*1<=140737488355328) (Z5 c (Z6 f (Z7 (u8=u8/\0+a<=a) (Z7 (u8=u8/\p=p) (Z7 (z*1<=140737488355328) (Z6 b (Z7 (z=m) (Z7 (m<=z) c8))))))) (Z6 b (Z7 (p=m) (Z7 (m<=p) c7)))))))) (Z5 c (Z6 f (Z7 (u8=u8/\0+a<=a) (Z6 I (Z7 (y*1<=140737488355328) (Z6 b (Z7 (y=m) (Z7 (m<=y) c6))))))) c5))))) (Z5 g (Z6 j (Z7 (u8=u8/\0+d<=d) (Z6 A (Z7 (o*1<=140737488355328) (Z5 c (Z6 f (Z7 (u8=u8/\0+a<=a) (Z7 (u8=u8/\o=o) (Z7 (x*1<=140737488355328) (Z6 b (Z7 (x=m) (Z7 (m<=x) c3))))))) (Z6 b (Z7 (o=m) (Z7 (m<=o) c2)))))))) (Z5 c (Z6 f (Z7 (u8=u8/\0+a<=a) (Z6 A (Z7 (w*1<=140737488355328) (Z6 b (Z7 (w=m) (Z7 (m<=w) c1))))))) c0)))))) (Z5 c (Z6 C (Z6 q (Z6 b9 (Z5 g (Z6 j (Z7 (u8=u8/\0+d<=d) (Z6 H (Z7 (l*1<=140737488355328) (Z5 c (Z6 f (Z7 (u8=u8/\0+a<=a) (Z7 (u8=u8/\l=l) (Z7 (v*1<=140737488355328) (Z6 b (Z7 (v=m) (Z7 (m<=v) b7))))))) (Z6 b (Z7 (l=m) (Z7 (m<=l) b6)))))))) (Z5 c (Z6 f (Z7 (u8=u8/\0+a<=a) (Z6 H (Z7 (u*1<=140737488355328) (Z6 b (Z7 (u=m) (Z7 (m<=u) b5))))))) b4))))) (Z5 g (Z6 j (Z7 (u8=u8/\0+d<=d) (Z6 q (Z7 (k*1<=140737488355328) (Z5 c (Z6 f (Z7 (u8=u8/\0+a<=a) (Z7 (u8=u8/\k=k) (Z7 (s*1<=140737488355328) (Z6 b (Z7 (s=m) (Z7 (m<=s) b2))))))) (Z6 b (Z7 (k=m) (Z7 (m<=k) b1)))))))) (Z5 c (Z6 f (Z7 (u8=u8/\0+a<=a) (Z6 q (Z7 (r*1<=140737488355328) (Z6 b (Z7 (r=m) (Z7 (m<=r) b0))))))) f0))))))) (Z5 g (Z6 a6 (Z6 F (Z7 (a0*1<=140737488355328) (Z5 c (Z6 C (Z6 e9 (Z7 (Z*1<=140737488355328) (Z5 g (Z6 j (Z7 (u8=u8/\0+d<=d) (Z6 i0 (Z7 (Y*1<=140737488355328) (Z5 c (Z6 f (Z7 (u8=u8/\0+a<=a) (Z7 (u8=u8/\Y=Y) (Z7 (e7*1<=140737488355328) (Z6 b (Z7 (e7=m) (Z7 (m<=e7) (h9=ys/\e)))))))) (Z6 b (Z7 (Y=m) (Z7 (m<=Y) (e8=ys/\e))))))))) (Z5 c (Z6 f (Z7 (u8=u8/\0+a<=a) (Z6 i0 (Z7 (e6*1<=140737488355328) (Z6 b (Z7 (e6=m) (Z7 (m<=e6) (h7=ys/\e)))))))) (Z6 b (Z7 (Z=m) (Z7 (m<=Z) (a8=ys/\e))))))))) (Z5 g (Z6 j (Z7 (u8=u8/\0+d<=d) (Z6 e9 (Z7 (X*1<=140737488355328) (Z5 c (Z6 f (Z7 (u8=u8/\0+a<=a) (Z7 (u8=u8/\X=X) (Z7 (e4*1<=140737488355328) (Z6 b (Z7 (e4=m) (Z7 (m<=e4) (h6=ys/\e)))))))) (Z6 b (Z7 (X=m) (Z7 (m<=X) (e5=ys/\e))))))))) (Z5 c (Z6 f (Z7 (u8=u8/\0+a<=a) (Z6 e9 (Z7 (e3*1<=140737488355328) (Z6 b (Z7 (e3=m) (Z7 (m<=e3) (h5=ys/\e)))))))) (Z6 b (Z7 (a0=m) (Z7 (m<=a0) (a1=ys/\e)))))))))) (Z5 c (Z6 C (Z6 F (Z7 (V*1<=140737488355328) (Z5 g (Z6 j (Z7 (u8=u8/\0+d<=d) (Z6 h4 (Z7 (U*1<=140737488355328) (Z5 c (Z6 f (Z7 (u8=u8/\0+a<=a) (Z7 (u8=u8/\U=U) (Z7 (e0*1<=140737488355328) (Z6 b (Z7 (e0=m) (Z7 (m<=e0) (h3=ys/\e)))))))) (Z6 b (Z7 (U=m) (Z7 (m<=U) (e1=ys/\e))))))))) (Z5 c (Z6 f (Z7 (u8=u8/\0+a<=a) (Z6 h4 (Z7 (d9*1<=140737488355328) (Z6 b (Z7 (d9=m) (Z7 (m<=d9) (h2=ys/\e)))))))) (Z6 b (Z7 (V=m) (Z7 (m<=V) (a7=ys/\e))))))))) (Z5 g (Z6 j (Z7 (u8=u8/\0+d<=d) (Z6 F (Z7 (T*1<=140737488355328) (Z5 c (Z6 f (Z7 (u8=u8/\0+a<=a) (Z7 (u8=u8/\T=T) (Z7 (d7*1<=140737488355328) (Z6 b (Z7 (d7=m) (Z7 (m<=d7) (h0=ys/\e)))))))) (Z6 b (Z7 (T=m) (Z7 (m<=T) (d8=ys/\e))))))))) (Z5 c (Z6 f (Z7 (u8=u8/\0+a<=a) (Z6 F (Z7 (d6*1<=140737488355328) (Z6 b (Z7 (d6=m) (Z7 (m<=d6) (g9=ys/\e)))))))) (Z6 b (Z7 (S=m) (Z7 (m<=S) (G=ys/\e)))))))))))))))))))))))) (Z7 (n=n) (Z7 (n<=n) (xs=xs/\Z6 g2 (Z6 a4 (g0/\Z6 a4 (Z6 a3 (f8/\Z6 a3 Z2)))))))) (by kernel_rfl) ?_
 conv=>zeta
 try simp only [vcA]
 try simp only [vcB]
 try simp only [vcC]
 refine ⟨fun hlt=> ?_,fun hge=>h2 (by omega)⟩
 obtain ⟨⟨w1,w2⟩,⟨w3,w4⟩,⟨w5,w6⟩,w7,w8⟩:=Xu (hr i (by omega))
 obtain ⟨l1,l2,l3,l4⟩:=ht.outs i (by omega)
 have hw:=h1 (by omega)
 have hnn:=ht.m
 have hwr:i64.wrap ((i:Int)+1)=((i+1:Nat):Int):=w64 (by omega)
 have u1:=ZL (t.outs i).kind
 have u2:=ZL (t.outs i).amount
 have u3:=ZL (t.outs i).delay
 have u4:=ZL (t.outs i).expiry
 subst hW
 rw [hwr]
 unfold Z3t at hy
 generalize t.outs i=x at*
 simp only [J6,Vv]
 repeat' (first|(refine J9 ?_ ?_)|intro _)
 all_goals (try simp only [beq_iff_eq,bne_iff_ne,ne_eq,beq_eq_false_iff_ne,bne_eq_false_iff_eq] at*)
 all_goals first|omega|assumption|trivial|skip
 all_goals first|(rw [hy];grind)|(rw [<-hm,hy];simp [*];try omega;done)|skip
noncomputable def ZjD (W:Int->LI) (t:TxS) (core:Bool):Zb:=
 (E44 W).withL 207 0 (goM 0 (rbS t core 0 (YQ W t core 0) (YQ W t core 0).length) t.Fine (YD 0 t.N 9 (fun i=>i<t.N) (fun i=>i=t.N) (fun _=>False) (fun _=>False) (fun i=>rbR t (YQ W t core i) (YQ W t core i).length) (fun i=>rbR t (YQ W t core i) (YQ W t core i).length) (fun i=>rbR t (YQ W t core i) (YQ W t core i).length)))
noncomputable def Zom (W:Int->LI) (t:TxS) (core:Bool):Zb:=
 (E44 W).withL 207 2 (goM 0 (ZdX t 0 (Yx W t core 0) (Yx W t core 0).length) t.Fine (YD 2 t.M 9 (fun i=>i<t.M) (fun i=>i=t.M) (fun _=>False) (fun _=>False) (fun i=>rbR t (Yx W t core i) (Yx W t core i).length) (fun i=>rbR t (Yx W t core i) (Yx W t core i).length) (fun i=>rbR t (Yx W t core i) (Yx W t core i).length)))
theorem ZgT (t:TxS) (core:Bool):(ZjD Zn t core).Ok:=by
 refine Zb.withGoM (N:=20) (S:=fun i=>rbS t core i (YQ Zn t core i) (YQ Zn t core i).length) ZdW (by kernel_rfl) fun hC=>⟨rfl,fun i hi hgo=> ?_⟩
 have h1:=Q7 hC core hi
 cases core
 ·exact Zm8 Zn t i (YQ Zn t false i) (YQ Zn t false (i+1)) _ _ _ _ hC.ok hi hC.ins rfl rfl (by omega) (Qv _ _ _ _) rfl (fun h=>⟨h,h⟩) (fun h=>h)
 ·exact Zm7 Zn t i (YQ Zn t true i) (YQ Zn t true (i+1)) _ _ _ _ hC.ok hi hC.ins rfl rfl (by omega) (Qv _ _ _ _) rfl (fun h=>⟨h,h⟩) (fun h=>h)
theorem ZgU (t:TxS) (core:Bool):(Zom Zn t core).Ok:=by
 refine Zb.withGoM (N:=20) (S:=fun i=>ZdX t i (Yx Zn t core i) (Yx Zn t core i).length) ZdW (by kernel_rfl) fun hC=>⟨rfl,fun i hi hgo=> ?_⟩
 have h1:=Wq hC core hi
 exact Zm9 Zn t i (Yx Zn t core i) (Yx Zn t core (i+1)) _ _ _ _ hC.ok hi hC.outs rfl rfl (by omega) (Z4R _ _ _ _) rfl (fun h=>⟨h,h⟩) (fun h=>h)
noncomputable def Zma (W:Int->LI) (t:TxS) (core:Bool):Zb:=
 (ZjD W t core).withL 207 2 (goM 0 (ZdX t 0 (Yx W t core 0) (Yx W t core 0).length) t.Fine (YD 2 t.M 9 (fun i=>i<t.M) (fun i=>i=t.M) (fun _=>False) (fun _=>False) (fun i=>rbR t (Yx W t core i) (Yx W t core i).length) (fun i=>rbR t (Yx W t core i) (Yx W t core i).length) (fun i=>rbR t (Yx W t core i) (Yx W t core i).length)))
theorem ZdY (W:Int->LI) (t:TxS) (core:Bool) (ys:LI) (L:Nat) (hW:W=Zn) (ht:t.Fine) (hy:ys=Wd W t core) (hL:L=ys.length):
  evF (Zma W t core) 20 207 [.agg t.c,.bool core] ⟨0,[]⟩ (ZH 0 (.ret (.nslice ⟨0,0,0,0,0⟩ 1 L L)) 1 [(0,.ints .u8 ys)]):=by
 refine @Eq.mpr _ (let d:=t.num;let m:=List.length (W d);let w:=[]++List.take m (ZX 0 (W d));let k:=w.length;let b:=t.N;let g:=↑b;let a:=decide (b=b);let p:=Zg t.ins;let f:=p=p;let H:=W g;let o:=H.length;let G:=w++List.take o (ZX 0 H);let n:=G.length;let F:=YQ W t core 0;let E:=F.length;let D:=decide (d=d);let c:=t.M;let e:=decide (c=c);let C:=Zf t.outs;let B:=C=C;let A:=W ↑c;let l:=A.length;let z:=Yx W t core 0;let y:=z.length;let x:=(False->False)/\(False->False);
 Z5 (decide (0<=d))
 (Z5 (decide (u8=u8/\0+m<=m))
 (Z5 (decide (k*1<=140737488355328))
 (Z5 (decide (g=g))
 (Z5 a
 (f/\
 Z5 a
 (Z5 (decide (u8=u8/\0+o<=o))
 (Z5 (decide (u8=u8/\k=k))
 (Z5 (decide (n*1<=140737488355328))
 (Z5 (decide (n=E))
 (Z5 (decide (E<=n))
 (Z5 (decide (core=core))
 (G=F/\
 Z5 D
 (Z5 a
 (f/\
 Z5 a
 (Z5 e
 (B/\
 Z5 e
 (TxS.Fine t/\
 ∀(i:Nat),
 let v:=YQ W t core i;let u:=v.length;let s:=v++List.take l (ZX 0 A);let h:=s.length;
 i<=b->
 (∀(j:Nat),j<i->(fun (i:Nat)=>i<b) j)->
 (i=b->
 Z5 (decide (u8=u8/\0+l<=l))
 (Z5 (decide (u8=u8/\u=u))
 (Z5 (decide (h*1<=140737488355328))
 (Z5 (decide (h=y))
 (Z5 (decide (y<=h))
 (s=z/\
 Z5 D
 (Z5 a
 (f/\
 Z5 a
 (Z5 e
 (B/\
 Z5 e
 (TxS.Fine t/\
 ∀(i:Nat),
 let r:=Yx W t core i;let q:=r.length;
 i<=c->(∀(j:Nat),j<i->(fun (i:Nat)=>i<c) j)->(i=c->Z5 (decide (q=L)) (Z5 (decide (L<=q)) (r=ys/\True) False) False)/\x)
 False)
 False)
 False)
 False)
 False)
 False)
 False)
 False)
 False)
 False)/\
 x)
 False)
 False)
 False)
 False)
 False)
 False)
 False)
 False)
 False)
 False)
 False)
 False)
 False)
 False)
 False)
 False)
 False) (by kernel_rfl) ?_
 conv=>zeta
 try simp only [ZD]
 try simp only [ZU]
 try simp only [ZM]
 try simp only [ZY]
 try simp only [Y0]
 try simp only [ZN]
 try simp only [Jx,true_and,and_true,J4]
 subst hW hy hL
 have e1:Zn t.num++Zn ↑t.N=YQ Zn t core 0:=by unfold YQ;simp [QB]
 have e2:YQ Zn t core t.N++Zn ↑t.M=Yx Zn t core 0:=by unfold Yx;simp [QB]
 have hq:=ht.num
 simp only [Vv,K5,e1]
 have b0:=Q7 ht core (JF t.N)
 have c0:=Wq ht core (JF t.M)
 have d1:=ZL t.num
 refine ⟨hq.1,by omega,by omega,trivial,J4 _,trivial,ht,fun i hi _=>⟨fun he=> ?_,fun h=>h,fun h=>h⟩⟩
 subst he
 rw [e2]
 refine ⟨by omega,rfl,J4 _,rfl,ht,fun i hi _=>⟨fun he=> ?_,fun h=>h,fun h=>h⟩⟩
 subst he
 exact ⟨rfl,J4 _,rfl⟩
theorem ZgV (t:TxS) (core:Bool):(Zma Zn t core).Ok:=by
 exact Zb.withL_join (G:=ZjD Zn t core) (H:=E44 Zn) (ZgT t core) rfl (ZgU t core)
theorem Z7f (t:TxS) (core:Bool) (ht:t.Fine):Zs PP 207 [.agg t.c,.bool core] (.nslice ⟨0,0,0,0,0⟩ 1 (Wd Zn t core).length (Wd Zn t core).length) 1 [(0,.ints .u8 (Wd Zn t core))]:=.evM (ZgV t core) (ZdY _ t core _ _ rfl ht rfl rfl)
theorem Z93 (args:List AV) (h:Z8) (K:KO) (hl:ZdN (Wd Zn) args h K):Ze PP 207 args h K:=by
 refine Zs.fsumm (d:=20) (Zk _ _ _ _ _ hl fun a ha=> ?_)
 split at ha
 ·obtain ⟨t,h1,h2,hK⟩:=ha
  exact ⟨_,_,_,_,(Z7f t _ h2).conv fun E r hr=>hr.head (fun _ hc=>h1.rel hc) (fun _ hc=>hc),rfl,⟨JH,.ints _ _,trivial⟩,hK⟩
 simp_all
theorem ZdZ {n:Nat} (h:xs.length=n) (hw:∀i,i<n->(Lit.int .u8 (xs.getD i 0)).wf=true):Bytes xs:=⟨fun i=>by
 by_cases hi:i<n
 ·have:=hw i hi
  simp [Lit.wf] at this
  have m1:u8.min=0:=rfl
  have m2:u8.max=255:=rfl
  simp
  omega
 ·rw [J3,JG (by omega)];simp⟩
structure InS.By (x:InS):Prop where
 name:Bytes x.name
 tag:Bytes x.tag
 also:Bytes x.also
 secret:Bytes x.secret
structure ZF.By (x:ZF):Prop where
 owner:Bytes x.owner
 other:Bytes x.other
 point:Bytes x.point
 hash:Bytes x.hash
structure QS (t:TxS):Prop where
 ins:∀i,i<t.N->(t.ins i).By
 outs:∀i,i<t.M->(t.outs i).By
theorem QS.b {t:TxS} (h:QS t):TxB t:=⟨fun i hi=>⟨(h.outs i hi).owner,(h.outs i hi).other⟩⟩
theorem pick {α:Type} [Inhabited α] {n:Nat} {p:Nat->α->Prop} (h:∀i,i<n->∃a,p i a):∃f:Nat->α,∀i,i<n->p i (f i):=
 ⟨fun i=>if hi:i<n then Classical.choose (h i hi) else default,fun i hi=>by
  simp only [hi,dite_true]
  exact Classical.choose_spec (h i hi)⟩
instance:Inhabited InS:=⟨inZ⟩
instance:Inhabited ZF:=⟨Zoe⟩
theorem Ze.conv {P:Program} {f:FuncId} {us bs:List AV} {h:Z8} {K:KO} (hc:Ze P f bs h K) (hr:∀E rs,ZB E us rs->ZB E bs rs):Ze P f us h K:=
 fun E w rs he hl=>hc E w rs he (hr E rs hl)
theorem Bytes.nil:Bytes []:=⟨fun i=>by simp⟩
theorem Bytes.cons {x:Int} (hx:0<=x/\x<=255) (h:Bytes xs):Bytes (x::xs):=⟨fun i=>by
 cases i with
 | zero=>simpa using hx
 | succ i=>have:=h.h i;simpa using this⟩
theorem Bytes.append (h:Bytes xs) (k:Bytes ys):Bytes (xs++ys):=⟨fun i=>by
 rw [J3,List.getElem?_append]
 split
 ·have:=h.h i;rwa [J3] at this
 ·have:=k.h (i-xs.length);rwa [J3] at this⟩
theorem Bytes.ite {p:Prop} [Decidable p] (h:Bytes xs) (k:Bytes ys):Bytes (if p then xs else ys):=by split<;>assumption
theorem Z94 (x:Int):0<=u8.wrap x/\u8.wrap x<=255:=by
 unfold wrap
 simp [IntKind.bits,IntKind.signed]
 omega
theorem X8 (n:Int):Bytes (Zn n):=by
 have hb:∀k,0<=b8 n k/\b8 n k<=255:=fun k=>Z94 _
 unfold Zn
 split
 ·exact .cons (Z94 _) .nil
 split
 ·exact .cons (by omega) (.cons (hb _) (.cons (hb _) .nil))
 split
 ·exact .cons (by omega) (.cons (hb _) (.cons (hb _) (.cons (hb _) (.cons (hb _) .nil))))
 ·exact .cons (by omega) (.cons (hb _) (.cons (hb _) (.cons (hb _) (.cons (hb _) (.cons (hb _) (.cons (hb _) (.cons (hb _) (.cons (hb _) .nil))))))))
theorem ZbH {x:InS} (h:x.By) (core:Bool):Bytes (inW Zn core x):=by
 unfold inW
 refine (h.name.append (X8 _)).append ?_
 cases core
 ·exact (X8 _).append (((Bytes.nil.ite h.tag).append (h.also.ite .nil)).append (h.secret.ite .nil))
 ·exact .nil
theorem Z95 {x:ZF} (h:x.By):Bytes (Z3t Zn x):=by
 unfold Z3t
 exact (((((((X8 _).append (X8 _)).append h.owner).append (h.other.ite .nil)).append (h.point.ite .nil)).append (h.hash.ite .nil)).append ((X8 _).ite .nil)).append ((X8 _).ite .nil)
theorem Z0n {f:Nat->LI}:∀n,(∀i,i<n->Bytes (f i))->Bytes (QB f n)
 | 0,_=>.nil
 | n+1,h=>(Z0n n fun i hi=>h i (by omega)).append (h n (by omega))
theorem Z96 {t:TxS} (h:QS t) (core:Bool):Bytes (Wd Zn t core):=by
 unfold Wd Yx YQ
 exact ((((X8 _).append (X8 _)).append (Z0n _ fun i hi=>ZbH (h.ins i hi) core)).append (X8 _)).append (Z0n _ fun i hi=>Z95 (h.outs i hi))
def Vw (a b c:Int):Nat->Int
 | 0=>0
 | i+1=>if 2<=u32.wrap (u32.wrap (Int.tmod (Zr .u32 a i) 2+Int.tmod (Zr .u32 b i) 2)+Int.tmod (Zr .u32 c i) 2) then u32.wrap (Vw a b c i+ZC .u32 1 i) else Vw a b c i
def U5 (a b c:Int):Nat->Int
 | 0=>0
 | i+1=>u32.wrap (U5 a b c i+ZC .u32 (if Int.tmod (Zr .u32 a i) 2=1 then Int.tmod (Zr .u32 b i) 2 else Int.tmod (Zr .u32 c i) 2) i)
def moS (a b c:Int) (o:Int) (i:Nat):St:=⟨33,[(8,.int .u64 i),(0,.int .u32 a),(1,.int .u32 b),(2,.int .u32 c),(7,.int .u32 o)],⟨0,[]⟩,[]⟩
def moR (o:Int):St:=⟨33,[(7,.int .u32 o)],⟨0,[]⟩,[]⟩
theorem Ziq {x:Int} (h:0<=x/\x<18446744073709551616):u64.wrap x=x:=by
 unfold wrap
 simp [IntKind.bits,IntKind.signed]
 omega
theorem ZjE (a b c o o':Int) (i:Nat) (Z1 Z2:Prop) (hi:i<=32) (ho:o'=if 2<=u32.wrap (u32.wrap (Int.tmod (Zr .u32 a i) 2+Int.tmod (Zr .u32 b i) 2)+Int.tmod (Zr .u32 c i) 2) then u32.wrap (o+ZC .u32 1 i) else o) (h1:i<32->Z1) (h2:i=32->Z2):
  ZG G0 20 291 0 0 (moS a b c o i) (rdM 0 0 9 (moS a b c o' (i+1)) (moR o) (moR o) (moR o) Z1 Z2 False False):=by
 refine @Eq.mpr _ (let g:=decide (wrap u64 ((↑i:Int)+1)=(↑(i+1):Int));let f:=decide (a=a);let e:=decide (b=b);let d:=decide (c=c);
 Z5 (decide ((↑i:Int)<32)) (Z5 (decide (wrap u32 (wrap u32 (Int.tmod (Zr u32 a (↑i:Int)) 2+Int.tmod (Zr u32 b (↑i:Int)) 2)+Int.tmod (Zr u32 c (↑i:Int)) 2)>=2)) (Z6 g (Z6 f (Z6 e (Z6 d (Z7 (wrap u32 (o+ZC u32 1 (↑i:Int))=o') Z1))))) (Z6 g (Z6 f (Z6 e (Z6 d (Z7 (o=o') Z1)))))) (Z7 (o=o) Z2)) (by kernel_rfl) ?_
 conv=>zeta
 try simp only [vcA]
 try simp only [vcB]
 try simp only [vcC]
 have hw:u64.wrap ((i:Int)+1)=((i+1:Nat):Int):=Ziq (by omega)
 refine ⟨fun hlt=>⟨fun hc=> ?_,fun hc=> ?_⟩,fun hge=>h2 (by omega)⟩
 ·rw [if_pos hc] at ho
  exact ⟨hw,ho.symm,h1 (by omega)⟩
 ·rw [if_neg hc] at ho
  exact ⟨hw,ho.symm,h1 (by omega)⟩
theorem ZjF (a b c o o':Int) (i:Nat) (Z1 Z2:Prop) (hi:i<=32) (ho:o'=u32.wrap (o+ZC .u32 (if Int.tmod (Zr .u32 a i) 2=1 then Int.tmod (Zr .u32 b i) 2 else Int.tmod (Zr .u32 c i) 2) i)) (h1:i<32->Z1) (h2:i=32->Z2):
  ZG G0 20 290 0 0 (moS a b c o i) (rdM 0 0 9 (moS a b c o' (i+1)) (moR o) (moR o) (moR o) Z1 Z2 False False):=by
 refine @Eq.mpr _ (let g:=decide (wrap u64 ((↑i:Int)+1)=(↑(i+1):Int));let f:=decide (a=a);let e:=decide (b=b);let d:=decide (c=c);
 Z5 (decide ((↑i:Int)<32)) (Z5 (Int.tmod (Zr u32 a (↑i:Int)) 2==1) (Z6 g (Z6 f (Z6 e (Z6 d (Z7 (wrap u32 (o+ZC u32 (Int.tmod (Zr u32 b (↑i:Int)) 2) (↑i:Int))=o') Z1))))) (Z6 g (Z6 f (Z6 e (Z6 d (Z7 (wrap u32 (o+ZC u32 (Int.tmod (Zr u32 c (↑i:Int)) 2) (↑i:Int))=o') Z1)))))) (Z7 (o=o) Z2)) (by kernel_rfl) ?_
 conv=>zeta
 try simp only [vcA]
 try simp only [vcB]
 try simp only [vcC]
 have hw:u64.wrap ((i:Int)+1)=((i+1:Nat):Int):=Ziq (by omega)
 refine ⟨fun hlt=>⟨fun hc=> ?_,fun hc=> ?_⟩,fun hge=>h2 (by omega)⟩
 ·rw [if_pos (by simpa using hc)] at ho
  exact ⟨hw,ho.symm,h1 (by omega)⟩
 ·rw [if_neg (by simpa using hc)] at ho
  exact ⟨hw,ho.symm,h1 (by omega)⟩
@[irreducible] def XE (a b c:Int):Int:=Vw a b c 32
@[irreducible] def Xz (a b c:Int):Int:=U5 a b c 32
noncomputable def ZjG (a b c:Int):Zb:=G0.withL 291 0 (goM 0 (moS a b c 0 0) True (YD 0 32 9 (fun i=>i<32) (fun i=>i=32) (fun _=>False) (fun _=>False) (fun i=>moR (Vw a b c i)) (fun i=>moR (Vw a b c i)) (fun i=>moR (Vw a b c i))))
theorem ZgW (a b c:Int):(ZjG a b c).Ok:=by
 unfold ZjG
 refine Zb.withGoM (N:=20) (S:=fun i=>moS a b c (Vw a b c i) i) Zm (by kernel_rfl) fun hC=>⟨rfl,fun i hi hgo=> ?_⟩
 exact ZjE a b c (Vw a b c i) (Vw a b c (i+1)) i _ _ hi rfl (fun h=>⟨h,h⟩) (fun h=>h)
noncomputable def ZjH (a b c:Int):Zb:=G0.withL 290 0 (goM 0 (moS a b c 0 0) True (YD 0 32 9 (fun i=>i<32) (fun i=>i=32) (fun _=>False) (fun _=>False) (fun i=>moR (U5 a b c i)) (fun i=>moR (U5 a b c i)) (fun i=>moR (U5 a b c i))))
theorem ZgX (a b c:Int):(ZjH a b c).Ok:=by
 unfold ZjH
 refine Zb.withGoM (N:=20) (S:=fun i=>moS a b c (U5 a b c i) i) Zm (by kernel_rfl) fun hC=>⟨rfl,fun i hi hgo=> ?_⟩
 exact ZjF a b c (U5 a b c i) (U5 a b c (i+1)) i _ _ hi rfl (fun h=>⟨h,h⟩) (fun h=>h)
theorem ZjI (a b c:Int) (o:Int) (ho:o=Vw a b c 32):
  evF (ZjG a b c) 20 291 [.int .u32 a,.int .u32 b,.int .u32 c] ⟨0,[]⟩ (Yz 0 [] (.int .u32 o) 0 []):=by
 refine @Eq.mpr _ (Z7 (a=a) (Z7 (b=b) (Z7 (c=c) (True/\∀(i:Nat),i<=32->(∀(j:Nat),j<i->(fun (i:Nat)=>i<32) j)->(i=32->Z7 (Vw a b c i=o) True)/\(False->False)/\(False->False))))) (by kernel_rfl) ?_
 try simp only [vcA]
 try simp only [vcB]
 try simp only [vcC]
 subst ho
 exact fun i hi _=>⟨fun he=>by subst he;rfl,fun h=>h,fun h=>h⟩
theorem ZjJ (a b c:Int) (o:Int) (ho:o=U5 a b c 32):
  evF (ZjH a b c) 20 290 [.int .u32 a,.int .u32 b,.int .u32 c] ⟨0,[]⟩ (Yz 0 [] (.int .u32 o) 0 []):=by
 refine @Eq.mpr _ (Z7 (a=a) (Z7 (b=b) (Z7 (c=c) (True/\∀(i:Nat),i<=32->(∀(j:Nat),j<i->(fun (i:Nat)=>i<32) j)->(i=32->Z7 (U5 a b c i=o) True)/\(False->False)/\(False->False))))) (by kernel_rfl) ?_
 try simp only [vcA]
 try simp only [vcB]
 try simp only [vcC]
 subst ho
 exact fun i hi _=>⟨fun he=>by subst he;rfl,fun h=>h,fun h=>h⟩
def Z2g (F:Int->Int->Int->Int):ZI:=fun args _ K=>match args with
 | [.int .u32 a,.int .u32 b,.int .u32 c]=>K (.int .u32 (F a b c))
 | _=>False
theorem Z3w {f:FuncId} {F:Int->Int->Int->Int} (hp:∀a b c,Zs PP f [.int .u32 a,.int .u32 b,.int .u32 c] (.int .u32 (F a b c)) 0 []) (args:List AV) (h:Z8) (K:AV->Prop) (hl:Z2g F args h K):Ze PP f args h fun o h'=>∃v,o=.ret v/\h'=h/\K v:=by
 unfold Z2g at hl
 split at hl
 ·rename_i a b c
  refine Q1 (d:=20) (K0:=fun l=>l=[.int .u32 a,.int .u32 b,.int .u32 c]) ?_ fun l e=>⟨_,by rw [e];exact hp a b c,fun _=>rfl,hl⟩
  rfl
 ·exact hl.elim
def sg3 (a b c:Int) (w:Int):Int:=Ys .u32 (Ys .u32 (Z8D w (32-a)) (Z8D w (32-b))) (Z8D w (32-c))
def rg3 (a b n:Int) (w:Int):Int:=Ys .u32 (Ys .u32 (Z8D w (32-a)) (Z8D w (32-b))) (Zr .u32 w n)
def Z97 (bl:LI) (t:Nat):Int:=u32.wrap (u32.wrap (u32.wrap (ZC .u32 (u32.wrap (bl.getD (4*t) 0)) 24+ZC .u32 (u32.wrap (bl.getD (4*t+1) 0)) 16)+ZC .u32 (u32.wrap (bl.getD (4*t+2) 0)) 8)+u32.wrap (bl.getD (4*t+3) 0))
def Ze0 (m:LI) (t:Nat):Int:=u32.wrap (u32.wrap (u32.wrap (rg3 17 19 10 (m.getD (t-2) 0)+m.getD (t-7) 0)+rg3 7 18 3 (m.getD (t-15) 0))+m.getD (t-16) 0)
def Wr (bl:LI):Nat->LI
 | 0=>List.replicate 64 0
 | t+1=>(Wr bl t).set t (if t<16 then Z97 bl t else Ze0 (Wr bl t) t)
theorem Z3x (bl:LI):∀t,(Wr bl t).length=64
 | 0=>rfl
 | t+1=>by simp [Wr,Z3x bl t]
def prS (st bl m:LI) (i:Nat):St:=⟨146,[(6,.int .i64 i),(3,pt 1),(5,pt 3),(2,pt 0),(4,pt 2)],⟨4,[(3,.flat [.arr .u32 64 m]),(2,.flat [.arr .u32 8 [0,0,0,0,0,0,0,0]]),(1,.flat [.arr .u8 64 bl]),(0,.flat [.arr .u32 8 st])]⟩,[]⟩
theorem Zon (st bl m m':LI) (i:Nat) (Z1 Z2:Prop) (hi:i<=64) (hm:m.length=64) (hm':m'=m.set i (if i<16 then Z97 bl i else Ze0 m i)) (h1:i<64->Z1) (h2:i=64->Z2):
  ZG G0 20 269 0 0 (prS st bl m i) (rdM 0 0 9 (prS st bl m' (i+1)) (prS st bl m i) (prS st bl m i) (prS st bl m i) Z1 Z2 False False):=by
 refine @Eq.mpr _ (let b:=wrap i64 (4*(↑i:Int));let A:=0+Int.toNat b;let h:=wrap i64 (b+1);let u:=0+Int.toNat h;let f:=wrap i64 (b+2);let t:=0+Int.toNat f;let e:=wrap i64 (b+3);let s:=0+Int.toNat e;let r:=decide (0<=(↑i:Int)/\(↑i:Int)<64);let d:=0+Int.toNat (↑i:Int);let H:=decide (u32=u32/\d<64/\d<m.length);let G:=decide (wrap i64 ((↑i:Int)+1)=(↑(i+1):Int));let F:=[(0:Int),0,0,0,0,0,0,0];let E:=F=F;let D:=E/\bl=bl/\st=st/\Z1;let q:=wrap i64 ((↑i:Int)-2);let C:=0+Int.toNat q;let p:=wrap i64 ((↑i:Int)-7);let B:=0+Int.toNat p;let o:=decide (B<64);let n:=wrap i64 ((↑i:Int)-15);let z:=0+Int.toNat n;let y:=decide (z<64);let l:=wrap i64 ((↑i:Int)-16);let x:=0+Int.toNat l;let k:=decide (x<64);let j:=List.getD m x 0;let w:=decide (j=j);let a:=List.getD m z 0;let g:=List.getD m B 0;let v:=decide (g=g);let c:=List.getD m C 0;
 Z5 (decide ((↑i:Int)<64)) (Z5 (decide ((↑i:Int)<16)) (Z7 (0<=b/\b<64) (Z7 (A<64) (Z7 (0<=h/\h<64) (Z7 (u<64) (Z7 (0<=f/\f<64) (Z7 (t<64) (Z7 (0<=e/\e<64) (Z7 (s<64) (Z6 r (Z6 H (Z6 G (List.set m d (wrap u32 (wrap u32 (wrap u32 (ZC u32 (wrap u32 (List.getD bl A 0)) 24+ZC u32 (wrap u32 (List.getD bl u 0)) 16)+ZC u32 (wrap u32 (List.getD bl t 0)) 8)+wrap u32 (List.getD bl s 0)))=m'/\D)))))))))))) (Z7 (0<=q/\q<64) (Z7 (C<64) (Z7 (0<=p/\p<64) (Z6 o (Z7 (0<=n/\n<64) (Z6 y (Z7 (0<=l/\l<64) (Z6 k (Z6 k (Z6 w (Z6 y (Z7 (a=a) (Z6 o (Z6 v (Z6 k (Z6 w (Z6 o (Z6 v (Z6 r (Z6 H (Z6 G (List.set m d (wrap u32 (wrap u32 (wrap u32 (Ys u32 (Ys u32 (bOr u32 (ZC u32 c 15) (Zr u32 c 17)) (bOr u32 (ZC u32 c 13) (Zr u32 c 19))) (Zr u32 c 10)+g)+Ys u32 (Ys u32 (bOr u32 (ZC u32 a 25) (Zr u32 a 7)) (bOr u32 (ZC u32 a 14) (Zr u32 a 18))) (Zr u32 a 3))+j))=m'/\D))))))))))))))))))))))) (Z7 ((↑i:Int)=(↑i:Int)) (m=m/\E/\bl=bl/\st=st/\Z2))) (by kernel_rfl) ?_
 conv=>zeta
 try simp only [vcA]
 try simp only [vcB]
 try simp only [vcC]
 have hw:i64.wrap ((i:Int)+1)=((i+1:Nat):Int):=w64 (by omega)
 refine ⟨fun hlt=>⟨fun h16=> ?_,fun h16=> ?_⟩,fun hge=>h2 (by omega)⟩
 ·have e0:i64.wrap (4*(i:Int))=((4*i:Nat):Int):=by rw [w64 (by omega)];omega
  have e1:i64.wrap (((4*i:Nat):Int)+1)=((4*i+1:Nat):Int):=by rw [w64 (by omega)];omega
  have e2:i64.wrap (((4*i:Nat):Int)+2)=((4*i+2:Nat):Int):=by rw [w64 (by omega)];omega
  have e3:i64.wrap (((4*i:Nat):Int)+3)=((4*i+3:Nat):Int):=by rw [w64 (by omega)];omega
  rw [if_pos (by omega)] at hm'
  simp only [e0,e1,e2,e3,hw,JA]
  repeat' (first|(refine J9 ?_ ?_)|intro _)
  all_goals first|omega|exact hm'.symm|exact h1 (by omega)|trivial
 ·have e0:i64.wrap ((i:Int)-2)=((i-2:Nat):Int):=by rw [w64 (by omega)];omega
  have e1:i64.wrap ((i:Int)-7)=((i-7:Nat):Int):=by rw [w64 (by omega)];omega
  have e2:i64.wrap ((i:Int)-15)=((i-15:Nat):Int):=by rw [w64 (by omega)];omega
  have e3:i64.wrap ((i:Int)-16)=((i-16:Nat):Int):=by rw [w64 (by omega)];omega
  rw [if_neg (by omega)] at hm'
  simp only [e0,e1,e2,e3,hw,JA]
  repeat' (first|(refine J9 ?_ ?_)|intro _)
  all_goals first|omega|exact hm'.symm|exact h1 (by omega)|trivial
noncomputable def ZjK (st bl:LI):Zb:=G0.withL 269 0 (goM 0 (prS st bl (List.replicate 64 0) 0) True (YD 0 64 9 (fun i=>i<64) (fun i=>i=64) (fun _=>False) (fun _=>False) (fun i=>prS st bl (Wr bl i) i) (fun i=>prS st bl (Wr bl i) i) (fun i=>prS st bl (Wr bl i) i)))
theorem ZgY (st bl:LI):(ZjK st bl).Ok:=by
 unfold ZjK
 refine Zb.withGoM (N:=20) (S:=fun i=>prS st bl (Wr bl i) i) Zm (by kernel_rfl) fun hC=>⟨rfl,fun i hi hgo=> ?_⟩
 exact Zon st bl (Wr bl i) (Wr bl (i+1)) i _ _ hi (Z3x bl i) rfl (fun h=>⟨h,h⟩) (fun h=>h)
noncomputable def E54 (M P:Int->Int->Int->Int):Zb:=(G0.withP 291 (Z2g M)).withP 290 (Z2g P)
theorem ZjL:(E54 XE Xz).Ok:=Zb.withP_ok (Zb.withP_ok Zm (Z3w fun a b c=>by unfold XE;exact .ev (ZgW a b c) (ZjI a b c _ rfl))) (Z3w fun a b c=>by unfold Xz;exact .ev (ZgX a b c) (ZjJ a b c _ rfl))
def Z1S (M P:Int->Int->Int->Int) (k m:Int) (x:LI):LI:=
 let one:=u32.wrap (u32.wrap (u32.wrap (u32.wrap (x.getD 7 0+sg3 6 11 25 (x.getD 4 0))+P (x.getD 4 0) (x.getD 5 0) (x.getD 6 0))+k)+m)
 [u32.wrap (one+u32.wrap (sg3 2 13 22 (x.getD 0 0)+M (x.getD 0 0) (x.getD 1 0) (x.getD 2 0))),x.getD 0 0,x.getD 1 0,x.getD 2 0,u32.wrap (x.getD 3 0+one),x.getD 4 0,x.getD 5 0,x.getD 6 0]
def Q9 (M P:Int->Int->Int->Int) (m st:LI):Nat->LI
 | 0=>st
 | t+1=>Z1S M P (VI.getD t 0) (m.getD t 0) (Q9 M P m st t)
theorem ZbI (M P:Int->Int->Int->Int) (m st:LI) (t:Nat):Q9 M P m st (t+1)=Z1S M P (VI.getD t 0) (m.getD t 0) (Q9 M P m st t):=rfl
theorem ZbJ (M P:Int->Int->Int->Int) (m st:LI):Q9 M P m st 0=st:=rfl
theorem Z0T {M P:Int->Int->Int->Int} {m st:LI} (h:st.length=8):∀t,(Q9 M P m st t).length=8
 | 0=>h
 | _+1=>rfl
def prT (st k m x:LI) (i:Nat):St:=⟨146,[(9,.int .i64 i),(8,pt 6),(7,pt 5),(5,pt 3),(2,pt 0),(4,pt 2)],⟨7,[(6,.flat [.arr .u32 8 x]),(5,.flat [.arr .u32 64 k]),(3,.flat [.arr .u32 64 m]),(2,.flat [.arr .u32 8 [0,0,0,0,0,0,0,0]]),(0,.flat [.arr .u32 8 st])]⟩,[]⟩
def prU (st x:LI):St:=⟨146,[(8,pt 6),(2,pt 0),(4,pt 2)],⟨7,[(6,.flat [.arr .u32 8 x]),(2,.flat [.arr .u32 8 [0,0,0,0,0,0,0,0]]),(0,.flat [.arr .u32 8 st])]⟩,[]⟩
theorem Zoo (M P:Int->Int->Int->Int) (st k m x':LI) (x0 x1 x2 x3 x4 x5 x6 x7:Int) (i:Nat) (Z1 Z2:Prop) (hi:i<=64) (hx:x'=Z1S M P (k.getD i 0) (m.getD i 0) [x0,x1,x2,x3,x4,x5,x6,x7]) (h1:i<64->Z1) (h2:i=64->Z2):
  ZG (E54 M P) 20 269 2 0 (prT st k m [x0,x1,x2,x3,x4,x5,x6,x7] i) (rdM 0 2 9 (prT st k m x' (i+1)) (prU st [x0,x1,x2,x3,x4,x5,x6,x7]) (prU st [x0,x1,x2,x3,x4,x5,x6,x7]) (prU st [x0,x1,x2,x3,x4,x5,x6,x7]) Z1 Z2 False False):=by
 refine @Eq.mpr _ (let l:=decide (0<=(↑i:Int)/\(↑i:Int)<64);let a:=0+Int.toNat (↑i:Int);let h:=decide (a<64);let g:=decide (a<64);let c:=List.getD m a 0;let b:=List.getD k a 0;let f:=wrap u32 (wrap u32 (wrap u32 (wrap u32 (x7+Ys u32 (Ys u32 (bOr u32 (ZC u32 x4 26) (Zr u32 x4 6)) (bOr u32 (ZC u32 x4 21) (Zr u32 x4 11))) (bOr u32 (ZC u32 x4 7) (Zr u32 x4 25)))+P x4 x5 x6)+b)+c);let e:=[(0:Int),0,0,0,0,0,0,0];let d:=e=e;let j:=[x0,x1,x2,x3,x4,x5,x6,x7];
 Z5 (decide ((↑i:Int)<64)) (Z6 l (Z6 h (Z6 l (Z6 g (Z6 g (Z7 (c=c) (Z6 h (Z7 (b=b) (Z7 (x6=x6) (Z7 (x5=x5) (Z7 (x4=x4) (Z7 (x7=x7) (Z7 (x2=x2) (Z7 (x1=x1) (Z7 (x0=x0) (Z7 (wrap i64 ((↑i:Int)+1)=(↑(i+1):Int)) ([wrap u32 (f+wrap u32 (Ys u32 (Ys u32 (bOr u32 (ZC u32 x0 30) (Zr u32 x0 2)) (bOr u32 (ZC u32 x0 19) (Zr u32 x0 13))) (bOr u32 (ZC u32 x0 10) (Zr u32 x0 22))+M x0 x1 x2)),x0,x1,x2,wrap u32 (x3+f),x4,x5,x6]=x'/\k=k/\m=m/\d/\st=st/\Z1))))))))))))))))) (j=j/\d/\st=st/\Z2)) (by kernel_rfl) ?_
 conv=>zeta
 try simp only [vcA]
 try simp only [vcB]
 try simp only [vcC]
 have hw:i64.wrap ((i:Int)+1)=((i+1:Nat):Int):=w64 (by omega)
 refine ⟨fun hlt=> ?_,fun hge=>h2 (by omega)⟩
 rw [hw]
 repeat' (first|(refine J9 ?_ ?_)|intro _)
 all_goals first|omega|exact hx.symm|exact h1 (by omega)|trivial
def prV (st x:LI) (i:Nat):St:=⟨146,[(12,.int .i64 i),(8,pt 6),(2,pt 0),(4,pt 2)],⟨7,[(6,.flat [.arr .u32 8 x]),(2,.flat [.arr .u32 8 [0,0,0,0,0,0,0,0]]),(0,.flat [.arr .u32 8 st])]⟩,[]⟩
def VL (st x:LI):Nat->LI
 | 0=>x
 | i+1=>(VL st x i).set i (u32.wrap ((VL st x i).getD i 0+st.getD i 0))
theorem Z3y {st x:LI} (h:x.length=8):∀i,(VL st x i).length=8
 | 0=>h
 | i+1=>by simp [VL,Z3y h i]
theorem Zop (st x x':LI) (i:Nat) (Z1 Z2:Prop) (hi:i<=8) (hl:x.length=8) (hs:st.length=8) (hx:x'=x.set i (u32.wrap (x.getD i 0+st.getD i 0))) (h1:i<8->Z1) (h2:i=8->Z2):
  ZG G0 20 269 4 0 (prV st x i) (rdM 0 4 9 (prV st x' (i+1)) (prU st x) (prU st x) (prU st x) Z1 Z2 False False):=by
 refine @Eq.mpr _ (let b:=decide (0<=(↑i:Int)/\(↑i:Int)<8);let a:=0+Int.toNat (↑i:Int);let d:=[(0:Int),0,0,0,0,0,0,0];let c:=d=d;
 Z5 (decide ((↑i:Int)<8)) (Z6 b (Z7 (a<8) (Z6 b (Z7 (a<8) (Z6 b (Z7 (u32=u32/\a<8/\a<x.length) (Z7 (wrap i64 ((↑i:Int)+1)=(↑(i+1):Int)) (List.set x a (wrap u32 (List.getD x a 0+List.getD st a 0))=x'/\c/\st=st/\Z1)))))))) (x=x/\c/\st=st/\Z2)) (by kernel_rfl) ?_
 conv=>zeta
 try simp only [vcA]
 try simp only [vcB]
 try simp only [vcC]
 have hw:i64.wrap ((i:Int)+1)=((i+1:Nat):Int):=w64 (by omega)
 refine ⟨fun hlt=> ?_,fun hge=>h2 (by omega)⟩
 rw [hw]
 repeat' (first|(refine J9 ?_ ?_)|intro _)
 all_goals first|omega|exact hx.symm|exact h1 (by omega)|trivial
def ZjM (M P:Int->Int->Int->Int) (st m:LI):Nat->St->KE->Prop:=goM 0 (prT st VI m st 0) (st.length=8) (YD 2 64 9 (fun i=>i<64) (fun i=>i=64) (fun _=>False) (fun _=>False) (fun i=>prU st (Q9 M P m st i)) (fun i=>prU st (Q9 M P m st i)) (fun i=>prU st (Q9 M P m st i)))
theorem ZgZ (st m:LI):((E54 XE Xz).withL 269 2 (ZjM XE Xz st m)).Ok:=by
 unfold ZjM
 refine Zb.withGoM (N:=20) (S:=fun i=>prT st VI m (Q9 XE Xz m st i) i) ZjL (by kernel_rfl) fun hC=>⟨rfl,fun i hi hgo=> ?_⟩
 obtain ⟨x0,x1,x2,x3,x4,x5,x6,x7,e⟩:=eight _ (Z0T (M:=XE) (P:=Xz) (m:=m) hC i)
 show ZG _ 20 269 2 0 (prT st VI m (Q9 XE Xz m st i) i) (rdM 0 2 9 (prT st VI m (Z1S XE Xz (VI.getD i 0) (m.getD i 0) (Q9 XE Xz m st i)) (i+1)) _ _ _ _ _ _ _)
 rw [e]
 exact Zoo XE Xz st VI m _ x0 x1 x2 x3 x4 x5 x6 x7 i _ _ hi rfl (fun h=>⟨h,h⟩) (fun h=>h)
def ZjN (st x:LI):Nat->St->KE->Prop:=goM 0 (prV st x 0) (st.length=8/\x.length=8) (YD 4 8 9 (fun i=>i<8) (fun i=>i=8) (fun _=>False) (fun _=>False) (fun i=>prU st (VL st x i)) (fun i=>prU st (VL st x i)) (fun i=>prU st (VL st x i)))
theorem Zh0 (st x:LI):(G0.withL 269 4 (ZjN st x)).Ok:=by
 unfold ZjN
 refine Zb.withGoM (N:=20) (S:=fun i=>prV st (VL st x i) i) Zm (by kernel_rfl) fun hC=>⟨rfl,fun i hi hgo=> ?_⟩
 exact Zop st (VL st x i) (VL st x (i+1)) i _ _ hi (Z3y hC.2 i) hC.1 rfl (fun h=>⟨h,h⟩) (fun h=>h)
noncomputable def ZjO (M P:Int->Int->Int->Int) (st bl m x:LI):Zb:=((ZjK st bl).withL 269 2 (ZjM M P st m)).withL 269 4 (ZjN st x)
theorem Zh1 (st bl m x:LI):(ZjO XE Xz st bl m x).Ok:=by
 unfold ZjO
 exact Zb.withL_join (H:=G0) (Zb.withL_join (H:=E54 XE Xz) (ZgY st bl) rfl (ZgZ st m)) rfl (Zh0 st x)
@[irreducible] def XU (st bl:LI):LI:=VL st (Q9 XE Xz (Wr bl 64) st 64) 8
attribute [irreducible] Wr Q9 VL
theorem Zoq (M P:Int->Int->Int->Int) (st bl m x r:LI) (hst:st.length=8) (hm:m=Wr bl 64) (hx:x=Q9 M P m st 64) (hr:r=VL st x 8):
  evF (ZjO M P st bl m x) 20 269 [.agg [.arr .u32 8 st],.agg [.arr .u8 64 bl]] ⟨0,[]⟩ (Yz 0 [] (.agg [.arr .u32 8 r]) 0 []):=by
 refine @Eq.mpr _ ((0:Int)::(0:Int)::(0:Int)::(0:Int)::(0:Int)::(0:Int)::(0:Int)::(0:Int)::(0:Int)::(0:Int)::(0:Int)::(0:Int)::(0:Int)::(0:Int)::(0:Int)::(0:Int)::(0:Int)::(0:Int)::(0:Int)::(0:Int)::(0:Int)::(0:Int)::(0:Int)::(0:Int)::(0:Int)::(0:Int)::(0:Int)::(0:Int)::(0:Int)::(0:Int)::(0:Int)::(0:Int)::Z0=(0:Int)::(0:Int)::(0:Int)::(0:Int)::(0:Int)::(0:Int)::(0:Int)::(0:Int)::(0:Int)::(0:Int)::(0:Int)::(0:Int)::(0:Int)::(0:Int)::(0:Int)::(0:Int)::(0:Int)::(0:Int)::(0:Int)::(0:Int)::(0:Int)::(0:Int)::(0:Int)::(0:Int)::(0:Int)::(0:Int)::(0:Int)::(0:Int)::(0:Int)::(0:Int)::(0:Int)::(0:Int)::Z0/\
 [(0:Int),(0:Int),(0:Int),(0:Int),(0:Int),(0:Int),(0:Int),(0:Int)]=[(0:Int),(0:Int),(0:Int),(0:Int),(0:Int),(0:Int),(0:Int),(0:Int)]/\
 bl=bl/\
 st=st/\
 True/\
 ∀(i:Nat),
 i<=(64:Nat)->
 (∀(j:Nat),j<i->(fun (i:Nat)=>i<(64:Nat)) j)->
 (i=(64:Nat)->
 st=st/\
 [(1116352408:Int),(1899447441:Int),(3049323471:Int),(3921009573:Int),(961987163:Int),(1508970993:Int),(2453635748:Int),(2870763221:Int),(3624381080:Int),(310598401:Int),(607225278:Int),(1426881987:Int),(1925078388:Int),(2162078206:Int),(2614888103:Int),(3248222580:Int),(3835390401:Int),(4022224774:Int),(264347078:Int),(604807628:Int),(770255983:Int),(1249150122:Int),(1555081692:Int),(1996064986:Int),(2554220882:Int),(2821834349:Int),(2952996808:Int),(3210313671:Int),(3336571891:Int),(3584528711:Int),(113926993:Int),(338241895:Int),(666307205:Int),(773529912:Int),(1294757372:Int),(1396182291:Int),(1695183700:Int),(1986661051:Int),(2177026350:Int),(2456956037:Int),(2730485921:Int),(2820302411:Int),(3259730800:Int),(3345764771:Int),(3516065817:Int),(3600352804:Int),(4094571909:Int),(275423344:Int),(430227734:Int),(506948616:Int),
 (659060556:Int),(883997877:Int),(958139571:Int),(1322822218:Int),(1537002063:Int),(1747873779:Int),(1955562222:Int),(2024104815:Int),(2227730452:Int),(2361852424:Int),(2428436474:Int),(2756734187:Int),(3204031479:Int),(3329325298:Int)]=
 VI/\
 Wr bl i=m/\
 [(0:Int),(0:Int),(0:Int),(0:Int),(0:Int),(0:Int),(0:Int),(0:Int)]=[(0:Int),(0:Int),(0:Int),(0:Int),(0:Int),(0:Int),(0:Int),(0:Int)]/\st=st/\st.length=(8:Nat)/\∀(i:Nat),i<=(64:Nat)->(∀(j:Nat),j<i->(fun (i:Nat)=>i<(64:Nat)) j)->(i=(64:Nat)->Q9 M P m st i=x/\[(0:Int),(0:Int),(0:Int),(0:Int),(0:Int),(0:Int),(0:Int),(0:Int)]=[(0:Int),(0:Int),(0:Int),(0:Int),(0:Int),(0:Int),(0:Int),(0:Int)]/\st=st/\(st.length=(8:Nat)/\x.length=(8:Nat))/\∀(i:Nat),i<=(8:Nat)->(∀(j:Nat),j<i->(fun (i:Nat)=>i<(8:Nat)) j)->(i=(8:Nat)->VL st x i=r/\True)/\(False->[(0:Int),(0:Int),(0:Int),(0:Int),(0:Int),(0:Int),(0:Int),(0:Int)]=r/\True)/\(False->False))/\(False->[(0:Int),(0:Int),(0:Int),(0:Int),(0:Int),(0:Int),(0:Int),(0:Int)]=r/\True)/\(False->False))/\
 (False->[(0:Int),(0:Int),(0:Int),(0:Int),(0:Int),(0:Int),(0:Int),(0:Int)]=r/\True)/\(False->False)) (by kernel_rfl) ?_
 try simp only [vcA]
 try simp only [vcB]
 try simp only [vcC]
 subst hm
 have hl:x.length=8:=by rw [hx];exact Z0T hst _
 exact fun i _ _=>⟨fun he=>⟨by kernel_rfl,by rw [he],hst,fun j _ _=>⟨fun hj=>⟨by rw [hj,hx],⟨hst,hl⟩,fun q _ _=>⟨fun hq=>by rw [hq,hr],fun h=>h.elim,fun h=>h⟩⟩,fun h=>h.elim,fun h=>h⟩⟩,fun h=>h.elim,fun h=>h⟩
theorem Z7g (st bl:LI) (h:st.length=8):Zs PP 269 [.agg [.arr .u32 8 st],.agg [.arr .u8 64 bl]] (.agg [.arr .u32 8 (XU st bl)]) 0 []:=by
 unfold XU
 exact .ev (Zh1 st bl _ _) (Zoq XE Xz st bl _ _ _ h rfl rfl rfl)
theorem Z5V {st:LI} (h:st.length=8):(XU st bl).length=8:=by unfold XU;exact Z3y (Z0T h _) _
def Zh2 (n i:Int):Int:=u8.wrap (Int.tmod (Zr .u64 (u64.wrap (u64.wrap n*8)) (u64.wrap (i64.wrap (56-i64.wrap (8*i))))) 256)
def XZ (n:Int):Nat->LI
 | 0=>[]
 | i+1=>XZ n i++[Zh2 n i]
theorem Z3z (n:Int):∀i,(XZ n i).length=i
 | 0=>rfl
 | i+1=>by rw [XZ,J6,Z3z n i];rfl
def paS (bs ys:LI) (n L i:Nat):St:=⟨39,[(5,.int .i64 i),(4,.nslice ⟨3,0,0,0,0⟩ 1 L L),(0,.vints .u8 bs n)],⟨4,[(3,.ints .u8 ys)]⟩,[]⟩
theorem Zmb (bs ys zs:LI) (n L L' i:Nat) (Z1 Z2:Prop) (hi:i<=8) (hL:ys.length=L) (hb:L<10000000000000) (hz:zs=ys++[Zh2 n i]) (hL':L'=zs.length) (h1:i<8->Z1) (h2:i=8->Z2):
  ZG G0 20 268 0 0 (paS bs ys n L i) (rdM 0 0 9 (paS bs zs n L' (i+1)) (paS bs ys n L i) (paS bs ys n L i) (paS bs ys n L i) Z1 Z2 False False):=by
 refine @Eq.mpr _ (let d:=wrap u64 (wrap i64 (56-wrap i64 (8*(↑i:Int))));let c:=ys++[wrap u8 (Int.tmod (Zr u64 (wrap u64 (wrap u64 (↑n:Int)*8)) d) 256)];let a:=c.length;let b:=decide (n=n);
 Z5 (decide ((↑i:Int)<8)) (Z7 (0<=d) (Z7 (u8=u8/\ys.length=L) (Z7 (a*1<=140737488355328) (Z7 (wrap i64 ((↑i:Int)+1)=(↑(i+1):Int)) (Z7 (a=L') (Z7 (L'<=a) (bs=bs/\Z6 b (c=zs/\Z1)))))))) (Z7 ((↑i:Int)=(↑i:Int)) (Z7 (L=L) (Z7 (L<=L) (bs=bs/\Z6 b (ys=ys/\Z2)))))) (by kernel_rfl) ?_
 conv=>zeta
 try simp only [vcA]
 try simp only [vcB]
 try simp only [vcC]
 have hw:i64.wrap ((i:Int)+1)=((i+1:Nat):Int):=w64 (by omega)
 refine ⟨fun hlt=> ?_,fun hge=>h2 (by omega)⟩
 have hz':zs.length=L+1:=by rw [hz,J6,hL];rfl
 have h0:0<=u64.wrap (i64.wrap (56-i64.wrap (8*(i:Int)))):=by
  unfold wrap
  simp [IntKind.bits,IntKind.signed]
  omega
 simp only [J6,Jk,Jr]
 rw [hw]
 repeat' (first|(refine J9 ?_ ?_)|intro _)
 all_goals first|exact h0|omega|exact hz.symm|exact h1 (by omega)|trivial
noncomputable def ZjP (bs y:LI) (n:Nat):Zb:=G0.withL 268 0 (goM 0 (paS bs (y++XZ n 0) n (y++XZ n 0).length 0) (y.length<=1000000000000) (YD 0 8 9 (fun i=>i<8) (fun i=>i=8) (fun _=>False) (fun _=>False) (fun i=>paS bs (y++XZ n i) n (y++XZ n i).length i) (fun i=>paS bs (y++XZ n i) n (y++XZ n i).length i) (fun i=>paS bs (y++XZ n i) n (y++XZ n i).length i)))
theorem Zh3 (bs y:LI) (n:Nat):(ZjP bs y n).Ok:=by
 unfold ZjP
 refine Zb.withGoM (N:=20) (S:=fun i=>paS bs (y++XZ n i) n (y++XZ n i).length i) Zm (by kernel_rfl) fun hC=>⟨rfl,fun i hi hgo=> ?_⟩
 have hl:(y++XZ n i).length=y.length+i:=by rw [J6,Z3z]
 exact Zmb bs (y++XZ n i) (y++XZ n (i+1)) n _ _ i _ _ hi rfl (by omega) (by rw [XZ,JR]) rfl (fun h=>⟨h,h⟩) (fun h=>h)
def Z23 (n:Nat):LI:=List.replicate (Int.tmod (i64.wrap (128-Int.tmod (i64.wrap ((n:Int)+9)) 64)) 64).toNat 0
@[irreducible] def Qa (bs:LI):LI:=(bs++[128]++Z23 bs.length)++XZ bs.length 8
theorem Zh4 (n:Nat) (h:n<=100000000000):Int.tmod (i64.wrap (128-Int.tmod (i64.wrap ((n:Int)+9)) 64)) 64=(128-((n:Int)+9)%64)%64:=by
 have e1:i64.wrap ((n:Int)+9)=(n:Int)+9:=w64 (by omega)
 have e2:Int.tmod ((n:Int)+9) 64=((n:Int)+9)%64:=tm (by omega)
 have e3:i64.wrap (128-((n:Int)+9)%64)=128-((n:Int)+9)%64:=w64 (by omega)
 rw [e1,e2,e3,tm (by omega)]
theorem Ze1 (n:Nat) (h:n<=100000000000):(Z23 n).length<=64:=by
 unfold Z23
 rw [Zh4 n h,List.length_replicate]
 omega
theorem Zmc (bs y r:LI) (n L:Nat) (hn:bs.length=n) (hb:n<=100000000000) (hy:y=bs++[128]++Z23 n) (hr:r=y++XZ n 8) (hL:L=r.length):
  evF (ZjP bs y n) 20 268 [.vints .u8 bs n] ⟨0,[]⟩ (ZH 0 (.ret (.nslice ⟨0,0,0,0,0⟩ 1 L L)) 1 [(0,.ints .u8 r)]):=by
 refine @Eq.mpr _ (let o:=[]++List.take n bs;let b:=o.length;let h:=o++[(128:Int)];let a:=h.length;let g:=Int.tmod (wrap i64 (128-Int.tmod (wrap i64 (↑n+9)) 64)) 64;let f:=Int.toNat g;let e:=h++List.replicate f 0;let d:=e.length;let c:=y++XZ (↑n) 0;let m:=c.length;
 Z7 (b*1<=140737488355328) (Z7 (u8=u8/\b=b) (Z7 (a*1<=140737488355328) (Z7 (u8=u8/\a=a) (Z7 ((0:Int)=0/\0<=g/\(a+f)*1<=140737488355328) (Z7 (d=m) (Z7 (m<=d) (bs=bs/\
 Z7 (n=n) (e=c/\
 y.length<=1000000000000/\
 ∀(i:Nat),
 let l:=y++XZ (↑n) i;let k:=l.length;
 i<=8->(∀(j:Nat),j<i->(fun (i:Nat)=>i<8) j)->(i=8->Z7 (k=L) (Z7 (L<=k) (l=r/\True)))/\(False->False)/\(False->False)))))))))) (by kernel_rfl) ?_
 conv=>zeta
 try simp only [vcA]
 try simp only [vcB]
 try simp only [vcC]
 have ht:List.take n bs=bs:=by rw [<-hn];exact Jq
 have hz:=Ze1 n hb
 have hx:=Zh4 n hb
 have e0:[]++List.take n bs++[128]++List.replicate (Int.tmod (i64.wrap (128-Int.tmod (i64.wrap ((n:Int)+9)) 64)) 64).toNat 0=y++XZ n 0:=by rw [ht,hy];simp [Z23,XZ]
 have hyl:y.length=n+1+(Z23 n).length:=by rw [hy,J6,J6,hn];rfl
 subst hL hr
 simp only [e0,ht,J6,Jk,Jr,hn,K5]
 refine ⟨by omega,by omega,⟨by omega,by omega⟩, ?_, ?_, ?_,by omega,fun i hi _=>⟨fun he=>by subst he;exact ⟨rfl,J4 _,rfl⟩,fun h=>h,fun h=>h⟩⟩
 ·rw [hyl];unfold Z23 XZ;rfl
 ·rw [hyl];unfold Z23 XZ;exact J4 _
 ·rw [hy];simp [Z23,XZ]
theorem ZbK (bs:LI) (h:bs.length<=100000000000):Zs PP 268 [.vints .u8 bs bs.length] (.nslice ⟨0,0,0,0,0⟩ 1 (Qa bs).length (Qa bs).length) 1 [(0,.ints .u8 (Qa bs))]:=.evM (Zh3 bs _ _) (Zmc bs _ _ _ _ rfl h rfl (by unfold Qa;rfl) rfl)
def Zir (P:LI->LI) (B:Nat):ZO:=fun args h K=>Zz none h true 20 args fun a=>Un a fun xs=>Z7 (xs.length<=B) (K (.ret (.nslice ⟨h.next,0,0,0,0⟩ 1 (P xs).length (P xs).length)) ⟨h.next+1,(h.next,.ints .u8 (P xs))::h.bs⟩)
theorem Ze2 (B:Nat) (hB:B<=100000000000) (args:List AV) (h:Z8) (K:KO) (hl:Zir Qa B args h K):Ze PP 268 args h K:=by
 refine Zs.fsumm (d:=20) (Zk _ _ _ _ _ hl fun a ha=> ?_)
 obtain ⟨xs,rfl,hK⟩:=W9 ha
 obtain ⟨hx,hK⟩:=Zd hK
 exact ⟨_,_,_,_,ZbK xs (Ka hx hB),rfl,⟨JH,.ints _ _,trivial⟩,hK⟩
def toE (x d:Int):Int:=u8.wrap (Int.tmod (u32.wrap (Int.tdiv x d)) 256)
def toN (x:LI):Nat->LI
 | 0=>Z0
 | i+1=>((((toN x i).set (4*i) (u8.wrap (u32.wrap (Int.tdiv (x.getD i 0) 16777216)))).set (4*i+1) (toE (x.getD i 0) 65536)).set (4*i+2) (toE (x.getD i 0) 256)).set (4*i+3) (u8.wrap (Int.tmod (x.getD i 0) 256))
theorem Z5W (x:LI):∀i,(toN x i).length=32
 | 0=>rfl
 | i+1=>by simp [toN,Z5W x i]
def toS (x h:LI) (i:Nat):St:=⟨47,[(4,.int .i64 i),(1,pt 0),(3,pt 2),(2,pt 1)],⟨3,[(2,.flat [.arr .u8 32 h]),(1,.flat [.arr .u8 32 Z0]),(0,.flat [.arr .u32 8 x])]⟩,[]⟩
theorem Zor (x h h':LI) (i:Nat) (Z1 Z2:Prop) (hi:i<=8) (hl:h.length=32) (hh:h'=(((h.set (4*i) (u8.wrap (u32.wrap (Int.tdiv (x.getD i 0) 16777216)))).set (4*i+1) (toE (x.getD i 0) 65536)).set (4*i+2) (toE (x.getD i 0) 256)).set (4*i+3) (u8.wrap (Int.tmod (x.getD i 0) 256))) (h1:i<8->Z1) (h2:i=8->Z2):
  ZG G0 20 270 0 0 (toS x h i) (rdM 0 0 9 (toS x h' (i+1)) (toS x h i) (toS x h i) (toS x h i) Z1 Z2 False False):=by
 refine @Eq.mpr _ (let d:=decide (0<=(↑i:Int)/\(↑i:Int)<8);let o:=0+Int.toNat (↑i:Int);let c:=decide (o<8);let a:=wrap i64 (4*(↑i:Int));let g:=0+Int.toNat a;let f:=wrap i64 (a+1);let e:=0+Int.toNat f;let b:=List.getD x o 0;let n:=List.set h g (wrap u8 (wrap u32 (Int.tdiv b 16777216)));let m:=wrap i64 (a+2);let l:=0+Int.toNat m;let q:=List.set n e (wrap u8 (Int.tmod (wrap u32 (Int.tdiv b 65536)) 256));let k:=wrap i64 (a+3);let j:=0+Int.toNat k;let p:=List.set q l (wrap u8 (Int.tmod (wrap u32 (Int.tdiv b 256)) 256));
 Z5 (decide ((↑i:Int)<8)) (Z6 d (Z6 c (Z7 (0<=a/\a<32) (Z7 (u8=u8/\g<32/\g<h.length) (Z6 d (Z6 c (Z7 (0<=f/\f<32) (Z7 (u8=u8/\e<32/\e<n.length) (Z6 d (Z6 c (Z7 (0<=m/\m<32) (Z7 (u8=u8/\l<32/\l<q.length) (Z6 d (Z6 c (Z7 (0<=k/\k<32) (Z7 (u8=u8/\j<32/\j<p.length) (Z7 (wrap i64 ((↑i:Int)+1)=(↑(i+1):Int)) (List.set p j (wrap u8 (Int.tmod b 256))=h'/\Z0=Z0/\x=x/\Z1)))))))))))))))))) (Z7 ((↑i:Int)=(↑i:Int)) (h=h/\Z0=Z0/\x=x/\Z2))) (by kernel_rfl) ?_
 conv=>zeta
 try simp only [vcA]
 try simp only [vcB]
 try simp only [vcC]
 have hw:i64.wrap ((i:Int)+1)=((i+1:Nat):Int):=w64 (by omega)
 refine ⟨fun hlt=> ?_,fun hge=>h2 (by omega)⟩
 have e0:i64.wrap (4*(i:Int))=((4*i:Nat):Int):=by rw [w64 (by omega)];omega
 have e1:i64.wrap (((4*i:Nat):Int)+1)=((4*i+1:Nat):Int):=by rw [w64 (by omega)];omega
 have e2:i64.wrap (((4*i:Nat):Int)+2)=((4*i+2:Nat):Int):=by rw [w64 (by omega)];omega
 have e3:i64.wrap (((4*i:Nat):Int)+3)=((4*i+3:Nat):Int):=by rw [w64 (by omega)];omega
 simp only [e0,e1,e2,e3,hw,JA,JW]
 repeat' (first|(refine J9 ?_ ?_)|intro _)
 all_goals first|omega|exact hh.symm|exact h1 (by omega)|trivial
noncomputable def ZjQ (x:LI):Zb:=G0.withL 270 0 (goM 0 (toS x Z0 0) True (YD 0 8 9 (fun i=>i<8) (fun i=>i=8) (fun _=>False) (fun _=>False) (fun i=>toS x (toN x i) i) (fun i=>toS x (toN x i) i) (fun i=>toS x (toN x i) i)))
theorem Zh5 (x:LI):(ZjQ x).Ok:=by
 unfold ZjQ
 refine Zb.withGoM (N:=20) (S:=fun i=>toS x (toN x i) i) Zm (by kernel_rfl) fun hC=>⟨rfl,fun i hi hgo=> ?_⟩
 exact Zor x (toN x i) (toN x (i+1)) i _ _ hi (Z5W x i) rfl (fun h=>⟨h,h⟩) (fun h=>h)
@[irreducible] def Uy (x:LI):LI:=toN x 8
attribute [irreducible] toN
theorem Zos (x r:LI) (hr:r=toN x 8):
  evF (ZjQ x) 20 270 [.agg [.arr .u32 8 x]] ⟨0,[]⟩ (Yz 0 [] (.agg [.arr .u8 32 r]) 0 []):=by
 refine @Eq.mpr _ (Z0=Z0/\Z0=Z0/\x=x/\True/\∀(i:Nat),i<=8->(∀(j:Nat),j<i->(fun (i:Nat)=>i<8) j)->(i=8->toN x i=r/\True)/\(False->Z0=r/\True)/\(False->False)) (by kernel_rfl) ?_
 try simp only [vcA]
 try simp only [vcB]
 try simp only [vcC]
 subst hr
 exact fun i hi _=>⟨fun he=>by subst he;rfl,fun h=>h.elim,fun h=>h⟩
def Ze3 (T:LI->LI):ZI:=fun args _ K=>match args with
 | [.agg [.arr .u32 8 x]]=>K (.agg [.arr .u8 32 (T x)])
 | _=>False
theorem Ze4 (args:List AV) (h:Z8) (K:AV->Prop) (hl:Ze3 Uy args h K):Ze PP 270 args h fun o h'=>∃v,o=.ret v/\h'=h/\K v:=by
 unfold Ze3 at hl
 split at hl
 ·rename_i x
  refine Q1 (d:=20) (K0:=fun l=>l=[.agg [.arr .u32 8 x]]) ?_ fun l e=>⟨_,by rw [e];exact (by unfold Uy;exact .ev (Zh5 x) (Zos x _ rfl)),fun _=>rfl,hl⟩
  rfl
 ·exact hl.elim
def Z5X (P:LI->LI->LI):ZI:=fun args _ K=>match args with
 | [.agg [.arr .u32 8 st],.agg [.arr .u8 64 bl]]=>Z7 (st.length=8) (K (.agg [.arr .u32 8 (P st bl)]))
 | _=>False
structure Qw (P:LI->LI->LI):Prop where
 pure:∀st bl,st.length=8->Zs PP 269 [.agg [.arr .u32 8 st],.agg [.arr .u8 64 bl]] (.agg [.arr .u32 8 (P st bl)]) 0 []
 len:∀st bl,st.length=8->(P st bl).length=8
theorem Z98 {P:LI->LI->LI} (hP:Qw P) (args:List AV) (h:Z8) (K:AV->Prop) (hl:Z5X P args h K):Ze PP 269 args h fun o h'=>∃v,o=.ret v/\h'=h/\K v:=by
 unfold Z5X at hl
 split at hl
 ·rename_i st bl
  obtain ⟨hs,hK⟩:=Zd hl
  refine Q1 (d:=20) (K0:=fun l=>l=[.agg [.arr .u32 8 st],.agg [.arr .u8 64 bl]]) ?_ fun l e=>⟨_,by rw [e];exact hP.pure st bl hs,fun _=>rfl,hK⟩
  rfl
 ·exact hl.elim
noncomputable def E56 (P:LI->LI->LI) (Q:LI->LI) (T:LI->LI) (B:Nat):Zb:=((G0.withP 269 (Z5X P)).withF 268 (Zir Q B)).withP 270 (Ze3 T)
theorem ZjR {P:LI->LI->LI} (hP:Qw P) (hB:B<=100000000000):(E56 P Qa Uy B).Ok:=Zb.withP_ok (Zb.withF_ok (Zb.withP_ok Zm (Z98 hP)) (Ze2 B hB)) Ze4
def Zh6 (ys st:LI) (o n:Nat):St:=⟨21,[(4,.nslice ⟨3,0,0,0,o⟩ 1 n n),(3,pt 2),(2,pt 0)],⟨4,[(3,.ints .u8 ys),(2,.flat [.arr .u32 8 st]),(0,.flat [.arr .u8 32 Z0])]⟩,[]⟩
def ZbL (st:LI):St:=⟨21,[(3,pt 2),(2,pt 0)],⟨4,[(2,.flat [.arr .u32 8 st]),(0,.flat [.arr .u8 32 Z0])]⟩,[]⟩
theorem Zmd (P:LI->LI->LI) (Q:LI->LI) (T:LI->LI) (B:Nat) (ys st st':LI) (o o' n n' k i:Nat) (Z1 Z2:Prop) (hi:i<=k) (hk:ys.length=64*k) (ho:o=64*i) (ho':o'=64*(i+1)) (hn:n=64*k-64*i) (hn':n'=64*k-64*(i+1)) (hs:st.length=8) (hst:st'=P st ((ys.drop o).take 64)) (h1:i<k->Z1) (h2:i=k->Z2):
  ZG (E56 P Q T B) 20 208 0 0 (Zh6 ys st o n) (rdM 0 0 9 (Zh6 ys st' o' n') (ZbL st) (ZbL st) (ZbL st) Z1 Z2 False False):=by
 refine @Eq.mpr _ (let c:=decide (n<=n);let b:=decide ((0:Int)<=64/\64<=(↑n:Int));let a:=VQ n (some 64);
 Z5 (decide ((↑n:Int)>0)) (Z6 c (Z6 b (Z7 (o+0+64<=ys.length) (Z7 (st.length=8) (Z6 c (Z6 b (Z7 (o+64=o') (Z7 (a=n') (Z7 (n'<=a) (ys=ys/\P st (List.take 64 (List.drop (o+0) ys))=st'/\Z0=Z0/\Z1)))))))))) (st=st/\Z0=Z0/\Z2)) (by kernel_rfl) ?_
 conv=>zeta
 try simp only [vcA]
 try simp only [vcB]
 try simp only [vcC]
 refine ⟨fun hlt=> ?_,fun hge=>h2 (by omega)⟩
 have e1:n-64=n':=by omega
 have e2:o+64=o':=by omega
 simp only [VQ,e1,e2,Kf]
 repeat' (first|(refine J9 ?_ ?_)|intro _)
 all_goals first|omega|exact hst.symm|exact h1 (by omega)|trivial
def QC (P:LI->LI->LI) (ys:LI):Nat->LI
 | 0=>YA.st
 | i+1=>P (QC P ys i) ((ys.drop (64*i)).take 64)
theorem Z7h {P:LI->LI->LI} (hP:Qw P) (ys:LI):∀i,(QC P ys i).length=8
 | 0=>rfl
 | i+1=>hP.len _ _ (Z7h hP ys i)
theorem Z4X (P:LI->LI->LI) (ys:LI):QC P ys 0=YA.st:=rfl
theorem Z4Y (P:LI->LI->LI) (ys:LI) (i:Nat):QC P ys (i+1)=P (QC P ys i) ((ys.drop (64*i)).take 64):=rfl
attribute [irreducible] QC
noncomputable def ZjS (P:LI->LI->LI) (Q:LI->LI) (T:LI->LI) (B:Nat) (ys:LI) (L k:Nat):Zb:=(E56 P Q T B).withL 208 0 (goM 0 (Zh6 ys [1779033703,3144134277,1013904242,2773480762,1359893119,2600822924,528734635,1541459225] 0 L) (ys.length=64*k/\L=64*k) (YD 0 k 9 (fun i=>i<k) (fun i=>i=k) (fun _=>False) (fun _=>False) (fun i=>ZbL (QC P ys i)) (fun i=>ZbL (QC P ys i)) (fun i=>ZbL (QC P ys i))))
theorem Zh7 {P:LI->LI->LI} (hP:Qw P) (hB:B<=100000000000) (ys:LI) (L k:Nat):(ZjS P Qa Uy B ys L k).Ok:=by
 unfold ZjS
 refine Zb.withGoM (N:=20) (S:=fun i=>Zh6 ys (QC P ys i) (64*i) (64*k-64*i)) (ZjR hP hB) (by kernel_rfl) fun hC=>⟨?_,fun i hi hgo=> ?_⟩
 ·rw [hC.2,Z4X];rfl
 ·exact Zmd P Qa Uy B ys (QC P ys i) (QC P ys (i+1)) _ _ _ _ k i _ _ hi hC.1 rfl rfl rfl rfl (Z7h hP ys i) (Z4Y _ _ _) (fun h=>⟨h,h⟩) (fun h=>h)
theorem Zme (P:LI->LI->LI) (Q:LI->LI) (T:LI->LI) (B:Nat) (bs ys r:LI) (n L k:Nat) (hn:n=bs.length) (hB:n<=B) (hy:ys=Q bs) (hL:L=ys.length) (hk:ys.length=64*k) (hr:r=T (QC P ys k)):
  evF (ZjS P Q T B ys L k) 20 208 [.vints .u8 bs n] ⟨0,[]⟩ (Yz 0 [] (.agg [.arr .u8 32 r]) 0 []):=by
 refine @Eq.mpr _ (let a:=[(1779033703:Int),3144134277,1013904242,2773480762,1359893119,2600822924,528734635,1541459225];
 Z7 (n=bs.length) (Z7 (bs.length<=B) (Z7 (List.length (Q bs)=L) (Z7 (L<=List.length (Q bs)) (Q bs=ys/\a=a/\Z0=Z0/\(ys.length=64*k/\L=64*k)/\∀(i:Nat),i<=k->(∀(j:Nat),j<i->(fun (i:Nat)=>i<k) j)->(i=k->T (QC P ys i)=r/\True)/\(False->Z0=r/\True)/\(False->False)))))) (by kernel_rfl) ?_
 conv=>zeta
 try simp only [vcA]
 try simp only [vcB]
 try simp only [vcC]
 subst hy hr
 refine ⟨hn,by omega, ?_⟩
 exact ⟨hL.symm,by omega,rfl,⟨hk,by omega⟩,fun i hi _=>⟨fun he=>by rw [he],fun h=>h.elim,fun h=>h⟩⟩
theorem Ze5 (bs:LI) (h:bs.length<=100000000000):(Qa bs).length=64*((Qa bs).length/64):=by
 have:(Qa bs).length=bs.length+1+((128-((bs.length:Int)+9)%64)%64).toNat+8:=by
  unfold Qa Z23
  rw [Zh4 _ h]
  simp only [J6,Jk,Jr,Z3z,List.length_replicate]
 omega
@[irreducible] def Ze6 (P:LI->LI->LI) (bs:LI):LI:=Uy (QC P (Qa bs) ((Qa bs).length/64))
theorem ZbM {P:LI->LI->LI} (hP:Qw P) (bs:LI) (h:bs.length<=100000000000):Zs PP 208 [.vints .u8 bs bs.length] (.agg [.arr .u8 32 (Ze6 P bs)]) 0 []:=by
 unfold Ze6
 exact .ev (Zh7 hP (J4 _) _ _ _) (Zme P Qa Uy 100000000000 bs _ _ _ _ _ rfl h rfl rfl (Ze5 bs h) rfl)
def Z7i (H:LI->LI) (B:Nat):ZI:=fun args h K=>Zz none h true 20 args fun a=>Un a fun xs=>Z7 (xs.length<=B) (K (.agg [.arr .u8 32 (H xs)]))
theorem Z7j {f:FuncId} (hp:∀xs:LI,xs.length<=B->Zs PP f [.vints .u8 xs xs.length] (.agg [.arr .u8 32 (H xs)]) 0 []) (args:List AV) (h:Z8) (K:AV->Prop) (hl:Z7i H B args h K):Ze PP f args h fun o h'=>∃v,o=.ret v/\h'=h/\K v:=by
 refine Zs.psumm (d:=20) (Zk _ _ _ _ _ hl fun a ha=> ?_)
 obtain ⟨xs,rfl,hK⟩:=W9 ha
 obtain ⟨hx,hK⟩:=Zd hK
 exact ⟨_,hp xs hx,fun _=>rfl,hK⟩
noncomputable def ZjT (H:LI->LI) (B:Nat):Zb:=G0.withP 208 (Z7i H B)
theorem Zmf (H:LI->LI) (B:Nat) (bs r:LI) (n:Nat) (hn:n=bs.length) (hb:n<=B) (h32:32<=B) (hl:(H bs).length=32) (hr:r=H (H bs)):
  evF (ZjT H B) 20 206 [.vints .u8 bs n] ⟨0,[]⟩ (Yz 0 [] (.agg [.arr .u8 32 r]) 0 []):=by
 refine @Eq.mpr _ (let a:=List.length (H bs);
 Z7 (n=bs.length) (Z7 (bs.length<=B) (Z7 (a=32) (Z7 (32=a) (Z7 (a<=B) (H (H bs)=r/\True)))))) (by kernel_rfl) ?_
 conv=>zeta
 try simp only [vcA]
 try simp only [vcB]
 try simp only [vcC]
 subst hr
 exact ⟨hn,by omega,hl,hl.symm,by omega,rfl⟩
theorem Zaf (hp:∀xs:LI,xs.length<=B->Zs PP 208 [.vints .u8 xs xs.length] (.agg [.arr .u8 32 (H xs)]) 0 []):(ZjT H B).Ok:=Zb.withP_ok Zm (Z7j hp)
def kxE (key:LI) (c:Int) (i:Nat):Int:=if (i:Int)<32 then Ys .u8 (key.getD i 0) c else c
def kxR (key:LI) (c:Int):Nat->LI
 | 0=>[]
 | i+1=>kxR key c i++[kxE key c i]
theorem Z0U (key:LI) (c:Int):∀i,(kxR key c i).length=i
 | 0=>rfl
 | i+1=>by rw [kxR,J6,Z0U key c i];rfl
def tgS (key ms xs ys:LI) (i:Nat):St:=⟨47,[(8,.int .i64 i),(0,.vints .u8 key 32),(6,.nslice ⟨1,0,0,0,0⟩ 1 i i),(7,.nslice ⟨2,0,0,0,0⟩ 1 i i),(1,.vints .u8 ms 32),(4,pt 0)],⟨3,[(2,.ints .u8 ys),(1,.ints .u8 xs),(0,.flat [.arr .u8 32 Z0])]⟩,[]⟩
def tgE (ms xs ys:LI) (i:Nat):St:=⟨47,[(6,.nslice ⟨1,0,0,0,0⟩ 1 i i),(7,.nslice ⟨2,0,0,0,0⟩ 1 i i),(1,.vints .u8 ms 32),(4,pt 0)],⟨3,[(2,.ints .u8 ys),(1,.ints .u8 xs),(0,.flat [.arr .u8 32 Z0])]⟩,[]⟩
theorem Zot (key ms xs ys xs' ys':LI) (i:Nat) (Z1 Z2:Prop) (hi:i<=64) (hx:xs.length=i) (hy:ys.length=i) (hx':xs'=xs++[kxE key 54 i]) (hy':ys'=ys++[kxE key 92 i]) (h1:i<64->Z1) (h2:i=64->Z2):
  ZG G0 20 125 0 0 (tgS key ms xs ys i) (rdM 0 0 9 (tgS key ms xs' ys' (i+1)) (tgE ms xs ys i) (tgE ms xs ys i) (tgE ms xs ys i) Z1 Z2 False False):=by
 refine @Eq.mpr _ (let p:=decide (u8=u8/\xs.length=i);let k:=List.getD key (Int.toNat (↑i:Int)) 0;let j:=xs++[Ys u8 k 54];let c:=j.length;let h:=decide (u8=u8/\ys.length=i);let g:=ys++[Ys u8 k 92];let b:=g.length;let a:=i+1;let f:=decide (wrap i64 ((↑i:Int)+1)=(↑a:Int));let o:=xs++[(54:Int)];let e:=o.length;let n:=ys++[(92:Int)];let d:=n.length;let m:=decide (i=i);let l:=decide (i<=i);
 Z5 (decide ((↑i:Int)<64)) (Z5 (decide ((↑i:Int)<32)) (Z7 (0<=(↑i:Int)/\(↑i:Int)<32) (Z6 p (Z7 (c*1<=140737488355328) (Z6 h (Z7 (b*1<=140737488355328) (Z6 f (key=key/\Z7 (c=a) (Z7 (a<=c) (Z7 (b=a) (Z7 (a<=b) (ms=ms/\g=ys'/\j=xs'/\Z0=Z0/\Z1))))))))))) (Z6 p (Z7 (e*1<=140737488355328) (Z6 h (Z7 (d*1<=140737488355328) (Z6 f (key=key/\Z7 (e=a) (Z7 (a<=e) (Z7 (d=a) (Z7 (a<=d) (ms=ms/\n=ys'/\o=xs'/\Z0=Z0/\Z1))))))))))) (Z6 m (Z6 l (Z6 m (Z6 l (ms=ms/\ys=ys/\xs=xs/\Z0=Z0/\Z2)))))) (by kernel_rfl) ?_
 conv=>zeta
 try simp only [vcA]
 try simp only [vcB]
 try simp only [vcC]
 have hw:i64.wrap ((i:Int)+1)=((i+1:Nat):Int):=w64 (by omega)
 refine ⟨fun hlt=>⟨fun h32=> ?_,fun h32=> ?_⟩,fun hge=> ?_⟩
 ·unfold kxE at hx' hy'
  rw [if_pos h32] at hx' hy'
  simp only [hw,J6,Jk,Jr,hx,hy]
  repeat' (first|(refine J9 ?_ ?_)|intro _)
  all_goals first|omega|exact hx'.symm|exact hy'.symm|exact h1 (by omega)|trivial
 ·unfold kxE at hx' hy'
  rw [if_neg h32] at hx' hy'
  simp only [hw,J6,Jk,Jr,hx,hy]
  repeat' (first|(refine J9 ?_ ?_)|intro _)
  all_goals first|omega|exact hx'.symm|exact hy'.symm|exact h1 (by omega)|trivial
 ·exact h2 (by omega)
noncomputable def E57 (H:LI->LI) (B:Nat) (key ms:LI):Zb:=(ZjT H B).withL 125 0 (goM 0 (tgS key ms [] [] 0) True (YD 0 64 9 (fun i=>i<64) (fun i=>i=64) (fun _=>False) (fun _=>False) (fun i=>tgE ms (kxR key 54 i) (kxR key 92 i) i) (fun i=>tgE ms (kxR key 54 i) (kxR key 92 i) i) (fun i=>tgE ms (kxR key 54 i) (kxR key 92 i) i)))
theorem ZjU (hp:∀xs:LI,xs.length<=B->Zs PP 208 [.vints .u8 xs xs.length] (.agg [.arr .u8 32 (H xs)]) 0 []) (key ms:LI):(E57 H B key ms).Ok:=by
 unfold E57
 refine Zb.withL_join (H:=G0) (Zaf hp) rfl ?_
 refine Zb.withGoM (N:=20) (S:=fun i=>tgS key ms (kxR key 54 i) (kxR key 92 i) i) Zm (by kernel_rfl) fun hC=>⟨rfl,fun i hi hgo=> ?_⟩
 exact Zot key ms _ _ (kxR key 54 (i+1)) (kxR key 92 (i+1)) i _ _ hi (Z0U _ _ _) (Z0U _ _ _) rfl rfl (fun h=>⟨h,h⟩) (fun h=>h)
attribute [irreducible] kxR
theorem Z0V {n:Nat} (h:xs.length=n):List.take n (ZX 0 xs)=xs:=by subst h;rw [Yb,JV,Jq]
theorem Zou (H:LI->LI) (B:Nat) (key ms r:LI) (hk:key.length=32) (hm:ms.length=32) (hB:128<=B) (hl:∀x,(H x).length=32) (hr:r=H (kxR key 92 64++H (kxR key 54 64++ms))):
  evF (E57 H B key ms) 20 125 [.vints .u8 key 32,.vints .u8 ms 32] ⟨0,[]⟩ (Yz 0 [] (.agg [.arr .u8 32 r]) 0 []):=by
 refine @Eq.mpr _ (key=key/\
 ms=ms/\
 ([]:LI)=[]/\
 ([]:LI)=[]/\
 Z0=Z0/\
 True/\
 ∀(i:Nat),
 let o:=[]++List.take i (ZX 0 (kxR key 54 i));let d:=o.length;let k:=o++List.take 32 ms;let a:=k.length;let h:=List.take a (ZX 0 k);let g:=h.length;let f:=[]++List.take i (ZX 0 (kxR key 92 i));let c:=f.length;let e:=H h;let n:=f++e;let b:=n.length;let m:=List.take b (ZX 0 n);let l:=m.length;
 i<=64->(∀(j:Nat),j<i->(fun (i:Nat)=>i<64) j)->(i=64->Z7 (u8=u8/\0+i<=List.length (kxR key 54 i)) (Z7 (d*1<=140737488355328) (Z7 (u8=u8/\d=d) (Z7 (a*1<=140737488355328) (Z7 (0+a<=a) (Z7 (a=g) (Z7 (g<=B) (Z7 (u8=u8/\0+i<=List.length (kxR key 92 i)) (Z7 (c*1<=140737488355328) (Z7 (u8=u8/\e.length=32) (Z7 (u8=u8/\c=c) (Z7 (b*1<=140737488355328) (Z7 (0+b<=b) (Z7 (b=l) (Z7 (l<=B) (H m=r/\True))))))))))))))))/\(False->Z0=r/\True)/\(False->False)) (by kernel_rfl) ?_
 conv=>zeta
 try simp only [vcA]
 try simp only [vcB]
 try simp only [vcC]
 refine fun i hi _=>⟨fun he=> ?_,fun h=>h.elim,fun h=>h⟩
 subst he
 have a1:=Z0U key 54 64
 have a2:=Z0U key 92 64
 have e1:=Z0V a1
 have e2:=Z0V a2
 have e3:List.take 32 ms=ms:=by rw [<-hm];exact Jq
 simp only [e1,e2,e3,K5,Z0V rfl]
 have l1:=hl (kxR key 54 64++ms)
 subst hr
 simp only [J6,a1,a2,hm,l1]
 repeat' (first|(refine J9 ?_ ?_)|intro _)
 all_goals first|omega|trivial
@[irreducible] def Qb (H:LI->LI) (key ms:LI):LI:=H (kxR key 92 64++H (kxR key 54 64++ms))
theorem ZbN (hp:∀xs:LI,xs.length<=B->Zs PP 208 [.vints .u8 xs xs.length] (.agg [.arr .u8 32 (H xs)]) 0 []) (hB:128<=B) (hl:∀x,(H x).length=32) (key ms:LI) (h1:key.length=32) (h2:ms.length=32):Zs PP 125 [.vints .u8 key 32,.vints .u8 ms 32] (.agg [.arr .u8 32 (Qb H key ms)]) 0 []:=by
 unfold Qb
 exact .ev (ZjU hp _ _) (Zou H B _ _ _ h1 h2 hB hl rfl)
def Ze7 (T:LI->LI->LI):ZI:=fun args h K=>Zz none h true 20 args fun a=>match a with
 | [.vints .u8 key len,.vints .u8 ms len']=>Z7 (key.length=32/\len=32/\ms.length=32/\len'=32) (K (.agg [.arr .u8 32 (T key ms)]))
 | _=>False
theorem Ze8 (hp:∀xs:LI,xs.length<=B->Zs PP 208 [.vints .u8 xs xs.length] (.agg [.arr .u8 32 (H xs)]) 0 []) (hB:128<=B) (hl:∀x,(H x).length=32) (args:List AV) (h:Z8) (K:AV->Prop) (hl':Ze7 (Qb H) args h K):Ze PP 125 args h fun o h'=>∃v,o=.ret v/\h'=h/\K v:=by
 refine Zs.psumm (d:=20) (Zk _ _ _ _ _ hl' fun a ha=> ?_)
 split at ha
 ·obtain ⟨⟨h1,rfl,h2,rfl⟩,hK⟩:=Zd ha
  exact ⟨_,ZbN hp hB hl _ _ h1 h2,fun _=>rfl,hK⟩
 ·exact ha.elim
@[irreducible] def Up (H:LI->LI) (bs:LI):LI:=H (H bs)
theorem ZbO (hp:∀xs:LI,xs.length<=B->Zs PP 208 [.vints .u8 xs xs.length] (.agg [.arr .u8 32 (H xs)]) 0 []) (hB:128<=B) (hl:∀x,(H x).length=32) (args:List AV) (h:Z8) (K:AV->Prop) (hl':Z7i (Up H) B args h K):Ze PP 206 args h fun o h'=>∃v,o=.ret v/\h'=h/\K v:=by
 refine Z7j (fun xs hx=> ?_) args h K hl'
 unfold Up
 exact .ev (Zaf hp) (Zmf H B xs _ _ rfl hx (by omega) (hl xs) rfl)
def U32 (x:Int):Prop:=0<=x/\x<4294967296
theorem Z7k (x:Int):u32.wrap x=x%4294967296:=by
 simp_all [wrap,IntKind.bits,IntKind.signed]
theorem Z3A (x:Int):U32 (u32.wrap x):=by rw [Z7k];unfold U32;omega
theorem XV {x:Int} (h:U32 x):u32.wrap x=x:=by rw [Z7k];unfold U32 at h;omega
theorem wr8 (x:Int):u8.wrap x=x%256:=by
 simp_all [wrap,IntKind.bits,IntKind.signed]
theorem Zmg (x y:Int):U32 (bOr .u32 x y):=Z3A _
theorem Vc (x y:Nat) (hx:x<4294967296) (hy:y<4294967296):Ys .u32 x y=((x^^^y:Nat):Int):=by
 unfold Ys
 rw [XV]
 all_goals grind [U32,IntKind.bits]
theorem Z5Y (x y:Nat) (hx:x<4294967296) (hy:y<4294967296):bOr .u32 x y=((x|||y:Nat):Int):=by
 unfold bOr
 rw [XV]
 ·show (((BitVec.ofInt 32 (x:Int)|||BitVec.ofInt 32 (y:Int)).toNat:Nat):Int)=_
  rw [BitVec.toNat_or,JK,JK,JL,JL,Jz hx,Jz hy]
 grind [U32,IntKind.bits]
theorem Z3B (x y:Nat) (hx:x<4294967296) (hy:y<4294967296):UH .u32 x y=((x&&&y:Nat):Int):=by
 unfold UH
 rw [XV]
 ·show (((BitVec.ofInt 32 (x:Int)&&&BitVec.ofInt 32 (y:Int)).toNat:Nat):Int)=_
  rw [BitVec.toNat_and,JK,JK,JL,JL,Jz hx,Jz hy]
 grind [U32,IntKind.bits]
theorem U32.nat {x:Int} (h:U32 x):∃n:Nat,x=n/\n<4294967296:=⟨x.toNat,by unfold U32 at h;omega,by unfold U32 at h;omega⟩
theorem U32.of {n:Nat} (h:n<4294967296):U32 (n:Int):=by unfold U32;omega
theorem ZbP {x y:Int}:Ys .u32 x y=Ys .u32 y x:=by unfold Ys;rw [BitVec.xor_comm]
theorem Z99 {x y z:Int} (hx:U32 x) (hy:U32 y) (hz:U32 z):Ys .u32 (Ys .u32 x y) z=Ys .u32 x (Ys .u32 y z):=by
 obtain ⟨x,rfl,gx⟩:=hx.nat
 obtain ⟨y,rfl,gy⟩:=hy.nat
 obtain ⟨z,rfl,gz⟩:=hz.nat
 rw [Vc x y gx gy,Vc y z gy gz,Vc _ z (Kb (n:=32) gx gy) gz,Vc x _ gx (Kb (n:=32) gy gz),Nat.xor_assoc]
theorem ZbQ {x:Int} (hx:U32 x):Ys .u32 0 x=x:=by
 obtain ⟨x,rfl,gx⟩:=hx.nat
 have:=Vc 0 x (by omega) gx
 simp_all
theorem Z5Z (x n:Nat) (hn:n<=32):Zr .u32 x n=((x/2^n:Nat):Int):=by
 grind [Zr,IntKind.bits]
theorem Zmh {x:Int} (hx:U32 x) (n:Nat) (hn:n<=32):U32 (Zr .u32 x n):=by
 obtain ⟨x,rfl,gx⟩:=hx.nat
 rw [Z5Z x n hn]
 exact U32.of (JO (Nat.div_le_self x (2^n)) gx)
theorem Z9a (w n:Int):U32 (Z8D w n):=Zmg _ _
theorem Zag {w:Int} (hw:U32 w) (a b c:Int):sg3 a b c w=WI 32 [a,b,c] w:=by
 obtain ⟨x,rfl,gx⟩:=hw.nat
 have h0:Zr .u32 (x:Int) 32=0:=by
  rw [show (32:Int)=((32:Nat):Int) from rfl,Z5Z x 32 (by omega),Nat.div_eq_of_lt gx]
  rfl
 simp_all [sg3,WI,ZbQ,Z9a]
theorem Zah {w:Int} (hw:U32 w) (a b:Int) (n:Nat) (hn:n<=32):rg3 a b n w=WI n [a,b] w:=by
 have hs:=Zmh hw n hn
 unfold rg3 WI
 simp only [List.foldl_cons,List.foldl_nil]
 rw [ZbP,Z99 hs (Z9a _ _) (Z9a _ _)]
theorem WS (x i:Nat) (hi:i<=32):Int.tmod (Zr .u32 x i) 2=(((x.testBit i).toNat:Nat):Int):=by
 rw [Z5Z x i hi]
 rw [Int.tmod_eq_emod_of_nonneg (Int.natCast_nonneg _),Nat.toNat_testBit]
 rfl
theorem Z60 (b:Bool) (i:Nat) (hi:i<32):ZC .u32 ((b.toNat:Nat):Int) i=((2^i*b.toNat:Nat):Int):=by
 unfold ZC
 have:min (i:Int).toNat u32.bits=i:=by simp [IntKind.bits];omega
 rw [this]
 have h2:(2:Nat)^i<2^32:=Nat.pow_lt_pow_right (by decide) hi
 have h3:((2:Nat)^i*b.toNat)<4294967296:=by cases b<;>simp_all
 rw [show ((b.toNat:Nat):Int)*2^i=((2^i*b.toNat:Nat):Int) by push_cast;rw [Int.mul_comm]]
 exact XV (U32.of h3)
theorem Zai (x i:Nat):x%2^(i+1)=x%2^i+2^i*(x.testBit i).toNat:=by
 rw [Nat.toNat_testBit,Nat.mod_pow_succ]
theorem Zaj (x i:Nat) (hx:x<4294967296) (hi:i<32):u32.wrap (((x%2^i:Nat):Int)+((2^i*(x.testBit i).toNat:Nat):Int))=((x%2^(i+1):Nat):Int):=by
 rw [Zai]
 rw [XV]
 ·omega
 ·rw [show ((x%2^i:Nat):Int)+((2^i*(x.testBit i).toNat:Nat):Int)=((x%2^i+2^i*(x.testBit i).toNat:Nat):Int) by omega,<-Zai]
  exact U32.of (JO (Nat.mod_le _ _) hx)
theorem Z4Z (a b c:Nat) (ha:a<4294967296) (hb:b<4294967296) (hc:c<4294967296):∀i,i<=32->Vw a b c i=(((a&&&(b|||c)|||b&&&c)%2^i:Nat):Int)
 | 0,_=>by simp [Vw]
 | i+1,hi=>by
  have hm:(a&&&(b|||c)|||b&&&c)<4294967296:=Nat.or_lt_two_pow (n:=32) (JO Kn ha) (JO Kn hb)
  rw [Vw,Z4Z a b c ha hb hc i (by omega),WS a i (by omega),WS b i (by omega),WS c i (by omega),<-Zaj _ i hm (by omega)]
  have ht:(a&&&(b|||c)|||b&&&c).testBit i=(a.testBit i&&(b.testBit i||c.testBit i)||b.testBit i&&c.testBit i):=by simp
  rw [ht]
  have h1:=Z60 true i (by omega)
  have hx:u32.wrap (((a&&&(b|||c)|||b&&&c)%2^i:Nat):Int)=(((a&&&(b|||c)|||b&&&c)%2^i:Nat):Int):=XV (U32.of (JO (Nat.mod_le _ _) hm))
  rw [Z7k,Z7k]
  cases a.testBit i<;>cases b.testBit i<;>cases c.testBit i<;>simp at h1 hx⊢ <;>first|rw [h1]|rw [hx]
theorem Zh8 {a b c:Int} (ha:U32 a) (hb:U32 b) (hc:U32 c):XE a b c=bOr .u32 (UH .u32 a (bOr .u32 b c)) (UH .u32 b c):=by
 obtain ⟨a,rfl,ga⟩:=ha.nat
 obtain ⟨b,rfl,gb⟩:=hb.nat
 obtain ⟨c,rfl,gc⟩:=hc.nat
 have h1:=Nat.or_lt_two_pow (n:=32) gb gc
 have h2:a&&&(b|||c)<4294967296:=JO Kn ga
 have h3:b&&&c<4294967296:=JO Kn gb
 rw [Z5Y b c gb gc,Z3B a _ ga h1,Z3B b c gb gc,Z5Y _ _ h2 h3]
 unfold XE
 rw [Z4Z a b c ga gb gc 32 (by omega),Jz]
 exact Nat.or_lt_two_pow (n:=32) h2 h3
theorem Z50 (a b c:Nat) (ha:a<4294967296) (hb:b<4294967296) (hc:c<4294967296):∀i,i<=32->U5 a b c i=(((c^^^(a&&&(b^^^c)))%2^i:Nat):Int)
 | 0,_=>by simp [U5]
 | i+1,hi=>by
  have hm:(c^^^(a&&&(b^^^c)))<4294967296:=Kb (n:=32) hc (JO Kn ha)
  rw [U5,Z50 a b c ha hb hc i (by omega),WS a i (by omega),WS b i (by omega),WS c i (by omega),<-Zaj _ i hm (by omega)]
  have ht:(c^^^(a&&&(b^^^c))).testBit i=(c.testBit i^^(a.testBit i&&(b.testBit i^^c.testBit i))):=by simp
  rw [ht]
  have h1:=Z60 true i (by omega)
  have h0:=Z60 false i (by omega)
  cases a.testBit i<;>cases b.testBit i<;>cases c.testBit i<;>simp at h1 h0⊢ <;>first|rw [h1]|rw [h0,Int.add_zero]
theorem Zh9 {a b c:Int} (ha:U32 a) (hb:U32 b) (hc:U32 c):Xz a b c=Ys .u32 c (UH .u32 a (Ys .u32 b c)):=by
 obtain ⟨a,rfl,ga⟩:=ha.nat
 obtain ⟨b,rfl,gb⟩:=hb.nat
 obtain ⟨c,rfl,gc⟩:=hc.nat
 have h1:=Kb (n:=32) gb gc
 have h2:a&&&(b^^^c)<4294967296:=JO Kn ga
 rw [Vc b c gb gc,Z3B a _ ga h1,Vc _ _ gc h2]
 unfold Xz
 rw [Z50 a b c ga gb gc 32 (by omega),Jz]
 exact Kb (n:=32) gc h2
theorem Z51 (bl:LI) (t:Nat):Wr bl (t+1)=(Wr bl t).set t (if t<16 then Z97 bl t else Ze0 (Wr bl t) t):=by rw [Wr]
theorem Z52 (bl:LI) (s t:Nat) (hs:s<t):∀u,(Wr bl (t+u)).getD s 0=(Wr bl t).getD s 0
 | 0=>rfl
 | u+1=>by
  rw [<-Nat.add_assoc,Z51,<-Z52 bl s t hs u]
  simp only [J3]
  rw [List.getElem?_set_ne (by omega)]
@[irreducible] def Z24 (bl:LI) (t:Nat):Int:=(Wr bl 64).getD t 0
theorem Z0W (bl:LI) {s t:Nat} (hs:s<t) (ht:t<=64):(Wr bl t).getD s 0=Z24 bl s:=by
 unfold Z24
 have:=Z52 bl s t hs (64-t)
 rw [show t+(64-t)=64 by omega] at this
 omega
theorem Zak (bl:LI) {t:Nat} (ht:t<64):Z24 bl t=if t<16 then Z97 bl t else Ze0 (Wr bl t) t:=by
 rw [<-Z0W bl (Nat.lt_succ_self t) (by omega),Z51]
 simp_all [Z3x]
theorem Zal (bl:LI) {t:Nat} (ht:t<16):Z24 bl t=Z97 bl t:=by rw [Zak bl (by omega),if_pos ht]
theorem Zam (bl:LI) {t:Nat} (h16:16<=t) (ht:t<64):Z24 bl t=u32.wrap (u32.wrap (u32.wrap (rg3 17 19 10 (Z24 bl (t-2))+Z24 bl (t-7))+rg3 7 18 3 (Z24 bl (t-15)))+Z24 bl (t-16)):=by
 rw [Zak bl (by omega),if_neg (by omega)]
 unfold Ze0
 rw [Z0W bl (by omega) (by omega),Z0W bl (by omega) (by omega),Z0W bl (by omega) (by omega),Z0W bl (by omega) (by omega)]
theorem Ze9 (bl:LI) {t:Nat} (ht:t<64):U32 (Z24 bl t):=by
 by_cases h:t<16
 ·rw [Zal bl h];exact Z3A _
 simp_all [Zam,Z3A]
theorem Z0X (t:Nat):mAt (t:Int)=t%16:=by
 unfold mAt
 rw [tm (by omega)]
 omega
theorem Vx (i t:Nat) (hi:i<8) (ht:t<=64):atI (i:Int) (t:Int)=(i+64-t)%8:=by
 grind [atI,w64]
theorem Z3C (l:LI) (i j:Nat) (x:Int) (hi:i<l.length):(l.set i x).getD j 0=if i=j then x else l.getD j 0:=by
 grind
def Ring (bl r:LI) (t:Nat):Prop:=r.length=16/\∀s,s<max 16 t->max 16 t<=s+16->r.getD (s%16) 0=Z24 bl s
theorem Ring.step {r:LI} {t:Nat} (h:Ring bl r t) (ht:t<64):Ring bl (Z0b t r) (t+1):=by
 obtain ⟨hl,hr⟩:=h
 refine ⟨by rw [Z76,hl],fun s h1 h2=> ?_⟩
 unfold Z0b
 by_cases h16:t<16
 ·grind
 ·rw [if_pos (by omega)]
  have w1:i64.wrap ((t:Int)+1)=((t+1:Nat):Int):=by rw [w64 (by omega)];omega
  have w9:i64.wrap ((t:Int)+9)=((t+9:Nat):Int):=by rw [w64 (by omega)];omega
  have w14:i64.wrap ((t:Int)+14)=((t+14:Nat):Int):=by rw [w64 (by omega)];omega
  have r0:=hr (t-16) (by omega) (by omega)
  have r1:=hr (t-15) (by omega) (by omega)
  have r9:=hr (t-7) (by omega) (by omega)
  have r14:=hr (t-2) (by omega) (by omega)
  rw [show (t-16)%16=t%16 by omega] at r0
  rw [show (t-15)%16=(t+1)%16 by omega] at r1
  rw [show (t-7)%16=(t+9)%16 by omega] at r9
  rw [show (t-2)%16=(t+14)%16 by omega] at r14
  rw [w1,w9,w14,Z0X,Z0X,Z0X,Z0X,r0,r1,r9,r14,Z3C _ _ _ _ (by omega)]
  by_cases hs:s=t
  ·subst hs
   rw [if_pos rfl,Zam bl (by omega) ht]
   have e1:=Zah (Ze9 bl (t:=s-2) (by omega)) 17 19 10 (by omega)
   have e2:=Zah (Ze9 bl (t:=s-15) (by omega)) 7 18 3 (by omega)
   rw [show ((10:Nat):Int)=10 from rfl] at e1
   rw [show ((3:Nat):Int)=3 from rfl] at e2
   simp only [Z7k]
   omega
  grind
def U8 (x:Int):Prop:=0<=x/\x<256
theorem Z2h (x n:Nat) (hn:n<=32) (h:x*2^n<4294967296):ZC .u32 x n=((x*2^n:Nat):Int):=by
 unfold ZC
 have:min (n:Int).toNat u32.bits=n:=by simp [IntKind.bits];omega
 rw [this,show (x:Int)*2^n=((x*2^n:Nat):Int) by simp_all]
 exact XV (U32.of h)
theorem Z2i (x y:Nat) (hx:x<16777216) (hy:y<256):bOr .u32 (ZC .u32 x 8) y=((x*256+y:Nat):Int):=by
 have:=Z2h x 8 (by omega) (by omega)
 rw [show ((8:Nat):Int)=8 from rfl] at this
 rw [this,Z5Y _ _ (by omega) (by omega),<-Nat.shiftLeft_eq,<-Nat.shiftLeft_add_eq_or_of_lt (by omega),Nat.shiftLeft_eq]
theorem Qc {P:Int->Prop} {l:LI} (h:∀x∈l,P x) (h0:P 0) (i:Nat):P (l.getD i 0):=by
 grind
theorem U8.nat {x:Int} (h:U8 x):∃n:Nat,x=n/\n<256:=⟨x.toNat,by unfold U8 at h;omega,by unfold U8 at h;omega⟩
theorem Zha (bl:LI) (hb:∀x∈bl,U8 x) (t:Nat):W1 bl (4*t)=Z97 bl t:=by
 unfold W1 Z97
 obtain ⟨a,ea,ha⟩:=(Qc (P:=U8) hb (by unfold U8;omega) (4*t)).nat
 obtain ⟨b,eb,hb'⟩:=(Qc (P:=U8) hb (by unfold U8;omega) (4*t+1)).nat
 obtain ⟨c,ec,hc⟩:=(Qc (P:=U8) hb (by unfold U8;omega) (4*t+2)).nat
 obtain ⟨d,ed,hd⟩:=(Qc (P:=U8) hb (by unfold U8;omega) (4*t+3)).nat
 rw [ea,eb,ec,ed]
 rw [XV (x:=(a:Int)) (U32.of (by omega)),XV (x:=(b:Int)) (U32.of (by omega)),XV (x:=(c:Int)) (U32.of (by omega)),XV (x:=(d:Int)) (U32.of (by omega))]
 have z:=Z2i 0 a (by omega) ha
 have s0:ZC .u32 0 8=0:=by decide
 rw [show ZC .u32 ((0:Nat):Int) 8=0 from s0] at z
 rw [z,Z2i _ b (by omega) hb',Z2i _ c (by omega) hc,Z2i _ d (by omega) hd]
 have g1:=Z2h a 24 (by omega) (by omega)
 have g2:=Z2h b 16 (by omega) (by omega)
 have g3:=Z2h c 8 (by omega) (by omega)
 rw [show ((24:Nat):Int)=24 from rfl] at g1
 rw [show ((16:Nat):Int)=16 from rfl] at g2
 rw [show ((8:Nat):Int)=8 from rfl] at g3
 simp only [Z7k]
 omega
theorem Ring.first (bl:LI) (hb:∀x∈bl,U8 x):Ring bl (V6 bl) 0:=by
 refine ⟨rfl,fun s h1 _=> ?_⟩
 have h16:s<16:=by omega
 rw [Zal bl h16,<-Zha bl hb,Jz h16]
 have:s=0\/s=1\/s=2\/s=3\/s=4\/s=5\/s=6\/s=7\/s=8\/s=9\/s=10\/s=11\/s=12\/s=13\/s=14\/s=15:=by omega
 rcases this with rfl|rfl|rfl|rfl|rfl|rfl|rfl|rfl|rfl|rfl|rfl|rfl|rfl|rfl|rfl|rfl<;>rfl
def Z3D (x y:LI) (t:Nat):Prop:=x.length=8/\∀i,i<8->x.getD ((i+64-t)%8) 0=y.getD i 0
theorem Z3D.step {x y m:LI} {w:Int} {t:Nat} (h:Z3D x y t) (hU:∀i,i<8->U32 (y.getD i 0)) (ht:t<64) (hm:m.getD (t%16) 0=w):
  Z3D (Z47 t m x) (Z1S XE Xz (VI.getD t 0) w y) (t+1):=by
 obtain ⟨hl,hr⟩:=h
 have a0:=Vx 0 t (by omega) (by omega)
 have a1:=Vx 1 t (by omega) (by omega)
 have a2:=Vx 2 t (by omega) (by omega)
 have a3:=Vx 3 t (by omega) (by omega)
 have a4:=Vx 4 t (by omega) (by omega)
 have a5:=Vx 5 t (by omega) (by omega)
 have a6:=Vx 6 t (by omega) (by omega)
 have a7:=Vx 7 t (by omega) (by omega)
 have h0:=hr 0 (by omega)
 have h1:=hr 1 (by omega)
 have h2:=hr 2 (by omega)
 have h3:=hr 3 (by omega)
 have h4:=hr 4 (by omega)
 have h5:=hr 5 (by omega)
 have h6:=hr 6 (by omega)
 have h7:=hr 7 (by omega)
 rw [<-a0] at h0
 rw [<-a1] at h1
 rw [<-a2] at h2
 rw [<-a3] at h3
 rw [<-a4] at h4
 rw [<-a5] at h5
 rw [<-a6] at h6
 rw [<-a7] at h7
 refine ⟨by rw [Z77,hl], ?_⟩
 have hadd:Z1l t m x=u32.wrap (u32.wrap (u32.wrap (u32.wrap (y.getD 7 0+sg3 6 11 25 (y.getD 4 0))+Xz (y.getD 4 0) (y.getD 5 0) (y.getD 6 0))+VI.getD t 0)+w):=by
  unfold Z1l
  rw [Z0X,hm]
  rw [show atI 7 (t:Int)=atI ((7:Nat):Int) t from rfl,show atI 4 (t:Int)=atI ((4:Nat):Int) t from rfl,show atI 5 (t:Int)=atI ((5:Nat):Int) t from rfl,show atI 6 (t:Int)=atI ((6:Nat):Int) t from rfl]
  rw [h4,h5,h6,h7,Zag (hU 4 (by omega)),Zh9 (hU 4 (by omega)) (hU 5 (by omega)) (hU 6 (by omega))]
  rw [Jx,JA]
 unfold Z47
 rw [hadd]
 rw [show atI 7 (t:Int)=atI ((7:Nat):Int) t from rfl,show atI 3 (t:Int)=atI ((3:Nat):Int) t from rfl,show atI 0 (t:Int)=atI ((0:Nat):Int) t from rfl,show atI 1 (t:Int)=atI ((1:Nat):Int) t from rfl,show atI 2 (t:Int)=atI ((2:Nat):Int) t from rfl]
 rw [h0,h1,h2,h3,<-Zh8 (hU 0 (by omega)) (hU 1 (by omega)) (hU 2 (by omega)),<-Zag (hU 0 (by omega)),a3,a7]
 intro i hi
 rw [Z3C _ _ _ _ (by rw [JW,hl];omega),Z3C _ _ _ _ (by omega)]
 unfold Z1S
 have:i=0\/i=1\/i=2\/i=3\/i=4\/i=5\/i=6\/i=7:=by omega
 rcases this with rfl|rfl|rfl|rfl|rfl|rfl|rfl|rfl
 ·grind [Z7k]
 ·rw [if_neg (by omega),if_neg (by omega),show (1+64-(t+1))%8=(0+64-t)%8 by omega,hr 0 (by omega)];rfl
 ·rw [if_neg (by omega),if_neg (by omega),show (2+64-(t+1))%8=(1+64-t)%8 by omega,hr 1 (by omega)];rfl
 ·rw [if_neg (by omega),if_neg (by omega),show (3+64-(t+1))%8=(2+64-t)%8 by omega,hr 2 (by omega)];rfl
 ·rw [if_neg (by omega),if_pos (by omega)];rfl
 ·rw [if_neg (by omega),if_neg (by omega),show (5+64-(t+1))%8=(4+64-t)%8 by omega,hr 4 (by omega)];rfl
 ·rw [if_neg (by omega),if_neg (by omega),show (6+64-(t+1))%8=(5+64-t)%8 by omega,hr 5 (by omega)];rfl
 ·rw [if_neg (by omega),if_neg (by omega),show (7+64-(t+1))%8=(6+64-t)%8 by omega,hr 6 (by omega)];rfl
theorem Zhb {k w:Int} {y:LI} (hU:∀i,i<8->U32 (y.getD i 0)):∀i,i<8->U32 ((Z1S XE Xz k w y).getD i 0):=by
 intro i hi
 unfold Z1S
 have:i=0\/i=1\/i=2\/i=3\/i=4\/i=5\/i=6\/i=7:=by omega
 rcases this with rfl|rfl|rfl|rfl|rfl|rfl|rfl|rfl
 all_goals simp_all [Z3A]
def W8 (st:LI):Prop:=st.length=8/\∀x∈st,U32 x
theorem W8.get {st:LI} (h:W8 st) (i:Nat):U32 (st.getD i 0):=Qc h.2 (by unfold U32;omega) i
theorem Z7l (bl st:LI) (hb:∀x∈bl,U8 x) (hs:W8 st):∀t,t<=64->Ring bl (WJ (V6 bl) st t).1 t/\Z3D (WJ (V6 bl) st t).2 (Q9 XE Xz (Wr bl 64) st t) t/\∀i,i<8->U32 ((Q9 XE Xz (Wr bl 64) st t).getD i 0)
 | 0,_=>by
  rw [Z4E,ZbJ]
  refine ⟨Ring.first bl hb,⟨hs.1,fun i hi=> ?_⟩,fun i _=>hs.get i⟩
  rw [show (i+64-0)%8=i by omega]
 | t+1,h=>by
  obtain ⟨h1,h2,h3⟩:=Z7l bl st hb hs t (by omega)
  rw [Z4F,ZbI]
  have hR:=h1.step (by omega)
  refine ⟨hR,h2.step h3 (by omega) ?_,Zhb h3⟩
  rw [hR.2 t (by omega) (by omega)]
  unfold Z24
  rfl
theorem ZbR (st x:LI) (i:Nat):VL st x (i+1)=(VL st x i).set i (u32.wrap ((VL st x i).getD i 0+st.getD i 0)):=by rw [VL]
theorem ZbS (st x:LI):VL st x 0=x:=by rw [VL]
theorem Zhc (st x:LI) (hs:st.length=8) (hx:x.length=8):VL st x 8=Zbk st x:=by
 obtain ⟨a0,a1,a2,a3,a4,a5,a6,a7,rfl⟩:=eight st hs
 obtain ⟨b0,b1,b2,b3,b4,b5,b6,b7,rfl⟩:=eight x hx
 simp_all [ZbR,ZbS,Zbk,Int.add_comm]
theorem Z9b {x y:LI} (h:Z3D x y 64) (hy:y.length=8):y=x:=by
 obtain ⟨h4,h5⟩:=h
 obtain ⟨a0,a1,a2,a3,a4,a5,a6,a7,rfl⟩:=eight _ hy
 obtain ⟨b0,b1,b2,b3,b4,b5,b6,b7,rfl⟩:=eight _ h4
 have g0:=h5 0 (by omega)
 have g1:=h5 1 (by omega)
 have g2:=h5 2 (by omega)
 have g3:=h5 3 (by omega)
 have g4:=h5 4 (by omega)
 have g5:=h5 5 (by omega)
 have g6:=h5 6 (by omega)
 have g7:=h5 7 (by omega)
 simp_all
theorem Z7m (st bl:LI) (hb:∀x∈bl,U8 x) (hs:W8 st):XU st bl=Wo st bl:=by
 obtain ⟨_,h2,h3⟩:=Z7l bl st hb hs 64 (by omega)
 have hl:=Z0T (M:=XE) (P:=Xz) (m:=Wr bl 64) hs.1 64
 unfold XU Wo
 rw [Zhc _ _ hs.1 hl]
 congr 1
 exact Z9b h2 hl
theorem Z7n (st bl:LI) (hs:st.length=8):W8 (Wo st bl):=by
 refine ⟨Z4G st bl hs,fun x hx=> ?_⟩
 grind [Wo,Zbk,Kh,Z3A]
def QD (P:LI->LI->LI):Nat->LI->LI->LI
 | 0,st,_=>st
 | n+1,st,ms=>QD P n (P st (ms.take 64)) (ms.drop 64)
theorem Z1u (P:LI->LI->LI):∀(n:Nat) (st ms:LI),QD P (n+1) st ms=P (QD P n st ms) ((ms.drop (64*n)).take 64)
 | 0,_,_=>rfl
 | n+1,st,ms=>by
  rw [QD,Z1u P n,List.drop_drop]
  rw [show 64+64*n=64*(n+1) by omega]
  rfl
theorem Z3E (P:LI->LI->LI):∀(n:Nat) (st ms more:LI),64*n<=ms.length->QD P n st (ms++more)=QD P n st ms
 | 0,_,_,_,_=>rfl
 | n+1,st,ms,more,h=>by
  rw [QD,QD,List.take_append_of_le_length (by omega),K8 (by omega),Z3E P n _ _ _ (by rw [Jg];omega)]
theorem Z3F:∀(n:Nat) (st ms:LI),W8 st->(∀x∈ms,U8 x)->QD XU n st ms=QD Wo n st ms
 | 0,_,_,_,_=>rfl
 | n+1,st,ms,hs,hm=>by
  rw [QD,QD,Z7m st _ (fun x hx=>hm x (List.mem_of_mem_take hx)) hs]
  exact Z3F n _ _ (Z7n st _ hs.1) fun x hx=>hm x (List.mem_of_mem_drop hx)
structure Rep (r:Zv) (ms:LI):Prop where
 came:r.came=ms.length
 st:r.st=QD Wo (ms.length/64) YA.st ms
 len:r.part.length=64
 part:r.part.take (ms.length%64)=ms.drop (64*(ms.length/64))
theorem Rep.ok {r:Zv} (h:Rep r ms) (h8:r.st.length=8):r.Ok:=⟨h8,h.len,by rw [h.came];omega⟩
theorem Rep.one {r:Zv} (h:Rep r ms) (bs:LI):Rep (r.one bs) (ms++wTk r.came bs):=by
 have ha:wAt r.came=ms.length%64:=by
  unfold wAt
  rw [h.came,tm (by omega)]
  omega
 have hk:(wTk r.came bs).length<=64-ms.length%64:=by
  grind [wTk]
 have hdl:(ms.drop (64*(ms.length/64))).length=ms.length%64:=by rw [Jg];omega
 have hp:Uv r.part r.came bs=ms.drop (64*(ms.length/64))++wTk r.came bs++r.part.drop (ms.length%64+(wTk r.came bs).length):=by
  unfold Uv spl
  rw [ha,h.part]
 have hl:(Uv r.part r.came bs).length=64:=by
  rw [hp,J6,J6,hdl,Jg,h.len]
  omega
 have hst:(r.one bs).st=if ms.length%64+(wTk r.came bs).length=64 then Wo r.st (Uv r.part r.came bs) else r.st:=by
  show wSt _ _ _ _=_
  unfold wSt
  rw [ha]
 have hca:(r.one bs).came=r.came+(wTk r.came bs).length:=rfl
 have hpa:(r.one bs).part=Uv r.part r.came bs:=rfl
 generalize wTk r.came bs=tk at*
 have hal:(ms++tk).length=ms.length+tk.length:=J6
 refine ⟨by rw [hca,h.came,hal];omega, ?_,by rw [hpa];exact hl, ?_⟩
 ·rw [hst,h.st]
  by_cases h64:ms.length%64+tk.length=64
  ·rw [if_pos h64,hal,show (ms.length+tk.length)/64=ms.length/64+1 by omega,Z1u,Z3E _ _ _ _ _ (by omega)]
   rw [K8 (by omega),hp,show r.part.drop (ms.length%64+tk.length)=[] from JQ (by rw [h.len];omega),JN,Jv (by rw [J6,hdl];omega)]
  grind [Z3E]
 ·rw [hpa,hal]
  by_cases h64:ms.length%64+tk.length=64
  ·rw [show (ms.length+tk.length)%64=0 by omega,List.take_zero,JQ (by omega)]
  ·rw [show (ms.length+tk.length)/64=ms.length/64 by omega,show (ms.length+tk.length)%64=ms.length%64+tk.length by omega,hp,K8 (by omega)]
   grind
theorem Rep.many:∀(n:Nat) (r:Zv) (ms bs:LI),r.Ok->Rep r ms->bs.length<=n->Rep (Zv.many n r bs).1 (ms++bs)
 | 0,r,ms,bs,_,h,hn=>by
  have:bs=[]:=JT (by omega)
  subst this
  rw [JN]
  exact h
 | n+1,r,ms,bs,hr,h,hn=>by
  unfold Zv.many
  split
  ·rw [JN];exact h
  ·rename_i b bs
   have hp:=Qt hr (bs:=b::bs) (by simp)
   have hb:(b::bs)=wTk r.came (b::bs)++(b::bs).drop (wTk r.came (b::bs)).length:=by
    grind [wTk,List.take_append_drop]
   have:=Rep.many n _ _ ((b::bs).drop (wTk r.came (b::bs)).length) (hr.one _) (h.one (b::bs)) (by rw [Jg];omega)
   rw [JR,<-hb] at this
   exact this
theorem Rep.write {r:Zv} (hr:r.Ok) (h:Rep r ms) (bs:LI):Rep (r.write bs) (ms++bs):=by
 simp_all [Zv.write,Rep.many]
theorem Rep.init:Rep YA []:=⟨rfl,rfl,rfl,rfl⟩
def Z1v (bs:LI):LI:=bs++QA bs.length++len8 bs.length
def Z9c (P:LI->LI->LI) (bs:LI):LI:=Z4J (QD P ((Z1v bs).length/64) YA.st (Z1v bs))
theorem Rep.fin {r:Zv} (hr:r.Ok) (h:Rep r ms):r.fin=Z9c Wo ms:=by
 have h1:=h.write hr (QA r.came)
 have h2:=h1.write (Xs _ _ hr) (len8 r.came)
 unfold Zv.fin Z9c
 rw [h2.st,h.came]
 rfl
theorem Z3G (bs:LI):UA bs=Z9c Wo bs:=by
 unfold UA
 have:=Rep.init.write Xt bs
 exact this.fin (Xs _ _ Xt)
theorem Z7o (a b:LI):Z0d a b=UA (a++b):=by
 rw [Z3G]
 unfold Z0d
 have h1:=Rep.init.write Xt a
 have h2:=h1.write (Xs _ _ Xt) b
 exact h2.fin (Xs _ _ (Xs _ _ Xt))
theorem Z7p:W8 YA.st:=by
 refine ⟨rfl,fun x hx=> ?_⟩
 simp only [YA,Jc,Ks,or_false] at hx
 unfold U32
 rcases hx with rfl|rfl|rfl|rfl|rfl|rfl|rfl|rfl<;>omega
theorem Zhd (n:Int):∀x∈QA n,U8 x:=by
 grind [QA,U8]
theorem Z9d (x:Int):U8 (u8.wrap x):=by rw [wr8];unfold U8;omega
theorem Zhe (n:Int):∀x∈len8 n,U8 x:=by
 intro x hx
 unfold len8 QP at hx
 simp only [Jc,Ks,or_false] at hx
 rcases hx with h|h|h|h|h|h|h|h<;>rw [h]<;>exact Z9d _
theorem ZbT {bs:LI} (h:∀x∈bs,U8 x):∀x∈Z1v bs,U8 x:=by
 grind [Z1v,Zhd,Zhe]
theorem Zea (n:Int):∀x∈Vq n,U8 x:=by
 intro x hx
 unfold Vq at hx
 simp only [Jc,Ks,or_false] at hx
 rcases hx with h|h|h|h<;>rw [h]<;>exact Z9d _
theorem Zeb (st:LI):∀x∈Z4J st,U8 x:=by
 intro x hx
 unfold Z4J at hx
 simp only [K2] at hx
 rcases hx with (((((((h|h)|h)|h)|h)|h)|h)|h)<;>exact Zea _ x h
theorem Z61 (bs:LI):∀x∈UA bs,U8 x:=by rw [Z3G];exact Zeb _
theorem Zhf:Qw XU:=⟨fun st bl h=>Z7g st bl h,fun _ _ h=>Z5V h⟩
theorem Zec (x:LI) (i:Nat):toN x (i+1)=((((toN x i).set (4*i) (u8.wrap (u32.wrap (Int.tdiv (x.getD i 0) 16777216)))).set (4*i+1) (toE (x.getD i 0) 65536)).set (4*i+2) (toE (x.getD i 0) 256)).set (4*i+3) (u8.wrap (Int.tmod (x.getD i 0) 256)):=by rw [toN]
theorem Zed (x:LI):toN x 0=Z0:=by rw [toN]
def four (x:Int):LI:=[u8.wrap (u32.wrap (Int.tdiv x 16777216)),toE x 65536,toE x 256,u8.wrap (Int.tmod x 256)]
theorem ZbU (x:LI):(Uy x).length=32:=by unfold Uy;exact Z5W x 8
theorem Z9e (x:LI) (h:x.length=8):Uy x=four (x.getD 0 0)++four (x.getD 1 0)++four (x.getD 2 0)++four (x.getD 3 0)++four (x.getD 4 0)++four (x.getD 5 0)++four (x.getD 6 0)++four (x.getD 7 0):=by
 unfold Uy
 simp only [Zec,Zed]
 generalize x.getD 0 0=x0
 generalize x.getD 1 0=x1
 generalize x.getD 2 0=x2
 generalize x.getD 3 0=x3
 generalize x.getD 4 0=x4
 generalize x.getD 5 0=x5
 generalize x.getD 6 0=x6
 generalize x.getD 7 0=x7
 kernel_rfl
theorem Zhg (x:Int):u64.wrap x=x%18446744073709551616:=by
 unfold wrap
 simp [IntKind.bits,IntKind.signed]
theorem Z7q (x n:Nat) (hn:n<=64):Zr .u64 x n=((x/2^n:Nat):Int):=by
 unfold Zr
 have:min (n:Int).toNat u64.bits=n:=by simp [IntKind.bits];omega
 rw [this,Kc _ (Int.le_of_lt (Int.pow_pos (by decide)))]
 simp
theorem XM {x:Int} (h:U32 x):four x=Vq (u64.wrap x):=by
 obtain ⟨x,rfl,gx⟩:=h.nat
 have e:u64.wrap (x:Int)=x:=by rw [Zhg];omega
 have s24:=Z7q x 24 (by omega)
 have s16:=Z7q x 16 (by omega)
 have s8:=Z7q x 8 (by omega)
 have s0:=Z7q x 0 (by omega)
 rw [show ((24:Nat):Int)=24 from rfl] at s24
 rw [show ((16:Nat):Int)=16 from rfl] at s16
 rw [show ((8:Nat):Int)=8 from rfl] at s8
 rw [show ((0:Nat):Int)=0 from rfl] at s0
 have d1:Int.tdiv (x:Int) 16777216=(x:Int)/16777216:=JI (by omega)
 have d2:Int.tdiv (x:Int) 65536=(x:Int)/65536:=JI (by omega)
 have d3:Int.tdiv (x:Int) 256=(x:Int)/256:=JI (by omega)
 unfold four Vq toE
 rw [e,s24,s16,s8,s0,d1,d2,d3]
 simp only [wr8,Z7k]
 rw [tm (a:=(x:Int)/65536%4294967296) (by omega),tm (a:=(x:Int)/256%4294967296) (by omega),tm (a:=(x:Int)) (by omega)]
 simp only [List.cons.injEq,and_true]
 omega
theorem Z9f {x:LI} (h:W8 x):Uy x=Z4J x:=by
 rw [Z9e x h.1]
 unfold Z4J
 rw [XM (h.get 0),XM (h.get 1),XM (h.get 2),XM (h.get 3),XM (h.get 4),XM (h.get 5),XM (h.get 6),XM (h.get 7)]
theorem XN (n:Nat) (i:Nat) (hi:i<8):Zh2 n i=u8.wrap (Zr .u64 (u64.wrap (u64.wrap n*8)) ((56-8*i:Nat):Int)):=by
 unfold Zh2
 have e1:i64.wrap (8*(i:Int))=8*(i:Int):=w64 (by omega)
 have e2:i64.wrap (56-8*(i:Int))=((56-8*i:Nat):Int):=by rw [w64 (by omega)];omega
 have e3:u64.wrap ((56-8*i:Nat):Int)=((56-8*i:Nat):Int):=by rw [Zhg];omega
 rw [e1,e2,e3]
 obtain ⟨m,hm⟩:∃m:Nat,u64.wrap (u64.wrap n*8)=m:=⟨(u64.wrap (u64.wrap n*8)).toNat,by rw [Zhg,Zhg];omega⟩
 rw [hm,Z7q m _ (by omega)]
 generalize m/2^(56-8*i)=q
 rw [tm (by omega),wr8,wr8]
 omega
theorem ZbV (n:Nat):XZ n 8=len8 n:=by
 simp only [XZ,K5,List.cons_append]
 unfold len8 QP
 rw [XN n 0 (by omega),XN n 1 (by omega),XN n 2 (by omega),XN n 3 (by omega),XN n 4 (by omega),XN n 5 (by omega),XN n 6 (by omega),XN n 7 (by omega)]
 rfl
theorem ZbW (n:Nat) (h:n<=100000000000):[128]++Z23 n=QA n:=by
 unfold Z23 QA
 have e1:Int.tmod (n:Int) 64=(n:Int)%64:=tm (by omega)
 have e2:i64.wrap (119-(n:Int)%64)=119-(n:Int)%64:=w64 (by omega)
 rw [Zh4 n h,e1,e2,tm (by omega)]
 congr 2
 omega
theorem Zee (bs:LI) (h:bs.length<=100000000000):Qa bs=Z1v bs:=by
 unfold Qa Z1v
 rw [ZbV,JR bs,ZbW _ h]
theorem Z53 (P:LI->LI->LI) (ys:LI):∀i,QC P ys i=QD P i YA.st ys
 | 0=>Z4X P ys
 | i+1=>by rw [Z4Y,Z1u,Z53 P ys i]
theorem Zan:∀(n:Nat) (st ms:LI),W8 st->W8 (QD Wo n st ms)
 | 0,_,_,h=>h
 | n+1,st,_,h=>Zan n _ _ (Z7n st _ h.1)
@[irreducible] def Qd (bs:LI):LI:=Ze6 XU bs
theorem Z0Y (bs:LI):(Qd bs).length=32:=by unfold Qd Ze6;exact ZbU _
theorem Z2j {bs:LI} (h:∀x∈bs,U8 x) (hl:bs.length<=100000000000):Qd bs=UA bs:=by
 unfold Qd Ze6
 rw [Z53,Zee bs hl,Z3F _ _ _ Z7p (ZbT h),Z9f (Zan _ _ _ Z7p),Z3G]
 rfl
theorem Z54 (xs:LI) (h:xs.length<=100000000000):Zs PP 208 [.vints .u8 xs xs.length] (.agg [.arr .u8 32 (Qd xs)]) 0 []:=by
 unfold Qd
 exact ZbM Zhf xs h
theorem Zao (c:Int) (b:LI):∀i,i<=b.length->Z20 c b i=(b.take i).map (fun x=>Ys .u8 x c)++b.drop i
 | 0,_=>by rw [Z4L];simp
 | i+1,h=>by
  rw [Z1m,Zao c b i (by omega)]
  unfold Z3i
  have hl:((b.take i).map (fun x=>Ys .u8 x c)).length=i:=by rw [List.length_map,Ji];omega
  obtain ⟨y,hy⟩:∃y,b[i]? =some y:=⟨b[i],Ja (by omega)⟩
  have hd:b.drop i=y::b.drop (i+1):=by
   rw [JC (by omega)]
   congr 1
   have:=Ja (l:=b) (i:=i) (by omega)
   rw [this] at hy
   exact Option.some.inj hy
  rw [hd,Jx,J3,Jh (by omega),hl,Nat.sub_self,List.set_append_right _ _ (by omega),hl,Nat.sub_self]
  rw [List.take_add_one,hy]
  simp
theorem Z3H (c:Int) (b:LI) (h:b.length=64):V7 c b=b.map (fun x=>Ys .u8 x c):=by
 unfold V7
 rw [Zao c b 64 (by omega),<-h,Jq,List.drop_length,JN]
theorem Zap (key:LI) (c:Int) (hk:key.length=32) (h0:Ys .u8 0 c=c):∀i,i<=64->kxR key c i=((key++List.replicate 32 0).take i).map (fun x=>Ys .u8 x c)
 | 0,_=>by rw [kxR];rfl
 | i+1,h=>by
  rw [kxR,Zap key c hk h0 i (by omega),List.take_add_one,K4]
  congr 1
  unfold kxE
  by_cases hi:i<32
  ·rw [if_pos (by omega),Jd (by omega),J3,Ja (by omega)]
   rfl
  ·rw [if_neg (by omega),Jh (by omega),List.getElem?_replicate,if_pos (by omega)]
   simp [h0]
theorem Zef (key:LI) (hk:key.length=32):VJ key=key++List.replicate 32 0:=by
 have e1:List.take 32 key=key:=Jv (by rw [hk];exact J4 _)
 have e2:List.take 64 key=key:=Jv (by rw [hk];omega)
 unfold VJ spl
 rw [e1,e2,hk]
 rfl
theorem Zeg (key:LI) (c:Int) (hk:key.length=32) (h0:Ys .u8 0 c=c):kxR key c 64=V7 c (VJ key):=by
 rw [Z3H c _ (U1 key),Zap key c hk h0 64 (by omega),Zef key hk,Jv (by simp [hk])]
theorem Zeh (c:Int) (b:LI):∀x∈b.map (fun x=>Ys .u8 x c),U8 x:=by
 intro x hx
 obtain ⟨y,_,rfl⟩:=List.mem_map.mp hx
 exact Z9d _
theorem Zei {a b:LI} (ha:∀x∈a,U8 x) (hb:∀x∈b,U8 x):∀x∈a++b,U8 x:=fun x hx=>(K2.mp hx).elim (ha x) (hb x)
theorem Zhh {key:LI} (hk:key.length=32) (hm:ms.length=32) (hU:∀x∈ms,U8 x):Qb Qd key ms=Q3 key ms:=by
 have k1:=Zeg key 92 hk (by decide)
 have k2:=Zeg key 54 hk (by decide)
 have l1:=Z0O 92 _ (U1 key)
 have l2:=Z0O 54 _ (U1 key)
 have u1:∀x∈V7 92 (VJ key),U8 x:=by rw [Z3H _ _ (U1 key)];exact Zeh _ _
 have u2:∀x∈V7 54 (VJ key),U8 x:=by rw [Z3H _ _ (U1 key)];exact Zeh _ _
 unfold Qb Q3
 rw [k1,k2,Z7o]
 have h2:((YA.write (V7 54 (VJ key))).write ms).fin=UA (V7 54 (VJ key)++ms):=by
  rw [<-Z7o];unfold Z0d;rfl
 rw [h2,Z2j (bs:=V7 54 (VJ key)++ms) (Zei u2 hU) (by rw [J6,l2,hm];decide)]
 rw [Z2j (Zei u1 (Z61 _)) (by rw [J6,l1,Z0N];decide)]
theorem Zej {bs:LI} (h:∀x∈bs,U8 x) (hl:bs.length<=100000000000):Up Qd bs=Q2 bs:=by
 unfold Up Q2
 rw [Z2j h hl,Z2j (Z61 _) (by rw [Z0N];decide)]
noncomputable def E60 (R:TxS->Bool->LI) (H:LI->LI) (T2:LI->LI->LI) (B:Nat):Zb:=((G0.withF 207 (ZdN R)).withP 206 (Z7i H B)).withP 125 (Ze7 T2)
theorem Zpn (R:TxS->Bool->LI) (H:LI->LI) (T2:LI->LI->LI) (B:Nat) (t:TxS) (r:LI) (ht:t.Fine) (hb:(R t true).length<=B) (hr:r=H (R t true)):
  evF (E60 R H T2 B) 20 124 [.agg t.c] ⟨0,[]⟩ (ZH 0 (.ret (.agg [.arr .u8 32 r])) 0 []):=by
 refine @Eq.mpr _ (let d:=t.N;let b:=t.M;
 ∃(t_1:TxS),
 let a:=List.length (R t_1 true);let f:=List.take a (ZX 0 (R t_1 true));let e:=f.length;
 (t_1.num=t.num/\((d=d/\t_1.N=d)/\∀(i:Nat),i<d->Zg t.ins i=InS.c (t_1.ins i))/\(b=b/\t_1.M=b)/\∀(i:Nat),i<b->Zf t.outs i=ZF.c (t_1.outs i))/\TxS.Fine t_1/\Z7 (0+a<=a) (Z7 (a=e) (Z7 (e<=B) (H f=r/\True)))) (by kernel_rfl) ?_
 conv=>zeta
 try simp only [vcA]
 try simp only [vcB]
 try simp only [vcC]
 refine ⟨t,⟨rfl,⟨rfl,fun _ _=>rfl⟩,rfl,fun _ _=>rfl⟩,ht, ?_⟩
 rw [Z0V rfl]
 exact ⟨rfl,hb,hr.symm⟩
theorem Zmi (R:TxS->Bool->LI) (H:LI->LI) (T2:LI->LI->LI) (B:Nat) (t:TxS) (key r:LI) (ht:t.Fine) (hk:key.length=32) (hb:(R t true).length<=B) (hl:(H (R t true)).length=32) (hr:r=T2 key (H (R t true))):
  evF (E60 R H T2 B) 20 62 [.agg t.c,.agg [.arr .u8 32 key]] ⟨0,[]⟩ (ZH 0 (.ret (.agg [.arr .u8 32 r])) 0 []):=by
 refine @Eq.mpr _ (let d:=t.N;let b:=t.M;
 ∃(t_1:TxS),
 let a:=List.length (R t_1 true);let g:=List.take a (ZX 0 (R t_1 true));let f:=g.length;let e:=H g;
 (t_1.num=t.num/\((d=d/\t_1.N=d)/\∀(i:Nat),i<d->Zg t.ins i=InS.c (t_1.ins i))/\(b=b/\t_1.M=b)/\∀(i:Nat),i<b->Zf t.outs i=ZF.c (t_1.outs i))/\TxS.Fine t_1/\Z7 (0+a<=a) (Z7 (a=f) (Z7 (f<=B) (Z7 (key.length=32) (Z7 (e.length=32) (Z7 (key.length=32/\(32:Nat)=32/\e.length=32/\(32:Nat)=32) (T2 key e=r/\True))))))) (by kernel_rfl) ?_
 conv=>zeta
 try simp only [vcA]
 try simp only [vcB]
 try simp only [vcC]
 refine ⟨t,⟨rfl,⟨rfl,fun _ _=>rfl⟩,rfl,fun _ _=>rfl⟩,ht, ?_⟩
 rw [Z0V rfl]
 repeat' (first|(refine J9 ?_ ?_)|intro _)
 all_goals first|omega|assumption|trivial|exact hr.symm
def Zov (Nm:TxS->LI):ZI:=fun args h K=>Zz none h true 20 args fun a=>match a with
 | [.agg l]=>∃t,Z0j l t/\t.Fine/\K (.agg [.arr .u8 32 (Nm t)])
 | _=>False
def Z3I (Tg:LI->TxS->LI):ZI:=fun args h K=>Zz none h true 20 args fun a=>match a with
 | [.agg l,.agg [.arr .u8 32 key]]=>∃t,Z0j l t/\(t.Fine/\key.length=32)/\K (.agg [.arr .u8 32 (Tg key t)])
 | _=>False
structure Z62 (H:LI->LI) (T2:LI->LI->LI):Prop where
 h:∀args h K,Z7i H 100000 args h K->Ze PP 206 args h fun o h'=>∃v,o=.ret v/\h'=h/\K v
 t:∀args h K,Ze7 T2 args h K->Ze PP 125 args h fun o h'=>∃v,o=.ret v/\h'=h/\K v
 r:∀args h K,ZdN (Wd Zn) args h K->Ze PP 207 args h K
 hl:∀x,(H x).length=32
theorem ZjV (hp:Z62 H T2):(E60 (Wd Zn) H T2 100000).Ok:=Zb.withP_ok (Zb.withP_ok (Zb.withF_ok Zm hp.r) hp.h) hp.t
@[irreducible] def Zek (H:LI->LI) (t:TxS):LI:=H (Wd Zn t true)
@[irreducible] def Z3J (H:LI->LI) (T2:LI->LI->LI) (key:LI) (t:TxS):LI:=T2 key (H (Wd Zn t true))
theorem Z9g (hp:Z62 H T2) (t:TxS) (key:LI) (ht:t.Fine) (hk:key.length=32):Zs PP 62 [.agg t.c,.agg [.arr .u8 32 key]] (.agg [.arr .u8 32 (Z3J H T2 key t)]) 0 []:=by
 unfold Z3J
 have:=Wq ht true (J4 t.M)
 exact .evM (ZjV hp) (Zmi (Wd Zn) H T2 100000 t key _ ht hk (by have hb':(Wd Zn t true).length<=20000:=this;omega) (hp.hl _) rfl)
theorem ZbX (hp:Z62 H T2) (args:List AV) (h:Z8) (K:AV->Prop) (hl:Z3I (Z3J H T2) args h K):Ze PP 62 args h fun o h'=>∃v,o=.ret v/\h'=h/\K v:=by
 refine Zs.psumm (d:=20) (Zk _ _ _ _ _ hl fun a ha=> ?_)
 split at ha
 ·obtain ⟨t,h1,⟨h2,h3⟩,hK⟩:=ha
  exact ⟨_,(Z9g hp t _ h2 h3).conv fun E r hr=>hr.head (fun _ hc=>h1.rel hc) (fun _ hc=>hc),fun _=>rfl,hK⟩
 ·exact ha.elim
theorem Bytes.u8 (h:Bytes xs):∀x∈xs,U8 x:=by
 intro x hx
 obtain ⟨i,hi,rfl⟩:=Kh hx
 have:=h.h i
 rw [J3,Ja hi] at this
 simp at this
 unfold U8
 omega
theorem ZjW:Z62 (Up Qd) (Qb Qd) where
 h:=fun args h K hl=>ZbO (B:=100000) (fun xs hx=>Z54 xs (by omega)) (by decide) Z0Y args h K hl
 t:=fun args h K hl=>Ze8 (B:=100000) (fun xs hx=>Z54 xs (by omega)) (by decide) Z0Y args h K hl
 r:=Z93
 hl:=fun x=>by unfold Up;exact Z0Y _
theorem ZbY (a b:LI):(Qb Qd a b).length=32:=by unfold Qb;exact Z0Y _
@[irreducible] def Zaq (t:TxS):LI:=Zek (Up Qd) t
@[irreducible] def Wz (key:LI) (t:TxS):LI:=Z3J (Up Qd) (Qb Qd) key t
theorem Z7r (k:LI) (t:TxS):(Wz k t).length=32:=by unfold Wz Z3J;exact ZbY _ _
theorem Z63 (args:List AV) (h:Z8) (K:AV->Prop) (hl:Z3I Wz args h K):Ze PP 62 args h fun o h'=>∃v,o=.ret v/\h'=h/\K v:=ZbX ZjW args h K (by
 have e:Wz=Z3J (Up Qd) (Qb Qd):=by funext k t;unfold Wz;rfl
 rw [e] at hl;exact hl)
theorem Zel {t:TxS} (hf:t.Fine) (hb:QS t):Zaq t=Z1P t:=by
 have h1:=Wq hf true (J4 t.M)
 have h2:(Wd Zn t true).length<=20000:=h1
 unfold Zaq Zek Z1P
 exact Zej (Z96 hb true).u8 (by omega)
theorem Zem (bs:LI):∀x∈Q2 bs,U8 x:=by unfold Q2;exact Z61 _
theorem Zen (t:TxS):∀x∈Z1P t,U8 x:=by unfold Z1P;exact Zem _
theorem ZbZ (key:LI) (t:TxS):Wz key t=Qb Qd key (Zaq t):=by unfold Wz Z3J Zaq Zek;rfl
theorem Z9h (key:LI) (t:TxS):Zy key t=Q3 key (Z1P t):=by unfold Zy Z1P;rfl
theorem Z2k {key:LI} {t:TxS} (hf:t.Fine) (hb:QS t) (hk:key.length=32):Wz key t=Zy key t:=by
 rw [ZbZ,Z9h,Zel hf hb,Zhh hk (ZbA t) (Zen t)]
structure Zj where
 fund:LI
 index:Int
 cap:Int
 dust:Int
 fee:Int
 delay:Int
 k0:LI
 k1:LI
def Zj.c (t:Zj):List AV:=[.arr .u8 32 t.fund,.int .i64 t.index,.int .i64 t.cap,.int .i64 t.dust,.int .i64 t.fee,.int .i64 t.delay,.arr .u8 32 t.k0,.arr .u8 32 t.k1]
structure Zj.Ok (t:Zj):Prop where
 k0:t.k0.length=32
 k1:t.k1.length=32
 b0:Bytes t.k0
 b1:Bytes t.k1
def Yi (t:Zj):Bool:=decide (0<=t.index/\t.index<=23)&&decide (1000<=t.cap/\t.cap<=1125899906842624)&&decide (1<=t.dust/\t.dust<=500)&&decide (0<=t.fee/\t.fee<=400)&&decide (1<=t.delay/\t.delay<=1000)&&(t.k0 !=t.k1)
theorem Z7s (b:Bool) (x y:Prop):Z5 b x y=((b=true->x)/\(b=false->y)):=by cases b<;>simp [Z5]
theorem Zmj (n a b:Int) (r:Bool) (hr:r=decide (a<=n/\n<=b)):
  evF G0 20 86 [.int .i64 n,.int .i64 a,.int .i64 b] ⟨0,[]⟩ (XY (fun v=>v=.bool r)):=by
 refine @Eq.mpr _ (Z5 (decide (a<=n)) (AV.bool (decide (n<=b))=AV.bool r) (AV.bool false=AV.bool r)) (by kernel_rfl) ?_
 simp only [Z7s]
 subst hr
 by_cases h1:a<=n<;>by_cases h2:n<=b<;>simp [h1,h2]
def inQ:ZI:=fun args _ K=>match args with
 | [.int .i64 n,.int .i64 a,.int .i64 b]=>K (.bool (decide (a<=n/\n<=b)))
 | _=>False
theorem Zeo (args:List AV) (h:Z8) (K:AV->Prop) (hl:inQ args h K):Ze PP 86 args h fun o h'=>∃v,o=.ret v/\h'=h/\K v:=by
 unfold inQ at hl
 split at hl
 ·exact Xk Zm rfl (Zmj _ _ _ _ rfl) (fun u hu=>hu▸hl)
 ·exact hl.elim
noncomputable def E71:Zb:=G0.withP 86 inQ
theorem ZjX:E71.Ok:=Zb.withP_ok Zm Zeo
theorem Zmk (t:Zj) (e:Int) (ht:t.Ok) (he:e=if Yi t=true then 0 else 2):
  evF E71 20 44 [.agg t.c] ⟨0,[]⟩ (XY (fun v=>v=.int .i64 e)):=by
 refine @Eq.mpr _ (let a:=AV.int i64 2=AV.int i64 e;
 Z7 (t.k0.length=32/\t.k1.length=32) (Z5 (false==decide (0<=t.index/\t.index<=23)) a (Z5 (false==decide (1000<=t.cap/\t.cap<=1125899906842624)) a (Z5 (false==decide (1<=t.dust/\t.dust<=500)) a (Z5 (false==decide (0<=t.fee/\t.fee<=400)) a (Z5 (false==decide (1<=t.delay/\t.delay<=1000)) a (Z5 (false== !t.k0==t.k1) a (AV.int i64 0=AV.int i64 e)))))))) (by kernel_rfl) ?_
 conv=>zeta
 try simp only [vcA]
 try simp only [vcB]
 try simp only [vcC]
 unfold Yi at he
 refine ⟨⟨ht.k0,ht.k1⟩, ?_⟩
 generalize decide (0<=t.index/\t.index<=23)=c1 at*
 generalize decide (1000<=t.cap/\t.cap<=1125899906842624)=c2 at*
 generalize decide (1<=t.dust/\t.dust<=500)=c3 at*
 generalize decide (0<=t.fee/\t.fee<=400)=c4 at*
 generalize decide (1<=t.delay/\t.delay<=1000)=c5 at*
 have h6:(t.k0 !=t.k1)= !(t.k0==t.k1):=rfl
 rw [h6] at he
 generalize (t.k0==t.k1)=c6 at*
 cases c1<;>cases c2<;>cases c3<;>cases c4<;>cases c5<;>cases c6<;>simp_all
theorem Zml (t:Zj) (b:Bool) (ht:t.Ok) (hb:b=Yi t):
  evF G0 20 112 [.agg t.c] ⟨0,[]⟩ (XY (fun v=>v=.bool b)):=by
 refine @Eq.mpr _ (let c:=t.cap;let a:=AV.bool false=AV.bool b;
 Z5 (decide (t.index>=0)) (Z5 (decide (t.index<24)) (Z5 (decide (c>=1000)) (Z5 (decide (c>=0)) (Z5 (decide (c<=1125899906842624)) (Z5 (decide (t.dust>=1)) (Z5 (decide (t.dust<=500)) (Z5 (decide (t.fee>=0)) (Z5 (decide (t.fee<=400)) (Z5 (decide (t.delay>=1)) (Z5 (decide (t.delay<=1000)) (Z7 (t.k0.length=32/\t.k1.length=32) ((AV.bool !t.k0==t.k1)=AV.bool b)) a) a) a) a) a) a) a) a) a) a) a) (by kernel_rfl) ?_
 conv=>zeta
 try simp only [vcA]
 try simp only [vcB]
 try simp only [vcC]
 subst hb
 unfold Yi
 repeat' (first|(refine J9 ?_ ?_)|intro _|fail)
 all_goals first
  | exact ht.k0
  | exact ht.k1
  | (congr 1;symm;rw [Kd];simp only [ne_eq,J2,decide_eq_true_eq];intro h;omega)
  | (congr 1;have h1:(0<=t.index/\t.index<=23):=(by omega);have h2:(1000<=t.cap/\t.cap<=1125899906842624):=(by omega);have h3:(1<=t.dust/\t.dust<=500):=(by omega);have h4:(0<=t.fee/\t.fee<=400):=(by omega);have h5:(1<=t.delay/\t.delay<=1000):=(by omega);rw [decide_eq_true h1,decide_eq_true h2,decide_eq_true h3,decide_eq_true h4,decide_eq_true h5];rfl)
theorem Z7t (b:Bool) (x y:Prop):Z5 b x y=((b=true->x)/\(b=false->y)):=by cases b<;>simp [Z5]
theorem ZjY {x y:LI} {b:Int} {i:Nat} {P:Prop} (hx:i<x.length) (hy:i<y.length) (bx:Bytes x) (yb:Bytes y) (hb:b=X7 (x.drop i) (y.drop i)) (hP:b=X7 (x.drop (i+1)) (y.drop (i+1))->P):
  Z5 (decide (x.getD i 0<y.getD i 0)) (AV.int .i64 (-1)=AV.int .i64 b) (Z5 (decide (x.getD i 0>y.getD i 0)) (AV.int .i64 1=AV.int .i64 b) P):=by
 have e1:x.drop i=x.getD i 0::x.drop (i+1):=by rw [JC hx];simp [J3,hx]
 have e2:y.drop i=y.getD i 0::y.drop (i+1):=by rw [JC hy];simp [J3,hy]
 rw [e1,e2] at hb
 have k1:=Z2f (bx.getD i) (yb.getD i)
 have k2:=Z2f (yb.getD i) (bx.getD i)
 generalize x.getD i 0=u at*
 generalize y.getD i 0=v at*
 simp only [X7,K7,Lib.compareBytes,k1.2,k2.2] at hb
 rw [Z7t,Z7t]
 refine ⟨fun h=> ?_,fun h=>⟨fun h'=> ?_,fun h'=> ?_⟩⟩
 ·have h:u<v:=by simpa using h
  rw [hb,if_pos h]
 ·have h:¬u<v:=by simpa using h
  have h':v<u:=by simpa using h'
  rw [hb,if_neg h,if_pos h']
 ·have h:¬u<v:=by simpa using h
  have h':¬v<u:=by simpa using h'
  rw [if_neg h,if_neg h'] at hb
  exact hP hb
theorem Zmm (x y:LI) (b:Int) (hx:x.length=32) (hy:y.length=32) (bx:Bytes x) (yb:Bytes y) (hb:b=X7 (x.drop 0) (y.drop 0)):
  evF G0 20 204 [.agg [.arr .u8 32 x],.agg [.arr .u8 32 y]] ⟨0,[]⟩ (XY (fun v=>v=.int .i64 b)):=by
 refine @Eq.mpr _ (let d:=AV.int i64 b;let c:=AV.int i64 (-1)=d;let a:=AV.int i64 1=d;
 Z5 (decide (List.getD x 0 0<List.getD y 0 0)) c
 (Z5 (decide (List.getD x 0 0>List.getD y 0 0)) a
 (Z5 (decide (List.getD x 1 0<List.getD y 1 0)) c
 (Z5 (decide (List.getD x 1 0>List.getD y 1 0)) a
 (Z5 (decide (List.getD x 2 0<List.getD y 2 0)) c
 (Z5 (decide (List.getD x 2 0>List.getD y 2 0)) a
 (Z5 (decide (List.getD x 3 0<List.getD y 3 0)) c
 (Z5 (decide (List.getD x 3 0>List.getD y 3 0)) a
 (Z5 (decide (List.getD x 4 0<List.getD y 4 0)) c
 (Z5 (decide (List.getD x 4 0>List.getD y 4 0)) a
 (Z5 (decide (List.getD x 5 0<List.getD y 5 0)) c
 (Z5 (decide (List.getD x 5 0>List.getD y 5 0)) a
 (Z5 (decide (List.getD x 6 0<List.getD y 6 0)) c
 (Z5 (decide (List.getD x 6 0>List.getD y 6 0)) a
 (Z5 (decide (List.getD x 7 0<List.getD y 7 0)) c
 (Z5 (decide (List.getD x 7 0>List.getD y 7 0)) a
 (Z5 (decide (List.getD x 8 0<List.getD y 8 0)) c
 (Z5 (decide (List.getD x 8 0>List.getD y 8 0)) a
 (Z5 (decide (List.getD x 9 0<List.getD y 9 0)) c
 (Z5 (decide (List.getD x 9 0>List.getD y 9 0)) a
 (Z5 (decide (List.getD x 10 0<List.getD y 10 0)) c
 (Z5 (decide (List.getD x 10 0>List.getD y 10 0)) a
 (Z5 (decide (List.getD x 11 0<List.getD y 11 0)) c
 (Z5 (decide (List.getD x 11 0>List.getD y 11 0)) a
 (Z5 (decide (List.getD x 12 0<List.getD y 12 0)) c
 (Z5 (decide (List.getD x 12 0>List.getD y 12 0)) a
 (Z5 (decide (List.getD x 13 0<List.getD y 13 0)) c
 (Z5 (decide (List.getD x 13 0>List.getD y 13 0)) a
 (Z5 (decide (List.getD x 14 0<List.getD y 14 0)) c
 (Z5 (decide (List.getD x 14 0>List.getD y 14 0)) a
 (Z5 (decide (List.getD x 15 0<List.getD y 15 0)) c
 (Z5 (decide (List.getD x 15 0>List.getD y 15 0)) a
 (Z5 (decide (List.getD x 16 0<List.getD y 16 0)) c
 (Z5 (decide (List.getD x 16 0>List.getD y 16 0)) a
 (Z5 (decide (List.getD x 17 0<List.getD y 17 0)) c
 (Z5 (decide (List.getD x 17 0>List.getD y 17 0)) a
 (Z5 (decide (List.getD x 18 0<List.getD y 18 0)) c
 (Z5 (decide (List.getD x 18 0>List.getD y 18 0)) a
 (Z5 (decide (List.getD x 19 0<List.getD y 19 0)) c
 (Z5 (decide (List.getD x 19 0>List.getD y 19 0)) a
 (Z5 (decide (List.getD x 20 0<List.getD y 20 0)) c
 (Z5 (decide (List.getD x 20 0>List.getD y 20 0)) a
 (Z5 (decide (List.getD x 21 0<List.getD y 21 0)) c
 (Z5 (decide (List.getD x 21 0>List.getD y 21 0)) a
 (Z5 (decide (List.getD x 22 0<List.getD y 22 0)) c
 (Z5 (decide (List.getD x 22 0>List.getD y 22 0)) a
 (Z5 (decide (List.getD x 23 0<List.getD y 23 0)) c
 (Z5 (decide (List.getD x 23 0>List.getD y 23 0)) a
 (Z5 (decide (List.getD x 24 0<List.getD y 24 0)) c (Z5 (decide (List.getD x 24 0>List.getD y 24 0)) a (Z5 (decide (List.getD x 25 0<List.getD y 25 0)) c (Z5 (decide (List.getD x 25 0>List.getD y 25 0)) a (Z5 (decide (List.getD x 26 0<List.getD y 26 0)) c (Z5 (decide (List.getD x 26 0>List.getD y 26 0)) a (Z5 (decide (List.getD x 27 0<List.getD y 27 0)) c (Z5 (decide (List.getD x 27 0>List.getD y 27 0)) a (Z5 (decide (List.getD x 28 0<List.getD y 28 0)) c (Z5 (decide (List.getD x 28 0>List.getD y 28 0)) a (Z5 (decide (List.getD x 29 0<List.getD y 29 0)) c (Z5 (decide (List.getD x 29 0>List.getD y 29 0)) a (Z5 (decide (List.getD x 30 0<List.getD y 30 0)) c (Z5 (decide (List.getD x 30 0>List.getD y 30 0)) a (Z5 (decide (List.getD x 31 0<List.getD y 31 0)) c (Z5 (decide (List.getD x 31 0>List.getD y 31 0)) a (AV.int i64 0=d))))))))))))))))))))))))))))))))))))))))))))))))))))))))))))))))) (by kernel_rfl) ?_
 conv=>zeta
 iterate 32 refine ZjY (by omega) (by omega) bx yb hb fun hb=> ?_
 rw [JQ (by omega),JQ (by omega)] at hb
 have h0:X7 [] []=0:=rfl
 rw [hb,h0]
def Z7u:ZI:=fun args _ K=>match args with
 | [.agg [.arr .u8 32 fu,.int .i64 ix,.int .i64 ca,.int .i64 du,.int .i64 fe,.int .i64 de,.arr .u8 32 k0,.arr .u8 32 k1]]=>(Zj.Ok ⟨fu,ix,ca,du,fe,de,k0,k1⟩)/\K (.int .i64 (if Yi ⟨fu,ix,ca,du,fe,de,k0,k1⟩=true then 0 else 2))
 | _=>False
theorem Z3K (args:List AV) (h:Z8) (K:AV->Prop) (hl:Z7u args h K):Ze PP 44 args h fun o h'=>∃v,o=.ret v/\h'=h/\K v:=by
 unfold Z7u at hl
 split at hl
 ·obtain ⟨ht,hK⟩:=hl
  exact Xk ZjX rfl (Zmk ⟨_,_,_,_,_,_,_,_⟩ _ ht rfl) (fun u hu=>hu▸hK)
 ·exact hl.elim
def Z3L:ZI:=fun args _ K=>match args with
 | [.agg [.arr .u8 32 fu,.int .i64 ix,.int .i64 ca,.int .i64 du,.int .i64 fe,.int .i64 de,.arr .u8 32 k0,.arr .u8 32 k1]]=>(Zj.Ok ⟨fu,ix,ca,du,fe,de,k0,k1⟩)/\K (.bool (Yi ⟨fu,ix,ca,du,fe,de,k0,k1⟩))
 | _=>False
theorem Z1w (args:List AV) (h:Z8) (K:AV->Prop) (hl:Z3L args h K):Ze PP 112 args h fun o h'=>∃v,o=.ret v/\h'=h/\K v:=by
 unfold Z3L at hl
 split at hl
 ·obtain ⟨ht,hK⟩:=hl
  exact Xk Zm rfl (Zml ⟨_,_,_,_,_,_,_,_⟩ _ ht rfl) (fun u hu=>hu▸hK)
 ·exact hl.elim
def Zep:ZI:=fun args _ K=>match args with
 | [.agg [.arr .u8 32 x],.agg [.arr .u8 32 y]]=>(x.length=32/\y.length=32)/\Bytes x/\Bytes y/\K (.int .i64 (X7 x y))
 | _=>False
theorem Zar (args:List AV) (h:Z8) (K:AV->Prop) (hl:Zep args h K):Ze PP 204 args h fun o h'=>∃v,o=.ret v/\h'=h/\K v:=by
 unfold Zep at hl
 split at hl
 ·obtain ⟨⟨h1,h2⟩,b1,b2,hK⟩:=hl
  exact Xk Zm rfl (Zmm _ _ _ h1 h2 b1 b2 rfl) (fun u hu=>hu▸hK)
 ·exact hl.elim
structure Zi where
 kind:Int
 t:Zj
 reserve:Int
 amount:Int
 point:LI
 nxt:LI
 key:LI
 hash:LI
 tag:LI
 secret:LI
 id:Int
 number:Int
 index:Int
 expiry:Int
 code:Int
 route:ByteArray
def Zi.r (s:Zi):List AV:=[.arr .u8 32 s.t.fund,.int .i64 s.t.index,.int .i64 s.t.cap,.int .i64 s.t.dust,.int .i64 s.t.fee,.int .i64 s.t.delay,.arr .u8 32 s.t.k0,.arr .u8 32 s.t.k1,.int .i64 s.reserve,.int .i64 s.amount,.arr .u8 32 s.point,.arr .u8 32 s.nxt,.arr .u8 32 s.key,.arr .u8 32 s.hash,.arr .u8 32 s.tag,.arr .u8 32 s.secret,.int .i64 s.id,.int .i64 s.number,.int .i64 s.index,.int .i64 s.expiry,.int .i64 s.code,.str s.route]
def Zi.c (s:Zi):List AV:=.int .i64 s.kind::s.r
structure Zi.Len (s:Zi):Prop where
 h0:s.t.fund.length=32
 h1:s.t.k0.length=32
 h2:s.t.k1.length=32
 h3:s.point.length=32
 h4:s.nxt.length=32
 h5:s.key.length=32
 h6:s.hash.length=32
 h7:s.tag.length=32
 h8:s.secret.length=32
 hb:Bytes s.t.k0
def okF (m:List Nat) (i:Nat) (z:Bool):Bool:=Z8u i m||z
def Zis (m:List Nat) (s:Zi):Bool:=
 true&&(okF m 0 (s.t.fund==Z0)&&(okF m 1 (s.t.index==0)&&(okF m 2 (s.t.cap==0)&&(okF m 3 (s.t.dust==0)&&(okF m 4 (s.t.fee==0)&&(okF m 5 (s.t.delay==0)&&(okF m 6 (s.t.k0==Z0)&&okF m 7 (s.t.k1==Z0))))))))&&(okF m 8 (s.reserve==0)&&(okF m 9 (s.amount==0)&&(okF m 10 (s.point==Z0)&&(okF m 11 (s.nxt==Z0)&&(okF m 12 (s.key==Z0)&&(okF m 13 (s.hash==Z0)&&(okF m 14 (s.tag==Z0)&&(okF m 15 (s.secret==Z0)&&(okF m 16 (s.id==0)&&(okF m 17 (s.number==0)&&(okF m 18 (s.index==0)&&(okF m 19 (s.expiry==0)&&(okF m 20 (s.code==0)&&okF m 21 (ByteArray.toList s.route==ByteArray.toList ByteArray.empty))))))))))))))
def nmd:Int->List Nat
 | 1=>[2,3,4,5,6,8,9,10,11]
 | 2=>[12,10,11]
 | 3=>[13,18,14]
 | 4=>[14]
 | 5=>[]
 | 6=>[16,9,13,19,21]
 | 7=>[16,15]
 | 8=>[16,20]
 | 9=>[17,14]
 | 10=>[17,15,11]
 | 11=>[17,16]
 | 12=>[]
 | 13=>[9,14]
 | 14=>[20]
 | _=>[]
structure ZjZ (s:Zi):Prop where
 a:0<=s.id
 b:s.id<=2147483647
 c:0<=s.number
 d:s.number<=2147483647
 e:0<=s.index
 f:s.index<=2147483647
 g:0<=s.expiry
 h:s.expiry<=2147483647
 i:0<=s.amount
 j:s.amount<=1125899906842624
def W2 (t:Zj):Zj:={ t with k1:=t.k0.set 0 (wrap .u8 (t.k0.getD 0 0+1))}
structure Z3M (s:Zi):Prop where
 t:Yi (W2 s.t)=true
 lo:0<=s.reserve
 hi:s.reserve<=s.t.cap.tdiv 10
 am:s.amount<=s.t.cap-s.t.fee-s.reserve
def kindOk (s:Zi):Int->Prop
 | 1=>Z3M s
 | 2=>True
 | 3=>s.index<24
 | 4=>True
 | 5=>True
 | 6=>0<s.amount/\0<s.expiry/\s.route.size<=512
 | 7=>True
 | 8=>1<=s.code/\s.code<=999
 | 9=>True
 | 10=>True
 | 11=>True
 | 12=>True
 | 13=>True
 | 14=>1<=s.code/\s.code<=999
 | _=>False
structure Zp (s:Zi) (k:Int):Prop where
 w:ZjZ s
 r:Zis (nmd k) s=true
 k:kindOk s k
def chK (ok:Bool):KO:=fun o _=>match o with
 | .ret (.int .i64 0)=>ok=true
 | .ret (.int .i64 2)=>ok=false
 | _=>False
noncomputable def Z0o:Zb:=G0.withP 44 Z7u
theorem Z55 (h:Bytes xs) (i:Nat) {v:Int} (hv:0<=v/\v<=255):Bytes (xs.set i v):=⟨fun k=>by
 have hx:=h.h k
 rw [J3] at hx⊢
 rw [Kq]
 split
 ·split
  ·exact hv
  ·exact ⟨Int.le_refl 0,by decide⟩
 ·exact hx⟩
theorem Zmn (s:Zi) (ok:Bool) (hl:s.Len) (hok:ok=true↔Zp s 1):
  evF Z0o 40 35 [.agg (.int .i64 1::s.r)] ⟨0,[]⟩ (chK ok):=by
 refine @Eq.mpr _ (let k:=s.id;let a:=s.t;let d:=a.fund;let q:=decide (d.length=(32:Nat)/\(32:Nat)=(32:Nat));let p:=a.k1;let o:=decide (p.length=(32:Nat)/\(32:Nat)=(32:Nat));let n:=decide (s.key.length=(32:Nat)/\(32:Nat)=(32:Nat));let m:=decide (s.hash.length=(32:Nat)/\(32:Nat)=(32:Nat));let l:=decide (s.tag.length=(32:Nat)/\(32:Nat)=(32:Nat));let x:=decide (s.secret.length=(32:Nat)/\(32:Nat)=(32:Nat));let w:=a.index;let j:=s.number;let i:=s.index;let h:=s.expiry;let v:= !(true&&(d==Z0&&(w==(0:Int)&&(true&&(true&&(true&&(true&&(true&&p==Z0))))))&&(true&&(true&&(true&&(true&&(s.key==Z0&&(s.hash==Z0&&(s.tag==Z0&&(s.secret==Z0&&(k==(0:Int)&&(j==(0:Int)&&(i==(0:Int)&&(h==(0:Int)&&(s.code==(0:Int)&&ByteArray.toList s.route==ByteArray.toList ByteArray.empty)))))))))))))));let b:=Z6 q (Z6 o (Z6 n (Z6 m (Z6 l (Z6 x (Z5 v (ok=false) (ok=false)))))));let g:=s.amount;let c:=a.k0;let f:=a.cap;let u:=a.fee;let r:=Zj.mk d w f a.dust u a.delay c (List.set c (0:Nat) (wrap u8 (List.getD c (0:Nat) (0:Int)+(1:Int))));let e:=s.reserve;
 Z5 (decide ((0:Int)<=k)) (Z5 (!decide (k<=(2147483647:Int))) b (Z5 (decide ((0:Int)<=j)) (Z5 (!decide (j<=(2147483647:Int))) b (Z5 (decide ((0:Int)<=i)) (Z5 (!decide (i<=(2147483647:Int))) b (Z5 (decide ((0:Int)<=h)) (Z5 (!decide (h<=(2147483647:Int))) b (Z6 q (Z6 o (Z6 n (Z6 m (Z6 l (Z6 x (Z5 v (ok=false) (Z5 (decide (g<(0:Int))) (ok=false) (Z5 (decide (g>(1125899906842624:Int))) (ok=false) (Z7 (u8=u8/\(0:Nat)<(32:Nat)/\(0:Nat)<c.length) (Zj.Ok r/\Z5 ((if Yi r=true then (0:Int) else (2:Int))==(0:Int)) (Z5 (decide ((0:Int)<=e)) (Z5 (decide (e<=wrap i64 (Int.tdiv f (10:Int)))) (Z5 (!decide (g<=wrap i64 (wrap i64 (f-u)-e))) (ok=false) (ok=true)) (ok=false)) (ok=false)) (ok=false))))))))))))) b)) b)) b)) b) (by kernel_rfl) ?_
 conv=>zeta
 try simp only [vcA]
 try simp only [vcB]
 try simp only [vcC]
 obtain ⟨h0,h1,h2,h3,h4,h5,h6,h7,h8,hb⟩:=hl
 simp only [h0,h1,h2,h3,h4,h5,h6,h7,h8,and_self,decide_true,true_and,forall_const,J5,J8,decide_eq_true_eq,decide_eq_false_iff_not,Je,Jf,reduceCtorEq,false_implies,and_true]
 have hte:((if Yi (W2 s.t)=true then (0:Int) else 2)==0)=Yi (W2 s.t):=by cases Yi (W2 s.t)<;>rfl
 have hOk:(W2 s.t).Ok:=⟨h1,by show (List.set _ _ _).length=32;rw [JW];exact h1,hb,Z55 hb 0 (Z94 _)⟩
 have hd:Yi (W2 s.t)=true->(1000<=s.t.cap/\s.t.cap<=1125899906842624)/\(0<=s.t.fee/\s.t.fee<=400):=fun h=>by
  unfold Yi W2 at h
  simp only [J2,decide_eq_true_eq] at h
  obtain ⟨⟨⟨⟨⟨_,g2⟩,_⟩,g4⟩,_⟩,_⟩:=h
  exact ⟨g2,g4⟩
 have htd:Yi (W2 s.t)=true->0<=s.t.cap.tdiv 10/\s.t.cap.tdiv 10<=s.t.cap:=fun h=>by
  have:=hd h
  rw [JI (by omega)]
  omega
 have hw1:Yi (W2 s.t)=true->i64.wrap (s.t.cap.tdiv 10)=s.t.cap.tdiv 10:=fun h=>by
  have:=hd h
  have:=htd h
  exact w64 (by omega)
 have hw2:Yi (W2 s.t)=true->0<=s.reserve->s.reserve<=s.t.cap.tdiv 10->i64.wrap (i64.wrap (s.t.cap-s.t.fee)-s.reserve)=s.t.cap-s.t.fee-s.reserve:=fun h g1 g2=>by
  have:=hd h
  have:=htd h
  rw [w64 (x:=s.t.cap-s.t.fee) (by omega)]
  exact w64 (by omega)
 change _ at hOk
 cases ok with
 | true=>
  obtain ⟨⟨w0,w1,w2,w3,w4,w5,w6,w7,w8,w9⟩,hr,hk⟩:=hok.1 rfl
  have hk:Z3M s:=hk
  obtain ⟨k1,k2,k3,k4⟩:=hk
  have e1:=hw1 k1
  have e2:=hw2 k1 k2 k3
  repeat' first
   | exact hOk
   | trivial
   | apply J9
   | intro
  all_goals first
   | omega
   | (exfalso;omega)
   | (rename_i hq;exact absurd (hr.symm.trans hq) (by decide))
   | (rename_i hq _;exact absurd (hr.symm.trans hq) (by decide))
   | (rename_i hq _ _;exact absurd (hr.symm.trans hq) (by decide))
   | (rename_i hq;exact absurd ((hte.trans k1).symm.trans hq) (by decide))
 | false=>
  have hn:¬Zp s 1:=fun h=>absurd (hok.2 h) (by decide)
  repeat' first
   | exact hOk
   | trivial
   | apply J9
   | intro
  rename_i hq1 hq2 hq3 hq4
  have k1:Yi (W2 s.t)=true:=hte.symm.trans hq1
  have e1:=hw1 k1
  rw [e1] at hq3
  have e2:=hw2 k1 hq2 hq3
  rw [e2] at hq4
  exact absurd (Zp.mk ⟨by omega,by omega,by omega,by omega,by omega,by omega,by omega,by omega,by omega,by omega⟩ (by assumption) (show kindOk s 1 from Z3M.mk k1 hq2 hq3 hq4)) hn
theorem Zmo (s:Zi) (ok:Bool) (hl:s.Len) (hok:ok=true↔Zp s 2):
  evF Z0o 40 35 [.agg (.int .i64 2::s.r)] ⟨0,[]⟩ (chK ok):=by
 refine @Eq.mpr _ (let g:=s.id;let a:=s.t;let n:=a.fund;let m:=decide (n.length=32/\(32:Nat)=32);let l:=a.k0;let k:=decide (l.length=32/\(32:Nat)=32);let j:=a.k1;let i:=decide (j.length=32/\(32:Nat)=32);let h:=decide (s.hash.length=32/\(32:Nat)=32);let q:=decide (s.tag.length=32/\(32:Nat)=32);let p:=decide (s.secret.length=32/\(32:Nat)=32);let f:=s.amount;let e:=s.number;let d:=s.index;let c:=s.expiry;let o:= !(true&&(n==Z0&&(a.index==0&&(a.cap==0&&(a.dust==0&&(a.fee==0&&(a.delay==0&&(l==Z0&&j==Z0))))))&&(s.reserve==0&&(f==0&&(true&&(true&&(true&&(s.hash==Z0&&(s.tag==Z0&&(s.secret==Z0&&(g==0&&(e==0&&(d==0&&(c==0&&(s.code==0&&ByteArray.toList s.route==ByteArray.toList ByteArray.empty)))))))))))))));let b:=Z6 m (Z6 k (Z6 i (Z6 h (Z6 q (Z6 p (Z5 o (ok=false) (ok=false)))))));
 Z5 (decide (0<=g)) (Z5 (!decide (g<=2147483647)) b (Z5 (decide (0<=e)) (Z5 (!decide (e<=2147483647)) b (Z5 (decide (0<=d)) (Z5 (!decide (d<=2147483647)) b (Z5 (decide (0<=c)) (Z5 (!decide (c<=2147483647)) b (Z6 m (Z6 k (Z6 i (Z6 h (Z6 q (Z6 p (Z5 o (ok=false) (Z5 (decide (f<0)) (ok=false) (Z5 (decide (f>1125899906842624)) (ok=false) (ok=true))))))))))) b)) b)) b)) b) (by kernel_rfl) ?_
 conv=>zeta
 try simp only [vcA]
 try simp only [vcB]
 try simp only [vcC]
 obtain ⟨h0,h1,h2,h3,h4,h5,h6,h7,h8,hb⟩:=hl
 simp only [h0,h1,h2,h3,h4,h5,h6,h7,h8,and_self,decide_true,true_and,forall_const,J5,J8,decide_eq_true_eq,decide_eq_false_iff_not,Je,Jf,reduceCtorEq,false_implies,and_true]
 cases ok with
 | true=>
  obtain ⟨⟨w0,w1,w2,w3,w4,w5,w6,w7,w8,w9⟩,hr,hk⟩:=hok.1 rfl
  have hk':=hk
  simp only [kindOk] at hk
  repeat' first
   | trivial
   | apply J9
   | intro
  all_goals first
   | omega
   | (exfalso;omega)
   | (rename_i hq;exact absurd (hr.symm.trans hq) (by decide))
   | (rename_i hq _;exact absurd (hr.symm.trans hq) (by decide))
   | (rename_i hq _ _;exact absurd (hr.symm.trans hq) (by decide))
 | false=>
  have hn:¬Zp s 2:=fun h=>absurd (hok.2 h) (by decide)
  repeat' first
   | trivial
   | apply J9
   | intro
  all_goals first
   | exact absurd (Zp.mk ⟨by omega,by omega,by omega,by omega,by omega,by omega,by omega,by omega,by omega,by omega⟩ (by assumption) (by simp only [kindOk]<;>omega)) hn
   | exact absurd (Zp.mk ⟨by omega,by omega,by omega,by omega,by omega,by omega,by omega,by omega,by omega,by omega⟩ (by assumption) trivial) hn
theorem Zmp (s:Zi) (ok:Bool) (hl:s.Len) (hok:ok=true↔Zp s 3):
  evF Z0o 40 35 [.agg (.int .i64 3::s.r)] ⟨0,[]⟩ (chK ok):=by
 refine @Eq.mpr _ (let g:=s.id;let a:=s.t;let n:=a.fund;let m:=decide (n.length=32/\(32:Nat)=32);let l:=a.k0;let k:=decide (l.length=32/\(32:Nat)=32);let j:=a.k1;let i:=decide (j.length=32/\(32:Nat)=32);let h:=decide (s.point.length=32/\(32:Nat)=32);let r:=decide (s.nxt.length=32/\(32:Nat)=32);let q:=decide (s.key.length=32/\(32:Nat)=32);let p:=decide (s.secret.length=32/\(32:Nat)=32);let f:=s.amount;let e:=s.number;let d:=s.expiry;let o:= !(true&&(n==Z0&&(a.index==0&&(a.cap==0&&(a.dust==0&&(a.fee==0&&(a.delay==0&&(l==Z0&&j==Z0))))))&&(s.reserve==0&&(f==0&&(s.point==Z0&&(s.nxt==Z0&&(s.key==Z0&&(true&&(true&&(s.secret==Z0&&(g==0&&(e==0&&(true&&(d==0&&(s.code==0&&ByteArray.toList s.route==ByteArray.toList ByteArray.empty)))))))))))))));let b:=Z6 m (Z6 k (Z6 i (Z6 h (Z6 r (Z6 q (Z6 p (Z5 o (ok=false) (ok=false))))))));let c:=s.index;
 Z5 (decide (0<=g)) (Z5 (!decide (g<=2147483647)) b (Z5 (decide (0<=e)) (Z5 (!decide (e<=2147483647)) b (Z5 (decide (0<=c)) (Z5 (!decide (c<=2147483647)) b (Z5 (decide (0<=d)) (Z5 (!decide (d<=2147483647)) b (Z6 m (Z6 k (Z6 i (Z6 h (Z6 r (Z6 q (Z6 p (Z5 o (ok=false) (Z5 (decide (f<0)) (ok=false) (Z5 (decide (f>1125899906842624)) (ok=false) (Z5 (!decide (c<24)) (ok=false) (ok=true))))))))))))) b)) b)) b)) b) (by kernel_rfl) ?_
 conv=>zeta
 try simp only [vcA]
 try simp only [vcB]
 try simp only [vcC]
 obtain ⟨h0,h1,h2,h3,h4,h5,h6,h7,h8,hb⟩:=hl
 simp only [h0,h1,h2,h3,h4,h5,h6,h7,h8,and_self,decide_true,true_and,forall_const,J5,J8,decide_eq_true_eq,decide_eq_false_iff_not,Je,Jf,reduceCtorEq,false_implies,and_true]
 cases ok with
 | true=>
  obtain ⟨⟨w0,w1,w2,w3,w4,w5,w6,w7,w8,w9⟩,hr,hk⟩:=hok.1 rfl
  have hk':=hk
  simp only [kindOk] at hk
  repeat' first
   | trivial
   | apply J9
   | intro
  all_goals first
   | omega
   | (exfalso;omega)
   | (rename_i hq;exact absurd (hr.symm.trans hq) (by decide))
   | (rename_i hq _;exact absurd (hr.symm.trans hq) (by decide))
   | (rename_i hq _ _;exact absurd (hr.symm.trans hq) (by decide))
 | false=>
  have hn:¬Zp s 3:=fun h=>absurd (hok.2 h) (by decide)
  repeat' first
   | trivial
   | apply J9
   | intro
  all_goals first
   | exact absurd (Zp.mk ⟨by omega,by omega,by omega,by omega,by omega,by omega,by omega,by omega,by omega,by omega⟩ (by assumption) (by simp only [kindOk]<;>omega)) hn
   | exact absurd (Zp.mk ⟨by omega,by omega,by omega,by omega,by omega,by omega,by omega,by omega,by omega,by omega⟩ (by assumption) trivial) hn
theorem Zmq (s:Zi) (ok:Bool) (hl:s.Len) (hok:ok=true↔Zp s 4):
  evF Z0o 40 35 [.agg (.int .i64 4::s.r)] ⟨0,[]⟩ (chK ok):=by
 refine @Eq.mpr _ (let g:=s.id;let a:=s.t;let n:=a.fund;let m:=decide (n.length=32/\(32:Nat)=32);let l:=a.k0;let k:=decide (l.length=32/\(32:Nat)=32);let j:=a.k1;let i:=decide (j.length=32/\(32:Nat)=32);let h:=decide (s.point.length=32/\(32:Nat)=32);let u:=decide (s.nxt.length=32/\(32:Nat)=32);let r:=decide (s.key.length=32/\(32:Nat)=32);let q:=decide (s.hash.length=32/\(32:Nat)=32);let p:=decide (s.secret.length=32/\(32:Nat)=32);let f:=s.amount;let e:=s.number;let d:=s.index;let c:=s.expiry;let o:= !(true&&(n==Z0&&(a.index==0&&(a.cap==0&&(a.dust==0&&(a.fee==0&&(a.delay==0&&(l==Z0&&j==Z0))))))&&(s.reserve==0&&(f==0&&(s.point==Z0&&(s.nxt==Z0&&(s.key==Z0&&(s.hash==Z0&&(true&&(s.secret==Z0&&(g==0&&(e==0&&(d==0&&(c==0&&(s.code==0&&ByteArray.toList s.route==ByteArray.toList ByteArray.empty)))))))))))))));let b:=Z6 m (Z6 k (Z6 i (Z6 h (Z6 u (Z6 r (Z6 q (Z6 p (Z5 o (ok=false) (ok=false)))))))));
 Z5 (decide (0<=g)) (Z5 (!decide (g<=2147483647)) b (Z5 (decide (0<=e)) (Z5 (!decide (e<=2147483647)) b (Z5 (decide (0<=d)) (Z5 (!decide (d<=2147483647)) b (Z5 (decide (0<=c)) (Z5 (!decide (c<=2147483647)) b (Z6 m (Z6 k (Z6 i (Z6 h (Z6 u (Z6 r (Z6 q (Z6 p (Z5 o (ok=false) (Z5 (decide (f<0)) (ok=false) (Z5 (decide (f>1125899906842624)) (ok=false) (ok=true))))))))))))) b)) b)) b)) b) (by kernel_rfl) ?_
 conv=>zeta
 try simp only [vcA]
 try simp only [vcB]
 try simp only [vcC]
 obtain ⟨h0,h1,h2,h3,h4,h5,h6,h7,h8,hb⟩:=hl
 simp only [h0,h1,h2,h3,h4,h5,h6,h7,h8,and_self,decide_true,true_and,forall_const,J5,J8,decide_eq_true_eq,decide_eq_false_iff_not,Je,Jf,reduceCtorEq,false_implies,and_true]
 cases ok with
 | true=>
  obtain ⟨⟨w0,w1,w2,w3,w4,w5,w6,w7,w8,w9⟩,hr,hk⟩:=hok.1 rfl
  have hk':=hk
  simp only [kindOk] at hk
  repeat' first
   | trivial
   | apply J9
   | intro
  all_goals first
   | omega
   | (exfalso;omega)
   | (rename_i hq;exact absurd (hr.symm.trans hq) (by decide))
   | (rename_i hq _;exact absurd (hr.symm.trans hq) (by decide))
   | (rename_i hq _ _;exact absurd (hr.symm.trans hq) (by decide))
 | false=>
  have hn:¬Zp s 4:=fun h=>absurd (hok.2 h) (by decide)
  repeat' first
   | trivial
   | apply J9
   | intro
  all_goals first
   | exact absurd (Zp.mk ⟨by omega,by omega,by omega,by omega,by omega,by omega,by omega,by omega,by omega,by omega⟩ (by assumption) (by simp only [kindOk]<;>omega)) hn
   | exact absurd (Zp.mk ⟨by omega,by omega,by omega,by omega,by omega,by omega,by omega,by omega,by omega,by omega⟩ (by assumption) trivial) hn
end Go.Tk
end
