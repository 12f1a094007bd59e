/- C: part 8 of an engine (a symbolic evaluator, proved against the model) and of the walk by it. -/
import Derived.Test.YtdfjhgjefkkkbaaGreatC7
import Derived.Test.YtdfjhgjefkkkbaaGreatRows
import Derived.ChangeOld
set_option linter.unusedVariables false
set_option linter.unusedSimpArgs false
set_option maxRecDepth 100000
set_option maxHeartbeats 0
section
namespace Go.Tk
open IntKind (i64 u8 u32 u64 wrap)
variable {Tg:LI->TxS->LI} {xs:LI} {SB:Zi->Bool} {G:Zb}
def k0C (t:Zj) (sd a b lo hi:Int):ClS:=⟨t,sd,a,b,lo,hi,false,0,false,0⟩
noncomputable def Zkx (A:LI->Int×Int):Zb:=G0.withP 30 (Zc9 A)
theorem Zp8 (A:LI->Int×Int) (t:Zj) (sd a b lo hi:Int) (ht:t.Ok) (hm:Yh A (k0C t sd a b lo hi)=true):
  evF (Zkx A) 20 9 [.agg t.c,.int .i64 sd,.agg [.arr .i64 2 [a,b]],.int .i64 lo,.int .i64 hi] ⟨0,[]⟩ (clK true (k0C t sd a b lo hi)):=by
 refine @Eq.mpr _ (let e:=[a,b];let d:=k0C t sd a b lo hi;let c:=d.t;
 ∃(k:ClS),YJ [AV.arr u8 32 t.fund,AV.int i64 t.index,AV.int i64 t.cap,AV.int i64 t.dust,AV.int i64 t.fee,AV.int i64 t.delay,AV.arr u8 32 t.k0,AV.arr u8 32 t.k1,AV.int i64 sd,AV.arr i64 2 e,AV.int i64 lo,AV.int i64 hi,AV.bool false,AV.int i64 0,AV.bool false,AV.int i64 0] k/\Zj.Ok k.t/\Z5 (!Yh A k) False (t.fund=c.fund/\Z7 (t.index=c.index) (Z7 (t.cap=c.cap) (Z7 (t.dust=c.dust) (Z7 (t.fee=c.fee) (Z7 (t.delay=c.delay) (t.k0=c.k0/\t.k1=c.k1/\Z7 (sd=d.side) (e=[d.a0,d.a1]/\Z7 (lo=d.least) (Z7 (hi=d.most) True))))))))) (by kernel_rfl) ?_
 conv=>zeta
 try simp only [vcA]
 try simp only [vcB]
 try simp only [vcC]
 refine ⟨k0C t sd a b lo hi,⟨rfl⟩,ht,by rw [hm];rfl, ?_⟩
 and_intros<;>rfl
theorem Zp9 (A:LI->Int×Int) (t:Zj) (sd a b lo hi:Int) (ht:t.Ok) (hm:Yh A (k0C t sd a b lo hi)=false):
  evF (Zkx A) 20 9 [.agg t.c,.int .i64 sd,.agg [.arr .i64 2 [a,b]],.int .i64 lo,.int .i64 hi] ⟨0,[]⟩ (ZH 0 (.ret (.tuple [.ptr none,.int .i64 2])) 0 []):=by
 refine @Eq.mpr _ (∃(k:ClS),YJ [AV.arr u8 32 t.fund,AV.int i64 t.index,AV.int i64 t.cap,AV.int i64 t.dust,AV.int i64 t.fee,AV.int i64 t.delay,AV.arr u8 32 t.k0,AV.arr u8 32 t.k1,AV.int i64 sd,AV.arr i64 2 [a,b],AV.int i64 lo,AV.int i64 hi,AV.bool false,AV.int i64 0,AV.bool false,AV.int i64 0] k/\Zj.Ok k.t/\Z6 (!Yh A k) True) (by kernel_rfl) ?_
 try simp only [vcA]
 try simp only [vcB]
 try simp only [vcC]
 refine ⟨k0C t sd a b lo hi,⟨rfl⟩,ht, ?_⟩
 rw [hm];rfl
theorem ZnI (A:LI->Int×Int) (t:Zj) (sd a b lo hi:Int) (cs:List AV) (e:Int) (ht:t.Ok) (h1:Yh A (k0C t sd a b lo hi)=true->cs=(k0C t sd a b lo hi).c/\e=0) (h0:Yh A (k0C t sd a b lo hi)=false->cs=clZ.c/\e=2):
  evF (G0.withP 51 (Zc9 A)) 20 20 [.agg t.c,.int .i64 sd,.agg [.arr .i64 2 [a,b]],.int .i64 lo,.int .i64 hi] ⟨0,[]⟩ (XY fun v=>v=.tuple [.agg cs,.int .i64 e]):=by
 refine @Eq.mpr _ (let c:=AV.int i64 0;let i:=[c];let h:=AV.bool false::c::AV.bool false::i;let g:=AV.arr u8 32 t.fund::AV.int i64 t.index::AV.int i64 t.cap::AV.int i64 t.dust::AV.int i64 t.fee::AV.int i64 t.delay::AV.arr u8 32 t.k0::AV.arr u8 32 t.k1::AV.int i64 sd::AV.arr i64 2 [a,b]::AV.int i64 lo::AV.int i64 hi::h;let d:=AV.arr u8 32 Z0;let f:=AV.tuple [AV.agg cs,AV.int i64 e];
 ∃(k:ClS),YJ g k/\Zj.Ok k.t/\Z5 (!Yh A k) (AV.tuple [AV.agg (d::c::c::c::c::c::d::d::c::AV.arr i64 2 [(0:Int),0]::c::c::h),AV.int i64 2]=f) (AV.tuple (AV.agg g::i)=f)) (by kernel_rfl) ?_
 conv=>zeta
 try simp only [vcA]
 try simp only [vcB]
 try simp only [vcC]
 refine ⟨k0C t sd a b lo hi,⟨rfl⟩,ht,fun h=> ?_,fun h=> ?_⟩
 ·have h:Yh A (k0C t sd a b lo hi)=false:=by simpa using h
  obtain ⟨rfl,rfl⟩:=h0 h
  rfl
 ·have h:Yh A (k0C t sd a b lo hi)=true:=by simpa using h
  obtain ⟨rfl,rfl⟩:=h1 h
  rfl
inductive Z4c (cs:List AV) (t:Zj):Prop
 | mk:cs=t.c->Z4c cs t
def ZiA (A:LI->Int×Int):ZO:=fun args h K=>Zz none h true 40 args fun x=>match x with
 | [.agg cs,.int .i64 sd,.agg [.arr .i64 2 ab],.int .i64 lo,.int .i64 hi]=>∃t a b,Z4c cs t/\ab=[a,b]/\t.Ok/\
  (Yh A (k0C t sd a b lo hi)=true->K (.ret (.tuple [.ptr (some ⟨h.next,0,0,0,0⟩),.int .i64 0])) ⟨h.next+1,(h.next,.flat (clT (k0C t sd a b lo hi) sd false 0 false 0))::h.bs⟩)/\
  (Yh A (k0C t sd a b lo hi)=false->K (.ret (.tuple [.ptr none,.int .i64 2])) h)
 | _=>False
theorem ZnJ {k:ClS} {o:Out} {h:Z8} (hk:clK true k o h):ZH 0 (.ret (.tuple [.ptr (some ⟨0,0,0,0,0⟩),.int .i64 0])) 1 [(0,.flat (k.c++[.bool true]))] o h:=by
 unfold clK at hk
 split at hk
 ·exact hk.elim
 ·exact hk
 ·exact hk.elim
theorem ZaP:(Zkx ZA).Ok:=Zb.withP_ok Zm ZaJ
theorem Z7J (args:List AV) (h:Z8) (K:KO) (hl:ZiA ZA args h K):Ze PP 9 args h K:=by
 refine Zs.fsumm (d:=40) (Zk _ _ _ _ _ hl fun a ha=> ?_)
 split at ha
 ·rename_i cs sd ab lo hi
  obtain ⟨t,a,b,⟨rfl⟩,rfl,ht,h1,h0⟩:=ha
  cases hm:Yh ZA (k0C t sd a b lo hi) with
  | true=>exact ⟨_,_,_,_,Spec.pure (Spec.evK ZaP (Zp8 _ t sd a b lo hi ht hm) fun o' h' hk=>ZnJ hk),rfl,⟨JH,.flat _ rfl,trivial⟩,h1 hm⟩
  | false=>exact ⟨_,_,_,_,.evM ZaP (Zp9 _ t sd a b lo hi ht hm),rfl,trivial,h0 hm⟩
 ·exact ha.elim
def ZiB (A:LI->Int×Int):ZI:=fun args h K=>Zz none h true 40 args fun x=>match x with
 | [.agg cs,.int .i64 sd,.agg [.arr .i64 2 ab],.int .i64 lo,.int .i64 hi]=>∃t a b,Z4c cs t/\ab=[a,b]/\t.Ok/\
  (Yh A (k0C t sd a b lo hi)=true->K (.tuple [.agg (clU (k0C t sd a b lo hi) sd false 0 false 0),.int .i64 0]))/\
  (Yh A (k0C t sd a b lo hi)=false->K (.tuple [.agg clZ.c,.int .i64 2]))
 | _=>False
theorem Zfd (args:List AV) (h:Z8) (K:AV->Prop) (hl:ZiB ZA args h K):Ze PP 20 args h fun o h'=>∃v,o=.ret v/\h'=h/\K v:=by
 refine Zs.psumm (d:=40) (Zk _ _ _ _ _ hl fun a ha=> ?_)
 split at ha
 ·rename_i cs sd ab lo hi
  obtain ⟨t,a,b,⟨rfl⟩,rfl,ht,h1,h0⟩:=ha
  have hE:=Zb.withP_ok (f:=51) Zm ZhN
  cases hm:Yh ZA (k0C t sd a b lo hi) with
  | true=>exact ⟨_,Zs.evV hE (ZnI _ t sd a b lo hi _ _ ht (fun _=>⟨rfl,rfl⟩) (fun h=>by rw [hm] at h;cases h)),fun _=>rfl,h1 hm⟩
  | false=>exact ⟨_,Zs.evV hE (ZnI _ t sd a b lo hi _ _ ht (fun h=>by rw [hm] at h;cases h) (fun _=>⟨rfl,rfl⟩)),fun _=>rfl,h0 hm⟩
 ·exact ha.elim
def WC (Tg:LI->TxS->LI) (k:ClS):HR:=
 if k.agrees=true then noR k 250 else if k.side≠0\/k.offers=true then noR k 251
 else if ZJ k.t k.a0 k.a1 k.least≠0 then noR k (ZJ k.t k.a0 k.a1 k.least)
 else ⟨0,13,k.least,Yl Tg k k.least k.side,true,true,k.least,k.agrees,k.fee⟩
theorem Zfe {k:ClS} (h:k.agrees=true):WC Tg k=noR k 250:=by unfold WC;rw [if_pos h]
theorem Z3X {k:ClS} (h:k.agrees=false) (h2:k.side≠0\/k.offers=true):WC Tg k=noR k 251:=by unfold WC;rw [if_neg (by rw [h];decide),if_pos h2]
theorem Z6k {k:ClS} {m:Int} (h:k.agrees=false) (h2:¬(k.side≠0\/k.offers=true)) (he:ZJ k.t k.a0 k.a1 k.least=m) (hm:m≠0):WC Tg k=noR k m:=by
 unfold WC;rw [if_neg (by rw [h];decide),if_neg h2,if_pos (by rw [he];exact hm),he]
theorem Z9w {k:ClS} (h:k.agrees=false) (h2:¬(k.side≠0\/k.offers=true)) (he:ZJ k.t k.a0 k.a1 k.least=0):WC Tg k=⟨0,13,k.least,Yl Tg k k.least k.side,true,true,k.least,k.agrees,k.fee⟩:=by
 unfold WC;rw [if_neg (by rw [h];decide),if_neg h2,if_neg (fun q=>q he)]
theorem Zky (Tg:LI->TxS->LI) (k:ClS) (e kd am:Int) (tg:LI) (sy of:Bool) (la:Int) (ag:Bool) (fe:Int) (hk:XH k) (hR:WC Tg k=⟨e,kd,am,tg,sy,of,la,ag,fe⟩):
  evF (G0.withF 32 (ZhS Tg)) 20 12 [.ptr (some ⟨0,0,0,0,0⟩)] ⟨1,[(0,.flat (clT k k.side k.offers k.last k.agrees k.fee))]⟩ (ZH 1 (.ret (.tuple [.agg (sdC kd am tg),.int .i64 e])) 1 [(0,.flat (clT k k.side of la ag fe))]):=by
 refine @Eq.mpr _ (let v:=k.agrees;let g:=decide (0=kd);let d:=decide (0=am);let a:=k.t;let l:=a.fund;let x:=l=l;let i:=a.index;let w:=decide (i=i);let h:=a.cap;let J:=decide (h=h);let u:=a.dust;let I:=decide (u=u);let s:=a.fee;let H:=decide (s=s);let r:=a.delay;let G:=decide (r=r);let q:=a.k0;let F:=q=q;let p:=a.k1;let E:=p=p;let f:=k.side;let D:=decide (f=f);let o:=[k.a0,k.a1];let C:=o=o;let b:=k.least;let B:=decide (b=b);let n:=k.most;let A:=decide (n=n);let m:=k.offers;let z:=Z7 (v=ag) (Z7 (k.fee=fe) True);let c:=x/\Z6 w (Z6 J (Z6 I (Z6 H (Z6 G (F/\E/\Z6 D (C/\Z6 B (Z6 A (Z7 (m=of) (Z7 (k.last=la) z)))))))));let y:=Z6 g (Z0=Z0/\Z0=Z0/\Z0=Z0/\Z6 d (Z0=Z0/\Z0=Z0/\Z0=Z0/\Z0=Z0/\Z0=tg/\Z0=Z0/\ByteArray.empty=ByteArray.empty/\Z7 (251=e) c));
 Z5 v (Z6 g (Z0=Z0/\Z0=Z0/\Z0=Z0/\Z6 d (Z0=Z0/\Z0=Z0/\Z0=Z0/\Z0=Z0/\Z0=tg/\Z0=Z0/\ByteArray.empty=ByteArray.empty/\Z7 (250=e) c))) (Z5 (f !=0) y (Z5 m y (∃(k_1:ClS),
 let j:=ZJ k_1.t k_1.a0 k_1.a1 b;
 Yy [AV.arr u8 32 l,AV.int i64 i,AV.int i64 h,AV.int i64 u,AV.int i64 s,AV.int i64 r,AV.arr u8 32 q,AV.arr u8 32 p,AV.int i64 f,AV.arr i64 2 o,AV.int i64 b,AV.int i64 n,AV.bool m,AV.int i64 k.last,AV.bool v,AV.int i64 k.fee,AV.bool true] k_1/\
 XH k_1/\
 (j=0->Z7 (13=kd) (Z0=Z0/\Z0=Z0/\Z0=Z0/\Z7 (b=am) (Z0=Z0/\Z0=Z0/\Z0=Z0/\Z0=Z0/\Yl Tg k_1 b k_1.side=tg/\Z0=Z0/\ByteArray.empty=ByteArray.empty/\Z7 (0=e) (x/\Z6 w (Z6 J (Z6 I (Z6 H (Z6 G (F/\E/\Z6 D (C/\Z6 B (Z6 A (Z7 (true=of) (Z7 (b=la) z)))))))))))))/\
 (j=2->Z6 g (Z0=Z0/\Z0=Z0/\Z0=Z0/\Z6 d (Z0=Z0/\Z0=Z0/\Z0=Z0/\Z0=Z0/\Z0=tg/\Z0=Z0/\ByteArray.empty=ByteArray.empty/\Z7 (2=e) c)))/\(j=180->Z6 g (Z0=Z0/\Z0=Z0/\Z0=Z0/\Z6 d (Z0=Z0/\Z0=Z0/\Z0=Z0/\Z0=Z0/\Z0=tg/\Z0=Z0/\ByteArray.empty=ByteArray.empty/\Z7 (180=e) c))))))) (by kernel_rfl) ?_
 conv=>zeta
 try simp only [vcA]
 try simp only [vcB]
 try simp only [vcC]
 refine ⟨fun hg=> ?_,fun hg=>⟨fun hs=> ?_,fun hs=>⟨fun ho=> ?_,fun ho=> ?_⟩⟩⟩
 ·cases hR.symm.trans (Zfe hg)
  and_intros<;>rfl
 ·cases hR.symm.trans (Z3X hg (.inl (bne_iff_ne.1 hs)))
  and_intros<;>rfl
 ·cases hR.symm.trans (Z3X hg (.inr ho))
  and_intros<;>rfl
 have hq:¬(k.side≠0\/k.offers=true):=by
  rintro (h|h)
  ·exact h (bne_eq_false_iff_eq.1 hs)
  ·rw [ho] at h;cases h
 refine ⟨k,⟨rfl⟩,hk,fun hE=> ?_,fun hE=> ?_,fun hE=> ?_⟩
 ·cases hR.symm.trans (Z9w hg hq hE)
  and_intros<;>rfl
 ·cases hR.symm.trans (Z6k hg hq hE (by decide))
  and_intros<;>rfl
 ·cases hR.symm.trans (Z6k hg hq hE (by decide))
  and_intros<;>rfl
theorem Zpa (Tg:LI->TxS->LI) (k:ClS) (e kd am:Int) (tg:LI) (sy of:Bool) (la:Int) (ag:Bool) (fe:Int) (hk:XH k) (hR:WC Tg k=⟨e,kd,am,tg,sy,of,la,ag,fe⟩):
  evF (G0.withP 70 (Zf8 Tg)) 20 60 [.agg (clU k k.side k.offers k.last k.agrees k.fee)] ⟨0,[]⟩ (ZH 0 (.ret (.tuple [.agg (clU k k.side of la ag fe),.agg (sdC kd am tg),.int .i64 e])) 0 []):=by
 refine @Eq.mpr _ (let L:=k.agrees;let a:=k.t;let D:=a.fund;let g:=D=D;let C:=a.index;let f:=decide (C=C);let A:=a.cap;let d:=decide (A=A);let y:=a.dust;let s:=decide (y=y);let K:=a.fee;let r:=decide (K=K);let J:=a.delay;let q:=decide (J=J);let I:=a.k0;let p:=I=I;let H:=a.k1;let o:=H=H;let c:=k.side;let n:=decide (c=c);let G:=[k.a0,k.a1];let m:=G=G;let b:=k.least;let l:=decide (b=b);let F:=k.most;let j:=decide (F=F);let E:=k.offers;let x:=decide (E=of);let w:=decide (k.last=la);let i:=decide (L=ag);let h:=decide (k.fee=fe);let v:=decide (0=kd);let u:=decide (0=am);let M:=g/\Z6 f (Z6 d (Z6 s (Z6 r (Z6 q (p/\o/\Z6 n (m/\Z6 l (Z6 j (Z6 x (Z6 w (Z6 i (Z6 h (Z6 v (Z0=Z0/\Z0=Z0/\Z0=Z0/\Z6 u (Z0=Z0/\Z0=Z0/\Z0=Z0/\Z0=Z0/\Z0=tg/\Z0=Z0/\ByteArray.empty=ByteArray.empty/\Z7 (251=e) True))))))))))))));
 Z5 L (g/\Z6 f (Z6 d (Z6 s (Z6 r (Z6 q (p/\o/\Z6 n (m/\Z6 l (Z6 j (Z6 x (Z6 w (Z6 i (Z6 h (Z6 v (Z0=Z0/\Z0=Z0/\Z0=Z0/\Z6 u (Z0=Z0/\Z0=Z0/\Z0=Z0/\Z0=Z0/\Z0=tg/\Z0=Z0/\ByteArray.empty=ByteArray.empty/\Z7 (250=e) True))))))))))))))) (Z5 (c !=0) M (Z5 E M (∃(k_1:ClS),
 let B:=ZJ k_1.t k_1.a0 k_1.a1 b;let z:=Yl Tg k_1 b c;
 YJ [AV.arr u8 32 D,AV.int i64 C,AV.int i64 A,AV.int i64 y,AV.int i64 K,AV.int i64 J,AV.arr u8 32 I,AV.arr u8 32 H,AV.int i64 c,AV.arr i64 2 G,AV.int i64 b,AV.int i64 F,AV.bool E,AV.int i64 k.last,AV.bool L,AV.int i64 k.fee] k_1/\
 (Zj.All k_1.t/\k_1.a0<9223372036854775808/\(c=0\/c=1))/\
 (B=2->g/\Z6 f (Z6 d (Z6 s (Z6 r (Z6 q (p/\o/\Z6 n (m/\Z6 l (Z6 j (Z6 x (Z6 w (Z6 i (Z6 h (Z6 v (Z0=Z0/\Z0=Z0/\Z0=Z0/\Z6 u (Z0=Z0/\Z0=Z0/\Z0=Z0/\Z0=Z0/\Z0=tg/\Z0=Z0/\ByteArray.empty=ByteArray.empty/\Z7 (2=e) True)))))))))))))))/\
 (B=180->g/\Z6 f (Z6 d (Z6 s (Z6 r (Z6 q (p/\o/\Z6 n (m/\Z6 l (Z6 j (Z6 x (Z6 w (Z6 i (Z6 h (Z6 v (Z0=Z0/\Z0=Z0/\Z0=Z0/\Z6 u (Z0=Z0/\Z0=Z0/\Z0=Z0/\Z0=Z0/\Z0=tg/\Z0=Z0/\ByteArray.empty=ByteArray.empty/\Z7 (180=e) True)))))))))))))))/\
 (B=0->z=z/\g/\Z6 f (Z6 d (Z6 s (Z6 r (Z6 q (p/\o/\Z6 n (m/\Z6 l (Z6 j (Z7 (true=of) (Z7 (b=la) (Z6 i (Z6 h (Z7 (13=kd) (Z0=Z0/\Z0=Z0/\Z0=Z0/\Z7 (b=am) (Z0=Z0/\Z0=Z0/\Z0=Z0/\Z0=Z0/\z=tg/\Z0=Z0/\ByteArray.empty=ByteArray.empty/\Z7 (0=e) True))))))))))))))))))) (by kernel_rfl) ?_
 conv=>zeta
 try simp only [vcA]
 try simp only [vcB]
 try simp only [vcC]
 refine ⟨fun hg=> ?_,fun hg=>⟨fun hs=> ?_,fun hs=>⟨fun ho=> ?_,fun ho=> ?_⟩⟩⟩
 ·cases hR.symm.trans (Zfe hg)
  and_intros<;>rfl
 ·cases hR.symm.trans (Z3X hg (.inl (bne_iff_ne.1 hs)))
  and_intros<;>rfl
 ·cases hR.symm.trans (Z3X hg (.inr ho))
  and_intros<;>rfl
 have hq:¬(k.side≠0\/k.offers=true):=by
  rintro (h|h)
  ·exact h (bne_eq_false_iff_eq.1 hs)
  ·rw [ho] at h;cases h
 refine ⟨k,⟨rfl⟩,⟨hk.t,hk.a,hk.s⟩,fun hE=> ?_,fun hE=> ?_,fun hE=> ?_⟩
 ·cases hR.symm.trans (Z6k hg hq hE (by decide))
  and_intros<;>rfl
 ·cases hR.symm.trans (Z6k hg hq hE (by decide))
  and_intros<;>rfl
 ·cases hR.symm.trans (Z9w hg hq hE)
  and_intros<;>rfl
def Zkz (Tg:LI->TxS->LI):ZO:=fun args h K=>match args with
 | [.ptr (some ⟨x,0,0,0,0⟩)]=>frA [x] h 40 args fun Bs a=>match Bs,a with
  | [.flat cs],[.ptr (some ⟨0,0,0,0,0⟩)]=>∃k,Yy cs k/\XH k/\∀r,r=WC Tg k->K (.ret (.tuple [.agg (sdC r.kd r.am r.tg),.int .i64 r.e])) ⟨h.next,(x,.flat (clT k k.side r.of r.la r.ag r.fe))::Ya h.bs x⟩
  | _,_=>False
 | _=>False
theorem ZhY (args:List AV) (h:Z8) (K:KO) (hl:Zkz Zy args h K):Ze PP 12 args h K:=by
 unfold Zkz at hl
 split at hl
 ·refine Spec.fsumm hl fun Bs a hlen hK0=> ?_
  split at hK0
  ·obtain ⟨k,⟨rfl⟩,hk,hK⟩:=hK0
   exact ⟨_,_,_,_,_,.evM (Zb.withF_ok Zm Z6j) (Zky Zy k _ _ _ _ _ _ _ _ _ hk rfl),by simp,.ret _ _ rfl,.cons _ _ _ _ _ _ rfl (.flat _ _ rfl) .nil,hK _ rfl⟩
  ·exact hK0.elim
 ·exact hl.elim
def ZiC (Tg:LI->TxS->LI):ZI:=fun args h K=>Zz none h true 40 args fun x=>match x with
 | [.agg cs]=>∃k,YJ cs k/\XH k/\∀r,r=WC Tg k->K (.tuple [.agg (clU k k.side r.of r.la r.ag r.fe),.agg (sdC r.kd r.am r.tg),.int .i64 r.e])
 | _=>False
theorem Zff (args:List AV) (h:Z8) (K:AV->Prop) (hl:ZiC Zy args h K):Ze PP 60 args h fun o h'=>∃v,o=.ret v/\h'=h/\K v:=by
 refine Zs.psumm (d:=40) (Zk _ _ _ _ _ hl fun a ha=> ?_)
 split at ha
 ·obtain ⟨k,⟨rfl⟩,hk,hK⟩:=ha
  exact ⟨_,.evM (Zb.withP_ok Zm Z7F) (Zpa Zy k _ _ _ _ _ _ _ _ _ hk rfl),fun _=>rfl,hK _ rfl⟩
 ·exact ha.elim
noncomputable def ZkA (A:LI->Int×Int) (Tg:LI->TxS->LI):Zb:=(G0.withF 42 (clF A)).withF 43 (Zit A Tg)
noncomputable def Zfg (A:LI->Int×Int) (Tg:LI->TxS->LI):Zb:=(G0.withF 61 (clF A)).withF 120 (Ziu A Tg)
def ctG (Tg:LI->TxS->LI) (k:ClS):Nat->InS:=Z4b Tg (txC k.t k.a0 k.a1 k.fee) k.t.k0 k.t.k1 1
def txV (b n:Nat):AV:=.agg [.int .i64 2147483647,.nslice ⟨b,0,130,0,0⟩ 130 1 1,.nslice ⟨b+1,0,132,0,0⟩ 132 n n]
theorem ZnK (A:LI->Int×Int) (Tg:LI->TxS->LI) (k:ClS) (n:Nat) (L:List Z9) (g:Nat->InS) (hA:A=ZA) (ht:k.t.All) (hE:ZJ k.t k.a0 k.a1 k.fee=0) (ha:k.a0<9223372036854775808) (hL:L=ZR (clL k.t k.a0 k.a1 k.fee)) (hn:n=L.length) (hg:g=ctG Tg k):
  evF (ZkA A Tg) 20 15 [.ptr (some ⟨0,0,0,0,0⟩)] ⟨1,[(0,.flat (clT k k.side k.offers k.last true k.fee))]⟩ (ZH 1 (.ret (.tuple [txV 1 n,.int .i64 0])) 3 [(0,.flat (clT k k.side k.offers k.last true k.fee)),(1,.rows 130 1 (Zg g)),(2,.rows 132 n (Zf (Y2 L)))]):=by
 refine @Eq.mpr _ (let e:=k.t;let o:=e.fund;let m:=e.index;let u:=e.cap;let s:=e.dust;let r:=e.fee;let q:=e.delay;let j:=e.k0;let h:=e.k1;let x:=Zj.mk o m u s r q j h;let w:=[k.a0,k.a1];let p:=k.fee;let f:=InS.mk o m 1 Z0 Z0 Z0;let D:=[(2,6),(1,5)];
 Zj.Ok x/\
 ∃(a:Int),
 ∃(b:Int),
 let C:=clB A x a b p;let B:=clL x a b p;
 w=[a,b]/\
 a<9223372036854775808/\
 (C=false->False)/\
 (C=true->
 (B.length=0->False)/\
 ∀(n_1:Nat) (L_1:List Z9),
 L_1=ZR B->
 n_1=L_1.length->
 n_1≠0->
 Z7 (0+n_1<=n_1) ((∀(i:Nat),i<n_1->true=true)/\
 ∃(t:TxS),
 let l:=t.N;let v:=t.M;let z:=decide (l=1);let y:=decide (v=n);
 (t.num=2147483647/\
 (((1:Nat)=1/\l=1)/\∀(i:Nat),i<1->Ye [AV.arr u8 32 f.name,AV.int i64 f.index,AV.int i64 f.way,AV.arr u8 32 f.tag,AV.arr u8 32 f.also,AV.arr u8 32 f.secret] 0 130 i=InS.c (t.ins i))/\
 (n_1=n_1/\v=n_1)/\
 ∀(i:Nat),
 let d:=Y2 L_1 i;
 i<n_1->[AV.int i64 d.kind,AV.int i64 d.amount,AV.arr u8 32 d.owner,AV.arr u8 32 d.other,AV.arr u8 32 d.point,AV.arr u8 32 d.hash,AV.int i64 d.delay,AV.int i64 d.expiry]=ZF.c (t.outs i))/\
 (TxS.Ok t/\j.length=32/\h.length=32)/\(Yp A t=false->False)/\(Yp A t=true->Z7 (t.num=2147483647) (Z6 z (Z7 (1<=l) (Z6 y (Z7 (n<=v) (o=o/\Z7 (m=m) (Z7 (u=u) (Z7 (s=s) (Z7 (r=r) (Z7 (q=q) (j=j/\h=h/\Z7 (k.side=k.side) (w=w/\Z7 (k.least=k.least) (Z7 (k.most=k.most) (Z7 (k.offers=k.offers) (Z7 (k.last=k.last) (Z7 (p=p) (Z6 z (Zo 1 D 1 (Zg g) (Zg (Z4b Tg t j h l))/\Z6 y (Zo 1 D n (Zf (Y2 L)) (Zf t.outs)/\True)))))))))))))))))))))) (by kernel_rfl) ?_
 conv=>zeta
 try simp only [vcA]
 try simp only [vcB]
 try simp only [vcC]
 subst hA
 obtain ⟨hb,hz⟩:=Z9p hE
 have hb:clB ZA k.t k.a0 k.a1 k.fee=true:=hb
 have hck:=Vd hE
 refine ⟨ht.ok,k.a0,k.a1,rfl,ha,fun h=>absurd (hb.symm.trans h) (by decide),fun _=>⟨fun h=>absurd h hz,fun n1 L1 hL1 hn1 hn0=>⟨fun _ _=>trivial,txC k.t k.a0 k.a1 k.fee,⟨rfl,⟨rfl,fun i hi=>VM _ i hi⟩, ?_,fun i _=> ?_⟩,⟨WB ht.ok ht.fl,ht.ok.k0,ht.ok.k1⟩,fun h=>absurd (hck.symm.trans h) (by decide),fun _=> ?_⟩⟩⟩
 ·subst hn1 hL1;rfl
 ·subst hL1;rfl
 ·subst hn hL hg
  exact ⟨rfl,rfl,J4 _,rfl,J4 _,rfl,Ym fun _ _=>rfl,rfl,ZP fun _ _=>rfl⟩
theorem ZnL (A:LI->Int×Int) (Tg:LI->TxS->LI) (k:ClS) :
  evF (ZkA A Tg) 20 15 [.ptr (some ⟨0,0,0,0,0⟩)] ⟨1,[(0,.flat (clT k k.side k.offers k.last false k.fee))]⟩ (ZH 1 (.ret (.tuple [.agg txZ,.int .i64 5])) 1 [(0,.flat (clT k k.side k.offers k.last false k.fee))]):=by
 refine @Eq.mpr _ (let a:=k.t;let i:=a.fund;let h:=a.index;let g:=a.cap;let f:=a.dust;let e:=a.fee;let d:=a.delay;let c:=a.k0;let b:=a.k1;let j:=[k.a0,k.a1];
 i=i/\Z7 (h=h) (Z7 (g=g) (Z7 (f=f) (Z7 (e=e) (Z7 (d=d) (c=c/\b=b/\Z7 (k.side=k.side) (j=j/\Z7 (k.least=k.least) (Z7 (k.most=k.most) (Z7 (k.offers=k.offers) (Z7 (k.last=k.last) (Z7 (k.fee=k.fee) True))))))))))) (by kernel_rfl) ?_
 conv=>zeta
 try simp only [vcA]
 try simp only [vcB]
 try simp only [vcC]
theorem ZnM (A:LI->Int×Int) (Tg:LI->TxS->LI) (k:ClS) (n:Nat) (L:List Z9) (g:Nat->InS) (hA:A=ZA) (ht:k.t.All) (hE:ZJ k.t k.a0 k.a1 k.fee=0) (ha:k.a0<9223372036854775808) (hL:L=ZR (clL k.t k.a0 k.a1 k.fee)) (hn:n=L.length) (hg:g=ctG Tg k):
  evF (Zfg A Tg) 20 58 [.agg (clU k k.side k.offers k.last true k.fee)] ⟨0,[]⟩ (ZH 0 (.ret (.tuple [txV 0 n,.int .i64 0])) 2 [(0,.rows 130 1 (Zg g)),(1,.rows 132 n (Zf (Y2 L)))]):=by
 refine @Eq.mpr _ (let e:=k.t;let x:=e.fund;let u:=e.index;let h:=e.k0;let f:=e.k1;let l:=Zj.mk x u e.cap e.dust e.fee e.delay h f;let q:=k.fee;let p:=[(1,4),(0,3)];let o:=Zf (Y2 L);let z:=∃(t:TxS),(t.num=0/\t.N=0/\t.M=0)/\(TxS.Ok t/\QS t/\(h.length=32/\f.length=32)/\Bytes h/\Bytes f)/\(Yp A t=false->False)/\(Yp A t=true->Z7 (t.num=2147483647) (Z7 (t.N=1) (Z7 (1<=t.N) (Z7 (t.M=n) (Z7 (n<=t.M) (Z7 (t.N=1) (Zo 0 p 1 (Zg g) (Zg (Z7A Tg t h f).ins)/\Z7 (t.M=n) (Zo 0 p n o (Zf t.outs)/\True))))))));let j:=InS.mk x u 1 Z0 Z0 Z0;let y:=[(1,6),(0,5)];
 Zj.Ok l/\
 ∃(a:Int),
 ∃(b:Int),
 let w:=clB A l a b q;let v:=clL l a b q;
 [k.a0,k.a1]=[a,b]/\
 a<9223372036854775808/\
 (w=false->z)/\
 (w=true->
 (v.length=0->z)/\
 ∀(n_1:Nat) (L:List Z9),
 L=ZR v->
 n_1=L.length->
 n_1≠0->
 Z7 (0+n_1<=n_1) ((∀(i:Nat),i<n_1->true=true)/\
 ∃(t:TxS),
 let m:=t.M;let s:=decide (t.N=1);let r:=decide (m=n);
 (t.num=2147483647/\
 (((1:Nat)=1/\t.N=1)/\∀(i:Nat),i<1->Ye [AV.arr u8 32 j.name,AV.int i64 j.index,AV.int i64 j.way,AV.arr u8 32 j.tag,AV.arr u8 32 j.also,AV.arr u8 32 j.secret] 0 130 i=InS.c (t.ins i))/\
 (n_1=n_1/\m=n_1)/\
 ∀(i:Nat),
 let d:=Y2 L i;
 i<n_1->[AV.int i64 d.kind,AV.int i64 d.amount,AV.arr u8 32 d.owner,AV.arr u8 32 d.other,AV.arr u8 32 d.point,AV.arr u8 32 d.hash,AV.int i64 d.delay,AV.int i64 d.expiry]=ZF.c (t.outs i))/\
 (TxS.Ok t/\QS t/\(h.length=32/\f.length=32)/\Bytes h/\Bytes f)/\(Yp A t=false->False)/\(Yp A t=true->Z7 (t.num=2147483647) (Z6 s (Z7 (1<=t.N) (Z6 r (Z7 (n<=m) (Z6 s (Zo 0 y 1 (Zg g) (Zg (Z7A Tg t h f).ins)/\Z6 r (Zo 0 y n o (Zf t.outs)/\True))))))))))) (by kernel_rfl) ?_
 conv=>zeta
 try simp only [vcA]
 try simp only [vcB]
 try simp only [vcC]
 subst hA
 obtain ⟨hb,hz⟩:=Z9p hE
 have hb:clB ZA k.t k.a0 k.a1 k.fee=true:=hb
 have hck:=Vd hE
 refine ⟨ht.ok,k.a0,k.a1,rfl,ha,(fun h=>absurd (hb.symm.trans h) (by decide)),fun _=>⟨(fun h=>absurd h hz),fun n1 L1 hL1 hn1 hn0=>⟨fun _ _=>trivial,txC k.t k.a0 k.a1 k.fee,⟨rfl,⟨rfl,fun i hi=>VM _ i hi⟩, ?_,fun i _=> ?_⟩,⟨WB ht.ok ht.fl,ZaI ht,⟨ht.ok.k0,ht.ok.k1⟩,ht.ok.b0,ht.ok.b1⟩,fun h=>absurd (hck.symm.trans h) (by decide),fun _=> ?_⟩⟩⟩
 ·subst hn1 hL1;rfl
 ·subst hL1;rfl
 ·subst hn hL hg
  exact ⟨rfl,rfl,J4 _,rfl,J4 _,rfl,Ym fun i hi=>congrArg InS.c (if_pos hi).symm,rfl,ZP fun _ _=>rfl⟩
theorem ZnN (A:LI->Int×Int) (Tg:LI->TxS->LI) (k:ClS) :
  evF (Zfg A Tg) 20 58 [.agg (clU k k.side k.offers k.last false k.fee)] ⟨0,[]⟩ (ZH 0 (.ret (.tuple [.agg txZ,.int .i64 5])) 0 []):=by
 refine @Eq.mpr _ (True) (by kernel_rfl) ?_
 trivial
structure TxK (k:ClS):Prop where
 t:k.t.All
 a:k.a0<9223372036854775808
def Zfh (cs:List AV) (i:Nat):AV:=cs.getD i .top
def ZhZ (Tg:LI->TxS->LI):ZO:=fun args h K=>match args with
 | [.ptr (some ⟨x,0,0,0,0⟩)]=>frA [x] h 40 args fun Bs a=>match Bs,a with
  | [.flat cs],[.ptr (some ⟨0,0,0,0,0⟩)]=>∃k,Yy cs k/\TxK k/\(match Zfh cs 14 with
   | .bool true=>ZJ k.t k.a0 k.a1 k.fee=0/\∀n L,L=ZR (clL k.t k.a0 k.a1 k.fee)->n=L.length->n<=2->K (.ret (.tuple [txV h.next n,.int .i64 0])) ⟨h.next+2,(x,.flat cs)::(h.next,.rows 130 1 (Zg (ctG Tg k)))::(h.next+1,.rows 132 n (Zf (Y2 L)))::Ya h.bs x⟩
   | .bool false=>K (.ret (.tuple [.agg txZ,.int .i64 5])) ⟨h.next,(x,.flat cs)::Ya h.bs x⟩
   | _=>False)
  | _,_=>False
 | _=>False
theorem ZaQ (args:List AV) (h:Z8) (K:KO) (hl:ZhZ Zy args h K):Ze PP 15 args h K:=by
 have hE:(ZkA ZA Zy).Ok:=Zb.withF_ok (Zb.withF_ok Zm Z9m) ZeH
 unfold ZhZ at hl
 split at hl
 ·refine Spec.fsumm hl fun Bs a hlen hK0=> ?_
  split at hK0
  ·obtain ⟨k,⟨rfl⟩,⟨ht,ha⟩,hm⟩:=hK0
   obtain ⟨t,sd,a0,a1,le,mo,o0,l0,g0,f0⟩:=k
   cases g0 with
   | true=>
    obtain ⟨he,hK⟩:ZJ t a0 a1 f0=0/\_:=hm
    have h2:(ZR (clL t a0 a1 f0)).length<=2:=by rw [X3];exact Z2l
    exact ⟨_,_,_,_,_,.evM hE (ZnK _ Zy ⟨t,sd,a0,a1,le,mo,o0,l0,true,f0⟩ _ _ _ rfl ht he ha rfl rfl rfl),by simp,.ret _ _ rfl,.cons _ _ _ _ _ _ rfl (.flat _ _ rfl) (.cons _ _ _ _ _ _ rfl (.rows _ _ _ (fun _ _=>rfl)) (.cons _ _ _ _ _ _ rfl (.rows _ _ _ (fun _ _=>rfl)) .nil)),hK _ _ rfl rfl h2⟩
   | false=>exact ⟨_,_,_,_,_,.evM hE (ZnL _ Zy ⟨t,sd,a0,a1,le,mo,o0,l0,false,f0⟩),by simp,.ret _ _ rfl,.cons _ _ _ _ _ _ rfl (.flat _ _ rfl) .nil,hm⟩
  ·exact hK0.elim
 ·exact hl.elim
def ZnO (Tg:LI->TxS->LI):ZO:=fun args h K=>Zz none h true 40 args fun x=>match x with
 | [.agg cs]=>∃k,YJ cs k/\TxK k/\(match Zfh cs 14 with
   | .bool true=>ZJ k.t k.a0 k.a1 k.fee=0/\∀n L,L=ZR (clL k.t k.a0 k.a1 k.fee)->n=L.length->n<=2->K (.ret (.tuple [txV h.next n,.int .i64 0])) ⟨h.next+2,(h.next,.rows 130 1 (Zg (ctG Tg k)))::(h.next+1,.rows 132 n (Zf (Y2 L)))::h.bs⟩
   | .bool false=>K (.ret (.tuple [.agg txZ,.int .i64 5])) h
   | _=>False)
 | _=>False
theorem Zi0 (args:List AV) (h:Z8) (K:KO) (hl:ZnO Zy args h K):Ze PP 58 args h K:=by
 have hE:(Zfg ZA Zy).Ok:=Zb.withF_ok (Zb.withF_ok Zm Z6a) ZeK
 refine Zs.fsumm (d:=40) (Zk _ _ _ _ _ hl fun a ha=> ?_)
 split at ha
 ·obtain ⟨k,⟨rfl⟩,⟨ht,ha⟩,hm⟩:=ha
  obtain ⟨t,sd,a0,a1,le,mo,o0,l0,g0,f0⟩:=k
  cases g0 with
  | true=>
   obtain ⟨he,hK⟩:ZJ t a0 a1 f0=0/\_:=hm
   have h2:(ZR (clL t a0 a1 f0)).length<=2:=by rw [X3];exact Z2l
   exact ⟨_,_,_,_,.evM hE (ZnM _ Zy ⟨t,sd,a0,a1,le,mo,o0,l0,true,f0⟩ _ _ _ rfl ht he ha rfl rfl rfl),rfl,⟨by decide,.rows _ _ _ (fun i _=>(ctG Zy _ i).plainC),by decide,.rows _ _ _ (fun i _=>(Y2 _ i).plainC),trivial⟩,hK _ _ rfl rfl h2⟩
  | false=>exact ⟨_,_,_,_,.evM hE (ZnN _ Zy ⟨t,sd,a0,a1,le,mo,o0,l0,false,f0⟩),rfl,trivial,hm⟩
 ·exact ha.elim
def Zfi (SB:Zi->Bool) (M:Int->Int->Int) (Tg:LI->TxS->LI):ZO:=fun args h K=>match args with
 | [.ptr (some ⟨x,0,0,0,0⟩),_]=>frA [x] h 60 args fun Bs a=>match Bs,a with
  | [.flat cs],[.ptr (some ⟨0,0,0,0,0⟩),.agg ss]=>∃k s,Yy cs k/\XI ss s/\(Yc k/\k.t.All)/\s.Len/\
   ∀r,r=Y7 SB M Tg k s->K (.ret (.tuple [.agg (sdC r.kd r.am r.tg),.bool r.sy,.int .i64 r.e])) ⟨h.next,(x,.flat (clT k k.side r.of r.la r.ag r.fe))::Ya h.bs x⟩
  | _,_=>False
 | _=>False
theorem Z2n {s:Zi} (h:WP s=true):0<=s.amount/\s.amount<=1125899906842624:=by
 have:=(Qh.1 h).w
 exact ⟨this.i,this.j⟩
theorem Zfj (args:List AV) (h:Z8) (K:KO) (hl:Zfi WP Xa Zy args h K):Ze PP 13 args h K:=by
 unfold Zfi at hl
 split at hl
 ·refine Spec.fsumm hl fun Bs a hlen hK0=> ?_
  split at hK0
  ·obtain ⟨k,s,⟨rfl⟩,⟨rfl⟩,⟨hk,ht⟩,hs,hK⟩:=hK0
   exact ⟨_,_,_,_,_,Z1z Z9t hk ht hs Z2n rfl,by simp,.ret _ _ rfl,.cons _ _ _ _ _ _ rfl (.flat _ _ rfl) .nil,hK _ rfl⟩
  ·exact hK0.elim
 ·exact hl.elim
def ZiD (n:Int):LI:=n::List.replicate 31 0
def VN:Zj:=⟨Z0,0,1000,10,5,3,ZiD 1,ZiD 2⟩
def ZnP (A:LI->Int×Int):ZO:=fun args h K=>Zz none h true 40 args fun x=>match x with
 | [.agg cs,.int .i64 sd,.agg [.arr .i64 2 ab],.int .i64 lo,.int .i64 hi]=>∃t a b,Z4c cs t/\ab=[a,b]/\t.Ok/\(match decide (lo<=hi) with
  | true=>Yh A (k0C t sd a b lo hi)=true/\K (.ret (.tuple [.ptr (some ⟨h.next,0,0,0,0⟩),.int .i64 0])) ⟨h.next+1,(h.next,.flat (clT (k0C t sd a b lo hi) sd false 0 false 0))::h.bs⟩
  | false=>Yh A (k0C t sd a b lo hi)=false/\K (.ret (.tuple [.ptr none,.int .i64 2])) h)
 | _=>False
theorem Zi1 (args:List AV) (h:Z8) (K:KO) (hl:ZnP ZA args h K):Ze PP 9 args h K:=Z7J args h K (Zk _ _ _ _ _ hl fun a ha=>by
 split at ha
 ·obtain ⟨t,a,b,h1,h2,h3,hm⟩:=ha
  refine ⟨t,a,b,h1,h2,h3,fun hq=> ?_,fun hq=> ?_⟩
  ·split at hm
   ·exact hm.2
   ·exact absurd (hq.symm.trans hm.1) (by decide)
  ·split at hm
   ·exact absurd (hq.symm.trans hm.1) (by decide)
   ·exact hm.2
 ·exact ha.elim)
def ZkB (Tg:LI->TxS->LI):ZO:=fun args h K=>match args with
 | [.ptr (some ⟨x,0,0,0,0⟩)]=>frA [x] h 40 args fun Bs a=>match Bs,a with
  | [.flat cs],[.ptr (some ⟨0,0,0,0,0⟩)]=>∃k,Yy cs k/\XH k/\k.agrees=false/\(match Zfh cs 8,Zfh cs 12 with
   | .int .i64 0,.bool false=>ZJ k.t k.a0 k.a1 k.least=0/\K (.ret (.tuple [.agg (sdC 13 k.least (Yl Tg k k.least k.side)),.int .i64 0])) ⟨h.next,(x,.flat (Znw cs k.least))::Ya h.bs x⟩
   | .int .i64 _,.bool _=>(k.side≠0\/k.offers=true)/\K (.ret (.tuple [.agg (sdC 0 0 Z0),.int .i64 251])) ⟨h.next,(x,.flat cs)::Ya h.bs x⟩
   | _,_=>False)
  | _,_=>False
 | _=>False
theorem Zi2 (args:List AV) (h:Z8) (K:KO) (hl:ZkB Zy args h K):Ze PP 12 args h K:=by
 have hE:=Zb.withF_ok (f:=32) Zm Z6j
 unfold ZkB at hl
 split at hl
 ·refine Spec.fsumm hl fun Bs a hlen hK0=> ?_
  split at hK0
  ·obtain ⟨k,⟨rfl⟩,hk,hg,hm⟩:=hK0
   obtain ⟨t,sd,a0,a1,le,mo,o0,l0,g0,f0⟩:=k
   have hg:g0=false:=hg
   subst hg
   split at hm
   ·rename_i h8 h12
    obtain ⟨hE0,hK⟩:=hm
    have e1:sd=0:=by cases h8;rfl
    have e2:o0=false:=by cases h12;rfl
    subst e1 e2
    exact ⟨_,_,_,_,_,.evM hE (Zky Zy ⟨t,0,a0,a1,le,mo,false,l0,false,f0⟩ _ _ _ _ _ _ _ _ _ hk (Z9w rfl (by simp) hE0)),by simp,.ret _ _ rfl,.cons _ _ _ _ _ _ rfl (.flat _ _ rfl) .nil,hK⟩
   ·obtain ⟨hso,hK⟩:=hm
    exact ⟨_,_,_,_,_,.evM hE (Zky Zy ⟨t,sd,a0,a1,le,mo,o0,l0,false,f0⟩ _ _ _ _ _ _ _ _ _ hk (Z3X rfl hso)),by simp,.ret _ _ rfl,.cons _ _ _ _ _ _ rfl (.flat _ _ rfl) .nil,hK⟩
   ·exact hm.elim
  ·exact hK0.elim
 ·exact hl.elim
def Zfk (SB:Zi->Bool) (Tg:LI->TxS->LI):ZO:=fun args h K=>match args with
 | [.ptr (some ⟨x,0,0,0,0⟩),_]=>frA [x] h 60 args fun Bs a=>match Bs,a with
  | [.flat cs],[.ptr (some ⟨0,0,0,0,0⟩),.agg ss]=>∃k s,Yy cs k/\XI ss s/\(Yc k/\k.t.All/\k.agrees=false)/\(s.Len/\SB s=true)/\(match Zfh ss 0 with
   | .int .i64 12=>K (.ret (.tuple [.agg (sdC 0 0 Z0),.bool false,.int .i64 210])) ⟨h.next,(x,.flat cs)::Ya h.bs x⟩
   | .int .i64 13=>(ZJ k.t k.a0 k.a1 s.amount=0/\Yl Tg k s.amount (1-k.side)≠s.tag)/\K (.ret (.tuple [.agg (sdC 0 0 Z0),.bool false,.int .i64 221])) ⟨h.next,(x,.flat cs)::Ya h.bs x⟩
   | _=>False)
  | _,_=>False
 | _=>False
theorem Zfl (args:List AV) (h:Z8) (K:KO) (hl:Zfk WP Zy args h K):Ze PP 13 args h K:=by
 unfold Zfk at hl
 split at hl
 ·refine Spec.fsumm hl fun Bs a hlen hK0=> ?_
  split at hK0
  ·obtain ⟨k,s,⟨rfl⟩,⟨rfl⟩,⟨hk,ht,hg⟩,⟨hs,hS⟩,hm⟩:=hK0
   split at hm
   ·rename_i h0
    have e:s.kind=12:=by
     have h:AV.int .i64 s.kind=AV.int .i64 12:=h0
     injection h
    exact ⟨_,_,_,_,_,Z1z Z9t hk ht hs Z2n (Us hS (by rw [e];decide)),by simp,.ret _ _ rfl,.cons _ _ _ _ _ _ rfl (.flat _ _ rfl) .nil,hm⟩
   ·rename_i h0
    have e:s.kind=13:=by
     have h:AV.int .i64 s.kind=AV.int .i64 13:=h0
     injection h
    exact ⟨_,_,_,_,_,Z1z Z9t hk ht hs Z2n (Z11 ⟨hS,e,hg⟩ hm.1.1 hm.1.2),by simp,.ret _ _ rfl,.cons _ _ _ _ _ _ rfl (.flat _ _ rfl) .nil,hm.2⟩
   ·exact hm.elim
  ·exact hK0.elim
 ·exact hl.elim
noncomputable def ZnQ (A:LI->Int×Int) (SB:Zi->Bool) (Tg:LI->TxS->LI):Zb:=(((G0.withF 9 (ZnP A)).withF 12 (ZkB Tg)).withF 13 (Zfk SB Tg)).withF 15 (ZhZ Tg)
theorem Zi3:(ZnQ ZA WP Zy).Ok:=Zb.withF_ok (Zb.withF_ok (Zb.withF_ok (Zb.withF_ok Zm Zi1) Zi2) Zfl) ZaQ
theorem Z1A (h:∀x∈xs,0<=x/\x<=255):Bytes xs:=⟨fun i=>by
 rw [J3]
 rcases Jm i xs.length with q|q
 ·rw [Ja q];exact h _ (Kg q)
 ·rw [JG q];exact ⟨by decide,by decide⟩⟩
theorem U9:VN.All:=⟨⟨rfl,rfl,Z1A (by decide),Z1A (by decide)⟩,rfl,Z1A (by decide)⟩
def kA:ClS:=k0C VN 1 600 400 0 9
def kB:ClS:=k0C VN 0 600 400 3 9
def kC:ClS:=clO kB true 3 false 0
theorem Z9x:XH kA:=⟨U9,by decide,.inr rfl⟩
theorem ZkC:XH kB:=⟨U9,by decide,.inl rfl⟩
theorem Z9y:XH kC:=⟨U9,by decide,.inl rfl⟩
theorem Zfm:Yc kC:=⟨⟨by kernel_rfl,.inl rfl,by decide,by decide,rfl,by decide,by decide,by decide⟩,fun _=>⟨by decide,by decide⟩,(fun h=>nomatch h),(fun h=>nomatch h),fun _=>rfl⟩
theorem VB {kd am:Int} {tg:LI} (h:tg.length=32):(sdN kd am tg).Len:=⟨rfl,rfl,rfl,rfl,rfl,rfl,rfl,h,rfl,YE⟩
theorem ZnR:WP (sdN 12 0 Z0)=true:=Qh.2 ⟨⟨by decide,by decide,by decide,by decide,by decide,by decide,by decide,by decide,by decide,by decide⟩,by kernel_rfl,trivial⟩
theorem ZnS:WP (sdN 13 3 Z0)=true:=Qh.2 ⟨⟨by decide,by decide,by decide,by decide,by decide,by decide,by decide,by decide,by decide,by decide⟩,by kernel_rfl,trivial⟩
theorem ZnT:Yl Zy kC 3 1≠Z0:=fun h=>by
 have e:(Yl Zy kC 3 1==Z0)=false:=by kernel_rfl
 rw [h] at e
 exact absurd e (by decide)
theorem Zfn:ZJ VN 600 400 3=0:=by kernel_rfl
theorem Zpb:Yh ZA (k0C VN 1 600 400 0 9)=true:=by kernel_rfl
theorem Zpc:Yh ZA (k0C VN 0 600 400 3 9)=true:=by kernel_rfl
theorem Zpd:Yh ZA (k0C VN 0 600 400 5 4)=false:=by kernel_rfl
theorem ZnU (A:LI->Int×Int) (SB:Zi->Bool) (Tg:LI->TxS->LI) (hA:A=ZA) (hSB:SB=WP) (hT:Tg=Zy):
  evF (ZnQ A SB Tg) 40 11 [] ⟨0,[]⟩ (XY fun v=>v=.bool true):=by
 refine @Eq.mpr _ (let j:=[(600:Int),400];let p:=j=j;let d:=AV.arr u8 32 Z0;let c:=AV.int i64 0;let u:=[(0:Int),0,0,0,0,0,0,0,0,0,0,0,0,0,0,0,0,0,0,0,0,0,0,0,0,0,0,0,0,0,0];let l:=AV.bool false;let i:=AV.bool true;let r:=[l,c,i];let q:=l::c::r;let I:=[d,d,d,d,d,d,c,c,c,c,c,AV.str ByteArray.empty];
 p/\
 ∃(t:Zj),
 let o:=[d,c,AV.int i64 1000,AV.int i64 10,AV.int i64 5,AV.int i64 3,AV.arr u8 32 ((1:Int)::u),AV.arr u8 32 ((2:Int)::u)];
 ∃(a:Int),
 ∃(b:Int),
 let h:=k0C t 1 a b 0 9;let f:=h.t;
 Z4c o t/\
 j=[a,b]/\
 Zj.Ok t/\
 Yh A h=true/\
 ∃(k:ClS),
 let H:=AV.arr u8 32 f.fund::AV.int i64 f.index::AV.int i64 f.cap::AV.int i64 f.dust::AV.int i64 f.fee::AV.int i64 f.delay::AV.arr u8 32 f.k0::AV.arr u8 32 f.k1::AV.int i64 1::AV.arr i64 2 [h.a0,h.a1]::AV.int i64 h.least::AV.int i64 h.most::q;
 Yy H k/\
 XH k/\
 k.agrees=false/\
 (k.side≠0\/k.offers=true)/\
 ∃(k:ClS),
 Yy H k/\
 TxK k/\
 p/\
 ∃(t:Zj),
 ∃(a:Int),
 ∃(b:Int),
 Z4c o t/\
 j=[a,b]/\
 Zj.Ok t/\
 Yh A (k0C t 0 a b 5 4)=false/\
 p/\
 ∃(t:Zj),
 ∃(a:Int),
 ∃(b:Int),
 let g:=k0C t 0 a b 3 9;let e:=g.t;let G:=AV.arr u8 32 e.fund;let F:=AV.int i64 e.index;let E:=AV.int i64 e.cap;let D:=AV.int i64 e.dust;let C:=AV.int i64 e.fee;let B:=AV.int i64 e.delay;let z:=AV.arr u8 32 e.k0;let y:=AV.arr u8 32 e.k1;let x:=AV.arr i64 2 [g.a0,g.a1];let w:=AV.int i64 g.least;let v:=AV.int i64 g.most;
 Z4c o t/\
 j=[a,b]/\
 Zj.Ok t/\
 Yh A g=true/\
 ∃(k:ClS),
 let n:=k.least;let m:=G::F::E::D::C::B::z::y::c::x::w::v::i::AV.int i64 n::r;
 Yy (G::F::E::D::C::B::z::y::c::x::w::v::q) k/\XH k/\k.agrees=false/\ZJ k.t k.a0 k.a1 n=0/\∃(k:ClS),Yy m k/\XH k/\k.agrees=false/\(k.side≠0\/k.offers=true)/\∃(k:ClS),∃(s:Zi),Yy m k/\XI (AV.int i64 12::d::c::c::c::c::c::d::d::c::c::I) s/\(Yc k/\Zj.All k.t/\k.agrees=false)/\(Zi.Len s/\SB s=true)/\∃(k:ClS),∃(s:Zi),Yy m k/\XI (AV.int i64 13::d::c::c::c::c::c::d::d::c::AV.int i64 3::I) s/\(Yc k/\Zj.All k.t/\k.agrees=false)/\(Zi.Len s/\SB s=true)/\(ZJ k.t k.a0 k.a1 s.amount=0/\Yl Tg k s.amount (1-k.side)≠s.tag)/\Z5 (n==3) (i=i) (l=i)) (by kernel_rfl) ?_
 conv=>zeta
 try simp only [vcA]
 try simp only [vcB]
 try simp only [vcC]
 subst hA hSB hT
 have hok:=U9.ok
 refine ⟨VN,600,400,⟨rfl⟩,rfl,hok,Zpb,kA,⟨rfl⟩,Z9x,rfl,.inl (by decide),kA,⟨rfl⟩,⟨Z9x.t,Z9x.a⟩,VN,600,400,⟨rfl⟩,rfl,hok,Zpd,VN,600,400,⟨rfl⟩,rfl,hok,Zpc,kB,⟨rfl⟩,ZkC,rfl,Zfn,kC,⟨rfl⟩,Z9y,rfl,.inr rfl,kC,sdN 12 0 Z0,⟨rfl⟩,⟨rfl⟩,⟨Zfm,Z9y.t,rfl⟩,⟨VB rfl,ZnR⟩,kC,sdN 13 3 Z0,⟨rfl⟩,⟨rfl⟩,⟨Zfm,Z9y.t,rfl⟩,⟨VB rfl,ZnS⟩,⟨Zfn,ZnT⟩,fun _=>trivial,fun h=> ?_⟩
 exact absurd (show (kB.least==3)=true from rfl) (by rw [h];decide)
def Zfo:ZI:=fun args _ K=>match args with
 | []=>K (.bool true)
 | _=>False
theorem Zi4 (args:List AV) (h:Z8) (K:AV->Prop) (hl:Zfo args h K):Ze PP 11 args h fun o h'=>∃v,o=.ret v/\h'=h/\K v:=by
 unfold Zfo at hl
 split at hl
 ·exact Xk Zi3 rfl (ZnU _ _ _ rfl rfl rfl) (fun u hu=>hu▸hl)
 ·exact hl.elim
noncomputable def ZkD (W:Int->LI) (Tg:LI->TxS->LI) (F:TxS->TxS->Bool):Zb:=((((G0.withF 15 (ZhZ Tg)).withF 58 (ZnO Tg)).withP 59 (ZdP F)).withF 21 (ZaO W)).withF 28 (Ziz W)
theorem ZaR:(ZkD Zn Zy Vu).Ok:=Zb.withF_ok (Zb.withF_ok (Zb.withP_ok (Zb.withF_ok (Zb.withF_ok Zm ZaQ) Zi0) ZdV) Z7I) Zfc
theorem Z5d (t:TxS):Vu t t=true:=by
 unfold Vu Z8X ZbC
 simp [Z21,Ux]
def ctT (Tg:LI->TxS->LI) (k:ClS) (n:Nat) (L:List Z9):TxS:=⟨2147483647,1,ctG Tg k,n,Y2 L⟩
theorem ZkE {k:ClS} {n:Nat} {L:List Z9} (hT:∀a t,(Tg a t).length=32) (ht:k.t.All) (hL:L=ZR (clL k.t k.a0 k.a1 k.fee)) (hn:n=L.length):(ctT Tg k n L).Ok:=by
 have h0:=WB (a:=k.a0) (b:=k.a1) (fee:=k.fee) ht.ok ht.fl
 subst hn hL
 refine ⟨by show (1:Nat)<_;decide,h0.m,fun i hi=> ?_,h0.outs⟩
 have hi:i<1:=hi
 show (Z4b Tg _ _ _ 1 i).Ok
 unfold Z4b
 rw [if_pos hi]
 unfold Z10
 rw [if_pos (show ((txC k.t k.a0 k.a1 k.fee).ins i).way=1 from rfl)]
 exact ⟨ht.fl,hT _ _,hT _ _,rfl⟩
theorem Z9z:(TxS.mk 0 0 (fun _=>⟨[],0,0,[],[],[]⟩) 0 (fun _=>⟨0,0,[],[],[],[],0,0⟩)).Ok:=⟨by decide,by decide,fun i hi=>absurd hi (K6 i),fun i hi=>absurd hi (K6 i)⟩
theorem Zpe (W:Int->LI) (Tg:LI->TxS->LI) (F:TxS->TxS->Bool) (k:ClS) (hk:TxK k) (hr:RwC k) (h9:∀v,(W v).length<=9) (hE:ZJ k.t k.a0 k.a1 k.fee=0) (hT:∀a t,(Tg a t).length=32) (hF:∀t,t.Ok->F t t=true):
  evF (ZkD W Tg F) 20 24 [.ptr (some ⟨0,0,0,0,0⟩),.agg (clU k k.side k.offers k.last true k.fee)] ⟨1,[(0,.flat (clT k k.side k.offers k.last true k.fee))]⟩ (ZH 1 (.ret (.bool true)) 1 [(0,.flat (clT k k.side k.offers k.last true k.fee))]):=by
 refine @Eq.mpr _ (let e:=k.t;let f:=e.fund;let q3:=AV.arr u8 32 f;let m:=e.index;let Z:=AV.int i64 m;let l:=e.cap;let Y:=AV.int i64 l;let j:=e.dust;let X:=AV.int i64 j;let x:=e.fee;let b2:=AV.int i64 x;let w:=e.delay;let b1:=AV.int i64 w;let h:=e.k0;let b0:=AV.arr u8 32 h;let g:=e.k1;let a9:=AV.arr u8 32 g;let v:=k.side;let a8:=AV.int i64 v;let u:=[k.a0,k.a1];let a7:=AV.arr i64 2 u;let s:=k.least;let a6:=AV.int i64 s;let r:=k.most;let a5:=AV.int i64 r;let q:=k.offers;let a4:=AV.bool q;let p:=k.last;let a3:=AV.int i64 p;let R:=AV.bool true;let o:=k.fee;let a2:=AV.int i64 o;let Q:=f=f;let P:=decide (m=m);let O:=decide (l=l);let K:=decide (j=j);let J:=decide (x=x);let I:=decide (w=w);let H:=h=h;let G:=g=g;let E:=decide (v=v);let D:=u=u;let C:=decide (s=s);let B:=decide (r=r);let A:=decide (q=q);let z:=decide (p=p);let y:=decide (o=o);
 ∃(k_1:ClS),
 let V:=[q3,Z,Y,X,b2,b1,b0,a9,a8,a7,a6,a5,a4,a3,R,a2,R];
 Yy V k_1/\
 TxK k_1/\
 ZJ k_1.t k_1.a0 k_1.a1 k_1.fee=0/\
 ∀(n:Nat) (L:List Z9),
 L=ZR (clL k_1.t k_1.a0 k_1.a1 k_1.fee)->
 n=L.length->
 n<=2->
 ∃(k_2:ClS),
 let U:=[q3,Z,Y,X,b2,b1,b0,a9,a8,a7,a6,a5,a4,a3,R,a2];
 YJ U k_2/\
 TxK k_2/\
 ZJ k_2.t k_2.a0 k_2.a1 k_2.fee=0/\
 ∀(n_1:Nat) (L_1:List Z9),
 L_1=ZR (clL k_2.t k_2.a0 k_2.a1 k_2.fee)->
 n_1=L_1.length->
 n_1<=2->
 Q/\
 Z6 P (Z6 O (Z6 K (Z6 J (Z6 I (H/\
 G/\
 Z6 E (D/\
 Z6 C (Z6 B (Z6 A (Z6 z (Z6 y (Z7 (f.length=32/\f.length=32) (Z7 (h.length=32/\h.length=32) (Z7 (g.length=32/\g.length=32) (Z6 (f==f&&(m==m&&(l==l&&(j==j&&(x==x&&(w==w&&(h==h&&g==g))))))&&(v==v&&(u==u&&(s==s&&(r==r&&(q==q&&(p==p&&(true&&o==o)))))))) ((∀(i:Nat),i<1->true=true)/\
 Z7 (0+n<=n) ((∀(i:Nat),i<n->true=true)/\
 (∀(i:Nat),i<1->true=true)/\
 Z7 (0+n_1<=n_1) ((∀(i:Nat),i<n_1->true=true)/\
 ∃(a:TxS),
 ∃(b:TxS),
 (a.num=2147483647/\
 (((1:Nat)=1/\a.N=1)/\
 ∀(i:Nat),
 let d:=ctG Tg k_1 i;
 i<1->[AV.arr u8 32 d.name,AV.int i64 d.index,AV.int i64 d.way,AV.arr u8 32 d.tag,AV.arr u8 32 d.also,AV.arr u8 32 d.secret]=InS.c (a.ins i))/\
 (n=n/\a.M=n)/\
 ∀(i:Nat),
 let d:=Y2 L i;
 i<n->[AV.int i64 d.kind,AV.int i64 d.amount,AV.arr u8 32 d.owner,AV.arr u8 32 d.other,AV.arr u8 32 d.point,AV.arr u8 32 d.hash,AV.int i64 d.delay,AV.int i64 d.expiry]=ZF.c (a.outs i))/\
 (b.num=2147483647/\
 (((1:Nat)=1/\b.N=1)/\
 ∀(i:Nat),
 let d:=ctG Tg k_2 i;
 i<1->[AV.arr u8 32 d.name,AV.int i64 d.index,AV.int i64 d.way,AV.arr u8 32 d.tag,AV.arr u8 32 d.also,AV.arr u8 32 d.secret]=InS.c (b.ins i))/\
 (n_1=n_1/\b.M=n_1)/\
 ∀(i:Nat),
 let d:=Y2 L_1 i;
 i<n_1->[AV.int i64 d.kind,AV.int i64 d.amount,AV.arr u8 32 d.owner,AV.arr u8 32 d.other,AV.arr u8 32 d.point,AV.arr u8 32 d.hash,AV.int i64 d.delay,AV.int i64 d.expiry]=ZF.c (b.outs i))/\
 (TxS.Ok a/\TxS.Ok b)/\
 Z6 (F a b) (∃(k_3:ClS),
 let d:=List.length (YB W k_3);let b3:=decide (u8=u8/\0+d<=d);let T:=strOf (List.take d (ZX 0 (YB W k_3)));
 Yy V k_3/\
 RwC k_3/\
 Q/\
 Z6 P (Z6 O (Z6 K (Z6 J (Z6 I (H/\
 G/\
 Z6 E (D/\
 Z6 C (Z6 B (Z6 A (Z6 z (Z6 y (Z6 b3 (∃(k_4:ClS),
 let S:=List.length (YB W k_4);
 YJ U k_4/\RwC k_4/\Z6 b3 (T=T/\Z7 (u8=u8/\0+S<=S) (Z7 ((ByteArray.toList T==ByteArray.toList (strOf (List.take S (ZX 0 (YB W k_4)))))=true) (Q/\Z6 P (Z6 O (Z6 K (Z6 J (Z6 I (H/\G/\Z6 E (D/\Z6 C (Z6 B (Z6 A (Z6 z (Z6 y True)))))))))))))))))))))))))))))))))))))))))))) (by kernel_rfl) ?_
 conv=>zeta
 try simp only [vcA]
 try simp only [vcB]
 try simp only [vcC]
 have h0:=hk.t.ok
 refine ⟨(clP k k.side k.offers true),⟨rfl⟩,⟨hk.t,hk.a⟩,hE,fun n L hL hn hn2=>⟨(clP k k.side k.offers true),⟨rfl⟩,⟨hk.t,hk.a⟩,hE,fun n' L' hL' hn' _=> ?_⟩⟩
 have hk1:(ctT Tg (clP k k.side k.offers true) n L).Ok:=ZkE (k:=(clP k k.side k.offers true)) hT hk.t hL hn
 have e1:L'=L:=hL'.trans hL.symm
 have e2:n'=n:=by rw [hn,hn',e1]
 subst e1 e2
 refine ⟨⟨hk.t.fl,hk.t.fl⟩,⟨h0.k0,h0.k0⟩,⟨h0.k1,h0.k1⟩,by simp,fun _ _=>trivial,fun _ _=>trivial,fun _ _=>trivial,fun _ _=>trivial,ctT Tg (clP k k.side k.offers true) n' L',ctT Tg (clP k k.side k.offers true) n' L',⟨rfl,⟨rfl,fun _ _=>rfl⟩,rfl,fun _ _=>rfl⟩,⟨rfl,⟨rfl,fun _ _=>rfl⟩,rfl,fun _ _=>rfl⟩,⟨hk1,hk1⟩,hF _ hk1,(clP k k.side k.offers true),⟨rfl⟩,⟨⟨hr.n.ix,hr.n.ca,hr.n.du,hr.n.fe,hr.n.de,hr.n.sd,hr.n.a0,hr.n.a1,hr.n.le,hr.n.mo,hr.n.la,hr.n.fee⟩,hr.f,hr.h0,hr.h1⟩,(clP k k.side k.offers true),⟨rfl⟩,⟨⟨hr.n.ix,hr.n.ca,hr.n.du,hr.n.fe,hr.n.de,hr.n.sd,hr.n.a0,hr.n.a1,hr.n.le,hr.n.mo,hr.n.la,hr.n.fee⟩,hr.f,hr.h0,hr.h1⟩, ?_⟩
 exact beq_self_eq_true _
theorem Zpf (W:Int->LI) (Tg:LI->TxS->LI) (F:TxS->TxS->Bool) (k:ClS) (hk:TxK k) (hr:RwC k) (h9:∀v,(W v).length<=9) (hT:∀a t,(Tg a t).length=32) (hF:∀t,t.Ok->F t t=true):
  evF (ZkD W Tg F) 20 24 [.ptr (some ⟨0,0,0,0,0⟩),.agg (clU k k.side k.offers k.last false k.fee)] ⟨1,[(0,.flat (clT k k.side k.offers k.last false k.fee))]⟩ (ZH 1 (.ret (.bool true)) 1 [(0,.flat (clT k k.side k.offers k.last false k.fee))]):=by
 refine @Eq.mpr _ (let c:=k.t;let d:=c.fund;let X:=AV.arr u8 32 d;let i:=c.index;let U:=AV.int i64 i;let h:=c.cap;let T:=AV.int i64 h;let g:=c.dust;let S:=AV.int i64 g;let s:=c.fee;let a9:=AV.int i64 s;let r:=c.delay;let a8:=AV.int i64 r;let f:=c.k0;let a7:=AV.arr u8 32 f;let e:=c.k1;let a6:=AV.arr u8 32 e;let q:=k.side;let a5:=AV.int i64 q;let p:=[k.a0,k.a1];let a4:=AV.arr i64 2 p;let o:=k.least;let a3:=AV.int i64 o;let n:=k.most;let a2:=AV.int i64 n;let m:=k.offers;let Z:=AV.bool m;let l:=k.last;let Y:=AV.int i64 l;let j:=k.fee;let V:=AV.int i64 j;let L:=d=d;let K:=decide (i=i);let J:=decide (h=h);let I:=decide (g=g);let H:=decide (s=s);let G:=decide (r=r);let E:=f=f;let D:=e=e;let C:=decide (q=q);let B:=p=p;let A:=decide (o=o);let z:=decide (n=n);let y:=decide (m=m);let x:=decide (l=l);let w:=decide (j=j);
 ∃(k_1:ClS),
 let R:=[X,U,T,S,a9,a8,a7,a6,a5,a4,a3,a2,Z,Y,AV.bool false,V,AV.bool true];
 Yy R k_1/\
 TxK k_1/\
 ∃(k_2:ClS),
 let Q:=[X,U,T,S,a9,a8,a7,a6,a5,a4,a3,a2,Z,Y,AV.bool false,V];
 YJ Q k_2/\
 TxK k_2/\
 L/\
 Z6 K (Z6 J (Z6 I (Z6 H (Z6 G (E/\
 D/\
 Z6 C (B/\
 Z6 A (Z6 z (Z6 y (Z6 x (Z6 w (Z7 (d.length=32/\d.length=32) (Z7 (f.length=32/\f.length=32) (Z7 (e.length=32/\e.length=32) (Z6 (d==d&&(i==i&&(h==h&&(g==g&&(s==s&&(r==r&&(f==f&&e==e))))))&&(q==q&&(p==p&&(o==o&&(n==n&&(m==m&&(l==l&&(true&&j==j)))))))) (∃(a:TxS),
 ∃(b:TxS),
 (a.num=0/\a.N=0/\a.M=0)/\
 (b.num=0/\b.N=0/\b.M=0)/\
 (TxS.Ok a/\TxS.Ok b)/\
 Z6 (F a b) (∃(k_3:ClS),
 let v:=List.length (YB W k_3);let P:=decide (u8=u8/\0+v<=v);let u:=strOf (List.take v (ZX 0 (YB W k_3)));
 Yy R k_3/\
 RwC k_3/\
 L/\
 Z6 K (Z6 J (Z6 I (Z6 H (Z6 G (E/\
 D/\
 Z6 C (B/\
 Z6 A (Z6 z (Z6 y (Z6 x (Z6 w (Z6 P (∃(k_4:ClS),
 let O:=List.length (YB W k_4);
 YJ Q k_4/\RwC k_4/\Z6 P (u=u/\Z7 (u8=u8/\0+O<=O) (Z7 ((ByteArray.toList u==ByteArray.toList (strOf (List.take O (ZX 0 (YB W k_4)))))=true) (L/\Z6 K (Z6 J (Z6 I (Z6 H (Z6 G (E/\D/\Z6 C (B/\Z6 A (Z6 z (Z6 y (Z6 x (Z6 w True)))))))))))))))))))))))))))))))))))))))))) (by kernel_rfl) ?_
 conv=>zeta
 try simp only [vcA]
 try simp only [vcB]
 try simp only [vcC]
 have h0:=hk.t.ok
 refine ⟨(clP k k.side k.offers false),⟨rfl⟩,⟨hk.t,hk.a⟩,(clP k k.side k.offers false),⟨rfl⟩,⟨hk.t,hk.a⟩,⟨hk.t.fl,hk.t.fl⟩,⟨h0.k0,h0.k0⟩,⟨h0.k1,h0.k1⟩,by simp,_,_,⟨rfl,rfl,rfl⟩,⟨rfl,rfl,rfl⟩,⟨Z9z,Z9z⟩,hF _ Z9z,(clP k k.side k.offers false),⟨rfl⟩,⟨⟨hr.n.ix,hr.n.ca,hr.n.du,hr.n.fe,hr.n.de,hr.n.sd,hr.n.a0,hr.n.a1,hr.n.le,hr.n.mo,hr.n.la,hr.n.fee⟩,hr.f,hr.h0,hr.h1⟩,(clP k k.side k.offers false),⟨rfl⟩,⟨⟨hr.n.ix,hr.n.ca,hr.n.du,hr.n.fe,hr.n.de,hr.n.sd,hr.n.a0,hr.n.a1,hr.n.le,hr.n.mo,hr.n.la,hr.n.fee⟩,hr.f,hr.h0,hr.h1⟩, ?_⟩
 exact beq_self_eq_true _
structure Yr (k:ClS):Prop where
 i:Yc k
 t:k.t.All
theorem Yr.a {k:ClS} (h:Yr k):k.a0<9223372036854775808:=by
 have:=Wi h.i.made.t
 have:=h.i.made.a1
 have:=h.i.made.sum
 omega
theorem Yr.x {k:ClS} (h:Yr k):TxK k:=⟨h.t,h.a⟩
theorem Yr.o {k:ClS} (h:Yr k):XH k:=⟨h.t,h.a,h.i.made.side⟩
theorem Yr.r {k:ClS} (h:Yr k):RwC k:=⟨h.i.num,h.t.fl,h.t.ok.k0,h.t.ok.k1⟩
theorem Zi5 {k:ClS} (h:Yr k):Spec PP 24 [.ptr (some ⟨0,0,0,0,0⟩),.agg (clU k k.side k.offers k.last k.agrees k.fee)] ⟨1,[(0,.flat (clT k k.side k.offers k.last k.agrees k.fee))]⟩ (.ret (.bool true)) 1 [(0,.flat (clT k k.side k.offers k.last k.agrees k.fee))]:=by
 have hx:=h.x
 have hr:=h.r
 have ha:=h.i.agr
 obtain ⟨t,sd,a0,a1,le,mo,o0,l0,g0,f0⟩:=k
 cases g0 with
 | true=>exact .evM ZaR (Zpe Zn Zy Vu ⟨t,sd,a0,a1,le,mo,o0,l0,true,f0⟩ hx hr Z7H (ha rfl).2.2 Xg fun t _=>Z5d t)
 | false=>exact .evM ZaR (Zpf Zn Zy Vu ⟨t,sd,a0,a1,le,mo,o0,l0,false,f0⟩ hx hr Z7H Xg fun t _=>Z5d t)
def Zfp:ZO:=fun args h K=>match args with
 | [.ptr (some ⟨x,0,0,0,0⟩),_]=>frA [x] h 40 args fun Bs a=>match Bs,a with
  | [.flat cs],[.ptr (some ⟨0,0,0,0,0⟩),.agg ds]=>∃k,Yy cs k/\YJ ds k/\Yr k/\K (.ret (.bool true)) ⟨h.next,(x,.flat cs)::Ya h.bs x⟩
  | _,_=>False
 | _=>False
theorem Zfq (args:List AV) (h:Z8) (K:KO) (hl:Zfp args h K):Ze PP 24 args h K:=by
 unfold Zfp at hl
 split at hl
 ·refine Spec.fsumm hl fun Bs a hlen hK0=> ?_
  split at hK0
  ·obtain ⟨k,⟨rfl⟩,⟨rfl⟩,hk,hK⟩:=hK0
   exact ⟨_,_,_,_,_,Zi5 hk,by simp,.ret _ _ rfl,.cons _ _ _ _ _ _ rfl (.flat _ _ rfl) .nil,hK⟩
  ·exact hK0.elim
 ·exact hl.elim
def Zfr (SB:Zi->Bool) (M:Int->Int->Int) (Tg:LI->TxS->LI):ZI:=fun args h K=>Zz none h true 60 args fun x=>match x with
 | [.agg cs,.agg ss]=>∃k s,YJ cs k/\XI ss s/\(Yc k/\k.t.All)/\s.Len/\
  ∀r,r=Y7 SB M Tg k s->K (.tuple [.agg (clU k k.side r.of r.la r.ag r.fe),.agg (sdC r.kd r.am r.tg),.bool r.sy,.int .i64 r.e])
 | _=>False
theorem Zcd (args:List AV) (h:Z8) (K:AV->Prop) (hl:Zfr WP Xa Zy args h K):Ze PP 63 args h fun o h'=>∃v,o=.ret v/\h'=h/\K v:=by
 refine Zs.psumm (d:=60) (Zk _ _ _ _ _ hl fun a ha=> ?_)
 split at ha
 ·obtain ⟨k,s,⟨rfl⟩,⟨rfl⟩,⟨hk,ht⟩,hs,hK⟩:=ha
  exact ⟨_,Z9u Zkv hk ht hs Z2n rfl,fun _=>rfl,hK _ rfl⟩
 ·exact ha.elim
def Ua (k:ClS) (r:HR):ClS:=⟨k.t,k.side,k.a0,k.a1,k.least,k.most,r.of,r.la,r.ag,r.fe⟩
theorem Ut {k:ClS} (h:Z3V k) (r:HR):Z3V (Ua k r):=⟨h.t,h.side,h.a0,h.a1,h.sum,h.lo,h.lm,h.hi⟩
theorem Zfs {n lo hi:Int} (h:lo<=hi):lo<=Qf n lo hi/\Qf n lo hi<=hi:=by
 unfold Qf
 omega
theorem Zce {M:Int->Int->Int} {k:ClS} (s:Zi) (hk:Yc k):Yc (Ua k (Y7 SB M Tg k s)):=by
 unfold Y7
 split
 ·exact hk
 split
 ·exact hk
 split
 ·exact hk
 rename_i hg
 have hg:k.agrees=false:=by simpa using hg
 split
 ·exact hk
 rename_i ht
 have ht:ZJ k.t k.a0 k.a1 s.amount=0:=Decidable.byContradiction ht
 split
 ·exact hk
 split
 ·rename_i ho
  exact ⟨Ut hk.made _,hk.off,hk.nof,fun _=>⟨ho.1,ho.2.symm,ht⟩,(fun h=>nomatch h)⟩
 split
 ·rename_i hi
  exact ⟨Ut hk.made _,fun _=>hi,(fun h=>nomatch h),fun _=>⟨rfl,rfl,ht⟩,(fun h=>nomatch h)⟩
 split
 ·exact hk
 split
 ·exact hk
 exact ⟨Ut hk.made _,fun _=>Zfs hk.made.lm,(fun h=>nomatch h),fun h=>absurd (hg.symm.trans h) (by decide),fun _=>hk.nag hg⟩
theorem Zft {k:ClS} (hk:Yc k):Yc (Ua k (WC Tg k)):=by
 unfold WC
 split
 ·exact hk
 rename_i hg
 have hg:k.agrees=false:=by simpa using hg
 split
 ·exact hk
 split
 ·exact hk
 exact ⟨Ut hk.made _,fun _=>⟨Int.le_refl _,hk.made.lm⟩,(fun h=>nomatch h),fun h=>absurd (hg.symm.trans h) (by decide),fun _=>hk.nag hg⟩
theorem Yr.hear {M:Int->Int->Int} {k:ClS} (s:Zi) (hk:Yr k):Yr (Ua k (Y7 SB M Tg k s)):=⟨Zce s hk.i,hk.t⟩
theorem Yr.beg {k:ClS} (hk:Yr k):Yr (Ua k (WC Tg k)):=⟨Zft hk.i,hk.t⟩
noncomputable def Zfu (A:LI->Int×Int) (SB:Zi->Bool) (M:Int->Int->Int) (Tg Td:LI->TxS->LI):Zb:=(((((G0.withF 12 (Zkz Tg)).withP 60 (ZiC Tg)).withF 13 (Zfi SB M Tg)).withP 63 (Zfr SB M Tg)).withF 61 (clF A)).withP 62 (Z3I Td)
theorem Z2o:(Zfu ZA WP Xa Zy Wz).Ok:=Zb.withP_ok (Zb.withF_ok (Zb.withP_ok (Zb.withF_ok (Zb.withP_ok (Zb.withF_ok Zm ZhY) Zff) Zfj) Zcd) Z6a) Z63
def YO (l:LI) (b:Int):LI:=l.set 0 (wrap .u8 (l.getD 0 0+b))
theorem Z7K (hT:∀a t,(Tg a t).length=32) (k:ClS) (fee sd:Int):(Yl Tg k fee sd).length=32:=by
 unfold Yl
 split
 ·simp_all
 ·rfl
theorem Zi6 (hT:∀a t,(Tg a t).length=32) (k:ClS):(WC Tg k).tg.length=32:=by
 unfold WC
 repeat' split
 all_goals first
  | rfl
  | exact Z7K hT _ _ _
theorem Ve {M:Int->Int->Int} (hT:∀a t,(Tg a t).length=32) (k:ClS) (s:Zi):(Y7 SB M Tg k s).tg.length=32:=by
 unfold Y7
 repeat' split
 all_goals first
  | rfl
  | exact Z7K hT _ _ _
theorem ZnV (A:LI->Int×Int) (SB:Zi->Bool) (M:Int->Int->Int) (Tg Td:LI->TxS->LI) (k:ClS) (s:Zi) (fe be:Int) (r:HR) (hk:Yr k) (hT:∀a t,(Tg a t).length=32) (hl:s.Len) (hr:r=WC Tg k):
  evF (Zfu A SB M Tg Td) 20 25 [.ptr (some ⟨0,0,0,0,0⟩),.agg (clU k k.side k.offers k.last k.agrees k.fee),.agg (.int .i64 0::(s.c++[.int .i64 fe,.int .u8 be]))] ⟨1,[(0,.flat (clT k k.side k.offers k.last k.agrees k.fee))]⟩ (ZH 1 (.ret (.tuple [.agg (clU k k.side r.of r.la r.ag r.fe),.bool true])) 1 [(0,.flat (clT k k.side r.of r.la r.ag r.fe))]):=by
 refine @Eq.mpr _ (let c:=k.t;let z:=c.fund;let Y:=AV.arr u8 32 z;let v:=c.index;let X:=AV.int i64 v;let u:=c.cap;let W:=AV.int i64 u;let d:=c.dust;let J:=AV.int i64 d;let I:=c.fee;let b6:=AV.int i64 I;let D:=c.delay;let b1:=AV.int i64 D;let C:=c.k0;let b0:=AV.arr u8 32 C;let B:=c.k1;let a9:=AV.arr u8 32 B;let A:=k.side;let a8:=AV.int i64 A;let y:=[k.a0,k.a1];let a7:=AV.arr i64 2 y;let x:=k.least;let a6:=AV.int i64 x;let w:=k.most;let a5:=AV.int i64 w;let a4:=AV.bool k.offers;let a3:=AV.int i64 k.last;let a2:=AV.bool k.agrees;let Z:=AV.int i64 k.fee;
 ∃(k:ClS),
 let a:=k.t;let s:=a.fund;let q:=a.index;let p:=a.cap;let o:=a.dust;let n:=a.fee;let m:=a.delay;let l:=a.k0;let j:=a.k1;let i:=k.side;let h:=[k.a0,k.a1];let g:=k.least;let f:=k.most;let V:=s=z;let U:=decide (q=v);let T:=decide (p=u);let S:=decide (o=d);let R:=decide (n=I);let Q:=decide (m=D);let P:=l=C;let O:=j=B;let N:=decide (i=A);let M:=h=y;let L:=decide (g=x);let K:=decide (f=w);
 YJ [Y,X,W,J,b6,b1,b0,a9,a8,a7,a6,a5,a4,a3,a2,Z] k/\
 XH k/\
 ∀(r_1:HR),
 let H:=r_1.of;let G:=r_1.la;let F:=r_1.ag;let E:=r_1.fe;let b5:=decide (H=r.of);let b4:=decide (G=r.la);let b3:=decide (F=r.ag);let b2:=decide (E=r.fe);
 r_1=WC Tg k->
 ∃(k:ClS),
 let b:=k.t;
 Yy [Y,X,W,J,b6,b1,b0,a9,a8,a7,a6,a5,a4,a3,a2,Z,AV.bool true] k/\
 XH k/\
 ∀(r_2:HR),
 r_2=WC Tg k->
 Z5 (decide (r_2.tg.length=32/\r_1.tg.length=32))
 (Z5 (r_2.kd==r_1.kd&&(true&&(true&&(r_2.am==r_1.am&&(true&&(true&&(true&&(true&&(r_2.tg==r_1.tg&&true)))))))))
 (s=s/\
 Z5 (decide (q=q))
 (Z5 (decide (p=p))
 (Z5 (decide (o=o))
 (Z5 (decide (n=n))
 (Z5 (decide (m=m))
 (l=l/\
 j=j/\
 Z5 (decide (i=i))
 (h=h/\
 Z5 (decide (g=g))
 (Z5 (decide (f=f)) (Z5 (decide (H=H)) (Z5 (decide (G=G)) (Z5 (decide (F=F)) (Z5 (decide (E=E)) (V/\Z5 U (Z5 T (Z5 S (Z5 R (Z5 Q (P/\O/\Z5 N (M/\Z5 L (Z5 K (Z5 b5 (Z5 b4 (Z5 b3 (Z5 b2 (Z5 (decide ((r_2.e==r_1.e)=true)) (b.fund=z/\Z5 (decide (b.index=v)) (Z5 (decide (b.cap=u)) (Z5 (decide (b.dust=d)) (Z5 (decide (b.fee=I)) (Z5 (decide (b.delay=D)) (b.k0=C/\b.k1=B/\Z5 (decide (k.side=A)) ([k.a0,k.a1]=y/\Z5 (decide (k.least=x)) (Z5 (decide (k.most=w)) (Z5 (decide (r_2.of=r.of)) (Z5 (decide (r_2.la=r.la)) (Z5 (decide (r_2.ag=r.ag)) (Z5 (decide (r_2.fe=r.fe)) True False) False) False) False) False) False) False) False) False) False) False) False) False) False) False) False) False) False) False) False) False) False) False) False) False) False) False) False) False) False) False)
 False)
 False)
 False)
 False)
 False)
 False)
 (V/\Z5 U (Z5 T (Z5 S (Z5 R (Z5 Q (P/\O/\Z5 N (M/\Z5 L (Z5 K (Z5 b5 (Z5 b4 (Z5 b3 (Z5 b2 False False) False) False) False) False) False) False) False) False) False) False) False))
 False) (by kernel_rfl) ?_
 conv=>zeta
 try simp only [ZD]
 try simp only [ZU]
 try simp only [ZM]
 try simp only [ZY]
 try simp only [Y0]
 try simp only [ZN]
 try simp only [and_true]
 have ht:=Zi6 hT k
 refine ⟨k,⟨rfl⟩,hk.o,fun r1 h1=>⟨k,⟨rfl⟩,hk.o,fun r2 h2=> ?_⟩⟩
 simp_all
theorem ZnW (A:LI->Int×Int) (SB:Zi->Bool) (M:Int->Int->Int) (Tg Td:LI->TxS->LI) (k:ClS) (s:Zi) (fe be:Int) (r:HR) (hk:Yr k) (hT:∀a t,(Tg a t).length=32) (hl:s.Len) (hr:r=Y7 SB M Tg k s):
  evF (Zfu A SB M Tg Td) 20 25 [.ptr (some ⟨0,0,0,0,0⟩),.agg (clU k k.side k.offers k.last k.agrees k.fee),.agg (.int .i64 1::(s.c++[.int .i64 fe,.int .u8 be]))] ⟨1,[(0,.flat (clT k k.side k.offers k.last k.agrees k.fee))]⟩ (ZH 1 (.ret (.tuple [.agg (clU k k.side r.of r.la r.ag r.fe),.bool true])) 1 [(0,.flat (clT k k.side r.of r.la r.ag r.fe))]):=by
 refine @Eq.mpr _ (let d:=k.t;let B:=d.fund;let q3:=AV.arr u8 32 B;let x:=d.index;let q5:=AV.int i64 x;let w:=d.cap;let Z:=AV.int i64 w;let f:=d.dust;let L:=AV.int i64 f;let K:=d.fee;let b9:=AV.int i64 K;let F:=d.delay;let b2:=AV.int i64 F;let E:=d.k0;let b1:=AV.arr u8 32 E;let D:=d.k1;let b0:=AV.arr u8 32 D;let C:=k.side;let a9:=AV.int i64 C;let A:=[k.a0,k.a1];let a8:=AV.arr i64 2 A;let z:=k.least;let a7:=AV.int i64 z;let y:=k.most;let a6:=AV.int i64 y;let a5:=AV.bool k.offers;let a4:=AV.int i64 k.last;let a3:=AV.bool k.agrees;let a2:=AV.int i64 k.fee;let c:=s.t;
 ∃(k:ClS),
 let a:=k.t;let v:=a.fund;let u:=a.index;let q:=a.cap;let p:=a.dust;let o:=a.fee;let n:=a.delay;let m:=a.k0;let l:=a.k1;let j:=k.side;let i:=[k.a0,k.a1];let h:=k.least;let g:=k.most;let Y:=v=B;let X:=decide (u=x);let W:=decide (q=w);let V:=decide (p=f);let U:=decide (o=K);let T:=decide (n=F);let S:=m=E;let R:=l=D;let Q:=decide (j=C);let P:=i=A;let O:=decide (h=z);let N:=decide (g=y);
 ∃(s_1:Zi),
 let b8:=[AV.int i64 s.kind,AV.arr u8 32 c.fund,AV.int i64 c.index,AV.int i64 c.cap,AV.int i64 c.dust,AV.int i64 c.fee,AV.int i64 c.delay,AV.arr u8 32 c.k0,AV.arr u8 32 c.k1,AV.int i64 s.reserve,AV.int i64 s.amount,AV.arr u8 32 s.point,AV.arr u8 32 s.nxt,AV.arr u8 32 s.key,AV.arr u8 32 s.hash,AV.arr u8 32 s.tag,AV.arr u8 32 s.secret,AV.int i64 s.id,AV.int i64 s.number,AV.int i64 s.index,AV.int i64 s.expiry,AV.int i64 s.code,AV.str s.route];
 YJ [q3,q5,Z,L,b9,b2,b1,b0,a9,a8,a7,a6,a5,a4,a3,a2] k/\
 XI b8 s_1/\
 (Yc k/\Zj.All a)/\
 Zi.Len s_1/\
 ∀(r_1:HR),
 let J:=r_1.of;let I:=r_1.la;let H:=r_1.ag;let G:=r_1.fe;let b7:=decide (J=r.of);let b6:=decide (I=r.la);let b5:=decide (H=r.ag);let b4:=decide (G=r.fe);let b3:=Y/\Z5 X (Z5 W (Z5 V (Z5 U (Z5 T (S/\R/\Z5 Q (P/\Z5 O (Z5 N (Z5 b7 (Z5 b6 (Z5 b5 (Z5 b4 False False) False) False) False) False) False) False) False) False) False) False) False;
 r_1=Y7 SB M Tg k s_1->
 ∃(k:ClS),
 let b:=k.t;
 ∃(s:Zi),
 Yy [q3,q5,Z,L,b9,b2,b1,b0,a9,a8,a7,a6,a5,a4,a3,a2,AV.bool true] k/\
 XI b8 s/\
 (Yc k/\Zj.All b)/\
 Zi.Len s/\
 ∀(r_2:HR),
 r_2=Y7 SB M Tg k s->
 Z5 (decide (r_2.tg.length=32/\r_1.tg.length=32))
 (Z5 (r_2.kd==r_1.kd&&(true&&(true&&(r_2.am==r_1.am&&(true&&(true&&(true&&(true&&(r_2.tg==r_1.tg&&true)))))))))
 (Z5 (r_2.sy==r_1.sy)
 (v=v/\
 Z5 (decide (u=u))
 (Z5 (decide (q=q))
 (Z5 (decide (p=p))
 (Z5 (decide (o=o))
 (Z5 (decide (n=n))
 (m=m/\
 l=l/\
 Z5 (decide (j=j))
 (i=i/\
 Z5 (decide (h=h))
 (Z5 (decide (g=g)) (Z5 (decide (J=J)) (Z5 (decide (I=I)) (Z5 (decide (H=H)) (Z5 (decide (G=G)) (Y/\Z5 X (Z5 W (Z5 V (Z5 U (Z5 T (S/\R/\Z5 Q (P/\Z5 O (Z5 N (Z5 b7 (Z5 b6 (Z5 b5 (Z5 b4 (Z5 (decide ((r_2.e==r_1.e)=true)) (b.fund=B/\Z5 (decide (b.index=x)) (Z5 (decide (b.cap=w)) (Z5 (decide (b.dust=f)) (Z5 (decide (b.fee=K)) (Z5 (decide (b.delay=F)) (b.k0=E/\b.k1=D/\Z5 (decide (k.side=C)) ([k.a0,k.a1]=A/\Z5 (decide (k.least=z)) (Z5 (decide (k.most=y)) (Z5 (decide (r_2.of=r.of)) (Z5 (decide (r_2.la=r.la)) (Z5 (decide (r_2.ag=r.ag)) (Z5 (decide (r_2.fe=r.fe)) True False) False) False) False) False) False) False) False) False) False) False) False) False) False) False) False) False) False) False) False) False) False) False) False) False) False) False) False) False) False) False)
 False)
 False)
 False)
 False)
 False)
 False)
 b3)
 b3)
 False) (by kernel_rfl) ?_
 conv=>zeta
 try simp only [ZD]
 try simp only [ZU]
 try simp only [ZM]
 try simp only [ZY]
 try simp only [Y0]
 try simp only [ZN]
 try simp only [and_true]
 have ht:=Ve (SB:=SB) (M:=M) hT k s
 refine ⟨k,s,⟨rfl⟩,⟨rfl⟩,⟨hk.i,hk.t⟩,hl,fun r1 h1=>⟨k,s,⟨rfl⟩,⟨rfl⟩,⟨hk.i,hk.t⟩,hl,fun r2 h2=> ?_⟩⟩
 simp_all
theorem WT {l:LI} (h:l.length=32) (b:Int):(YO l b).length=32:=by
 unfold YO
 rw [JW]
 exact h
theorem ZkF (A:LI->Int×Int) (SB:Zi->Bool) (M:Int->Int->Int) (Tg Td:LI->TxS->LI) (k:ClS) (s:Zi) (w fe be:Int) (r:HR) (tg:LI) (hA:A=ZA) (hw0:w≠0) (hw1:w≠1) (hk:Yr (clD k 0)) (hT:∀a t,(Tg a t).length=32) (hTd:∀a t,(Td a t).length=32) (hl:s.Len) (htg:tg=YO (Yl Td (clD k 0) fe 1) be) (hr:r=Y7 SB M Tg (clD k 0) (sdN 13 fe tg)):
  evF (Zfu A SB M Tg Td) 20 25 [.ptr (some ⟨0,0,0,0,0⟩),.agg (clU k 0 k.offers k.last k.agrees k.fee),.agg (.int .i64 w::(s.c++[.int .i64 fe,.int .u8 be]))] ⟨1,[(0,.flat (clT k 0 k.offers k.last k.agrees k.fee))]⟩ (ZH 1 (.ret (.tuple [.agg (clU k 0 r.of r.la r.ag r.fe),.bool true])) 1 [(0,.flat (clT k 0 r.of r.la r.ag r.fe))]):=by
 refine @Eq.mpr _ (let q1:=k.t;let m:=q1.fund;let q3:=AV.arr u8 32 m;let l:=q1.index;let q5:=AV.int i64 l;let p:=q1.cap;let q7:=AV.int i64 p;let o:=q1.dust;let q9:=AV.int i64 o;let x:=q1.fee;let e8:=AV.int i64 x;let v:=q1.delay;let e3:=AV.int i64 v;let u:=q1.k0;let d8:=AV.arr u8 32 u;let j:=q1.k1;let d7:=AV.arr u8 32 j;let f:=AV.int i64 0;let q:=[k.a0,k.a1];let d6:=AV.arr i64 2 q;let I:=k.least;let d5:=AV.int i64 I;let H:=k.most;let d4:=AV.int i64 H;let d3:=AV.bool k.offers;let d2:=AV.int i64 k.last;let d1:=AV.bool k.agrees;let d0:=AV.int i64 k.fee;let c3:=[q3,q5,q7,q9,e8,e3,d8,d7,f,d6,d5,d4,d3,d2,d1,d0];let c2:=[q3,q5,q7,q9,e8,e3,d8,d7,f,d6,d5,d4,d3,d2,d1,d0,AV.bool true];let Q:=r.of;let P:=r.la;let O:=r.ag;let K:=r.fe;let c7:=Zj.mk m l p o x v u j;let c6:=AV.int i64 13;let g:=AV.arr u8 32 Z0;let c5:=AV.int i64 fe;let c4:=[g,f,f,f,f,f,AV.str ByteArray.empty];let c9:=(∃(k:ClS),
 ∃(s:Zi),
 YJ c3 k/\
 XI (c6::g::f::f::f::f::f::g::g::f::c5::g::g::g::g::AV.arr u8 32 [wrap u8 (0+be),(0:Int),0,0,0,0,0,0,0,0,0,0,0,0,0,0,0,0,0,0,0,0,0,0,0,0,0,0,0,0,0,0]::c4) s/\
 (Yc k/\Zj.All k.t)/\
 Zi.Len s/\
 ∀(r:HR),
 r=Y7 SB M Tg k s->
 ∃(k_1:ClS),
 ∃(s:Zi),
 Yy c2 k_1/\
 XI (c6::g::f::f::f::f::f::g::g::f::c5::g::g::g::g::AV.arr u8 32 [wrap u8 (0+be),(0:Int),0,0,0,0,0,0,0,0,0,0,0,0,0,0,0,0,0,0,0,0,0,0,0,0,0,0,0,0,0,0]::c4) s/\
 (Yc k_1/\Zj.All k_1.t)/\
 Zi.Len s/\
 ∀(r_1:HR),
 r_1=Y7 SB M Tg k_1 s->
 Z7 (r_1.tg.length=32/\r.tg.length=32) (Z5 (r_1.kd==r.kd&&(true&&(true&&(r_1.am==r.am&&(true&&(true&&(true&&(true&&(r_1.tg==r.tg&&true))))))))) (Z5 (r_1.sy==r.sy) (k.t.fund=k.t.fund/\
 Z7 (k.t.index=k.t.index) (Z7 (k.t.cap=k.t.cap) (Z7 (k.t.dust=k.t.dust) (Z7 (k.t.fee=k.t.fee) (Z7 (k.t.delay=k.t.delay) (k.t.k0=k.t.k0/\
 k.t.k1=k.t.k1/\
 Z7 (k.side=k.side) ([k.a0,k.a1]=[k.a0,k.a1]/\
 Z7 (k.least=k.least) (Z7 (k.most=k.most) (Z7 (r.of=r.of) (Z7 (r.la=r.la) (Z7 (r.ag=r.ag) (Z7 (r.fe=r.fe) (k.t.fund=m/\
 Z7 (k.t.index=l) (Z7 (k.t.cap=p) (Z7 (k.t.dust=o) (Z7 (k.t.fee=x) (Z7 (k.t.delay=v) (k.t.k0=u/\k.t.k1=j/\Z7 (k.side=0) ([k.a0,k.a1]=q/\Z7 (k.least=I) (Z7 (k.most=H) (Z7 (r.of=Q) (Z7 (r.la=P) (Z7 (r.ag=O) (Z7 (r.fe=K) (Z7 ((r_1.e==r.e)=true) (k_1.t.fund=m/\Z7 (k_1.t.index=l) (Z7 (k_1.t.cap=p) (Z7 (k_1.t.dust=o) (Z7 (k_1.t.fee=x) (Z7 (k_1.t.delay=v) (k_1.t.k0=u/\k_1.t.k1=j/\Z7 (k_1.side=0) ([k_1.a0,k_1.a1]=q/\Z7 (k_1.least=I) (Z7 (k_1.most=H) (Z7 (r_1.of=Q) (Z7 (r_1.la=P) (Z7 (r_1.ag=O) (Z7 (r_1.fe=K) True))))))))))))))))))))))))))))))))))))) (k.t.fund=m/\Z7 (k.t.index=l) (Z7 (k.t.cap=p) (Z7 (k.t.dust=o) (Z7 (k.t.fee=x) (Z7 (k.t.delay=v) (k.t.k0=u/\k.t.k1=j/\Z7 (k.side=0) ([k.a0,k.a1]=q/\Z7 (k.least=I) (Z7 (k.most=H) (Z7 (r.of=Q) (Z7 (r.la=P) (Z7 (r.ag=O) (Z5 (decide (r.fe=K)) False False))))))))))))) (k.t.fund=m/\Z7 (k.t.index=l) (Z7 (k.t.cap=p) (Z7 (k.t.dust=o) (Z7 (k.t.fee=x) (Z7 (k.t.delay=v) (k.t.k0=u/\k.t.k1=j/\Z7 (k.side=0) ([k.a0,k.a1]=q/\Z7 (k.least=I) (Z7 (k.most=H) (Z7 (r.of=Q) (Z7 (r.la=P) (Z7 (r.ag=O) (Z5 (decide (r.fe=K)) False False))))))))))))));let b6:=InS.mk m l 1 Z0 Z0 Z0;let a2:=s.t;
 Z5 (w==0) (∃(k:ClS),
 let h:=k.t;let J:=h.fund;let b3:=h.index;let b2:=h.cap;let d:=h.dust;let G:=h.fee;let F:=h.delay;let E:=h.k0;let D:=h.k1;let C:=k.side;let B:=[k.a0,k.a1];let z:=k.least;let y:=k.most;let S:=J=m;let R:=decide (b3=l);let Z:=decide (b2=p);let Y:=decide (d=o);let b1:=decide (G=x);let b0:=decide (F=v);let a9:=E=u;let a8:=D=j;let a7:=decide (C=0);let a6:=B=q;let a5:=decide (z=I);let a4:=decide (y=H);
 YJ c3 k/\
 XH k/\
 ∀(r:HR),
 let c0:=r.of;let c8:=r.la;let b5:=r.ag;let b4:=r.fe;let X:=decide (c0=Q);let b9:=decide (c8=P);let W:=decide (b5=O);let V:=decide (b4=K);
 r=WC Tg k->
 ∃(k:ClS),
 let a3:=k.t;
 Yy c2 k/\
 XH k/\
 ∀(r_1:HR),
 r_1=WC Tg k->
 Z7 (r_1.tg.length=32/\r.tg.length=32) (Z5 (r_1.kd==r.kd&&(true&&(true&&(r_1.am==r.am&&(true&&(true&&(true&&(true&&(r_1.tg==r.tg&&true))))))))) (J=J/\
 Z7 (b3=b3) (Z7 (b2=b2) (Z7 (d=d) (Z7 (G=G) (Z7 (F=F) (E=E/\
 D=D/\
 Z7 (C=C) (B=B/\
 Z7 (z=z) (Z7 (y=y) (Z7 (c0=c0) (Z7 (c8=c8) (Z7 (b5=b5) (Z7 (b4=b4) (S/\Z6 R (Z6 Z (Z6 Y (Z6 b1 (Z6 b0 (a9/\a8/\Z6 a7 (a6/\Z6 a5 (Z6 a4 (Z6 X (Z6 b9 (Z6 W (Z6 V (Z7 ((r_1.e==r.e)=true) (a3.fund=m/\Z7 (a3.index=l) (Z7 (a3.cap=p) (Z7 (a3.dust=o) (Z7 (a3.fee=x) (Z7 (a3.delay=v) (a3.k0=u/\a3.k1=j/\Z7 (k.side=0) ([k.a0,k.a1]=q/\Z7 (k.least=I) (Z7 (k.most=H) (Z7 (r_1.of=Q) (Z7 (r_1.la=P) (Z7 (r_1.ag=O) (Z7 (r_1.fe=K) True))))))))))))))))))))))))))))))))))))) (S/\Z6 R (Z6 Z (Z6 Y (Z6 b1 (Z6 b0 (a9/\a8/\Z6 a7 (a6/\Z6 a5 (Z6 a4 (Z6 X (Z6 b9 (Z6 W (Z5 V False False)))))))))))))) (Z5 (w !=1) (Zj.Ok c7/\
 ∃(a:Int),
 ∃(b:Int),
 let h:=clB A c7 a b fe;let J:=clL c7 a b fe;
 q=[a,b]/\
 a<9223372036854775808/\
 (h=false->c9)/\
 (h=true->
 (J.length=0->c9)/\
 ∀(n:Nat) (L:List Z9),
 L=ZR J->
 n=L.length->
 n≠0->
 Z7 (0+n<=n) ((∀(i:Nat),i<n->true=true)/\
 ∃(t:TxS),
 (t.num=2147483647/\
 (((1:Nat)=1/\t.N=1)/\∀(i:Nat),i<1->Ye [AV.arr u8 32 b6.name,AV.int i64 b6.index,AV.int i64 b6.way,AV.arr u8 32 b6.tag,AV.arr u8 32 b6.also,AV.arr u8 32 b6.secret] 0 130 i=InS.c (t.ins i))/\
 (n=n/\t.M=n)/\
 ∀(i:Nat),
 let d:=Y2 L i;
 i<n->[AV.int i64 d.kind,AV.int i64 d.amount,AV.arr u8 32 d.owner,AV.arr u8 32 d.other,AV.arr u8 32 d.point,AV.arr u8 32 d.hash,AV.int i64 d.delay,AV.int i64 d.expiry]=ZF.c (t.outs i))/\
 (TxS.Fine t/\j.length=32)/\
 Z7 (u8=u8/\(0:Nat)<32/\0<List.length (Td j t)) (∃(k:ClS),
 let d:=k.t;let G:=d.fund;let F:=d.index;let E:=d.cap;let D:=d.dust;let C:=d.fee;let B:=d.delay;let z:=d.k0;let y:=d.k1;let S:=k.side;let R:=[k.a0,k.a1];let Z:=k.least;let Y:=k.most;let b1:=G=m;let b0:=decide (F=l);let a9:=decide (E=p);let a8:=decide (D=o);let a7:=decide (C=x);let a6:=decide (B=v);let a5:=z=u;let a4:=y=j;let e7:=decide (S=0);let e6:=R=q;let e5:=decide (Z=I);let e4:=decide (Y=H);
 ∃(s:Zi),
 let X:=c6::g::f::f::f::f::f::g::g::f::c5::g::g::g::g::AV.arr u8 32 (List.set (Td j t) 0 (wrap u8 (List.getD (Td j t) 0 0+be)))::c4;
 YJ c3 k/\
 XI X s/\
 (Yc k/\Zj.All d)/\
 Zi.Len s/\
 ∀(r:HR),
 let W:=r.of;let V:=r.la;let b8:=r.ag;let b7:=r.fe;let c1:=decide (W=Q);let e2:=decide (V=P);let e1:=decide (b8=O);let e0:=decide (b7=K);let d9:=b1/\Z6 b0 (Z6 a9 (Z6 a8 (Z6 a7 (Z6 a6 (a5/\a4/\Z6 e7 (e6/\Z6 e5 (Z6 e4 (Z6 c1 (Z6 e2 (Z6 e1 (Z5 e0 False False)))))))))));
 r=Y7 SB M Tg k s->
 ∃(k:ClS),
 let T:=k.t;
 ∃(s:Zi),
 Yy c2 k/\
 XI X s/\
 (Yc k/\Zj.All T)/\
 Zi.Len s/\
 ∀(r_1:HR),
 r_1=Y7 SB M Tg k s->
 Z7 (r_1.tg.length=32/\r.tg.length=32) (Z5 (r_1.kd==r.kd&&(true&&(true&&(r_1.am==r.am&&(true&&(true&&(true&&(true&&(r_1.tg==r.tg&&true))))))))) (Z5 (r_1.sy==r.sy) (G=G/\
 Z7 (F=F) (Z7 (E=E) (Z7 (D=D) (Z7 (C=C) (Z7 (B=B) (z=z/\
 y=y/\
 Z7 (S=S) (R=R/\
 Z7 (Z=Z) (Z7 (Y=Y) (Z7 (W=W) (Z7 (V=V) (Z7 (b8=b8) (Z7 (b7=b7) (b1/\Z6 b0 (Z6 a9 (Z6 a8 (Z6 a7 (Z6 a6 (a5/\a4/\Z6 e7 (e6/\Z6 e5 (Z6 e4 (Z6 c1 (Z6 e2 (Z6 e1 (Z6 e0 (Z7 ((r_1.e==r.e)=true) (T.fund=m/\Z7 (T.index=l) (Z7 (T.cap=p) (Z7 (T.dust=o) (Z7 (T.fee=x) (Z7 (T.delay=v) (T.k0=u/\T.k1=j/\Z7 (k.side=0) ([k.a0,k.a1]=q/\Z7 (k.least=I) (Z7 (k.most=H) (Z7 (r_1.of=Q) (Z7 (r_1.la=P) (Z7 (r_1.ag=O) (Z7 (r_1.fe=K) True))))))))))))))))))))))))))))))))))))) d9) d9))))) (∃(k:ClS),
 let h:=k.t;let J:=h.fund;let b3:=h.index;let b2:=h.cap;let d:=h.dust;let G:=h.fee;let F:=h.delay;let E:=h.k0;let D:=h.k1;let C:=k.side;let B:=[k.a0,k.a1];let z:=k.least;let y:=k.most;let S:=J=m;let R:=decide (b3=l);let Z:=decide (b2=p);let Y:=decide (d=o);let b1:=decide (G=x);let b0:=decide (F=v);let a9:=E=u;let a8:=D=j;let a7:=decide (C=0);let a6:=B=q;let a5:=decide (z=I);let a4:=decide (y=H);
 ∃(s_1:Zi),
 let c0:=[AV.int i64 s.kind,AV.arr u8 32 a2.fund,AV.int i64 a2.index,AV.int i64 a2.cap,AV.int i64 a2.dust,AV.int i64 a2.fee,AV.int i64 a2.delay,AV.arr u8 32 a2.k0,AV.arr u8 32 a2.k1,AV.int i64 s.reserve,AV.int i64 s.amount,AV.arr u8 32 s.point,AV.arr u8 32 s.nxt,AV.arr u8 32 s.key,AV.arr u8 32 s.hash,AV.arr u8 32 s.tag,AV.arr u8 32 s.secret,AV.int i64 s.id,AV.int i64 s.number,AV.int i64 s.index,AV.int i64 s.expiry,AV.int i64 s.code,AV.str s.route];
 YJ c3 k/\
 XI c0 s_1/\
 (Yc k/\Zj.All h)/\
 Zi.Len s_1/\
 ∀(r:HR),
 let b5:=r.of;let b4:=r.la;let X:=r.ag;let b9:=r.fe;let W:=decide (b5=Q);let V:=decide (b4=P);let b8:=decide (X=O);let b7:=decide (b9=K);let c1:=S/\Z6 R (Z6 Z (Z6 Y (Z6 b1 (Z6 b0 (a9/\a8/\Z6 a7 (a6/\Z6 a5 (Z6 a4 (Z6 W (Z6 V (Z6 b8 (Z5 b7 False False)))))))))));
 r=Y7 SB M Tg k s_1->
 ∃(k:ClS),
 let U:=k.t;
 ∃(s:Zi),
 Yy c2 k/\
 XI c0 s/\
 (Yc k/\Zj.All U)/\
 Zi.Len s/\
 ∀(r_1:HR),
 r_1=Y7 SB M Tg k s->
 Z7 (r_1.tg.length=32/\r.tg.length=32) (Z5 (r_1.kd==r.kd&&(true&&(true&&(r_1.am==r.am&&(true&&(true&&(true&&(true&&(r_1.tg==r.tg&&true))))))))) (Z5 (r_1.sy==r.sy) (J=J/\
 Z7 (b3=b3) (Z7 (b2=b2) (Z7 (d=d) (Z7 (G=G) (Z7 (F=F) (E=E/\
 D=D/\
 Z7 (C=C) (B=B/\
 Z7 (z=z) (Z7 (y=y) (Z7 (b5=b5) (Z7 (b4=b4) (Z7 (X=X) (Z7 (b9=b9) (S/\Z6 R (Z6 Z (Z6 Y (Z6 b1 (Z6 b0 (a9/\a8/\Z6 a7 (a6/\Z6 a5 (Z6 a4 (Z6 W (Z6 V (Z6 b8 (Z6 b7 (Z7 ((r_1.e==r.e)=true) (U.fund=m/\Z7 (U.index=l) (Z7 (U.cap=p) (Z7 (U.dust=o) (Z7 (U.fee=x) (Z7 (U.delay=v) (U.k0=u/\U.k1=j/\Z7 (k.side=0) ([k.a0,k.a1]=q/\Z7 (k.least=I) (Z7 (k.most=H) (Z7 (r_1.of=Q) (Z7 (r_1.la=P) (Z7 (r_1.ag=O) (Z7 (r_1.fe=K) True))))))))))))))))))))))))))))))))))))) c1) c1)))) (by kernel_rfl) ?_
 conv=>zeta
 try simp only [vcA]
 try simp only [vcB]
 try simp only [vcC]
 subst hA
 have hx:=hk.t
 have ha:k.a0<9223372036854775808:=hk.a
 refine ⟨fun h=>absurd (beq_iff_eq.1 h) hw0,fun _=>⟨fun _=> ?_,fun h=>absurd (bne_eq_false_iff_eq.1 h) hw1⟩⟩
 refine ⟨hx.ok,k.a0,k.a1,rfl,ha,fun h1=> ?_,fun h1=>⟨fun h2=> ?_,fun n L hL hn hn0=> ?_⟩⟩
 ·have e:=Qg (k:=clD k 0) h1
  have eT:tg=YO Z0 be:=by rw [htg,WN (by rw [e];decide)]
  have hS:=VB (kd:=13) (am:=fe) (WT (l:=Z0) rfl be)
  have ht:=Ve (SB:=SB) (M:=M) hT (clD k 0) (sdN 13 fe (YO Z0 be))
  rw [eT] at hr
  subst hr
  refine ⟨clD k 0,sdN 13 fe (YO Z0 be),⟨rfl⟩,⟨rfl⟩,⟨hk.i,hk.t⟩,hS,fun r1 q1=>⟨clD k 0,sdN 13 fe (YO Z0 be),⟨rfl⟩,⟨rfl⟩,⟨hk.i,hk.t⟩,hS,fun r2 q2=> ?_⟩⟩
  subst q1
  subst q2
  simp only [ht,beq_self_eq_true,Kl,Kk,and_self,decide_true,true_and,and_true,forall_const,reduceCtorEq,false_implies,implies_true]
  try (and_intros<;>rfl)
 ·have e:=Ws (k:=clD k 0) h1 h2
  have eT:tg=YO Z0 be:=by rw [htg,WN (by rw [e];decide)]
  have hS:=VB (kd:=13) (am:=fe) (WT (l:=Z0) rfl be)
  have ht:=Ve (SB:=SB) (M:=M) hT (clD k 0) (sdN 13 fe (YO Z0 be))
  rw [eT] at hr
  subst hr
  refine ⟨clD k 0,sdN 13 fe (YO Z0 be),⟨rfl⟩,⟨rfl⟩,⟨hk.i,hk.t⟩,hS,fun r1 q1=>⟨clD k 0,sdN 13 fe (YO Z0 be),⟨rfl⟩,⟨rfl⟩,⟨hk.i,hk.t⟩,hS,fun r2 q2=> ?_⟩⟩
  subst q1
  subst q2
  simp only [ht,beq_self_eq_true,Kl,true_and,and_true,forall_const,reduceCtorEq,false_implies]
  try (and_intros<;>rfl)
 ·have e:=Wt (k:=clD k 0) h1 hL hn hn0
  subst hn hL
  have eT:tg=YO (Td k.t.k1 (txC k.t k.a0 k.a1 fe)) be:=by rw [htg,Ur e];rfl
  have hS:=VB (kd:=13) (am:=fe) (WT (hTd k.t.k1 (txC k.t k.a0 k.a1 fe)) be)
  have ht:=Ve (SB:=SB) (M:=M) hT (clD k 0) (sdN 13 fe (YO (Td k.t.k1 (txC k.t k.a0 k.a1 fe)) be))
  rw [eT] at hr
  subst hr
  refine ⟨fun _ _=>trivial,txC k.t k.a0 k.a1 fe,⟨rfl,⟨rfl,fun i hi=>VM _ i hi⟩,rfl,fun _ _=>rfl⟩,⟨X2 (WB hx.ok hx.fl) (Vd e),hx.ok.k1⟩,⟨by decide,by rw [hTd];decide⟩,clD k 0,sdN 13 fe (YO (Td k.t.k1 (txC k.t k.a0 k.a1 fe)) be),⟨rfl⟩,⟨rfl⟩,⟨hk.i,hk.t⟩,hS,fun r1 q1=>⟨clD k 0,sdN 13 fe (YO (Td k.t.k1 (txC k.t k.a0 k.a1 fe)) be),⟨rfl⟩,⟨rfl⟩,⟨hk.i,hk.t⟩,hS,fun r2 q2=> ?_⟩⟩
  subst q1
  subst q2
  simp only [ht,beq_self_eq_true,Kl,true_and,and_true,forall_const,reduceCtorEq,false_implies]
  try (and_intros<;>rfl)
theorem ZkG (A:LI->Int×Int) (SB:Zi->Bool) (M:Int->Int->Int) (Tg Td:LI->TxS->LI) (k:ClS) (s:Zi) (w fe be:Int) (r:HR) (tg:LI) (hA:A=ZA) (hw0:w≠0) (hw1:w≠1) (hk:Yr (clD k 1)) (hT:∀a t,(Tg a t).length=32) (hTd:∀a t,(Td a t).length=32) (hl:s.Len) (htg:tg=YO (Yl Td (clD k 1) fe 0) be) (hr:r=Y7 SB M Tg (clD k 1) (sdN 13 fe tg)):
  evF (Zfu A SB M Tg Td) 20 25 [.ptr (some ⟨0,0,0,0,0⟩),.agg (clU k 1 k.offers k.last k.agrees k.fee),.agg (.int .i64 w::(s.c++[.int .i64 fe,.int .u8 be]))] ⟨1,[(0,.flat (clT k 1 k.offers k.last k.agrees k.fee))]⟩ (ZH 1 (.ret (.tuple [.agg (clU k 1 r.of r.la r.ag r.fe),.bool true])) 1 [(0,.flat (clT k 1 r.of r.la r.ag r.fe))]):=by
 refine @Eq.mpr _ (let q1:=k.t;let m:=q1.fund;let q3:=AV.arr u8 32 m;let l:=q1.index;let q5:=AV.int i64 l;let p:=q1.cap;let q7:=AV.int i64 p;let o:=q1.dust;let q9:=AV.int i64 o;let x:=q1.fee;let e8:=AV.int i64 x;let v:=q1.delay;let e3:=AV.int i64 v;let j:=q1.k0;let d8:=AV.arr u8 32 j;let u:=q1.k1;let d7:=AV.arr u8 32 u;let q:=[k.a0,k.a1];let d6:=AV.arr i64 2 q;let I:=k.least;let d5:=AV.int i64 I;let H:=k.most;let d4:=AV.int i64 H;let d3:=AV.bool k.offers;let d2:=AV.int i64 k.last;let d1:=AV.bool k.agrees;let d0:=AV.int i64 k.fee;let c3:=[q3,q5,q7,q9,e8,e3,d8,d7,AV.int i64 1,d6,d5,d4,d3,d2,d1,d0];let c2:=[q3,q5,q7,q9,e8,e3,d8,d7,AV.int i64 1,d6,d5,d4,d3,d2,d1,d0,AV.bool true];let Q:=r.of;let P:=r.la;let O:=r.ag;let K:=r.fe;let c7:=Zj.mk m l p o x v j u;let c6:=AV.int i64 13;let g:=AV.arr u8 32 Z0;let f:=AV.int i64 0;let c5:=AV.int i64 fe;let c4:=[g,f,f,f,f,f,AV.str ByteArray.empty];let c9:=(∃(k:ClS),
 ∃(s:Zi),
 YJ c3 k/\
 XI (c6::g::f::f::f::f::f::g::g::f::c5::g::g::g::g::AV.arr u8 32 [wrap u8 (0+be),(0:Int),0,0,0,0,0,0,0,0,0,0,0,0,0,0,0,0,0,0,0,0,0,0,0,0,0,0,0,0,0,0]::c4) s/\
 (Yc k/\Zj.All k.t)/\
 Zi.Len s/\
 ∀(r:HR),
 r=Y7 SB M Tg k s->
 ∃(k_1:ClS),
 ∃(s:Zi),
 Yy c2 k_1/\
 XI (c6::g::f::f::f::f::f::g::g::f::c5::g::g::g::g::AV.arr u8 32 [wrap u8 (0+be),(0:Int),0,0,0,0,0,0,0,0,0,0,0,0,0,0,0,0,0,0,0,0,0,0,0,0,0,0,0,0,0,0]::c4) s/\
 (Yc k_1/\Zj.All k_1.t)/\
 Zi.Len s/\
 ∀(r_1:HR),
 r_1=Y7 SB M Tg k_1 s->
 Z7 (r_1.tg.length=32/\r.tg.length=32) (Z5 (r_1.kd==r.kd&&(true&&(true&&(r_1.am==r.am&&(true&&(true&&(true&&(true&&(r_1.tg==r.tg&&true))))))))) (Z5 (r_1.sy==r.sy) (k.t.fund=k.t.fund/\
 Z7 (k.t.index=k.t.index) (Z7 (k.t.cap=k.t.cap) (Z7 (k.t.dust=k.t.dust) (Z7 (k.t.fee=k.t.fee) (Z7 (k.t.delay=k.t.delay) (k.t.k0=k.t.k0/\
 k.t.k1=k.t.k1/\
 Z7 (k.side=k.side) ([k.a0,k.a1]=[k.a0,k.a1]/\
 Z7 (k.least=k.least) (Z7 (k.most=k.most) (Z7 (r.of=r.of) (Z7 (r.la=r.la) (Z7 (r.ag=r.ag) (Z7 (r.fe=r.fe) (k.t.fund=m/\
 Z7 (k.t.index=l) (Z7 (k.t.cap=p) (Z7 (k.t.dust=o) (Z7 (k.t.fee=x) (Z7 (k.t.delay=v) (k.t.k0=j/\k.t.k1=u/\Z7 (k.side=1) ([k.a0,k.a1]=q/\Z7 (k.least=I) (Z7 (k.most=H) (Z7 (r.of=Q) (Z7 (r.la=P) (Z7 (r.ag=O) (Z7 (r.fe=K) (Z7 ((r_1.e==r.e)=true) (k_1.t.fund=m/\Z7 (k_1.t.index=l) (Z7 (k_1.t.cap=p) (Z7 (k_1.t.dust=o) (Z7 (k_1.t.fee=x) (Z7 (k_1.t.delay=v) (k_1.t.k0=j/\k_1.t.k1=u/\Z7 (k_1.side=1) ([k_1.a0,k_1.a1]=q/\Z7 (k_1.least=I) (Z7 (k_1.most=H) (Z7 (r_1.of=Q) (Z7 (r_1.la=P) (Z7 (r_1.ag=O) (Z7 (r_1.fe=K) True))))))))))))))))))))))))))))))))))))) (k.t.fund=m/\Z7 (k.t.index=l) (Z7 (k.t.cap=p) (Z7 (k.t.dust=o) (Z7 (k.t.fee=x) (Z7 (k.t.delay=v) (k.t.k0=j/\k.t.k1=u/\Z7 (k.side=1) ([k.a0,k.a1]=q/\Z7 (k.least=I) (Z7 (k.most=H) (Z7 (r.of=Q) (Z7 (r.la=P) (Z7 (r.ag=O) (Z5 (decide (r.fe=K)) False False))))))))))))) (k.t.fund=m/\Z7 (k.t.index=l) (Z7 (k.t.cap=p) (Z7 (k.t.dust=o) (Z7 (k.t.fee=x) (Z7 (k.t.delay=v) (k.t.k0=j/\k.t.k1=u/\Z7 (k.side=1) ([k.a0,k.a1]=q/\Z7 (k.least=I) (Z7 (k.most=H) (Z7 (r.of=Q) (Z7 (r.la=P) (Z7 (r.ag=O) (Z5 (decide (r.fe=K)) False False))))))))))))));let b6:=InS.mk m l 1 Z0 Z0 Z0;let a2:=s.t;
 Z5 (w==0) (∃(k:ClS),
 let h:=k.t;let J:=h.fund;let b3:=h.index;let b2:=h.cap;let d:=h.dust;let G:=h.fee;let F:=h.delay;let E:=h.k0;let D:=h.k1;let C:=k.side;let B:=[k.a0,k.a1];let z:=k.least;let y:=k.most;let S:=J=m;let R:=decide (b3=l);let Z:=decide (b2=p);let Y:=decide (d=o);let b1:=decide (G=x);let b0:=decide (F=v);let a9:=E=j;let a8:=D=u;let a7:=decide (C=1);let a6:=B=q;let a5:=decide (z=I);let a4:=decide (y=H);
 YJ c3 k/\
 XH k/\
 ∀(r:HR),
 let c0:=r.of;let c8:=r.la;let b5:=r.ag;let b4:=r.fe;let X:=decide (c0=Q);let b9:=decide (c8=P);let W:=decide (b5=O);let V:=decide (b4=K);
 r=WC Tg k->
 ∃(k:ClS),
 let a3:=k.t;
 Yy c2 k/\
 XH k/\
 ∀(r_1:HR),
 r_1=WC Tg k->
 Z7 (r_1.tg.length=32/\r.tg.length=32) (Z5 (r_1.kd==r.kd&&(true&&(true&&(r_1.am==r.am&&(true&&(true&&(true&&(true&&(r_1.tg==r.tg&&true))))))))) (J=J/\
 Z7 (b3=b3) (Z7 (b2=b2) (Z7 (d=d) (Z7 (G=G) (Z7 (F=F) (E=E/\
 D=D/\
 Z7 (C=C) (B=B/\
 Z7 (z=z) (Z7 (y=y) (Z7 (c0=c0) (Z7 (c8=c8) (Z7 (b5=b5) (Z7 (b4=b4) (S/\Z6 R (Z6 Z (Z6 Y (Z6 b1 (Z6 b0 (a9/\a8/\Z6 a7 (a6/\Z6 a5 (Z6 a4 (Z6 X (Z6 b9 (Z6 W (Z6 V (Z7 ((r_1.e==r.e)=true) (a3.fund=m/\Z7 (a3.index=l) (Z7 (a3.cap=p) (Z7 (a3.dust=o) (Z7 (a3.fee=x) (Z7 (a3.delay=v) (a3.k0=j/\a3.k1=u/\Z7 (k.side=1) ([k.a0,k.a1]=q/\Z7 (k.least=I) (Z7 (k.most=H) (Z7 (r_1.of=Q) (Z7 (r_1.la=P) (Z7 (r_1.ag=O) (Z7 (r_1.fe=K) True))))))))))))))))))))))))))))))))))))) (S/\Z6 R (Z6 Z (Z6 Y (Z6 b1 (Z6 b0 (a9/\a8/\Z6 a7 (a6/\Z6 a5 (Z6 a4 (Z6 X (Z6 b9 (Z6 W (Z5 V False False)))))))))))))) (Z5 (w !=1) (Zj.Ok c7/\
 ∃(a:Int),
 ∃(b:Int),
 let h:=clB A c7 a b fe;let J:=clL c7 a b fe;
 q=[a,b]/\
 a<9223372036854775808/\
 (h=false->c9)/\
 (h=true->
 (J.length=0->c9)/\
 ∀(n:Nat) (L:List Z9),
 L=ZR J->
 n=L.length->
 n≠0->
 Z7 (0+n<=n) ((∀(i:Nat),i<n->true=true)/\
 ∃(t:TxS),
 (t.num=2147483647/\
 (((1:Nat)=1/\t.N=1)/\∀(i:Nat),i<1->Ye [AV.arr u8 32 b6.name,AV.int i64 b6.index,AV.int i64 b6.way,AV.arr u8 32 b6.tag,AV.arr u8 32 b6.also,AV.arr u8 32 b6.secret] 0 130 i=InS.c (t.ins i))/\
 (n=n/\t.M=n)/\
 ∀(i:Nat),
 let d:=Y2 L i;
 i<n->[AV.int i64 d.kind,AV.int i64 d.amount,AV.arr u8 32 d.owner,AV.arr u8 32 d.other,AV.arr u8 32 d.point,AV.arr u8 32 d.hash,AV.int i64 d.delay,AV.int i64 d.expiry]=ZF.c (t.outs i))/\
 (TxS.Fine t/\j.length=32)/\
 Z7 (u8=u8/\(0:Nat)<32/\0<List.length (Td j t)) (∃(k:ClS),
 let d:=k.t;let G:=d.fund;let F:=d.index;let E:=d.cap;let D:=d.dust;let C:=d.fee;let B:=d.delay;let z:=d.k0;let y:=d.k1;let S:=k.side;let R:=[k.a0,k.a1];let Z:=k.least;let Y:=k.most;let b1:=G=m;let b0:=decide (F=l);let a9:=decide (E=p);let a8:=decide (D=o);let a7:=decide (C=x);let a6:=decide (B=v);let a5:=z=j;let a4:=y=u;let e7:=decide (S=1);let e6:=R=q;let e5:=decide (Z=I);let e4:=decide (Y=H);
 ∃(s:Zi),
 let X:=c6::g::f::f::f::f::f::g::g::f::c5::g::g::g::g::AV.arr u8 32 (List.set (Td j t) 0 (wrap u8 (List.getD (Td j t) 0 0+be)))::c4;
 YJ c3 k/\
 XI X s/\
 (Yc k/\Zj.All d)/\
 Zi.Len s/\
 ∀(r:HR),
 let W:=r.of;let V:=r.la;let b8:=r.ag;let b7:=r.fe;let c1:=decide (W=Q);let e2:=decide (V=P);let e1:=decide (b8=O);let e0:=decide (b7=K);let d9:=b1/\Z6 b0 (Z6 a9 (Z6 a8 (Z6 a7 (Z6 a6 (a5/\a4/\Z6 e7 (e6/\Z6 e5 (Z6 e4 (Z6 c1 (Z6 e2 (Z6 e1 (Z5 e0 False False)))))))))));
 r=Y7 SB M Tg k s->
 ∃(k:ClS),
 let T:=k.t;
 ∃(s:Zi),
 Yy c2 k/\
 XI X s/\
 (Yc k/\Zj.All T)/\
 Zi.Len s/\
 ∀(r_1:HR),
 r_1=Y7 SB M Tg k s->
 Z7 (r_1.tg.length=32/\r.tg.length=32) (Z5 (r_1.kd==r.kd&&(true&&(true&&(r_1.am==r.am&&(true&&(true&&(true&&(true&&(r_1.tg==r.tg&&true))))))))) (Z5 (r_1.sy==r.sy) (G=G/\
 Z7 (F=F) (Z7 (E=E) (Z7 (D=D) (Z7 (C=C) (Z7 (B=B) (z=z/\
 y=y/\
 Z7 (S=S) (R=R/\
 Z7 (Z=Z) (Z7 (Y=Y) (Z7 (W=W) (Z7 (V=V) (Z7 (b8=b8) (Z7 (b7=b7) (b1/\Z6 b0 (Z6 a9 (Z6 a8 (Z6 a7 (Z6 a6 (a5/\a4/\Z6 e7 (e6/\Z6 e5 (Z6 e4 (Z6 c1 (Z6 e2 (Z6 e1 (Z6 e0 (Z7 ((r_1.e==r.e)=true) (T.fund=m/\Z7 (T.index=l) (Z7 (T.cap=p) (Z7 (T.dust=o) (Z7 (T.fee=x) (Z7 (T.delay=v) (T.k0=j/\T.k1=u/\Z7 (k.side=1) ([k.a0,k.a1]=q/\Z7 (k.least=I) (Z7 (k.most=H) (Z7 (r_1.of=Q) (Z7 (r_1.la=P) (Z7 (r_1.ag=O) (Z7 (r_1.fe=K) True))))))))))))))))))))))))))))))))))))) d9) d9))))) (∃(k:ClS),
 let h:=k.t;let J:=h.fund;let b3:=h.index;let b2:=h.cap;let d:=h.dust;let G:=h.fee;let F:=h.delay;let E:=h.k0;let D:=h.k1;let C:=k.side;let B:=[k.a0,k.a1];let z:=k.least;let y:=k.most;let S:=J=m;let R:=decide (b3=l);let Z:=decide (b2=p);let Y:=decide (d=o);let b1:=decide (G=x);let b0:=decide (F=v);let a9:=E=j;let a8:=D=u;let a7:=decide (C=1);let a6:=B=q;let a5:=decide (z=I);let a4:=decide (y=H);
 ∃(s_1:Zi),
 let c0:=[AV.int i64 s.kind,AV.arr u8 32 a2.fund,AV.int i64 a2.index,AV.int i64 a2.cap,AV.int i64 a2.dust,AV.int i64 a2.fee,AV.int i64 a2.delay,AV.arr u8 32 a2.k0,AV.arr u8 32 a2.k1,AV.int i64 s.reserve,AV.int i64 s.amount,AV.arr u8 32 s.point,AV.arr u8 32 s.nxt,AV.arr u8 32 s.key,AV.arr u8 32 s.hash,AV.arr u8 32 s.tag,AV.arr u8 32 s.secret,AV.int i64 s.id,AV.int i64 s.number,AV.int i64 s.index,AV.int i64 s.expiry,AV.int i64 s.code,AV.str s.route];
 YJ c3 k/\
 XI c0 s_1/\
 (Yc k/\Zj.All h)/\
 Zi.Len s_1/\
 ∀(r:HR),
 let b5:=r.of;let b4:=r.la;let X:=r.ag;let b9:=r.fe;let W:=decide (b5=Q);let V:=decide (b4=P);let b8:=decide (X=O);let b7:=decide (b9=K);let c1:=S/\Z6 R (Z6 Z (Z6 Y (Z6 b1 (Z6 b0 (a9/\a8/\Z6 a7 (a6/\Z6 a5 (Z6 a4 (Z6 W (Z6 V (Z6 b8 (Z5 b7 False False)))))))))));
 r=Y7 SB M Tg k s_1->
 ∃(k:ClS),
 let U:=k.t;
 ∃(s:Zi),
 Yy c2 k/\
 XI c0 s/\
 (Yc k/\Zj.All U)/\
 Zi.Len s/\
 ∀(r_1:HR),
 r_1=Y7 SB M Tg k s->
 Z7 (r_1.tg.length=32/\r.tg.length=32) (Z5 (r_1.kd==r.kd&&(true&&(true&&(r_1.am==r.am&&(true&&(true&&(true&&(true&&(r_1.tg==r.tg&&true))))))))) (Z5 (r_1.sy==r.sy) (J=J/\
 Z7 (b3=b3) (Z7 (b2=b2) (Z7 (d=d) (Z7 (G=G) (Z7 (F=F) (E=E/\
 D=D/\
 Z7 (C=C) (B=B/\
 Z7 (z=z) (Z7 (y=y) (Z7 (b5=b5) (Z7 (b4=b4) (Z7 (X=X) (Z7 (b9=b9) (S/\Z6 R (Z6 Z (Z6 Y (Z6 b1 (Z6 b0 (a9/\a8/\Z6 a7 (a6/\Z6 a5 (Z6 a4 (Z6 W (Z6 V (Z6 b8 (Z6 b7 (Z7 ((r_1.e==r.e)=true) (U.fund=m/\Z7 (U.index=l) (Z7 (U.cap=p) (Z7 (U.dust=o) (Z7 (U.fee=x) (Z7 (U.delay=v) (U.k0=j/\U.k1=u/\Z7 (k.side=1) ([k.a0,k.a1]=q/\Z7 (k.least=I) (Z7 (k.most=H) (Z7 (r_1.of=Q) (Z7 (r_1.la=P) (Z7 (r_1.ag=O) (Z7 (r_1.fe=K) True))))))))))))))))))))))))))))))))))))) c1) c1)))) (by kernel_rfl) ?_
 conv=>zeta
 try simp only [vcA]
 try simp only [vcB]
 try simp only [vcC]
 subst hA
 have hx:=hk.t
 have ha:k.a0<9223372036854775808:=hk.a
 refine ⟨fun h=>absurd (beq_iff_eq.1 h) hw0,fun _=>⟨fun _=> ?_,fun h=>absurd (bne_eq_false_iff_eq.1 h) hw1⟩⟩
 refine ⟨hx.ok,k.a0,k.a1,rfl,ha,fun h1=> ?_,fun h1=>⟨fun h2=> ?_,fun n L hL hn hn0=> ?_⟩⟩
 ·have e:=Qg (k:=clD k 1) h1
  have eT:tg=YO Z0 be:=by rw [htg,WN (by rw [e];decide)]
  have hS:=VB (kd:=13) (am:=fe) (WT (l:=Z0) rfl be)
  have ht:=Ve (SB:=SB) (M:=M) hT (clD k 1) (sdN 13 fe (YO Z0 be))
  rw [eT] at hr
  subst hr
  refine ⟨clD k 1,sdN 13 fe (YO Z0 be),⟨rfl⟩,⟨rfl⟩,⟨hk.i,hk.t⟩,hS,fun r1 q1=>⟨clD k 1,sdN 13 fe (YO Z0 be),⟨rfl⟩,⟨rfl⟩,⟨hk.i,hk.t⟩,hS,fun r2 q2=> ?_⟩⟩
  subst q1
  subst q2
  simp only [ht,beq_self_eq_true,Kl,Kk,and_self,decide_true,true_and,and_true,forall_const,reduceCtorEq,false_implies]
  try (and_intros<;>rfl)
 ·have e:=Ws (k:=clD k 1) h1 h2
  have eT:tg=YO Z0 be:=by rw [htg,WN (by rw [e];decide)]
  have hS:=VB (kd:=13) (am:=fe) (WT (l:=Z0) rfl be)
  have ht:=Ve (SB:=SB) (M:=M) hT (clD k 1) (sdN 13 fe (YO Z0 be))
  rw [eT] at hr
  subst hr
  refine ⟨clD k 1,sdN 13 fe (YO Z0 be),⟨rfl⟩,⟨rfl⟩,⟨hk.i,hk.t⟩,hS,fun r1 q1=>⟨clD k 1,sdN 13 fe (YO Z0 be),⟨rfl⟩,⟨rfl⟩,⟨hk.i,hk.t⟩,hS,fun r2 q2=> ?_⟩⟩
  subst q1
  subst q2
  simp only [ht,beq_self_eq_true,Kl,true_and,and_true,forall_const,reduceCtorEq,false_implies]
  try (and_intros<;>rfl)
 ·have e:=Wt (k:=clD k 1) h1 hL hn hn0
  subst hn hL
  have eT:tg=YO (Td k.t.k0 (txC k.t k.a0 k.a1 fe)) be:=by rw [htg,Ur e];rfl
  have hS:=VB (kd:=13) (am:=fe) (WT (hTd k.t.k0 (txC k.t k.a0 k.a1 fe)) be)
  have ht:=Ve (SB:=SB) (M:=M) hT (clD k 1) (sdN 13 fe (YO (Td k.t.k0 (txC k.t k.a0 k.a1 fe)) be))
  rw [eT] at hr
  subst hr
  refine ⟨fun _ _=>trivial,txC k.t k.a0 k.a1 fe,⟨rfl,⟨rfl,fun i hi=>VM _ i hi⟩,rfl,fun _ _=>rfl⟩,⟨X2 (WB hx.ok hx.fl) (Vd e),hx.ok.k0⟩,⟨by decide,by rw [hTd];decide⟩,clD k 1,sdN 13 fe (YO (Td k.t.k0 (txC k.t k.a0 k.a1 fe)) be),⟨rfl⟩,⟨rfl⟩,⟨hk.i,hk.t⟩,hS,fun r1 q1=>⟨clD k 1,sdN 13 fe (YO (Td k.t.k0 (txC k.t k.a0 k.a1 fe)) be),⟨rfl⟩,⟨rfl⟩,⟨hk.i,hk.t⟩,hS,fun r2 q2=> ?_⟩⟩
  subst q1
  subst q2
  simp only [ht,beq_self_eq_true,Kl,true_and,and_true,forall_const,reduceCtorEq,false_implies]
  try (and_intros<;>rfl)
structure ZV where
 w:Int
 s:Zi
 fe:Int
 be:Int
def ZV.c (a:ZV):List AV:=.int .i64 a.w::(a.s.c++[.int .i64 a.fe,.int .u8 a.be])
inductive Zfv (cs:List AV) (a:ZV):Prop
 | mk:cs=a.c->Zfv cs a
def ZiE (Tg:LI->TxS->LI) (k:ClS) (a:ZV):Zi:=if a.w=1 then a.s else sdN 13 a.fe (YO (Yl Tg k a.fe (1-k.side)) a.be)
def Z9A (SB:Zi->Bool) (M:Int->Int->Int) (Tg:LI->TxS->LI) (k:ClS) (a:ZV):HR:=if a.w=0 then WC Tg k else Y7 SB M Tg k (ZiE Tg k a)
theorem ZkH {M:Int->Int->Int} {k:ClS} (a:ZV) (hk:Yr k):Yr (Ua k (Z9A SB M Tg k a)):=by
 unfold Z9A
 split
 ·exact hk.beg
 ·exact hk.hear _
theorem Zfw {k:ClS} {a:ZV} (hk:Yr k) (hl:a.s.Len):Spec PP 25 [.ptr (some ⟨0,0,0,0,0⟩),.agg k.c,.agg a.c] ⟨1,[(0,.flat (k.c++[.bool true]))]⟩ (.ret (.tuple [.agg (Ua k (Z9A WP Xa Zy k a)).c,.bool true])) 1 [(0,.flat ((Ua k (Z9A WP Xa Zy k a)).c++[.bool true]))]:=by
 obtain ⟨w,s,fe,be⟩:=a
 by_cases h0:w=0
 ·subst h0
  exact .evM Z2o (ZnV ZA WP Xa Zy Wz k s fe be _ hk Xg hl rfl)
 by_cases h1:w=1
 ·subst h1
  exact .evM Z2o (ZnW ZA WP Xa Zy Wz k s fe be _ hk Xg hl rfl)
 have e:Z9A WP Xa Zy k ⟨w,s,fe,be⟩=Y7 WP Xa Zy k (sdN 13 fe (YO (Yl Zy k fe (1-k.side)) be)):=by
  unfold Z9A ZiE
  rw [if_neg h0,if_neg h1]
 rw [e]
 rcases hk.i.made.side with hs|hs
 ·have hc:clD k 0=k:=Wu hs
  have hv:=ZkF ZA WP Xa Zy Wz k s w fe be _ _ rfl h0 h1 (hc.symm▸hk) Xg Z7r hl rfl rfl
  rw [hc,Z6h hk.t] at hv
  have e1:(1:Int)-k.side=1:=by rw [hs];rfl
  rw [e1]
  have q1:clU k 0 k.offers k.last k.agrees k.fee=k.c:=by rw [<-hs];rfl
  have q2:clT k 0 k.offers k.last k.agrees k.fee=k.c++[.bool true]:=by rw [<-hs];rfl
  have q3:∀r:HR,clU k 0 r.of r.la r.ag r.fe=(Ua k r).c:=fun r=>by rw [<-hs];rfl
  have q4:∀r:HR,clT k 0 r.of r.la r.ag r.fe=(Ua k r).c++[.bool true]:=fun r=>by rw [<-hs];rfl
  rw [q1,q2,q3,q4] at hv
  exact .evM Z2o hv
 ·have hc:clD k 1=k:=Wu hs
  have hv:=ZkG ZA WP Xa Zy Wz k s w fe be _ _ rfl h0 h1 (hc.symm▸hk) Xg Z7r hl rfl rfl
  rw [hc,Z6h hk.t] at hv
  have e1:(1:Int)-k.side=0:=by rw [hs];rfl
  rw [e1]
  have q1:clU k 1 k.offers k.last k.agrees k.fee=k.c:=by rw [<-hs];rfl
  have q2:clT k 1 k.offers k.last k.agrees k.fee=k.c++[.bool true]:=by rw [<-hs];rfl
  have q3:∀r:HR,clU k 1 r.of r.la r.ag r.fe=(Ua k r).c:=fun r=>by rw [<-hs];rfl
  have q4:∀r:HR,clT k 1 r.of r.la r.ag r.fe=(Ua k r).c++[.bool true]:=fun r=>by rw [<-hs];rfl
  rw [q1,q2,q3,q4] at hv
  exact .evM Z2o hv
def Zfx (X:ClS->ZV->ClS):ZO:=fun args h K=>match args with
 | [.ptr (some ⟨x,0,0,0,0⟩),_,_]=>frA [x] h 60 args fun Bs a=>match Bs,a with
  | [.flat cs],[.ptr (some ⟨0,0,0,0,0⟩),.agg ds,.agg zs]=>∃k a,Yy cs k/\YJ ds k/\Zfv zs a/\Yr k/\a.s.Len/\K (.ret (.tuple [.agg (X k a).c,.bool true])) ⟨h.next,(x,.flat ((X k a).c++[.bool true]))::Ya h.bs x⟩
  | _,_=>False
 | _=>False
noncomputable def nxC (k:ClS) (a:ZV):ClS:=Ua k (Z9A WP Xa Zy k a)
theorem Zfy {k:ClS} (a:ZV) (hk:Yr k):Yr (nxC k a):=ZkH a hk
theorem Zfz (args:List AV) (h:Z8) (K:KO) (hl:Zfx nxC args h K):Ze PP 25 args h K:=by
 unfold Zfx at hl
 split at hl
 ·refine Spec.fsumm hl fun Bs a hlen hK0=> ?_
  split at hK0
  ·obtain ⟨k,a,⟨rfl⟩,⟨rfl⟩,⟨rfl⟩,hk,ha,hK⟩:=hK0
   exact ⟨_,_,_,_,_,Zfw hk ha,by simp,.ret _ _ rfl,.cons _ _ _ _ _ _ rfl (.flat _ _ rfl) .nil,hK⟩
  ·exact hK0.elim
 ·exact hl.elim
def cactTy:List Ty:=[.int .i64,.int .i64,.arr .u8 32,.int .i64,.int .i64,.int .i64,.int .i64,.int .i64,.arr .u8 32,.arr .u8 32,.int .i64,.int .i64,.arr .u8 32,.arr .u8 32,.arr .u8 32,.arr .u8 32,.arr .u8 32,.arr .u8 32,.int .i64,.int .i64,.int .i64,.int .i64,.int .i64,.str,.int .i64,.int .u8]
theorem Z5e {l:List AV} (h:Fits cactTy l):∃x:ZV,l=x.c/\x.s.Len:=by
 unfold cactTy at h
 cases h with|cons _ a1 _ u h1 h=>
 cases h with|cons _ a2 _ u h2 h=>
 cases h with|cons _ a3 _ u h3 h=>
 cases h with|cons _ a4 _ u h4 h=>
 cases h with|cons _ a5 _ u h5 h=>
 cases h with|cons _ a6 _ u h6 h=>
 cases h with|cons _ a7 _ u h7 h=>
 cases h with|cons _ a8 _ u h8 h=>
 cases h with|cons _ a9 _ u h9 h=>
 cases h with|cons _ a10 _ u h10 h=>
 cases h with|cons _ a11 _ u h11 h=>
 cases h with|cons _ a12 _ u h12 h=>
 cases h with|cons _ a13 _ u h13 h=>
 cases h with|cons _ a14 _ u h14 h=>
 cases h with|cons _ a15 _ u h15 h=>
 cases h with|cons _ a16 _ u h16 h=>
 cases h with|cons _ a17 _ u h17 h=>
 cases h with|cons _ a18 _ u h18 h=>
 cases h with|cons _ a19 _ u h19 h=>
 cases h with|cons _ a20 _ u h20 h=>
 cases h with|cons _ a21 _ u h21 h=>
 cases h with|cons _ a22 _ u h22 h=>
 cases h with|cons _ a23 _ u h23 h=>
 cases h with|cons _ a24 _ u h24 h=>
 cases h with|cons _ a25 _ u h25 h=>
 cases h with|cons _ a26 _ u h26 h=>
 cases h
 cases h1
 cases h2
 cases h3
 cases h4
 cases h5
 cases h6
 cases h7
 cases h8
 cases h9
 cases h10
 cases h11
 cases h12
 cases h13
 cases h14
 cases h15
 cases h16
 cases h17
 cases h18
 cases h19
 cases h20
 cases h21
 cases h22
 cases h23
 cases h24
 cases h25
 cases h26
 rename_i x1 w1 x2 w2 x3 l3 w3 x4 w4 x5 w5 x6 w6 x7 w7 x8 w8 x9 l9 w9 x10 l10 w10 x11 w11 x12 w12 x13 l13 w13 x14 l14 w14 x15 l15 w15 x16 l16 w16 x17 l17 w17 x18 l18 w18 x19 w19 x20 w20 x21 w21 x22 w22 x23 w23 x24 w24 x25 w25 x26 w26
 exact ⟨⟨x1,⟨x2,⟨x3,x4,x5,x6,x7,x8,x9,x10⟩,x11,x12,x13,x14,x15,x16,x17,x18,x19,x20,x21,x22,x23,x24⟩,x25,x26⟩,rfl,⟨l3,l9,l10,l13,l14,l15,l16,l17,l18,ZdZ l9 w9⟩⟩
def Z12:ZV:=⟨0,sdN 0 0 Z0,0,0⟩
def XJ (A:List ZV) (i:Nat):List AV:=(A.getD i Z12).c
theorem ZfA {n:Nat} {p:Nat->ZV->Prop} (h:∀i,i<n->∃a,p i a):∃f:Nat->ZV,∀i,i<n->p i (f i):=
 ⟨fun i=>if hi:i<n then Classical.choose (h i hi) else Z12,fun i hi=>by
  simp only [hi,dite_true]
  exact Classical.choose_spec (h i hi)⟩
theorem Z5f {a:AV} (h:Z3u true cactTy a):∃y:ZV,a=.agg y.c/\y.s.Len:=by
 cases h with|agg _ u h=>
 obtain ⟨y,rfl,hy⟩:=Z5e h
 exact ⟨y,rfl,hy⟩
def fwS (A:List ZV) (n:Nat) (m:Int) (i:Nat):St:=⟨24,[(5,.int .i64 i),(0,.vrows 305 n (XJ A) n),(1,.int .i64 m)],⟨0,[]⟩,[]⟩
def fwN:St:=⟨24,[(4,.bool false)],⟨0,[]⟩,[]⟩
def fwE:St:=⟨24,[],⟨0,[]⟩,[]⟩
def Z4d (A:List ZV) (i:Nat):Prop:=(A.getD i Z12).s.route.size<=600
theorem Zpg (A:List ZV) (n i:Nat) (m:Int) (Z1 Z2 Z3:Prop) (hn:n<9223372036854775808) (hi:i<=n) (hZ1:i<n->Z4d A i->Z1) (hZ2:i=n->Z2) (hZ3:i<n->¬Z4d A i->Z3):
  ZG G0 20 19 0 0 (fwS A n m i) (rdM 0 0 9 (fwS A n m (i+1)) (fwS A n m i) fwN fwE Z1 Z2 Z3 False):=by
 refine @Eq.mpr _ (let a:=decide (n=n);let c:=XJ A=XJ A;let b:=decide (m=m);
 Z5 (decide ((↑i:Int)<(↑n:Int))) (Z7 (0<=(↑i:Int)/\(↑i:Int)<(↑n:Int)) (Z5 (decide ((↑(ByteArray.size (List.getD A (Int.toNat (↑i:Int)) Z12).s.route):Int)>600)) Z3 (Z7 (wrap i64 ((↑i:Int)+1)=(↑(i+1):Int)) (Z6 a (c/\Z6 a (Z6 b Z1)))))) (Z7 ((↑i:Int)=(↑i:Int)) (Z6 a (c/\Z6 a (Z6 b Z2))))) (by kernel_rfl) ?_
 conv=>zeta
 try simp only [vcA]
 try simp only [vcB]
 try simp only [vcC]
 refine ⟨fun hc=>⟨by omega,fun hg=>hZ3 (by omega) fun h=> ?_,fun hg=>⟨?_,hZ1 (by omega) ?_⟩⟩,fun hc=>hZ2 (by omega)⟩
 ·have h:(A.getD i Z12).s.route.size<=600:=h
  omega
 ·rw [w64 (by omega)]
  omega
 ·show (A.getD i Z12).s.route.size<=600
  omega
noncomputable def ZkI (A:List ZV) (n:Nat) (m:Int) (C:Prop):Zb:=G0.withL 19 0 (goM 0 (fwS A n m 0) C (YD 0 n 9 (fun i=>Z4d A i) (fun i=>i=n) (fun i=>i<n/\¬Z4d A i) (fun _=>False) (fun i=>fwS A n m i) (fun _=>fwN) (fun _=>fwE)))
theorem Zi7 (A:List ZV) (n:Nat) (m:Int):(ZkI A n m (n<9223372036854775808)).Ok:=
 Zb.withGoM (N:=20) (S:=fun i=>fwS A n m i) Zm (by kernel_rfl) fun hC=>⟨rfl,fun i hi _=>Zpg A n i m _ _ _ hC hi (fun h1 h2=>⟨h2,h1⟩) (fun h=>h) (fun h1 h2=>⟨h1,h2⟩)⟩
open Classical in
noncomputable def Z1B (A:List ZV) (n:Nat) (m:Int):Bool:=decide ((∀i,i<n->Z4d A i)/\(n:Int)<=m)
theorem Z7L {A:List ZV} {n:Nat} {m:Int}:Z1B A n m=true↔(∀i,i<n->Z4d A i)/\(n:Int)<=m:=by unfold Z1B;simp
theorem Zph (A:List ZV) (n:Nat) (m:Int) (C:Prop) (ok:Bool) (hC:C) (h1:(∀i,i<n->Z4d A i)->decide ((n:Int)<=m)=ok) (h0:(∃i,i<n/\¬Z4d A i)->false=ok):
  evF (ZkI A n m C) 20 19 [.vrows 305 n (XJ A) n,.int .i64 m] ⟨0,[]⟩ (XY fun v=>v=.bool ok):=by
 refine @Eq.mpr _ (let a:=decide (n=n);
 Z6 a (XJ A=XJ A/\Z6 a (Z7 (m=m) (C/\∀(i:Nat),i<=n->(∀(j:Nat),j<i->(fun (i:Nat)=>Z4d A i) j)->(i=n->AV.bool (decide (↑n<=m))=AV.bool ok)/\(i<n/\¬Z4d A i->AV.bool false=AV.bool ok)/\(False->False))))) (by kernel_rfl) ?_
 conv=>zeta
 try simp only [vcA]
 try simp only [vcB]
 try simp only [vcC]
 refine ⟨hC,fun i hi hg=>⟨fun h=> ?_,fun h=> ?_,fun h=>h⟩⟩
 ·subst h
  rw [h1 hg]
 ·rw [<-h0 ⟨i,h⟩]
theorem Zcf (A:List ZV) (n:Nat) (m:Int) (hn:n<9223372036854775808):evF (ZkI A n m (n<9223372036854775808)) 20 19 [.vrows 305 n (XJ A) n,.int .i64 m] ⟨0,[]⟩ (XY fun v=>v=.bool (Z1B A n m)):=
 Zph A n m _ _ hn (fun h=>by unfold Z1B;exact decide_eq_decide.2 ⟨fun q=>⟨h,q⟩,fun q=>q.2⟩) (fun ⟨i,hi,hg⟩=>by
  symm
  refine Kd.2 fun h=> ?_
  exact hg ((Z7L.1 h).1 i hi))
def kkC (X:ClS->ZV->ClS) (k:ClS) (L:List ZV) (i:Nat):ClS:=(L.take i).foldl X k
theorem Z7M {X:ClS->ZV->ClS} {k:ClS} {L:List ZV} {i:Nat} (hi:i<L.length):kkC X k L (i+1)=X (kkC X k L i) (L.getD i Z12):=by
 unfold kkC
 rw [List.take_add_one,List.foldl_append,J3,Ja hi]
 rfl
theorem ZfB {k:ClS} (hk:Yr k) (L:List ZV):∀i,i<=L.length->Yr (kkC nxC k L i)
 | 0,_=>hk
 | i+1,hi=>by
  rw [Z7M (by omega)]
  exact Zfy _ (ZfB hk L i (by omega))
structure ZnX (k:ClS) (L:List ZV) (n:Nat):Prop where
 n20:n<=20
 len:L.length=n
 k:Yr k
 l:∀a∈L,a.s.Len
def Z6l:List AV->(List AV->Prop)->Prop
 | [],k=>k []
 | c::r,k=>Z6l r fun r'=>k (c::r')
theorem Z5g:∀(l:List AV) (k:List AV->Prop),Z6l l k=k l
 | [],_=>rfl
 | c::r,k=>by unfold Z6l;rw [Z5g r]
def Z9B (B:Blk) (k:Blk->Prop):Prop:=match B with
 | .flat cs=>Z6l cs fun cs'=>k (.flat cs')
 | _=>k B
theorem Zcg (B:Blk) (k:Blk->Prop):Z9B B k=k B:=by
 unfold Z9B
 split
 ·rw [Z5g]
 ·rfl
def Z6m:List (Nat×Blk)->(List (Nat×Blk)->Prop)->Prop
 | [],k=>k []
 | (y,B)::r,k=>Z9B B fun B'=>Z6m r fun r'=>k ((y,B')::r')
theorem Z5h:∀(l:List (Nat×Blk)) (k:List (Nat×Blk)->Prop),Z6m l k=k l
 | [],_=>rfl
 | (y,B)::r,k=>by unfold Z6m;rw [Zcg,Z5h r]
def nfK (K:KO):KO:=fun o h=>Z6m h.bs fun bs=>K o ⟨h.next,bs⟩
theorem ZkJ (K:KO):nfK K=K:=by
 funext o h
 unfold nfK
 rw [Z5h]
def nfF (S:ZO):ZO:=fun args h K=>S args h (nfK K)
theorem Z6n {P:Program} {f:FuncId} {S:ZO} (hS:∀args h K,S args h K->Ze P f args h K) (args:List AV) (h:Z8) (K:KO) (hl:nfF S args h K):Ze P f args h K:=by
 unfold nfF at hl
 rw [ZkJ] at hl
 exact hS _ _ _ hl
theorem Zb.withJE (hG:G.Ok) {f:FuncId} {id N:Nat} {S:Nat->St->KE->Prop} (h1:Z5T G.P f id=true)
  (h:∀k s X,S k s X->∃(S0 S1:St),Z0I k s S0/\Zad G N f id k S0 (jnM k S1)/\X .normal S1):(G.withL f id S).Ok where
 draw:=hG.draw
 psumm:=hG.psumm
 fsumm:=hG.fsumm
 lsumm:=fun f' id' S' fn c body hS hf hb hm k' s X hs=>by
  simp only [Zb.withL] at hS
  split at hS
  ·rename_i hq
   rw [J2] at hq
   have e1:=J0 hq.1
   have e2:=J0 hq.2
   subst e1 e2
   cases hS
   have hc:=ZbD h1 hf hb hm
   obtain ⟨S0,S1,hw,hE,hX⟩:=h _ _ _ hs
   unfold Zad at hE
   rw [<-hc] at hE
   have hkN:=Z0D hG N f' none
   refine YG.weak ?_ hw
   refine YG.join (Z34 (k:=k') (ro:=none) hG hkN.1 (fun _=>rfl) (fun _=>rfl) (fun _=>⟨fn,body,by rw [hkN.2.1];exact hf,hb,fun b hbm=>UX body id' _ hm b hbm⟩) hE) ?_
   grind [jnM,Vb]
  ·exact hG.lsumm f' id' S' fn c body hS hf hb hm k' s X hs
def rjH (k:ClS) (xs:LI) (p:Nat):Z8:=⟨7,[(0,.flat (k.c++[.bool true])),(1,.flat [.ptr (some ⟨2,0,0,0,0⟩)]),(2,.flat [.nslice ⟨3,0,0,0,p⟩ 1 (xs.length-p) (xs.length-p),.bool true,.bool false]),(3,.ints .u8 xs),(4,.flat [.ptr none]),(5,.flat [.int .i64 0]),(6,.defd)]⟩
def rjT (l:ZZ):ZZ:=l++[(4,.ptr (some ⟨0,0,0,0,0⟩)),(5,.ptr (some ⟨1,0,0,0,0⟩)),(2,.ptr (some ⟨4,0,0,0,0⟩)),(3,.ptr (some ⟨5,0,0,0,0⟩))]
def rj0 (k:ClS) (b:Bool) (xs:LI) (p:Nat):St:=⟨145,rjT [(56,.bool !k.offers),(8,.bool b)],rjH k xs p,[.mark 6]⟩
def rj1 (k:ClS) (b:Bool) (xs:LI) (p:Nat):St:=⟨145,rjT [(8,.bool b)],rjH k xs p,[.mark 6]⟩
def Z7N (k:ClS) (b:Bool):Bool:=match k.offers with
 | true=>b
 | false=>k.last==0
theorem Zpi (k:ClS) (b c:Bool) (xs:LI) (p:Nat) (hc:c=Z7N k b):
  Zad G0 20 26 100056 0 (rj0 k b xs p) (jnM 0 (rj1 k c xs p)):=by
 refine @Eq.mpr _ (let f:=k.offers;let e:=k.last;let a:=k.t;let m:=a.fund;let l:=a.index;let j:=a.cap;let i:=a.dust;let h:=a.fee;let g:=a.delay;let r:=a.k0;let q:=a.k1;let o:=[k.a0,k.a1];let d:=xs.length-p;let n:=m=m/\Z5 (decide (l=l)) (Z5 (decide (j=j)) (Z5 (decide (i=i)) (Z5 (decide (h=h)) (Z5 (decide (g=g)) (r=r/\q=q/\Z5 (decide (k.side=k.side)) (o=o/\Z5 (decide (k.least=k.least)) (Z5 (decide (k.most=k.most)) (Z5 (decide (f=f)) (Z5 (decide (e=e)) (Z5 (decide (k.agrees=k.agrees)) (Z5 (decide (k.fee=k.fee)) (Z5 (decide (p=p)) (Z5 (decide (d=d)) (Z5 (decide (d<=d)) (xs=xs/\True) False) False) False) False) False) False) False) False) False) False) False) False) False) False) False;
 Z5 (!f) (Z5 (decide ((e==0)=c)) n False) (Z5 (decide (b=c)) n False)) (by kernel_rfl) ?_
 conv=>zeta
 try simp only [ZD]
 try simp only [ZU]
 try simp only [ZM]
 simp_all [ZN,Z7N]
def rj2 (k:ClS) (b:Bool) (xs:LI) (p:Nat):St:=rj1 k (Z7N k b) xs p
def jL4 (S0 S1:ClS->Bool->LI->Nat->St):Nat->St->KE->Prop:=fun k s X=>match Nat.beq k 0 with
 | true=>∃(kk:ClS) (b:Bool) (xs:LI) (p:Nat),QQ 0 (S0 kk b xs p) s (X .normal (S1 kk b xs p))
 | false=>False
theorem ZkK (hG:G.Ok) {f:FuncId} {id N:Nat} {S0 S1:ClS->Bool->LI->Nat->St} (h1:Z5T G.P f id=true) (h:∀kk b xs p,Zad G N f id 0 (S0 kk b xs p) (jnM 0 (S1 kk b xs p))):(G.withL f id (jL4 S0 S1)).Ok:=
 Zb.withJE hG h1 fun k s X hs=>by
  unfold jL4 at hs
  split at hs
  ·rename_i hk
   have:=J0 hk
   subst this
   obtain ⟨kk,b,xs,p,hs⟩:=hs
   obtain ⟨hX,hw⟩:=Vb hs
   exact ⟨_,_,hw,h kk b xs p,hX⟩
  simp_all
theorem Zi8 (G:Zb) (f:FuncId) (S:ZI):(G.withP f S).P=G.P:=rfl
theorem Zi9 (G:Zb) (f:FuncId) (S:ZO):(G.withF f S).P=G.P:=rfl
theorem ZfC:((((((((G0.withF 53 (nfF Z3R)).withF 128 (nfF (ZaD (Yk Zn)))).withF 129 (nfF Z6d)).withF 130 (nfF ZaC)).withF 66 ZaB).withF 119 Z0R).withP 30 (Zc9 ZA)).withP 40 inQ).Ok:=Zb.withP_ok (Zb.withP_ok (Zb.withF_ok (Zb.withF_ok (Zb.withF_ok (Zb.withF_ok (Zb.withF_ok (Zb.withF_ok Zm (Z6n Z5b)) (Z6n ZeU)) (Z6n Zc6)) (Z6n ZeT)) ZeS) Z0k) ZaJ) Zf4
noncomputable def ZnY (F:LI->Int×Int) (A:LI->Int×Int):Zb:=(((((((((G0.withF 53 (nfF Z3R)).withF 128 (nfF (ZaD F))).withF 129 (nfF Z6d)).withF 130 (nfF ZaC)).withF 66 ZaB).withF 119 Z0R).withP 30 (Zc9 A)).withP 40 inQ).withF 38 Zns).withL 26 100056 (jL4 rj0 rj2)
theorem ZaS:(ZnY (Yk Zn) ZA).Ok:=Zb.withL_join (H:=G0) (Zb.withF_ok ZfC ZhO) (by simp only [Zi8,Zi9]) (ZkK (N:=20) Zm (by kernel_rfl) fun kk b xs p=>Zpi kk b _ xs p rfl)
theorem Z2p {k:ClS} (h:Yc k):Z7N k (decide (k.least<=k.last/\k.last<=k.most))=true:=by
 unfold Z7N
 split
 ·rename_i ho;exact decide_eq_true (h.off ho)
 ·rename_i ho;rw [h.nof ho];rfl
theorem Z3Y {k:ClS} (hm:Yh ZA k=true) (ho:Z7N k (decide (k.least<=k.last/\k.last<=k.most))=true) (ha:k.agrees=true->k.offers=true/\k.fee=k.last/\ZJ k.t k.a0 k.a1 k.fee=0) (hn:k.agrees=false->k.fee=0):Yc k:=by
 refine ⟨XO.1 hm,fun h=> ?_,fun h=> ?_,ha,hn⟩
 all_goals simp_all [Z7N]
theorem nT {b:Bool} (h:(!b)=true):b=false:=by simp_all
theorem nF {b:Bool} (h:(!b)=false):b=true:=by simp_all
theorem ZiF (F:LI->Int×Int) (A:LI->Int×Int) (xs:LI) (N:Nat) (k:ClS) (ok:Bool) (hN:xs.length=N) (hB:N<90000000000000) (hb:Bytes xs) (hF:F=Yk Zn) (hA:A=ZA) (hok:ok=true->XX F xs=some (k,N)/\Yc k) (hno:ok=false->∀k,XX F xs=some (k,N)->¬Yc k):
  evF (ZnY F A) 40 26 [.vints .u8 xs N] ⟨0,[]⟩ (clK ok k):=by
 refine @Eq.mpr _ (let a:=xs.length;let J:=AV.arr u8 32 Z0;let e:=AV.int i64 0;let M:=[AV.bool true];let c:=Z5 ok False True;let g:=k.t;
 Z7 (a=N/\N<90000000000000) (∃(k_1:ClS),
 let j:=k_1.t;
 J::e::e::e::e::e::J::J::e::AV.arr i64 2 [(0:Int),0]::e::e::AV.bool false::e::AV.bool false::e::M=AV.arr u8 32 j.fund::AV.int i64 j.index::AV.int i64 j.cap::AV.int i64 j.dust::AV.int i64 j.fee::AV.int i64 j.delay::AV.arr u8 32 j.k0::AV.arr u8 32 j.k1::AV.int i64 k_1.side::AV.arr i64 2 [k_1.a0,k_1.a1]::AV.int i64 k_1.least::AV.int i64 k_1.most::AV.bool k_1.offers::AV.int i64 k_1.last::AV.bool k_1.agrees::AV.int i64 k_1.fee::M/\
 Z7 (N=a-0/\0<=a/\N=a-0) ((∀(hh:LI) (o':Nat),
 let Z:=rdN F xs o' 1125899906842624;
 rdH xs 0=some (hh,o')->
 0<=o'/\o'<=a/\hh.length=32->
 Z7 (a-o'=a-o'/\o'<=a/\a-o'=a-o'/\(0:Int)<=1125899906842624) ((∀(v:Int) (o'_1:Nat),
 let Y:=rdN F xs o'_1 1125899906842624;
 Z=some (v,o'_1)->
 o'<=o'_1/\o'_1<=a/\v<=1125899906842624->
 Z7 (a-o'_1=a-o'_1/\o'_1<=a/\a-o'_1=a-o'_1/\(0:Int)<=1125899906842624) ((∀(v_1:Int) (o':Nat),
 let X:=rdN F xs o' 1125899906842624;
 Y=some (v_1,o')->
 o'_1<=o'/\o'<=a/\v_1<=1125899906842624->
 Z7 (a-o'=a-o'/\o'<=a/\a-o'=a-o'/\(0:Int)<=1125899906842624) ((∀(v_2:Int) (o'_2:Nat),
 let W:=rdN F xs o'_2 1125899906842624;
 X=some (v_2,o'_2)->
 o'<=o'_2/\o'_2<=a/\v_2<=1125899906842624->
 Z7 (a-o'_2=a-o'_2/\o'_2<=a/\a-o'_2=a-o'_2/\(0:Int)<=1125899906842624) ((∀(v_3:Int) (o':Nat),
 let V:=rdN F xs o' 1125899906842624;
 W=some (v_3,o')->
 o'_2<=o'/\o'<=a/\v_3<=1125899906842624->
 Z7 (a-o'=a-o'/\o'<=a/\a-o'=a-o'/\(0:Int)<=1125899906842624) ((∀(v_4:Int) (o'_3:Nat),
 V=some (v_4,o'_3)->
 o'<=o'_3/\o'_3<=a/\v_4<=1125899906842624->
 Z7 (a-o'_3=a-o'_3/\o'_3<=a/\a-o'_3=a-o'_3) ((∀(hh_1:LI) (o':Nat),
 rdH xs o'_3=some (hh_1,o')->
 o'_3<=o'/\o'<=a/\hh_1.length=32->
 Z7 (a-o'=a-o'/\o'<=a/\a-o'=a-o') ((∀(hh_2:LI) (o'_4:Nat),
 let U:=rdN F xs o'_4 1125899906842624;
 rdH xs o'=some (hh_2,o'_4)->
 o'<=o'_4/\o'_4<=a/\hh_2.length=32->
 Z7 (a-o'_4=a-o'_4/\o'_4<=a/\a-o'_4=a-o'_4/\(0:Int)<=1125899906842624) ((∀(v_5:Int) (o':Nat),
 let T:=rdN F xs o' 1125899906842624;
 U=some (v_5,o')->
 o'_4<=o'/\o'<=a/\v_5<=1125899906842624->
 Z7 (a-o'=a-o'/\o'<=a/\a-o'=a-o'/\(0:Int)<=1125899906842624) ((∀(v_6:Int) (o'_5:Nat),
 let S:=rdN F xs o'_5 1125899906842624;
 T=some (v_6,o'_5)->
 o'<=o'_5/\o'_5<=a/\v_6<=1125899906842624->
 Z7 (a-o'_5=a-o'_5/\o'_5<=a/\a-o'_5=a-o'_5/\(0:Int)<=1125899906842624) ((∀(v_7:Int) (o':Nat),
 let R:=rdN F xs o' 1125899906842624;
 S=some (v_7,o')->
 o'_5<=o'/\o'<=a/\v_7<=1125899906842624->
 Z7 (a-o'=a-o'/\o'<=a/\a-o'=a-o'/\(0:Int)<=1125899906842624) ((∀(v_8:Int) (o'_6:Nat),
 let Q:=rdN F xs o'_6 1125899906842624;
 R=some (v_8,o'_6)->
 o'<=o'_6/\o'_6<=a/\v_8<=1125899906842624->
 Z7 (a-o'_6=a-o'_6/\o'_6<=a/\a-o'_6=a-o'_6/\(0:Int)<=1125899906842624) ((∀(v_9:Int) (o':Nat),
 Q=some (v_9,o')->
 o'_6<=o'/\o'<=a/\v_9<=1125899906842624->
 Z7 (a-o'=a-o'/\o'<=a/\a-o'=a-o') ((∀(v_10:Bool) (o'_7:Nat),
 let P:=rdN F xs o'_7 1125899906842624;
 rdT xs o'=some (v_10,o'_7)->
 o'<=o'_7/\o'_7<=a->
 Z7 (a-o'_7=a-o'_7/\o'_7<=a/\a-o'_7=a-o'_7/\(0:Int)<=1125899906842624) ((∀(v_11:Int) (o':Nat),
 P=some (v_11,o')->
 o'_7<=o'/\o'<=a/\v_11<=1125899906842624->
 Z7 (a-o'=a-o'/\o'<=a/\a-o'=a-o') ((∀(v_12:Bool) (o'_8:Nat),
 let O:=rdN F xs o'_8 1125899906842624;
 rdT xs o'=some (v_12,o'_8)->
 o'<=o'_8/\o'_8<=a->
 Z7 (a-o'_8=a-o'_8/\o'_8<=a/\a-o'_8=a-o'_8/\(0:Int)<=1125899906842624) ((∀(v_13:Int) (o':Nat),
 O=some (v_13,o')->
 o'_8<=o'/\o'<=a/\v_13<=1125899906842624->
 ∃(kk:ClS),
 let i:=kk.offers;let h:=kk.t;let B:=h.fund;let z:=h.index;let y:=h.cap;let x:=h.dust;let w:=h.fee;let u:=h.delay;let s:=h.k0;let r:=h.k1;let q:=kk.side;let o:=[kk.a0,kk.a1];let n:=kk.least;let m:=kk.most;let l:=kk.last;let f:=kk.agrees;let d:=kk.fee;let L:= !f;let E:=Z6 ok (B=g.fund/\Z7 (z=g.index) (Z7 (y=g.cap) (Z7 (x=g.dust) (Z7 (w=g.fee) (Z7 (u=g.delay) (s=g.k0/\r=g.k1/\Z7 (q=k.side) (o=[k.a0,k.a1]/\Z7 (n=k.least) (Z7 (m=k.most) (Z7 (i=k.offers) (Z7 (l=k.last) (Z7 (f=k.agrees) (Z7 (d=k.fee) True))))))))))));
 ∃(b:Bool),
 let I:= !Z7N kk b;
 ∃(xs_1:LI),
 ∃(p:Nat),
 let D:=xs_1.length-p;let H:=decide (D=D);let G:=decide (D=0);let K:=(∃(k:ClS),
 YJ [AV.arr u8 32 B,AV.int i64 z,AV.int i64 y,AV.int i64 x,AV.int i64 w,AV.int i64 u,AV.arr u8 32 s,AV.arr u8 32 r,AV.int i64 q,AV.arr i64 2 o,AV.int i64 n,AV.int i64 m,AV.bool i,AV.int i64 l,AV.bool f,AV.int i64 d] k/\(Zj.Ok k.t/\k.a0<9223372036854775808)/\Z6 H (Z5 G (∃(k_2:ClS),YJ [AV.arr u8 32 B,AV.int i64 z,AV.int i64 y,AV.int i64 x,AV.int i64 w,AV.int i64 u,AV.arr u8 32 s,AV.arr u8 32 r,AV.int i64 q,AV.arr i64 2 o,AV.int i64 n,AV.int i64 m,AV.bool i,AV.int i64 l,AV.bool f,AV.int i64 d] k_2/\Zj.Ok k_2.t/\Z5 (!Yh A k_2) c (Z5 I c (Z5 (!d==0) c (Z5 f (Z5 (ZJ k.t k.a0 k.a1 d !=0) c E) E)))) c));
 Z7 ((!v_10)= !i) (Z7 (decide (v_8<=v_11/\v_11<=v_9)=b) (hh=B/\
 Z7 (v=z) (Z7 (v_1=y) (Z7 (v_2=x) (Z7 (v_3=w) (Z7 (v_4=u) (hh_1=s/\
 hh_2=r/\
 Z7 (v_5=q) ([v_6,v_7]=o/\
 Z7 (v_8=n) (Z7 (v_9=m) (Z7 (v_10=i) (Z7 (v_11=l) (Z7 (v_12=f) (Z7 (v_13=d) (Z7 (o'=p) (Z7 (a-o'=D) (Z7 (D<=a-o') (xs=xs_1/\
 Z5 i (Z5 L K (∃(k:ClS),
 let C:=[AV.arr u8 32 B,AV.int i64 z,AV.int i64 y,AV.int i64 x,AV.int i64 w,AV.int i64 u,AV.arr u8 32 s,AV.arr u8 32 r,AV.int i64 q,AV.arr i64 2 o,AV.int i64 n,AV.int i64 m,AV.bool i,AV.int i64 l,AV.bool f,AV.int i64 d];
 YJ C k/\(Zj.Ok k.t/\k.a0<9223372036854775808)/\Z6 H (Z5 G (∃(k_2:ClS),YJ C k_2/\Zj.Ok k_2.t/\Z5 (!Yh A k_2) c (Z5 I c (Z5 (!d==l) c (Z5 f (Z5 (ZJ k.t k.a0 k.a1 d !=0) c E) E)))) c))) (Z5 L K (∃(k:ClS),
 let C:=[AV.arr u8 32 B,AV.int i64 z,AV.int i64 y,AV.int i64 x,AV.int i64 w,AV.int i64 u,AV.arr u8 32 s,AV.arr u8 32 r,AV.int i64 q,AV.arr i64 2 o,AV.int i64 n,AV.int i64 m,AV.bool i,AV.int i64 l,AV.bool f,AV.int i64 d];
 YJ C k/\(Zj.Ok k.t/\k.a0<9223372036854775808)/\Z6 H (Z5 G (∃(k:ClS),YJ C k/\Zj.Ok k.t/\Z5 (!Yh A k) c (Z5 I c c)) c)))))))))))))))))))))/\
 (O=none->c)))/\
 (rdT xs o'=none->c)))/\
 (P=none->c)))/\
 (rdT xs o'=none->c)))/\
 (Q=none->c)))/\
 (R=none->c)))/\
 (S=none->c)))/\
 (T=none->c)))/\
 (U=none->c)))/\
 (rdH xs o'=none->c)))/\
 (rdH xs o'_3=none->c)))/\
 (V=none->c)))/\
 (W=none->c)))/\
 (X=none->c)))/\
 (Y=none->c)))/\
 (Z=none->c)))/\
 (rdH xs 0=none->c)))) (by kernel_rfl) ?_
 conv=>zeta
 try simp only [vcA]
 try simp only [vcB]
 try simp only [vcC]
 subst hN
 have bad:XX F xs=none->ok=false:=fun h=>Kd.2 fun e=>by rw [(hok e).1] at h;cases h
 refine ⟨⟨rfl,hB⟩,clZ,rfl, ?_⟩
 refine ⟨by omega,fun v0 o0 e0 b0=> ?_,fun e0=>bad (by simp [XX,e0])⟩
 refine ⟨by omega,fun v1 o1 e1 b1=> ?_,fun e1=>bad (by simp [XX,e0,e1])⟩
 refine ⟨by omega,fun v2 o2 e2 b2=> ?_,fun e2=>bad (by simp [XX,e0,e1,e2])⟩
 refine ⟨by omega,fun v3 o3 e3 b3=> ?_,fun e3=>bad (by simp [XX,e0,e1,e2,e3])⟩
 refine ⟨by omega,fun v4 o4 e4 b4=> ?_,fun e4=>bad (by simp [XX,e0,e1,e2,e3,e4])⟩
 refine ⟨by omega,fun v5 o5 e5 b5=> ?_,fun e5=>bad (by simp [XX,e0,e1,e2,e3,e4,e5])⟩
 refine ⟨by omega,fun v6 o6 e6 b6=> ?_,fun e6=>bad (by simp [XX,e0,e1,e2,e3,e4,e5,e6])⟩
 refine ⟨by omega,fun v7 o7 e7 b7=> ?_,fun e7=>bad (by simp [XX,e0,e1,e2,e3,e4,e5,e6,e7])⟩
 refine ⟨by omega,fun v8 o8 e8 b8=> ?_,fun e8=>bad (by simp [XX,e0,e1,e2,e3,e4,e5,e6,e7,e8])⟩
 refine ⟨by omega,fun v9 o9 e9 b9=> ?_,fun e9=>bad (by simp [XX,e0,e1,e2,e3,e4,e5,e6,e7,e8,e9])⟩
 refine ⟨by omega,fun v10 o10 e10 b10=> ?_,fun e10=>bad (by simp [XX,e0,e1,e2,e3,e4,e5,e6,e7,e8,e9,e10])⟩
 refine ⟨by omega,fun v11 o11 e11 b11=> ?_,fun e11=>bad (by simp [XX,e0,e1,e2,e3,e4,e5,e6,e7,e8,e9,e10,e11])⟩
 refine ⟨by omega,fun v12 o12 e12 b12=> ?_,fun e12=>bad (by simp [XX,e0,e1,e2,e3,e4,e5,e6,e7,e8,e9,e10,e11,e12])⟩
 refine ⟨by omega,fun v13 o13 e13 b13=> ?_,fun e13=>bad (by simp [XX,e0,e1,e2,e3,e4,e5,e6,e7,e8,e9,e10,e11,e12,e13])⟩
 refine ⟨by omega,fun v14 o14 e14 b14=> ?_,fun e14=>bad (by simp [XX,e0,e1,e2,e3,e4,e5,e6,e7,e8,e9,e10,e11,e12,e13,e14])⟩
 refine ⟨by omega,fun v15 o15 e15 b15=> ?_,fun e15=>bad (by simp [XX,e0,e1,e2,e3,e4,e5,e6,e7,e8,e9,e10,e11,e12,e13,e14,e15])⟩
 refine ⟨by omega,fun v16 o16 e16 b16=> ?_,fun e16=>bad (by simp [XX,e0,e1,e2,e3,e4,e5,e6,e7,e8,e9,e10,e11,e12,e13,e14,e15,e16])⟩
 have hr:XX F xs=some ((⟨⟨v0,v1,v2,v3,v4,v5,v6,v7⟩,v8,v9,v10,v11,v12,v13,v14,v15,v16⟩:ClS),o16):=by
  simp only [XX,Option.bind_some,e0,e1,e2,e3,e4,e5,e6,e7,e8,e9,e10,e11,e12,e13,e14,e15,e16]
 have hAll:(⟨⟨v0,v1,v2,v3,v4,v5,v6,v7⟩,v8,v9,v10,v11,v12,v13,v14,v15,v16⟩:ClS).t.All:=Zf2 hb (hF▸hr)
 have hbad:¬(o16=xs.length/\Yc (⟨⟨v0,v1,v2,v3,v4,v5,v6,v7⟩,v8,v9,v10,v11,v12,v13,v14,v15,v16⟩:ClS))->ok=false:=fun h=>Kd.2 fun e=>by
  simp_all
 have hgood:o16=xs.length->Yc (⟨⟨v0,v1,v2,v3,v4,v5,v6,v7⟩,v8,v9,v10,v11,v12,v13,v14,v15,v16⟩:ClS)->ok=true/\k=(⟨⟨v0,v1,v2,v3,v4,v5,v6,v7⟩,v8,v9,v10,v11,v12,v13,v14,v15,v16⟩:ClS):=fun hp hI=>by
  simp_all
 have ha0:v9<9223372036854775808:=by omega
 have hmB:∀{b:Bool},Yh A (⟨⟨v0,v1,v2,v3,v4,v5,v6,v7⟩,v8,v9,v10,v11,v12,v13,v14,v15,v16⟩:ClS)=b->Yh ZA (⟨⟨v0,v1,v2,v3,v4,v5,v6,v7⟩,v8,v9,v10,v11,v12,v13,v14,v15,v16⟩:ClS)=b:=fun h=>hA▸h
 refine ⟨(⟨⟨v0,v1,v2,v3,v4,v5,v6,v7⟩,v8,v9,v10,v11,v12,v13,v14,v15,v16⟩:ClS),decide (v11<=v14/\v14<=v12),xs,o16, ?_⟩
 repeat' first
  | with_reducible rfl
  | exact J4 _
  | with_reducible refine J9 ?_ ?_
 ·intro hof
  refine ⟨fun hag=> ?_,fun hag=> ?_⟩
  ·refine ⟨(⟨⟨v0,v1,v2,v3,v4,v5,v6,v7⟩,v8,v9,v10,v11,v12,v13,v14,v15,v16⟩:ClS),⟨rfl⟩,⟨hAll.ok,ha0⟩,fun hp=>⟨(⟨⟨v0,v1,v2,v3,v4,v5,v6,v7⟩,v8,v9,v10,v11,v12,v13,v14,v15,v16⟩:ClS),⟨rfl⟩,hAll.ok,fun hm=>hbad ?_,fun hm=>⟨fun ho=>hbad ?_,fun ho=>⟨fun hf=>hbad ?_,fun hf=>⟨fun hg=>⟨fun ht=>hbad ?_,fun ht=> ?_⟩,fun hg=> ?_⟩⟩⟩⟩,fun hp=>hbad ?_⟩
   ·rintro ⟨_,hI⟩
    exact absurd ((XO.2 hI.made).symm.trans (hmB (nT hm))) (by decide)
   ·grind [Z2p]
   ·rintro ⟨_,hI⟩
    exact beq_eq_false_iff_ne.1 (nT hf) (hI.nag (nT hag))
   ·simp_all
   ·simp_all
   ·obtain ⟨q1,q2⟩:=hgood (by omega) (Z3Y (hmB (nF hm)) (nF ho) (fun h=>absurd (hg.symm.trans h) (by decide)) (fun _=>beq_iff_eq.1 (nF hf)))
    subst q2
    and_intros<;>first|exact q1|rfl
   omega
  ·refine ⟨(⟨⟨v0,v1,v2,v3,v4,v5,v6,v7⟩,v8,v9,v10,v11,v12,v13,v14,v15,v16⟩:ClS),⟨rfl⟩,⟨hAll.ok,ha0⟩,fun hp=>⟨(⟨⟨v0,v1,v2,v3,v4,v5,v6,v7⟩,v8,v9,v10,v11,v12,v13,v14,v15,v16⟩:ClS),⟨rfl⟩,hAll.ok,fun hm=>hbad ?_,fun hm=>⟨fun ho=>hbad ?_,fun ho=>⟨fun hf=>hbad ?_,fun hf=>⟨fun hg=>⟨fun ht=>hbad ?_,fun ht=> ?_⟩,fun hg=> ?_⟩⟩⟩⟩,fun hp=>hbad ?_⟩
   ·rintro ⟨_,hI⟩
    exact absurd ((XO.2 hI.made).symm.trans (hmB (nT hm))) (by decide)
   ·grind [Z2p]
   ·rintro ⟨_,hI⟩
    exact beq_eq_false_iff_ne.1 (nT hf) (hI.agr (nF hag)).2.1
   ·rintro ⟨_,hI⟩
    exact bne_iff_ne.1 ht (hI.agr hg).2.2
   ·obtain ⟨q1,q2⟩:=hgood (by omega) (Z3Y (hmB (nF hm)) (nF ho) (fun _=>⟨hof,beq_iff_eq.1 (nF hf),bne_eq_false_iff_eq.1 ht⟩) (fun h=>absurd (hg.symm.trans h) (by decide)))
    subst q2
    and_intros<;>first|exact q1|rfl
   all_goals grind
 ·intro hof
  refine ⟨fun hag=> ?_,fun hag=> ?_⟩
  ·refine ⟨(⟨⟨v0,v1,v2,v3,v4,v5,v6,v7⟩,v8,v9,v10,v11,v12,v13,v14,v15,v16⟩:ClS),⟨rfl⟩,⟨hAll.ok,ha0⟩,fun hp=>⟨(⟨⟨v0,v1,v2,v3,v4,v5,v6,v7⟩,v8,v9,v10,v11,v12,v13,v14,v15,v16⟩:ClS),⟨rfl⟩,hAll.ok,fun hm=>hbad ?_,fun hm=>⟨fun ho=>hbad ?_,fun ho=>⟨fun hf=>hbad ?_,fun hf=>⟨fun hg=>⟨fun ht=>hbad ?_,fun ht=> ?_⟩,fun hg=> ?_⟩⟩⟩⟩,fun hp=>hbad ?_⟩
   ·rintro ⟨_,hI⟩
    exact absurd ((XO.2 hI.made).symm.trans (hmB (nT hm))) (by decide)
   ·grind [Z2p]
   ·rintro ⟨_,hI⟩
    exact beq_eq_false_iff_ne.1 (nT hf) (hI.nag (nT hag))
   ·simp_all
   ·simp_all
   ·obtain ⟨q1,q2⟩:=hgood (by omega) (Z3Y (hmB (nF hm)) (nF ho) (fun h=>absurd (hg.symm.trans h) (by decide)) (fun _=>beq_iff_eq.1 (nF hf)))
    subst q2
    and_intros<;>first|exact q1|rfl
   omega
  ·refine ⟨(⟨⟨v0,v1,v2,v3,v4,v5,v6,v7⟩,v8,v9,v10,v11,v12,v13,v14,v15,v16⟩:ClS),⟨rfl⟩,⟨hAll.ok,ha0⟩,fun hp=>⟨(⟨⟨v0,v1,v2,v3,v4,v5,v6,v7⟩,v8,v9,v10,v11,v12,v13,v14,v15,v16⟩:ClS),⟨rfl⟩,hAll.ok,fun hm=>hbad ?_,fun hm=>⟨fun ho=>hbad ?_,fun ho=>hbad ?_⟩⟩,fun hp=>hbad ?_⟩
   ·rintro ⟨_,hI⟩
    exact absurd ((XO.2 hI.made).symm.trans (hmB (nT hm))) (by decide)
   ·grind [Z2p]
   ·rintro ⟨_,hI⟩
    exact absurd ((hI.agr (nF hag)).1.symm.trans hof) (by decide)
   omega
inductive Z5i (xs:LI):Option ClS->Prop
 | some (k:ClS):XX (Yk Zn) xs=some (k,xs.length)->Yc k->Z5i xs (some k)
 | none:(∀k,XX (Yk Zn) xs=some (k,xs.length)->¬Yc k)->Z5i xs none
def ZfD (R:Option ClS):ZO:=fun args h K=>frA [] h 20 args fun Bs a=>match Bs,a with
 | [],[.vints .u8 xs N]=>(xs.length=N/\N<90000000000000/\Bytes xs)/\Z5i xs R/\(match R with
  | some k=>K (.ret (.tuple [.ptr (some ⟨h.next,0,0,0,0⟩),.int .i64 0])) ⟨h.next+1,(h.next,.flat (k.c++[.bool true]))::h.bs⟩
  | none=>K (.ret (.tuple [.ptr none,.int .i64 253])) h)
 | _,_=>False
theorem ZkL {k:ClS} {o:Out} {h:Z8} (hk:clK true k o h):ZH 0 (.ret (.tuple [.ptr (some ⟨0,0,0,0,0⟩),.int .i64 0])) 1 [(0,.flat (k.c++[.bool true]))] o h:=by
 unfold clK at hk
 split at hk
 ·exact hk.elim
 ·exact hk
 simp_all
theorem ZkM {k:ClS} {o:Out} {h:Z8} (hk:clK false k o h):ZH 0 (.ret (.tuple [.ptr none,.int .i64 253])) 0 [] o h:=by
 unfold clK at hk
 split at hk
 ·exact hk
 ·exact hk.elim
 simp_all
theorem Zch {R:Option ClS} (args:List AV) (h:Z8) (K:KO) (hl:ZfD R args h K):Ze PP 26 args h K:=by
 refine Spec.fsumm hl fun Bs a hlen hK0=> ?_
 split at hK0
 ·obtain ⟨⟨rfl,h2,h3⟩,hR,hK⟩:=hK0
  rename_i xs
  cases hR with
  | some k hr hI=>exact ⟨_,_,_,_,_,Spec.evK ZaS (ZiF _ _ xs _ k true rfl h2 h3 rfl rfl (fun _=>⟨hr,hI⟩) (fun h=>nomatch h)) (fun o' h' hk=>ZkL hk),JF _,.ret _ _ rfl,.cons _ _ _ _ _ _ rfl (.flat _ _ rfl) .nil,hK⟩
  | none hn=>exact ⟨_,_,_,_,_,Spec.evK ZaS (ZiF _ _ xs _ clZ false rfl h2 h3 rfl rfl (fun h=>nomatch h) (fun _=>hn)) (fun o' h' hk=>ZkM hk),JF _,.ret _ _ rfl,.nil,hK⟩
 simp_all
theorem Zia (n:Int):∀x∈Zn n,0<=x/\x<=255:=fun x hx=>by
 unfold Zn at hx
 repeat' split at hx
 all_goals
  simp only [Jc,Ks,or_false] at hx
  repeat' rcases hx with rfl|hx
  all_goals first|exact Z94 _|(subst hx;exact Z94 _)|(constructor<;>decide)
def Zci (xs:LI):Prop:=∀x∈xs,0<=x/\x<=255
theorem Zci.app {a b:LI} (ha:Zci a) (hb:Zci b):Zci (a++b):=fun x hx=>(K2.1 hx).elim (ha x) (hb x)
theorem Z6o (h:Bytes xs):Zci xs:=fun x hx=>by
 obtain ⟨i,hi,rfl⟩:=Kh hx
 have:=h.h i
 rwa [J3,Ja hi] at this
theorem ZfE (b:Bool):Zci (tru b):=fun x hx=>by
 unfold tru at hx
 rw [List.mem_singleton] at hx
 subst hx
 cases b<;>(constructor<;>decide)
theorem Z9C (h:∀x∈xs,0<=x/\x<=255):Bytes xs:=⟨fun i=>by
 rw [J3]
 rcases Jm i xs.length with q|q
 ·rw [Ja q];exact h _ (Kg q)
 ·rw [JG q];exact ⟨by decide,by decide⟩⟩
theorem ZfF {k:ClS} (h:k.t.All):Bytes (YB Zn k):=by
 refine Z9C ?_
 have hw:=fun v=>Zia v
 exact (((((((((((((((((Z6o h.fb).app (hw _)).app (hw _)).app (hw _)).app (hw _)).app (hw _)).app (Z6o h.ok.b0)).app (Z6o h.ok.b1)).app (hw _)).app (hw _)).app (hw _)).app (hw _)).app (hw _)).app (ZfE _)).app (hw _)).app (ZfE _)).app (hw _))
open Classical in
noncomputable def eqK (a b:ClS):Bool:=decide (a=b)
theorem Z2q {a b:ClS}:eqK a b=true↔a=b:=by unfold eqK;simp
theorem Z7O (a:ClS):eqK a a=true:=Z2q.2 rfl
theorem ZfG (a b:ClS):eqK a b=eqK b a:=Bool.eq_iff_iff.2 (by rw [Z2q,Z2q];exact ⟨Eq.symm,Eq.symm⟩)
def ZfH (a b:ClS):Bool:=(a.t.fund==b.t.fund&&(a.t.index==b.t.index&&(a.t.cap==b.t.cap&&(a.t.dust==b.t.dust&&(a.t.fee==b.t.fee&&(a.t.delay==b.t.delay&&(a.t.k0==b.t.k0&&a.t.k1==b.t.k1)))))))&&(a.side==b.side&&([a.a0,a.a1]==[b.a0,b.a1]&&(a.least==b.least&&(a.most==b.most&&(a.offers==b.offers&&(a.last==b.last&&(a.agrees==b.agrees&&a.fee==b.fee)))))))
theorem Z6p (a b:ClS):ZfH a b=eqK a b:=by
 refine Bool.eq_iff_iff.2 ?_
 rw [Z2q]
 rcases a with ⟨⟨x1,x2,x3,x4,x5,x6,x7,x8⟩,s,p,q,l,m,o,la,g,f⟩
 rcases b with ⟨⟨y1,y2,y3,y4,y5,y6,y7,y8⟩,s',p',q',l',m',o',la',g',f'⟩
 unfold ZfH
 simp only [J2,beq_iff_eq,List.cons.injEq,and_true,ClS.mk.injEq,Zj.mk.injEq]
 constructor
 ·rintro ⟨⟨rfl,rfl,rfl,rfl,rfl,rfl,rfl,rfl⟩,rfl,⟨rfl,rfl⟩,rfl,rfl,rfl,rfl,rfl,rfl⟩
  simp
 ·rintro ⟨⟨rfl,rfl,rfl,rfl,rfl,rfl,rfl,rfl⟩,rfl,rfl,rfl,rfl,rfl,rfl,rfl,rfl,rfl⟩
  simp
theorem nbq {a b:ClS} (h:(!(eqK a b==ZfH a b))=true):False:=by rw [Z6p] at h;simp at h
theorem Zpj {a b:ClS} (h:(!(eqK b a==ZfH a b))=true):False:=by rw [Z6p,ZfG] at h;simp at h
def ZnZ (k:ClS):AV:=.pview (k.c++[.bool true]) 0
theorem Zo0 (k j:ClS) (b:Bool) (hk:Yr k) (hj:Yr j) (hb:b=ZfH k j):
  evF G0 40 23 [ZnZ k,ZnZ j] ⟨0,[]⟩ (XY fun v=>v=.bool b):=by
 refine @Eq.mpr _ (let c:=k.t;let i:=c.fund;let a:=j.t;let h:=a.fund;let g:=c.k0;let f:=a.k0;let e:=c.k1;let d:=a.k1;
 Z7 (i.length=32/\h.length=32) (Z7 (g.length=32/\f.length=32) (Z7 (e.length=32/\d.length=32) (AV.bool (i==h&&(c.index==a.index&&(c.cap==a.cap&&(c.dust==a.dust&&(c.fee==a.fee&&(c.delay==a.delay&&(g==f&&e==d))))))&&(k.side==j.side&&([k.a0,k.a1]==[j.a0,j.a1]&&(k.least==j.least&&(k.most==j.most&&(k.offers==j.offers&&(k.last==j.last&&(k.agrees==j.agrees&&k.fee==j.fee)))))))&&true)=AV.bool b)))) (by kernel_rfl) ?_
 conv=>zeta
 try simp only [vcA]
 try simp only [vcB]
 try simp only [vcC]
 exact ⟨⟨hk.t.fl,hj.t.fl⟩,⟨hk.t.ok.k0,hj.t.ok.k0⟩,⟨hk.t.ok.k1,hj.t.ok.k1⟩,by rw [hb,Bool.and_true];rfl⟩
def ZiG:ZI:=fun args h K=>Zz none h true 40 args fun a=>match a with
 | [.pview cs 0,.pview ds 0]=>∃k j,Yy cs k/\Yy ds j/\Yr k/\Yr j/\K (.bool (eqK k j))
 | _=>False
theorem ZfI (args:List AV) (h:Z8) (K:AV->Prop) (hl:ZiG args h K):Ze PP 23 args h fun o h'=>∃v,o=.ret v/\h'=h/\K v:=by
 refine Zs.psumm (d:=40) (Zk _ _ _ _ _ hl fun a ha=> ?_)
 split at ha
 ·obtain ⟨k,j,⟨rfl⟩,⟨rfl⟩,h1,h2,hK⟩:=ha
  exact ⟨_,Zs.evV Zm (Zo0 k j _ h1 h2 (Z6p k j).symm),fun _=>rfl,hK⟩
 ·exact ha.elim
inductive ZaT (f:Nat->List AV) (A:List ZV) (n:Nat):Prop
 | mk:(∀i,i<n->f i=XJ A i)->ZaT f A n
def ZiH:ZI:=fun args h K=>Zz none h true 60 args fun v=>match v with
 | [.vrows 305 n f n',.int .i64 m]=>∃A,ZaT f A n/\(n'=n/\n<9223372036854775808)/\(Z1B A n m=true->K (.bool true))/\(Z1B A n m=false->K (.bool false))
 | _=>False
theorem ZfJ (args:List AV) (h:Z8) (K:AV->Prop) (hl:ZiH args h K):Ze PP 19 args h fun o h'=>∃v,o=.ret v/\h'=h/\K v:=by
 refine Zs.psumm (d:=60) (Zk _ _ _ _ _ hl fun a ha=> ?_)
 split at ha
 ·obtain ⟨A,⟨hf⟩,⟨rfl,hn⟩,h1,h0⟩:=ha
  rename_i n m
  refine ⟨_,(Zs.evV (Zi7 A _ m) (Zcf A _ m hn)).conv fun E r hr=>hr.head (fun _ hc=>hc.rowsC fun i hi=>hf i hi) fun _ hc=>hc,fun _=>rfl, ?_⟩
  cases hq:Z1B A n m with
  | true=>exact h1 hq
  | false=>exact h0 hq
 ·exact ha.elim
noncomputable def ZkN (A:LI->Int×Int) (W:Int->LI) (X:ClS->ZV->ClS) (R:Option ClS):Zb:=((((((((G0.withP 11 Zfo).withF 9 (ZiA A)).withP 20 (ZiB A)).withP 19 ZiH).withF 21 (ZaO W)).withF 26 (ZfD R)).withP 23 ZiG).withF 24 Zfp).withF 25 (Zfx X)
theorem Zib (R:Option ClS):(ZkN ZA Zn nxC R).Ok:=Zb.withF_ok (Zb.withF_ok (Zb.withP_ok (Zb.withF_ok (Zb.withF_ok (Zb.withP_ok (Zb.withP_ok (Zb.withF_ok (Zb.withP_ok Zm Zi4) Z7J) Zfd) ZfJ) Z7I) Zch) ZfI) Zfq) Zfz
def ccB (k:ClS) (p q:ZV):List (Nat×Blk):=[(0,.flat p.c),(1,.flat q.c),(2,.flat (k.c++[.bool true])),(3,.flat k.c)]
def ccS (k:ClS) (p q:ZV) (L:List ZV) (n i:Nat):St:=⟨162,[(17,.int .i64 i),(3,.vrows 305 n (XJ L) n),(13,.ptr (some ⟨2,0,0,0,0⟩)),(15,.ptr (some ⟨3,0,0,0,0⟩)),(10,.ptr (some ⟨0,0,0,0,0⟩)),(11,.ptr (some ⟨1,0,0,0,0⟩))],⟨4,ccB k p q⟩,[]⟩
def ccX (k:ClS) (p q:ZV):St:=⟨162,[(13,.ptr (some ⟨2,0,0,0,0⟩)),(15,.ptr (some ⟨3,0,0,0,0⟩)),(10,.ptr (some ⟨0,0,0,0,0⟩)),(11,.ptr (some ⟨1,0,0,0,0⟩))],⟨4,ccB k p q⟩,[]⟩
def ccN:St:=⟨162,[],⟨0,[]⟩,[]⟩
theorem Zpk (A:LI->Int×Int) (W:Int->LI) (X:ClS->ZV->ClS) (R:Option ClS) (k k':ClS) (p q:ZV) (L:List ZV) (n i:Nat) (a:ZV) (Z1 Z2:Prop) (hn:n<=20) (hi:i<=n) (hk:Yr k) (hx:i<n->L.getD i Z12=a) (ha:i<n->a.s.Len) (hk':i<n->k'=X k a/\Yr k') (hZ1:i<n->Z1) (hZ2:i=n->Z2):
  ZG (ZkN A W X R) 20 8 0 0 (ccS k p q L n i) (rdM 0 0 9 (ccS k' p q L n (i+1)) (ccX k p q) ccN ccN Z1 Z2 False False):=by
 refine @Eq.mpr _ (let l:=k.t;let D:=l.fund;let q3:=AV.arr u8 32 D;let u:=l.index;let q5:=AV.int i64 u;let r:=l.cap;let q7:=AV.int i64 r;let o:=l.dust;let S:=AV.int i64 o;let I:=l.fee;let m2:=AV.int i64 I;let H:=l.delay;let j9:=AV.int i64 H;let G:=l.k0;let h9:=AV.arr u8 32 G;let F:=l.k1;let h1:=AV.arr u8 32 F;let E:=k.side;let h0:=AV.int i64 E;let C:=[k.a0,k.a1];let g9:=AV.arr i64 2 C;let B:=k.least;let g8:=AV.int i64 B;let A:=k.most;let g7:=AV.int i64 A;let z:=k.offers;let g6:=AV.bool z;let y:=k.last;let g5:=AV.int i64 y;let x:=k.agrees;let g4:=AV.bool x;let v:=k.fee;let e7:=AV.int i64 v;let m:=List.getD L (Int.toNat (↑i:Int)) Z12;let d:=m.s;let g:=d.t;let e6:=decide (n=n);let e5:=decide (p.w=p.w);let c:=p.s;let e4:=c.kind;let e3:=decide (e4=e4);let f:=c.t;let e2:=f.fund;let e1:=e2=e2;let e0:=f.index;let d9:=decide (e0=e0);let d8:=f.cap;let d7:=decide (d8=d8);let d6:=f.dust;let d5:=decide (d6=d6);let d4:=f.fee;let d3:=decide (d4=d4);let d2:=f.delay;let d1:=decide (d2=d2);let d0:=f.k0;let c9:=d0=d0;let c8:=f.k1;let c7:=c8=c8;let c6:=c.reserve;let c5:=decide (c6=c6);let c4:=c.amount;let c3:=decide (c4=c4);let c2:=c.point;let c1:=c2=c2;let c0:=c.nxt;let b9:=c0=c0;let b8:=c.key;let b7:=b8=b8;let b6:=c.hash;let b5:=b6=b6;let b4:=c.tag;let b3:=b4=b4;let b2:=c.secret;let b1:=b2=b2;let b0:=c.id;let a9:=decide (b0=b0);let a8:=c.number;let a7:=decide (a8=a8);let a6:=c.index;let a5:=decide (a6=a6);let a4:=c.expiry;let a3:=decide (a4=a4);let a2:=c.code;let Z:=decide (a2=a2);let Y:=c.route;let W:=Y=Y;let V:=decide (p.fe=p.fe);let U:=decide (p.be=p.be);let T:=decide (q.w=q.w);let b:=q.s;let R:=b.kind;let Q:=decide (R=R);let e:=b.t;let P:=e.fund;let O:=P=P;let N:=e.index;let M:=decide (N=N);let K:=e.cap;let J:=decide (K=K);let n2:=e.dust;let n1:=decide (n2=n2);let n0:=e.fee;let m9:=decide (n0=n0);let m8:=e.delay;let m7:=decide (m8=m8);let m6:=e.k0;let m5:=m6=m6;let m4:=e.k1;let m3:=m4=m4;let m1:=b.reserve;let m0:=decide (m1=m1);let l9:=b.amount;let l8:=decide (l9=l9);let l7:=b.point;let l6:=l7=l7;let l5:=b.nxt;let l4:=l5=l5;let l3:=b.key;let l2:=l3=l3;let l1:=b.hash;let l0:=l1=l1;let k9:=b.tag;let k8:=k9=k9;let k7:=b.secret;let k6:=k7=k7;let k5:=b.id;let k4:=decide (k5=k5);let k3:=b.number;let k2:=decide (k3=k3);let j8:=b.index;let j7:=decide (j8=j8);let j6:=b.expiry;let j5:=decide (j6=j6);let j4:=b.code;let j3:=decide (j4=j4);let j2:=b.route;let j1:=j2=j2;let j0:=decide (q.fe=q.fe);let i9:=decide (q.be=q.be);let j:=k'.t;let i8:=D=D;let i7:=decide (u=u);let i6:=decide (r=r);let i5:=decide (o=o);let i4:=decide (I=I);let i3:=decide (H=H);let i2:=G=G;let i1:=F=F;let i0:=decide (E=E);let h8:=C=C;let h7:=decide (B=B);let h6:=decide (A=A);let h5:=decide (z=z);let h4:=decide (y=y);let h3:=decide (x=x);let h2:=decide (v=v);
 Z5 (decide ((↑i:Int)<(↑n:Int)))
 (Z5 (decide (0<=(↑i:Int)/\(↑i:Int)<(↑n:Int)))
 (∃(k:ClS),
 ∃(a:ZV),
 let h:=(X k a).t;let g3:=h.fund=j.fund;let g2:=decide (h.index=j.index);let g1:=decide (h.cap=j.cap);let g0:=decide (h.dust=j.dust);let f9:=decide (h.fee=j.fee);let f8:=decide (h.delay=j.delay);let f7:=h.k0=j.k0;let f6:=h.k1=j.k1;let f5:=decide ((X k a).side=k'.side);let f4:=[(X k a).a0,(X k a).a1]=[k'.a0,k'.a1];let f3:=decide ((X k a).least=k'.least);let f2:=decide ((X k a).most=k'.most);let f1:=decide ((X k a).offers=k'.offers);let f0:=decide ((X k a).last=k'.last);let e9:=decide ((X k a).agrees=k'.agrees);let e8:=decide ((X k a).fee=k'.fee);
 Yy [q3,q5,q7,S,m2,j9,h9,h1,h0,g9,g8,g7,g6,g5,g4,e7,AV.bool true] k/\
 YJ [q3,q5,q7,S,m2,j9,h9,h1,h0,g9,g8,g7,g6,g5,g4,e7] k/\
 Zfv [AV.int i64 m.w,AV.int i64 d.kind,AV.arr u8 32 g.fund,AV.int i64 g.index,AV.int i64 g.cap,AV.int i64 g.dust,AV.int i64 g.fee,AV.int i64 g.delay,AV.arr u8 32 g.k0,AV.arr u8 32 g.k1,AV.int i64 d.reserve,AV.int i64 d.amount,AV.arr u8 32 d.point,AV.arr u8 32 d.nxt,AV.arr u8 32 d.key,AV.arr u8 32 d.hash,AV.arr u8 32 d.tag,AV.arr u8 32 d.secret,AV.int i64 d.id,AV.int i64 d.number,AV.int i64 d.index,AV.int i64 d.expiry,AV.int i64 d.code,AV.str d.route,AV.int i64 m.fe,AV.int u8 m.be] a/\
 Yr k/\
 Zi.Len a.s/\
 Z5 (decide (wrap i64 ((↑i:Int)+1)=(↑(i+1):Int)))
 (Z5 e6
 (XJ L=XJ L/\
 Z5 e6
 (Z5 e5
 (Z5 e3
 (e1/\
 Z5 d9
 (Z5 d7
 (Z5 d5
 (Z5 d3
 (Z5 d1
 (c9/\
 c7/\
 Z5 c5
 (Z5 c3
 (c1/\
 b9/\b7/\b5/\b3/\b1/\Z5 a9 (Z5 a7 (Z5 a5 (Z5 a3 (Z5 Z (W/\Z5 V (Z5 U (Z5 T (Z5 Q (O/\Z5 M (Z5 J (Z5 n1 (Z5 m9 (Z5 m7 (m5/\m3/\Z5 m0 (Z5 l8 (l6/\l4/\l2/\l0/\k8/\k6/\Z5 k4 (Z5 k2 (Z5 j7 (Z5 j5 (Z5 j3 (j1/\Z5 j0 (Z5 i9 (g3/\Z5 g2 (Z5 g1 (Z5 g0 (Z5 f9 (Z5 f8 (f7/\f6/\Z5 f5 (f4/\Z5 f3 (Z5 f2 (Z5 f1 (Z5 f0 (Z5 e9 (Z5 e8 (g3/\Z5 g2 (Z5 g1 (Z5 g0 (Z5 f9 (Z5 f8 (f7/\f6/\Z5 f5 (f4/\Z5 f3 (Z5 f2 (Z5 f1 (Z5 f0 (Z5 e9 (Z5 e8 Z1 False) False) False) False) False) False) False) False) False) False) False) False) False) False) False) False) False) False) False) False) False) False) False) False) False) False) False) False) False) False) False) False) False) False) False) False) False) False) False) False) False) False) False) False) False) False) False)
 False)
 False)
 False)
 False)
 False)
 False)
 False)
 False)
 False)
 False)
 False)
 False)
 False)
 (Z5 e5
 (Z5 e3
 (e1/\
 Z5 d9
 (Z5 d7
 (Z5 d5
 (Z5 d3
 (Z5 d1
 (c9/\
 c7/\
 Z5 c5
 (Z5 c3
 (c1/\
 b9/\b7/\b5/\b3/\b1/\Z5 a9 (Z5 a7 (Z5 a5 (Z5 a3 (Z5 Z (W/\Z5 V (Z5 U (Z5 T (Z5 Q (O/\Z5 M (Z5 J (Z5 n1 (Z5 m9 (Z5 m7 (m5/\m3/\Z5 m0 (Z5 l8 (l6/\l4/\l2/\l0/\k8/\k6/\Z5 k4 (Z5 k2 (Z5 j7 (Z5 j5 (Z5 j3 (j1/\Z5 j0 (Z5 i9 (i8/\Z5 i7 (Z5 i6 (Z5 i5 (Z5 i4 (Z5 i3 (i2/\i1/\Z5 i0 (h8/\Z5 h7 (Z5 h6 (Z5 h5 (Z5 h4 (Z5 h3 (Z5 h2 (i8/\Z5 i7 (Z5 i6 (Z5 i5 (Z5 i4 (Z5 i3 (i2/\i1/\Z5 i0 (h8/\Z5 h7 (Z5 h6 (Z5 h5 (Z5 h4 (Z5 h3 (Z5 h2 Z2 False) False) False) False) False) False) False) False) False) False) False) False) False) False) False) False) False) False) False) False) False) False) False) False) False) False) False) False) False) False) False) False) False) False) False) False) False) False) False) False) False) False) False) False) False) False) False)
 False)
 False)
 False)
 False)
 False)
 False)
 False)
 False)
 False)) (by kernel_rfl) ?_
 conv=>zeta
 try simp only [ZD]
 try simp only [ZU]
 try simp only [ZM]
 try simp only [ZY]
 try simp only [Y0]
 try simp only [ZN]
 try simp only [true_and,and_true]
 refine ⟨fun hc=> ?_,fun hc=>hZ2 (by omega)⟩
 have hlt:i<n:=by omega
 have ew:i64.wrap ((i:Int)+1)=((i+1:Nat):Int):=by rw [w64 (by omega)];omega
 refine ⟨by omega,k,a,⟨rfl⟩,⟨rfl⟩,⟨?_⟩,hk,ha hlt,ew, ?_⟩
 ·rw [<-hx hlt]
  rfl
 and_intros<;>first|simp_all
noncomputable def Zo1 (A:LI->Int×Int) (W:Int->LI) (X:ClS->ZV->ClS) (R:Option ClS) (G:Nat->ClS) (p q:ZV) (L:List ZV) (n:Nat) (C:Prop):Zb:=(ZkN A W X R).withL 8 0 (goM 0 (ccS (G 0) p q L n 0) C (YD 0 n 9 (fun i=>i<n) (fun i=>i=n/\Yr (G i)) (fun _=>False) (fun _=>False) (fun i=>ccX (G i) p q) (fun _=>ccN) (fun _=>ccN)))
theorem Zic (R:Option ClS) (k:ClS) (p q:ZV) (L:List ZV) (n:Nat):(Zo1 ZA Zn nxC R (kkC nxC k L) p q L n (ZnX k L n)).Ok:=
 Zb.withGoM (N:=20) (S:=fun i=>ccS (kkC nxC k L i) p q L n i) (Zib R) (by kernel_rfl) fun hC=>⟨rfl,fun i hi _=>by
  obtain ⟨h1,h2,h3,h4⟩:=hC
  have hg:=fun j (hj:j<=n)=>ZfB h3 L j (by omega)
  exact Zpk ZA Zn nxC R (kkC nxC k L i) (kkC nxC k L (i+1)) p q L n i _ _ _ h1 hi (hg i hi) (fun _=>rfl) (fun h=>h4 _ (by simp_all)) (fun h=>⟨Z7M (by omega),hg (i+1) h⟩) (fun h=>⟨h,h⟩) (fun h=>⟨h,hg i hi⟩)⟩
theorem Zpl (A:LI->Int×Int) (W:Int->LI) (X:ClS->ZV->ClS) (sd lo hi:Int) (G:Nat->ClS) (L:List ZV) (n:Nat) (p q:ZV) (N:ClS) (C:Prop) (hn:n<9223372036854775808) (hT:VN.Ok) (hp:p.s.Len) (hq:q.s.Len) (hX:∀k a,Yr k->Yr (X k a)) (hG:Yh A (k0C VN sd 600 400 lo hi)=true->G 0=k0C VN sd 600 400 lo hi) (hC:Z1B L n 8=true->Yh A (k0C VN sd 600 400 lo hi)=true->C) (hN:N=X (G n) p) (hR:Yr N->Z5i (YB W N) (some N)/\(YB W N).length<90000000000000/\Bytes (YB W N)):
  evF (Zo1 A W X (some N) G p q L n C) 20 8 [.int .i64 sd,.int .i64 lo,.int .i64 hi,.vrows 305 n (XJ L) n,.agg p.c,.agg q.c] ⟨0,[]⟩ (XY fun v=>v=.bool true):=by
 refine @Eq.mpr _ (let q1:=[(0:Int),0,0,0,0,0,0,0,0,0,0,0,0,0,0,0,0,0,0,0,0,0,0,0,0,0,0,0,0,0,0];let q2:=XJ L;let q3:=p.w;let q4:=AV.int i64 q3;let d:=p.s;let q6:=d.kind;let q7:=AV.int i64 q6;let g:=d.t;let I:=g.fund;let r8:=AV.arr u8 32 I;let e7:=g.index;let r5:=AV.int i64 e7;let e6:=g.cap;let r4:=AV.int i64 e6;let e5:=g.dust;let r3:=AV.int i64 e5;let e4:=g.fee;let r2:=AV.int i64 e4;let e3:=g.delay;let r1:=AV.int i64 e3;let e2:=g.k0;let q0:=AV.arr u8 32 e2;let d9:=g.k1;let o9:=AV.arr u8 32 d9;let d5:=d.reserve;let n0:=AV.int i64 d5;let d3:=d.amount;let m7:=AV.int i64 d3;let d2:=d.point;let m6:=AV.arr u8 32 d2;let c8:=d.nxt;let k8:=AV.arr u8 32 c8;let c7:=d.key;let j0:=AV.arr u8 32 c7;let c6:=d.hash;let i9:=AV.arr u8 32 c6;let c5:=d.tag;let i3:=AV.arr u8 32 c5;let c4:=d.secret;let h0:=AV.arr u8 32 c4;let c3:=d.id;let g9:=AV.int i64 c3;let c1:=d.number;let g8:=AV.int i64 c1;let c0:=d.index;let g7:=AV.int i64 c0;let b9:=d.expiry;let g6:=AV.int i64 b9;let b8:=d.code;let g5:=AV.int i64 b8;let b7:=d.route;let g4:=AV.str b7;let b6:=p.fe;let g3:=AV.int i64 b6;let b5:=p.be;let g2:=AV.int u8 b5;let b4:=q.w;let c:=q.s;let b3:=c.kind;let h:=c.t;let b2:=h.fund;let b1:=h.index;let b0:=h.cap;let a9:=h.dust;let a8:=h.fee;let a7:=h.delay;let a6:=h.k0;let a5:=h.k1;let a4:=c.reserve;let a3:=c.amount;let a2:=c.point;let Z:=c.nxt;let Y:=c.key;let V:=c.hash;let U:=c.tag;let T:=c.secret;let S:=c.id;let R:=c.number;let Q:=c.index;let P:=c.expiry;let O:=c.code;let M:=c.route;let K:=q.fe;let J:=q.be;let g1:=[AV.int i64 b4,AV.int i64 b3,AV.arr u8 32 b2,AV.int i64 b1,AV.int i64 b0,AV.int i64 a9,AV.int i64 a8,AV.int i64 a7,AV.arr u8 32 a6,AV.arr u8 32 a5,AV.int i64 a4,AV.int i64 a3,AV.arr u8 32 a2,AV.arr u8 32 Z,AV.arr u8 32 Y,AV.arr u8 32 V,AV.arr u8 32 U,AV.arr u8 32 T,AV.int i64 S,AV.int i64 R,AV.int i64 Q,AV.int i64 P,AV.int i64 O,AV.str M,AV.int i64 K,AV.int u8 J];let g0:=decide (n=n);let f:=(G 0).t;let f9:=f.fund;let f8:=f.index;let f7:=f.cap;let f6:=f.dust;let f5:=f.fee;let f4:=f.delay;let f3:=f.k0;let f2:=f.k1;let f1:=decide (sd=(G 0).side);let f0:=[(G 0).a0,(G 0).a1];let e9:=decide (false=(G 0).offers);let e8:=decide (0=(G 0).last);let r7:=decide (false=(G 0).agrees);let r6:=decide (0=(G 0).fee);let H:=AV.bool true;let F:=[H];let z:=AV.bool false=H;let v:=N.t;let E:=H=H;
 ∃(t:Zj),
 let e1:=[AV.arr u8 32 Z0,AV.int i64 0,AV.int i64 1000,AV.int i64 10,AV.int i64 5,AV.int i64 3,AV.arr u8 32 ((1:Int)::q1),AV.arr u8 32 ((2:Int)::q1)];
 ∃(a:Int),
 let e0:=[(600:Int),400];
 ∃(b:Int),
 let y:=k0C t sd a b lo hi;let r0:=Yh A y;let u:=y.t;
 Z4c e1 t/\
 e0=[a,b]/\
 Zj.Ok t/\
 (r0=true->
 ∃(t:Zj),
 ∃(a:Int),
 ∃(b:Int),
 let e:=k0C t sd a b lo hi;let p9:=Yh A e;let r:=e.t;
 Z4c e1 t/\
 e0=[a,b]/\
 Zj.Ok t/\
 (p9=true->
 ∃(A_1:List ZV),
 ZaT q2 A_1 n/\
 (n=n/\n<9223372036854775808)/\
 (Z1B A_1 n 8=true->
 ∃(A_2:List ZV),
 ZaT (Ye (q4::q7::r8::r5::r4::r3::r2::r1::q0::o9::n0::m7::m6::k8::j0::i9::i3::h0::g9::g8::g7::g6::g5::g4::g3::g2::g1) 0 305) A_2 2/\
 ((2:Nat)=2/\(2:Nat)<9223372036854775808)/\
 (Z1B A_2 2 2=true->
 Z6 g0 (q2=q2/\
 Z6 g0 (Z7 (q3=q3) (Z7 (q6=q6) (I=I/\
 Z7 (e7=e7) (Z7 (e6=e6) (Z7 (e5=e5) (Z7 (e4=e4) (Z7 (e3=e3) (e2=e2/\
 d9=d9/\
 Z7 (d5=d5) (Z7 (d3=d3) (d2=d2/\
 c8=c8/\
 c7=c7/\
 c6=c6/\
 c5=c5/\
 c4=c4/\
 Z7 (c3=c3) (Z7 (c1=c1) (Z7 (c0=c0) (Z7 (b9=b9) (Z7 (b8=b8) (b7=b7/\
 Z7 (b6=b6) (Z7 (b5=b5) (Z7 (b4=b4) (Z7 (b3=b3) (b2=b2/\
 Z7 (b1=b1) (Z7 (b0=b0) (Z7 (a9=a9) (Z7 (a8=a8) (Z7 (a7=a7) (a6=a6/\
 a5=a5/\
 Z7 (a4=a4) (Z7 (a3=a3) (a2=a2/\
 Z=Z/\
 Y=Y/\
 V=V/\
 U=U/\
 T=T/\
 Z7 (S=S) (Z7 (R=R) (Z7 (Q=Q) (Z7 (P=P) (Z7 (O=O) (M=M/\
 Z7 (K=K) (Z7 (J=J) (u.fund=f9/\
 Z7 (u.index=f8) (Z7 (u.cap=f7) (Z7 (u.dust=f6) (Z7 (u.fee=f5) (Z7 (u.delay=f4) (u.k0=f3/\
 u.k1=f2/\
 Z6 f1 ([y.a0,y.a1]=f0/\
 Z7 (y.least=(G 0).least) (Z7 (y.most=(G 0).most) (Z6 e9 (Z6 e8 (Z6 r7 (Z6 r6 (r.fund=f9/\
 Z7 (r.index=f8) (Z7 (r.cap=f7) (Z7 (r.dust=f6) (Z7 (r.fee=f5) (Z7 (r.delay=f4) (r.k0=f3/\
 r.k1=f2/\
 Z6 f1 ([e.a0,e.a1]=f0/\
 Z7 (e.least=(G 0).least) (Z7 (e.most=(G 0).most) (Z6 e9 (Z6 e8 (Z6 r7 (Z6 r6 (C/\
 ∀(i:Nat),
 let o:=(G i).t;let d8:=o.fund;let p8:=AV.arr u8 32 d8;let p7:=o.index;let p6:=AV.int i64 p7;let p5:=o.cap;let p4:=AV.int i64 p5;let p3:=o.dust;let p2:=AV.int i64 p3;let p1:=o.fee;let p0:=AV.int i64 p1;let o8:=o.delay;let o7:=AV.int i64 o8;let d7:=o.k0;let o6:=AV.arr u8 32 d7;let d6:=o.k1;let o5:=AV.arr u8 32 d6;let o4:=(G i).side;let o3:=AV.int i64 o4;let o2:=[(G i).a0,(G i).a1];let o1:=AV.arr i64 2 o2;let o0:=(G i).least;let n9:=AV.int i64 o0;let n8:=(G i).most;let n7:=AV.int i64 n8;let n6:=(G i).offers;let n5:=AV.bool n6;let n4:=(G i).last;let n3:=AV.int i64 n4;let n2:=(G i).agrees;let n1:=AV.bool n2;let m9:=(G i).fee;let m8:=AV.int i64 m9;let x:=p8::p6::p4::p2::p0::o7::o6::o5::o3::o1::n9::n7::n5::n3::n1::m8::F;let d4:=[p8,p6,p4,p2,p0,o7,o6,o5,o3,o1,n9,n7,n5,n3,n1,m8];
 i<=n->
 (∀(j:Nat),j<i->(fun (i:Nat)=>i<n) j)->
 (i=n/\Yr (G i)->
 ∃(k:ClS),
 ∃(j:ClS),
 Yy x k/\
 Yy x j/\
 Yr k/\
 Yr j/\
 Z5 (!eqK k j) z (∃(k_1:ClS),
 Yy x k_1/\
 YJ d4 k_1/\
 Yr k_1/\
 ∃(k_2:ClS),
 ∃(a:ZV),
 let m:=(X k_2 a).t;let d1:=m.fund;let m5:=decide (d1.length=32/\d8.length=32);let d0:=m.k0;let m4:=decide (d0.length=32/\d7.length=32);let c9:=m.k1;let m3:=decide (c9.length=32/\d6.length=32);let m2:=AV.arr u8 32 d1;let m1:=m.index;let m0:=AV.int i64 m1;let l9:=m.cap;let l8:=AV.int i64 l9;let l7:=m.dust;let l6:=AV.int i64 l7;let l5:=m.fee;let l4:=AV.int i64 l5;let l3:=m.delay;let l2:=AV.int i64 l3;let l1:=AV.arr u8 32 d0;let l0:=AV.arr u8 32 c9;let k9:=(X k_2 a).side;let k7:=AV.int i64 k9;let k6:=[(X k_2 a).a0,(X k_2 a).a1];let k5:=AV.arr i64 2 k6;let k4:=(X k_2 a).least;let k3:=AV.int i64 k4;let k2:=(X k_2 a).most;let j9:=AV.int i64 k2;let j8:=(X k_2 a).offers;let j7:=AV.bool j8;let j6:=(X k_2 a).last;let j5:=AV.int i64 j6;let j4:=(X k_2 a).agrees;let j3:=AV.bool j4;let j2:=(X k_2 a).fee;let j1:=AV.int i64 j2;let D:=m2::m0::l8::l6::l4::l2::l1::l0::k7::k5::k3::j9::j7::j5::j3::j1::F;
 Yy x k_2/\
 YJ d4 k_2/\
 Zfv [q4,q7,r8,r5,r4,r3,r2,r1,q0,o9,n0,m7,m6,k8,j0,i9,i3,h0,g9,g8,g7,g6,g5,g4,g3,g2] a/\
 Yr k_2/\
 Zi.Len a.s/\
 Z6 m5 (Z6 m4 (Z6 m3 (∃(k_3:ClS),
 let i8:=d1==d8&&(m1==p7&&(l9==p5&&(l7==p3&&(l5==p1&&(l3==o8&&(d0==d7&&c9==d6))))))&&(k9==o4&&(k6==o2&&(k4==o0&&(k2==n8&&(j8==n6&&(j6==n4&&(j4==n2&&j2==m9)))))));
 ∃(j_1:ClS),
 Yy D k_3/\
 Yy x j_1/\
 Yr k_3/\
 Yr j_1/\
 Z5 (!eqK k_3 j_1==i8) z (Z6 m5 (Z6 m4 (Z6 m3 (∃(k_4:ClS),
 ∃(j_2:ClS),
 Yy x k_4/\
 Yy D j_2/\
 Yr k_4/\
 Yr j_2/\
 Z5 (!eqK k_4 j_2==i8) z (∃(k_5:ClS),
 ∃(a_1:ZV),
 let l:=(X k_5 a_1).t;let i7:=AV.arr u8 32 l.fund;let i6:=AV.int i64 l.index;let i5:=AV.int i64 l.cap;let i4:=AV.int i64 l.dust;let i2:=AV.int i64 l.fee;let i1:=AV.int i64 l.delay;let i0:=AV.arr u8 32 l.k0;let h9:=AV.arr u8 32 l.k1;let h8:=AV.int i64 (X k_5 a_1).side;let h7:=AV.arr i64 2 [(X k_5 a_1).a0,(X k_5 a_1).a1];let h6:=AV.int i64 (X k_5 a_1).least;let h5:=AV.int i64 (X k_5 a_1).most;let h4:=AV.bool (X k_5 a_1).offers;let h3:=AV.int i64 (X k_5 a_1).last;let h2:=AV.bool (X k_5 a_1).agrees;let h1:=AV.int i64 (X k_5 a_1).fee;
 Yy x k_5/\
 YJ d4 k_5/\
 Zfv g1 a_1/\
 Yr k_5/\
 Zi.Len a_1.s/\
 ∃(k_6:ClS),
 let B:=List.length (YB W k_6);let c2:=List.take B (ZX 0 (YB W k_6));
 Yy D k_6/\
 RwC k_6/\
 Z7 (0+B<=B) ((c2.length=B/\B<90000000000000/\Bytes c2)/\
 Z5i c2 (some N)/\
 ∃(k:ClS),∃(j:ClS),Yy (AV.arr u8 32 v.fund::AV.int i64 v.index::AV.int i64 v.cap::AV.int i64 v.dust::AV.int i64 v.fee::AV.int i64 v.delay::AV.arr u8 32 v.k0::AV.arr u8 32 v.k1::AV.int i64 N.side::AV.arr i64 2 [N.a0,N.a1]::AV.int i64 N.least::AV.int i64 N.most::AV.bool N.offers::AV.int i64 N.last::AV.bool N.agrees::AV.int i64 N.fee::F) k/\Yy D j/\Yr k/\Yr j/\Z5 (eqK k j) (∃(k:ClS),Yy D k/\YJ [m2,m0,l8,l6,l4,l2,l1,l0,k7,k5,k3,j9,j7,j5,j3,j1] k/\Yr k/\∃(k:ClS),Yy (i7::i6::i5::i4::i2::i1::i0::h9::h8::h7::h6::h5::h4::h3::h2::h1::F) k/\YJ [i7,i6,i5,i4,i2,i1,i0,h9,h8,h7,h6,h5,h4,h3,h2,h1] k/\Yr k/\E) z)))))))))))/\
 (False->False)/\(False->False))))))))))))))))))))))))))))))))))))))))))))))))))))))))))))/\
 (Z1B A_2 2 2=false->E))/\
 (Z1B A_1 n 8=false->E))/\
 (p9=false->z))/\
 (r0=false->
 ∃(t:Zj),
 ∃(a:Int),
 ∃(b:Int),
 let e:=Yh A (k0C t sd a b lo hi);
 Z4c e1 t/\e0=[a,b]/\Zj.Ok t/\(e=true->z)/\(e=false->E))) (by kernel_rfl) ?_
 conv=>zeta
 try simp only [vcA]
 try simp only [vcB]
 try simp only [vcC]
 try simp only [Yb,JV,Jq]
 refine ⟨VN,600,400,⟨rfl⟩,rfl,hT,fun hm=>⟨VN,600,400,⟨rfl⟩,rfl,hT,fun _=>⟨L,⟨fun _ _=>rfl⟩,hn,fun hf=>⟨[p,q],⟨fun i hi=> ?_⟩,by decide,fun hf2=> ?_,fun _=>trivial⟩,fun _=>trivial⟩,fun h=>absurd (hm.symm.trans h) (by decide)⟩,fun hm=>⟨VN,600,400,⟨rfl⟩,rfl,hT,fun h=>absurd (h.symm.trans hm) (by decide),fun _=>trivial⟩⟩
 ·rcases (by omega:i=0\/i=1) with rfl|rfl<;>rfl
 have g0:=hG hm
 have hc:=hC hf hm
 have main:∀i,i=n/\Yr (G i)->Yr (X (G i) p)/\N=X (G i) p/\Yr (X (G i) q):=fun i ⟨h1,h2⟩=>by
  simp_all
 simp only [g0]
 and_intros
 all_goals first
  | trivial
  | rfl
  | skip
 intro i hi _
 refine ⟨fun hx=> ?_,fun h=>h,fun h=>h⟩
 obtain ⟨k1,k2,k3⟩:=main i hx
 have hk:=hx.2
 obtain ⟨hR1,hR2,hR3⟩:=hR (by rw [k2];exact k1)
 rw [k2] at hR1 hR2 hR3
 refine ⟨G i,G i,⟨rfl⟩,⟨rfl⟩,hk,hk,fun h=>absurd h (by rw [Z7O];decide),fun _=>⟨G i,⟨rfl⟩,⟨rfl⟩,hk,G i,p,⟨rfl⟩,⟨rfl⟩,⟨rfl⟩,hk,hp,⟨k1.t.fl,hk.t.fl⟩,⟨k1.t.ok.k0,hk.t.ok.k0⟩,⟨k1.t.ok.k1,hk.t.ok.k1⟩,X (G i) p,G i,⟨rfl⟩,⟨rfl⟩,k1,hk,fun h=>(nbq h).elim,fun _=>⟨⟨k1.t.fl,hk.t.fl⟩,⟨k1.t.ok.k0,hk.t.ok.k0⟩,⟨k1.t.ok.k1,hk.t.ok.k1⟩,G i,X (G i) p,⟨rfl⟩,⟨rfl⟩,hk,k1,fun h=>(Zpj h).elim,fun _=>⟨G i,q,⟨rfl⟩,⟨rfl⟩,⟨rfl⟩,hk,hq,X (G i) p,⟨rfl⟩,k1.r,⟨trivial,hR2,hR3⟩,by rw [k2];exact hR1,X (G i) p,X (G i) p,⟨by rw [k2];rfl⟩,⟨rfl⟩,k1,k1,fun _=>⟨X (G i) p,⟨rfl⟩,⟨rfl⟩,k1,X (G i) q,⟨rfl⟩,⟨rfl⟩,k3⟩,fun h=>absurd ((Z7O _).symm.trans h) (by decide)⟩⟩⟩⟩
theorem ZkO {t:Zj} {sd a b lo hi:Int} (ht:t.All) (h:Yh ZA (k0C t sd a b lo hi)=true):Yr (k0C t sd a b lo hi):=⟨⟨XO.1 h,(fun h=>nomatch h),fun _=>rfl,(fun h=>nomatch h),fun _=>rfl⟩,ht⟩
theorem Z1C {a:AV} (h:Z3u false [.int .i64] a):∃n:Int,a=.int .i64 n:=by
 cases h with|one _ _ h=>
 cases h
 exact ⟨_,rfl⟩
theorem Z7P {a:AV} (h:Z3u false [.rows 305 cactTy] a):∃(n:Nat) (A:List ZV),A.length=n/\n<9223372036854775808/\(∀m∈A,m.s.Len)/\∀(E:Env) (r:Value),Zh E a r->Zh E (.vrows 305 n (XJ A) n) r:=by
 cases h with|one _ _ h=>
 cases h with|rows esz ts n f hm h=>
 obtain ⟨g,hg⟩:=ZfA fun i hi=>Z5e (h i hi)
 refine ⟨n,(List.range n).map g,by simp, ?_,fun m hm=> ?_,fun E r hr=>hr.rowsC fun i hi=> ?_⟩
 ·unfold maxLen at hm
  omega
 ·obtain ⟨i,hi,rfl⟩:=List.mem_map.1 hm
  exact (hg i (Jw.1 hi)).2
 ·unfold XJ
  rw [(hg i hi).1,J3,List.getElem?_map,List.getElem?_range hi]
  rfl
end Go.Tk
end
section
namespace Go.Tk
open IntKind (i64 u8 u32 u64 wrap)
theorem closecopies_walk {us:List AV} (h:Z4S [(false,[.int .i64]),(false,[.int .i64]),(false,[.int .i64]),(false,[.rows 305 cactTy]),(true,cactTy),(true,cactTy)] us):Ze PP 8 us ⟨0,[]⟩ fun o h'=>∃v,o=.ret v/\h'=⟨0,[]⟩/\v=.bool true:=by
 cases h with|cons _ _ a _ _ h1 h=>
 cases h with|cons _ _ b _ _ h2 h=>
 cases h with|cons _ _ c _ _ h3 h=>
 cases h with|cons _ _ l _ _ h4 h=>
 cases h with|cons _ _ x _ _ h5 h=>
 cases h with|cons _ _ y _ _ h6 h=>
 cases h
 obtain ⟨sd,rfl⟩:=Z1C h1
 obtain ⟨lo,rfl⟩:=Z1C h2
 obtain ⟨hi,rfl⟩:=Z1C h3
 obtain ⟨n,A,hn,hm,hA,hr⟩:=Z7P h4
 obtain ⟨p,rfl,hp⟩:=Z5f h5
 obtain ⟨q,rfl,hq⟩:=Z5f h6
 have hR:∀N:ClS,Yr N->Z5i (YB Zn N) (some N)/\(YB Zn N).length<90000000000000/\Bytes (YB Zn N):=fun N hN=>by
  have hb:=ZfF hN.t
  have hl:=Zcc Z7H hN.t.fl hN.t.ok.k0 hN.t.ok.k1
  exact ⟨.some N (ZhM hN.i hN.t.fl hN.t.ok.k0 hN.t.ok.k1 hb) hN.i,by omega,hb⟩
 have hC:Z1B A n 8=true->Yh ZA (k0C VN sd 600 400 lo hi)=true->ZnX (k0C VN sd 600 400 lo hi) A n:=fun hf hb=>⟨by have:=(Z7L.1 hf).2;omega,hn,ZkO U9 hb,hA⟩
 exact (Xk (h:=⟨0,[]⟩) (Zic (some (nxC (kkC nxC (k0C VN sd 600 400 lo hi) A n) p)) (k0C VN sd 600 400 lo hi) p q A n) rfl (Zpl ZA Zn nxC sd lo hi _ A n p q _ _ hm U9.ok hp hq (fun k a=>Zfy a) (fun _=>rfl) hC rfl (hR _)) (fun u hu=>hu)).conv fun E r hr0=>hr0.head (fun _ hc=>hc) fun _ hc=>hc.head (fun _ hc=>hc) fun _ hc=>hc.head (fun _ hc=>hc) fun _ hc=>hc.head (fun _ hc=>hr E _ hc) fun _ hc=>hc.head (fun _ hc=>hc) fun _ hc=>hc.head (fun _ hc=>hc) fun _ hc=>hc
end Go.Tk
namespace Go.Proofs.YtdfjhgjefkkkbaaGreat.closeCopies
open Go.ChangeShapes Go.WideShapes Go.ChangeAt Go.RowKit
theorem own:ownKnob Tryz.prog.godebug=none:=by kernel_rfl
theorem laidOut:laidOutB Tryz.prog=true:=by kernel_rfl
theorem lifted (os:Os) (started:os.Started) (H:Type) (enc:TypeId×Value->H):
  ReturnsInHanded {} Tryz.checked os 8 .any (Rows.closeCopiesSpec.pre6 enc Tryz.prog Tryz.f8 Rows.closeCopiesRow.domain false) (Rows.closeCopiesSpec.post enc Tryz.prog Tryz.f8 false true false false):=
 Go.Tk.lifted_gen (C:=Tryz.checked) (m:=8) (τs:=[(false,[.int .i64]),(false,[.int .i64]),(false,[.int .i64]),(false,[.rows 305 Go.Tk.cactTy]),(true,Go.Tk.cactTy),(true,Go.Tk.cactTy)]) own laidOut started (by kernel_rfl) Tryz.func8
  (ChangeSpec.witness6 (enc:=enc) (C:=Tryz.checked) false ⟨#[], #[.int .i64 0,.int .i64 0,.int .i64 0,.slice none 0 0,.agg (#[.int .i64 0]++ #[.int .i64 0]++Array.replicate 32 (.int .u8 0)++ #[.int .i64 0,.int .i64 0,.int .i64 0,.int .i64 0,.int .i64 0]++Array.replicate 64 (.int .u8 0)++ #[.int .i64 0,.int .i64 0]++Array.replicate 192 (.int .u8 0)++ #[.int .i64 0,.int .i64 0,.int .i64 0,.int .i64 0,.int .i64 0,.string ByteArray.empty]++ #[.int .i64 0,.int .u8 0]),.agg (#[.int .i64 0]++ #[.int .i64 0]++Array.replicate 32 (.int .u8 0)++ #[.int .i64 0,.int .i64 0,.int .i64 0,.int .i64 0,.int .i64 0]++Array.replicate 64 (.int .u8 0)++ #[.int .i64 0,.int .i64 0]++Array.replicate 192 (.int .u8 0)++ #[.int .i64 0,.int .i64 0,.int .i64 0,.int .i64 0,.int .i64 0,.string ByteArray.empty]++ #[.int .i64 0,.int .u8 0])],[]⟩ 8 (by kernel_rfl) (by kernel_rfl) (by kernel_rfl) (by kernel_rfl))
  rfl (tb:=4) rfl Tryz.underlying4 (by kernel_rfl) (by kernel_rfl) (fun ds h=>by
   match ds,h with
   | [a,b,c,d,e,f],_=>rfl) fun us h=>Go.Tk.closecopies_walk h
theorem ZkP:Tryz.pinned.checked.prog.funcNamed Rows.closeCopiesRow.func=some 8:=by kernel_rfl
theorem closed:joinedFacts Tryz.pinned.checked.prog 8 Tryz.f8 Rows.closeCopiesSpec Rows.closeCopiesRow=true:=by
 unfold joinedFacts
 repeat' with_reducible refine Go.Tk.and_mk ?_ ?_
 all_goals as_aux_lemma=>kernel_rfl
theorem over:Rows.closeCopiesRow.holds Tryz.pinned (OpenSpec.ofChange Rows.closeCopiesSpec):=
 OpenClaim.holds_of_wide 8 Tryz.f8 rfl rfl rfl rfl rfl rfl rfl ⟨rfl,rfl,rfl,rfl,rfl⟩ rfl rfl rfl rfl rfl ZkP Tryz.func8 closed
  (of_decide_eq_true (by kernel_rfl)) (by unfold Func.isWrapper;first|(rw [if_pos (by decide+kernel)];kernel_rfl)|(rw [if_neg (by decide+kernel)];exact ⟨rfl,rfl⟩))
  (fun os started H enc _=>lifted os started H enc)
theorem proved:Rows.CloseCopiesSaid:=over
end Go.Proofs.YtdfjhgjefkkkbaaGreat.closeCopies
end
