/- W: part 6 of an engine (a symbolic evaluator, proved against the model) and of the walk by it. -/
import Derived.Test.YtdfjhgjefkkkbaaGreatW5
set_option linter.unusedVariables false
set_option linter.unusedSimpArgs false
set_option maxRecDepth 100000
set_option maxHeartbeats 0
section
namespace Go.Tk
open IntKind (i64 u8 u32 u64 wrap)
variable {g':Nat->List AV} {args:List AV} {nx:Nat} {W:Int->LI} {xs:LI} {F:LI->Int×Int} {v:Int}
theorem Zns (s:Zo) (ok:Bool) (hl:s.Len) (hok:ok=true↔Zy s 5):
  evF Z0x 40 35 [.agg (.int .i64 5::s.r)] ⟨0,[]⟩ (chK ok):=by
 refine @Eq.mpr _ (let g:=s.id;let b:=s.t;let n:=b.fund;let m:=decide (n.length=32/\(32:Nat)=32);let l:=b.k0;let k:=decide (l.length=32/\(32:Nat)=32);let j:=b.k1;let i:=decide (j.length=32/\(32:Nat)=32);let h:=decide (s.point.length=32/\(32:Nat)=32);let v:=decide (s.nxt.length=32/\(32:Nat)=32);let u:=decide (s.key.length=32/\(32:Nat)=32);let r:=decide (s.hash.length=32/\(32:Nat)=32);let q:=decide (s.tag.length=32/\(32:Nat)=32);let p:=decide (s.secret.length=32/\(32:Nat)=32);let f:=s.amount;let e:=s.number;let d:=s.index;let c:=s.expiry;let o:= !(true&&(n==Z5&&(b.index==0&&(b.cap==0&&(b.dust==0&&(b.fee==0&&(b.delay==0&&(l==Z5&&j==Z5))))))&&(s.reserve==0&&(f==0&&(s.point==Z5&&(s.nxt==Z5&&(s.key==Z5&&(s.hash==Z5&&(s.tag==Z5&&(s.secret==Z5&&(g==0&&(e==0&&(d==0&&(c==0&&(s.code==0&&ByteArray.toList s.route==ByteArray.toList ByteArray.empty)))))))))))))));let a:=Z0 m (Z0 k (Z0 i (Z0 h (Z0 v (Z0 u (Z0 r (Z0 q (Z0 p (Z0 o (ok=false) (ok=false)) False) False) False) False) False) False) False) False) False;
 Z0 (decide (0<=g)) (Z0 (!decide (g<=2147483647)) a (Z0 (decide (0<=e)) (Z0 (!decide (e<=2147483647)) a (Z0 (decide (0<=d)) (Z0 (!decide (d<=2147483647)) a (Z0 (decide (0<=c)) (Z0 (!decide (c<=2147483647)) a (Z0 m (Z0 k (Z0 i (Z0 h (Z0 v (Z0 u (Z0 r (Z0 q (Z0 p (Z0 o (ok=false) (Z0 (decide (f<0)) (ok=false) (Z0 (decide (f>1125899906842624)) (ok=false) (ok=true)))) False) False) False) False) False) False) False) False) False)) a)) a)) a)) a) (by kernel_rfl) ?_
 conv=>zeta
 try simp only [Zc]
 try simp only [Zl]
 try simp only [Zg]
 try simp only [Zm]
 try simp only [Zn]
 try simp only [Zh]
 try simp only [and_true]
 obtain ⟨h0,h1,h2,h3,h4,h5,h6,h7,h8,hb⟩:=hl
 simp only [h0,h1,h2,h3,h4,true_and,J6,Je,decide_eq_true_eq,decide_eq_false_iff_not,false_implies]
 cases ok with
 | true=>
  obtain ⟨⟨w0,w1,w2,w3,w4,w5,w6,w7,w8,w9⟩,hr,hk⟩:=hok.1 rfl
  repeat' first
   | trivial
   | apply Ja
   | intro
  all_goals first
   | omega
   | (rename_i hq;exact absurd (hr.symm.trans hq) (by decide))
   | (rename_i hq _)
 | false=>
  have hn:¬Zy s 5:=fun h=>absurd (hok.2 h) (by decide)
  repeat' first
   | trivial
   | apply Ja
   | intro
  all_goals first
   | exact absurd (Zy.mk ⟨by omega,by omega,by omega,by omega,by omega,by omega,by omega,by omega,by omega,by omega⟩ (by assumption) (by simp only [kindOk]<;>omega)) hn
theorem Znt (s:Zo) (ok:Bool) (hl:s.Len) (hok:ok=true↔Zy s 6):
  evF Z0x 40 35 [.agg (.int .i64 6::s.r)] ⟨0,[]⟩ (chK ok):=by
 refine @Eq.mpr _ (let b:=s.t;let n:=b.fund;let m:=decide (n.length=32/\(32:Nat)=32);let l:=b.k0;let k:=decide (l.length=32/\(32:Nat)=32);let j:=b.k1;let i:=decide (j.length=32/\(32:Nat)=32);let h:=decide (s.point.length=32/\(32:Nat)=32);let g:=decide (s.nxt.length=32/\(32:Nat)=32);let r:=decide (s.key.length=32/\(32:Nat)=32);let q:=decide (s.tag.length=32/\(32:Nat)=32);let p:=decide (s.secret.length=32/\(32:Nat)=32);let f:=s.number;let e:=s.index;let o:= !(true&&(n==Z5&&(b.index==0&&(b.cap==0&&(b.dust==0&&(b.fee==0&&(b.delay==0&&(l==Z5&&j==Z5))))))&&(s.reserve==0&&(true&&(s.point==Z5&&(s.nxt==Z5&&(s.key==Z5&&(true&&(s.tag==Z5&&(s.secret==Z5&&(true&&(f==0&&(e==0&&(true&&(s.code==0&&true)))))))))))))));let a:=Z7 m (Z7 k (Z7 i (Z7 h (Z7 g (Z7 r (Z7 q (Z7 p (Z0 o (ok=false) (ok=false)))))))));let d:=s.expiry;let c:=s.amount;
 Z0 (decide (0<=s.id)) (Z0 (!decide (s.id<=2147483647)) a (Z0 (decide (0<=f)) (Z0 (!decide (f<=2147483647)) a (Z0 (decide (0<=e)) (Z0 (!decide (e<=2147483647)) a (Z0 (decide (0<=d)) (Z0 (!decide (d<=2147483647)) a (Z7 m (Z7 k (Z7 i (Z7 h (Z7 g (Z7 r (Z7 q (Z7 p (Z0 o (ok=false) (Z0 (decide (c<0)) (ok=false) (Z0 (decide (c>1125899906842624)) (ok=false) (Z0 (decide (c>0)) (Z0 (decide (d>0)) (Z0 (!decide ((↑(ByteArray.size s.route):Int)<=512)) (ok=false) (ok=true)) (ok=false)) (ok=false)))))))))))))) a)) a)) a)) a) (by kernel_rfl) ?_
 conv=>zeta
 try simp only [vcA]
 try simp only [vcB]
 try simp only [vcC]
 obtain ⟨h0,h1,h2,h3,h4,h5,h6,h7,h8,hb⟩:=hl
 simp only [h0,h1,h2,h3,h4,h5,h6,h7,h8,and_self,decide_true,true_and,forall_const,J6,Je,decide_eq_true_eq,decide_eq_false_iff_not,Jm,JH,reduceCtorEq,false_implies,and_true]
 cases ok with
 | true=>
  obtain ⟨⟨w0,w1,w2,w3,w4,w5,w6,w7,w8,w9⟩,hr,hk⟩:=hok.1 rfl
  have hk':=hk
  simp only [kindOk] at hk
  repeat' first
   | trivial
   | apply Ja
   | intro
  all_goals first
   | omega
   | (exfalso;omega)
   | (rename_i hq;exact absurd (hr.symm.trans hq) (by decide))
   | (rename_i hq _;exact absurd (hr.symm.trans hq) (by decide))
   | (rename_i hq _ _;exact absurd (hr.symm.trans hq) (by decide))
 | false=>
  have hn:¬Zy s 6:=fun h=>absurd (hok.2 h) (by decide)
  repeat' first
   | trivial
   | apply Ja
   | intro
  all_goals first
   | exact absurd (Zy.mk ⟨by omega,by omega,by omega,by omega,by omega,by omega,by omega,by omega,by omega,by omega⟩ (by assumption) (by simp only [kindOk]<;>omega)) hn
   | exact absurd (Zy.mk ⟨by omega,by omega,by omega,by omega,by omega,by omega,by omega,by omega,by omega,by omega⟩ (by assumption) trivial) hn
theorem Znu (s:Zo) (ok:Bool) (hl:s.Len) (hok:ok=true↔Zy s 7):
  evF Z0x 40 35 [.agg (.int .i64 7::s.r)] ⟨0,[]⟩ (chK ok):=by
 refine @Eq.mpr _ (let b:=s.t;let n:=b.fund;let m:=decide (n.length=32/\(32:Nat)=32);let l:=b.k0;let k:=decide (l.length=32/\(32:Nat)=32);let j:=b.k1;let i:=decide (j.length=32/\(32:Nat)=32);let h:=decide (s.point.length=32/\(32:Nat)=32);let g:=decide (s.nxt.length=32/\(32:Nat)=32);let r:=decide (s.key.length=32/\(32:Nat)=32);let q:=decide (s.hash.length=32/\(32:Nat)=32);let p:=decide (s.tag.length=32/\(32:Nat)=32);let f:=s.amount;let e:=s.number;let d:=s.index;let c:=s.expiry;let o:= !(true&&(n==Z5&&(b.index==0&&(b.cap==0&&(b.dust==0&&(b.fee==0&&(b.delay==0&&(l==Z5&&j==Z5))))))&&(s.reserve==0&&(f==0&&(s.point==Z5&&(s.nxt==Z5&&(s.key==Z5&&(s.hash==Z5&&(s.tag==Z5&&(true&&(true&&(e==0&&(d==0&&(c==0&&(s.code==0&&ByteArray.toList s.route==ByteArray.toList ByteArray.empty)))))))))))))));let a:=Z0 m (Z0 k (Z0 i (Z0 h (Z0 g (Z0 r (Z0 q (Z0 p (Z0 o (ok=false) (ok=false)) False) False) False) False) False) False) False) False;
 Z0 (decide (0<=s.id)) (Z0 (!decide (s.id<=2147483647)) a (Z0 (decide (0<=e)) (Z0 (!decide (e<=2147483647)) a (Z0 (decide (0<=d)) (Z0 (!decide (d<=2147483647)) a (Z0 (decide (0<=c)) (Z0 (!decide (c<=2147483647)) a (Z0 m (Z0 k (Z0 i (Z0 h (Z0 g (Z0 r (Z0 q (Z0 p (Z0 o (ok=false) (Z0 (decide (f<0)) (ok=false) (Z0 (decide (f>1125899906842624)) (ok=false) (ok=true)))) False) False) False) False) False) False) False) False)) a)) a)) a)) a) (by kernel_rfl) ?_
 conv=>zeta
 try simp only [Zc]
 try simp only [Zl]
 try simp only [Zg]
 try simp only [Zm]
 try simp only [Zn]
 try simp only [Zh]
 try simp only [and_true]
 obtain ⟨h0,h1,h2,h3,h4,h5,h6,h7,h8,hb⟩:=hl
 simp only [h0,h1,h2,h3,h4,true_and,J6,Je,decide_eq_true_eq,decide_eq_false_iff_not,false_implies]
 cases ok with
 | true=>
  obtain ⟨⟨w0,w1,w2,w3,w4,w5,w6,w7,w8,w9⟩,hr,hk⟩:=hok.1 rfl
  repeat' first
   | trivial
   | apply Ja
   | intro
  all_goals first
   | omega
   | (rename_i hq;exact absurd (hr.symm.trans hq) (by decide))
   | (rename_i hq _)
 | false=>
  have hn:¬Zy s 7:=fun h=>absurd (hok.2 h) (by decide)
  repeat' first
   | trivial
   | apply Ja
   | intro
  all_goals first
   | exact absurd (Zy.mk ⟨by omega,by omega,by omega,by omega,by omega,by omega,by omega,by omega,by omega,by omega⟩ (by assumption) (by simp only [kindOk]<;>omega)) hn
theorem Znv (s:Zo) (ok:Bool) (hl:s.Len) (hok:ok=true↔Zy s 8):
  evF Z0x 40 35 [.agg (.int .i64 8::s.r)] ⟨0,[]⟩ (chK ok):=by
 refine @Eq.mpr _ (let b:=s.t;let n:=b.fund;let m:=decide (n.length=32/\(32:Nat)=32);let l:=b.k0;let k:=decide (l.length=32/\(32:Nat)=32);let j:=b.k1;let i:=decide (j.length=32/\(32:Nat)=32);let h:=decide (s.point.length=32/\(32:Nat)=32);let g:=decide (s.nxt.length=32/\(32:Nat)=32);let u:=decide (s.key.length=32/\(32:Nat)=32);let r:=decide (s.hash.length=32/\(32:Nat)=32);let q:=decide (s.tag.length=32/\(32:Nat)=32);let p:=decide (s.secret.length=32/\(32:Nat)=32);let f:=s.amount;let e:=s.number;let d:=s.index;let c:=s.expiry;let o:= !(true&&(n==Z5&&(b.index==0&&(b.cap==0&&(b.dust==0&&(b.fee==0&&(b.delay==0&&(l==Z5&&j==Z5))))))&&(s.reserve==0&&(f==0&&(s.point==Z5&&(s.nxt==Z5&&(s.key==Z5&&(s.hash==Z5&&(s.tag==Z5&&(s.secret==Z5&&(true&&(e==0&&(d==0&&(c==0&&(true&&ByteArray.toList s.route==ByteArray.toList ByteArray.empty)))))))))))))));let a:=Z0 m (Z0 k (Z0 i (Z0 h (Z0 g (Z0 u (Z0 r (Z0 q (Z0 p (Z0 o (ok=false) (ok=false)) False) False) False) False) False) False) False) False) False;
 Z0 (decide (0<=s.id)) (Z0 (!decide (s.id<=2147483647)) a (Z0 (decide (0<=e)) (Z0 (!decide (e<=2147483647)) a (Z0 (decide (0<=d)) (Z0 (!decide (d<=2147483647)) a (Z0 (decide (0<=c)) (Z0 (!decide (c<=2147483647)) a (Z0 m (Z0 k (Z0 i (Z0 h (Z0 g (Z0 u (Z0 r (Z0 q (Z0 p (Z0 o (ok=false) (Z0 (decide (f<0)) (ok=false) (Z0 (decide (f>1125899906842624)) (ok=false) (Z0 (decide (1<=s.code)) (Z0 (!decide (s.code<=999)) (ok=false) (ok=true)) (ok=false))))) False) False) False) False) False) False) False) False) False)) a)) a)) a)) a) (by kernel_rfl) ?_
 conv=>zeta
 try simp only [Zc]
 try simp only [Zl]
 try simp only [Zg]
 try simp only [Zm]
 try simp only [Zn]
 try simp only [Zh]
 try simp only [and_true]
 obtain ⟨h0,h1,h2,h3,h4,h5,h6,h7,h8,hb⟩:=hl
 simp only [h0,h1,h2,h3,h4,true_and,J6,Je,decide_eq_true_eq,decide_eq_false_iff_not,false_implies]
 cases ok with
 | true=>
  obtain ⟨⟨w0,w1,w2,w3,w4,w5,w6,w7,w8,w9⟩,hr,hk⟩:=hok.1 rfl
  simp only [kindOk] at hk
  repeat' first
   | trivial
   | apply Ja
   | intro
  all_goals first
   | omega
   | (rename_i hq;exact absurd (hr.symm.trans hq) (by decide))
   | (rename_i hq _)
 | false=>
  have hn:¬Zy s 8:=fun h=>absurd (hok.2 h) (by decide)
  repeat' first
   | trivial
   | apply Ja
   | intro
  all_goals first
   | exact absurd (Zy.mk ⟨by omega,by omega,by omega,by omega,by omega,by omega,by omega,by omega,by omega,by omega⟩ (by assumption) (by simp only [kindOk]<;>omega)) hn
theorem Znw (s:Zo) (ok:Bool) (hl:s.Len) (hok:ok=true↔Zy s 9):
  evF Z0x 40 35 [.agg (.int .i64 9::s.r)] ⟨0,[]⟩ (chK ok):=by
 refine @Eq.mpr _ (let f:=s.id;let a:=s.t;let m:=a.fund;let l:=decide (m.length=32/\(32:Nat)=32);let k:=a.k0;let j:=decide (k.length=32/\(32:Nat)=32);let i:=a.k1;let h:=decide (i.length=32/\(32:Nat)=32);let g:=decide (s.point.length=32/\(32:Nat)=32);let r:=decide (s.nxt.length=32/\(32:Nat)=32);let q:=decide (s.key.length=32/\(32:Nat)=32);let p:=decide (s.hash.length=32/\(32:Nat)=32);let o:=decide (s.secret.length=32/\(32:Nat)=32);let e:=s.amount;let d:=s.index;let c:=s.expiry;let n:= !(true&&(m==Z5&&(a.index==0&&(a.cap==0&&(a.dust==0&&(a.fee==0&&(a.delay==0&&(k==Z5&&i==Z5))))))&&(s.reserve==0&&(e==0&&(s.point==Z5&&(s.nxt==Z5&&(s.key==Z5&&(s.hash==Z5&&(true&&(s.secret==Z5&&(f==0&&(true&&(d==0&&(c==0&&(s.code==0&&ByteArray.toList s.route==ByteArray.toList ByteArray.empty)))))))))))))));let b:=Z0 l (Z0 j (Z0 h (Z0 g (Z0 r (Z0 q (Z0 p (Z0 o (Z0 n (ok=false) (ok=false)) False) False) False) False) False) False) False) False;
 Z0 (decide (0<=f)) (Z0 (!decide (f<=2147483647)) b (Z0 (decide (0<=s.number)) (Z0 (!decide (s.number<=2147483647)) b (Z0 (decide (0<=d)) (Z0 (!decide (d<=2147483647)) b (Z0 (decide (0<=c)) (Z0 (!decide (c<=2147483647)) b (Z0 l (Z0 j (Z0 h (Z0 g (Z0 r (Z0 q (Z0 p (Z0 o (Z0 n (ok=false) (Z0 (decide (e<0)) (ok=false) (Z0 (decide (e>1125899906842624)) (ok=false) (ok=true)))) False) False) False) False) False) False) False) False)) b)) b)) b)) b) (by kernel_rfl) ?_
 conv=>zeta
 try simp only [Zc]
 try simp only [Zl]
 try simp only [Zg]
 try simp only [Zm]
 try simp only [Zn]
 try simp only [Zh]
 try simp only [and_true,J2]
 obtain ⟨h0,h1,h2,h3,h4,h5,h6,h7,h8,hb⟩:=hl
 simp only [h0,h1,h2,h3,true_and,J6,Je,decide_eq_true_eq,decide_eq_false_iff_not,false_implies]
 cases ok with
 | true=>
  obtain ⟨⟨w0,w1,w2,w3,w4,w5,w6,w7,w8,w9⟩,hr,hk⟩:=hok.1 rfl
  repeat' first
   | trivial
   | apply Ja
   | intro
  all_goals first
   | omega
   | (rename_i hq;exact absurd (hr.symm.trans hq) (by decide))
   | (rename_i hq _)
 | false=>
  have hn:¬Zy s 9:=fun h=>absurd (hok.2 h) (by decide)
  repeat' first
   | trivial
   | apply Ja
   | intro
  all_goals first
   | exact absurd (Zy.mk ⟨by omega,by omega,by omega,by omega,by omega,by omega,by omega,by omega,by omega,by omega⟩ (by assumption) (by simp only [kindOk]<;>omega)) hn
theorem ZkG (s:Zo) (ok:Bool) (hl:s.Len) (hok:ok=true↔Zy s 10):
  evF Z0x 40 35 [.agg (.int .i64 10::s.r)] ⟨0,[]⟩ (chK ok):=by
 refine @Eq.mpr _ (let f:=s.id;let a:=s.t;let m:=a.fund;let l:=decide (m.length=32/\(32:Nat)=32);let k:=a.k0;let j:=decide (k.length=32/\(32:Nat)=32);let i:=a.k1;let h:=decide (i.length=32/\(32:Nat)=32);let g:=decide (s.point.length=32/\(32:Nat)=32);let q:=decide (s.key.length=32/\(32:Nat)=32);let p:=decide (s.hash.length=32/\(32:Nat)=32);let o:=decide (s.tag.length=32/\(32:Nat)=32);let e:=s.amount;let d:=s.index;let c:=s.expiry;let n:= !(true&&(m==Z5&&(a.index==0&&(a.cap==0&&(a.dust==0&&(a.fee==0&&(a.delay==0&&(k==Z5&&i==Z5))))))&&(s.reserve==0&&(e==0&&(s.point==Z5&&(true&&(s.key==Z5&&(s.hash==Z5&&(s.tag==Z5&&(true&&(f==0&&(true&&(d==0&&(c==0&&(s.code==0&&ByteArray.toList s.route==ByteArray.toList ByteArray.empty)))))))))))))));let b:=Z0 l (Z0 j (Z0 h (Z0 g (Z0 q (Z0 p (Z0 o (Z0 n (ok=false) (ok=false)) False) False) False) False) False) False) False;
 Z0 (decide (0<=f)) (Z0 (!decide (f<=2147483647)) b (Z0 (decide (0<=s.number)) (Z0 (!decide (s.number<=2147483647)) b (Z0 (decide (0<=d)) (Z0 (!decide (d<=2147483647)) b (Z0 (decide (0<=c)) (Z0 (!decide (c<=2147483647)) b (Z0 l (Z0 j (Z0 h (Z0 g (Z0 q (Z0 p (Z0 o (Z0 n (ok=false) (Z0 (decide (e<0)) (ok=false) (Z0 (decide (e>1125899906842624)) (ok=false) (ok=true)))) False) False) False) False) False) False) False)) b)) b)) b)) b) (by kernel_rfl) ?_
 conv=>zeta
 try simp only [Zc]
 try simp only [Zl]
 try simp only [Zg]
 try simp only [Zm]
 try simp only [Zn]
 try simp only [Zh]
 try simp only [Jk,true_and,J2]
 obtain ⟨h0,h1,h2,h3,h4,h5,h6,h7,h8,hb⟩:=hl
 simp only [h0,h1,h2,true_and,J6,Je,decide_eq_true_eq,decide_eq_false_iff_not,false_implies]
 cases ok with
 | true=>
  obtain ⟨⟨w0,w1,w2,w3,w4,w5,w6,w7,w8,w9⟩,hr,hk⟩:=hok.1 rfl
  repeat' first
   | trivial
   | apply Ja
   | intro
  all_goals first
   | omega
   | (rename_i hq;exact absurd (hr.symm.trans hq) (by decide))
   | (rename_i hq _)
 | false=>
  have hn:¬Zy s 10:=fun h=>absurd (hok.2 h) (by decide)
  repeat' first
   | trivial
   | apply Ja
   | intro
  all_goals first
   | exact absurd (Zy.mk ⟨by omega,by omega,by omega,by omega,by omega,by omega,by omega,by omega,by omega,by omega⟩ (by assumption) (by simp only [kindOk]<;>omega)) hn
theorem ZkH (s:Zo) (ok:Bool) (hl:s.Len) (hok:ok=true↔Zy s 11):
  evF Z0x 40 35 [.agg (.int .i64 11::s.r)] ⟨0,[]⟩ (chK ok):=by
 refine @Eq.mpr _ (let b:=s.t;let m:=b.fund;let l:=decide (m.length=32/\(32:Nat)=32);let k:=b.k0;let j:=decide (k.length=32/\(32:Nat)=32);let i:=b.k1;let h:=decide (i.length=32/\(32:Nat)=32);let g:=decide (s.point.length=32/\(32:Nat)=32);let f:=decide (s.nxt.length=32/\(32:Nat)=32);let r:=decide (s.key.length=32/\(32:Nat)=32);let q:=decide (s.hash.length=32/\(32:Nat)=32);let p:=decide (s.tag.length=32/\(32:Nat)=32);let o:=decide (s.secret.length=32/\(32:Nat)=32);let e:=s.amount;let d:=s.index;let c:=s.expiry;let n:= !(true&&(m==Z5&&(b.index==0&&(b.cap==0&&(b.dust==0&&(b.fee==0&&(b.delay==0&&(k==Z5&&i==Z5))))))&&(s.reserve==0&&(e==0&&(s.point==Z5&&(s.nxt==Z5&&(s.key==Z5&&(s.hash==Z5&&(s.tag==Z5&&(s.secret==Z5&&(true&&(true&&(d==0&&(c==0&&(s.code==0&&ByteArray.toList s.route==ByteArray.toList ByteArray.empty)))))))))))))));let a:=Z0 l (Z0 j (Z0 h (Z0 g (Z0 f (Z0 r (Z0 q (Z0 p (Z0 o (Z0 n (ok=false) (ok=false)) False) False) False) False) False) False) False) False) False;
 Z0 (decide (0<=s.id)) (Z0 (!decide (s.id<=2147483647)) a (Z0 (decide (0<=s.number)) (Z0 (!decide (s.number<=2147483647)) a (Z0 (decide (0<=d)) (Z0 (!decide (d<=2147483647)) a (Z0 (decide (0<=c)) (Z0 (!decide (c<=2147483647)) a (Z0 l (Z0 j (Z0 h (Z0 g (Z0 f (Z0 r (Z0 q (Z0 p (Z0 o (Z0 n (ok=false) (Z0 (decide (e<0)) (ok=false) (Z0 (decide (e>1125899906842624)) (ok=false) (ok=true)))) False) False) False) False) False) False) False) False) False)) a)) a)) a)) a) (by kernel_rfl) ?_
 conv=>zeta
 try simp only [Zc]
 try simp only [Zl]
 try simp only [Zg]
 try simp only [Zm]
 try simp only [Zn]
 try simp only [Zh]
 try simp only [Jk,true_and,and_true]
 obtain ⟨h0,h1,h2,h3,h4,h5,h6,h7,h8,hb⟩:=hl
 simp only [h0,h1,h2,h3,h4,true_and,J6,Je,decide_eq_true_eq,decide_eq_false_iff_not,false_implies]
 cases ok with
 | true=>
  obtain ⟨⟨w0,w1,w2,w3,w4,w5,w6,w7,w8,w9⟩,hr,hk⟩:=hok.1 rfl
  repeat' first
   | trivial
   | apply Ja
   | intro
  all_goals first
   | omega
   | (rename_i hq;exact absurd (hr.symm.trans hq) (by decide))
   | (rename_i hq _)
 | false=>
  have hn:¬Zy s 11:=fun h=>absurd (hok.2 h) (by decide)
  repeat' first
   | trivial
   | apply Ja
   | intro
  all_goals first
   | exact absurd (Zy.mk ⟨by omega,by omega,by omega,by omega,by omega,by omega,by omega,by omega,by omega,by omega⟩ (by assumption) (by simp only [kindOk]<;>omega)) hn
theorem ZkI (s:Zo) (ok:Bool) (hl:s.Len) (hok:ok=true↔Zy s 12):
  evF Z0x 40 35 [.agg (.int .i64 12::s.r)] ⟨0,[]⟩ (chK ok):=by
 refine @Eq.mpr _ (let g:=s.id;let b:=s.t;let n:=b.fund;let m:=decide (n.length=32/\(32:Nat)=32);let l:=b.k0;let k:=decide (l.length=32/\(32:Nat)=32);let j:=b.k1;let i:=decide (j.length=32/\(32:Nat)=32);let h:=decide (s.point.length=32/\(32:Nat)=32);let v:=decide (s.nxt.length=32/\(32:Nat)=32);let u:=decide (s.key.length=32/\(32:Nat)=32);let r:=decide (s.hash.length=32/\(32:Nat)=32);let q:=decide (s.tag.length=32/\(32:Nat)=32);let p:=decide (s.secret.length=32/\(32:Nat)=32);let f:=s.amount;let e:=s.number;let d:=s.index;let c:=s.expiry;let o:= !(true&&(n==Z5&&(b.index==0&&(b.cap==0&&(b.dust==0&&(b.fee==0&&(b.delay==0&&(l==Z5&&j==Z5))))))&&(s.reserve==0&&(f==0&&(s.point==Z5&&(s.nxt==Z5&&(s.key==Z5&&(s.hash==Z5&&(s.tag==Z5&&(s.secret==Z5&&(g==0&&(e==0&&(d==0&&(c==0&&(s.code==0&&ByteArray.toList s.route==ByteArray.toList ByteArray.empty)))))))))))))));let a:=Z0 m (Z0 k (Z0 i (Z0 h (Z0 v (Z0 u (Z0 r (Z0 q (Z0 p (Z0 o (ok=false) (ok=false)) False) False) False) False) False) False) False) False) False;
 Z0 (decide (0<=g)) (Z0 (!decide (g<=2147483647)) a (Z0 (decide (0<=e)) (Z0 (!decide (e<=2147483647)) a (Z0 (decide (0<=d)) (Z0 (!decide (d<=2147483647)) a (Z0 (decide (0<=c)) (Z0 (!decide (c<=2147483647)) a (Z0 m (Z0 k (Z0 i (Z0 h (Z0 v (Z0 u (Z0 r (Z0 q (Z0 p (Z0 o (ok=false) (Z0 (decide (f<0)) (ok=false) (Z0 (decide (f>1125899906842624)) (ok=false) (ok=true)))) False) False) False) False) False) False) False) False) False)) a)) a)) a)) a) (by kernel_rfl) ?_
 conv=>zeta
 try simp only [Zc]
 try simp only [Zl]
 try simp only [Zg]
 try simp only [Zm]
 try simp only [Zn]
 try simp only [Zh]
 try simp only [and_true]
 obtain ⟨h0,h1,h2,h3,h4,h5,h6,h7,h8,hb⟩:=hl
 simp only [h0,h1,h2,h3,h4,true_and,J6,Je,decide_eq_true_eq,decide_eq_false_iff_not,false_implies]
 cases ok with
 | true=>
  obtain ⟨⟨w0,w1,w2,w3,w4,w5,w6,w7,w8,w9⟩,hr,hk⟩:=hok.1 rfl
  repeat' first
   | trivial
   | apply Ja
   | intro
  all_goals first
   | omega
   | (rename_i hq;exact absurd (hr.symm.trans hq) (by decide))
   | (rename_i hq _)
 | false=>
  have hn:¬Zy s 12:=fun h=>absurd (hok.2 h) (by decide)
  repeat' first
   | trivial
   | apply Ja
   | intro
  all_goals first
   | exact absurd (Zy.mk ⟨by omega,by omega,by omega,by omega,by omega,by omega,by omega,by omega,by omega,by omega⟩ (by assumption) (by simp only [kindOk]<;>omega)) hn
theorem Znx (s:Zo) (ok:Bool) (hl:s.Len) (hok:ok=true↔Zy s 13):
  evF Z0x 40 35 [.agg (.int .i64 13::s.r)] ⟨0,[]⟩ (chK ok):=by
 refine @Eq.mpr _ (let f:=s.id;let a:=s.t;let m:=a.fund;let l:=decide (m.length=32/\(32:Nat)=32);let k:=a.k0;let j:=decide (k.length=32/\(32:Nat)=32);let i:=a.k1;let h:=decide (i.length=32/\(32:Nat)=32);let g:=decide (s.point.length=32/\(32:Nat)=32);let r:=decide (s.nxt.length=32/\(32:Nat)=32);let q:=decide (s.key.length=32/\(32:Nat)=32);let p:=decide (s.hash.length=32/\(32:Nat)=32);let o:=decide (s.secret.length=32/\(32:Nat)=32);let e:=s.number;let d:=s.index;let c:=s.expiry;let n:= !(true&&(m==Z5&&(a.index==0&&(a.cap==0&&(a.dust==0&&(a.fee==0&&(a.delay==0&&(k==Z5&&i==Z5))))))&&(s.reserve==0&&(true&&(s.point==Z5&&(s.nxt==Z5&&(s.key==Z5&&(s.hash==Z5&&(true&&(s.secret==Z5&&(f==0&&(e==0&&(d==0&&(c==0&&(s.code==0&&ByteArray.toList s.route==ByteArray.toList ByteArray.empty)))))))))))))));let b:=Z7 l (Z7 j (Z7 h (Z7 g (Z7 r (Z7 q (Z7 p (Z7 o (Z0 n (ok=false) (ok=false)))))))));
 Z0 (decide (0<=f)) (Z0 (!decide (f<=2147483647)) b (Z0 (decide (0<=e)) (Z0 (!decide (e<=2147483647)) b (Z0 (decide (0<=d)) (Z0 (!decide (d<=2147483647)) b (Z0 (decide (0<=c)) (Z0 (!decide (c<=2147483647)) b (Z7 l (Z7 j (Z7 h (Z7 g (Z7 r (Z7 q (Z7 p (Z7 o (Z0 n (ok=false) (Z0 (decide (s.amount<0)) (ok=false) (Z0 (decide (s.amount>1125899906842624)) (ok=false) (ok=true))))))))))))) b)) b)) b)) b) (by kernel_rfl) ?_
 conv=>zeta
 try simp only [vcA]
 try simp only [vcB]
 try simp only [vcC]
 obtain ⟨h0,h1,h2,h3,h4,h5,h6,h7,h8,hb⟩:=hl
 simp only [h0,h1,h2,h3,h4,h5,h6,h7,h8,and_self,decide_true,true_and,forall_const,J6,Je,decide_eq_true_eq,decide_eq_false_iff_not,Jm,JH,reduceCtorEq,false_implies,and_true]
 cases ok with
 | true=>
  obtain ⟨⟨w0,w1,w2,w3,w4,w5,w6,w7,w8,w9⟩,hr,hk⟩:=hok.1 rfl
  have hk':=hk
  simp only [kindOk] at hk
  repeat' first
   | trivial
   | apply Ja
   | intro
  all_goals first
   | omega
   | (exfalso;omega)
   | (rename_i hq;exact absurd (hr.symm.trans hq) (by decide))
   | (rename_i hq _;exact absurd (hr.symm.trans hq) (by decide))
   | (rename_i hq _ _;exact absurd (hr.symm.trans hq) (by decide))
 | false=>
  have hn:¬Zy s 13:=fun h=>absurd (hok.2 h) (by decide)
  repeat' first
   | trivial
   | apply Ja
   | intro
  all_goals first
   | exact absurd (Zy.mk ⟨by omega,by omega,by omega,by omega,by omega,by omega,by omega,by omega,by omega,by omega⟩ (by assumption) (by simp only [kindOk]<;>omega)) hn
   | exact absurd (Zy.mk ⟨by omega,by omega,by omega,by omega,by omega,by omega,by omega,by omega,by omega,by omega⟩ (by assumption) trivial) hn
theorem Zny (s:Zo) (ok:Bool) (hl:s.Len) (hok:ok=true↔Zy s 14):
  evF Z0x 40 35 [.agg (.int .i64 14::s.r)] ⟨0,[]⟩ (chK ok):=by
 refine @Eq.mpr _ (let g:=s.id;let b:=s.t;let n:=b.fund;let m:=decide (n.length=32/\(32:Nat)=32);let l:=b.k0;let k:=decide (l.length=32/\(32:Nat)=32);let j:=b.k1;let i:=decide (j.length=32/\(32:Nat)=32);let h:=decide (s.point.length=32/\(32:Nat)=32);let v:=decide (s.nxt.length=32/\(32:Nat)=32);let u:=decide (s.key.length=32/\(32:Nat)=32);let r:=decide (s.hash.length=32/\(32:Nat)=32);let q:=decide (s.tag.length=32/\(32:Nat)=32);let p:=decide (s.secret.length=32/\(32:Nat)=32);let f:=s.amount;let e:=s.number;let d:=s.index;let c:=s.expiry;let o:= !(true&&(n==Z5&&(b.index==0&&(b.cap==0&&(b.dust==0&&(b.fee==0&&(b.delay==0&&(l==Z5&&j==Z5))))))&&(s.reserve==0&&(f==0&&(s.point==Z5&&(s.nxt==Z5&&(s.key==Z5&&(s.hash==Z5&&(s.tag==Z5&&(s.secret==Z5&&(g==0&&(e==0&&(d==0&&(c==0&&(true&&ByteArray.toList s.route==ByteArray.toList ByteArray.empty)))))))))))))));let a:=Z7 m (Z7 k (Z7 i (Z7 h (Z7 v (Z7 u (Z7 r (Z7 q (Z7 p (Z0 o (ok=false) (ok=false))))))))));
 Z0 (decide (0<=g)) (Z0 (!decide (g<=2147483647)) a (Z0 (decide (0<=e)) (Z0 (!decide (e<=2147483647)) a (Z0 (decide (0<=d)) (Z0 (!decide (d<=2147483647)) a (Z0 (decide (0<=c)) (Z0 (!decide (c<=2147483647)) a (Z7 m (Z7 k (Z7 i (Z7 h (Z7 v (Z7 u (Z7 r (Z7 q (Z7 p (Z0 o (ok=false) (Z0 (decide (f<0)) (ok=false) (Z0 (decide (f>1125899906842624)) (ok=false) (Z0 (decide (1<=s.code)) (Z0 (!decide (s.code<=999)) (ok=false) (ok=true)) (ok=false))))))))))))))) a)) a)) a)) a) (by kernel_rfl) ?_
 conv=>zeta
 try simp only [vcA]
 try simp only [vcB]
 try simp only [vcC]
 obtain ⟨h0,h1,h2,h3,h4,h5,h6,h7,h8,hb⟩:=hl
 simp only [h0,h1,h2,h3,h4,h5,h6,h7,h8,and_self,decide_true,true_and,forall_const,J6,Je,decide_eq_true_eq,decide_eq_false_iff_not,Jm,JH,reduceCtorEq,false_implies,and_true]
 cases ok with
 | true=>
  obtain ⟨⟨w0,w1,w2,w3,w4,w5,w6,w7,w8,w9⟩,hr,hk⟩:=hok.1 rfl
  have hk':=hk
  simp only [kindOk] at hk
  repeat' first
   | trivial
   | apply Ja
   | intro
  all_goals first
   | omega
   | (exfalso;omega)
   | (rename_i hq;exact absurd (hr.symm.trans hq) (by decide))
   | (rename_i hq _;exact absurd (hr.symm.trans hq) (by decide))
   | (rename_i hq _ _;exact absurd (hr.symm.trans hq) (by decide))
 | false=>
  have hn:¬Zy s 14:=fun h=>absurd (hok.2 h) (by decide)
  repeat' first
   | trivial
   | apply Ja
   | intro
  all_goals first
   | exact absurd (Zy.mk ⟨by omega,by omega,by omega,by omega,by omega,by omega,by omega,by omega,by omega,by omega⟩ (by assumption) (by simp only [kindOk]<;>omega)) hn
   | exact absurd (Zy.mk ⟨by omega,by omega,by omega,by omega,by omega,by omega,by omega,by omega,by omega,by omega⟩ (by assumption) trivial) hn
def noQ:ZQ:=fun _ _ _=>False
theorem Z9u {f:FuncId} (args:List AV) (h:Z8) (K:KO) (hl:noQ args h K):Zd PP f args h K:=hl.elim
noncomputable def Znz:Za:=((G0.withF 227 noQ).withF 230 noQ).withF 235 noQ
theorem Zpv (s:Zo) (k:Int) (hl:s.Len) (hk:k<1\/14<k):
  evF Znz 40 35 [.agg (.int .i64 k::s.r)] ⟨0,[]⟩ (chK false):=by
 refine @Eq.mpr _ (let f:=s.id;let b:=s.t;let w:=b.fund;let l:=decide (w.length=32/\(32:Nat)=32);let v:=b.k0;let j:=decide (v.length=32/\(32:Nat)=32);let u:=b.k1;let i:=decide (u.length=32/\(32:Nat)=32);let h:=decide (s.point.length=32/\(32:Nat)=32);let r:=decide (s.nxt.length=32/\(32:Nat)=32);let q:=decide (s.key.length=32/\(32:Nat)=32);let p:=decide (s.hash.length=32/\(32:Nat)=32);let o:=decide (s.tag.length=32/\(32:Nat)=32);let n:=decide (s.secret.length=32/\(32:Nat)=32);let g:=s.amount;let e:=s.number;let d:=s.index;let c:=s.expiry;let m:= !(k==k&&(w==Z5&&(b.index==0&&(b.cap==0&&(b.dust==0&&(b.fee==0&&(b.delay==0&&(v==Z5&&u==Z5))))))&&(s.reserve==0&&(g==0&&(s.point==Z5&&(s.nxt==Z5&&(s.key==Z5&&(s.hash==Z5&&(s.tag==Z5&&(s.secret==Z5&&(f==0&&(e==0&&(d==0&&(c==0&&(s.code==0&&ByteArray.toList s.route==ByteArray.toList ByteArray.empty)))))))))))))));let a:=Z7 l (Z7 j (Z7 i (Z7 h (Z7 r (Z7 q (Z7 p (Z7 o (Z7 n (Z0 m (false=false) (false=false))))))))));
 Z6 (k=k) (Z0 (decide (k=1)) False (Z0 (decide (k=2)) False (Z0 (decide (k=3)) False (Z0 (decide (k=4)) False (Z0 (decide (k=5)) (Z0 (decide (0<=f)) (Z0 (!decide (f<=2147483647)) a (Z0 (decide (0<=e)) (Z0 (!decide (e<=2147483647)) a (Z0 (decide (0<=d)) (Z0 (!decide (d<=2147483647)) a (Z0 (decide (0<=c)) (Z0 (!decide (c<=2147483647)) a (Z7 l (Z7 j (Z7 i (Z7 h (Z7 r (Z7 q (Z7 p (Z7 o (Z7 n (Z0 m (false=false) (Z0 (decide (g<0)) (false=false) (Z0 (decide (g>1125899906842624)) (false=false) (false=true)))))))))))))) a)) a)) a)) a) (Z0 (decide (k=6)) False (Z0 (decide (k=7)) False (Z0 (decide (k=8)) False (Z0 (decide (k=9)) False (Z0 (decide (k=10)) False (Z0 (decide (k=11)) False (Z0 (decide (k=12)) (Z0 (decide (0<=f)) (Z0 (!decide (f<=2147483647)) a (Z0 (decide (0<=e)) (Z0 (!decide (e<=2147483647)) a (Z0 (decide (0<=d)) (Z0 (!decide (d<=2147483647)) a (Z0 (decide (0<=c)) (Z0 (!decide (c<=2147483647)) a (Z7 l (Z7 j (Z7 i (Z7 h (Z7 r (Z7 q (Z7 p (Z7 o (Z7 n (Z0 m (false=false) (Z0 (decide (g<0)) (false=false) (Z0 (decide (g>1125899906842624)) (false=false) (false=true)))))))))))))) a)) a)) a)) a) (Z0 (decide (k=13)) False (Z0 (decide (k=14)) False (Z0 (decide (0<=f)) (Z0 (!decide (f<=2147483647)) (false=false) (Z0 (decide (0<=e)) (Z0 (!decide (e<=2147483647)) (false=false) (Z0 (decide (0<=d)) (Z0 (!decide (d<=2147483647)) (false=false) (Z0 (decide (0<=c)) (Z0 (!decide (c<=2147483647)) (false=false) (false=false)) (false=false))) (false=false))) (false=false))) (false=false))))))))))))))))) (by kernel_rfl) ?_
 conv=>zeta
 try simp only [vcA]
 try simp only [vcB]
 try simp only [vcC]
 obtain ⟨h0,h1,h2,h3,h4,h5,h6,h7,h8,hb⟩:=hl
 simp only [h0,h1,h2,h3,h4,h5,h6,h7,h8,and_self,decide_true,true_and,forall_const,J6,Je,decide_eq_true_eq,decide_eq_false_iff_not,Jm,JH,reduceCtorEq,false_implies,and_true]
 repeat' first
  | trivial
  | apply Ja
  | intro
 all_goals first
  | omega
  | (exfalso;omega)
def Xn {α:Type} (lt:α->α->Bool) (x:α):List α->List α
 | []=>[x]
 | y::r=>match lt x y with
  | true=>x::y::r
  | false=>y::Xn lt x r
def W1 {α:Type} (lt:α->α->Bool):List α->List α->List α
 | acc,[]=>acc
 | acc,x::r=>W1 lt (Xn lt x acc) r
def Z3Z {α:Type} (lt:α->α->Bool) (l:List α):Prop:=l.Pairwise fun a b=>lt b a=false
structure WO {α:Type} (lt:α->α->Bool):Prop where
 asym:∀x y,lt x y=true->lt y x=false
 neg:∀x y z,lt x y=true->lt z y=false->lt x z=true
theorem Z7F {α:Type} {lt:α->α->Bool} {x z:α}:∀{l:List α},z∈Xn lt x l↔z=x\/z∈l
 | []=>by simp [Xn]
 | y::r=>by
  unfold Xn
  split
  ·simp
  ·simp only [J8,Z7F (l:=r)]
   constructor<;>(intro h;rcases h with h|h|h<;>simp [h])
theorem Z40 {α:Type} {lt:α->α->Bool} {x:α}:∀{l:List α},(Xn lt x l).length=l.length+1
 | []=>rfl
 | y::r=>by
  unfold Xn
  split
  ·simp
  ·simp [Z40 (l:=r)]
theorem Z5j {α:Type} {lt:α->α->Bool} {x:α}:∀{l:List α},(Xn lt x l).Perm (x::l)
 | []=>.refl _
 | y::r=>by
  unfold Xn
  split
  ·exact .refl _
  ·exact (List.Perm.cons y Z5j).trans (List.Perm.swap x y r)
theorem Z7G {α:Type} {lt:α->α->Bool} (wo:WO lt) {x:α}:∀{l:List α},Z3Z lt l->Z3Z lt (Xn lt x l)
 | [],_=>by simp [Xn,Z3Z]
 | y::r,h=>by
  unfold Z3Z at h
  rw [Kj] at h
  unfold Xn
  split
  ·rename_i hx
   unfold Z3Z
   rw [Kj,Kj]
   refine ⟨fun z hz=> ?_,h.1,h.2⟩
   rcases J8.1 hz with rfl|hz
   ·exact wo.asym _ _ hx
   ·cases hzx:lt z x with
    | false=>rfl
    | true=>
     have:=h.1 z hz
     -- z < x < y, so z < y
     have h2:=wo.neg z x y hzx (wo.asym _ _ hx)
     rw [h2] at this;cases this
  ·rename_i hx
   unfold Z3Z
   rw [Kj]
   refine ⟨fun z hz=> ?_,Z7G wo h.2⟩
   rcases Z7F.1 hz with rfl|hz
   ·exact hx
   ·exact h.1 z hz
theorem ZaH {α:Type} {lt:α->α->Bool} (wo:WO lt) {x:α}:∀{l:List α} {j:Nat},Z3Z lt l->j<=l.length->(∀y∈l.drop j,lt x y=true)->(∀y,l[j-1]? =some y->0<j->lt x y=false)->
  l.take j++x::l.drop j=Xn lt x l
 | [],j,_,hj,_,_=>by simp at hj;simp [Xn]
 | y::r,0,_,_,h1,_=>by
  have:=h1 y (by simp)
  unfold Xn
  rw [this];simp
 | y::r,j+1,ho,hj,h1,h2=>by
  unfold Z3Z at ho
  rw [Kj] at ho
  have hy:lt x y=false:=by
   cases hxy:lt x y with
   | false=>rfl
   | true=>
    cases j with
    | zero=>rw [h2 y (by simp) (by omega)] at hxy;cases hxy
    | succ k=>
     simp at hj
     have hk:k<r.length:=by omega
     have h3:=h2 r[k] (by simp [hk]) (by omega)
     have h4:=ho.1 r[k] (Ko hk)
     rw [wo.neg x y _ hxy h4] at h3;cases h3
  unfold Xn
  rw [hy]
  simp only [List.take_succ_cons,List.drop_succ_cons,List.cons_append,List.cons.injEq,true_and]
  refine ZaH wo ho.2 (by simpa using hj) (by simpa using h1) fun z hz hj'=>h2 z ?_ (by omega)
  cases j with
  | zero=>omega
  | succ k=>simpa using hz
theorem Z5k {α:Type} {lt:α->α->Bool} (wo:WO lt):∀{l acc:List α},Z3Z lt acc->Z3Z lt (W1 lt acc l)
 | [],_,h=>h
 | _::_,_,h=>by unfold W1;exact Z5k wo (Z7G wo h)
theorem Us {α:Type} {lt:α->α->Bool}:∀{l acc:List α},(W1 lt acc l).Perm (acc++l)
 | [],acc=>by simp [W1]
 | x::r,acc=>by
  unfold W1
  refine Us.trans ?_
  refine (List.Perm.append_right r Z5j).trans ?_
  rw [List.cons_append]
  exact List.perm_middle.symm
theorem Z5l {α:Type} {lt:α->α->Bool} {l acc:List α}:(W1 lt acc l).length=acc.length+l.length:=by
 rw [(Us (lt:=lt)).length_eq,J9]
theorem Z41 {α:Type} {lt:α->α->Bool} {x:α}:∀{l acc:List α},W1 lt acc (l++[x])=Xn lt x (W1 lt acc l)
 | [],acc=>rfl
 | y::r,acc=>by
  simp only [List.cons_append,W1]
  exact Z41
def Xs:LI->Nat
 | []=>0
 | a::r=>(V2 a).toNat*256^r.length+Xs r
theorem Z6i:∀(x:LI),Xs x<256^x.length
 | []=>by simp [Xs]
 | a::r=>by
  have h1:=Z6i r
  have h2:=(V2 a).toNat_lt
  simp only [Xs,Jl,Nat.pow_succ]
  have h3:(V2 a).toNat*256^r.length<=255*256^r.length:=JE _ (by omega)
  omega
theorem Z7H:∀(x y:LI),x.length=y.length->Xf x y=if Xs x<Xs y then -1 else if Xs y<Xs x then 1 else 0
 | [],[],_=>by simp [Xf,Lib.compareBytes,Xs]
 | [],b::s,h=>by simp at h
 | a::r,[],h=>by simp at h
 | a::r,b::s,h=>by
  have h':r.length=s.length:=by simpa using h
  have ih:=Z7H r s h'
  have e1:Xs (a::r)=(V2 a).toNat*256^r.length+Xs r:=rfl
  have e2:Xs (b::s)=(V2 b).toNat*256^r.length+Xs s:=by rw [h'];rfl
  have e3:Xf (a::r) (b::s)=if (V2 a).toNat<(V2 b).toNat then -1 else if (V2 b).toNat<(V2 a).toNat then 1 else Xf r s:=by
   unfold Xf;simp only [K6,Lib.compareBytes,UInt8.lt_iff_toNat_lt]
  have h1:=Z6i r
  have h2:=Z6i s
  rw [<-h'] at h2
  rw [e3]
  generalize Xs (a::r)=A at*
  generalize Xs (b::s)=B at*
  generalize (V2 a).toNat=u at*
  generalize (V2 b).toNat=v at*
  generalize hM:256^r.length=M at*
  have hs:∀p q:Nat,p<q->p*M+M<=q*M:=fun p q hpq=>by
   have:(p+1)*M<=q*M:=JE _ hpq
   rw [K8,Nat.one_mul] at this
   exact this
  by_cases c1:u<v
  ·have:=hs u v c1
   rw [if_pos c1,if_pos (by omega)]
  ·rw [if_neg c1]
   by_cases c2:v<u
   ·have:=hs v u c2
    rw [if_pos c2,if_neg (by omega),if_pos (by omega)]
   ·rw [if_neg c2,ih]
    have:u=v:=by omega
    subst this
    simp only [show (A<B)=(Xs r<Xs s) from propext (by omega),show (B<A)=(Xs s<Xs r) from propext (by omega)]
structure Z9 where
 o:ZM
 id:Int
 what:Int
variable {z:Z9} {O:List Z9}
def Z9.c (m:Z9):List AV:=[.int .i64 m.o.kind,.int .i64 m.o.amount,.arr .u8 32 m.o.owner,.arr .u8 32 m.o.other,.arr .u8 32 m.o.point,.arr .u8 32 m.o.hash,.int .i64 m.o.delay,.int .i64 m.o.expiry,.int .i64 m.id,.int .i64 m.what]
structure Z9.Ok (m:Z9):Prop where
 owner:m.o.owner.length=32
 other:m.o.other.length=32
 point:m.o.point.length=32
 hash:m.o.hash.length=32
def Yq:Z9:=⟨⟨0,0,[],[],[],[],0,0⟩,0,0⟩
def Qj (a b:Int):Int:=if a<b then -1 else if b<a then 1 else 0
def Zcm (a b:Z9):Int:=
 if Qj a.o.amount b.o.amount≠0 then Qj a.o.amount b.o.amount else
 if Qj a.o.kind b.o.kind≠0 then Qj a.o.kind b.o.kind else
 if Qj a.o.expiry b.o.expiry≠0 then Qj a.o.expiry b.o.expiry else
 if Xf a.o.hash b.o.hash≠0 then Xf a.o.hash b.o.hash else Qj a.id b.id
def ltM (a b:Z9):Bool:=decide (a.o.amount<b.o.amount\/(a.o.amount=b.o.amount/\(a.o.kind<b.o.kind\/(a.o.kind=b.o.kind/\(a.o.expiry<b.o.expiry\/(a.o.expiry=b.o.expiry/\(Xs a.o.hash<Xs b.o.hash\/(Xs a.o.hash=Xs b.o.hash/\a.id<b.id))))))))
theorem U9 (a b:Int):(a<b/\Qj a b= -1)\/(b<a/\Qj a b=1)\/(a=b/\Qj a b=0):=by unfold Qj;omega
theorem Z5m {x y:LI} (h:x.length=y.length):(Xs x<Xs y/\Xf x y= -1)\/(Xs y<Xs x/\Xf x y=1)\/(Xs x=Xs y/\Xf x y=0):=by
 rw [Z7H x y h];omega
theorem ZhT {a b:Z9} (ha:a.Ok) (hb:b.Ok):decide (Zcm a b<0)=ltM a b:=by
 unfold Zcm ltM
 have h1:=U9 a.o.amount b.o.amount
 have h2:=U9 a.o.kind b.o.kind
 have h3:=U9 a.o.expiry b.o.expiry
 have h4:=Z5m (ha.hash.trans hb.hash.symm)
 have h5:=U9 a.id b.id
 rw [decide_eq_decide]
 generalize Qj a.o.amount b.o.amount=c1 at*
 generalize Qj a.o.kind b.o.kind=c2 at*
 generalize Qj a.o.expiry b.o.expiry=c3 at*
 generalize Xf a.o.hash b.o.hash=c4 at*
 generalize Qj a.id b.id=c5 at*
 generalize Xs a.o.hash=v1 at*
 generalize Xs b.o.hash=v2 at*
 omega
theorem ZeT:WO ltM where
 asym x y h:=by
  unfold ltM at*
  simp only [decide_eq_true_eq,decide_eq_false_iff_not] at*
  generalize Xs x.o.hash=v1 at*
  generalize Xs y.o.hash=v2 at*
  omega
 neg x y z h h2:=by
  unfold ltM at*
  simp only [decide_eq_true_eq,decide_eq_false_iff_not] at*
  generalize Xs x.o.hash=v1 at*
  generalize Xs y.o.hash=v2 at*
  generalize Xs z.o.hash=v3 at*
  omega
def ZW (l:List Z9):List Z9:=W1 ltM [] l
def Zs (l:List Z9) (i:Nat):List AV:=(l.getD i Yq).c
def byL:List AV:=[.func (.func 170) [] [],.func (.func 172) [] [],.func (.func 174) [] [],.func (.func 175) [] [],.func (.func 176) [] []]
theorem ZaI {a b r c:Int} {P X Y:Prop} (hr:r=if Qj a b≠0 then Qj a b else c) (hP:r=c->P):
  Z0 (a !=a) X (Z0 (b !=b) Y (Z0 (decide (a<b)) (Z0 (decide (-1=r)) True False) (Z0 (decide (a>b)) (Z0 (decide (1=r)) True False) P))):=by
 rw [bne_self_eq_false,bne_self_eq_false]
 show Z0 (decide (a<b)) _ (Z0 (decide (a>b)) _ P)
 rcases U9 a b with ⟨h1,h2⟩|⟨h1,h2⟩|⟨h1,h2⟩
 ·rw [decide_eq_true h1,hr,h2];trivial
 ·rw [decide_eq_false (by omega:¬a<b),decide_eq_true (show a>b from h1),hr,h2];trivial
 ·rw [decide_eq_false (by omega:¬a<b),decide_eq_false (show ¬a>b by omega)]
  exact hP (by rw [hr,h2];rfl)
theorem ZnA (a b:Z9) (r:Int) (ha:a.Ok) (hb:b.Ok) (hr:r=Zcm a b):
  evF G0 20 241 [.agg a.c,.agg b.c,.pview [.vrows 1 5 (Yg byL 0 1) 5] 0] ⟨0,[]⟩ (ZK 0 (.ret (.int .i64 r)) 0 []):=by
 refine @Eq.mpr _ (let n:=a.o;let j:=n.amount;let i:=b.o;let h:=i.amount;let q:=h !=h;let g:=n.kind;let f:=i.kind;let p:=f !=f;let e:=n.expiry;let m:=i.expiry;let A:=m !=m;let z:=n.hash;let y:=i.hash;let x:=Xf z y;let l:=a.id;let k:=b.id;let w:=k !=k;let v:=Z0 (decide (0=r)) True False;let d:=Z0 (decide (-1=r)) True False;let c:=Z0 (decide (1=r)) True False;let u:=Z0 (decide (u8=u8/\z.length=32)) (Z0 (decide (u8=u8/\y.length=32)) (Z0 (x !=0) (Z0 (decide (x=r)) True False) (Z0 (l !=l) (Z0 w v d) (Z0 w c (Z0 (decide (l<k)) d (Z0 (decide (l>k)) c v))))) False) False;let t:=Z0 (e !=e) (Z0 A u d) (Z0 A c (Z0 (decide (e<m)) d (Z0 (decide (e>m)) c u)));let s:=Z0 (g !=g) (Z0 p t d) (Z0 p c (Z0 (decide (g<f)) d (Z0 (decide (g>f)) c t)));
 Z0 (j !=j) (Z0 q s d) (Z0 q c (Z0 (decide (j<h)) d (Z0 (decide (j>h)) c s)))) (by kernel_rfl) ?_
 conv=>zeta
 unfold Zcm at hr
 refine ZaI hr fun hr=>ZaI hr fun hr=>ZaI hr fun hr=> ?_
 rw [decide_eq_true (show u8=u8/\a.o.hash.length=32 from ⟨rfl,ha.hash⟩),decide_eq_true (show u8=u8/\b.o.hash.length=32 from ⟨rfl,hb.hash⟩)]
 show Z0 (Xf a.o.hash b.o.hash !=0) _ _
 by_cases h:Xf a.o.hash b.o.hash=0
 ·rw [h]
  rw [if_neg (by simp [h])] at hr
  refine ZaI (c:=0) ?_ fun hr=>by rw [hr];trivial
  rw [hr];split<;>simp_all
 ·rw [if_pos h] at hr
  rw [bne_iff_ne.2 h,hr,decide_eq_true rfl];trivial
def ZnB:ZF:=fun args h K=>ZG none h true 20 args fun a=>match a with
 | [.agg ca,.agg cb,.pview [.vrows 1 5 f 5] 0]=>∃a b,ca=Z9.c a/\cb=Z9.c b/\f=Yg byL 0 1/\(a.Ok/\b.Ok)/\K (.int .i64 (Zcm a b))
 | _=>False
theorem ZhU (args:List AV) (h:Z8) (K:AV->Prop) (hl:ZnB args h K):Zd PP 241 args h fun o h'=>∃v,o=.ret v/\h'=h/\K v:=by
 refine Zx.psumm (d:=20) (Zq _ _ _ _ _ hl fun a ha=> ?_)
 split at ha
 ·obtain ⟨a,b,rfl,rfl,rfl,⟨h1,h2⟩,hK⟩:=ha
  exact ⟨_,.evM Zr (ZnA a b _ h1 h2 rfl),fun _=>rfl,hK⟩
 ·exact ha.elim
theorem and_mk {a b:Bool} (h1:a=true) (h2:b=true):(a&&b)=true:=by rw [h1,h2];rfl
theorem ZeU {E:Env} {w:World} {sz n:Nat} {g:Nat->List AV} (hg:∀i,i<n->g' i=g i) (he:Emb E ⟨1,[(0,.rows sz n g')]⟩ w):Emb E ⟨1,[(0,.rows sz n g)]⟩ w:=by
 have hget:∀(f:Nat->List AV) x B,(Z8.mk 1 [(0,.rows sz n f)]).get x=some B->x=0/\B=.rows sz n f:=fun f x B hx=>by
  grind [Z8.get,ZZ,J0]
 have h0:∀f:Nat->List AV,(Z8.mk 1 [(0,.rows sz n f)]).get 0=some (.rows sz n f):=fun f=>rfl
 refine ⟨he.fresh,fun x B hx=> ?_,fun x B hx=> ?_,fun x y B B' b N N' hx hy h1 h2=> ?_,he.imm,fun a c x B N hi hx hb=> ?_⟩
 ·grind
 ·obtain ⟨rfl,rfl⟩:=hget _ _ _ hx
  have:=he.own 0 _ (h0 g')
  cases this with
  | rows0 _ _ _ hn hb=>exact .rows0 _ _ _ hn hb
  | rows _ _ _ b cells elem fr gv hb hw hf hc hl hv=>exact .rows _ _ _ b cells elem fr gv hb hw hf (fun i hi=>hg i hi▸hc i hi) hl hv
 ·grind
 ·obtain ⟨rfl,rfl⟩:=hget _ _ _ hx
  exact he.sep a c 0 _ N hi (h0 g') hb
theorem Spec.rows {P:Program} {f:FuncId} {sz n:Nat} {g:Nat->List AV} {o:Out} {bs:List (Nat×Blk)} (hg:∀i,i<n->g' i=g i) (h:Spec P f args ⟨1,[(0,.rows sz n g)]⟩ o nx bs):Spec P f args ⟨1,[(0,.rows sz n g')]⟩ o nx bs:=by
 intro E w rs he hl
 have he':=ZeU hg he
 refine (h E w rs he' hl).mono ?_
 rintro e w' ⟨E',hev,ho⟩
 have own:∀b,Xu E ⟨1,[(0,.rows sz n g)]⟩ b↔Xu E ⟨1,[(0,.rows sz n g')]⟩ b:=fun b=>by
  grind [Xu,Z8.get,ZZ]
 exact ⟨E',⟨hev.le,hev.emb,hev.size,hev.os,hev.tape,hev.output,fun b hb hn=>hev.keep b hb (fun h=>hn ((own b).1 h)),fun b hb=>(hev.own b hb).imp (own b).1 id,hev.imm⟩,ho⟩
noncomputable def E82:Za:=G0.withP 241 ZnB
theorem ZeV:E82.Ok:=Za.withP_ok Zr ZhU
def ZhV:AV:=.func (.func 241) [] [.pview [.vrows 1 5 (Yg byL 0 1) 5] 0]
def isH (n:Nat) (L:List Z9):Z8:=⟨1,[(0,.rows 134 n (Zs L))]⟩
def isT (n lo:Nat) (A B:Int) (l:Y2):Y2:=l++[(2,.int .i64 B),(1,.int .i64 A),(3,ZhV),(0,.nslice ⟨0,0,134,0,0⟩ 134 n lo)]
def Z4m (n lo:Nat) (A B I:Int) (L:List Z9):St:=⟨53,isT n lo A B [(8,.int .i64 I)],isH n L,[]⟩
def ZhW (n lo:Nat) (A B I J:Int) (L:List Z9):St:=⟨53,isT n lo A B [(9,.int .i64 J),(8,.int .i64 I)],isH n L,[]⟩
theorem XB (L:List Z9) (i:Nat):plainC (Zs L i)=true:=rfl
theorem Yf {k:Nat} {τ:Ren} {n:Nat} {L:List Z9} {f:Nat->List AV} (h:∀i,i<n->f i=Zs L i):Zu k τ n (Zs L) f:=
 Z1z h (fun i _=>XB L i) (fun i _ v hv=>by
  simp only [Zs,Z9.c,J8,Kp,or_false] at hv
  rcases hv with rfl|rfl|rfl|rfl|rfl|rfl|rfl|rfl|rfl|rfl<;>first|exact .inl rfl|exact .inr ⟨_,_,_,rfl⟩)
theorem ZaJ {L:List Z9} (h:∀m∈L,m.Ok) {i:Nat} (hi:i<L.length):(L.getD i Yq).Ok:=by
 simp_all
theorem ZeW {f:Nat->List AV} {J J1 i:Nat} {x y:List AV} (hx:x=f J) (hy:y=f J1):Z02 (Z02 f J y) J1 x i=if i=J1 then f J else if i=J then f J1 else f i:=by
 rw [Vi,Vi]
 grind [Jj,ZD]
theorem Zpw (n lo A B I J:Nat) (L L1:List Z9) (Z1 Z2:Prop) (hn:n<900000000000) (hJ:J<n) (hL:L.length=n) (hok:∀m∈L,m.Ok) (hsw:A<J->∀i,i<n->Zs L1 i=if i=J-1 then Zs L J else if i=J then Zs L (J-1) else Zs L i) (h1:A<J->ltM (L.getD J Yq) (L.getD (J-1) Yq)=true->Z1) (h2:J<=A\/ltM (L.getD J Yq) (L.getD (J-1) Yq)=false->Z2):
  ZL E82 20 293 2 1 (ZhW n lo A B I J L) (rdM 1 2 9 (ZhW n lo A B I ((J-1:Nat):Int) L1) (Z4m n lo A B I L) (Z4m n lo A B I L) (Z4m n lo A B I L) Z1 Z2 False False):=by
 refine @Eq.mpr _ (let q:=decide (0<=(↑J:Int)/\(↑J:Int)<(↑n:Int));let g:=0+Int.toNat (↑J:Int);let h:=wrap i64 ((↑J:Int)-1);let l:=decide (0<=h/\h<(↑n:Int));let f:=0+Int.toNat h;let k:=List.getD L g Yq;let d:=k.o;let r:=[AV.int i64 d.kind,AV.int i64 d.amount,AV.arr u8 32 d.owner,AV.arr u8 32 d.other,AV.arr u8 32 d.point,AV.arr u8 32 d.hash,AV.int i64 d.delay,AV.int i64 d.expiry,AV.int i64 k.id,AV.int i64 k.what];let j:=List.getD L f Yq;let e:=j.o;let z:=[AV.int i64 e.kind,AV.int i64 e.amount,AV.arr u8 32 e.owner,AV.arr u8 32 e.other,AV.arr u8 32 e.point,AV.arr u8 32 e.hash,AV.int i64 e.delay,AV.int i64 e.expiry,AV.int i64 j.id,AV.int i64 j.what];let p:=Yg byL 0 1;let y:=decide ((↑I:Int)=(↑I:Int));let x:=decide ((↑B:Int)=(↑B:Int));let w:=decide ((↑A:Int)=(↑A:Int));let v:=[AV.vrows 1 5 p 5];let u:=v=v;let i:=decide (n=n);let t:=decide (lo<=lo);let m:=Zs L;let s:=Z0 y (Z0 x (Z0 w (u/\Z0 i (Z0 t (Z0 i (Zu 1 [] n m m/\Z2) False) False) False) False) False) False;
 Z0 (decide ((↑J:Int)>(↑A:Int))) (Z0 q (Z0 (decide (g<n)) (Z0 l (Z0 (decide (f<n)) (∃(a:Z9),∃(b:Z9),r=Z9.c a/\z=Z9.c b/\p=p/\(Z9.Ok a/\Z9.Ok b)/\Z0 (decide (Zcm a b<0)) (Z0 l (Z0 (decide (f<n)) (Z0 q (Z0 (decide (g<n)) (Z0 q (Z0 (decide (g<n)) (Z0 l (Z0 (decide (f<n)) (Z0 (decide (h=(↑(J-1):Int))) (Z0 y (Z0 x (Z0 w (u/\Z0 i (Z0 t (Z0 i (Zu 1 [] n (Zs L1) (Z02 (Z02 m g z) f r)/\Z1) False) False) False) False) False) False) False) False) False) False) False) False) False) False) False) s) False) False) False) False) s) (by kernel_rfl) ?_
 conv=>zeta
 try simp only [Zc]
 try simp only [Zl]
 try simp only [Zg]
 try simp only [Zm]
 try simp only [Zn]
 try simp only [Zh]
 try simp only [Jf,true_and,J2]
 refine ⟨fun hc=> ?_,fun hc=>⟨Yf fun _ _=>rfl,h2 (.inl (by omega))⟩⟩
 have key:i64.wrap ((J:Int)-1)=((J-1:Nat):Int):=by rw [w64 (by omega)];omega
 rw [key]
 simp only [Jk]
 have o1:(L.getD J Yq).Ok:=ZaJ hok (by omega)
 have o2:(L.getD (J-1) Yq).Ok:=ZaJ hok (by omega)
 have hlt:=ZhT o1 o2
 refine ⟨by omega,by omega,by omega,by omega,L.getD J Yq,L.getD (J-1) Yq,rfl,rfl,⟨o1,o2⟩,fun hm=> ?_,fun hm=>⟨Yf fun _ _=>rfl,h2 (.inr (by grind))⟩⟩
 refine ⟨by omega,by omega,by omega,by omega,by omega,by omega,by omega,by omega,trivial,Yf fun i hi=> ?_,h1 (by omega) (by simp_all)⟩
 rw [hsw (by omega) i hi]
 exact ZeW rfl rfl
def isL (a p:List Z9) (x:Z9) (r:List Z9) (m:Nat):List Z9:=a++(p.take (p.length-m)++x::(p.drop (p.length-m)++r))
theorem ZhX {a p r:List Z9} {x:Z9} {m:Nat}:(isL a p x r m).length=a.length+p.length+1+r.length:=by
 grind [isL]
theorem ZaK {a p r:List Z9} {x:Z9} {m:Nat}:z∈isL a p x r m↔z∈a\/z∈p\/z=x\/z∈r:=by
 grind [isL,List.take_append_drop]
theorem ZeX {a p r:List Z9} {x:Z9} {m:Nat} (hm:m<=p.length):(isL a p x r m).getD (a.length+p.length-m) Yq=x:=by
 grind [isL]
theorem ZeY {a p r:List Z9} {x:Z9} {m:Nat} (hm:m<p.length):(isL a p x r m).getD (a.length+p.length-m-1) Yq=p.getD (p.length-m-1) Yq:=by
 unfold isL
 grind
theorem ZeZ {a p r:List Z9} {x:Z9} {m:Nat} (hm:m<p.length) (i:Nat):Zs (isL a p x r (m+1)) i=if i=a.length+p.length-m-1 then Zs (isL a p x r m) (a.length+p.length-m) else if i=a.length+p.length-m then Zs (isL a p x r m) (a.length+p.length-m-1) else Zs (isL a p x r m) i:=by
 unfold Zs
 rw [ZeX (by omega),ZeY hm]
 have hx:=ZeX (a:=a) (p:=p) (r:=r) (x:=x) (m:=m+1) (by omega)
 by_cases h1:i=a.length+p.length-m-1
 ·rw [if_pos h1,h1,show a.length+p.length-m-1=a.length+p.length-(m+1) by omega,hx]
 ·rw [if_neg h1]
  have e:p.length-m=(p.length-(m+1))+1:=by omega
  have hd:p.drop (p.length-(m+1))=p.getD (p.length-m-1) Yq::p.drop (p.length-m):=by
   rw [JV (by omega),show p.length-(m+1)+1=p.length-m by omega]
   grind
  have ht:p.take (p.length-m)=p.take (p.length-(m+1))++[p.getD (p.length-m-1) Yq]:=by
   grind
  have l1:(p.take (p.length-(m+1))).length=p.length-(m+1):=by rw [Ji];omega
  generalize p.getD (p.length-m-1) Yq=y at*
  have hm1:isL a p x r (m+1)=(a++p.take (p.length-(m+1)))++(x::y::(p.drop (p.length-m)++r)):=by
   unfold isL;rw [hd];simp
  have hm0:isL a p x r m=(a++p.take (p.length-(m+1)))++(y::x::(p.drop (p.length-m)++r)):=by
   unfold isL;rw [ht];simp
  rw [hm1,hm0]
  have l2:(a++p.take (p.length-(m+1))).length=a.length+p.length-m-1:=by rw [J9,l1];omega
  generalize a++p.take (p.length-(m+1))=U at*
  by_cases h2:i=a.length+p.length-m
  ·rw [if_pos h2,J5,Jg (by omega),show i-U.length=1 by omega]
   rfl
  ·rw [if_neg h2]
   rcases Jo i U.length with h3|h3
   ·rw [J5,J5,Jc h3,Jc h3]
   ·rw [J5,J5,Jg h3,Jg h3]
    obtain ⟨q,hq⟩:∃q,i-U.length=q+2:=⟨i-U.length-2,by omega⟩
    rw [hq];rfl
def isGo (p:List Z9) (x:Z9) (m:Nat):Prop:=m<p.length/\ltM x (p.getD (p.length-m-1) Yq)=true
def ZnC (p:List Z9) (x:Z9) (m:Nat):Prop:=m=p.length\/(m<p.length/\ltM x (p.getD (p.length-m-1) Yq)=false)
theorem ZhY {a p r:List Z9} {x:Z9} {m:Nat} (ho:Z3Z ltM p) (hm:m<=p.length) (hgo:∀j,j<m->isGo p x j) (hex:ZnC p x m):isL a p x r m=a++(Xn ltM x p++r):=by
 have h:=ZaH ZeT (x:=x) (l:=p) (j:=p.length-m) ho (by omega) (fun y hy=> ?_) (fun y hy hj=> ?_)
 ·unfold isL
  rw [<-h];simp
 ·obtain ⟨q,hq⟩:=JO.1 hy
  rw [Jz] at hq
  obtain ⟨hlt,he⟩:=Jy.1 hq
  have:=(hgo (p.length-1-(p.length-m+q)) (by omega)).2
  rw [J5,show p.length-(p.length-1-(p.length-m+q))-1=p.length-m+q by omega,hq] at this
  exact this
 ·rcases hex with hex|⟨_,hex⟩
  all_goals simp_all
structure IsQ where
 a:List Z9
 p:List Z9
 x:Z9
 r:List Z9
def IsQ.n (q:IsQ):Nat:=q.a.length+q.p.length+1+q.r.length
def IsQ.I (q:IsQ):Nat:=q.a.length+q.p.length
def IsQ.L (q:IsQ) (m:Nat):List Z9:=isL q.a q.p q.x q.r m
structure IsQ.Ok (q:IsQ) (n:Nat) (A:Nat):Prop where
 hn:q.n=n
 hA:q.a.length=A
 le:n<900000000000
 ok:∀m∈q.L 0,m.Ok
def IsQ.go (q:IsQ):Nat->Prop:=isGo q.p q.x
def IsQ.ex (q:IsQ):Nat->Prop:=ZnC q.p q.x
def IsQ.len (q:IsQ):Nat:=q.p.length
noncomputable def ZkJ (n lo A B:Nat):Za:=E82.withL 293 2 (Zkg fun q:IsQ=>goM 1 (ZhW n lo A B q.I q.I (q.L 0)) (q.Ok n A) (YB 2 q.len 9 q.go q.ex (fun _=>False) (fun _=>False) (fun m=>Z4m n lo A B q.I (q.L m)) (fun m=>Z4m n lo A B q.I (q.L m)) (fun m=>Z4m n lo A B q.I (q.L m))))
theorem ZhZ (n lo A B:Nat):(ZkJ n lo A B).Ok:=
 Za.withL_ex ZeV fun q=>Za.withGoM (N:=20) (S:=fun m=>ZhW n lo A B q.I ((q.I-m:Nat):Int) (q.L m)) ZeV (by kernel_rfl) fun hC=>⟨by simp,fun m hm hgo=>by
  obtain ⟨h1,h2,h3,h4⟩:=hC
  have l1:(q.L m).length=n:=by rw [<-h1];exact ZhX
  have hI:q.I=q.a.length+q.p.length:=rfl
  have hm':m<=q.p.length:=hm
  have hnn:q.n=q.a.length+q.p.length+1+q.r.length:=rfl
  have hx:(q.L m).getD (q.I-m) Yq=q.x:=ZeX hm'
  have hok:∀z∈q.L m,z.Ok:=fun z hz=>h4 z (ZaK.2 (ZaK.1 hz))
  have:=Zpw n lo A B q.I (q.I-m) (q.L m) (q.L (m+1)) (q.go m/\m<q.len) (q.ex m) h3 (by omega) l1 hok (fun hlt i hi=> ?_) (fun hlt hc=> ?_) (fun hc=> ?_)
  ·exact this
  ·have hmp:m<q.p.length:=by omega
   exact ZeZ hmp i
  ·have hmp:m<q.p.length:=by omega
   rw [hx,show (q.L m).getD (q.I-m-1) Yq=_ from ZeY hmp] at hc
   exact ⟨⟨hmp,hc⟩,hmp⟩
  ·rcases Jo m q.p.length with hmp|hmp
   ·rcases hc with hc|hc
    ·omega
    ·rw [hx,show (q.L m).getD (q.I-m-1) Yq=_ from ZeY hmp] at hc
     exact .inr ⟨hmp,hc⟩
   ·exact .inl (show m=q.p.length by omega)⟩
theorem Zpx (n lo A B I:Nat) (L L1:List Z9) (q:IsQ) (Z1 Z2:Prop) (hn:n<900000000000) (hI:I<900000000001) (hq:I<B->q.I=I/\q.L 0=L/\q.Ok n A) (hnext:I<B->∀m,m<=q.len->(∀j,j<m->q.go j)->q.ex m->L1=q.L m/\Z1) (h2:¬I<B->Z2):
  ZL (ZkJ n lo A B) 20 293 0 1 (Z4m n lo A B I L) (rdM 1 0 9 (Z4m n lo A B ((I+1:Nat):Int) L1) ⟨53,[],isH n L,[]⟩ ⟨53,[],isH n L,[]⟩ ⟨53,[],isH n L,[]⟩ Z1 Z2 False False):=by
 refine @Eq.mpr _ (let l:=decide ((↑B:Int)=(↑B:Int));let g:=decide ((↑A:Int)=(↑A:Int));let f:=[AV.vrows 1 5 (Yg byL 0 1) 5];let e:=f=f;let a:=decide (n=n);let d:=decide (lo<=lo);let b:=Zs L;
 Z0 (decide ((↑I:Int)<(↑B:Int)))
 (∃(i:IsQ),
 let k:=(↑(IsQ.I i):Int);let h:=decide ((↑I:Int)=k);
 Z0 h
 (Z0 h
 (Z0 l
 (Z0 g
 (e/\
 Z0 a
 (Z0 d
 (Z0 a
 (Zu 1 [] n (Zs (IsQ.L i 0)) b/\
 IsQ.Ok i n A/\
 ∀(i_1:Nat),
 let c:=Zs (IsQ.L i i_1);
 i_1<=IsQ.len i->(∀(j:Nat),j<i_1->IsQ.go i j)->(IsQ.ex i i_1->Z0 (decide (wrap i64 (k+1)=(↑(I+1):Int))) (Z0 l (Z0 g (e/\Z0 a (Z0 d (Z0 a (Zu 1 [] n (Zs L1) c/\Z1) False) False) False) False) False) False)/\(False->Z0 a (Zu 1 [] n b c/\False) False)/\(False->Z0 a (Zu 1 [] n b c/\False) False))
 False)
 False)
 False)
 False)
 False)
 False)
 False)
 (Z0 a (Zu 1 [] n b b/\Z2) False)) (by kernel_rfl) ?_
 conv=>zeta
 try simp only [Zc]
 try simp only [Zl]
 try simp only [Zg]
 try simp only [Zm]
 try simp only [Zn]
 try simp only [Zh]
 try simp only [true_and,J2]
 refine ⟨fun hc=> ?_,fun hc=>⟨Yf fun _ _=>rfl,h2 (by omega)⟩⟩
 obtain ⟨e1,e2,e3⟩:=hq (by omega)
 refine ⟨q,by omega,by omega,Yf (fun _ _=>by rw [e2]),e3,fun m hm hgo=>⟨fun hex=> ?_,fun h=>h.elim,fun h=>h.elim⟩⟩
 grind [w64,Yf]
structure IsP where
 a:List Z9
 M:List Z9
 c:List Z9
def IsP.L (q:IsP) (t:Nat):List Z9:=q.a++(W1 ltM [] (q.M.take (t+1))++(q.M.drop (t+1)++q.c))
def IsP.N (q:IsP):Nat:=q.M.length-1
def IsP.all (q:IsP):List Z9:=q.a++(q.M++q.c)
def IsP.done (q:IsP):List Z9:=q.a++(ZW q.M++q.c)
structure IsP.Ok (q:IsP) (n A B:Nat):Prop where
 hn:q.a.length+q.M.length+q.c.length=n
 hA:q.a.length=A
 hB:q.a.length+q.M.length=B
 le:n<900000000000
 ok:∀m∈q.all,m.Ok
theorem IsP.L0 (q:IsP):q.L 0=q.all:=by
 unfold IsP.L IsP.all
 cases h:q.M with
 | nil=>rfl
 | cons x r=>rfl
theorem IsP.LN (q:IsP):q.L q.N=q.done:=by
 unfold IsP.L IsP.done IsP.N
 rw [Ju (by omega),List.drop_of_length_le (by omega)];rfl
theorem Zcn {l acc:List Z9}:z∈W1 ltM acc l↔z∈acc\/z∈l:=by
 rw [(Us (lt:=ltM)).mem_iff,JW]
noncomputable def ZnD (q:IsP) (n lo A B:Nat):Za:=(ZkJ n lo A B).withL 293 0 (goM 1 (Z4m n lo A B ((A+1:Nat):Int) (q.L 0)) (q.Ok n A B) (YB 0 q.N 9 (fun t=>t<q.N) (fun t=>t=q.N) (fun _=>False) (fun _=>False) (fun t=>⟨53,[],isH n (q.L t),[]⟩) (fun t=>⟨53,[],isH n (q.L t),[]⟩) (fun t=>⟨53,[],isH n (q.L t),[]⟩)))
theorem Zi0 (q:IsP) (n lo A B:Nat):(ZnD q n lo A B).Ok:=
 Za.withGoM (N:=20) (S:=fun t=>Z4m n lo A B ((A+1+t:Nat):Int) (q.L t)) (ZhZ n lo A B) (by kernel_rfl) fun hC=>⟨rfl,fun t ht hgo=>by
  obtain ⟨h1,h2,h3,h4,h5⟩:=hC
  have hN:q.N=q.M.length-1:=rfl
  have:=Zpx n lo A B (A+1+t) (q.L t) (q.L (t+1)) ⟨q.a,W1 ltM [] (q.M.take (t+1)),q.M.getD (t+1) Yq,q.M.drop (t+2)++q.c⟩ (t<q.N/\t<q.N) (t=q.N) h4 (by omega) (fun hlt=> ?_) (fun hlt m hm hg he=> ?_) (fun hc=>by omega)
  ·exact this
  ·have hl:(W1 ltM [] (q.M.take (t+1))).length=t+1:=by rw [Z5l,Ji];simp;omega
   have e0:q.L t=isL q.a (W1 ltM [] (q.M.take (t+1))) (q.M.getD (t+1) Yq) (q.M.drop (t+2)++q.c) 0:=by
    unfold isL IsP.L
    rw [Nat.sub_zero,Jv,List.drop_length,JV (show t+1<q.M.length by omega),J5,Jd (show t+1<q.M.length by omega)]
    rfl
   refine ⟨?_,e0.symm, ?_,h2,h4,fun z hz=> ?_⟩
   ·show q.a.length+(W1 ltM [] (q.M.take (t+1))).length=_
    omega
   ·show q.a.length+(W1 ltM [] (q.M.take (t+1))).length+1+(q.M.drop (t+2)++q.c).length=n
    rw [hl,J9,Jb];omega
   ·have hz:z∈isL q.a (W1 ltM [] (q.M.take (t+1))) (q.M.getD (t+1) Yq) (q.M.drop (t+2)++q.c) 0:=hz
    grind [IsP.L,IsP.all,Zcn]
  ·refine ⟨?_,by omega⟩
   have:=ZhY (a:=q.a) (r:=q.M.drop (t+2)++q.c) (x:=q.M.getD (t+1) Yq) (m:=m) (Z5k ZeT (l:=q.M.take (t+1)) (acc:=[]) .nil) hm hg he
   show _=isL q.a _ _ _ m
   rw [this]
   unfold IsP.L
   have e2:q.M.take (t+1+1)=q.M.take (t+1)++[q.M.getD (t+1) Yq]:=by
    rw [List.take_succ_eq_append_getElem (by omega),J5,Jd (show t+1<q.M.length by omega)]
    rfl
   rw [e2,Z41]⟩
theorem ZnE (q:IsP) (n lo A B:Nat) (L0 L1:List Z9) (hq:q.Ok n A B) (hL:L0=q.all) (hL1:L1=q.done):
  evF (ZnD q n lo A B) 20 293 [.nslice ⟨0,0,134,0,0⟩ 134 n lo,.int .i64 A,.int .i64 B,ZhV] (isH n L0) (ZK 1 (.ret (.tuple [])) 1 [(0,.rows 134 n (Zs L1))]):=by
 refine @Eq.mpr _ (let d:=[AV.vrows 1 5 (Yg byL 0 1) 5];let b:=decide (n=n);let a:=IsP.N q;
 Z0 (decide (wrap i64 ((↑A:Int)+1)=(↑(A+1):Int)))
 (Z0 (decide ((↑B:Int)=(↑B:Int)))
 (Z0 (decide ((↑A:Int)=(↑A:Int)))
 (d=d/\
 Z0 b
 (Z0 (decide (lo<=lo))
 (Z0 b
 (Zu 1 [] n (Zs (IsP.L q 0)) (Zs L0)/\
 IsP.Ok q n A B/\
 ∀(i:Nat),
 let c:=Z0 b (Zu 1 [] n (Zs L1) (Zs (IsP.L q i))/\True) False;
 i<=a->(∀(j:Nat),j<i->(fun (t:Nat)=>t<a) j)->(i=a->c)/\(False->c)/\(False->False))
 False)
 False)
 False)
 False)
 False)
 False) (by kernel_rfl) ?_
 conv=>zeta
 try simp only [Zc]
 try simp only [Zl]
 try simp only [Zg]
 try simp only [Zm]
 try simp only [Zn]
 try simp only [Zh]
 try simp only [true_and,and_true,J2]
 refine ⟨by rw [w64 (by have:=hq.hn;have:=hq.hA;have:=hq.le;omega)];omega,Yf (fun _ _=>by rw [hL,q.L0]),hq,fun i hi hg=>⟨fun he=> ?_,fun h=>h.elim,fun h=>h.elim⟩⟩
 subst he
 exact Yf fun _ _=>by rw [hL1,q.LN]
def isF:ZQ:=fun args h K=>match args with
 | .nslice p esz len lo::r=>frA [p.blk] h 20 (.nslice p esz len lo::r) fun Bs a=>match Bs,a with
  | [.rows 134 m f],[.nslice ⟨0,0,134,0,0⟩ 134 n lo,.int .i64 A,.int .i64 B,.func (.func 241) [] [.pview [.vrows 1 5 g 5] 0]]=>∃(q:IsP) (a b:Nat),(m=n/\A=(a:Int)/\B=(b:Int))/\q.Ok n a b/\g=Yg byL 0 1/\f=Zs q.all/\K (.ret (.tuple [])) ⟨h.next,(p.blk,.rows 134 n (Zs q.done))::Yc h.bs p.blk⟩
  | _,_=>False
 | _=>False
theorem ZkK (args:List AV) (h:Z8) (K:KO) (hl:isF args h K):Zd PP 293 args h K:=by
 unfold isF at hl
 split at hl
 ·rename_i p esz len lo r
  refine Spec.fsumm (σ:=[p.blk]) (d:=20) hl fun Bs a₀ hlen h0=> ?_
  split at h0
  ·obtain ⟨q,a,b,⟨rfl,rfl,rfl⟩,hq,rfl,rfl,hK⟩:=h0
   exact ⟨_,_,_,_,_,.evM (Zi0 _ _ _ _ _) (ZnE q _ _ a b _ _ hq rfl rfl),J2 1,.ret _ _ rfl,.cons 0 _ _ _ _ _ rfl (.rows _ _ _ fun i _=>XB _ i) .nil,hK⟩
  simp_all
 simp_all
def noF:ZQ:=fun _ _ _=>False
theorem ZkL {f:FuncId} (args:List AV) (h:Z8) (K:KO) (hl:noF args h K):Zd PP f args h K:=hl.elim
noncomputable def Z9v:Za:=(G0.withF 293 isF).withF 294 noF
theorem ZaL:Z9v.Ok:=Za.withF_ok (Za.withF_ok Zr ZkK) ZkL
def ssT (n lo:Nat) (l:Y2):Y2:=l++[(2,ZhV),(1,.int .i64 n),(0,.nslice ⟨0,0,134,0,0⟩ 134 n lo)]
def Zf0 (n lo:Nat) (L:List Z9):St:=⟨63,ssT n lo [(8,.int .i64 20),(7,.int .i64 0),(6,.int .i64 20)],isH n L,[]⟩
def Z6j (n lo:Nat) (L:List Z9):St:=⟨63,ssT n lo [(7,.int .i64 0),(6,.int .i64 20)],isH n L,[]⟩
def Zf1 (n lo:Nat) (L:List Z9):St:=⟨63,ssT n lo [(6,.int .i64 20)],isH n L,[]⟩
def Z6k (n lo:Nat) (L:List Z9):St:=⟨63,[],isH n L,[]⟩
theorem Zpy (n lo:Nat) (L:List Z9) (Z:Prop) (hn:n<20) (hZ:Z):
  ZL Z9v 20 276 0 1 (Zf0 n lo L) (rdM 1 0 9 (Zf0 n lo L) (Z6j n lo L) (Z6j n lo L) (Z6j n lo L) False Z False False):=by
 refine @Eq.mpr _ (let d:=Yg byL 0 1;let c:=Zs L;let f:=[AV.vrows 1 5 d 5];let e:=decide (n=n);
 Z0 (decide (20<=(↑n:Int))) ((∀(i:Nat),i<n->true=true)/\∃(q:IsP),∃(a:Nat),∃(b:Nat),(n=n/\0=(↑a:Int)/\20=(↑b:Int))/\IsP.Ok q n a b/\d=d/\c=Zs (IsP.all q)/\False) (f=f/\Z0 (decide ((↑n:Int)=(↑n:Int))) (Z0 e (Z0 (decide (lo<=lo)) (Z0 e (Zu 1 [] n c c/\Z) False) False) False) False)) (by kernel_rfl) ?_
 conv=>zeta
 try simp only [Zc]
 try simp only [Zl]
 try simp only [Zg]
 try simp only [Zm]
 try simp only [Zn]
 try simp only [Zh]
 try simp only [and_true]
 grind [Yf]
theorem Zpz (n lo:Nat) (L:List Z9) (Z:Prop) (hn:n<20) (hZ:Z):
  ZL Z9v 20 276 2 1 (Zf1 n lo L) (rdM 1 2 9 (Zf1 n lo L) (Z6k n lo L) (Z6k n lo L) (Z6k n lo L) False Z False False):=by
 refine @Eq.mpr _ (Z0 (decide (20<(↑n:Int))) (Z0 (decide (40<=(↑n:Int))) False (Z0 (decide (20<(↑n:Int))) False False)) (Z0 (decide (n=n)) (Zu 1 [] n (Zs L) (Zs L)/\Z) False)) (by kernel_rfl) ?_
 try simp only [Zc]
 try simp only [Zl]
 try simp only [Zg]
 try simp only [Zm]
 try simp only [Zn]
 try simp only [Zh]
 try simp only [and_true]
 grind [Yf]
noncomputable def ZnF (n lo:Nat) (L L1:List Z9):Za:=(Z9v.withL 276 0 (goM 1 (Zf0 n lo L) (n<20) (YB 0 0 9 (fun _=>False) (fun _=>True) (fun _=>False) (fun _=>False) (fun _=>Z6j n lo L) (fun _=>Z6j n lo L) (fun _=>Z6j n lo L)))).withL 276 2 (goM 1 (Zf1 n lo L1) (n<20) (YB 2 0 9 (fun _=>False) (fun _=>True) (fun _=>False) (fun _=>False) (fun _=>Z6k n lo L1) (fun _=>Z6k n lo L1) (fun _=>Z6k n lo L1)))
theorem Zi1 (n lo:Nat) (L L1:List Z9):(ZnF n lo L L1).Ok:=by
 have h0:(Z9v.withL 276 0 _).Ok:=Za.withGoM (N:=20) (S:=fun _=>Zf0 n lo L) (S0:=Zf0 n lo L) (C:=n<20) (n:=0) (l:=9) (go:=fun _=>False) (ex:=fun _=>True) (re:=fun _=>False) (jm:=fun _=>False) (En:=fun _=>Z6j n lo L) (Rn:=fun _=>Z6j n lo L) (Jn:=fun _=>Z6j n lo L) ZaL (by kernel_rfl) fun hC=>⟨rfl,fun t _ _=>(by
  have:=Zpy n lo L True hC trivial
  simpa only [false_and] using this)⟩
 have h2:(Z9v.withL 276 2 _).Ok:=Za.withGoM (N:=20) (S:=fun _=>Zf1 n lo L1) (S0:=Zf1 n lo L1) (C:=n<20) (n:=0) (l:=9) (go:=fun _=>False) (ex:=fun _=>True) (re:=fun _=>False) (jm:=fun _=>False) (En:=fun _=>Z6k n lo L1) (Rn:=fun _=>Z6k n lo L1) (Jn:=fun _=>Z6k n lo L1) ZaL (by kernel_rfl) fun hC=>⟨rfl,fun t _ _=>(by
  have:=Zpz n lo L1 True hC trivial
  simpa only [false_and] using this)⟩
 exact Za.withL_join (H:=Z9v) h0 rfl h2
theorem ZpA (n lo:Nat) (L L1:List Z9) (hn:n<20) (hl:L.length=n) (hok:∀m∈L,m.Ok) (hL:L1=ZW L):
  evF (ZnF n lo L L1) 20 240 [.nslice ⟨0,0,134,0,0⟩ 134 n lo,ZhV] (isH n L) (ZK 1 (.ret (.tuple [])) 1 [(0,.rows 134 n (Zs L1))]):=by
 refine @Eq.mpr _ (let f:=Yg byL 0 1;let m:=[AV.vrows 1 5 f 5];let l:=m=m;let k:=decide ((↑n:Int)=(↑n:Int));let c:=decide (n=n);let h:=decide (lo<=lo);let e:=Zs L;let d:=Zs L1;let g:=Z0 c (Zu 1 [] n d d/\True) False;
 l/\Z0 k (Z0 c (Z0 h (Z0 c (Zu 1 [] n e e/\n<20/\∀(i:Nat),i<=0->(∀(j:Nat),j<i->(fun (x:Nat)=>False) j)->(True->(∀(i:Nat),i<n->true=true)/\∃(q:IsP),∃(a:Nat),∃(b:Nat),(n=n/\0=(↑a:Int)/\(↑n:Int)=(↑b:Int))/\IsP.Ok q n a b/\f=f/\e=Zs (IsP.all q)/\l/\Z0 k (Z0 c (Z0 h (Z0 c (Zu 1 [] n d (Zs (IsP.done q))/\n<20/\∀(i:Nat),i<=0->(∀(j:Nat),j<i->(fun (x:Nat)=>False) j)->(True->g)/\(False->g)/\(False->False)) False) False) False) False)/\(False->Z0 c (Zu 1 [] n d e/\True) False)/\(False->False)) False) False) False) False) (by kernel_rfl) ?_
 conv=>zeta
 try simp only [Zc]
 try simp only [Zl]
 try simp only [Zg]
 try simp only [Zm]
 try simp only [Zn]
 try simp only [Zh]
 try simp only [true_and,and_true,J2]
 refine ⟨Yf fun _ _=>rfl,hn,fun i _ _=>⟨fun _=>⟨fun _ _=>trivial,⟨[],L,[]⟩,0,n,⟨rfl,rfl⟩,⟨by simp [hl],rfl,by simp [hl],by omega,fun m hm=>hok m (by simpa [IsP.all] using hm)⟩,by simp [IsP.all],Yf fun _ _=>by simp [IsP.done,hL],hn,fun j _ _=>⟨fun _=>Yf fun _ _=>rfl,fun h=>h.elim,fun h=>h.elim⟩⟩,fun h=>h.elim,fun h=>h.elim⟩⟩
def stF:ZQ:=fun args h K=>match args with
 | .nslice p esz len lo::r=>frA [p.blk] h 20 (.nslice p esz len lo::r) fun Bs a=>match Bs,a with
  | [.rows 134 m f],[.nslice ⟨0,0,134,0,0⟩ 134 n lo,.func (.func 241) [] [.pview [.vrows 1 5 g 5] 0]]=>∃(L:List Z9),(m=n/\n<20/\L.length=n)/\(∀m∈L,m.Ok)/\g=Yg byL 0 1/\f=Zs L/\K (.ret (.tuple [])) ⟨h.next,(p.blk,.rows 134 n (Zs (ZW L)))::Yc h.bs p.blk⟩
  | _,_=>False
 | _=>False
theorem ZkM (args:List AV) (h:Z8) (K:KO) (hl:stF args h K):Zd PP 240 args h K:=by
 unfold stF at hl
 split at hl
 ·rename_i p esz len lo r
  refine Spec.fsumm (σ:=[p.blk]) (d:=20) hl fun Bs a₀ hlen h0=> ?_
  split at h0
  ·obtain ⟨L,⟨rfl,hn,hll⟩,hok,rfl,rfl,hK⟩:=h0
   exact ⟨_,_,_,_,_,.evM (Zi1 _ _ _ _) (ZpA _ _ L _ hn hll hok rfl),J2 1,.ret _ _ rfl,.cons 0 _ _ _ _ _ rfl (.rows _ _ _ fun i _=>XB _ i) .nil,hK⟩
  simp_all
 simp_all
noncomputable def ZnG:Za:=G0.withF 240 stF
theorem Zi2:ZnG.Ok:=Za.withF_ok Zr ZkM
theorem ZnH (n lo:Nat) (L L1:List Z9) (hn:n<20) (hl:L.length=n) (hok:∀m∈L,m.Ok) (hL:L1=ZW L):
  evF ZnG 20 88 [.nslice ⟨0,0,134,0,0⟩ 134 n lo] (isH n L) (ZK 1 (.ret (.nslice ⟨0,0,134,0,0⟩ 134 n lo)) 1 [(0,.rows 134 n (Zs L1))]):=by
 refine @Eq.mpr _ (let a:=decide (n=n);
 (∀(i:Nat),i<n->true=true)/\∃(L_1:List Z9),(n=n/\n<(20:Nat)/\L_1.length=n)/\(∀(m:Z9),List.Mem m L_1->Z9.Ok m)/\Yg [AV.func (Fn.func (170:Nat)) [] [],AV.func (Fn.func (172:Nat)) [] [],AV.func (Fn.func (174:Nat)) [] [],AV.func (Fn.func (175:Nat)) [] [],AV.func (Fn.func (176:Nat)) [] []] (0:Nat) (1:Nat)=Yg byL (0:Nat) (1:Nat)/\Zs L=Zs L_1/\Z0 a (Z0 (decide (lo<=lo)) (Z0 a (Zu (1:Nat) [] n (Zs L1) (Zs (ZW L_1))/\True) False) False) False) (by kernel_rfl) ?_
 conv=>zeta
 try simp only [Zc]
 try simp only [Zl]
 try simp only [Zg]
 try simp only [Zm]
 try simp only [Zn]
 try simp only [Zh]
 try simp only [true_and,and_true,J2]
 exact ⟨fun _ _=>trivial,L,⟨hn,hl⟩,hok,rfl,rfl,Yf fun _ _=>by rw [hL]⟩
theorem ZpB (X:Nat) (hn:X=X):
  evF G0 20 88 [.nilslice] ⟨0,[]⟩ (ZK 0 (.ret .nilslice) 0 []):=by
 refine @Eq.mpr _ (True) (by kernel_rfl) ?_
 trivial
def orF:ZQ:=fun args h K=>match args with
 | [.nilslice]=>K (.ret .nilslice) h
 | [.nslice p esz len lo]=>frA [p.blk] h 20 [.nslice p esz len lo] fun Bs a=>match Bs,a with
  | [.rows 134 m f],[.nslice ⟨0,0,134,0,0⟩ 134 n lo]=>∃(L:List Z9),(m=n/\n<20/\L.length=n)/\(∀m∈L,m.Ok)/\(∀i,i<n->f i=Zs L i)/\K (.ret (.nslice ⟨p.blk,0,134,0,0⟩ 134 n lo)) ⟨h.next,(p.blk,.rows 134 n (Zs (ZW L)))::Yc h.bs p.blk⟩
  | _,_=>False
 | _=>False
theorem ZkN (args:List AV) (h:Z8) (K:KO) (hl:orF args h K):Zd PP 88 args h K:=by
 unfold orF at hl
 split at hl
 ·exact (Zx.evM Zr (ZpB 0 rfl)).calls (fun E w rs he hr=>by
   cases hr with
   | cons v r vs rs h1 h2=>cases h2;exact .cons _ _ _ _ (h1.plain rfl) .nil) rfl trivial hl
 ·rename_i p esz len lo
  refine Spec.fsumm (σ:=[p.blk]) (d:=20) hl fun Bs a₀ hlen h0=> ?_
  split at h0
  ·obtain ⟨L,⟨rfl,hn,hll⟩,hok,hf,hK⟩:=h0
   exact ⟨_,_,_,_,_,.rows hf (.evM Zi2 (ZnH _ _ L _ hn hll hok rfl)),J2 1,.ret _ _ rfl,.cons 0 _ _ _ _ _ rfl (.rows _ _ _ fun i _=>XB _ i) .nil,hK⟩
  simp_all
 simp_all
structure Z9.Okb (m:Z9):Prop where
 ok:m.Ok
 hb:Bytes m.o.hash
theorem ZpC (a b:Z9) (r:Bool) (ha:a.Okb) (hb:b.Okb) (hr:r=ltM a b):
  evF (G0.withP 204 ZeS) 20 205 [.agg a.c,.agg b.c] ⟨0,[]⟩ (Xr (fun v=>v=.bool r)):=by
 refine @Eq.mpr _ (let e:=a.o;let m:=e.amount;let d:=b.o;let l:=d.amount;let c:=AV.bool r;let k:=e.kind;let j:=d.kind;let i:=e.expiry;let h:=d.expiry;let g:=e.hash;let f:=d.hash;let n:=Xf g f;
 Z0 (m !=l) (AV.bool (decide (m<l))=c) (Z0 (k !=j) (AV.bool (decide (k<j))=c) (Z0 (i !=h) (AV.bool (decide (i<h))=c) ((g.length=32/\f.length=32)/\Bytes g/\Bytes f/\Z0 (n !=0) (AV.bool (decide (n<0))=c) (AV.bool (decide (a.id<b.id))=c))))) (by kernel_rfl) ?_
 conv=>zeta
 try simp only [Zc]
 try simp only [Zl]
 try simp only [Zg]
 try simp only [Zm]
 try simp only [Zn]
 try simp only [Zh]
 try simp only [and_true]
 have h4:=Z5m (ha.ok.hash.trans hb.ok.hash.symm)
 have k1:=ha.ok.hash
 have k2:=hb.ok.hash
 have k3:=ha.hb
 have k4:=hb.hb
 subst hr
 unfold ltM
 refine ⟨fun h1=> ?_,fun h1=>⟨fun h2=> ?_,fun h2=>⟨fun h3=> ?_,fun h3=>⟨⟨k1,k2⟩,k3,k4,fun h5=> ?_,fun h5=> ?_⟩⟩⟩⟩
 all_goals
  simp only [bne_iff_ne,bne_eq_false_iff_eq] at*
  congr 1
  rw [decide_eq_decide]
  omega
def Zf2:ZF:=fun args _ K=>match args with
 | [.agg ca,.agg cb]=>∃a b,ca=Z9.c a/\cb=Z9.c b/\(a.Okb/\b.Okb)/\K (.bool (ltM a b))
 | _=>False
theorem Zf3 (args:List AV) (h:Z8) (K:AV->Prop) (hl:Zf2 args h K):Zd PP 205 args h fun o h'=>∃v,o=.ret v/\h'=h/\K v:=by
 unfold Zf2 at hl
 split at hl
 ·obtain ⟨a,b,rfl,rfl,⟨h1,h2⟩,hK⟩:=hl
  exact YD (Za.withP_ok Zr ZaG) rfl (ZpC a b _ h1 h2 rfl) (fun u hu=>hu▸hK)
 simp_all
def WE (m:Z9) (s:List Z9×Bool) (x:Z9):List Z9×Bool:=match !s.2&&ltM m x with
 | true=>(s.1++[m]++[x],true)
 | false=>(s.1++[x],s.2)
def puN (m:Z9) (L:List Z9) (i:Nat):List Z9×Bool:=(L.take i).foldl (WE m) ([],false)
def ZaM (m:Z9) (s:List Z9×Bool):List Z9:=match s.2 with
 | true=>s.1
 | false=>s.1++[m]
theorem Z7I (m:Z9) (L:List Z9) {i:Nat} (hi:i<L.length):puN m L (i+1)=WE m (puN m L i) (L.getD i Yq):=by
 grind [puN,List.take_succ_eq_append_getElem]
theorem Z7J (m:Z9):∀(L O:List Z9),L.foldl (WE m) (O,true)=(O++L,true)
 | [],O=>by simp
 | x::r,O=>by
  rw [List.foldl_cons]
  simp_all [WE,Z7J]
theorem ZaN (m:Z9):∀(L O:List Z9),ZaM m (L.foldl (WE m) (O,false))=O++Xn ltM m L
 | [],O=>rfl
 | x::r,O=>by
  rw [List.foldl_cons]
  unfold Xn
  cases h:ltM m x with
  | true=>
   have:WE m (O,false) x=(O++[m]++[x],true):=by unfold WE;rw [h];rfl
   rw [this,Z7J]
   simp [ZaM]
  | false=>
   have:WE m (O,false) x=(O++[x],false):=by unfold WE;rw [h];rfl
   rw [this,ZaN m r]
   simp
theorem Zi3 (m:Z9) (L:List Z9):ZaM m (puN m L L.length)=Xn ltM m L:=by
 simp_all [puN,ZaN]
theorem Zlx {P:List Z9} {c i:Nat} (hc:O.length=c):Y3 c (Zs O) (Zs P) i=Zs (O++P) i:=by
 grind [Zs,Z2l,QB]
theorem Z6l (m:Z9) (L:List Z9):∀i,i<=L.length->(puN m L i).1.length<=i+1/\((puN m L i).2=false->(puN m L i).1.length=i)
 | 0,_=>by simp [puN]
 | i+1,h=>by
  obtain ⟨h1,h2⟩:=Z6l m L i (by omega)
  rw [Z7I m L (by omega)]
  unfold WE
  cases hd:(puN m L i).2 with
  | true=>simp;omega
  | false=>
   have:=h2 hd
   cases ltM m (L.getD i Yq)<;>simp<;>omega
def puS (n:Nat) (L:List Z9) (m:Z9) (i c:Nat) (D:Bool) (O:List Z9):St:=⟨42,[(7,.int .i64 i),(0,.vrows 134 n (Zs L) n),(6,.bool D),(3,.ptr (some ⟨0,0,0,0,0⟩)),(5,.nslice ⟨1,0,134,0,0⟩ 134 c c)],⟨2,[(0,.flat m.c),(1,.rows 134 c (Zs O))]⟩,[]⟩
def puE (m:Z9) (c:Nat) (D:Bool) (O:List Z9):St:=⟨42,[(6,.bool D),(3,.ptr (some ⟨0,0,0,0,0⟩)),(5,.nslice ⟨1,0,134,0,0⟩ 134 c c)],⟨2,[(0,.flat m.c),(1,.rows 134 c (Zs O))]⟩,[]⟩
noncomputable def E84:Za:=G0.withP 205 Zf2
theorem ZkO:E84.Ok:=Za.withP_ok Zr Zf3
theorem Wk {f:Nat->List AV} {x:Z9} {c i:Nat} (hc:O.length=c) (hf:∀i,i<c->f i=Zs O i) (hi:i<c+1):Y3 c f (Yg (Z9.c x) 0 134) i=Zs (O++[x]) i:=by
 rcases Jo i c with h|h
 ·rw [Z2l h,hf i h]
  unfold Zs
  rw [J5,J5,Jc (by omega)]
 ·have e:i=c:=by omega
  subst e
  rw [QB (J2 _),Nat.sub_self]
  unfold Zs
  rw [J5,Jg (by omega),hc,Nat.sub_self]
  rfl
theorem ZpD (n i c c1:Nat) (L O O1:List Z9) (m:Z9) (D D1:Bool) (Z1 Z2:Prop) (hn:n<1000) (hL:L.length=n) (hi:i<=n) (hO:O.length=c) (hci:c<=i+1) (hm:m.Okb) (hok:∀x∈L,x.Okb) (h1:i<n->WE m (O,D) (L.getD i Yq)=(O1,D1)) (hc1:c1=O1.length) (hZ1:i<n->Z1) (hZ2:i=n->Z2):
  ZL E84 20 122 0 0 (puS n L m i c D O) (rdM 0 0 9 (puS n L m (i+1) c1 D1 O1) (puE m c D O) (puE m c D O) (puE m c D O) Z1 Z2 False False):=by
 refine @Eq.mpr _ (let M:=decide (0<=(↑i:Int)/\(↑i:Int)<(↑n:Int));let d:=m.o;let z:=d.kind;let s:=d.amount;let r:=d.owner;let q:=d.other;let p:=d.point;let l:=d.hash;let k:=d.delay;let K:=d.expiry;let J:=m.id;let I:=m.what;let W:=[AV.int i64 z,AV.int i64 s,AV.arr u8 32 r,AV.arr u8 32 q,AV.arr u8 32 p,AV.arr u8 32 l,AV.int i64 k,AV.int i64 K,AV.int i64 J,AV.int i64 I];let H:=List.getD L (Int.toNat (↑i:Int)) Yq;let e:=H.o;let V:=[AV.int i64 e.kind,AV.int i64 e.amount,AV.arr u8 32 e.owner,AV.arr u8 32 e.other,AV.arr u8 32 e.point,AV.arr u8 32 e.hash,AV.int i64 e.delay,AV.int i64 e.expiry,AV.int i64 H.id,AV.int i64 H.what];let j:=decide (c=c);let f:=c+1;let U:=decide (f*176<=140737488355328);let G:=f+1;let T:=decide (wrap i64 ((↑i:Int)+1)=(↑(i+1):Int));let h:=decide (n=n);let S:=Zs L=Zs L;let R:=decide (G=c1);let F:=decide (z=z);let E:=decide (s=s);let C:=r=r;let B:=q=q;let A:=p=p;let y:=l=l;let x:=decide (k=k);let w:=decide (K=K);let v:=decide (J=J);let u:=decide (I=I);let t:=[(0,0)];let g:=Zs O;let Q:=Yg V 0 134;let P:=decide (f=c1);let N:=Z0 M (Z0 j (Z0 U (Z0 T (Z0 h (S/\Z0 h (Z0 (decide (D=D1)) (Z0 P (Z0 (decide (c1<=f)) (Z0 F (Z0 E (C/\B/\A/\y/\Z0 x (Z0 w (Z0 v (Z0 u (Z0 P (Zu 0 ((1,3)::t) c1 (Zs O1) (Y3 c g Q)/\Z1) False) False) False) False) False) False) False) False) False) False) False) False) False) False) False) False;
 Z0 (decide ((↑i:Int)<(↑n:Int))) (Z0 (!D) (Z0 M (∃(a:Z9),∃(b:Z9),W=Z9.c a/\V=Z9.c b/\(Z9.Okb a/\Z9.Okb b)/\Z0 (ltM a b) (Z0 j (Z0 U (Z0 M (Z0 (decide (f=f)) (Z0 (decide (G*176<=140737488355328)) (Z0 T (Z0 h (S/\Z0 h (Z0 (decide (true=D1)) (Z0 R (Z0 (decide (c1<=G)) (Z0 F (Z0 E (C/\B/\A/\y/\Z0 x (Z0 w (Z0 v (Z0 u (Z0 R (Zu 0 ((1,5)::t) c1 (Zs O1) (Y3 f (Y3 c g (Yg W 0 134)) Q)/\Z1) False) False) False) False) False) False) False) False) False) False) False) False) False) False) False) False) False) False) N) False) N) (Z0 (decide (D=D)) (Z0 j (Z0 (decide (c<=c)) (Z0 F (Z0 E (C/\B/\A/\y/\Z0 x (Z0 w (Z0 v (Z0 u (Z0 j (Zu 0 ((1,1)::t) c g g/\Z2) False) False) False) False) False) False) False) False) False) False)) (by kernel_rfl) ?_
 conv=>zeta
 try simp only [Zc]
 try simp only [Zl]
 try simp only [Zg]
 try simp only [Zm]
 try simp only [Zn]
 try simp only [Zh]
 try simp only [Jk,true_and,J2]
 refine ⟨fun hc=> ?_,fun hc=>⟨Yf fun _ _=>rfl,hZ2 (by omega)⟩⟩
 have hlt:i<n:=by omega
 have h1:=h1 hlt
 have hwr:i64.wrap ((i:Int)+1)=((i+1:Nat):Int):=by rw [w64 (by omega)];omega
 have hx:(L.getD i Yq).Okb:=hok _ (by simp_all)
 generalize L.getD i Yq=x at*
 unfold WE at h1
 refine ⟨fun hD=> ?_,fun hD=> ?_⟩
 ·have hD:D=false:=by simp_all
  refine ⟨by omega,m,x,rfl,rfl,⟨hm,hx⟩,fun hlt=> ?_,fun hlt=> ?_⟩
  ·rw [hD,hlt] at h1
   simp only [Bool.not_false,Ke,Prod.mk.injEq] at h1
   obtain ⟨h1,h2⟩:=h1
   subst h1 h2
   have hl:c1=c+1+1:=by rw [hc1];simp [hO]
   subst hl
   refine ⟨by omega,by omega,by omega,hwr,rfl,rfl,J2 _,rfl,Yf fun j hj=> ?_,hZ1 (by omega)⟩
   exact Wk (by simp [hO]) (fun k hk=>Wk hO (fun _ _=>rfl) hk) hj
  ·rw [hD,hlt] at h1
   simp only [Kn,Prod.mk.injEq] at h1
   obtain ⟨h1,h2⟩:=h1
   subst h1 h2
   have hl:c1=c+1:=by rw [hc1];simp [hO]
   subst hl
   exact ⟨by omega,by omega,hwr,hD,rfl,J2 _,rfl,Yf fun j hj=>Wk hO (fun _ _=>rfl) hj,hZ1 (by omega)⟩
 ·have hD:D=true:=by simp_all
  rw [hD] at h1
  simp only [Bool.not_true,Bool.false_and,Prod.mk.injEq] at h1
  obtain ⟨h1,h2⟩:=h1
  subst h1 h2
  have hl:c1=c+1:=by rw [hc1];simp [hO]
  subst hl
  exact ⟨by omega,by omega,hwr,hD,rfl,J2 _,rfl,Yf fun j hj=>Wk hO (fun _ _=>rfl) hj,hZ1 (by omega)⟩
structure Z9w (n:Nat) (L:List Z9) (m:Z9):Prop where
 hn:n<1000
 hl:L.length=n
 hm:m.Okb
 ok:∀x∈L,x.Okb
noncomputable def ZnI (n:Nat) (L:List Z9) (m:Z9):Za:=E84.withL 122 0 (goM 0 (puS n L m 0 0 false []) (Z9w n L m) (YB 0 n 9 (fun i=>i<n) (fun i=>i=n) (fun _=>False) (fun _=>False) (fun i=>puE m (puN m L i).1.length (puN m L i).2 (puN m L i).1) (fun i=>puE m (puN m L i).1.length (puN m L i).2 (puN m L i).1) (fun i=>puE m (puN m L i).1.length (puN m L i).2 (puN m L i).1)))
theorem Zi4 (n:Nat) (L:List Z9) (m:Z9):(ZnI n L m).Ok:=
 Za.withGoM (N:=20) (S:=fun i=>puS n L m i (puN m L i).1.length (puN m L i).2 (puN m L i).1) ZkO (by kernel_rfl) fun hC=>⟨rfl,fun i hi _=>by
  obtain ⟨h1,h2,h3,h4⟩:=hC
  simp_all [ZpD,Z6l,Z7I]⟩
theorem ZpE (n:Nat) (L L1:List Z9) (m:Z9) (h:Z9w n L m) (hL1:L1=Xn ltM m L):
  evF (ZnI n L m) 20 122 [.vrows 134 n (Zs L) n,.agg m.c] ⟨0,[]⟩ (ZK 0 (.ret (.nslice ⟨0,0,134,0,0⟩ 134 (n+1) (n+1))) 1 [(0,.rows 134 (n+1) (Zs L1))]):=by
 refine @Eq.mpr _ (let x:=decide (n=n);let a:=m.o;let l:=a.kind;let k:=a.amount;let h:=a.owner;let g:=a.other;let f:=a.point;let e:=a.hash;let d:=a.delay;let s:=a.expiry;let r:=m.id;let q:=m.what;let c:=n+1;
 Z0 x
 (Zs L=Zs L/\
 Z0 x
 (Z0 (decide (l=l))
 (Z0 (decide (k=k))
 (h=h/\
 g=g/\
 f=f/\
 e=e/\
 Z0 (decide (d=d))
 (Z0 (decide (s=s))
 (Z0 (decide (r=r))
 (Z0 (decide (q=q))
 (Z9w n L m/\
 ∀(i:Nat),
 let w:=(puN m L i).fst;let b:=w.length;let p:=b+1;let v:=decide (p=c);let u:=Zs w;let t:=decide (b=c);
 i<=n->(∀(j:Nat),j<i->(fun (i:Nat)=>i<n) j)->(i=n->Z0 (!(puN m L i).snd) (Z0 (decide (b=b)) (Z0 (decide (p*176<=140737488355328)) (Z0 v (Z0 (decide (c<=p)) (Z0 v (Zu 0 [(0,3)] c (Zs L1) (Y3 b u (Yg [AV.int i64 l,AV.int i64 k,AV.arr u8 32 h,AV.arr u8 32 g,AV.arr u8 32 f,AV.arr u8 32 e,AV.int i64 d,AV.int i64 s,AV.int i64 r,AV.int i64 q] 0 134))/\True) False) False) False) False) False) (Z0 t (Z0 (decide (c<=b)) (Z0 t (Zu 0 [(0,1)] c (Zs L1) u/\True) False) False) False))/\(False->False)/\(False->False))
 False)
 False)
 False)
 False)
 False)
 False)
 False)
 False) (by kernel_rfl) ?_
 conv=>zeta
 try simp only [Zc]
 try simp only [Zl]
 try simp only [Zg]
 try simp only [Zm]
 try simp only [Zn]
 try simp only [Zh]
 try simp only [true_and,and_true]
 refine ⟨h,fun i hi _=>⟨fun he=> ?_,fun h=>h.elim,fun h=>h.elim⟩⟩
 subst he
 have hfin:=Zi3 m L
 obtain ⟨g1,g2⟩:=Z6l m L i (by rw [h.hl];omega)
 rw [h.hl] at hfin
 have hn:=h.hn
 have hl1:L1.length=i+1:=by rw [hL1,Z40,h.hl]
 unfold ZaM at hfin
 refine ⟨fun hD=> ?_,fun hD=> ?_⟩
 ·have hD:(puN m L i).2=false:=by simp_all
  rw [hD] at hfin
  have hl:=g2 hD
  exact ⟨by omega,by omega,by omega,by omega,Yf fun j hj=>by rw [hL1,<-hfin];exact Wk rfl (fun _ _=>rfl) (by omega)⟩
 simp_all [Yf]
theorem ZpF (m:Z9) (L1:List Z9) (hL:L1=[m]):
  evF G0 20 122 [.nilslice,.agg m.c] ⟨0,[]⟩ (ZK 0 (.ret (.nslice ⟨0,0,134,0,0⟩ 134 1 1)) 1 [(0,.rows 134 1 (Zs L1))]):=by
 refine @Eq.mpr _ (let a:=m.o;
 Zu 0 [(0,2)] 1 (Zs L1) (Y3 0 (fun (x:Nat)=>[]) (Yg [AV.int i64 a.kind,AV.int i64 a.amount,AV.arr u8 32 a.owner,AV.arr u8 32 a.other,AV.arr u8 32 a.point,AV.arr u8 32 a.hash,AV.int i64 a.delay,AV.int i64 a.expiry,AV.int i64 m.id,AV.int i64 m.what] 0 134))/\True) (by kernel_rfl) ?_
 conv=>zeta
 try simp only [Zc]
 try simp only [Zl]
 try simp only [Zg]
 try simp only [Zm]
 try simp only [Zn]
 try simp only [Zh]
 try simp only [and_true]
 refine Yf fun i hi=> ?_
 subst hL
 have e:i=0:=by omega
 subst e
 rfl
def puF:ZQ:=fun args h K=>ZG none h true 20 args fun a=>match a with
 | [.nilslice,.agg cm]=>∃m,cm=Z9.c m/\K (.ret (.nslice ⟨h.next,0,134,0,0⟩ 134 1 1)) ⟨h.next+1,(h.next,.rows 134 1 (Zs (Xn ltM m [])))::h.bs⟩
 | [.vrows 134 n f n',.agg cm]=>∃L m,n'=n/\f=Zs L/\cm=Z9.c m/\Z9w n L m/\K (.ret (.nslice ⟨h.next,0,134,0,0⟩ 134 (n+1) (n+1))) ⟨h.next+1,(h.next,.rows 134 (n+1) (Zs (Xn ltM m L)))::h.bs⟩
 | _=>False
theorem ZkP (args:List AV) (h:Z8) (K:KO) (hl:puF args h K):Zd PP 122 args h K:=by
 refine Zx.fsumm (d:=20) (Zq _ _ _ _ _ hl fun a ha=> ?_)
 split at ha
 ·obtain ⟨m,rfl,hK⟩:=ha
  exact ⟨_,_,_,_,.evM Zr (ZpF m _ rfl),rfl,⟨JC,.rows _ _ _ (fun i _=>XB _ i),trivial⟩,hK⟩
 ·obtain ⟨L,m,rfl,rfl,rfl,hp,hK⟩:=ha
  exact ⟨_,_,_,_,.evM (Zi4 _ L m) (ZpE _ L _ m hp rfl),rfl,⟨JC,.rows _ _ _ (fun i _=>XB _ i),trivial⟩,hK⟩
 simp_all
def Z0y (t:Zp):InS:=⟨t.fund,t.index,1,Z5,Z5,Z5⟩
def Y4 (L:List Z9):Nat->ZM:=fun i=>(L.getD i Yq).o
def txZ:List AV:=[.int .i64 0,.nilslice,.nilslice]
def mxH (t:Zp) (num:Int) (L:List Z9) (i:Nat):Z8:=⟨4,[(0,.flat txZ),(1,.flat (InS.c (Z0y t))),(2,.flat [.int .i64 num,.nslice ⟨1,0,0,0,0⟩ 130 1 1,.nslice ⟨3,0,132,0,0⟩ 132 i i]),(3,.rows 132 i (Zi (Y4 L)))]⟩
def mxS (t:Zp) (num:Int) (L:List Z9) (n i:Nat):St:=⟨40,[(27,.int .i64 i),(26,.int .i64 n),(25,.vrows 134 n (Zs L) n),(8,.ptr (some ⟨2,0,0,0,0⟩)),(6,.ptr (some ⟨0,0,0,0,0⟩))],mxH t num L i,[]⟩
def mxE (t:Zp) (num:Int) (L:List Z9) (i:Nat):St:=⟨40,[(8,.ptr (some ⟨2,0,0,0,0⟩)),(6,.ptr (some ⟨0,0,0,0,0⟩))],mxH t num L i,[]⟩
def Zi5 (t:Zp) (num:Int) (L:List Z9) (n i:Nat):St:=⟨39,[(9,.int .i64 i),(2,.vrows 134 n (Zs L) n),(8,.ptr (some ⟨2,0,0,0,0⟩)),(6,.ptr (some ⟨0,0,0,0,0⟩))],mxH t num L i,[]⟩
def Zco (t:Zp) (num:Int) (L:List Z9) (i:Nat):St:=⟨39,[(8,.ptr (some ⟨2,0,0,0,0⟩)),(6,.ptr (some ⟨0,0,0,0,0⟩))],mxH t num L i,[]⟩
theorem Z42 {L:List Z9} {i j:Nat} (hj:j<i+1):Y3 i (Zi (Y4 L)) (Yg (ZM.c (L.getD i Yq).o) 0 132) j=(Y4 L j).c:=by
 rcases Jo j i with h|h
 ·rw [Z2l h];rfl
 ·have e:j=i:=by omega
  subst e
  rw [QB (J2 _),Nat.sub_self]
  rfl
theorem ZpG (t:Zp) (num:Int) (L:List Z9) (n i:Nat) (Z1 Z2:Prop) (hn:n<1000) (hi:i<=n) (h1:i<n->Z1) (h2:i=n->Z2):
  ZL G0 20 87 0 0 (mxS t num L n i) (rdM 0 0 9 (mxS t num L n (i+1)) (mxE t num L i) (mxE t num L i) (mxE t num L i) Z1 Z2 False False):=by
 refine @Eq.mpr _ (let e:=decide (i=i);let b:=i+1;let l:=decide (n=n);let c:=Z0y t;let k:=c.name;let j:=k=k;let h:=c.index;let g:=decide (h=h);let f:=c.tag;let w:=f=f;let v:=c.also;let u:=v=v;let s:=c.secret;let r:=s=s;let q:=decide (num=num);let p:=decide (b=b);let m:=[(1,1),(0,0),(2,2)];let d:=Zi (Y4 L);let a:=(List.getD L (Int.toNat (↑i:Int)) Yq).o;
 Z0 (decide ((↑i:Int)<(↑n:Int))) (Z0 (decide (0<=(↑i:Int)/\(↑i:Int)<(↑n:Int))) (Z0 e (Z0 (decide (b*160<=140737488355328)) (Z0 (decide (wrap i64 ((↑i:Int)+1)=(↑b:Int))) (Z0 (decide ((↑n:Int)=(↑n:Int))) (Z0 l (Zs L=Zs L/\Z0 l (j/\Z0 g (w/\u/\r/\Z0 q (Z0 p (Z0 (decide (b<=b)) (Z0 p (Zu 0 ((3,6)::m) b d (Y3 i d (Yg [AV.int i64 a.kind,AV.int i64 a.amount,AV.arr u8 32 a.owner,AV.arr u8 32 a.other,AV.arr u8 32 a.point,AV.arr u8 32 a.hash,AV.int i64 a.delay,AV.int i64 a.expiry] 0 132))/\Z1) False) False) False) False) False) False) False) False) False) False) False) False) (j/\Z0 g (w/\u/\r/\Z0 q (Z0 e (Z0 (decide (i<=i)) (Z0 e (Zu 0 ((3,3)::m) i d d/\Z2) False) False) False) False) False)) (by kernel_rfl) ?_
 conv=>zeta
 try simp only [Zc]
 try simp only [Zl]
 try simp only [Zg]
 try simp only [Zm]
 try simp only [Zn]
 try simp only [Zh]
 try simp only [true_and,J2]
 refine ⟨fun hc=> ?_,fun hc=>⟨ZS fun _ _=>rfl,h2 (by omega)⟩⟩
 exact ⟨by omega,by omega,by rw [w64 (by omega)];omega,ZS fun j hj=>Z42 hj,h1 (by omega)⟩
theorem ZnJ (t:Zp) (num:Int) (L:List Z9) (n i:Nat) (Z1 Z2:Prop) (hn:n<1000) (hi:i<=n) (h1:i<n->Z1) (h2:i=n->Z2):
  ZL G0 20 123 0 0 (Zi5 t num L n i) (rdM 0 0 9 (Zi5 t num L n (i+1)) (Zco t num L i) (Zco t num L i) (Zco t num L i) Z1 Z2 False False):=by
 refine @Eq.mpr _ (let d:=decide (i=i);let b:=i+1;let l:=decide (n=n);let c:=Z0y t;let k:=c.name;let j:=k=k;let h:=c.index;let g:=decide (h=h);let f:=c.tag;let w:=f=f;let v:=c.also;let u:=v=v;let s:=c.secret;let r:=s=s;let q:=decide (num=num);let p:=decide (b=b);let m:=[(1,1),(0,0),(2,2)];let e:=Zi (Y4 L);let a:=(List.getD L (Int.toNat (↑i:Int)) Yq).o;
 Z0 (decide ((↑i:Int)<(↑n:Int))) (Z0 (decide (0<=(↑i:Int)/\(↑i:Int)<(↑n:Int))) (Z0 d (Z0 d (Z0 d (Z0 (decide (b*160<=140737488355328)) (Z0 (decide (wrap i64 ((↑i:Int)+1)=(↑b:Int))) (Z0 l (Zs L=Zs L/\Z0 l (j/\Z0 g (w/\u/\r/\Z0 q (Z0 p (Z0 (decide (b<=b)) (Z0 p (Zu 0 ((3,5)::m) b e (Y3 i e (Yg [AV.int i64 a.kind,AV.int i64 a.amount,AV.arr u8 32 a.owner,AV.arr u8 32 a.other,AV.arr u8 32 a.point,AV.arr u8 32 a.hash,AV.int i64 a.delay,AV.int i64 a.expiry] 0 132))/\Z1) False) False) False) False) False) False) False) False) False) False) False) False) False) (j/\Z0 g (w/\u/\r/\Z0 q (Z0 d (Z0 (decide (i<=i)) (Z0 d (Zu 0 ((3,3)::m) i e e/\Z2) False) False) False) False) False)) (by kernel_rfl) ?_
 conv=>zeta
 try simp only [Zc]
 try simp only [Zl]
 try simp only [Zg]
 try simp only [Zm]
 try simp only [Zn]
 try simp only [Zh]
 try simp only [true_and,J2]
 refine ⟨fun hc=> ?_,fun hc=>⟨ZS fun _ _=>rfl,h2 (by omega)⟩⟩
 exact ⟨by omega,by omega,by rw [w64 (by omega)];omega,ZS fun j hj=>Z42 hj,h1 (by omega)⟩
noncomputable def E85 (t:Zp) (num:Int) (L:List Z9) (n:Nat):Za:=G0.withL 87 0 (goM 0 (mxS t num L n 0) (n<1000) (YB 0 n 9 (fun i=>i<n) (fun i=>i=n) (fun _=>False) (fun _=>False) (fun i=>mxE t num L i) (fun i=>mxE t num L i) (fun i=>mxE t num L i)))
theorem ZkQ (t:Zp) (num:Int) (L:List Z9) (n:Nat):(E85 t num L n).Ok:=
 Za.withGoM (N:=20) (S:=fun i=>mxS t num L n i) Zr (by kernel_rfl) fun hC=>⟨rfl,fun i hi _=>ZpG t num L n i _ _ hC hi (fun h=>⟨h,h⟩) (fun h=>h)⟩
noncomputable def ZnK (t:Zp) (num:Int) (L:List Z9) (n:Nat):Za:=G0.withL 123 0 (goM 0 (Zi5 t num L n 0) (n<1000) (YB 0 n 9 (fun i=>i<n) (fun i=>i=n) (fun _=>False) (fun _=>False) (fun i=>Zco t num L i) (fun i=>Zco t num L i) (fun i=>Zco t num L i)))
theorem Zi6 (t:Zp) (num:Int) (L:List Z9) (n:Nat):(ZnK t num L n).Ok:=
 Za.withGoM (N:=20) (S:=fun i=>Zi5 t num L n i) Zr (by kernel_rfl) fun hC=>⟨rfl,fun i hi _=>ZnJ t num L n i _ _ hC hi (fun h=>⟨h,h⟩) (fun h=>h)⟩
theorem ZpH (t:Zp) (num:Int) (L:List Z9) (n:Nat) (hn:n<1000) (h0:n≠0):
  evF (E85 t num L n) 20 87 [.agg t.c,.int .i64 num,.vrows 134 n (Zs L) n] ⟨0,[]⟩ (ZK 0 (.ret (.tuple [.agg [.int .i64 num,.nslice ⟨0,0,0,0,0⟩ 130 1 1,.nslice ⟨1,0,132,0,0⟩ 132 n n],.int .i64 0])) 2 [(0,.flat (InS.c (Z0y t))),(1,.rows 132 n (Zi (Y4 L)))]):=by
 refine @Eq.mpr _ (let l:=decide (n=n);let a:=Z0y t;let f:=a.name;let e:=a.index;let d:=a.tag;let c:=a.also;let b:=a.secret;let h:=decide (num=num);let g:=Zi (Y4 L);
 Z0 ((↑n:Int)==0) (Z0 (decide (0=num)) False False)
 (Z0 (decide ((↑n:Int)=(↑n:Int)))
 (Z0 l
 (Zs L=Zs L/\
 Z0 l
 (t.fund=f/\
 Z0 (decide (t.index=e))
 (Z5=d/\
 Z5=c/\
 Z5=b/\
 Z0 h
 (n<1000/\
 ∀(i:Nat),
 let k:=decide (i=n);
 i<=n->(∀(j:Nat),j<i->(fun (i:Nat)=>i<n) j)->(i=n->Z0 h (Z0 k (Z0 (decide (n<=i)) (f=f/\Z0 (decide (e=e)) (d=d/\c=c/\b=b/\Z0 k (Zu 0 [(1,3),(0,1)] n g g/\True) False) False) False) False) False)/\(False->False)/\(False->False))
 False)
 False)
 False)
 False)
 False)) (by kernel_rfl) ?_
 conv=>zeta
 try simp only [Zc]
 try simp only [Zl]
 try simp only [Zg]
 try simp only [Zm]
 try simp only [Zn]
 try simp only [Zh]
 try simp only [true_and,and_true]
 refine ⟨fun h=> ?_,fun _=>⟨rfl,rfl,rfl,rfl,rfl,hn,fun i hi _=>⟨fun he=> ?_,fun h=>h.elim,fun h=>h.elim⟩⟩⟩
 ·simp_all
 ·subst he
  exact ⟨rfl,J2 _,rfl,ZS fun _ _=>rfl⟩
theorem ZpI (t:Zp) (num:Int) :
  evF G0 20 87 [.agg t.c,.int .i64 num,.nilslice] ⟨0,[]⟩ (ZK 0 (.ret (.tuple [.agg txZ,.int .i64 180])) 0 []):=by
 refine @Eq.mpr _ (True) (by kernel_rfl) ?_
 trivial
theorem ZnL (t:Zp) (num:Int) (L:List Z9) (n:Nat) (hn:n<1000) (h0:n≠0):
  evF (ZnK t num L n) 20 123 [.agg t.c,.int .i64 num,.vrows 134 n (Zs L) n] ⟨0,[]⟩ (ZK 0 (.ret (.tuple [.agg [.int .i64 num,.nslice ⟨0,0,0,0,0⟩ 130 1 1,.nslice ⟨1,0,132,0,0⟩ 132 n n],.int .i64 0])) 2 [(0,.flat (InS.c (Z0y t))),(1,.rows 132 n (Zi (Y4 L)))]):=by
 refine @Eq.mpr _ (let l:=decide (n=n);let a:=Z0y t;let f:=a.name;let e:=a.index;let d:=a.tag;let c:=a.also;let b:=a.secret;let h:=decide (num=num);let g:=Zi (Y4 L);
 Z0 ((↑n:Int)==0) (Z0 (decide (0=num)) False False)
 (Z0 l
 (Zs L=Zs L/\
 Z0 l
 (t.fund=f/\
 Z0 (decide (t.index=e))
 (Z5=d/\
 Z5=c/\
 Z5=b/\
 Z0 h
 (n<1000/\
 ∀(i:Nat),
 let k:=decide (i=n);
 i<=n->(∀(j:Nat),j<i->(fun (i:Nat)=>i<n) j)->(i=n->Z0 h (Z0 k (Z0 (decide (n<=i)) (f=f/\Z0 (decide (e=e)) (d=d/\c=c/\b=b/\Z0 k (Zu 0 [(1,3),(0,1)] n g g/\True) False) False) False) False) False)/\(False->False)/\(False->False))
 False)
 False)
 False)
 False)) (by kernel_rfl) ?_
 conv=>zeta
 try simp only [Zc]
 try simp only [Zl]
 try simp only [Zg]
 try simp only [Zm]
 try simp only [Zn]
 try simp only [Zh]
 try simp only [true_and,and_true]
 refine ⟨fun h=> ?_,fun _=>⟨rfl,rfl,rfl,rfl,rfl,hn,fun i hi _=>⟨fun he=> ?_,fun h=>h.elim,fun h=>h.elim⟩⟩⟩
 ·simp_all
 ·subst he
  exact ⟨rfl,J2 _,rfl,ZS fun _ _=>rfl⟩
theorem ZnM (t:Zp) (num:Int) :
  evF G0 20 123 [.agg t.c,.int .i64 num,.nilslice] ⟨0,[]⟩ (ZK 0 (.ret (.tuple [.agg txZ,.int .i64 180])) 0 []):=by
 refine @Eq.mpr _ (True) (by kernel_rfl) ?_
 trivial
def mxF:ZQ:=fun args h K=>ZG none h true 20 args fun a=>match a with
 | [.agg [.arr .u8 32 fu,.int .i64 ix,.int .i64 ca,.int .i64 du,.int .i64 fe,.int .i64 de,.arr .u8 32 k0,.arr .u8 32 k1],.int .i64 num,.nilslice]=>K (.ret (.tuple [.agg txZ,.int .i64 180])) h
 | [.agg [.arr .u8 32 fu,.int .i64 ix,.int .i64 ca,.int .i64 du,.int .i64 fe,.int .i64 de,.arr .u8 32 k0,.arr .u8 32 k1],.int .i64 num,.vrows 134 n f n']=>∃L,n'=n/\f=Zs L/\(n<1000/\n≠0)/\K (.ret (.tuple [.agg [.int .i64 num,.nslice ⟨h.next,0,0,0,0⟩ 130 1 1,.nslice ⟨h.next+1,0,132,0,0⟩ 132 n n],.int .i64 0])) ⟨h.next+2,(h.next,.flat (InS.c ⟨fu,ix,1,Z5,Z5,Z5⟩))::(h.next+1,.rows 132 n (Zi (Y4 L)))::h.bs⟩
 | _=>False
theorem ZnN (args:List AV) (h:Z8) (K:KO) (hl:mxF args h K):Zd PP 87 args h K:=by
 refine Zx.fsumm (d:=20) (Zq _ _ _ _ _ hl fun a ha=> ?_)
 split at ha
 ·exact ⟨_,_,_,_,.evM Zr (ZpI ⟨_,_,_,_,_,_,_,_⟩ _),rfl,trivial,ha⟩
 ·obtain ⟨L,rfl,rfl,⟨h1,h2⟩,hK⟩:=ha
  exact ⟨_,_,_,_,.evM (ZkQ _ _ _ _) (ZpH ⟨_,_,_,_,_,_,_,_⟩ _ L _ h1 h2),rfl,⟨by decide,.flat _ rfl,by decide,.rows _ _ _ (fun i _=>(Y4 L i).plainC),trivial⟩,hK⟩
 simp_all
theorem ZkR (args:List AV) (h:Z8) (K:KO) (hl:mxF args h K):Zd PP 123 args h K:=by
 refine Zx.fsumm (d:=20) (Zq _ _ _ _ _ hl fun a ha=> ?_)
 split at ha
 ·exact ⟨_,_,_,_,.evM Zr (ZnM ⟨_,_,_,_,_,_,_,_⟩ _),rfl,trivial,ha⟩
 ·obtain ⟨L,rfl,rfl,⟨h1,h2⟩,hK⟩:=ha
  exact ⟨_,_,_,_,.evM (Zi6 _ _ _ _) (ZnL ⟨_,_,_,_,_,_,_,_⟩ _ L _ h1 h2),rfl,⟨by decide,.flat _ rfl,by decide,.rows _ _ _ (fun i _=>(Y4 L i).plainC),trivial⟩,hK⟩
 simp_all
noncomputable def E86 (A:LI->Int×Int):Za:=((((G0.withP 44 Z7E).withP 74 (Zao A)).withP 86 inQ).withF 88 orF).withF 87 mxF
theorem Z9x:(E86 ZJ).Ok:=Za.withF_ok (Za.withF_ok (Za.withP_ok (Za.withP_ok (Za.withP_ok Zr Z3X) Z3C) ZeQ) ZkN) ZnN
def clL (t:Zp) (a b fee:Int):List Z9:=
 (if t.dust<=a-fee then [⟨⟨1,a-fee,t.k0,Z5,Z5,Z5,0,0⟩,0,0⟩] else [])++(if t.dust<=b then [⟨⟨1,b,t.k1,Z5,Z5,Z5,0,0⟩,1,0⟩] else [])
def clB (A:LI->Int×Int) (t:Zp) (a b fee:Int):Bool:=Yj t&&decide ((A [a,b]).2=0)&&decide ((A [a,b]).1=t.cap)&&decide (0<=fee/\fee<=a)
theorem Z0z {f:Nat->List AV} {L:List Z9} {n:Nat} (h:∀i,i<n->f i=Zs L i):∀i,i<n->plainC (f i)=true:=fun i hi=>by rw [h i hi];exact XB L i
theorem X5 {l:List Z9}:(ZW l).length=l.length:=by unfold ZW;rw [Z5l];simp
theorem Z6m (x:Z9) (i:Nat) (hi:i<1):Y3 0 (fun _=>[]) (Yg (Z9.c x) 0 134) i=Zs [x] i:=Wk (O:=[]) rfl (fun k hk=>absurd hk (JS k)) hi
theorem Zf4 (x y:Z9) (i:Nat) (hi:i<2):Y3 1 (Y3 0 (fun _=>[]) (Yg (Z9.c x) 0 134)) (Yg (Z9.c y) 0 134) i=Zs [x,y] i:=Wk (O:=[x]) rfl (fun k hk=>Z6m x k hk) hi
theorem ZkS {c:Bool}:(((if c=true then (0:Int) else 2) !=0)=true↔c=false)/\(((if c=true then (0:Int) else 2) !=0)=false↔c=true):=by cases c<;>simp
theorem Z18 {A:LI->Int×Int} {t:Zp} {a b fee:Int}:clB A t a b fee=true↔Yj t=true/\(A [a,b]).2=0/\(A [a,b]).1=t.cap/\(0<=fee/\fee<=a):=by
 simp_all [clB,and_assoc]
theorem ZpJ (A:LI->Int×Int) (t:Zp) (a b fee:Int) (ht:t.Ok) (hc:clB A t a b fee=false):
  evF (E86 A) 20 42 [.agg t.c,.agg [.arr .i64 2 [a,b]],.int .i64 fee] ⟨0,[]⟩ (ZK 0 (.ret (.tuple [.agg txZ,.int .i64 2])) 0 []):=by
 refine @Eq.mpr _ (let B:=t.fund;let y:=t.index;let h:=t.cap;let e:=t.dust;let w:=t.fee;let v:=t.delay;let g:=t.k0;let f:=t.k1;let C:=Zp.mk B y h e w v g f;let G:=A [a,b];let F:=wrap i64 (a-fee);let E:=decide (b>=e);let z:=AV.int i64 (1:Int);let d:=AV.arr u8 (32:Nat) Z5;let c:=AV.int i64 (0:Int);let D:=[c];let u:=Yg (z::AV.int i64 F::AV.arr u8 (32:Nat) g::d::d::d::c::c::c::D) (0:Nat) (134:Nat);let s:=Yg (z::AV.int i64 b::AV.arr u8 (32:Nat) f::d::d::d::c::c::z::D) (0:Nat) (134:Nat);let r:=B=B;let q:=decide (y=y);let p:=decide (h=h);let o:=decide (e=e);let n:=decide (w=w);let l:=decide (v=v);let k:=g=g;let j:=f=f;
 Zp.Ok C/\
 Z0 ((if Yj C=true then (0:Int) else (2:Int)) !=(0:Int)) True
 (Z0 (G.snd !=(0:Int)) True
 (Z0 (G.fst !=h) True
 (Z0 (!decide ((0:Int)<=fee/\fee<=a)) True
 (Z0 (decide (F>=e))
 (Z0 E ((∀(i:Nat),i<(2:Nat)->plainC (Y3 (1:Nat) (Y3 (0:Nat) (fun (x:Nat)=>[]) u) s i)=true)/\∃(L:List Z9),((2:Nat)=(2:Nat)/\(2:Nat)<(20:Nat)/\L.length=(2:Nat))/\(∀(m:Z9),List.Mem m L->Z9.Ok m)/\(∀(i:Nat),i<(2:Nat)->Y3 (1:Nat) (Y3 (0:Nat) (fun (x:Nat)=>[]) u) s i=Zs L i)/\r/\Z0 q (Z0 p (Z0 o (Z0 n (Z0 l (k/\j/\(∀(i:Nat),i<(2:Nat)->true=true)/\∃(L_1:List Z9),(2:Nat)=(2:Nat)/\Yt (0:Nat) (Zs (ZW L))=Zs L_1/\((2:Nat)<(1000:Nat)/\(2:Nat)≠(0:Nat))/\False) False) False) False) False) False)
 ((∀(i:Nat),i<(1:Nat)->plainC (Y3 (0:Nat) (fun (x:Nat)=>[]) u i)=true)/\∃(L:List Z9),((1:Nat)=(1:Nat)/\(1:Nat)<(20:Nat)/\L.length=(1:Nat))/\(∀(m:Z9),List.Mem m L->Z9.Ok m)/\(∀(i:Nat),i<(1:Nat)->Y3 (0:Nat) (fun (x:Nat)=>[]) u i=Zs L i)/\r/\Z0 q (Z0 p (Z0 o (Z0 n (Z0 l (k/\j/\(∀(i:Nat),i<(1:Nat)->true=true)/\∃(L_1:List Z9),(1:Nat)=(1:Nat)/\Yt (0:Nat) (Zs (ZW L))=Zs L_1/\((1:Nat)<(1000:Nat)/\(1:Nat)≠(0:Nat))/\False) False) False) False) False) False))
 (Z0 E ((∀(i:Nat),i<(1:Nat)->plainC (Y3 (0:Nat) (fun (x:Nat)=>[]) s i)=true)/\∃(L:List Z9),((1:Nat)=(1:Nat)/\(1:Nat)<(20:Nat)/\L.length=(1:Nat))/\(∀(m:Z9),List.Mem m L->Z9.Ok m)/\(∀(i:Nat),i<(1:Nat)->Y3 (0:Nat) (fun (x:Nat)=>[]) s i=Zs L i)/\r/\Z0 q (Z0 p (Z0 o (Z0 n (Z0 l (k/\j/\(∀(i:Nat),i<(1:Nat)->true=true)/\∃(L_1:List Z9),(1:Nat)=(1:Nat)/\Yt (0:Nat) (Zs (ZW L))=Zs L_1/\((1:Nat)<(1000:Nat)/\(1:Nat)≠(0:Nat))/\False) False) False) False) False) False) (r/\Z0 q (Z0 p (Z0 o (Z0 n (Z0 l (k/\j/\False) False) False) False) False) False))))))) (by kernel_rfl) ?_
 conv=>zeta
 try simp only [Zc]
 try simp only [Zl]
 try simp only [Zg]
 try simp only [Zm]
 try simp only [Zn]
 try simp only [Zh]
 try simp only [and_true]
 have e0:(Zp.mk t.fund t.index t.cap t.dust t.fee t.delay t.k0 t.k1)=t:=rfl
 rw [e0]
 grind [clB]
theorem ZpK (A:LI->Int×Int) (t:Zp) (a b fee:Int) (ht:t.Ok) (ha:a<9223372036854775808) (hc:clB A t a b fee=true) (hL:clL t a b fee=[]):
  evF (E86 A) 20 42 [.agg t.c,.agg [.arr .i64 2 [a,b]],.int .i64 fee] ⟨0,[]⟩ (ZK 0 (.ret (.tuple [.agg txZ,.int .i64 180])) 0 []):=by
 refine @Eq.mpr _ (let B:=t.fund;let y:=t.index;let h:=t.cap;let e:=t.dust;let w:=t.fee;let v:=t.delay;let g:=t.k0;let f:=t.k1;let C:=Zp.mk B y h e w v g f;let G:=A [a,b];let F:=wrap i64 (a-fee);let E:=decide (b>=e);let z:=AV.int i64 (1:Int);let d:=AV.arr u8 (32:Nat) Z5;let c:=AV.int i64 (0:Int);let D:=[c];let u:=Yg (z::AV.int i64 F::AV.arr u8 (32:Nat) g::d::d::d::c::c::c::D) (0:Nat) (134:Nat);let s:=Yg (z::AV.int i64 b::AV.arr u8 (32:Nat) f::d::d::d::c::c::z::D) (0:Nat) (134:Nat);let r:=B=B;let q:=decide (y=y);let p:=decide (h=h);let o:=decide (e=e);let n:=decide (w=w);let l:=decide (v=v);let k:=g=g;let j:=f=f;
 Zp.Ok C/\
 Z0 ((if Yj C=true then (0:Int) else (2:Int)) !=(0:Int)) False
 (Z0 (G.snd !=(0:Int)) False
 (Z0 (G.fst !=h) False
 (Z0 (!decide ((0:Int)<=fee/\fee<=a)) False
 (Z0 (decide (F>=e))
 (Z0 E ((∀(i:Nat),i<(2:Nat)->plainC (Y3 (1:Nat) (Y3 (0:Nat) (fun (x:Nat)=>[]) u) s i)=true)/\∃(L:List Z9),((2:Nat)=(2:Nat)/\(2:Nat)<(20:Nat)/\L.length=(2:Nat))/\(∀(m:Z9),List.Mem m L->Z9.Ok m)/\(∀(i:Nat),i<(2:Nat)->Y3 (1:Nat) (Y3 (0:Nat) (fun (x:Nat)=>[]) u) s i=Zs L i)/\r/\Z0 q (Z0 p (Z0 o (Z0 n (Z0 l (k/\j/\(∀(i:Nat),i<(2:Nat)->true=true)/\∃(L_1:List Z9),(2:Nat)=(2:Nat)/\Yt (0:Nat) (Zs (ZW L))=Zs L_1/\((2:Nat)<(1000:Nat)/\(2:Nat)≠(0:Nat))/\False) False) False) False) False) False)
 ((∀(i:Nat),i<(1:Nat)->plainC (Y3 (0:Nat) (fun (x:Nat)=>[]) u i)=true)/\∃(L:List Z9),((1:Nat)=(1:Nat)/\(1:Nat)<(20:Nat)/\L.length=(1:Nat))/\(∀(m:Z9),List.Mem m L->Z9.Ok m)/\(∀(i:Nat),i<(1:Nat)->Y3 (0:Nat) (fun (x:Nat)=>[]) u i=Zs L i)/\r/\Z0 q (Z0 p (Z0 o (Z0 n (Z0 l (k/\j/\(∀(i:Nat),i<(1:Nat)->true=true)/\∃(L_1:List Z9),(1:Nat)=(1:Nat)/\Yt (0:Nat) (Zs (ZW L))=Zs L_1/\((1:Nat)<(1000:Nat)/\(1:Nat)≠(0:Nat))/\False) False) False) False) False) False))
 (Z0 E ((∀(i:Nat),i<(1:Nat)->plainC (Y3 (0:Nat) (fun (x:Nat)=>[]) s i)=true)/\∃(L:List Z9),((1:Nat)=(1:Nat)/\(1:Nat)<(20:Nat)/\L.length=(1:Nat))/\(∀(m:Z9),List.Mem m L->Z9.Ok m)/\(∀(i:Nat),i<(1:Nat)->Y3 (0:Nat) (fun (x:Nat)=>[]) s i=Zs L i)/\r/\Z0 q (Z0 p (Z0 o (Z0 n (Z0 l (k/\j/\(∀(i:Nat),i<(1:Nat)->true=true)/\∃(L_1:List Z9),(1:Nat)=(1:Nat)/\Yt (0:Nat) (Zs (ZW L))=Zs L_1/\((1:Nat)<(1000:Nat)/\(1:Nat)≠(0:Nat))/\False) False) False) False) False) False) (r/\Z0 q (Z0 p (Z0 o (Z0 n (Z0 l (k/\j/\True) False) False) False) False) False))))))) (by kernel_rfl) ?_
 conv=>zeta
 try simp only [Zc]
 try simp only [Zl]
 try simp only [Zg]
 try simp only [Zm]
 try simp only [Zn]
 try simp only [Zh]
 try simp only [and_true]
 obtain ⟨c1,c2,c3,c4⟩:=Z18.1 hc
 have hw:i64.wrap (a-fee)=a-fee:=w64 (by omega)
 simp_all [clL]
theorem ZpL (A:LI->Int×Int) (t:Zp) (a b fee:Int) (n:Nat) (L1:List Z9) (ht:t.Ok) (ha:a<9223372036854775808) (hc:clB A t a b fee=true) (hn:n≠0) (hL:L1=ZW (clL t a b fee)) (hl:n=L1.length):
  evF (E86 A) 20 42 [.agg t.c,.agg [.arr .i64 2 [a,b]],.int .i64 fee] ⟨0,[]⟩ (ZK 0 (.ret (.tuple [.agg [.int .i64 2147483647,.nslice ⟨0,0,0,0,0⟩ 130 1 1,.nslice ⟨1,0,132,0,0⟩ 132 n n],.int .i64 0])) 2 [(0,.flat (InS.c (Z0y t))),(1,.rows 132 n (Zi (Y4 L1)))]):=by
 refine @Eq.mpr _ (let C:=t.fund;let w:=t.index;let l:=t.cap;let e:=t.dust;let E:=t.fee;let D:=t.delay;let j:=t.k0;let h:=t.k1;let N:=Zp.mk C w l e E D j h;let S:=A [a,b];let R:=wrap i64 (a-fee);let Q:=decide (b>=e);let M:=AV.int i64 (1:Int);let d:=AV.arr u8 (32:Nat) Z5;let c:=AV.int i64 (0:Int);let P:=[c];let B:=Yg (M::AV.int i64 R::AV.arr u8 (32:Nat) j::d::d::d::c::c::c::P) (0:Nat) (134:Nat);let z:=Yg (M::AV.int i64 b::AV.arr u8 (32:Nat) h::d::d::d::c::c::M::P) (0:Nat) (134:Nat);let y:=C=C;let v:=decide (w=w);let u:=decide (l=l);let s:=decide (e=e);let r:=decide (E=E);let q:=decide (D=D);let p:=j=j;let o:=h=h;let O:=decide ((2:Nat)=n);let g:=InS.mk C w (1:Int) Z5 Z5 Z5;let f:=Z0y t;let K:=g.name=f.name;let J:=decide (g.index=f.index);let I:=g.tag=f.tag;let H:=g.also=f.also;let G:=g.secret=f.secret;let F:=Zi (Y4 L1);let k:=decide ((1:Nat)=n);
 Zp.Ok N/\
 Z0 ((if Yj N=true then (0:Int) else (2:Int)) !=(0:Int)) False
 (Z0 (S.snd !=(0:Int)) False
 (Z0 (S.fst !=l) False
 (Z0 (!decide ((0:Int)<=fee/\fee<=a)) False
 (Z0 (decide (R>=e))
 (Z0 Q ((∀(i:Nat),i<(2:Nat)->plainC (Y3 (1:Nat) (Y3 (0:Nat) (fun (x:Nat)=>[]) B) z i)=true)/\∃(L:List Z9),((2:Nat)=(2:Nat)/\(2:Nat)<(20:Nat)/\L.length=(2:Nat))/\(∀(m:Z9),List.Mem m L->Z9.Ok m)/\(∀(i:Nat),i<(2:Nat)->Y3 (1:Nat) (Y3 (0:Nat) (fun (x:Nat)=>[]) B) z i=Zs L i)/\y/\Z0 v (Z0 u (Z0 s (Z0 r (Z0 q (p/\o/\(∀(i:Nat),i<(2:Nat)->true=true)/\∃(L_1:List Z9),(2:Nat)=(2:Nat)/\Yt (0:Nat) (Zs (ZW L))=Zs L_1/\((2:Nat)<(1000:Nat)/\(2:Nat)≠(0:Nat))/\Z0 O (Z0 (decide (n<=(2:Nat))) (K/\Z0 J (I/\H/\G/\Z0 O (Zu (0:Nat) [((1:Nat),(8:Nat)),((0:Nat),(7:Nat))] n F (Zi (Y4 L_1))/\True) False) False) False) False) False) False) False) False) False)
 ((∀(i:Nat),i<(1:Nat)->plainC (Y3 (0:Nat) (fun (x:Nat)=>[]) B i)=true)/\∃(L:List Z9),((1:Nat)=(1:Nat)/\(1:Nat)<(20:Nat)/\L.length=(1:Nat))/\(∀(m:Z9),List.Mem m L->Z9.Ok m)/\(∀(i:Nat),i<(1:Nat)->Y3 (0:Nat) (fun (x:Nat)=>[]) B i=Zs L i)/\y/\Z0 v (Z0 u (Z0 s (Z0 r (Z0 q (p/\o/\(∀(i:Nat),i<(1:Nat)->true=true)/\∃(L_1:List Z9),(1:Nat)=(1:Nat)/\Yt (0:Nat) (Zs (ZW L))=Zs L_1/\((1:Nat)<(1000:Nat)/\(1:Nat)≠(0:Nat))/\Z0 k (Z0 (decide (n<=(1:Nat))) (K/\Z0 J (I/\H/\G/\Z0 k (Zu (0:Nat) [((1:Nat),(6:Nat)),((0:Nat),(5:Nat))] n F (Zi (Y4 L_1))/\True) False) False) False) False) False) False) False) False) False))
 (Z0 Q ((∀(i:Nat),i<(1:Nat)->plainC (Y3 (0:Nat) (fun (x:Nat)=>[]) z i)=true)/\∃(L:List Z9),((1:Nat)=(1:Nat)/\(1:Nat)<(20:Nat)/\L.length=(1:Nat))/\(∀(m:Z9),List.Mem m L->Z9.Ok m)/\(∀(i:Nat),i<(1:Nat)->Y3 (0:Nat) (fun (x:Nat)=>[]) z i=Zs L i)/\y/\Z0 v (Z0 u (Z0 s (Z0 r (Z0 q (p/\o/\(∀(i:Nat),i<(1:Nat)->true=true)/\∃(L_1:List Z9),(1:Nat)=(1:Nat)/\Yt (0:Nat) (Zs (ZW L))=Zs L_1/\((1:Nat)<(1000:Nat)/\(1:Nat)≠(0:Nat))/\Z0 k (Z0 (decide (n<=(1:Nat))) (K/\Z0 J (I/\H/\G/\Z0 k (Zu (0:Nat) [((1:Nat),(6:Nat)),((0:Nat),(5:Nat))] n F (Zi (Y4 L_1))/\True) False) False) False) False) False) False) False) False) False) (y/\Z0 v (Z0 u (Z0 s (Z0 r (Z0 q (p/\o/\False) False) False) False) False) False))))))) (by kernel_rfl) ?_
 conv=>zeta
 try simp only [Zc]
 try simp only [Zl]
 try simp only [Zg]
 try simp only [Zm]
 try simp only [Zn]
 try simp only [Zh]
 try simp only [true_and,and_true]
 obtain ⟨c1,c2,c3,c4⟩:=Z18.1 hc
 have hw:i64.wrap (a-fee)=a-fee:=w64 (by omega)
 refine ⟨ht,ZkS.2.2 c1,by simp [c2],by simp [c3],by simp [c4], ?_⟩
 ·rw [hw]
  have z32:Z5.length=32:=rfl
  refine ⟨fun h1=>⟨fun h2=> ?_,fun h2=> ?_⟩,fun h1=>⟨fun h2=> ?_,fun h2=> ?_⟩⟩
  ·have e:clL t a b fee=[⟨⟨1,a-fee,t.k0,Z5,Z5,Z5,0,0⟩,0,0⟩,⟨⟨1,b,t.k1,Z5,Z5,Z5,0,0⟩,1,0⟩]:=by unfold clL;rw [if_pos h1,if_pos h2];rfl
   have hn2:2=n:=by rw [hl,hL,e,X5];rfl
   have H:=Zf4 ⟨⟨1,a-fee,t.k0,Z5,Z5,Z5,0,0⟩,0,0⟩ ⟨⟨1,b,t.k1,Z5,Z5,Z5,0,0⟩,1,0⟩
   refine ⟨Z0z H,_,⟨by decide,rfl⟩,fun m hm=> ?_,H,fun _ _=>trivial,_,rfl,⟨by decide,by decide⟩,hn2,by omega,rfl,rfl,rfl,rfl,rfl,hn2,ZS fun _ _=>by rw [hL,e];rfl⟩
   rcases J8.1 hm with rfl|hm
   ·exact ⟨ht.k0,z32,z32,z32⟩
   ·rcases J8.1 hm with rfl|hm
    ·exact ⟨ht.k1,z32,z32,z32⟩
    ·cases hm
  ·have e:clL t a b fee=[⟨⟨1,a-fee,t.k0,Z5,Z5,Z5,0,0⟩,0,0⟩]:=by unfold clL;rw [if_pos h1,if_neg h2];rfl
   have hn2:1=n:=by rw [hl,hL,e,X5];rfl
   have H:=Z6m ⟨⟨1,a-fee,t.k0,Z5,Z5,Z5,0,0⟩,0,0⟩
   refine ⟨Z0z H,_,⟨by decide,rfl⟩,fun m hm=> ?_,H,fun _ _=>trivial,_,rfl,⟨by decide,by decide⟩,hn2,by omega,rfl,rfl,rfl,rfl,rfl,hn2,ZS fun _ _=>by rw [hL,e];rfl⟩
   rcases J8.1 hm with rfl|hm
   ·exact ⟨ht.k0,z32,z32,z32⟩
   ·cases hm
  ·have e:clL t a b fee=[⟨⟨1,b,t.k1,Z5,Z5,Z5,0,0⟩,1,0⟩]:=by unfold clL;rw [if_neg h1,if_pos h2];rfl
   have hn2:1=n:=by rw [hl,hL,e,X5];rfl
   have H:=Z6m ⟨⟨1,b,t.k1,Z5,Z5,Z5,0,0⟩,1,0⟩
   refine ⟨Z0z H,_,⟨by decide,rfl⟩,fun m hm=> ?_,H,fun _ _=>trivial,_,rfl,⟨by decide,by decide⟩,hn2,by omega,rfl,rfl,rfl,rfl,rfl,hn2,ZS fun _ _=>by rw [hL,e];rfl⟩
   rcases J8.1 hm with rfl|hm
   ·exact ⟨ht.k1,z32,z32,z32⟩
   ·cases hm
  ·have e:clL t a b fee=[]:=by unfold clL;rw [if_neg h1,if_neg h2];rfl
   rw [e] at hL
   rw [hl,hL] at hn
   exact hn rfl
def clF (A:LI->Int×Int):ZQ:=fun args h K=>ZG none h true 20 args fun a=>match a with
 | [.agg [.arr .u8 32 fu,.int .i64 ix,.int .i64 ca,.int .i64 du,.int .i64 fe,.int .i64 de,.arr .u8 32 k0,.arr .u8 32 k1],.agg [.arr .i64 2 ab],.int .i64 fee]=>
  (Zp.Ok ⟨fu,ix,ca,du,fe,de,k0,k1⟩)/\∃a b,ab=[a,b]/\a<9223372036854775808/\(clB A ⟨fu,ix,ca,du,fe,de,k0,k1⟩ a b fee=false->K (.ret (.tuple [.agg txZ,.int .i64 2])) h)/\
  (clB A ⟨fu,ix,ca,du,fe,de,k0,k1⟩ a b fee=true->((clL ⟨fu,ix,ca,du,fe,de,k0,k1⟩ a b fee).length=0->K (.ret (.tuple [.agg txZ,.int .i64 180])) h)/\
   ∀n L,L=ZW (clL ⟨fu,ix,ca,du,fe,de,k0,k1⟩ a b fee)->n=L.length->n≠0->K (.ret (.tuple [.agg [.int .i64 2147483647,.nslice ⟨h.next,0,0,0,0⟩ 130 1 1,.nslice ⟨h.next+1,0,132,0,0⟩ 132 n n],.int .i64 0])) ⟨h.next+2,(h.next,.flat (InS.c ⟨fu,ix,1,Z5,Z5,Z5⟩))::(h.next+1,.rows 132 n (Zi (Y4 L)))::h.bs⟩)
 | _=>False
theorem Z9y (args:List AV) (h:Z8) (K:KO) (hl:clF ZJ args h K):Zd PP 42 args h K:=by
 refine Zx.fsumm (d:=20) (Zq _ _ _ _ _ hl fun a ha=> ?_)
 split at ha
 ·rename_i fu ix ca du fe de k0 k1 ab fee
  obtain ⟨ht,a,b,rfl,ha,h1,h2⟩:=ha
  cases hc:clB ZJ ⟨fu,ix,ca,du,fe,de,k0,k1⟩ a b fee with
  | false=>exact ⟨_,_,_,_,.evM Z9x (ZpJ _ ⟨_,_,_,_,_,_,_,_⟩ a b fee ht hc),rfl,trivial,h1 hc⟩
  | true=>
   obtain ⟨h2,h3⟩:=h2 hc
   rcases JA (clL ⟨fu,ix,ca,du,fe,de,k0,k1⟩ a b fee).length with h0|h0
   ·exact ⟨_,_,_,_,.evM Z9x (ZpK _ ⟨_,_,_,_,_,_,_,_⟩ a b fee ht ha hc (Kc.1 h0)),rfl,trivial,h2 h0⟩
   ·have hn:(ZW (clL ⟨fu,ix,ca,du,fe,de,k0,k1⟩ a b fee)).length≠0:=by rw [X5];omega
    exact ⟨_,_,_,_,.evM Z9x (ZpL _ ⟨_,_,_,_,_,_,_,_⟩ a b fee _ _ ht ha hc hn rfl rfl),rfl,⟨by decide,.flat _ rfl,by decide,.rows _ _ _ (fun i _=>(Y4 _ i).plainC),trivial⟩,h3 _ _ rfl rfl hn⟩
 simp_all
noncomputable def Zi7:Za:=((G0.withP 112 Z3Y).withF 122 puF).withF 123 mxF
theorem Z6n:Zi7.Ok:=Za.withF_ok (Za.withF_ok (Za.withP_ok Zr Z1F) ZkP) ZkR
theorem Yr:Bytes Z5:=⟨fun i=>by
 have h:Z5=List.replicate 32 0:=rfl
 rw [h,J5,List.getElem?_replicate]
 split<;>simp⟩
theorem Zf5 {m a b:Int}:allIn m [a,b]=true↔(0<=a/\a<=m)/\(0<=b/\b<=m):=by
 simp_all [allIn,YN,List.range_succ,UA]
theorem Wl {t:Zp} {a b fee:Int}:clB ZJ t a b fee=true↔Yj t=true/\((0<=a/\a<=1125899906842624)/\(0<=b/\b<=1125899906842624))/\a+b=t.cap/\(0<=fee/\fee<=a):=by
 rw [Z18]
 unfold ZJ
 by_cases h:allIn 1125899906842624 [a,b]=true
 ·rw [if_pos h]
  have h':=Zf5.1 h
  by_cases h2:[a,b].sum<=1125899906842624
  ·rw [if_pos h2];simp;omega
  ·rw [if_neg h2]
   constructor
   ·omega
   ·rintro ⟨h3,_,h4,_⟩
    unfold Yj at h3
    grind
 ·rw [if_neg h]
  constructor
  ·omega
  ·rintro ⟨_,h3,_⟩;exact absurd (Zf5.2 h3) h
theorem ZnO (t:Zp) (a b fee:Int) (ht:t.Ok) (hc:clB ZJ t a b fee=false):
  evF Zi7 20 61 [.agg t.c,.agg [.arr .i64 2 [a,b]],.int .i64 fee] ⟨0,[]⟩ (ZK 0 (.ret (.tuple [.agg txZ,.int .i64 2])) 0 []):=by
 refine @Eq.mpr _ (let h:=t.dust;let l:=Zp.mk t.fund t.index t.cap h t.fee t.delay t.k0 t.k1;let k:=wrap i64 (a-fee);let f:=AV.int i64 1;let d:=AV.arr u8 32 Z5;let e:=AV.int i64 0;let g:=[e];let j:=decide (b>=h);
 Zp.Ok l/\
 Z0 (!Yj l) True
 (Z0 (decide (a>=0))
 (Z0 (!decide (a<=1125899906842624)) True
 (Z0 (decide (b>=0))
 (Z0 (!decide (b<=1125899906842624)) True
 (Z0 (wrap i64 (a+b) !=t.cap) True
 (Z0 (decide (fee<0)) True
 (Z0 (decide (fee>a)) True
 (Z0 (decide (k>=h))
 (∃(m:Z9),
 let n:=Yt 0 (Zs (Xn ltM m []));
 f::AV.int i64 k::AV.arr u8 32 t.k0::d::d::d::e::e::e::g=Z9.c m/\Z0 j ((∀(i:Nat),i<1->true=true)/\∃(L:List Z9),∃(m:Z9),(1:Nat)=1/\n=Zs L/\f::AV.int i64 b::AV.arr u8 32 t.k1::d::d::d::e::e::f::g=Z9.c m/\Z9w 1 L m/\(∀(i:Nat),i<2->true=true)/\∃(L_1:List Z9),(2:Nat)=2/\Yt 0 (Zs (Xn ltM m L))=Zs L_1/\((2:Nat)<1000/\(2:Nat)≠0)/\False) ((∀(i:Nat),i<1->true=true)/\∃(L:List Z9),(1:Nat)=1/\n=Zs L/\((1:Nat)<1000/\(1:Nat)≠0)/\False))
 (Z0 j (∃(m:Z9),f::AV.int i64 b::AV.arr u8 32 t.k1::d::d::d::e::e::f::g=Z9.c m/\(∀(i:Nat),i<1->true=true)/\∃(L:List Z9),(1:Nat)=1/\Yt 0 (Zs (Xn ltM m []))=Zs L/\((1:Nat)<1000/\(1:Nat)≠0)/\False) False))))))
 True))
 True)) (by kernel_rfl) ?_
 conv=>zeta
 try simp only [Zc]
 try simp only [Zl]
 try simp only [Zg]
 try simp only [Zm]
 try simp only [Zn]
 try simp only [Zh]
 try simp only [and_true]
 have e0:(Zp.mk t.fund t.index t.cap t.dust t.fee t.delay t.k0 t.k1)=t:=rfl
 rw [e0]
 have hx:¬(Yj t=true/\((0<=a/\a<=1125899906842624)/\(0<=b/\b<=1125899906842624))/\a+b=t.cap/\(0<=fee/\fee<=a)):=fun h=>by rw [Wl.2 h] at hc;cases hc
 ·grind [w64]
 all_goals simp_all
theorem ZnP (t:Zp) (a b fee:Int) (ht:t.Ok) (hc:clB ZJ t a b fee=true) (hL:clL t a b fee=[]):
  evF Zi7 20 61 [.agg t.c,.agg [.arr .i64 2 [a,b]],.int .i64 fee] ⟨0,[]⟩ (ZK 0 (.ret (.tuple [.agg txZ,.int .i64 180])) 0 []):=by
 refine @Eq.mpr _ (let h:=t.dust;let l:=Zp.mk t.fund t.index t.cap h t.fee t.delay t.k0 t.k1;let k:=wrap i64 (a-fee);let f:=AV.int i64 1;let d:=AV.arr u8 32 Z5;let e:=AV.int i64 0;let g:=[e];let j:=decide (b>=h);
 Zp.Ok l/\
 Z0 (!Yj l) False
 (Z0 (decide (a>=0))
 (Z0 (!decide (a<=1125899906842624)) False
 (Z0 (decide (b>=0))
 (Z0 (!decide (b<=1125899906842624)) False
 (Z0 (wrap i64 (a+b) !=t.cap) False
 (Z0 (decide (fee<0)) False
 (Z0 (decide (fee>a)) False
 (Z0 (decide (k>=h))
 (∃(m:Z9),
 let n:=Yt 0 (Zs (Xn ltM m []));
 f::AV.int i64 k::AV.arr u8 32 t.k0::d::d::d::e::e::e::g=Z9.c m/\Z0 j ((∀(i:Nat),i<1->true=true)/\∃(L:List Z9),∃(m:Z9),(1:Nat)=1/\n=Zs L/\f::AV.int i64 b::AV.arr u8 32 t.k1::d::d::d::e::e::f::g=Z9.c m/\Z9w 1 L m/\(∀(i:Nat),i<2->true=true)/\∃(L_1:List Z9),(2:Nat)=2/\Yt 0 (Zs (Xn ltM m L))=Zs L_1/\((2:Nat)<1000/\(2:Nat)≠0)/\False) ((∀(i:Nat),i<1->true=true)/\∃(L:List Z9),(1:Nat)=1/\n=Zs L/\((1:Nat)<1000/\(1:Nat)≠0)/\False))
 (Z0 j (∃(m:Z9),f::AV.int i64 b::AV.arr u8 32 t.k1::d::d::d::e::e::f::g=Z9.c m/\(∀(i:Nat),i<1->true=true)/\∃(L:List Z9),(1:Nat)=1/\Yt 0 (Zs (Xn ltM m []))=Zs L/\((1:Nat)<1000/\(1:Nat)≠0)/\False) True))))))
 False))
 False)) (by kernel_rfl) ?_
 conv=>zeta
 try simp only [Zc]
 try simp only [Zl]
 try simp only [Zg]
 try simp only [Zm]
 try simp only [Zn]
 try simp only [Zh]
 try simp only [and_true]
 obtain ⟨c1,⟨c2,c3⟩,c4,c5⟩:=Wl.1 hc
 have w1:i64.wrap (a-fee)=a-fee:=w64 (by omega)
 have w2:i64.wrap (a+b)=a+b:=w64 (by omega)
 simp_all [clL]
theorem ZnQ (t:Zp) (a b fee:Int) (n:Nat) (L1:List Z9) (ht:t.Ok) (hc:clB ZJ t a b fee=true) (hn:n≠0) (hL:L1=ZW (clL t a b fee)) (hl:n=L1.length):
  evF Zi7 20 61 [.agg t.c,.agg [.arr .i64 2 [a,b]],.int .i64 fee] ⟨0,[]⟩ (ZK 0 (.ret (.tuple [.agg [.int .i64 2147483647,.nslice ⟨0,0,0,0,0⟩ 130 1 1,.nslice ⟨1,0,132,0,0⟩ 132 n n],.int .i64 0])) 2 [(0,.flat (InS.c (Z0y t))),(1,.rows 132 n (Zi (Y4 L1)))]):=by
 refine @Eq.mpr _ (let u:=t.dust;let z:=Zp.mk t.fund t.index t.cap u t.fee t.delay t.k0 t.k1;let y:=wrap i64 (a-fee);let f:=AV.int i64 1;let d:=AV.arr u8 32 Z5;let e:=AV.int i64 0;let k:=[e];let w:=decide (b>=u);let v:=decide (2=n);let h:=InS.mk t.fund t.index 1 Z5 Z5 Z5;let g:=Z0y t;let s:=h.name=g.name;let r:=decide (h.index=g.index);let q:=h.tag=g.tag;let p:=h.also=g.also;let o:=h.secret=g.secret;let l:=Zi (Y4 L1);let j:=decide (1=n);
 Zp.Ok z/\
 Z0 (!Yj z) False
 (Z0 (decide (a>=0))
 (Z0 (!decide (a<=1125899906842624)) False
 (Z0 (decide (b>=0))
 (Z0 (!decide (b<=1125899906842624)) False
 (Z0 (wrap i64 (a+b) !=t.cap) False
 (Z0 (decide (fee<0)) False
 (Z0 (decide (fee>a)) False
 (Z0 (decide (y>=u))
 (∃(m:Z9),
 let x:=Yt 0 (Zs (Xn ltM m []));
 f::AV.int i64 y::AV.arr u8 32 t.k0::d::d::d::e::e::e::k=Z9.c m/\Z0 w ((∀(i:Nat),i<1->true=true)/\∃(L:List Z9),∃(m:Z9),(1:Nat)=1/\x=Zs L/\f::AV.int i64 b::AV.arr u8 32 t.k1::d::d::d::e::e::f::k=Z9.c m/\Z9w 1 L m/\(∀(i:Nat),i<2->true=true)/\∃(L_1:List Z9),(2:Nat)=2/\Yt 0 (Zs (Xn ltM m L))=Zs L_1/\((2:Nat)<1000/\(2:Nat)≠0)/\Z0 v (Z0 (decide (n<=2)) (s/\Z0 r (q/\p/\o/\Z0 v (Zu 0 [(1,6),(0,5)] n l (Zi (Y4 L_1))/\True) False) False) False) False) ((∀(i:Nat),i<1->true=true)/\∃(L:List Z9),(1:Nat)=1/\x=Zs L/\((1:Nat)<1000/\(1:Nat)≠0)/\Z0 j (Z0 (decide (n<=1)) (s/\Z0 r (q/\p/\o/\Z0 j (Zu 0 [(1,5),(0,4)] n l (Zi (Y4 L))/\True) False) False) False) False))
 (Z0 w (∃(m:Z9),f::AV.int i64 b::AV.arr u8 32 t.k1::d::d::d::e::e::f::k=Z9.c m/\(∀(i:Nat),i<1->true=true)/\∃(L:List Z9),(1:Nat)=1/\Yt 0 (Zs (Xn ltM m []))=Zs L/\((1:Nat)<1000/\(1:Nat)≠0)/\Z0 j (Z0 (decide (n<=1)) (s/\Z0 r (q/\p/\o/\Z0 j (Zu 0 [(1,5),(0,4)] n l (Zi (Y4 L))/\True) False) False) False) False) False))))))
 False))
 False)) (by kernel_rfl) ?_
 conv=>zeta
 try simp only [Zc]
 try simp only [Zl]
 try simp only [Zg]
 try simp only [Zm]
 try simp only [Zn]
 try simp only [Zh]
 try simp only [true_and,and_true]
 obtain ⟨c1,⟨c2,c3⟩,c4,c5⟩:=Wl.1 hc
 have w1:i64.wrap (a-fee)=a-fee:=w64 (by omega)
 have w2:i64.wrap (a+b)=a+b:=w64 (by omega)
 refine ⟨ht,by rw [c1];rfl,by omega,by simp;omega,by omega,by simp;omega,by rw [w2];simp [c4],by omega,by omega, ?_⟩
 rw [w1]
 have z32:Z5.length=32:=rfl
 have oA:(⟨⟨1,a-fee,t.k0,Z5,Z5,Z5,0,0⟩,0,0⟩:Z9).Okb:=⟨⟨ht.k0,z32,z32,z32⟩,Yr⟩
 have oB:(⟨⟨1,b,t.k1,Z5,Z5,Z5,0,0⟩,1,0⟩:Z9).Okb:=⟨⟨ht.k1,z32,z32,z32⟩,Yr⟩
 refine ⟨fun h1=>⟨⟨⟨1,a-fee,t.k0,Z5,Z5,Z5,0,0⟩,0,0⟩,rfl,fun h2=> ?_,fun h2=> ?_⟩,fun h1=> ?_⟩
 ·have e:L1=Xn ltM ⟨⟨1,b,t.k1,Z5,Z5,Z5,0,0⟩,1,0⟩ (Xn ltM ⟨⟨1,a-fee,t.k0,Z5,Z5,Z5,0,0⟩,0,0⟩ []):=by rw [hL];unfold clL;rw [if_pos h1,if_pos h2];rfl
  have hn2:2=n:=by rw [hl,e,Z40];rfl
  exact ⟨fun _ _=>trivial,_,⟨⟨1,b,t.k1,Z5,Z5,Z5,0,0⟩,1,0⟩,rfl,rfl,⟨by decide,rfl,oB,fun x hx=>by rcases J8.1 hx with rfl|hx;all_goals grind⟩,fun _ _=>trivial,_,rfl,⟨by decide,by decide⟩,hn2,by omega,rfl,rfl,rfl,rfl,rfl,hn2,ZS fun _ _=>by rw [e];rfl⟩
 ·have e:L1=Xn ltM ⟨⟨1,a-fee,t.k0,Z5,Z5,Z5,0,0⟩,0,0⟩ []:=by rw [hL];unfold clL;rw [if_pos h1,if_neg h2];rfl
  have hn2:1=n:=by rw [hl,e];rfl
  exact ⟨fun _ _=>trivial,_,rfl,⟨by decide,by decide⟩,hn2,by omega,rfl,rfl,rfl,rfl,rfl,hn2,ZS fun _ _=>by rw [e];rfl⟩
 ·by_cases h2:b>=t.dust
  rotate_left
  ·have e:L1=[]:=by rw [hL];unfold clL;rw [if_neg h1,if_neg h2];rfl
   simp_all
  have e:L1=Xn ltM ⟨⟨1,b,t.k1,Z5,Z5,Z5,0,0⟩,1,0⟩ []:=by rw [hL];unfold clL;rw [if_neg h1,if_pos h2];rfl
  have hn2:1=n:=by rw [hl,e];rfl
  exact ⟨h2,⟨⟨1,b,t.k1,Z5,Z5,Z5,0,0⟩,1,0⟩,rfl,fun _ _=>trivial,_,rfl,⟨by decide,by decide⟩,hn2,by omega,rfl,rfl,rfl,rfl,rfl,hn2,ZS fun _ _=>by rw [e];rfl⟩
theorem Z6o (args:List AV) (h:Z8) (K:KO) (hl:clF ZJ args h K):Zd PP 61 args h K:=by
 refine Zx.fsumm (d:=20) (Zq _ _ _ _ _ hl fun a ha=> ?_)
 split at ha
 ·rename_i fu ix ca du fe de k0 k1 ab fee
  obtain ⟨ht,a,b,rfl,ha,h1,h2⟩:=ha
  cases hc:clB ZJ ⟨fu,ix,ca,du,fe,de,k0,k1⟩ a b fee with
  | false=>exact ⟨_,_,_,_,.evM Z6n (ZnO ⟨_,_,_,_,_,_,_,_⟩ a b fee ht hc),rfl,trivial,h1 hc⟩
  | true=>
   obtain ⟨h2,h3⟩:=h2 hc
   rcases JA (clL ⟨fu,ix,ca,du,fe,de,k0,k1⟩ a b fee).length with h0|h0
   ·exact ⟨_,_,_,_,.evM Z6n (ZnP ⟨_,_,_,_,_,_,_,_⟩ a b fee ht hc (Kc.1 h0)),rfl,trivial,h2 h0⟩
   ·have hn:(ZW (clL ⟨fu,ix,ca,du,fe,de,k0,k1⟩ a b fee)).length≠0:=by rw [X5];omega
    exact ⟨_,_,_,_,.evM Z6n (ZnQ ⟨_,_,_,_,_,_,_,_⟩ a b fee _ _ ht hc hn rfl rfl),rfl,⟨by decide,.flat _ rfl,by decide,.rows _ _ _ (fun i _=>(Y4 _ i).plainC),trivial⟩,h3 _ _ rfl rfl hn⟩
 simp_all
@[irreducible] def loH (a b:LI):LI:=if Xf a b>0 then b else a
@[irreducible] def hiH (a b:LI):LI:=if Xf a b>0 then a else b
theorem ZnR (a b lo hi:LI) (ha:a.length=32) (hb:b.length=32) (hl:lo=loH a b) (hh:hi=hiH a b):
  evF G0 20 45 [.agg [.arr .u8 32 a],.agg [.arr .u8 32 b]] ⟨0,[]⟩ (Xr (fun v=>v=.tuple [.agg [.arr .u8 32 lo],.agg [.arr .u8 32 hi]])):=by
 refine @Eq.mpr _ (let e:=AV.agg [AV.arr u8 32 b];let d:=AV.agg [AV.arr u8 32 a];let c:=AV.tuple [AV.agg [AV.arr u8 32 lo],AV.agg [AV.arr u8 32 hi]];
 Z6 (u8=u8/\a.length=32) (Z6 (u8=u8/\b.length=32) (Z0 (decide (Xf a b>0)) (a=a/\AV.tuple [e,d]=c) (b=b/\AV.tuple [d,e]=c)))) (by kernel_rfl) ?_
 conv=>zeta
 try simp only [vcA]
 try simp only [vcB]
 try simp only [vcC]
 subst hl hh
 unfold loH hiH
 refine ⟨ha,hb,fun h=> ?_,fun h=> ?_⟩
 ·rw [if_pos h,if_pos h]
 ·rw [if_neg h,if_neg h]
def ZkT:ZF:=fun args _ K=>match args with
 | [.agg [.arr .u8 32 a],.agg [.arr .u8 32 b]]=>(a.length=32/\b.length=32)/\K (.tuple [.agg [.arr .u8 32 (loH a b)],.agg [.arr .u8 32 (hiH a b)]])
 | _=>False
theorem Zi8 (args:List AV) (h:Z8) (K:AV->Prop) (hl:ZkT args h K):Zd PP 45 args h fun o h'=>∃v,o=.ret v/\h'=h/\K v:=by
 unfold ZkT at hl
 split at hl
 ·obtain ⟨⟨h1,h2⟩,hK⟩:=hl
  exact YD Zr rfl (ZnR _ _ _ _ h1 h2 rfl rfl) (fun u hu=>hu▸hK)
 ·exact hl.elim
theorem Z6p {a b:LI} (ha:a.length=32) (hb:b.length=32):(loH a b).length=32:=by unfold loH;split<;>assumption
theorem Z6q {a b:LI} (ha:a.length=32) (hb:b.length=32):(hiH a b).length=32:=by unfold hiH;split<;>assumption
theorem ZnS (m:Nat) (g:Nat->InS) (hm:m<1000):
  evF G0 20 91 [.vrows 130 (m+1) (Zj g) (m+1)] ⟨0,[]⟩ (ZK 0 (.ret (.nslice ⟨0,0,130,0,0⟩ 130 (m+1) (m+1))) 1 [(0,.rows 130 (m+1) (Zj g))]):=by
 refine @Eq.mpr _ (let a:=m+1;let b:=0+a;let c:=decide (b=a);
 Z6 (b*144<=140737488355328) (Z7 c (Z6 (a<=b) (Z7 c (Zu 0 [(0,0)] a (Zj g) (Y3 0 (fun (x:Nat)=>[]) (Zj g))/\True))))) (by kernel_rfl) ?_
 conv=>zeta
 try simp only [vcA]
 try simp only [vcB]
 try simp only [vcC]
 exact ⟨by omega,Yl fun i _=>by rw [QB (JB _)];rfl⟩
theorem ZnT (g:Nat->InS) :
  evF G0 20 91 [.nilslice] ⟨0,[]⟩ (ZK 0 (.ret (.nslice ⟨0,0,130,0,0⟩ 130 0 0)) 1 [(0,.rows 130 0 (Zj g))]):=by
 refine @Eq.mpr _ (True) (by kernel_rfl) ?_
 trivial
theorem ZnU (g:Nat->InS) :
  evF G0 20 91 [.fslice] ⟨0,[]⟩ (ZK 0 (.ret (.nslice ⟨0,0,130,0,0⟩ 130 0 0)) 1 [(0,.rows 130 0 (Zj g))]):=by
 refine @Eq.mpr _ (Zu 0 [(0,0)] 0 (Zj g) (Y3 0 (fun (x:Nat)=>[]) fun (x:Nat)=>[])/\True) (by kernel_rfl) ?_
 try simp only [vcA]
 try simp only [vcB]
 try simp only [vcC]
 exact Yl fun i hi=>absurd hi (JS i)
theorem Zf6 (n:Nat) (g:Nat->InS) (hn:n<1000):Zx PP 91 [.vrows 130 n (Zj g) n] (.nslice ⟨0,0,130,0,0⟩ 130 n n) 1 [(0,.rows 130 n (Zj g))]:=by
 match n,hn with
 | 0,_=>exact Zx.vrows0 (.evM Zr (ZnT g)) (.evM Zr (ZnU g))
 | m+1,h=>exact .evM Zr (ZnS m g (by omega))
def ZkU:ZQ:=fun args h K=>ZG none h true 20 args fun a=>match a with
 | [v]=>∃N g,Z4l v N g/\N<1000/\K (.ret (.nslice ⟨h.next,0,130,0,0⟩ 130 N N)) ⟨h.next+1,(h.next,.rows 130 N (Zj g))::h.bs⟩
 | _=>False
theorem Zi9 (args:List AV) (h:Z8) (K:KO) (hl:ZkU args h K):Zd PP 91 args h K:=by
 refine Zx.fsumm (d:=20) (Zq _ _ _ _ _ hl fun a ha=> ?_)
 split at ha
 ·obtain ⟨N,g,h1,h2,hK⟩:=ha
  exact ⟨_,_,_,_,(Zf6 N g h2).conv fun E r hr=>hr.head (fun _ hc=>h1.rel hc) (fun _ hc=>hc),rfl,⟨by decide,.rows _ _ _ (fun i _=>(g i).plainC),trivial⟩,hK⟩
 ·exact ha.elim
theorem ZnV (m:Nat) (g:Nat->ZM) (hm:m<1000):
  evF G0 20 92 [.vrows 132 (m+1) (Zi g) (m+1)] ⟨0,[]⟩ (ZK 0 (.ret (.nslice ⟨0,0,132,0,0⟩ 132 (m+1) (m+1))) 1 [(0,.rows 132 (m+1) (Zi g))]):=by
 refine @Eq.mpr _ (let a:=m+1;let b:=0+a;let c:=decide (b=a);
 Z6 (b*160<=140737488355328) (Z7 c (Z6 (a<=b) (Z7 c (Zu 0 [(0,0)] a (Zi g) (Y3 0 (fun (x:Nat)=>[]) (Zi g))/\True))))) (by kernel_rfl) ?_
 conv=>zeta
 try simp only [vcA]
 try simp only [vcB]
 try simp only [vcC]
 exact ⟨by omega,ZS fun i _=>by rw [QB (JB _)];rfl⟩
theorem ZnW (g:Nat->ZM) :
  evF G0 20 92 [.nilslice] ⟨0,[]⟩ (ZK 0 (.ret (.nslice ⟨0,0,132,0,0⟩ 132 0 0)) 1 [(0,.rows 132 0 (Zi g))]):=by
 refine @Eq.mpr _ (True) (by kernel_rfl) ?_
 trivial
theorem ZnX (g:Nat->ZM) :
  evF G0 20 92 [.fslice] ⟨0,[]⟩ (ZK 0 (.ret (.nslice ⟨0,0,132,0,0⟩ 132 0 0)) 1 [(0,.rows 132 0 (Zi g))]):=by
 refine @Eq.mpr _ (Zu 0 [(0,0)] 0 (Zi g) (Y3 0 (fun (x:Nat)=>[]) fun (x:Nat)=>[])/\True) (by kernel_rfl) ?_
 try simp only [vcA]
 try simp only [vcB]
 try simp only [vcC]
 exact ZS fun i hi=>absurd hi (JS i)
theorem Zf7 (n:Nat) (g:Nat->ZM) (hn:n<1000):Zx PP 92 [.vrows 132 n (Zi g) n] (.nslice ⟨0,0,132,0,0⟩ 132 n n) 1 [(0,.rows 132 n (Zi g))]:=by
 match n,hn with
 | 0,_=>exact Zx.vrows0 (.evM Zr (ZnW g)) (.evM Zr (ZnX g))
 | m+1,h=>exact .evM Zr (ZnV m g (by omega))
def ZkV:ZQ:=fun args h K=>ZG none h true 20 args fun a=>match a with
 | [v]=>∃N g,Z1Y v N g/\N<1000/\K (.ret (.nslice ⟨h.next,0,132,0,0⟩ 132 N N)) ⟨h.next+1,(h.next,.rows 132 N (Zi g))::h.bs⟩
 | _=>False
theorem Zia (args:List AV) (h:Z8) (K:KO) (hl:ZkV args h K):Zd PP 92 args h K:=by
 refine Zx.fsumm (d:=20) (Zq _ _ _ _ _ hl fun a ha=> ?_)
 split at ha
 ·obtain ⟨N,g,h1,h2,hK⟩:=ha
  exact ⟨_,_,_,_,(Zf7 N g h2).conv fun E r hr=>hr.head (fun _ hc=>h1.rel hc) (fun _ hc=>hc),rfl,⟨by decide,.rows _ _ _ (fun i _=>(g i).plainC),trivial⟩,hK⟩
 ·exact ha.elim
def Z1G (tl th ta:LI) (x:InS):InS:=if x.way=1 then ⟨x.name,x.index,x.way,tl,th,x.secret⟩ else if x.way=4 then x else ⟨x.name,x.index,x.way,ta,x.also,x.secret⟩
def ZpM (t:TxS) (a b:LI) (G:Nat->InS):Z8:=⟨7,[(0,.flat [.int .i64 t.num,.nslice ⟨5,0,130,0,0⟩ 130 t.N t.N,.nslice ⟨6,0,132,0,0⟩ 132 t.M t.M]),(1,.flat [.arr .u8 32 a]),(2,.flat [.arr .u8 32 b]),(3,.flat t.c),(4,.flat txZ),(5,.rows 130 t.N (Zj G)),(6,.rows 132 t.M (Zi t.outs))]⟩
def ZpN:Y2:=[(10,.ptr (some ⟨0,0,0,0,0⟩)),(4,.ptr (some ⟨1,0,0,0,0⟩)),(5,.ptr (some ⟨2,0,0,0,0⟩)),(9,.func (.func 90) [] [.ptr (some ⟨3,0,0,0,0⟩)]),(6,.ptr (some ⟨4,0,0,0,0⟩))]
def Zib (t:TxS) (a b:LI) (G:Nat->InS) (i:Nat):St:=⟨75,(34,.int .i64 i)::(33,.int .i64 t.N)::ZpN,ZpM t a b G,[]⟩
def Zcp (t:TxS) (G:Nat->InS):St:=⟨75,[(10,.ptr (some ⟨0,0,0,0,0⟩)),(6,.ptr (some ⟨1,0,0,0,0⟩))],⟨4,[(0,.flat [.int .i64 t.num,.nslice ⟨2,0,130,0,0⟩ 130 t.N t.N,.nslice ⟨3,0,132,0,0⟩ 132 t.M t.M]),(1,.flat txZ),(2,.rows 130 t.N (Zj G)),(3,.rows 132 t.M (Zi t.outs))]⟩,[]⟩
def Z9z (A:LI->Int×Int) (Tg:LI->TxS->LI):ZF:=fun args h K=>ZG none h true 20 args fun a=>match a with
 | [.agg l,.agg [.arr .u8 32 key]]=>∃t,Z0s l t/\(t.Ok/\key.length=32/\Yp A t=true)/\K (.tuple [.agg [.arr .u8 32 (Tg key t)],.int .i64 0])
 | _=>False
theorem Z5n (args:List AV) (h:Z8) (K:AV->Prop) (hl:Z9z ZJ ZC args h K):Zd PP 83 args h fun o h'=>∃v,o=.ret v/\h'=h/\K v:=by
 refine ZbW args h K (Zq _ _ _ _ _ hl fun a ha=> ?_)
 split at ha
 ·obtain ⟨t,h1,⟨h2,h3,h4⟩,hK⟩:=ha
  refine ⟨t,h1,⟨h2,h3⟩, ?_⟩
  rw [h4];exact hK
 simp_all
noncomputable def Zf8 (A:LI->Int×Int) (Tg:LI->TxS->LI):Za:=(G0.withP 45 ZkT).withP 83 (Z9z A Tg)
theorem ZaO:(Zf8 ZJ ZC).Ok:=Za.withP_ok (Za.withP_ok Zr Zi8) Z5n
theorem ZnY (A:LI->Int×Int) (Tg:LI->TxS->LI) (t:TxS) (a b tl th ta:LI) (G G1:Nat->InS) (i:Nat) (Z1 Z2:Prop) (ht:t.Ok) (hN:t.N<=24) (hc:Yp A t=true) (ha:a.length=32) (hb:b.length=32) (htl:tl=Tg (loH a b) t) (hth:th=Tg (hiH a b) t) (hta:ta=Tg a t) (hi:i<=t.N) (hG:∀j,i<=j->G j=t.ins j) (hG1:i<t.N->∀j,j<t.N->G1 j=if j=i then Z1G tl th ta (t.ins i) else G j) (h1:i<t.N->Z1) (h2:i=t.N->Z2):
  ZL (Zf8 A Tg) 20 43 0 0 (Zib t a b G i) (rdM 0 0 9 (Zib t a b G1 (i+1)) (Zcp t G) (Zcp t G) (Zcp t G) Z1 Z2 False False):=by
 refine @Eq.mpr _ (Z0 (decide ((↑i:Int)<(↑t.N:Int))) (Z6 ((0:Int)<=(↑i:Int)/\(↑i:Int)<(↑t.N:Int)) (Z6 ((0:Nat)+Int.toNat (↑i:Int)<t.N) (Z0 ((G ((0:Nat)+Int.toNat (↑i:Int))).way==(1:Int)) ((a.length=(32:Nat)/\b.length=(32:Nat))/\
 ∃(t_1:TxS),
 (t_1.num=t.num/\((t.N=t.N/\t_1.N=t.N)/\∀(i:Nat),i<t.N->Zj t.ins i=InS.c (t_1.ins i))/\(t.M=t.M/\t_1.M=t.M)/\∀(i:Nat),i<t.M->Zi t.outs i=ZM.c (t_1.outs i))/\
 (TxS.Ok t_1/\List.length (loH a b)=(32:Nat)/\Yp A t_1=true)/\
 hiH a b=hiH a b/\
 ∃(t_2:TxS),
 (t_2.num=t.num/\((t.N=t.N/\t_2.N=t.N)/\∀(i:Nat),i<t.N->Zj t.ins i=InS.c (t_2.ins i))/\(t.M=t.M/\t_2.M=t.M)/\∀(i:Nat),i<t.M->Zi t.outs i=ZM.c (t_2.outs i))/\
 (TxS.Ok t_2/\List.length (hiH a b)=(32:Nat)/\Yp A t_2=true)/\
 Z6 ((0:Nat)+Int.toNat (↑i:Int)<t.N) (Z6 ((0:Nat)+Int.toNat (↑i:Int)<t.N) (Z6 (wrap i64 ((↑i:Int)+(1:Int))=(↑(i+(1:Nat)):Int)) (Z6 ((↑t.N:Int)=(↑t.N:Int)) (Z6 (t.num=t.num) (Z6 (t.N=t.N) (Z6 (t.N<=t.N) (Z6 (t.M=t.M) (Z6 (t.M<=t.M) (a=a/\
 b=b/\
 Z6 (t.num=t.num) (Z6 (t.N=t.N) (Zj t.ins=Zj t.ins/\
 Z6 (t.N=t.N) (Z6 (t.M=t.M) (Zi t.outs=Zi t.outs/\
 Z6 (t.M=t.M) (Z6 (t.N=t.N) (Zu (0:Nat) [((6:Nat),(6:Nat)),((5:Nat),(5:Nat)),((4:Nat),(4:Nat)),((3:Nat),(3:Nat)),((2:Nat),(2:Nat)),((1:Nat),(1:Nat)),((0:Nat),(0:Nat))] t.N (Zj G1)
 (Z02 (Z02 (Zj G) ((0:Nat)+Int.toNat (↑i:Int)) [AV.arr u8 (32:Nat) (G ((0:Nat)+Int.toNat (↑i:Int))).name,AV.int i64 (G ((0:Nat)+Int.toNat (↑i:Int))).index,AV.int i64 (G ((0:Nat)+Int.toNat (↑i:Int))).way,AV.arr u8 (32:Nat) (Tg (loH a b) t_1),AV.arr u8 (32:Nat) (G ((0:Nat)+Int.toNat (↑i:Int))).also,AV.arr u8 (32:Nat) (G ((0:Nat)+Int.toNat (↑i:Int))).secret]) ((0:Nat)+Int.toNat (↑i:Int))
 [AV.arr u8 (32:Nat)
 (match Nat.beq ((0:Nat)+Int.toNat (↑i:Int)) ((0:Nat)+Int.toNat (↑i:Int)) with
 | true=>(G ((0:Nat)+Int.toNat (↑i:Int))).name
 | false=>(G ((0:Nat)+Int.toNat (↑i:Int))).name),
 AV.int i64
 (match Nat.beq ((0:Nat)+Int.toNat (↑i:Int)) ((0:Nat)+Int.toNat (↑i:Int)) with
 | true=>(G ((0:Nat)+Int.toNat (↑i:Int))).index
 | false=>(G ((0:Nat)+Int.toNat (↑i:Int))).index),
 AV.int i64
 (match Nat.beq ((0:Nat)+Int.toNat (↑i:Int)) ((0:Nat)+Int.toNat (↑i:Int)) with
 | true=>(G ((0:Nat)+Int.toNat (↑i:Int))).way
 | false=>(G ((0:Nat)+Int.toNat (↑i:Int))).way),
 AV.arr u8 (32:Nat)
 (match Nat.beq ((0:Nat)+Int.toNat (↑i:Int)) ((0:Nat)+Int.toNat (↑i:Int)) with
 | true=>Tg (loH a b) t_1
 | false=>(G ((0:Nat)+Int.toNat (↑i:Int))).tag),
 AV.arr u8 (32:Nat) (Tg (hiH a b) t_2),
 AV.arr u8 (32:Nat)
 (match Nat.beq ((0:Nat)+Int.toNat (↑i:Int)) ((0:Nat)+Int.toNat (↑i:Int)) with
 | true=>(G ((0:Nat)+Int.toNat (↑i:Int))).secret
 | false=>(G ((0:Nat)+Int.toNat (↑i:Int))).secret)])/\
 Z6 (t.M=t.M) (Zu (0:Nat) [((6:Nat),(6:Nat)),((5:Nat),(5:Nat)),((4:Nat),(4:Nat)),((3:Nat),(3:Nat)),((2:Nat),(2:Nat)),((1:Nat),(1:Nat)),((0:Nat),(0:Nat))] t.M (Zi t.outs) (Zi t.outs)/\Z1))))))))))))))))) (Z0 ((G ((0:Nat)+Int.toNat (↑i:Int))).way==(4:Int)) (Z6 (wrap i64 ((↑i:Int)+(1:Int))=(↑(i+(1:Nat)):Int)) (Z6 ((↑t.N:Int)=(↑t.N:Int)) (Z6 (t.num=t.num) (Z6 (t.N=t.N) (Z6 (t.N<=t.N) (Z6 (t.M=t.M) (Z6 (t.M<=t.M) (a=a/\b=b/\Z6 (t.num=t.num) (Z6 (t.N=t.N) (Zj t.ins=Zj t.ins/\Z6 (t.N=t.N) (Z6 (t.M=t.M) (Zi t.outs=Zi t.outs/\Z6 (t.M=t.M) (Z6 (t.N=t.N) (Zu (0:Nat) [((6:Nat),(6:Nat)),((5:Nat),(5:Nat)),((4:Nat),(4:Nat)),((3:Nat),(3:Nat)),((2:Nat),(2:Nat)),((1:Nat),(1:Nat)),((0:Nat),(0:Nat))] t.N (Zj G1) (Zj G)/\Z6 (t.M=t.M) (Zu (0:Nat) [((6:Nat),(6:Nat)),((5:Nat),(5:Nat)),((4:Nat),(4:Nat)),((3:Nat),(3:Nat)),((2:Nat),(2:Nat)),((1:Nat),(1:Nat)),((0:Nat),(0:Nat))] t.M (Zi t.outs) (Zi t.outs)/\Z1))))))))))))))) (∃(t_1:TxS),
 (t_1.num=t.num/\((t.N=t.N/\t_1.N=t.N)/\∀(i:Nat),i<t.N->Zj t.ins i=InS.c (t_1.ins i))/\(t.M=t.M/\t_1.M=t.M)/\∀(i:Nat),i<t.M->Zi t.outs i=ZM.c (t_1.outs i))/\
 (TxS.Ok t_1/\a.length=(32:Nat)/\Yp A t_1=true)/\
 Z6 ((0:Nat)+Int.toNat (↑i:Int)<t.N) (Z6 (wrap i64 ((↑i:Int)+(1:Int))=(↑(i+(1:Nat)):Int)) (Z6 ((↑t.N:Int)=(↑t.N:Int)) (Z6 (t.num=t.num) (Z6 (t.N=t.N) (Z6 (t.N<=t.N) (Z6 (t.M=t.M) (Z6 (t.M<=t.M) (a=a/\
 b=b/\
 Z6 (t.num=t.num) (Z6 (t.N=t.N) (Zj t.ins=Zj t.ins/\
 Z6 (t.N=t.N) (Z6 (t.M=t.M) (Zi t.outs=Zi t.outs/\
 Z6 (t.M=t.M) (Z6 (t.N=t.N) (Zu (0:Nat) [((6:Nat),(6:Nat)),((5:Nat),(5:Nat)),((4:Nat),(4:Nat)),((3:Nat),(3:Nat)),((2:Nat),(2:Nat)),((1:Nat),(1:Nat)),((0:Nat),(0:Nat))] t.N (Zj G1) (Z02 (Zj G) ((0:Nat)+Int.toNat (↑i:Int)) [AV.arr u8 (32:Nat) (G ((0:Nat)+Int.toNat (↑i:Int))).name,AV.int i64 (G ((0:Nat)+Int.toNat (↑i:Int))).index,AV.int i64 (G ((0:Nat)+Int.toNat (↑i:Int))).way,AV.arr u8 (32:Nat) (Tg a t_1),AV.arr u8 (32:Nat) (G ((0:Nat)+Int.toNat (↑i:Int))).also,AV.arr u8 (32:Nat) (G ((0:Nat)+Int.toNat (↑i:Int))).secret])/\Z6 (t.M=t.M) (Zu (0:Nat) [((6:Nat),(6:Nat)),((5:Nat),(5:Nat)),((4:Nat),(4:Nat)),((3:Nat),(3:Nat)),((2:Nat),(2:Nat)),((1:Nat),(1:Nat)),((0:Nat),(0:Nat))] t.M (Zi t.outs) (Zi t.outs)/\Z1)))))))))))))))))))) (Z6 (t.num=t.num) (Z6 (t.N=t.N) (Z6 (t.N<=t.N) (Z6 (t.M=t.M) (Z6 (t.M<=t.M) (Z6 (t.N=t.N) (Zu (0:Nat) [((3:Nat),(6:Nat)),((2:Nat),(5:Nat)),((1:Nat),(4:Nat)),((0:Nat),(0:Nat))] t.N (Zj G) (Zj G)/\Z6 (t.M=t.M) (Zu (0:Nat) [((3:Nat),(6:Nat)),((2:Nat),(5:Nat)),((1:Nat),(4:Nat)),((0:Nat),(0:Nat))] t.M (Zi t.outs) (Zi t.outs)/\Z2))))))))) (by kernel_rfl) ?_
 try simp only [vcA]
 try simp only [vcB]
 try simp only [vcC]
 refine ⟨fun hlt'=> ?_,fun hge=>⟨Yl fun _ _=>rfl,ZS fun _ _=>rfl,h2 (by omega)⟩⟩
 have hlt:i<t.N:=by omega
 have hwr:i64.wrap ((i:Int)+1)=((i+1:Nat):Int):=by rw [w64 (by omega)];omega
 have hG1:=hG1 hlt
 have hZ:=h1 hlt
 have hO:∀τ,Zu 0 τ t.M (Zi t.outs) (Zi t.outs):=fun τ=>ZS fun _ _=>rfl
 have e1:=hG i (J2 _)
 rw [e1]
 have hU:∀(A1:List AV) j,A1=(Z1G tl th ta (t.ins i)).c->j<t.N->Z02 (Zj G) i A1 j=(G1 j).c:=fun A1 j hA hj=>by
  rw [Vi,hG1 j hj]
  by_cases e:j=i
  ·simp_all
  ·rw [ZD e,if_neg e];rfl
 have hU2:∀(A1 B1:List AV) j,B1=(Z1G tl th ta (t.ins i)).c->j<t.N->Z02 (Z02 (Zj G) i A1) i B1 j=(G1 j).c:=fun A1 B1 j hB hj=>by
  rw [Vi,Vi,hG1 j hj]
  by_cases e:j=i
  ·simp_all
  ·rw [ZD e,if_neg e];rfl
 refine ⟨by omega,hlt,fun k1=>⟨⟨ha,hb⟩,t,⟨rfl,⟨rfl,fun _ _=>rfl⟩,rfl,fun _ _=>rfl⟩,⟨ht,Z6p ha hb,hc⟩,t,⟨rfl,⟨rfl,fun _ _=>rfl⟩,rfl,fun _ _=>rfl⟩,⟨ht,Z6q ha hb,hc⟩,hlt,hlt,hwr,Yl fun j hj=>hU2 _ _ j ?_ hj,hO _,hZ⟩,fun k1=>⟨fun k2=>⟨hwr,Yl fun j hj=> ?_,hO _,hZ⟩,fun k2=>⟨t,⟨rfl,⟨rfl,fun _ _=>rfl⟩,rfl,fun _ _=>rfl⟩,⟨ht,ha,hc⟩,hlt,hwr,Yl fun j hj=>hU _ j ?_ hj,hO _,hZ⟩⟩⟩
 ·have k1:(t.ins i).way=1:=by simp_all
  unfold Z1G
  rw [if_pos k1,<-htl,<-hth]
  simp only [Jj]
  rfl
 ·have k1:¬(t.ins i).way=1:=by simp_all
  have k2:(t.ins i).way=4:=by simp_all
  rw [hG1 j hj]
  split
  ·rename_i e
   subst e
   unfold Z1G
   rw [if_neg k1,if_pos k2,<-e1];rfl
  ·rfl
 ·have k1:¬(t.ins i).way=1:=by simp_all
  have k2:¬(t.ins i).way=4:=by simp_all
  unfold Z1G
  rw [if_neg k1,if_neg k2,<-hta]
  rfl
def Z4n (Tg:LI->TxS->LI) (t:TxS) (a b:LI) (i j:Nat):InS:=if j<i then Z1G (Tg (loH a b) t) (Tg (hiH a b) t) (Tg a t) (t.ins j) else t.ins j
def Z7K (Tg:LI->TxS->LI) (t:TxS) (a b:LI):TxS:=⟨t.num,t.N,fun j=>Z1G (Tg (loH a b) t) (Tg (hiH a b) t) (Tg a t) (t.ins j),t.M,t.outs⟩
structure Zic (A:LI->Int×Int) (Tg:LI->TxS->LI) (t:TxS) (a b:LI) (G:Nat->Nat->InS):Prop where
 ht:t.Ok
 hN:t.N<=24
 hc:Yp A t=true
 ha:a.length=32
 hb:b.length=32
 hG:G=Z4n Tg t a b
noncomputable def Zf9 (A:LI->Int×Int) (Tg:LI->TxS->LI) (t:TxS) (a b:LI) (G:Nat->Nat->InS):Za:=((((Zf8 A Tg).withP 89 (ckS A)).withF 91 ZkU).withF 92 ZkV).withL 43 0 (goM 0 (Zib t a b t.ins 0) (Zic A Tg t a b G) (YB 0 t.N 9 (fun i=>i<t.N) (fun i=>i=t.N) (fun _=>False) (fun _=>False) (fun i=>Zcp t (G i)) (fun i=>Zcp t (G i)) (fun i=>Zcp t (G i))))
theorem Z7L (t:TxS) (a b:LI) (G:Nat->Nat->InS):(Zf9 ZJ ZC t a b G).Ok:=by
 have h0:((((Zf8 ZJ ZC).withP 89 (ckS ZJ)).withF 91 ZkU).withF 92 ZkV).Ok:=Za.withF_ok (Za.withF_ok (Za.withP_ok ZaO Ze3) Zi9) Zia
 refine Za.withL_join (H:=Zf8 ZJ ZC) h0 rfl ?_
 exact Za.withGoM (N:=20) (S:=fun i=>Zib t a b (Z4n ZC t a b i) i) ZaO (by kernel_rfl) fun hC=>by
  obtain ⟨c1,c2,c3,c4,c5,c6⟩:=hC
  subst c6
  refine ⟨?_,fun i hi _=>ZnY ZJ ZC t a b _ _ _ _ _ i _ _ c1 c2 c3 c4 c5 rfl rfl rfl hi (fun j hj=>if_neg (by omega)) (fun hlt j hj=> ?_) (fun h=>⟨h,h⟩) (fun h=>h)⟩
  ·have e:Z4n ZC t a b 0=t.ins:=funext fun j=>if_neg (JS j)
   rw [e]
  ·unfold Z4n
   grind
theorem ZnZ (A:LI->Int×Int) (Tg:LI->TxS->LI) (t:TxS) (a b:LI) (G:Nat->Nat->InS) (ht:t.Ok) (hb:Yp A t=false):
  evF (Zf9 A Tg t a b G) 20 43 [.agg t.c,.agg [.arr .u8 32 a],.agg [.arr .u8 32 b]] ⟨0,[]⟩ (ZK 0 (.ret (.tuple [.agg txZ,.int .i64 2])) 0 []):=by
 refine @Eq.mpr _ (let m:=t.num;let d:=t.N;let e:=t.M;let l:=decide (e=e);let h:=Zi t.outs;let o:=h=h;let k:=decide (m=m);let n:=decide (d=d);let f:=Zj t.ins;let r:=[(6,5),(5,4),(4,3),(3,0),(2,2),(1,1),(0,6)];
 ∃(t_1:TxS),
 (t_1.num=m/\((d=d/\t_1.N=d)/\∀(i:Nat),i<d->f i=InS.c (t_1.ins i))/\(e=e/\t_1.M=e)/\∀(i:Nat),i<e->h i=ZM.c (t_1.outs i))/\
 TxS.Ok t_1/\
 Z0 (Yp A t_1)
 (∃(N:Nat),
 let q:=decide (N=d);
 ∃(g:Nat->InS),
 ((d=d/\N=d)/\∀(i:Nat),i<d->f i=InS.c (g i))/\
 N<1000/\
 Z0 l
 (o/\
 Z0 l
 (Z0 k
 (∃(N_1:Nat),
 let p:=decide (N_1=e);
 ∃(g_1:Nat->ZM),((e=e/\N_1=e)/\∀(i:Nat),i<e->h i=ZM.c (g_1 i))/\N_1<1000/\Z0 k (Z0 (decide ((↑N:Int)=(↑d:Int))) (Z0 k (Z0 q (Z0 (decide (d<=N)) (Z0 p (Z0 (decide (e<=N_1)) (a=a/\b=b/\Z0 k (Z0 n (f=f/\Z0 n (Z0 l (o/\Z0 l (Z0 q (Zu 0 r d f (Zj g)/\Z0 p (Zu 0 r e h (Zi g_1)/\Zic A Tg t a b G/\∀(i:Nat),i<=d->(∀(j:Nat),j<i->(fun (i:Nat)=>i<d) j)->(i=d->Z0 (decide (m=0)) False False)/\(False->False)/\(False->False)) False) False) False) False) False) False) False) False) False) False) False) False) False) False)
 False)
 False)
 False)
 True) (by kernel_rfl) ?_
 conv=>zeta
 try simp only [Zc]
 try simp only [Zl]
 try simp only [Zg]
 try simp only [Zm]
 try simp only [Zn]
 try simp only [Zh]
 try simp only [true_and,and_true]
 exact ⟨t,⟨rfl,⟨rfl,fun _ _=>rfl⟩,rfl,fun _ _=>rfl⟩,ht,fun k=>(by rw [hb] at k;cases k),fun _=>trivial⟩
theorem Zo0 (A:LI->Int×Int) (Tg:LI->TxS->LI) (t:TxS) (a b:LI) (G:Nat->Nat->InS) (g:Nat->InS) (hC:Zic A Tg t a b G) (hM:t.M<=24) (hg:g=G t.N):
  evF (Zf9 A Tg t a b G) 20 43 [.agg t.c,.agg [.arr .u8 32 a],.agg [.arr .u8 32 b]] ⟨0,[]⟩ (ZK 0 (.ret (.tuple [.agg [.int .i64 t.num,.nslice ⟨0,0,130,0,0⟩ 130 t.N t.N,.nslice ⟨1,0,132,0,0⟩ 132 t.M t.M],.int .i64 0])) 2 [(0,.rows 130 t.N (Zj g)),(1,.rows 132 t.M (Zi t.outs))]):=by
 refine @Eq.mpr _ (let n:=t.num;let d:=t.N;let e:=t.M;let h:=decide (e=e);let f:=Zi t.outs;let o:=f=f;let l:=decide (n=n);let m:=decide (d=d);let k:=Zj t.ins;let v:=[(6,5),(5,4),(4,3),(3,0),(2,2),(1,1),(0,6)];let u:=[(1,3),(0,2)];let s:=decide (d=0);let r:=decide (e=0);
 ∃(t_1:TxS),
 (t_1.num=n/\((d=d/\t_1.N=d)/\∀(i:Nat),i<d->k i=InS.c (t_1.ins i))/\(e=e/\t_1.M=e)/\∀(i:Nat),i<e->f i=ZM.c (t_1.outs i))/\
 TxS.Ok t_1/\
 Z0 (Yp A t_1)
 (∃(N:Nat),
 let q:=decide (N=d);
 ∃(g_1:Nat->InS),
 ((d=d/\N=d)/\∀(i:Nat),i<d->k i=InS.c (g_1 i))/\
 N<1000/\
 Z0 h
 (o/\
 Z0 h
 (Z0 l
 (∃(N_1:Nat),
 let p:=decide (N_1=e);
 ∃(g_2:Nat->ZM),((e=e/\N_1=e)/\∀(i:Nat),i<e->f i=ZM.c (g_2 i))/\N_1<1000/\Z0 l (Z0 (decide ((↑N:Int)=(↑d:Int))) (Z0 l (Z0 q (Z0 (decide (d<=N)) (Z0 p (Z0 (decide (e<=N_1)) (a=a/\b=b/\Z0 l (Z0 m (k=k/\Z0 m (Z0 h (o/\Z0 h (Z0 q (Zu 0 v d k (Zj g_1)/\Z0 p (Zu 0 v e f (Zi g_2)/\Zic A Tg t a b G/\∀(i:Nat),i<=d->(∀(j:Nat),j<i->(fun (i:Nat)=>i<d) j)->(i=d->Z0 l (Z0 m (Z0 (decide (d<=d)) (Z0 h (Z0 (decide (e<=e)) (Z0 m (Zu 0 u d (Zj g) (Zj (G i))/\Z0 h (Zu 0 u e f f/\True) False) False) False) False) False) False) False)/\(False->False)/\(False->False)) False) False) False) False) False) False) False) False) False) False) False) False) False) False)
 False)
 False)
 False)
 (Z0 (decide (0=n)) (Z0 s (Z0 s (Z0 r (Z0 r False False) False) False) False) False)) (by kernel_rfl) ?_
 conv=>zeta
 try simp only [Zc]
 try simp only [Zl]
 try simp only [Zg]
 try simp only [Zm]
 try simp only [Zn]
 try simp only [Zh]
 try simp only [true_and,and_true,J2]
 have hN:=hC.hN
 refine ⟨t,⟨rfl,⟨rfl,fun _ _=>rfl⟩,rfl,fun _ _=>rfl⟩,hC.ht,fun _=>⟨t.N,t.ins,⟨rfl,fun _ _=>rfl⟩,by omega,t.M,t.outs,⟨rfl,fun _ _=>rfl⟩,by omega,rfl,rfl,J2 _,rfl,J2 _,rfl,Yl fun _ _=>rfl,rfl,ZS fun _ _=>rfl,hC,fun i hi _=>⟨fun he=>⟨Yl fun _ _=>by rw [he,hg];rfl,ZS fun _ _=>rfl⟩,fun h=>h,fun h=>h⟩⟩,fun k=> ?_⟩
 rw [hC.hc] at k;cases k
def Zj6 (A:LI->Int×Int) (Tg:LI->TxS->LI):ZQ:=fun args h K=>ZG none h true 20 args fun a=>match a with
 | [.agg l,.agg [.arr .u8 32 a],.agg [.arr .u8 32 b]]=>∃t,Z0s l t/\(t.Ok/\a.length=32/\b.length=32)/\(Yp A t=false->K (.ret (.tuple [.agg txZ,.int .i64 2])) h)/\
  (Yp A t=true->K (.ret (.tuple [.agg [.int .i64 t.num,.nslice ⟨h.next,0,130,0,0⟩ 130 t.N t.N,.nslice ⟨h.next+1,0,132,0,0⟩ 132 t.M t.M],.int .i64 0])) ⟨h.next+2,(h.next,.rows 130 t.N (Zj (Z4n Tg t a b t.N)))::(h.next+1,.rows 132 t.M (Zi t.outs))::h.bs⟩)
 | _=>False
theorem Zfa (args:List AV) (h:Z8) (K:KO) (hl:Zj6 ZJ ZC args h K):Zd PP 43 args h K:=by
 refine Zx.fsumm (d:=20) (Zq _ _ _ _ _ hl fun a ha=> ?_)
 split at ha
 ·obtain ⟨t,h1,⟨h2,h3,h4⟩,k1,k2⟩:=ha
  cases hc:Yp ZJ t with
  | false=>exact ⟨_,_,_,_,(Zx.evM (Z7L t _ _ (fun _=>t.ins)) (ZnZ _ _ t _ _ _ h2 hc)).conv (fun E r hr=>hr.head (fun _ hc=>h1.rel hc) (fun _ hc=>hc)),rfl,trivial,k1 hc⟩
  | true=>
   have hf:=X4 h2 hc
   exact ⟨_,_,_,_,(Zx.evM (Z7L t _ _ _) (Zo0 _ _ t _ _ _ _ ⟨h2,hf.n,hc,h3,h4,rfl⟩ hf.m rfl)).conv (fun E r hr=>hr.head (fun _ hc=>h1.rel hc) (fun _ hc=>hc)),rfl,⟨by decide,.rows _ _ _ (fun i _=>(Z4n ZC t _ _ t.N i).plainC),by decide,.rows _ _ _ (fun i _=>(t.outs i).plainC),trivial⟩,k2 hc⟩
 simp_all
def ZpO (t:TxS) (a lo hi:LI) (G:Nat->InS) (i:Nat):Z8:=⟨8,[(0,.flat t.c),(1,.flat [.arr .u8 32 lo]),(2,.flat [.arr .u8 32 hi]),(3,.flat [.int .i64 t.num,.nslice ⟨6,0,130,0,0⟩ 130 i i,.nslice ⟨7,0,132,0,0⟩ 132 t.M t.M]),(4,.flat [.arr .u8 32 a]),(5,.flat txZ),(6,.rows 130 i (Zj G)),(7,.rows 132 t.M (Zi t.outs))]⟩
def ZpP:Y2:=[(3,.ptr (some ⟨0,0,0,0,0⟩)),(8,.ptr (some ⟨1,0,0,0,0⟩)),(9,.ptr (some ⟨2,0,0,0,0⟩)),(10,.ptr (some ⟨3,0,0,0,0⟩)),(4,.ptr (some ⟨4,0,0,0,0⟩)),(6,.ptr (some ⟨5,0,0,0,0⟩))]
def Zid (t:TxS) (a lo hi:LI) (G:Nat->InS) (i:Nat):St:=⟨69,(11,.int .i64 i)::ZpP,ZpO t a lo hi G i,[]⟩
def Zcq (t:TxS) (G:Nat->InS) (i:Nat):St:=⟨69,[(10,.ptr (some ⟨0,0,0,0,0⟩)),(6,.ptr (some ⟨1,0,0,0,0⟩))],⟨4,[(0,.flat [.int .i64 t.num,.nslice ⟨2,0,130,0,0⟩ 130 i i,.nslice ⟨3,0,132,0,0⟩ 132 t.M t.M]),(1,.flat txZ),(2,.rows 130 i (Zj G)),(3,.rows 132 t.M (Zi t.outs))]⟩,[]⟩
noncomputable def Zfb (Tg:LI->TxS->LI):Za:=G0.withP 62 (Z3V Tg)
theorem ZaP:(Zfb Wj).Ok:=Za.withP_ok Zr Z6h
theorem Zo1 (G:Nat->InS) (x:InS) {i j:Nat} (hj:j<i+1):Y3 i (Zj G) (Yg x.c 0 130) j=(if j=i then x else G j).c:=by
 by_cases e:j=i
 ·subst e;rw [if_pos rfl,QB (J2 _),Nat.sub_self];rfl
 ·rw [if_neg e,Z2l (by omega)];rfl
theorem Zo2 (Tg:LI->TxS->LI) (t:TxS) (a lo hj tl th ta:LI) (G G1:Nat->InS) (i:Nat) (Z1 Z2:Prop) (ht:t.Fine) (ha:a.length=32) (hlo:lo.length=32) (hhj:hj.length=32) (htl:tl=Tg lo t) (hth:th=Tg hj t) (hta:ta=Tg a t) (hi:i<=t.N) (hG1:i<t.N->∀j,j<i+1->G1 j=if j=i then Z1G tl th ta (t.ins i) else G j) (h1:i<t.N->Z1) (h2:i=t.N->Z2):
  ZL (Zfb Tg) 20 120 0 0 (Zid t a lo hj G i) (rdM 0 0 9 (Zid t a lo hj G1 (i+1)) (Zcq t G i) (Zcq t G i) (Zcq t G i) Z1 Z2 False False):=by
 refine @Eq.mpr _ (let d:=t.N;let j:=t.ins (Int.toNat (↑i:Int));let v:=j.way;let n:=t.num;let b:=t.M;let m:=decide (i=i);let f:=i+1;let u:=decide (f*144<=140737488355328);let s:=decide (wrap i64 ((↑i:Int)+1)=(↑f:Int));let h:=decide (n=n);let l:=decide (d=d);let p:=Zj t.ins;let D:=p=p;let e:=decide (b=b);let g:=Zi t.outs;let C:=g=g;let k:=decide (f=f);let B:=decide (f<=f);let r:=decide (b<=b);let q:=[(7,7),(6,10),(5,5),(4,4),(3,3),(2,2),(1,1),(0,0)];let A:=Zj G1;let o:=Zj G;let z:=AV.arr u8 32 j.name;let y:=AV.int i64 j.index;let x:=AV.int i64 v;let H:=[AV.arr u8 32 j.secret];let w:=Z0 e (Zu 0 q b g g/\Z1) False;let F:=AV.arr u8 32 j.also::H;let E:=[(3,7),(2,6),(1,5),(0,3)];
 Z0 (decide ((↑i:Int)<(↑d:Int)))
 (Z0 (decide (0<=(↑i:Int)/\(↑i:Int)<(↑d:Int)))
 (Z0 (v==1) (∃(t:TxS),(t.num=n/\((d=d/\t.N=d)/\∀(i:Nat),i<d->p i=InS.c (t.ins i))/\(b=b/\t.M=b)/\∀(i:Nat),i<b->g i=ZM.c (t.outs i))/\(TxS.Fine t/\lo.length=32)/\∃(t_1:TxS),(t_1.num=n/\((d=d/\t_1.N=d)/\∀(i:Nat),i<d->p i=InS.c (t_1.ins i))/\(b=b/\t_1.M=b)/\∀(i:Nat),i<b->g i=ZM.c (t_1.outs i))/\(TxS.Fine t_1/\hj.length=32)/\Z0 m (Z0 u (Z0 s (Z0 h (Z0 l (D/\Z0 l (Z0 e (C/\Z0 e (lo=lo/\hj=hj/\Z0 h (Z0 k (Z0 B (Z0 e (Z0 r (a=a/\Z0 k (Zu 0 q f A (Y3 i o (Yg (z::y::x::AV.arr u8 32 (Tg lo t)::AV.arr u8 32 (Tg hj t_1)::H) 0 130))/\w) False) False) False) False) False) False) False) False) False) False) False) False) False) False)
 (Z0 (v==4) (Z0 m (Z0 u (Z0 s (Z0 h (Z0 l (D/\Z0 l (Z0 e (C/\Z0 e (lo=lo/\hj=hj/\Z0 h (Z0 k (Z0 B (Z0 e (Z0 r (a=a/\Z0 k (Zu 0 q f A (Y3 i o (Yg (z::y::x::AV.arr u8 32 j.tag::F) 0 130))/\w) False) False) False) False) False) False) False) False) False) False) False) False) False) False)
 (∃(t:TxS),(t.num=n/\((d=d/\t.N=d)/\∀(i:Nat),i<d->p i=InS.c (t.ins i))/\(b=b/\t.M=b)/\∀(i:Nat),i<b->g i=ZM.c (t.outs i))/\(TxS.Fine t/\a.length=32)/\Z0 m (Z0 u (Z0 s (Z0 h (Z0 l (D/\Z0 l (Z0 e (C/\Z0 e (lo=lo/\hj=hj/\Z0 h (Z0 k (Z0 B (Z0 e (Z0 r (a=a/\Z0 k (Zu 0 q f A (Y3 i o (Yg (z::y::x::AV.arr u8 32 (Tg a t)::F) 0 130))/\w) False) False) False) False) False) False) False) False) False) False) False) False) False) False)))
 False)
 (Z0 h (Z0 m (Z0 (decide (i<=i)) (Z0 e (Z0 r (Z0 m (Zu 0 E i o o/\Z0 e (Zu 0 E b g g/\Z2) False) False) False) False) False) False) False)) (by kernel_rfl) ?_
 conv=>zeta
 try simp only [Zc]
 try simp only [Zl]
 try simp only [Zg]
 try simp only [Zm]
 try simp only [Zn]
 try simp only [Zh]
 try simp only [true_and,J2]
 refine ⟨fun hlt'=> ?_,fun hge=>⟨Yl fun _ _=>rfl,ZS fun _ _=>rfl,h2 (by omega)⟩⟩
 have hlt:i<t.N:=by omega
 have hN:=ht.n
 have hwr:i64.wrap ((i:Int)+1)=((i+1:Nat):Int):=by rw [w64 (by omega)];omega
 have hG1:=hG1 hlt
 have hZ:=h1 hlt
 have hO:∀τ,Zu 0 τ t.M (Zi t.outs) (Zi t.outs):=fun τ=>ZS fun _ _=>rfl
 have hI:∀(τ:Ren) (X:List AV),X=(Z1G tl th ta (t.ins i)).c->Zu 0 τ (i+1) (Zj G1) (Y3 i (Zj G) (Yg X 0 130)):=fun τ X hX=>Yl fun j hj=>by
  rw [hX,Zo1 G _ hj,hG1 j hj]
 refine ⟨by omega,fun k1=>⟨t,⟨rfl,⟨rfl,fun _ _=>rfl⟩,rfl,fun _ _=>rfl⟩,⟨ht,hlo⟩,t,⟨rfl,⟨rfl,fun _ _=>rfl⟩,rfl,fun _ _=>rfl⟩,⟨ht,hhj⟩,by omega,hwr,hI _ _ ?_,hO _,hZ⟩,fun k1=>⟨fun k2=>⟨by omega,hwr,hI _ _ ?_,hO _,hZ⟩,fun k2=>⟨t,⟨rfl,⟨rfl,fun _ _=>rfl⟩,rfl,fun _ _=>rfl⟩,⟨ht,ha⟩,by omega,hwr,hI _ _ ?_,hO _,hZ⟩⟩⟩
 ·have k1:(t.ins i).way=1:=by simp_all
  unfold Z1G
  rw [if_pos k1,<-htl,<-hth];rfl
 ·have k1:¬(t.ins i).way=1:=by simp_all
  have k2:(t.ins i).way=4:=by simp_all
  unfold Z1G
  rw [if_neg k1,if_pos k2];rfl
 ·have k1:¬(t.ins i).way=1:=by simp_all
  have k2:¬(t.ins i).way=4:=by simp_all
  unfold Z1G
  rw [if_neg k1,if_neg k2,<-hta];rfl
structure Zie (Tg:LI->TxS->LI) (t:TxS) (a b lo hj:LI) (G:Nat->InS):Prop where
 ht:t.Fine
 ha:a.length=32
 hb:b.length=32
 hlo:lo=loH a b
 hhj:hj=hiH a b
 hG:G=(Z7K Tg t a b).ins
noncomputable def Zfc (A:LI->Int×Int) (Tg:LI->TxS->LI) (t:TxS) (a b lo hj:LI) (G:Nat->InS):Za:=(((Zfb Tg).withP 203 (Z9e A)).withP 204 ZeS).withL 120 0 (goM 0 (Zid t a lo hj G 0) (Zie Tg t a b lo hj G) (YB 0 t.N 9 (fun i=>i<t.N) (fun i=>i=t.N) (fun _=>False) (fun _=>False) (fun i=>Zcq t G i) (fun i=>Zcq t G i) (fun i=>Zcq t G i)))
theorem Z7M (t:TxS) (a b lo hj:LI) (G:Nat->InS):(Zfc ZJ Wj t a b lo hj G).Ok:=by
 have h0:(((Zfb Wj).withP 203 (Z9e ZJ)).withP 204 ZeS).Ok:=Za.withP_ok (Za.withP_ok ZaP Zc1) ZaG
 refine Za.withL_join (H:=Zfb Wj) h0 rfl ?_
 exact Za.withGoM (N:=20) (S:=fun i=>Zid t a lo hj G i) ZaP (by kernel_rfl) fun hC=>⟨rfl,fun i hi _=>by
  obtain ⟨c1,c2,c3,c4,c5,c6⟩:=hC
  subst c4 c5
  refine Zo2 Wj t a _ _ _ _ _ G _ i _ _ c1 c2 (Z6p c2 c3) (Z6q c2 c3) rfl rfl rfl hi (fun hlt j hj=> ?_) (fun h=>⟨h,h⟩) (fun h=>h)
  by_cases e:j=i
  ·rw [if_pos e,e,c6];rfl
  simp_all⟩
theorem Zo3 (A:LI->Int×Int) (Tg:LI->TxS->LI) (t:TxS) (a b lo hj:LI) (G:Nat->InS) (ht:t.Ok) (hB:TxB t) (hb:Yp A t=false):
  evF (Zfc A Tg t a b lo hj G) 20 120 [.agg t.c,.agg [.arr .u8 32 a],.agg [.arr .u8 32 b]] ⟨0,[]⟩ (ZK 0 (.ret (.tuple [.agg txZ,.int .i64 2])) 0 []):=by
 refine @Eq.mpr _ (let m:=t.num;let e:=t.N;let d:=t.M;let f:=decide (d=d);let h:=Zi t.outs;let k:=h=h;let g:=decide (m=m);let n:=0+d;let p:=decide (n*160<=140737488355328);let l:=decide (e=e);let o:=Zj t.ins;let s:=o=o;let r:=decide (n=d);let q:=Z0 g (Z0 r (Z0 (decide (d<=n)) (a=a/\Z0 r (Zu 0 [(7,6),(5,3),(4,1),(3,7),(2,5),(1,4),(0,0)] d h (Y3 0 (fun (x:Nat)=>[]) h)/\Zie Tg t a b lo hj G/\∀(i:Nat),i<=e->(∀(j:Nat),j<i->(fun (i:Nat)=>i<e) j)->(i=e->Z0 (decide (m=0)) False False)/\(False->False)/\(False->False)) False) False) False) False;
 ∃(t:TxS),(t.num=m/\((e=e/\t.N=e)/\∀(i:Nat),i<e->o i=InS.c (t.ins i))/\(d=d/\t.M=d)/\∀(i:Nat),i<d->h i=ZM.c (t.outs i))/\TxS.Ok t/\TxB t/\Z0 (!Yp A t) True (b=b/\b=b/\b=b/\(a.length=32/\b.length=32)/\Bytes a/\Bytes b/\Z0 (decide (Xf a b>0)) (a=a/\Z0 f (k/\Z0 f (Z0 g (Z0 p (Z0 g (Z0 g (Z0 l (s/\Z0 l (Z0 f (k/\Z0 f (b=lo/\a=hj/\q) False) False) False) False) False) False) False) False) False) False) (Z0 f (k/\Z0 f (Z0 g (Z0 p (Z0 g (Z0 g (Z0 l (s/\Z0 l (Z0 f (k/\Z0 f (a=lo/\b=hj/\q) False) False) False) False) False) False) False) False) False) False))) (by kernel_rfl) ?_
 conv=>zeta
 try simp only [Zc]
 try simp only [Zl]
 try simp only [Zg]
 try simp only [Zm]
 try simp only [Zn]
 try simp only [Zh]
 try simp only [true_and,and_true]
 exact ⟨t,⟨rfl,⟨rfl,fun _ _=>rfl⟩,rfl,fun _ _=>rfl⟩,ht,hB,fun _=>trivial,fun k=>by rw [hb] at k;cases k⟩
theorem Zo4 (A:LI->Int×Int) (Tg:LI->TxS->LI) (t:TxS) (a b lo hj:LI) (G:Nat->InS) (hC:Zie Tg t a b lo hj G) (ht:t.Ok) (hB:TxB t) (hc:Yp A t=true) (hba:Bytes a) (hbb:Bytes b):
  evF (Zfc A Tg t a b lo hj G) 20 120 [.agg t.c,.agg [.arr .u8 32 a],.agg [.arr .u8 32 b]] ⟨0,[]⟩ (ZK 0 (.ret (.tuple [.agg [.int .i64 t.num,.nslice ⟨0,0,130,0,0⟩ 130 t.N t.N,.nslice ⟨1,0,132,0,0⟩ 132 t.M t.M],.int .i64 0])) 2 [(0,.rows 130 t.N (Zj G)),(1,.rows 132 t.M (Zi t.outs))]):=by
 refine @Eq.mpr _ (let m:=t.num;let e:=t.N;let d:=t.M;let q:=decide (e=0);let p:=decide (d=0);let f:=decide (d=d);let h:=Zi t.outs;let k:=h=h;let g:=decide (m=m);let o:=0+d;let w:=decide (o*160<=140737488355328);let l:=decide (e=e);let n:=Zj t.ins;let v:=n=n;let u:=decide (o=d);let s:=[(1,3),(0,2)];let r:=Z0 g (Z0 u (Z0 (decide (d<=o)) (a=a/\Z0 u (Zu 0 [(7,6),(5,3),(4,1),(3,7),(2,5),(1,4),(0,0)] d h (Y3 0 (fun (x:Nat)=>[]) h)/\Zie Tg t a b lo hj G/\∀(i:Nat),i<=e->(∀(j:Nat),j<i->(fun (i:Nat)=>i<e) j)->(i=e->Z0 g (Z0 (decide (i=e)) (Z0 (decide (e<=i)) (Z0 f (Z0 (decide (d<=d)) (Z0 (decide (i=e)) (Zu 0 s e (Zj G) (Zj G)/\Z0 f (Zu 0 s d h h/\True) False) False) False) False) False) False) False)/\(False->False)/\(False->False)) False) False) False) False;
 ∃(t:TxS),(t.num=m/\((e=e/\t.N=e)/\∀(i:Nat),i<e->n i=InS.c (t.ins i))/\(d=d/\t.M=d)/\∀(i:Nat),i<d->h i=ZM.c (t.outs i))/\TxS.Ok t/\TxB t/\Z0 (!Yp A t) (Z0 (decide (0=m)) (Z0 q (Z0 q (Z0 p (Z0 p False False) False) False) False) False) (b=b/\b=b/\b=b/\(a.length=32/\b.length=32)/\Bytes a/\Bytes b/\Z0 (decide (Xf a b>0)) (a=a/\Z0 f (k/\Z0 f (Z0 g (Z0 w (Z0 g (Z0 g (Z0 l (v/\Z0 l (Z0 f (k/\Z0 f (b=lo/\a=hj/\r) False) False) False) False) False) False) False) False) False) False) (Z0 f (k/\Z0 f (Z0 g (Z0 w (Z0 g (Z0 g (Z0 l (v/\Z0 l (Z0 f (k/\Z0 f (a=lo/\b=hj/\r) False) False) False) False) False) False) False) False) False) False))) (by kernel_rfl) ?_
 conv=>zeta
 try simp only [Zc]
 try simp only [Zl]
 try simp only [Zg]
 try simp only [Zm]
 try simp only [Zn]
 try simp only [Zh]
 try simp only [Jf,true_and,and_true,J2]
 have hM:=hC.ht.m
 have hlo:=hC.hlo
 have hhj:=hC.hhj
 unfold loH at hlo
 unfold hiH at hhj
 have hO:∀τ,Zu 0 τ t.M (Zi t.outs) (Y3 0 (fun _=>[]) (Zi t.outs)):=fun τ=>ZS fun j _=>by rfl
 refine ⟨t,⟨rfl,⟨rfl,fun _ _=>rfl⟩,rfl,fun _ _=>rfl⟩,ht,hB,fun k=> ?_,fun _=>⟨⟨hC.ha,hC.hb⟩,hba,hbb,fun k=> ?_,fun k=> ?_⟩⟩
 ·rw [hc] at k;cases k
 ·rw [if_pos k] at hlo hhj
  exact ⟨by omega,hlo.symm,hhj.symm,hO _,hC,fun i hi _=>⟨fun he=>⟨he,by omega,he,Yl fun _ _=>rfl,ZS fun _ _=>rfl⟩,fun h=>h,fun h=>h⟩⟩
 ·rw [if_neg k] at hlo hhj
  exact ⟨by omega,hlo.symm,hhj.symm,hO _,hC,fun i hi _=>⟨fun he=>⟨he,by omega,he,Yl fun _ _=>rfl,ZS fun _ _=>rfl⟩,fun h=>h,fun h=>h⟩⟩
theorem Zif {t:TxS} {a b:LI} (hf:t.Fine) (hA:Z00 t) (ha:a.length=32) (hb:b.length=32):Z7K Wj t a b=Z7K ZC t a b:=by
 unfold Z7K
 rw [Z2s hf hA ha,Z2s hf hA (Z6p ha hb),Z2s hf hA (Z6q ha hb)]
def Zj7 (A:LI->Int×Int) (Tg:LI->TxS->LI):ZQ:=fun args h K=>ZG none h true 20 args fun a=>match a with
 | [.agg l,.agg [.arr .u8 32 a],.agg [.arr .u8 32 b]]=>∃t,Z0s l t/\(t.Ok/\Z00 t/\(a.length=32/\b.length=32)/\Bytes a/\Bytes b)/\(Yp A t=false->K (.ret (.tuple [.agg txZ,.int .i64 2])) h)/\
  (Yp A t=true->K (.ret (.tuple [.agg [.int .i64 t.num,.nslice ⟨h.next,0,130,0,0⟩ 130 t.N t.N,.nslice ⟨h.next+1,0,132,0,0⟩ 132 t.M t.M],.int .i64 0])) ⟨h.next+2,(h.next,.rows 130 t.N (Zj (Z7K Tg t a b).ins))::(h.next+1,.rows 132 t.M (Zi t.outs))::h.bs⟩)
 | _=>False
theorem Zfd (args:List AV) (h:Z8) (K:KO) (hl:Zj7 ZJ ZC args h K):Zd PP 120 args h K:=by
 refine Zx.fsumm (d:=20) (Zq _ _ _ _ _ hl fun a ha=> ?_)
 split at ha
 ·rename_i l a b
  obtain ⟨t,h1,⟨h2,h3,⟨h4,h5⟩,h6,h7⟩,k1,k2⟩:=ha
  cases hc:Yp ZJ t with
  | false=>exact ⟨_,_,_,_,(Zx.evM (Z7M t a b (loH a b) (hiH a b) t.ins) (Zo3 _ _ t _ _ _ _ _ h2 h3.b hc)).conv (fun E r hr=>hr.head (fun _ hc=>h1.rel hc) (fun _ hc=>hc)),rfl,trivial,k1 hc⟩
  | true=>
   have hf:=X4 h2 hc
   refine ⟨_,_,_,_,(Zx.evM (Z7M t a b (loH a b) (hiH a b) _) (Zo4 _ _ t _ _ _ _ _ ⟨hf,h4,h5,rfl,rfl,rfl⟩ h2 h3.b hc h6 h7)).conv (fun E r hr=>hr.head (fun _ hc=>h1.rel hc) (fun _ hc=>hc)),rfl,⟨by decide,.rows _ _ _ (fun i _=>((Z7K Wj t a b).ins i).plainC),by decide,.rows _ _ _ (fun i _=>(t.outs i).plainC),trivial⟩, ?_⟩
   rw [Zif hf h3 h4 h5]
   exact k2 hc
 simp_all
theorem Spec.evK {G:Za} (hG:G.Ok) {n:Nat} {f:FuncId} {h0:Z8} {o:Out} {bs:List (Nat×Blk)} {K:KO} (h:evF G n f args h0 K) (hk:∀o' h',K o' h'->ZK h0.next o nx bs o' h'):Spec G.P f args h0 o nx bs:=by
 intro E w rs he hl
 refine (Y5 hG h E w rs he hl).mono ?_
 rintro e w' ⟨E',o',h',hK0,hev,hor⟩
 have hK:=hk _ _ hK0
 unfold ZK at hK
 cases o with
 | ret v=>
  cases hor with
  | ret u r hr=>
   obtain ⟨E₂,h1,h2⟩:=Z2k rfl hK he hev hr
   exact ⟨E₂,h1,.ret _ _ h2⟩
  | panic u r hr=>simp_all
 | panic v=>
  cases hor with
  | panic u r hr=>
   obtain ⟨E₂,h1,h2⟩:=Z2k rfl hK he hev hr
   exact ⟨E₂,h1,.panic _ _ h2⟩
  | ret u r hr=>simp_all
def wrH (N:Nat) (xs:LI):Z8:=⟨2,[(0,.flat [.nslice ⟨1,0,0,0,0⟩ 1 N N,.bool true]),(1,.ints .u8 xs)]⟩
theorem ZpQ (hh:LI) (hq:hh.length=32):
  evF G0 20 55 [.ptr (some ⟨0,0,0,0,0⟩),.vrows 32 1 (fun _=>[.arr .u8 32 hh]) 1] ⟨1,[(0,.flat [.nilslice,.bool true])]⟩ (ZK 1 (.ret (.int .i64 0)) 2 [(0,.flat [.nslice ⟨1,0,0,0,0⟩ 1 32 32,.bool true]),(1,.ints .u8 hh)]):=by
 refine @Eq.mpr _ (let b:=[]++hh;let a:=b.length;
 Z6 (u8=u8/\hh.length=32) (Z6 (a*1<=140737488355328) (Z6 (a=32) (Z6 (32<=a) (b=hh/\True))))) (by kernel_rfl) ?_
 conv=>zeta
 try simp only [vcA]
 try simp only [vcB]
 try simp only [vcC]
 simp only [Kg]
 repeat' apply Ja
 all_goals first|trivial|omega|rfl|assumption
theorem ZpR (xs ys:LI) (N L:Nat) (b:Bool) (hN:xs.length=N) (hB:N<80000000000000) (hy:ys=xs++[cond b 1 0]) (hL:L=ys.length):
  evF G0 20 56 [.ptr (some ⟨0,0,0,0,0⟩),.vrows 1 1 (fun _=>[.bool b]) 1] (wrH N xs) (ZK 2 (.ret (.int .i64 0)) 3 [(0,.flat [.nslice ⟨2,0,0,0,0⟩ 1 L L,.bool true]),(2,.ints .u8 ys)]):=by
 refine @Eq.mpr _ (let f:=decide (u8=u8/\xs.length=N);let e:=xs++[(1:Int)];let c:=e.length;let d:=xs++[(0:Int)];let a:=d.length;
 Z0 b (Z7 f (Z6 (c*1<=140737488355328) (Z6 (c=L) (Z6 (L<=c) (e=ys/\True))))) (Z7 f (Z6 (a*1<=140737488355328) (Z6 (a=L) (Z6 (L<=a) (d=ys/\True)))))) (by kernel_rfl) ?_
 conv=>zeta
 try simp only [vcA]
 try simp only [vcB]
 try simp only [vcC]
 subst hN hy hL
 refine ⟨fun h=> ?_,fun h=> ?_⟩
 all_goals subst h
 all_goals repeat' apply Ja
 all_goals first|omega|rfl|(simp only [J9,Jl,JD]<;>omega)
def Zfe (h:Z8) (w b:Nat) (ys:LI):Z8:=⟨h.next+1,(w,.flat [.nslice ⟨h.next,0,0,0,0⟩ 1 ys.length ys.length,.bool true])::(h.next,.ints .u8 ys)::Yc (Yc h.bs w) b⟩
def ZkW (W:Int->LI) (T:Int) (B:Nat):ZQ:=fun args h K=>match args with
 | [.ptr (some ⟨w,0,0,0,0⟩),_]=>match h.get w with
  |some (.flat [.nslice ⟨b,0,0,0,0⟩ 1 _ _,.bool true])=>frA [w,b] h 20 args fun Bs a=>match Bs,a with
   | [.flat [.nslice ⟨1,0,0,0,0⟩ 1 N M,.bool true],.ints .u8 xs],[.ptr (some ⟨0,0,0,0,0⟩),.vints .i64 [x] 1]=>
    Z6 (xs.length=N/\M=N/\N<B/\0<=x/\x<=T) (K (.ret (.int .i64 0)) (Zfe h w b (xs++W x)))
   | _,_=>False
  | _=>False
 | _=>False
theorem Zig (args:List AV) (h:Z8) (K:KO) (hl:ZkW Zt 4611686018427387904 80000000000000 args h K):Zd PP 54 args h K:=by
 unfold ZkW at hl
 split at hl
 ·split at hl
  ·refine Spec.fsumm hl fun Bs a hlen hK0=> ?_
   split at hK0
   ·obtain ⟨⟨h1,rfl,h2,k0⟩,hK⟩:=Zf hK0
    exact ⟨_,_,_,_,_,.evM Z10 (Zec _ _ _ _ _ _ _ _ rfl h1 (by omega) k0 rfl rfl),by simp,.ret _ _ rfl,.cons _ _ _ _ _ _ rfl (.flat _ _ rfl) (.cons _ _ _ _ _ _ rfl (.ints _ _) .nil),hK⟩
   ·exact hK0.elim
  ·exact hl.elim
 ·exact hl.elim
def ZkX (B:Nat):ZQ:=fun args h K=>match args with
 | [.ptr (some ⟨w,0,0,0,0⟩),_]=>match h.get w with
  |some (.flat [.nslice ⟨b,0,0,0,0⟩ 1 _ _,.bool true])=>frA [w,b] h 20 args fun Bs a=>match Bs,a with
   | [.flat [.nslice ⟨1,0,0,0,0⟩ 1 N M,.bool true],.ints .u8 xs],[.ptr (some ⟨0,0,0,0,0⟩),.vrows 32 1 f 1]=>match f 0 with
    | [.arr .u8 32 hh]=>Z6 (xs.length=N/\M=N/\N<B/\hh.length=32) (K (.ret (.int .i64 0)) (Zfe h w b (xs++hh)))
    | _=>False
   | _,_=>False
  | some (.flat [.nilslice,.bool true])=>frA [w] h 20 args fun Bs a=>match Bs,a with
   | [.flat [.nilslice,.bool true]],[.ptr (some ⟨0,0,0,0,0⟩),.vrows 32 1 f 1]=>match f 0 with
    | [.arr .u8 32 hh]=>Z6 (hh.length=32) (K (.ret (.int .i64 0)) ⟨h.next+1,(w,.flat [.nslice ⟨h.next,0,0,0,0⟩ 1 32 32,.bool true])::(h.next,.ints .u8 hh)::Yc h.bs w⟩)
    | _=>False
   | _,_=>False
  | _=>False
 | _=>False
theorem Zih (args:List AV) (h:Z8) (K:KO) (hl:ZkX 80000000000000 args h K):Zd PP 55 args h K:=by
 unfold ZkX at hl
 split at hl
 ·split at hl
  ·refine Spec.fsumm hl fun Bs a hlen hK0=> ?_
   split at hK0
   ·split at hK0
    case h_2=>exact hK0.elim
    rename_i hh hf
    obtain ⟨⟨h1,rfl,h2,h3⟩,hK⟩:=Zf hK0
    refine ⟨_,_,_,_,_,(Spec.evM Zr (Zaq _ hh _ _ _ _ h1 (by omega) h3 rfl rfl)).conv fun E r hr=>hr.head (fun _ hc=>hc) fun _ hc=>hc.head (fun _ hc=>hc.rowsC ?_) fun _ hc=>hc,by simp,.ret _ _ rfl,.cons _ _ _ _ _ _ rfl (.flat _ _ rfl) (.cons _ _ _ _ _ _ rfl (.ints _ _) .nil),hK⟩
    intro i hi
    have:i=0:=by omega
    subst this
    exact hf
   ·exact hK0.elim
  ·refine Spec.fsumm hl fun Bs a hlen hK0=> ?_
   split at hK0
   ·split at hK0
    case h_2=>exact hK0.elim
    rename_i hh hf
    obtain ⟨h3,hK⟩:=Zf hK0
    refine ⟨_,_,_,_,_,(Spec.evM Zr (ZpQ hh h3)).conv fun E r hr=>hr.head (fun _ hc=>hc) fun _ hc=>hc.head (fun _ hc=>hc.rowsC ?_) fun _ hc=>hc,by simp,.ret _ _ rfl,.cons _ _ _ _ _ _ rfl (.flat _ _ rfl) (.cons _ _ _ _ _ _ rfl (.ints _ _) .nil),hK⟩
    intro i hi
    have:i=0:=by omega
    subst this
    exact hf
   ·exact hK0.elim
  ·exact hl.elim
 ·exact hl.elim
def wtG (B:Nat):ZQ:=fun args h K=>match args with
 | [.ptr (some ⟨w,0,0,0,0⟩),_]=>match h.get w with
  |some (.flat [.nslice ⟨b,0,0,0,0⟩ 1 _ _,.bool true])=>frA [w,b] h 20 args fun Bs a=>match Bs,a with
   | [.flat [.nslice ⟨1,0,0,0,0⟩ 1 N M,.bool true],.ints .u8 xs],[.ptr (some ⟨0,0,0,0,0⟩),.vrows 1 1 f 1]=>match f 0 with
    | [.bool t]=>Z6 (xs.length=N/\M=N/\N<B) (K (.ret (.int .i64 0)) (Zfe h w b (xs++[cond t 1 0])))
    | _=>False
   | _,_=>False
  | _=>False
 | _=>False
theorem ZkY (args:List AV) (h:Z8) (K:KO) (hl:wtG 80000000000000 args h K):Zd PP 56 args h K:=by
 unfold wtG at hl
 split at hl
 ·split at hl
  ·refine Spec.fsumm hl fun Bs a hlen hK0=> ?_
   split at hK0
   ·split at hK0
    case h_2=>exact hK0.elim
    rename_i t hf
    obtain ⟨⟨h1,rfl,h2⟩,hK⟩:=Zf hK0
    refine ⟨_,_,_,_,_,(Spec.evM Zr (ZpR _ _ _ _ t h1 h2 rfl rfl)).conv fun E r hr=>hr.head (fun _ hc=>hc) fun _ hc=>hc.head (fun _ hc=>hc.rowsC ?_) fun _ hc=>hc,by simp,.ret _ _ rfl,.cons _ _ _ _ _ _ rfl (.flat _ _ rfl) (.cons _ _ _ _ _ _ rfl (.ints _ _) .nil),hK⟩
    intro i hi
    have:i=0:=by omega
    subst this
    exact hf
   ·exact hK0.elim
  ·exact hl.elim
 ·exact hl.elim
structure ClS where
 t:Zp
 side:Int
 a0:Int
 a1:Int
 least:Int
 most:Int
 offers:Bool
 last:Int
 agrees:Bool
 fee:Int
def ClS.c (k:ClS):List AV:=k.t.c++[.int .i64 k.side,.arr .i64 2 [k.a0,k.a1],.int .i64 k.least,.int .i64 k.most,.bool k.offers,.int .i64 k.last,.bool k.agrees,.int .i64 k.fee]
def nP:AV:=.ptr none
def ptA (x o i:Nat):AV:=.ptr (some ⟨x,0,0,o,i⟩)
def Zo5 (x y:Nat):List (List AV):=[[nP,ptA x 0 0,nP],[ptA x 32 0,nP,nP],[ptA x 33 0,nP,nP],[ptA x 34 0,nP,nP],[ptA x 35 0,nP,nP],[ptA x 36 0,nP,nP],[nP,ptA x 37 0,nP],[nP,ptA x 69 0,nP],
 [ptA y 0 0,nP,nP],[ptA x 102 0,nP,nP],[ptA x 102 1,nP,nP],[ptA x 104 0,nP,nP],[ptA x 105 0,nP,nP],[nP,nP,ptA x 106 0],[ptA x 107 0,nP,nP],[nP,nP,ptA x 108 0],[ptA x 109 0,nP,nP]]
def PF (x y i:Nat):List AV:=(Zo5 x y).getD i []
def clH (k:ClS) (s:Int):List (Nat×Blk):=[(0,.flat (k.c++[.bool true])),(1,.flat [.int .i64 s])]
theorem ZpS (k:ClS) (s:Int) :
  evF G0 20 53 [.ptr (some ⟨0,0,0,0,0⟩),.ptr (some ⟨1,0,0,0,0⟩)] ⟨2,clH k s⟩ (ZK 2 (.ret (.func (.func 115) [] [.ptr (some ⟨2,0,0,0,0⟩)])) 4 (clH k s++[(2,.flat [.nslice ⟨3,0,3,0,0⟩ 3 17 17]),(3,.rows 3 17 (PF 0 1))])):=by
 refine @Eq.mpr _ (let c:=k.t;let n:=c.fund;let m:=c.index;let l:=c.cap;let j:=c.dust;let i:=c.fee;let h:=c.delay;let g:=c.k0;let f:=c.k1;let o:=[k.a0,k.a1];let a:=AV.ptr none;let e:=[a];let b:=a::e;let d:=( n=n/\
 Z6 (m=m) (Z6 (l=l) (Z6 (j=j) (Z6 (i=i) (Z6 (h=h) (g=g/\
 f=f/\
 Z6 (k.side=k.side) (o=o/\
 Z6 (k.least=k.least) (Z6 (k.most=k.most) (Z6 (k.offers=k.offers) (Z6 (k.last=k.last) (Z6 (k.agrees=k.agrees) (Z6 (k.fee=k.fee) (Z6 (s=s) (Zu 2 [(3,31),(2,15)] 17 (PF 0 1)
 (Y3 13 (Y3 8 (Y3 6 (Y3 1 (Yg (a::AV.ptr (some (ZO.mk 0 0 0 0 0))::e) 0 3) (Yt 0 (Y3 4 (Y3 3 (Y3 2 (Y3 1 (Y3 0 (fun (x:Nat)=>[]) (Yg (AV.ptr (some (ZO.mk 0 0 0 32 0))::b) 0 3)) (Yg (AV.ptr (some (ZO.mk 0 0 0 33 0))::b) 0 3)) (Yg (AV.ptr (some (ZO.mk 0 0 0 34 0))::b) 0 3)) (Yg (AV.ptr (some (ZO.mk 0 0 0 35 0))::b) 0 3)) (Yg (AV.ptr (some (ZO.mk 0 0 0 36 0))::b) 0 3)))) (Yg (a::AV.ptr (some (ZO.mk 0 0 0 37 0))::a::a::AV.ptr (some (ZO.mk 0 0 0 69 0))::e) 0 3)) (Yt 0 (Y3 4 (Y3 3 (Y3 2 (Y3 1 (Y3 0 (fun (x:Nat)=>[]) (Yg (AV.ptr (some (ZO.mk 1 0 0 0 0))::b) 0 3)) (Yg (AV.ptr (some (ZO.mk 0 0 0 102 0))::b) 0 3)) (Yg (AV.ptr (some (ZO.mk 0 0 0 102 1))::b) 0 3)) (Yg (AV.ptr (some (ZO.mk 0 0 0 104 0))::b) 0 3)) (Yg (AV.ptr (some (ZO.mk 0 0 0 105 0))::b) 0 3))))
 (Yg (a::a::AV.ptr (some (ZO.mk 0 0 0 106 0))::AV.ptr (some (ZO.mk 0 0 0 107 0))::a::a::a::a::AV.ptr (some (ZO.mk 0 0 0 108 0))::AV.ptr (some (ZO.mk 0 0 0 109 0))::b) 0 3))/\
 True))))))))))))));
 d/\d/\d) (by kernel_rfl) ?_
 conv=>zeta
 try simp only [vcA]
 try simp only [vcB]
 try simp only [vcC]
 repeat' apply Ja
 all_goals first
  | rfl
  | trivial
  |exact .mk fun i hi=>by
    have h17:i=0\/i=1\/i=2\/i=3\/i=4\/i=5\/i=6\/i=7\/i=8\/i=9\/i=10\/i=11\/i=12\/i=13\/i=14\/i=15\/i=16:=by omega
    rcases h17 with h|h|h|h|h|h|h|h|h|h|h|h|h|h|h|h|h<;>subst h<;>(refine Eq.mpr (?_:_=True) trivial;kernel_rfl)
def Z43:ZQ:=fun args h K=>match args with
 | [.ptr (some ⟨x,0,0,0,0⟩),.ptr (some ⟨y,0,0,0,0⟩)]=>frA [x,y] h 20 args fun Bs a=>match Bs,a with
  | [.flat cs,.flat [.int .i64 s]],[.ptr (some ⟨0,0,0,0,0⟩),.ptr (some ⟨1,0,0,0,0⟩)]=>∃k:ClS,cs=k.c++[.bool true]/\
   K (.ret (.func (.func 115) [] [.ptr (some ⟨h.next,0,0,0,0⟩)])) ⟨h.next+2,(x,.flat (k.c++[.bool true]))::(y,.flat [.int .i64 s])::(h.next,.flat [.nslice ⟨h.next+1,0,3,0,0⟩ 3 17 17])::(h.next+1,.rows 3 17 (PF x y))::Yc (Yc h.bs x) y⟩
  | _,_=>False
 | _=>False
theorem Zo6 (x y d i:Nat) (hi:i<17):mvC [x,y] d (PF 0 1 i)=some (PF x y i):=by
 have h17:i=0\/i=1\/i=2\/i=3\/i=4\/i=5\/i=6\/i=7\/i=8\/i=9\/i=10\/i=11\/i=12\/i=13\/i=14\/i=15\/i=16:=by omega
 rcases h17 with h|h|h|h|h|h|h|h|h|h|h|h|h|h|h|h|h<;>subst h<;>rfl
theorem Z5o (args:List AV) (h:Z8) (K:KO) (hl:Z43 args h K):Zd PP 53 args h K:=by
 unfold Z43 at hl
 split at hl
 ·refine Spec.fsumm hl fun Bs a hlen hK0=> ?_
  split at hK0
  ·rename_i cs s
   obtain ⟨k,rfl,hK⟩:=hK0
   exact ⟨_,_,_,_,_,.evM Zr (ZpS k s),by simp,.ret _ _ rfl,.cons _ _ _ _ _ _ rfl (.flat _ _ rfl) (.cons _ _ _ _ _ _ rfl (.flat _ _ rfl) (.cons _ _ _ _ _ _ rfl (.flat _ _ rfl) (.cons _ _ _ _ _ _ rfl (.rowsM _ _ _ _ fun i hi=>Zo6 _ _ _ i hi) .nil))),hK⟩
  ·exact hK0.elim
 ·exact hl.elim
def tru (b:Bool):LI:=[cond b 1 0]
def Yw (W:Int->LI) (k:ClS):LI:=k.t.fund++W k.t.index++W k.t.cap++W k.t.dust++W k.t.fee++W k.t.delay++k.t.k0++k.t.k1++W k.side++W k.a0++W k.a1++W k.least++W k.most++tru k.offers++W k.last++tru k.agrees++W k.fee
noncomputable def Zo7 (W:Int->LI) (T:Int) (B:Nat):Za:=((((G0.withF 53 Z43).withF 54 (ZkW W T B)).withF 55 (ZkX B)).withF 56 (wtG B)).withF 119 Z0Z
theorem Zii:(Zo7 Zt 4611686018427387904 80000000000000).Ok:=Za.withF_ok (Za.withF_ok (Za.withF_ok (Za.withF_ok (Za.withF_ok Zr Z5o) Zig) Zih) ZkY) Z0t
structure Zff (T:Int) (k:ClS):Prop where
 ix:0<=k.t.index/\k.t.index<=T
 ca:0<=k.t.cap/\k.t.cap<=T
 du:0<=k.t.dust/\k.t.dust<=T
 fe:0<=k.t.fee/\k.t.fee<=T
 de:0<=k.t.delay/\k.t.delay<=T
 sd:0<=k.side/\k.side<=T
 a0:0<=k.a0/\k.a0<=T
 a1:0<=k.a1/\k.a1<=T
 le:0<=k.least/\k.least<=T
 mo:0<=k.most/\k.most<=T
 la:0<=k.last/\k.last<=T
 fee:0<=k.fee/\k.fee<=T
theorem Zo8 (W:Int->LI) (T:Int) (B n:Nat) (k:ClS) (ys:LI) (hk:Zff T k) (hf:k.t.fund.length=32) (h0:k.t.k0.length=32) (h1:k.t.k1.length=32) (hy:ys=Yw W k) (hn:n=ys.length) (h9:∀v,(W v).length<=9) (hB:1000<B) (hB2:B<90000000000000):
  evF (Zo7 W T B) 20 21 [.ptr (some ⟨0,0,0,0,0⟩)] ⟨1,[(0,.flat (k.c++[.bool true]))]⟩ (ZK 1 (.ret (.nslice ⟨1,0,0,0,0⟩ 1 n n)) 2 [(0,.flat (k.c++[.bool true])),(1,.ints .u8 ys)]):=by
 refine @Eq.mpr _ (let d:=k.side;let L:=decide (d=d);let a:=k.t;let q4:=a.fund;let q5:=a.index;let q6:=a.cap;let V:=a.dust;let P:=a.fee;let O:=a.delay;let b6:=a.k0;let b5:=a.k1;let b4:=[k.a0,k.a1];let b3:=[AV.bool true];
 Z7 L (Z7 L (Z7 L (Z7 L (∃(k_1:ClS),
 let b:=k_1.t;let G:=b.fund;let F:=b.index;let E:=b.cap;let D:=b.dust;let C:=b.fee;let A:=b.delay;let K:=b.k0;let J:=b.k1;let I:=k_1.a0;let H:=k_1.a1;let b2:=[I,H];let z:=k_1.least;let y:=k_1.most;let N:=k_1.offers;let x:=k_1.last;let M:=k_1.agrees;let w:=k_1.fee;let b1:=G++W F;let v:=b1.length;let b0:=b1++W E;let u:=b0.length;let a9:=b0++W D;let s:=a9.length;let a8:=a9++W C;let r:=a8.length;let a7:=a8++W A;let q:=a7.length;let a6:=a7++K;let p:=a6.length;let a5:=a6++J;let o:=a5.length;let a4:=a5++W d;let m:=a4.length;let a3:=a4++W I;let l:=a3.length;let a2:=a3++W H;let j:=a2.length;let Z:=a2++W z;let i:=Z.length;let Y:=Z++W y;let h:=Y.length;let X:=Y++[bif N then 1 else 0];let g:=X.length;let U:=X++W x;let f:=U.length;let S:=U++[bif M then 1 else 0];let e:=S.length;let R:=S++W w;let c:=R.length;let Q:=List.take c (ZV 0 R);
 AV.arr u8 32 q4::AV.int i64 q5::AV.int i64 q6::AV.int i64 V::AV.int i64 P::AV.int i64 O::AV.arr u8 32 b6::AV.arr u8 32 b5::AV.int i64 d::AV.arr i64 2 b4::AV.int i64 k.least::AV.int i64 k.most::AV.bool k.offers::AV.int i64 k.last::AV.bool k.agrees::AV.int i64 k.fee::b3=AV.arr u8 32 G::AV.int i64 F::AV.int i64 E::AV.int i64 D::AV.int i64 C::AV.int i64 A::AV.arr u8 32 K::AV.arr u8 32 J::AV.int i64 k_1.side::AV.arr i64 2 b2::AV.int i64 z::AV.int i64 y::AV.bool N::AV.int i64 x::AV.bool M::AV.int i64 w::b3/\
 Z6 (G.length=32) (Z6 (G.length=32/\(32:Nat)=32/\32<B/\0<=F/\F<=T) (Z6 (v=v/\v=v/\v<B/\0<=E/\E<=T) (Z6 (u=u/\u=u/\u<B/\0<=D/\D<=T) (Z6 (s=s/\s=s/\s<B/\0<=C/\C<=T) (Z6 (r=r/\r=r/\r<B/\0<=A/\A<=T) (Z6 (q=q/\q=q/\q<B/\K.length=32) (Z6 (p=p/\p=p/\p<B/\J.length=32) (Z6 (o=o/\o=o/\o<B/\0<=d/\d<=T) (Z6 (m=m/\m=m/\m<B/\0<=I/\I<=T) (Z6 (l=l/\l=l/\l<B/\0<=H/\H<=T) (Z6 (j=j/\j=j/\j<B/\0<=z/\z<=T) (Z6 (i=i/\i=i/\i<B/\0<=y/\y<=T) (Z6 (h=h/\h=h/\h<B) (Z6 (g=g/\g=g/\g<B/\0<=x/\x<=T) (Z6 (f=f/\f=f/\f<B) (Z6 (e=e/\e=e/\e<B/\0<=w/\w<=T) (Z6 (0+c<=c) (Z6 (Q.length=c/\c<90000000000000) (Z6 (c=n) (Z6 (n<=c) (G=q4/\Z6 (F=q5) (Z6 (E=q6) (Z6 (D=V) (Z6 (C=P) (Z6 (A=O) (K=b6/\J=b5/\Z6 (k_1.side=d) (b2=b4/\Z6 (z=k.least) (Z6 (y=k.most) (Z6 (N=k.offers) (Z6 (x=k.last) (Z6 (M=k.agrees) (Z6 (w=k.fee) (Q=ys/\True)))))))))))))))))))))))))))))))))))))) (by kernel_rfl) ?_
 conv=>zeta
 try simp only [vcA]
 try simp only [vcB]
 try simp only [vcC]
 obtain ⟨⟨a1,b1⟩,⟨a2,b2⟩,⟨a3,b3⟩,⟨a4,b4⟩,⟨a5,b5⟩,⟨a6,b6⟩,⟨a7,b7⟩,⟨a8,b8⟩,⟨a9,b9⟩,⟨a10,b10⟩,⟨a11,b11⟩,⟨a12,b12⟩⟩:=hk
 have l1:=h9 k.t.index
 have l2:=h9 k.t.cap
 have l3:=h9 k.t.dust
 have l4:=h9 k.t.fee
 have l5:=h9 k.t.delay
 have l6:=h9 k.side
 have l7:=h9 k.a0
 have l8:=h9 k.a1
 have l9:=h9 k.least
 have l10:=h9 k.most
 have l11:=h9 k.last
 have l12:=h9 k.fee
 have hz:∀l:LI,List.take l.length (ZV 0 l)=l:=fun l=>by rw [Y6,JU,Jv]
 simp only [hz]
 subst hy hn
 repeat' first
  | with_reducible rfl
  | exact True.intro
  | with_reducible assumption
  | with_reducible refine Ja ?_ ?_
  | with_reducible refine Exists.intro k ?_
 all_goals first
  | ((try simp only [J9,Jl,JD,hf,h0,h1]);omega)
  | rfl
  | (show List.length (Yw W k)<=_;exact J2 _)
def Z23 (n c:Int):Int:=bOr .i64 (ZI .i64 n 8) c
theorem ZkZ:ZI .i64 0 8=0:=by decide
def goN:Nat->LI->Nat->Int->Option Int
 | 0,_,_,n=>some n
 | m+1,xs,k,n=>if n>36028797018963968 then none else goN m xs (k+1) (Z23 n (i64.wrap (xs.getD k 0)))
def Xh (c:Int):Nat:=if c=253 then 2 else if c=254 then 4 else if c=255 then 8 else 0
@[irreducible] def ZU (W:Int->LI) (xs:LI):Int×Int:=
 if xs.length=0 then (0,0)
 else if Xh (xs.getD 0 0)=0 then (i64.wrap (xs.getD 0 0),1)
 else if xs.length<=Xh (xs.getD 0 0) then (0,0)
 else match goN (Xh (xs.getD 0 0)) (xs.drop 1) 0 0 with
  | none=>(0, -1)
  | some n=>if n>4611686018427387904 then (0, -1) else if (W n).length=1+Xh (xs.getD 0 0) then (n,1+Xh (xs.getD 0 0)) else (0, -1)
theorem Ut (h:xs.length=0):ZU W xs=(0,0):=by unfold ZU;rw [if_pos h]
theorem Uu (h:xs.length≠0) (hm:Xh (xs.getD 0 0)=0):ZU W xs=(i64.wrap (xs.getD 0 0),1):=by unfold ZU;rw [if_neg h,if_pos hm]
theorem X8 {m:Nat} (h:xs.length≠0) (hm:Xh (xs.getD 0 0)=m) (hm0:m≠0) (hl:xs.length<=m):ZU W xs=(0,0):=by unfold ZU;rw [if_neg h,if_neg (by omega),if_pos (by omega)]
theorem Ua {m:Nat} (h:xs.length≠0) (hm:Xh (xs.getD 0 0)=m) (hm0:m≠0) (hl:m<xs.length):ZU W xs=match goN m (xs.drop 1) 0 0 with
  | none=>(0, -1)
  | some n=>if n>4611686018427387904 then (0, -1) else if (W n).length=1+m then (n,1+m) else (0, -1):=by
 unfold ZU;rw [if_neg h,if_neg (by omega),if_neg (by omega),hm]
theorem Zfg {c:Int} (h:c=253):Xh c=2:=by unfold Xh;rw [if_pos h]
theorem Zfh {c:Int} (h:¬c=253) (h2:c=254):Xh c=4:=by unfold Xh;rw [if_neg h,if_pos h2]
theorem Zfi {c:Int} (h:¬c=253) (h2:¬c=254) (h3:c=255):Xh c=8:=by unfold Xh;rw [if_neg h,if_neg h2,if_pos h3]
theorem Zj8 {c:Int} (h:¬c=253) (h2:¬c=254) (h3:¬c=255):Xh c=0:=by unfold Xh;rw [if_neg h,if_neg h2,if_neg h3]
theorem Zl0:¬((0:Int)>36028797018963968):=by decide
theorem Zij (W:Int->LI) (xs:LI) (N:Nat) (F:Int×Int) (hN:xs.length=N) (hF:F=ZU W xs):
  evF (Zeb W) 20 271 [.vints .u8 xs N] ⟨0,[]⟩ (ZK 0 (.ret (.tuple [.int .i64 F.1,.int .i64 F.2])) 0 []):=by
 refine @Eq.mpr _ (let s:=decide (0=F.fst);let f:=Z7 s (Z6 (0=F.snd) True);let l:=decide ((0:Int)<=0/\0<(↑N:Int));let e:=List.getD xs 0 0;let i:=decide (N<=xs.length);let h:=(↑(xs.length):Int);let b:=VP (some 1) xs;let k:=bOr i64 0 (wrap i64 (List.getD b 0 0));let g:=decide (k>36028797018963968);let a:=Z7 s (Z6 (-1=F.snd) True);let d:=bOr i64 (ZI i64 k 8) (wrap i64 (List.getD b 1 0));let r:=decide (d>36028797018963968);let q:=bOr i64 (ZI i64 d 8) (wrap i64 (List.getD b 2 0));let p:=decide (q>36028797018963968);let c:=bOr i64 (ZI i64 q 8) (wrap i64 (List.getD b 3 0));let o:=bOr i64 (ZI i64 c 8) (wrap i64 (List.getD b 4 0));let n:=bOr i64 (ZI i64 o 8) (wrap i64 (List.getD b 5 0));let m:=bOr i64 (ZI i64 n 8) (wrap i64 (List.getD b 6 0));let j:=bOr i64 (ZI i64 m 8) (wrap i64 (List.getD b 7 0));
 Z0 ((↑N:Int)==0) f (Z7 l (Z0 (decide (e=253)) (Z0 (decide ((↑N:Int)<=2)) f (Z7 i (Z6 ((0:Int)<=1/\(1:Int)<=3/\3<=h) (Z0 g a (Z0 (decide (d>4611686018427387904)) a (Z0 ((↑(List.length (W d)):Int) !=3) a (Z6 (d=F.fst) (Z6 (3=F.snd) True)))))))) (Z0 (decide (e=254)) (Z0 (decide ((↑N:Int)<=4)) f (Z7 i (Z6 ((0:Int)<=1/\(1:Int)<=5/\5<=h) (Z0 g a (Z0 r a (Z0 p a (Z0 (decide (c>4611686018427387904)) a (Z0 ((↑(List.length (W c)):Int) !=5) a (Z6 (c=F.fst) (Z6 (5=F.snd) True)))))))))) (Z0 (decide (e=255)) (Z0 (decide ((↑N:Int)<=8)) f (Z7 i (Z6 ((0:Int)<=1/\(1:Int)<=9/\9<=h) (Z0 g a (Z0 r a (Z0 p a (Z0 (decide (c>36028797018963968)) a (Z0 (decide (o>36028797018963968)) a (Z0 (decide (n>36028797018963968)) a (Z0 (decide (m>36028797018963968)) a (Z0 (decide (j>4611686018427387904)) a (Z0 ((↑(List.length (W j)):Int) !=9) a (Z6 (j=F.fst) (Z6 (9=F.snd) True)))))))))))))) (Z7 l (Z6 (wrap i64 e=F.fst) (Z6 (1=F.snd) True)))))))) (by kernel_rfl) ?_
 conv=>zeta
 try simp only [vcA]
 try simp only [vcB]
 try simp only [vcC]
 subst hN
 refine ⟨fun h0=> ?_,fun h0=> ?_⟩
 ·rw [hF,Ut (by simp at h0;simp [h0])];exact ⟨rfl,rfl⟩
 have h0:xs.length≠0:=by simp at h0;intro h;rw [Kc] at h;exact h0 h
 have ed:VP (some 1) xs=xs.drop 1:=rfl
 rw [ed]
 refine ⟨by omega,fun c1=>⟨fun l1=> ?_,fun l1=>⟨by omega, ?_⟩⟩,fun c1=>⟨fun c2=>⟨fun l1=> ?_,fun l1=>⟨by omega, ?_⟩⟩,fun c2=>⟨fun c3=>⟨fun l1=> ?_,fun l1=>⟨by omega, ?_⟩⟩,fun c3=> ?_⟩⟩⟩
 ·rw [hF,X8 h0 (Zfg c1) (by decide) (by omega)];exact ⟨rfl,rfl⟩
 ·rw [hF,Ua h0 (Zfg c1) (by decide) (by omega)]
  simp only [goN,Z23,ZkZ,Zl0,if_false,Jf,Nat.reduceAdd]
  repeat' (first|(refine Ja ?_ ?_)|intro _)
  all_goals first|omega|(simp only [*,if_true,if_false];done)|(simp only [*,if_true,if_false];rfl)|skip
  all_goals rename_i hb
  all_goals first|rw [bne_iff_ne] at hb|rw [bne_eq_false_iff_eq] at hb
  all_goals simp only [*,if_false]
  all_goals first|rfl|(split<;>first|rfl|omega)
 ·rw [hF,X8 h0 (Zfh c1 c2) (by decide) (by omega)];exact ⟨rfl,rfl⟩
 ·rw [hF,Ua h0 (Zfh c1 c2) (by decide) (by omega)]
  simp only [goN,Z23,ZkZ,Zl0,if_false,Jf,Nat.reduceAdd]
  repeat' (first|(refine Ja ?_ ?_)|intro _)
  all_goals first|omega|(simp only [*,if_true,if_false];done)|(simp only [*,if_true,if_false];rfl)|skip
  all_goals rename_i hb
  all_goals first|rw [bne_iff_ne] at hb|rw [bne_eq_false_iff_eq] at hb
  all_goals simp only [*,if_false]
  all_goals first|rfl|(split<;>first|rfl|omega)
 ·rw [hF,X8 h0 (Zfi c1 c2 c3) (by decide) (by omega)];exact ⟨rfl,rfl⟩
 ·rw [hF,Ua h0 (Zfi c1 c2 c3) (by decide) (by omega)]
  simp only [goN,Z23,ZkZ,Zl0,if_false,Jf,Nat.reduceAdd]
  repeat' (first|(refine Ja ?_ ?_)|intro _)
  all_goals first|omega|(simp only [*,if_true,if_false];done)|(simp only [*,if_true,if_false];rfl)|skip
  all_goals rename_i hb
  all_goals first|rw [bne_iff_ne] at hb|rw [bne_eq_false_iff_eq] at hb
  all_goals simp only [*,if_false]
  all_goals first|rfl|(split<;>first|rfl|omega)
 ·rw [hF,Uu h0 (Zj8 c1 c2 c3)];exact ⟨by omega,rfl,rfl⟩
def Zfj (F:LI->Int×Int):ZF:=fun args h K=>ZG none h true 20 args fun a=>match a with
 | [.vints .u8 xs n]=>Z6 (xs.length=n) (K (.tuple [.int .i64 (F xs).1,.int .i64 (F xs).2]))
 | _=>False
theorem Zcr (args:List AV) (h:Z8) (K:AV->Prop) (hl:Zfj (ZU Zt) args h K):Zd PP 271 args h fun o h'=>∃v,o=.ret v/\h'=h/\K v:=by
 refine Zx.psumm (d:=20) (Zq _ _ _ _ _ hl fun a ha=> ?_)
 split at ha
 ·obtain ⟨h1,hK⟩:=Zf ha
  exact ⟨_,.evM Z10 (Zij _ _ _ _ h1 rfl),fun _=>rfl,hK⟩
 ·exact ha.elim
noncomputable def E23 (F:LI->Int×Int):Za:=G0.withP 271 (Zfj F)
theorem Zfk:(E23 (ZU Zt)).Ok:=Za.withP_ok Zr Zcr
theorem ZpT (xs:LI) (o n:Nat) (h2:n=0):
  evF G0 20 66 [.ptr (some ⟨0,0,0,0,0⟩)] ⟨2,[(0,.flat [.nslice ⟨1,0,0,0,o⟩ 1 n n,.bool true,.bool false]),(1,.ints .u8 xs)]⟩ (ZK 2 (.ret (.int .i64 0)) 2 [(0,.flat [.nslice ⟨1,0,0,0,o⟩ 1 n n,.bool true,.bool false]),(1,.ints .u8 xs)]):=by
 refine @Eq.mpr _ (Z0 (!(↑n:Int)==0) False (Z0 (decide (o=o)) (Z0 (decide (n=n)) (Z0 (decide (n<=n)) (xs=xs/\True) False) False) False)) (by kernel_rfl) ?_
 try simp only [Zc]
 try simp only [Zl]
 simp_all [Zh]
theorem ZpU (xs:LI) (o n:Nat) (h2:n≠0):
  evF G0 20 66 [.ptr (some ⟨0,0,0,0,0⟩)] ⟨2,[(0,.flat [.nslice ⟨1,0,0,0,o⟩ 1 n n,.bool true,.bool false]),(1,.ints .u8 xs)]⟩ (ZK 2 (.ret (.int .i64 140)) 2 [(0,.flat [.nslice ⟨1,0,0,0,o⟩ 1 n n,.bool true,.bool true]),(1,.ints .u8 xs)]):=by
 refine @Eq.mpr _ (Z0 (!(↑n:Int)==0) (Z0 (decide (o=o)) (Z0 (decide (n=n)) (Z0 (decide (n<=n)) (xs=xs/\True) False) False) False) False) (by kernel_rfl) ?_
 try simp only [Zc]
 try simp only [Zl]
 simp_all [Zh]
theorem Z1H (W:Int->LI) (xs:LI):(ZU W xs).2<=xs.length:=by
 by_cases h0:xs.length=0
 ·rw [Ut h0];omega
 by_cases hm:Xh (xs.getD 0 0)=0
 ·rw [Uu h0 hm];omega
 by_cases hl:xs.length<=Xh (xs.getD 0 0)
 all_goals grind [X8,Ua]
def rdN (F:LI->Int×Int) (xs:LI) (o:Nat) (most:Int):Option (Int×Nat):=
 if 0<(F (xs.drop o)).2/\(F (xs.drop o)).1<=most then some ((F (xs.drop o)).1,o+(F (xs.drop o)).2.toNat) else none
def rdH (xs:LI) (o:Nat):Option (LI×Nat):=if o+32<=xs.length then some ((xs.drop o).take 32,o+32) else none
def ZaQ:ZQ:=fun args h K=>match args with
 | [.ptr (some ⟨r,0,0,0,0⟩)]=>match h.get r with
  |some (.flat [.nslice ⟨b,0,0,0,_⟩ 1 _ _,.bool true,.bool false])=>frA [r,b] h 20 args fun Bs a=>match Bs,a with
   | [.flat [.nslice ⟨1,0,0,0,o⟩ 1 n n2,.bool true,.bool false],.ints .u8 xs],[.ptr (some ⟨0,0,0,0,0⟩)]=>
    Z6 (n2=n) (Z0 (decide (n=0))
     (K (.ret (.int .i64 0)) ⟨h.next,(r,.flat [.nslice ⟨b,0,0,0,o⟩ 1 n n,.bool true,.bool false])::(b,.ints .u8 xs)::Yc (Yc h.bs r) b⟩)
     (K (.ret (.int .i64 140)) ⟨h.next,(r,.flat [.nslice ⟨b,0,0,0,o⟩ 1 n n,.bool true,.bool true])::(b,.ints .u8 xs)::Yc (Yc h.bs r) b⟩))
   | _,_=>False
  | _=>False
 | _=>False
theorem Zfl (args:List AV) (h:Z8) (K:KO) (hl:ZaQ args h K):Zd PP 66 args h K:=by
 unfold ZaQ at hl
 split at hl
 ·split at hl
  ·refine Spec.fsumm hl fun Bs a hlen hK0=> ?_
   split at hK0
   ·rename_i o n n2 xs
    obtain ⟨rfl,hK⟩:=Zf hK0
    rw [Zg] at hK
    by_cases hc:n2=0
    ·exact ⟨_,_,_,_,_,.evM Zr (ZpT xs o _ hc),by simp,.ret _ _ rfl,.cons _ _ _ _ _ _ rfl (.flat _ _ rfl) (.cons _ _ _ _ _ _ rfl (.ints _ _) .nil),hK.1 hc⟩
    ·exact ⟨_,_,_,_,_,.evM Zr (ZpU xs o _ hc),by simp,.ret _ _ rfl,.cons _ _ _ _ _ _ rfl (.flat _ _ rfl) (.cons _ _ _ _ _ _ rfl (.ints _ _) .nil),hK.2 hc⟩
   simp_all
  simp_all
 simp_all
def rdT (xs:LI) (o:Nat):Option (Bool×Nat):=if o<xs.length/\xs.getD o 0<=1 then some (xs.getD o 0==1,o+1) else none
theorem ZpV (xs:LI) (o n o' n':Nat) (b:Bool) (hn:o+n=xs.length) (h0:0<n) (h1:xs.getD o 0<=1) (hb:b=(xs.getD o 0==1)) (ho:o'=o+1) (hn':n'=n-1):
  evF G0 20 130 [.ptr (some ⟨0,0,0,0,0⟩)] ⟨2,[(0,.flat [.nslice ⟨1,0,0,0,o⟩ 1 n n,.bool true,.bool false]),(1,.ints .u8 xs)]⟩ (ZK 2 (.ret (.tuple [.bool b,.int .i64 0])) 2 [(0,.flat [.nslice ⟨1,0,0,0,o'⟩ 1 n' n',.bool true,.bool false]),(1,.ints .u8 xs)]):=by
 refine @Eq.mpr _ (let g:=Z0 (decide (false=b)) False False;let f:=decide (n<=n);let e:=decide ((0:Int)<=1/\1<=(↑n:Int));let d:=o+0+0;let c:=List.getD xs d 0;let a:=WW n (some 1);
 Z0 (!decide (1<=(↑n:Int))) g (Z0 f (Z0 e (Z0 f (Z0 e (Z0 (decide (d<xs.length)) (Z0 (!decide (c<=1)) g (Z0 (decide ((c==1)=b)) (Z0 (decide (o+1=o')) (Z0 (decide (a=n')) (Z0 (decide (n'<=a)) (xs=xs/\True) False) False) False) False)) False) False) False) False) False)) (by kernel_rfl) ?_
 conv=>zeta
 try simp only [Zc]
 try simp only [Zl]
 try simp only [Zg]
 try simp only [Zm]
 try simp only [Zn]
 try simp only [Zh]
 try simp only [and_true]
 have e:WW n (some 1)=n-1:=rfl
 grind
theorem ZpW (xs:LI) (o n:Nat) (hn:o+n=xs.length) (h1:0<n->1<xs.getD o 0):
  evF G0 20 130 [.ptr (some ⟨0,0,0,0,0⟩)] ⟨2,[(0,.flat [.nslice ⟨1,0,0,0,o⟩ 1 n n,.bool true,.bool false]),(1,.ints .u8 xs)]⟩ (ZK 2 (.ret (.tuple [.bool false,.int .i64 140])) 2 [(0,.flat [.nslice ⟨1,0,0,0,o⟩ 1 n n,.bool true,.bool true]),(1,.ints .u8 xs)]):=by
 refine @Eq.mpr _ (let a:=decide (n<=n);let e:=Z0 (decide (o=o)) (Z0 (decide (n=n)) (Z0 a (xs=xs/\True) False) False) False;let d:=decide ((0:Int)<=1/\1<=(↑n:Int));let c:=o+0+0;let b:=List.getD xs c 0;
 Z0 (!decide (1<=(↑n:Int))) e (Z0 a (Z0 d (Z0 a (Z0 d (Z0 (decide (c<xs.length)) (Z0 (!decide (b<=1)) e (Z0 (decide ((b==1)=false)) False False)) False) False) False) False) False)) (by kernel_rfl) ?_
 conv=>zeta
 try simp only [Zc]
 try simp only [Zl]
 try simp only [Zg]
 try simp only [Zm]
 try simp only [Zn]
 try simp only [Zh]
 grind
def ZaR:ZQ:=fun args h K=>match args with
 | [.ptr (some ⟨r,0,0,0,0⟩)]=>match h.get r with
  |some (.flat [.nslice ⟨b,0,0,0,_⟩ 1 _ _,.bool true,.bool false])=>frA [r,b] h 20 args fun Bs a=>match Bs,a with
   | [.flat [.nslice ⟨1,0,0,0,o⟩ 1 n n2,.bool true,.bool false],.ints .u8 xs],[.ptr (some ⟨0,0,0,0,0⟩)]=>
    Z6 (n=xs.length-o/\o<=xs.length/\n2=xs.length-o) ((∀v o',rdT xs o=some (v,o')->(o<=o'/\o'<=xs.length)->
     K (.ret (.tuple [.bool v,.int .i64 0])) ⟨h.next,(r,.flat [.nslice ⟨b,0,0,0,o'⟩ 1 (xs.length-o') (xs.length-o'),.bool true,.bool false])::(b,.ints .u8 xs)::Yc (Yc h.bs r) b⟩)/\
     (rdT xs o=none->K (.ret (.tuple [.bool false,.int .i64 140])) ⟨h.next,(r,.flat [.nslice ⟨b,0,0,0,o⟩ 1 (xs.length-o) (xs.length-o),.bool true,.bool true])::(b,.ints .u8 xs)::Yc (Yc h.bs r) b⟩))
   | _,_=>False
  | _=>False
 | _=>False
theorem Zfm (args:List AV) (h:Z8) (K:KO) (hl:ZaR args h K):Zd PP 130 args h K:=by
 unfold ZaR at hl
 split at hl
 ·split at hl
  ·refine Spec.fsumm hl fun Bs a hlen hK0=> ?_
   split at hK0
   ·rename_i o n n2 xs
    obtain ⟨⟨rfl,h1,rfl⟩,hK,hK'⟩:=Zf hK0
    by_cases hc:o<xs.length/\xs.getD o 0<=1
    ·exact ⟨_,_,_,_,_,.evM Zr (ZpV xs o (xs.length-o) (o+1) (xs.length-(o+1)) _ (by omega) (by omega) hc.2 rfl rfl (by omega)),by simp,.ret _ _ rfl,.cons _ _ _ _ _ _ rfl (.flat _ _ rfl) (.cons _ _ _ _ _ _ rfl (.ints _ _) .nil),hK _ (o+1) (by unfold rdT;rw [if_pos hc]) ⟨by omega,by omega⟩⟩
    ·exact ⟨_,_,_,_,_,.evM Zr (ZpW xs o _ (by omega) (fun h=>by omega)),by simp,.ret _ _ rfl,.cons _ _ _ _ _ _ rfl (.flat _ _ rfl) (.cons _ _ _ _ _ _ rfl (.ints _ _) .nil),hK' (by unfold rdT;rw [if_neg hc])⟩
   simp_all
  simp_all
 simp_all
theorem Zo9 (F:LI->Int×Int) (xs:LI) (o n o' n':Nat) (most v:Int) (hn:o+n=xs.length) (hm:0<=most) (h2:0<(F (xs.drop o)).2/\(F (xs.drop o)).2<=n) (h1:(F (xs.drop o)).1<=most) (hv:(F (xs.drop o)).1=v) (ho:o'=o+(F (xs.drop o)).2.toNat) (hn':n'=n-(F (xs.drop o)).2.toNat):
  evF (E23 F) 20 128 [.ptr (some ⟨0,0,0,0,0⟩),.int .i64 most] ⟨2,[(0,.flat [.nslice ⟨1,0,0,0,o⟩ 1 n n,.bool true,.bool false]),(1,.ints .u8 xs)]⟩ (ZK 2 (.ret (.tuple [.int .i64 v,.int .i64 0])) 2 [(0,.flat [.nslice ⟨1,0,0,0,o'⟩ 1 n' n',.bool true,.bool false]),(1,.ints .u8 xs)]):=by
 refine @Eq.mpr _ (let b:=Z0 (decide (0=v)) False False;let i:=ZO.tot (ZO.mk 1 0 0 0 o);let h:=List.take n (ZV i xs);let g:=F h;let a:=g.snd;let f:=g.fst;let e:=decide (n<=n);let d:=decide (0<=a/\a<= ↑n);let c:=some (Int.toNat a);let j:=WW n c;
 Z0 (decide (most<0)) b (Z0 (decide (i+n<=xs.length)) (Z0 (decide (h.length=n)) (Z0 (decide (a>0)) (Z0 (!decide (f<=most)) b (Z0 (!decide (a<= ↑n)) b (Z0 e (Z0 d (Z0 e (Z0 d (Z0 (decide (f=v)) (Z0 (decide (o+Yd c=o')) (Z0 (decide (j=n')) (Z0 (decide (n'<=j)) (xs=xs/\True) False) False) False) False) False) False) False) False))) b) False) False)) (by kernel_rfl) ?_
 conv=>zeta
 try simp only [Zc]
 try simp only [Zl]
 try simp only [Zg]
 try simp only [Zm]
 try simp only [Zn]
 try simp only [Zh]
 try simp only [and_true]
 have ht:(ZO.mk 1 0 0 0 o).tot=o:=by simp [ZO.tot]
 have hd:List.take n (ZV o xs)=xs.drop o:=by rw [Y6,Ju (by rw [Jb];omega)]
 simp only [ht,hd]
 generalize F (xs.drop o)=p at*
 have e3:Yd (some p.2.toNat)=p.2.toNat:=rfl
 have e4:WW n (some p.2.toNat)=n-p.2.toNat:=rfl
 grind
theorem Zoa (F:LI->Int×Int) (xs:LI) (o n:Nat) (most:Int) (hn:o+n=xs.length) (hm:0<=most) (h2:0<(F (xs.drop o)).2->most<(F (xs.drop o)).1):
  evF (E23 F) 20 128 [.ptr (some ⟨0,0,0,0,0⟩),.int .i64 most] ⟨2,[(0,.flat [.nslice ⟨1,0,0,0,o⟩ 1 n n,.bool true,.bool false]),(1,.ints .u8 xs)]⟩ (ZK 2 (.ret (.tuple [.int .i64 0,.int .i64 140])) 2 [(0,.flat [.nslice ⟨1,0,0,0,o⟩ 1 n n,.bool true,.bool true]),(1,.ints .u8 xs)]):=by
 refine @Eq.mpr _ (let h:=ZO.tot (ZO.mk 1 0 0 0 o);let g:=List.take n (ZV h xs);let f:=F g;let a:=f.snd;let e:=f.fst;let c:=decide (n<=n);let b:=Z0 (decide (o=o)) (Z0 (decide (n=n)) (Z0 c (xs=xs/\True) False) False) False;let d:=decide (0<=a/\a<= ↑n);
 Z0 (decide (most<0)) False (Z0 (decide (h+n<=xs.length)) (Z0 (decide (g.length=n)) (Z0 (decide (a>0)) (Z0 (!decide (e<=most)) b (Z0 (!decide (a<= ↑n)) b (Z0 c (Z0 d (Z0 c (Z0 d (Z0 (decide (e=0)) False False) False) False) False) False))) b) False) False)) (by kernel_rfl) ?_
 conv=>zeta
 try simp only [Zc]
 try simp only [Zl]
 try simp only [Zg]
 try simp only [Zm]
 try simp only [Zn]
 try simp only [Zh]
 try simp only [and_true]
 have ht:(ZO.mk 1 0 0 0 o).tot=o:=by simp [ZO.tot]
 have hd:List.take n (ZV o xs)=xs.drop o:=by rw [Y6,Ju (by rw [Jb];omega)]
 grind
theorem Zob (xs hh:LI) (o n o' n':Nat) (hn:o+n=xs.length) (h2:32<=n) (hh':hh=(xs.drop o).take 32) (ho:o'=o+32) (hn':n'=n-32):
  evF G0 20 129 [.ptr (some ⟨0,0,0,0,0⟩)] ⟨2,[(0,.flat [.nslice ⟨1,0,0,0,o⟩ 1 n n,.bool true,.bool false]),(1,.ints .u8 xs)]⟩ (ZK 2 (.ret (.tuple [.agg [.arr .u8 32 hh],.int .i64 0])) 2 [(0,.flat [.nslice ⟨1,0,0,0,o'⟩ 1 n' n',.bool true,.bool false]),(1,.ints .u8 xs)]):=by
 refine @Eq.mpr _ (let d:=decide (n<=n);let c:=decide ((0:Int)<=32/\32<=(↑n:Int));let b:=ZO.tot (ZO.mk 1 0 0 0 (o+0));let a:=WW n (some 32);
 Z0 (!decide (32<=(↑n:Int))) (Z5=hh/\False) (Z0 d (Z0 c (Z0 d (Z0 c (Z0 (decide (u8=u8/\b+32<=xs.length)) (spl Z5 0 (List.take 32 (List.take 32 (ZV b xs)))=hh/\Z0 (decide (o+32=o')) (Z0 (decide (a=n')) (Z0 (decide (n'<=a)) (xs=xs/\True) False) False) False) False) False) False) False) False)) (by kernel_rfl) ?_
 conv=>zeta
 try simp only [Zc]
 try simp only [Zl]
 try simp only [Zg]
 try simp only [Zm]
 try simp only [Zn]
 try simp only [Zh]
 try simp only [and_true]
 have ht:(ZO.mk 1 0 0 0 (o+0)).tot=o:=by simp [ZO.tot]
 have e4:WW n (some 32)=n-32:=rfl
 have hl:((xs.drop o).take 32).length=32:=by rw [Ji,Jb];omega
 have hd:List.take 32 (List.take 32 (ZV o xs))=(xs.drop o).take 32:=by rw [Y6,List.take_take];rfl
 have hs:spl Z5 0 ((xs.drop o).take 32)=(xs.drop o).take 32:=by
  simp_all [spl,Z5]
 grind
theorem Zoc (xs:LI) (o n:Nat) (hn:o+n=xs.length) (h2:n<32):
  evF G0 20 129 [.ptr (some ⟨0,0,0,0,0⟩)] ⟨2,[(0,.flat [.nslice ⟨1,0,0,0,o⟩ 1 n n,.bool true,.bool false]),(1,.ints .u8 xs)]⟩ (ZK 2 (.ret (.tuple [.agg [.arr .u8 32 Z5],.int .i64 140])) 2 [(0,.flat [.nslice ⟨1,0,0,0,o⟩ 1 n n,.bool true,.bool true]),(1,.ints .u8 xs)]):=by
 refine @Eq.mpr _ (let a:=decide (n<=n);let c:=decide ((0:Int)<=32/\32<=(↑n:Int));let b:=ZO.tot (ZO.mk 1 0 0 0 (o+0));
 Z0 (!decide (32<=(↑n:Int))) (Z5=Z5/\Z0 (decide (o=o)) (Z0 (decide (n=n)) (Z0 a (xs=xs/\True) False) False) False) (Z0 a (Z0 c (Z0 a (Z0 c (Z0 (decide (u8=u8/\b+32<=xs.length)) (spl Z5 0 (List.take 32 (List.take 32 (ZV b xs)))=Z5/\False) False) False) False) False) False)) (by kernel_rfl) ?_
 conv=>zeta
 try simp only [Zc]
 try simp only [Zl]
 try simp only [Zg]
 try simp only [Zm]
 try simp only [Zn]
 try simp only [Zh]
 grind
def ZaS (F:LI->Int×Int):ZQ:=fun args h K=>match args with
 | [.ptr (some ⟨r,0,0,0,0⟩),.int .i64 _]=>match h.get r with
  |some (.flat [.nslice ⟨b,0,0,0,_⟩ 1 _ _,.bool true,.bool false])=>frA [r,b] h 20 args fun Bs a=>match Bs,a with
   | [.flat [.nslice ⟨1,0,0,0,o⟩ 1 n n2,.bool true,.bool false],.ints .u8 xs],[.ptr (some ⟨0,0,0,0,0⟩),.int .i64 most]=>
    Z6 (n=xs.length-o/\o<=xs.length/\n2=xs.length-o/\0<=most) ((∀v o',rdN F xs o most=some (v,o')->(o<=o'/\o'<=xs.length/\v<=most)->
     K (.ret (.tuple [.int .i64 v,.int .i64 0])) ⟨h.next,(r,.flat [.nslice ⟨b,0,0,0,o'⟩ 1 (xs.length-o') (xs.length-o'),.bool true,.bool false])::(b,.ints .u8 xs)::Yc (Yc h.bs r) b⟩)/\
     (rdN F xs o most=none->K (.ret (.tuple [.int .i64 0,.int .i64 140])) ⟨h.next,(r,.flat [.nslice ⟨b,0,0,0,o⟩ 1 (xs.length-o) (xs.length-o),.bool true,.bool true])::(b,.ints .u8 xs)::Yc (Yc h.bs r) b⟩))
   | _,_=>False
  | _=>False
 | _=>False
theorem Zfn (args:List AV) (h:Z8) (K:KO) (hl:ZaS (ZU Zt) args h K):Zd PP 128 args h K:=by
 unfold ZaS at hl
 split at hl
 ·split at hl
  ·refine Spec.fsumm hl fun Bs a hlen hK0=> ?_
   split at hK0
   ·rename_i o n n2 xs most
    obtain ⟨⟨rfl,h1,rfl,h3⟩,hK,hK'⟩:=Zf hK0
    have hle:=Z1H Zt (xs.drop o)
    rw [Jb] at hle
    by_cases hc:0<(ZU Zt (xs.drop o)).2/\(ZU Zt (xs.drop o)).1<=most
    ·have f1:o<=o+(ZU Zt (xs.drop o)).2.toNat/\o+(ZU Zt (xs.drop o)).2.toNat<=xs.length/\(ZU Zt (xs.drop o)).1<=most:=⟨by omega,by omega,hc.2⟩
     exact ⟨_,_,_,_,_,.evM Zfk (Zo9 _ xs o (xs.length-o) (o+(ZU Zt (xs.drop o)).2.toNat) (xs.length-(o+(ZU Zt (xs.drop o)).2.toNat)) most _ (by omega) h3 ⟨hc.1,by omega⟩ hc.2 rfl rfl (by omega)),by simp,.ret _ _ rfl,.cons _ _ _ _ _ _ rfl (.flat _ _ rfl) (.cons _ _ _ _ _ _ rfl (.ints _ _) .nil),hK _ _ (by unfold rdN;rw [if_pos hc]) f1⟩
    ·exact ⟨_,_,_,_,_,.evM Zfk (Zoa _ xs o _ most (by omega) h3 (fun h=>by omega)),by simp,.ret _ _ rfl,.cons _ _ _ _ _ _ rfl (.flat _ _ rfl) (.cons _ _ _ _ _ _ rfl (.ints _ _) .nil),hK' (by unfold rdN;rw [if_neg hc])⟩
   simp_all
  simp_all
 simp_all
def Z6r:ZQ:=fun args h K=>match args with
 | [.ptr (some ⟨r,0,0,0,0⟩)]=>match h.get r with
  |some (.flat [.nslice ⟨b,0,0,0,_⟩ 1 _ _,.bool true,.bool false])=>frA [r,b] h 20 args fun Bs a=>match Bs,a with
   | [.flat [.nslice ⟨1,0,0,0,o⟩ 1 n n2,.bool true,.bool false],.ints .u8 xs],[.ptr (some ⟨0,0,0,0,0⟩)]=>
    Z6 (n=xs.length-o/\o<=xs.length/\n2=xs.length-o) ((∀hh o',rdH xs o=some (hh,o')->(o<=o'/\o'<=xs.length/\hh.length=32)->
     K (.ret (.tuple [.agg [.arr .u8 32 hh],.int .i64 0])) ⟨h.next,(r,.flat [.nslice ⟨b,0,0,0,o'⟩ 1 (xs.length-o') (xs.length-o'),.bool true,.bool false])::(b,.ints .u8 xs)::Yc (Yc h.bs r) b⟩)/\
     (rdH xs o=none->K (.ret (.tuple [.agg [.arr .u8 32 Z5],.int .i64 140])) ⟨h.next,(r,.flat [.nslice ⟨b,0,0,0,o⟩ 1 (xs.length-o) (xs.length-o),.bool true,.bool true])::(b,.ints .u8 xs)::Yc (Yc h.bs r) b⟩))
   | _,_=>False
  | _=>False
 | _=>False
theorem Zcs (args:List AV) (h:Z8) (K:KO) (hl:Z6r args h K):Zd PP 129 args h K:=by
 unfold Z6r at hl
 split at hl
 ·split at hl
  ·refine Spec.fsumm hl fun Bs a hlen hK0=> ?_
   split at hK0
   ·rename_i o n n2 xs
    obtain ⟨⟨rfl,h1,rfl⟩,hK,hK'⟩:=Zf hK0
    by_cases hc:o+32<=xs.length
    ·have f1:o<=o+32/\o+32<=xs.length/\((xs.drop o).take 32).length=32:=⟨by omega,hc,by rw [Ji,Jb];omega⟩
     exact ⟨_,_,_,_,_,.evM Zr (Zob xs _ o (xs.length-o) (o+32) (xs.length-(o+32)) (by omega) (by omega) rfl rfl (by omega)),by simp,.ret _ _ rfl,.cons _ _ _ _ _ _ rfl (.flat _ _ rfl) (.cons _ _ _ _ _ _ rfl (.ints _ _) .nil),hK _ _ (by unfold rdH;rw [if_pos hc]) f1⟩
    ·exact ⟨_,_,_,_,_,.evM Zr (Zoc xs o _ (by omega) (by omega)),by simp,.ret _ _ rfl,.cons _ _ _ _ _ _ rfl (.flat _ _ rfl) (.cons _ _ _ _ _ _ rfl (.ints _ _) .nil),hK' (by unfold rdH;rw [if_neg hc])⟩
   simp_all
  simp_all
 simp_all
theorem Zfo {n c:Int} (h0:0<=n) (h1:n<36028797018963968) (h2:0<=c) (h3:c<=255):Z23 n c=256*n+c:=by
 unfold Z23 bOr ZI
 have e1:(n*2^(min (8:Int).toNat i64.bits))=n*256:=by simp [IntKind.bits]
 rw [e1,w64 (x:=n*256) (by omega)]
 obtain ⟨a,rfl⟩:=Kd h0
 obtain ⟨b,rfl⟩:=Kd h2
 have e2:((BitVec.ofInt i64.bits ((a:Int)*256))|||(BitVec.ofInt i64.bits (b:Int))).toNat=256*a+b:=by
  have ea:BitVec.ofInt 64 ((a:Int)*256)=BitVec.ofNat 64 (a*256):=by
   rfl
  have eb:BitVec.ofInt 64 (b:Int)=BitVec.ofNat 64 b:=JF 64 b
  show (BitVec.ofInt 64 ((a:Int)*256)|||BitVec.ofInt 64 (b:Int)).toNat=_
  rw [ea,eb,BitVec.toNat_or,JG,JG,Jx (by omega),Jx (by omega)]
  have:=Nat.shiftLeft_add_eq_or_of_lt (a:=a) (b:=b) (i:=8) (by omega)
  rw [Nat.shiftLeft_eq] at this
  rw [<-this];omega
 rw [e2,w64 (by omega)]
 omega
theorem Z9A {c:Int} (h2:0<=c) (h3:c<=255):Z23 36028797018963968 c<0:=by
 have h:∀b:Fin 256,Z23 36028797018963968 (b.val:Int)<0:=by decide+kernel
 have:=h ⟨c.toNat,by omega⟩
 have e:((c.toNat:Nat):Int)=c:=Int.toNat_of_nonneg h2
 rw [show ((⟨c.toNat,by omega⟩:Fin 256).val:Int)=c from e] at this
 exact this
theorem Z2t:∀(m:Nat) (xs:LI) (k:Nat) (n:Int),Bytes xs->0<=n->n*256^m<=U5 m xs k n
 | 0,xs,k,n,hb,hn=>by simp [U5]
 | m+1,xs,k,n,hb,hn=>by
  have hc:=hb.h k
  have:=Z2t m xs (k+1) (256*n+xs.getD k 0) hb (by omega)
  refine K4 ?_ this
  rw [Int.pow_succ,Int.mul_comm (256^m) 256,<-Int.mul_assoc]
  exact Int.mul_le_mul_of_nonneg_right (by omega) (Int.le_of_lt (Int.pow_pos (by decide)))
theorem Zfp {a b:Nat} (h:a<=b):(256:Int)^a<=256^b:=by
 have h1:=Nat.pow_le_pow_right (n:=256) (by decide) h
 have h2:((256^a:Nat):Int)<=((256^b:Nat):Int):=Int.ofNat_le.2 h1
 exact h2
theorem Zod (m:Nat):(1:Int)<=256^m:=Int.pow_pos (by decide)
theorem ZaT:∀(m:Nat) (xs:LI) (k:Nat) (n:Int),Bytes xs->0<=n->m<=8->n<256^(8-m)->
  (goN m xs k n=none/\U5 m xs k n>4611686018427387904)\/(∃v,goN m xs k n=some v/\((v=U5 m xs k n/\0<=v)\/(v<0/\U5 m xs k n>4611686018427387904)))
 | 0,xs,k,n,hb,hn,hm,hl=>.inr ⟨n,rfl,.inl ⟨rfl,hn⟩⟩
 | m+1,xs,k,n,hb,hn,hm,hl=>by
  have hc:=hb.h k
  have hge:=Z2t (m+1) xs k n hb hn
  by_cases h1:n>36028797018963968
  ·left
   refine ⟨by unfold goN;rw [if_pos h1], ?_⟩
   have:=Zod m
   rw [Int.pow_succ] at hge
   have h2:n*(1*256)<=n*(256^m*256):=Int.mul_le_mul_of_nonneg_left (Int.mul_le_mul_of_nonneg_right this (by decide)) hn
   omega
  ·unfold goN U5
   rw [if_neg h1]
   have hw:i64.wrap (xs.getD k 0)=xs.getD k 0:=w64 (by omega)
   rw [hw]
   by_cases h2:n=36028797018963968
   ·subst h2
    have hm0:m=0:=by
     rcases JA m with h|h
     ·exact h
     ·have hle:(256:Int)^(8-(m+1))<=256^6:=Zfp (by omega)
      omega
    subst hm0
    right
    refine ⟨_,rfl,.inr ⟨Z9A hc.1 hc.2, ?_⟩⟩
    show 256*36028797018963968+xs.getD k 0>_
    omega
   ·rw [Zfo hn (by omega) hc.1 hc.2]
    refine ZaT m xs (k+1) _ hb (by omega) (by omega) ?_
    have e:8-m=(8-(m+1))+1:=by omega
    rw [e,Int.pow_succ]
    omega
theorem Z5p (hb:Bytes xs) {m:Nat} (h:xs.length≠0) (hm:Xh (xs.getD 0 0)=m) (hm0:m≠0) (h8:m<=8) (hl:m<xs.length):
  ZU Zt xs=if U5 m xs 1 0>4611686018427387904 then ((0:Int),(-1:Int)) else if (Zt (U5 m xs 1 0)).length=1+m then (U5 m xs 1 0,1+(m:Int)) else ((0:Int),(-1:Int)):=by
 rw [Ua h hm hm0 hl]
 have hv:∀(m k:Nat) (n:Int),U5 m (xs.drop 1) k n=U5 m xs (k+1) n:=by
  intro m
  induction m with
  | zero=>intro k n;rfl
  | succ m ih=>
   intro k n
   unfold U5
   rw [ih]
   congr 2
   rw [J5,J5,Jz,Nat.add_comm]
 rcases ZaT m (xs.drop 1) 0 0 (hb.drop 1) (by decide) h8 (Zod _) with ⟨h1,h2⟩|⟨v,h1,h2⟩
 all_goals grind [Zap]
theorem Z44 {n c:Int} (h0:0<=n) (h1:n<72057594037927936) (h2:0<=c/\c<=255):u64.wrap (u64.wrap (256*n)+u64.wrap c)=256*n+c:=by
 rw [Zeo (x:=c) (by omega),Zeo (x:=256*n) (by omega),Zeo (by omega)]
theorem Zl1 {c:Int} (h2:0<=c/\c<=255):u64.wrap (0+u64.wrap c)=256*0+c:=by
 rw [Zeo (x:=c) (by omega),Zeo (by omega)];omega
theorem Uv {F:Int×Int} (hb:Bytes xs) {m:Nat} {M:Int} (hF:F=ZU Zt xs) (hM:M=1+m) (h:xs.length≠0) (hm:Xh (xs.getD 0 0)=m) (hm0:m≠0) (h8:m<=8) (hl:m<xs.length):
  (U5 m xs 1 0>4611686018427387904->0=F.1/\ -1=F.2)/\(¬U5 m xs 1 0>4611686018427387904->0<=i64.wrap (U5 m xs 1 0)/\
   ((((Zt (i64.wrap (U5 m xs 1 0))).length:Int) !=M)=true->0=F.1/\ -1=F.2)/\((((Zt (i64.wrap (U5 m xs 1 0))).length:Int) !=M)=false->i64.wrap (U5 m xs 1 0)=F.1/\M=F.2)):=by
 have he:=Z5p hb h hm hm0 h8 hl
 have hge:=Z2t m xs 1 0 hb (by decide)
 generalize U5 m xs 1 0=V at*
 rw [hF,he]
 refine ⟨fun h1=>by rw [if_pos h1];omega,fun h1=> ?_⟩
 rw [w64 (x:=V) (by omega)]
 grind
theorem Zfq (W:Int->LI) (xs:LI) (N:Nat) (F:Int×Int) (hN:xs.length=N) (hW:W=Zt) (hb:Bytes xs) (hF:F=ZU Zt xs):
  evF (E30 W) 20 222 [.vints .u8 xs N] ⟨0,[]⟩ (ZK 0 (.ret (.tuple [.int .i64 F.1,.int .i64 F.2])) 0 []):=by
 refine @Eq.mpr _ (let q:=decide (0=F.fst);let d:=Z7 q (Z6 (0=F.snd) True);let b:=decide ((0:Int)<=0/\0<(↑N:Int));let c:=List.getD xs 0 0;let n:=c==255;let f:=decide ((0:Int)<=1/\1<(↑N:Int));let e:=decide ((0:Int)<=2/\2<(↑N:Int));let m:=decide ((0:Int)<=3/\3<(↑N:Int));let l:=decide ((0:Int)<=4/\4<(↑N:Int));let k:=wrap u64 (wrap u64 (256*wrap u64 (0+wrap u64 (List.getD xs 1 0)))+wrap u64 (List.getD xs 2 0));let j:=wrap u64 (wrap u64 (256*wrap u64 (wrap u64 (256*k)+wrap u64 (List.getD xs 3 0)))+wrap u64 (List.getD xs 4 0));let p:=wrap u64 (wrap u64 (256*wrap u64 (wrap u64 (256*wrap u64 (wrap u64 (256*wrap u64 (wrap u64 (256*j)+wrap u64 (List.getD xs 5 0)))+wrap u64 (List.getD xs 6 0)))+wrap u64 (List.getD xs 7 0)))+wrap u64 (List.getD xs 8 0));let a:=Z7 q (Z6 (-1=F.snd) True);let i:=wrap i64 p;let o:=Z0 (decide ((↑N:Int)<9)) d (Z7 f (Z7 e (Z7 m (Z7 l (Z6 ((0:Int)<=5/\5<(↑N:Int)) (Z6 ((0:Int)<=6/\6<(↑N:Int)) (Z6 ((0:Int)<=7/\7<(↑N:Int)) (Z6 ((0:Int)<=8/\8<(↑N:Int)) (Z0 (decide (p>4611686018427387904)) a (Z6 (0<=i) (Z0 ((↑(List.length (W i)):Int) !=9) a (Z6 (i=F.fst) (Z6 (9=F.snd) True)))))))))))));let h:=wrap i64 j;let g:=wrap i64 k;
 Z0 ((↑N:Int)==0) d (Z7 b (Z0 (decide (c<253)) (Z7 b (Z6 (wrap i64 c=F.fst) (Z6 (1=F.snd) True))) (Z7 b (Z0 (c==254) (Z7 b (Z0 n o (Z0 (decide ((↑N:Int)<5)) d (Z7 f (Z7 e (Z7 m (Z7 l (Z0 (decide (j>4611686018427387904)) a (Z6 (0<=h) (Z0 ((↑(List.length (W h)):Int) !=5) a (Z6 (h=F.fst) (Z6 (5=F.snd) True)))))))))))) (Z7 b (Z0 n o (Z0 (decide ((↑N:Int)<3)) d (Z7 f (Z7 e (Z0 (decide (k>4611686018427387904)) a (Z6 (0<=g) (Z0 ((↑(List.length (W g)):Int) !=3) a (Z6 (g=F.fst) (Z6 (3=F.snd) True))))))))))))))) (by kernel_rfl) ?_
 conv=>zeta
 try simp only [vcA]
 try simp only [vcB]
 try simp only [vcC]
 subst hN hW
 refine ⟨fun h0=> ?_,fun h0=> ?_⟩
 ·rw [hF,Ut (by simp_all)];omega
 have h0:xs.length≠0:=by simp_all
 have c0:=hb.h 0
 have c1:=hb.h 1
 have c2:=hb.h 2
 have c3:=hb.h 3
 have c4:=hb.h 4
 have c5:=hb.h 5
 have c6:=hb.h 6
 have c7:=hb.h 7
 have c8:=hb.h 8
 have e1:=Zl1 c1
 have e2:=Z44 (n:=256*0+xs.getD 1 0) (by omega) (by omega) c2
 have e3:=Z44 (n:=256*(256*0+xs.getD 1 0)+xs.getD 2 0) (by omega) (by omega) c3
 have e4:=Z44 (n:=256*(256*(256*0+xs.getD 1 0)+xs.getD 2 0)+xs.getD 3 0) (by omega) (by omega) c4
 have e5:=Z44 (n:=256*(256*(256*(256*0+xs.getD 1 0)+xs.getD 2 0)+xs.getD 3 0)+xs.getD 4 0) (by omega) (by omega) c5
 have e6:=Z44 (n:=256*(256*(256*(256*(256*0+xs.getD 1 0)+xs.getD 2 0)+xs.getD 3 0)+xs.getD 4 0)+xs.getD 5 0) (by omega) (by omega) c6
 have e7:=Z44 (n:=256*(256*(256*(256*(256*(256*0+xs.getD 1 0)+xs.getD 2 0)+xs.getD 3 0)+xs.getD 4 0)+xs.getD 5 0)+xs.getD 6 0) (by omega) (by omega) c7
 have e8:=Z44 (n:=256*(256*(256*(256*(256*(256*(256*0+xs.getD 1 0)+xs.getD 2 0)+xs.getD 3 0)+xs.getD 4 0)+xs.getD 5 0)+xs.getD 6 0)+xs.getD 7 0) (by omega) (by omega) c8
 rw [e1,e2,e3,e4,e5,e6,e7,e8]
 have hl0:(0:Int)<=0/\(0:Int)<(xs.length:Int):=by omega
 refine ⟨hl0,fun a1=>⟨hl0, ?_⟩,fun a1=>⟨hl0,fun a2=>⟨hl0,fun a3=> ?_,fun a3=> ?_⟩,fun a2=>⟨hl0,fun a3=> ?_,fun a3=> ?_⟩⟩⟩
 ·rw [hF,Uu h0 (Zj8 (by omega) (by omega) (by omega))];omega
 ·simp_all
 ·have a2:xs.getD 0 0=254:=by simp_all
  have hm:=Zfh (by omega) a2
  refine ⟨fun l=> ?_,fun l=> ?_⟩
  ·rw [hF,X8 h0 hm (by decide) (by omega)];omega
  ·and_intros
   all_goals first|omega|skip
   all_goals first|exact (Uv hb hF rfl h0 hm (by decide) (by decide) (by omega)).2
 ·have a3:xs.getD 0 0=255:=by simp_all
  have hm:=Zfi (by omega) (by omega) a3
  refine ⟨fun l=> ?_,fun l=> ?_⟩
  ·rw [hF,X8 h0 hm (by decide) (by omega)];omega
  ·and_intros
   all_goals first|omega|skip
   all_goals first|exact (Uv hb hF rfl h0 hm (by decide) (by decide) (by omega)).1|exact (Uv hb hF rfl h0 hm (by decide) (by decide) (by omega)).2
 ·have a2:xs.getD 0 0≠254:=by simpa using a2
  have a3:xs.getD 0 0≠255:=by simpa using a3
  have hm:=Zfg (c:=xs.getD 0 0) (by omega)
  refine ⟨fun l=> ?_,fun l=> ?_⟩
  ·rw [hF,X8 h0 hm (by decide) (by omega)];exact ⟨rfl,rfl⟩
  ·and_intros
   all_goals first|omega|skip
   all_goals first|exact (Uv hb hF rfl h0 hm (by decide) (by decide) (by omega)).2
def ZaU (F:LI->Int×Int):ZF:=fun args h K=>ZG none h true 20 args fun a=>match a with
 | [.vints .u8 xs n]=>(xs.length=n/\Bytes xs)/\K (.tuple [.int .i64 (F xs).1,.int .i64 (F xs).2])
 | _=>False
theorem Z9B (args:List AV) (h:Z8) (K:AV->Prop) (hl:ZaU (ZU Zt) args h K):Zd PP 222 args h fun o h'=>∃v,o=.ret v/\h'=h/\K v:=by
 refine Zx.psumm (d:=20) (Zq _ _ _ _ _ hl fun a ha=> ?_)
 split at ha
 ·obtain ⟨⟨h1,h2⟩,hK⟩:=ha
  exact ⟨_,.evM Zkc (Zfq _ _ _ _ h1 rfl h2 rfl),fun _=>rfl,hK⟩
 simp_all
theorem VL {o p:Nat} {m m':Int} (h:rdN F xs o m=some (v,p)) (hm:v<=m'):rdN F xs o m'=some (v,p):=by
 simp_all [rdN]
theorem Qk {o p:Nat} {m:Int} (h:rdN F xs o m=some (v,p)):v<=m:=by
 grind [rdN]
def amM (l:List Z9):Int:=(l.map fun m=>m.o.amount).sum
theorem Z45 (l:List Z9):(ZW l).Perm l:=by
 have:=Us (lt:=ltM) (l:=l) (acc:=[])
 rwa [Kg] at this
theorem Zfr {l m:LI} (h:l.Perm m):l.sum=m.sum:=by
 induction h with
 | nil=>rfl
 | cons x _ ih=>simp [ih]
 | swap x y l=>simp;omega
 | trans _ _ h1 h2=>exact h1.trans h2
theorem Zfs (l:List Z9):amM (ZW l)=amM l:=by
 unfold amM
 exact Zfr ((Z45 l).map _)
theorem Zct (L:List Z9):amL (Y4 L) L.length=L.map fun m=>m.o.amount:=by
 unfold amL Y4
 refine List.ext_getElem (by simp) fun k h1 h2=> ?_
 simp at h1 h2
 simp [J5,h1]
theorem Zcu {t:TxS} (h1:0<=t.num/\t.num<=2147483647) (h2:1<=t.N/\t.N<=24) (h3:1<=t.M/\t.M<=24) (h4:∀i,i<t.N->Yh (t.ins i)=true) (h5:∀i j,i<t.N->j<i->(t.ins j).index≠(t.ins i).index) (h6:∀i,i<t.M->ZP (t.outs i)=true) (h7:QK t t.M<=1125899906842624):Yp ZJ t=true:=by
 rw [<-Z59]
 unfold Wi
 simp only [J3,decide_eq_true_eq,List.all_eq_true,K9]
 refine ⟨⟨⟨⟨⟨h1,h2⟩,h3⟩,fun i hi=> ?_⟩,h6⟩,h7⟩
 unfold okI
 rw [h4 i hi,Bool.true_and]
 simp only [J6,Kl,K9]
 intro j hj hs
 exact h5 i j hi hj (Z0v.1 hs).2
structure Zp.All (t:Zp):Prop where
 ok:t.Ok
 fl:t.fund.length=32
 fb:Bytes t.fund
def txC (t:Zp) (a b fee:Int):TxS:=⟨2147483647,1,fun _=>Z0y t,(ZW (clL t a b fee)).length,Y4 (ZW (clL t a b fee))⟩
def ZN (t:Zp) (a b fee:Int):Int:=if clB ZJ t a b fee=true then (if (clL t a b fee).length=0 then 180 else 0) else 2
theorem Z9C {t:Zp} {a b fee:Int} (h:ZN t a b fee=0):clB ZJ t a b fee=true/\(clL t a b fee).length≠0:=by
 unfold ZN at h
 split at h
 ·rename_i h1
  split at h
  ·cases h
  ·exact ⟨h1,by assumption⟩
 ·cases h
theorem ZaV {t:Zp} {a b fee:Int} (h1:clB ZJ t a b fee=true) (h2:(clL t a b fee).length≠0):ZN t a b fee=0:=by
 unfold ZN;rw [if_pos h1,if_neg h2]
theorem Wo {t:Zp} (h:Yj t=true):(0<=t.index/\t.index<=23)/\(1000<=t.cap/\t.cap<=1125899906842624)/\(1<=t.dust/\t.dust<=500)/\(0<=t.fee/\t.fee<=400)/\(1<=t.delay/\t.delay<=1000)/\t.k0≠t.k1:=by
 unfold Yj at h
 simp only [J3,decide_eq_true_eq,bne_iff_ne,ne_eq] at h
 obtain ⟨⟨⟨⟨⟨h1,h2⟩,h3⟩,h4⟩,h5⟩,h6⟩:=h
 exact ⟨h1,h2,h3,h4,h5,h6⟩
theorem Z6s {t:Zp} {a b fee:Int} {m:Z9} (h:m∈clL t a b fee):(t.dust<=a-fee/\m=⟨⟨1,a-fee,t.k0,Z5,Z5,Z5,0,0⟩,0,0⟩)\/(t.dust<=b/\m=⟨⟨1,b,t.k1,Z5,Z5,Z5,0,0⟩,1,0⟩):=by
 unfold clL at h
 rw [JW] at h
 rcases h with h|h<;>split at h<;>simp at h
 ·exact .inl ⟨by assumption,h⟩
 ·exact .inr ⟨by assumption,h⟩
theorem Z2u {t:Zp} {a b fee:Int}:(clL t a b fee).length<=2:=by
 unfold clL
 rw [J9]
 split<;>split<;>simp
theorem Zik {t:Zp} {a b fee:Int} (h:clB ZJ t a b fee=true):amM (clL t a b fee)<=t.cap:=by
 obtain ⟨k1,⟨⟨k2,_⟩,⟨k3,_⟩⟩,k4,k5⟩:=Wl.1 h
 unfold clL amM
 split<;>split<;>simp<;>omega
theorem Zft {L:List Z9} {i:Nat} (h:i<L.length):∃m∈L,Y4 L i=m.o:=⟨L[i],Ko h,by
 show (L.getD i Yq).o=_
 rw [J5,Jd h];rfl⟩
theorem Z6t {t:Zp} {a b fee:Int} {i:Nat} (h:i<(txC t a b fee).M):∃m∈clL t a b fee,(txC t a b fee).outs i=m.o:=by
 obtain ⟨m,hm,e⟩:=Zft (L:=ZW (clL t a b fee)) h
 exact ⟨m,(Z45 _).mem_iff.1 hm,e⟩
theorem WF {t:Zp} {a b fee:Int} (ht:t.Ok) (hf:t.fund.length=32):(txC t a b fee).Ok:=by
 have hl:(ZW (clL t a b fee)).length<=2:=by rw [X5];exact Z2u
 refine ⟨by show (1:Nat)<_;decide,by show (ZW _).length<_;omega,fun i _=>⟨hf,rfl,rfl,rfl⟩,fun i hi=> ?_⟩
 obtain ⟨m,hm,e⟩:=Z6t hi
 rw [e]
 rcases Z6s hm with ⟨_,rfl⟩|⟨_,rfl⟩
 ·exact ⟨ht.k0,rfl,rfl,rfl⟩
 ·exact ⟨ht.k1,rfl,rfl,rfl⟩
theorem ZaW {t:Zp} {a b fee:Int} (ht:t.All):Z00 (txC t a b fee):=by
 refine ⟨fun i _=>⟨ht.fb,Yr,Yr,Yr⟩,fun i hi=> ?_⟩
 obtain ⟨m,hm,e⟩:=Z6t hi
 rw [e]
 rcases Z6s hm with ⟨_,rfl⟩|⟨_,rfl⟩
 ·exact ⟨ht.ok.b0,Yr,Yr,Yr⟩
 ·exact ⟨ht.ok.b1,Yr,Yr,Yr⟩
theorem Vf {t:Zp} {a b fee:Int} (h:ZN t a b fee=0):Yp ZJ (txC t a b fee)=true:=by
 obtain ⟨hb,hn⟩:=Z9C h
 obtain ⟨kt,⟨⟨k2,k2'⟩,⟨k3,k3'⟩⟩,k4,k5⟩:=Wl.1 hb
 have kd:=Wo kt
 have hl:(ZW (clL t a b fee)).length=(clL t a b fee).length:=X5
 have hl2:=Z2u (t:=t) (a:=a) (b:=b) (fee:=fee)
 refine Zcu ⟨by show (0:Int)<=2147483647;decide,by show (2147483647:Int)<=2147483647;decide⟩ ⟨J2 _,by show (1:Nat)<=24;decide⟩ ⟨by show 1<=(ZW (clL t a b fee)).length;omega,by show (ZW (clL t a b fee)).length<=24;omega⟩ (fun i hi=> ?_) (fun i j hi hj=> ?_) (fun i hi=> ?_) ?_
 ·show Yh (Z0y t)=true
  unfold Yh Z0y
  simp
  omega
 ·have hi:i<1:=hi
  omega
 ·obtain ⟨m,hm,e⟩:=Z6t hi
  rw [e]
  rcases Z6s hm with ⟨_,rfl⟩|⟨_,rfl⟩
  ·unfold ZP;simp;omega
  ·unfold ZP;simp;omega
 ·show (amL (Y4 (ZW (clL t a b fee))) (ZW (clL t a b fee)).length).sum<=_
  rw [Zct]
  have e:amM (ZW (clL t a b fee))=((ZW (clL t a b fee)).map fun m=>m.o.amount).sum:=rfl
  have:=Zik hb
  rw [<-e,Zfs]
  omega
def Z9D (t:Zp) (side:Int):LI:=if side=0 then t.k0 else t.k1
theorem Zfu {t:Zp} (ht:t.Ok) (s:Int):(Z9D t s).length=32:=by unfold Z9D;split;exact ht.k0;exact ht.k1
def Z01 (n least most:Int):Int:=max least (min most n)
structure Z1I (k:ClS):Prop where
 t:Yj k.t=true
 side:k.side=0\/k.side=1
 a0:0<=k.a0
 a1:0<=k.a1
 sum:k.a0+k.a1=k.t.cap
 lo:0<=k.least
 lm:k.least<=k.most
 hi:k.most<=k.a0
structure Y0 (k:ClS):Prop where
 made:Z1I k
 off:k.offers=true->k.least<=k.last/\k.last<=k.most
 nof:k.offers=false->k.last=0
 agr:k.agrees=true->k.offers=true/\k.fee=k.last/\ZN k.t k.a0 k.a1 k.fee=0
 nag:k.agrees=false->k.fee=0
theorem Y0.fee_le {k:ClS} (h:Y0 k):(0<=k.last/\k.last<=k.a0)/\(0<=k.fee/\k.fee<=k.a0):=by
 obtain ⟨⟨h1,h2,h3,h4,h5,h6,h7,h8⟩,ho,hn,ha,hg⟩:=h
 have q1:0<=k.last/\k.last<=k.a0:=by
  cases e:k.offers
  ·have:=hn e;omega
  ·have:=ho e;omega
 refine ⟨q1, ?_⟩
 cases e:k.agrees
 ·have:=hg e;omega
 ·have:=ha e;omega
theorem Y0.num {k:ClS} (h:Y0 k):Zff 4611686018427387904 k:=by
 have hf:=h.fee_le
 obtain ⟨h1,h2,h3,h4,h5,h6,h7,h8⟩:=h.made
 have hd:=Wo h1
 refine ⟨?_, ?_, ?_, ?_, ?_, ?_, ?_, ?_, ?_, ?_, ?_, ?_⟩<;>omega
end Go.Tk
end
